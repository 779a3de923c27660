/- What the functions that the laws call come to: a contract each; no condition. -/
import Derived.Test.YtdeahjinpceiaaaFns
namespace Go.Proofs.Ytdeahjinpceiaaa
open Go Go.Proofs.Ytdeahjinpceiaaa.X Go.Proofs
set_option maxHeartbeats 4000000 in
set_option maxRecDepth 20000 in
theorem c_WorkerOk (cg : List Value) (g : Graph) (cx : List Value) (x : Worker) (w : World) (hg : Dat.R w 0 w.heap.size cg g) (hx : Dat.R w 0 w.heap.size cx x) : Ct Try.prog 9 [.agg cg.toArray, .agg cx.toArray] w (fun v _ => v = .bool (workerOk g x)) := by
  refine ct_of Try.func9 rfl Try.ntmps9 rfl ?_
  obtain ⟨o1, rfl, hd1⟩ := Graph.op hg
  obtain ⟨o2, o3, o4, o5, o6, o7, o8, o9, rfl, hd2, hd3, hd4, hd5, hd6, hd7, hd8, hd9⟩ := Worker.op hx
  refine S_sub [(0, .agg [o1, .int .i64 g.workers, .int .i64 g.cap].toArray), (1, .agg [o2, o3, o4, o5, o6, o7, o8, o9].toArray)] ⟨rfl, rfl, trivial⟩ ?_
  have E : Ext w w := Ext.refl w
  refine S_seq ?_
  refine S_reg [false, false, true] rfl rfl ?_
  refine J_box rfl rfl (fun b1 w1 e1 s1 h1 => ?_)
  have g_b1 : w.heap.size ≤ b1 := by have := E.size; omega
  have y_b1 := h1.lt
  replace E := E.trans e1
  have z1 := e1.size
  refine J_box rfl rfl (fun b2 w2 e2 s2 h2 => ?_)
  have g_b2 : w.heap.size ≤ b2 := by have := E.size; omega
  have y_b2 := h2.lt
  replace E := E.trans e2; replace h1 := h1.ext e2
  have z2 := e2.size
  refine J_st (R_assign rfl) rfl (J_done ?_)
  refine S_seq ?_
  refine S_seq ?_
  refine S_reg [true, true, true, false, true, true, true, true, true, false, true, true, true, true, true, true, false, true, true, true, true, true, false, true, true] rfl rfl ?_
  refine J_st (R_loadS st37 rfl h1.at rfl) rfl (J_st (R_fieldAddr0 fl43_0 rfl) rfl (J_st (R_load sc39 rfl (h2.one 0 rfl)) rfl ?_))
  refine J_call Try.call27 rfl (c_opsOk [o1, .int .i64 g.workers, .int .i64 g.cap] g o2 x.queue _ (Graph.mkR g (RdD.any (hd1.ext E))) (hd2.rd.ext E)) rfl (fun _ w3 e3 hv => ?_)
  subst hv
  replace E := E.trans e3; replace h1 := h1.ext e3; replace h2 := h2.ext e3
  have z3 := e3.size
  refine J_st (R_not rfl) rfl (J_st (R_move rfl) rfl ?_)
  refine J_cut 19 [(0, .agg [o1, .int .i64 g.workers, .int .i64 g.cap].toArray), (1, .agg [o2, o3, o4, o5, o6, o7, o8, o9].toArray), (2, .pointer (some ⟨b1, 0, none⟩)), (3, .pointer (some ⟨b2, 0, none⟩)), (4, .bool false), (35, .bool ((((!(x.queue.all (opOk g))) || (!(x.staged.all (opOk g)))) || (!(x.inputs.all (opOk g)))) || (!((adj x.cells).all cellLt))))] (fun w' => Ext w w' ∧ w3.heap.size ≤ w'.heap.size ∧ Blk w' b1 ([o1, .int .i64 g.workers, .int .i64 g.cap]) ∧ Blk w' b2 ([o2, o3, o4, o5, o6, o7, o8, o9])) ?_ ?_
  · refine J_if (gd := 16) rfl rfl (fun hg1 => ?_) (fun hg1 => ?_)
    · refine J_gdno rfl rfl rfl rfl (J_gdno rfl rfl rfl rfl (J_gdno rfl rfl rfl rfl ?_))
      refine J_ungno rfl rfl rfl rfl ?_
      refine J_gdno rfl rfl rfl rfl (J_st (R_pickT rfl rfl) rfl (J_st (R_move rfl) rfl (J_gdno rfl rfl rfl rfl (J_gdno rfl rfl rfl rfl (J_gdno rfl rfl rfl rfl ?_)))))
      refine J_ungno rfl rfl rfl rfl ?_
      refine J_gdno rfl rfl rfl rfl (J_st (R_pickT rfl rfl) rfl (J_st (R_move rfl) rfl (J_gdno rfl rfl rfl rfl (J_gdno rfl rfl rfl rfl ?_))))
      refine J_ungno rfl rfl rfl rfl ?_
      refine J_gdno rfl rfl rfl rfl (J_st (R_pickT rfl rfl) rfl (J_cutEnd ⟨rfl, rfl, rfl, rfl, rfl, congrArg (fun b => some (Value.bool b)) (show true = ((((!(x.queue.all (opOk g))) || (!(x.staged.all (opOk g)))) || (!(x.inputs.all (opOk g)))) || (!((adj x.cells).all cellLt))) by first | (rw [hg1] <;> rfl) | (simp [hg1]; done) | (simp only [nat_nlt] <;> simp)), trivial⟩ ⟨E, (by omega), h1, h2⟩))
    · refine J_gd rfl rfl (R_loadS st37 rfl h1.at rfl) rfl (J_gd rfl rfl (R_fieldAddr0 fl43_1 rfl) rfl (J_gd rfl rfl (R_load sc39 rfl (h2.one 1 rfl)) rfl ?_))
      refine J_ung rfl rfl ?_
      refine J_call Try.call27 rfl (c_opsOk [o1, .int .i64 g.workers, .int .i64 g.cap] g o3 x.staged _ (Graph.mkR g (RdD.any (hd1.ext E))) (hd3.rd.ext E)) rfl (fun _ w5 e4 hv => ?_)
      subst hv
      replace E := E.trans e4; replace h1 := h1.ext e4; replace h2 := h2.ext e4
      have z4 := e4.size
      refine J_gd rfl rfl (R_not rfl) rfl (J_st (R_pickF rfl rfl) rfl (J_st (R_move rfl) rfl ?_))
      refine J_if (gd := 23) rfl rfl (fun hg2 => ?_) (fun hg2 => ?_)
      · refine J_gdno rfl rfl rfl rfl (J_gdno rfl rfl rfl rfl (J_gdno rfl rfl rfl rfl ?_))
        refine J_ungno rfl rfl rfl rfl ?_
        refine J_gdno rfl rfl rfl rfl (J_st (R_pickT rfl rfl) rfl (J_st (R_move rfl) rfl (J_gdno rfl rfl rfl rfl (J_gdno rfl rfl rfl rfl ?_))))
        refine J_ungno rfl rfl rfl rfl ?_
        refine J_gdno rfl rfl rfl rfl (J_st (R_pickT rfl rfl) rfl (J_cutEnd ⟨rfl, rfl, rfl, rfl, rfl, congrArg (fun b => some (Value.bool b)) (show true = ((((!(x.queue.all (opOk g))) || (!(x.staged.all (opOk g)))) || (!(x.inputs.all (opOk g)))) || (!((adj x.cells).all cellLt))) by first | (rw [hg1, hg2] <;> rfl) | (simp [hg1, hg2]; done) | (simp only [nat_nlt] <;> simp)), trivial⟩ ⟨E, (by omega), h1, h2⟩))
      · refine J_gd rfl rfl (R_loadS st37 rfl h1.at rfl) rfl (J_gd rfl rfl (R_fieldAddr0 fl43_2 rfl) rfl (J_gd rfl rfl (R_load sc39 rfl (h2.one 2 rfl)) rfl ?_))
        refine J_ung rfl rfl ?_
        refine J_call Try.call27 rfl (c_opsOk [o1, .int .i64 g.workers, .int .i64 g.cap] g o4 x.inputs _ (Graph.mkR g (RdD.any (hd1.ext E))) (hd4.rd.ext E)) rfl (fun _ w6 e5 hv => ?_)
        subst hv
        replace E := E.trans e5; replace h1 := h1.ext e5; replace h2 := h2.ext e5
        have z5 := e5.size
        refine J_gd rfl rfl (R_not rfl) rfl (J_st (R_pickF rfl rfl) rfl (J_st (R_move rfl) rfl ?_))
        refine J_if (gd := 30) rfl rfl (fun hg3 => ?_) (fun hg3 => ?_)
        · refine J_gdno rfl rfl rfl rfl (J_gdno rfl rfl rfl rfl ?_)
          refine J_ungno rfl rfl rfl rfl ?_
          refine J_gdno rfl rfl rfl rfl (J_st (R_pickT rfl rfl) rfl (J_cutEnd ⟨rfl, rfl, rfl, rfl, rfl, congrArg (fun b => some (Value.bool b)) (show true = ((((!(x.queue.all (opOk g))) || (!(x.staged.all (opOk g)))) || (!(x.inputs.all (opOk g)))) || (!((adj x.cells).all cellLt))) by first | (rw [hg1, hg2, hg3] <;> rfl) | (simp [hg1, hg2, hg3]; done) | (simp only [nat_nlt] <;> simp)), trivial⟩ ⟨E, (by omega), h1, h2⟩))
        · refine J_gd rfl rfl (R_fieldAddr0 fl43_3 rfl) rfl (J_gd rfl rfl (R_load sc40 rfl (h2.one 3 rfl)) rfl ?_)
          refine J_ung rfl rfl ?_
          refine J_call Try.call28 rfl (c_CellsOk o5 x.cells _ (hd5.rd.ext E)) rfl (fun _ w7 e6 hv => ?_)
          subst hv
          replace E := E.trans e6; replace h1 := h1.ext e6; replace h2 := h2.ext e6
          have z6 := e6.size
          refine J_gd rfl rfl (R_not rfl) rfl (J_st (R_pickF rfl rfl) rfl (J_cutEnd ⟨rfl, rfl, rfl, rfl, rfl, congrArg (fun b => some (Value.bool b)) (show (!((adj x.cells).all cellLt)) = ((((!(x.queue.all (opOk g))) || (!(x.staged.all (opOk g)))) || (!(x.inputs.all (opOk g)))) || (!((adj x.cells).all cellLt))) by first | (rw [hg1, hg2, hg3] <;> rfl) | (simp [hg1, hg2, hg3]; done) | (simp only [nat_nlt] <;> simp)), trivial⟩ ⟨E, (by omega), h1, h2⟩))
  clear E h1 h2
  rintro w4 ⟨E, z7, h1, h2⟩
  refine J_done ?_
  refine S_cond rfl (fun hc1 => ?_) (fun hc1 => ?_)
  · refine S_seq ?_
    refine S_reg [true] rfl rfl ?_
    refine J_st (R_assign rfl) rfl (J_done ?_)
    refine S_ret (E_done1 rfl rfl E ?_)
    exact bf fun h => by simp only [workerOk, Bool.and_eq_true] at h; obtain ⟨⟨⟨⟨⟨⟨⟨⟨⟨q1, q2⟩, q3⟩, q4⟩, q5⟩, q6⟩, q7⟩, q8⟩, q9⟩, q10⟩ := h; simp only [q1, q2, q3, q4] at hc1; simp at hc1
  · refine S_skip ?_
    refine S_seq ?_
    refine S_seq ?_
    refine S_reg [true, true, true, true] rfl rfl ?_
    refine J_st (R_fieldAddr0 fl43_2 rfl) rfl (J_st (R_load sc39 rfl (h2.one 2 rfl)) rfl (J_st (R_len Try.underlying39 rfl (hd4.ext E).len) rfl (J_st (R_move rfl) rfl (J_done ?_))))
    refine S_block ?_
    refine S_loop (fun (k : Nat) => [(3, .pointer (some ⟨b2, 0, none⟩)), (4, .bool false), (37, o4), (38, .int .i64 ((x.inputs.length : Nat) : Int)), (39, .int .i64 ((k : Nat) : Int))]) (fun (k : Nat) w' => Ext w w' ∧ w4.heap.size ≤ w'.heap.size ∧ Blk w' b1 ([o1, .int .i64 g.workers, .int .i64 g.cap]) ∧ Blk w' b2 ([o2, o3, o4, o5, o6, o7, o8, o9]) ∧ k ≤ x.inputs.length ∧ allR k (fun j => inAt x.inputs j) = true) (fun (k : Nat) => x.inputs.length - k) 0 ⟨rfl, rfl, rfl, rfl, rfl, trivial⟩ ⟨E, Nat.le_refl _, h1, h2, Nat.zero_le _, rfl⟩ ?_
    clear E h1 h2
    rintro k w8 ⟨E, z8, h1, h2, hk, hI1⟩
    have hmi := hd4.1.1
    unfold maxLen at hmi
    refine S_seq ?_
    refine S_reg [true] rfl rfl ?_
    refine J_st (R_lss rfl rfl) rfl (J_done ?_)
    refine S_seq ?_
    refine S_cond rfl (fun hc2 => ?_) (fun hc2 => ?_)
    · have hc2n : k < x.inputs.length := by first | (have h := of_decide_eq_true hc2; omega) | (have h := hc2; simp at h; omega)
      refine S_skip ?_
      refine S_seq ?_
      refine S_block ?_
      refine S_seq ?_
      refine S_reg [true, true, true, false, true, false] rfl rfl ?_
      refine J_st (R_move rfl) rfl ?_
      have hi1 : k < x.inputs.length := (by first | assumption | omega)
      refine J_st (R_index (i := k) sl39 rfl rfl (hd4.rd.ext E) hi1) rfl (J_st (R_loadS st59 rfl ((hd4.rd.ext E).get hi1) rfl) rfl ?_)
      refine J_alloc st59 rfl (fun b3 w9 e7 s3 h3 => ?_)
      have g_b3 : w.heap.size ≤ b3 := by have := E.size; omega
      have y_b3 := h3.lt
      replace E := E.trans e7; replace h1 := h1.ext e7; replace h2 := h2.ext e7
      have z9 := e7.size
      refine J_st (R_assign rfl) rfl ?_
      refine J_storeS' (cs' := [.int .i64 ((x.inputs[k]'hi1).op), .int .i64 (((x.inputs[k]'hi1).stamp).epoch), .int .i64 (((x.inputs[k]'hi1).stamp).turn), .int .i64 ((x.inputs[k]'hi1).key), .int .i64 ((x.inputs[k]'hi1).val)]) st59 rfl rfl rfl rfl h3 (Nat.le_of_ble_eq_true rfl) rfl (fun w10 m1 h3' => ?_)
      replace h3 := h3'
      replace E := E.step m1 (fun g hg => by cases hg; omega); replace h1 := h1.mod m1 (fun g hg => by cases hg; omega); replace h2 := h2.mod m1 (fun g hg => by cases hg; omega)
      have z10 := m1.size
      refine J_done ?_
      refine S_seq ?_
      refine S_regD mixed [(0, true), (1, true), (2, true), (3, true), (4, true), (5, true), (6, true), (7, true), (8, true), (9, true), (10, true), (11, true), (12, true), (13, true), (14, true), (15, true), (16, true), (17, true), (18, true), (19, true), (20, true), (21, true), (22, true), (23, true), (24, true), (25, true), (26, true)] (by decide +kernel) rfl (fun w11 e8 => ?_)
      replace E := E.trans e8; replace h1 := h1.ext e8; replace h2 := h2.ext e8; replace h3 := h3.ext e8
      have z11 := e8.size
      refine J_st (R_fieldAddr0 fl59_0 rfl) rfl (J_st (R_load sc3 rfl (h3.one 0 rfl)) rfl (J_st (R_neq rfl rfl) rfl (J_st (R_move rfl) rfl ?_)))
      refine J_cut 23 [(3, .pointer (some ⟨b2, 0, none⟩)), (4, .bool false), (5, .int .i64 ((k : Nat) : Int)), (6, .pointer (some ⟨b3, 0, none⟩)), (37, o4), (38, .int .i64 ((x.inputs.length : Nat) : Int)), (39, .int .i64 ((k : Nat) : Int)), (40, .bool (decide (((k : Nat) : Int) < ((x.inputs.length : Nat) : Int)))), (41, .int .i64 ((k : Nat) : Int)), (42, .pointer (some ⟨sblk o4, soff o4 + k * 5, none⟩)), (43, .agg (Enc.enc (x.inputs[k]'hi1)).toArray), (70, .bool (((((x.inputs[k]'hi1).op) != 0) || ((((x.inputs[k]'hi1).stamp).turn) != 0)) || ((decide (0 < ((k : Nat) : Int))) && (decide ((((x.inputs[k]'hi1).stamp).epoch) < (((List.getD x.inputs (k - 1) default).stamp).epoch))))))] (fun w' => w11 = w') ?_ ?_
      · refine J_if (gd := 47) rfl rfl (fun hg4 => ?_) (fun hg4 => ?_)
        · refine J_gdno rfl rfl rfl rfl (J_gdno rfl rfl rfl rfl (J_gdno rfl rfl rfl rfl (J_gdno rfl rfl rfl rfl (J_st (R_pickT rfl rfl) rfl (J_st (R_move rfl) rfl (J_gdno rfl rfl rfl rfl (J_gdno rfl rfl rfl rfl (J_gdno rfl rfl rfl rfl (J_gdx rfl rfl rfl (J_gdx rfl rfl rfl (J_gdx rfl rfl rfl (J_gdx rfl rfl rfl (J_gdx rfl rfl rfl (J_gdx rfl rfl rfl (J_gdx rfl rfl rfl (J_gdx rfl rfl rfl (J_gdx rfl rfl rfl (J_gdx rfl rfl rfl (J_gdx rfl rfl rfl (J_gdx rfl rfl rfl (J_gdno rfl rfl rfl rfl (J_st (R_pickT rfl rfl) rfl (J_cutEnd ⟨rfl, rfl, rfl, rfl, rfl, rfl, rfl, rfl, rfl, rfl, rfl, congrArg (fun b => some (Value.bool b)) (show true = (((((x.inputs[k]'hi1).op) != 0) || ((((x.inputs[k]'hi1).stamp).turn) != 0)) || ((decide (0 < ((k : Nat) : Int))) && (decide ((((x.inputs[k]'hi1).stamp).epoch) < (((List.getD x.inputs (k - 1) default).stamp).epoch))))) by first | (rw [hg4] <;> rfl) | (simp [hg4]; done) | (simp only [nat_nlt] <;> simp)), trivial⟩ rfl)))))))))))))))))))))))
        · refine J_gd rfl rfl (R_fieldAddr0 fl59_1 rfl) rfl (J_gd rfl rfl (R_fieldAddr fl57_1 rfl) rfl (J_gd rfl rfl (R_load sc3 rfl (h3.one 2 rfl)) rfl (J_gd rfl rfl (R_neq rfl rfl) rfl (J_st (R_pickF rfl rfl) rfl (J_st (R_move rfl) rfl ?_)))))
          refine J_if (gd := 53) rfl rfl (fun hg5 => ?_) (fun hg5 => ?_)
          · refine J_gdno rfl rfl rfl rfl (J_gdno rfl rfl rfl rfl (J_gdno rfl rfl rfl rfl (J_gdx rfl rfl rfl (J_gdx rfl rfl rfl (J_gdx rfl rfl rfl (J_gdx rfl rfl rfl (J_gdx rfl rfl rfl (J_gdx rfl rfl rfl (J_gdx rfl rfl rfl (J_gdx rfl rfl rfl (J_gdx rfl rfl rfl (J_gdx rfl rfl rfl (J_gdx rfl rfl rfl (J_gdx rfl rfl rfl (J_gdno rfl rfl rfl rfl (J_st (R_pickT rfl rfl) rfl (J_cutEnd ⟨rfl, rfl, rfl, rfl, rfl, rfl, rfl, rfl, rfl, rfl, rfl, congrArg (fun b => some (Value.bool b)) (show true = (((((x.inputs[k]'hi1).op) != 0) || ((((x.inputs[k]'hi1).stamp).turn) != 0)) || ((decide (0 < ((k : Nat) : Int))) && (decide ((((x.inputs[k]'hi1).stamp).epoch) < (((List.getD x.inputs (k - 1) default).stamp).epoch))))) by first | (rw [hg4, hg5] <;> rfl) | (simp [hg4, hg5]; done) | (simp only [nat_nlt] <;> simp)), trivial⟩ rfl)))))))))))))))))
          · refine J_gd rfl rfl (R_move rfl) rfl (J_gd rfl rfl (R_gtr rfl rfl) rfl (J_gd rfl rfl (R_move rfl) rfl ?_))
            refine J_if (gd := 56) rfl rfl (fun hg6 => ?_) (fun hg6 => ?_)
            · have hg6n : k > 0 := by first | (have h := of_decide_eq_true hg6; omega) | (have h := hg6; simp at h; omega)
              refine J_gd rfl rfl (R_fieldAddr0 fl43_2 rfl) rfl (J_gd rfl rfl (R_load sc39 rfl (h2.one 2 rfl)) rfl (J_gd rfl rfl (R_move rfl) rfl (J_gd rfl rfl (R_sub rfl rfl (sub_nat (by omega) (by unfold maxLen; omega))) rfl (J_gd rfl rfl (R_index (i := (k - 1)) sl39 rfl rfl (hd4.rd.ext E) (by first | assumption | omega)) rfl (J_gd rfl rfl (R_fieldAddr fl59_1 rfl) rfl (J_gd rfl rfl (R_fieldAddr fl57_0 rfl) rfl (J_gd rfl rfl (R_load sc3 rfl ((RdS.getD (hd4.rd.ext E) (i := (k - 1)) (by first | assumption | omega)).one 1 rfl)) rfl (J_gd rfl rfl (R_fieldAddr0 fl59_1 rfl) rfl (J_gd rfl rfl (R_fieldAddr fl57_0 rfl) rfl (J_gd rfl rfl (R_load sc3 rfl (h3.one 1 rfl)) rfl (J_gd rfl rfl (R_gtr rfl rfl) rfl (J_gd rfl rfl (R_pickT rfl rfl) rfl (J_st (R_pickF rfl rfl) rfl (J_cutEnd ⟨rfl, rfl, rfl, rfl, rfl, rfl, rfl, rfl, rfl, rfl, rfl, congrArg (fun b => some (Value.bool b)) (show (decide ((((x.inputs[k]'hi1).stamp).epoch) < (((List.getD x.inputs (k - 1) default).stamp).epoch))) = (((((x.inputs[k]'hi1).op) != 0) || ((((x.inputs[k]'hi1).stamp).turn) != 0)) || ((decide (0 < ((k : Nat) : Int))) && (decide ((((x.inputs[k]'hi1).stamp).epoch) < (((List.getD x.inputs (k - 1) default).stamp).epoch))))) by first | (rw [hg4, hg5, hg6] <;> rfl) | (simp [hg4, hg5, hg6]; done) | (simp only [nat_nlt] <;> simp)), trivial⟩ rfl))))))))))))))
            · have hg6n : ¬ k > 0 := by first | (have h := of_decide_eq_false hg6; omega) | (have h := hg6; simp at h; omega)
              refine J_gdno rfl rfl rfl rfl (J_gdno rfl rfl rfl rfl (J_gdno rfl rfl rfl rfl (J_gdno rfl rfl rfl rfl (J_gdno rfl rfl rfl rfl (J_gdno rfl rfl rfl rfl (J_gdno rfl rfl rfl rfl (J_gdno rfl rfl rfl rfl (J_gdno rfl rfl rfl rfl (J_gdno rfl rfl rfl rfl (J_gdno rfl rfl rfl rfl (J_gdno rfl rfl rfl rfl (J_gd rfl rfl (R_pickF rfl rfl) rfl (J_st (R_pickF rfl rfl) rfl (J_cutEnd ⟨rfl, rfl, rfl, rfl, rfl, rfl, rfl, rfl, rfl, rfl, rfl, congrArg (fun b => some (Value.bool b)) (show false = (((((x.inputs[k]'hi1).op) != 0) || ((((x.inputs[k]'hi1).stamp).turn) != 0)) || ((decide (0 < ((k : Nat) : Int))) && (decide ((((x.inputs[k]'hi1).stamp).epoch) < (((List.getD x.inputs (k - 1) default).stamp).epoch))))) by first | (rw [hg4, hg5, hg6] <;> rfl) | (simp [hg4, hg5, hg6]; done) | (simp only [nat_nlt] <;> simp)), trivial⟩ rfl))))))))))))))
      rintro _ rfl
      refine J_done ?_
      refine S_cond rfl (fun hc3 => ?_) (fun hc3 => ?_)
      · refine S_seq ?_
        refine S_reg [true] rfl rfl ?_
        refine J_st (R_assign rfl) rfl (J_done ?_)
        refine S_ret (E_inB_ret (E_lp_ret (E_inB_ret (E_done1 rfl rfl E ?_))))
        exact bf fun h => by simp only [workerOk, Bool.and_eq_true] at h; obtain ⟨⟨⟨⟨⟨⟨⟨⟨⟨q1, q2⟩, q3⟩, q4⟩, q5⟩, q6⟩, q7⟩, q8⟩, q9⟩, q10⟩ := h; have := allR_get q5 (by assumption); rw [inAt_at (by assumption), hc3] at this; cases this
      · refine S_skip ?_
        refine S_nil (E_inB ?_)
        refine S_reg [true, true] rfl rfl ?_
        refine J_st (R_add rfl rfl (add_one hc2n (hd4.ext E).1.1)) rfl (J_st (R_move rfl) rfl (J_done ?_))
        refine S_nil (E_again (k + 1) (by omega) ⟨rfl, rfl, rfl, rfl, rfl, trivial⟩ ⟨E, (by omega), h1, h2, (by omega), allR_s hI1 ((inAt_at (by assumption)).trans (congrArg not hc3))⟩)
    · have hc2n : ¬ k < x.inputs.length := by first | (have h := of_decide_eq_false hc2; omega) | (have h := hc2; simp at h; omega)
      refine S_exit (E_lp_exit (E_inB_exit ?_))
      refine S_seq ?_
      refine S_seq ?_
      refine S_reg [true, true, true, true, true, true, true, true, true, true, true, true, true, true, true, true] rfl rfl ?_
      refine J_st (R_fieldAddr0 fl43_4 rfl) rfl (J_st (R_load sc27 rfl (h2.one 4 rfl)) rfl (J_st (R_len Try.underlying27 rfl (hd6.ext E).len) rfl (J_st (R_neq rfl rfl) rfl (J_st (R_move rfl) rfl ?_))))
      refine J_cut 11 [(3, .pointer (some ⟨b2, 0, none⟩)), (4, .bool false), (37, o4), (38, .int .i64 ((x.inputs.length : Nat) : Int)), (39, .int .i64 ((k : Nat) : Int)), (40, .bool (decide (((k : Nat) : Int) < ((x.inputs.length : Nat) : Int)))), (87, .bool (((((x.sums.length : Nat) : Int) != 4) || (((x.black.length : Nat) : Int) != 4)) || (((x.caps.length : Nat) : Int) != 4)))] (fun w' => w8 = w') ?_ ?_
      · refine J_if (gd := 76) rfl rfl (fun hg7 => ?_) (fun hg7 => ?_)
        · have hg7n : ¬ x.sums.length = 4 := by first | (have h := of_decide_eq_true hg7; omega) | (have h := hg7; simp at h; omega)
          refine J_gdno rfl rfl rfl rfl (J_gdno rfl rfl rfl rfl (J_gdno rfl rfl rfl rfl (J_gdno rfl rfl rfl rfl (J_st (R_pickT rfl rfl) rfl (J_st (R_move rfl) rfl (J_gdno rfl rfl rfl rfl (J_gdno rfl rfl rfl rfl (J_gdno rfl rfl rfl rfl (J_gdno rfl rfl rfl rfl (J_st (R_pickT rfl rfl) rfl (J_cutEnd ⟨rfl, rfl, rfl, rfl, rfl, rfl, congrArg (fun b => some (Value.bool b)) (show true = (((((x.sums.length : Nat) : Int) != 4) || (((x.black.length : Nat) : Int) != 4)) || (((x.caps.length : Nat) : Int) != 4)) by first | (rw [hg7] <;> rfl) | (simp [hg7]; done) | (simp only [nat_nlt] <;> simp)), trivial⟩ rfl)))))))))))
        · have hg7n : x.sums.length = 4 := by first | (have h := of_decide_eq_false hg7; omega) | (have h := hg7; simp at h; omega)
          refine J_gd rfl rfl (R_fieldAddr0 fl43_5 rfl) rfl (J_gd rfl rfl (R_load sc28 rfl (h2.one 5 rfl)) rfl (J_gd rfl rfl (R_len Try.underlying28 rfl (hd7.ext E).len) rfl (J_gd rfl rfl (R_neq rfl rfl) rfl (J_st (R_pickF rfl rfl) rfl (J_st (R_move rfl) rfl ?_)))))
          refine J_if (gd := 82) rfl rfl (fun hg8 => ?_) (fun hg8 => ?_)
          · have hg8n : ¬ x.black.length = 4 := by first | (have h := of_decide_eq_true hg8; omega) | (have h := hg8; simp at h; omega)
            refine J_gdno rfl rfl rfl rfl (J_gdno rfl rfl rfl rfl (J_gdno rfl rfl rfl rfl (J_gdno rfl rfl rfl rfl (J_st (R_pickT rfl rfl) rfl (J_cutEnd ⟨rfl, rfl, rfl, rfl, rfl, rfl, congrArg (fun b => some (Value.bool b)) (show true = (((((x.sums.length : Nat) : Int) != 4) || (((x.black.length : Nat) : Int) != 4)) || (((x.caps.length : Nat) : Int) != 4)) by first | (rw [hg7, hg8] <;> rfl) | (simp [hg7, hg8]; done) | (simp only [nat_nlt] <;> simp)), trivial⟩ rfl)))))
          · have hg8n : x.black.length = 4 := by first | (have h := of_decide_eq_false hg8; omega) | (have h := hg8; simp at h; omega)
            refine J_gd rfl rfl (R_fieldAddr0 fl43_6 rfl) rfl (J_gd rfl rfl (R_load sc28 rfl (h2.one 6 rfl)) rfl (J_gd rfl rfl (R_len Try.underlying28 rfl (hd8.ext E).len) rfl (J_gd rfl rfl (R_neq rfl rfl) rfl (J_st (R_pickF rfl rfl) rfl (J_cutEnd ⟨rfl, rfl, rfl, rfl, rfl, rfl, congrArg (fun b => some (Value.bool b)) (show (((x.caps.length : Nat) : Int) != 4) = (((((x.sums.length : Nat) : Int) != 4) || (((x.black.length : Nat) : Int) != 4)) || (((x.caps.length : Nat) : Int) != 4)) by first | (rw [hg7, hg8] <;> rfl) | (simp [hg7, hg8]; done) | (simp only [nat_nlt] <;> simp)), trivial⟩ rfl)))))
      rintro _ rfl
      refine J_done ?_
      refine S_cond rfl (fun hc4 => ?_) (fun hc4 => ?_)
      · refine S_seq ?_
        refine S_reg [true] rfl rfl ?_
        refine J_st (R_assign rfl) rfl (J_done ?_)
        refine S_ret (E_done1 rfl rfl E ?_)
        exact bf fun h => by simp only [workerOk, Bool.and_eq_true] at h; obtain ⟨⟨⟨⟨⟨⟨⟨⟨⟨q1, q2⟩, q3⟩, q4⟩, q5⟩, q6⟩, q7⟩, q8⟩, q9⟩, q10⟩ := h; simp only [beq_iff_eq] at q6 q7 q8; simp [q6, q7, q8] at hc4
      · refine S_skip ?_
        refine S_seq ?_
        refine S_seq ?_
        refine S_reg [true, true, true, true] rfl rfl ?_
        refine J_st (R_fieldAddr0 fl43_4 rfl) rfl (J_st (R_load sc27 rfl (h2.one 4 rfl)) rfl (J_st (R_len Try.underlying27 rfl (hd6.ext E).len) rfl (J_st (R_move rfl) rfl (J_done ?_))))
        refine S_block ?_
        refine S_loop (fun (k : Nat) => [(3, .pointer (some ⟨b2, 0, none⟩)), (4, .bool false), (89, o6), (90, .int .i64 ((x.sums.length : Nat) : Int)), (91, .int .i64 ((k : Nat) : Int))]) (fun (k : Nat) w' => Ext w w' ∧ w8.heap.size ≤ w'.heap.size ∧ Blk w' b1 ([o1, .int .i64 g.workers, .int .i64 g.cap]) ∧ Blk w' b2 ([o2, o3, o4, o5, o6, o7, o8, o9]) ∧ k ≤ x.sums.length ∧ (x.sums.take k).all (win · (-1000000) 1000000) = true) (fun (k : Nat) => x.sums.length - k) 0 ⟨rfl, rfl, rfl, rfl, rfl, trivial⟩ ⟨E, Nat.le_refl _, h1, h2, Nat.zero_le _, rfl⟩ ?_
        clear E h1 h2
        rintro k w14 ⟨E, z12, h1, h2, hk, hI2⟩
        refine S_seq ?_
        refine S_reg [true] rfl rfl ?_
        refine J_st (R_lss rfl rfl) rfl (J_done ?_)
        refine S_seq ?_
        refine S_cond rfl (fun hc5 => ?_) (fun hc5 => ?_)
        · have hc5n : k < x.sums.length := by first | (have h := of_decide_eq_true hc5; omega) | (have h := hc5; simp at h; omega)
          refine S_skip ?_
          refine S_seq ?_
          refine S_block ?_
          refine S_seq ?_
          refine S_reg [true, true, true] rfl rfl ?_
          have hi2 : k < x.sums.length := (by first | assumption | omega)
          refine J_st (R_index (i := k) sl27 rfl rfl (hd6.rd.ext E) hi2) rfl (J_st (R_load sc3 rfl (((hd6.rd.ext E).get hi2).one 0 rfl)) rfl (J_st (R_assign rfl) rfl (J_done ?_)))
          refine S_seq ?_
          refine S_reg [true, false, true] rfl rfl ?_
          refine J_st (R_move rfl) rfl ?_
          refine J_call Try.call29 rfl (c_within (x.sums[k]'hi2) (-1000000) 1000000 _ ) rfl (fun _ w15 e9 hv => ?_)
          subst hv
          replace E := E.trans e9; replace h1 := h1.ext e9; replace h2 := h2.ext e9
          have z13 := e9.size
          refine J_st (R_not rfl) rfl (J_done ?_)
          refine S_cond rfl (fun hc6 => ?_) (fun hc6 => ?_)
          · refine S_seq ?_
            refine S_reg [true] rfl rfl ?_
            refine J_st (R_assign rfl) rfl (J_done ?_)
            refine S_ret (E_inB_ret (E_lp_ret (E_inB_ret (E_done1 rfl rfl E ?_))))
            exact bf fun h => by simp only [workerOk, Bool.and_eq_true] at h; obtain ⟨⟨⟨⟨⟨⟨⟨⟨⟨q1, q2⟩, q3⟩, q4⟩, q5⟩, q6⟩, q7⟩, q8⟩, q9⟩, q10⟩ := h; have := List.all_eq_true.1 q9 _ (List.getElem_mem (by assumption)); simp only [this] at hc6; cases hc6
          · refine S_skip ?_
            refine S_nil (E_inB ?_)
            refine S_reg [true, true] rfl rfl ?_
            refine J_st (R_add rfl rfl (add_one hc5n (hd6.ext E).1.1)) rfl (J_st (R_move rfl) rfl (J_done ?_))
            refine S_nil (E_again (k + 1) (by omega) ⟨rfl, rfl, rfl, rfl, rfl, trivial⟩ ⟨E, (by omega), h1, h2, (by omega), all_step hI2 (by assumption) (by simpa using hc6)⟩)
        · have hc5n : ¬ k < x.sums.length := by first | (have h := of_decide_eq_false hc5; omega) | (have h := hc5; simp at h; omega)
          refine S_exit (E_lp_exit (E_inB_exit ?_))
          refine S_seq ?_
          refine S_seq ?_
          refine S_reg [true, true, true, true] rfl rfl ?_
          refine J_st (R_fieldAddr0 fl43_7 rfl) rfl (J_st (R_load sc41 rfl (h2.one 7 rfl)) rfl (J_st (R_len Try.underlying41 rfl (hd9.ext E).len) rfl (J_st (R_move rfl) rfl (J_done ?_))))
          refine S_block ?_
          refine S_loop (fun (k : Nat) => [(3, .pointer (some ⟨b2, 0, none⟩)), (4, .bool false), (100, o9), (101, .int .i64 ((x.dones.length : Nat) : Int)), (102, .int .i64 ((k : Nat) : Int))]) (fun (k : Nat) w' => Ext w w' ∧ w14.heap.size ≤ w'.heap.size ∧ Blk w' b1 ([o1, .int .i64 g.workers, .int .i64 g.cap]) ∧ Blk w' b2 ([o2, o3, o4, o5, o6, o7, o8, o9]) ∧ k ≤ x.dones.length ∧ allR k (fun j => doneAtOk x.dones j) = true) (fun (k : Nat) => x.dones.length - k) 0 ⟨rfl, rfl, rfl, rfl, rfl, trivial⟩ ⟨E, Nat.le_refl _, h1, h2, Nat.zero_le _, rfl⟩ ?_
          clear E h1 h2
          rintro k w16 ⟨E, z14, h1, h2, hk, hI3⟩
          refine S_seq ?_
          refine S_reg [true] rfl rfl ?_
          refine J_st (R_lss rfl rfl) rfl (J_done ?_)
          refine S_seq ?_
          refine S_cond rfl (fun hc7 => ?_) (fun hc7 => ?_)
          · have hc7n : k < x.dones.length := by first | (have h := of_decide_eq_true hc7; omega) | (have h := hc7; simp at h; omega)
            refine S_skip ?_
            refine S_seq ?_
            refine S_block ?_
            refine S_seq ?_
            refine S_reg [true, true, true, false, true, false] rfl rfl ?_
            refine J_st (R_move rfl) rfl ?_
            have hi3 : k < x.dones.length := (by first | assumption | omega)
            refine J_st (R_index (i := k) sl41 rfl rfl (hd9.rd.ext E) hi3) rfl (J_st (R_loadS st62 rfl ((hd9.rd.ext E).get hi3) rfl) rfl ?_)
            refine J_alloc st62 rfl (fun b4 w17 e10 s4 h4 => ?_)
            have g_b4 : w.heap.size ≤ b4 := by have := E.size; omega
            have y_b4 := h4.lt
            replace E := E.trans e10; replace h1 := h1.ext e10; replace h2 := h2.ext e10
            have z15 := e10.size
            refine J_st (R_assign rfl) rfl ?_
            refine J_storeS' (cs' := [.int .i64 ((x.dones[k]'hi3).epoch), .bool ((x.dones[k]'hi3).capped)]) st62 rfl rfl rfl rfl h4 (Nat.le_of_ble_eq_true rfl) rfl (fun w18 m2 h4' => ?_)
            replace h4 := h4'
            replace E := E.step m2 (fun g hg => by cases hg; omega); replace h1 := h1.mod m2 (fun g hg => by cases hg; omega); replace h2 := h2.mod m2 (fun g hg => by cases hg; omega)
            have z16 := m2.size
            refine J_done ?_
            refine S_seq ?_
            refine S_regD mixed [(0, true), (1, true), (2, false), (3, true), (4, true), (5, true), (6, true), (7, true), (8, true), (9, true), (10, true), (11, false), (12, true)] (by decide +kernel) rfl (fun w19 e11 => ?_)
            replace E := E.trans e11; replace h1 := h1.ext e11; replace h2 := h2.ext e11; replace h4 := h4.ext e11
            have z17 := e11.size
            refine J_st (R_fieldAddr0 fl62_0 rfl) rfl (J_st (R_load sc3 rfl (h4.one 0 rfl)) rfl ?_)
            refine J_call Try.call29 rfl (c_within ((x.dones[k]'hi3).epoch) 0 3 _ ) rfl (fun _ w20 e12 hv => ?_)
            subst hv
            replace E := E.trans e12; replace h1 := h1.ext e12; replace h2 := h2.ext e12; replace h4 := h4.ext e12
            have z18 := e12.size
            refine J_st (R_not rfl) rfl (J_st (R_move rfl) rfl ?_)
            refine J_cut 8 [(3, .pointer (some ⟨b2, 0, none⟩)), (4, .bool false), (9, .int .i64 ((k : Nat) : Int)), (10, .pointer (some ⟨b4, 0, none⟩)), (100, o9), (101, .int .i64 ((x.dones.length : Nat) : Int)), (102, .int .i64 ((k : Nat) : Int)), (103, .bool (decide (((k : Nat) : Int) < ((x.dones.length : Nat) : Int)))), (104, .int .i64 ((k : Nat) : Int)), (105, .pointer (some ⟨sblk o9, soff o9 + k * 2, none⟩)), (106, .agg (Enc.enc (x.dones[k]'hi3)).toArray), (119, .bool ((!(win ((x.dones[k]'hi3).epoch) 0 3)) || ((List.take k x.dones).any (fun d => d.epoch == ((x.dones[k]'hi3).epoch)))))] (fun w' => Ext w w' ∧ w20.heap.size ≤ w'.heap.size ∧ Blk w' b1 ([o1, .int .i64 g.workers, .int .i64 g.cap]) ∧ Blk w' b2 ([o2, o3, o4, o5, o6, o7, o8, o9]) ∧ Blk w' b4 [.int .i64 ((x.dones[k]'hi3).epoch), .bool ((x.dones[k]'hi3).capped)]) ?_ ?_
            · refine J_if (gd := 111) rfl rfl (fun hg9 => ?_) (fun hg9 => ?_)
              · refine J_gdno rfl rfl rfl rfl (J_gdno rfl rfl rfl rfl (J_gdno rfl rfl rfl rfl (J_gdno rfl rfl rfl rfl (J_gdno rfl rfl rfl rfl (J_gdno rfl rfl rfl rfl ?_)))))
                refine J_ungno rfl rfl rfl rfl ?_
                refine J_st (R_pickT rfl rfl) rfl (J_cutEnd ⟨rfl, rfl, rfl, rfl, rfl, rfl, rfl, rfl, rfl, rfl, rfl, congrArg (fun b => some (Value.bool b)) (show true = ((!(win ((x.dones[k]'hi3).epoch) 0 3)) || ((List.take k x.dones).any (fun d => d.epoch == ((x.dones[k]'hi3).epoch)))) by first | (rw [hg9] <;> rfl) | (simp [hg9]; done) | (simp only [nat_nlt] <;> simp)), trivial⟩ ⟨E, (by omega), h1, h2, h4⟩)
              · refine J_gd rfl rfl (R_fieldAddr0 fl43_7 rfl) rfl (J_gd rfl rfl (R_load sc41 rfl (h2.one 7 rfl)) rfl (J_gd rfl rfl (R_move rfl) rfl ?_))
                have hk1 : k ≤ x.dones.length := by first | assumption | omega
                have hs1 : RdD (α := Done) w 0 w.heap.size (slTo o9 k) (List.take k x.dones) := RdB.slTo hd9 hk1
                refine J_gd rfl rfl (R_sliceTo sl41 rfl rfl (RdL.room (hd9.ext E).1) hk1) rfl (J_gd rfl rfl (R_fieldAddr0 fl62_0 rfl) rfl (J_gd rfl rfl (R_load sc3 rfl (h4.one 0 rfl)) rfl ?_))
                refine J_ung rfl rfl ?_
                refine J_call Try.call30 rfl (c_doneAt (slTo o9 k) (List.take k x.dones) ((x.dones[k]'hi3).epoch) _ (hs1.rd.ext E)) rfl (fun _ w22 e13 hv => ?_)
                subst hv
                replace E := E.trans e13; replace h1 := h1.ext e13; replace h2 := h2.ext e13; replace h4 := h4.ext e13
                have z19 := e13.size
                refine J_st (R_pickF rfl rfl) rfl (J_cutEnd ⟨rfl, rfl, rfl, rfl, rfl, rfl, rfl, rfl, rfl, rfl, rfl, congrArg (fun b => some (Value.bool b)) (show ((List.take k x.dones).any (fun d => d.epoch == ((x.dones[k]'hi3).epoch))) = ((!(win ((x.dones[k]'hi3).epoch) 0 3)) || ((List.take k x.dones).any (fun d => d.epoch == ((x.dones[k]'hi3).epoch)))) by first | (rw [hg9] <;> rfl) | (simp [hg9]; done) | (simp only [nat_nlt] <;> simp)), trivial⟩ ⟨E, (by omega), h1, h2, h4⟩)
            clear E h1 h2 h4
            rintro w21 ⟨E, z20, h1, h2, h4⟩
            refine J_done ?_
            refine S_cond rfl (fun hc8 => ?_) (fun hc8 => ?_)
            · refine S_seq ?_
              refine S_reg [true] rfl rfl ?_
              refine J_st (R_assign rfl) rfl (J_done ?_)
              refine S_ret (E_inB_ret (E_lp_ret (E_inB_ret (E_done1 rfl rfl E ?_))))
              exact bf fun h => by simp only [workerOk, Bool.and_eq_true] at h; obtain ⟨⟨⟨⟨⟨⟨⟨⟨⟨q1, q2⟩, q3⟩, q4⟩, q5⟩, q6⟩, q7⟩, q8⟩, q9⟩, q10⟩ := h; have := allR_get q10 (by assumption); rw [doneAtOk_at (by assumption), hc8] at this; cases this
            · refine S_skip ?_
              refine S_nil (E_inB ?_)
              refine S_reg [true, true] rfl rfl ?_
              refine J_st (R_add rfl rfl (add_one hc7n (hd9.ext E).1.1)) rfl (J_st (R_move rfl) rfl (J_done ?_))
              refine S_nil (E_again (k + 1) (by omega) ⟨rfl, rfl, rfl, rfl, rfl, trivial⟩ ⟨E, (by omega), h1, h2, (by omega), allR_s hI3 ((doneAtOk_at (by assumption)).trans (congrArg not hc8))⟩)
          · have hc7n : ¬ k < x.dones.length := by first | (have h := of_decide_eq_false hc7; omega) | (have h := hc7; simp at h; omega)
            refine S_exit (E_lp_exit (E_inB_exit ?_))
            refine S_seq ?_
            refine S_reg [true] rfl rfl ?_
            refine J_st (R_assign rfl) rfl (J_done ?_)
            refine S_ret (E_done1 rfl rfl E ?_)
            exact wk_yes1 hc1 (allR_le hI1 (by omega)) hc4 (all_end hI2 (by omega)) (allR_le hI3 (by omega))

set_option maxHeartbeats 4000000 in
set_option maxRecDepth 20000 in
theorem s_WorkerOk (cg : List Value) (g : Graph) (cx : List Value) (x : Worker) (w : World) (hg : Dat.R w 0 w.heap.size cg g) (hx : Dat.R w 0 w.heap.size cx x) : Ct Try.prog 6 [.agg cg.toArray, .agg cx.toArray] w (fun v _ => v = .bool (workerOk g x)) := by
  refine ct_of Try.func6 rfl Try.ntmps6 rfl ?_
  obtain ⟨o1, rfl, hd1⟩ := Graph.op hg
  obtain ⟨o2, o3, o4, o5, o6, o7, o8, o9, rfl, hd2, hd3, hd4, hd5, hd6, hd7, hd8, hd9⟩ := Worker.op hx
  refine S_sub [(0, .agg [o1, .int .i64 g.workers, .int .i64 g.cap].toArray), (1, .agg [o2, o3, o4, o5, o6, o7, o8, o9].toArray)] ⟨rfl, rfl, trivial⟩ ?_
  have E : Ext w w := Ext.refl w
  refine S_seq ?_
  refine S_reg [false, false, true] rfl rfl ?_
  refine J_box rfl rfl (fun b1 w1 e1 s1 h1 => ?_)
  have g_b1 : w.heap.size ≤ b1 := by have := E.size; omega
  have y_b1 := h1.lt
  replace E := E.trans e1
  have z1 := e1.size
  refine J_box rfl rfl (fun b2 w2 e2 s2 h2 => ?_)
  have g_b2 : w.heap.size ≤ b2 := by have := E.size; omega
  have y_b2 := h2.lt
  replace E := E.trans e2; replace h1 := h1.ext e2
  have z2 := e2.size
  refine J_st (R_assign rfl) rfl (J_done ?_)
  refine S_seq ?_
  refine S_reg [true] rfl rfl ?_
  refine J_st (R_assign rfl) rfl (J_done ?_)
  refine S_seq ?_
  refine S_seq ?_
  refine S_reg [true, true, true, false, true, true, true, true, true, false, true, true, true, true, true, true, false, true, true, true, true, true, false, true, true, true, true, true, true, true, true, true, true, true, true, true, true, true, true, true, true, true, true, true, true, true] rfl rfl ?_
  refine J_st (R_loadS st37 rfl h1.at rfl) rfl (J_st (R_fieldAddr0 fl43_0 rfl) rfl (J_st (R_load sc39 rfl (h2.one 0 rfl)) rfl ?_))
  refine J_call Try.call18 rfl (s_l12Records [o1, .int .i64 g.workers, .int .i64 g.cap] g o2 x.queue _ (Graph.mkR g (RdD.any (hd1.ext E))) (hd2.rd.ext E)) rfl (fun _ w3 e3 hv => ?_)
  subst hv
  replace E := E.trans e3; replace h1 := h1.ext e3; replace h2 := h2.ext e3
  have z3 := e3.size
  refine J_st (R_not rfl) rfl (J_st (R_move rfl) rfl ?_)
  refine J_cut 40 [(0, .agg [o1, .int .i64 g.workers, .int .i64 g.cap].toArray), (1, .agg [o2, o3, o4, o5, o6, o7, o8, o9].toArray), (2, .pointer (some ⟨b1, 0, none⟩)), (3, .pointer (some ⟨b2, 0, none⟩)), (4, .bool false), (5, .int .i64 4), (55, .bool (((((((!(x.queue.all (opOk g))) || (!(x.staged.all (opOk g)))) || (!(x.inputs.all (opOk g)))) || (!((adj x.cells).all cellLt))) || (((x.sums.length : Nat) : Int) != 4)) || (((x.black.length : Nat) : Int) != 4)) || (((x.caps.length : Nat) : Int) != 4)))] (fun w' => Ext w w' ∧ w3.heap.size ≤ w'.heap.size ∧ Blk w' b1 ([o1, .int .i64 g.workers, .int .i64 g.cap]) ∧ Blk w' b2 ([o2, o3, o4, o5, o6, o7, o8, o9])) ?_ ?_
  · refine J_if (gd := 15) rfl rfl (fun hg1 => ?_) (fun hg1 => ?_)
    · refine J_gdno rfl rfl rfl rfl (J_gdno rfl rfl rfl rfl (J_gdno rfl rfl rfl rfl ?_))
      refine J_ungno rfl rfl rfl rfl ?_
      refine J_gdno rfl rfl rfl rfl (J_st (R_pickT rfl rfl) rfl (J_st (R_move rfl) rfl (J_gdno rfl rfl rfl rfl (J_gdno rfl rfl rfl rfl (J_gdno rfl rfl rfl rfl ?_)))))
      refine J_ungno rfl rfl rfl rfl ?_
      refine J_gdno rfl rfl rfl rfl (J_st (R_pickT rfl rfl) rfl (J_st (R_move rfl) rfl (J_gdno rfl rfl rfl rfl (J_gdno rfl rfl rfl rfl ?_))))
      refine J_ungno rfl rfl rfl rfl ?_
      refine J_gdno rfl rfl rfl rfl (J_st (R_pickT rfl rfl) rfl (J_st (R_move rfl) rfl (J_gdno rfl rfl rfl rfl (J_gdno rfl rfl rfl rfl (J_gdno rfl rfl rfl rfl (J_gdno rfl rfl rfl rfl (J_gdno rfl rfl rfl rfl (J_st (R_pickT rfl rfl) rfl (J_st (R_move rfl) rfl (J_gdno rfl rfl rfl rfl (J_gdno rfl rfl rfl rfl (J_gdno rfl rfl rfl rfl (J_gdno rfl rfl rfl rfl (J_gdno rfl rfl rfl rfl (J_st (R_pickT rfl rfl) rfl (J_st (R_move rfl) rfl (J_gdno rfl rfl rfl rfl (J_gdno rfl rfl rfl rfl (J_gdno rfl rfl rfl rfl (J_gdno rfl rfl rfl rfl (J_gdno rfl rfl rfl rfl (J_st (R_pickT rfl rfl) rfl (J_cutEnd ⟨rfl, rfl, rfl, rfl, rfl, rfl, congrArg (fun b => some (Value.bool b)) (show true = (((((((!(x.queue.all (opOk g))) || (!(x.staged.all (opOk g)))) || (!(x.inputs.all (opOk g)))) || (!((adj x.cells).all cellLt))) || (((x.sums.length : Nat) : Int) != 4)) || (((x.black.length : Nat) : Int) != 4)) || (((x.caps.length : Nat) : Int) != 4)) by first | (rw [hg1] <;> rfl) | (simp [hg1]; done) | (simp only [nat_nlt] <;> simp)), trivial⟩ ⟨E, (by omega), h1, h2⟩)))))))))))))))))))))))
    · refine J_gd rfl rfl (R_loadS st37 rfl h1.at rfl) rfl (J_gd rfl rfl (R_fieldAddr0 fl43_1 rfl) rfl (J_gd rfl rfl (R_load sc39 rfl (h2.one 1 rfl)) rfl ?_))
      refine J_ung rfl rfl ?_
      refine J_call Try.call18 rfl (s_l12Records [o1, .int .i64 g.workers, .int .i64 g.cap] g o3 x.staged _ (Graph.mkR g (RdD.any (hd1.ext E))) (hd3.rd.ext E)) rfl (fun _ w5 e4 hv => ?_)
      subst hv
      replace E := E.trans e4; replace h1 := h1.ext e4; replace h2 := h2.ext e4
      have z4 := e4.size
      refine J_gd rfl rfl (R_not rfl) rfl (J_st (R_pickF rfl rfl) rfl (J_st (R_move rfl) rfl ?_))
      refine J_if (gd := 22) rfl rfl (fun hg2 => ?_) (fun hg2 => ?_)
      · refine J_gdno rfl rfl rfl rfl (J_gdno rfl rfl rfl rfl (J_gdno rfl rfl rfl rfl ?_))
        refine J_ungno rfl rfl rfl rfl ?_
        refine J_gdno rfl rfl rfl rfl (J_st (R_pickT rfl rfl) rfl (J_st (R_move rfl) rfl (J_gdno rfl rfl rfl rfl (J_gdno rfl rfl rfl rfl ?_))))
        refine J_ungno rfl rfl rfl rfl ?_
        refine J_gdno rfl rfl rfl rfl (J_st (R_pickT rfl rfl) rfl (J_st (R_move rfl) rfl (J_gdno rfl rfl rfl rfl (J_gdno rfl rfl rfl rfl (J_gdno rfl rfl rfl rfl (J_gdno rfl rfl rfl rfl (J_gdno rfl rfl rfl rfl (J_st (R_pickT rfl rfl) rfl (J_st (R_move rfl) rfl (J_gdno rfl rfl rfl rfl (J_gdno rfl rfl rfl rfl (J_gdno rfl rfl rfl rfl (J_gdno rfl rfl rfl rfl (J_gdno rfl rfl rfl rfl (J_st (R_pickT rfl rfl) rfl (J_st (R_move rfl) rfl (J_gdno rfl rfl rfl rfl (J_gdno rfl rfl rfl rfl (J_gdno rfl rfl rfl rfl (J_gdno rfl rfl rfl rfl (J_gdno rfl rfl rfl rfl (J_st (R_pickT rfl rfl) rfl (J_cutEnd ⟨rfl, rfl, rfl, rfl, rfl, rfl, congrArg (fun b => some (Value.bool b)) (show true = (((((((!(x.queue.all (opOk g))) || (!(x.staged.all (opOk g)))) || (!(x.inputs.all (opOk g)))) || (!((adj x.cells).all cellLt))) || (((x.sums.length : Nat) : Int) != 4)) || (((x.black.length : Nat) : Int) != 4)) || (((x.caps.length : Nat) : Int) != 4)) by first | (rw [hg1, hg2] <;> rfl) | (simp [hg1, hg2]; done) | (simp only [nat_nlt] <;> simp)), trivial⟩ ⟨E, (by omega), h1, h2⟩)))))))))))))))))))))))
      · refine J_gd rfl rfl (R_loadS st37 rfl h1.at rfl) rfl (J_gd rfl rfl (R_fieldAddr0 fl43_2 rfl) rfl (J_gd rfl rfl (R_load sc39 rfl (h2.one 2 rfl)) rfl ?_))
        refine J_ung rfl rfl ?_
        refine J_call Try.call18 rfl (s_l12Records [o1, .int .i64 g.workers, .int .i64 g.cap] g o4 x.inputs _ (Graph.mkR g (RdD.any (hd1.ext E))) (hd4.rd.ext E)) rfl (fun _ w6 e5 hv => ?_)
        subst hv
        replace E := E.trans e5; replace h1 := h1.ext e5; replace h2 := h2.ext e5
        have z5 := e5.size
        refine J_gd rfl rfl (R_not rfl) rfl (J_st (R_pickF rfl rfl) rfl (J_st (R_move rfl) rfl ?_))
        refine J_if (gd := 29) rfl rfl (fun hg3 => ?_) (fun hg3 => ?_)
        · refine J_gdno rfl rfl rfl rfl (J_gdno rfl rfl rfl rfl ?_)
          refine J_ungno rfl rfl rfl rfl ?_
          refine J_gdno rfl rfl rfl rfl (J_st (R_pickT rfl rfl) rfl (J_st (R_move rfl) rfl (J_gdno rfl rfl rfl rfl (J_gdno rfl rfl rfl rfl (J_gdno rfl rfl rfl rfl (J_gdno rfl rfl rfl rfl (J_gdno rfl rfl rfl rfl (J_st (R_pickT rfl rfl) rfl (J_st (R_move rfl) rfl (J_gdno rfl rfl rfl rfl (J_gdno rfl rfl rfl rfl (J_gdno rfl rfl rfl rfl (J_gdno rfl rfl rfl rfl (J_gdno rfl rfl rfl rfl (J_st (R_pickT rfl rfl) rfl (J_st (R_move rfl) rfl (J_gdno rfl rfl rfl rfl (J_gdno rfl rfl rfl rfl (J_gdno rfl rfl rfl rfl (J_gdno rfl rfl rfl rfl (J_gdno rfl rfl rfl rfl (J_st (R_pickT rfl rfl) rfl (J_cutEnd ⟨rfl, rfl, rfl, rfl, rfl, rfl, congrArg (fun b => some (Value.bool b)) (show true = (((((((!(x.queue.all (opOk g))) || (!(x.staged.all (opOk g)))) || (!(x.inputs.all (opOk g)))) || (!((adj x.cells).all cellLt))) || (((x.sums.length : Nat) : Int) != 4)) || (((x.black.length : Nat) : Int) != 4)) || (((x.caps.length : Nat) : Int) != 4)) by first | (rw [hg1, hg2, hg3] <;> rfl) | (simp [hg1, hg2, hg3]; done) | (simp only [nat_nlt] <;> simp)), trivial⟩ ⟨E, (by omega), h1, h2⟩)))))))))))))))))))))))
        · refine J_gd rfl rfl (R_fieldAddr0 fl43_3 rfl) rfl (J_gd rfl rfl (R_load sc40 rfl (h2.one 3 rfl)) rfl ?_)
          refine J_ung rfl rfl ?_
          refine J_call Try.call19 rfl (s_CellsOk o5 x.cells _ (hd5.rd.ext E)) rfl (fun _ w7 e6 hv => ?_)
          subst hv
          replace E := E.trans e6; replace h1 := h1.ext e6; replace h2 := h2.ext e6
          have z6 := e6.size
          refine J_gd rfl rfl (R_not rfl) rfl (J_st (R_pickF rfl rfl) rfl (J_st (R_move rfl) rfl ?_))
          refine J_if (gd := 35) rfl rfl (fun hg4 => ?_) (fun hg4 => ?_)
          · refine J_gdno rfl rfl rfl rfl (J_gdno rfl rfl rfl rfl (J_gdno rfl rfl rfl rfl (J_gdno rfl rfl rfl rfl (J_gdno rfl rfl rfl rfl (J_st (R_pickT rfl rfl) rfl (J_st (R_move rfl) rfl (J_gdno rfl rfl rfl rfl (J_gdno rfl rfl rfl rfl (J_gdno rfl rfl rfl rfl (J_gdno rfl rfl rfl rfl (J_gdno rfl rfl rfl rfl (J_st (R_pickT rfl rfl) rfl (J_st (R_move rfl) rfl (J_gdno rfl rfl rfl rfl (J_gdno rfl rfl rfl rfl (J_gdno rfl rfl rfl rfl (J_gdno rfl rfl rfl rfl (J_gdno rfl rfl rfl rfl (J_st (R_pickT rfl rfl) rfl (J_cutEnd ⟨rfl, rfl, rfl, rfl, rfl, rfl, congrArg (fun b => some (Value.bool b)) (show true = (((((((!(x.queue.all (opOk g))) || (!(x.staged.all (opOk g)))) || (!(x.inputs.all (opOk g)))) || (!((adj x.cells).all cellLt))) || (((x.sums.length : Nat) : Int) != 4)) || (((x.black.length : Nat) : Int) != 4)) || (((x.caps.length : Nat) : Int) != 4)) by first | (rw [hg1, hg2, hg3, hg4] <;> rfl) | (simp [hg1, hg2, hg3, hg4]; done) | (simp only [nat_nlt] <;> simp)), trivial⟩ ⟨E, (by omega), h1, h2⟩))))))))))))))))))))
          · refine J_gd rfl rfl (R_fieldAddr0 fl43_4 rfl) rfl (J_gd rfl rfl (R_load sc27 rfl (h2.one 4 rfl)) rfl (J_gd rfl rfl (R_len Try.underlying27 rfl (hd6.ext E).len) rfl (J_gd rfl rfl (R_move rfl) rfl (J_gd rfl rfl (R_neq rfl rfl) rfl (J_st (R_pickF rfl rfl) rfl (J_st (R_move rfl) rfl ?_))))))
            refine J_if (gd := 42) rfl rfl (fun hg5 => ?_) (fun hg5 => ?_)
            · have hg5n : ¬ x.sums.length = 4 := by first | (have h := of_decide_eq_true hg5; omega) | (have h := hg5; simp at h; omega)
              refine J_gdno rfl rfl rfl rfl (J_gdno rfl rfl rfl rfl (J_gdno rfl rfl rfl rfl (J_gdno rfl rfl rfl rfl (J_gdno rfl rfl rfl rfl (J_st (R_pickT rfl rfl) rfl (J_st (R_move rfl) rfl (J_gdno rfl rfl rfl rfl (J_gdno rfl rfl rfl rfl (J_gdno rfl rfl rfl rfl (J_gdno rfl rfl rfl rfl (J_gdno rfl rfl rfl rfl (J_st (R_pickT rfl rfl) rfl (J_cutEnd ⟨rfl, rfl, rfl, rfl, rfl, rfl, congrArg (fun b => some (Value.bool b)) (show true = (((((((!(x.queue.all (opOk g))) || (!(x.staged.all (opOk g)))) || (!(x.inputs.all (opOk g)))) || (!((adj x.cells).all cellLt))) || (((x.sums.length : Nat) : Int) != 4)) || (((x.black.length : Nat) : Int) != 4)) || (((x.caps.length : Nat) : Int) != 4)) by first | (rw [hg1, hg2, hg3, hg4, hg5] <;> rfl) | (simp [hg1, hg2, hg3, hg4, hg5]; done) | (simp only [nat_nlt] <;> simp)), trivial⟩ ⟨E, (by omega), h1, h2⟩)))))))))))))
            · have hg5n : x.sums.length = 4 := by first | (have h := of_decide_eq_false hg5; omega) | (have h := hg5; simp at h; omega)
              refine J_gd rfl rfl (R_fieldAddr0 fl43_5 rfl) rfl (J_gd rfl rfl (R_load sc28 rfl (h2.one 5 rfl)) rfl (J_gd rfl rfl (R_len Try.underlying28 rfl (hd7.ext E).len) rfl (J_gd rfl rfl (R_move rfl) rfl (J_gd rfl rfl (R_neq rfl rfl) rfl (J_st (R_pickF rfl rfl) rfl (J_st (R_move rfl) rfl ?_))))))
              refine J_if (gd := 49) rfl rfl (fun hg6 => ?_) (fun hg6 => ?_)
              · have hg6n : ¬ x.black.length = 4 := by first | (have h := of_decide_eq_true hg6; omega) | (have h := hg6; simp at h; omega)
                refine J_gdno rfl rfl rfl rfl (J_gdno rfl rfl rfl rfl (J_gdno rfl rfl rfl rfl (J_gdno rfl rfl rfl rfl (J_gdno rfl rfl rfl rfl (J_st (R_pickT rfl rfl) rfl (J_cutEnd ⟨rfl, rfl, rfl, rfl, rfl, rfl, congrArg (fun b => some (Value.bool b)) (show true = (((((((!(x.queue.all (opOk g))) || (!(x.staged.all (opOk g)))) || (!(x.inputs.all (opOk g)))) || (!((adj x.cells).all cellLt))) || (((x.sums.length : Nat) : Int) != 4)) || (((x.black.length : Nat) : Int) != 4)) || (((x.caps.length : Nat) : Int) != 4)) by first | (rw [hg1, hg2, hg3, hg4, hg5, hg6] <;> rfl) | (simp [hg1, hg2, hg3, hg4, hg5, hg6]; done) | (simp only [nat_nlt] <;> simp)), trivial⟩ ⟨E, (by omega), h1, h2⟩))))))
              · have hg6n : x.black.length = 4 := by first | (have h := of_decide_eq_false hg6; omega) | (have h := hg6; simp at h; omega)
                refine J_gd rfl rfl (R_fieldAddr0 fl43_6 rfl) rfl (J_gd rfl rfl (R_load sc28 rfl (h2.one 6 rfl)) rfl (J_gd rfl rfl (R_len Try.underlying28 rfl (hd8.ext E).len) rfl (J_gd rfl rfl (R_move rfl) rfl (J_gd rfl rfl (R_neq rfl rfl) rfl (J_st (R_pickF rfl rfl) rfl (J_cutEnd ⟨rfl, rfl, rfl, rfl, rfl, rfl, congrArg (fun b => some (Value.bool b)) (show (((x.caps.length : Nat) : Int) != 4) = (((((((!(x.queue.all (opOk g))) || (!(x.staged.all (opOk g)))) || (!(x.inputs.all (opOk g)))) || (!((adj x.cells).all cellLt))) || (((x.sums.length : Nat) : Int) != 4)) || (((x.black.length : Nat) : Int) != 4)) || (((x.caps.length : Nat) : Int) != 4)) by first | (rw [hg1, hg2, hg3, hg4, hg5, hg6] <;> rfl) | (simp [hg1, hg2, hg3, hg4, hg5, hg6]; done) | (simp only [nat_nlt] <;> simp)), trivial⟩ ⟨E, (by omega), h1, h2⟩))))))
  clear E h1 h2
  rintro w4 ⟨E, z7, h1, h2⟩
  refine J_done ?_
  refine S_cond rfl (fun hc1 => ?_) (fun hc1 => ?_)
  · refine S_seq ?_
    refine S_reg [true] rfl rfl ?_
    refine J_st (R_assign rfl) rfl (J_done ?_)
    refine S_ret (E_done1 rfl rfl E ?_)
    exact bf fun h => by simp only [workerOk, Bool.and_eq_true] at h; obtain ⟨⟨⟨⟨⟨⟨⟨⟨⟨q1, q2⟩, q3⟩, q4⟩, q5⟩, q6⟩, q7⟩, q8⟩, q9⟩, q10⟩ := h; simp only [beq_iff_eq] at q6 q7 q8; simp only [q1, q2, q3, q4, q6, q7, q8] at hc1; simp at hc1
  · refine S_skip ?_
    refine S_seq ?_
    refine S_seq ?_
    refine S_reg [true] rfl rfl ?_
    refine J_st (R_assign rfl) rfl (J_done ?_)
    refine S_block ?_
    refine S_loop (fun (k : Nat) => [(3, .pointer (some ⟨b2, 0, none⟩)), (4, .bool false), (5, .int .i64 4), (6, .int .i64 ((k : Nat) : Int))]) (fun (k : Nat) w' => Ext w w' ∧ w4.heap.size ≤ w'.heap.size ∧ Blk w' b1 ([o1, .int .i64 g.workers, .int .i64 g.cap]) ∧ Blk w' b2 ([o2, o3, o4, o5, o6, o7, o8, o9]) ∧ k ≤ x.inputs.length ∧ allR k (fun j => inAt x.inputs j) = true) (fun (k : Nat) => x.inputs.length - k) 0 ⟨rfl, rfl, rfl, rfl, trivial⟩ ⟨E, Nat.le_refl _, h1, h2, Nat.zero_le _, rfl⟩ ?_
    clear E h1 h2
    rintro k w8 ⟨E, z8, h1, h2, hk, hI1⟩
    have hmi := hd4.1.1
    unfold maxLen at hmi
    refine S_seq ?_
    refine S_seq ?_
    refine S_reg [true, true, true, true, true] rfl rfl ?_
    refine J_st (R_move rfl) rfl (J_st (R_fieldAddr0 fl43_2 rfl) rfl (J_st (R_load sc39 rfl (h2.one 2 rfl)) rfl (J_st (R_len Try.underlying39 rfl (hd4.ext E).len) rfl (J_st (R_lss rfl rfl) rfl (J_done ?_)))))
    refine S_cond rfl (fun hc2 => ?_) (fun hc2 => ?_)
    · have hc2n : k < x.inputs.length := by first | (have h := of_decide_eq_true hc2; omega) | (have h := hc2; simp at h; omega)
      refine S_skip ?_
      refine S_seq ?_
      refine S_block ?_
      refine S_seq ?_
      refine S_regD mixed [(0, true), (1, true), (2, true), (3, true), (4, true), (5, true), (6, true), (7, true), (8, true), (9, true), (10, true), (11, true), (12, true), (13, true), (14, true), (15, true), (16, true), (17, true), (18, true), (19, true), (20, true), (21, true), (22, true), (23, true), (24, true), (25, true), (26, true), (27, true), (28, true), (29, true), (30, true), (31, true), (32, true), (33, true), (34, true), (35, true), (36, true), (37, true), (38, true)] (by decide +kernel) rfl (fun w9 e7 => ?_)
      replace E := E.trans e7; replace h1 := h1.ext e7; replace h2 := h2.ext e7
      have z9 := e7.size
      refine J_st (R_fieldAddr0 fl43_2 rfl) rfl (J_st (R_load sc39 rfl (h2.one 2 rfl)) rfl (J_st (R_move rfl) rfl ?_))
      have hi1 : k < x.inputs.length := (by first | assumption | omega)
      refine J_st (R_index (i := k) sl39 rfl rfl (hd4.rd.ext E) hi1) rfl (J_st (R_fieldAddr fl59_0 rfl) rfl (J_st (R_load sc3 rfl (((hd4.rd.ext E).get hi1).one 0 rfl)) rfl (J_st (R_neq rfl rfl) rfl (J_st (R_move rfl) rfl ?_))))
      refine J_cut 31 [(3, .pointer (some ⟨b2, 0, none⟩)), (4, .bool false), (5, .int .i64 4), (6, .int .i64 ((k : Nat) : Int)), (56, .int .i64 ((k : Nat) : Int)), (57, .pointer (some ⟨b2, 2, none⟩)), (58, o4), (59, .int .i64 ((x.inputs.length : Nat) : Int)), (60, .bool (decide (((k : Nat) : Int) < ((x.inputs.length : Nat) : Int)))), (101, .bool (((((x.inputs[k]'hi1).op) != 0) || ((((x.inputs[k]'hi1).stamp).turn) != 0)) || ((decide (0 < ((k : Nat) : Int))) && (decide ((((x.inputs[k]'hi1).stamp).epoch) < (((List.getD x.inputs (k - 1) default).stamp).epoch))))))] (fun w' => w9 = w') ?_ ?_
      · refine J_if (gd := 70) rfl rfl (fun hg7 => ?_) (fun hg7 => ?_)
        · refine J_gdno rfl rfl rfl rfl (J_gdno rfl rfl rfl rfl (J_gdno rfl rfl rfl rfl (J_gdno rfl rfl rfl rfl (J_gdno rfl rfl rfl rfl (J_gdno rfl rfl rfl rfl (J_gdno rfl rfl rfl rfl (J_gdno rfl rfl rfl rfl (J_st (R_pickT rfl rfl) rfl (J_st (R_move rfl) rfl (J_gdno rfl rfl rfl rfl (J_gdno rfl rfl rfl rfl (J_gdno rfl rfl rfl rfl (J_gdx rfl rfl rfl (J_gdx rfl rfl rfl (J_gdx rfl rfl rfl (J_gdx rfl rfl rfl (J_gdx rfl rfl rfl (J_gdx rfl rfl rfl (J_gdx rfl rfl rfl (J_gdx rfl rfl rfl (J_gdx rfl rfl rfl (J_gdx rfl rfl rfl (J_gdx rfl rfl rfl (J_gdx rfl rfl rfl (J_gdx rfl rfl rfl (J_gdx rfl rfl rfl (J_gdx rfl rfl rfl (J_gdx rfl rfl rfl (J_gdno rfl rfl rfl rfl (J_st (R_pickT rfl rfl) rfl (J_cutEnd ⟨rfl, rfl, rfl, rfl, rfl, rfl, rfl, rfl, rfl, congrArg (fun b => some (Value.bool b)) (show true = (((((x.inputs[k]'hi1).op) != 0) || ((((x.inputs[k]'hi1).stamp).turn) != 0)) || ((decide (0 < ((k : Nat) : Int))) && (decide ((((x.inputs[k]'hi1).stamp).epoch) < (((List.getD x.inputs (k - 1) default).stamp).epoch))))) by first | (rw [hg7] <;> rfl) | (simp [hg7]; done) | (simp only [nat_nlt] <;> simp)), trivial⟩ rfl)))))))))))))))))))))))))))))))
        · refine J_gd rfl rfl (R_fieldAddr0 fl43_2 rfl) rfl (J_gd rfl rfl (R_load sc39 rfl (h2.one 2 rfl)) rfl (J_gd rfl rfl (R_move rfl) rfl (J_gd rfl rfl (R_index (i := k) sl39 rfl rfl (hd4.rd.ext E) hi1) rfl (J_gd rfl rfl (R_fieldAddr fl59_1 rfl) rfl (J_gd rfl rfl (R_fieldAddr fl57_1 rfl) rfl (J_gd rfl rfl (R_load sc3 rfl (((hd4.rd.ext E).get hi1).one 2 rfl)) rfl (J_gd rfl rfl (R_neq rfl rfl) rfl (J_st (R_pickF rfl rfl) rfl (J_st (R_move rfl) rfl ?_)))))))))
          refine J_if (gd := 80) rfl rfl (fun hg8 => ?_) (fun hg8 => ?_)
          · refine J_gdno rfl rfl rfl rfl (J_gdno rfl rfl rfl rfl (J_gdno rfl rfl rfl rfl (J_gdx rfl rfl rfl (J_gdx rfl rfl rfl (J_gdx rfl rfl rfl (J_gdx rfl rfl rfl (J_gdx rfl rfl rfl (J_gdx rfl rfl rfl (J_gdx rfl rfl rfl (J_gdx rfl rfl rfl (J_gdx rfl rfl rfl (J_gdx rfl rfl rfl (J_gdx rfl rfl rfl (J_gdx rfl rfl rfl (J_gdx rfl rfl rfl (J_gdx rfl rfl rfl (J_gdx rfl rfl rfl (J_gdx rfl rfl rfl (J_gdno rfl rfl rfl rfl (J_st (R_pickT rfl rfl) rfl (J_cutEnd ⟨rfl, rfl, rfl, rfl, rfl, rfl, rfl, rfl, rfl, congrArg (fun b => some (Value.bool b)) (show true = (((((x.inputs[k]'hi1).op) != 0) || ((((x.inputs[k]'hi1).stamp).turn) != 0)) || ((decide (0 < ((k : Nat) : Int))) && (decide ((((x.inputs[k]'hi1).stamp).epoch) < (((List.getD x.inputs (k - 1) default).stamp).epoch))))) by first | (rw [hg7, hg8] <;> rfl) | (simp [hg7, hg8]; done) | (simp only [nat_nlt] <;> simp)), trivial⟩ rfl)))))))))))))))))))))
          · refine J_gd rfl rfl (R_move rfl) rfl (J_gd rfl rfl (R_gtr rfl rfl) rfl (J_gd rfl rfl (R_move rfl) rfl ?_))
            refine J_if (gd := 83) rfl rfl (fun hg9 => ?_) (fun hg9 => ?_)
            · have hg9n : k > 0 := by first | (have h := of_decide_eq_true hg9; omega) | (have h := hg9; simp at h; omega)
              refine J_gd rfl rfl (R_fieldAddr0 fl43_2 rfl) rfl (J_gd rfl rfl (R_load sc39 rfl (h2.one 2 rfl)) rfl (J_gd rfl rfl (R_move rfl) rfl (J_gd rfl rfl (R_sub rfl rfl (sub_nat (by omega) (by unfold maxLen; omega))) rfl (J_gd rfl rfl (R_index (i := (k - 1)) sl39 rfl rfl (hd4.rd.ext E) (by first | assumption | omega)) rfl (J_gd rfl rfl (R_fieldAddr fl59_1 rfl) rfl (J_gd rfl rfl (R_fieldAddr fl57_0 rfl) rfl (J_gd rfl rfl (R_load sc3 rfl ((RdS.getD (hd4.rd.ext E) (i := (k - 1)) (by first | assumption | omega)).one 1 rfl)) rfl (J_gd rfl rfl (R_fieldAddr0 fl43_2 rfl) rfl (J_gd rfl rfl (R_load sc39 rfl (h2.one 2 rfl)) rfl (J_gd rfl rfl (R_move rfl) rfl (J_gd rfl rfl (R_index (i := k) sl39 rfl rfl (hd4.rd.ext E) hi1) rfl (J_gd rfl rfl (R_fieldAddr fl59_1 rfl) rfl (J_gd rfl rfl (R_fieldAddr fl57_0 rfl) rfl (J_gd rfl rfl (R_load sc3 rfl (((hd4.rd.ext E).get hi1).one 1 rfl)) rfl (J_gd rfl rfl (R_gtr rfl rfl) rfl (J_gd rfl rfl (R_pickT rfl rfl) rfl (J_st (R_pickF rfl rfl) rfl (J_cutEnd ⟨rfl, rfl, rfl, rfl, rfl, rfl, rfl, rfl, rfl, congrArg (fun b => some (Value.bool b)) (show (decide ((((x.inputs[k]'hi1).stamp).epoch) < (((List.getD x.inputs (k - 1) default).stamp).epoch))) = (((((x.inputs[k]'hi1).op) != 0) || ((((x.inputs[k]'hi1).stamp).turn) != 0)) || ((decide (0 < ((k : Nat) : Int))) && (decide ((((x.inputs[k]'hi1).stamp).epoch) < (((List.getD x.inputs (k - 1) default).stamp).epoch))))) by first | (rw [hg7, hg8, hg9] <;> rfl) | (simp [hg7, hg8, hg9]; done) | (simp only [nat_nlt] <;> simp)), trivial⟩ rfl))))))))))))))))))
            · have hg9n : ¬ k > 0 := by first | (have h := of_decide_eq_false hg9; omega) | (have h := hg9; simp at h; omega)
              refine J_gdno rfl rfl rfl rfl (J_gdno rfl rfl rfl rfl (J_gdno rfl rfl rfl rfl (J_gdno rfl rfl rfl rfl (J_gdno rfl rfl rfl rfl (J_gdno rfl rfl rfl rfl (J_gdno rfl rfl rfl rfl (J_gdno rfl rfl rfl rfl (J_gdno rfl rfl rfl rfl (J_gdno rfl rfl rfl rfl (J_gdno rfl rfl rfl rfl (J_gdno rfl rfl rfl rfl (J_gdno rfl rfl rfl rfl (J_gdno rfl rfl rfl rfl (J_gdno rfl rfl rfl rfl (J_gdno rfl rfl rfl rfl (J_gd rfl rfl (R_pickF rfl rfl) rfl (J_st (R_pickF rfl rfl) rfl (J_cutEnd ⟨rfl, rfl, rfl, rfl, rfl, rfl, rfl, rfl, rfl, congrArg (fun b => some (Value.bool b)) (show false = (((((x.inputs[k]'hi1).op) != 0) || ((((x.inputs[k]'hi1).stamp).turn) != 0)) || ((decide (0 < ((k : Nat) : Int))) && (decide ((((x.inputs[k]'hi1).stamp).epoch) < (((List.getD x.inputs (k - 1) default).stamp).epoch))))) by first | (rw [hg7, hg8, hg9] <;> rfl) | (simp [hg7, hg8, hg9]; done) | (simp only [nat_nlt] <;> simp)), trivial⟩ rfl))))))))))))))))))
      rintro _ rfl
      refine J_done ?_
      refine S_cond rfl (fun hc3 => ?_) (fun hc3 => ?_)
      · refine S_seq ?_
        refine S_reg [true] rfl rfl ?_
        refine J_st (R_assign rfl) rfl (J_done ?_)
        refine S_ret (E_inB_ret (E_lp_ret (E_inB_ret (E_done1 rfl rfl E ?_))))
        exact bf fun h => by simp only [workerOk, Bool.and_eq_true] at h; obtain ⟨⟨⟨⟨⟨⟨⟨⟨⟨q1, q2⟩, q3⟩, q4⟩, q5⟩, q6⟩, q7⟩, q8⟩, q9⟩, q10⟩ := h; have := allR_get q5 (by assumption); rw [inAt_at (by assumption), hc3] at this; cases this
      · refine S_skip ?_
        refine S_nil (E_inB ?_)
        refine S_reg [true, true, true] rfl rfl ?_
        refine J_st (R_move rfl) rfl (J_st (R_add rfl rfl (add_one hc2n (hd4.ext E).1.1)) rfl (J_st (R_assign rfl) rfl (J_done ?_)))
        refine S_nil (E_again (k + 1) (by omega) ⟨rfl, rfl, rfl, rfl, trivial⟩ ⟨E, (by omega), h1, h2, (by omega), allR_s hI1 ((inAt_at (by assumption)).trans (congrArg not hc3))⟩)
    · have hc2n : ¬ k < x.inputs.length := by first | (have h := of_decide_eq_false hc2; omega) | (have h := hc2; simp at h; omega)
      refine S_exit (E_lp_exit (E_inB_exit ?_))
      refine S_seq ?_
      refine S_seq ?_
      refine S_reg [true] rfl rfl ?_
      refine J_st (R_assign rfl) rfl (J_done ?_)
      refine S_block ?_
      refine S_loop (fun (k : Nat) => [(3, .pointer (some ⟨b2, 0, none⟩)), (4, .bool false), (5, .int .i64 4), (7, .int .i64 ((k : Nat) : Int))]) (fun (k : Nat) w' => Ext w w' ∧ w8.heap.size ≤ w'.heap.size ∧ Blk w' b1 ([o1, .int .i64 g.workers, .int .i64 g.cap]) ∧ Blk w' b2 ([o2, o3, o4, o5, o6, o7, o8, o9]) ∧ k ≤ 4 ∧ (x.sums.take k).all (win · (-1000000) 1000000) = true) (fun (k : Nat) => 4 - k) 0 ⟨rfl, rfl, rfl, rfl, trivial⟩ ⟨E, Nat.le_refl _, h1, h2, Nat.zero_le _, rfl⟩ ?_
      clear E h1 h2
      rintro k w11 ⟨E, z10, h1, h2, hk, hI2⟩
      have hs4 := wk_len hc1
      refine S_seq ?_
      refine S_seq ?_
      refine S_reg [true, true, true] rfl rfl ?_
      refine J_st (R_move rfl) rfl (J_st (R_move rfl) rfl (J_st (R_lss rfl rfl) rfl (J_done ?_)))
      refine S_cond rfl (fun hc4 => ?_) (fun hc4 => ?_)
      · have hc4n : k < 4 := by first | (have h := of_decide_eq_true hc4; omega) | (have h := hc4; simp at h; omega)
        refine S_skip ?_
        refine S_seq ?_
        refine S_block ?_
        refine S_seq ?_
        refine S_reg [true, true, true, true, true, false, true] rfl rfl ?_
        refine J_st (R_fieldAddr0 fl43_4 rfl) rfl (J_st (R_load sc27 rfl (h2.one 4 rfl)) rfl (J_st (R_move rfl) rfl ?_))
        have hi2 : k < x.sums.length := (by first | assumption | omega)
        refine J_st (R_index (i := k) sl27 rfl rfl (hd6.rd.ext E) hi2) rfl (J_st (R_load sc3 rfl (((hd6.rd.ext E).get hi2).one 0 rfl)) rfl ?_)
        refine J_call Try.call20 rfl (s_l01In (x.sums[k]'hi2) (-1000000) 1000000 _ ) rfl (fun _ w12 e8 hv => ?_)
        subst hv
        replace E := E.trans e8; replace h1 := h1.ext e8; replace h2 := h2.ext e8
        have z11 := e8.size
        refine J_st (R_not rfl) rfl (J_done ?_)
        refine S_cond rfl (fun hc5 => ?_) (fun hc5 => ?_)
        · refine S_seq ?_
          refine S_reg [true] rfl rfl ?_
          refine J_st (R_assign rfl) rfl (J_done ?_)
          refine S_ret (E_inB_ret (E_lp_ret (E_inB_ret (E_done1 rfl rfl E ?_))))
          exact bf fun h => by simp only [workerOk, Bool.and_eq_true] at h; obtain ⟨⟨⟨⟨⟨⟨⟨⟨⟨q1, q2⟩, q3⟩, q4⟩, q5⟩, q6⟩, q7⟩, q8⟩, q9⟩, q10⟩ := h; have := List.all_eq_true.1 q9 _ (List.getElem_mem (by omega)); simp only [this] at hc5; cases hc5
        · refine S_skip ?_
          refine S_nil (E_inB ?_)
          refine S_reg [true, true, true] rfl rfl ?_
          refine J_st (R_move rfl) rfl (J_st (R_add rfl rfl (add_one hc4n (by first | assumption | (unfold maxLen; omega)))) rfl (J_st (R_assign rfl) rfl (J_done ?_)))
          refine S_nil (E_again (k + 1) (by omega) ⟨rfl, rfl, rfl, rfl, trivial⟩ ⟨E, (by omega), h1, h2, (by omega), all_step hI2 (by omega) (by simpa using hc5)⟩)
      · have hc4n : ¬ k < 4 := by first | (have h := of_decide_eq_false hc4; omega) | (have h := hc4; simp at h; omega)
        refine S_exit (E_lp_exit (E_inB_exit ?_))
        refine S_seq ?_
        refine S_seq ?_
        refine S_reg [true] rfl rfl ?_
        refine J_st (R_assign rfl) rfl (J_done ?_)
        refine S_block ?_
        refine S_loop (fun (i : Nat) => [(3, .pointer (some ⟨b2, 0, none⟩)), (4, .bool false), (8, .int .i64 ((i : Nat) : Int))]) (fun (i : Nat) w' => Ext w w' ∧ w11.heap.size ≤ w'.heap.size ∧ Blk w' b1 ([o1, .int .i64 g.workers, .int .i64 g.cap]) ∧ Blk w' b2 ([o2, o3, o4, o5, o6, o7, o8, o9]) ∧ i ≤ x.dones.length ∧ allR i (fun j => doneAtOk x.dones j) = true) (fun (i : Nat) => x.dones.length - i) 0 ⟨rfl, rfl, rfl, trivial⟩ ⟨E, Nat.le_refl _, h1, h2, Nat.zero_le _, rfl⟩ ?_
        clear E h1 h2
        rintro i w13 ⟨E, z12, h1, h2, hle, hI3⟩
        have hmd := hd9.1.1
        unfold maxLen at hmd
        refine S_seq ?_
        refine S_seq ?_
        refine S_reg [true, true, true, true, true] rfl rfl ?_
        refine J_st (R_move rfl) rfl (J_st (R_fieldAddr0 fl43_7 rfl) rfl (J_st (R_load sc41 rfl (h2.one 7 rfl)) rfl (J_st (R_len Try.underlying41 rfl (hd9.ext E).len) rfl (J_st (R_lss rfl rfl) rfl (J_done ?_)))))
        refine S_cond rfl (fun hc6 => ?_) (fun hc6 => ?_)
        · have hc6n : i < x.dones.length := by first | (have h := of_decide_eq_true hc6; omega) | (have h := hc6; simp at h; omega)
          refine S_skip ?_
          refine S_seq ?_
          refine S_block ?_
          refine S_seq ?_
          refine S_seq ?_
          refine S_reg [true, true, true, true, true, true, false, true] rfl rfl ?_
          refine J_st (R_fieldAddr0 fl43_7 rfl) rfl (J_st (R_load sc41 rfl (h2.one 7 rfl)) rfl (J_st (R_move rfl) rfl ?_))
          have hi3 : i < x.dones.length := (by first | assumption | omega)
          refine J_st (R_index (i := i) sl41 rfl rfl (hd9.rd.ext E) hi3) rfl (J_st (R_fieldAddr fl62_0 rfl) rfl (J_st (R_load sc3 rfl (((hd9.rd.ext E).get hi3).one 0 rfl)) rfl ?_))
          refine J_call Try.call20 rfl (s_l01In ((x.dones[i]'hi3).epoch) 0 3 _ ) rfl (fun _ w14 e9 hv => ?_)
          subst hv
          replace E := E.trans e9; replace h1 := h1.ext e9; replace h2 := h2.ext e9
          have z13 := e9.size
          refine J_st (R_not rfl) rfl (J_done ?_)
          refine S_cond rfl (fun hc7 => ?_) (fun hc7 => ?_)
          · refine S_seq ?_
            refine S_reg [true] rfl rfl ?_
            refine J_st (R_assign rfl) rfl (J_done ?_)
            refine S_ret (E_inB_ret (E_lp_ret (E_inB_ret (E_done1 rfl rfl E ?_))))
            exact bf fun h => by simp only [workerOk, Bool.and_eq_true] at h; obtain ⟨⟨⟨⟨⟨⟨⟨⟨⟨q1, q2⟩, q3⟩, q4⟩, q5⟩, q6⟩, q7⟩, q8⟩, q9⟩, q10⟩ := h; have := allR_get q10 (by assumption); rw [doneAtOk_at (by assumption)] at this; simp only [hc7, Bool.true_or] at this; cases this
          · refine S_skip ?_
            refine S_seq ?_
            refine S_reg [true] rfl rfl ?_
            refine J_st (R_assign rfl) rfl (J_done ?_)
            refine S_block ?_
            refine S_loop (fun (j : Nat) => [(3, .pointer (some ⟨b2, 0, none⟩)), (4, .bool false), (8, .int .i64 ((i : Nat) : Int)), (9, .int .i64 ((j : Nat) : Int))]) (fun (j : Nat) w' => Ext w w' ∧ w14.heap.size ≤ w'.heap.size ∧ Blk w' b1 ([o1, .int .i64 g.workers, .int .i64 g.cap]) ∧ Blk w' b2 ([o2, o3, o4, o5, o6, o7, o8, o9]) ∧ j ≤ i ∧ (x.dones.take j).any (fun d => d.epoch == (x.dones[i]'hi3).epoch) = false) (fun (j : Nat) => i - j) 0 ⟨rfl, rfl, rfl, rfl, trivial⟩ ⟨E, Nat.le_refl _, h1, h2, Nat.zero_le _, rfl⟩ ?_
            clear E h1 h2
            rintro j w15 ⟨E, z14, h1, h2, hk, hJ⟩
            refine S_seq ?_
            refine S_seq ?_
            refine S_reg [true, true, true] rfl rfl ?_
            refine J_st (R_move rfl) rfl (J_st (R_move rfl) rfl (J_st (R_lss rfl rfl) rfl (J_done ?_)))
            refine S_cond rfl (fun hc8 => ?_) (fun hc8 => ?_)
            · have hc8n : j < i := by first | (have h := of_decide_eq_true hc8; omega) | (have h := hc8; simp at h; omega)
              refine S_skip ?_
              refine S_seq ?_
              refine S_block ?_
              refine S_seq ?_
              refine S_regD mixed [(0, true), (1, true), (2, true), (3, true), (4, true), (5, true), (6, true), (7, true), (8, true), (9, true), (10, true), (11, true), (12, true)] (by decide +kernel) rfl (fun w16 e10 => ?_)
              replace E := E.trans e10; replace h1 := h1.ext e10; replace h2 := h2.ext e10
              have z15 := e10.size
              refine J_st (R_fieldAddr0 fl43_7 rfl) rfl (J_st (R_load sc41 rfl (h2.one 7 rfl)) rfl (J_st (R_move rfl) rfl ?_))
              have hi4 : j < x.dones.length := (by first | assumption | omega)
              refine J_st (R_index (i := j) sl41 rfl rfl (hd9.rd.ext E) hi4) rfl (J_st (R_fieldAddr fl62_0 rfl) rfl (J_st (R_load sc3 rfl (((hd9.rd.ext E).get hi4).one 0 rfl)) rfl (J_st (R_fieldAddr0 fl43_7 rfl) rfl (J_st (R_load sc41 rfl (h2.one 7 rfl)) rfl (J_st (R_move rfl) rfl (J_st (R_index (i := i) sl41 rfl rfl (hd9.rd.ext E) hi3) rfl (J_st (R_fieldAddr fl62_0 rfl) rfl (J_st (R_load sc3 rfl (((hd9.rd.ext E).get hi3).one 0 rfl)) rfl (J_st (R_eql rfl rfl) rfl (J_done ?_))))))))))
              refine S_cond rfl (fun hc9 => ?_) (fun hc9 => ?_)
              · refine S_seq ?_
                refine S_reg [true] rfl rfl ?_
                refine J_st (R_assign rfl) rfl (J_done ?_)
                refine S_ret (E_inB_ret (E_lp_ret (E_inB_ret (E_inB_ret (E_lp_ret (E_inB_ret (E_done1 rfl rfl E ?_)))))))
                exact bf fun h => by simp only [workerOk, Bool.and_eq_true] at h; obtain ⟨⟨⟨⟨⟨⟨⟨⟨⟨q1, q2⟩, q3⟩, q4⟩, q5⟩, q6⟩, q7⟩, q8⟩, q9⟩, q10⟩ := h; have := allR_get (j := i) q10 (by omega); exact done_n this (by omega) (by assumption)
              · refine S_skip ?_
                refine S_nil (E_inB ?_)
                refine S_reg [true, true, true] rfl rfl ?_
                refine J_st (R_move rfl) rfl (J_st (R_add rfl rfl (add_one hc8n (by first | assumption | (unfold maxLen; omega)))) rfl (J_st (R_assign rfl) rfl (J_done ?_)))
                refine S_nil (E_again (j + 1) (by omega) ⟨rfl, rfl, rfl, rfl, trivial⟩ ⟨E, (by omega), h1, h2, (by omega), any_step hJ (by omega) (by assumption)⟩)
            · have hc8n : ¬ j < i := by first | (have h := of_decide_eq_false hc8; omega) | (have h := hc8; simp at h; omega)
              refine S_exit (E_lp_exit (E_inB_exit ?_))
              refine S_nil (E_inB ?_)
              refine S_reg [true, true, true] rfl rfl ?_
              refine J_st (R_move rfl) rfl (J_st (R_add rfl rfl (add_one hc6n (hd9.ext E).1.1)) rfl (J_st (R_assign rfl) rfl (J_done ?_)))
              refine S_nil (E_again (i + 1) (by omega) ⟨rfl, rfl, rfl, trivial⟩ ⟨E, (by omega), h1, h2, (by omega), (allR_s hI3 (done_s (h1 := hi3) (by assumption) hJ (by omega)))⟩)
        · have hc6n : ¬ i < x.dones.length := by first | (have h := of_decide_eq_false hc6; omega) | (have h := hc6; simp at h; omega)
          refine S_exit (E_lp_exit (E_inB_exit ?_))
          refine S_seq ?_
          refine S_reg [true] rfl rfl ?_
          refine J_st (R_assign rfl) rfl (J_done ?_)
          refine S_ret (E_done1 rfl rfl E ?_)
          exact wk_yes2 hc1 (allR_le hI1 (by omega)) (all_end hI2 (by have := wk_len hc1; omega)) (allR_le hI3 (by omega))

set_option maxHeartbeats 4000000 in
set_option maxRecDepth 20000 in
theorem l_WorkerOk (cg : List Value) (g : Graph) (cx : List Value) (x : Worker) (w : World) (hg : Dat.R w 0 w.heap.size cg g) (hx : Dat.R w 0 w.heap.size cx x) (_kg : okGraph g) (_kx : okWorker x) : Ct Try.prog 3 [.agg cg.toArray, .agg cx.toArray] w (fun v _ => v = .bool true) := by
  refine ct_of Try.func3 rfl Try.ntmps3 rfl ?_
  obtain ⟨o1, rfl, hd1⟩ := Graph.op hg
  obtain ⟨o2, o3, o4, o5, o6, o7, o8, o9, rfl, hd2, hd3, hd4, hd5, hd6, hd7, hd8, hd9⟩ := Worker.op hx
  refine S_sub [(0, .agg [o1, .int .i64 g.workers, .int .i64 g.cap].toArray), (1, .agg [o2, o3, o4, o5, o6, o7, o8, o9].toArray)] ⟨rfl, rfl, trivial⟩ ?_
  have E : Ext w w := Ext.refl w
  refine S_seq ?_
  refine S_reg [false, false, true] rfl rfl ?_
  refine J_box rfl rfl (fun b1 w1 e1 s1 h1 => ?_)
  have g_b1 : w.heap.size ≤ b1 := by have := E.size; omega
  have y_b1 := h1.lt
  replace E := E.trans e1
  have z1 := e1.size
  refine J_box rfl rfl (fun b2 w2 e2 s2 h2 => ?_)
  have g_b2 : w.heap.size ≤ b2 := by have := E.size; omega
  have y_b2 := h2.lt
  replace E := E.trans e2; replace h1 := h1.ext e2
  have z2 := e2.size
  refine J_st (R_assign rfl) rfl (J_done ?_)
  refine S_seq ?_
  refine S_reg [true] rfl rfl ?_
  refine J_st (R_assign rfl) rfl (J_done ?_)
  refine S_seq ?_
  refine S_reg [true, true, false, true] rfl rfl ?_
  refine J_st (R_loadS st24 rfl h1.at rfl) rfl (J_st (R_move rfl) rfl ?_)
  refine J_call Try.call4 rfl (c_szGraph [o1, .int .i64 g.workers, .int .i64 g.cap] g 1048576 _ (Graph.mkR g (RdD.any (hd1.ext E))) (by first | omega | (simp only [mkL_length]; omega) | (rw [mkL_length]))) rfl (fun _ w3 e3 hv => ?_)
  subst hv
  replace E := E.trans e3; replace h1 := h1.ext e3; replace h2 := h2.ext e3
  have z3 := e3.size
  refine J_st (R_assign rfl) rfl (J_done ?_)
  refine S_seq ?_
  refine S_seq ?_
  refine S_reg [true, true] rfl rfl ?_
  refine J_st (R_move rfl) rfl (J_st (R_lss rfl rfl) rfl (J_done ?_))
  refine S_cond rfl (fun hc1 => ?_) (fun hc1 => ?_)
  · have q1 := szM_no hc1 (by omega)
    refine S_seq ?_
    refine S_reg [true] rfl rfl ?_
    refine J_st (R_assign rfl) rfl (J_done ?_)
    refine S_ret (E_done1 rfl rfl E ?_)
    rfl
  · have q2 := szM_ok hc1 (by omega)
    refine S_skip ?_
    refine S_seq ?_
    refine S_reg [true, true, false, true] rfl rfl ?_
    refine J_st (R_loadS st31 rfl h2.at rfl) rfl (J_st (R_move rfl) rfl ?_)
    refine J_call Try.call5 rfl (c_szWorker [o2, o3, o4, o5, o6, o7, o8, o9] x (szM (cntGraph g) 1048576) _ (Worker.mkR x (RdD.any (hd2.ext E)) (RdD.any (hd3.ext E)) (RdD.any (hd4.ext E)) (RdD.any (hd5.ext E)) (RdD.any (hd6.ext E)) (RdD.any (hd7.ext E)) (RdD.any (hd8.ext E)) (RdD.any (hd9.ext E))) (by first | omega | (simp only [mkL_length]; omega) | (rw [mkL_length]))) rfl (fun _ w4 e4 hv => ?_)
    subst hv
    replace E := E.trans e4; replace h1 := h1.ext e4; replace h2 := h2.ext e4
    have z4 := e4.size
    refine J_st (R_assign rfl) rfl (J_done ?_)
    refine S_seq ?_
    refine S_seq ?_
    refine S_reg [true, true] rfl rfl ?_
    refine J_st (R_move rfl) rfl (J_st (R_lss rfl rfl) rfl (J_done ?_))
    refine S_cond rfl (fun hc2 => ?_) (fun hc2 => ?_)
    · have q3 := szM_no hc2 (by omega)
      refine S_seq ?_
      refine S_reg [true] rfl rfl ?_
      refine J_st (R_assign rfl) rfl (J_done ?_)
      refine S_ret (E_done1 rfl rfl E ?_)
      rfl
    · have q4 := szM_ok hc2 (by omega)
      refine S_skip ?_
      refine S_seq ?_
      refine S_regD mixed [(0, true), (2, true), (1, false), (3, false), (4, false), (5, true)] (by decide +kernel) rfl (fun w5 e5 => ?_)
      replace E := E.trans e5; replace h1 := h1.ext e5; replace h2 := h2.ext e5
      have z5 := e5.size
      refine J_st (R_loadS st24 rfl h1.at rfl) rfl (J_st (R_loadS st31 rfl h2.at rfl) rfl ?_)
      refine J_call Try.call7 rfl (c_toGraph [o1, .int .i64 g.workers, .int .i64 g.cap] g _ (Graph.mkR g (RdD.any (hd1.ext E))) (by first | omega | (simp only [mkL_length]; omega) | (rw [mkL_length]))) rfl (fun _ w6 e6 ho1 => ?_)
      obtain ⟨o10, rfl, ho1⟩ := ho1
      have g_ho1 : w.heap.size ≤ w5.heap.size := E.size
      replace E := E.trans e6; replace h1 := h1.ext e6; replace h2 := h2.ext e6
      have z6 := e6.size
      refine J_call Try.call8 rfl (c_toWorker [o2, o3, o4, o5, o6, o7, o8, o9] x _ (Worker.mkR x (RdD.any (hd2.ext E)) (RdD.any (hd3.ext E)) (RdD.any (hd4.ext E)) (RdD.any (hd5.ext E)) (RdD.any (hd6.ext E)) (RdD.any (hd7.ext E)) (RdD.any (hd8.ext E)) (RdD.any (hd9.ext E))) (by first | omega | (simp only [mkL_length]; omega) | (rw [mkL_length]))) rfl (fun _ w7 e7 ho2 => ?_)
      obtain ⟨_, rfl, ho2⟩ := ho2
      have g_ho2 : w.heap.size ≤ w6.heap.size := E.size
      replace E := E.trans e7; replace h1 := h1.ext e7; replace h2 := h2.ext e7; replace ho1 := ho1.ext e7
      have z7 := e7.size
      obtain ⟨o11, o12, o13, o14, o15, o16, o17, o18, rfl, sp1, hw1, hw2, hw3, hw4, hw5, hw6, hw7, hw8⟩ := Worker.opO ho2
      refine J_call Try.call6 rfl (s_WorkerOk [o10, .int .i64 g.workers, .int .i64 g.cap] g [o11, o12, o13, o14, o15, o16, o17, o18] x _ (Graph.mkR g (RdD.any (OwS.rd ho1))) (Worker.mkR x (RdD.any (Own.rdD hw1)) (RdD.any (Own.rdD hw2)) (RdD.any (Own.rdD hw3)) (RdD.any (Own.rdD hw4)) (RdD.any (Own.rdD hw5)) (RdD.any (Own.rdD hw6)) (RdD.any (Own.rdD hw7)) (RdD.any (Own.rdD hw8)))) rfl (fun _ w8 e8 hv => ?_)
      subst hv
      replace E := E.trans e8; replace h1 := h1.ext e8; replace h2 := h2.ext e8; replace ho1 := ho1.ext e8; replace hw1 := hw1.ext e8; replace hw2 := hw2.ext e8; replace hw3 := hw3.ext e8; replace hw4 := hw4.ext e8; replace hw5 := hw5.ext e8; replace hw6 := hw6.ext e8; replace hw7 := hw7.ext e8; replace hw8 := hw8.ext e8
      have z8 := e8.size
      refine J_st (R_assign rfl) rfl (J_done ?_)
      refine S_seq ?_
      refine S_reg [true, false, false, false] rfl rfl ?_
      refine J_st (R_loadS st24 rfl h1.at rfl) rfl ?_
      refine J_call Try.call7 rfl (c_toGraph [o1, .int .i64 g.workers, .int .i64 g.cap] g _ (Graph.mkR g (RdD.any (hd1.ext E))) (by first | omega | (simp only [mkL_length]; omega) | (rw [mkL_length]))) rfl (fun _ w9 e9 ho3 => ?_)
      obtain ⟨o19, rfl, ho3⟩ := ho3
      have g_ho3 : w.heap.size ≤ w8.heap.size := E.size
      replace E := E.trans e9; replace h1 := h1.ext e9; replace h2 := h2.ext e9; replace ho1 := ho1.ext e9; replace hw1 := hw1.ext e9; replace hw2 := hw2.ext e9; replace hw3 := hw3.ext e9; replace hw4 := hw4.ext e9; replace hw5 := hw5.ext e9; replace hw6 := hw6.ext e9; replace hw7 := hw7.ext e9; replace hw8 := hw8.ext e9
      have z9 := e9.size
      refine J_alloc st37 rfl (fun b3 w10 e10 s3 h3 => ?_)
      have g_b3 : w.heap.size ≤ b3 := by have := E.size; omega
      have y_b3 := h3.lt
      replace E := E.trans e10; replace h1 := h1.ext e10; replace h2 := h2.ext e10; replace ho1 := ho1.ext e10; replace hw1 := hw1.ext e10; replace hw2 := hw2.ext e10; replace hw3 := hw3.ext e10; replace hw4 := hw4.ext e10; replace hw5 := hw5.ext e10; replace hw6 := hw6.ext e10; replace hw7 := hw7.ext e10; replace hw8 := hw8.ext e10; replace ho3 := ho3.ext e10
      have z10 := e10.size
      refine J_storeS' (cs' := [o19, .int .i64 g.workers, .int .i64 g.cap]) st37 rfl rfl rfl (all_cons (RdD.one (OwS.rd ho3)) (all_cons rfl (all_cons rfl rfl))) h3 (Nat.le_of_ble_eq_true rfl) rfl (fun w11 m1 h3' => ?_)
      replace h3 := h3'
      replace E := E.step m1 (fun g hg => by cases hg; omega); replace h1 := h1.mod m1 (fun g hg => by cases hg; omega); replace h2 := h2.mod m1 (fun g hg => by cases hg; omega); replace ho1 := ho1.mod m1 (fun g hg => by cases hg; omega); replace hw1 := hw1.mod m1 (fun g hg => by cases hg; omega); replace hw2 := hw2.mod m1 (fun g hg => by cases hg; omega); replace hw3 := hw3.mod m1 (fun g hg => by cases hg; omega); replace hw4 := hw4.mod m1 (fun g hg => by cases hg; omega); replace hw5 := hw5.mod m1 (fun g hg => by cases hg; omega); replace hw6 := hw6.mod m1 (fun g hg => by cases hg; omega); replace hw7 := hw7.mod m1 (fun g hg => by cases hg; omega); replace hw8 := hw8.mod m1 (fun g hg => by cases hg; omega); replace ho3 := ho3.mod m1 (fun g hg => by cases hg; omega)
      have z11 := m1.size
      refine J_done ?_
      refine S_seq ?_
      refine S_reg [true, false, false, false] rfl rfl ?_
      refine J_st (R_loadS st31 rfl h2.at rfl) rfl ?_
      refine J_call Try.call8 rfl (c_toWorker [o2, o3, o4, o5, o6, o7, o8, o9] x _ (Worker.mkR x (RdD.any (hd2.ext E)) (RdD.any (hd3.ext E)) (RdD.any (hd4.ext E)) (RdD.any (hd5.ext E)) (RdD.any (hd6.ext E)) (RdD.any (hd7.ext E)) (RdD.any (hd8.ext E)) (RdD.any (hd9.ext E))) (by first | omega | (simp only [mkL_length]; omega) | (rw [mkL_length]))) rfl (fun _ w12 e11 ho4 => ?_)
      obtain ⟨_, rfl, ho4⟩ := ho4
      have g_ho4 : w.heap.size ≤ w11.heap.size := E.size
      replace E := E.trans e11; replace h1 := h1.ext e11; replace h2 := h2.ext e11; replace ho1 := ho1.ext e11; replace hw1 := hw1.ext e11; replace hw2 := hw2.ext e11; replace hw3 := hw3.ext e11; replace hw4 := hw4.ext e11; replace hw5 := hw5.ext e11; replace hw6 := hw6.ext e11; replace hw7 := hw7.ext e11; replace hw8 := hw8.ext e11; replace ho3 := ho3.ext e11; replace h3 := h3.ext e11
      have z12 := e11.size
      obtain ⟨o20, o21, o22, o23, o24, o25, o26, o27, rfl, sp2, hw9, hw10, hw11, hw12, hw13, hw14, hw15, hw16⟩ := Worker.opO ho4
      refine J_alloc st43 rfl (fun b4 w13 e12 s4 h4 => ?_)
      have g_b4 : w.heap.size ≤ b4 := by have := E.size; omega
      have y_b4 := h4.lt
      replace E := E.trans e12; replace h1 := h1.ext e12; replace h2 := h2.ext e12; replace ho1 := ho1.ext e12; replace hw1 := hw1.ext e12; replace hw2 := hw2.ext e12; replace hw3 := hw3.ext e12; replace hw4 := hw4.ext e12; replace hw5 := hw5.ext e12; replace hw6 := hw6.ext e12; replace hw7 := hw7.ext e12; replace hw8 := hw8.ext e12; replace ho3 := ho3.ext e12; replace h3 := h3.ext e12; replace hw9 := hw9.ext e12; replace hw10 := hw10.ext e12; replace hw11 := hw11.ext e12; replace hw12 := hw12.ext e12; replace hw13 := hw13.ext e12; replace hw14 := hw14.ext e12; replace hw15 := hw15.ext e12; replace hw16 := hw16.ext e12
      have z13 := e12.size
      refine J_storeS' (cs' := [o20, o21, o22, o23, o24, o25, o26, o27]) st43 rfl rfl rfl (all_cons hw9.one (all_cons hw10.one (all_cons hw11.one (all_cons hw12.one (all_cons hw13.one (all_cons hw14.one (all_cons hw15.one (all_cons hw16.one rfl)))))))) h4 (Nat.le_of_ble_eq_true rfl) rfl (fun w14 m2 h4' => ?_)
      replace h4 := h4'
      replace E := E.step m2 (fun g hg => by cases hg; omega); replace h1 := h1.mod m2 (fun g hg => by cases hg; omega); replace h2 := h2.mod m2 (fun g hg => by cases hg; omega); replace ho1 := ho1.mod m2 (fun g hg => by cases hg; omega); replace hw1 := hw1.mod m2 (fun g hg => by cases hg; omega); replace hw2 := hw2.mod m2 (fun g hg => by cases hg; omega); replace hw3 := hw3.mod m2 (fun g hg => by cases hg; omega); replace hw4 := hw4.mod m2 (fun g hg => by cases hg; omega); replace hw5 := hw5.mod m2 (fun g hg => by cases hg; omega); replace hw6 := hw6.mod m2 (fun g hg => by cases hg; omega); replace hw7 := hw7.mod m2 (fun g hg => by cases hg; omega); replace hw8 := hw8.mod m2 (fun g hg => by cases hg; omega); replace ho3 := ho3.mod m2 (fun g hg => by cases hg; omega); replace h3 := h3.mod m2 (fun g hg => by cases hg; omega); replace hw9 := hw9.mod m2 (fun g hg => by cases hg; omega); replace hw10 := hw10.mod m2 (fun g hg => by cases hg; omega); replace hw11 := hw11.mod m2 (fun g hg => by cases hg; omega); replace hw12 := hw12.mod m2 (fun g hg => by cases hg; omega); replace hw13 := hw13.mod m2 (fun g hg => by cases hg; omega); replace hw14 := hw14.mod m2 (fun g hg => by cases hg; omega); replace hw15 := hw15.mod m2 (fun g hg => by cases hg; omega); replace hw16 := hw16.mod m2 (fun g hg => by cases hg; omega)
      have z14 := m2.size
      refine J_done ?_
      refine S_seq ?_
      refine S_reg [true, true, false, true] rfl rfl ?_
      refine J_st (R_loadS st37 rfl h3.at rfl) rfl (J_st (R_loadS st43 rfl h4.at rfl) rfl ?_)
      refine J_call Try.call9 rfl (c_WorkerOk [o19, .int .i64 g.workers, .int .i64 g.cap] g [o20, o21, o22, o23, o24, o25, o26, o27] x _ (Graph.mkR g (RdD.any (OwS.rd ho3))) (Worker.mkR x (RdD.any (Own.rdD hw9)) (RdD.any (Own.rdD hw10)) (RdD.any (Own.rdD hw11)) (RdD.any (Own.rdD hw12)) (RdD.any (Own.rdD hw13)) (RdD.any (Own.rdD hw14)) (RdD.any (Own.rdD hw15)) (RdD.any (Own.rdD hw16)))) rfl (fun _ w15 e13 hv => ?_)
      subst hv
      replace E := E.trans e13; replace h1 := h1.ext e13; replace h2 := h2.ext e13; replace ho1 := ho1.ext e13; replace hw1 := hw1.ext e13; replace hw2 := hw2.ext e13; replace hw3 := hw3.ext e13; replace hw4 := hw4.ext e13; replace hw5 := hw5.ext e13; replace hw6 := hw6.ext e13; replace hw7 := hw7.ext e13; replace hw8 := hw8.ext e13; replace ho3 := ho3.ext e13; replace h3 := h3.ext e13; replace hw9 := hw9.ext e13; replace hw10 := hw10.ext e13; replace hw11 := hw11.ext e13; replace hw12 := hw12.ext e13; replace hw13 := hw13.ext e13; replace hw14 := hw14.ext e13; replace hw15 := hw15.ext e13; replace hw16 := hw16.ext e13; replace h4 := h4.ext e13
      have z15 := e13.size
      refine J_st (R_assign rfl) rfl (J_done ?_)
      refine S_seq ?_
      refine S_seq ?_
      refine S_reg [true, true, true] rfl rfl ?_
      refine J_st (R_move rfl) rfl (J_st (R_move rfl) rfl (J_st (R_neqB (Try.underlying4) rfl rfl) rfl (J_done ?_)))
      refine S_condFe rfl (by first | (simp; done) | (simp only [nat_nlt] <;> simp) | (simp only [mkL_length, nat_nlt] <;> simp) | (simp only [mkL_length] <;> simp)) ?_
      refine S_skip ?_
      refine S_seq ?_
      refine S_seq ?_
      refine S_regD mixed [(0, true), (1, true), (2, false), (3, false), (4, true)] (by decide +kernel) rfl (fun w16 e14 => ?_)
      replace E := E.trans e14; replace h1 := h1.ext e14; replace h2 := h2.ext e14; replace ho1 := ho1.ext e14; replace hw1 := hw1.ext e14; replace hw2 := hw2.ext e14; replace hw3 := hw3.ext e14; replace hw4 := hw4.ext e14; replace hw5 := hw5.ext e14; replace hw6 := hw6.ext e14; replace hw7 := hw7.ext e14; replace hw8 := hw8.ext e14; replace ho3 := ho3.ext e14; replace h3 := h3.ext e14; replace hw9 := hw9.ext e14; replace hw10 := hw10.ext e14; replace hw11 := hw11.ext e14; replace hw12 := hw12.ext e14; replace hw13 := hw13.ext e14; replace hw14 := hw14.ext e14; replace hw15 := hw15.ext e14; replace hw16 := hw16.ext e14; replace h4 := h4.ext e14
      have z16 := e14.size
      refine J_st (R_loadS st37 rfl h3.at rfl) rfl (J_st (R_loadS st24 rfl h1.at rfl) rfl ?_)
      refine J_call Try.call7 rfl (c_toGraph [o1, .int .i64 g.workers, .int .i64 g.cap] g _ (Graph.mkR g (RdD.any (hd1.ext E))) (by first | omega | (simp only [mkL_length]; omega) | (rw [mkL_length]))) rfl (fun _ w17 e15 ho5 => ?_)
      obtain ⟨o28, rfl, ho5⟩ := ho5
      have g_ho5 : w.heap.size ≤ w16.heap.size := E.size
      replace E := E.trans e15; replace h1 := h1.ext e15; replace h2 := h2.ext e15; replace ho1 := ho1.ext e15; replace hw1 := hw1.ext e15; replace hw2 := hw2.ext e15; replace hw3 := hw3.ext e15; replace hw4 := hw4.ext e15; replace hw5 := hw5.ext e15; replace hw6 := hw6.ext e15; replace hw7 := hw7.ext e15; replace hw8 := hw8.ext e15; replace ho3 := ho3.ext e15; replace h3 := h3.ext e15; replace hw9 := hw9.ext e15; replace hw10 := hw10.ext e15; replace hw11 := hw11.ext e15; replace hw12 := hw12.ext e15; replace hw13 := hw13.ext e15; replace hw14 := hw14.ext e15; replace hw15 := hw15.ext e15; replace hw16 := hw16.ext e15; replace h4 := h4.ext e15
      have z17 := e15.size
      refine J_call Try.call10 rfl (c_eqGraph [o19, .int .i64 g.workers, .int .i64 g.cap] g [o28, .int .i64 g.workers, .int .i64 g.cap] g _ (Graph.mkR g (RdD.any (OwS.rd ho3))) (Graph.mkR g (RdD.any (OwS.rd ho5)))) rfl (fun _ w18 e16 hv => ?_)
      subst hv
      replace E := E.trans e16; replace h1 := h1.ext e16; replace h2 := h2.ext e16; replace ho1 := ho1.ext e16; replace hw1 := hw1.ext e16; replace hw2 := hw2.ext e16; replace hw3 := hw3.ext e16; replace hw4 := hw4.ext e16; replace hw5 := hw5.ext e16; replace hw6 := hw6.ext e16; replace hw7 := hw7.ext e16; replace hw8 := hw8.ext e16; replace ho3 := ho3.ext e16; replace h3 := h3.ext e16; replace hw9 := hw9.ext e16; replace hw10 := hw10.ext e16; replace hw11 := hw11.ext e16; replace hw12 := hw12.ext e16; replace hw13 := hw13.ext e16; replace hw14 := hw14.ext e16; replace hw15 := hw15.ext e16; replace hw16 := hw16.ext e16; replace h4 := h4.ext e16; replace ho5 := ho5.ext e16
      have z18 := e16.size
      refine J_st (R_not rfl) rfl (J_done ?_)
      refine S_condFe rfl (by first | (simp; done) | (simp only [nat_nlt] <;> simp) | (simp only [mkL_length, nat_nlt] <;> simp) | (simp only [mkL_length] <;> simp)) ?_
      refine S_skip ?_
      refine S_seq ?_
      refine S_seq ?_
      refine S_regD mixed [(0, true), (1, true), (2, false), (3, false), (4, true)] (by decide +kernel) rfl (fun w19 e17 => ?_)
      replace E := E.trans e17; replace h1 := h1.ext e17; replace h2 := h2.ext e17; replace ho1 := ho1.ext e17; replace hw1 := hw1.ext e17; replace hw2 := hw2.ext e17; replace hw3 := hw3.ext e17; replace hw4 := hw4.ext e17; replace hw5 := hw5.ext e17; replace hw6 := hw6.ext e17; replace hw7 := hw7.ext e17; replace hw8 := hw8.ext e17; replace ho3 := ho3.ext e17; replace h3 := h3.ext e17; replace hw9 := hw9.ext e17; replace hw10 := hw10.ext e17; replace hw11 := hw11.ext e17; replace hw12 := hw12.ext e17; replace hw13 := hw13.ext e17; replace hw14 := hw14.ext e17; replace hw15 := hw15.ext e17; replace hw16 := hw16.ext e17; replace h4 := h4.ext e17; replace ho5 := ho5.ext e17
      have z19 := e17.size
      refine J_st (R_loadS st43 rfl h4.at rfl) rfl (J_st (R_loadS st31 rfl h2.at rfl) rfl ?_)
      refine J_call Try.call8 rfl (c_toWorker [o2, o3, o4, o5, o6, o7, o8, o9] x _ (Worker.mkR x (RdD.any (hd2.ext E)) (RdD.any (hd3.ext E)) (RdD.any (hd4.ext E)) (RdD.any (hd5.ext E)) (RdD.any (hd6.ext E)) (RdD.any (hd7.ext E)) (RdD.any (hd8.ext E)) (RdD.any (hd9.ext E))) (by first | omega | (simp only [mkL_length]; omega) | (rw [mkL_length]))) rfl (fun _ w20 e18 ho6 => ?_)
      obtain ⟨_, rfl, ho6⟩ := ho6
      have g_ho6 : w.heap.size ≤ w19.heap.size := E.size
      replace E := E.trans e18; replace h1 := h1.ext e18; replace h2 := h2.ext e18; replace ho1 := ho1.ext e18; replace hw1 := hw1.ext e18; replace hw2 := hw2.ext e18; replace hw3 := hw3.ext e18; replace hw4 := hw4.ext e18; replace hw5 := hw5.ext e18; replace hw6 := hw6.ext e18; replace hw7 := hw7.ext e18; replace hw8 := hw8.ext e18; replace ho3 := ho3.ext e18; replace h3 := h3.ext e18; replace hw9 := hw9.ext e18; replace hw10 := hw10.ext e18; replace hw11 := hw11.ext e18; replace hw12 := hw12.ext e18; replace hw13 := hw13.ext e18; replace hw14 := hw14.ext e18; replace hw15 := hw15.ext e18; replace hw16 := hw16.ext e18; replace h4 := h4.ext e18; replace ho5 := ho5.ext e18
      have z20 := e18.size
      obtain ⟨o29, o30, o31, o32, o33, o34, o35, o36, rfl, sp3, hw17, hw18, hw19, hw20, hw21, hw22, hw23, hw24⟩ := Worker.opO ho6
      refine J_call Try.call11 rfl (c_eqWorker [o20, o21, o22, o23, o24, o25, o26, o27] x [o29, o30, o31, o32, o33, o34, o35, o36] x _ (Worker.mkR x (RdD.any (Own.rdD hw9)) (RdD.any (Own.rdD hw10)) (RdD.any (Own.rdD hw11)) (RdD.any (Own.rdD hw12)) (RdD.any (Own.rdD hw13)) (RdD.any (Own.rdD hw14)) (RdD.any (Own.rdD hw15)) (RdD.any (Own.rdD hw16))) (Worker.mkR x (RdD.any (Own.rdD hw17)) (RdD.any (Own.rdD hw18)) (RdD.any (Own.rdD hw19)) (RdD.any (Own.rdD hw20)) (RdD.any (Own.rdD hw21)) (RdD.any (Own.rdD hw22)) (RdD.any (Own.rdD hw23)) (RdD.any (Own.rdD hw24)))) rfl (fun _ w21 e19 hv => ?_)
      subst hv
      replace E := E.trans e19; replace h1 := h1.ext e19; replace h2 := h2.ext e19; replace ho1 := ho1.ext e19; replace hw1 := hw1.ext e19; replace hw2 := hw2.ext e19; replace hw3 := hw3.ext e19; replace hw4 := hw4.ext e19; replace hw5 := hw5.ext e19; replace hw6 := hw6.ext e19; replace hw7 := hw7.ext e19; replace hw8 := hw8.ext e19; replace ho3 := ho3.ext e19; replace h3 := h3.ext e19; replace hw9 := hw9.ext e19; replace hw10 := hw10.ext e19; replace hw11 := hw11.ext e19; replace hw12 := hw12.ext e19; replace hw13 := hw13.ext e19; replace hw14 := hw14.ext e19; replace hw15 := hw15.ext e19; replace hw16 := hw16.ext e19; replace h4 := h4.ext e19; replace ho5 := ho5.ext e19; replace hw17 := hw17.ext e19; replace hw18 := hw18.ext e19; replace hw19 := hw19.ext e19; replace hw20 := hw20.ext e19; replace hw21 := hw21.ext e19; replace hw22 := hw22.ext e19; replace hw23 := hw23.ext e19; replace hw24 := hw24.ext e19
      have z21 := e19.size
      refine J_st (R_not rfl) rfl (J_done ?_)
      refine S_condFe rfl (by first | (simp; done) | (simp only [nat_nlt] <;> simp) | (simp only [mkL_length, nat_nlt] <;> simp) | (simp only [mkL_length] <;> simp)) ?_
      refine S_skip ?_
      refine S_seq ?_
      refine S_reg [true] rfl rfl ?_
      refine J_st (R_assign rfl) rfl (J_done ?_)
      refine S_ret (E_done1 rfl rfl E ?_)
      rfl

end Go.Proofs.Ytdeahjinpceiaaa
