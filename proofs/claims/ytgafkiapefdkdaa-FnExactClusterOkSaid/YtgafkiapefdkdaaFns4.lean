/- What the functions that the laws call come to: a contract each; no condition. -/
import Derived.Test.YtgafkiapefdkdaaFns3
namespace Go.Proofs.Ytgafkiapefdkdaa
open Go Go.Proofs.Ytgafkiapefdkdaa.X Go.Proofs
set_option maxHeartbeats 4000000 in
set_option maxRecDepth 20000 in
theorem s_ClusterOk (cx : List Value) (x : Cluster) (w : World) (hx : Dat.R w 0 w.heap.size cx x) : Ct Try.prog 5 [.agg cx.toArray] w (fun v _ => v = .bool (clOk x)) := by
  refine ct_of Try.func5 rfl Try.ntmps5 rfl ?_
  obtain ⟨o1, o2, o3, o4, o5, rfl, hd1, hd2, hd3, hd4, hd5⟩ := Cluster.op hx
  refine S_sub [(0, .agg [o1, .int .i64 x.graph.workers, .int .i64 x.graph.cap, o2, o3, o4, o5].toArray)] ⟨rfl, trivial⟩ ?_
  have E : Ext w w := Ext.refl w
  refine S_seq ?_
  refine S_reg [false, true] rfl rfl ?_
  refine J_box rfl rfl (fun b1 w1 e1 s1 h1 => ?_)
  have g_b1 : w.heap.size ≤ b1 := by have := E.size; omega
  have y_b1 := h1.lt
  replace E := E.trans e1
  have z1 := e1.size
  refine J_st (R_assign rfl) rfl (J_done ?_)
  refine S_seq ?_
  refine S_reg [true, true, true, true] rfl rfl ?_
  refine J_st (R_fieldAddr0 fl41_0 rfl) rfl (J_st (R_fieldAddr0 fl35_1 rfl) rfl (J_st (R_load sc3 rfl (h1.one 1 rfl)) rfl (J_st (R_assign rfl) rfl (J_done ?_))))
  refine S_seq ?_
  refine S_seq ?_
  refine S_reg [true, true, false, true, true, true, true, true, true, true, true, true, true, true, true, true, true, true, true, true, true, true, true, true, true, true] rfl rfl ?_
  refine J_st (R_fieldAddr0 fl41_0 rfl) rfl (J_st (R_loadS st35 rfl (h1.part 0 [o1, .int .i64 x.graph.workers, .int .i64 x.graph.cap] rfl) rfl) rfl ?_)
  refine J_call Try.call14 rfl (s_GraphOk [o1, .int .i64 x.graph.workers, .int .i64 x.graph.cap] x.graph _ (Graph.mkR x.graph (RdD.any (hd1.ext E)))) rfl (fun _ w2 e2 hv => ?_)
  subst hv
  replace E := E.trans e2; replace h1 := h1.ext e2
  have z2 := e2.size
  refine J_st (R_not rfl) rfl (J_st (R_move rfl) rfl ?_)
  refine J_cut 21 [(0, .agg [o1, .int .i64 x.graph.workers, .int .i64 x.graph.cap, o2, o3, o4, o5].toArray), (1, .pointer (some ⟨b1, 0, none⟩)), (2, .bool false), (3, .int .i64 x.graph.workers), (9, .pointer (some ⟨b1, 0, none⟩)), (10, .pointer (some ⟨b1, 1, none⟩)), (11, .int .i64 x.graph.workers), (37, .bool ((((!(graphOk x.graph)) || (((x.workers.length : Nat) : Int) != x.graph.workers)) || (((x.links.length : Nat) : Int) != (IntKind.i64.wrap (x.graph.workers * x.graph.workers)))) || (((x.tokens.length : Nat) : Int) != 4)))] (fun w' => w2 = w') ?_ ?_
  · refine J_if (gd := 16) rfl rfl (fun hg1 => ?_) (fun hg1 => ?_)
    · refine J_gdno rfl rfl rfl rfl (J_gdno rfl rfl rfl rfl (J_gdno rfl rfl rfl rfl (J_gdno rfl rfl rfl rfl (J_gdno rfl rfl rfl rfl (J_st (R_pickT rfl rfl) rfl (J_st (R_move rfl) rfl (J_gdno rfl rfl rfl rfl (J_gdno rfl rfl rfl rfl (J_gdno rfl rfl rfl rfl (J_gdno rfl rfl rfl rfl (J_gdno rfl rfl rfl rfl (J_gdno rfl rfl rfl rfl (J_gdno rfl rfl rfl rfl (J_st (R_pickT rfl rfl) rfl (J_st (R_move rfl) rfl (J_gdno rfl rfl rfl rfl (J_gdno rfl rfl rfl rfl (J_gdno rfl rfl rfl rfl (J_gdno rfl rfl rfl rfl (J_st (R_pickT rfl rfl) rfl (J_cutEnd ⟨rfl, rfl, rfl, rfl, rfl, rfl, rfl, congrArg (fun b => some (Value.bool b)) (show true = ((((!(graphOk x.graph)) || (((x.workers.length : Nat) : Int) != x.graph.workers)) || (((x.links.length : Nat) : Int) != (IntKind.i64.wrap (x.graph.workers * x.graph.workers)))) || (((x.tokens.length : Nat) : Int) != 4)) by first | (rw [hg1] <;> rfl) | (simp [hg1]; done) | (simp only [nat_nlt] <;> simp)), trivial⟩ rfl)))))))))))))))))))))
    · refine J_gd rfl rfl (R_fieldAddr0 fl41_1 rfl) rfl (J_gd rfl rfl (R_load sc36 rfl (h1.one 3 rfl)) rfl (J_gd rfl rfl (R_len Try.underlying36 rfl (hd2.ext E).len) rfl (J_gd rfl rfl (R_move rfl) rfl (J_gd rfl rfl (R_neq rfl rfl) rfl (J_st (R_pickF rfl rfl) rfl (J_st (R_move rfl) rfl ?_))))))
      refine J_if (gd := 23) rfl rfl (fun hg2 => ?_) (fun hg2 => ?_)
      · refine J_gdno rfl rfl rfl rfl (J_gdno rfl rfl rfl rfl (J_gdno rfl rfl rfl rfl (J_gdno rfl rfl rfl rfl (J_gdno rfl rfl rfl rfl (J_gdno rfl rfl rfl rfl (J_gdno rfl rfl rfl rfl (J_st (R_pickT rfl rfl) rfl (J_st (R_move rfl) rfl (J_gdno rfl rfl rfl rfl (J_gdno rfl rfl rfl rfl (J_gdno rfl rfl rfl rfl (J_gdno rfl rfl rfl rfl (J_st (R_pickT rfl rfl) rfl (J_cutEnd ⟨rfl, rfl, rfl, rfl, rfl, rfl, rfl, congrArg (fun b => some (Value.bool b)) (show true = ((((!(graphOk x.graph)) || (((x.workers.length : Nat) : Int) != x.graph.workers)) || (((x.links.length : Nat) : Int) != (IntKind.i64.wrap (x.graph.workers * x.graph.workers)))) || (((x.tokens.length : Nat) : Int) != 4)) by first | (rw [hg1, hg2] <;> rfl) | (simp [hg1, hg2]; done) | (simp only [nat_nlt] <;> simp)), trivial⟩ rfl))))))))))))))
      · refine J_gd rfl rfl (R_fieldAddr0 fl41_2 rfl) rfl (J_gd rfl rfl (R_load sc37 rfl (h1.one 4 rfl)) rfl (J_gd rfl rfl (R_len Try.underlying37 rfl (hd3.ext E).len) rfl (J_gd rfl rfl (R_move rfl) rfl (J_gd rfl rfl (R_move rfl) rfl (J_gd rfl rfl (R_mul rfl rfl rfl) rfl (J_gd rfl rfl (R_neq rfl rfl) rfl (J_st (R_pickF rfl rfl) rfl (J_st (R_move rfl) rfl ?_))))))))
        refine J_if (gd := 32) rfl rfl (fun hg3 => ?_) (fun hg3 => ?_)
        · refine J_gdno rfl rfl rfl rfl (J_gdno rfl rfl rfl rfl (J_gdno rfl rfl rfl rfl (J_gdno rfl rfl rfl rfl (J_st (R_pickT rfl rfl) rfl (J_cutEnd ⟨rfl, rfl, rfl, rfl, rfl, rfl, rfl, congrArg (fun b => some (Value.bool b)) (show true = ((((!(graphOk x.graph)) || (((x.workers.length : Nat) : Int) != x.graph.workers)) || (((x.links.length : Nat) : Int) != (IntKind.i64.wrap (x.graph.workers * x.graph.workers)))) || (((x.tokens.length : Nat) : Int) != 4)) by first | (rw [hg1, hg2, hg3] <;> rfl) | (simp [hg1, hg2, hg3]; done) | (simp only [nat_nlt] <;> simp)), trivial⟩ rfl)))))
        · refine J_gd rfl rfl (R_fieldAddr0 fl41_3 rfl) rfl (J_gd rfl rfl (R_load sc38 rfl (h1.one 5 rfl)) rfl (J_gd rfl rfl (R_len Try.underlying38 rfl (hd4.ext E).len) rfl (J_gd rfl rfl (R_neq rfl rfl) rfl (J_st (R_pickF rfl rfl) rfl (J_cutEnd ⟨rfl, rfl, rfl, rfl, rfl, rfl, rfl, congrArg (fun b => some (Value.bool b)) (show (((x.tokens.length : Nat) : Int) != 4) = ((((!(graphOk x.graph)) || (((x.workers.length : Nat) : Int) != x.graph.workers)) || (((x.links.length : Nat) : Int) != (IntKind.i64.wrap (x.graph.workers * x.graph.workers)))) || (((x.tokens.length : Nat) : Int) != 4)) by first | (rw [hg1, hg2, hg3] <;> rfl) | (simp [hg1, hg2, hg3]; done) | (simp only [nat_nlt] <;> simp)), trivial⟩ rfl)))))
  rintro _ rfl
  refine J_done ?_
  refine S_cond rfl (fun hc1 => ?_) (fun hc1 => ?_)
  · refine S_seq ?_
    refine S_reg [true] rfl rfl ?_
    refine J_st (R_assign rfl) rfl (J_done ?_)
    refine S_ret (E_done1 rfl rfl E ?_)
    exact cl_0 hc1
  · have hgw := cl_g hc1
    have hlw := cl_w hc1
    refine S_skip ?_
    refine S_seq ?_
    refine S_seq ?_
    refine S_reg [true] rfl rfl ?_
    refine J_st (R_assign rfl) rfl (J_done ?_)
    refine S_block ?_
    refine S_loop (fun (k : Nat) => [(1, .pointer (some ⟨b1, 0, none⟩)), (2, .bool false), (3, .int .i64 x.graph.workers), (4, .int .i64 ((k : Nat) : Int))]) (fun (k : Nat) w' => Ext w w' ∧ w2.heap.size ≤ w'.heap.size ∧ Blk w' b1 ([o1, .int .i64 x.graph.workers, .int .i64 x.graph.cap, o2, o3, o4, o5]) ∧ k ≤ x.workers.length ∧ (x.workers.take k).all (workerOk x.graph) = true) (fun (k : Nat) => x.workers.length - k) 0 ⟨rfl, rfl, rfl, rfl, trivial⟩ ⟨E, Nat.le_refl _, h1, Nat.zero_le _, rfl⟩ ?_
    clear E h1
    rintro k w4 ⟨E, z3, h1, hk, hI1⟩
    have hmw := hd2.1.1
    unfold maxLen at hmw
    refine S_seq ?_
    refine S_seq ?_
    refine S_reg [true, true, true] rfl rfl ?_
    refine J_st (R_move rfl) rfl (J_st (R_move rfl) rfl (J_st (R_lss rfl rfl) rfl (J_done ?_)))
    refine S_cond rfl (fun hc2 => ?_) (fun hc2 => ?_)
    · have hlt := of_decide_eq_true hc2
      refine S_skip ?_
      refine S_seq ?_
      refine S_block ?_
      refine S_seq ?_
      refine S_regD mixed [(0, true), (1, true), (2, true), (3, true), (4, true), (5, true), (6, true), (7, false), (8, true)] (by decide +kernel) rfl (fun w5 e3 => ?_)
      replace E := E.trans e3; replace h1 := h1.ext e3
      have z4 := e3.size
      refine J_st (R_fieldAddr0 fl41_0 rfl) rfl (J_st (R_loadS st35 rfl (h1.part 0 [o1, .int .i64 x.graph.workers, .int .i64 x.graph.cap] rfl) rfl) rfl (J_st (R_fieldAddr0 fl41_1 rfl) rfl (J_st (R_load sc36 rfl (h1.one 3 rfl)) rfl (J_st (R_move rfl) rfl ?_))))
      have hi1 : k < x.workers.length := (by first | assumption | omega)
      obtain ⟨_, hr1, ha1⟩ := RdD.get hd2 hi1
      obtain ⟨o6, o7, o8, o9, o10, o11, o12, o13, rfl, hd6, hd7, hd8, hd9, hd10, hd11, hd12, hd13⟩ := Worker.op hr1
      replace ha1 : At w (sblk o2) (soff o2 + k * 8) [o6, o7, o8, o9, o10, o11, o12, o13] := ha1
      refine J_st (R_index (i := k) sl36 rfl rfl (hd2.ext E).1 hi1) rfl (J_st (R_loadS st58 rfl (ha1.ext E) rfl) rfl ?_)
      refine J_call Try.call15 rfl (s_WorkerOk [o1, .int .i64 x.graph.workers, .int .i64 x.graph.cap] x.graph [o6, o7, o8, o9, o10, o11, o12, o13] (x.workers[k]'hi1) _ (Graph.mkR x.graph (RdD.any (hd1.ext E))) (Worker.mkR (x.workers[k]'hi1) (RdD.any (hd6.ext E)) (RdD.any (hd7.ext E)) (RdD.any (hd8.ext E)) (RdD.any (hd9.ext E)) (RdD.any (hd10.ext E)) (RdD.any (hd11.ext E)) (RdD.any (hd12.ext E)) (RdD.any (hd13.ext E)))) rfl (fun _ w6 e4 hv => ?_)
      subst hv
      replace E := E.trans e4; replace h1 := h1.ext e4
      have z5 := e4.size
      refine J_st (R_not rfl) rfl (J_done ?_)
      refine S_cond rfl (fun hc3 => ?_) (fun hc3 => ?_)
      · refine S_seq ?_
        refine S_reg [true] rfl rfl ?_
        refine J_st (R_assign rfl) rfl (J_done ?_)
        refine S_ret (E_inB_ret (E_lp_ret (E_inB_ret (E_done1 rfl rfl E ?_))))
        exact cl_1 (by assumption) (by simpa using hc3)
      · refine S_skip ?_
        refine S_nil (E_inB ?_)
        refine S_reg [true, true, true] rfl rfl ?_
        refine J_st (R_move rfl) rfl (J_st (R_add rfl rfl (add_nat (by unfold maxLen; omega))) rfl (J_st (R_assign rfl) rfl (J_done ?_)))
        refine S_nil (E_again (k + 1) (by omega) ⟨rfl, rfl, rfl, rfl, trivial⟩ ⟨E, (by omega), h1, (by omega), all_step hI1 (by assumption) (by simpa using hc3)⟩)
    · have hge := of_decide_eq_false hc2
      refine S_exit (E_lp_exit (E_inB_exit ?_))
      refine S_seq ?_
      refine S_seq ?_
      refine S_reg [true] rfl rfl ?_
      refine J_st (R_assign rfl) rfl (J_done ?_)
      refine S_block ?_
      refine S_loop (fun (k : Nat) => [(1, .pointer (some ⟨b1, 0, none⟩)), (2, .bool false), (3, .int .i64 x.graph.workers), (5, .int .i64 ((k : Nat) : Int))]) (fun (k : Nat) w' => Ext w w' ∧ w4.heap.size ≤ w'.heap.size ∧ Blk w' b1 ([o1, .int .i64 x.graph.workers, .int .i64 x.graph.cap, o2, o3, o4, o5]) ∧ k ≤ x.links.length ∧ allR k (fun j => !lkBad x.graph j (List.getD x.links j default)) = true) (fun (k : Nat) => x.links.length - k) 0 ⟨rfl, rfl, rfl, rfl, trivial⟩ ⟨E, Nat.le_refl _, h1, Nat.zero_le _, rfl⟩ ?_
      clear E h1
      rintro k w7 ⟨E, z6, h1, hk, hI2⟩
      have hml := hd3.1.1
      unfold maxLen at hml
      refine S_seq ?_
      refine S_seq ?_
      refine S_reg [true, true, true, true, true] rfl rfl ?_
      refine J_st (R_move rfl) rfl (J_st (R_fieldAddr0 fl41_2 rfl) rfl (J_st (R_load sc37 rfl (h1.one 4 rfl)) rfl (J_st (R_len Try.underlying37 rfl (hd3.ext E).len) rfl (J_st (R_lss rfl rfl) rfl (J_done ?_)))))
      refine S_cond rfl (fun hc4 => ?_) (fun hc4 => ?_)
      · have hc4n : k < x.links.length := by first | (have h := of_decide_eq_true hc4; omega) | (have h := hc4; simp at h; omega)
        refine S_skip ?_
        refine S_seq ?_
        refine S_block ?_
        refine S_seq ?_
        refine S_reg [true, true, true, true, true, false, false] rfl rfl ?_
        refine J_st (R_fieldAddr0 fl41_2 rfl) rfl (J_st (R_load sc37 rfl (h1.one 4 rfl)) rfl (J_st (R_move rfl) rfl ?_))
        have hi2 : k < x.links.length := (by first | assumption | omega)
        obtain ⟨_, hr2, ha2⟩ := RdD.get hd3 hi2
        obtain ⟨o14, rfl, hd14⟩ := Link.op hr2
        replace ha2 : At w (sblk o3) (soff o3 + k * 6) [.int .i64 ((x.links[k]'hi2).cap), o14, .int .i64 ((x.links[k]'hi2).credits), .int .i64 ((x.links[k]'hi2).back), .int .i64 ((x.links[k]'hi2).sent), .int .i64 ((x.links[k]'hi2).got)] := ha2
        refine J_st (R_index (i := k) sl37 rfl rfl (hd3.ext E).1 hi2) rfl (J_st (R_loadS st60 rfl (ha2.ext E) rfl) rfl ?_)
        refine J_alloc st60 rfl (fun b2 w8 e5 s2 h2 => ?_)
        have g_b2 : w.heap.size ≤ b2 := by have := E.size; omega
        have y_b2 := h2.lt
        replace E := E.trans e5; replace h1 := h1.ext e5
        have z7 := e5.size
        refine J_storeS' (cs' := [.int .i64 ((x.links[k]'hi2).cap), o14, .int .i64 ((x.links[k]'hi2).credits), .int .i64 ((x.links[k]'hi2).back), .int .i64 ((x.links[k]'hi2).sent), .int .i64 ((x.links[k]'hi2).got)]) st60 rfl rfl rfl (all_cons rfl (all_cons (RdD.one (hd14.ext E)) (all_cons rfl (all_cons rfl (all_cons rfl (all_cons rfl rfl)))))) h2 (Nat.le_of_ble_eq_true rfl) rfl (fun w9 m1 h2' => ?_)
        replace h2 := h2'
        replace E := E.step m1 (fun g hg => by cases hg; omega); replace h1 := h1.mod m1 (fun g hg => by cases hg; omega)
        have z8 := m1.size
        refine J_done ?_
        refine S_seq ?_
        refine S_regD mixed [(0, true), (1, false), (2, true), (3, true), (4, true), (5, true), (6, true), (7, true), (8, true), (9, true), (10, true), (11, true), (12, true), (13, true), (14, true), (15, true), (16, false), (17, true), (18, true), (19, true), (20, true), (21, true), (22, true), (23, true), (24, true), (25, true), (26, true), (27, true), (28, true), (29, true), (30, true), (31, true), (32, true), (33, true)] (by decide +kernel) rfl (fun w10 e6 => ?_)
        replace E := E.trans e6; replace h1 := h1.ext e6; replace h2 := h2.ext e6
        have z9 := e6.size
        refine J_st (R_loadS st60 rfl h2.at rfl) rfl ?_
        refine J_call Try.call16 rfl (s_LinkOk [.int .i64 ((x.links[k]'hi2).cap), o14, .int .i64 ((x.links[k]'hi2).credits), .int .i64 ((x.links[k]'hi2).back), .int .i64 ((x.links[k]'hi2).sent), .int .i64 ((x.links[k]'hi2).got)] (x.links[k]'hi2) _ (Link.mkR (x.links[k]'hi2) (RdD.any (hd14.ext E)))) rfl (fun _ w11 e7 hv => ?_)
        subst hv
        replace E := E.trans e7; replace h1 := h1.ext e7; replace h2 := h2.ext e7
        have z10 := e7.size
        refine J_st (R_not rfl) rfl (J_st (R_move rfl) rfl ?_)
        refine J_cut 30 [(1, .pointer (some ⟨b1, 0, none⟩)), (2, .bool false), (3, .int .i64 x.graph.workers), (5, .int .i64 ((k : Nat) : Int)), (6, .pointer (some ⟨b2, 0, none⟩)), (52, .int .i64 ((k : Nat) : Int)), (53, .pointer (some ⟨b1, 4, none⟩)), (54, o3), (55, .int .i64 ((x.links.length : Nat) : Int)), (56, .bool (decide (((k : Nat) : Int) < ((x.links.length : Nat) : Int)))), (59, .pointer (some ⟨b1, 4, none⟩)), (60, o3), (61, .int .i64 ((k : Nat) : Int)), (62, .pointer (some ⟨sblk o3, soff o3 + k * 6, none⟩)), (63, .agg [.int .i64 ((x.links[k]'hi2).cap), o14, .int .i64 ((x.links[k]'hi2).credits), .int .i64 ((x.links[k]'hi2).back), .int .i64 ((x.links[k]'hi2).sent), .int .i64 ((x.links[k]'hi2).got)].toArray), (97, .bool ((((!(linkOk (x.links[k]'hi2))) || (((x.links[k]'hi2).cap) != x.graph.cap)) || (!(((x.links[k]'hi2).queue).all (opOk x.graph)))) || (((IntKind.i64.wrap (Int.tdiv ((k : Nat) : Int) x.graph.workers)) == (Int.tmod ((k : Nat) : Int) x.graph.workers)) && (decide (0 < ((((x.links[k]'hi2).queue).length : Nat) : Int))))))] (fun w' => Ext w w' ∧ w11.heap.size ≤ w'.heap.size ∧ Blk w' b1 ([o1, .int .i64 x.graph.workers, .int .i64 x.graph.cap, o2, o3, o4, o5]) ∧ Blk w' b2 [.int .i64 ((x.links[k]'hi2).cap), o14, .int .i64 ((x.links[k]'hi2).credits), .int .i64 ((x.links[k]'hi2).back), .int .i64 ((x.links[k]'hi2).sent), .int .i64 ((x.links[k]'hi2).got)]) ?_ ?_
        · refine J_if (gd := 67) rfl rfl (fun hg4 => ?_) (fun hg4 => ?_)
          · refine J_gdno rfl rfl rfl rfl (J_gdno rfl rfl rfl rfl (J_gdno rfl rfl rfl rfl (J_gdno rfl rfl rfl rfl (J_gdno rfl rfl rfl rfl (J_gdno rfl rfl rfl rfl (J_st (R_pickT rfl rfl) rfl (J_st (R_move rfl) rfl (J_gdno rfl rfl rfl rfl (J_gdno rfl rfl rfl rfl (J_gdno rfl rfl rfl rfl (J_gdno rfl rfl rfl rfl ?_)))))))))))
            refine J_ungno rfl rfl rfl rfl ?_
            refine J_gdno rfl rfl rfl rfl (J_st (R_pickT rfl rfl) rfl (J_st (R_move rfl) rfl (J_gdno rfl rfl rfl rfl (J_gdno rfl rfl rfl rfl (J_gdno rfl rfl rfl rfl (J_gdno rfl rfl rfl rfl (J_gdno rfl rfl rfl rfl (J_gdno rfl rfl rfl rfl (J_gdno rfl rfl rfl rfl (J_gdno rfl rfl rfl rfl (J_gdx rfl rfl rfl (J_gdx rfl rfl rfl (J_gdx rfl rfl rfl (J_gdx rfl rfl rfl (J_gdno rfl rfl rfl rfl (J_st (R_pickT rfl rfl) rfl (J_cutEnd ⟨rfl, rfl, rfl, rfl, rfl, rfl, rfl, rfl, rfl, rfl, rfl, rfl, rfl, rfl, rfl, congrArg (fun b => some (Value.bool b)) (show true = ((((!(linkOk (x.links[k]'hi2))) || (((x.links[k]'hi2).cap) != x.graph.cap)) || (!(((x.links[k]'hi2).queue).all (opOk x.graph)))) || (((IntKind.i64.wrap (Int.tdiv ((k : Nat) : Int) x.graph.workers)) == (Int.tmod ((k : Nat) : Int) x.graph.workers)) && (decide (0 < ((((x.links[k]'hi2).queue).length : Nat) : Int))))) by first | (rw [hg4] <;> rfl) | (simp [hg4]; done) | (simp only [nat_nlt] <;> simp)), trivial⟩ ⟨E, (by omega), h1, h2⟩)))))))))))))))))
          · refine J_gd rfl rfl (R_fieldAddr0 fl60_0 rfl) rfl (J_gd rfl rfl (R_load sc3 rfl (h2.one 0 rfl)) rfl (J_gd rfl rfl (R_fieldAddr0 fl41_0 rfl) rfl (J_gd rfl rfl (R_fieldAddr0 fl35_2 rfl) rfl (J_gd rfl rfl (R_load sc3 rfl (h1.one 2 rfl)) rfl (J_gd rfl rfl (R_neq rfl rfl) rfl (J_st (R_pickF rfl rfl) rfl (J_st (R_move rfl) rfl ?_)))))))
            refine J_if (gd := 75) rfl rfl (fun hg5 => ?_) (fun hg5 => ?_)
            · refine J_gdno rfl rfl rfl rfl (J_gdno rfl rfl rfl rfl (J_gdno rfl rfl rfl rfl (J_gdno rfl rfl rfl rfl ?_)))
              refine J_ungno rfl rfl rfl rfl ?_
              refine J_gdno rfl rfl rfl rfl (J_st (R_pickT rfl rfl) rfl (J_st (R_move rfl) rfl (J_gdno rfl rfl rfl rfl (J_gdno rfl rfl rfl rfl (J_gdno rfl rfl rfl rfl (J_gdno rfl rfl rfl rfl (J_gdno rfl rfl rfl rfl (J_gdno rfl rfl rfl rfl (J_gdno rfl rfl rfl rfl (J_gdno rfl rfl rfl rfl (J_gdx rfl rfl rfl (J_gdx rfl rfl rfl (J_gdx rfl rfl rfl (J_gdx rfl rfl rfl (J_gdno rfl rfl rfl rfl (J_st (R_pickT rfl rfl) rfl (J_cutEnd ⟨rfl, rfl, rfl, rfl, rfl, rfl, rfl, rfl, rfl, rfl, rfl, rfl, rfl, rfl, rfl, congrArg (fun b => some (Value.bool b)) (show true = ((((!(linkOk (x.links[k]'hi2))) || (((x.links[k]'hi2).cap) != x.graph.cap)) || (!(((x.links[k]'hi2).queue).all (opOk x.graph)))) || (((IntKind.i64.wrap (Int.tdiv ((k : Nat) : Int) x.graph.workers)) == (Int.tmod ((k : Nat) : Int) x.graph.workers)) && (decide (0 < ((((x.links[k]'hi2).queue).length : Nat) : Int))))) by first | (rw [hg4, hg5] <;> rfl) | (simp [hg4, hg5]; done) | (simp only [nat_nlt] <;> simp)), trivial⟩ ⟨E, (by omega), h1, h2⟩)))))))))))))))))
            · refine J_gd rfl rfl (R_fieldAddr0 fl41_0 rfl) rfl (J_gd rfl rfl (R_loadS st35 rfl (h1.part 0 [o1, .int .i64 x.graph.workers, .int .i64 x.graph.cap] rfl) rfl) rfl (J_gd rfl rfl (R_fieldAddr0 fl60_1 rfl) rfl (J_gd rfl rfl (R_load sc52 rfl (h2.one 1 rfl)) rfl ?_)))
              refine J_ung rfl rfl ?_
              refine J_call Try.call17 rfl (s_l12Records [o1, .int .i64 x.graph.workers, .int .i64 x.graph.cap] x.graph o14 ((x.links[k]'hi2).queue) _ (Graph.mkR x.graph (RdD.any (hd1.ext E))) (hd14.rd.ext E)) rfl (fun _ w13 e8 hv => ?_)
              subst hv
              replace E := E.trans e8; replace h1 := h1.ext e8; replace h2 := h2.ext e8
              have z11 := e8.size
              refine J_gd rfl rfl (R_not rfl) rfl (J_st (R_pickF rfl rfl) rfl (J_st (R_move rfl) rfl ?_))
              refine J_if (gd := 83) rfl rfl (fun hg6 => ?_) (fun hg6 => ?_)
              · refine J_gdno rfl rfl rfl rfl (J_gdno rfl rfl rfl rfl (J_gdno rfl rfl rfl rfl (J_gdno rfl rfl rfl rfl (J_gdno rfl rfl rfl rfl (J_gdno rfl rfl rfl rfl (J_gdno rfl rfl rfl rfl (J_gdno rfl rfl rfl rfl (J_gdx rfl rfl rfl (J_gdx rfl rfl rfl (J_gdx rfl rfl rfl (J_gdx rfl rfl rfl (J_gdno rfl rfl rfl rfl (J_st (R_pickT rfl rfl) rfl (J_cutEnd ⟨rfl, rfl, rfl, rfl, rfl, rfl, rfl, rfl, rfl, rfl, rfl, rfl, rfl, rfl, rfl, congrArg (fun b => some (Value.bool b)) (show true = ((((!(linkOk (x.links[k]'hi2))) || (((x.links[k]'hi2).cap) != x.graph.cap)) || (!(((x.links[k]'hi2).queue).all (opOk x.graph)))) || (((IntKind.i64.wrap (Int.tdiv ((k : Nat) : Int) x.graph.workers)) == (Int.tmod ((k : Nat) : Int) x.graph.workers)) && (decide (0 < ((((x.links[k]'hi2).queue).length : Nat) : Int))))) by first | (rw [hg4, hg5, hg6] <;> rfl) | (simp [hg4, hg5, hg6]; done) | (simp only [nat_nlt] <;> simp)), trivial⟩ ⟨E, (by omega), h1, h2⟩))))))))))))))
              · refine J_gd rfl rfl (R_move rfl) rfl (J_gd rfl rfl (R_move rfl) rfl (J_gd rfl rfl (R_quo rfl rfl (by omega) rfl) rfl (J_gd rfl rfl (R_move rfl) rfl (J_gd rfl rfl (R_move rfl) rfl (J_gd rfl rfl (R_rem rfl rfl (by omega) rfl) rfl (J_gd rfl rfl (R_eql rfl rfl) rfl (J_gd rfl rfl (R_move rfl) rfl ?_)))))))
                refine J_if (gd := 91) rfl rfl (fun hg7 => ?_) (fun hg7 => ?_)
                · refine J_gd rfl rfl (R_fieldAddr0 fl60_1 rfl) rfl (J_gd rfl rfl (R_load sc52 rfl (h2.one 1 rfl)) rfl (J_gd rfl rfl (R_len Try.underlying52 rfl (hd14.ext E).len) rfl (J_gd rfl rfl (R_gtr rfl rfl) rfl (J_gd rfl rfl (R_pickT rfl rfl) rfl (J_st (R_pickF rfl rfl) rfl (J_cutEnd ⟨rfl, rfl, rfl, rfl, rfl, rfl, rfl, rfl, rfl, rfl, rfl, rfl, rfl, rfl, rfl, congrArg (fun b => some (Value.bool b)) (show (decide (0 < ((((x.links[k]'hi2).queue).length : Nat) : Int))) = ((((!(linkOk (x.links[k]'hi2))) || (((x.links[k]'hi2).cap) != x.graph.cap)) || (!(((x.links[k]'hi2).queue).all (opOk x.graph)))) || (((IntKind.i64.wrap (Int.tdiv ((k : Nat) : Int) x.graph.workers)) == (Int.tmod ((k : Nat) : Int) x.graph.workers)) && (decide (0 < ((((x.links[k]'hi2).queue).length : Nat) : Int))))) by first | (rw [hg4, hg5, hg6, hg7] <;> rfl) | (simp [hg4, hg5, hg6, hg7]; done) | (simp only [nat_nlt] <;> simp)), trivial⟩ ⟨E, (by omega), h1, h2⟩))))))
                · refine J_gdno rfl rfl rfl rfl (J_gdno rfl rfl rfl rfl (J_gdno rfl rfl rfl rfl (J_gdno rfl rfl rfl rfl (J_gd rfl rfl (R_pickF rfl rfl) rfl (J_st (R_pickF rfl rfl) rfl (J_cutEnd ⟨rfl, rfl, rfl, rfl, rfl, rfl, rfl, rfl, rfl, rfl, rfl, rfl, rfl, rfl, rfl, congrArg (fun b => some (Value.bool b)) (show false = ((((!(linkOk (x.links[k]'hi2))) || (((x.links[k]'hi2).cap) != x.graph.cap)) || (!(((x.links[k]'hi2).queue).all (opOk x.graph)))) || (((IntKind.i64.wrap (Int.tdiv ((k : Nat) : Int) x.graph.workers)) == (Int.tmod ((k : Nat) : Int) x.graph.workers)) && (decide (0 < ((((x.links[k]'hi2).queue).length : Nat) : Int))))) by first | (rw [hg4, hg5, hg6, hg7] <;> rfl) | (simp [hg4, hg5, hg6, hg7]; done) | (simp only [nat_nlt] <;> simp)), trivial⟩ ⟨E, (by omega), h1, h2⟩))))))
        clear E h1 h2
        rintro w12 ⟨E, z12, h1, h2⟩
        refine J_done ?_
        refine S_cond rfl (fun hc5 => ?_) (fun hc5 => ?_)
        · refine S_seq ?_
          refine S_reg [true] rfl rfl ?_
          refine J_st (R_assign rfl) rfl (J_done ?_)
          refine S_ret (E_inB_ret (E_lp_ret (E_inB_ret (E_done1 rfl rfl E ?_))))
          exact cl_2 (by assumption) hc5
        · refine S_skip ?_
          refine S_nil (E_inB ?_)
          refine S_reg [true, true, true] rfl rfl ?_
          refine J_st (R_move rfl) rfl (J_st (R_add rfl rfl (add_nat (by unfold maxLen; omega))) rfl (J_st (R_assign rfl) rfl (J_done ?_)))
          refine S_nil (E_again (k + 1) (by omega) ⟨rfl, rfl, rfl, rfl, trivial⟩ ⟨E, (by omega), h1, (by omega), allR_s hI2 (lk_at (by assumption) hc5)⟩)
      · have hc4n : ¬ k < x.links.length := by first | (have h := of_decide_eq_false hc4; omega) | (have h := hc4; simp at h; omega)
        refine S_exit (E_lp_exit (E_inB_exit ?_))
        refine S_seq ?_
        refine S_seq ?_
        refine S_reg [true] rfl rfl ?_
        refine J_st (R_assign rfl) rfl (J_done ?_)
        refine S_block ?_
        refine S_loop (fun (k : Nat) => [(1, .pointer (some ⟨b1, 0, none⟩)), (2, .bool false), (3, .int .i64 x.graph.workers), (7, .int .i64 ((k : Nat) : Int))]) (fun (k : Nat) w' => Ext w w' ∧ w7.heap.size ≤ w'.heap.size ∧ Blk w' b1 ([o1, .int .i64 x.graph.workers, .int .i64 x.graph.cap, o2, o3, o4, o5]) ∧ k ≤ x.tokens.length ∧ (x.tokens.take k).all (fun t => !tkBad x.graph t) = true) (fun (k : Nat) => x.tokens.length - k) 0 ⟨rfl, rfl, rfl, rfl, trivial⟩ ⟨E, Nat.le_refl _, h1, Nat.zero_le _, rfl⟩ ?_
        clear E h1
        rintro k w14 ⟨E, z13, h1, hk, hI3⟩
        have hmt := hd4.1.1
        unfold maxLen at hmt
        refine S_seq ?_
        refine S_seq ?_
        refine S_reg [true, true, true, true, true] rfl rfl ?_
        refine J_st (R_move rfl) rfl (J_st (R_fieldAddr0 fl41_3 rfl) rfl (J_st (R_load sc38 rfl (h1.one 5 rfl)) rfl (J_st (R_len Try.underlying38 rfl (hd4.ext E).len) rfl (J_st (R_lss rfl rfl) rfl (J_done ?_)))))
        refine S_cond rfl (fun hc6 => ?_) (fun hc6 => ?_)
        · have hc6n : k < x.tokens.length := by first | (have h := of_decide_eq_true hc6; omega) | (have h := hc6; simp at h; omega)
          refine S_skip ?_
          refine S_seq ?_
          refine S_block ?_
          refine S_seq ?_
          refine S_reg [true, true, true, true, true, true, true, true, false, true, true, true, true, true, true, true, true, true, true, true, true, true, true, true, true, true, true, true, true, true, true, true, true, true, true, false, true, true] rfl rfl ?_
          refine J_st (R_fieldAddr0 fl41_3 rfl) rfl (J_st (R_load sc38 rfl (h1.one 5 rfl)) rfl (J_st (R_move rfl) rfl ?_))
          have hi3 : k < x.tokens.length := (by first | assumption | omega)
          refine J_st (R_index (i := k) sl38 rfl rfl (hd4.rd.ext E) hi3) rfl (J_st (R_fieldAddr fl65_1 rfl) rfl (J_st (R_load sc3 rfl (((hd4.rd.ext E).get hi3).one 1 rfl)) rfl (J_st (R_move rfl) rfl (J_st (R_sub rfl rfl rfl) rfl ?_))))
          refine J_call Try.call18 rfl (s_l01In ((x.tokens[k]'hi3).place) 0 (IntKind.i64.wrap (x.graph.workers - 1)) _ ) rfl (fun _ w15 e9 hv => ?_)
          subst hv
          replace E := E.trans e9; replace h1 := h1.ext e9
          have z14 := e9.size
          refine J_st (R_not rfl) rfl (J_st (R_move rfl) rfl ?_)
          refine J_cut 27 [(1, .pointer (some ⟨b1, 0, none⟩)), (2, .bool false), (3, .int .i64 x.graph.workers), (7, .int .i64 ((k : Nat) : Int)), (98, .int .i64 ((k : Nat) : Int)), (99, .pointer (some ⟨b1, 5, none⟩)), (100, o4), (101, .int .i64 ((x.tokens.length : Nat) : Int)), (102, .bool (decide (((k : Nat) : Int) < ((x.tokens.length : Nat) : Int)))), (142, .bool (((!(win ((x.tokens[k]'hi3).place) 0 (IntKind.i64.wrap (x.graph.workers - 1)))) || ((!((x.tokens[k]'hi3).going)) && (((x.tokens[k]'hi3).place) != 0))) || (!(win ((x.tokens[k]'hi3).sum) (-1000000) 1000000))))] (fun w' => Ext w w' ∧ w15.heap.size ≤ w'.heap.size ∧ Blk w' b1 ([o1, .int .i64 x.graph.workers, .int .i64 x.graph.cap, o2, o3, o4, o5])) ?_ ?_
          · refine J_if (gd := 115) rfl rfl (fun hg8 => ?_) (fun hg8 => ?_)
            · refine J_gdno rfl rfl rfl rfl (J_gdno rfl rfl rfl rfl (J_gdno rfl rfl rfl rfl (J_gdno rfl rfl rfl rfl (J_gdno rfl rfl rfl rfl (J_gdno rfl rfl rfl rfl (J_gdno rfl rfl rfl rfl (J_gdno rfl rfl rfl rfl (J_gdx rfl rfl rfl (J_gdx rfl rfl rfl (J_gdx rfl rfl rfl (J_gdx rfl rfl rfl (J_gdx rfl rfl rfl (J_gdx rfl rfl rfl (J_gdx rfl rfl rfl (J_gdno rfl rfl rfl rfl (J_st (R_pickT rfl rfl) rfl (J_st (R_move rfl) rfl (J_gdno rfl rfl rfl rfl (J_gdno rfl rfl rfl rfl (J_gdno rfl rfl rfl rfl (J_gdno rfl rfl rfl rfl (J_gdno rfl rfl rfl rfl (J_gdno rfl rfl rfl rfl ?_)))))))))))))))))))))))
              refine J_ungno rfl rfl rfl rfl ?_
              refine J_gdno rfl rfl rfl rfl (J_st (R_pickT rfl rfl) rfl (J_cutEnd ⟨rfl, rfl, rfl, rfl, rfl, rfl, rfl, rfl, rfl, congrArg (fun b => some (Value.bool b)) (show true = (((!(win ((x.tokens[k]'hi3).place) 0 (IntKind.i64.wrap (x.graph.workers - 1)))) || ((!((x.tokens[k]'hi3).going)) && (((x.tokens[k]'hi3).place) != 0))) || (!(win ((x.tokens[k]'hi3).sum) (-1000000) 1000000))) by first | (rw [hg8] <;> rfl) | (simp [hg8]; done) | (simp only [nat_nlt] <;> simp)), trivial⟩ ⟨E, (by omega), h1⟩))
            · refine J_gd rfl rfl (R_fieldAddr0 fl41_3 rfl) rfl (J_gd rfl rfl (R_load sc38 rfl (h1.one 5 rfl)) rfl (J_gd rfl rfl (R_move rfl) rfl (J_gd rfl rfl (R_index (i := k) sl38 rfl rfl (hd4.rd.ext E) hi3) rfl (J_gd rfl rfl (R_fieldAddr fl65_0 rfl) rfl (J_gd rfl rfl (R_load sc4 rfl (((hd4.rd.ext E).get hi3).one 0 rfl)) rfl (J_gd rfl rfl (R_not rfl) rfl (J_gd rfl rfl (R_move rfl) rfl ?_)))))))
              refine J_if (gd := 123) rfl rfl (fun hg9 => ?_) (fun hg9 => ?_)
              · refine J_gd rfl rfl (R_fieldAddr0 fl41_3 rfl) rfl (J_gd rfl rfl (R_load sc38 rfl (h1.one 5 rfl)) rfl (J_gd rfl rfl (R_move rfl) rfl (J_gd rfl rfl (R_index (i := k) sl38 rfl rfl (hd4.rd.ext E) hi3) rfl (J_gd rfl rfl (R_fieldAddr fl65_1 rfl) rfl (J_gd rfl rfl (R_load sc3 rfl (((hd4.rd.ext E).get hi3).one 1 rfl)) rfl (J_gd rfl rfl (R_neq rfl rfl) rfl (J_gd rfl rfl (R_pickT rfl rfl) rfl (J_st (R_pickF rfl rfl) rfl (J_st (R_move rfl) rfl ?_)))))))))
                refine J_if (gd := 133) rfl rfl (fun hg10 => ?_) (fun hg10 => ?_)
                · refine J_gdno rfl rfl rfl rfl (J_gdno rfl rfl rfl rfl (J_gdno rfl rfl rfl rfl (J_gdno rfl rfl rfl rfl (J_gdno rfl rfl rfl rfl (J_gdno rfl rfl rfl rfl ?_)))))
                  refine J_ungno rfl rfl rfl rfl ?_
                  refine J_gdno rfl rfl rfl rfl (J_st (R_pickT rfl rfl) rfl (J_cutEnd ⟨rfl, rfl, rfl, rfl, rfl, rfl, rfl, rfl, rfl, congrArg (fun b => some (Value.bool b)) (show true = (((!(win ((x.tokens[k]'hi3).place) 0 (IntKind.i64.wrap (x.graph.workers - 1)))) || ((!((x.tokens[k]'hi3).going)) && (((x.tokens[k]'hi3).place) != 0))) || (!(win ((x.tokens[k]'hi3).sum) (-1000000) 1000000))) by first | (rw [hg8, hg9, hg10] <;> rfl) | (simp [hg8, hg9, hg10]; done) | (simp only [nat_nlt] <;> simp)), trivial⟩ ⟨E, (by omega), h1⟩))
                · refine J_gd rfl rfl (R_fieldAddr0 fl41_3 rfl) rfl (J_gd rfl rfl (R_load sc38 rfl (h1.one 5 rfl)) rfl (J_gd rfl rfl (R_move rfl) rfl (J_gd rfl rfl (R_index (i := k) sl38 rfl rfl (hd4.rd.ext E) hi3) rfl (J_gd rfl rfl (R_fieldAddr fl65_2 rfl) rfl (J_gd rfl rfl (R_load sc3 rfl (((hd4.rd.ext E).get hi3).one 2 rfl)) rfl ?_)))))
                  refine J_ung rfl rfl ?_
                  refine J_call Try.call18 rfl (s_l01In ((x.tokens[k]'hi3).sum) (-1000000) 1000000 _ ) rfl (fun _ w17 e10 hv => ?_)
                  subst hv
                  replace E := E.trans e10; replace h1 := h1.ext e10
                  have z15 := e10.size
                  refine J_gd rfl rfl (R_not rfl) rfl (J_st (R_pickF rfl rfl) rfl (J_cutEnd ⟨rfl, rfl, rfl, rfl, rfl, rfl, rfl, rfl, rfl, congrArg (fun b => some (Value.bool b)) (show (!(win ((x.tokens[k]'hi3).sum) (-1000000) 1000000)) = (((!(win ((x.tokens[k]'hi3).place) 0 (IntKind.i64.wrap (x.graph.workers - 1)))) || ((!((x.tokens[k]'hi3).going)) && (((x.tokens[k]'hi3).place) != 0))) || (!(win ((x.tokens[k]'hi3).sum) (-1000000) 1000000))) by first | (rw [hg8, hg9, hg10] <;> rfl) | (simp [hg8, hg9, hg10]; done) | (simp only [nat_nlt] <;> simp)), trivial⟩ ⟨E, (by omega), h1⟩))
              · refine J_gdno rfl rfl rfl rfl (J_gdno rfl rfl rfl rfl (J_gdno rfl rfl rfl rfl (J_gdno rfl rfl rfl rfl (J_gdno rfl rfl rfl rfl (J_gdno rfl rfl rfl rfl (J_gdno rfl rfl rfl rfl (J_gd rfl rfl (R_pickF rfl rfl) rfl (J_st (R_pickF rfl rfl) rfl (J_st (R_move rfl) rfl (J_gd rfl rfl (R_fieldAddr0 fl41_3 rfl) rfl (J_gd rfl rfl (R_load sc38 rfl (h1.one 5 rfl)) rfl (J_gd rfl rfl (R_move rfl) rfl (J_gd rfl rfl (R_index (i := k) sl38 rfl rfl (hd4.rd.ext E) hi3) rfl (J_gd rfl rfl (R_fieldAddr fl65_2 rfl) rfl (J_gd rfl rfl (R_load sc3 rfl (((hd4.rd.ext E).get hi3).one 2 rfl)) rfl ?_)))))))))))))))
                refine J_ung rfl rfl ?_
                refine J_call Try.call18 rfl (s_l01In ((x.tokens[k]'hi3).sum) (-1000000) 1000000 _ ) rfl (fun _ w18 e11 hv => ?_)
                subst hv
                replace E := E.trans e11; replace h1 := h1.ext e11
                have z16 := e11.size
                refine J_gd rfl rfl (R_not rfl) rfl (J_st (R_pickF rfl rfl) rfl (J_cutEnd ⟨rfl, rfl, rfl, rfl, rfl, rfl, rfl, rfl, rfl, congrArg (fun b => some (Value.bool b)) (show (!(win ((x.tokens[k]'hi3).sum) (-1000000) 1000000)) = (((!(win ((x.tokens[k]'hi3).place) 0 (IntKind.i64.wrap (x.graph.workers - 1)))) || ((!((x.tokens[k]'hi3).going)) && (((x.tokens[k]'hi3).place) != 0))) || (!(win ((x.tokens[k]'hi3).sum) (-1000000) 1000000))) by first | (rw [hg8, hg9] <;> rfl) | (simp [hg8, hg9]; done) | (simp only [nat_nlt] <;> simp)), trivial⟩ ⟨E, (by omega), h1⟩))
          clear E h1
          rintro w16 ⟨E, z17, h1⟩
          refine J_done ?_
          refine S_cond rfl (fun hc7 => ?_) (fun hc7 => ?_)
          · refine S_seq ?_
            refine S_reg [true] rfl rfl ?_
            refine J_st (R_assign rfl) rfl (J_done ?_)
            refine S_ret (E_inB_ret (E_lp_ret (E_inB_ret (E_done1 rfl rfl E ?_))))
            exact cl_3 (by assumption) hc7
          · refine S_skip ?_
            refine S_nil (E_inB ?_)
            refine S_reg [true, true, true] rfl rfl ?_
            refine J_st (R_move rfl) rfl (J_st (R_add rfl rfl (add_nat (by unfold maxLen; omega))) rfl (J_st (R_assign rfl) rfl (J_done ?_)))
            refine S_nil (E_again (k + 1) (by omega) ⟨rfl, rfl, rfl, rfl, trivial⟩ ⟨E, (by omega), h1, (by omega), all_step hI3 (by assumption) (nb hc7)⟩)
        · have hc6n : ¬ k < x.tokens.length := by first | (have h := of_decide_eq_false hc6; omega) | (have h := hc6; simp at h; omega)
          refine S_exit (E_lp_exit (E_inB_exit ?_))
          refine S_seq ?_
          refine S_seq ?_
          refine S_reg [true] rfl rfl ?_
          refine J_st (R_assign rfl) rfl (J_done ?_)
          refine S_block ?_
          refine S_loop (fun (k : Nat) => [(1, .pointer (some ⟨b1, 0, none⟩)), (2, .bool false), (3, .int .i64 x.graph.workers), (8, .int .i64 ((k : Nat) : Int))]) (fun (k : Nat) w' => Ext w w' ∧ w14.heap.size ≤ w'.heap.size ∧ Blk w' b1 ([o1, .int .i64 x.graph.workers, .int .i64 x.graph.cap, o2, o3, o4, o5]) ∧ k ≤ x.news.length ∧ (x.news.take k).all (fun t => !nwBad x.graph t) = true) (fun (k : Nat) => x.news.length - k) 0 ⟨rfl, rfl, rfl, rfl, trivial⟩ ⟨E, Nat.le_refl _, h1, Nat.zero_le _, rfl⟩ ?_
          clear E h1
          rintro k w19 ⟨E, z18, h1, hk, hI4⟩
          have hmn := hd5.1.1
          unfold maxLen at hmn
          refine S_seq ?_
          refine S_seq ?_
          refine S_reg [true, true, true, true, true] rfl rfl ?_
          refine J_st (R_move rfl) rfl (J_st (R_fieldAddr0 fl41_4 rfl) rfl (J_st (R_load sc39 rfl (h1.one 6 rfl)) rfl (J_st (R_len Try.underlying39 rfl (hd5.ext E).len) rfl (J_st (R_lss rfl rfl) rfl (J_done ?_)))))
          refine S_cond rfl (fun hc8 => ?_) (fun hc8 => ?_)
          · have hc8n : k < x.news.length := by first | (have h := of_decide_eq_true hc8; omega) | (have h := hc8; simp at h; omega)
            refine S_skip ?_
            refine S_seq ?_
            refine S_block ?_
            refine S_seq ?_
            refine S_reg [true, true, true, true, true, true, true, true, false, true, true, true, true, true, true, true, true, false, true, true] rfl rfl ?_
            refine J_st (R_fieldAddr0 fl41_4 rfl) rfl (J_st (R_load sc39 rfl (h1.one 6 rfl)) rfl (J_st (R_move rfl) rfl ?_))
            have hi4 : k < x.news.length := (by first | assumption | omega)
            refine J_st (R_index (i := k) sl39 rfl rfl (hd5.rd.ext E) hi4) rfl (J_st (R_fieldAddr fl67_0 rfl) rfl (J_st (R_load sc3 rfl (((hd5.rd.ext E).get hi4).one 0 rfl)) rfl (J_st (R_move rfl) rfl (J_st (R_sub rfl rfl rfl) rfl ?_))))
            refine J_call Try.call18 rfl (s_l01In ((x.news[k]'hi4).dest) 0 (IntKind.i64.wrap (x.graph.workers - 1)) _ ) rfl (fun _ w20 e12 hv => ?_)
            subst hv
            replace E := E.trans e12; replace h1 := h1.ext e12
            have z19 := e12.size
            refine J_st (R_not rfl) rfl (J_st (R_move rfl) rfl ?_)
            refine J_cut 9 [(1, .pointer (some ⟨b1, 0, none⟩)), (2, .bool false), (3, .int .i64 x.graph.workers), (8, .int .i64 ((k : Nat) : Int)), (143, .int .i64 ((k : Nat) : Int)), (144, .pointer (some ⟨b1, 6, none⟩)), (145, o5), (146, .int .i64 ((x.news.length : Nat) : Int)), (147, .bool (decide (((k : Nat) : Int) < ((x.news.length : Nat) : Int)))), (169, .bool ((!(win ((x.news[k]'hi4).dest) 0 (IntKind.i64.wrap (x.graph.workers - 1)))) || (!(win ((x.news[k]'hi4).epoch) 0 3))))] (fun w' => Ext w w' ∧ w20.heap.size ≤ w'.heap.size ∧ Blk w' b1 ([o1, .int .i64 x.graph.workers, .int .i64 x.graph.cap, o2, o3, o4, o5])) ?_ ?_
            · refine J_if (gd := 160) rfl rfl (fun hg11 => ?_) (fun hg11 => ?_)
              · refine J_gdno rfl rfl rfl rfl (J_gdno rfl rfl rfl rfl (J_gdno rfl rfl rfl rfl (J_gdno rfl rfl rfl rfl (J_gdno rfl rfl rfl rfl (J_gdno rfl rfl rfl rfl ?_)))))
                refine J_ungno rfl rfl rfl rfl ?_
                refine J_gdno rfl rfl rfl rfl (J_st (R_pickT rfl rfl) rfl (J_cutEnd ⟨rfl, rfl, rfl, rfl, rfl, rfl, rfl, rfl, rfl, congrArg (fun b => some (Value.bool b)) (show true = ((!(win ((x.news[k]'hi4).dest) 0 (IntKind.i64.wrap (x.graph.workers - 1)))) || (!(win ((x.news[k]'hi4).epoch) 0 3))) by first | (rw [hg11] <;> rfl) | (simp [hg11]; done) | (simp only [nat_nlt] <;> simp)), trivial⟩ ⟨E, (by omega), h1⟩))
              · refine J_gd rfl rfl (R_fieldAddr0 fl41_4 rfl) rfl (J_gd rfl rfl (R_load sc39 rfl (h1.one 6 rfl)) rfl (J_gd rfl rfl (R_move rfl) rfl (J_gd rfl rfl (R_index (i := k) sl39 rfl rfl (hd5.rd.ext E) hi4) rfl (J_gd rfl rfl (R_fieldAddr fl67_1 rfl) rfl (J_gd rfl rfl (R_load sc3 rfl (((hd5.rd.ext E).get hi4).one 1 rfl)) rfl ?_)))))
                refine J_ung rfl rfl ?_
                refine J_call Try.call18 rfl (s_l01In ((x.news[k]'hi4).epoch) 0 3 _ ) rfl (fun _ w22 e13 hv => ?_)
                subst hv
                replace E := E.trans e13; replace h1 := h1.ext e13
                have z20 := e13.size
                refine J_gd rfl rfl (R_not rfl) rfl (J_st (R_pickF rfl rfl) rfl (J_cutEnd ⟨rfl, rfl, rfl, rfl, rfl, rfl, rfl, rfl, rfl, congrArg (fun b => some (Value.bool b)) (show (!(win ((x.news[k]'hi4).epoch) 0 3)) = ((!(win ((x.news[k]'hi4).dest) 0 (IntKind.i64.wrap (x.graph.workers - 1)))) || (!(win ((x.news[k]'hi4).epoch) 0 3))) by first | (rw [hg11] <;> rfl) | (simp [hg11]; done) | (simp only [nat_nlt] <;> simp)), trivial⟩ ⟨E, (by omega), h1⟩))
            clear E h1
            rintro w21 ⟨E, z21, h1⟩
            refine J_done ?_
            refine S_cond rfl (fun hc9 => ?_) (fun hc9 => ?_)
            · refine S_seq ?_
              refine S_reg [true] rfl rfl ?_
              refine J_st (R_assign rfl) rfl (J_done ?_)
              refine S_ret (E_inB_ret (E_lp_ret (E_inB_ret (E_done1 rfl rfl E ?_))))
              exact cl_4 (by assumption) hc9
            · refine S_skip ?_
              refine S_nil (E_inB ?_)
              refine S_reg [true, true, true] rfl rfl ?_
              refine J_st (R_move rfl) rfl (J_st (R_add rfl rfl (add_nat (by unfold maxLen; omega))) rfl (J_st (R_assign rfl) rfl (J_done ?_)))
              refine S_nil (E_again (k + 1) (by omega) ⟨rfl, rfl, rfl, rfl, trivial⟩ ⟨E, (by omega), h1, (by omega), all_step hI4 (by assumption) (nb hc9)⟩)
          · have hc8n : ¬ k < x.news.length := by first | (have h := of_decide_eq_false hc8; omega) | (have h := hc8; simp at h; omega)
            refine S_exit (E_lp_exit (E_inB_exit ?_))
            refine S_seq ?_
            refine S_reg [true] rfl rfl ?_
            refine J_st (R_assign rfl) rfl (J_done ?_)
            refine S_ret (E_done1 rfl rfl E ?_)
            exact cl_5 hc1 (all_end hI1 (by omega)) (allR_le hI2 (by omega)) (all_end hI3 (by omega)) (all_end hI4 (by omega))

set_option maxHeartbeats 4000000 in
set_option maxRecDepth 20000 in
theorem c_ClusterOk (cx : List Value) (x : Cluster) (w : World) (hx : Dat.R w 0 w.heap.size cx x) (hok : ∀ l ∈ x.links, rg l.got) : Ct Try.prog 7 [.agg cx.toArray] w (fun v _ => v = .bool (clOk x)) := by
  refine ct_of Try.func7 rfl Try.ntmps7 rfl ?_
  obtain ⟨o1, o2, o3, o4, o5, rfl, hd1, hd2, hd3, hd4, hd5⟩ := Cluster.op hx
  refine S_sub [(0, .agg [o1, .int .i64 x.graph.workers, .int .i64 x.graph.cap, o2, o3, o4, o5].toArray)] ⟨rfl, trivial⟩ ?_
  have E : Ext w w := Ext.refl w
  refine S_seq ?_
  refine S_reg [false, true] rfl rfl ?_
  refine J_box rfl rfl (fun b1 w1 e1 s1 h1 => ?_)
  have g_b1 : w.heap.size ≤ b1 := by have := E.size; omega
  have y_b1 := h1.lt
  replace E := E.trans e1
  have z1 := e1.size
  refine J_st (R_assign rfl) rfl (J_done ?_)
  refine S_seq ?_
  refine S_reg [true, true, true, true] rfl rfl ?_
  refine J_st (R_fieldAddr0 fl41_0 rfl) rfl (J_st (R_fieldAddr0 fl35_1 rfl) rfl (J_st (R_load sc3 rfl (h1.one 1 rfl)) rfl (J_st (R_assign rfl) rfl (J_done ?_))))
  refine S_seq ?_
  refine S_seq ?_
  refine S_reg [true, true, false, true, true, true, true, true, true, true, true, true, true, true, true, true, true, true, true, true, true, true, true, true, true, true] rfl rfl ?_
  refine J_st (R_fieldAddr0 fl41_0 rfl) rfl (J_st (R_loadS st35 rfl (h1.part 0 [o1, .int .i64 x.graph.workers, .int .i64 x.graph.cap] rfl) rfl) rfl ?_)
  refine J_call Try.call24 rfl (c_GraphOk [o1, .int .i64 x.graph.workers, .int .i64 x.graph.cap] x.graph _ (Graph.mkR x.graph (RdD.any (hd1.ext E)))) rfl (fun _ w2 e2 hv => ?_)
  subst hv
  replace E := E.trans e2; replace h1 := h1.ext e2
  have z2 := e2.size
  refine J_st (R_not rfl) rfl (J_st (R_move rfl) rfl ?_)
  refine J_cut 21 [(0, .agg [o1, .int .i64 x.graph.workers, .int .i64 x.graph.cap, o2, o3, o4, o5].toArray), (1, .pointer (some ⟨b1, 0, none⟩)), (2, .bool false), (3, .int .i64 x.graph.workers), (12, .pointer (some ⟨b1, 0, none⟩)), (13, .pointer (some ⟨b1, 1, none⟩)), (14, .int .i64 x.graph.workers), (40, .bool ((((!(graphOk x.graph)) || (((x.workers.length : Nat) : Int) != x.graph.workers)) || (((x.links.length : Nat) : Int) != (IntKind.i64.wrap (x.graph.workers * x.graph.workers)))) || (((x.tokens.length : Nat) : Int) != 4)))] (fun w' => w2 = w') ?_ ?_
  · refine J_if (gd := 19) rfl rfl (fun hg1 => ?_) (fun hg1 => ?_)
    · refine J_gdno rfl rfl rfl rfl (J_gdno rfl rfl rfl rfl (J_gdno rfl rfl rfl rfl (J_gdno rfl rfl rfl rfl (J_gdno rfl rfl rfl rfl (J_st (R_pickT rfl rfl) rfl (J_st (R_move rfl) rfl (J_gdno rfl rfl rfl rfl (J_gdno rfl rfl rfl rfl (J_gdno rfl rfl rfl rfl (J_gdno rfl rfl rfl rfl (J_gdno rfl rfl rfl rfl (J_gdno rfl rfl rfl rfl (J_gdno rfl rfl rfl rfl (J_st (R_pickT rfl rfl) rfl (J_st (R_move rfl) rfl (J_gdno rfl rfl rfl rfl (J_gdno rfl rfl rfl rfl (J_gdno rfl rfl rfl rfl (J_gdno rfl rfl rfl rfl (J_st (R_pickT rfl rfl) rfl (J_cutEnd ⟨rfl, rfl, rfl, rfl, rfl, rfl, rfl, congrArg (fun b => some (Value.bool b)) (show true = ((((!(graphOk x.graph)) || (((x.workers.length : Nat) : Int) != x.graph.workers)) || (((x.links.length : Nat) : Int) != (IntKind.i64.wrap (x.graph.workers * x.graph.workers)))) || (((x.tokens.length : Nat) : Int) != 4)) by first | (rw [hg1] <;> rfl) | (simp [hg1]; done) | (simp only [nat_nlt] <;> simp)), trivial⟩ rfl)))))))))))))))))))))
    · refine J_gd rfl rfl (R_fieldAddr0 fl41_1 rfl) rfl (J_gd rfl rfl (R_load sc36 rfl (h1.one 3 rfl)) rfl (J_gd rfl rfl (R_len Try.underlying36 rfl (hd2.ext E).len) rfl (J_gd rfl rfl (R_move rfl) rfl (J_gd rfl rfl (R_neq rfl rfl) rfl (J_st (R_pickF rfl rfl) rfl (J_st (R_move rfl) rfl ?_))))))
      refine J_if (gd := 26) rfl rfl (fun hg2 => ?_) (fun hg2 => ?_)
      · refine J_gdno rfl rfl rfl rfl (J_gdno rfl rfl rfl rfl (J_gdno rfl rfl rfl rfl (J_gdno rfl rfl rfl rfl (J_gdno rfl rfl rfl rfl (J_gdno rfl rfl rfl rfl (J_gdno rfl rfl rfl rfl (J_st (R_pickT rfl rfl) rfl (J_st (R_move rfl) rfl (J_gdno rfl rfl rfl rfl (J_gdno rfl rfl rfl rfl (J_gdno rfl rfl rfl rfl (J_gdno rfl rfl rfl rfl (J_st (R_pickT rfl rfl) rfl (J_cutEnd ⟨rfl, rfl, rfl, rfl, rfl, rfl, rfl, congrArg (fun b => some (Value.bool b)) (show true = ((((!(graphOk x.graph)) || (((x.workers.length : Nat) : Int) != x.graph.workers)) || (((x.links.length : Nat) : Int) != (IntKind.i64.wrap (x.graph.workers * x.graph.workers)))) || (((x.tokens.length : Nat) : Int) != 4)) by first | (rw [hg1, hg2] <;> rfl) | (simp [hg1, hg2]; done) | (simp only [nat_nlt] <;> simp)), trivial⟩ rfl))))))))))))))
      · refine J_gd rfl rfl (R_fieldAddr0 fl41_2 rfl) rfl (J_gd rfl rfl (R_load sc37 rfl (h1.one 4 rfl)) rfl (J_gd rfl rfl (R_len Try.underlying37 rfl (hd3.ext E).len) rfl (J_gd rfl rfl (R_move rfl) rfl (J_gd rfl rfl (R_move rfl) rfl (J_gd rfl rfl (R_mul rfl rfl rfl) rfl (J_gd rfl rfl (R_neq rfl rfl) rfl (J_st (R_pickF rfl rfl) rfl (J_st (R_move rfl) rfl ?_))))))))
        refine J_if (gd := 35) rfl rfl (fun hg3 => ?_) (fun hg3 => ?_)
        · refine J_gdno rfl rfl rfl rfl (J_gdno rfl rfl rfl rfl (J_gdno rfl rfl rfl rfl (J_gdno rfl rfl rfl rfl (J_st (R_pickT rfl rfl) rfl (J_cutEnd ⟨rfl, rfl, rfl, rfl, rfl, rfl, rfl, congrArg (fun b => some (Value.bool b)) (show true = ((((!(graphOk x.graph)) || (((x.workers.length : Nat) : Int) != x.graph.workers)) || (((x.links.length : Nat) : Int) != (IntKind.i64.wrap (x.graph.workers * x.graph.workers)))) || (((x.tokens.length : Nat) : Int) != 4)) by first | (rw [hg1, hg2, hg3] <;> rfl) | (simp [hg1, hg2, hg3]; done) | (simp only [nat_nlt] <;> simp)), trivial⟩ rfl)))))
        · refine J_gd rfl rfl (R_fieldAddr0 fl41_3 rfl) rfl (J_gd rfl rfl (R_load sc38 rfl (h1.one 5 rfl)) rfl (J_gd rfl rfl (R_len Try.underlying38 rfl (hd4.ext E).len) rfl (J_gd rfl rfl (R_neq rfl rfl) rfl (J_st (R_pickF rfl rfl) rfl (J_cutEnd ⟨rfl, rfl, rfl, rfl, rfl, rfl, rfl, congrArg (fun b => some (Value.bool b)) (show (((x.tokens.length : Nat) : Int) != 4) = ((((!(graphOk x.graph)) || (((x.workers.length : Nat) : Int) != x.graph.workers)) || (((x.links.length : Nat) : Int) != (IntKind.i64.wrap (x.graph.workers * x.graph.workers)))) || (((x.tokens.length : Nat) : Int) != 4)) by first | (rw [hg1, hg2, hg3] <;> rfl) | (simp [hg1, hg2, hg3]; done) | (simp only [nat_nlt] <;> simp)), trivial⟩ rfl)))))
  rintro _ rfl
  refine J_done ?_
  refine S_cond rfl (fun hc1 => ?_) (fun hc1 => ?_)
  · refine S_seq ?_
    refine S_reg [true] rfl rfl ?_
    refine J_st (R_assign rfl) rfl (J_done ?_)
    refine S_ret (E_done1 rfl rfl E ?_)
    exact cl_0 hc1
  · have hgw := cl_g hc1
    have hlw := cl_w hc1
    refine S_skip ?_
    refine S_seq ?_
    refine S_seq ?_
    refine S_reg [true, true, true, true] rfl rfl ?_
    refine J_st (R_fieldAddr0 fl41_1 rfl) rfl (J_st (R_load sc36 rfl (h1.one 3 rfl)) rfl (J_st (R_len Try.underlying36 rfl (hd2.ext E).len) rfl (J_st (R_move rfl) rfl (J_done ?_))))
    refine S_block ?_
    refine S_loop (fun (k : Nat) => [(1, .pointer (some ⟨b1, 0, none⟩)), (2, .bool false), (3, .int .i64 x.graph.workers), (42, o2), (43, .int .i64 ((x.workers.length : Nat) : Int)), (44, .int .i64 ((k : Nat) : Int))]) (fun (k : Nat) w' => Ext w w' ∧ w2.heap.size ≤ w'.heap.size ∧ Blk w' b1 ([o1, .int .i64 x.graph.workers, .int .i64 x.graph.cap, o2, o3, o4, o5]) ∧ k ≤ x.workers.length ∧ (x.workers.take k).all (workerOk x.graph) = true) (fun (k : Nat) => x.workers.length - k) 0 ⟨rfl, rfl, rfl, rfl, rfl, rfl, trivial⟩ ⟨E, Nat.le_refl _, h1, Nat.zero_le _, rfl⟩ ?_
    clear E h1
    rintro k w4 ⟨E, z3, h1, hk, hI1⟩
    have hmw := hd2.1.1
    unfold maxLen at hmw
    refine S_seq ?_
    refine S_reg [true] rfl rfl ?_
    refine J_st (R_lss rfl rfl) rfl (J_done ?_)
    refine S_seq ?_
    refine S_cond rfl (fun hc2 => ?_) (fun hc2 => ?_)
    · have hc2n : k < x.workers.length := by first | (have h := of_decide_eq_true hc2; omega) | (have h := hc2; simp at h; omega)
      refine S_skip ?_
      refine S_seq ?_
      refine S_block ?_
      refine S_seq ?_
      refine S_reg [true, true, false, false] rfl rfl ?_
      have hi1 : k < x.workers.length := (by first | assumption | omega)
      obtain ⟨_, hr1, ha1⟩ := RdD.get hd2 hi1
      obtain ⟨o6, o7, o8, o9, o10, o11, o12, o13, rfl, hd6, hd7, hd8, hd9, hd10, hd11, hd12, hd13⟩ := Worker.op hr1
      replace ha1 : At w (sblk o2) (soff o2 + k * 8) [o6, o7, o8, o9, o10, o11, o12, o13] := ha1
      refine J_st (R_index (i := k) sl36 rfl rfl (hd2.ext E).1 hi1) rfl (J_st (R_loadS st58 rfl (ha1.ext E) rfl) rfl ?_)
      refine J_alloc st58 rfl (fun b2 w5 e3 s2 h2 => ?_)
      have g_b2 : w.heap.size ≤ b2 := by have := E.size; omega
      have y_b2 := h2.lt
      replace E := E.trans e3; replace h1 := h1.ext e3
      have z4 := e3.size
      refine J_storeS' (cs' := [o6, o7, o8, o9, o10, o11, o12, o13]) st58 rfl rfl rfl (all_cons (RdD.one (hd6.ext E)) (all_cons (RdD.one (hd7.ext E)) (all_cons (RdD.one (hd8.ext E)) (all_cons (RdD.one (hd9.ext E)) (all_cons (RdD.one (hd10.ext E)) (all_cons (RdD.one (hd11.ext E)) (all_cons (RdD.one (hd12.ext E)) (all_cons (RdD.one (hd13.ext E)) rfl)))))))) h2 (Nat.le_of_ble_eq_true rfl) rfl (fun w6 m1 h2' => ?_)
      replace h2 := h2'
      replace E := E.step m1 (fun g hg => by cases hg; omega); replace h1 := h1.mod m1 (fun g hg => by cases hg; omega)
      have z5 := m1.size
      refine J_done ?_
      refine S_seq ?_
      refine S_reg [true, true, true, false, true] rfl rfl ?_
      refine J_st (R_fieldAddr0 fl41_0 rfl) rfl (J_st (R_loadS st35 rfl (h1.part 0 [o1, .int .i64 x.graph.workers, .int .i64 x.graph.cap] rfl) rfl) rfl (J_st (R_loadS st58 rfl h2.at rfl) rfl ?_))
      refine J_call Try.call25 rfl (c_WorkerOk [o1, .int .i64 x.graph.workers, .int .i64 x.graph.cap] x.graph [o6, o7, o8, o9, o10, o11, o12, o13] (x.workers[k]'hi1) _ (Graph.mkR x.graph (RdD.any (hd1.ext E))) (Worker.mkR (x.workers[k]'hi1) (RdD.any (hd6.ext E)) (RdD.any (hd7.ext E)) (RdD.any (hd8.ext E)) (RdD.any (hd9.ext E)) (RdD.any (hd10.ext E)) (RdD.any (hd11.ext E)) (RdD.any (hd12.ext E)) (RdD.any (hd13.ext E)))) rfl (fun _ w7 e4 hv => ?_)
      subst hv
      replace E := E.trans e4; replace h1 := h1.ext e4; replace h2 := h2.ext e4
      have z6 := e4.size
      refine J_st (R_not rfl) rfl (J_done ?_)
      refine S_cond rfl (fun hc3 => ?_) (fun hc3 => ?_)
      · refine S_seq ?_
        refine S_reg [true] rfl rfl ?_
        refine J_st (R_assign rfl) rfl (J_done ?_)
        refine S_ret (E_inB_ret (E_lp_ret (E_inB_ret (E_done1 rfl rfl E ?_))))
        exact cl_1 (by assumption) (by simpa using hc3)
      · refine S_skip ?_
        refine S_nil (E_inB ?_)
        refine S_reg [true, true] rfl rfl ?_
        refine J_st (R_add rfl rfl (add_nat (by unfold maxLen; omega))) rfl (J_st (R_move rfl) rfl (J_done ?_))
        refine S_nil (E_again (k + 1) (by omega) ⟨rfl, rfl, rfl, rfl, rfl, rfl, trivial⟩ ⟨E, (by omega), h1, (by omega), all_step hI1 (by assumption) (by simpa using hc3)⟩)
    · have hc2n : ¬ k < x.workers.length := by first | (have h := of_decide_eq_false hc2; omega) | (have h := hc2; simp at h; omega)
      refine S_exit (E_lp_exit (E_inB_exit ?_))
      refine S_seq ?_
      refine S_seq ?_
      refine S_reg [true, true, true, true] rfl rfl ?_
      refine J_st (R_fieldAddr0 fl41_2 rfl) rfl (J_st (R_load sc37 rfl (h1.one 4 rfl)) rfl (J_st (R_len Try.underlying37 rfl (hd3.ext E).len) rfl (J_st (R_move rfl) rfl (J_done ?_))))
      refine S_block ?_
      refine S_loop (fun (k : Nat) => [(1, .pointer (some ⟨b1, 0, none⟩)), (2, .bool false), (3, .int .i64 x.graph.workers), (55, o3), (56, .int .i64 ((x.links.length : Nat) : Int)), (57, .int .i64 ((k : Nat) : Int))]) (fun (k : Nat) w' => Ext w w' ∧ w4.heap.size ≤ w'.heap.size ∧ Blk w' b1 ([o1, .int .i64 x.graph.workers, .int .i64 x.graph.cap, o2, o3, o4, o5]) ∧ k ≤ x.links.length ∧ allR k (fun j => !lkBad x.graph j (List.getD x.links j default)) = true) (fun (k : Nat) => x.links.length - k) 0 ⟨rfl, rfl, rfl, rfl, rfl, rfl, trivial⟩ ⟨E, Nat.le_refl _, h1, Nat.zero_le _, rfl⟩ ?_
      clear E h1
      rintro k w8 ⟨E, z7, h1, hk, hI2⟩
      have hml := hd3.1.1
      unfold maxLen at hml
      refine S_seq ?_
      refine S_reg [true] rfl rfl ?_
      refine J_st (R_lss rfl rfl) rfl (J_done ?_)
      refine S_seq ?_
      refine S_cond rfl (fun hc4 => ?_) (fun hc4 => ?_)
      · have hc4n : k < x.links.length := by first | (have h := of_decide_eq_true hc4; omega) | (have h := hc4; simp at h; omega)
        refine S_skip ?_
        refine S_seq ?_
        refine S_block ?_
        refine S_seq ?_
        refine S_reg [true, true, true, false, true, false] rfl rfl ?_
        refine J_st (R_move rfl) rfl ?_
        have hi2 : k < x.links.length := (by first | assumption | omega)
        obtain ⟨_, hr2, ha2⟩ := RdD.get hd3 hi2
        obtain ⟨o14, rfl, hd14⟩ := Link.op hr2
        replace ha2 : At w (sblk o3) (soff o3 + k * 6) [.int .i64 ((x.links[k]'hi2).cap), o14, .int .i64 ((x.links[k]'hi2).credits), .int .i64 ((x.links[k]'hi2).back), .int .i64 ((x.links[k]'hi2).sent), .int .i64 ((x.links[k]'hi2).got)] := ha2
        refine J_st (R_index (i := k) sl37 rfl rfl (hd3.ext E).1 hi2) rfl (J_st (R_loadS st60 rfl (ha2.ext E) rfl) rfl ?_)
        refine J_alloc st60 rfl (fun b3 w9 e5 s3 h3 => ?_)
        have g_b3 : w.heap.size ≤ b3 := by have := E.size; omega
        have y_b3 := h3.lt
        replace E := E.trans e5; replace h1 := h1.ext e5
        have z8 := e5.size
        refine J_st (R_assign rfl) rfl ?_
        refine J_storeS' (cs' := [.int .i64 ((x.links[k]'hi2).cap), o14, .int .i64 ((x.links[k]'hi2).credits), .int .i64 ((x.links[k]'hi2).back), .int .i64 ((x.links[k]'hi2).sent), .int .i64 ((x.links[k]'hi2).got)]) st60 rfl rfl rfl (all_cons rfl (all_cons (RdD.one (hd14.ext E)) (all_cons rfl (all_cons rfl (all_cons rfl (all_cons rfl rfl)))))) h3 (Nat.le_of_ble_eq_true rfl) rfl (fun w10 m2 h3' => ?_)
        replace h3 := h3'
        replace E := E.step m2 (fun g hg => by cases hg; omega); replace h1 := h1.mod m2 (fun g hg => by cases hg; omega)
        have z9 := m2.size
        refine J_done ?_
        refine S_seq ?_
        refine S_regD mixed [(0, true), (1, false), (2, true), (3, true), (4, true), (5, true), (6, true), (7, true), (8, true), (9, true), (10, true), (11, true), (12, true), (13, true), (14, true), (15, true), (16, false), (17, true), (18, true), (19, true), (20, true), (21, true), (22, true), (23, true), (24, true), (25, true), (26, true), (27, true), (28, true), (29, true), (30, true), (31, true), (32, true), (33, true)] (by decide +kernel) rfl (fun w11 e6 => ?_)
        replace E := E.trans e6; replace h1 := h1.ext e6; replace h3 := h3.ext e6
        have z10 := e6.size
        refine J_st (R_loadS st60 rfl h3.at rfl) rfl ?_
        refine J_call Try.call26 rfl (c_LinkOk [.int .i64 ((x.links[k]'hi2).cap), o14, .int .i64 ((x.links[k]'hi2).credits), .int .i64 ((x.links[k]'hi2).back), .int .i64 ((x.links[k]'hi2).sent), .int .i64 ((x.links[k]'hi2).got)] (x.links[k]'hi2) _ (Link.mkR (x.links[k]'hi2) (RdD.any (hd14.ext E))) (hok _ (List.getElem_mem _))) rfl (fun _ w12 e7 hv => ?_)
        subst hv
        replace E := E.trans e7; replace h1 := h1.ext e7; replace h3 := h3.ext e7
        have z11 := e7.size
        refine J_st (R_not rfl) rfl (J_st (R_move rfl) rfl ?_)
        refine J_cut 30 [(1, .pointer (some ⟨b1, 0, none⟩)), (2, .bool false), (3, .int .i64 x.graph.workers), (6, .int .i64 ((k : Nat) : Int)), (7, .pointer (some ⟨b3, 0, none⟩)), (55, o3), (56, .int .i64 ((x.links.length : Nat) : Int)), (57, .int .i64 ((k : Nat) : Int)), (58, .bool (decide (((k : Nat) : Int) < ((x.links.length : Nat) : Int)))), (59, .int .i64 ((k : Nat) : Int)), (60, .pointer (some ⟨sblk o3, soff o3 + k * 6, none⟩)), (61, .agg [.int .i64 ((x.links[k]'hi2).cap), o14, .int .i64 ((x.links[k]'hi2).credits), .int .i64 ((x.links[k]'hi2).back), .int .i64 ((x.links[k]'hi2).sent), .int .i64 ((x.links[k]'hi2).got)].toArray), (95, .bool ((((!(linkOk (x.links[k]'hi2))) || (((x.links[k]'hi2).cap) != x.graph.cap)) || (!(((x.links[k]'hi2).queue).all (opOk x.graph)))) || (((IntKind.i64.wrap (Int.tdiv ((k : Nat) : Int) x.graph.workers)) == (Int.tmod ((k : Nat) : Int) x.graph.workers)) && (decide (0 < ((((x.links[k]'hi2).queue).length : Nat) : Int))))))] (fun w' => Ext w w' ∧ w12.heap.size ≤ w'.heap.size ∧ Blk w' b1 ([o1, .int .i64 x.graph.workers, .int .i64 x.graph.cap, o2, o3, o4, o5]) ∧ Blk w' b3 [.int .i64 ((x.links[k]'hi2).cap), o14, .int .i64 ((x.links[k]'hi2).credits), .int .i64 ((x.links[k]'hi2).back), .int .i64 ((x.links[k]'hi2).sent), .int .i64 ((x.links[k]'hi2).got)]) ?_ ?_
        · refine J_if (gd := 65) rfl rfl (fun hg4 => ?_) (fun hg4 => ?_)
          · refine J_gdno rfl rfl rfl rfl (J_gdno rfl rfl rfl rfl (J_gdno rfl rfl rfl rfl (J_gdno rfl rfl rfl rfl (J_gdno rfl rfl rfl rfl (J_gdno rfl rfl rfl rfl (J_st (R_pickT rfl rfl) rfl (J_st (R_move rfl) rfl (J_gdno rfl rfl rfl rfl (J_gdno rfl rfl rfl rfl (J_gdno rfl rfl rfl rfl (J_gdno rfl rfl rfl rfl ?_)))))))))))
            refine J_ungno rfl rfl rfl rfl ?_
            refine J_gdno rfl rfl rfl rfl (J_st (R_pickT rfl rfl) rfl (J_st (R_move rfl) rfl (J_gdno rfl rfl rfl rfl (J_gdno rfl rfl rfl rfl (J_gdno rfl rfl rfl rfl (J_gdno rfl rfl rfl rfl (J_gdno rfl rfl rfl rfl (J_gdno rfl rfl rfl rfl (J_gdno rfl rfl rfl rfl (J_gdno rfl rfl rfl rfl (J_gdx rfl rfl rfl (J_gdx rfl rfl rfl (J_gdx rfl rfl rfl (J_gdx rfl rfl rfl (J_gdno rfl rfl rfl rfl (J_st (R_pickT rfl rfl) rfl (J_cutEnd ⟨rfl, rfl, rfl, rfl, rfl, rfl, rfl, rfl, rfl, rfl, rfl, rfl, congrArg (fun b => some (Value.bool b)) (show true = ((((!(linkOk (x.links[k]'hi2))) || (((x.links[k]'hi2).cap) != x.graph.cap)) || (!(((x.links[k]'hi2).queue).all (opOk x.graph)))) || (((IntKind.i64.wrap (Int.tdiv ((k : Nat) : Int) x.graph.workers)) == (Int.tmod ((k : Nat) : Int) x.graph.workers)) && (decide (0 < ((((x.links[k]'hi2).queue).length : Nat) : Int))))) by first | (rw [hg4] <;> rfl) | (simp [hg4]; done) | (simp only [nat_nlt] <;> simp)), trivial⟩ ⟨E, (by omega), h1, h3⟩)))))))))))))))))
          · refine J_gd rfl rfl (R_fieldAddr0 fl60_0 rfl) rfl (J_gd rfl rfl (R_load sc3 rfl (h3.one 0 rfl)) rfl (J_gd rfl rfl (R_fieldAddr0 fl41_0 rfl) rfl (J_gd rfl rfl (R_fieldAddr0 fl35_2 rfl) rfl (J_gd rfl rfl (R_load sc3 rfl (h1.one 2 rfl)) rfl (J_gd rfl rfl (R_neq rfl rfl) rfl (J_st (R_pickF rfl rfl) rfl (J_st (R_move rfl) rfl ?_)))))))
            refine J_if (gd := 73) rfl rfl (fun hg5 => ?_) (fun hg5 => ?_)
            · refine J_gdno rfl rfl rfl rfl (J_gdno rfl rfl rfl rfl (J_gdno rfl rfl rfl rfl (J_gdno rfl rfl rfl rfl ?_)))
              refine J_ungno rfl rfl rfl rfl ?_
              refine J_gdno rfl rfl rfl rfl (J_st (R_pickT rfl rfl) rfl (J_st (R_move rfl) rfl (J_gdno rfl rfl rfl rfl (J_gdno rfl rfl rfl rfl (J_gdno rfl rfl rfl rfl (J_gdno rfl rfl rfl rfl (J_gdno rfl rfl rfl rfl (J_gdno rfl rfl rfl rfl (J_gdno rfl rfl rfl rfl (J_gdno rfl rfl rfl rfl (J_gdx rfl rfl rfl (J_gdx rfl rfl rfl (J_gdx rfl rfl rfl (J_gdx rfl rfl rfl (J_gdno rfl rfl rfl rfl (J_st (R_pickT rfl rfl) rfl (J_cutEnd ⟨rfl, rfl, rfl, rfl, rfl, rfl, rfl, rfl, rfl, rfl, rfl, rfl, congrArg (fun b => some (Value.bool b)) (show true = ((((!(linkOk (x.links[k]'hi2))) || (((x.links[k]'hi2).cap) != x.graph.cap)) || (!(((x.links[k]'hi2).queue).all (opOk x.graph)))) || (((IntKind.i64.wrap (Int.tdiv ((k : Nat) : Int) x.graph.workers)) == (Int.tmod ((k : Nat) : Int) x.graph.workers)) && (decide (0 < ((((x.links[k]'hi2).queue).length : Nat) : Int))))) by first | (rw [hg4, hg5] <;> rfl) | (simp [hg4, hg5]; done) | (simp only [nat_nlt] <;> simp)), trivial⟩ ⟨E, (by omega), h1, h3⟩)))))))))))))))))
            · refine J_gd rfl rfl (R_fieldAddr0 fl41_0 rfl) rfl (J_gd rfl rfl (R_loadS st35 rfl (h1.part 0 [o1, .int .i64 x.graph.workers, .int .i64 x.graph.cap] rfl) rfl) rfl (J_gd rfl rfl (R_fieldAddr0 fl60_1 rfl) rfl (J_gd rfl rfl (R_load sc52 rfl (h3.one 1 rfl)) rfl ?_)))
              refine J_ung rfl rfl ?_
              refine J_call Try.call27 rfl (c_opsOk [o1, .int .i64 x.graph.workers, .int .i64 x.graph.cap] x.graph o14 ((x.links[k]'hi2).queue) _ (Graph.mkR x.graph (RdD.any (hd1.ext E))) (hd14.rd.ext E)) rfl (fun _ w14 e8 hv => ?_)
              subst hv
              replace E := E.trans e8; replace h1 := h1.ext e8; replace h3 := h3.ext e8
              have z12 := e8.size
              refine J_gd rfl rfl (R_not rfl) rfl (J_st (R_pickF rfl rfl) rfl (J_st (R_move rfl) rfl ?_))
              refine J_if (gd := 81) rfl rfl (fun hg6 => ?_) (fun hg6 => ?_)
              · refine J_gdno rfl rfl rfl rfl (J_gdno rfl rfl rfl rfl (J_gdno rfl rfl rfl rfl (J_gdno rfl rfl rfl rfl (J_gdno rfl rfl rfl rfl (J_gdno rfl rfl rfl rfl (J_gdno rfl rfl rfl rfl (J_gdno rfl rfl rfl rfl (J_gdx rfl rfl rfl (J_gdx rfl rfl rfl (J_gdx rfl rfl rfl (J_gdx rfl rfl rfl (J_gdno rfl rfl rfl rfl (J_st (R_pickT rfl rfl) rfl (J_cutEnd ⟨rfl, rfl, rfl, rfl, rfl, rfl, rfl, rfl, rfl, rfl, rfl, rfl, congrArg (fun b => some (Value.bool b)) (show true = ((((!(linkOk (x.links[k]'hi2))) || (((x.links[k]'hi2).cap) != x.graph.cap)) || (!(((x.links[k]'hi2).queue).all (opOk x.graph)))) || (((IntKind.i64.wrap (Int.tdiv ((k : Nat) : Int) x.graph.workers)) == (Int.tmod ((k : Nat) : Int) x.graph.workers)) && (decide (0 < ((((x.links[k]'hi2).queue).length : Nat) : Int))))) by first | (rw [hg4, hg5, hg6] <;> rfl) | (simp [hg4, hg5, hg6]; done) | (simp only [nat_nlt] <;> simp)), trivial⟩ ⟨E, (by omega), h1, h3⟩))))))))))))))
              · refine J_gd rfl rfl (R_move rfl) rfl (J_gd rfl rfl (R_move rfl) rfl (J_gd rfl rfl (R_quo rfl rfl (by omega) rfl) rfl (J_gd rfl rfl (R_move rfl) rfl (J_gd rfl rfl (R_move rfl) rfl (J_gd rfl rfl (R_rem rfl rfl (by omega) rfl) rfl (J_gd rfl rfl (R_eql rfl rfl) rfl (J_gd rfl rfl (R_move rfl) rfl ?_)))))))
                refine J_if (gd := 89) rfl rfl (fun hg7 => ?_) (fun hg7 => ?_)
                · refine J_gd rfl rfl (R_fieldAddr0 fl60_1 rfl) rfl (J_gd rfl rfl (R_load sc52 rfl (h3.one 1 rfl)) rfl (J_gd rfl rfl (R_len Try.underlying52 rfl (hd14.ext E).len) rfl (J_gd rfl rfl (R_gtr rfl rfl) rfl (J_gd rfl rfl (R_pickT rfl rfl) rfl (J_st (R_pickF rfl rfl) rfl (J_cutEnd ⟨rfl, rfl, rfl, rfl, rfl, rfl, rfl, rfl, rfl, rfl, rfl, rfl, congrArg (fun b => some (Value.bool b)) (show (decide (0 < ((((x.links[k]'hi2).queue).length : Nat) : Int))) = ((((!(linkOk (x.links[k]'hi2))) || (((x.links[k]'hi2).cap) != x.graph.cap)) || (!(((x.links[k]'hi2).queue).all (opOk x.graph)))) || (((IntKind.i64.wrap (Int.tdiv ((k : Nat) : Int) x.graph.workers)) == (Int.tmod ((k : Nat) : Int) x.graph.workers)) && (decide (0 < ((((x.links[k]'hi2).queue).length : Nat) : Int))))) by first | (rw [hg4, hg5, hg6, hg7] <;> rfl) | (simp [hg4, hg5, hg6, hg7]; done) | (simp only [nat_nlt] <;> simp)), trivial⟩ ⟨E, (by omega), h1, h3⟩))))))
                · refine J_gdno rfl rfl rfl rfl (J_gdno rfl rfl rfl rfl (J_gdno rfl rfl rfl rfl (J_gdno rfl rfl rfl rfl (J_gd rfl rfl (R_pickF rfl rfl) rfl (J_st (R_pickF rfl rfl) rfl (J_cutEnd ⟨rfl, rfl, rfl, rfl, rfl, rfl, rfl, rfl, rfl, rfl, rfl, rfl, congrArg (fun b => some (Value.bool b)) (show false = ((((!(linkOk (x.links[k]'hi2))) || (((x.links[k]'hi2).cap) != x.graph.cap)) || (!(((x.links[k]'hi2).queue).all (opOk x.graph)))) || (((IntKind.i64.wrap (Int.tdiv ((k : Nat) : Int) x.graph.workers)) == (Int.tmod ((k : Nat) : Int) x.graph.workers)) && (decide (0 < ((((x.links[k]'hi2).queue).length : Nat) : Int))))) by first | (rw [hg4, hg5, hg6, hg7] <;> rfl) | (simp [hg4, hg5, hg6, hg7]; done) | (simp only [nat_nlt] <;> simp)), trivial⟩ ⟨E, (by omega), h1, h3⟩))))))
        clear E h1 h3
        rintro w13 ⟨E, z13, h1, h3⟩
        refine J_done ?_
        refine S_cond rfl (fun hc5 => ?_) (fun hc5 => ?_)
        · refine S_seq ?_
          refine S_reg [true] rfl rfl ?_
          refine J_st (R_assign rfl) rfl (J_done ?_)
          refine S_ret (E_inB_ret (E_lp_ret (E_inB_ret (E_done1 rfl rfl E ?_))))
          exact cl_2 (by assumption) hc5
        · refine S_skip ?_
          refine S_nil (E_inB ?_)
          refine S_reg [true, true] rfl rfl ?_
          refine J_st (R_add rfl rfl (add_nat (by unfold maxLen; omega))) rfl (J_st (R_move rfl) rfl (J_done ?_))
          refine S_nil (E_again (k + 1) (by omega) ⟨rfl, rfl, rfl, rfl, rfl, rfl, trivial⟩ ⟨E, (by omega), h1, (by omega), allR_s hI2 (lk_at (by assumption) hc5)⟩)
      · have hc4n : ¬ k < x.links.length := by first | (have h := of_decide_eq_false hc4; omega) | (have h := hc4; simp at h; omega)
        refine S_exit (E_lp_exit (E_inB_exit ?_))
        refine S_seq ?_
        refine S_seq ?_
        refine S_reg [true, true, true, true] rfl rfl ?_
        refine J_st (R_fieldAddr0 fl41_3 rfl) rfl (J_st (R_load sc38 rfl (h1.one 5 rfl)) rfl (J_st (R_len Try.underlying38 rfl (hd4.ext E).len) rfl (J_st (R_move rfl) rfl (J_done ?_))))
        refine S_block ?_
        refine S_loop (fun (k : Nat) => [(1, .pointer (some ⟨b1, 0, none⟩)), (2, .bool false), (3, .int .i64 x.graph.workers), (98, o4), (99, .int .i64 ((x.tokens.length : Nat) : Int)), (100, .int .i64 ((k : Nat) : Int))]) (fun (k : Nat) w' => Ext w w' ∧ w8.heap.size ≤ w'.heap.size ∧ Blk w' b1 ([o1, .int .i64 x.graph.workers, .int .i64 x.graph.cap, o2, o3, o4, o5]) ∧ k ≤ x.tokens.length ∧ (x.tokens.take k).all (fun t => !tkBad x.graph t) = true) (fun (k : Nat) => x.tokens.length - k) 0 ⟨rfl, rfl, rfl, rfl, rfl, rfl, trivial⟩ ⟨E, Nat.le_refl _, h1, Nat.zero_le _, rfl⟩ ?_
        clear E h1
        rintro k w15 ⟨E, z14, h1, hk, hI3⟩
        have hmt := hd4.1.1
        unfold maxLen at hmt
        refine S_seq ?_
        refine S_reg [true] rfl rfl ?_
        refine J_st (R_lss rfl rfl) rfl (J_done ?_)
        refine S_seq ?_
        refine S_cond rfl (fun hc6 => ?_) (fun hc6 => ?_)
        · have hc6n : k < x.tokens.length := by first | (have h := of_decide_eq_true hc6; omega) | (have h := hc6; simp at h; omega)
          refine S_skip ?_
          refine S_seq ?_
          refine S_block ?_
          refine S_seq ?_
          refine S_reg [true, true, false, false] rfl rfl ?_
          have hi3 : k < x.tokens.length := (by first | assumption | omega)
          refine J_st (R_index (i := k) sl38 rfl rfl (hd4.rd.ext E) hi3) rfl (J_st (R_loadS st65 rfl ((hd4.rd.ext E).get hi3) rfl) rfl ?_)
          refine J_alloc st65 rfl (fun b4 w16 e9 s4 h4 => ?_)
          have g_b4 : w.heap.size ≤ b4 := by have := E.size; omega
          have y_b4 := h4.lt
          replace E := E.trans e9; replace h1 := h1.ext e9
          have z15 := e9.size
          refine J_storeS' (cs' := [.bool ((x.tokens[k]'hi3).going), .int .i64 ((x.tokens[k]'hi3).place), .int .i64 ((x.tokens[k]'hi3).sum), .bool ((x.tokens[k]'hi3).black), .bool ((x.tokens[k]'hi3).capped)]) st65 rfl rfl rfl rfl h4 (Nat.le_of_ble_eq_true rfl) rfl (fun w17 m3 h4' => ?_)
          replace h4 := h4'
          replace E := E.step m3 (fun g hg => by cases hg; omega); replace h1 := h1.mod m3 (fun g hg => by cases hg; omega)
          have z16 := m3.size
          refine J_done ?_
          refine S_seq ?_
          refine S_reg [true, true, true, true, false, true, true, true, true, true, true, true, true, true, true, true, true, true, true, false, true, true] rfl rfl ?_
          refine J_st (R_fieldAddr0 fl65_1 rfl) rfl (J_st (R_load sc3 rfl (h4.one 1 rfl)) rfl (J_st (R_move rfl) rfl (J_st (R_sub rfl rfl rfl) rfl ?_)))
          refine J_call Try.call28 rfl (c_within ((x.tokens[k]'hi3).place) 0 (IntKind.i64.wrap (x.graph.workers - 1)) _ ) rfl (fun _ w18 e10 hv => ?_)
          subst hv
          replace E := E.trans e10; replace h1 := h1.ext e10; replace h4 := h4.ext e10
          have z17 := e10.size
          refine J_st (R_not rfl) rfl (J_st (R_move rfl) rfl ?_)
          refine J_cut 15 [(1, .pointer (some ⟨b1, 0, none⟩)), (2, .bool false), (3, .int .i64 x.graph.workers), (9, .pointer (some ⟨b4, 0, none⟩)), (98, o4), (99, .int .i64 ((x.tokens.length : Nat) : Int)), (100, .int .i64 ((k : Nat) : Int)), (101, .bool (decide (((k : Nat) : Int) < ((x.tokens.length : Nat) : Int)))), (102, .pointer (some ⟨sblk o4, soff o4 + k * 5, none⟩)), (103, .agg (Enc.enc (x.tokens[k]'hi3)).toArray), (125, .bool (((!(win ((x.tokens[k]'hi3).place) 0 (IntKind.i64.wrap (x.graph.workers - 1)))) || ((!((x.tokens[k]'hi3).going)) && (((x.tokens[k]'hi3).place) != 0))) || (!(win ((x.tokens[k]'hi3).sum) (-1000000) 1000000))))] (fun w' => Ext w w' ∧ w18.heap.size ≤ w'.heap.size ∧ Blk w' b1 ([o1, .int .i64 x.graph.workers, .int .i64 x.graph.cap, o2, o3, o4, o5]) ∧ Blk w' b4 [.bool ((x.tokens[k]'hi3).going), .int .i64 ((x.tokens[k]'hi3).place), .int .i64 ((x.tokens[k]'hi3).sum), .bool ((x.tokens[k]'hi3).black), .bool ((x.tokens[k]'hi3).capped)]) ?_ ?_
          · refine J_if (gd := 110) rfl rfl (fun hg8 => ?_) (fun hg8 => ?_)
            · refine J_gdno rfl rfl rfl rfl (J_gdno rfl rfl rfl rfl (J_gdno rfl rfl rfl rfl (J_gdno rfl rfl rfl rfl (J_gdx rfl rfl rfl (J_gdx rfl rfl rfl (J_gdx rfl rfl rfl (J_gdno rfl rfl rfl rfl (J_st (R_pickT rfl rfl) rfl (J_st (R_move rfl) rfl (J_gdno rfl rfl rfl rfl (J_gdno rfl rfl rfl rfl ?_)))))))))))
              refine J_ungno rfl rfl rfl rfl ?_
              refine J_gdno rfl rfl rfl rfl (J_st (R_pickT rfl rfl) rfl (J_cutEnd ⟨rfl, rfl, rfl, rfl, rfl, rfl, rfl, rfl, rfl, rfl, congrArg (fun b => some (Value.bool b)) (show true = (((!(win ((x.tokens[k]'hi3).place) 0 (IntKind.i64.wrap (x.graph.workers - 1)))) || ((!((x.tokens[k]'hi3).going)) && (((x.tokens[k]'hi3).place) != 0))) || (!(win ((x.tokens[k]'hi3).sum) (-1000000) 1000000))) by first | (rw [hg8] <;> rfl) | (simp [hg8]; done) | (simp only [nat_nlt] <;> simp)), trivial⟩ ⟨E, (by omega), h1, h4⟩))
            · refine J_gd rfl rfl (R_fieldAddr0 fl65_0 rfl) rfl (J_gd rfl rfl (R_load sc4 rfl (h4.one 0 rfl)) rfl (J_gd rfl rfl (R_not rfl) rfl (J_gd rfl rfl (R_move rfl) rfl ?_)))
              refine J_if (gd := 114) rfl rfl (fun hg9 => ?_) (fun hg9 => ?_)
              · refine J_gd rfl rfl (R_fieldAddr0 fl65_1 rfl) rfl (J_gd rfl rfl (R_load sc3 rfl (h4.one 1 rfl)) rfl (J_gd rfl rfl (R_neq rfl rfl) rfl (J_gd rfl rfl (R_pickT rfl rfl) rfl (J_st (R_pickF rfl rfl) rfl (J_st (R_move rfl) rfl ?_)))))
                refine J_if (gd := 120) rfl rfl (fun hg10 => ?_) (fun hg10 => ?_)
                · refine J_gdno rfl rfl rfl rfl (J_gdno rfl rfl rfl rfl ?_)
                  refine J_ungno rfl rfl rfl rfl ?_
                  refine J_gdno rfl rfl rfl rfl (J_st (R_pickT rfl rfl) rfl (J_cutEnd ⟨rfl, rfl, rfl, rfl, rfl, rfl, rfl, rfl, rfl, rfl, congrArg (fun b => some (Value.bool b)) (show true = (((!(win ((x.tokens[k]'hi3).place) 0 (IntKind.i64.wrap (x.graph.workers - 1)))) || ((!((x.tokens[k]'hi3).going)) && (((x.tokens[k]'hi3).place) != 0))) || (!(win ((x.tokens[k]'hi3).sum) (-1000000) 1000000))) by first | (rw [hg8, hg9, hg10] <;> rfl) | (simp [hg8, hg9, hg10]; done) | (simp only [nat_nlt] <;> simp)), trivial⟩ ⟨E, (by omega), h1, h4⟩))
                · refine J_gd rfl rfl (R_fieldAddr0 fl65_2 rfl) rfl (J_gd rfl rfl (R_load sc3 rfl (h4.one 2 rfl)) rfl ?_)
                  refine J_ung rfl rfl ?_
                  refine J_call Try.call28 rfl (c_within ((x.tokens[k]'hi3).sum) (-1000000) 1000000 _ ) rfl (fun _ w20 e11 hv => ?_)
                  subst hv
                  replace E := E.trans e11; replace h1 := h1.ext e11; replace h4 := h4.ext e11
                  have z18 := e11.size
                  refine J_gd rfl rfl (R_not rfl) rfl (J_st (R_pickF rfl rfl) rfl (J_cutEnd ⟨rfl, rfl, rfl, rfl, rfl, rfl, rfl, rfl, rfl, rfl, congrArg (fun b => some (Value.bool b)) (show (!(win ((x.tokens[k]'hi3).sum) (-1000000) 1000000)) = (((!(win ((x.tokens[k]'hi3).place) 0 (IntKind.i64.wrap (x.graph.workers - 1)))) || ((!((x.tokens[k]'hi3).going)) && (((x.tokens[k]'hi3).place) != 0))) || (!(win ((x.tokens[k]'hi3).sum) (-1000000) 1000000))) by first | (rw [hg8, hg9, hg10] <;> rfl) | (simp [hg8, hg9, hg10]; done) | (simp only [nat_nlt] <;> simp)), trivial⟩ ⟨E, (by omega), h1, h4⟩))
              · refine J_gdno rfl rfl rfl rfl (J_gdno rfl rfl rfl rfl (J_gdno rfl rfl rfl rfl (J_gd rfl rfl (R_pickF rfl rfl) rfl (J_st (R_pickF rfl rfl) rfl (J_st (R_move rfl) rfl (J_gd rfl rfl (R_fieldAddr0 fl65_2 rfl) rfl (J_gd rfl rfl (R_load sc3 rfl (h4.one 2 rfl)) rfl ?_)))))))
                refine J_ung rfl rfl ?_
                refine J_call Try.call28 rfl (c_within ((x.tokens[k]'hi3).sum) (-1000000) 1000000 _ ) rfl (fun _ w21 e12 hv => ?_)
                subst hv
                replace E := E.trans e12; replace h1 := h1.ext e12; replace h4 := h4.ext e12
                have z19 := e12.size
                refine J_gd rfl rfl (R_not rfl) rfl (J_st (R_pickF rfl rfl) rfl (J_cutEnd ⟨rfl, rfl, rfl, rfl, rfl, rfl, rfl, rfl, rfl, rfl, congrArg (fun b => some (Value.bool b)) (show (!(win ((x.tokens[k]'hi3).sum) (-1000000) 1000000)) = (((!(win ((x.tokens[k]'hi3).place) 0 (IntKind.i64.wrap (x.graph.workers - 1)))) || ((!((x.tokens[k]'hi3).going)) && (((x.tokens[k]'hi3).place) != 0))) || (!(win ((x.tokens[k]'hi3).sum) (-1000000) 1000000))) by first | (rw [hg8, hg9] <;> rfl) | (simp [hg8, hg9]; done) | (simp only [nat_nlt] <;> simp)), trivial⟩ ⟨E, (by omega), h1, h4⟩))
          clear E h1 h4
          rintro w19 ⟨E, z20, h1, h4⟩
          refine J_done ?_
          refine S_cond rfl (fun hc7 => ?_) (fun hc7 => ?_)
          · refine S_seq ?_
            refine S_reg [true] rfl rfl ?_
            refine J_st (R_assign rfl) rfl (J_done ?_)
            refine S_ret (E_inB_ret (E_lp_ret (E_inB_ret (E_done1 rfl rfl E ?_))))
            exact cl_3 (by assumption) hc7
          · refine S_skip ?_
            refine S_nil (E_inB ?_)
            refine S_reg [true, true] rfl rfl ?_
            refine J_st (R_add rfl rfl (add_nat (by unfold maxLen; omega))) rfl (J_st (R_move rfl) rfl (J_done ?_))
            refine S_nil (E_again (k + 1) (by omega) ⟨rfl, rfl, rfl, rfl, rfl, rfl, trivial⟩ ⟨E, (by omega), h1, (by omega), all_step hI3 (by assumption) (nb hc7)⟩)
        · have hc6n : ¬ k < x.tokens.length := by first | (have h := of_decide_eq_false hc6; omega) | (have h := hc6; simp at h; omega)
          refine S_exit (E_lp_exit (E_inB_exit ?_))
          refine S_seq ?_
          refine S_seq ?_
          refine S_reg [true, true, true, true] rfl rfl ?_
          refine J_st (R_fieldAddr0 fl41_4 rfl) rfl (J_st (R_load sc39 rfl (h1.one 6 rfl)) rfl (J_st (R_len Try.underlying39 rfl (hd5.ext E).len) rfl (J_st (R_move rfl) rfl (J_done ?_))))
          refine S_block ?_
          refine S_loop (fun (k : Nat) => [(2, .bool false), (3, .int .i64 x.graph.workers), (128, o5), (129, .int .i64 ((x.news.length : Nat) : Int)), (130, .int .i64 ((k : Nat) : Int))]) (fun (k : Nat) w' => Ext w w' ∧ w15.heap.size ≤ w'.heap.size ∧ Blk w' b1 ([o1, .int .i64 x.graph.workers, .int .i64 x.graph.cap, o2, o3, o4, o5]) ∧ k ≤ x.news.length ∧ (x.news.take k).all (fun t => !nwBad x.graph t) = true) (fun (k : Nat) => x.news.length - k) 0 ⟨rfl, rfl, rfl, rfl, rfl, trivial⟩ ⟨E, Nat.le_refl _, h1, Nat.zero_le _, rfl⟩ ?_
          clear E h1
          rintro k w22 ⟨E, z21, h1, hk, hI4⟩
          have hmn := hd5.1.1
          unfold maxLen at hmn
          refine S_seq ?_
          refine S_reg [true] rfl rfl ?_
          refine J_st (R_lss rfl rfl) rfl (J_done ?_)
          refine S_seq ?_
          refine S_cond rfl (fun hc8 => ?_) (fun hc8 => ?_)
          · have hc8n : k < x.news.length := by first | (have h := of_decide_eq_true hc8; omega) | (have h := hc8; simp at h; omega)
            refine S_skip ?_
            refine S_seq ?_
            refine S_block ?_
            refine S_seq ?_
            refine S_reg [true, true, false, false] rfl rfl ?_
            have hi4 : k < x.news.length := (by first | assumption | omega)
            refine J_st (R_index (i := k) sl39 rfl rfl (hd5.rd.ext E) hi4) rfl (J_st (R_loadS st67 rfl ((hd5.rd.ext E).get hi4) rfl) rfl ?_)
            refine J_alloc st67 rfl (fun b5 w23 e13 s5 h5 => ?_)
            have g_b5 : w.heap.size ≤ b5 := by have := E.size; omega
            have y_b5 := h5.lt
            replace E := E.trans e13; replace h1 := h1.ext e13
            have z22 := e13.size
            refine J_storeS' (cs' := [.int .i64 ((x.news[k]'hi4).dest), .int .i64 ((x.news[k]'hi4).epoch), .bool ((x.news[k]'hi4).capped)]) st67 rfl rfl rfl rfl h5 (Nat.le_of_ble_eq_true rfl) rfl (fun w24 m4 h5' => ?_)
            replace h5 := h5'
            replace E := E.step m4 (fun g hg => by cases hg; omega); replace h1 := h1.mod m4 (fun g hg => by cases hg; omega)
            have z23 := m4.size
            refine J_done ?_
            refine S_seq ?_
            refine S_reg [true, true, true, true, false, true, true, true, true, false, true, true] rfl rfl ?_
            refine J_st (R_fieldAddr0 fl67_0 rfl) rfl (J_st (R_load sc3 rfl (h5.one 0 rfl)) rfl (J_st (R_move rfl) rfl (J_st (R_sub rfl rfl rfl) rfl ?_)))
            refine J_call Try.call28 rfl (c_within ((x.news[k]'hi4).dest) 0 (IntKind.i64.wrap (x.graph.workers - 1)) _ ) rfl (fun _ w25 e14 hv => ?_)
            subst hv
            replace E := E.trans e14; replace h1 := h1.ext e14; replace h5 := h5.ext e14
            have z24 := e14.size
            refine J_st (R_not rfl) rfl (J_st (R_move rfl) rfl ?_)
            refine J_cut 5 [(2, .bool false), (3, .int .i64 x.graph.workers), (11, .pointer (some ⟨b5, 0, none⟩)), (128, o5), (129, .int .i64 ((x.news.length : Nat) : Int)), (130, .int .i64 ((k : Nat) : Int)), (131, .bool (decide (((k : Nat) : Int) < ((x.news.length : Nat) : Int)))), (132, .pointer (some ⟨sblk o5, soff o5 + k * 3, none⟩)), (133, .agg (Enc.enc (x.news[k]'hi4)).toArray), (145, .bool ((!(win ((x.news[k]'hi4).dest) 0 (IntKind.i64.wrap (x.graph.workers - 1)))) || (!(win ((x.news[k]'hi4).epoch) 0 3))))] (fun w' => Ext w w' ∧ w25.heap.size ≤ w'.heap.size ∧ Blk w' b1 ([o1, .int .i64 x.graph.workers, .int .i64 x.graph.cap, o2, o3, o4, o5]) ∧ Blk w' b5 [.int .i64 ((x.news[k]'hi4).dest), .int .i64 ((x.news[k]'hi4).epoch), .bool ((x.news[k]'hi4).capped)]) ?_ ?_
            · refine J_if (gd := 140) rfl rfl (fun hg11 => ?_) (fun hg11 => ?_)
              · refine J_gdno rfl rfl rfl rfl (J_gdno rfl rfl rfl rfl ?_)
                refine J_ungno rfl rfl rfl rfl ?_
                refine J_gdno rfl rfl rfl rfl (J_st (R_pickT rfl rfl) rfl (J_cutEnd ⟨rfl, rfl, rfl, rfl, rfl, rfl, rfl, rfl, rfl, congrArg (fun b => some (Value.bool b)) (show true = ((!(win ((x.news[k]'hi4).dest) 0 (IntKind.i64.wrap (x.graph.workers - 1)))) || (!(win ((x.news[k]'hi4).epoch) 0 3))) by first | (rw [hg11] <;> rfl) | (simp [hg11]; done) | (simp only [nat_nlt] <;> simp)), trivial⟩ ⟨E, (by omega), h1, h5⟩))
              · refine J_gd rfl rfl (R_fieldAddr0 fl67_1 rfl) rfl (J_gd rfl rfl (R_load sc3 rfl (h5.one 1 rfl)) rfl ?_)
                refine J_ung rfl rfl ?_
                refine J_call Try.call28 rfl (c_within ((x.news[k]'hi4).epoch) 0 3 _ ) rfl (fun _ w27 e15 hv => ?_)
                subst hv
                replace E := E.trans e15; replace h1 := h1.ext e15; replace h5 := h5.ext e15
                have z25 := e15.size
                refine J_gd rfl rfl (R_not rfl) rfl (J_st (R_pickF rfl rfl) rfl (J_cutEnd ⟨rfl, rfl, rfl, rfl, rfl, rfl, rfl, rfl, rfl, congrArg (fun b => some (Value.bool b)) (show (!(win ((x.news[k]'hi4).epoch) 0 3)) = ((!(win ((x.news[k]'hi4).dest) 0 (IntKind.i64.wrap (x.graph.workers - 1)))) || (!(win ((x.news[k]'hi4).epoch) 0 3))) by first | (rw [hg11] <;> rfl) | (simp [hg11]; done) | (simp only [nat_nlt] <;> simp)), trivial⟩ ⟨E, (by omega), h1, h5⟩))
            clear E h1 h5
            rintro w26 ⟨E, z26, h1, h5⟩
            refine J_done ?_
            refine S_cond rfl (fun hc9 => ?_) (fun hc9 => ?_)
            · refine S_seq ?_
              refine S_reg [true] rfl rfl ?_
              refine J_st (R_assign rfl) rfl (J_done ?_)
              refine S_ret (E_inB_ret (E_lp_ret (E_inB_ret (E_done1 rfl rfl E ?_))))
              exact cl_4 (by assumption) hc9
            · refine S_skip ?_
              refine S_nil (E_inB ?_)
              refine S_reg [true, true] rfl rfl ?_
              refine J_st (R_add rfl rfl (add_nat (by unfold maxLen; omega))) rfl (J_st (R_move rfl) rfl (J_done ?_))
              refine S_nil (E_again (k + 1) (by omega) ⟨rfl, rfl, rfl, rfl, rfl, trivial⟩ ⟨E, (by omega), h1, (by omega), all_step hI4 (by assumption) (nb hc9)⟩)
          · have hc8n : ¬ k < x.news.length := by first | (have h := of_decide_eq_false hc8; omega) | (have h := hc8; simp at h; omega)
            refine S_exit (E_lp_exit (E_inB_exit ?_))
            refine S_seq ?_
            refine S_reg [true] rfl rfl ?_
            refine J_st (R_assign rfl) rfl (J_done ?_)
            refine S_ret (E_done1 rfl rfl E ?_)
            exact cl_5 hc1 (all_end hI1 (by omega)) (allR_le hI2 (by omega)) (all_end hI3 (by omega)) (all_end hI4 (by omega))

set_option maxRecDepth 20000 in
theorem l_ClusterOk (cx : List Value) (x : Cluster) (w : World) (hx : Dat.R w 0 w.heap.size cx x) (kx : okCluster x) : Ct Try.prog 3 [.agg cx.toArray] w (fun v _ => v = .bool true) := by
  refine ct_of Try.func3 rfl Try.ntmps3 rfl ?_
  obtain ⟨o1, o2, o3, o4, o5, rfl, hd1, hd2, hd3, hd4, hd5⟩ := Cluster.op hx
  refine S_sub [(0, .agg [o1, .int .i64 x.graph.workers, .int .i64 x.graph.cap, o2, o3, o4, o5].toArray)] ⟨rfl, trivial⟩ ?_
  have E : Ext w w := Ext.refl w
  refine S_seq ?_
  refine S_reg [false, true] rfl rfl ?_
  refine J_box rfl rfl (fun b1 w1 e1 s1 h1 => ?_)
  have g_b1 : w.heap.size ≤ b1 := by have := E.size; omega
  have y_b1 := h1.lt
  replace E := E.trans e1
  have z1 := e1.size
  refine J_st (R_assign rfl) rfl (J_done ?_)
  refine S_seq ?_
  refine S_reg [true] rfl rfl ?_
  refine J_st (R_assign rfl) rfl (J_done ?_)
  refine S_seq ?_
  refine S_reg [true, true, false, true] rfl rfl ?_
  refine J_st (R_loadS st30 rfl h1.at rfl) rfl (J_st (R_move rfl) rfl ?_)
  refine J_call Try.call4 rfl (c_szCluster [o1, .int .i64 x.graph.workers, .int .i64 x.graph.cap, o2, o3, o4, o5] x 1048576 _ (Cluster.mkR x (RdD.any (hd1.ext E)) (RdD.any (hd2.ext E)) (RdD.any (hd3.ext E)) (RdD.any (hd4.ext E)) (RdD.any (hd5.ext E))) (by first | omega | (simp only [mkL_length]; omega) | (rw [mkL_length]))) rfl (fun _ w2 e2 hv => ?_)
  subst hv
  replace E := E.trans e2; replace h1 := h1.ext e2
  have z2 := e2.size
  refine J_st (R_assign rfl) rfl (J_done ?_)
  refine S_seq ?_
  refine S_seq ?_
  refine S_reg [true, true] rfl rfl ?_
  refine J_st (R_move rfl) rfl (J_st (R_lss rfl rfl) rfl (J_done ?_))
  refine S_cond rfl (fun hc1 => ?_) (fun hc1 => ?_)
  · have q1 := szM_no hc1 (by omega)
    refine S_seq ?_
    refine S_reg [true] rfl rfl ?_
    refine J_st (R_assign rfl) rfl (J_done ?_)
    refine S_ret (E_done1 rfl rfl E ?_)
    rfl
  · have q2 := szM_ok hc1 (by omega)
    refine S_skip ?_
    refine S_seq ?_
    refine S_reg [true, false, false, true] rfl rfl ?_
    refine J_st (R_loadS st30 rfl h1.at rfl) rfl ?_
    refine J_call Try.call6 rfl (c_toCluster [o1, .int .i64 x.graph.workers, .int .i64 x.graph.cap, o2, o3, o4, o5] x _ (Cluster.mkR x (RdD.any (hd1.ext E)) (RdD.any (hd2.ext E)) (RdD.any (hd3.ext E)) (RdD.any (hd4.ext E)) (RdD.any (hd5.ext E))) (by first | omega | (simp only [mkL_length]; omega) | (rw [mkL_length]))) rfl (fun v1 w3 e3 ho1 => ?_)
    obtain ⟨_, rfl, ho1⟩ := ho1
    obtain ⟨o6, o7, o8, o9, o10, rfl, hd6, hd7, hd8, hd9, hd10⟩ := Cluster.op ho1
    replace E := E.trans e3; replace h1 := h1.ext e3
    have z3 := e3.size
    refine J_call Try.call5 rfl (s_ClusterOk [o6, .int .i64 x.graph.workers, .int .i64 x.graph.cap, o7, o8, o9, o10] x _ (Cluster.mkR x (RdD.any hd6) (RdD.any hd7) (RdD.any hd8) (RdD.any hd9) (RdD.any hd10))) rfl (fun _ w4 e4 hv => ?_)
    subst hv
    replace E := E.trans e4; replace h1 := h1.ext e4; replace hd6 := hd6.ext e4; replace hd7 := hd7.ext e4; replace hd8 := hd8.ext e4; replace hd9 := hd9.ext e4; replace hd10 := hd10.ext e4
    have z4 := e4.size
    refine J_st (R_assign rfl) rfl (J_done ?_)
    refine S_seq ?_
    refine S_reg [true, false, false, false] rfl rfl ?_
    refine J_st (R_loadS st30 rfl h1.at rfl) rfl ?_
    refine J_call Try.call6 rfl (c_toCluster [o1, .int .i64 x.graph.workers, .int .i64 x.graph.cap, o2, o3, o4, o5] x _ (Cluster.mkR x (RdD.any (hd1.ext E)) (RdD.any (hd2.ext E)) (RdD.any (hd3.ext E)) (RdD.any (hd4.ext E)) (RdD.any (hd5.ext E))) (by first | omega | (simp only [mkL_length]; omega) | (rw [mkL_length]))) rfl (fun v2 w5 e5 ho2 => ?_)
    obtain ⟨_, rfl, ho2⟩ := ho2
    obtain ⟨o11, o12, o13, o14, o15, rfl, hd11, hd12, hd13, hd14, hd15⟩ := Cluster.op ho2
    replace E := E.trans e5; replace h1 := h1.ext e5; replace hd6 := hd6.ext e5; replace hd7 := hd7.ext e5; replace hd8 := hd8.ext e5; replace hd9 := hd9.ext e5; replace hd10 := hd10.ext e5
    have z5 := e5.size
    refine J_alloc st41 rfl (fun b2 w6 e6 s2 h2 => ?_)
    have g_b2 : w.heap.size ≤ b2 := by have := E.size; omega
    have y_b2 := h2.lt
    replace E := E.trans e6; replace h1 := h1.ext e6; replace hd6 := hd6.ext e6; replace hd7 := hd7.ext e6; replace hd8 := hd8.ext e6; replace hd9 := hd9.ext e6; replace hd10 := hd10.ext e6; replace hd11 := hd11.ext e6; replace hd12 := hd12.ext e6; replace hd13 := hd13.ext e6; replace hd14 := hd14.ext e6; replace hd15 := hd15.ext e6
    have z6 := e6.size
    refine J_storeS' (cs' := [o11, .int .i64 x.graph.workers, .int .i64 x.graph.cap, o12, o13, o14, o15]) st41 rfl rfl rfl (all_cons (RdD.one hd11) (all_cons rfl (all_cons rfl (all_cons (RdD.one hd12) (all_cons (RdD.one hd13) (all_cons (RdD.one hd14) (all_cons (RdD.one hd15) rfl))))))) h2 (Nat.le_of_ble_eq_true rfl) rfl (fun w7 m1 h2' => ?_)
    replace h2 := h2'
    replace E := E.step m1 (fun g hg => by cases hg; omega); replace h1 := h1.mod m1 (fun g hg => by cases hg; omega); replace hd6 := hd6.mod m1 (fun g hg => by cases hg; omega); replace hd7 := hd7.mod m1 (fun g hg => by cases hg; omega); replace hd8 := hd8.mod m1 (fun g hg => by cases hg; omega); replace hd9 := hd9.mod m1 (fun g hg => by cases hg; omega); replace hd10 := hd10.mod m1 (fun g hg => by cases hg; omega); replace hd11 := hd11.mod m1 (fun g hg => by cases hg; omega); replace hd12 := hd12.mod m1 (fun g hg => by cases hg; omega); replace hd13 := hd13.mod m1 (fun g hg => by cases hg; omega); replace hd14 := hd14.mod m1 (fun g hg => by cases hg; omega); replace hd15 := hd15.mod m1 (fun g hg => by cases hg; omega)
    have z7 := m1.size
    refine J_done ?_
    refine S_seq ?_
    refine S_reg [true, false, true] rfl rfl ?_
    refine J_st (R_loadS st41 rfl h2.at rfl) rfl ?_
    refine J_call Try.call7 rfl (c_ClusterOk [o11, .int .i64 x.graph.workers, .int .i64 x.graph.cap, o12, o13, o14, o15] x _ (Cluster.mkR x (RdD.any hd11) (RdD.any hd12) (RdD.any hd13) (RdD.any hd14) (RdD.any hd15)) (fun l hl => (kx.2.2.1 l hl).2.2.2.2.2)) rfl (fun _ w8 e7 hv => ?_)
    subst hv
    replace E := E.trans e7; replace h1 := h1.ext e7; replace hd6 := hd6.ext e7; replace hd7 := hd7.ext e7; replace hd8 := hd8.ext e7; replace hd9 := hd9.ext e7; replace hd10 := hd10.ext e7; replace hd11 := hd11.ext e7; replace hd12 := hd12.ext e7; replace hd13 := hd13.ext e7; replace hd14 := hd14.ext e7; replace hd15 := hd15.ext e7; replace h2 := h2.ext e7
    have z8 := e7.size
    refine J_st (R_assign rfl) rfl (J_done ?_)
    refine S_seq ?_
    refine S_seq ?_
    refine S_reg [true, true, true] rfl rfl ?_
    refine J_st (R_move rfl) rfl (J_st (R_move rfl) rfl (J_st (R_neqB (Try.underlying4) rfl rfl) rfl (J_done ?_)))
    refine S_condFe rfl (by first | (simp; done) | (simp only [nat_nlt] <;> simp) | (simp only [mkL_length, nat_nlt] <;> simp) | (simp only [mkL_length] <;> simp)) ?_
    refine S_skip ?_
    refine S_seq ?_
    refine S_seq ?_
    refine S_regD mixed [(0, true), (1, true), (2, false), (3, false), (4, true)] (by decide +kernel) rfl (fun w9 e8 => ?_)
    replace E := E.trans e8; replace h1 := h1.ext e8; replace hd6 := hd6.ext e8; replace hd7 := hd7.ext e8; replace hd8 := hd8.ext e8; replace hd9 := hd9.ext e8; replace hd10 := hd10.ext e8; replace hd11 := hd11.ext e8; replace hd12 := hd12.ext e8; replace hd13 := hd13.ext e8; replace hd14 := hd14.ext e8; replace hd15 := hd15.ext e8; replace h2 := h2.ext e8
    have z9 := e8.size
    refine J_st (R_loadS st41 rfl h2.at rfl) rfl (J_st (R_loadS st30 rfl h1.at rfl) rfl ?_)
    refine J_call Try.call6 rfl (c_toCluster [o1, .int .i64 x.graph.workers, .int .i64 x.graph.cap, o2, o3, o4, o5] x _ (Cluster.mkR x (RdD.any (hd1.ext E)) (RdD.any (hd2.ext E)) (RdD.any (hd3.ext E)) (RdD.any (hd4.ext E)) (RdD.any (hd5.ext E))) (by first | omega | (simp only [mkL_length]; omega) | (rw [mkL_length]))) rfl (fun v3 w10 e9 ho3 => ?_)
    obtain ⟨_, rfl, ho3⟩ := ho3
    obtain ⟨o16, o17, o18, o19, o20, rfl, hd16, hd17, hd18, hd19, hd20⟩ := Cluster.op ho3
    replace E := E.trans e9; replace h1 := h1.ext e9; replace hd6 := hd6.ext e9; replace hd7 := hd7.ext e9; replace hd8 := hd8.ext e9; replace hd9 := hd9.ext e9; replace hd10 := hd10.ext e9; replace hd11 := hd11.ext e9; replace hd12 := hd12.ext e9; replace hd13 := hd13.ext e9; replace hd14 := hd14.ext e9; replace hd15 := hd15.ext e9; replace h2 := h2.ext e9
    have z10 := e9.size
    refine J_call Try.call8 rfl (c_eqCluster [o11, .int .i64 x.graph.workers, .int .i64 x.graph.cap, o12, o13, o14, o15] x [o16, .int .i64 x.graph.workers, .int .i64 x.graph.cap, o17, o18, o19, o20] x _ (Cluster.mkR x (RdD.any hd11) (RdD.any hd12) (RdD.any hd13) (RdD.any hd14) (RdD.any hd15)) (Cluster.mkR x (RdD.any hd16) (RdD.any hd17) (RdD.any hd18) (RdD.any hd19) (RdD.any hd20))) rfl (fun _ w11 e10 hv => ?_)
    subst hv
    replace E := E.trans e10; replace h1 := h1.ext e10; replace hd6 := hd6.ext e10; replace hd7 := hd7.ext e10; replace hd8 := hd8.ext e10; replace hd9 := hd9.ext e10; replace hd10 := hd10.ext e10; replace hd11 := hd11.ext e10; replace hd12 := hd12.ext e10; replace hd13 := hd13.ext e10; replace hd14 := hd14.ext e10; replace hd15 := hd15.ext e10; replace h2 := h2.ext e10; replace hd16 := hd16.ext e10; replace hd17 := hd17.ext e10; replace hd18 := hd18.ext e10; replace hd19 := hd19.ext e10; replace hd20 := hd20.ext e10
    have z11 := e10.size
    refine J_st (R_not rfl) rfl (J_done ?_)
    refine S_condFe rfl (by first | (simp; done) | (simp only [nat_nlt] <;> simp) | (simp only [mkL_length, nat_nlt] <;> simp) | (simp only [mkL_length] <;> simp)) ?_
    refine S_skip ?_
    refine S_seq ?_
    refine S_reg [true] rfl rfl ?_
    refine J_st (R_assign rfl) rfl (J_done ?_)
    refine S_ret (E_done1 rfl rfl E ?_)
    rfl

end Go.Proofs.Ytgafkiapefdkdaa
