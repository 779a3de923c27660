/- What the functions that the laws call come to: a contract each; no condition. -/
import Derived.Test.YtlhdkpdpkgocoaaFns2
namespace Go.Proofs.Ytlhdkpdpkgocoaa
open Go Go.Proofs.Ytlhdkpdpkgocoaa.X Go.Proofs
set_option maxHeartbeats 4000000 in
set_option maxRecDepth 20000 in
theorem s_GraphOk (cg : List Value) (g : Graph) (w : World) (hg : Dat.R w 0 w.heap.size cg g) : Ct Try.prog 38 [.agg cg.toArray] w (fun v _ => v = .bool (graphOk g)) := by
  refine ct_of Try.func38 rfl Try.ntmps38 rfl ?_
  obtain ⟨o1, rfl, hd1⟩ := Graph.op hg
  refine S_sub [(0, .agg [o1, .int .i64 g.workers, .int .i64 g.cap].toArray)] ⟨rfl, trivial⟩ ?_
  have E : Ext w w := Ext.refl w
  refine S_seq ?_
  refine S_reg [false, true] rfl rfl ?_
  refine J_box rfl rfl (fun b1 w1 e1 s1 h1 => ?_)
  have g_b1 : w.heap.size ≤ b1 := by have := E.size; omega
  have y_b1 := h1.lt
  replace E := E.trans e1
  have z1 := e1.size
  refine J_st (R_assign rfl) rfl (J_done ?_)
  refine S_seq ?_
  refine S_seq ?_
  refine S_reg [true, true, true, false, true, true, true, true, false, true, true, true, true, true, false, true, true] rfl rfl ?_
  refine J_st (R_fieldAddr0 fl32_0 rfl) rfl (J_st (R_load sc30 rfl (h1.one 0 rfl)) rfl (J_st (R_len Try.underlying30 rfl (hd1.ext E).len) rfl ?_))
  refine J_call Try.call35 rfl (s_l01In ((g.nodes.length : Nat) : Int) 1 8 _ ) rfl (fun _ w2 e2 hv => ?_)
  subst hv
  replace E := E.trans e2; replace h1 := h1.ext e2
  have z2 := e2.size
  refine J_st (R_not rfl) rfl (J_st (R_move rfl) rfl ?_)
  refine J_cut 11 [(0, .agg [o1, .int .i64 g.workers, .int .i64 g.cap].toArray), (1, .pointer (some ⟨b1, 0, none⟩)), (2, .bool false), (24, .bool (((!(win ((g.nodes.length : Nat) : Int) 1 8)) || (!(win g.workers 1 4))) || (!(win g.cap 1 4))))] (fun w' => Ext w w' ∧ w2.heap.size ≤ w'.heap.size ∧ Blk w' b1 ([o1, .int .i64 g.workers, .int .i64 g.cap])) ?_ ?_
  · refine J_if (gd := 13) rfl rfl (fun hg1 => ?_) (fun hg1 => ?_)
    · refine J_gdno rfl rfl rfl rfl (J_gdno rfl rfl rfl rfl ?_)
      refine J_ungno rfl rfl rfl rfl ?_
      refine J_gdno rfl rfl rfl rfl (J_st (R_pickT rfl rfl) rfl (J_st (R_move rfl) rfl (J_gdno rfl rfl rfl rfl (J_gdno rfl rfl rfl rfl ?_))))
      refine J_ungno rfl rfl rfl rfl ?_
      refine J_gdno rfl rfl rfl rfl (J_st (R_pickT rfl rfl) rfl (J_cutEnd ⟨rfl, rfl, rfl, congrArg (fun b => some (Value.bool b)) (show true = (((!(win ((g.nodes.length : Nat) : Int) 1 8)) || (!(win g.workers 1 4))) || (!(win g.cap 1 4))) by first | (rw [hg1] <;> rfl) | (simp [hg1]; done) | (simp only [nat_nlt] <;> simp)), trivial⟩ ⟨E, (by omega), h1⟩))
    · refine J_gd rfl rfl (R_fieldAddr0 fl32_1 rfl) rfl (J_gd rfl rfl (R_load sc3 rfl (h1.one 1 rfl)) rfl ?_)
      refine J_ung rfl rfl ?_
      refine J_call Try.call35 rfl (s_l01In g.workers 1 4 _ ) rfl (fun _ w4 e3 hv => ?_)
      subst hv
      replace E := E.trans e3; replace h1 := h1.ext e3
      have z3 := e3.size
      refine J_gd rfl rfl (R_not rfl) rfl (J_st (R_pickF rfl rfl) rfl (J_st (R_move rfl) rfl ?_))
      refine J_if (gd := 19) rfl rfl (fun hg2 => ?_) (fun hg2 => ?_)
      · refine J_gdno rfl rfl rfl rfl (J_gdno rfl rfl rfl rfl ?_)
        refine J_ungno rfl rfl rfl rfl ?_
        refine J_gdno rfl rfl rfl rfl (J_st (R_pickT rfl rfl) rfl (J_cutEnd ⟨rfl, rfl, rfl, congrArg (fun b => some (Value.bool b)) (show true = (((!(win ((g.nodes.length : Nat) : Int) 1 8)) || (!(win g.workers 1 4))) || (!(win g.cap 1 4))) by first | (rw [hg1, hg2] <;> rfl) | (simp [hg1, hg2]; done) | (simp only [nat_nlt] <;> simp)), trivial⟩ ⟨E, (by omega), h1⟩))
      · refine J_gd rfl rfl (R_fieldAddr0 fl32_2 rfl) rfl (J_gd rfl rfl (R_load sc3 rfl (h1.one 2 rfl)) rfl ?_)
        refine J_ung rfl rfl ?_
        refine J_call Try.call35 rfl (s_l01In g.cap 1 4 _ ) rfl (fun _ w5 e4 hv => ?_)
        subst hv
        replace E := E.trans e4; replace h1 := h1.ext e4
        have z4 := e4.size
        refine J_gd rfl rfl (R_not rfl) rfl (J_st (R_pickF rfl rfl) rfl (J_cutEnd ⟨rfl, rfl, rfl, congrArg (fun b => some (Value.bool b)) (show (!(win g.cap 1 4)) = (((!(win ((g.nodes.length : Nat) : Int) 1 8)) || (!(win g.workers 1 4))) || (!(win g.cap 1 4))) by first | (rw [hg1, hg2] <;> rfl) | (simp [hg1, hg2]; done) | (simp only [nat_nlt] <;> simp)), trivial⟩ ⟨E, (by omega), h1⟩))
  clear E h1
  rintro w3 ⟨E, z5, h1⟩
  refine J_done ?_
  refine S_cond rfl (fun hc1 => ?_) (fun hc1 => ?_)
  · refine S_seq ?_
    refine S_reg [true] rfl rfl ?_
    refine J_st (R_assign rfl) rfl (J_done ?_)
    refine S_ret (E_done1 rfl rfl E ?_)
    exact graph_h (by assumption)
  · refine S_skip ?_
    refine S_seq ?_
    refine S_seq ?_
    refine S_reg [true] rfl rfl ?_
    refine J_st (R_assign rfl) rfl (J_done ?_)
    refine S_block ?_
    refine S_loop (fun (i : Nat) => [(1, .pointer (some ⟨b1, 0, none⟩)), (2, .bool false), (3, .int .i64 ((i : Nat) : Int))]) (fun (i : Nat) w' => Ext w w' ∧ w3.heap.size ≤ w'.heap.size ∧ Blk w' b1 ([o1, .int .i64 g.workers, .int .i64 g.cap]) ∧ i ≤ g.nodes.length ∧ (∀ j, j < i → nodeAtOk g j (List.getD g.nodes j default) = true)) (fun (i : Nat) => g.nodes.length - i) 0 ⟨rfl, rfl, rfl, trivial⟩ ⟨E, Nat.le_refl _, h1, Nat.zero_le _, (fun j hj => by omega)⟩ ?_
    clear E h1
    rintro i w6 ⟨E, z6, h1, hle, hp⟩
    refine S_seq ?_
    refine S_seq ?_
    refine S_reg [true, true, true, true, true] rfl rfl ?_
    refine J_st (R_move rfl) rfl (J_st (R_fieldAddr0 fl32_0 rfl) rfl (J_st (R_load sc30 rfl (h1.one 0 rfl)) rfl (J_st (R_len Try.underlying30 rfl (hd1.ext E).len) rfl (J_st (R_lss rfl rfl) rfl (J_done ?_)))))
    refine S_cond rfl (fun hc2 => ?_) (fun hc2 => ?_)
    · have hc2n : i < g.nodes.length := by first | (have h := of_decide_eq_true hc2; omega) | (have h := hc2; simp at h; omega)
      refine S_skip ?_
      refine S_seq ?_
      refine S_block ?_
      refine S_seq ?_
      refine S_reg [true, true, true, true, true, false, false] rfl rfl ?_
      refine J_st (R_fieldAddr0 fl32_0 rfl) rfl (J_st (R_load sc30 rfl (h1.one 0 rfl)) rfl (J_st (R_move rfl) rfl ?_))
      have hi1 : i < g.nodes.length := (by first | assumption | omega)
      obtain ⟨_, hr1, ha1⟩ := RdD.get hd1 hi1
      obtain ⟨o2, rfl, hd2⟩ := Node.op hr1
      replace ha1 : At w (sblk o1) (soff o1 + i * 4) [.int .i64 ((g.nodes[i]'hi1).kind), .int .i64 ((g.nodes[i]'hi1).a), .int .i64 ((g.nodes[i]'hi1).b), o2] := ha1
      refine J_st (R_index (i := i) sl30 rfl rfl (hd1.ext E).1 hi1) rfl (J_st (R_loadS st70 rfl (ha1.ext E) rfl) rfl ?_)
      refine J_alloc st70 rfl (fun b2 w7 e5 s2 h2 => ?_)
      have g_b2 : w.heap.size ≤ b2 := by have := E.size; omega
      have y_b2 := h2.lt
      replace E := E.trans e5; replace h1 := h1.ext e5
      have z7 := e5.size
      refine J_storeS' (cs' := [.int .i64 ((g.nodes[i]'hi1).kind), .int .i64 ((g.nodes[i]'hi1).a), .int .i64 ((g.nodes[i]'hi1).b), o2]) st70 rfl rfl rfl (all_cons rfl (all_cons rfl (all_cons rfl (all_cons (RdD.one (hd2.ext E)) rfl)))) h2 (Nat.le_of_ble_eq_true rfl) rfl (fun w8 m1 h2' => ?_)
      replace h2 := h2'
      replace E := E.step m1 (fun g hg => by cases hg; omega); replace h1 := h1.mod m1 (fun g hg => by cases hg; omega)
      have z8 := m1.size
      refine J_done ?_
      refine S_seq ?_
      refine S_seq ?_
      refine S_reg [true, false, true, true, true, true, true, true, true, true, true] rfl rfl ?_
      refine J_st (R_loadS st70 rfl h2.at rfl) rfl ?_
      refine J_call Try.call55 rfl (s_NodeOk [.int .i64 ((g.nodes[i]'hi1).kind), .int .i64 ((g.nodes[i]'hi1).a), .int .i64 ((g.nodes[i]'hi1).b), o2] (g.nodes[i]'hi1) _ (Node.mkR (g.nodes[i]'hi1) (RdD.any (hd2.ext E)))) rfl (fun _ w9 e6 hv => ?_)
      subst hv
      replace E := E.trans e6; replace h1 := h1.ext e6; replace h2 := h2.ext e6
      have z9 := e6.size
      refine J_st (R_not rfl) rfl (J_st (R_move rfl) rfl ?_)
      refine J_cut 7 [(1, .pointer (some ⟨b1, 0, none⟩)), (2, .bool false), (3, .int .i64 ((i : Nat) : Int)), (4, .pointer (some ⟨b2, 0, none⟩)), (25, .int .i64 ((i : Nat) : Int)), (26, .pointer (some ⟨b1, 0, none⟩)), (27, o1), (28, .int .i64 ((g.nodes.length : Nat) : Int)), (29, .bool (decide (((i : Nat) : Int) < ((g.nodes.length : Nat) : Int)))), (32, .pointer (some ⟨b1, 0, none⟩)), (33, o1), (34, .int .i64 ((i : Nat) : Int)), (35, .pointer (some ⟨sblk o1, soff o1 + i * 4, none⟩)), (36, .agg [.int .i64 ((g.nodes[i]'hi1).kind), .int .i64 ((g.nodes[i]'hi1).a), .int .i64 ((g.nodes[i]'hi1).b), o2].toArray), (47, .bool ((!(nodeOk (g.nodes[i]'hi1))) || (!((((g.nodes[i]'hi1).kind) == 1) == (((i : Nat) : Int) == 0)))))] (fun w' => w9 = w') ?_ ?_
      · refine J_if (gd := 40) rfl rfl (fun hg3 => ?_) (fun hg3 => ?_)
        · refine J_gdno rfl rfl rfl rfl (J_gdno rfl rfl rfl rfl (J_gdno rfl rfl rfl rfl (J_gdno rfl rfl rfl rfl (J_gdno rfl rfl rfl rfl (J_gdno rfl rfl rfl rfl (J_st (R_pickT rfl rfl) rfl (J_cutEnd ⟨rfl, rfl, rfl, rfl, rfl, rfl, rfl, rfl, rfl, rfl, rfl, rfl, rfl, rfl, congrArg (fun b => some (Value.bool b)) (show true = ((!(nodeOk (g.nodes[i]'hi1))) || (!((((g.nodes[i]'hi1).kind) == 1) == (((i : Nat) : Int) == 0)))) by first | (rw [hg3] <;> rfl) | (simp [hg3]; done) | (simp only [nat_nlt] <;> simp)), trivial⟩ rfl)))))))
        · refine J_gd rfl rfl (R_fieldAddr0 fl70_0 rfl) rfl (J_gd rfl rfl (R_load sc3 rfl (h2.one 0 rfl)) rfl (J_gd rfl rfl (R_eql rfl rfl) rfl (J_gd rfl rfl (R_move rfl) rfl (J_gd rfl rfl (R_eql rfl rfl) rfl (J_gd rfl rfl (R_neqB (Try.underlying4) rfl rfl) rfl (J_st (R_pickF rfl rfl) rfl (J_cutEnd ⟨rfl, rfl, rfl, rfl, rfl, rfl, rfl, rfl, rfl, rfl, rfl, rfl, rfl, rfl, congrArg (fun b => some (Value.bool b)) (show (!((((g.nodes[i]'hi1).kind) == 1) == (((i : Nat) : Int) == 0))) = ((!(nodeOk (g.nodes[i]'hi1))) || (!((((g.nodes[i]'hi1).kind) == 1) == (((i : Nat) : Int) == 0)))) by first | (rw [hg3] <;> rfl) | (simp [hg3]; done) | (simp only [nat_nlt] <;> simp)), trivial⟩ rfl)))))))
      rintro _ rfl
      refine J_done ?_
      refine S_cond rfl (fun hc3 => ?_) (fun hc3 => ?_)
      · refine S_seq ?_
        refine S_reg [true] rfl rfl ?_
        refine J_st (R_assign rfl) rfl (J_done ?_)
        refine S_ret (E_inB_ret (E_lp_ret (E_inB_ret (E_done1 rfl rfl E ?_))))
        exact graph_a (by assumption)
      · refine S_skip ?_
        refine S_seq ?_
        refine S_reg [true] rfl rfl ?_
        refine J_st (R_assign rfl) rfl (J_done ?_)
        refine S_block ?_
        refine S_loop (fun (k : Nat) => [(1, .pointer (some ⟨b1, 0, none⟩)), (2, .bool false), (3, .int .i64 ((i : Nat) : Int)), (4, .pointer (some ⟨b2, 0, none⟩)), (5, .int .i64 ((k : Nat) : Int))]) (fun (k : Nat) w' => Ext w w' ∧ w9.heap.size ≤ w'.heap.size ∧ Blk w' b1 ([o1, .int .i64 g.workers, .int .i64 g.cap]) ∧ Blk w' b2 [.int .i64 ((g.nodes[i]'hi1).kind), .int .i64 ((g.nodes[i]'hi1).a), .int .i64 ((g.nodes[i]'hi1).b), o2] ∧ k ≤ (g.nodes[i]'hi1).outs.length ∧ ((g.nodes[i]'hi1).outs.take k).all (fun to => !edgeBad g i (g.nodes[i]'hi1) to) = true) (fun (k : Nat) => (g.nodes[i]'hi1).outs.length - k) 0 ⟨rfl, rfl, rfl, rfl, rfl, trivial⟩ ⟨E, Nat.le_refl _, h1, h2, Nat.zero_le _, rfl⟩ ?_
        clear E h1 h2
        rintro k w11 ⟨E, z10, h1, h2, hk, hI⟩
        refine S_seq ?_
        refine S_seq ?_
        refine S_reg [true, true, true, true, true] rfl rfl ?_
        refine J_st (R_move rfl) rfl (J_st (R_fieldAddr0 fl70_3 rfl) rfl (J_st (R_load sc65 rfl (h2.one 3 rfl)) rfl (J_st (R_len Try.underlying65 rfl (hd2.ext E).len) rfl (J_st (R_lss rfl rfl) rfl (J_done ?_)))))
        refine S_cond rfl (fun hc4 => ?_) (fun hc4 => ?_)
        · have hc4n : k < ((g.nodes[i]'hi1).outs).length := by first | (have h := of_decide_eq_true hc4; omega) | (have h := hc4; simp at h; omega)
          refine S_skip ?_
          refine S_seq ?_
          refine S_block ?_
          refine S_seq ?_
          refine S_reg [true, true, true, true, true, true] rfl rfl ?_
          refine J_st (R_fieldAddr0 fl70_3 rfl) rfl (J_st (R_load sc65 rfl (h2.one 3 rfl)) rfl (J_st (R_move rfl) rfl ?_))
          have hi2 : k < ((g.nodes[i]'hi1).outs).length := (by first | assumption | omega)
          refine J_st (R_index (i := k) sl65 rfl rfl (hd2.rd.ext E) hi2) rfl (J_st (R_load sc3 rfl (((hd2.rd.ext E).get hi2).one 0 rfl)) rfl (J_st (R_assign rfl) rfl (J_done ?_)))
          refine S_seq ?_
          refine S_seq ?_
          refine S_reg [true, true, true, true, true, true, true, true, true, true, true, true, true, true, true] rfl rfl ?_
          refine J_st (R_move rfl) rfl (J_st (R_fieldAddr0 fl32_0 rfl) rfl (J_st (R_load sc30 rfl (h1.one 0 rfl)) rfl (J_st (R_len Try.underlying30 rfl (hd1.ext E).len) rfl (J_st (R_geq rfl rfl) rfl (J_st (R_move rfl) rfl ?_)))))
          refine J_cut 9 [(1, .pointer (some ⟨b1, 0, none⟩)), (2, .bool false), (3, .int .i64 ((i : Nat) : Int)), (4, .pointer (some ⟨b2, 0, none⟩)), (5, .int .i64 ((k : Nat) : Int)), (6, .int .i64 (((g.nodes[i]'hi1).outs)[k]'hi2)), (48, .int .i64 ((k : Nat) : Int)), (49, .pointer (some ⟨b2, 3, none⟩)), (50, o2), (51, .int .i64 ((((g.nodes[i]'hi1).outs).length : Nat) : Int)), (52, .bool (decide (((k : Nat) : Int) < ((((g.nodes[i]'hi1).outs).length : Nat) : Int)))), (55, .pointer (some ⟨b2, 3, none⟩)), (56, o2), (57, .int .i64 ((k : Nat) : Int)), (58, .pointer (some ⟨sblk o2, soff o2 + k * 1, none⟩)), (59, .int .i64 (((g.nodes[i]'hi1).outs)[k]'hi2)), (74, .bool ((decide (((g.nodes.length : Nat) : Int) ≤ (((g.nodes[i]'hi1).outs)[k]'hi2))) || ((((g.nodes[i]'hi1).kind) != 7) && (decide ((((g.nodes[i]'hi1).outs)[k]'hi2) ≤ ((i : Nat) : Int))))))] (fun w' => w11 = w') ?_ ?_
          · refine J_if (gd := 65) rfl rfl (fun hg4 => ?_) (fun hg4 => ?_)
            · refine J_gdno rfl rfl rfl rfl (J_gdno rfl rfl rfl rfl (J_gdno rfl rfl rfl rfl (J_gdno rfl rfl rfl rfl (J_gdx rfl rfl rfl (J_gdx rfl rfl rfl (J_gdx rfl rfl rfl (J_gdno rfl rfl rfl rfl (J_st (R_pickT rfl rfl) rfl (J_cutEnd ⟨rfl, rfl, rfl, rfl, rfl, rfl, rfl, rfl, rfl, rfl, rfl, rfl, rfl, rfl, rfl, rfl, congrArg (fun b => some (Value.bool b)) (show true = ((decide (((g.nodes.length : Nat) : Int) ≤ (((g.nodes[i]'hi1).outs)[k]'hi2))) || ((((g.nodes[i]'hi1).kind) != 7) && (decide ((((g.nodes[i]'hi1).outs)[k]'hi2) ≤ ((i : Nat) : Int))))) by first | (rw [hg4] <;> rfl) | (simp [hg4]; done) | (simp only [nat_nlt] <;> simp)), trivial⟩ rfl)))))))))
            · have hto := graph_to (h1 := hi1) (h2 := hi2) (by assumption)
              have htl := Int.not_le.1 (of_decide_eq_false hg4)
              refine J_gd rfl rfl (R_fieldAddr0 fl70_0 rfl) rfl (J_gd rfl rfl (R_load sc3 rfl (h2.one 0 rfl)) rfl (J_gd rfl rfl (R_neq rfl rfl) rfl (J_gd rfl rfl (R_move rfl) rfl ?_)))
              refine J_if (gd := 69) rfl rfl (fun hg5 => ?_) (fun hg5 => ?_)
              · refine J_gd rfl rfl (R_move rfl) rfl (J_gd rfl rfl (R_move rfl) rfl (J_gd rfl rfl (R_leq rfl rfl) rfl (J_gd rfl rfl (R_pickT rfl rfl) rfl (J_st (R_pickF rfl rfl) rfl (J_cutEnd ⟨rfl, rfl, rfl, rfl, rfl, rfl, rfl, rfl, rfl, rfl, rfl, rfl, rfl, rfl, rfl, rfl, congrArg (fun b => some (Value.bool b)) (show (decide ((((g.nodes[i]'hi1).outs)[k]'hi2) ≤ ((i : Nat) : Int))) = ((decide (((g.nodes.length : Nat) : Int) ≤ (((g.nodes[i]'hi1).outs)[k]'hi2))) || ((((g.nodes[i]'hi1).kind) != 7) && (decide ((((g.nodes[i]'hi1).outs)[k]'hi2) ≤ ((i : Nat) : Int))))) by first | (rw [hg4, hg5] <;> rfl) | (simp [hg4, hg5]; done) | (simp only [nat_nlt] <;> simp)), trivial⟩ rfl)))))
              · refine J_gdno rfl rfl rfl rfl (J_gdno rfl rfl rfl rfl (J_gdno rfl rfl rfl rfl (J_gd rfl rfl (R_pickF rfl rfl) rfl (J_st (R_pickF rfl rfl) rfl (J_cutEnd ⟨rfl, rfl, rfl, rfl, rfl, rfl, rfl, rfl, rfl, rfl, rfl, rfl, rfl, rfl, rfl, rfl, congrArg (fun b => some (Value.bool b)) (show false = ((decide (((g.nodes.length : Nat) : Int) ≤ (((g.nodes[i]'hi1).outs)[k]'hi2))) || ((((g.nodes[i]'hi1).kind) != 7) && (decide ((((g.nodes[i]'hi1).outs)[k]'hi2) ≤ ((i : Nat) : Int))))) by first | (rw [hg4, hg5] <;> rfl) | (simp [hg4, hg5]; done) | (simp only [nat_nlt] <;> simp)), trivial⟩ rfl)))))
          rintro _ rfl
          refine J_done ?_
          refine S_cond rfl (fun hc5 => ?_) (fun hc5 => ?_)
          · refine S_seq ?_
            refine S_reg [true] rfl rfl ?_
            refine J_st (R_assign rfl) rfl (J_done ?_)
            refine S_ret (E_inB_ret (E_lp_ret (E_inB_ret (E_inB_ret (E_lp_ret (E_inB_ret (E_done1 rfl rfl E ?_)))))))
            exact graph_e (edge_s1 (by assumption))
          · have hto := graph_to (h1 := hi1) (h2 := hi2) (by assumption)
            have htl := edge_lt hc5
            refine S_skip ?_
            refine S_seq ?_
            refine S_reg [true, true, true, true, true, true, true] rfl rfl ?_
            refine J_st (R_fieldAddr0 fl32_0 rfl) rfl (J_st (R_load sc30 rfl (h1.one 0 rfl)) rfl (J_st (R_move rfl) rfl ?_))
            have hi3 : (Int.toNat (((g.nodes[i]'hi1).outs)[k]'hi2)) < g.nodes.length := (by first | assumption | omega)
            obtain ⟨_, hr2, ha2⟩ := RdD.get hd1 hi3
            obtain ⟨o3, rfl, hd3⟩ := Node.op hr2
            replace ha2 : At w (sblk o1) (soff o1 + (Int.toNat (((g.nodes[i]'hi1).outs)[k]'hi2)) * 4) [.int .i64 ((g.nodes[(Int.toNat (((g.nodes[i]'hi1).outs)[k]'hi2))]'hi3).kind), .int .i64 ((g.nodes[(Int.toNat (((g.nodes[i]'hi1).outs)[k]'hi2))]'hi3).a), .int .i64 ((g.nodes[(Int.toNat (((g.nodes[i]'hi1).outs)[k]'hi2))]'hi3).b), o3] := ha2
            refine J_st (R_indexZ (i := (Int.toNat (((g.nodes[i]'hi1).outs)[k]'hi2))) sl30 rfl rfl (hd1.ext E).1 (by omega) hi3) rfl (J_st (R_fieldAddr fl70_0 rfl) rfl (J_st (R_load sc3 rfl ((ha2.ext E).one 0 rfl)) rfl (J_st (R_assign rfl) rfl (J_done ?_))))
            refine S_seq ?_
            refine S_reg [true, true, true, true, true, true, true, true, true, true, true, true, true, true, true, true] rfl rfl ?_
            refine J_st (R_fieldAddr0 fl70_0 rfl) rfl (J_st (R_load sc3 rfl (h2.one 0 rfl)) rfl (J_st (R_eql rfl rfl) rfl (J_st (R_move rfl) rfl ?_)))
            refine J_cut 12 [(1, .pointer (some ⟨b1, 0, none⟩)), (2, .bool false), (3, .int .i64 ((i : Nat) : Int)), (4, .pointer (some ⟨b2, 0, none⟩)), (5, .int .i64 ((k : Nat) : Int)), (6, .int .i64 (((g.nodes[i]'hi1).outs)[k]'hi2)), (7, .int .i64 ((g.nodes[(Int.toNat (((g.nodes[i]'hi1).outs)[k]'hi2))]'hi3).kind)), (48, .int .i64 ((k : Nat) : Int)), (49, .pointer (some ⟨b2, 3, none⟩)), (50, o2), (51, .int .i64 ((((g.nodes[i]'hi1).outs).length : Nat) : Int)), (52, .bool (decide (((k : Nat) : Int) < ((((g.nodes[i]'hi1).outs).length : Nat) : Int)))), (55, .pointer (some ⟨b2, 3, none⟩)), (56, o2), (57, .int .i64 ((k : Nat) : Int)), (58, .pointer (some ⟨sblk o2, soff o2 + k * 1, none⟩)), (59, .int .i64 (((g.nodes[i]'hi1).outs)[k]'hi2)), (74, .bool ((decide (((g.nodes.length : Nat) : Int) ≤ (((g.nodes[i]'hi1).outs)[k]'hi2))) || ((((g.nodes[i]'hi1).kind) != 7) && (decide ((((g.nodes[i]'hi1).outs)[k]'hi2) ≤ ((i : Nat) : Int)))))), (75, .pointer (some ⟨b1, 0, none⟩)), (76, o1), (77, .int .i64 (((g.nodes[i]'hi1).outs)[k]'hi2)), (78, .pointer (some ⟨sblk o1, soff o1 + (Int.toNat (((g.nodes[i]'hi1).outs)[k]'hi2)) * 4, none⟩)), (79, .pointer (some ⟨(sblk o1), soff o1 + (Int.toNat (((g.nodes[i]'hi1).outs)[k]'hi2)) * 4 + 0, none⟩)), (80, .int .i64 ((g.nodes[(Int.toNat (((g.nodes[i]'hi1).outs)[k]'hi2))]'hi3).kind)), (96, .bool ((((g.nodes[i]'hi1).kind) == 7) && ((decide (((i : Nat) : Int) < (((g.nodes[i]'hi1).outs)[k]'hi2))) || ((((g.nodes[(Int.toNat (((g.nodes[i]'hi1).outs)[k]'hi2))]'hi3).kind) != 5) && (((g.nodes[(Int.toNat (((g.nodes[i]'hi1).outs)[k]'hi2))]'hi3).kind) != 6)))))] (fun w' => w11 = w') ?_ ?_
            · refine J_if (gd := 84) rfl rfl (fun hg6 => ?_) (fun hg6 => ?_)
              · refine J_gd rfl rfl (R_move rfl) rfl (J_gd rfl rfl (R_move rfl) rfl (J_gd rfl rfl (R_gtr rfl rfl) rfl (J_gd rfl rfl (R_move rfl) rfl ?_)))
                refine J_if (gd := 88) rfl rfl (fun hg7 => ?_) (fun hg7 => ?_)
                · refine J_gdno rfl rfl rfl rfl (J_gdno rfl rfl rfl rfl (J_gdno rfl rfl rfl rfl (J_gdx rfl rfl rfl (J_gdx rfl rfl rfl (J_gdno rfl rfl rfl rfl (J_gd rfl rfl (R_pickT rfl rfl) rfl (J_st (R_pickT rfl rfl) rfl (J_cutEnd ⟨rfl, rfl, rfl, rfl, rfl, rfl, rfl, rfl, rfl, rfl, rfl, rfl, rfl, rfl, rfl, rfl, rfl, rfl, rfl, rfl, rfl, rfl, rfl, rfl, congrArg (fun b => some (Value.bool b)) (show true = ((((g.nodes[i]'hi1).kind) == 7) && ((decide (((i : Nat) : Int) < (((g.nodes[i]'hi1).outs)[k]'hi2))) || ((((g.nodes[(Int.toNat (((g.nodes[i]'hi1).outs)[k]'hi2))]'hi3).kind) != 5) && (((g.nodes[(Int.toNat (((g.nodes[i]'hi1).outs)[k]'hi2))]'hi3).kind) != 6)))) by first | (rw [hg6, hg7] <;> rfl) | (simp [hg6, hg7]; done) | (simp only [nat_nlt] <;> simp)), trivial⟩ rfl))))))))
                · refine J_gd rfl rfl (R_move rfl) rfl (J_gd rfl rfl (R_neq rfl rfl) rfl (J_gd rfl rfl (R_move rfl) rfl ?_))
                  refine J_if (gd := 91) rfl rfl (fun hg8 => ?_) (fun hg8 => ?_)
                  · refine J_gd rfl rfl (R_move rfl) rfl (J_gd rfl rfl (R_neq rfl rfl) rfl (J_gd rfl rfl (R_pickT rfl rfl) rfl (J_gd rfl rfl (R_pickF rfl rfl) rfl (J_st (R_pickT rfl rfl) rfl (J_cutEnd ⟨rfl, rfl, rfl, rfl, rfl, rfl, rfl, rfl, rfl, rfl, rfl, rfl, rfl, rfl, rfl, rfl, rfl, rfl, rfl, rfl, rfl, rfl, rfl, rfl, congrArg (fun b => some (Value.bool b)) (show (((g.nodes[(Int.toNat (((g.nodes[i]'hi1).outs)[k]'hi2))]'hi3).kind) != 6) = ((((g.nodes[i]'hi1).kind) == 7) && ((decide (((i : Nat) : Int) < (((g.nodes[i]'hi1).outs)[k]'hi2))) || ((((g.nodes[(Int.toNat (((g.nodes[i]'hi1).outs)[k]'hi2))]'hi3).kind) != 5) && (((g.nodes[(Int.toNat (((g.nodes[i]'hi1).outs)[k]'hi2))]'hi3).kind) != 6)))) by first | (rw [hg6, hg7, hg8] <;> rfl) | (simp [hg6, hg7, hg8]; done) | (simp only [nat_nlt] <;> simp)), trivial⟩ rfl)))))
                  · refine J_gdno rfl rfl rfl rfl (J_gdno rfl rfl rfl rfl (J_gd rfl rfl (R_pickF rfl rfl) rfl (J_gd rfl rfl (R_pickF rfl rfl) rfl (J_st (R_pickT rfl rfl) rfl (J_cutEnd ⟨rfl, rfl, rfl, rfl, rfl, rfl, rfl, rfl, rfl, rfl, rfl, rfl, rfl, rfl, rfl, rfl, rfl, rfl, rfl, rfl, rfl, rfl, rfl, rfl, congrArg (fun b => some (Value.bool b)) (show false = ((((g.nodes[i]'hi1).kind) == 7) && ((decide (((i : Nat) : Int) < (((g.nodes[i]'hi1).outs)[k]'hi2))) || ((((g.nodes[(Int.toNat (((g.nodes[i]'hi1).outs)[k]'hi2))]'hi3).kind) != 5) && (((g.nodes[(Int.toNat (((g.nodes[i]'hi1).outs)[k]'hi2))]'hi3).kind) != 6)))) by first | (rw [hg6, hg7, hg8] <;> rfl) | (simp [hg6, hg7, hg8]; done) | (simp only [nat_nlt] <;> simp)), trivial⟩ rfl)))))
              · refine J_gdno rfl rfl rfl rfl (J_gdno rfl rfl rfl rfl (J_gdno rfl rfl rfl rfl (J_gdno rfl rfl rfl rfl (J_gdx rfl rfl rfl (J_gdx rfl rfl rfl (J_gdx rfl rfl rfl (J_gdx rfl rfl rfl (J_gdx rfl rfl rfl (J_gdx rfl rfl rfl (J_gdno rfl rfl rfl rfl (J_st (R_pickF rfl rfl) rfl (J_cutEnd ⟨rfl, rfl, rfl, rfl, rfl, rfl, rfl, rfl, rfl, rfl, rfl, rfl, rfl, rfl, rfl, rfl, rfl, rfl, rfl, rfl, rfl, rfl, rfl, rfl, congrArg (fun b => some (Value.bool b)) (show false = ((((g.nodes[i]'hi1).kind) == 7) && ((decide (((i : Nat) : Int) < (((g.nodes[i]'hi1).outs)[k]'hi2))) || ((((g.nodes[(Int.toNat (((g.nodes[i]'hi1).outs)[k]'hi2))]'hi3).kind) != 5) && (((g.nodes[(Int.toNat (((g.nodes[i]'hi1).outs)[k]'hi2))]'hi3).kind) != 6)))) by first | (rw [hg6] <;> rfl) | (simp [hg6]; done) | (simp only [nat_nlt] <;> simp)), trivial⟩ rfl))))))))))))
            rintro _ rfl
            refine J_done ?_
            refine S_cond rfl (fun hc6 => ?_) (fun hc6 => ?_)
            · refine S_seq ?_
              refine S_reg [true] rfl rfl ?_
              refine J_st (R_assign rfl) rfl (J_done ?_)
              refine S_ret (E_inB_ret (E_lp_ret (E_inB_ret (E_inB_ret (E_lp_ret (E_inB_ret (E_done1 rfl rfl E ?_)))))))
              exact graph_e (edge_s2 (congrArg Node.kind (getD_at _)).symm (by assumption))
            · refine S_skip ?_
              refine S_nil (E_inB ?_)
              refine S_reg [true, true, true] rfl rfl ?_
              refine J_st (R_move rfl) rfl (J_st (R_add rfl rfl (add_one hc4n (hd2.ext E).1.1)) rfl (J_st (R_assign rfl) rfl (J_done ?_)))
              refine S_nil (E_again (k + 1) (by omega) ⟨rfl, rfl, rfl, rfl, rfl, trivial⟩ ⟨E, (by omega), h1, h2, (by omega), all_step hI (by assumption) (edge_sn (congrArg Node.kind (getD_at _)).symm (by assumption) (by assumption))⟩)
        · have hc4n : ¬ k < ((g.nodes[i]'hi1).outs).length := by first | (have h := of_decide_eq_false hc4; omega) | (have h := hc4; simp at h; omega)
          refine S_exit (E_lp_exit (E_inB_exit ?_))
          refine S_nil (E_inB ?_)
          refine S_reg [true, true, true] rfl rfl ?_
          refine J_st (R_move rfl) rfl (J_st (R_add rfl rfl (add_one hc2n (hd1.ext E).1.1)) rfl (J_st (R_assign rfl) rfl (J_done ?_)))
          refine S_nil (E_again (i + 1) (by omega) ⟨rfl, rfl, rfl, trivial⟩ ⟨E, (by omega), h1, (by omega), graph_s (h1 := hi1) (by assumption) hI (by omega) hp⟩)
    · have hc2n : ¬ i < g.nodes.length := by first | (have h := of_decide_eq_false hc2; omega) | (have h := hc2; simp at h; omega)
      refine S_exit (E_lp_exit (E_inB_exit ?_))
      refine S_seq ?_
      refine S_reg [true] rfl rfl ?_
      refine J_st (R_assign rfl) rfl (J_done ?_)
      refine S_ret (E_done1 rfl rfl E ?_)
      exact graph_y (by assumption) hp (by omega)

set_option maxRecDepth 20000 in
theorem c_toStamp (x : Stamp) (w : World)  : Ct Try.prog 42 [.agg (Enc.enc x).toArray] w (fun v _ => v = .agg (Enc.enc x).toArray) := by
  refine ct_of Try.func42 rfl Try.ntmps42 rfl ?_
  refine S_sub [(0, .agg (Enc.enc x).toArray)] ⟨rfl, trivial⟩ ?_
  have E : Ext w w := Ext.refl w
  refine S_seq ?_
  refine S_reg [false, false] rfl rfl ?_
  refine J_box rfl rfl (fun b1 w1 e1 s1 h1 => ?_)
  have g_b1 : w.heap.size ≤ b1 := by have := E.size; omega
  have y_b1 := h1.lt
  replace E := E.trans e1
  have z1 := e1.size
  refine J_alloc st45 rfl (fun b2 w2 e2 s2 h2 => ?_)
  have g_b2 : w.heap.size ≤ b2 := by have := E.size; omega
  have y_b2 := h2.lt
  replace E := E.trans e2; replace h1 := h1.ext e2
  have z2 := e2.size
  refine J_done ?_
  refine S_seq ?_
  refine S_reg [false] rfl rfl ?_
  refine J_alloc st45 rfl (fun b3 w3 e3 s3 h3 => ?_)
  have g_b3 : w.heap.size ≤ b3 := by have := E.size; omega
  have y_b3 := h3.lt
  replace E := E.trans e3; replace h1 := h1.ext e3; replace h2 := h2.ext e3
  have z3 := e3.size
  refine J_done ?_
  refine S_seq ?_
  refine S_reg [true, true, true, false] rfl rfl ?_
  refine J_st (R_fieldAddr0 fl55_0 rfl) rfl (J_st (R_load sc3 rfl (h1.one 0 rfl)) rfl (J_st (R_fieldAddr0 fl45_0 rfl) rfl ?_))
  refine J_store' (cs' := [.int .i64 x.epoch, .int .i64 0]) sc3 rfl rfl rfl h3 (Nat.le_of_ble_eq_true rfl) rfl (fun w4 m1 h3' => ?_)
  replace h3 := h3'
  replace E := E.step m1 (fun g hg => by cases hg; omega); replace h1 := h1.mod m1 (fun g hg => by cases hg; omega); replace h2 := h2.mod m1 (fun g hg => by cases hg; omega)
  have z4 := m1.size
  refine J_done ?_
  refine S_seq ?_
  refine S_reg [true, true, true, false] rfl rfl ?_
  refine J_st (R_fieldAddr0 fl55_1 rfl) rfl (J_st (R_load sc3 rfl (h1.one 1 rfl)) rfl (J_st (R_fieldAddr0 fl45_1 rfl) rfl ?_))
  refine J_store' (cs' := [.int .i64 x.epoch, .int .i64 x.turn]) sc3 rfl rfl rfl h3 (Nat.le_of_ble_eq_true rfl) rfl (fun w5 m2 h3' => ?_)
  replace h3 := h3'
  replace E := E.step m2 (fun g hg => by cases hg; omega); replace h1 := h1.mod m2 (fun g hg => by cases hg; omega); replace h2 := h2.mod m2 (fun g hg => by cases hg; omega)
  have z5 := m2.size
  refine J_done ?_
  refine S_seq ?_
  refine S_reg [true, false] rfl rfl ?_
  refine J_st (R_loadS st45 rfl h3.at rfl) rfl ?_
  refine J_storeS' (cs' := [.int .i64 x.epoch, .int .i64 x.turn]) st45 rfl rfl rfl rfl h2 (Nat.le_of_ble_eq_true rfl) rfl (fun w6 m3 h2' => ?_)
  replace h2 := h2'
  replace E := E.step m3 (fun g hg => by cases hg; omega); replace h1 := h1.mod m3 (fun g hg => by cases hg; omega); replace h3 := h3.mod m3 (fun g hg => by cases hg; omega)
  have z6 := m3.size
  refine J_done ?_
  refine S_ret (E_doneC rfl rfl (run_loadVar_st st45 h2.at rfl) E ?_)
  rfl

set_option maxRecDepth 20000 in
theorem c_toRecord (x : Record) (w : World)  : Ct Try.prog 24 [.agg (Enc.enc x).toArray] w (fun v _ => v = .agg (Enc.enc x).toArray) := by
  refine ct_of Try.func24 rfl Try.ntmps24 rfl ?_
  refine S_sub [(0, .agg (Enc.enc x).toArray)] ⟨rfl, trivial⟩ ?_
  have E : Ext w w := Ext.refl w
  refine S_seq ?_
  refine S_reg [false, false] rfl rfl ?_
  refine J_box rfl rfl (fun b1 w1 e1 s1 h1 => ?_)
  have g_b1 : w.heap.size ≤ b1 := by have := E.size; omega
  have y_b1 := h1.lt
  replace E := E.trans e1
  have z1 := e1.size
  refine J_alloc st47 rfl (fun b2 w2 e2 s2 h2 => ?_)
  have g_b2 : w.heap.size ≤ b2 := by have := E.size; omega
  have y_b2 := h2.lt
  replace E := E.trans e2; replace h1 := h1.ext e2
  have z2 := e2.size
  refine J_done ?_
  refine S_seq ?_
  refine S_reg [false] rfl rfl ?_
  refine J_alloc st47 rfl (fun b3 w3 e3 s3 h3 => ?_)
  have g_b3 : w.heap.size ≤ b3 := by have := E.size; omega
  have y_b3 := h3.lt
  replace E := E.trans e3; replace h1 := h1.ext e3; replace h2 := h2.ext e3
  have z3 := e3.size
  refine J_done ?_
  refine S_seq ?_
  refine S_reg [true, true, true, false] rfl rfl ?_
  refine J_st (R_fieldAddr0 fl57_0 rfl) rfl (J_st (R_load sc3 rfl (h1.one 0 rfl)) rfl (J_st (R_fieldAddr0 fl47_0 rfl) rfl ?_))
  refine J_store' (cs' := [.int .i64 x.op, .int .i64 0, .int .i64 0, .int .i64 0, .int .i64 0]) sc3 rfl rfl rfl h3 (Nat.le_of_ble_eq_true rfl) rfl (fun w4 m1 h3' => ?_)
  replace h3 := h3'
  replace E := E.step m1 (fun g hg => by cases hg; omega); replace h1 := h1.mod m1 (fun g hg => by cases hg; omega); replace h2 := h2.mod m1 (fun g hg => by cases hg; omega)
  have z4 := m1.size
  refine J_done ?_
  refine S_seq ?_
  refine S_reg [true, true, false, true, false] rfl rfl ?_
  refine J_st (R_fieldAddr0 fl57_1 rfl) rfl (J_st (R_loadS st55 rfl (h1.part 1 [.int .i64 x.stamp.epoch, .int .i64 x.stamp.turn] rfl) rfl) rfl ?_)
  refine J_call Try.call42 rfl (c_toStamp x.stamp _ ) rfl (fun _ w5 e4 hv => ?_)
  subst hv
  replace E := E.trans e4; replace h1 := h1.ext e4; replace h2 := h2.ext e4; replace h3 := h3.ext e4
  have z5 := e4.size
  refine J_st (R_fieldAddr0 fl47_1 rfl) rfl ?_
  refine J_storeS' (cs' := [.int .i64 x.op, .int .i64 x.stamp.epoch, .int .i64 x.stamp.turn, .int .i64 0, .int .i64 0]) st45 rfl rfl rfl rfl h3 (Nat.le_of_ble_eq_true rfl) rfl (fun w6 m2 h3' => ?_)
  replace h3 := h3'
  replace E := E.step m2 (fun g hg => by cases hg; omega); replace h1 := h1.mod m2 (fun g hg => by cases hg; omega); replace h2 := h2.mod m2 (fun g hg => by cases hg; omega)
  have z6 := m2.size
  refine J_done ?_
  refine S_seq ?_
  refine S_reg [true, true, true, false] rfl rfl ?_
  refine J_st (R_fieldAddr0 fl57_2 rfl) rfl (J_st (R_load sc3 rfl (h1.one 3 rfl)) rfl (J_st (R_fieldAddr0 fl47_2 rfl) rfl ?_))
  refine J_store' (cs' := [.int .i64 x.op, .int .i64 x.stamp.epoch, .int .i64 x.stamp.turn, .int .i64 x.key, .int .i64 0]) sc3 rfl rfl rfl h3 (Nat.le_of_ble_eq_true rfl) rfl (fun w7 m3 h3' => ?_)
  replace h3 := h3'
  replace E := E.step m3 (fun g hg => by cases hg; omega); replace h1 := h1.mod m3 (fun g hg => by cases hg; omega); replace h2 := h2.mod m3 (fun g hg => by cases hg; omega)
  have z7 := m3.size
  refine J_done ?_
  refine S_seq ?_
  refine S_reg [true, true, true, false] rfl rfl ?_
  refine J_st (R_fieldAddr0 fl57_3 rfl) rfl (J_st (R_load sc3 rfl (h1.one 4 rfl)) rfl (J_st (R_fieldAddr0 fl47_3 rfl) rfl ?_))
  refine J_store' (cs' := [.int .i64 x.op, .int .i64 x.stamp.epoch, .int .i64 x.stamp.turn, .int .i64 x.key, .int .i64 x.val]) sc3 rfl rfl rfl h3 (Nat.le_of_ble_eq_true rfl) rfl (fun w8 m4 h3' => ?_)
  replace h3 := h3'
  replace E := E.step m4 (fun g hg => by cases hg; omega); replace h1 := h1.mod m4 (fun g hg => by cases hg; omega); replace h2 := h2.mod m4 (fun g hg => by cases hg; omega)
  have z8 := m4.size
  refine J_done ?_
  refine S_seq ?_
  refine S_reg [true, false] rfl rfl ?_
  refine J_st (R_loadS st47 rfl h3.at rfl) rfl ?_
  refine J_storeS' (cs' := [.int .i64 x.op, .int .i64 x.stamp.epoch, .int .i64 x.stamp.turn, .int .i64 x.key, .int .i64 x.val]) st47 rfl rfl rfl rfl h2 (Nat.le_of_ble_eq_true rfl) rfl (fun w9 m5 h2' => ?_)
  replace h2 := h2'
  replace E := E.step m5 (fun g hg => by cases hg; omega); replace h1 := h1.mod m5 (fun g hg => by cases hg; omega); replace h3 := h3.mod m5 (fun g hg => by cases hg; omega)
  have z9 := m5.size
  refine J_done ?_
  refine S_ret (E_doneC rfl rfl (run_loadVar_st st47 h2.at rfl) E ?_)
  rfl

set_option maxRecDepth 20000 in
theorem c_eqStamp (x : Stamp) (y : Stamp) (w : World)  : Ct Try.prog 52 [.agg (Enc.enc x).toArray, .agg (Enc.enc y).toArray] w (fun v _ => v = .bool (decide (x = y))) := by
  refine ct_of Try.func52 rfl Try.ntmps52 rfl ?_
  refine S_sub [(0, .agg (Enc.enc x).toArray), (1, .agg (Enc.enc y).toArray)] ⟨rfl, rfl, trivial⟩ ?_
  have E : Ext w w := Ext.refl w
  refine S_seq ?_
  refine S_reg [false, false, true] rfl rfl ?_
  refine J_box rfl rfl (fun b1 w1 e1 s1 h1 => ?_)
  have g_b1 : w.heap.size ≤ b1 := by have := E.size; omega
  have y_b1 := h1.lt
  replace E := E.trans e1
  have z1 := e1.size
  refine J_box rfl rfl (fun b2 w2 e2 s2 h2 => ?_)
  have g_b2 : w.heap.size ≤ b2 := by have := E.size; omega
  have y_b2 := h2.lt
  replace E := E.trans e2; replace h1 := h1.ext e2
  have z2 := e2.size
  refine J_st (R_assign rfl) rfl (J_done ?_)
  refine S_seq ?_
  refine S_seq ?_
  refine S_reg [true, true, true, true, true] rfl rfl ?_
  refine J_st (R_fieldAddr0 fl45_0 rfl) rfl (J_st (R_load sc3 rfl (h1.one 0 rfl)) rfl (J_st (R_fieldAddr0 fl45_0 rfl) rfl (J_st (R_load sc3 rfl (h2.one 0 rfl)) rfl (J_st (R_neq rfl rfl) rfl (J_done ?_)))))
  refine S_cond rfl (fun hc1 => ?_) (fun hc1 => ?_)
  · refine S_seq ?_
    refine S_reg [true] rfl rfl ?_
    refine J_st (R_assign rfl) rfl (J_done ?_)
    refine S_ret (E_done1 rfl rfl E ?_)
    cases x; cases y; simp_all
  · refine S_skip ?_
    refine S_seq ?_
    refine S_seq ?_
    refine S_reg [true, true, true, true, true] rfl rfl ?_
    refine J_st (R_fieldAddr0 fl45_1 rfl) rfl (J_st (R_load sc3 rfl (h1.one 1 rfl)) rfl (J_st (R_fieldAddr0 fl45_1 rfl) rfl (J_st (R_load sc3 rfl (h2.one 1 rfl)) rfl (J_st (R_neq rfl rfl) rfl (J_done ?_)))))
    refine S_cond rfl (fun hc2 => ?_) (fun hc2 => ?_)
    · refine S_seq ?_
      refine S_reg [true] rfl rfl ?_
      refine J_st (R_assign rfl) rfl (J_done ?_)
      refine S_ret (E_done1 rfl rfl E ?_)
      cases x; cases y; simp_all
    · refine S_skip ?_
      refine S_seq ?_
      refine S_reg [true] rfl rfl ?_
      refine J_st (R_assign rfl) rfl (J_done ?_)
      refine S_ret (E_done1 rfl rfl E ?_)
      cases x; cases y; simp_all

set_option maxRecDepth 20000 in
theorem c_eqRecord (x : Record) (y : Record) (w : World)  : Ct Try.prog 30 [.agg (Enc.enc x).toArray, .agg (Enc.enc y).toArray] w (fun v _ => v = .bool (decide (x = y))) := by
  refine ct_of Try.func30 rfl Try.ntmps30 rfl ?_
  refine S_sub [(0, .agg (Enc.enc x).toArray), (1, .agg (Enc.enc y).toArray)] ⟨rfl, rfl, trivial⟩ ?_
  have E : Ext w w := Ext.refl w
  refine S_seq ?_
  refine S_reg [false, false, true] rfl rfl ?_
  refine J_box rfl rfl (fun b1 w1 e1 s1 h1 => ?_)
  have g_b1 : w.heap.size ≤ b1 := by have := E.size; omega
  have y_b1 := h1.lt
  replace E := E.trans e1
  have z1 := e1.size
  refine J_box rfl rfl (fun b2 w2 e2 s2 h2 => ?_)
  have g_b2 : w.heap.size ≤ b2 := by have := E.size; omega
  have y_b2 := h2.lt
  replace E := E.trans e2; replace h1 := h1.ext e2
  have z2 := e2.size
  refine J_st (R_assign rfl) rfl (J_done ?_)
  refine S_seq ?_
  refine S_seq ?_
  refine S_reg [true, true, true, true, true] rfl rfl ?_
  refine J_st (R_fieldAddr0 fl47_0 rfl) rfl (J_st (R_load sc3 rfl (h1.one 0 rfl)) rfl (J_st (R_fieldAddr0 fl47_0 rfl) rfl (J_st (R_load sc3 rfl (h2.one 0 rfl)) rfl (J_st (R_neq rfl rfl) rfl (J_done ?_)))))
  refine S_cond rfl (fun hc1 => ?_) (fun hc1 => ?_)
  · refine S_seq ?_
    refine S_reg [true] rfl rfl ?_
    refine J_st (R_assign rfl) rfl (J_done ?_)
    refine S_ret (E_done1 rfl rfl E ?_)
    cases x; cases y; simp_all
  · refine S_skip ?_
    refine S_seq ?_
    refine S_seq ?_
    refine S_reg [true, true, true, true, false, true] rfl rfl ?_
    refine J_st (R_fieldAddr0 fl47_1 rfl) rfl (J_st (R_loadS st45 rfl (h1.part 1 [.int .i64 x.stamp.epoch, .int .i64 x.stamp.turn] rfl) rfl) rfl (J_st (R_fieldAddr0 fl47_1 rfl) rfl (J_st (R_loadS st45 rfl (h2.part 1 [.int .i64 y.stamp.epoch, .int .i64 y.stamp.turn] rfl) rfl) rfl ?_)))
    refine J_call Try.call52 rfl (c_eqStamp x.stamp y.stamp _ ) rfl (fun _ w3 e3 hv => ?_)
    subst hv
    replace E := E.trans e3; replace h1 := h1.ext e3; replace h2 := h2.ext e3
    have z3 := e3.size
    refine J_st (R_not rfl) rfl (J_done ?_)
    refine S_cond rfl (fun hc2 => ?_) (fun hc2 => ?_)
    · refine S_seq ?_
      refine S_reg [true] rfl rfl ?_
      refine J_st (R_assign rfl) rfl (J_done ?_)
      refine S_ret (E_done1 rfl rfl E ?_)
      cases x; cases y; simp_all
    · refine S_skip ?_
      refine S_seq ?_
      refine S_seq ?_
      refine S_reg [true, true, true, true, true] rfl rfl ?_
      refine J_st (R_fieldAddr0 fl47_2 rfl) rfl (J_st (R_load sc3 rfl (h1.one 3 rfl)) rfl (J_st (R_fieldAddr0 fl47_2 rfl) rfl (J_st (R_load sc3 rfl (h2.one 3 rfl)) rfl (J_st (R_neq rfl rfl) rfl (J_done ?_)))))
      refine S_cond rfl (fun hc3 => ?_) (fun hc3 => ?_)
      · refine S_seq ?_
        refine S_reg [true] rfl rfl ?_
        refine J_st (R_assign rfl) rfl (J_done ?_)
        refine S_ret (E_done1 rfl rfl E ?_)
        cases x; cases y; simp_all
      · refine S_skip ?_
        refine S_seq ?_
        refine S_seq ?_
        refine S_reg [true, true, true, true, true] rfl rfl ?_
        refine J_st (R_fieldAddr0 fl47_3 rfl) rfl (J_st (R_load sc3 rfl (h1.one 4 rfl)) rfl (J_st (R_fieldAddr0 fl47_3 rfl) rfl (J_st (R_load sc3 rfl (h2.one 4 rfl)) rfl (J_st (R_neq rfl rfl) rfl (J_done ?_)))))
        refine S_cond rfl (fun hc4 => ?_) (fun hc4 => ?_)
        · refine S_seq ?_
          refine S_reg [true] rfl rfl ?_
          refine J_st (R_assign rfl) rfl (J_done ?_)
          refine S_ret (E_done1 rfl rfl E ?_)
          cases x; cases y; simp_all
        · refine S_skip ?_
          refine S_seq ?_
          refine S_reg [true] rfl rfl ?_
          refine J_st (R_assign rfl) rfl (J_done ?_)
          refine S_ret (E_done1 rfl rfl E ?_)
          cases x; cases y; simp_all

set_option maxRecDepth 20000 in
theorem c_szRecordS (vxs : Value) (xs : List Record) (n : Int) (w : World) (hxs : RdS w vxs xs) (h0 : 0 ≤ n ∧ n ≤ 1048576) : Ct Try.prog 6 [vxs, .int .i64 n] w (fun v _ => v = .int .i64 (szM xs.length n)) := by
  refine ct_of Try.func6 rfl Try.ntmps6 rfl ?_
  refine S_sub [(0, vxs), (1, .int .i64 n)] ⟨rfl, rfl, trivial⟩ ?_
  have E : Ext w w := Ext.refl w
  refine S_seq ?_
  refine S_reg [true] rfl rfl ?_
  refine J_st (R_assign rfl) rfl (J_done ?_)
  refine S_seq ?_
  refine S_reg [true, true, true, true, true] rfl rfl ?_
  refine J_st (R_move rfl) rfl (J_st (R_move rfl) rfl (J_st (R_len Try.underlying25 rfl (hxs.ext E).len) rfl (J_st (R_sub rfl rfl rfl) rfl (J_st (R_assign rfl) rfl (J_done ?_)))))
  refine S_seq ?_
  refine S_seq ?_
  refine S_reg [true, true] rfl rfl ?_
  refine J_st (R_move rfl) rfl (J_st (R_lss rfl rfl) rfl (J_done ?_))
  refine S_cond rfl (fun hc1 => ?_) (fun hc1 => ?_)
  · refine S_seq ?_
    refine S_reg [true] rfl rfl ?_
    refine J_st (R_assign rfl) rfl (J_done ?_)
    refine S_ret (E_done1 rfl rfl E ?_)
    exact sz_no h0.2 h0.1 hxs.1 hc1
  · refine S_skip ?_
    refine S_seq ?_
    refine S_reg [true, true] rfl rfl ?_
    refine J_st (R_move rfl) rfl (J_st (R_assign rfl) rfl (J_done ?_))
    refine S_ret (E_done1 rfl rfl E ?_)
    exact sz_yes h0.2 h0.1 hxs.1 hc1

set_option maxRecDepth 20000 in
theorem c_toRecordS (vxs : Value) (xs : List Record) (w : World) (hxs : RdS w vxs xs) (hb : xs.length ≤ 1048576) : Ct Try.prog 9 [vxs] w (fun v w' => Own w' w.heap.size w'.heap.size 5 v (List.flatMap (Enc.enc (α := Record)) xs)) := by
  refine ct_of Try.func9 rfl Try.ntmps9 rfl ?_
  refine S_sub [(0, vxs)] ⟨rfl, trivial⟩ ?_
  have E : Ext w w := Ext.refl w
  refine S_seq ?_
  refine S_reg [true] rfl rfl ?_
  refine J_st (R_assign rfl) rfl (J_done ?_)
  refine S_seq ?_
  refine S_reg [true, true, false, true] rfl rfl ?_
  refine J_st (R_move rfl) rfl (J_st (R_len Try.underlying25 rfl (hxs.ext E).len) rfl ?_)
  refine J_make (m := xs.length) sl34 rfl rfl (by omega) (by decide) rfl (fun b1 w1 e1 s1 h1 => ?_)
  have g_b1 : w.heap.size ≤ b1 := by have := E.size; omega
  have y_b1 := h1.lt
  replace E := E.trans e1
  have z1 := e1.size
  refine J_st (R_assign rfl) rfl (J_done ?_)
  refine S_seq ?_
  refine S_seq ?_
  refine S_reg [true] rfl rfl ?_
  refine J_st (R_assign rfl) rfl (J_done ?_)
  refine S_block ?_
  refine S_loop (fun (k : Nat) => [(0, vxs), (2, .slice none 0 0), (3, .slice (some ⟨b1, 0, none⟩) xs.length xs.length), (4, .int .i64 ((k : Nat) : Int))]) (fun (k : Nat) w' => Ext w w' ∧ w1.heap.size ≤ w'.heap.size ∧ k ≤ xs.length ∧ Blk w' b1 (mk xs [.int .i64 0, .int .i64 0, .int .i64 0, .int .i64 0, .int .i64 0] k xs.length)) (fun (k : Nat) => xs.length - k) 0 ⟨rfl, rfl, rfl, rfl, trivial⟩ ⟨E, Nat.le_refl _, Nat.zero_le _, (mk_zero xs [.int .i64 0, .int .i64 0, .int .i64 0, .int .i64 0, .int .i64 0] xs.length) ▸ h1⟩ ?_
  clear E h1
  rintro k w2 ⟨E, z2, hk, h1⟩
  refine S_seq ?_
  refine S_seq ?_
  refine S_reg [true, true, true, true] rfl rfl ?_
  refine J_st (R_move rfl) rfl (J_st (R_move rfl) rfl (J_st (R_len Try.underlying25 rfl (hxs.ext E).len) rfl (J_st (R_lss rfl rfl) rfl (J_done ?_))))
  refine S_cond rfl (fun hc1 => ?_) (fun hc1 => ?_)
  · have hc1n : k < xs.length := by first | (have h := of_decide_eq_true hc1; omega) | (have h := hc1; simp at h; omega)
    refine S_skip ?_
    refine S_seq ?_
    refine S_block ?_
    refine S_reg [true, true, true, true, true, true, false, true, false] rfl rfl ?_
    refine J_st (R_move rfl) rfl (J_st (R_move rfl) rfl (J_st (R_move rfl) rfl (J_st (R_move rfl) rfl ?_)))
    have hi1 : k < xs.length := (by first | assumption | omega)
    refine J_st (R_index (i := k) sl25 rfl rfl (hxs.ext E) hi1) rfl (J_st (R_loadS st57 rfl ((hxs.ext E).get hi1) rfl) rfl ?_)
    refine J_call Try.call24 rfl (c_toRecord (xs[k]'hi1) _ ) rfl (fun _ w3 e2 hv => ?_)
    subst hv
    replace E := E.trans e2; replace h1 := h1.ext e2
    have z3 := e2.size
    refine J_st (R_indexB sl34 rfl rfl (by first | assumption | omega)) rfl ?_
    refine J_storeS' (cs' := mk xs [.int .i64 0, .int .i64 0, .int .i64 0, .int .i64 0, .int .i64 0] (k + 1) xs.length) st47 rfl rfl rfl rfl h1 (mk_room xs [.int .i64 0, .int .i64 0, .int .i64 0, .int .i64 0, .int .i64 0] rfl hc1n hc1n (by rfl)) (mk_step xs [.int .i64 0, .int .i64 0, .int .i64 0, .int .i64 0, .int .i64 0] rfl hc1n hc1n) (fun w4 m1 h1' => ?_)
    replace h1 := h1'
    replace E := E.step m1 (fun g hg => by cases hg; omega)
    have z4 := m1.size
    refine J_done ?_
    refine S_nil (E_inB ?_)
    refine S_reg [true, true, true] rfl rfl ?_
    refine J_st (R_move rfl) rfl (J_st (R_add rfl rfl (add_one hc1n hxs.1)) rfl (J_st (R_assign rfl) rfl (J_done ?_)))
    refine S_nil (E_again (k + 1) (by omega) ⟨rfl, rfl, rfl, rfl, trivial⟩ ⟨E, (by omega), (by omega), h1⟩)
  · have hc1n : ¬ k < xs.length := by first | (have h := of_decide_eq_false hc1; omega) | (have h := hc1; simp at h; omega)
    refine S_exit (E_lp_exit (E_inB_exit ?_))
    refine S_seq ?_
    refine S_reg [true, true] rfl rfl ?_
    refine J_st (R_move rfl) rfl (J_st (R_assign rfl) rfl (J_done ?_))
    refine S_ret (E_done1 rfl rfl E ?_)
    obtain rfl : k = xs.length := by omega
    rw [mk_all] at h1
    exact Own.ofBlk h1 (by omega) (by have := h1.lt; omega) (sum_flat xs) hxs.1

set_option maxRecDepth 20000 in
theorem c_eqRecordS (vxs : Value) (xs : List Record) (vys : Value) (ys : List Record) (w : World) (hxs : RdS w vxs xs) (hys : RdS w vys ys) : Ct Try.prog 13 [vxs, vys] w (fun v _ => v = .bool (decide (xs = ys))) := by
  refine ct_of Try.func13 rfl Try.ntmps13 rfl ?_
  refine S_sub [(0, vxs), (1, vys)] ⟨rfl, rfl, trivial⟩ ?_
  have E : Ext w w := Ext.refl w
  refine S_seq ?_
  refine S_reg [true] rfl rfl ?_
  refine J_st (R_assign rfl) rfl (J_done ?_)
  refine S_seq ?_
  refine S_seq ?_
  refine S_reg [true, true, true, true, true] rfl rfl ?_
  refine J_st (R_move rfl) rfl (J_st (R_len Try.underlying34 rfl (hxs.ext E).len) rfl (J_st (R_move rfl) rfl (J_st (R_len Try.underlying34 rfl (hys.ext E).len) rfl (J_st (R_neq rfl rfl) rfl (J_done ?_)))))
  refine S_cond rfl (fun hc1 => ?_) (fun hc1 => ?_)
  · have hc1n : ¬ xs.length = ys.length := by first | (have h := of_decide_eq_true hc1; omega) | (have h := hc1; simp at h; omega)
    refine S_seq ?_
    refine S_reg [true] rfl rfl ?_
    refine J_st (R_assign rfl) rfl (J_done ?_)
    refine S_ret (E_done1 rfl rfl E ?_)
    simp [eq_len hc1n]
  · have hc1n : xs.length = ys.length := by first | (have h := of_decide_eq_false hc1; omega) | (have h := hc1; simp at h; omega)
    refine S_skip ?_
    refine S_seq ?_
    refine S_seq ?_
    refine S_reg [true] rfl rfl ?_
    refine J_st (R_assign rfl) rfl (J_done ?_)
    refine S_block ?_
    refine S_loop (fun (k : Nat) => [(0, vxs), (1, vys), (4, .bool false), (5, .int .i64 ((k : Nat) : Int))]) (fun (k : Nat) w' => Ext w w' ∧ w.heap.size ≤ w'.heap.size ∧ k ≤ xs.length ∧ xs.take k = ys.take k) (fun (k : Nat) => xs.length - k) 0 ⟨rfl, rfl, rfl, rfl, trivial⟩ ⟨E, Nat.le_refl _, Nat.zero_le _, rfl⟩ ?_
    clear E
    rintro k w1 ⟨E, z1, hk, hp⟩
    refine S_seq ?_
    refine S_seq ?_
    refine S_reg [true, true, true, true] rfl rfl ?_
    refine J_st (R_move rfl) rfl (J_st (R_move rfl) rfl (J_st (R_len Try.underlying34 rfl (hxs.ext E).len) rfl (J_st (R_lss rfl rfl) rfl (J_done ?_))))
    refine S_cond rfl (fun hc2 => ?_) (fun hc2 => ?_)
    · have hc2n : k < xs.length := by first | (have h := of_decide_eq_true hc2; omega) | (have h := hc2; simp at h; omega)
      refine S_skip ?_
      refine S_seq ?_
      refine S_block ?_
      refine S_seq ?_
      refine S_regD mixed [(0, true), (1, true), (2, true), (3, true), (4, true), (5, true), (6, true), (7, true), (8, false), (9, true)] (by decide +kernel) rfl (fun w2 e1 => ?_)
      replace E := E.trans e1
      have z2 := e1.size
      refine J_st (R_move rfl) rfl (J_st (R_move rfl) rfl ?_)
      have hi1 : k < xs.length := (by first | assumption | omega)
      refine J_st (R_index (i := k) sl34 rfl rfl (hxs.ext E) hi1) rfl (J_st (R_loadS st47 rfl ((hxs.ext E).get hi1) rfl) rfl (J_st (R_move rfl) rfl (J_st (R_move rfl) rfl ?_)))
      have hi2 : k < ys.length := (by first | assumption | omega)
      refine J_st (R_index (i := k) sl34 rfl rfl (hys.ext E) hi2) rfl (J_st (R_loadS st47 rfl ((hys.ext E).get hi2) rfl) rfl ?_)
      refine J_call Try.call30 rfl (c_eqRecord (xs[k]'hi1) (ys[k]'hi2) _ ) rfl (fun _ w3 e2 hv => ?_)
      subst hv
      replace E := E.trans e2
      have z3 := e2.size
      refine J_st (R_not rfl) rfl (J_done ?_)
      refine S_cond rfl (fun hc3 => ?_) (fun hc3 => ?_)
      · refine S_seq ?_
        refine S_reg [true] rfl rfl ?_
        refine J_st (R_assign rfl) rfl (J_done ?_)
        refine S_ret (E_inB_ret (E_lp_ret (E_inB_ret (E_done1 rfl rfl E ?_))))
        exact eqS_no (by omega) (by omega) (by simpa using hc3)
      · refine S_skip ?_
        refine S_nil (E_inB ?_)
        refine S_reg [true, true, true] rfl rfl ?_
        refine J_st (R_move rfl) rfl (J_st (R_add rfl rfl (add_one hc2n hxs.1)) rfl (J_st (R_assign rfl) rfl (J_done ?_)))
        refine S_nil (E_again (k + 1) (by omega) ⟨rfl, rfl, rfl, rfl, trivial⟩ ⟨E, (by omega), (by omega), eqS_step hp (by assumption) (by omega) (by simpa using hc3)⟩)
    · have hc2n : ¬ k < xs.length := by first | (have h := of_decide_eq_false hc2; omega) | (have h := hc2; simp at h; omega)
      refine S_exit (E_lp_exit (E_inB_exit ?_))
      refine S_seq ?_
      refine S_reg [true] rfl rfl ?_
      refine J_st (R_assign rfl) rfl (J_done ?_)
      refine S_ret (E_done1 rfl rfl E ?_)
      exact eqS_yes hp hc1n (by omega)

set_option maxRecDepth 20000 in
theorem c_OfEpoch (vxs : Value) (xs : List Record) (e : Int) (w : World) (hxs : RdS w vxs xs) (hb : xs.length ≤ 1048576) : Ct Try.prog 25 [vxs, .int .i64 e] w (fun v w' => Own w' w.heap.size w'.heap.size 5 v (List.flatMap (Enc.enc (α := Record)) (xs.filter (ofE e)))) := by
  refine ct_of Try.func25 rfl Try.ntmps25 rfl ?_
  refine S_sub [(0, vxs), (1, .int .i64 e)] ⟨rfl, rfl, trivial⟩ ?_
  have E : Ext w w := Ext.refl w
  refine S_seq ?_
  refine S_reg [true] rfl rfl ?_
  refine J_st (R_assign rfl) rfl (J_done ?_)
  refine S_seq ?_
  refine S_reg [true] rfl rfl ?_
  refine J_st (R_assign rfl) rfl (J_done ?_)
  refine S_seq ?_
  refine S_seq ?_
  refine S_reg [true, true, true] rfl rfl ?_
  refine J_st (R_move rfl) rfl (J_st (R_len Try.underlying34 rfl (hxs.ext E).len) rfl (J_st (R_move rfl) rfl (J_done ?_)))
  refine S_block ?_
  refine S_loop (fun (xq : Nat × Value) => let ⟨k, vo⟩ := xq; [(1, .int .i64 e), (4, .slice none 0 0), (5, vo), (8, vxs), (9, .int .i64 ((xs.length : Nat) : Int)), (10, .int .i64 ((k : Nat) : Int))]) (fun (xq : Nat × Value) w' => let ⟨k, vo⟩ := xq; Ext w w' ∧ w.heap.size ≤ w'.heap.size ∧ k ≤ xs.length ∧ Own w' w.heap.size w'.heap.size 5 vo (List.flatMap (Enc.enc (α := Record)) ((xs.take k).filter (ofE e)))) (fun (xq : Nat × Value) => let ⟨k, vo⟩ := xq; xs.length - k) (0, .slice none 0 0) ⟨rfl, rfl, rfl, rfl, rfl, rfl, trivial⟩ ⟨E, Nat.le_refl _, Nat.zero_le _, Own.fin (Own.nil w w.heap.size w.heap.size _) (by have := E.size; omega) (by omega) rfl⟩ ?_
  clear E
  rintro ⟨k, vo⟩ w1 ⟨E, z1, hk, ho⟩
  refine S_sub [(1, .int .i64 e), (4, .slice none 0 0), (5, vo), (8, vxs), (9, .int .i64 ((xs.length : Nat) : Int)), (10, .int .i64 ((k : Nat) : Int))] ⟨rfl, rfl, rfl, rfl, rfl, rfl, trivial⟩ ?_
  refine S_seq ?_
  refine S_reg [true] rfl rfl ?_
  refine J_st (R_lss rfl rfl) rfl (J_done ?_)
  refine S_seq ?_
  refine S_cond rfl (fun hc1 => ?_) (fun hc1 => ?_)
  · have hc1n : k < xs.length := by first | (have h := of_decide_eq_true hc1; omega) | (have h := hc1; simp at h; omega)
    refine S_skip ?_
    refine S_seq ?_
    refine S_block ?_
    refine S_seq ?_
    refine S_reg [true, true, false, false] rfl rfl ?_
    have hi1 : k < xs.length := (by first | assumption | omega)
    refine J_st (R_index (i := k) sl34 rfl rfl (hxs.ext E) hi1) rfl (J_st (R_loadS st47 rfl ((hxs.ext E).get hi1) rfl) rfl ?_)
    refine J_alloc st47 rfl (fun b1 w2 e1 s1 h1 => ?_)
    have g_b1 : w.heap.size ≤ b1 := by have := E.size; omega
    have y_b1 := h1.lt
    replace E := E.trans e1; replace ho := ho.ext e1
    have z2 := e1.size
    refine J_storeS' (cs' := [.int .i64 ((xs[k]'hi1).op), .int .i64 (((xs[k]'hi1).stamp).epoch), .int .i64 (((xs[k]'hi1).stamp).turn), .int .i64 ((xs[k]'hi1).key), .int .i64 ((xs[k]'hi1).val)]) st47 rfl rfl rfl rfl h1 (Nat.le_of_ble_eq_true rfl) rfl (fun w3 m1 h1' => ?_)
    replace h1 := h1'
    replace E := E.step m1 (fun g hg => by cases hg; omega); replace ho := ho.mod m1 (fun g hg => by cases hg; omega)
    have z3 := m1.size
    refine J_done ?_
    refine S_seq ?_
    refine S_reg [true, true, true, true, true] rfl rfl ?_
    refine J_st (R_fieldAddr0 fl47_1 rfl) rfl (J_st (R_fieldAddr fl45_0 rfl) rfl (J_st (R_load sc3 rfl (h1.one 1 rfl)) rfl (J_st (R_move rfl) rfl (J_st (R_eql rfl rfl) rfl (J_done ?_)))))
    refine S_cond rfl (fun hc2 => ?_) (fun hc2 => ?_)
    · refine S_reg [true, true, false, false, true] rfl rfl ?_
      refine J_st (R_move rfl) rfl (J_st (R_loadS st47 rfl h1.at rfl) rfl ?_)
      refine J_buildSlice (vs := [.agg (Enc.enc (xs[k]'hi1)).toArray]) (css := [[.int .i64 ((xs[k]'hi1).op), .int .i64 (((xs[k]'hi1).stamp).epoch), .int .i64 (((xs[k]'hi1).stamp).turn), .int .i64 ((xs[k]'hi1).key), .int .i64 ((xs[k]'hi1).val)]]) sl34 rfl rfl ⟨⟨rfl, rfl⟩, trivial⟩ rfl rfl (fun b2 w4 e2 s2 h2 => ?_)
      replace h2 : Blk w4 b2 [.int .i64 ((xs[k]'hi1).op), .int .i64 (((xs[k]'hi1).stamp).epoch), .int .i64 (((xs[k]'hi1).stamp).turn), .int .i64 ((xs[k]'hi1).key), .int .i64 ((xs[k]'hi1).val)] := h2
      have g_b2 : w.heap.size ≤ b2 := by have := E.size; omega
      have y_b2 := h2.lt
      replace E := E.trans e2; replace ho := ho.ext e2; replace h1 := h1.ext e2
      have z4 := e2.size
      refine J_append sl34 rfl rfl ho (Src.ofBlk h2 rfl) rfl (by have h := filt_len xs (ofE e) k; simp only [show Enc.sz Record = 5 from rfl] at h; simp at h ⊢; omega) (by decide) (by omega) (by omega) rfl rfl (fun v1 w5 m2 ho1 => ?_)
      replace E := E.step m2 (fun g hg => by have := Own.blk ho g hg; omega); replace h1 := h1.mod m2 (fun g hg => by have := Own.blk ho g hg; omega)
      have z5 := m2.size
      refine J_st (R_assign rfl) rfl (J_done ?_)
      refine S_nil (E_inB ?_)
      refine S_reg [true, true] rfl rfl ?_
      refine J_st (R_add rfl rfl (add_one hc1n hxs.1)) rfl (J_st (R_move rfl) rfl (J_done ?_))
      refine S_nil (E_again (k + 1, v1) (by simp; omega) ⟨rfl, rfl, rfl, rfl, rfl, rfl, trivial⟩ ⟨E, (by omega), (by omega), Own.fin ho1 (Nat.le_refl _) (by omega) (filt_yes (by assumption) (by simpa [ofE] using hc2))⟩)
    · refine S_skip ?_
      refine S_nil (E_inB ?_)
      refine S_reg [true, true] rfl rfl ?_
      refine J_st (R_add rfl rfl (add_one hc1n hxs.1)) rfl (J_st (R_move rfl) rfl (J_done ?_))
      refine S_nil (E_again (k + 1, vo) (by simp; omega) ⟨rfl, rfl, rfl, rfl, rfl, rfl, trivial⟩ ⟨E, (by omega), (by omega), Own.fin ho (Nat.le_refl _) (by omega) (filt_no (by assumption) (by simpa [ofE] using hc2))⟩)
  · have hc1n : ¬ k < xs.length := by first | (have h := of_decide_eq_false hc1; omega) | (have h := hc1; simp at h; omega)
    refine S_exit (E_lp_exit (E_inB_exit ?_))
    refine S_seq ?_
    refine S_reg [true, true] rfl rfl ?_
    refine J_st (R_move rfl) rfl (J_st (R_assign rfl) rfl (J_done ?_))
    refine S_ret (E_done1 rfl rfl E ?_)
    exact Own.fin ho (by omega) (by omega) (filt_all (by omega))

set_option maxRecDepth 20000 in
theorem c_StampOk (s : Stamp) (w : World)  : Ct Try.prog 44 [.agg (Enc.enc s).toArray] w (fun v _ => v = .bool (stampOk s)) := by
  refine ct_of Try.func44 rfl Try.ntmps44 rfl ?_
  refine S_sub [(0, .agg (Enc.enc s).toArray)] ⟨rfl, trivial⟩ ?_
  have E : Ext w w := Ext.refl w
  refine S_seq ?_
  refine S_reg [false, true] rfl rfl ?_
  refine J_box rfl rfl (fun b1 w1 e1 s1 h1 => ?_)
  have g_b1 : w.heap.size ≤ b1 := by have := E.size; omega
  have y_b1 := h1.lt
  replace E := E.trans e1
  have z1 := e1.size
  refine J_st (R_assign rfl) rfl (J_done ?_)
  refine S_seq ?_
  refine S_reg [true, true, false, true, true, true, false, true, true] rfl rfl ?_
  refine J_st (R_fieldAddr0 fl45_0 rfl) rfl (J_st (R_load sc3 rfl (h1.one 0 rfl)) rfl ?_)
  refine J_call Try.call43 rfl (c_within s.epoch 0 3 _ ) rfl (fun _ w2 e2 hv => ?_)
  subst hv
  replace E := E.trans e2; replace h1 := h1.ext e2
  have z2 := e2.size
  refine J_st (R_move rfl) rfl ?_
  refine J_cut 4 [(0, .agg (Enc.enc s).toArray), (1, .pointer (some ⟨b1, 0, none⟩)), (2, .bool false), (10, .bool ((win s.epoch 0 3) && (win s.turn 0 6)))] (fun w' => Ext w w' ∧ w2.heap.size ≤ w'.heap.size ∧ Blk w' b1 (Enc.enc s)) ?_ ?_
  · refine J_if (gd := 6) rfl rfl (fun hg1 => ?_) (fun hg1 => ?_)
    · refine J_gd rfl rfl (R_fieldAddr0 fl45_1 rfl) rfl (J_gd rfl rfl (R_load sc3 rfl (h1.one 1 rfl)) rfl ?_)
      refine J_ung rfl rfl ?_
      refine J_call Try.call43 rfl (c_within s.turn 0 6 _ ) rfl (fun _ w4 e3 hv => ?_)
      subst hv
      replace E := E.trans e3; replace h1 := h1.ext e3
      have z3 := e3.size
      refine J_st (R_pickT rfl rfl) rfl (J_cutEnd ⟨rfl, rfl, rfl, congrArg (fun b => some (Value.bool b)) (show (win s.turn 0 6) = ((win s.epoch 0 3) && (win s.turn 0 6)) by first | (rw [hg1] <;> rfl) | (simp [hg1]; done) | (simp only [nat_nlt] <;> simp)), trivial⟩ ⟨E, (by omega), h1⟩)
    · refine J_gdno rfl rfl rfl rfl (J_gdno rfl rfl rfl rfl ?_)
      refine J_ungno rfl rfl rfl rfl ?_
      refine J_st (R_pickF rfl rfl) rfl (J_cutEnd ⟨rfl, rfl, rfl, congrArg (fun b => some (Value.bool b)) (show false = ((win s.epoch 0 3) && (win s.turn 0 6)) by first | (rw [hg1] <;> rfl) | (simp [hg1]; done) | (simp only [nat_nlt] <;> simp)), trivial⟩ ⟨E, (by omega), h1⟩)
  clear E h1
  rintro w3 ⟨E, z4, h1⟩
  refine J_st (R_assign rfl) rfl (J_done ?_)
  refine S_ret (E_done1 rfl rfl E ?_)
  rfl

set_option maxRecDepth 20000 in
theorem s_StampOk (s : Stamp) (w : World)  : Ct Try.prog 36 [.agg (Enc.enc s).toArray] w (fun v _ => v = .bool (stampOk s)) := by
  refine ct_of Try.func36 rfl Try.ntmps36 rfl ?_
  refine S_sub [(0, .agg (Enc.enc s).toArray)] ⟨rfl, trivial⟩ ?_
  have E : Ext w w := Ext.refl w
  refine S_seq ?_
  refine S_reg [false, true] rfl rfl ?_
  refine J_box rfl rfl (fun b1 w1 e1 s1 h1 => ?_)
  have g_b1 : w.heap.size ≤ b1 := by have := E.size; omega
  have y_b1 := h1.lt
  replace E := E.trans e1
  have z1 := e1.size
  refine J_st (R_assign rfl) rfl (J_done ?_)
  refine S_seq ?_
  refine S_reg [true, true, false, true, true, true, false, true, true] rfl rfl ?_
  refine J_st (R_fieldAddr0 fl45_0 rfl) rfl (J_st (R_load sc3 rfl (h1.one 0 rfl)) rfl ?_)
  refine J_call Try.call35 rfl (s_l01In s.epoch 0 3 _ ) rfl (fun _ w2 e2 hv => ?_)
  subst hv
  replace E := E.trans e2; replace h1 := h1.ext e2
  have z2 := e2.size
  refine J_st (R_move rfl) rfl ?_
  refine J_cut 4 [(0, .agg (Enc.enc s).toArray), (1, .pointer (some ⟨b1, 0, none⟩)), (2, .bool false), (10, .bool ((win s.epoch 0 3) && (win s.turn 0 6)))] (fun w' => Ext w w' ∧ w2.heap.size ≤ w'.heap.size ∧ Blk w' b1 (Enc.enc s)) ?_ ?_
  · refine J_if (gd := 6) rfl rfl (fun hg1 => ?_) (fun hg1 => ?_)
    · refine J_gd rfl rfl (R_fieldAddr0 fl45_1 rfl) rfl (J_gd rfl rfl (R_load sc3 rfl (h1.one 1 rfl)) rfl ?_)
      refine J_ung rfl rfl ?_
      refine J_call Try.call35 rfl (s_l01In s.turn 0 6 _ ) rfl (fun _ w4 e3 hv => ?_)
      subst hv
      replace E := E.trans e3; replace h1 := h1.ext e3
      have z3 := e3.size
      refine J_st (R_pickT rfl rfl) rfl (J_cutEnd ⟨rfl, rfl, rfl, congrArg (fun b => some (Value.bool b)) (show (win s.turn 0 6) = ((win s.epoch 0 3) && (win s.turn 0 6)) by first | (rw [hg1] <;> rfl) | (simp [hg1]; done) | (simp only [nat_nlt] <;> simp)), trivial⟩ ⟨E, (by omega), h1⟩)
    · refine J_gdno rfl rfl rfl rfl (J_gdno rfl rfl rfl rfl ?_)
      refine J_ungno rfl rfl rfl rfl ?_
      refine J_st (R_pickF rfl rfl) rfl (J_cutEnd ⟨rfl, rfl, rfl, congrArg (fun b => some (Value.bool b)) (show false = ((win s.epoch 0 3) && (win s.turn 0 6)) by first | (rw [hg1] <;> rfl) | (simp [hg1]; done) | (simp only [nat_nlt] <;> simp)), trivial⟩ ⟨E, (by omega), h1⟩)
  clear E h1
  rintro w3 ⟨E, z4, h1⟩
  refine J_st (R_assign rfl) rfl (J_done ?_)
  refine S_ret (E_done1 rfl rfl E ?_)
  rfl

set_option maxRecDepth 20000 in
theorem c_itemOk (a : Int) (b : Int) (w : World)  : Ct Try.prog 45 [.int .i64 a, .int .i64 b] w (fun v _ => v = .bool (win a 0 99 && win b 0 999)) := by
  refine ct_of Try.func45 rfl Try.ntmps45 rfl ?_
  refine S_sub [(0, .int .i64 a), (1, .int .i64 b)] ⟨rfl, rfl, trivial⟩ ?_
  have E : Ext w w := Ext.refl w
  refine S_seq ?_
  refine S_reg [true] rfl rfl ?_
  refine J_st (R_assign rfl) rfl (J_done ?_)
  refine S_seq ?_
  refine S_reg [true, false, true, true, false, true, true] rfl rfl ?_
  refine J_st (R_move rfl) rfl ?_
  refine J_call Try.call43 rfl (c_within a 0 99 _ ) rfl (fun _ w1 e1 hv => ?_)
  subst hv
  replace E := E.trans e1
  have z1 := e1.size
  refine J_st (R_move rfl) rfl ?_
  refine J_cut 3 [(0, .int .i64 a), (1, .int .i64 b), (4, .bool false), (10, .bool ((win a 0 99) && (win b 0 999)))] (fun w' => Ext w w' ∧ w1.heap.size ≤ w'.heap.size) ?_ ?_
  · refine J_if (gd := 7) rfl rfl (fun hg1 => ?_) (fun hg1 => ?_)
    · refine J_gd rfl rfl (R_move rfl) rfl ?_
      refine J_ung rfl rfl ?_
      refine J_call Try.call43 rfl (c_within b 0 999 _ ) rfl (fun _ w3 e2 hv => ?_)
      subst hv
      replace E := E.trans e2
      have z2 := e2.size
      refine J_st (R_pickT rfl rfl) rfl (J_cutEnd ⟨rfl, rfl, rfl, congrArg (fun b => some (Value.bool b)) (show (win b 0 999) = ((win a 0 99) && (win b 0 999)) by first | (rw [hg1] <;> rfl) | (simp [hg1]; done) | (simp only [nat_nlt] <;> simp)), trivial⟩ ⟨E, (by omega)⟩)
    · refine J_gdno rfl rfl rfl rfl ?_
      refine J_ungno rfl rfl rfl rfl ?_
      refine J_st (R_pickF rfl rfl) rfl (J_cutEnd ⟨rfl, rfl, rfl, congrArg (fun b => some (Value.bool b)) (show false = ((win a 0 99) && (win b 0 999)) by first | (rw [hg1] <;> rfl) | (simp [hg1]; done) | (simp only [nat_nlt] <;> simp)), trivial⟩ ⟨E, (by omega)⟩)
  clear E
  rintro w2 ⟨E, z3⟩
  refine J_st (R_assign rfl) rfl (J_done ?_)
  refine S_ret (E_done1 rfl rfl E ?_)
  rfl

set_option maxRecDepth 20000 in
theorem c_RecordOk (r : Record) (w : World)  : Ct Try.prog 26 [.agg (Enc.enc r).toArray] w (fun v _ => v = .bool (recordOk r)) := by
  refine ct_of Try.func26 rfl Try.ntmps26 rfl ?_
  refine S_sub [(0, .agg (Enc.enc r).toArray)] ⟨rfl, trivial⟩ ?_
  have E : Ext w w := Ext.refl w
  refine S_seq ?_
  refine S_reg [false, true] rfl rfl ?_
  refine J_box rfl rfl (fun b1 w1 e1 s1 h1 => ?_)
  have g_b1 : w.heap.size ≤ b1 := by have := E.size; omega
  have y_b1 := h1.lt
  replace E := E.trans e1
  have z1 := e1.size
  refine J_st (R_assign rfl) rfl (J_done ?_)
  refine S_seq ?_
  refine S_reg [true, true, false, true, true, true, false, true, true, true, true, true, true, false, true, true] rfl rfl ?_
  refine J_st (R_fieldAddr0 fl47_0 rfl) rfl (J_st (R_load sc3 rfl (h1.one 0 rfl)) rfl ?_)
  refine J_call Try.call43 rfl (c_within r.op 0 7 _ ) rfl (fun _ w2 e2 hv => ?_)
  subst hv
  replace E := E.trans e2; replace h1 := h1.ext e2
  have z2 := e2.size
  refine J_st (R_move rfl) rfl ?_
  refine J_cut 11 [(0, .agg (Enc.enc r).toArray), (1, .pointer (some ⟨b1, 0, none⟩)), (2, .bool false), (17, .bool (((win r.op 0 7) && (stampOk r.stamp)) && (win r.key 0 99 && win r.val 0 999)))] (fun w' => Ext w w' ∧ w2.heap.size ≤ w'.heap.size ∧ Blk w' b1 (Enc.enc r)) ?_ ?_
  · refine J_if (gd := 6) rfl rfl (fun hg1 => ?_) (fun hg1 => ?_)
    · refine J_gd rfl rfl (R_fieldAddr0 fl47_1 rfl) rfl (J_gd rfl rfl (R_loadS st45 rfl (h1.part 1 [.int .i64 r.stamp.epoch, .int .i64 r.stamp.turn] rfl) rfl) rfl ?_)
      refine J_ung rfl rfl ?_
      refine J_call Try.call44 rfl (c_StampOk r.stamp _ ) rfl (fun _ w4 e3 hv => ?_)
      subst hv
      replace E := E.trans e3; replace h1 := h1.ext e3
      have z3 := e3.size
      refine J_st (R_pickT rfl rfl) rfl (J_st (R_move rfl) rfl ?_)
      refine J_if (gd := 11) rfl rfl (fun hg2 => ?_) (fun hg2 => ?_)
      · refine J_gd rfl rfl (R_fieldAddr0 fl47_2 rfl) rfl (J_gd rfl rfl (R_load sc3 rfl (h1.one 3 rfl)) rfl (J_gd rfl rfl (R_fieldAddr0 fl47_3 rfl) rfl (J_gd rfl rfl (R_load sc3 rfl (h1.one 4 rfl)) rfl ?_)))
        refine J_ung rfl rfl ?_
        refine J_call Try.call45 rfl (c_itemOk r.key r.val _ ) rfl (fun _ w5 e4 hv => ?_)
        subst hv
        replace E := E.trans e4; replace h1 := h1.ext e4
        have z4 := e4.size
        refine J_st (R_pickT rfl rfl) rfl (J_cutEnd ⟨rfl, rfl, rfl, congrArg (fun b => some (Value.bool b)) (show (win r.key 0 99 && win r.val 0 999) = (((win r.op 0 7) && (stampOk r.stamp)) && (win r.key 0 99 && win r.val 0 999)) by first | (rw [hg1, hg2] <;> rfl) | (simp [hg1, hg2]; done) | (simp only [nat_nlt] <;> simp)), trivial⟩ ⟨E, (by omega), h1⟩)
      · refine J_gdno rfl rfl rfl rfl (J_gdno rfl rfl rfl rfl (J_gdno rfl rfl rfl rfl (J_gdno rfl rfl rfl rfl ?_)))
        refine J_ungno rfl rfl rfl rfl ?_
        refine J_st (R_pickF rfl rfl) rfl (J_cutEnd ⟨rfl, rfl, rfl, congrArg (fun b => some (Value.bool b)) (show false = (((win r.op 0 7) && (stampOk r.stamp)) && (win r.key 0 99 && win r.val 0 999)) by first | (rw [hg1, hg2] <;> rfl) | (simp [hg1, hg2]; done) | (simp only [nat_nlt] <;> simp)), trivial⟩ ⟨E, (by omega), h1⟩)
    · refine J_gdno rfl rfl rfl rfl (J_gdno rfl rfl rfl rfl ?_)
      refine J_ungno rfl rfl rfl rfl ?_
      refine J_st (R_pickF rfl rfl) rfl (J_st (R_move rfl) rfl (J_gdno rfl rfl rfl rfl (J_gdno rfl rfl rfl rfl (J_gdno rfl rfl rfl rfl (J_gdno rfl rfl rfl rfl ?_)))))
      refine J_ungno rfl rfl rfl rfl ?_
      refine J_st (R_pickF rfl rfl) rfl (J_cutEnd ⟨rfl, rfl, rfl, congrArg (fun b => some (Value.bool b)) (show false = (((win r.op 0 7) && (stampOk r.stamp)) && (win r.key 0 99 && win r.val 0 999)) by first | (rw [hg1] <;> rfl) | (simp [hg1]; done) | (simp only [nat_nlt] <;> simp)), trivial⟩ ⟨E, (by omega), h1⟩)
  clear E h1
  rintro w3 ⟨E, z5, h1⟩
  refine J_st (R_assign rfl) rfl (J_done ?_)
  refine S_ret (E_done1 rfl rfl E ?_)
  rfl

set_option maxRecDepth 20000 in
theorem s_RecordOk (r : Record) (w : World)  : Ct Try.prog 21 [.agg (Enc.enc r).toArray] w (fun v _ => v = .bool (recordOk r)) := by
  refine ct_of Try.func21 rfl Try.ntmps21 rfl ?_
  refine S_sub [(0, .agg (Enc.enc r).toArray)] ⟨rfl, trivial⟩ ?_
  have E : Ext w w := Ext.refl w
  refine S_seq ?_
  refine S_reg [false, true] rfl rfl ?_
  refine J_box rfl rfl (fun b1 w1 e1 s1 h1 => ?_)
  have g_b1 : w.heap.size ≤ b1 := by have := E.size; omega
  have y_b1 := h1.lt
  replace E := E.trans e1
  have z1 := e1.size
  refine J_st (R_assign rfl) rfl (J_done ?_)
  refine S_seq ?_
  refine S_reg [true, true, false, true, true, true, false, true, true, true, true, false, true, true, true, true, false, true, true] rfl rfl ?_
  refine J_st (R_fieldAddr0 fl47_0 rfl) rfl (J_st (R_load sc3 rfl (h1.one 0 rfl)) rfl ?_)
  refine J_call Try.call35 rfl (s_l01In r.op 0 7 _ ) rfl (fun _ w2 e2 hv => ?_)
  subst hv
  replace E := E.trans e2; replace h1 := h1.ext e2
  have z2 := e2.size
  refine J_st (R_move rfl) rfl ?_
  refine J_cut 14 [(0, .agg (Enc.enc r).toArray), (1, .pointer (some ⟨b1, 0, none⟩)), (2, .bool false), (20, .bool ((((win r.op 0 7) && (stampOk r.stamp)) && (win r.key 0 99)) && (win r.val 0 999)))] (fun w' => Ext w w' ∧ w2.heap.size ≤ w'.heap.size ∧ Blk w' b1 (Enc.enc r)) ?_ ?_
  · refine J_if (gd := 6) rfl rfl (fun hg1 => ?_) (fun hg1 => ?_)
    · refine J_gd rfl rfl (R_fieldAddr0 fl47_1 rfl) rfl (J_gd rfl rfl (R_loadS st45 rfl (h1.part 1 [.int .i64 r.stamp.epoch, .int .i64 r.stamp.turn] rfl) rfl) rfl ?_)
      refine J_ung rfl rfl ?_
      refine J_call Try.call36 rfl (s_StampOk r.stamp _ ) rfl (fun _ w4 e3 hv => ?_)
      subst hv
      replace E := E.trans e3; replace h1 := h1.ext e3
      have z3 := e3.size
      refine J_st (R_pickT rfl rfl) rfl (J_st (R_move rfl) rfl ?_)
      refine J_if (gd := 11) rfl rfl (fun hg2 => ?_) (fun hg2 => ?_)
      · refine J_gd rfl rfl (R_fieldAddr0 fl47_2 rfl) rfl (J_gd rfl rfl (R_load sc3 rfl (h1.one 3 rfl)) rfl ?_)
        refine J_ung rfl rfl ?_
        refine J_call Try.call35 rfl (s_l01In r.key 0 99 _ ) rfl (fun _ w5 e4 hv => ?_)
        subst hv
        replace E := E.trans e4; replace h1 := h1.ext e4
        have z4 := e4.size
        refine J_st (R_pickT rfl rfl) rfl (J_st (R_move rfl) rfl ?_)
        refine J_if (gd := 16) rfl rfl (fun hg3 => ?_) (fun hg3 => ?_)
        · refine J_gd rfl rfl (R_fieldAddr0 fl47_3 rfl) rfl (J_gd rfl rfl (R_load sc3 rfl (h1.one 4 rfl)) rfl ?_)
          refine J_ung rfl rfl ?_
          refine J_call Try.call35 rfl (s_l01In r.val 0 999 _ ) rfl (fun _ w6 e5 hv => ?_)
          subst hv
          replace E := E.trans e5; replace h1 := h1.ext e5
          have z5 := e5.size
          refine J_st (R_pickT rfl rfl) rfl (J_cutEnd ⟨rfl, rfl, rfl, congrArg (fun b => some (Value.bool b)) (show (win r.val 0 999) = ((((win r.op 0 7) && (stampOk r.stamp)) && (win r.key 0 99)) && (win r.val 0 999)) by first | (rw [hg1, hg2, hg3] <;> rfl) | (simp [hg1, hg2, hg3]; done) | (simp only [nat_nlt] <;> simp)), trivial⟩ ⟨E, (by omega), h1⟩)
        · refine J_gdno rfl rfl rfl rfl (J_gdno rfl rfl rfl rfl ?_)
          refine J_ungno rfl rfl rfl rfl ?_
          refine J_st (R_pickF rfl rfl) rfl (J_cutEnd ⟨rfl, rfl, rfl, congrArg (fun b => some (Value.bool b)) (show false = ((((win r.op 0 7) && (stampOk r.stamp)) && (win r.key 0 99)) && (win r.val 0 999)) by first | (rw [hg1, hg2, hg3] <;> rfl) | (simp [hg1, hg2, hg3]; done) | (simp only [nat_nlt] <;> simp)), trivial⟩ ⟨E, (by omega), h1⟩)
      · refine J_gdno rfl rfl rfl rfl (J_gdno rfl rfl rfl rfl ?_)
        refine J_ungno rfl rfl rfl rfl ?_
        refine J_st (R_pickF rfl rfl) rfl (J_st (R_move rfl) rfl (J_gdno rfl rfl rfl rfl (J_gdno rfl rfl rfl rfl ?_)))
        refine J_ungno rfl rfl rfl rfl ?_
        refine J_st (R_pickF rfl rfl) rfl (J_cutEnd ⟨rfl, rfl, rfl, congrArg (fun b => some (Value.bool b)) (show false = ((((win r.op 0 7) && (stampOk r.stamp)) && (win r.key 0 99)) && (win r.val 0 999)) by first | (rw [hg1, hg2] <;> rfl) | (simp [hg1, hg2]; done) | (simp only [nat_nlt] <;> simp)), trivial⟩ ⟨E, (by omega), h1⟩)
    · refine J_gdno rfl rfl rfl rfl (J_gdno rfl rfl rfl rfl ?_)
      refine J_ungno rfl rfl rfl rfl ?_
      refine J_st (R_pickF rfl rfl) rfl (J_st (R_move rfl) rfl (J_gdno rfl rfl rfl rfl (J_gdno rfl rfl rfl rfl ?_)))
      refine J_ungno rfl rfl rfl rfl ?_
      refine J_st (R_pickF rfl rfl) rfl (J_st (R_move rfl) rfl (J_gdno rfl rfl rfl rfl (J_gdno rfl rfl rfl rfl ?_)))
      refine J_ungno rfl rfl rfl rfl ?_
      refine J_st (R_pickF rfl rfl) rfl (J_cutEnd ⟨rfl, rfl, rfl, congrArg (fun b => some (Value.bool b)) (show false = ((((win r.op 0 7) && (stampOk r.stamp)) && (win r.key 0 99)) && (win r.val 0 999)) by first | (rw [hg1] <;> rfl) | (simp [hg1]; done) | (simp only [nat_nlt] <;> simp)), trivial⟩ ⟨E, (by omega), h1⟩)
  clear E h1
  rintro w3 ⟨E, z6, h1⟩
  refine J_st (R_assign rfl) rfl (J_done ?_)
  refine S_ret (E_done1 rfl rfl E ?_)
  simp [recordOk, Bool.and_assoc]

set_option maxRecDepth 20000 in
theorem c_isNode (cg : List Value) (g : Graph) (op : Int) (w : World) (hg : Dat.R w 0 w.heap.size cg g) : Ct Try.prog 47 [.agg cg.toArray, .int .i64 op] w (fun v _ => v = .bool (isNodeM g op)) := by
  refine ct_of Try.func47 rfl Try.ntmps47 rfl ?_
  obtain ⟨o1, rfl, hd1⟩ := Graph.op hg
  refine S_sub [(0, .agg [o1, .int .i64 g.workers, .int .i64 g.cap].toArray), (1, .int .i64 op)] ⟨rfl, rfl, trivial⟩ ?_
  have E : Ext w w := Ext.refl w
  refine S_seq ?_
  refine S_reg [false, true] rfl rfl ?_
  refine J_box rfl rfl (fun b1 w1 e1 s1 h1 => ?_)
  have g_b1 : w.heap.size ≤ b1 := by have := E.size; omega
  have y_b1 := h1.lt
  replace E := E.trans e1
  have z1 := e1.size
  refine J_st (R_assign rfl) rfl (J_done ?_)
  refine S_seq ?_
  refine S_reg [true, true, true, true, true, false, true] rfl rfl ?_
  refine J_st (R_move rfl) rfl (J_st (R_fieldAddr0 fl32_0 rfl) rfl (J_st (R_load sc30 rfl (h1.one 0 rfl)) rfl (J_st (R_len Try.underlying30 rfl (hd1.ext E).len) rfl (J_st (R_sub rfl rfl rfl) rfl ?_))))
  refine J_call Try.call43 rfl (c_within op 0 (IntKind.i64.wrap (((g.nodes.length : Nat) : Int) - 1)) _ ) rfl (fun _ w2 e2 hv => ?_)
  subst hv
  replace E := E.trans e2; replace h1 := h1.ext e2
  have z2 := e2.size
  refine J_st (R_assign rfl) rfl (J_done ?_)
  refine S_ret (E_done1 rfl rfl E ?_)
  have a1 := hd1.1.1
  unfold maxLen at a1
  rw [wrap_in (by omega) (by omega)]; rfl

set_option maxRecDepth 20000 in
theorem s_NodeOf (cg : List Value) (g : Graph) (op : Int) (w : World) (hg : Dat.R w 0 w.heap.size cg g) (hb : cntGraph g ≤ 1048576) : Ct Try.prog 37 [.agg cg.toArray, .int .i64 op] w (fun v w' => ∃ c0, v = .tuple [.agg c0.toArray, .bool ((nodeOf g op).2)].toArray ∧ Own1.O w' w.heap.size w'.heap.size c0 ((nodeOf g op).1)) := by
  refine ct_of Try.func37 rfl Try.ntmps37 rfl ?_
  obtain ⟨o1, rfl, hd1⟩ := Graph.op hg
  refine S_sub [(0, .agg [o1, .int .i64 g.workers, .int .i64 g.cap].toArray), (1, .int .i64 op)] ⟨rfl, rfl, trivial⟩ ?_
  have E : Ext w w := Ext.refl w
  refine S_seq ?_
  refine S_reg [false, false, true] rfl rfl ?_
  refine J_box rfl rfl (fun b1 w1 e1 s1 h1 => ?_)
  have g_b1 : w.heap.size ≤ b1 := by have := E.size; omega
  have y_b1 := h1.lt
  replace E := E.trans e1
  have z1 := e1.size
  refine J_alloc st70 rfl (fun b2 w2 e2 s2 h2 => ?_)
  have g_b2 : w.heap.size ≤ b2 := by have := E.size; omega
  have y_b2 := h2.lt
  replace E := E.trans e2; replace h1 := h1.ext e2
  have z2 := e2.size
  refine J_st (R_assign rfl) rfl (J_done ?_)
  refine S_seq ?_
  refine S_seq ?_
  refine S_reg [true, true, true, true, true, false, true] rfl rfl ?_
  refine J_st (R_move rfl) rfl (J_st (R_fieldAddr0 fl32_0 rfl) rfl (J_st (R_load sc30 rfl (h1.one 0 rfl)) rfl (J_st (R_len Try.underlying30 rfl (hd1.ext E).len) rfl (J_st (R_sub rfl rfl rfl) rfl ?_))))
  refine J_call Try.call35 rfl (s_l01In op 0 (IntKind.i64.wrap (((g.nodes.length : Nat) : Int) - 1)) _ ) rfl (fun _ w3 e3 hv => ?_)
  subst hv
  replace E := E.trans e3; replace h1 := h1.ext e3; replace h2 := h2.ext e3
  have z3 := e3.size
  refine J_st (R_not rfl) rfl (J_done ?_)
  refine S_cond rfl (fun hc1 => ?_) (fun hc1 => ?_)
  · rw [isN_w hd1.1.1] at hc1
    refine S_seq ?_
    refine S_reg [true, false, true] rfl rfl ?_
    have hbl1 : ∀ w, (Instr.build 70 ([]).toArray).run Try.prog w = .ok (.agg [.int .i64 0, .int .i64 0, .int .i64 0, .slice none 0 0].toArray) w := by clear E; intro w; kernel_rfl
    refine J_st (R_buildC [.int .i64 0, .int .i64 0, .int .i64 0, .slice none 0 0] rfl hbl1) rfl ?_
    refine J_storeS' (cs' := [.int .i64 0, .int .i64 0, .int .i64 0, .slice none 0 0]) st70 rfl rfl rfl rfl h2 (Nat.le_of_ble_eq_true rfl) rfl (fun w4 m1 h2' => ?_)
    replace h2 := h2'
    replace E := E.step m1 (fun g hg => by cases hg; omega); replace h1 := h1.mod m1 (fun g hg => by cases hg; omega)
    have z4 := m1.size
    refine J_st (R_assign rfl) rfl (J_done ?_)
    refine S_ret (E_doneN (l := [.cell 4 70, .tmp 5]) (vs := [.agg [.int .i64 0, .int .i64 0, .int .i64 0, .slice none 0 0].toArray, .bool false]) rfl ⟨.cell rfl (run_loadVar_st st70 h2.at rfl), .tmp rfl, trivial⟩ rfl E ?_)
    rw [nodeOf_no (by simpa [isNodeM] using hc1)]
    exact ⟨_, rfl, (Node.mkO (⟨0, 0, 0, []⟩ : Node) ⟨trivial, trivial⟩ (Own.nil _ _ _ _))⟩
  · rw [isN_w hd1.1.1] at hc1
    have hop := isNode_of (by simpa [isNodeM] using hc1)
    refine S_skip ?_
    refine S_seq ?_
    refine S_reg [true, true, true, true, true, false, false] rfl rfl ?_
    refine J_st (R_fieldAddr0 fl32_0 rfl) rfl (J_st (R_load sc30 rfl (h1.one 0 rfl)) rfl (J_st (R_move rfl) rfl ?_))
    have hi1 : (Int.toNat op) < g.nodes.length := (by first | assumption | omega)
    obtain ⟨_, hr1, ha1⟩ := RdD.get hd1 hi1
    obtain ⟨o2, rfl, hd2⟩ := Node.op hr1
    replace ha1 : At w (sblk o1) (soff o1 + (Int.toNat op) * 4) [.int .i64 ((g.nodes[(Int.toNat op)]'hi1).kind), .int .i64 ((g.nodes[(Int.toNat op)]'hi1).a), .int .i64 ((g.nodes[(Int.toNat op)]'hi1).b), o2] := ha1
    refine J_st (R_indexZ (i := (Int.toNat op)) sl30 rfl rfl (hd1.ext E).1 (by omega) hi1) rfl (J_st (R_loadS st70 rfl (ha1.ext E) rfl) rfl ?_)
    refine J_alloc st70 rfl (fun b3 w5 e4 s3 h3 => ?_)
    have g_b3 : w.heap.size ≤ b3 := by have := E.size; omega
    have y_b3 := h3.lt
    replace E := E.trans e4; replace h1 := h1.ext e4; replace h2 := h2.ext e4
    have z5 := e4.size
    refine J_storeS' (cs' := [.int .i64 ((g.nodes[(Int.toNat op)]'hi1).kind), .int .i64 ((g.nodes[(Int.toNat op)]'hi1).a), .int .i64 ((g.nodes[(Int.toNat op)]'hi1).b), o2]) st70 rfl rfl rfl (all_cons rfl (all_cons rfl (all_cons rfl (all_cons (RdD.one (hd2.ext E)) rfl)))) h3 (Nat.le_of_ble_eq_true rfl) rfl (fun w6 m2 h3' => ?_)
    replace h3 := h3'
    replace E := E.step m2 (fun g hg => by cases hg; omega); replace h1 := h1.mod m2 (fun g hg => by cases hg; omega); replace h2 := h2.mod m2 (fun g hg => by cases hg; omega)
    have z6 := m2.size
    refine J_done ?_
    refine S_seq ?_
    refine S_reg [false, true, true, false, true, false] rfl rfl ?_
    refine J_buildSlice (vs := []) (css := []) sl65 rfl rfl trivial rfl rfl (fun b4 w7 e5 s4 h4 => ?_)
    replace h4 : Blk w7 b4 [] := h4
    have g_b4 : w.heap.size ≤ b4 := by have := E.size; omega
    have y_b4 := h4.lt
    replace E := E.trans e5; replace h1 := h1.ext e5; replace h2 := h2.ext e5; replace h3 := h3.ext e5
    have z7 := e5.size
    refine J_st (R_fieldAddr0 fl70_3 rfl) rfl (J_st (R_load sc65 rfl (h3.one 3 rfl)) rfl ?_)
    refine J_append sl65 rfl rfl (Own.ofBlk (lo := b4) (hi := b4 + 1) (sz := 1) h4 (Nat.le_refl _) (Nat.lt_succ_self _) (by simp) (by simp [maxLen])) (RdS.src (hd2.rd.ext E)) (flat_one _) (by have h := outs_le hb (List.getElem_mem (l := g.nodes) (n := Int.toNat op) (by omega)); rw [sum_flat]; simp only [List.length_nil, show Enc.sz Int = 1 from rfl]; omega) (by decide) (by omega) (by omega) rfl rfl (fun v1 w8 m3 ho1 => ?_)
    replace E := E.step m3 (fun g hg => by have := Own.blk (Own.ofBlk (lo := b4) (hi := b4 + 1) (sz := 1) h4 (Nat.le_refl _) (Nat.lt_succ_self _) (by simp) (by simp [maxLen])) g hg; omega); replace h1 := h1.mod m3 (fun g hg => by have := Own.blk (Own.ofBlk (lo := b4) (hi := b4 + 1) (sz := 1) h4 (Nat.le_refl _) (Nat.lt_succ_self _) (by simp) (by simp [maxLen])) g hg; omega); replace h2 := h2.mod m3 (fun g hg => by have := Own.blk (Own.ofBlk (lo := b4) (hi := b4 + 1) (sz := 1) h4 (Nat.le_refl _) (Nat.lt_succ_self _) (by simp) (by simp [maxLen])) g hg; omega); replace h3 := h3.mod m3 (fun g hg => by have := Own.blk (Own.ofBlk (lo := b4) (hi := b4 + 1) (sz := 1) h4 (Nat.le_refl _) (Nat.lt_succ_self _) (by simp) (by simp [maxLen])) g hg; omega)
    have z8 := m3.size
    refine J_st (R_fieldAddr0 fl70_3 rfl) rfl ?_
    refine J_store' (cs' := [.int .i64 ((g.nodes[(Int.toNat op)]'hi1).kind), .int .i64 ((g.nodes[(Int.toNat op)]'hi1).a), .int .i64 ((g.nodes[(Int.toNat op)]'hi1).b), v1]) sc65 rfl rfl ho1.one h3 (Nat.le_of_ble_eq_true rfl) rfl (fun w9 m4 h3' => ?_)
    replace h3 := h3'
    replace E := E.step m4 (fun g hg => by cases hg; omega); replace h1 := h1.mod m4 (fun g hg => by cases hg; omega); replace h2 := h2.mod m4 (fun g hg => by cases hg; omega); replace ho1 := ho1.mod m4 (fun g hg => by cases hg; omega)
    have z9 := m4.size
    refine J_done ?_
    refine S_seq ?_
    refine S_reg [true, false, true] rfl rfl ?_
    refine J_st (R_loadS st70 rfl h3.at rfl) rfl ?_
    refine J_storeS' (cs' := [.int .i64 ((g.nodes[(Int.toNat op)]'hi1).kind), .int .i64 ((g.nodes[(Int.toNat op)]'hi1).a), .int .i64 ((g.nodes[(Int.toNat op)]'hi1).b), v1]) st70 rfl rfl rfl (all_cons rfl (all_cons rfl (all_cons rfl (all_cons ho1.one rfl)))) h2 (Nat.le_of_ble_eq_true rfl) rfl (fun w10 m5 h2' => ?_)
    replace h2 := h2'
    replace E := E.step m5 (fun g hg => by cases hg; omega); replace h1 := h1.mod m5 (fun g hg => by cases hg; omega); replace h3 := h3.mod m5 (fun g hg => by cases hg; omega); replace ho1 := ho1.mod m5 (fun g hg => by cases hg; omega)
    have z10 := m5.size
    refine J_st (R_assign rfl) rfl (J_done ?_)
    refine S_ret (E_doneN (l := [.cell 4 70, .tmp 5]) (vs := [.agg [.int .i64 ((g.nodes[(Int.toNat op)]'hi1).kind), .int .i64 ((g.nodes[(Int.toNat op)]'hi1).a), .int .i64 ((g.nodes[(Int.toNat op)]'hi1).b), v1].toArray, .bool true]) rfl ⟨.cell rfl (run_loadVar_st st70 h2.at rfl), .tmp rfl, trivial⟩ rfl E ?_)
    rw [nodeOf_yes (by assumption) ]
    exact ⟨_, rfl, (Node.mkO (⟨(g.nodes[(Int.toNat op)]'hi1).kind, (g.nodes[(Int.toNat op)]'hi1).a, (g.nodes[(Int.toNat op)]'hi1).b, [] ++ ((g.nodes[(Int.toNat op)]'hi1).outs)⟩ : Node) ⟨trivial, trivial⟩ (Own.widen ho1 (by omega) (by omega)))⟩

set_option maxRecDepth 20000 in
theorem markRecordS (vxs : Value) (lo hi : Nat) (xs : List Record) (k : Nat) (w : World) (hxs : Own w lo hi 5 vxs (List.flatMap (Enc.enc (α := Record)) xs)) (hb : k + xs.length * 5 ≤ 1099511627776) : CtR Try.prog 15 [vxs, .int .i64 ((k : Nat) : Int)] w lo hi (fun v w' => v = .int .i64 ((k + 5 * xs.length : Nat) : Int) ∧ Own w' lo hi 5 vxs (List.flatMap (Enc.enc (α := Record)) (mkL 5 mkRecord k xs.length))) := by
  refine ctR_of Try.func15 rfl Try.ntmps15 rfl ?_
  refine S_sub [(0, vxs), (1, .int .i64 ((k : Nat) : Int))] ⟨rfl, rfl, trivial⟩ ?_
  have E : ModR w w lo hi := ModR.refl w lo hi
  refine S_seq ?_
  refine S_reg [true] rfl rfl ?_
  refine J_st (R_assign rfl) rfl (J_done ?_)
  refine S_seq ?_
  refine S_seq ?_
  refine S_reg [true] rfl rfl ?_
  refine J_st (R_assign rfl) rfl (J_done ?_)
  refine S_block ?_
  refine S_loop (fun (xq : Nat × Nat × List Record) => let ⟨i, q, bs⟩ := xq; [(0, vxs), (1, .int .i64 ((q : Nat) : Int)), (4, .int .i64 0), (5, .int .i64 ((i : Nat) : Int))]) (fun (xq : Nat × Nat × List Record) w' => let ⟨i, q, bs⟩ := xq; ModR w w' lo hi ∧ w.heap.size ≤ w'.heap.size ∧ i + bs.length = xs.length ∧ q = k + 5 * i ∧ Own w' lo hi 5 vxs (List.flatMap (Enc.enc (α := Record)) (mkL 5 mkRecord k i ++ bs))) (fun (xq : Nat × Nat × List Record) => let ⟨i, q, bs⟩ := xq; xs.length - i) (0, k, xs) ⟨rfl, rfl, rfl, rfl, trivial⟩ ⟨E, Nat.le_refl _, (by simp), (by simp), (by simpa [mkL] using hxs)⟩ ?_
  clear E hxs
  rintro ⟨i, q, bs⟩ w1 ⟨E, z1, hi, hq, hxs⟩
  refine S_sub [(0, vxs), (1, .int .i64 ((q : Nat) : Int)), (4, .int .i64 0), (5, .int .i64 ((i : Nat) : Int))] ⟨rfl, rfl, rfl, rfl, trivial⟩ ?_
  refine S_seq ?_
  refine S_seq ?_
  refine S_reg [true, true, true, true] rfl rfl ?_
  refine J_st (R_move rfl) rfl (J_st (R_move rfl) rfl (J_st (R_len Try.underlying34 rfl (Own.lenE (by decide) hxs (by simp only [List.length_append, mkL_length, List.length_cons]; omega))) rfl (J_st (R_lss rfl rfl) rfl (J_done ?_))))
  refine S_cond rfl (fun hc1 => ?_) (fun hc1 => ?_)
  · rcases bs with _ | ⟨x, bs⟩
    · exact absurd hi (by have h := hc1; simp at h ⊢; omega)
    simp only [List.length_cons] at hi
    have hc1n : i < xs.length := by first | (have h := of_decide_eq_true hc1; omega) | (have h := hc1; simp at h; omega)
    refine S_skip ?_
    refine S_seq ?_
    refine S_block ?_
    refine S_seq ?_
    refine S_reg [true, true, true, true, true, false] rfl rfl ?_
    refine J_st (R_move rfl) rfl (J_st (R_move rfl) rfl (J_st (R_move rfl) rfl (J_st (R_index sl34 rfl rfl (Own.rd (by decide) hxs) (by simp only [List.length_append, mkL_length, List.length_cons]; omega)) rfl (J_st (R_fieldAddr fl47_0 rfl) rfl ?_))))
    refine J_storeOwn (α := Record) (i := i) (f := 0) (⟨((q : Nat) : Int), x.stamp, x.key, x.val⟩ : Record) sc3 rfl rfl rfl rfl hxs (mkL_length _ _ _ _) (by decide) rfl (fun w2 m1 hxs' => ?_)
    have hq := hxs.blk
    replace hxs := hxs'
    replace E := E.mod m1 (fun g hg => by have := hq g hg; omega)
    have z2 := m1.size
    clear hq
    refine J_done ?_
    refine S_seq ?_
    refine S_reg [true, true, true] rfl rfl ?_
    refine J_st (R_move rfl) rfl (J_st (R_add rfl rfl (add_nat (by unfold maxLen; omega))) rfl (J_st (R_assign rfl) rfl (J_done ?_)))
    refine S_seq ?_
    refine S_reg [true, true, true, true, true, true, false] rfl rfl ?_
    refine J_st (R_move rfl) rfl (J_st (R_move rfl) rfl (J_st (R_move rfl) rfl (J_st (R_index sl34 rfl rfl (Own.rd (by decide) hxs) (by simp only [List.length_append, mkL_length, List.length_cons]; omega)) rfl (J_st (R_fieldAddr fl47_1 rfl) rfl (J_st (R_fieldAddr fl45_0 rfl) rfl ?_)))))
    refine J_storeOwn (α := Record) (i := i) (f := 1) (⟨((q : Nat) : Int), (⟨((q + 1 : Nat) : Int), x.stamp.turn⟩ : Stamp), x.key, x.val⟩ : Record) sc3 rfl rfl rfl rfl hxs (mkL_length _ _ _ _) (by decide) rfl (fun w3 m2 hxs' => ?_)
    have hq := hxs.blk
    replace hxs := hxs'
    replace E := E.mod m2 (fun g hg => by have := hq g hg; omega)
    have z3 := m2.size
    clear hq
    refine J_done ?_
    refine S_seq ?_
    refine S_reg [true, true, true] rfl rfl ?_
    refine J_st (R_move rfl) rfl (J_st (R_add rfl rfl (add_nat (by unfold maxLen; omega))) rfl (J_st (R_assign rfl) rfl (J_done ?_)))
    refine S_seq ?_
    refine S_reg [true, true, true, true, true, true, false] rfl rfl ?_
    refine J_st (R_move rfl) rfl (J_st (R_move rfl) rfl (J_st (R_move rfl) rfl (J_st (R_index sl34 rfl rfl (Own.rd (by decide) hxs) (by simp only [List.length_append, mkL_length, List.length_cons]; omega)) rfl (J_st (R_fieldAddr fl47_1 rfl) rfl (J_st (R_fieldAddr fl45_1 rfl) rfl ?_)))))
    refine J_storeOwn (α := Record) (i := i) (f := 2) (⟨((q : Nat) : Int), (⟨((q + 1 : Nat) : Int), ((q + 1 + 1 : Nat) : Int)⟩ : Stamp), x.key, x.val⟩ : Record) sc3 rfl rfl rfl rfl hxs (mkL_length _ _ _ _) (by decide) rfl (fun w4 m3 hxs' => ?_)
    have hq := hxs.blk
    replace hxs := hxs'
    replace E := E.mod m3 (fun g hg => by have := hq g hg; omega)
    have z4 := m3.size
    clear hq
    refine J_done ?_
    refine S_seq ?_
    refine S_reg [true, true, true] rfl rfl ?_
    refine J_st (R_move rfl) rfl (J_st (R_add rfl rfl (add_nat (by unfold maxLen; omega))) rfl (J_st (R_assign rfl) rfl (J_done ?_)))
    refine S_seq ?_
    refine S_reg [true, true, true, true, true, false] rfl rfl ?_
    refine J_st (R_move rfl) rfl (J_st (R_move rfl) rfl (J_st (R_move rfl) rfl (J_st (R_index sl34 rfl rfl (Own.rd (by decide) hxs) (by simp only [List.length_append, mkL_length, List.length_cons]; omega)) rfl (J_st (R_fieldAddr fl47_2 rfl) rfl ?_))))
    refine J_storeOwn (α := Record) (i := i) (f := 3) (⟨((q : Nat) : Int), (⟨((q + 1 : Nat) : Int), ((q + 1 + 1 : Nat) : Int)⟩ : Stamp), ((q + 1 + 1 + 1 : Nat) : Int), x.val⟩ : Record) sc3 rfl rfl rfl rfl hxs (mkL_length _ _ _ _) (by decide) rfl (fun w5 m4 hxs' => ?_)
    have hq := hxs.blk
    replace hxs := hxs'
    replace E := E.mod m4 (fun g hg => by have := hq g hg; omega)
    have z5 := m4.size
    clear hq
    refine J_done ?_
    refine S_seq ?_
    refine S_reg [true, true, true] rfl rfl ?_
    refine J_st (R_move rfl) rfl (J_st (R_add rfl rfl (add_nat (by unfold maxLen; omega))) rfl (J_st (R_assign rfl) rfl (J_done ?_)))
    refine S_seq ?_
    refine S_reg [true, true, true, true, true, false] rfl rfl ?_
    refine J_st (R_move rfl) rfl (J_st (R_move rfl) rfl (J_st (R_move rfl) rfl (J_st (R_index sl34 rfl rfl (Own.rd (by decide) hxs) (by simp only [List.length_append, mkL_length, List.length_cons]; omega)) rfl (J_st (R_fieldAddr fl47_3 rfl) rfl ?_))))
    refine J_storeOwn (α := Record) (i := i) (f := 4) (⟨((q : Nat) : Int), (⟨((q + 1 : Nat) : Int), ((q + 1 + 1 : Nat) : Int)⟩ : Stamp), ((q + 1 + 1 + 1 : Nat) : Int), ((q + 1 + 1 + 1 + 1 : Nat) : Int)⟩ : Record) sc3 rfl rfl rfl rfl hxs (mkL_length _ _ _ _) (by decide) rfl (fun w6 m5 hxs' => ?_)
    have hq := hxs.blk
    replace hxs := hxs'
    replace E := E.mod m5 (fun g hg => by have := hq g hg; omega)
    have z6 := m5.size
    clear hq
    refine J_done ?_
    refine S_reg [true, true, true] rfl rfl ?_
    refine J_st (R_move rfl) rfl (J_st (R_add rfl rfl (add_nat (by unfold maxLen; omega))) rfl (J_st (R_assign rfl) rfl (J_done ?_)))
    refine S_nil (E_inB ?_)
    refine S_reg [true, true, true] rfl rfl ?_
    refine J_st (R_move rfl) rfl (J_st (R_add rfl rfl (add_nat (by unfold maxLen; omega))) rfl (J_st (R_assign rfl) rfl (J_done ?_)))
    refine S_nil (E_again (i + 1, q + 1 + 1 + 1 + 1 + 1, bs) (by simp; omega) ⟨rfl, rfl, rfl, rfl, trivial⟩ ⟨E, (by omega), (by omega), (by omega), (by subst hq; rw [← mkL_succ]; exact hxs)⟩)
  · have hc1n : ¬ i < xs.length := by first | (have h := of_decide_eq_false hc1; omega) | (have h := hc1; simp at h; omega)
    refine S_exit (E_lp_exit (E_inB_exit ?_))
    refine S_seq ?_
    refine S_reg [true, true] rfl rfl ?_
    refine J_st (R_move rfl) rfl (J_st (R_assign rfl) rfl (J_done ?_))
    refine S_ret (E_done1 rfl rfl E ?_)
    exact ⟨by subst hq; rw [show i = xs.length from by omega], by obtain rfl : bs = [] := List.eq_nil_of_length_eq_zero (by omega); rw [show xs.length = i from by simp at hi; omega]; simpa using hxs⟩

set_option maxRecDepth 20000 in
theorem markIntS (vxs : Value) (lo hi : Nat) (xs : List Int) (k : Nat) (w : World) (hxs : Own w lo hi 1 vxs (List.flatMap (Enc.enc (α := Int)) xs)) (hb : k + xs.length * 1 ≤ 1099511627776) : CtR Try.prog 53 [vxs, .int .i64 ((k : Nat) : Int)] w lo hi (fun v w' => v = .int .i64 ((k + 1 * xs.length : Nat) : Int) ∧ Own w' lo hi 1 vxs (List.flatMap (Enc.enc (α := Int)) (mkL 1 mkInt k xs.length))) := by
  refine ctR_of Try.func53 rfl Try.ntmps53 rfl ?_
  refine S_sub [(0, vxs), (1, .int .i64 ((k : Nat) : Int))] ⟨rfl, rfl, trivial⟩ ?_
  have E : ModR w w lo hi := ModR.refl w lo hi
  refine S_seq ?_
  refine S_reg [true] rfl rfl ?_
  refine J_st (R_assign rfl) rfl (J_done ?_)
  refine S_seq ?_
  refine S_seq ?_
  refine S_reg [true] rfl rfl ?_
  refine J_st (R_assign rfl) rfl (J_done ?_)
  refine S_block ?_
  refine S_loop (fun (xq : Nat × Nat × List Int) => let ⟨i, q, bs⟩ := xq; [(0, vxs), (1, .int .i64 ((q : Nat) : Int)), (4, .int .i64 0), (5, .int .i64 ((i : Nat) : Int))]) (fun (xq : Nat × Nat × List Int) w' => let ⟨i, q, bs⟩ := xq; ModR w w' lo hi ∧ w.heap.size ≤ w'.heap.size ∧ i + bs.length = xs.length ∧ q = k + 1 * i ∧ Own w' lo hi 1 vxs (List.flatMap (Enc.enc (α := Int)) (mkL 1 mkInt k i ++ bs))) (fun (xq : Nat × Nat × List Int) => let ⟨i, q, bs⟩ := xq; xs.length - i) (0, k, xs) ⟨rfl, rfl, rfl, rfl, trivial⟩ ⟨E, Nat.le_refl _, (by simp), (by simp), (by simpa [mkL] using hxs)⟩ ?_
  clear E hxs
  rintro ⟨i, q, bs⟩ w1 ⟨E, z1, hi, hq, hxs⟩
  refine S_sub [(0, vxs), (1, .int .i64 ((q : Nat) : Int)), (4, .int .i64 0), (5, .int .i64 ((i : Nat) : Int))] ⟨rfl, rfl, rfl, rfl, trivial⟩ ?_
  refine S_seq ?_
  refine S_seq ?_
  refine S_reg [true, true, true, true] rfl rfl ?_
  refine J_st (R_move rfl) rfl (J_st (R_move rfl) rfl (J_st (R_len Try.underlying65 rfl (Own.lenE (by decide) hxs (by simp only [List.length_append, mkL_length, List.length_cons]; omega))) rfl (J_st (R_lss rfl rfl) rfl (J_done ?_))))
  refine S_cond rfl (fun hc1 => ?_) (fun hc1 => ?_)
  · rcases bs with _ | ⟨x, bs⟩
    · exact absurd hi (by have h := hc1; simp at h ⊢; omega)
    simp only [List.length_cons] at hi
    have hc1n : i < xs.length := by first | (have h := of_decide_eq_true hc1; omega) | (have h := hc1; simp at h; omega)
    refine S_skip ?_
    refine S_seq ?_
    refine S_block ?_
    refine S_seq ?_
    refine S_reg [true, true, true, true, false] rfl rfl ?_
    refine J_st (R_move rfl) rfl (J_st (R_move rfl) rfl (J_st (R_move rfl) rfl (J_st (R_index sl65 rfl rfl (Own.rd (by decide) hxs) (by simp only [List.length_append, mkL_length, List.length_cons]; omega)) rfl ?_)))
    refine J_storeOwn (α := Int) (i := i) (f := 0) ((q : Nat) : Int) sc3 rfl rfl rfl rfl hxs (mkL_length _ _ _ _) (by decide) rfl (fun w2 m1 hxs' => ?_)
    have hq := hxs.blk
    replace hxs := hxs'
    replace E := E.mod m1 (fun g hg => by have := hq g hg; omega)
    have z2 := m1.size
    clear hq
    refine J_done ?_
    refine S_reg [true, true, true] rfl rfl ?_
    refine J_st (R_move rfl) rfl (J_st (R_add rfl rfl (add_nat (by unfold maxLen; omega))) rfl (J_st (R_assign rfl) rfl (J_done ?_)))
    refine S_nil (E_inB ?_)
    refine S_reg [true, true, true] rfl rfl ?_
    refine J_st (R_move rfl) rfl (J_st (R_add rfl rfl (add_nat (by unfold maxLen; omega))) rfl (J_st (R_assign rfl) rfl (J_done ?_)))
    refine S_nil (E_again (i + 1, q + 1, bs) (by simp; omega) ⟨rfl, rfl, rfl, rfl, trivial⟩ ⟨E, (by omega), (by omega), (by omega), (by subst hq; rw [← mkL_succ]; exact hxs)⟩)
  · have hc1n : ¬ i < xs.length := by first | (have h := of_decide_eq_false hc1; omega) | (have h := hc1; simp at h; omega)
    refine S_exit (E_lp_exit (E_inB_exit ?_))
    refine S_seq ?_
    refine S_reg [true, true] rfl rfl ?_
    refine J_st (R_move rfl) rfl (J_st (R_assign rfl) rfl (J_done ?_))
    refine S_ret (E_done1 rfl rfl E ?_)
    exact ⟨by subst hq; rw [show i = xs.length from by omega], by obtain rfl : bs = [] := List.eq_nil_of_length_eq_zero (by omega); rw [show xs.length = i from by simp at hi; omega]; simpa using hxs⟩

set_option maxRecDepth 20000 in
theorem c_copyCells (vxs : Value) (xs : List Cell) (w : World) (hxs : RdS w vxs xs) (hb : xs.length ≤ 4194304) : Ct Try.prog 48 [vxs] w (fun v w' => Own w' w.heap.size w'.heap.size 4 v (List.flatMap (Enc.enc (α := Cell)) xs)) := by
  refine ct_of Try.func48 rfl Try.ntmps48 rfl ?_
  refine S_sub [(0, vxs)] ⟨rfl, trivial⟩ ?_
  have E : Ext w w := Ext.refl w
  refine S_seq ?_
  refine S_reg [true] rfl rfl ?_
  refine J_st (R_assign rfl) rfl (J_done ?_)
  refine S_seq ?_
  refine S_reg [true, false, true] rfl rfl ?_
  refine J_st (R_move rfl) rfl ?_
  refine J_append sl28 rfl rfl (Own.nil w w.heap.size w.heap.size 4) (RdS.src (hxs.ext E)) (flat_one _) (by simp only [sum_flat, List.length_nil]; simp only [Enc.sz]; omega) (by decide) (by omega) (by omega) rfl rfl (fun v1 w1 m1 ho1 => ?_)
  replace E := E.step m1 (fun g hg => by have := Own.blk (Own.nil w w.heap.size w.heap.size 4) g hg; omega)
  have z1 := m1.size
  refine J_st (R_assign rfl) rfl (J_done ?_)
  refine S_ret (E_done1 rfl rfl E ?_)
  exact Own.fin ho1 (by have := E.size; omega) (by omega) (by simp [*])

set_option maxRecDepth 20000 in
theorem markNodeS (vxs : Value) (lo hi : Nat) (xs : List Node) (k : Nat) (w : World) (hxs : OwS w lo hi vxs xs) (hhi : hi ≤ w.heap.size) (hb : k + 4 * cntL cntNode xs ≤ 1099511627776) : CtR Try.prog 31 [vxs, .int .i64 ((k : Nat) : Int)] w lo hi (fun v w' => v = .int .i64 ((numNs k xs : Nat) : Int) ∧ OwS w' lo hi vxs (markNs k xs)) := by
  have hmx : xs.length ≤ maxLen := hxs.rd.1.1
  unfold maxLen at hmx
  refine ctR_of Try.func31 rfl Try.ntmps31 rfl ?_
  refine S_sub [(0, vxs), (1, .int .i64 ((k : Nat) : Int))] ⟨rfl, rfl, trivial⟩ ?_
  have E : ModR w w lo hi := ModR.refl w lo hi
  refine S_seq ?_
  refine S_reg [true] rfl rfl ?_
  refine J_st (R_assign rfl) rfl (J_done ?_)
  refine S_seq ?_
  refine S_seq ?_
  refine S_reg [true] rfl rfl ?_
  refine J_st (R_assign rfl) rfl (J_done ?_)
  refine S_block ?_
  refine S_loop (fun (xq : Nat × Nat) => let ⟨i, q⟩ := xq; [(0, vxs), (1, .int .i64 ((q : Nat) : Int)), (4, .int .i64 0), (5, .int .i64 ((i : Nat) : Int))]) (fun (xq : Nat × Nat) w' => let ⟨i, q⟩ := xq; ModR w w' lo hi ∧ w.heap.size ≤ w'.heap.size ∧ i ≤ xs.length ∧ q = numNs k (xs.take i) ∧ OwS w' lo hi vxs (markNs k (xs.take i) ++ xs.drop i)) (fun (xq : Nat × Nat) => let ⟨i, q⟩ := xq; xs.length - i) (0, k) ⟨rfl, rfl, rfl, rfl, trivial⟩ ⟨E, Nat.le_refl _, Nat.zero_le _, rfl, (by simpa [markNs] using hxs)⟩ ?_
  clear E hxs
  rintro ⟨i, q⟩ w1 ⟨E, z1, hi0, hq, hxs⟩
  refine S_sub [(0, vxs), (1, .int .i64 ((q : Nat) : Int)), (4, .int .i64 0), (5, .int .i64 ((i : Nat) : Int))] ⟨rfl, rfl, rfl, rfl, trivial⟩ ?_
  refine S_seq ?_
  refine S_seq ?_
  refine S_reg [true, true, true, true] rfl rfl ?_
  refine J_st (R_move rfl) rfl (J_st (R_move rfl) rfl (J_st (R_len Try.underlying30 rfl (OwS.lenE (n := xs.length) hxs (by simp [markNs_length]; omega))) rfl (J_st (R_lss rfl rfl) rfl (J_done ?_))))
  refine S_cond rfl (fun hc1 => ?_) (fun hc1 => ?_)
  · have hlt : i < xs.length := by have h := of_decide_eq_true hc1; omega
    rw [drop_split hlt] at hxs
    obtain ⟨_, ho1, hrow⟩ := OwS.focus hxs
    obtain ⟨o1, rfl, sp1, hw1⟩ := Node.opO ho1
    clear hxs
    have hl0 : (markNs k (xs.take i)).length = i := by rw [markNs_length]; simp; omega
    have hn0 : i + 1 + (xs.drop (i + 1)).length = xs.length := by simp; omega
    have hqk : q + 3 + 1 * (xs[i]'hlt).outs.length ≤ k + 4 * cntL cntNode xs := by rw [hq]; exact numNs_le hlt
    have hc1n : i < xs.length := by first | (have h := of_decide_eq_true hc1; omega) | (have h := hc1; simp at h; omega)
    refine S_skip ?_
    refine S_seq ?_
    refine S_block ?_
    refine S_seq ?_
    refine S_reg [true, true, true, true, true, false] rfl rfl ?_
    refine J_st (R_move rfl) rfl (J_st (R_move rfl) rfl (J_st (R_move rfl) rfl (J_st (R_index (i := i) sl30 rfl rfl (Row.same1 hrow hl0 hn0) (by simp; omega)) rfl (J_st (R_fieldAddr fl70_0 rfl) rfl ?_))))
    have hq1 := Row.sep hrow (u := o1) (by simp)
    have hqb := Row.blk hrow
    refine J_storeRow (i := i) (f := 0) (cs' := [.int .i64 ((q : Nat) : Int), .int .i64 ((xs[i]'hlt).a), .int .i64 ((xs[i]'hlt).b), o1]) sc3 rfl rfl rfl rfl hrow hl0 (by decide) rfl rfl (fun w2 m1 hrow' => ?_)
    replace hrow := hrow'
    replace E := E.mod m1 (fun g hg => by have := hqb g hg; omega); replace hw1 := Own.modS hw1 m1 hq1
    have z2 := m1.size
    clear hqb hq1
    refine J_done ?_
    refine S_seq ?_
    refine S_reg [true, true, true] rfl rfl ?_
    refine J_st (R_move rfl) rfl (J_st (R_add rfl rfl (add_nat (by unfold maxLen; omega))) rfl (J_st (R_assign rfl) rfl (J_done ?_)))
    refine S_seq ?_
    refine S_reg [true, true, true, true, true, false] rfl rfl ?_
    refine J_st (R_move rfl) rfl (J_st (R_move rfl) rfl (J_st (R_move rfl) rfl (J_st (R_index (i := i) sl30 rfl rfl (Row.same1 hrow hl0 hn0) (by simp; omega)) rfl (J_st (R_fieldAddr fl70_1 rfl) rfl ?_))))
    have hq2 := Row.sep hrow (u := o1) (by simp)
    have hqb := Row.blk hrow
    refine J_storeRow (i := i) (f := 1) (cs' := [.int .i64 ((q : Nat) : Int), .int .i64 ((q + 1 : Nat) : Int), .int .i64 ((xs[i]'hlt).b), o1]) sc3 rfl rfl rfl rfl hrow hl0 (by decide) rfl rfl (fun w3 m2 hrow' => ?_)
    replace hrow := hrow'
    replace E := E.mod m2 (fun g hg => by have := hqb g hg; omega); replace hw1 := Own.modS hw1 m2 hq2
    have z3 := m2.size
    clear hqb hq2
    refine J_done ?_
    refine S_seq ?_
    refine S_reg [true, true, true] rfl rfl ?_
    refine J_st (R_move rfl) rfl (J_st (R_add rfl rfl (add_nat (by unfold maxLen; omega))) rfl (J_st (R_assign rfl) rfl (J_done ?_)))
    refine S_seq ?_
    refine S_reg [true, true, true, true, true, false] rfl rfl ?_
    refine J_st (R_move rfl) rfl (J_st (R_move rfl) rfl (J_st (R_move rfl) rfl (J_st (R_index (i := i) sl30 rfl rfl (Row.same1 hrow hl0 hn0) (by simp; omega)) rfl (J_st (R_fieldAddr fl70_2 rfl) rfl ?_))))
    have hq3 := Row.sep hrow (u := o1) (by simp)
    have hqb := Row.blk hrow
    refine J_storeRow (i := i) (f := 2) (cs' := [.int .i64 ((q : Nat) : Int), .int .i64 ((q + 1 : Nat) : Int), .int .i64 ((q + 1 + 1 : Nat) : Int), o1]) sc3 rfl rfl rfl rfl hrow hl0 (by decide) rfl rfl (fun w4 m3 hrow' => ?_)
    replace hrow := hrow'
    replace E := E.mod m3 (fun g hg => by have := hqb g hg; omega); replace hw1 := Own.modS hw1 m3 hq3
    have z4 := m3.size
    clear hqb hq3
    refine J_done ?_
    refine S_seq ?_
    refine S_reg [true, true, true] rfl rfl ?_
    refine J_st (R_move rfl) rfl (J_st (R_add rfl rfl (add_nat (by unfold maxLen; omega))) rfl (J_st (R_assign rfl) rfl (J_done ?_)))
    refine S_reg [true, true, true, true, true, true, false, true] rfl rfl ?_
    refine J_st (R_move rfl) rfl (J_st (R_move rfl) rfl (J_st (R_index (i := i) sl30 rfl rfl (Row.same1 hrow hl0 hn0) (by simp; omega)) rfl (J_st (R_fieldAddr fl70_3 rfl) rfl (J_st (R_load sc65 rfl ((Row.at hrow hl0).one 3 rfl)) rfl (J_st (R_move rfl) rfl ?_)))))
    refine J_callR Try.call53 rfl rfl (markIntS o1 (bl o1) (bh o1) ((xs[i]'hlt).outs) (q + 1 + 1 + 1) _ (Own.tight hw1) (by first | omega | (simp only [mkL_length]; omega) | (rw [mkL_length]; done) | (simp only [mkL_length]; done))) rfl (fun _ w5 e1 hv => ?_)
    obtain ⟨rfl, hw1'⟩ := hv
    have e1c := ModR.loose e1 (Own.blk hw1)
    replace hw1 := Own.loose hw1' (Own.blk hw1)
    clear hw1'
    replace E := E.trans e1c (by omega) (by omega); replace hrow := Row.modRS hrow e1 (by simp)
    have z5 := e1c.size
    refine J_st (R_assign rfl) rfl (J_done ?_)
    refine S_nil (E_inB ?_)
    refine S_reg [true, true, true] rfl rfl ?_
    refine J_st (R_move rfl) rfl (J_st (R_add rfl rfl (add_nat (by unfold maxLen; omega))) rfl (J_st (R_assign rfl) rfl (J_done ?_)))
    have hxs := Row.close hrow (Node.mkO (⟨((q : Nat) : Int), ((q + 1 : Nat) : Int), ((q + 1 + 1 : Nat) : Int), mkL 1 mkInt (q + 1 + 1 + 1) ((xs[i]'hlt).outs).length⟩ : Node) sp1 (Own.widen hw1 (by omega) (by omega)))
    refine S_nil (E_again (i + 1, (q + 1 + 1 + 1) + 1 * ((xs[i]'hlt).outs).length) (by simp; omega) ⟨rfl, rfl, rfl, rfl, trivial⟩ ⟨E, (by omega), (by omega), (by rw [numNs_take hlt, ← hq]), (by rw [markNs_take hlt, ← hq]; exact hxs)⟩)
  · have hc1n : ¬ i < xs.length := by first | (have h := of_decide_eq_false hc1; omega) | (have h := hc1; simp at h; omega)
    refine S_exit (E_lp_exit (E_inB_exit ?_))
    refine S_seq ?_
    refine S_reg [true, true] rfl rfl ?_
    refine J_st (R_move rfl) rfl (J_st (R_assign rfl) rfl (J_done ?_))
    refine S_ret (E_done1 rfl rfl E ?_)
    have hi9 : xs.length ≤ i := by have h := of_decide_eq_false hc1; omega
    rw [List.take_of_length_le hi9] at hq hxs
    rw [List.drop_of_length_le hi9, List.append_nil] at hxs
    exact ⟨by rw [hq], hxs⟩

set_option maxRecDepth 20000 in
theorem markGraph (ox : Value) (lo hi : Nat) (x : Graph) (k : Nat) (w : World) (hx : OwS w lo hi ox x.nodes) (hhi : hi ≤ w.heap.size) (hb : k + 4 * cntGraph x ≤ 1099511627776) : CtR Try.prog 14 [.agg [ox, .int .i64 x.workers, .int .i64 x.cap].toArray, .int .i64 ((k : Nat) : Int)] w lo hi (fun v w' => v = .int .i64 ((numNs k x.nodes : Nat) : Int) ∧ OwS w' lo hi ox (markNs k x.nodes)) := by
  unfold cntGraph at hb
  refine ctR_of Try.func14 rfl Try.ntmps14 rfl ?_
  refine S_sub [(0, .agg [ox, .int .i64 x.workers, .int .i64 x.cap].toArray), (1, .int .i64 ((k : Nat) : Int))] ⟨rfl, rfl, trivial⟩ ?_
  have E : ModR w w lo hi := ModR.refl w lo hi
  refine S_seq ?_
  refine S_reg [false, true] rfl rfl ?_
  refine J_box rfl rfl (fun b1 w1 e1 s1 h1 => ?_)
  have g_b1 : w.heap.size ≤ b1 := by have := E.size; omega
  have y_b1 := h1.lt
  replace E := E.ext e1; replace hx := hx.ext e1
  have z1 := e1.size
  refine J_st (R_assign rfl) rfl (J_done ?_)
  refine S_seq ?_
  refine S_reg [true, true, true, false, true] rfl rfl ?_
  refine J_st (R_fieldAddr0 fl32_0 rfl) rfl (J_st (R_load sc30 rfl (h1.one 0 rfl)) rfl (J_st (R_move rfl) rfl ?_))
  refine J_callR Try.call31 rfl rfl (markNodeS ox lo hi x.nodes k _ hx (by omega) (by first | omega | (simp only [mkL_length]; omega) | (rw [mkL_length]; done) | (simp only [mkL_length]; done))) rfl (fun _ w2 e2 hv => ?_)
  obtain ⟨rfl, hx'⟩ := hv
  replace hx := hx'
  replace E := E.trans e2 (by omega) (by omega); replace h1 := h1.modR e2 (by omega)
  have z2 := e2.size
  refine J_st (R_assign rfl) rfl (J_done ?_)
  refine S_seq ?_
  refine S_reg [true, true] rfl rfl ?_
  refine J_st (R_move rfl) rfl (J_st (R_assign rfl) rfl (J_done ?_))
  refine S_ret (E_done1 rfl rfl E ?_)
  exact ⟨rfl, hx⟩

set_option maxRecDepth 20000 in
theorem c_OutsOnly (cg : List Value) (g : Graph) (vxs : Value) (xs : List Cell) (w : World) (hg : Dat.R w 0 w.heap.size cg g) (hxs : RdS w vxs xs) (hb : xs.length ≤ 4194304) : Ct Try.prog 33 [.agg cg.toArray, vxs] w (fun v w' => Own w' w.heap.size w'.heap.size 4 v (List.flatMap (Enc.enc (α := Cell)) (xs.filter (outOf g)))) := by
  refine ct_of Try.func33 rfl Try.ntmps33 rfl ?_
  obtain ⟨o1, rfl, hd1⟩ := Graph.op hg
  refine S_sub [(0, .agg [o1, .int .i64 g.workers, .int .i64 g.cap].toArray), (1, vxs)] ⟨rfl, rfl, trivial⟩ ?_
  have E : Ext w w := Ext.refl w
  refine S_seq ?_
  refine S_reg [false, true] rfl rfl ?_
  refine J_box rfl rfl (fun b1 w1 e1 s1 h1 => ?_)
  have g_b1 : w.heap.size ≤ b1 := by have := E.size; omega
  have y_b1 := h1.lt
  replace E := E.trans e1
  have z1 := e1.size
  refine J_st (R_assign rfl) rfl (J_done ?_)
  refine S_seq ?_
  refine S_reg [true] rfl rfl ?_
  refine J_st (R_assign rfl) rfl (J_done ?_)
  refine S_seq ?_
  refine S_seq ?_
  refine S_reg [true, true, true] rfl rfl ?_
  refine J_st (R_move rfl) rfl (J_st (R_len Try.underlying28 rfl (hxs.ext E).len) rfl (J_st (R_move rfl) rfl (J_done ?_)))
  refine S_block ?_
  refine S_loop (fun (xq : Nat × Value) => let ⟨k, vo⟩ := xq; [(2, .pointer (some ⟨b1, 0, none⟩)), (4, .slice none 0 0), (5, vo), (8, vxs), (9, .int .i64 ((xs.length : Nat) : Int)), (10, .int .i64 ((k : Nat) : Int))]) (fun (xq : Nat × Value) w' => let ⟨k, vo⟩ := xq; Ext w w' ∧ w1.heap.size ≤ w'.heap.size ∧ Blk w' b1 ([o1, .int .i64 g.workers, .int .i64 g.cap]) ∧ k ≤ xs.length ∧ Own w' w1.heap.size w'.heap.size 4 vo (List.flatMap (Enc.enc (α := Cell)) ((xs.take k).filter (outOf g)))) (fun (xq : Nat × Value) => let ⟨k, vo⟩ := xq; xs.length - k) (0, .slice none 0 0) ⟨rfl, rfl, rfl, rfl, rfl, rfl, trivial⟩ ⟨E, Nat.le_refl _, h1, Nat.zero_le _, Own.fin (Own.nil w1 w1.heap.size w1.heap.size _) (by have := E.size; omega) (by omega) rfl⟩ ?_
  clear E h1
  rintro ⟨k, vo⟩ w2 ⟨E, z2, h1, hk, ho⟩
  refine S_sub [(2, .pointer (some ⟨b1, 0, none⟩)), (4, .slice none 0 0), (5, vo), (8, vxs), (9, .int .i64 ((xs.length : Nat) : Int)), (10, .int .i64 ((k : Nat) : Int))] ⟨rfl, rfl, rfl, rfl, rfl, rfl, trivial⟩ ?_
  refine S_seq ?_
  refine S_reg [true] rfl rfl ?_
  refine J_st (R_lss rfl rfl) rfl (J_done ?_)
  refine S_seq ?_
  refine S_cond rfl (fun hc1 => ?_) (fun hc1 => ?_)
  · have hc1n : k < xs.length := by first | (have h := of_decide_eq_true hc1; omega) | (have h := hc1; simp at h; omega)
    refine S_skip ?_
    refine S_seq ?_
    refine S_block ?_
    refine S_seq ?_
    refine S_reg [true, true, false, false] rfl rfl ?_
    have hi1 : k < xs.length := (by first | assumption | omega)
    refine J_st (R_index (i := k) sl28 rfl rfl (hxs.ext E) hi1) rfl (J_st (R_loadS st50 rfl ((hxs.ext E).get hi1) rfl) rfl ?_)
    refine J_alloc st50 rfl (fun b2 w3 e2 s2 h2 => ?_)
    have g_b2 : w.heap.size ≤ b2 := by have := E.size; omega
    have y_b2 := h2.lt
    replace E := E.trans e2; replace h1 := h1.ext e2; replace ho := ho.ext e2
    have z3 := e2.size
    refine J_storeS' (cs' := [.int .i64 ((xs[k]'hi1).op), .int .i64 ((xs[k]'hi1).epoch), .int .i64 ((xs[k]'hi1).key), .int .i64 ((xs[k]'hi1).val)]) st50 rfl rfl rfl rfl h2 (Nat.le_of_ble_eq_true rfl) rfl (fun w4 m1 h2' => ?_)
    replace h2 := h2'
    replace E := E.step m1 (fun g hg => by cases hg; omega); replace h1 := h1.mod m1 (fun g hg => by cases hg; omega); replace ho := ho.mod m1 (fun g hg => by cases hg; omega)
    have z4 := m1.size
    refine J_done ?_
    refine S_seq ?_
    refine S_reg [true, true, true, false, true, true, true, true, true, true, true, true, true, true] rfl rfl ?_
    refine J_st (R_loadS st32 rfl h1.at rfl) rfl (J_st (R_fieldAddr0 fl50_0 rfl) rfl (J_st (R_load sc3 rfl (h2.one 0 rfl)) rfl ?_))
    refine J_call Try.call47 rfl (c_isNode [o1, .int .i64 g.workers, .int .i64 g.cap] g ((xs[k]'hi1).op) _ (Graph.mkR g (RdD.any (hd1.ext E)))) rfl (fun _ w5 e3 hv => ?_)
    subst hv
    replace E := E.trans e3; replace h1 := h1.ext e3; replace ho := ho.ext e3; replace h2 := h2.ext e3
    have z5 := e3.size
    refine J_st (R_move rfl) rfl ?_
    refine J_cut 9 [(2, .pointer (some ⟨b1, 0, none⟩)), (4, .slice none 0 0), (5, vo), (7, .pointer (some ⟨b2, 0, none⟩)), (8, vxs), (9, .int .i64 ((xs.length : Nat) : Int)), (10, .int .i64 ((k : Nat) : Int)), (11, .bool (decide (((k : Nat) : Int) < ((xs.length : Nat) : Int)))), (12, .pointer (some ⟨sblk vxs, soff vxs + k * 4, none⟩)), (13, .agg (Enc.enc (xs[k]'hi1)).toArray), (27, .bool ((isNodeM g ((xs[k]'hi1).op)) && (((List.getD g.nodes (Int.toNat ((xs[k]'hi1).op)) default).kind) == 8)))] (fun w' => w5 = w') ?_ ?_
    · refine J_if (gd := 18) rfl rfl (fun hg1 => ?_) (fun hg1 => ?_)
      · have hop := isNode_of hg1
        refine J_gd rfl rfl (R_fieldAddr0 fl32_0 rfl) rfl (J_gd rfl rfl (R_load sc30 rfl (h1.one 0 rfl)) rfl (J_gd rfl rfl (R_fieldAddr0 fl50_0 rfl) rfl (J_gd rfl rfl (R_load sc3 rfl (h2.one 0 rfl)) rfl ?_)))
        have hi2 : (Int.toNat ((xs[k]'hi1).op)) < g.nodes.length := (by first | assumption | omega)
        obtain ⟨_, hr1, ha1⟩ := RdD.getD hd1 hi2
        obtain ⟨o2, rfl, hd2⟩ := Node.op hr1
        replace ha1 : At w (sblk o1) (soff o1 + (Int.toNat ((xs[k]'hi1).op)) * 4) [.int .i64 ((List.getD g.nodes (Int.toNat ((xs[k]'hi1).op)) default).kind), .int .i64 ((List.getD g.nodes (Int.toNat ((xs[k]'hi1).op)) default).a), .int .i64 ((List.getD g.nodes (Int.toNat ((xs[k]'hi1).op)) default).b), o2] := ha1
        refine J_gd rfl rfl (R_indexZ (i := (Int.toNat ((xs[k]'hi1).op))) sl30 rfl rfl (hd1.ext E).1 (by omega) hi2) rfl (J_gd rfl rfl (R_fieldAddr fl70_0 rfl) rfl (J_gd rfl rfl (R_load sc3 rfl ((ha1.ext E).one 0 rfl)) rfl (J_gd rfl rfl (R_eql rfl rfl) rfl (J_st (R_pickT rfl rfl) rfl (J_cutEnd ⟨rfl, rfl, rfl, rfl, rfl, rfl, rfl, rfl, rfl, rfl, congrArg (fun b => some (Value.bool b)) (show (((List.getD g.nodes (Int.toNat ((xs[k]'hi1).op)) default).kind) == 8) = ((isNodeM g ((xs[k]'hi1).op)) && (((List.getD g.nodes (Int.toNat ((xs[k]'hi1).op)) default).kind) == 8)) by first | (rw [hg1] <;> rfl) | (simp [hg1]; done) | (simp only [nat_nlt] <;> simp)), trivial⟩ rfl)))))
      · refine J_gdno rfl rfl rfl rfl (J_gdno rfl rfl rfl rfl (J_gdno rfl rfl rfl rfl (J_gdno rfl rfl rfl rfl (J_gdno rfl rfl rfl rfl (J_gdno rfl rfl rfl rfl (J_gdno rfl rfl rfl rfl (J_gdno rfl rfl rfl rfl (J_st (R_pickF rfl rfl) rfl (J_cutEnd ⟨rfl, rfl, rfl, rfl, rfl, rfl, rfl, rfl, rfl, rfl, congrArg (fun b => some (Value.bool b)) (show false = ((isNodeM g ((xs[k]'hi1).op)) && (((List.getD g.nodes (Int.toNat ((xs[k]'hi1).op)) default).kind) == 8)) by first | (rw [hg1] <;> rfl) | (simp [hg1]; done) | (simp only [nat_nlt] <;> simp)), trivial⟩ rfl)))))))))
    rintro _ rfl
    refine J_done ?_
    refine S_cond rfl (fun hc2 => ?_) (fun hc2 => ?_)
    · refine S_reg [true, true, false, false, true] rfl rfl ?_
      refine J_st (R_move rfl) rfl (J_st (R_loadS st50 rfl h2.at rfl) rfl ?_)
      refine J_buildSlice (vs := [.agg (Enc.enc (xs[k]'hi1)).toArray]) (css := [[.int .i64 ((xs[k]'hi1).op), .int .i64 ((xs[k]'hi1).epoch), .int .i64 ((xs[k]'hi1).key), .int .i64 ((xs[k]'hi1).val)]]) sl28 rfl rfl ⟨⟨rfl, rfl⟩, trivial⟩ rfl rfl (fun b3 w7 e4 s3 h3 => ?_)
      replace h3 : Blk w7 b3 [.int .i64 ((xs[k]'hi1).op), .int .i64 ((xs[k]'hi1).epoch), .int .i64 ((xs[k]'hi1).key), .int .i64 ((xs[k]'hi1).val)] := h3
      have g_b3 : w.heap.size ≤ b3 := by have := E.size; omega
      have y_b3 := h3.lt
      replace E := E.trans e4; replace h1 := h1.ext e4; replace ho := ho.ext e4; replace h2 := h2.ext e4
      have z6 := e4.size
      refine J_append sl28 rfl rfl ho (Src.ofBlk h3 rfl) rfl (by have h := filt_len xs (outOf g) k; simp only [show Enc.sz Cell = 4 from rfl] at h; simp at h ⊢; omega) (by decide) (by omega) (by omega) rfl rfl (fun v1 w8 m2 ho1 => ?_)
      replace E := E.step m2 (fun g hg => by have := Own.blk ho g hg; omega); replace h1 := h1.mod m2 (fun g hg => by have := Own.blk ho g hg; omega); replace h2 := h2.mod m2 (fun g hg => by have := Own.blk ho g hg; omega)
      have z7 := m2.size
      refine J_st (R_assign rfl) rfl (J_done ?_)
      refine S_nil (E_inB ?_)
      refine S_reg [true, true] rfl rfl ?_
      refine J_st (R_add rfl rfl (add_one hc1n hxs.1)) rfl (J_st (R_move rfl) rfl (J_done ?_))
      refine S_nil (E_again (k + 1, v1) (by simp; omega) ⟨rfl, rfl, rfl, rfl, rfl, rfl, trivial⟩ ⟨E, (by omega), h1, (by omega), Own.fin ho1 (Nat.le_refl _) (by omega) (filt_yes (by assumption) (by simpa [outOf] using hc2))⟩)
    · refine S_skip ?_
      refine S_nil (E_inB ?_)
      refine S_reg [true, true] rfl rfl ?_
      refine J_st (R_add rfl rfl (add_one hc1n hxs.1)) rfl (J_st (R_move rfl) rfl (J_done ?_))
      refine S_nil (E_again (k + 1, vo) (by simp; omega) ⟨rfl, rfl, rfl, rfl, rfl, rfl, trivial⟩ ⟨E, (by omega), h1, (by omega), Own.fin ho (Nat.le_refl _) (by omega) (filt_no (by assumption) (by simpa [outOf] using hc2))⟩)
  · have hc1n : ¬ k < xs.length := by first | (have h := of_decide_eq_false hc1; omega) | (have h := hc1; simp at h; omega)
    refine S_exit (E_lp_exit (E_inB_exit ?_))
    refine S_seq ?_
    refine S_reg [true, true] rfl rfl ?_
    refine J_st (R_move rfl) rfl (J_st (R_assign rfl) rfl (J_done ?_))
    refine S_ret (E_done1 rfl rfl E ?_)
    exact Own.fin ho (by omega) (by omega) (filt_all (by omega))

set_option maxRecDepth 20000 in
theorem s_OutsOnly (cg : List Value) (g : Graph) (vxs : Value) (xs : List Cell) (w : World) (hg : Dat.R w 0 w.heap.size cg g) (hxs : RdS w vxs xs) (hb : xs.length ≤ 4194304) (hcg : cntGraph g ≤ 1048576) : Ct Try.prog 32 [.agg cg.toArray, vxs] w (fun v w' => Own w' w.heap.size w'.heap.size 4 v (List.flatMap (Enc.enc (α := Cell)) (xs.filter (outOf g)))) := by
  refine ct_of Try.func32 rfl Try.ntmps32 rfl ?_
  obtain ⟨o1, rfl, hd1⟩ := Graph.op hg
  refine S_sub [(0, .agg [o1, .int .i64 g.workers, .int .i64 g.cap].toArray), (1, vxs)] ⟨rfl, rfl, trivial⟩ ?_
  have E : Ext w w := Ext.refl w
  refine S_seq ?_
  refine S_reg [false, true] rfl rfl ?_
  refine J_box rfl rfl (fun b1 w1 e1 s1 h1 => ?_)
  have g_b1 : w.heap.size ≤ b1 := by have := E.size; omega
  have y_b1 := h1.lt
  replace E := E.trans e1
  have z1 := e1.size
  refine J_st (R_assign rfl) rfl (J_done ?_)
  refine S_seq ?_
  refine S_reg [false, true] rfl rfl ?_
  refine J_buildSlice (vs := []) (css := []) sl28 rfl rfl trivial rfl rfl (fun b2 w2 e2 s2 h2 => ?_)
  replace h2 : Blk w2 b2 [] := h2
  have g_b2 : w.heap.size ≤ b2 := by have := E.size; omega
  have y_b2 := h2.lt
  replace E := E.trans e2; replace h1 := h1.ext e2
  have z2 := e2.size
  refine J_st (R_assign rfl) rfl (J_done ?_)
  refine S_seq ?_
  refine S_seq ?_
  refine S_reg [true] rfl rfl ?_
  refine J_st (R_assign rfl) rfl (J_done ?_)
  refine S_block ?_
  refine S_loop (fun (xq : Nat × Value) => let ⟨k, vo⟩ := xq; [(1, vxs), (2, .pointer (some ⟨b1, 0, none⟩)), (4, .slice none 0 0), (5, vo), (6, .int .i64 ((k : Nat) : Int))]) (fun (xq : Nat × Value) w' => let ⟨k, vo⟩ := xq; Ext w w' ∧ w2.heap.size ≤ w'.heap.size ∧ Blk w' b1 ([o1, .int .i64 g.workers, .int .i64 g.cap]) ∧ k ≤ xs.length ∧ Own w' b2 w'.heap.size 4 vo (List.flatMap (Enc.enc (α := Cell)) ((xs.take k).filter (outOf g)))) (fun (xq : Nat × Value) => let ⟨k, vo⟩ := xq; xs.length - k) (0, .slice (some ⟨b2, 0, none⟩) 0 0) ⟨rfl, rfl, rfl, rfl, rfl, trivial⟩ ⟨E, Nat.le_refl _, h1, Nat.zero_le _, Own.fin (Own.ofBlk (lo := b2) (hi := b2 + 1) (sz := 4) h2 (Nat.le_refl _) (Nat.lt_succ_self _) (by simp) (by simp [maxLen])) (by have := E.size; omega) (by omega) rfl⟩ ?_
  clear E h1 h2
  rintro ⟨k, vo⟩ w3 ⟨E, z3, h1, hk, ho⟩
  refine S_sub [(1, vxs), (2, .pointer (some ⟨b1, 0, none⟩)), (4, .slice none 0 0), (5, vo), (6, .int .i64 ((k : Nat) : Int))] ⟨rfl, rfl, rfl, rfl, rfl, trivial⟩ ?_
  refine S_seq ?_
  refine S_seq ?_
  refine S_reg [true, true, true, true] rfl rfl ?_
  refine J_st (R_move rfl) rfl (J_st (R_move rfl) rfl (J_st (R_len Try.underlying28 rfl (hxs.ext E).len) rfl (J_st (R_lss rfl rfl) rfl (J_done ?_))))
  refine S_cond rfl (fun hc1 => ?_) (fun hc1 => ?_)
  · have hc1n : k < xs.length := by first | (have h := of_decide_eq_true hc1; omega) | (have h := hc1; simp at h; omega)
    refine S_skip ?_
    refine S_seq ?_
    refine S_block ?_
    refine S_seq ?_
    have hi1 : k < xs.length := (by first | assumption | omega)
    refine S_regF mixed [] 10 7 [] [(0, true), (1, true), (2, true), (3, true), (4, true), (5, true)] [(6, false), (7, true), (8, true), (9, true)] [(11, false), (12, true)] (fun b => .pointer (some ⟨b, 0, none⟩)) (z := [.int .i64 0, .int .i64 0, .int .i64 0, .slice none 0 0]) (by decide +kernel) rfl rfl rfl rfl rfl rfl rfl [(1, vxs), (2, .pointer (some ⟨b1, 0, none⟩)), (4, .slice none 0 0), (5, vo), (6, .int .i64 ((k : Nat) : Int)), (10, .int .i64 ((k : Nat) : Int)), (11, vxs), (12, .int .i64 ((xs.length : Nat) : Int)), (13, .bool (decide (((k : Nat) : Int) < ((xs.length : Nat) : Int)))), (17, .agg [o1, .int .i64 g.workers, .int .i64 g.cap].toArray), (18, vxs), (19, .int .i64 ((k : Nat) : Int)), (20, .pointer (some ⟨sblk vxs, soff vxs + k * 4, none⟩)), (21, .pointer (some ⟨(sblk vxs), soff vxs + k * 4 + 0, none⟩)), (22, .int .i64 ((xs[k]'hi1).op))] [] rfl trivial (fun w' => Ext w w' ∧ w3.heap.size ≤ w'.heap.size ∧ Blk w' b1 ([o1, .int .i64 g.workers, .int .i64 g.cap]) ∧ Own w' b2 w3.heap.size 4 vo (List.flatMap (Enc.enc (α := Cell)) ((xs.take k).filter (outOf g)))) (float_alloc st70) (fun w4 e3 => ?_) (fun w4 hphi_w4 => ?_)
    · replace E := E.trans e3; replace h1 := h1.ext e3; replace ho := ho.ext e3
      have z4 := e3.size
      refine J_st (R_loadS st32 rfl h1.at rfl) rfl (J_st (R_move rfl) rfl (J_st (R_move rfl) rfl ?_))
      refine J_st (R_index (i := k) sl28 rfl rfl (hxs.ext E) hi1) rfl (J_st (R_fieldAddr fl50_0 rfl) rfl (J_st (R_load sc3 rfl (((hxs.ext E).get hi1).one 0 rfl)) rfl (J_cutEnd ⟨rfl, rfl, rfl, rfl, rfl, rfl, rfl, rfl, rfl, rfl, rfl, rfl, rfl, rfl, rfl, trivial⟩ ⟨E, (by omega), h1, ho⟩)))
    clear E h1 ho
    obtain ⟨E, z5, h1, ho⟩ := hphi_w4
    refine JI_un rfl (fun w5 e4 => ?_) rfl
    replace E := E.trans e4; replace h1 := h1.ext e4; replace ho := ho.ext e4
    have z6 := e4.size
    refine J_call Try.call37 rfl (s_NodeOf [o1, .int .i64 g.workers, .int .i64 g.cap] g ((xs[k]'hi1).op) _ (Graph.mkR g (RdD.any (hd1.ext E))) (by first | omega | (simp only [mkL_length]; omega) | (rw [mkL_length]; done) | (simp only [mkL_length]; done))) rfl (fun _ w6 e5 ho1 => ?_)
    obtain ⟨_, rfl, ho2⟩ := ho1
    have g_ho1 : w.heap.size ≤ w5.heap.size := E.size
    replace E := E.trans e5; replace h1 := h1.ext e5; replace ho := ho.ext e5
    have z7 := e5.size
    obtain ⟨o2, rfl, sp1, hw1⟩ := Node.opO ho2
    refine JI_go2 ?_
    refine JI_seg 3 rfl ?_
    refine J_st (R_move rfl) rfl (J_st (R_extract rfl rfl) rfl (J_st (R_extract rfl rfl) rfl (JI_go ?_)))
    refine JI_end rfl (fun b3 w7 e6 g1 y1 h3 hI1 => ?_)
    have hI1_0 : b3 < w5.heap.size ∨ w6.heap.size ≤ b3 := hI1 (_, _) (by simp)
    replace E := E.trans e6; replace h1 := h1.ext e6; replace ho := ho.ext e6; replace hw1 := hw1.ext e6
    have z8 := e6.size
    have g_b3 : w.heap.size ≤ b3 := by have := E.size; omega
    have y_b3 := h3.lt
    refine J2_sub [(1, vxs), (2, .pointer (some ⟨b1, 0, none⟩)), (4, .slice none 0 0), (5, vo), (6, .int .i64 ((k : Nat) : Int)), (7, .pointer (some ⟨b3, 0, none⟩)), (10, .int .i64 ((k : Nat) : Int)), (11, vxs), (12, .int .i64 ((xs.length : Nat) : Int)), (13, .bool (decide (((k : Nat) : Int) < ((xs.length : Nat) : Int)))), (16, .tuple [.agg [.int .i64 (((nodeOf g ((xs[k]'hi1).op)).1).kind), .int .i64 (((nodeOf g ((xs[k]'hi1).op)).1).a), .int .i64 (((nodeOf g ((xs[k]'hi1).op)).1).b), o2].toArray, .bool ((nodeOf g ((xs[k]'hi1).op)).2)].toArray), (17, .agg [o1, .int .i64 g.workers, .int .i64 g.cap].toArray), (18, vxs), (19, .int .i64 ((k : Nat) : Int)), (20, .pointer (some ⟨sblk vxs, soff vxs + k * 4, none⟩)), (21, .pointer (some ⟨(sblk vxs), soff vxs + k * 4 + 0, none⟩)), (22, .int .i64 ((xs[k]'hi1).op)), (23, .tuple [.agg [.int .i64 (((nodeOf g ((xs[k]'hi1).op)).1).kind), .int .i64 (((nodeOf g ((xs[k]'hi1).op)).1).a), .int .i64 (((nodeOf g ((xs[k]'hi1).op)).1).b), o2].toArray, .bool ((nodeOf g ((xs[k]'hi1).op)).2)].toArray), (24, .agg [.int .i64 (((nodeOf g ((xs[k]'hi1).op)).1).kind), .int .i64 (((nodeOf g ((xs[k]'hi1).op)).1).a), .int .i64 (((nodeOf g ((xs[k]'hi1).op)).1).b), o2].toArray), (25, .bool ((nodeOf g ((xs[k]'hi1).op)).2))] ⟨rfl, rfl, rfl, rfl, rfl, rfl, rfl, rfl, rfl, rfl, rfl, rfl, rfl, rfl, rfl, rfl, rfl, rfl, rfl, rfl, trivial⟩ ?_
    refine J2_of rfl ?_
    refine J_storeS' (cs' := [.int .i64 (((nodeOf g ((xs[k]'hi1).op)).1).kind), .int .i64 (((nodeOf g ((xs[k]'hi1).op)).1).a), .int .i64 (((nodeOf g ((xs[k]'hi1).op)).1).b), o2]) st70 rfl rfl rfl (all_cons rfl (all_cons rfl (all_cons rfl (all_cons hw1.one rfl)))) h3 (Nat.le_of_ble_eq_true rfl) rfl (fun w8 m1 h3' => ?_)
    replace h3 := h3'
    replace E := E.step m1 (fun g hg => by cases hg; omega); replace h1 := h1.mod m1 (fun g hg => by cases hg; omega); replace ho := ho.mod m1 (fun g hg => by cases hg; omega); replace hw1 := hw1.mod m1 (fun g hg => by cases hg; omega)
    have z9 := m1.size
    refine J_st (R_assign rfl) rfl (J_done ?_)
    refine S_seq ?_
    refine S_reg [true, true, true, true, true, true] rfl rfl ?_
    refine J_st (R_move rfl) rfl (J_st (R_move rfl) rfl ?_)
    refine J_cut 4 [(1, vxs), (2, .pointer (some ⟨b1, 0, none⟩)), (4, .slice none 0 0), (5, vo), (6, .int .i64 ((k : Nat) : Int)), (7, .pointer (some ⟨b3, 0, none⟩)), (8, .bool ((nodeOf g ((xs[k]'hi1).op)).2)), (10, .int .i64 ((k : Nat) : Int)), (11, vxs), (12, .int .i64 ((xs.length : Nat) : Int)), (13, .bool (decide (((k : Nat) : Int) < ((xs.length : Nat) : Int)))), (16, .tuple [.agg [.int .i64 (((nodeOf g ((xs[k]'hi1).op)).1).kind), .int .i64 (((nodeOf g ((xs[k]'hi1).op)).1).a), .int .i64 (((nodeOf g ((xs[k]'hi1).op)).1).b), o2].toArray, .bool ((nodeOf g ((xs[k]'hi1).op)).2)].toArray), (17, .agg [o1, .int .i64 g.workers, .int .i64 g.cap].toArray), (18, vxs), (19, .int .i64 ((k : Nat) : Int)), (20, .pointer (some ⟨sblk vxs, soff vxs + k * 4, none⟩)), (21, .pointer (some ⟨(sblk vxs), soff vxs + k * 4 + 0, none⟩)), (22, .int .i64 ((xs[k]'hi1).op)), (23, .tuple [.agg [.int .i64 (((nodeOf g ((xs[k]'hi1).op)).1).kind), .int .i64 (((nodeOf g ((xs[k]'hi1).op)).1).a), .int .i64 (((nodeOf g ((xs[k]'hi1).op)).1).b), o2].toArray, .bool ((nodeOf g ((xs[k]'hi1).op)).2)].toArray), (24, .agg [.int .i64 (((nodeOf g ((xs[k]'hi1).op)).1).kind), .int .i64 (((nodeOf g ((xs[k]'hi1).op)).1).a), .int .i64 (((nodeOf g ((xs[k]'hi1).op)).1).b), o2].toArray), (25, .bool ((nodeOf g ((xs[k]'hi1).op)).2)), (31, .bool (((nodeOf g ((xs[k]'hi1).op)).2) && ((((nodeOf g ((xs[k]'hi1).op)).1).kind) == 8)))] (fun w' => w8 = w') ?_ ?_
    · refine J_if (gd := 27) rfl rfl (fun hg1 => ?_) (fun hg1 => ?_)
      · refine J_gd rfl rfl (R_fieldAddr0 fl70_0 rfl) rfl (J_gd rfl rfl (R_load sc3 rfl (h3.one 0 rfl)) rfl (J_gd rfl rfl (R_eql rfl rfl) rfl (J_st (R_pickT rfl rfl) rfl (J_cutEnd ⟨rfl, rfl, rfl, rfl, rfl, rfl, rfl, rfl, rfl, rfl, rfl, rfl, rfl, rfl, rfl, rfl, rfl, rfl, rfl, rfl, rfl, congrArg (fun b => some (Value.bool b)) (show ((((nodeOf g ((xs[k]'hi1).op)).1).kind) == 8) = (((nodeOf g ((xs[k]'hi1).op)).2) && ((((nodeOf g ((xs[k]'hi1).op)).1).kind) == 8)) by first | (rw [hg1] <;> rfl) | (simp [hg1]; done) | (simp only [nat_nlt] <;> simp)), trivial⟩ rfl))))
      · refine J_gdno rfl rfl rfl rfl (J_gdno rfl rfl rfl rfl (J_gdno rfl rfl rfl rfl (J_st (R_pickF rfl rfl) rfl (J_cutEnd ⟨rfl, rfl, rfl, rfl, rfl, rfl, rfl, rfl, rfl, rfl, rfl, rfl, rfl, rfl, rfl, rfl, rfl, rfl, rfl, rfl, rfl, congrArg (fun b => some (Value.bool b)) (show false = (((nodeOf g ((xs[k]'hi1).op)).2) && ((((nodeOf g ((xs[k]'hi1).op)).1).kind) == 8)) by first | (rw [hg1] <;> rfl) | (simp [hg1]; done) | (simp only [nat_nlt] <;> simp)), trivial⟩ rfl))))
    rintro _ rfl
    refine J_done ?_
    refine S_cond rfl (fun hc2 => ?_) (fun hc2 => ?_)
    · refine S_reg [true, true, true, true, true, false, false, true] rfl rfl ?_
      refine J_st (R_move rfl) rfl (J_st (R_move rfl) rfl (J_st (R_move rfl) rfl (J_st (R_index (i := k) sl28 rfl rfl (hxs.ext E) hi1) rfl (J_st (R_loadS st50 rfl ((hxs.ext E).get hi1) rfl) rfl ?_))))
      refine J_buildSlice (vs := [.agg (Enc.enc (xs[k]'hi1)).toArray]) (css := [[.int .i64 ((xs[k]'hi1).op), .int .i64 ((xs[k]'hi1).epoch), .int .i64 ((xs[k]'hi1).key), .int .i64 ((xs[k]'hi1).val)]]) sl28 rfl rfl ⟨⟨rfl, rfl⟩, trivial⟩ rfl rfl (fun b4 w10 e7 s3 h4 => ?_)
      replace h4 : Blk w10 b4 [.int .i64 ((xs[k]'hi1).op), .int .i64 ((xs[k]'hi1).epoch), .int .i64 ((xs[k]'hi1).key), .int .i64 ((xs[k]'hi1).val)] := h4
      have g_b4 : w.heap.size ≤ b4 := by have := E.size; omega
      have y_b4 := h4.lt
      replace E := E.trans e7; replace h1 := h1.ext e7; replace ho := ho.ext e7; replace hw1 := hw1.ext e7; replace h3 := h3.ext e7
      have z10 := e7.size
      refine J_append sl28 rfl rfl ho (Src.ofBlk h4 rfl) rfl (by have h := filt_len xs (outOf g) k; simp only [show Enc.sz Cell = 4 from rfl] at h; simp at h ⊢; omega) (by decide) (by omega) (by omega) rfl rfl (fun v1 w11 m2 ho3 => ?_)
      replace E := E.step m2 (fun g hg => by have := Own.blk ho g hg; omega); replace h1 := h1.mod m2 (fun g hg => by have := Own.blk ho g hg; omega); replace hw1 := hw1.mod m2 (fun g hg => by have := Own.blk ho g hg; omega); replace h3 := h3.mod m2 (fun g hg => by have := Own.blk ho g hg; omega)
      have z11 := m2.size
      refine J_st (R_assign rfl) rfl (J_done ?_)
      refine S_nil (E_inB ?_)
      refine S_reg [true, true, true] rfl rfl ?_
      refine J_st (R_move rfl) rfl (J_st (R_add rfl rfl (add_one hc1n hxs.1)) rfl (J_st (R_assign rfl) rfl (J_done ?_)))
      refine S_nil (E_again (k + 1, v1) (by simp; omega) ⟨rfl, rfl, rfl, rfl, rfl, trivial⟩ ⟨E, (by omega), h1, (by omega), Own.fin ho3 (Nat.le_refl _) (by omega) (filt_yes (by assumption) (by simpa [← outOf_two] using hc2))⟩)
    · refine S_skip ?_
      refine S_nil (E_inB ?_)
      refine S_reg [true, true, true] rfl rfl ?_
      refine J_st (R_move rfl) rfl (J_st (R_add rfl rfl (add_one hc1n hxs.1)) rfl (J_st (R_assign rfl) rfl (J_done ?_)))
      refine S_nil (E_again (k + 1, vo) (by simp; omega) ⟨rfl, rfl, rfl, rfl, rfl, trivial⟩ ⟨E, (by omega), h1, (by omega), Own.fin ho (Nat.le_refl _) (by omega) (filt_no (by assumption) (by simpa [← outOf_two] using hc2))⟩)
  · have hc1n : ¬ k < xs.length := by first | (have h := of_decide_eq_false hc1; omega) | (have h := hc1; simp at h; omega)
    refine S_exit (E_lp_exit (E_inB_exit ?_))
    refine S_seq ?_
    refine S_reg [true, true] rfl rfl ?_
    refine J_st (R_move rfl) rfl (J_st (R_assign rfl) rfl (J_done ?_))
    refine S_ret (E_done1 rfl rfl E ?_)
    exact Own.fin ho (by omega) (by omega) (filt_all (by omega))

set_option maxRecDepth 20000 in
theorem c_IndexFuncCell (vxs : Value) (xs : List Cell) (fp : Value) (p : Cell → Bool) (w : World) (hxs : RdS w vxs xs) (hp : PredF Try.prog w fp p) : Ct Try.prog 69 [vxs, fp] w (fun v _ => v = .int .i64 (findI xs p)) := by
  refine ct_of Try.func69 rfl Try.ntmps69 rfl ?_
  obtain ⟨fid, fs, fc, rfl, hcf, hpf⟩ := hp
  refine S_sub [(0, vxs), (1, .func (.func fid) fs.toArray fc.toArray)] ⟨rfl, rfl, trivial⟩ ?_
  have E : Ext w w := Ext.refl w
  refine S_seq ?_
  refine S_reg [true] rfl rfl ?_
  refine J_st (R_assign rfl) rfl (J_done ?_)
  refine S_seq ?_
  refine S_seq ?_
  refine S_reg [true, true, true] rfl rfl ?_
  refine J_st (R_move rfl) rfl (J_st (R_len Try.underlying28 rfl (hxs.ext E).len) rfl (J_st (R_move rfl) rfl (J_done ?_)))
  refine S_block ?_
  refine S_loop (fun (k : Nat) => [(0, vxs), (1, .func (.func fid) fs.toArray fc.toArray), (4, .int .i64 0), (7, .int .i64 ((xs.length : Nat) : Int)), (8, .int .i64 ((k : Nat) : Int))]) (fun (k : Nat) w' => Ext w w' ∧ w.heap.size ≤ w'.heap.size ∧ k ≤ xs.length ∧ (xs.take k).any p = false) (fun (k : Nat) => xs.length - k) 0 ⟨rfl, rfl, rfl, rfl, rfl, trivial⟩ ⟨E, Nat.le_refl _, Nat.zero_le _, rfl⟩ ?_
  clear E
  rintro k w1 ⟨E, z1, hk, hI⟩
  refine S_seq ?_
  refine S_reg [true] rfl rfl ?_
  refine J_st (R_lss rfl rfl) rfl (J_done ?_)
  refine S_seq ?_
  refine S_cond rfl (fun hc1 => ?_) (fun hc1 => ?_)
  · have hc1n : k < xs.length := by first | (have h := of_decide_eq_true hc1; omega) | (have h := hc1; simp at h; omega)
    refine S_skip ?_
    refine S_seq ?_
    refine S_block ?_
    refine S_seq ?_
    refine S_reg [true, true] rfl rfl ?_
    refine J_st (R_move rfl) rfl (J_st (R_assign rfl) rfl (J_done ?_))
    refine S_seq ?_
    refine S_reg [true, true, true, true, true, false] rfl rfl ?_
    refine J_st (R_move rfl) rfl (J_st (R_move rfl) rfl (J_st (R_move rfl) rfl ?_))
    have hi1 : k < xs.length := (by first | assumption | omega)
    refine J_st (R_index (i := k) sl28 rfl rfl (hxs.ext E) hi1) rfl (J_st (R_loadS st50 rfl ((hxs.ext E).get hi1) rfl) rfl ?_)
    refine J_callV (fs := fs) (cs := fc) hcf rfl rfl (hpf (xs[k]'hi1) _ E) rfl (fun _ w2 e1 hv => ?_)
    subst hv
    replace E := E.trans e1
    have z2 := e1.size
    refine J_done ?_
    refine S_cond rfl (fun hc2 => ?_) (fun hc2 => ?_)
    · refine S_seq ?_
      refine S_reg [true, true] rfl rfl ?_
      refine J_st (R_move rfl) rfl (J_st (R_assign rfl) rfl (J_done ?_))
      refine S_ret (E_inB_ret (E_lp_ret (E_inB_ret (E_done1 rfl rfl E ?_))))
      exact find_yes hI (by assumption) hc2
    · refine S_skip ?_
      refine S_nil (E_inB ?_)
      refine S_reg [true, true] rfl rfl ?_
      refine J_st (R_add rfl rfl (add_one hc1n hxs.1)) rfl (J_st (R_move rfl) rfl (J_done ?_))
      refine S_nil (E_again (k + 1) (by omega) ⟨rfl, rfl, rfl, rfl, rfl, trivial⟩ ⟨E, (by omega), (by omega), any_step hI (by assumption) hc2⟩)
  · have hc1n : ¬ k < xs.length := by first | (have h := of_decide_eq_false hc1; omega) | (have h := hc1; simp at h; omega)
    refine S_exit (E_lp_exit (E_inB_exit ?_))
    refine S_seq ?_
    refine S_reg [true] rfl rfl ?_
    refine J_st (R_assign rfl) rfl (J_done ?_)
    refine S_ret (E_done1 rfl rfl E ?_)
    exact find_no hI (by omega)

set_option maxRecDepth 20000 in
theorem c_DeleteFuncCell (vxs : Value) (lo hi : Nat) (xs : List Cell) (fp : Value) (p : Cell → Bool) (w : World) (hxs : Own w lo hi 4 vxs (List.flatMap (Enc.enc (α := Cell)) xs)) (hp : PredR Try.prog w lo hi fp p) (hhi : hi ≤ w.heap.size) : CtR Try.prog 63 [vxs, fp] w lo hi (fun v w' => Own w' lo w'.heap.size 4 v (List.flatMap (Enc.enc (α := Cell)) (List.filter (fun y => !(p y)) xs))) := by
  have hmx := (Own.rd (α := Cell) (by decide) hxs).1
  unfold maxLen at hmx
  refine ctR_of Try.func63 rfl Try.ntmps63 rfl ?_
  obtain ⟨fid, fs, fc, rfl, hcf, hpf⟩ := hp
  refine S_sub [(0, vxs), (1, .func (.func fid) fs.toArray fc.toArray)] ⟨rfl, rfl, trivial⟩ ?_
  have E : ModR w w lo hi := ModR.refl w lo hi
  refine S_seq ?_
  refine S_reg [true] rfl rfl ?_
  refine J_st (R_assign rfl) rfl (J_done ?_)
  refine S_seq ?_
  refine S_reg [true, true, false, true] rfl rfl ?_
  refine J_st (R_move rfl) rfl (J_st (R_move rfl) rfl ?_)
  refine J_call Try.call69 (by rfl) (c_IndexFuncCell vxs xs (.func (.func fid) fs.toArray fc.toArray) (p) _ (Own.rd (by decide) hxs) ⟨fid, fs, fc, rfl, hcf, fun y w' e => hpf y w' (E.ext e)⟩) rfl (fun _ w1 e1 hv => ?_)
  subst hv
  replace E := E.ext e1; replace hxs := hxs.ext e1
  have z1 := e1.size
  refine J_st (R_assign rfl) rfl (J_done ?_)
  refine S_seq ?_
  refine S_seq ?_
  refine S_reg [true, true] rfl rfl ?_
  refine J_st (R_move rfl) rfl (J_st (R_eql rfl rfl) rfl (J_done ?_))
  refine S_cond rfl (fun hc1 => ?_) (fun hc1 => ?_)
  · refine S_seq ?_
    refine S_reg [true, true] rfl rfl ?_
    refine J_st (R_move rfl) rfl (J_st (R_assign rfl) rfl (J_done ?_))
    refine S_ret (E_done1 rfl rfl E ?_)
    exact Own.fin hxs (Nat.le_refl _) (by have := E.size; omega) (by rw [del_none (by simpa using hc1)])
  · have hany := find_some (by simpa using hc1)
    have hfl := find_lt hany
    rw [find_eq hany]
    refine S_skip ?_
    refine S_seq ?_
    refine S_seq ?_
    refine S_reg [true, true, true] rfl rfl ?_
    refine J_st (R_move rfl) rfl (J_st (R_add rfl rfl (add_nat (by unfold maxLen; omega))) rfl (J_st (R_assign rfl) rfl (J_done ?_)))
    refine S_block ?_
    refine S_loop (fun (xq : Nat × Nat × List Cell) => let ⟨j, i, ys⟩ := xq; [(0, vxs), (1, .func (.func fid) fs.toArray fc.toArray), (4, .slice none 0 0), (5, .int .i64 ((i : Nat) : Int)), (6, .int .i64 ((j : Nat) : Int))]) (fun (xq : Nat × Nat × List Cell) w' => let ⟨j, i, ys⟩ := xq; ModR w w' lo hi ∧ w1.heap.size ≤ w'.heap.size ∧ ys.length = xs.length ∧ i < j ∧ j ≤ xs.length ∧ ys.take i = (xs.take j).filter (fun y => !p y) ∧ ys.drop j = xs.drop j ∧ Own w' lo hi 4 vxs (List.flatMap (Enc.enc (α := Cell)) ys)) (fun (xq : Nat × Nat × List Cell) => let ⟨j, i, ys⟩ := xq; xs.length - j) (xs.findIdx p + 1, xs.findIdx p, xs) ⟨rfl, rfl, rfl, rfl, rfl, trivial⟩ ⟨E, Nat.le_refl _, rfl, (by omega), (by omega), (del_start hany), rfl, hxs⟩ ?_
    clear E hxs
    rintro ⟨j, i, ys⟩ w2 ⟨E, z2, hyl, hij, hjl, hI, hD, hxs⟩
    refine S_sub [(0, vxs), (1, .func (.func fid) fs.toArray fc.toArray), (4, .slice none 0 0), (5, .int .i64 ((i : Nat) : Int)), (6, .int .i64 ((j : Nat) : Int))] ⟨rfl, rfl, rfl, rfl, rfl, trivial⟩ ?_
    refine S_seq ?_
    refine S_seq ?_
    refine S_reg [true, true, true, true] rfl rfl ?_
    refine J_st (R_move rfl) rfl (J_st (R_move rfl) rfl (J_st (R_len Try.underlying28 rfl (Own.lenE (by decide) hxs hyl)) rfl (J_st (R_lss rfl rfl) rfl (J_done ?_))))
    refine S_cond rfl (fun hc2 => ?_) (fun hc2 => ?_)
    · have hc2n : j < xs.length := by first | (have h := of_decide_eq_true hc2; omega) | (have h := hc2; simp at h; omega)
      refine S_skip ?_
      refine S_seq ?_
      refine S_block ?_
      refine S_seq ?_
      refine S_reg [true, true, true, true, false, false] rfl rfl ?_
      refine J_st (R_move rfl) rfl (J_st (R_move rfl) rfl ?_)
      have hi1 : j < ys.length := (by first | assumption | omega)
      refine J_st (R_index (i := j) sl28 rfl rfl (Own.rd (by decide) hxs) hi1) rfl (J_st (R_loadS st50 rfl ((Own.rd (by decide) hxs).get hi1) rfl) rfl ?_)
      refine J_alloc st50 rfl (fun b1 w3 e2 s1 h1 => ?_)
      have g_b1 : w.heap.size ≤ b1 := by have := E.size; omega
      have y_b1 := h1.lt
      replace E := E.ext e2; replace hxs := hxs.ext e2
      have z3 := e2.size
      refine J_storeS' (cs' := [.int .i64 ((ys[j]'hi1).op), .int .i64 ((ys[j]'hi1).epoch), .int .i64 ((ys[j]'hi1).key), .int .i64 ((ys[j]'hi1).val)]) st50 rfl rfl rfl rfl h1 (Nat.le_of_ble_eq_true rfl) rfl (fun w4 m1 h1' => ?_)
      replace h1 := h1'
      replace E := E.mod m1 (fun g hg => by cases hg; omega); replace hxs := hxs.mod m1 (fun g hg => by cases hg; omega)
      have z4 := m1.size
      refine J_done ?_
      refine S_seq ?_
      refine S_reg [true, true, false, true] rfl rfl ?_
      refine J_st (R_move rfl) rfl (J_st (R_loadS st50 rfl h1.at rfl) rfl ?_)
      refine J_callV (fs := fs) (cs := fc) hcf rfl rfl (hpf (ys[j]'hi1) _ E) rfl (fun _ w5 e3 hv => ?_)
      subst hv
      replace E := E.ext e3; replace hxs := hxs.ext e3; replace h1 := h1.ext e3
      have z5 := e3.size
      refine J_st (R_not rfl) rfl (J_done ?_)
      refine S_cond rfl (fun hc3 => ?_) (fun hc3 => ?_)
      · refine S_seq ?_
        refine S_reg [true, true, true, true, false] rfl rfl ?_
        refine J_st (R_move rfl) rfl (J_st (R_move rfl) rfl (J_st (R_loadS st50 rfl h1.at rfl) rfl ?_))
        have hi2 : i < ys.length := (by first | assumption | omega)
        refine J_st (R_index (i := i) sl28 rfl rfl (Own.rd (by decide) hxs) hi2) rfl ?_
        refine J_storeElem (α := Cell) (i := i) (ys[j]'hi1) st50 rfl rfl rfl hxs hi2 (fun w6 m2 hxs' => ?_)
        have hq := Own.blk hxs
        replace hxs := hxs'
        replace E := E.mod m2 (fun g hg => by have := hq g hg; omega); replace h1 := h1.mod m2 (fun g hg => by have := hq g hg; omega)
        have z6 := m2.size
        clear hq
        refine J_done ?_
        refine S_reg [true, true, true] rfl rfl ?_
        refine J_st (R_move rfl) rfl (J_st (R_add rfl rfl (add_nat (by unfold maxLen; omega))) rfl (J_st (R_assign rfl) rfl (J_done ?_)))
        refine S_nil (E_inB ?_)
        refine S_reg [true, true, true] rfl rfl ?_
        refine J_st (R_move rfl) rfl (J_st (R_add rfl rfl (add_nat (by unfold maxLen; omega))) rfl (J_st (R_assign rfl) rfl (J_done ?_)))
        refine S_nil (E_again (j + 1, i + 1, List.set ys i (ys[j]'hi1)) (by simp; omega) ⟨rfl, rfl, rfl, rfl, rfl, trivial⟩ ⟨E, (by omega), (by simpa using hyl), (by omega), (by omega), (del_yes1 hI hD hyl hij (by omega) (by simpa using hc3)), (del_yes2 hD hyl hij), hxs⟩)
      · refine S_skip ?_
        refine S_nil (E_inB ?_)
        refine S_reg [true, true, true] rfl rfl ?_
        refine J_st (R_move rfl) rfl (J_st (R_add rfl rfl (add_nat (by unfold maxLen; omega))) rfl (J_st (R_assign rfl) rfl (J_done ?_)))
        refine S_nil (E_again (j + 1, i, ys) (by simp; omega) ⟨rfl, rfl, rfl, rfl, rfl, trivial⟩ ⟨E, (by omega), (by simpa using hyl), (by omega), (by omega), (del_no1 hI hD hyl hij (by omega) (by simpa using hc3)), (del_no2 hD hyl hij), hxs⟩)
    · have hc2n : ¬ j < xs.length := by first | (have h := of_decide_eq_false hc2; omega) | (have h := hc2; simp at h; omega)
      refine S_exit (E_lp_exit (E_inB_exit ?_))
      refine S_seq ?_
      refine S_reg [true, true, true, false] rfl rfl ?_
      refine J_st (R_move rfl) rfl (J_st (R_move rfl) rfl ?_)
      have hk1 : i ≤ ys.length := by first | assumption | omega
      refine J_st (R_sliceFrom sl28 rfl rfl (Own.roomE (α := Cell) hxs) hk1) rfl ?_
      have hrm1 := Own.roomE (α := Cell) hxs
      have hq := Own.blk hxs
      refine J_clear (α := Cell) sl28 st50 rfl rfl hxs (by first | assumption | omega) (fun w7 m3 ho1 => ?_)
      replace E := E.mod m3 (fun g hg => by have := hq g hg; omega)
      have z7 := m3.size
      clear hq
      refine J_done ?_
      refine S_seq ?_
      refine S_reg [true, true, true, true] rfl rfl ?_
      refine J_st (R_move rfl) rfl (J_st (R_move rfl) rfl ?_)
      have hk2 : i ≤ ys.length := by first | assumption | omega
      refine J_st (R_sliceTo sl28 rfl rfl hrm1 hk2) rfl (J_st (R_assign rfl) rfl (J_done ?_))
      refine S_ret (E_done1 rfl rfl E ?_)
      exact Own.fin ho1 (Nat.le_refl _) (by have := E.size; omega) (by rw [del_end hI (by omega)])

set_option maxHeartbeats 4000000 in
set_option maxRecDepth 20000 in
theorem c_InsertCell (vxs : Value) (lo hi : Nat) (xs : List Cell) (i : Nat) (bqy : Nat) (y : Cell) (w : World) (hxs : Own w lo hi 4 vxs (List.flatMap (Enc.enc (α := Cell)) xs)) (hy : Blk w bqy (Enc.enc y)) (hlo : lo ≤ w.heap.size) (hhi : hi ≤ w.heap.size) (hil : i ≤ xs.length) (hyb : hi ≤ bqy) (hbd : xs.length ≤ 4194304) : CtR Try.prog 72 [vxs, .int .i64 ((i : Nat) : Int), .slice (some ⟨bqy, 0, none⟩) 1 1] w lo hi (fun v w' => Own w' lo w'.heap.size 4 v (List.flatMap (Enc.enc (α := Cell)) (insM xs i y))) := by
  have hyl := hy.lt
  refine ctR_of Try.func72 rfl Try.ntmps72 rfl ?_
  refine S_sub [(0, vxs), (1, .int .i64 ((i : Nat) : Int)), (2, .slice (some ⟨bqy, 0, none⟩) 1 1)] ⟨rfl, rfl, rfl, trivial⟩ ?_
  have E : ModR w w lo hi := ModR.refl w lo hi
  refine S_seq ?_
  refine S_reg [true] rfl rfl ?_
  refine J_st (R_assign rfl) rfl (J_done ?_)
  refine S_seq ?_
  refine S_reg [true, true, true] rfl rfl ?_
  refine J_st (R_move rfl) rfl (J_st (R_move rfl) rfl ?_)
  have hk1 : i ≤ xs.length := by first | assumption | omega
  refine J_st (R_sliceFrom sl28 rfl rfl (Own.roomE (α := Cell) hxs) hk1) rfl (J_done ?_)
  refine S_seq ?_
  refine S_reg [true, true, true] rfl rfl ?_
  refine J_st (R_move rfl) rfl (J_st (R_len Try.underlying28 rfl ⟨_, _, rfl⟩) rfl (J_st (R_assign rfl) rfl (J_done ?_)))
  refine S_seq ?_
  refine S_seq ?_
  refine S_reg [true, true] rfl rfl ?_
  refine J_st (R_move rfl) rfl (J_st (R_eql rfl rfl) rfl (J_done ?_))
  refine S_condFe rfl (by decide) ?_
  refine S_skip ?_
  refine S_seq ?_
  refine S_reg [true, true, true] rfl rfl ?_
  refine J_st (R_move rfl) rfl (J_st (R_len Try.underlying28 rfl (Own.len (by decide) hxs)) rfl (J_st (R_assign rfl) rfl (J_done ?_)))
  refine S_seq ?_
  refine S_seq ?_
  refine S_reg [true, true, true] rfl rfl ?_
  refine J_st (R_move rfl) rfl (J_st (R_move rfl) rfl (J_st (R_eql rfl rfl) rfl (J_done ?_)))
  refine S_cond rfl (fun hc1 => ?_) (fun hc1 => ?_)
  · have hc1n : i = xs.length := by first | (have h := of_decide_eq_true hc1; omega) | (have h := hc1; simp at h; omega)
    refine S_seq ?_
    refine S_reg [true, true, false, true] rfl rfl ?_
    refine J_st (R_move rfl) rfl (J_st (R_move rfl) rfl ?_)
    refine J_append sl28 rfl rfl hxs (Src.ofBlk hy (by rfl)) (Enc.one _) (by simp only [sum_flat, Enc.len]; simp only [show Enc.sz Cell = 4 from rfl]; omega) (by decide) (by omega) (by omega) rfl rfl (fun v1 w1 m1 ho1 => ?_)
    replace E := E.mod m1 (fun g hg => by have := Own.blk hxs g hg; omega); replace hy := hy.mod m1 (fun g hg => by have := Own.blk hxs g hg; omega)
    have z1 := m1.size
    refine J_st (R_assign rfl) rfl (J_done ?_)
    refine S_ret (E_done1 rfl rfl E ?_)
    exact Own.fin ho1 (Nat.le_refl _) (by omega) (ins_end (by have h := hc1; simp at h; omega))
  · have hlt : i < xs.length := by have h := hc1; simp at h; omega
    obtain ⟨g, off, cap, cur, rfl, hg1, hg2, hB, hn, hcm, hrr, hcur⟩ := Own.conc (n := xs.length) hxs (sum_flat xs) (by decide) (by omega)
    have hc1n : ¬ i = xs.length := by first | (have h := of_decide_eq_false hc1; omega) | (have h := hc1; simp at h; omega)
    refine S_skip ?_
    refine S_seq ?_
    refine S_seq ?_
    refine S_reg [true, true, true, true, true, true] rfl rfl ?_
    refine J_st (R_move rfl) rfl (J_st (R_move rfl) rfl (J_st (R_add rfl rfl (add_nat (by unfold maxLen; omega))) rfl (J_st (R_move rfl) rfl (J_st (R_cap Try.underlying28 rfl) rfl (J_st (R_gtr rfl rfl) rfl (J_done ?_))))))
    refine S_cond rfl (fun hc2 => ?_) (fun hc2 => ?_)
    · have hc2n : xs.length + 1 > cap := by first | (have h := of_decide_eq_true hc2; omega) | (have h := hc2; simp at h; omega)
      refine S_seq ?_
      refine S_reg [true, true, true, true, true, true, true, true, false, true] rfl rfl ?_
      refine J_st (R_move rfl) rfl (J_st (R_move rfl) rfl (J_st (R_sliceToC sl28 rfl rfl (by omega)) rfl (J_st (R_move rfl) rfl (J_st (R_move rfl) rfl (J_st (R_add rfl rfl (add_nat (by unfold maxLen; omega))) rfl (J_st (R_move rfl) rfl (J_st (R_sub rfl rfl (nat_sub (by omega) (by unfold maxLen; omega))) rfl ?_)))))))
      refine J_appendZ sl28 Try.underlying3 rfl rfl (Blk.seg hB (fun j u hj => hcur j u (take_pre hj))) (by rw [sum_flat, List.length_take, Nat.min_eq_left (by omega)]; rfl) (by omega) (by omega) (by omega) (by decide) rfl (fun b2 G rest wZ eZ sZ h2 hG hGm hrl => ?_)
      have g_b2 : w.heap.size ≤ b2 := by have := E.size; omega
      have y_b2 := h2.lt
      replace E := E.ext eZ; replace hy := hy.ext eZ; replace hB := hB.ext eZ
      have z2 := eZ.size
      have hLA : (List.flatMap (Enc.enc (α := Cell)) (xs.take i)).length = i * 4 := by rw [sum_flat, List.length_take, Nat.min_eq_left (by omega)]; rfl
      refine J_st (R_assign rfl) rfl (J_done ?_)
      refine S_seq ?_
      refine S_reg [true, true, true, true, false] rfl rfl ?_
      refine J_st (R_move rfl) rfl (J_st (R_move rfl) rfl (J_st (R_sliceFromC sl28 rfl rfl (by omega) (by omega) (by omega)) rfl (J_st (R_move rfl) rfl ?_)))
      refine J_copy 1 sl28 rfl rfl (Nat.min_eq_left (by omega)) h2 (Blk.at hy) (by rfl) (Enc.one y) (by rw [Enc.len, List.length_append, hLA, hrl]; simp only [show Enc.sz Cell = 4 from rfl]; omega) rfl (fun w2 m2 h2' => ?_)
      replace h2 := h2'
      replace E := E.mod m2 (fun g hg => by cases hg; omega); replace hy := hy.mod m2 (fun g hg => by cases hg; omega); replace hB := hB.mod m2 (fun g hg => by cases hg; omega)
      have z3 := m2.size
      refine J_done ?_
      refine S_seq ?_
      refine S_regD mixed [(0, true), (1, true), (2, true), (3, true), (4, true), (5, true), (6, true), (7, true), (8, false)] (by decide +kernel) rfl (fun w3 e1 => ?_)
      replace E := E.ext e1; replace hy := hy.ext e1; replace hB := hB.ext e1; replace h2 := h2.ext e1
      have z4 := e1.size
      refine J_st (R_move rfl) rfl (J_st (R_move rfl) rfl (J_st (R_move rfl) rfl (J_st (R_add rfl rfl (add_nat (by unfold maxLen; omega))) rfl (J_st (R_sliceFromC sl28 rfl rfl (by omega) (by omega) (by omega)) rfl (J_st (R_move rfl) rfl (J_st (R_move rfl) rfl (J_st (R_sliceFromC sl28 rfl rfl (by omega) (by omega) (by omega)) rfl ?_)))))))
      refine J_copy (xs.length - i) sl28 rfl rfl (by show min _ _ = _; omega) h2 (Blk.seg hB (fun j u hj => by rw [Nat.add_assoc]; exact hcur _ u (drop_pre hj))) (by rw [sum_flat, List.length_drop]; rfl) (flat_one _) (by rw [spl_length, sum_flat, List.length_drop, List.length_append, hLA, hrl]; simp only [show Enc.sz Cell = 4 from rfl]; omega) rfl (fun w4 m3 h2' => ?_)
      replace h2 := h2'
      replace E := E.mod m3 (fun g hg => by cases hg; omega); replace hy := hy.mod m3 (fun g hg => by cases hg; omega); replace hB := hB.mod m3 (fun g hg => by cases hg; omega)
      have z5 := m3.size
      refine J_done ?_
      refine S_seq ?_
      refine S_reg [true, true] rfl rfl ?_
      refine J_st (R_move rfl) rfl (J_st (R_assign rfl) rfl (J_done ?_))
      refine S_ret (E_done1 rfl rfl E ?_)
      have hLC : (List.flatMap (Enc.enc (α := Cell)) (xs.drop i)).length = (xs.length - i) * 4 := by rw [sum_flat, List.length_drop]; rfl
      have hLB : (Enc.enc y).length = 4 := rfl
      exact Own.of h2 (by omega) h2.lt (by omega) hGm (by rw [spl_length, spl_length, List.length_append, hLA, hrl]; omega) (by rw [insM_flat]; simp only [List.length_append, hLA, hLB, hLC]; omega) (by rw [insM_flat]; exact ins_rowE (by omega) (by omega) (fun j u hj => by rw [Nat.zero_add, List.getElem?_append_left (List.getElem?_eq_some_iff.1 hj).1]; exact hj) (by rw [List.length_append, hLA, hLB, hLC, hrl]; omega))
    · have hc2n : ¬ xs.length + 1 > cap := by first | (have h := of_decide_eq_false hc2; omega) | (have h := hc2; simp at h; omega)
      refine S_skip ?_
      refine S_seq ?_
      refine S_reg [true, true, true, true, true, true] rfl rfl ?_
      refine J_st (R_move rfl) rfl (J_st (R_move rfl) rfl (J_st (R_move rfl) rfl (J_st (R_add rfl rfl (add_nat (by unfold maxLen; omega))) rfl (J_st (R_sliceToC sl28 rfl rfl (by omega)) rfl (J_st (R_assign rfl) rfl (J_done ?_))))))
      refine S_seq ?_
      refine S_seq ?_
      refine S_reg [true, true, true, true, true, true, false, true] rfl rfl ?_
      refine J_st (R_move rfl) rfl (J_st (R_move rfl) rfl (J_st (R_move rfl) rfl (J_st (R_move rfl) rfl (J_st (R_add rfl rfl (add_nat (by unfold maxLen; omega))) rfl (J_st (R_sliceFromC sl28 rfl rfl (by omega) (by omega) (by omega)) rfl ?_)))))
      have hov : (callFunc 76 ([.slice (some ⟨bqy, 0, none⟩) 1 1, .slice (some ⟨g, off + (i + 1) * 4, none⟩) ((xs.length + 1) - (i + 1)) (cap - (i + 1))]).toArray).run Try.prog w = .ok (.value (.bool false)) w := by rw [run_callFunc_extern Try.func76 (by kernel_rfl) (by kernel_rfl) (by kernel_rfl) (e := Extern.SlicesOverlaps.overlaps #[28, 28] #[4]) (by kernel_rfl)]; show ((Extern.SlicesOverlaps.overlaps #[28, 28] #[4] #[.slice (some ⟨bqy, 0, none⟩) 1 1, .slice (some ⟨g, off + (i + 1) * 4, none⟩) ((xs.length + 1) - (i + 1)) (cap - (i + 1))]).run Try.prog w).andThen _ = _; rw [run_ov sl28 st50.size hy hB (by omega) (by omega)]; rfl
      refine J_extern (vs := [.slice (some ⟨bqy, 0, none⟩) 1 1, .slice (some ⟨g, off + (i + 1) * 4, none⟩) ((xs.length + 1) - (i + 1)) (cap - (i + 1))]) rfl hov rfl ?_
      refine J_st (R_not rfl) rfl (J_done ?_)
      refine S_condTe rfl (by first | (simp; done) | (simp only [nat_nlt] <;> simp) | (simp only [mkL_length, nat_nlt] <;> simp) | (simp only [mkL_length] <;> simp)) ?_
      refine S_seq ?_
      refine S_regD mixed [(0, true), (1, true), (2, true), (3, true), (4, true), (5, true), (6, true), (7, true), (8, false)] (by decide +kernel) rfl (fun w5 e2 => ?_)
      replace E := E.ext e2; replace hy := hy.ext e2; replace hB := hB.ext e2
      have z6 := e2.size
      refine J_st (R_move rfl) rfl (J_st (R_move rfl) rfl (J_st (R_move rfl) rfl (J_st (R_add rfl rfl (add_nat (by unfold maxLen; omega))) rfl (J_st (R_sliceFromC sl28 rfl rfl (by omega) (by omega) (by omega)) rfl (J_st (R_move rfl) rfl (J_st (R_move rfl) rfl (J_st (R_sliceFromC sl28 rfl rfl (by omega) (by omega) (by omega)) rfl ?_)))))))
      refine J_copy (xs.length - i) sl28 rfl rfl (by show min _ _ = _; omega) hB (Blk.seg hB (fun j u hj => by rw [Nat.add_assoc]; exact hcur _ u (drop_pre hj))) (by rw [sum_flat, List.length_drop]; rfl) (flat_one _) (by rw [sum_flat, List.length_drop]; simp only [show Enc.sz Cell = 4 from rfl]; omega) rfl (fun w6 m4 hB' => ?_)
      replace hB := hB'
      replace E := E.mod m4 (fun g hg => by cases hg; omega); replace hy := hy.mod m4 (fun g hg => by cases hg; omega)
      have z7 := m4.size
      refine J_done ?_
      refine S_seq ?_
      refine S_reg [true, true, true, true, false] rfl rfl ?_
      refine J_st (R_move rfl) rfl (J_st (R_move rfl) rfl (J_st (R_sliceFromC sl28 rfl rfl (by omega) (by omega) (by omega)) rfl (J_st (R_move rfl) rfl ?_)))
      refine J_copy 1 sl28 rfl rfl (Nat.min_eq_left (by omega)) hB (Blk.at hy) (by rfl) (Enc.one y) (by rw [spl_length, Enc.len]; simp only [show Enc.sz Cell = 4 from rfl]; omega) rfl (fun w7 m5 hB' => ?_)
      replace hB := hB'
      replace E := E.mod m5 (fun g hg => by cases hg; omega); replace hy := hy.mod m5 (fun g hg => by cases hg; omega)
      have z8 := m5.size
      refine J_done ?_
      refine S_seq ?_
      refine S_reg [true, true] rfl rfl ?_
      refine J_st (R_move rfl) rfl (J_st (R_assign rfl) rfl (J_done ?_))
      refine S_ret (E_done1 rfl rfl E ?_)
      have hLA : (List.flatMap (Enc.enc (α := Cell)) (xs.take i)).length = i * 4 := by rw [sum_flat, List.length_take, Nat.min_eq_left (by omega)]; rfl
      have hLC : (List.flatMap (Enc.enc (α := Cell)) (xs.drop i)).length = (xs.length - i) * 4 := by rw [sum_flat, List.length_drop]; rfl
      have hLB : (Enc.enc y).length = 4 := rfl
      exact Own.of hB hg1 (by omega) (by omega) hcm (by rw [spl_length, spl_length]; exact hrr) (by rw [insM_flat]; simp only [List.length_append, hLA, hLB, hLC]; omega) (by rw [insM_flat]; exact ins_row2E (by omega) (by omega) (fun j u hj => hcur j u (take_pre hj)) (by rw [hLA, hLB, hLC]; omega))

set_option maxRecDepth 20000 in
theorem c_PutCell (vxs : Value) (xs : List Cell) (x : Cell) (w : World) (hxs : RdS w vxs xs) (hb : xs.length ≤ 4194304) : Ct Try.prog 66 [vxs, .agg (Enc.enc x).toArray] w (fun v w' => Own w' w.heap.size w'.heap.size 4 v (List.flatMap (Enc.enc (α := Cell)) (putM xs x))) := by
  refine ct_of Try.func66 rfl Try.ntmps66 rfl ?_
  refine S_sub [(0, vxs), (1, .agg (Enc.enc x).toArray)] ⟨rfl, rfl, trivial⟩ ?_
  have E : Ext w w := Ext.refl w
  refine S_seq ?_
  refine S_reg [false, true] rfl rfl ?_
  refine J_box rfl rfl (fun b1 w1 e1 s1 h1 => ?_)
  have g_b1 : w.heap.size ≤ b1 := by have := E.size; omega
  have y_b1 := h1.lt
  replace E := E.trans e1
  have z1 := e1.size
  refine J_st (R_assign rfl) rfl (J_done ?_)
  refine S_seq ?_
  refine S_reg [true, false, true] rfl rfl ?_
  refine J_st (R_move rfl) rfl ?_
  refine J_call Try.call48 rfl (c_copyCells vxs xs _ (hxs.ext E) (by first | omega | (simp only [mkL_length]; omega) | (rw [mkL_length]; done) | (simp only [mkL_length]; done))) rfl (fun v1 w2 e2 ho1 => ?_)
  have g_ho1 : w.heap.size ≤ w1.heap.size := E.size
  replace E := E.trans e2; replace h1 := h1.ext e2
  have z2 := e2.size
  refine J_st (R_assign rfl) rfl (J_done ?_)
  refine S_seq ?_
  refine S_seq ?_
  refine S_reg [true, true, false] rfl rfl ?_
  refine J_st (R_move rfl) rfl (J_st (R_loadS st50 rfl h1.at rfl) rfl ?_)
  refine J_call Try.call70 rfl (c_HasCell vxs xs x _ (hxs.ext E)) rfl (fun _ w3 e3 hv => ?_)
  subst hv
  replace E := E.trans e3; replace h1 := h1.ext e3; replace ho1 := ho1.ext e3
  have z3 := e3.size
  refine J_done ?_
  refine S_cond rfl (fun hc1 => ?_) (fun hc1 => ?_)
  · refine S_seq ?_
    refine S_reg [true, true] rfl rfl ?_
    refine J_st (R_move rfl) rfl (J_st (R_assign rfl) rfl (J_done ?_))
    refine S_ret (E_done1 rfl rfl E ?_)
    exact Own.fin ho1 (by omega) (by omega) (by simp only [putM_yes hc1, List.nil_append])
  · refine S_skip ?_
    refine S_seq ?_
    refine S_reg [true] rfl rfl ?_
    refine J_st (R_assign rfl) rfl (J_done ?_)
    refine S_seq ?_
    refine S_block ?_
    refine S_loop (fun (k : Nat) => [(0, vxs), (3, .pointer (some ⟨b1, 0, none⟩)), (4, .slice none 0 0), (5, v1), (6, .int .i64 ((k : Nat) : Int))]) (fun (k : Nat) w' => Ext w w' ∧ w3.heap.size ≤ w'.heap.size ∧ Blk w' b1 (Enc.enc x) ∧ Own w' w1.heap.size w2.heap.size 4 v1 (List.flatMap (Enc.enc (α := Cell)) xs) ∧ k ≤ xs.length ∧ (xs.take k).all (putLt x) = true) (fun (k : Nat) => xs.length - k) 0 ⟨rfl, rfl, rfl, rfl, rfl, trivial⟩ ⟨E, Nat.le_refl _, h1, ho1, Nat.zero_le _, rfl⟩ ?_
    clear E h1 ho1
    rintro k w4 ⟨E, z4, h1, ho1, hk, hI⟩
    refine S_seq ?_
    refine S_seq ?_
    refine S_regD mixed [(0, true), (1, true), (2, true), (3, true), (4, true), (5, true), (6, true), (7, true), (8, true), (9, true), (10, false), (11, true), (12, true)] (by decide +kernel) rfl (fun w5 e4 => ?_)
    replace E := E.trans e4; replace h1 := h1.ext e4; replace ho1 := ho1.ext e4
    have z5 := e4.size
    refine J_st (R_move rfl) rfl (J_st (R_move rfl) rfl (J_st (R_len Try.underlying28 rfl (hxs.ext E).len) rfl (J_st (R_lss rfl rfl) rfl (J_st (R_move rfl) rfl ?_))))
    refine J_cut 8 [(0, vxs), (3, .pointer (some ⟨b1, 0, none⟩)), (4, .slice none 0 0), (5, v1), (6, .int .i64 ((k : Nat) : Int)), (25, .bool ((decide (((k : Nat) : Int) < ((xs.length : Nat) : Int))) && (decide ((cellOrd (List.getD xs k default) x) < 0))))] (fun w' => Ext w w' ∧ w5.heap.size ≤ w'.heap.size ∧ Blk w' b1 (Enc.enc x) ∧ Own w' w1.heap.size w2.heap.size 4 v1 (List.flatMap (Enc.enc (α := Cell)) xs)) ?_ ?_
    · refine J_if (gd := 17) rfl rfl (fun hg1 => ?_) (fun hg1 => ?_)
      · have hg1n : k < xs.length := by first | (have h := of_decide_eq_true hg1; omega) | (have h := hg1; simp at h; omega)
        refine J_gd rfl rfl (R_move rfl) rfl (J_gd rfl rfl (R_move rfl) rfl (J_gd rfl rfl (R_index (i := k) sl28 rfl rfl (hxs.ext E) (by first | assumption | omega)) rfl (J_gd rfl rfl (R_loadS st50 rfl (RdS.getD (hxs.ext E) (i := k) (by first | assumption | omega)) rfl) rfl (J_gd rfl rfl (R_loadS st50 rfl h1.at rfl) rfl ?_))))
        refine J_ung rfl rfl ?_
        refine J_call Try.call71 rfl (c_CellOrder (List.getD xs k default) x _ ) rfl (fun _ w7 e5 hv => ?_)
        subst hv
        replace E := E.trans e5; replace h1 := h1.ext e5; replace ho1 := ho1.ext e5
        have z6 := e5.size
        refine J_gd rfl rfl (R_lss rfl rfl) rfl (J_st (R_pickT rfl rfl) rfl (J_cutEnd ⟨rfl, rfl, rfl, rfl, rfl, congrArg (fun b => some (Value.bool b)) (show (decide ((cellOrd (List.getD xs k default) x) < 0)) = ((decide (((k : Nat) : Int) < ((xs.length : Nat) : Int))) && (decide ((cellOrd (List.getD xs k default) x) < 0))) by first | (rw [hg1] <;> rfl) | (simp [hg1]; done) | (simp only [nat_nlt] <;> simp)), trivial⟩ ⟨E, (by omega), h1, ho1⟩))
      · have hg1n : ¬ k < xs.length := by first | (have h := of_decide_eq_false hg1; omega) | (have h := hg1; simp at h; omega)
        refine J_gdno rfl rfl rfl rfl (J_gdno rfl rfl rfl rfl (J_gdno rfl rfl rfl rfl (J_gdno rfl rfl rfl rfl (J_gdno rfl rfl rfl rfl ?_))))
        refine J_ungno rfl rfl rfl rfl ?_
        refine J_gdno rfl rfl rfl rfl (J_st (R_pickF rfl rfl) rfl (J_cutEnd ⟨rfl, rfl, rfl, rfl, rfl, congrArg (fun b => some (Value.bool b)) (show false = ((decide (((k : Nat) : Int) < ((xs.length : Nat) : Int))) && (decide ((cellOrd (List.getD xs k default) x) < 0))) by first | (rw [hg1] <;> rfl) | (simp [hg1]; done) | (simp only [nat_nlt] <;> simp)), trivial⟩ ⟨E, (by omega), h1, ho1⟩))
    clear E h1 ho1
    rintro w6 ⟨E, z7, h1, ho1⟩
    refine J_done ?_
    refine S_cond rfl (fun hc2 => ?_) (fun hc2 => ?_)
    · have hlt := put_lt hc2
      refine S_skip ?_
      refine S_block ?_
      refine S_reg [true, true, true] rfl rfl ?_
      refine J_st (R_move rfl) rfl (J_st (R_add rfl rfl (add_nat (by unfold maxLen; omega))) rfl (J_st (R_assign rfl) rfl (J_done ?_)))
      refine S_nil (E_inB ?_)
      refine S_nil (E_again (k + 1) (by omega) ⟨rfl, rfl, rfl, rfl, rfl, trivial⟩ ⟨E, (by omega), h1, ho1, (by omega), (put_step hI hc2)⟩)
    · refine S_exit (E_lp_exit (E_inB_exit ?_))
      refine S_seq ?_
      refine S_reg [true, true, true, false, false, true] rfl rfl ?_
      refine J_st (R_move rfl) rfl (J_st (R_move rfl) rfl (J_st (R_loadS st50 rfl h1.at rfl) rfl ?_))
      refine J_buildSlice (vs := [.agg (Enc.enc x).toArray]) (css := [[.int .i64 x.op, .int .i64 x.epoch, .int .i64 x.key, .int .i64 x.val]]) sl28 rfl rfl ⟨⟨rfl, rfl⟩, trivial⟩ rfl rfl (fun b2 w8 e6 s2 h2 => ?_)
      replace h2 : Blk w8 b2 [.int .i64 x.op, .int .i64 x.epoch, .int .i64 x.key, .int .i64 x.val] := h2
      have g_b2 : w.heap.size ≤ b2 := by have := E.size; omega
      have y_b2 := h2.lt
      replace E := E.trans e6; replace h1 := h1.ext e6; replace ho1 := ho1.ext e6
      have z8 := e6.size
      refine J_callR Try.call72 rfl (by rfl) (c_InsertCell v1 w1.heap.size w2.heap.size xs k b2 x _ ho1 h2 (by omega) (by omega) (by omega) (by omega) (by omega)) rfl (fun v2 w9 e7 ho2 => ?_)
      replace E := E.stepR e7 (by omega); replace h1 := h1.modR e7 (by omega); replace h2 := h2.modR e7 (by omega)
      have z9 := e7.size
      refine J_st (R_assign rfl) rfl (J_done ?_)
      refine S_ret (E_done1 rfl rfl E ?_)
      exact Own.fin ho2 (by omega) (by omega) (by rw [putM_no hc1 hI hk hc2])

set_option maxHeartbeats 4000000 in
set_option maxRecDepth 20000 in
theorem s_PutCell (vxs : Value) (xs : List Cell) (x : Cell) (w : World) (hxs : RdS w vxs xs) (hb : xs.length ≤ 4194304) : Ct Try.prog 57 [vxs, .agg (Enc.enc x).toArray] w (fun v w' => Own w' w.heap.size w'.heap.size 4 v (List.flatMap (Enc.enc (α := Cell)) (putM xs x))) := by
  refine ct_of Try.func57 rfl Try.ntmps57 rfl ?_
  refine S_sub [(0, vxs), (1, .agg (Enc.enc x).toArray)] ⟨rfl, rfl, trivial⟩ ?_
  have E : Ext w w := Ext.refl w
  refine S_seq ?_
  refine S_reg [false, true] rfl rfl ?_
  refine J_box rfl rfl (fun b1 w1 e1 s1 h1 => ?_)
  have g_b1 : w.heap.size ≤ b1 := by have := E.size; omega
  have y_b1 := h1.lt
  replace E := E.trans e1
  have z1 := e1.size
  refine J_st (R_assign rfl) rfl (J_done ?_)
  refine S_seq ?_
  refine S_seq ?_
  refine S_reg [true, true, false] rfl rfl ?_
  refine J_st (R_move rfl) rfl (J_st (R_loadS st50 rfl h1.at rfl) rfl ?_)
  refine J_call Try.call56 rfl (s_HasCell vxs xs x _ (hxs.ext E)) rfl (fun _ w2 e2 hv => ?_)
  subst hv
  replace E := E.trans e2; replace h1 := h1.ext e2
  have z2 := e2.size
  refine J_done ?_
  refine S_cond rfl (fun hc1 => ?_) (fun hc1 => ?_)
  · refine S_seq ?_
    refine S_reg [false, true, false, true] rfl rfl ?_
    refine J_buildSlice (vs := []) (css := []) sl28 rfl rfl trivial rfl rfl (fun b2 w3 e3 s2 h2 => ?_)
    replace h2 : Blk w3 b2 [] := h2
    have g_b2 : w.heap.size ≤ b2 := by have := E.size; omega
    have y_b2 := h2.lt
    replace E := E.trans e3; replace h1 := h1.ext e3
    have z3 := e3.size
    refine J_st (R_move rfl) rfl ?_
    refine J_append sl28 rfl rfl (Own.ofBlk (lo := b2) (hi := b2 + 1) (sz := 4) h2 (Nat.le_refl _) (Nat.lt_succ_self _) (by simp) (by simp [maxLen])) (RdS.src (hxs.ext E)) (flat_one _) (by simp only [sum_flat, List.length_nil, List.length_append, List.length_take, List.length_drop, List.length_cons]; simp only [Enc.sz]; omega) (by decide) (by omega) (by omega) rfl rfl (fun v1 w4 m1 ho1 => ?_)
    replace E := E.step m1 (fun g hg => by have := Own.blk (Own.ofBlk (lo := b2) (hi := b2 + 1) (sz := 4) h2 (Nat.le_refl _) (Nat.lt_succ_self _) (by simp) (by simp [maxLen])) g hg; omega); replace h1 := h1.mod m1 (fun g hg => by have := Own.blk (Own.ofBlk (lo := b2) (hi := b2 + 1) (sz := 4) h2 (Nat.le_refl _) (Nat.lt_succ_self _) (by simp) (by simp [maxLen])) g hg; omega)
    have z4 := m1.size
    refine J_st (R_assign rfl) rfl (J_done ?_)
    refine S_ret (E_done1 rfl rfl E ?_)
    exact Own.fin ho1 (by omega) (by omega) (by simp only [putM_yes hc1, List.nil_append])
  · refine S_skip ?_
    refine S_seq ?_
    refine S_reg [true] rfl rfl ?_
    refine J_st (R_assign rfl) rfl (J_done ?_)
    refine S_seq ?_
    refine S_block ?_
    refine S_loop (fun (k : Nat) => [(0, vxs), (3, .pointer (some ⟨b1, 0, none⟩)), (4, .slice none 0 0), (5, .int .i64 ((k : Nat) : Int))]) (fun (k : Nat) w' => Ext w w' ∧ w2.heap.size ≤ w'.heap.size ∧ Blk w' b1 (Enc.enc x) ∧ k ≤ xs.length ∧ (xs.take k).all (putLt x) = true) (fun (k : Nat) => xs.length - k) 0 ⟨rfl, rfl, rfl, rfl, trivial⟩ ⟨E, Nat.le_refl _, h1, Nat.zero_le _, rfl⟩ ?_
    clear E h1
    rintro k w5 ⟨E, z5, h1, hk, hI⟩
    refine S_seq ?_
    refine S_seq ?_
    refine S_regD mixed [(0, true), (1, true), (2, true), (3, true), (4, true), (5, true), (6, true), (7, true), (8, true), (9, true), (10, false), (11, true), (12, true)] (by decide +kernel) rfl (fun w6 e4 => ?_)
    replace E := E.trans e4; replace h1 := h1.ext e4
    have z6 := e4.size
    refine J_st (R_move rfl) rfl (J_st (R_move rfl) rfl (J_st (R_len Try.underlying28 rfl (hxs.ext E).len) rfl (J_st (R_lss rfl rfl) rfl (J_st (R_move rfl) rfl ?_))))
    refine J_cut 8 [(0, vxs), (3, .pointer (some ⟨b1, 0, none⟩)), (4, .slice none 0 0), (5, .int .i64 ((k : Nat) : Int)), (25, .bool ((decide (((k : Nat) : Int) < ((xs.length : Nat) : Int))) && (decide ((cellOrd (List.getD xs k default) x) < 0))))] (fun w' => Ext w w' ∧ w6.heap.size ≤ w'.heap.size ∧ Blk w' b1 (Enc.enc x)) ?_ ?_
    · refine J_if (gd := 17) rfl rfl (fun hg1 => ?_) (fun hg1 => ?_)
      · have hg1n : k < xs.length := by first | (have h := of_decide_eq_true hg1; omega) | (have h := hg1; simp at h; omega)
        refine J_gd rfl rfl (R_move rfl) rfl (J_gd rfl rfl (R_move rfl) rfl (J_gd rfl rfl (R_index (i := k) sl28 rfl rfl (hxs.ext E) (by first | assumption | omega)) rfl (J_gd rfl rfl (R_loadS st50 rfl (RdS.getD (hxs.ext E) (i := k) (by first | assumption | omega)) rfl) rfl (J_gd rfl rfl (R_loadS st50 rfl h1.at rfl) rfl ?_))))
        refine J_ung rfl rfl ?_
        refine J_call Try.call68 rfl (s_CellOrder (List.getD xs k default) x _ ) rfl (fun _ w8 e5 hv => ?_)
        subst hv
        replace E := E.trans e5; replace h1 := h1.ext e5
        have z7 := e5.size
        refine J_gd rfl rfl (R_lss rfl rfl) rfl (J_st (R_pickT rfl rfl) rfl (J_cutEnd ⟨rfl, rfl, rfl, rfl, congrArg (fun b => some (Value.bool b)) (show (decide ((cellOrd (List.getD xs k default) x) < 0)) = ((decide (((k : Nat) : Int) < ((xs.length : Nat) : Int))) && (decide ((cellOrd (List.getD xs k default) x) < 0))) by first | (rw [hg1] <;> rfl) | (simp [hg1]; done) | (simp only [nat_nlt] <;> simp)), trivial⟩ ⟨E, (by omega), h1⟩))
      · have hg1n : ¬ k < xs.length := by first | (have h := of_decide_eq_false hg1; omega) | (have h := hg1; simp at h; omega)
        refine J_gdno rfl rfl rfl rfl (J_gdno rfl rfl rfl rfl (J_gdno rfl rfl rfl rfl (J_gdno rfl rfl rfl rfl (J_gdno rfl rfl rfl rfl ?_))))
        refine J_ungno rfl rfl rfl rfl ?_
        refine J_gdno rfl rfl rfl rfl (J_st (R_pickF rfl rfl) rfl (J_cutEnd ⟨rfl, rfl, rfl, rfl, congrArg (fun b => some (Value.bool b)) (show false = ((decide (((k : Nat) : Int) < ((xs.length : Nat) : Int))) && (decide ((cellOrd (List.getD xs k default) x) < 0))) by first | (rw [hg1] <;> rfl) | (simp [hg1]; done) | (simp only [nat_nlt] <;> simp)), trivial⟩ ⟨E, (by omega), h1⟩))
    clear E h1
    rintro w7 ⟨E, z8, h1⟩
    refine J_done ?_
    refine S_cond rfl (fun hc2 => ?_) (fun hc2 => ?_)
    · have hlt := put_lt hc2
      refine S_skip ?_
      refine S_block ?_
      refine S_reg [true, true, true] rfl rfl ?_
      refine J_st (R_move rfl) rfl (J_st (R_add rfl rfl (add_nat (by unfold maxLen; omega))) rfl (J_st (R_assign rfl) rfl (J_done ?_)))
      refine S_nil (E_inB ?_)
      refine S_nil (E_again (k + 1) (by omega) ⟨rfl, rfl, rfl, rfl, trivial⟩ ⟨E, (by omega), h1, (by omega), (put_step hI hc2)⟩)
    · refine S_exit (E_lp_exit (E_inB_exit ?_))
      refine S_seq ?_
      have hk1 : k ≤ xs.length := by first | assumption | omega
      have hs1 : RdS (α := Cell) w (slTo vxs k) (List.take k xs) := RdL.slTo hxs hk1
      refine S_regF mixed [7] 6 34 [33] [(1, true), (2, true), (3, true), (5, true)] [(0, false), (4, false)] [(7, false), (8, true)] (fun b => .slice (some ⟨b, 0, none⟩) 1 1) (z := [.int .i64 x.op, .int .i64 x.epoch, .int .i64 x.key, .int .i64 x.val]) (by decide +kernel) rfl rfl rfl rfl rfl rfl rfl [(0, vxs), (3, .pointer (some ⟨b1, 0, none⟩)), (4, .slice none 0 0), (5, .int .i64 ((k : Nat) : Int)), (25, .bool ((decide (((k : Nat) : Int) < ((xs.length : Nat) : Int))) && (decide ((cellOrd (List.getD xs k default) x) < 0)))), (29, vxs), (30, .int .i64 ((k : Nat) : Int)), (31, slTo vxs k), (33, .agg (Enc.enc x).toArray)] [(33, .agg (Enc.enc x).toArray)] rfl ⟨rfl, trivial⟩ (fun w' => Ext w w' ∧ w7.heap.size ≤ w'.heap.size ∧ Blk w' b1 (Enc.enc x)) (float_lit1 sl28 rfl rfl rfl rfl) (fun w9 e6 => ?_) (fun w9 hphi_w9 => ?_)
      · replace E := E.trans e6; replace h1 := h1.ext e6
        have z9 := e6.size
        refine J_st (R_move rfl) rfl (J_st (R_move rfl) rfl ?_)
        refine J_st (R_sliceTo sl28 rfl rfl (RdL.room (hxs.ext E)) hk1) rfl (J_st (R_loadS st50 rfl h1.at rfl) rfl (J_cutEnd ⟨rfl, rfl, rfl, rfl, rfl, rfl, rfl, rfl, rfl, trivial⟩ ⟨E, (by omega), h1⟩))
      clear E h1
      obtain ⟨E, z10, h1⟩ := hphi_w9
      refine JI_un rfl (fun w10 e7 => ?_) rfl
      replace E := E.trans e7; replace h1 := h1.ext e7
      have z11 := e7.size
      refine J_buildSlice (vs := []) (css := []) sl28 rfl rfl trivial rfl rfl (fun b3 w11 e8 s3 h3 => ?_)
      replace h3 : Blk w11 b3 [] := h3
      have g_b3 : w.heap.size ≤ b3 := by have := E.size; omega
      have y_b3 := h3.lt
      replace E := E.trans e8; replace h1 := h1.ext e8
      have z12 := e8.size
      refine JI_go2 ?_
      refine JI_un rfl (fun w12 e9 => ?_) rfl
      replace E := E.trans e9; replace h1 := h1.ext e9; replace h3 := h3.ext e9
      have z13 := e9.size
      refine J_appendD sl28 rfl rfl (Own.ofBlk (lo := b3) (hi := b3 + 1) (sz := 4) h3 (Nat.le_refl _) (Nat.lt_succ_self _) (by simp) (by simp [maxLen])) ⟨_, _, rfl⟩ (RdS.src (hs1.ext E)) (flat_one _) (by simp only [sum_flat, List.length_nil, List.length_append, List.length_take, List.length_drop, List.length_cons]; simp only [Enc.sz]; omega) (by decide) (by omega) (by omega) rfl (fun v2 w13 e10 ho2 hb_ho2 => ?_)
      replace E := E.trans e10; replace h1 := h1.ext e10
      have z14 := e10.size
      have g_ho2 : w.heap.size ≤ b3 := by have := E.size; omega
      have hn1 : ∀ g, Value.ownBlock v2 = some g → g = b3 ∨ w12.heap.size ≤ g := fun g hg => (hb_ho2 g hg).elim (fun h => .inl (by cases h; rfl)) (fun h => .inr h)
      replace ho2 : Own w13 b3 w13.heap.size 4 v2 (List.flatMap (Enc.enc (α := Cell)) (List.take k xs)) := ho2
      refine JI_go2 ?_
      refine JI_end rfl (fun b4 w14 e11 g1 y1 h4 hI1 => ?_)
      have hI1_0 : b4 < w10.heap.size ∨ w11.heap.size ≤ b4 := hI1 (_, _) (by simp)
      have hI1_1 : b4 < w12.heap.size ∨ w13.heap.size ≤ b4 := hI1 (_, _) (by simp)
      replace E := E.trans e11; replace h1 := h1.ext e11; replace ho2 := ho2.ext e11
      have z15 := e11.size
      have g_b4 : w.heap.size ≤ b4 := by have := E.size; omega
      have y_b4 := h4.lt
      refine J2_sub [(0, vxs), (3, .pointer (some ⟨b1, 0, none⟩)), (4, .slice none 0 0), (5, .int .i64 ((k : Nat) : Int)), (25, .bool ((decide (((k : Nat) : Int) < ((xs.length : Nat) : Int))) && (decide ((cellOrd (List.getD xs k default) x) < 0)))), (28, .slice (some ⟨b3, 0, none⟩) 0 0), (29, vxs), (30, .int .i64 ((k : Nat) : Int)), (31, slTo vxs k), (32, v2), (33, .agg (Enc.enc x).toArray), (34, .slice (some ⟨b4, 0, none⟩) 1 1)] ⟨rfl, rfl, rfl, rfl, rfl, rfl, rfl, rfl, rfl, rfl, rfl, rfl, trivial⟩ ?_
      refine J2_X rfl ?_
      refine J_appendB sl28 rfl rfl ho2 (Src.ofBlk h4 rfl) rfl (by simp only [sum_flat, List.length_nil, List.length_append, List.length_take, List.length_drop, List.length_cons]; simp only [Enc.sz]; omega) (by decide) (by omega) (by omega) rfl rfl (fun v3 w15 m2 ho3 hb1 => ?_)
      have hn2 : ∀ g, Value.ownBlock v3 = some g → g = b3 ∨ w12.heap.size ≤ g := fun g hg => (hb1 g hg).elim (fun h => hn1 g h) (fun h => by omega)
      replace E := E.step m2 (fun g hg => by have := Own.blk ho2 g hg; have := hn1 g hg; omega); replace h1 := h1.mod m2 (fun g hg => by have := Own.blk ho2 g hg; have := hn1 g hg; omega)
      have z16 := m2.size
      refine JX_go ?_
      refine J_st (R_assign rfl) rfl (J_done ?_)
      refine S_seq ?_
      refine S_reg [true, true, true, true, false, true] rfl rfl ?_
      refine J_st (R_move rfl) rfl (J_st (R_move rfl) rfl (J_st (R_move rfl) rfl ?_))
      have hk2 : k ≤ xs.length := by first | assumption | omega
      have hs2 : RdS (α := Cell) w (slFrom vxs k 4) (List.drop k xs) := RdL.slFrom hxs hk2
      refine J_st (R_sliceFrom sl28 rfl rfl (RdL.room (hxs.ext E)) hk2) rfl ?_
      refine J_appendB sl28 rfl rfl ho3 (RdS.src (hs2.ext E)) (flat_one _) (by simp only [sum_flat, List.length_nil, List.length_append, List.length_take, List.length_drop, List.length_cons]; simp only [Enc.sz]; omega) (by decide) (by omega) (by omega) rfl rfl (fun v4 w16 m3 ho4 hb2 => ?_)
      have hn3 : ∀ g, Value.ownBlock v4 = some g → g = b3 ∨ w12.heap.size ≤ g := fun g hg => (hb2 g hg).elim (fun h => hn2 g h) (fun h => by omega)
      replace E := E.step m3 (fun g hg => by have := Own.blk ho3 g hg; have := hn2 g hg; omega); replace h1 := h1.mod m3 (fun g hg => by have := Own.blk ho3 g hg; have := hn2 g hg; omega)
      have z17 := m3.size
      refine J_st (R_assign rfl) rfl (J_done ?_)
      refine S_ret (E_done1 rfl rfl E ?_)
      exact Own.fin ho4 (by omega) (by omega) (by rw [putM_no hc1 hI hk hc2, insM_flat]; rfl)

set_option maxRecDepth 20000 in
theorem c_better1 (y : Cell) (bx : Nat) (x : Cell) (w : World) (hx : At w bx 0 [.int .i64 x.op, .int .i64 x.epoch, .int .i64 x.key, .int .i64 x.val]) : Ct Try.prog 64 [.agg (Enc.enc y).toArray, .pointer (some ⟨bx, 0, none⟩)] w (fun v _ => v = .bool (slot x y)) := by
  refine ct_of Try.func64 rfl Try.ntmps64 rfl ?_
  refine S_sub [(0, .agg (Enc.enc y).toArray), (1, .pointer (some ⟨bx, 0, none⟩))] ⟨rfl, rfl, trivial⟩ ?_
  have E : Ext w w := Ext.refl w
  refine S_seq ?_
  refine S_reg [false, true] rfl rfl ?_
  refine J_box rfl rfl (fun b1 w1 e1 s1 h1 => ?_)
  have g_b1 : w.heap.size ≤ b1 := by have := E.size; omega
  have y_b1 := h1.lt
  replace E := E.trans e1
  have z1 := e1.size
  refine J_st (R_assign rfl) rfl (J_done ?_)
  refine S_seq ?_
  refine S_reg [true, true, false, true] rfl rfl ?_
  refine J_st (R_loadS st50 rfl (hx.ext E) rfl) rfl (J_st (R_loadS st50 rfl h1.at rfl) rfl ?_)
  refine J_call Try.call65 rfl (c_sameSlot x y _ ) rfl (fun _ w2 e2 hv => ?_)
  subst hv
  replace E := E.trans e2; replace h1 := h1.ext e2
  have z2 := e2.size
  refine J_st (R_assign rfl) rfl (J_done ?_)
  refine S_ret (E_done1 rfl rfl E ?_)
  rfl

set_option maxRecDepth 20000 in
theorem c_better (vxs : Value) (xs : List Cell) (x : Cell) (w : World) (hxs : RdS w vxs xs) (hb : xs.length ≤ 4194304) : Ct Try.prog 49 [vxs, .agg (Enc.enc x).toArray] w (fun v w' => ∃ u0, v = .tuple [u0, .bool ((betterM xs x).2)].toArray ∧ Own w' w.heap.size w'.heap.size 4 u0 (List.flatMap (Enc.enc (α := Cell)) ((betterM xs x).1))) := by
  refine ct_of Try.func49 rfl Try.ntmps49 rfl ?_
  refine S_sub [(0, vxs), (1, .agg (Enc.enc x).toArray)] ⟨rfl, rfl, trivial⟩ ?_
  have E : Ext w w := Ext.refl w
  refine S_seq ?_
  refine S_reg [false, true, true] rfl rfl ?_
  refine J_box rfl rfl (fun b1 w1 e1 s1 h1 => ?_)
  have g_b1 : w.heap.size ≤ b1 := by have := E.size; omega
  have y_b1 := h1.lt
  replace E := E.trans e1
  have z1 := e1.size
  refine J_st (R_assign rfl) rfl (J_st (R_assign rfl) rfl (J_done ?_))
  refine S_seq ?_
  refine S_seq ?_
  refine S_reg [true, true, true, true, true, true, true, false, true, true, true, true, true] rfl rfl ?_
  refine J_st (R_move rfl) rfl (J_st (R_fieldAddr0 fl50_0 rfl) rfl (J_st (R_load sc3 rfl (h1.one 0 rfl)) rfl (J_st (R_fieldAddr0 fl50_1 rfl) rfl (J_st (R_load sc3 rfl (h1.one 1 rfl)) rfl (J_st (R_fieldAddr0 fl50_2 rfl) rfl (J_st (R_load sc3 rfl (h1.one 2 rfl)) rfl ?_))))))
  refine J_call Try.call62 rfl (c_LeastOf vxs xs x.op x.epoch x.key _ (hxs.ext E)) rfl (fun _ w2 e2 hv => ?_)
  subst hv
  replace E := E.trans e2; replace h1 := h1.ext e2
  have z2 := e2.size
  refine J_st (R_move rfl) rfl (J_st (R_extract rfl rfl) rfl (J_st (R_extract rfl rfl) rfl (J_st (R_assign rfl) rfl (J_st (R_assign rfl) rfl (J_done ?_)))))
  refine S_seq ?_
  refine S_reg [true, true, true, true, true, true, true] rfl rfl ?_
  refine J_st (R_move rfl) rfl (J_st (R_move rfl) rfl ?_)
  refine J_cut 5 [(0, vxs), (1, .agg (Enc.enc x).toArray), (3, .pointer (some ⟨b1, 0, none⟩)), (4, .slice none 0 0), (5, .bool false), (6, .int .i64 ((leastM xs x.op x.epoch x.key).1)), (7, .bool ((leastM xs x.op x.epoch x.key).2)), (9, .tuple [.int .i64 ((leastM xs x.op x.epoch x.key).1), .bool ((leastM xs x.op x.epoch x.key).2)].toArray), (10, vxs), (11, .pointer (some ⟨b1, 0, none⟩)), (12, .int .i64 x.op), (13, .pointer (some ⟨b1, 1, none⟩)), (14, .int .i64 x.epoch), (15, .pointer (some ⟨b1, 2, none⟩)), (16, .int .i64 x.key), (17, .tuple [.int .i64 ((leastM xs x.op x.epoch x.key).1), .bool ((leastM xs x.op x.epoch x.key).2)].toArray), (18, .int .i64 ((leastM xs x.op x.epoch x.key).1)), (19, .bool ((leastM xs x.op x.epoch x.key).2)), (26, .bool (((leastM xs x.op x.epoch x.key).2) && (decide (((leastM xs x.op x.epoch x.key).1) ≤ x.val))))] (fun w' => w2 = w') ?_ ?_
  · refine J_if (gd := 21) rfl rfl (fun hg1 => ?_) (fun hg1 => ?_)
    · refine J_gd rfl rfl (R_move rfl) rfl (J_gd rfl rfl (R_fieldAddr0 fl50_3 rfl) rfl (J_gd rfl rfl (R_load sc3 rfl (h1.one 3 rfl)) rfl (J_gd rfl rfl (R_leq rfl rfl) rfl (J_st (R_pickT rfl rfl) rfl (J_cutEnd ⟨rfl, rfl, rfl, rfl, rfl, rfl, rfl, rfl, rfl, rfl, rfl, rfl, rfl, rfl, rfl, rfl, rfl, rfl, congrArg (fun b => some (Value.bool b)) (show (decide (((leastM xs x.op x.epoch x.key).1) ≤ x.val)) = (((leastM xs x.op x.epoch x.key).2) && (decide (((leastM xs x.op x.epoch x.key).1) ≤ x.val))) by first | (rw [hg1] <;> rfl) | (simp [hg1]; done) | (simp only [nat_nlt] <;> simp)), trivial⟩ rfl)))))
    · refine J_gdno rfl rfl rfl rfl (J_gdno rfl rfl rfl rfl (J_gdno rfl rfl rfl rfl (J_gdno rfl rfl rfl rfl (J_st (R_pickF rfl rfl) rfl (J_cutEnd ⟨rfl, rfl, rfl, rfl, rfl, rfl, rfl, rfl, rfl, rfl, rfl, rfl, rfl, rfl, rfl, rfl, rfl, rfl, congrArg (fun b => some (Value.bool b)) (show false = (((leastM xs x.op x.epoch x.key).2) && (decide (((leastM xs x.op x.epoch x.key).1) ≤ x.val))) by first | (rw [hg1] <;> rfl) | (simp [hg1]; done) | (simp only [nat_nlt] <;> simp)), trivial⟩ rfl)))))
  rintro _ rfl
  refine J_done ?_
  refine S_cond rfl (fun hc1 => ?_) (fun hc1 => ?_)
  · refine S_seq ?_
    refine S_reg [true, false, true, true] rfl rfl ?_
    refine J_st (R_move rfl) rfl ?_
    refine J_call Try.call48 rfl (c_copyCells vxs xs _ (hxs.ext E) (by first | omega | (simp only [mkL_length]; omega) | (rw [mkL_length]; done) | (simp only [mkL_length]; done))) rfl (fun v1 w4 e3 ho1 => ?_)
    have g_ho1 : w.heap.size ≤ w2.heap.size := E.size
    replace E := E.trans e3; replace h1 := h1.ext e3
    have z3 := e3.size
    refine J_st (R_assign rfl) rfl (J_st (R_assign rfl) rfl (J_done ?_))
    refine S_ret (E_doneN (l := [.tmp 4, .tmp 5]) (vs := [v1, .bool false]) rfl ⟨.tmp rfl, .tmp rfl, trivial⟩ rfl E ?_)
    rw [betterM_yes hc1]
    exact ⟨_, rfl, Own.fin ho1 (by omega) (by omega) rfl⟩
  · refine S_skip ?_
    refine S_seq ?_
    refine S_reg [true, false, true, false, true] rfl rfl ?_
    refine J_st (R_move rfl) rfl ?_
    refine J_call Try.call48 rfl (c_copyCells vxs xs _ (hxs.ext E) (by first | omega | (simp only [mkL_length]; omega) | (rw [mkL_length]; done) | (simp only [mkL_length]; done))) rfl (fun v2 w5 e4 ho2 => ?_)
    have g_ho2 : w.heap.size ≤ w2.heap.size := E.size
    replace E := E.trans e4; replace h1 := h1.ext e4
    have z4 := e4.size
    refine J_st (R_makeFunc rfl rfl) rfl ?_
    refine J_callR Try.call63 rfl (by rfl) (c_DeleteFuncCell v2 w2.heap.size w5.heap.size xs (.func (.func 64) [].toArray [.pointer (some ⟨b1, 0, none⟩)].toArray) ((fun (y : Cell) => slot x y)) _ ho2 ⟨64, [], [.pointer (some ⟨b1, 0, none⟩)], rfl, Try.call64, fun y wX eX => c_better1 y b1 x wX (At.modR (Blk.at h1) eX (by omega))⟩ (by omega)) rfl (fun v3 w6 e5 ho3 => ?_)
    replace E := E.stepR e5 (by omega); replace h1 := h1.modR e5 (by omega)
    have z5 := e5.size
    refine J_st (R_assign rfl) rfl (J_done ?_)
    refine S_seq ?_
    refine S_reg [true, true, false, true, true] rfl rfl ?_
    refine J_st (R_move rfl) rfl (J_st (R_loadS st50 rfl h1.at rfl) rfl ?_)
    refine J_call Try.call66 rfl (c_PutCell v3 (List.filter (fun y => !((fun (y : Cell) => slot x y) y)) xs) x _ (Own.rd (by decide) ho3) (Nat.le_trans (List.length_filter_le _ _) (by omega))) rfl (fun v4 w7 e6 ho4 => ?_)
    have g_ho4 : w.heap.size ≤ w6.heap.size := E.size
    replace E := E.trans e6; replace h1 := h1.ext e6; replace ho3 := ho3.ext e6
    have z6 := e6.size
    refine J_st (R_assign rfl) rfl (J_st (R_assign rfl) rfl (J_done ?_))
    refine S_ret (E_doneN (l := [.tmp 4, .tmp 5]) (vs := [v4, .bool true]) rfl ⟨.tmp rfl, .tmp rfl, trivial⟩ rfl E ?_)
    rw [betterM_no hc1]
    exact ⟨_, rfl, Own.fin ho4 (by omega) (by omega) rfl⟩

set_option maxHeartbeats 4000000 in
set_option maxRecDepth 20000 in
theorem s_Recall (kind : Int) (vxs : Value) (xs : List Cell) (x : Cell) (w : World) (hxs : RdS w vxs xs) (hb : xs.length ≤ 4194304) : Ct Try.prog 39 [.int .i64 kind, vxs, .agg (Enc.enc x).toArray] w (fun v w' => ∃ u0, v = .tuple [u0, .bool ((recallM kind xs x).2)].toArray ∧ Own w' w.heap.size w'.heap.size 4 u0 (List.flatMap (Enc.enc (α := Cell)) ((recallM kind xs x).1))) := by
  refine ct_of Try.func39 rfl Try.ntmps39 rfl ?_
  refine S_sub [(0, .int .i64 kind), (1, vxs), (2, .agg (Enc.enc x).toArray)] ⟨rfl, rfl, rfl, trivial⟩ ?_
  have E : Ext w w := Ext.refl w
  refine S_seq ?_
  refine S_reg [false, true, true] rfl rfl ?_
  refine J_box rfl rfl (fun b1 w1 e1 s1 h1 => ?_)
  have g_b1 : w.heap.size ≤ b1 := by have := E.size; omega
  have y_b1 := h1.lt
  replace E := E.trans e1
  have z1 := e1.size
  refine J_st (R_assign rfl) rfl (J_st (R_assign rfl) rfl (J_done ?_))
  refine S_seq ?_
  refine S_reg [false, true, false, true] rfl rfl ?_
  refine J_buildSlice (vs := []) (css := []) sl28 rfl rfl trivial rfl rfl (fun b2 w2 e2 s2 h2 => ?_)
  replace h2 : Blk w2 b2 [] := h2
  have g_b2 : w.heap.size ≤ b2 := by have := E.size; omega
  have y_b2 := h2.lt
  replace E := E.trans e2; replace h1 := h1.ext e2
  have z2 := e2.size
  refine J_st (R_move rfl) rfl ?_
  refine J_append sl28 rfl rfl (Own.ofBlk (lo := b2) (hi := b2 + 1) (sz := 4) h2 (Nat.le_refl _) (Nat.lt_succ_self _) (by simp) (by simp [maxLen])) (RdS.src (hxs.ext E)) (flat_one _) (by first | (simp only [sum_flat, List.length_nil, List.length_cons]; simp only [Enc.sz]; omega) | (have h := filt_len xs (fun y => !(slot x y)) k; simp only [show Enc.sz Cell = 4 from rfl] at h; simp only [List.length_cons, List.length_nil]; omega)) (by decide) (by omega) (by omega) rfl rfl (fun v1 w3 m1 ho1 => ?_)
  replace E := E.step m1 (fun g hg => by have := Own.blk (Own.ofBlk (lo := b2) (hi := b2 + 1) (sz := 4) h2 (Nat.le_refl _) (Nat.lt_succ_self _) (by simp) (by simp [maxLen])) g hg; omega); replace h1 := h1.mod m1 (fun g hg => by have := Own.blk (Own.ofBlk (lo := b2) (hi := b2 + 1) (sz := 4) h2 (Nat.le_refl _) (Nat.lt_succ_self _) (by simp) (by simp [maxLen])) g hg; omega)
  have z3 := m1.size
  refine J_st (R_assign rfl) rfl (J_done ?_)
  refine S_seq ?_
  refine S_seq ?_
  refine S_reg [true] rfl rfl ?_
  refine J_st (R_move rfl) rfl (J_done ?_)
  refine S_block ?_
  refine S_seq ?_
  refine S_reg [true, true] rfl rfl ?_
  refine J_st (R_eql rfl rfl) rfl (J_st (R_assign rfl) rfl (J_done ?_))
  refine S_cond rfl (fun hc1 => ?_) (fun hc1 => ?_)
  · refine S_seq ?_
    refine S_seq ?_
    refine S_reg [true, true, false] rfl rfl ?_
    refine J_st (R_move rfl) rfl (J_st (R_loadS st50 rfl h1.at rfl) rfl ?_)
    refine J_call Try.call56 rfl (s_HasCell vxs xs x _ (hxs.ext E)) rfl (fun _ w4 e3 hv => ?_)
    subst hv
    replace E := E.trans e3; replace h1 := h1.ext e3; replace ho1 := ho1.ext e3
    have z4 := e3.size
    refine J_done ?_
    refine S_cond rfl (fun hc2 => ?_) (fun hc2 => ?_)
    · refine S_seq ?_
      refine S_reg [true, true, true] rfl rfl ?_
      refine J_st (R_move rfl) rfl (J_st (R_assign rfl) rfl (J_st (R_assign rfl) rfl (J_done ?_)))
      refine S_ret (E_inB_ret (E_doneN (l := [.tmp 6, .tmp 7]) (vs := [v1, .bool false]) rfl ⟨.tmp rfl, .tmp rfl, trivial⟩ rfl E ?_))
      rw [recallM_h (by assumption) (by assumption)]
      exact ⟨_, rfl, Own.fin ho1 (by omega) (by omega) (by first | rfl | simp only [List.nil_append])⟩
    · refine S_skip ?_
      refine S_seq ?_
      refine S_reg [true, true, false, true, true] rfl rfl ?_
      refine J_st (R_move rfl) rfl (J_st (R_loadS st50 rfl h1.at rfl) rfl ?_)
      refine J_call Try.call57 rfl (s_PutCell vxs xs x _ (hxs.ext E) (by omega)) rfl (fun v2 w5 e4 ho2 => ?_)
      have g_ho2 : w.heap.size ≤ w4.heap.size := E.size
      replace E := E.trans e4; replace h1 := h1.ext e4; replace ho1 := ho1.ext e4
      have z5 := e4.size
      refine J_st (R_assign rfl) rfl (J_st (R_assign rfl) rfl (J_done ?_))
      refine S_ret (E_inB_ret (E_doneN (l := [.tmp 6, .tmp 7]) (vs := [v2, .bool true]) rfl ⟨.tmp rfl, .tmp rfl, trivial⟩ rfl E ?_))
      rw [recallM_i (by assumption) (by assumption)]
      exact ⟨_, rfl, Own.fin ho2 (by omega) (by omega) (by first | rfl | simp only [List.nil_append])⟩
  · refine S_seq ?_
    refine S_seq ?_
    refine S_reg [true, true] rfl rfl ?_
    refine J_st (R_eql rfl rfl) rfl (J_st (R_assign rfl) rfl (J_done ?_))
    refine S_cond rfl (fun hc3 => ?_) (fun hc3 => ?_)
    · refine S_skip ?_
      refine S_condTe rfl hc3 ?_
      refine S_seq ?_
      refine S_reg [true, true, true, true, true, true, true, false, true, true, true, true, true] rfl rfl ?_
      refine J_st (R_move rfl) rfl (J_st (R_fieldAddr0 fl50_0 rfl) rfl (J_st (R_load sc3 rfl (h1.one 0 rfl)) rfl (J_st (R_fieldAddr0 fl50_1 rfl) rfl (J_st (R_load sc3 rfl (h1.one 1 rfl)) rfl (J_st (R_fieldAddr0 fl50_2 rfl) rfl (J_st (R_load sc3 rfl (h1.one 2 rfl)) rfl ?_))))))
      refine J_call Try.call58 rfl (s_LeastOf vxs xs x.op x.epoch x.key _ (hxs.ext E)) rfl (fun _ w6 e5 hv => ?_)
      subst hv
      replace E := E.trans e5; replace h1 := h1.ext e5; replace ho1 := ho1.ext e5
      have z6 := e5.size
      refine J_st (R_move rfl) rfl (J_st (R_extract rfl rfl) rfl (J_st (R_extract rfl rfl) rfl (J_st (R_assign rfl) rfl (J_st (R_assign rfl) rfl (J_done ?_)))))
      refine S_seq ?_
      refine S_seq ?_
      refine S_reg [true, true, true, true, true, true, true] rfl rfl ?_
      refine J_st (R_move rfl) rfl (J_st (R_move rfl) rfl ?_)
      refine J_cut 5 [(0, .int .i64 kind), (1, vxs), (2, .agg (Enc.enc x).toArray), (5, .pointer (some ⟨b1, 0, none⟩)), (6, .slice none 0 0), (7, .bool false), (8, v1), (9, .int .i64 ((leastM xs x.op x.epoch x.key).1)), (10, .bool ((leastM xs x.op x.epoch x.key).2)), (13, .slice (some ⟨b2, 0, none⟩) 0 0), (14, vxs), (15, v1), (16, .int .i64 kind), (17, .bool (kind == 6)), (18, .bool (kind == 6)), (26, .bool (kind == 5)), (27, .bool (kind == 5)), (29, .tuple [.int .i64 ((leastM xs x.op x.epoch x.key).1), .bool ((leastM xs x.op x.epoch x.key).2)].toArray), (30, vxs), (31, .pointer (some ⟨b1, 0, none⟩)), (32, .int .i64 x.op), (33, .pointer (some ⟨b1, 1, none⟩)), (34, .int .i64 x.epoch), (35, .pointer (some ⟨b1, 2, none⟩)), (36, .int .i64 x.key), (37, .tuple [.int .i64 ((leastM xs x.op x.epoch x.key).1), .bool ((leastM xs x.op x.epoch x.key).2)].toArray), (38, .int .i64 ((leastM xs x.op x.epoch x.key).1)), (39, .bool ((leastM xs x.op x.epoch x.key).2)), (46, .bool (((leastM xs x.op x.epoch x.key).2) && (decide (((leastM xs x.op x.epoch x.key).1) ≤ x.val))))] (fun w' => w6 = w') ?_ ?_
      · refine J_if (gd := 41) rfl rfl (fun hg1 => ?_) (fun hg1 => ?_)
        · refine J_gd rfl rfl (R_move rfl) rfl (J_gd rfl rfl (R_fieldAddr0 fl50_3 rfl) rfl (J_gd rfl rfl (R_load sc3 rfl (h1.one 3 rfl)) rfl (J_gd rfl rfl (R_leq rfl rfl) rfl (J_st (R_pickT rfl rfl) rfl (J_cutEnd ⟨rfl, rfl, rfl, rfl, rfl, rfl, rfl, rfl, rfl, rfl, rfl, rfl, rfl, rfl, rfl, rfl, rfl, rfl, rfl, rfl, rfl, rfl, rfl, rfl, rfl, rfl, rfl, rfl, congrArg (fun b => some (Value.bool b)) (show (decide (((leastM xs x.op x.epoch x.key).1) ≤ x.val)) = (((leastM xs x.op x.epoch x.key).2) && (decide (((leastM xs x.op x.epoch x.key).1) ≤ x.val))) by first | (rw [hg1] <;> rfl) | (simp [hg1]; done) | (simp only [nat_nlt] <;> simp)), trivial⟩ rfl)))))
        · refine J_gdno rfl rfl rfl rfl (J_gdno rfl rfl rfl rfl (J_gdno rfl rfl rfl rfl (J_gdno rfl rfl rfl rfl (J_st (R_pickF rfl rfl) rfl (J_cutEnd ⟨rfl, rfl, rfl, rfl, rfl, rfl, rfl, rfl, rfl, rfl, rfl, rfl, rfl, rfl, rfl, rfl, rfl, rfl, rfl, rfl, rfl, rfl, rfl, rfl, rfl, rfl, rfl, rfl, congrArg (fun b => some (Value.bool b)) (show false = (((leastM xs x.op x.epoch x.key).2) && (decide (((leastM xs x.op x.epoch x.key).1) ≤ x.val))) by first | (rw [hg1] <;> rfl) | (simp [hg1]; done) | (simp only [nat_nlt] <;> simp)), trivial⟩ rfl)))))
      rintro _ rfl
      refine J_done ?_
      refine S_cond rfl (fun hc4 => ?_) (fun hc4 => ?_)
      · refine S_seq ?_
        refine S_reg [true, true, true] rfl rfl ?_
        refine J_st (R_move rfl) rfl (J_st (R_assign rfl) rfl (J_st (R_assign rfl) rfl (J_done ?_)))
        refine S_ret (E_inB_ret (E_doneN (l := [.tmp 6, .tmp 7]) (vs := [v1, .bool false]) rfl ⟨.tmp rfl, .tmp rfl, trivial⟩ rfl E ?_))
        rw [recallM_b (.inl (by assumption)), betterM_yes (by assumption)]
        exact ⟨_, rfl, Own.fin ho1 (by omega) (by omega) (by first | rfl | simp only [List.nil_append])⟩
      · refine S_skip ?_
        refine S_seq ?_
        refine S_reg [false, true] rfl rfl ?_
        refine J_buildSlice (vs := []) (css := []) sl28 rfl rfl trivial rfl rfl (fun b3 w8 e6 s3 h3 => ?_)
        replace h3 : Blk w8 b3 [] := h3
        have g_b3 : w.heap.size ≤ b3 := by have := E.size; omega
        have y_b3 := h3.lt
        replace E := E.trans e6; replace h1 := h1.ext e6; replace ho1 := ho1.ext e6
        have z7 := e6.size
        refine J_st (R_assign rfl) rfl (J_done ?_)
        refine S_seq ?_
        refine S_seq ?_
        refine S_reg [true] rfl rfl ?_
        refine J_st (R_assign rfl) rfl (J_done ?_)
        refine S_block ?_
        refine S_loop (fun (xq : Nat × Value) => let ⟨k, vo⟩ := xq; [(1, vxs), (5, .pointer (some ⟨b1, 0, none⟩)), (6, .slice none 0 0), (7, .bool false), (8, v1), (11, vo), (12, .int .i64 ((k : Nat) : Int))]) (fun (xq : Nat × Value) w' => let ⟨k, vo⟩ := xq; Ext w w' ∧ w8.heap.size ≤ w'.heap.size ∧ Blk w' b1 (Enc.enc x) ∧ Own w' b2 w3.heap.size 4 v1 ([] ++ List.flatMap (Enc.enc (α := Cell)) xs) ∧ k ≤ xs.length ∧ Own w' b3 w'.heap.size 4 vo (List.flatMap (Enc.enc (α := Cell)) ((xs.take k).filter (fun y => !(slot x y))))) (fun (xq : Nat × Value) => let ⟨k, vo⟩ := xq; xs.length - k) (0, .slice (some ⟨b3, 0, none⟩) 0 0) ⟨rfl, rfl, rfl, rfl, rfl, rfl, rfl, trivial⟩ ⟨E, Nat.le_refl _, h1, ho1, Nat.zero_le _, Own.fin (Own.ofBlk (lo := b3) (hi := b3 + 1) (sz := 4) h3 (Nat.le_refl _) (Nat.lt_succ_self _) (by simp) (by simp [maxLen])) (by have := E.size; omega) (by omega) rfl⟩ ?_
        clear E h1 ho1 h3
        rintro ⟨k, vo⟩ w9 ⟨E, z8, h1, ho1, hk, ho⟩
        refine S_sub [(1, vxs), (5, .pointer (some ⟨b1, 0, none⟩)), (6, .slice none 0 0), (7, .bool false), (8, v1), (11, vo), (12, .int .i64 ((k : Nat) : Int))] ⟨rfl, rfl, rfl, rfl, rfl, rfl, rfl, trivial⟩ ?_
        refine S_seq ?_
        refine S_seq ?_
        refine S_reg [true, true, true, true] rfl rfl ?_
        refine J_st (R_move rfl) rfl (J_st (R_move rfl) rfl (J_st (R_len Try.underlying28 rfl (hxs.ext E).len) rfl (J_st (R_lss rfl rfl) rfl (J_done ?_))))
        refine S_cond rfl (fun hc5 => ?_) (fun hc5 => ?_)
        · have hc5n : k < xs.length := by first | (have h := of_decide_eq_true hc5; omega) | (have h := hc5; simp at h; omega)
          refine S_skip ?_
          refine S_seq ?_
          refine S_block ?_
          refine S_seq ?_
          refine S_regD mixed [(0, true), (1, true), (2, true), (3, true), (4, true), (5, true), (6, true), (7, true), (8, true), (9, true), (10, true), (11, true), (12, true), (13, true), (14, true), (15, true), (16, true), (17, true), (18, true), (19, true), (20, true), (21, true), (22, true), (23, true), (24, true), (25, true), (26, true), (27, true)] (by decide +kernel) rfl (fun w10 e7 => ?_)
          replace E := E.trans e7; replace h1 := h1.ext e7; replace ho1 := ho1.ext e7; replace ho := ho.ext e7
          have z9 := e7.size
          refine J_st (R_move rfl) rfl (J_st (R_move rfl) rfl ?_)
          have hi1 : k < xs.length := (by first | assumption | omega)
          refine J_st (R_index (i := k) sl28 rfl rfl (hxs.ext E) hi1) rfl (J_st (R_fieldAddr fl50_0 rfl) rfl (J_st (R_load sc3 rfl (((hxs.ext E).get hi1).one 0 rfl)) rfl (J_st (R_fieldAddr0 fl50_0 rfl) rfl (J_st (R_load sc3 rfl (h1.one 0 rfl)) rfl (J_st (R_neq rfl rfl) rfl (J_st (R_move rfl) rfl ?_))))))
          refine J_cut 19 [(1, vxs), (5, .pointer (some ⟨b1, 0, none⟩)), (6, .slice none 0 0), (7, .bool false), (8, v1), (11, vo), (12, .int .i64 ((k : Nat) : Int)), (49, .int .i64 ((k : Nat) : Int)), (50, vxs), (51, .int .i64 ((xs.length : Nat) : Int)), (52, .bool (decide (((k : Nat) : Int) < ((xs.length : Nat) : Int)))), (82, .bool (((((xs[k]'hi1).op) != x.op) || (((xs[k]'hi1).epoch) != x.epoch)) || (((xs[k]'hi1).key) != x.key)))] (fun w' => w10 = w') ?_ ?_
          · refine J_if (gd := 63) rfl rfl (fun hg2 => ?_) (fun hg2 => ?_)
            · refine J_gdno rfl rfl rfl rfl (J_gdno rfl rfl rfl rfl (J_gdno rfl rfl rfl rfl (J_gdno rfl rfl rfl rfl (J_gdno rfl rfl rfl rfl (J_gdno rfl rfl rfl rfl (J_gdno rfl rfl rfl rfl (J_gdno rfl rfl rfl rfl (J_st (R_pickT rfl rfl) rfl (J_st (R_move rfl) rfl (J_gdno rfl rfl rfl rfl (J_gdno rfl rfl rfl rfl (J_gdno rfl rfl rfl rfl (J_gdno rfl rfl rfl rfl (J_gdno rfl rfl rfl rfl (J_gdno rfl rfl rfl rfl (J_gdno rfl rfl rfl rfl (J_gdno rfl rfl rfl rfl (J_st (R_pickT rfl rfl) rfl (J_cutEnd ⟨rfl, rfl, rfl, rfl, rfl, rfl, rfl, rfl, rfl, rfl, rfl, congrArg (fun b => some (Value.bool b)) (show true = (((((xs[k]'hi1).op) != x.op) || (((xs[k]'hi1).epoch) != x.epoch)) || (((xs[k]'hi1).key) != x.key)) by first | (rw [hg2] <;> rfl) | (simp [hg2]; done) | (simp only [nat_nlt] <;> simp)), trivial⟩ rfl)))))))))))))))))))
            · refine J_gd rfl rfl (R_move rfl) rfl (J_gd rfl rfl (R_move rfl) rfl (J_gd rfl rfl (R_index (i := k) sl28 rfl rfl (hxs.ext E) hi1) rfl (J_gd rfl rfl (R_fieldAddr fl50_1 rfl) rfl (J_gd rfl rfl (R_load sc3 rfl (((hxs.ext E).get hi1).one 1 rfl)) rfl (J_gd rfl rfl (R_fieldAddr0 fl50_1 rfl) rfl (J_gd rfl rfl (R_load sc3 rfl (h1.one 1 rfl)) rfl (J_gd rfl rfl (R_neq rfl rfl) rfl (J_st (R_pickF rfl rfl) rfl (J_st (R_move rfl) rfl ?_)))))))))
              refine J_if (gd := 73) rfl rfl (fun hg3 => ?_) (fun hg3 => ?_)
              · refine J_gdno rfl rfl rfl rfl (J_gdno rfl rfl rfl rfl (J_gdno rfl rfl rfl rfl (J_gdno rfl rfl rfl rfl (J_gdno rfl rfl rfl rfl (J_gdno rfl rfl rfl rfl (J_gdno rfl rfl rfl rfl (J_gdno rfl rfl rfl rfl (J_st (R_pickT rfl rfl) rfl (J_cutEnd ⟨rfl, rfl, rfl, rfl, rfl, rfl, rfl, rfl, rfl, rfl, rfl, congrArg (fun b => some (Value.bool b)) (show true = (((((xs[k]'hi1).op) != x.op) || (((xs[k]'hi1).epoch) != x.epoch)) || (((xs[k]'hi1).key) != x.key)) by first | (rw [hg2, hg3] <;> rfl) | (simp [hg2, hg3]; done) | (simp only [nat_nlt] <;> simp)), trivial⟩ rfl)))))))))
              · refine J_gd rfl rfl (R_move rfl) rfl (J_gd rfl rfl (R_move rfl) rfl (J_gd rfl rfl (R_index (i := k) sl28 rfl rfl (hxs.ext E) hi1) rfl (J_gd rfl rfl (R_fieldAddr fl50_2 rfl) rfl (J_gd rfl rfl (R_load sc3 rfl (((hxs.ext E).get hi1).one 2 rfl)) rfl (J_gd rfl rfl (R_fieldAddr0 fl50_2 rfl) rfl (J_gd rfl rfl (R_load sc3 rfl (h1.one 2 rfl)) rfl (J_gd rfl rfl (R_neq rfl rfl) rfl (J_st (R_pickF rfl rfl) rfl (J_cutEnd ⟨rfl, rfl, rfl, rfl, rfl, rfl, rfl, rfl, rfl, rfl, rfl, congrArg (fun b => some (Value.bool b)) (show (((xs[k]'hi1).key) != x.key) = (((((xs[k]'hi1).op) != x.op) || (((xs[k]'hi1).epoch) != x.epoch)) || (((xs[k]'hi1).key) != x.key)) by first | (rw [hg2, hg3] <;> rfl) | (simp [hg2, hg3]; done) | (simp only [nat_nlt] <;> simp)), trivial⟩ rfl)))))))))
          rintro _ rfl
          refine J_done ?_
          refine S_cond rfl (fun hc6 => ?_) (fun hc6 => ?_)
          · refine S_reg [true, true, true, true, true, false, false, true] rfl rfl ?_
            refine J_st (R_move rfl) rfl (J_st (R_move rfl) rfl (J_st (R_move rfl) rfl (J_st (R_index (i := k) sl28 rfl rfl (hxs.ext E) hi1) rfl (J_st (R_loadS st50 rfl ((hxs.ext E).get hi1) rfl) rfl ?_))))
            refine J_buildSlice (vs := [.agg (Enc.enc (xs[k]'hi1)).toArray]) (css := [[.int .i64 ((xs[k]'hi1).op), .int .i64 ((xs[k]'hi1).epoch), .int .i64 ((xs[k]'hi1).key), .int .i64 ((xs[k]'hi1).val)]]) sl28 rfl rfl ⟨⟨rfl, rfl⟩, trivial⟩ rfl rfl (fun b4 w12 e8 s4 h4 => ?_)
            replace h4 : Blk w12 b4 [.int .i64 ((xs[k]'hi1).op), .int .i64 ((xs[k]'hi1).epoch), .int .i64 ((xs[k]'hi1).key), .int .i64 ((xs[k]'hi1).val)] := h4
            have g_b4 : w.heap.size ≤ b4 := by have := E.size; omega
            have y_b4 := h4.lt
            replace E := E.trans e8; replace h1 := h1.ext e8; replace ho1 := ho1.ext e8; replace ho := ho.ext e8
            have z10 := e8.size
            refine J_append sl28 rfl rfl ho (Src.ofBlk h4 rfl) rfl (by first | (simp only [sum_flat, List.length_nil, List.length_cons]; simp only [Enc.sz]; omega) | (have h := filt_len xs (fun y => !(slot x y)) k; simp only [show Enc.sz Cell = 4 from rfl] at h; simp only [List.length_cons, List.length_nil]; omega)) (by decide) (by omega) (by omega) rfl rfl (fun v3 w13 m2 ho3 => ?_)
            replace E := E.step m2 (fun g hg => by have := Own.blk ho g hg; omega); replace h1 := h1.mod m2 (fun g hg => by have := Own.blk ho g hg; omega); replace ho1 := ho1.mod m2 (fun g hg => by have := Own.blk ho g hg; omega)
            have z11 := m2.size
            refine J_st (R_assign rfl) rfl (J_done ?_)
            refine S_nil (E_inB ?_)
            refine S_reg [true, true, true] rfl rfl ?_
            refine J_st (R_move rfl) rfl (J_st (R_add rfl rfl (add_one hc5n hxs.1)) rfl (J_st (R_assign rfl) rfl (J_done ?_)))
            refine S_nil (E_again (k + 1, v3) (by simp; omega) ⟨rfl, rfl, rfl, rfl, rfl, rfl, rfl, trivial⟩ ⟨E, (by omega), h1, ho1, (by omega), Own.fin ho3 (Nat.le_refl _) (by omega) (filt_yes (by assumption) (ns_yes (by assumption)))⟩)
          · refine S_skip ?_
            refine S_nil (E_inB ?_)
            refine S_reg [true, true, true] rfl rfl ?_
            refine J_st (R_move rfl) rfl (J_st (R_add rfl rfl (add_one hc5n hxs.1)) rfl (J_st (R_assign rfl) rfl (J_done ?_)))
            refine S_nil (E_again (k + 1, vo) (by simp; omega) ⟨rfl, rfl, rfl, rfl, rfl, rfl, rfl, trivial⟩ ⟨E, (by omega), h1, ho1, (by omega), Own.fin ho (Nat.le_refl _) (by omega) (filt_no (by assumption) (ns_no (by assumption)))⟩)
        · have hc5n : ¬ k < xs.length := by first | (have h := of_decide_eq_false hc5; omega) | (have h := hc5; simp at h; omega)
          refine S_exit (E_lp_exit (E_inB_exit ?_))
          refine S_seq ?_
          refine S_reg [true, true, false, true, true] rfl rfl ?_
          refine J_st (R_move rfl) rfl (J_st (R_loadS st50 rfl h1.at rfl) rfl ?_)
          refine J_call Try.call57 rfl (s_PutCell vo ((xs.take k).filter (fun y => !(slot x y))) x _ (Own.rd (by decide) ho) (by have h1 := List.length_filter_le (fun y => !(slot x y)) (xs.take k); simp only [List.length_take] at h1; omega)) rfl (fun v4 w14 e9 ho4 => ?_)
          have g_ho4 : w.heap.size ≤ w9.heap.size := E.size
          replace E := E.trans e9; replace h1 := h1.ext e9; replace ho1 := ho1.ext e9; replace ho := ho.ext e9
          have z12 := e9.size
          refine J_st (R_assign rfl) rfl (J_st (R_assign rfl) rfl (J_done ?_))
          refine S_ret (E_inB_ret (E_doneN (l := [.tmp 6, .tmp 7]) (vs := [v4, .bool true]) rfl ⟨.tmp rfl, .tmp rfl, trivial⟩ rfl E ?_))
          rw [recallM_b (.inl (by assumption)), betterM_no (by assumption)]
          exact ⟨_, rfl, Own.fin ho4 (by omega) (by omega) (by simp only [List.nil_append, List.take_of_length_le (show xs.length ≤ k by omega)] <;> rfl)⟩
    · refine S_reg [true, true] rfl rfl ?_
      refine J_st (R_eql rfl rfl) rfl (J_st (R_assign rfl) rfl (J_done ?_))
      refine S_cond rfl (fun hc7 => ?_) (fun hc7 => ?_)
      · refine S_seq ?_
        refine S_reg [true, true, true, true, true, true, true, false, true, true, true, true, true] rfl rfl ?_
        refine J_st (R_move rfl) rfl (J_st (R_fieldAddr0 fl50_0 rfl) rfl (J_st (R_load sc3 rfl (h1.one 0 rfl)) rfl (J_st (R_fieldAddr0 fl50_1 rfl) rfl (J_st (R_load sc3 rfl (h1.one 1 rfl)) rfl (J_st (R_fieldAddr0 fl50_2 rfl) rfl (J_st (R_load sc3 rfl (h1.one 2 rfl)) rfl ?_))))))
        refine J_call Try.call58 rfl (s_LeastOf vxs xs x.op x.epoch x.key _ (hxs.ext E)) rfl (fun _ w15 e10 hv => ?_)
        subst hv
        replace E := E.trans e10; replace h1 := h1.ext e10; replace ho1 := ho1.ext e10
        have z13 := e10.size
        refine J_st (R_move rfl) rfl (J_st (R_extract rfl rfl) rfl (J_st (R_extract rfl rfl) rfl (J_st (R_assign rfl) rfl (J_st (R_assign rfl) rfl (J_done ?_)))))
        refine S_seq ?_
        refine S_seq ?_
        refine S_reg [true, true, true, true, true, true, true] rfl rfl ?_
        refine J_st (R_move rfl) rfl (J_st (R_move rfl) rfl ?_)
        refine J_cut 5 [(0, .int .i64 kind), (1, vxs), (2, .agg (Enc.enc x).toArray), (5, .pointer (some ⟨b1, 0, none⟩)), (6, .slice none 0 0), (7, .bool false), (8, v1), (9, .int .i64 ((leastM xs x.op x.epoch x.key).1)), (10, .bool ((leastM xs x.op x.epoch x.key).2)), (13, .slice (some ⟨b2, 0, none⟩) 0 0), (14, vxs), (15, v1), (16, .int .i64 kind), (17, .bool (kind == 6)), (18, .bool (kind == 6)), (26, .bool (kind == 8)), (27, .bool (kind == 5)), (28, .bool (kind == 8)), (29, .tuple [.int .i64 ((leastM xs x.op x.epoch x.key).1), .bool ((leastM xs x.op x.epoch x.key).2)].toArray), (30, vxs), (31, .pointer (some ⟨b1, 0, none⟩)), (32, .int .i64 x.op), (33, .pointer (some ⟨b1, 1, none⟩)), (34, .int .i64 x.epoch), (35, .pointer (some ⟨b1, 2, none⟩)), (36, .int .i64 x.key), (37, .tuple [.int .i64 ((leastM xs x.op x.epoch x.key).1), .bool ((leastM xs x.op x.epoch x.key).2)].toArray), (38, .int .i64 ((leastM xs x.op x.epoch x.key).1)), (39, .bool ((leastM xs x.op x.epoch x.key).2)), (46, .bool (((leastM xs x.op x.epoch x.key).2) && (decide (((leastM xs x.op x.epoch x.key).1) ≤ x.val))))] (fun w' => w15 = w') ?_ ?_
        · refine J_if (gd := 41) rfl rfl (fun hg4 => ?_) (fun hg4 => ?_)
          · refine J_gd rfl rfl (R_move rfl) rfl (J_gd rfl rfl (R_fieldAddr0 fl50_3 rfl) rfl (J_gd rfl rfl (R_load sc3 rfl (h1.one 3 rfl)) rfl (J_gd rfl rfl (R_leq rfl rfl) rfl (J_st (R_pickT rfl rfl) rfl (J_cutEnd ⟨rfl, rfl, rfl, rfl, rfl, rfl, rfl, rfl, rfl, rfl, rfl, rfl, rfl, rfl, rfl, rfl, rfl, rfl, rfl, rfl, rfl, rfl, rfl, rfl, rfl, rfl, rfl, rfl, rfl, congrArg (fun b => some (Value.bool b)) (show (decide (((leastM xs x.op x.epoch x.key).1) ≤ x.val)) = (((leastM xs x.op x.epoch x.key).2) && (decide (((leastM xs x.op x.epoch x.key).1) ≤ x.val))) by first | (rw [hg4] <;> rfl) | (simp [hg4]; done) | (simp only [nat_nlt] <;> simp)), trivial⟩ rfl)))))
          · refine J_gdno rfl rfl rfl rfl (J_gdno rfl rfl rfl rfl (J_gdno rfl rfl rfl rfl (J_gdno rfl rfl rfl rfl (J_st (R_pickF rfl rfl) rfl (J_cutEnd ⟨rfl, rfl, rfl, rfl, rfl, rfl, rfl, rfl, rfl, rfl, rfl, rfl, rfl, rfl, rfl, rfl, rfl, rfl, rfl, rfl, rfl, rfl, rfl, rfl, rfl, rfl, rfl, rfl, rfl, congrArg (fun b => some (Value.bool b)) (show false = (((leastM xs x.op x.epoch x.key).2) && (decide (((leastM xs x.op x.epoch x.key).1) ≤ x.val))) by first | (rw [hg4] <;> rfl) | (simp [hg4]; done) | (simp only [nat_nlt] <;> simp)), trivial⟩ rfl)))))
        rintro _ rfl
        refine J_done ?_
        refine S_cond rfl (fun hc8 => ?_) (fun hc8 => ?_)
        · refine S_seq ?_
          refine S_reg [true, true, true] rfl rfl ?_
          refine J_st (R_move rfl) rfl (J_st (R_assign rfl) rfl (J_st (R_assign rfl) rfl (J_done ?_)))
          refine S_ret (E_inB_ret (E_doneN (l := [.tmp 6, .tmp 7]) (vs := [v1, .bool false]) rfl ⟨.tmp rfl, .tmp rfl, trivial⟩ rfl E ?_))
          rw [recallM_b (.inr (by assumption)), betterM_yes (by assumption)]
          exact ⟨_, rfl, Own.fin ho1 (by omega) (by omega) (by first | rfl | simp only [List.nil_append])⟩
        · refine S_skip ?_
          refine S_seq ?_
          refine S_reg [false, true] rfl rfl ?_
          refine J_buildSlice (vs := []) (css := []) sl28 rfl rfl trivial rfl rfl (fun b5 w17 e11 s5 h5 => ?_)
          replace h5 : Blk w17 b5 [] := h5
          have g_b5 : w.heap.size ≤ b5 := by have := E.size; omega
          have y_b5 := h5.lt
          replace E := E.trans e11; replace h1 := h1.ext e11; replace ho1 := ho1.ext e11
          have z14 := e11.size
          refine J_st (R_assign rfl) rfl (J_done ?_)
          refine S_seq ?_
          refine S_seq ?_
          refine S_reg [true] rfl rfl ?_
          refine J_st (R_assign rfl) rfl (J_done ?_)
          refine S_block ?_
          refine S_loop (fun (xq : Nat × Value) => let ⟨k, vo⟩ := xq; [(1, vxs), (5, .pointer (some ⟨b1, 0, none⟩)), (6, .slice none 0 0), (7, .bool false), (8, v1), (11, vo), (12, .int .i64 ((k : Nat) : Int))]) (fun (xq : Nat × Value) w' => let ⟨k, vo⟩ := xq; Ext w w' ∧ w17.heap.size ≤ w'.heap.size ∧ Blk w' b1 (Enc.enc x) ∧ Own w' b2 w3.heap.size 4 v1 ([] ++ List.flatMap (Enc.enc (α := Cell)) xs) ∧ k ≤ xs.length ∧ Own w' b5 w'.heap.size 4 vo (List.flatMap (Enc.enc (α := Cell)) ((xs.take k).filter (fun y => !(slot x y))))) (fun (xq : Nat × Value) => let ⟨k, vo⟩ := xq; xs.length - k) (0, .slice (some ⟨b5, 0, none⟩) 0 0) ⟨rfl, rfl, rfl, rfl, rfl, rfl, rfl, trivial⟩ ⟨E, Nat.le_refl _, h1, ho1, Nat.zero_le _, Own.fin (Own.ofBlk (lo := b5) (hi := b5 + 1) (sz := 4) h5 (Nat.le_refl _) (Nat.lt_succ_self _) (by simp) (by simp [maxLen])) (by have := E.size; omega) (by omega) rfl⟩ ?_
          clear E h1 ho1 h5
          rintro ⟨k, vo⟩ w18 ⟨E, z15, h1, ho1, hk, ho⟩
          refine S_sub [(1, vxs), (5, .pointer (some ⟨b1, 0, none⟩)), (6, .slice none 0 0), (7, .bool false), (8, v1), (11, vo), (12, .int .i64 ((k : Nat) : Int))] ⟨rfl, rfl, rfl, rfl, rfl, rfl, rfl, trivial⟩ ?_
          refine S_seq ?_
          refine S_seq ?_
          refine S_reg [true, true, true, true] rfl rfl ?_
          refine J_st (R_move rfl) rfl (J_st (R_move rfl) rfl (J_st (R_len Try.underlying28 rfl (hxs.ext E).len) rfl (J_st (R_lss rfl rfl) rfl (J_done ?_))))
          refine S_cond rfl (fun hc9 => ?_) (fun hc9 => ?_)
          · have hc9n : k < xs.length := by first | (have h := of_decide_eq_true hc9; omega) | (have h := hc9; simp at h; omega)
            refine S_skip ?_
            refine S_seq ?_
            refine S_block ?_
            refine S_seq ?_
            refine S_regD mixed [(0, true), (1, true), (2, true), (3, true), (4, true), (5, true), (6, true), (7, true), (8, true), (9, true), (10, true), (11, true), (12, true), (13, true), (14, true), (15, true), (16, true), (17, true), (18, true), (19, true), (20, true), (21, true), (22, true), (23, true), (24, true), (25, true), (26, true), (27, true)] (by decide +kernel) rfl (fun w19 e12 => ?_)
            replace E := E.trans e12; replace h1 := h1.ext e12; replace ho1 := ho1.ext e12; replace ho := ho.ext e12
            have z16 := e12.size
            refine J_st (R_move rfl) rfl (J_st (R_move rfl) rfl ?_)
            have hi2 : k < xs.length := (by first | assumption | omega)
            refine J_st (R_index (i := k) sl28 rfl rfl (hxs.ext E) hi2) rfl (J_st (R_fieldAddr fl50_0 rfl) rfl (J_st (R_load sc3 rfl (((hxs.ext E).get hi2).one 0 rfl)) rfl (J_st (R_fieldAddr0 fl50_0 rfl) rfl (J_st (R_load sc3 rfl (h1.one 0 rfl)) rfl (J_st (R_neq rfl rfl) rfl (J_st (R_move rfl) rfl ?_))))))
            refine J_cut 19 [(1, vxs), (5, .pointer (some ⟨b1, 0, none⟩)), (6, .slice none 0 0), (7, .bool false), (8, v1), (11, vo), (12, .int .i64 ((k : Nat) : Int)), (49, .int .i64 ((k : Nat) : Int)), (50, vxs), (51, .int .i64 ((xs.length : Nat) : Int)), (52, .bool (decide (((k : Nat) : Int) < ((xs.length : Nat) : Int)))), (82, .bool (((((xs[k]'hi2).op) != x.op) || (((xs[k]'hi2).epoch) != x.epoch)) || (((xs[k]'hi2).key) != x.key)))] (fun w' => w19 = w') ?_ ?_
            · refine J_if (gd := 63) rfl rfl (fun hg5 => ?_) (fun hg5 => ?_)
              · refine J_gdno rfl rfl rfl rfl (J_gdno rfl rfl rfl rfl (J_gdno rfl rfl rfl rfl (J_gdno rfl rfl rfl rfl (J_gdno rfl rfl rfl rfl (J_gdno rfl rfl rfl rfl (J_gdno rfl rfl rfl rfl (J_gdno rfl rfl rfl rfl (J_st (R_pickT rfl rfl) rfl (J_st (R_move rfl) rfl (J_gdno rfl rfl rfl rfl (J_gdno rfl rfl rfl rfl (J_gdno rfl rfl rfl rfl (J_gdno rfl rfl rfl rfl (J_gdno rfl rfl rfl rfl (J_gdno rfl rfl rfl rfl (J_gdno rfl rfl rfl rfl (J_gdno rfl rfl rfl rfl (J_st (R_pickT rfl rfl) rfl (J_cutEnd ⟨rfl, rfl, rfl, rfl, rfl, rfl, rfl, rfl, rfl, rfl, rfl, congrArg (fun b => some (Value.bool b)) (show true = (((((xs[k]'hi2).op) != x.op) || (((xs[k]'hi2).epoch) != x.epoch)) || (((xs[k]'hi2).key) != x.key)) by first | (rw [hg5] <;> rfl) | (simp [hg5]; done) | (simp only [nat_nlt] <;> simp)), trivial⟩ rfl)))))))))))))))))))
              · refine J_gd rfl rfl (R_move rfl) rfl (J_gd rfl rfl (R_move rfl) rfl (J_gd rfl rfl (R_index (i := k) sl28 rfl rfl (hxs.ext E) hi2) rfl (J_gd rfl rfl (R_fieldAddr fl50_1 rfl) rfl (J_gd rfl rfl (R_load sc3 rfl (((hxs.ext E).get hi2).one 1 rfl)) rfl (J_gd rfl rfl (R_fieldAddr0 fl50_1 rfl) rfl (J_gd rfl rfl (R_load sc3 rfl (h1.one 1 rfl)) rfl (J_gd rfl rfl (R_neq rfl rfl) rfl (J_st (R_pickF rfl rfl) rfl (J_st (R_move rfl) rfl ?_)))))))))
                refine J_if (gd := 73) rfl rfl (fun hg6 => ?_) (fun hg6 => ?_)
                · refine J_gdno rfl rfl rfl rfl (J_gdno rfl rfl rfl rfl (J_gdno rfl rfl rfl rfl (J_gdno rfl rfl rfl rfl (J_gdno rfl rfl rfl rfl (J_gdno rfl rfl rfl rfl (J_gdno rfl rfl rfl rfl (J_gdno rfl rfl rfl rfl (J_st (R_pickT rfl rfl) rfl (J_cutEnd ⟨rfl, rfl, rfl, rfl, rfl, rfl, rfl, rfl, rfl, rfl, rfl, congrArg (fun b => some (Value.bool b)) (show true = (((((xs[k]'hi2).op) != x.op) || (((xs[k]'hi2).epoch) != x.epoch)) || (((xs[k]'hi2).key) != x.key)) by first | (rw [hg5, hg6] <;> rfl) | (simp [hg5, hg6]; done) | (simp only [nat_nlt] <;> simp)), trivial⟩ rfl)))))))))
                · refine J_gd rfl rfl (R_move rfl) rfl (J_gd rfl rfl (R_move rfl) rfl (J_gd rfl rfl (R_index (i := k) sl28 rfl rfl (hxs.ext E) hi2) rfl (J_gd rfl rfl (R_fieldAddr fl50_2 rfl) rfl (J_gd rfl rfl (R_load sc3 rfl (((hxs.ext E).get hi2).one 2 rfl)) rfl (J_gd rfl rfl (R_fieldAddr0 fl50_2 rfl) rfl (J_gd rfl rfl (R_load sc3 rfl (h1.one 2 rfl)) rfl (J_gd rfl rfl (R_neq rfl rfl) rfl (J_st (R_pickF rfl rfl) rfl (J_cutEnd ⟨rfl, rfl, rfl, rfl, rfl, rfl, rfl, rfl, rfl, rfl, rfl, congrArg (fun b => some (Value.bool b)) (show (((xs[k]'hi2).key) != x.key) = (((((xs[k]'hi2).op) != x.op) || (((xs[k]'hi2).epoch) != x.epoch)) || (((xs[k]'hi2).key) != x.key)) by first | (rw [hg5, hg6] <;> rfl) | (simp [hg5, hg6]; done) | (simp only [nat_nlt] <;> simp)), trivial⟩ rfl)))))))))
            rintro _ rfl
            refine J_done ?_
            refine S_cond rfl (fun hc10 => ?_) (fun hc10 => ?_)
            · refine S_reg [true, true, true, true, true, false, false, true] rfl rfl ?_
              refine J_st (R_move rfl) rfl (J_st (R_move rfl) rfl (J_st (R_move rfl) rfl (J_st (R_index (i := k) sl28 rfl rfl (hxs.ext E) hi2) rfl (J_st (R_loadS st50 rfl ((hxs.ext E).get hi2) rfl) rfl ?_))))
              refine J_buildSlice (vs := [.agg (Enc.enc (xs[k]'hi2)).toArray]) (css := [[.int .i64 ((xs[k]'hi2).op), .int .i64 ((xs[k]'hi2).epoch), .int .i64 ((xs[k]'hi2).key), .int .i64 ((xs[k]'hi2).val)]]) sl28 rfl rfl ⟨⟨rfl, rfl⟩, trivial⟩ rfl rfl (fun b6 w21 e13 s6 h6 => ?_)
              replace h6 : Blk w21 b6 [.int .i64 ((xs[k]'hi2).op), .int .i64 ((xs[k]'hi2).epoch), .int .i64 ((xs[k]'hi2).key), .int .i64 ((xs[k]'hi2).val)] := h6
              have g_b6 : w.heap.size ≤ b6 := by have := E.size; omega
              have y_b6 := h6.lt
              replace E := E.trans e13; replace h1 := h1.ext e13; replace ho1 := ho1.ext e13; replace ho := ho.ext e13
              have z17 := e13.size
              refine J_append sl28 rfl rfl ho (Src.ofBlk h6 rfl) rfl (by first | (simp only [sum_flat, List.length_nil, List.length_cons]; simp only [Enc.sz]; omega) | (have h := filt_len xs (fun y => !(slot x y)) k; simp only [show Enc.sz Cell = 4 from rfl] at h; simp only [List.length_cons, List.length_nil]; omega)) (by decide) (by omega) (by omega) rfl rfl (fun v5 w22 m3 ho5 => ?_)
              replace E := E.step m3 (fun g hg => by have := Own.blk ho g hg; omega); replace h1 := h1.mod m3 (fun g hg => by have := Own.blk ho g hg; omega); replace ho1 := ho1.mod m3 (fun g hg => by have := Own.blk ho g hg; omega)
              have z18 := m3.size
              refine J_st (R_assign rfl) rfl (J_done ?_)
              refine S_nil (E_inB ?_)
              refine S_reg [true, true, true] rfl rfl ?_
              refine J_st (R_move rfl) rfl (J_st (R_add rfl rfl (add_one hc9n hxs.1)) rfl (J_st (R_assign rfl) rfl (J_done ?_)))
              refine S_nil (E_again (k + 1, v5) (by simp; omega) ⟨rfl, rfl, rfl, rfl, rfl, rfl, rfl, trivial⟩ ⟨E, (by omega), h1, ho1, (by omega), Own.fin ho5 (Nat.le_refl _) (by omega) (filt_yes (by assumption) (ns_yes (by assumption)))⟩)
            · refine S_skip ?_
              refine S_nil (E_inB ?_)
              refine S_reg [true, true, true] rfl rfl ?_
              refine J_st (R_move rfl) rfl (J_st (R_add rfl rfl (add_one hc9n hxs.1)) rfl (J_st (R_assign rfl) rfl (J_done ?_)))
              refine S_nil (E_again (k + 1, vo) (by simp; omega) ⟨rfl, rfl, rfl, rfl, rfl, rfl, rfl, trivial⟩ ⟨E, (by omega), h1, ho1, (by omega), Own.fin ho (Nat.le_refl _) (by omega) (filt_no (by assumption) (ns_no (by assumption)))⟩)
          · have hc9n : ¬ k < xs.length := by first | (have h := of_decide_eq_false hc9; omega) | (have h := hc9; simp at h; omega)
            refine S_exit (E_lp_exit (E_inB_exit ?_))
            refine S_seq ?_
            refine S_reg [true, true, false, true, true] rfl rfl ?_
            refine J_st (R_move rfl) rfl (J_st (R_loadS st50 rfl h1.at rfl) rfl ?_)
            refine J_call Try.call57 rfl (s_PutCell vo ((xs.take k).filter (fun y => !(slot x y))) x _ (Own.rd (by decide) ho) (by have h1 := List.length_filter_le (fun y => !(slot x y)) (xs.take k); simp only [List.length_take] at h1; omega)) rfl (fun v6 w23 e14 ho6 => ?_)
            have g_ho6 : w.heap.size ≤ w18.heap.size := E.size
            replace E := E.trans e14; replace h1 := h1.ext e14; replace ho1 := ho1.ext e14; replace ho := ho.ext e14
            have z19 := e14.size
            refine J_st (R_assign rfl) rfl (J_st (R_assign rfl) rfl (J_done ?_))
            refine S_ret (E_inB_ret (E_doneN (l := [.tmp 6, .tmp 7]) (vs := [v6, .bool true]) rfl ⟨.tmp rfl, .tmp rfl, trivial⟩ rfl E ?_))
            rw [recallM_b (.inr (by assumption)), betterM_no (by assumption)]
            exact ⟨_, rfl, Own.fin ho6 (by omega) (by omega) (by simp only [List.nil_append, List.take_of_length_le (show xs.length ≤ k by omega)] <;> rfl)⟩
      · refine S_skip ?_
        refine S_nil (E_inB ?_)
        refine S_seq ?_
        refine S_reg [true, true, true] rfl rfl ?_
        refine J_st (R_move rfl) rfl (J_st (R_assign rfl) rfl (J_st (R_assign rfl) rfl (J_done ?_)))
        refine S_ret (E_doneN (l := [.tmp 6, .tmp 7]) (vs := [v1, .bool true]) rfl ⟨.tmp rfl, .tmp rfl, trivial⟩ rfl E ?_)
        rw [recallM_o (by assumption) (by assumption) (by assumption)]
        exact ⟨_, rfl, Own.fin ho1 (by omega) (by omega) (by first | rfl | simp only [List.nil_append])⟩

set_option maxRecDepth 20000 in
theorem s_l02Less (a : Int) (b : Int) (w : World)  : Ct Try.prog 59 [.int .i64 a, .int .i64 b] w (fun v _ => v = .int .i64 (if b < a then b else a)) := by
  refine ct_of Try.func59 rfl Try.ntmps59 rfl ?_
  refine S_sub [(0, .int .i64 a), (1, .int .i64 b)] ⟨rfl, rfl, trivial⟩ ?_
  have E : Ext w w := Ext.refl w
  refine S_seq ?_
  refine S_reg [true] rfl rfl ?_
  refine J_st (R_assign rfl) rfl (J_done ?_)
  refine S_seq ?_
  refine S_seq ?_
  refine S_reg [true, true, true] rfl rfl ?_
  refine J_st (R_move rfl) rfl (J_st (R_move rfl) rfl (J_st (R_lss rfl rfl) rfl (J_done ?_)))
  refine S_cond rfl (fun hc1 => ?_) (fun hc1 => ?_)
  · refine S_seq ?_
    refine S_reg [true, true] rfl rfl ?_
    refine J_st (R_move rfl) rfl (J_st (R_assign rfl) rfl (J_done ?_))
    refine S_ret (E_done1 rfl rfl E ?_)
    rw [if_pos (of_decide_eq_true hc1)]
  · refine S_skip ?_
    refine S_seq ?_
    refine S_reg [true, true] rfl rfl ?_
    refine J_st (R_move rfl) rfl (J_st (R_assign rfl) rfl (J_done ?_))
    refine S_ret (E_done1 rfl rfl E ?_)
    rw [if_neg (of_decide_eq_false hc1)]

set_option maxRecDepth 20000 in
theorem c_Changed (cx : List Value) (x : Node) (a : Int) (b : Int) (w : World) (hx : Dat.R w 0 w.heap.size cx x) : Ct Try.prog 50 [.agg cx.toArray, .int .i64 a, .int .i64 b] w (fun v _ => v = .tuple [.int .i64 ((changedM x a b).1), .int .i64 ((changedM x a b).2.1), .bool ((changedM x a b).2.2)].toArray) := by
  refine ct_of Try.func50 rfl Try.ntmps50 rfl ?_
  obtain ⟨o1, rfl, hd1⟩ := Node.op hx
  refine S_sub [(0, .agg [.int .i64 x.kind, .int .i64 x.a, .int .i64 x.b, o1].toArray), (1, .int .i64 a), (2, .int .i64 b)] ⟨rfl, rfl, rfl, trivial⟩ ?_
  have E : Ext w w := Ext.refl w
  refine S_seq ?_
  refine S_reg [false, true, true, true] rfl rfl ?_
  refine J_box rfl rfl (fun b1 w1 e1 s1 h1 => ?_)
  have g_b1 : w.heap.size ≤ b1 := by have := E.size; omega
  have y_b1 := h1.lt
  replace E := E.trans e1
  have z1 := e1.size
  refine J_st (R_assign rfl) rfl (J_st (R_assign rfl) rfl (J_st (R_assign rfl) rfl (J_done ?_)))
  refine S_seq ?_
  refine S_seq ?_
  refine S_reg [true, false, true, true, true, true, false, true, true] rfl rfl ?_
  refine J_st (R_loadS st70 rfl h1.at rfl) rfl ?_
  refine J_call Try.call61 rfl (c_NodeOk [.int .i64 x.kind, .int .i64 x.a, .int .i64 x.b, o1] x _ (Node.mkR x (RdD.any (hd1.ext E)))) rfl (fun _ w2 e2 hv => ?_)
  subst hv
  replace E := E.trans e2; replace h1 := h1.ext e2
  have z2 := e2.size
  refine J_st (R_not rfl) rfl (J_st (R_move rfl) rfl ?_)
  refine J_cut 5 [(0, .agg [.int .i64 x.kind, .int .i64 x.a, .int .i64 x.b, o1].toArray), (1, .int .i64 a), (2, .int .i64 b), (3, .pointer (some ⟨b1, 0, none⟩)), (6, .int .i64 0), (7, .int .i64 0), (8, .bool false), (17, .bool ((!(nodeOk x)) || (!(win a 0 99 && win b 0 999))))] (fun w' => Ext w w' ∧ w2.heap.size ≤ w'.heap.size ∧ Blk w' b1 ([.int .i64 x.kind, .int .i64 x.a, .int .i64 x.b, o1])) ?_ ?_
  · refine J_if (gd := 12) rfl rfl (fun hg1 => ?_) (fun hg1 => ?_)
    · refine J_gdno rfl rfl rfl rfl (J_gdno rfl rfl rfl rfl ?_)
      refine J_ungno rfl rfl rfl rfl ?_
      refine J_gdno rfl rfl rfl rfl (J_st (R_pickT rfl rfl) rfl (J_cutEnd ⟨rfl, rfl, rfl, rfl, rfl, rfl, rfl, congrArg (fun b => some (Value.bool b)) (show true = ((!(nodeOk x)) || (!(win a 0 99 && win b 0 999))) by first | (rw [hg1] <;> rfl) | (simp [hg1]; done) | (simp only [nat_nlt] <;> simp)), trivial⟩ ⟨E, (by omega), h1⟩))
    · refine J_gd rfl rfl (R_move rfl) rfl (J_gd rfl rfl (R_move rfl) rfl ?_)
      refine J_ung rfl rfl ?_
      refine J_call Try.call45 rfl (c_itemOk a b _ ) rfl (fun _ w4 e3 hv => ?_)
      subst hv
      replace E := E.trans e3; replace h1 := h1.ext e3
      have z3 := e3.size
      refine J_gd rfl rfl (R_not rfl) rfl (J_st (R_pickF rfl rfl) rfl (J_cutEnd ⟨rfl, rfl, rfl, rfl, rfl, rfl, rfl, congrArg (fun b => some (Value.bool b)) (show (!(win a 0 99 && win b 0 999)) = ((!(nodeOk x)) || (!(win a 0 99 && win b 0 999))) by first | (rw [hg1] <;> rfl) | (simp [hg1]; done) | (simp only [nat_nlt] <;> simp)), trivial⟩ ⟨E, (by omega), h1⟩))
  clear E h1
  rintro w3 ⟨E, z4, h1⟩
  refine J_done ?_
  refine S_cond rfl (fun hc1 => ?_) (fun hc1 => ?_)
  · refine S_seq ?_
    refine S_reg [true, true, true, true, true] rfl rfl ?_
    refine J_st (R_move rfl) rfl (J_st (R_move rfl) rfl (J_st (R_assign rfl) rfl (J_st (R_assign rfl) rfl (J_st (R_assign rfl) rfl (J_done ?_)))))
    refine S_ret (E_doneN (l := [.tmp 6, .tmp 7, .tmp 8]) (vs := [.int .i64 a, .int .i64 b, .bool false]) rfl ⟨.tmp rfl, .tmp rfl, .tmp rfl, trivial⟩ rfl E ?_)
    rw [ch_0 (by assumption)]
  · have hno := ch_ok hc1
    refine S_skip ?_
    refine S_seq ?_
    refine S_seq ?_
    refine S_reg [true, true] rfl rfl ?_
    refine J_st (R_fieldAddr0 fl70_0 rfl) rfl (J_st (R_load sc3 rfl (h1.one 0 rfl)) rfl (J_done ?_))
    refine S_block ?_
    refine S_seq ?_
    refine S_reg [true, true] rfl rfl ?_
    refine J_st (R_eql rfl rfl) rfl (J_st (R_assign rfl) rfl (J_done ?_))
    refine S_cond rfl (fun hc2 => ?_) (fun hc2 => ?_)
    · refine S_seq ?_
      refine S_regD mixed [(0, true), (1, true), (2, true), (3, true), (4, true), (5, true), (6, true), (7, true), (8, true)] (by decide +kernel) rfl (fun w5 e4 => ?_)
      replace E := E.trans e4; replace h1 := h1.ext e4
      have z5 := e4.size
      refine J_st (R_move rfl) rfl (J_st (R_move rfl) rfl (J_st (R_fieldAddr0 fl70_1 rfl) rfl (J_st (R_load sc3 rfl (h1.one 1 rfl)) rfl (J_st (R_add rfl rfl rfl) rfl (J_st (R_min rfl rfl) rfl (J_st (R_assign rfl) rfl (J_st (R_assign rfl) rfl (J_st (R_assign rfl) rfl (J_done ?_)))))))))
      refine S_ret (E_inB_ret (E_doneN (l := [.tmp 6, .tmp 7, .tmp 8]) (vs := [.int .i64 a, .int .i64 (if (IntKind.i64.wrap (b + x.a)) < 999 then (IntKind.i64.wrap (b + x.a)) else 999), .bool true]) rfl ⟨.tmp rfl, .tmp rfl, .tmp rfl, trivial⟩ rfl E ?_))
      rw [ch_2 (by assumption) (by assumption)]
    · refine S_seq ?_
      refine S_reg [true, true] rfl rfl ?_
      refine J_st (R_eql rfl rfl) rfl (J_st (R_assign rfl) rfl (J_done ?_))
      refine S_cond rfl (fun hc3 => ?_) (fun hc3 => ?_)
      · refine S_seq ?_
        refine S_reg [true, true, true, true, true, true, true, true, true] rfl rfl ?_
        refine J_st (R_move rfl) rfl (J_st (R_fieldAddr0 fl70_1 rfl) rfl (J_st (R_load sc3 rfl (h1.one 1 rfl)) rfl (J_st (R_add rfl rfl rfl) rfl (J_st (R_rem rfl rfl (by decide) rfl) rfl (J_st (R_move rfl) rfl (J_st (R_assign rfl) rfl (J_st (R_assign rfl) rfl (J_st (R_assign rfl) rfl (J_done ?_)))))))))
        refine S_ret (E_inB_ret (E_doneN (l := [.tmp 6, .tmp 7, .tmp 8]) (vs := [.int .i64 (Int.tmod (IntKind.i64.wrap (a + x.a)) 100), .int .i64 b, .bool true]) rfl ⟨.tmp rfl, .tmp rfl, .tmp rfl, trivial⟩ rfl E ?_))
        rw [ch_4 (by assumption) (by assumption)]
      · refine S_seq ?_
        refine S_reg [true, true] rfl rfl ?_
        refine J_st (R_eql rfl rfl) rfl (J_st (R_assign rfl) rfl (J_done ?_))
        refine S_cond rfl (fun hc4 => ?_) (fun hc4 => ?_)
        · have hna := node_a3 hno hc4
          refine S_seq ?_
          refine S_regD mixed [(0, true), (1, true), (2, true), (3, true), (4, true), (5, true), (6, true), (7, true), (8, true), (9, true), (10, true), (11, true)] (by decide +kernel) rfl (fun w6 e5 => ?_)
          replace E := E.trans e5; replace h1 := h1.ext e5
          have z6 := e5.size
          refine J_st (R_move rfl) rfl (J_st (R_move rfl) rfl (J_st (R_move rfl) rfl (J_st (R_fieldAddr0 fl70_1 rfl) rfl (J_st (R_load sc3 rfl (h1.one 1 rfl)) rfl (J_st (R_rem rfl rfl (by omega) rfl) rfl (J_st (R_fieldAddr0 fl70_2 rfl) rfl (J_st (R_load sc3 rfl (h1.one 2 rfl)) rfl (J_st (R_eql rfl rfl) rfl (J_st (R_assign rfl) rfl (J_st (R_assign rfl) rfl (J_st (R_assign rfl) rfl (J_done ?_))))))))))))
          refine S_ret (E_inB_ret (E_doneN (l := [.tmp 6, .tmp 7, .tmp 8]) (vs := [.int .i64 a, .int .i64 b, .bool ((Int.tmod a x.a) == x.b)]) rfl ⟨.tmp rfl, .tmp rfl, .tmp rfl, trivial⟩ rfl E ?_))
          rw [ch_3 (by assumption) (by assumption)]
        · refine S_skip ?_
          refine S_nil (E_inB ?_)
          refine S_seq ?_
          refine S_regD mixed [(0, true), (1, true), (2, true), (3, true), (4, true), (5, true), (6, true), (7, true)] (by decide +kernel) rfl (fun w7 e6 => ?_)
          replace E := E.trans e6; replace h1 := h1.ext e6
          have z7 := e6.size
          refine J_st (R_move rfl) rfl (J_st (R_move rfl) rfl (J_st (R_fieldAddr0 fl70_0 rfl) rfl (J_st (R_load sc3 rfl (h1.one 0 rfl)) rfl (J_st (R_neq rfl rfl) rfl (J_st (R_assign rfl) rfl (J_st (R_assign rfl) rfl (J_st (R_assign rfl) rfl (J_done ?_))))))))
          refine S_ret (E_doneN (l := [.tmp 6, .tmp 7, .tmp 8]) (vs := [.int .i64 a, .int .i64 b, .bool (x.kind != 8)]) rfl ⟨.tmp rfl, .tmp rfl, .tmp rfl, trivial⟩ rfl E ?_)
          rw [ch_o (by assumption) (by assumption) (by assumption) (by assumption)]

set_option maxRecDepth 20000 in
theorem s_Changed (cx : List Value) (x : Node) (a : Int) (b : Int) (w : World) (hx : Dat.R w 0 w.heap.size cx x) : Ct Try.prog 40 [.agg cx.toArray, .int .i64 a, .int .i64 b] w (fun v _ => v = .tuple [.int .i64 ((changedM x a b).1), .int .i64 ((changedM x a b).2.1), .bool ((changedM x a b).2.2)].toArray) := by
  refine ct_of Try.func40 rfl Try.ntmps40 rfl ?_
  obtain ⟨o1, rfl, hd1⟩ := Node.op hx
  refine S_sub [(0, .agg [.int .i64 x.kind, .int .i64 x.a, .int .i64 x.b, o1].toArray), (1, .int .i64 a), (2, .int .i64 b)] ⟨rfl, rfl, rfl, trivial⟩ ?_
  have E : Ext w w := Ext.refl w
  refine S_seq ?_
  refine S_reg [false, true, true, true] rfl rfl ?_
  refine J_box rfl rfl (fun b1 w1 e1 s1 h1 => ?_)
  have g_b1 : w.heap.size ≤ b1 := by have := E.size; omega
  have y_b1 := h1.lt
  replace E := E.trans e1
  have z1 := e1.size
  refine J_st (R_assign rfl) rfl (J_st (R_assign rfl) rfl (J_st (R_assign rfl) rfl (J_done ?_)))
  refine S_seq ?_
  refine S_seq ?_
  refine S_reg [true, false, true, true, true, false, true, true, true, true, false, true, true] rfl rfl ?_
  refine J_st (R_loadS st70 rfl h1.at rfl) rfl ?_
  refine J_call Try.call55 rfl (s_NodeOk [.int .i64 x.kind, .int .i64 x.a, .int .i64 x.b, o1] x _ (Node.mkR x (RdD.any (hd1.ext E)))) rfl (fun _ w2 e2 hv => ?_)
  subst hv
  replace E := E.trans e2; replace h1 := h1.ext e2
  have z2 := e2.size
  refine J_st (R_not rfl) rfl (J_st (R_move rfl) rfl ?_)
  refine J_cut 9 [(0, .agg [.int .i64 x.kind, .int .i64 x.a, .int .i64 x.b, o1].toArray), (1, .int .i64 a), (2, .int .i64 b), (3, .pointer (some ⟨b1, 0, none⟩)), (6, .int .i64 0), (7, .int .i64 0), (8, .bool false), (21, .bool (((!(nodeOk x)) || (!(win a 0 99))) || (!(win b 0 999))))] (fun w' => Ext w w' ∧ w2.heap.size ≤ w'.heap.size ∧ Blk w' b1 ([.int .i64 x.kind, .int .i64 x.a, .int .i64 x.b, o1])) ?_ ?_
  · refine J_if (gd := 12) rfl rfl (fun hg1 => ?_) (fun hg1 => ?_)
    · refine J_gdno rfl rfl rfl rfl ?_
      refine J_ungno rfl rfl rfl rfl ?_
      refine J_gdno rfl rfl rfl rfl (J_st (R_pickT rfl rfl) rfl (J_st (R_move rfl) rfl (J_gdno rfl rfl rfl rfl ?_)))
      refine J_ungno rfl rfl rfl rfl ?_
      refine J_gdno rfl rfl rfl rfl (J_st (R_pickT rfl rfl) rfl (J_cutEnd ⟨rfl, rfl, rfl, rfl, rfl, rfl, rfl, congrArg (fun b => some (Value.bool b)) (show true = (((!(nodeOk x)) || (!(win a 0 99))) || (!(win b 0 999))) by first | (rw [hg1] <;> rfl) | (simp [hg1]; done) | (simp only [nat_nlt] <;> simp)), trivial⟩ ⟨E, (by omega), h1⟩))
    · refine J_gd rfl rfl (R_move rfl) rfl ?_
      refine J_ung rfl rfl ?_
      refine J_call Try.call35 rfl (s_l01In a 0 99 _ ) rfl (fun _ w4 e3 hv => ?_)
      subst hv
      replace E := E.trans e3; replace h1 := h1.ext e3
      have z3 := e3.size
      refine J_gd rfl rfl (R_not rfl) rfl (J_st (R_pickF rfl rfl) rfl (J_st (R_move rfl) rfl ?_))
      refine J_if (gd := 17) rfl rfl (fun hg2 => ?_) (fun hg2 => ?_)
      · refine J_gdno rfl rfl rfl rfl ?_
        refine J_ungno rfl rfl rfl rfl ?_
        refine J_gdno rfl rfl rfl rfl (J_st (R_pickT rfl rfl) rfl (J_cutEnd ⟨rfl, rfl, rfl, rfl, rfl, rfl, rfl, congrArg (fun b => some (Value.bool b)) (show true = (((!(nodeOk x)) || (!(win a 0 99))) || (!(win b 0 999))) by first | (rw [hg1, hg2] <;> rfl) | (simp [hg1, hg2]; done) | (simp only [nat_nlt] <;> simp)), trivial⟩ ⟨E, (by omega), h1⟩))
      · refine J_gd rfl rfl (R_move rfl) rfl ?_
        refine J_ung rfl rfl ?_
        refine J_call Try.call35 rfl (s_l01In b 0 999 _ ) rfl (fun _ w5 e4 hv => ?_)
        subst hv
        replace E := E.trans e4; replace h1 := h1.ext e4
        have z4 := e4.size
        refine J_gd rfl rfl (R_not rfl) rfl (J_st (R_pickF rfl rfl) rfl (J_cutEnd ⟨rfl, rfl, rfl, rfl, rfl, rfl, rfl, congrArg (fun b => some (Value.bool b)) (show (!(win b 0 999)) = (((!(nodeOk x)) || (!(win a 0 99))) || (!(win b 0 999))) by first | (rw [hg1, hg2] <;> rfl) | (simp [hg1, hg2]; done) | (simp only [nat_nlt] <;> simp)), trivial⟩ ⟨E, (by omega), h1⟩))
  clear E h1
  rintro w3 ⟨E, z5, h1⟩
  refine J_done ?_
  refine S_cond rfl (fun hc1 => ?_) (fun hc1 => ?_)
  · replace hc1 := ch_st hc1
    refine S_seq ?_
    refine S_reg [true, true, true, true, true] rfl rfl ?_
    refine J_st (R_move rfl) rfl (J_st (R_move rfl) rfl (J_st (R_assign rfl) rfl (J_st (R_assign rfl) rfl (J_st (R_assign rfl) rfl (J_done ?_)))))
    refine S_ret (E_doneN (l := [.tmp 6, .tmp 7, .tmp 8]) (vs := [.int .i64 a, .int .i64 b, .bool false]) rfl ⟨.tmp rfl, .tmp rfl, .tmp rfl, trivial⟩ rfl E ?_)
    rw [ch_0 (by assumption)]
  · replace hc1 := ch_s hc1
    have hno := ch_ok hc1
    refine S_skip ?_
    refine S_seq ?_
    refine S_seq ?_
    refine S_reg [true, true] rfl rfl ?_
    refine J_st (R_fieldAddr0 fl70_0 rfl) rfl (J_st (R_load sc3 rfl (h1.one 0 rfl)) rfl (J_done ?_))
    refine S_block ?_
    refine S_seq ?_
    refine S_reg [true, true] rfl rfl ?_
    refine J_st (R_eql rfl rfl) rfl (J_st (R_assign rfl) rfl (J_done ?_))
    refine S_cond rfl (fun hc2 => ?_) (fun hc2 => ?_)
    · refine S_seq ?_
      refine S_reg [true, true, true, true, true, false, true, true, true] rfl rfl ?_
      refine J_st (R_move rfl) rfl (J_st (R_move rfl) rfl (J_st (R_fieldAddr0 fl70_1 rfl) rfl (J_st (R_load sc3 rfl (h1.one 1 rfl)) rfl (J_st (R_add rfl rfl rfl) rfl ?_))))
      refine J_call Try.call59 rfl (s_l02Less (IntKind.i64.wrap (b + x.a)) 999 _ ) rfl (fun _ w6 e5 hv => ?_)
      subst hv
      replace E := E.trans e5; replace h1 := h1.ext e5
      have z6 := e5.size
      refine J_st (R_assign rfl) rfl (J_st (R_assign rfl) rfl (J_st (R_assign rfl) rfl (J_done ?_)))
      refine S_ret (E_inB_ret (E_doneN (l := [.tmp 6, .tmp 7, .tmp 8]) (vs := [.int .i64 a, .int .i64 (if 999 < (IntKind.i64.wrap (b + x.a)) then 999 else (IntKind.i64.wrap (b + x.a))), .bool true]) rfl ⟨.tmp rfl, .tmp rfl, .tmp rfl, trivial⟩ rfl E ?_))
      rw [ch_2 (by assumption) (by assumption), min_999]
    · refine S_seq ?_
      refine S_reg [true, true] rfl rfl ?_
      refine J_st (R_eql rfl rfl) rfl (J_st (R_assign rfl) rfl (J_done ?_))
      refine S_cond rfl (fun hc3 => ?_) (fun hc3 => ?_)
      · refine S_seq ?_
        refine S_reg [true, true, true, true, true, true, true, true, true] rfl rfl ?_
        refine J_st (R_move rfl) rfl (J_st (R_fieldAddr0 fl70_1 rfl) rfl (J_st (R_load sc3 rfl (h1.one 1 rfl)) rfl (J_st (R_add rfl rfl rfl) rfl (J_st (R_rem rfl rfl (by decide) rfl) rfl (J_st (R_move rfl) rfl (J_st (R_assign rfl) rfl (J_st (R_assign rfl) rfl (J_st (R_assign rfl) rfl (J_done ?_)))))))))
        refine S_ret (E_inB_ret (E_doneN (l := [.tmp 6, .tmp 7, .tmp 8]) (vs := [.int .i64 (Int.tmod (IntKind.i64.wrap (a + x.a)) 100), .int .i64 b, .bool true]) rfl ⟨.tmp rfl, .tmp rfl, .tmp rfl, trivial⟩ rfl E ?_))
        rw [ch_4 (by assumption) (by assumption)]
      · refine S_seq ?_
        refine S_reg [true, true] rfl rfl ?_
        refine J_st (R_eql rfl rfl) rfl (J_st (R_assign rfl) rfl (J_done ?_))
        refine S_cond rfl (fun hc4 => ?_) (fun hc4 => ?_)
        · have hna := node_a3 hno hc4
          refine S_seq ?_
          refine S_regD mixed [(0, true), (1, true), (2, true), (3, true), (4, true), (5, true), (6, true), (7, true), (8, true), (9, true), (10, true), (11, true)] (by decide +kernel) rfl (fun w7 e6 => ?_)
          replace E := E.trans e6; replace h1 := h1.ext e6
          have z7 := e6.size
          refine J_st (R_move rfl) rfl (J_st (R_move rfl) rfl (J_st (R_move rfl) rfl (J_st (R_fieldAddr0 fl70_1 rfl) rfl (J_st (R_load sc3 rfl (h1.one 1 rfl)) rfl (J_st (R_rem rfl rfl (by omega) rfl) rfl (J_st (R_fieldAddr0 fl70_2 rfl) rfl (J_st (R_load sc3 rfl (h1.one 2 rfl)) rfl (J_st (R_eql rfl rfl) rfl (J_st (R_assign rfl) rfl (J_st (R_assign rfl) rfl (J_st (R_assign rfl) rfl (J_done ?_))))))))))))
          refine S_ret (E_inB_ret (E_doneN (l := [.tmp 6, .tmp 7, .tmp 8]) (vs := [.int .i64 a, .int .i64 b, .bool ((Int.tmod a x.a) == x.b)]) rfl ⟨.tmp rfl, .tmp rfl, .tmp rfl, trivial⟩ rfl E ?_))
          rw [ch_3 (by assumption) (by assumption)]
        · refine S_skip ?_
          refine S_nil (E_inB ?_)
          refine S_seq ?_
          refine S_regD mixed [(0, true), (1, true), (2, true), (3, true), (4, true), (5, true), (6, true), (7, true)] (by decide +kernel) rfl (fun w8 e7 => ?_)
          replace E := E.trans e7; replace h1 := h1.ext e7
          have z8 := e7.size
          refine J_st (R_move rfl) rfl (J_st (R_move rfl) rfl (J_st (R_fieldAddr0 fl70_0 rfl) rfl (J_st (R_load sc3 rfl (h1.one 0 rfl)) rfl (J_st (R_neq rfl rfl) rfl (J_st (R_assign rfl) rfl (J_st (R_assign rfl) rfl (J_st (R_assign rfl) rfl (J_done ?_))))))))
          refine S_ret (E_doneN (l := [.tmp 6, .tmp 7, .tmp 8]) (vs := [.int .i64 a, .int .i64 b, .bool (x.kind != 8)]) rfl ⟨.tmp rfl, .tmp rfl, .tmp rfl, trivial⟩ rfl E ?_)
          rw [ch_o (by assumption) (by assumption) (by assumption) (by assumption)]

end Go.Proofs.Ytlhdkpdpkgocoaa
