/- What the functions that the laws call come to: a contract each; no condition. -/
import Derived.Test.YtffofbjffbfpiaaGreatFns2
namespace Go.Proofs.YtffofbjffbfpiaaGreat
open Go Go.Proofs.YtffofbjffbfpiaaGreat.X Go.Proofs
set_option maxHeartbeats 4000000 in
set_option maxRecDepth 20000 in
theorem s_GraphOk (cg : List Value) (g : Graph) (w : World) (hg : Dat.R w 0 w.heap.size cg g) : Ct Tryz.prog 22 [.agg cg.toArray] w (fun v _ => v = .bool (graphOk g)) := by
 refine ct_of Tryz.func22 rfl Tryz.ntmps22 rfl ?_
 obtain ⟨o1, rfl, hd1⟩ := Graph.op hg
 refine S_sub [(0, .agg [o1, .int .i64 g.workers, .int .i64 g.cap].toArray)] ⟨rfl, trivial⟩ ?_
 have E : Ext w w := Ext.refl w
 refine S_seq ?_
 refine S_reg [false, true] rfl rfl ?_
 refine J_box rfl rfl (fun b1 w1 e1 s1 h1 => ?_)
 have g_b1 : w.heap.size ≤ b1 := by have := E.size; omega
 have y_b1 := h1.lt
 replace E := E.trans e1
 have z1 := e1.size
 refine J_st (R_assign rfl) rfl (J_done ?_)
 refine S_seq ?_
 refine S_seq ?_
 refine S_reg [true, true, true, false, true, true, true, true, false, true, true, true, true, true, false, true, true] rfl rfl ?_
 refine J_st (R_fieldAddr0 fl43_0 rfl) rfl (J_st (R_load sc41 rfl (h1.one 0 rfl)) rfl (J_st (R_len Tryz.underlying41 rfl (hd1.ext E).len) rfl ?_))
 refine J_call Tryz.call55 rfl (s_l01In ((g.nodes.length : Nat) : Int) 1 8 _ ) rfl (fun _ w2 e2 hv => ?_)
 subst hv
 replace E := E.trans e2; replace h1 := h1.ext e2
 have z2 := e2.size
 refine J_st (R_not rfl) rfl (J_st (R_move rfl) rfl ?_)
 refine J_cut 11 [(0, .agg [o1, .int .i64 g.workers, .int .i64 g.cap].toArray), (1, .pointer (some ⟨b1, 0, none⟩)), (2, .bool false), (24, .bool (((!(win ((g.nodes.length : Nat) : Int) 1 8)) || (!(win g.workers 1 4))) || (!(win g.cap 1 4))))] (fun w' => Ext w w' ∧ w2.heap.size ≤ w'.heap.size ∧ Blk w' b1 ([o1, .int .i64 g.workers, .int .i64 g.cap])) ?_ ?_
 ·refine J_if (gd := 13) rfl rfl (fun hg1 => ?_) (fun hg1 => ?_)
  ·refine J_gdno rfl rfl rfl rfl (J_gdno rfl rfl rfl rfl ?_)
   refine J_ungno rfl rfl rfl rfl ?_
   refine J_gdno rfl rfl rfl rfl (J_st (R_pickT rfl rfl) rfl (J_st (R_move rfl) rfl (J_gdno rfl rfl rfl rfl (J_gdno rfl rfl rfl rfl ?_))))
   refine J_ungno rfl rfl rfl rfl ?_
   refine J_gdno rfl rfl rfl rfl (J_st (R_pickT rfl rfl) rfl (J_cutEnd ⟨rfl, rfl, rfl, congrArg (fun b => some (Value.bool b)) (show true = (((!(win ((g.nodes.length : Nat) : Int) 1 8)) || (!(win g.workers 1 4))) || (!(win g.cap 1 4))) by first | (rw [hg1] <;> rfl) | (simp [hg1]; done) | (simp only [nat_nlt] <;> simp)), trivial⟩ ⟨E, (by omega), h1⟩))
  ·refine J_gd rfl rfl (R_fieldAddr0 fl43_1 rfl) rfl (J_gd rfl rfl (R_load sc3 rfl (h1.one 1 rfl)) rfl ?_)
   refine J_ung rfl rfl ?_
   refine J_call Tryz.call55 rfl (s_l01In g.workers 1 4 _ ) rfl (fun _ w4 e3 hv => ?_)
   subst hv
   replace E := E.trans e3; replace h1 := h1.ext e3
   have z3 := e3.size
   refine J_gd rfl rfl (R_not rfl) rfl (J_st (R_pickF rfl rfl) rfl (J_st (R_move rfl) rfl ?_))
   refine J_if (gd := 19) rfl rfl (fun hg2 => ?_) (fun hg2 => ?_)
   ·refine J_gdno rfl rfl rfl rfl (J_gdno rfl rfl rfl rfl ?_)
    refine J_ungno rfl rfl rfl rfl ?_
    refine J_gdno rfl rfl rfl rfl (J_st (R_pickT rfl rfl) rfl (J_cutEnd ⟨rfl, rfl, rfl, congrArg (fun b => some (Value.bool b)) (show true = (((!(win ((g.nodes.length : Nat) : Int) 1 8)) || (!(win g.workers 1 4))) || (!(win g.cap 1 4))) by first | (rw [hg1, hg2] <;> rfl) | (simp [hg1, hg2]; done) | (simp only [nat_nlt] <;> simp)), trivial⟩ ⟨E, (by omega), h1⟩))
   ·refine J_gd rfl rfl (R_fieldAddr0 fl43_2 rfl) rfl (J_gd rfl rfl (R_load sc3 rfl (h1.one 2 rfl)) rfl ?_)
    refine J_ung rfl rfl ?_
    refine J_call Tryz.call55 rfl (s_l01In g.cap 1 4 _ ) rfl (fun _ w5 e4 hv => ?_)
    subst hv
    replace E := E.trans e4; replace h1 := h1.ext e4
    have z4 := e4.size
    refine J_gd rfl rfl (R_not rfl) rfl (J_st (R_pickF rfl rfl) rfl (J_cutEnd ⟨rfl, rfl, rfl, congrArg (fun b => some (Value.bool b)) (show (!(win g.cap 1 4)) = (((!(win ((g.nodes.length : Nat) : Int) 1 8)) || (!(win g.workers 1 4))) || (!(win g.cap 1 4))) by first | (rw [hg1, hg2] <;> rfl) | (simp [hg1, hg2]; done) | (simp only [nat_nlt] <;> simp)), trivial⟩ ⟨E, (by omega), h1⟩))
 clear E h1
 rintro w3 ⟨E, z5, h1⟩
 refine J_done ?_
 refine S_cond rfl (fun hc1 => ?_) (fun hc1 => ?_)
 ·refine S_seq ?_
  refine S_reg [true] rfl rfl ?_
  refine J_st (R_assign rfl) rfl (J_done ?_)
  refine S_ret (E_done1 rfl rfl E ?_)
  exact graph_h (by assumption)
 ·refine S_skip ?_
  refine S_seq ?_
  refine S_seq ?_
  refine S_reg [true] rfl rfl ?_
  refine J_st (R_assign rfl) rfl (J_done ?_)
  refine S_block ?_
  refine S_loop (fun (i : Nat) => [(1, .pointer (some ⟨b1, 0, none⟩)), (2, .bool false), (3, .int .i64 ((i : Nat) : Int))]) (fun (i : Nat) w' => Ext w w' ∧ w3.heap.size ≤ w'.heap.size ∧ Blk w' b1 ([o1, .int .i64 g.workers, .int .i64 g.cap]) ∧ i ≤ g.nodes.length ∧ (∀ j, j < i → nodeAtOk g j (List.getD g.nodes j default) = true)) (fun (i : Nat) => g.nodes.length - i) 0 ⟨rfl, rfl, rfl, trivial⟩ ⟨E, Nat.le_refl _, h1, Nat.zero_le _, (fun j hj => by omega)⟩ ?_
  clear E h1
  rintro i w6 ⟨E, z6, h1, hle, hp⟩
  refine S_seq ?_
  refine S_seq ?_
  refine S_reg [true, true, true, true, true] rfl rfl ?_
  refine J_st (R_move rfl) rfl (J_st (R_fieldAddr0 fl43_0 rfl) rfl (J_st (R_load sc41 rfl (h1.one 0 rfl)) rfl (J_st (R_len Tryz.underlying41 rfl (hd1.ext E).len) rfl (J_st (R_lss rfl rfl) rfl (J_done ?_)))))
  refine S_cond rfl (fun hc2 => ?_) (fun hc2 => ?_)
  ·have hc2n : i < g.nodes.length := by first | (have h := of_decide_eq_true hc2; omega) | (have h := hc2; simp at h; omega)
   refine S_skip ?_
   refine S_seq ?_
   refine S_block ?_
   refine S_seq ?_
   refine S_reg [true, true, true, true, true, false, false] rfl rfl ?_
   refine J_st (R_fieldAddr0 fl43_0 rfl) rfl (J_st (R_load sc41 rfl (h1.one 0 rfl)) rfl (J_st (R_move rfl) rfl ?_))
   have hi1 : i < g.nodes.length := (by first | assumption | omega)
   obtain ⟨_, hr1, ha1⟩ := RdD.get hd1 hi1
   obtain ⟨o2, rfl, hd2⟩ := Node.op hr1
   replace ha1 : At w (sblk o1) (soff o1 + i * 4) [.int .i64 ((g.nodes[i]'hi1).kind), .int .i64 ((g.nodes[i]'hi1).a), .int .i64 ((g.nodes[i]'hi1).b), o2] := ha1
   refine J_st (R_index (i := i) sl41 rfl rfl (hd1.ext E).1 hi1) rfl (J_st (R_loadS st87 rfl (ha1.ext E) rfl) rfl ?_)
   refine J_alloc st87 rfl (fun b2 w7 e5 s2 h2 => ?_)
   have g_b2 : w.heap.size ≤ b2 := by have := E.size; omega
   have y_b2 := h2.lt
   replace E := E.trans e5; replace h1 := h1.ext e5
   have z7 := e5.size
   refine J_storeS' (cs' := [.int .i64 ((g.nodes[i]'hi1).kind), .int .i64 ((g.nodes[i]'hi1).a), .int .i64 ((g.nodes[i]'hi1).b), o2]) st87 rfl rfl rfl (all_cons rfl (all_cons rfl (all_cons rfl (all_cons (RdD.one (hd2.ext E)) rfl)))) h2 (Nat.le_of_ble_eq_true rfl) rfl (fun w8 m1 h2' => ?_)
   replace h2 := h2'
   replace E := E.step m1 (fun g hg => by cases hg; omega); replace h1 := h1.mod m1 (fun g hg => by cases hg; omega)
   have z8 := m1.size
   refine J_done ?_
   refine S_seq ?_
   refine S_seq ?_
   refine S_reg [true, false, true, true, true, true, true, true, true, true, true] rfl rfl ?_
   refine J_st (R_loadS st87 rfl h2.at rfl) rfl ?_
   refine J_call Tryz.call56 rfl (s_NodeOk [.int .i64 ((g.nodes[i]'hi1).kind), .int .i64 ((g.nodes[i]'hi1).a), .int .i64 ((g.nodes[i]'hi1).b), o2] (g.nodes[i]'hi1) _ (Node.mkR (g.nodes[i]'hi1) (RdD.any (hd2.ext E)))) rfl (fun _ w9 e6 hv => ?_)
   subst hv
   replace E := E.trans e6; replace h1 := h1.ext e6; replace h2 := h2.ext e6
   have z9 := e6.size
   refine J_st (R_not rfl) rfl (J_st (R_move rfl) rfl ?_)
   refine J_cut 7 [(1, .pointer (some ⟨b1, 0, none⟩)), (2, .bool false), (3, .int .i64 ((i : Nat) : Int)), (4, .pointer (some ⟨b2, 0, none⟩)), (25, .int .i64 ((i : Nat) : Int)), (26, .pointer (some ⟨b1, 0, none⟩)), (27, o1), (28, .int .i64 ((g.nodes.length : Nat) : Int)), (29, .bool (decide (((i : Nat) : Int) < ((g.nodes.length : Nat) : Int)))), (32, .pointer (some ⟨b1, 0, none⟩)), (33, o1), (34, .int .i64 ((i : Nat) : Int)), (35, .pointer (some ⟨sblk o1, soff o1 + i * 4, none⟩)), (36, .agg [.int .i64 ((g.nodes[i]'hi1).kind), .int .i64 ((g.nodes[i]'hi1).a), .int .i64 ((g.nodes[i]'hi1).b), o2].toArray), (47, .bool ((!(nodeOk (g.nodes[i]'hi1))) || (!((((g.nodes[i]'hi1).kind) == 1) == (((i : Nat) : Int) == 0)))))] (fun w' => w9 = w') ?_ ?_
   ·refine J_if (gd := 40) rfl rfl (fun hg3 => ?_) (fun hg3 => ?_)
    ·refine J_gdno rfl rfl rfl rfl (J_gdno rfl rfl rfl rfl (J_gdno rfl rfl rfl rfl (J_gdno rfl rfl rfl rfl (J_gdno rfl rfl rfl rfl (J_gdno rfl rfl rfl rfl (J_st (R_pickT rfl rfl) rfl (J_cutEnd ⟨rfl, rfl, rfl, rfl, rfl, rfl, rfl, rfl, rfl, rfl, rfl, rfl, rfl, rfl, congrArg (fun b => some (Value.bool b)) (show true = ((!(nodeOk (g.nodes[i]'hi1))) || (!((((g.nodes[i]'hi1).kind) == 1) == (((i : Nat) : Int) == 0)))) by first | (rw [hg3] <;> rfl) | (simp [hg3]; done) | (simp only [nat_nlt] <;> simp)), trivial⟩ rfl)))))))
    ·refine J_gd rfl rfl (R_fieldAddr0 fl87_0 rfl) rfl (J_gd rfl rfl (R_load sc3 rfl (h2.one 0 rfl)) rfl (J_gd rfl rfl (R_eql rfl rfl) rfl (J_gd rfl rfl (R_move rfl) rfl (J_gd rfl rfl (R_eql rfl rfl) rfl (J_gd rfl rfl (R_neqB (Tryz.underlying4) rfl rfl) rfl (J_st (R_pickF rfl rfl) rfl (J_cutEnd ⟨rfl, rfl, rfl, rfl, rfl, rfl, rfl, rfl, rfl, rfl, rfl, rfl, rfl, rfl, congrArg (fun b => some (Value.bool b)) (show (!((((g.nodes[i]'hi1).kind) == 1) == (((i : Nat) : Int) == 0))) = ((!(nodeOk (g.nodes[i]'hi1))) || (!((((g.nodes[i]'hi1).kind) == 1) == (((i : Nat) : Int) == 0)))) by first | (rw [hg3] <;> rfl) | (simp [hg3]; done) | (simp only [nat_nlt] <;> simp)), trivial⟩ rfl)))))))
   rintro _ rfl
   refine J_done ?_
   refine S_cond rfl (fun hc3 => ?_) (fun hc3 => ?_)
   ·refine S_seq ?_
    refine S_reg [true] rfl rfl ?_
    refine J_st (R_assign rfl) rfl (J_done ?_)
    refine S_ret (E_inB_ret (E_lp_ret (E_inB_ret (E_done1 rfl rfl E ?_))))
    exact graph_a (by assumption)
   ·refine S_skip ?_
    refine S_seq ?_
    refine S_reg [true] rfl rfl ?_
    refine J_st (R_assign rfl) rfl (J_done ?_)
    refine S_block ?_
    refine S_loop (fun (k : Nat) => [(1, .pointer (some ⟨b1, 0, none⟩)), (2, .bool false), (3, .int .i64 ((i : Nat) : Int)), (4, .pointer (some ⟨b2, 0, none⟩)), (5, .int .i64 ((k : Nat) : Int))]) (fun (k : Nat) w' => Ext w w' ∧ w9.heap.size ≤ w'.heap.size ∧ Blk w' b1 ([o1, .int .i64 g.workers, .int .i64 g.cap]) ∧ Blk w' b2 [.int .i64 ((g.nodes[i]'hi1).kind), .int .i64 ((g.nodes[i]'hi1).a), .int .i64 ((g.nodes[i]'hi1).b), o2] ∧ k ≤ (g.nodes[i]'hi1).outs.length ∧ ((g.nodes[i]'hi1).outs.take k).all (fun to => !edgeBad g i (g.nodes[i]'hi1) to) = true) (fun (k : Nat) => (g.nodes[i]'hi1).outs.length - k) 0 ⟨rfl, rfl, rfl, rfl, rfl, trivial⟩ ⟨E, Nat.le_refl _, h1, h2, Nat.zero_le _, rfl⟩ ?_
    clear E h1 h2
    rintro k w11 ⟨E, z10, h1, h2, hk, hI⟩
    refine S_seq ?_
    refine S_seq ?_
    refine S_reg [true, true, true, true, true] rfl rfl ?_
    refine J_st (R_move rfl) rfl (J_st (R_fieldAddr0 fl87_3 rfl) rfl (J_st (R_load sc27 rfl (h2.one 3 rfl)) rfl (J_st (R_len Tryz.underlying27 rfl (hd2.ext E).len) rfl (J_st (R_lss rfl rfl) rfl (J_done ?_)))))
    refine S_cond rfl (fun hc4 => ?_) (fun hc4 => ?_)
    ·have hc4n : k < ((g.nodes[i]'hi1).outs).length := by first | (have h := of_decide_eq_true hc4; omega) | (have h := hc4; simp at h; omega)
     refine S_skip ?_
     refine S_seq ?_
     refine S_block ?_
     refine S_seq ?_
     refine S_reg [true, true, true, true, true, true] rfl rfl ?_
     refine J_st (R_fieldAddr0 fl87_3 rfl) rfl (J_st (R_load sc27 rfl (h2.one 3 rfl)) rfl (J_st (R_move rfl) rfl ?_))
     have hi2 : k < ((g.nodes[i]'hi1).outs).length := (by first | assumption | omega)
     refine J_st (R_index (i := k) sl27 rfl rfl (hd2.rd.ext E) hi2) rfl (J_st (R_load sc3 rfl (((hd2.rd.ext E).get hi2).one 0 rfl)) rfl (J_st (R_assign rfl) rfl (J_done ?_)))
     refine S_seq ?_
     refine S_seq ?_
     refine S_reg [true, true, true, true, true, true, true, true, true, true, true, true, true, true, true] rfl rfl ?_
     refine J_st (R_move rfl) rfl (J_st (R_fieldAddr0 fl43_0 rfl) rfl (J_st (R_load sc41 rfl (h1.one 0 rfl)) rfl (J_st (R_len Tryz.underlying41 rfl (hd1.ext E).len) rfl (J_st (R_geq rfl rfl) rfl (J_st (R_move rfl) rfl ?_)))))
     refine J_cut 9 [(1, .pointer (some ⟨b1, 0, none⟩)), (2, .bool false), (3, .int .i64 ((i : Nat) : Int)), (4, .pointer (some ⟨b2, 0, none⟩)), (5, .int .i64 ((k : Nat) : Int)), (6, .int .i64 (((g.nodes[i]'hi1).outs)[k]'hi2)), (48, .int .i64 ((k : Nat) : Int)), (49, .pointer (some ⟨b2, 3, none⟩)), (50, o2), (51, .int .i64 ((((g.nodes[i]'hi1).outs).length : Nat) : Int)), (52, .bool (decide (((k : Nat) : Int) < ((((g.nodes[i]'hi1).outs).length : Nat) : Int)))), (55, .pointer (some ⟨b2, 3, none⟩)), (56, o2), (57, .int .i64 ((k : Nat) : Int)), (58, .pointer (some ⟨sblk o2, soff o2 + k * 1, none⟩)), (59, .int .i64 (((g.nodes[i]'hi1).outs)[k]'hi2)), (74, .bool ((decide (((g.nodes.length : Nat) : Int) ≤ (((g.nodes[i]'hi1).outs)[k]'hi2))) || ((((g.nodes[i]'hi1).kind) != 7) && (decide ((((g.nodes[i]'hi1).outs)[k]'hi2) ≤ ((i : Nat) : Int))))))] (fun w' => w11 = w') ?_ ?_
     ·refine J_if (gd := 65) rfl rfl (fun hg4 => ?_) (fun hg4 => ?_)
      ·refine J_gdno rfl rfl rfl rfl (J_gdno rfl rfl rfl rfl (J_gdno rfl rfl rfl rfl (J_gdno rfl rfl rfl rfl (J_gdx rfl rfl rfl (J_gdx rfl rfl rfl (J_gdx rfl rfl rfl (J_gdno rfl rfl rfl rfl (J_st (R_pickT rfl rfl) rfl (J_cutEnd ⟨rfl, rfl, rfl, rfl, rfl, rfl, rfl, rfl, rfl, rfl, rfl, rfl, rfl, rfl, rfl, rfl, congrArg (fun b => some (Value.bool b)) (show true = ((decide (((g.nodes.length : Nat) : Int) ≤ (((g.nodes[i]'hi1).outs)[k]'hi2))) || ((((g.nodes[i]'hi1).kind) != 7) && (decide ((((g.nodes[i]'hi1).outs)[k]'hi2) ≤ ((i : Nat) : Int))))) by first | (rw [hg4] <;> rfl) | (simp [hg4]; done) | (simp only [nat_nlt] <;> simp)), trivial⟩ rfl)))))))))
      ·have hto := graph_to (h1 := hi1) (h2 := hi2) (by assumption)
       have htl := Int.not_le.1 (of_decide_eq_false hg4)
       refine J_gd rfl rfl (R_fieldAddr0 fl87_0 rfl) rfl (J_gd rfl rfl (R_load sc3 rfl (h2.one 0 rfl)) rfl (J_gd rfl rfl (R_neq rfl rfl) rfl (J_gd rfl rfl (R_move rfl) rfl ?_)))
       refine J_if (gd := 69) rfl rfl (fun hg5 => ?_) (fun hg5 => ?_)
       ·refine J_gd rfl rfl (R_move rfl) rfl (J_gd rfl rfl (R_move rfl) rfl (J_gd rfl rfl (R_leq rfl rfl) rfl (J_gd rfl rfl (R_pickT rfl rfl) rfl (J_st (R_pickF rfl rfl) rfl (J_cutEnd ⟨rfl, rfl, rfl, rfl, rfl, rfl, rfl, rfl, rfl, rfl, rfl, rfl, rfl, rfl, rfl, rfl, congrArg (fun b => some (Value.bool b)) (show (decide ((((g.nodes[i]'hi1).outs)[k]'hi2) ≤ ((i : Nat) : Int))) = ((decide (((g.nodes.length : Nat) : Int) ≤ (((g.nodes[i]'hi1).outs)[k]'hi2))) || ((((g.nodes[i]'hi1).kind) != 7) && (decide ((((g.nodes[i]'hi1).outs)[k]'hi2) ≤ ((i : Nat) : Int))))) by first | (rw [hg4, hg5] <;> rfl) | (simp [hg4, hg5]; done) | (simp only [nat_nlt] <;> simp)), trivial⟩ rfl)))))
       ·refine J_gdno rfl rfl rfl rfl (J_gdno rfl rfl rfl rfl (J_gdno rfl rfl rfl rfl (J_gd rfl rfl (R_pickF rfl rfl) rfl (J_st (R_pickF rfl rfl) rfl (J_cutEnd ⟨rfl, rfl, rfl, rfl, rfl, rfl, rfl, rfl, rfl, rfl, rfl, rfl, rfl, rfl, rfl, rfl, congrArg (fun b => some (Value.bool b)) (show false = ((decide (((g.nodes.length : Nat) : Int) ≤ (((g.nodes[i]'hi1).outs)[k]'hi2))) || ((((g.nodes[i]'hi1).kind) != 7) && (decide ((((g.nodes[i]'hi1).outs)[k]'hi2) ≤ ((i : Nat) : Int))))) by first | (rw [hg4, hg5] <;> rfl) | (simp [hg4, hg5]; done) | (simp only [nat_nlt] <;> simp)), trivial⟩ rfl)))))
     rintro _ rfl
     refine J_done ?_
     refine S_cond rfl (fun hc5 => ?_) (fun hc5 => ?_)
     ·refine S_seq ?_
      refine S_reg [true] rfl rfl ?_
      refine J_st (R_assign rfl) rfl (J_done ?_)
      refine S_ret (E_inB_ret (E_lp_ret (E_inB_ret (E_inB_ret (E_lp_ret (E_inB_ret (E_done1 rfl rfl E ?_)))))))
      exact graph_e (edge_s1 (by assumption))
     ·have hto := graph_to (h1 := hi1) (h2 := hi2) (by assumption)
      have htl := edge_lt hc5
      refine S_skip ?_
      refine S_seq ?_
      refine S_reg [true, true, true, true, true, true, true] rfl rfl ?_
      refine J_st (R_fieldAddr0 fl43_0 rfl) rfl (J_st (R_load sc41 rfl (h1.one 0 rfl)) rfl (J_st (R_move rfl) rfl ?_))
      have hi3 : (Int.toNat (((g.nodes[i]'hi1).outs)[k]'hi2)) < g.nodes.length := (by first | assumption | omega)
      obtain ⟨_, hr2, ha2⟩ := RdD.get hd1 hi3
      obtain ⟨o3, rfl, hd3⟩ := Node.op hr2
      replace ha2 : At w (sblk o1) (soff o1 + (Int.toNat (((g.nodes[i]'hi1).outs)[k]'hi2)) * 4) [.int .i64 ((g.nodes[(Int.toNat (((g.nodes[i]'hi1).outs)[k]'hi2))]'hi3).kind), .int .i64 ((g.nodes[(Int.toNat (((g.nodes[i]'hi1).outs)[k]'hi2))]'hi3).a), .int .i64 ((g.nodes[(Int.toNat (((g.nodes[i]'hi1).outs)[k]'hi2))]'hi3).b), o3] := ha2
      refine J_st (R_indexZ (i := (Int.toNat (((g.nodes[i]'hi1).outs)[k]'hi2))) sl41 rfl rfl (hd1.ext E).1 (by omega) hi3) rfl (J_st (R_fieldAddr fl87_0 rfl) rfl (J_st (R_load sc3 rfl ((ha2.ext E).one 0 rfl)) rfl (J_st (R_assign rfl) rfl (J_done ?_))))
      refine S_seq ?_
      refine S_reg [true, true, true, true, true, true, true, true, true, true, true, true, true, true, true, true] rfl rfl ?_
      refine J_st (R_fieldAddr0 fl87_0 rfl) rfl (J_st (R_load sc3 rfl (h2.one 0 rfl)) rfl (J_st (R_eql rfl rfl) rfl (J_st (R_move rfl) rfl ?_)))
      refine J_cut 12 [(1, .pointer (some ⟨b1, 0, none⟩)), (2, .bool false), (3, .int .i64 ((i : Nat) : Int)), (4, .pointer (some ⟨b2, 0, none⟩)), (5, .int .i64 ((k : Nat) : Int)), (6, .int .i64 (((g.nodes[i]'hi1).outs)[k]'hi2)), (7, .int .i64 ((g.nodes[(Int.toNat (((g.nodes[i]'hi1).outs)[k]'hi2))]'hi3).kind)), (48, .int .i64 ((k : Nat) : Int)), (49, .pointer (some ⟨b2, 3, none⟩)), (50, o2), (51, .int .i64 ((((g.nodes[i]'hi1).outs).length : Nat) : Int)), (52, .bool (decide (((k : Nat) : Int) < ((((g.nodes[i]'hi1).outs).length : Nat) : Int)))), (55, .pointer (some ⟨b2, 3, none⟩)), (56, o2), (57, .int .i64 ((k : Nat) : Int)), (58, .pointer (some ⟨sblk o2, soff o2 + k * 1, none⟩)), (59, .int .i64 (((g.nodes[i]'hi1).outs)[k]'hi2)), (74, .bool ((decide (((g.nodes.length : Nat) : Int) ≤ (((g.nodes[i]'hi1).outs)[k]'hi2))) || ((((g.nodes[i]'hi1).kind) != 7) && (decide ((((g.nodes[i]'hi1).outs)[k]'hi2) ≤ ((i : Nat) : Int)))))), (75, .pointer (some ⟨b1, 0, none⟩)), (76, o1), (77, .int .i64 (((g.nodes[i]'hi1).outs)[k]'hi2)), (78, .pointer (some ⟨sblk o1, soff o1 + (Int.toNat (((g.nodes[i]'hi1).outs)[k]'hi2)) * 4, none⟩)), (79, .pointer (some ⟨(sblk o1), soff o1 + (Int.toNat (((g.nodes[i]'hi1).outs)[k]'hi2)) * 4 + 0, none⟩)), (80, .int .i64 ((g.nodes[(Int.toNat (((g.nodes[i]'hi1).outs)[k]'hi2))]'hi3).kind)), (96, .bool ((((g.nodes[i]'hi1).kind) == 7) && ((decide (((i : Nat) : Int) < (((g.nodes[i]'hi1).outs)[k]'hi2))) || ((((g.nodes[(Int.toNat (((g.nodes[i]'hi1).outs)[k]'hi2))]'hi3).kind) != 5) && (((g.nodes[(Int.toNat (((g.nodes[i]'hi1).outs)[k]'hi2))]'hi3).kind) != 6)))))] (fun w' => w11 = w') ?_ ?_
      ·refine J_if (gd := 84) rfl rfl (fun hg6 => ?_) (fun hg6 => ?_)
       ·refine J_gd rfl rfl (R_move rfl) rfl (J_gd rfl rfl (R_move rfl) rfl (J_gd rfl rfl (R_gtr rfl rfl) rfl (J_gd rfl rfl (R_move rfl) rfl ?_)))
        refine J_if (gd := 88) rfl rfl (fun hg7 => ?_) (fun hg7 => ?_)
        ·refine J_gdno rfl rfl rfl rfl (J_gdno rfl rfl rfl rfl (J_gdno rfl rfl rfl rfl (J_gdx rfl rfl rfl (J_gdx rfl rfl rfl (J_gdno rfl rfl rfl rfl (J_gd rfl rfl (R_pickT rfl rfl) rfl (J_st (R_pickT rfl rfl) rfl (J_cutEnd ⟨rfl, rfl, rfl, rfl, rfl, rfl, rfl, rfl, rfl, rfl, rfl, rfl, rfl, rfl, rfl, rfl, rfl, rfl, rfl, rfl, rfl, rfl, rfl, rfl, congrArg (fun b => some (Value.bool b)) (show true = ((((g.nodes[i]'hi1).kind) == 7) && ((decide (((i : Nat) : Int) < (((g.nodes[i]'hi1).outs)[k]'hi2))) || ((((g.nodes[(Int.toNat (((g.nodes[i]'hi1).outs)[k]'hi2))]'hi3).kind) != 5) && (((g.nodes[(Int.toNat (((g.nodes[i]'hi1).outs)[k]'hi2))]'hi3).kind) != 6)))) by first | (rw [hg6, hg7] <;> rfl) | (simp [hg6, hg7]; done) | (simp only [nat_nlt] <;> simp)), trivial⟩ rfl))))))))
        ·refine J_gd rfl rfl (R_move rfl) rfl (J_gd rfl rfl (R_neq rfl rfl) rfl (J_gd rfl rfl (R_move rfl) rfl ?_))
         refine J_if (gd := 91) rfl rfl (fun hg8 => ?_) (fun hg8 => ?_)
         ·refine J_gd rfl rfl (R_move rfl) rfl (J_gd rfl rfl (R_neq rfl rfl) rfl (J_gd rfl rfl (R_pickT rfl rfl) rfl (J_gd rfl rfl (R_pickF rfl rfl) rfl (J_st (R_pickT rfl rfl) rfl (J_cutEnd ⟨rfl, rfl, rfl, rfl, rfl, rfl, rfl, rfl, rfl, rfl, rfl, rfl, rfl, rfl, rfl, rfl, rfl, rfl, rfl, rfl, rfl, rfl, rfl, rfl, congrArg (fun b => some (Value.bool b)) (show (((g.nodes[(Int.toNat (((g.nodes[i]'hi1).outs)[k]'hi2))]'hi3).kind) != 6) = ((((g.nodes[i]'hi1).kind) == 7) && ((decide (((i : Nat) : Int) < (((g.nodes[i]'hi1).outs)[k]'hi2))) || ((((g.nodes[(Int.toNat (((g.nodes[i]'hi1).outs)[k]'hi2))]'hi3).kind) != 5) && (((g.nodes[(Int.toNat (((g.nodes[i]'hi1).outs)[k]'hi2))]'hi3).kind) != 6)))) by first | (rw [hg6, hg7, hg8] <;> rfl) | (simp [hg6, hg7, hg8]; done) | (simp only [nat_nlt] <;> simp)), trivial⟩ rfl)))))
         ·refine J_gdno rfl rfl rfl rfl (J_gdno rfl rfl rfl rfl (J_gd rfl rfl (R_pickF rfl rfl) rfl (J_gd rfl rfl (R_pickF rfl rfl) rfl (J_st (R_pickT rfl rfl) rfl (J_cutEnd ⟨rfl, rfl, rfl, rfl, rfl, rfl, rfl, rfl, rfl, rfl, rfl, rfl, rfl, rfl, rfl, rfl, rfl, rfl, rfl, rfl, rfl, rfl, rfl, rfl, congrArg (fun b => some (Value.bool b)) (show false = ((((g.nodes[i]'hi1).kind) == 7) && ((decide (((i : Nat) : Int) < (((g.nodes[i]'hi1).outs)[k]'hi2))) || ((((g.nodes[(Int.toNat (((g.nodes[i]'hi1).outs)[k]'hi2))]'hi3).kind) != 5) && (((g.nodes[(Int.toNat (((g.nodes[i]'hi1).outs)[k]'hi2))]'hi3).kind) != 6)))) by first | (rw [hg6, hg7, hg8] <;> rfl) | (simp [hg6, hg7, hg8]; done) | (simp only [nat_nlt] <;> simp)), trivial⟩ rfl)))))
       ·refine J_gdno rfl rfl rfl rfl (J_gdno rfl rfl rfl rfl (J_gdno rfl rfl rfl rfl (J_gdno rfl rfl rfl rfl (J_gdx rfl rfl rfl (J_gdx rfl rfl rfl (J_gdx rfl rfl rfl (J_gdx rfl rfl rfl (J_gdx rfl rfl rfl (J_gdx rfl rfl rfl (J_gdno rfl rfl rfl rfl (J_st (R_pickF rfl rfl) rfl (J_cutEnd ⟨rfl, rfl, rfl, rfl, rfl, rfl, rfl, rfl, rfl, rfl, rfl, rfl, rfl, rfl, rfl, rfl, rfl, rfl, rfl, rfl, rfl, rfl, rfl, rfl, congrArg (fun b => some (Value.bool b)) (show false = ((((g.nodes[i]'hi1).kind) == 7) && ((decide (((i : Nat) : Int) < (((g.nodes[i]'hi1).outs)[k]'hi2))) || ((((g.nodes[(Int.toNat (((g.nodes[i]'hi1).outs)[k]'hi2))]'hi3).kind) != 5) && (((g.nodes[(Int.toNat (((g.nodes[i]'hi1).outs)[k]'hi2))]'hi3).kind) != 6)))) by first | (rw [hg6] <;> rfl) | (simp [hg6]; done) | (simp only [nat_nlt] <;> simp)), trivial⟩ rfl))))))))))))
      rintro _ rfl
      refine J_done ?_
      refine S_cond rfl (fun hc6 => ?_) (fun hc6 => ?_)
      ·refine S_seq ?_
       refine S_reg [true] rfl rfl ?_
       refine J_st (R_assign rfl) rfl (J_done ?_)
       refine S_ret (E_inB_ret (E_lp_ret (E_inB_ret (E_inB_ret (E_lp_ret (E_inB_ret (E_done1 rfl rfl E ?_)))))))
       exact graph_e (edge_s2 (congrArg Node.kind (getD_at _)).symm (by assumption))
      ·refine S_skip ?_
       refine S_nil (E_inB ?_)
       refine S_reg [true, true, true] rfl rfl ?_
       refine J_st (R_move rfl) rfl (J_st (R_add rfl rfl (add_one hc4n (hd2.ext E).1.1)) rfl (J_st (R_assign rfl) rfl (J_done ?_)))
       refine S_nil (E_again (k + 1) (by omega) ⟨rfl, rfl, rfl, rfl, rfl, trivial⟩ ⟨E, (by omega), h1, h2, (by omega), all_step hI (by assumption) (edge_sn (congrArg Node.kind (getD_at _)).symm (by assumption) (by assumption))⟩)
    ·have hc4n : ¬ k < ((g.nodes[i]'hi1).outs).length := by first | (have h := of_decide_eq_false hc4; omega) | (have h := hc4; simp at h; omega)
     refine S_exit (E_lp_exit (E_inB_exit ?_))
     refine S_nil (E_inB ?_)
     refine S_reg [true, true, true] rfl rfl ?_
     refine J_st (R_move rfl) rfl (J_st (R_add rfl rfl (add_one hc2n (hd1.ext E).1.1)) rfl (J_st (R_assign rfl) rfl (J_done ?_)))
     refine S_nil (E_again (i + 1) (by omega) ⟨rfl, rfl, rfl, trivial⟩ ⟨E, (by omega), h1, (by omega), graph_s (h1 := hi1) (by assumption) hI (by omega) hp⟩)
  ·have hc2n : ¬ i < g.nodes.length := by first | (have h := of_decide_eq_false hc2; omega) | (have h := hc2; simp at h; omega)
   refine S_exit (E_lp_exit (E_inB_exit ?_))
   refine S_seq ?_
   refine S_reg [true] rfl rfl ?_
   refine J_st (R_assign rfl) rfl (J_done ?_)
   refine S_ret (E_done1 rfl rfl E ?_)
   exact graph_y (by assumption) hp (by omega)

set_option maxRecDepth 20000 in
theorem c_toStamp (x : Stamp) (w : World)  : Ct Tryz.prog 91 [.agg (Enc.enc x).toArray] w (fun v _ => v = .agg (Enc.enc x).toArray) := by
 refine ct_of Tryz.func91 rfl Tryz.ntmps91 rfl ?_
 refine S_sub [(0, .agg (Enc.enc x).toArray)] ⟨rfl, trivial⟩ ?_
 have E : Ext w w := Ext.refl w
 refine S_seq ?_
 refine S_reg [false, false] rfl rfl ?_
 refine J_box rfl rfl (fun b1 w1 e1 s1 h1 => ?_)
 have g_b1 : w.heap.size ≤ b1 := by have := E.size; omega
 have y_b1 := h1.lt
 replace E := E.trans e1
 have z1 := e1.size
 refine J_alloc st61 rfl (fun b2 w2 e2 s2 h2 => ?_)
 have g_b2 : w.heap.size ≤ b2 := by have := E.size; omega
 have y_b2 := h2.lt
 replace E := E.trans e2; replace h1 := h1.ext e2
 have z2 := e2.size
 refine J_done ?_
 refine S_seq ?_
 refine S_reg [false] rfl rfl ?_
 refine J_alloc st61 rfl (fun b3 w3 e3 s3 h3 => ?_)
 have g_b3 : w.heap.size ≤ b3 := by have := E.size; omega
 have y_b3 := h3.lt
 replace E := E.trans e3; replace h1 := h1.ext e3; replace h2 := h2.ext e3
 have z3 := e3.size
 refine J_done ?_
 refine S_seq ?_
 refine S_reg [true, true, true, false] rfl rfl ?_
 refine J_st (R_fieldAddr0 fl107_0 rfl) rfl (J_st (R_load sc3 rfl (h1.one 0 rfl)) rfl (J_st (R_fieldAddr0 fl61_0 rfl) rfl ?_))
 refine J_store' (cs' := [.int .i64 x.epoch, .int .i64 0]) sc3 rfl rfl rfl h3 (Nat.le_of_ble_eq_true rfl) rfl (fun w4 m1 h3' => ?_)
 replace h3 := h3'
 replace E := E.step m1 (fun g hg => by cases hg; omega); replace h1 := h1.mod m1 (fun g hg => by cases hg; omega); replace h2 := h2.mod m1 (fun g hg => by cases hg; omega)
 have z4 := m1.size
 refine J_done ?_
 refine S_seq ?_
 refine S_reg [true, true, true, false] rfl rfl ?_
 refine J_st (R_fieldAddr0 fl107_1 rfl) rfl (J_st (R_load sc3 rfl (h1.one 1 rfl)) rfl (J_st (R_fieldAddr0 fl61_1 rfl) rfl ?_))
 refine J_store' (cs' := [.int .i64 x.epoch, .int .i64 x.turn]) sc3 rfl rfl rfl h3 (Nat.le_of_ble_eq_true rfl) rfl (fun w5 m2 h3' => ?_)
 replace h3 := h3'
 replace E := E.step m2 (fun g hg => by cases hg; omega); replace h1 := h1.mod m2 (fun g hg => by cases hg; omega); replace h2 := h2.mod m2 (fun g hg => by cases hg; omega)
 have z5 := m2.size
 refine J_done ?_
 refine S_seq ?_
 refine S_reg [true, false] rfl rfl ?_
 refine J_st (R_loadS st61 rfl h3.at rfl) rfl ?_
 refine J_storeS' (cs' := [.int .i64 x.epoch, .int .i64 x.turn]) st61 rfl rfl rfl rfl h2 (Nat.le_of_ble_eq_true rfl) rfl (fun w6 m3 h2' => ?_)
 replace h2 := h2'
 replace E := E.step m3 (fun g hg => by cases hg; omega); replace h1 := h1.mod m3 (fun g hg => by cases hg; omega); replace h3 := h3.mod m3 (fun g hg => by cases hg; omega)
 have z6 := m3.size
 refine J_done ?_
 refine S_ret (E_doneC rfl rfl (run_loadVar_st st61 h2.at rfl) E ?_)
 rfl

set_option maxRecDepth 20000 in
theorem c_toRecord (x : Record) (w : World)  : Ct Tryz.prog 66 [.agg (Enc.enc x).toArray] w (fun v _ => v = .agg (Enc.enc x).toArray) := by
 refine ct_of Tryz.func66 rfl Tryz.ntmps66 rfl ?_
 refine S_sub [(0, .agg (Enc.enc x).toArray)] ⟨rfl, trivial⟩ ?_
 have E : Ext w w := Ext.refl w
 refine S_seq ?_
 refine S_reg [false, false] rfl rfl ?_
 refine J_box rfl rfl (fun b1 w1 e1 s1 h1 => ?_)
 have g_b1 : w.heap.size ≤ b1 := by have := E.size; omega
 have y_b1 := h1.lt
 replace E := E.trans e1
 have z1 := e1.size
 refine J_alloc st63 rfl (fun b2 w2 e2 s2 h2 => ?_)
 have g_b2 : w.heap.size ≤ b2 := by have := E.size; omega
 have y_b2 := h2.lt
 replace E := E.trans e2; replace h1 := h1.ext e2
 have z2 := e2.size
 refine J_done ?_
 refine S_seq ?_
 refine S_reg [false] rfl rfl ?_
 refine J_alloc st63 rfl (fun b3 w3 e3 s3 h3 => ?_)
 have g_b3 : w.heap.size ≤ b3 := by have := E.size; omega
 have y_b3 := h3.lt
 replace E := E.trans e3; replace h1 := h1.ext e3; replace h2 := h2.ext e3
 have z3 := e3.size
 refine J_done ?_
 refine S_seq ?_
 refine S_reg [true, true, true, false] rfl rfl ?_
 refine J_st (R_fieldAddr0 fl109_0 rfl) rfl (J_st (R_load sc3 rfl (h1.one 0 rfl)) rfl (J_st (R_fieldAddr0 fl63_0 rfl) rfl ?_))
 refine J_store' (cs' := [.int .i64 x.op, .int .i64 0, .int .i64 0, .int .i64 0, .int .i64 0]) sc3 rfl rfl rfl h3 (Nat.le_of_ble_eq_true rfl) rfl (fun w4 m1 h3' => ?_)
 replace h3 := h3'
 replace E := E.step m1 (fun g hg => by cases hg; omega); replace h1 := h1.mod m1 (fun g hg => by cases hg; omega); replace h2 := h2.mod m1 (fun g hg => by cases hg; omega)
 have z4 := m1.size
 refine J_done ?_
 refine S_seq ?_
 refine S_reg [true, true, false, true, false] rfl rfl ?_
 refine J_st (R_fieldAddr0 fl109_1 rfl) rfl (J_st (R_loadS st107 rfl (h1.part 1 [.int .i64 x.stamp.epoch, .int .i64 x.stamp.turn] rfl) rfl) rfl ?_)
 refine J_call Tryz.call91 rfl (c_toStamp x.stamp _ ) rfl (fun _ w5 e4 hv => ?_)
 subst hv
 replace E := E.trans e4; replace h1 := h1.ext e4; replace h2 := h2.ext e4; replace h3 := h3.ext e4
 have z5 := e4.size
 refine J_st (R_fieldAddr0 fl63_1 rfl) rfl ?_
 refine J_storeS' (cs' := [.int .i64 x.op, .int .i64 x.stamp.epoch, .int .i64 x.stamp.turn, .int .i64 0, .int .i64 0]) st61 rfl rfl rfl rfl h3 (Nat.le_of_ble_eq_true rfl) rfl (fun w6 m2 h3' => ?_)
 replace h3 := h3'
 replace E := E.step m2 (fun g hg => by cases hg; omega); replace h1 := h1.mod m2 (fun g hg => by cases hg; omega); replace h2 := h2.mod m2 (fun g hg => by cases hg; omega)
 have z6 := m2.size
 refine J_done ?_
 refine S_seq ?_
 refine S_reg [true, true, true, false] rfl rfl ?_
 refine J_st (R_fieldAddr0 fl109_2 rfl) rfl (J_st (R_load sc3 rfl (h1.one 3 rfl)) rfl (J_st (R_fieldAddr0 fl63_2 rfl) rfl ?_))
 refine J_store' (cs' := [.int .i64 x.op, .int .i64 x.stamp.epoch, .int .i64 x.stamp.turn, .int .i64 x.key, .int .i64 0]) sc3 rfl rfl rfl h3 (Nat.le_of_ble_eq_true rfl) rfl (fun w7 m3 h3' => ?_)
 replace h3 := h3'
 replace E := E.step m3 (fun g hg => by cases hg; omega); replace h1 := h1.mod m3 (fun g hg => by cases hg; omega); replace h2 := h2.mod m3 (fun g hg => by cases hg; omega)
 have z7 := m3.size
 refine J_done ?_
 refine S_seq ?_
 refine S_reg [true, true, true, false] rfl rfl ?_
 refine J_st (R_fieldAddr0 fl109_3 rfl) rfl (J_st (R_load sc3 rfl (h1.one 4 rfl)) rfl (J_st (R_fieldAddr0 fl63_3 rfl) rfl ?_))
 refine J_store' (cs' := [.int .i64 x.op, .int .i64 x.stamp.epoch, .int .i64 x.stamp.turn, .int .i64 x.key, .int .i64 x.val]) sc3 rfl rfl rfl h3 (Nat.le_of_ble_eq_true rfl) rfl (fun w8 m4 h3' => ?_)
 replace h3 := h3'
 replace E := E.step m4 (fun g hg => by cases hg; omega); replace h1 := h1.mod m4 (fun g hg => by cases hg; omega); replace h2 := h2.mod m4 (fun g hg => by cases hg; omega)
 have z8 := m4.size
 refine J_done ?_
 refine S_seq ?_
 refine S_reg [true, false] rfl rfl ?_
 refine J_st (R_loadS st63 rfl h3.at rfl) rfl ?_
 refine J_storeS' (cs' := [.int .i64 x.op, .int .i64 x.stamp.epoch, .int .i64 x.stamp.turn, .int .i64 x.key, .int .i64 x.val]) st63 rfl rfl rfl rfl h2 (Nat.le_of_ble_eq_true rfl) rfl (fun w9 m5 h2' => ?_)
 replace h2 := h2'
 replace E := E.step m5 (fun g hg => by cases hg; omega); replace h1 := h1.mod m5 (fun g hg => by cases hg; omega); replace h3 := h3.mod m5 (fun g hg => by cases hg; omega)
 have z9 := m5.size
 refine J_done ?_
 refine S_ret (E_doneC rfl rfl (run_loadVar_st st63 h2.at rfl) E ?_)
 rfl

set_option maxRecDepth 20000 in
theorem c_eqStamp (x : Stamp) (y : Stamp) (w : World)  : Ct Tryz.prog 100 [.agg (Enc.enc x).toArray, .agg (Enc.enc y).toArray] w (fun v _ => v = .bool (decide (x = y))) := by
 refine ct_of Tryz.func100 rfl Tryz.ntmps100 rfl ?_
 refine S_sub [(0, .agg (Enc.enc x).toArray), (1, .agg (Enc.enc y).toArray)] ⟨rfl, rfl, trivial⟩ ?_
 have E : Ext w w := Ext.refl w
 refine S_seq ?_
 refine S_reg [false, false, true] rfl rfl ?_
 refine J_box rfl rfl (fun b1 w1 e1 s1 h1 => ?_)
 have g_b1 : w.heap.size ≤ b1 := by have := E.size; omega
 have y_b1 := h1.lt
 replace E := E.trans e1
 have z1 := e1.size
 refine J_box rfl rfl (fun b2 w2 e2 s2 h2 => ?_)
 have g_b2 : w.heap.size ≤ b2 := by have := E.size; omega
 have y_b2 := h2.lt
 replace E := E.trans e2; replace h1 := h1.ext e2
 have z2 := e2.size
 refine J_st (R_assign rfl) rfl (J_done ?_)
 refine S_seq ?_
 refine S_seq ?_
 refine S_reg [true, true, true, true, true] rfl rfl ?_
 refine J_st (R_fieldAddr0 fl61_0 rfl) rfl (J_st (R_load sc3 rfl (h1.one 0 rfl)) rfl (J_st (R_fieldAddr0 fl61_0 rfl) rfl (J_st (R_load sc3 rfl (h2.one 0 rfl)) rfl (J_st (R_neq rfl rfl) rfl (J_done ?_)))))
 refine S_cond rfl (fun hc1 => ?_) (fun hc1 => ?_)
 ·refine S_seq ?_
  refine S_reg [true] rfl rfl ?_
  refine J_st (R_assign rfl) rfl (J_done ?_)
  refine S_ret (E_done1 rfl rfl E ?_)
  cases x; cases y; simp_all
 ·refine S_skip ?_
  refine S_seq ?_
  refine S_seq ?_
  refine S_reg [true, true, true, true, true] rfl rfl ?_
  refine J_st (R_fieldAddr0 fl61_1 rfl) rfl (J_st (R_load sc3 rfl (h1.one 1 rfl)) rfl (J_st (R_fieldAddr0 fl61_1 rfl) rfl (J_st (R_load sc3 rfl (h2.one 1 rfl)) rfl (J_st (R_neq rfl rfl) rfl (J_done ?_)))))
  refine S_cond rfl (fun hc2 => ?_) (fun hc2 => ?_)
  ·refine S_seq ?_
   refine S_reg [true] rfl rfl ?_
   refine J_st (R_assign rfl) rfl (J_done ?_)
   refine S_ret (E_done1 rfl rfl E ?_)
   cases x; cases y; simp_all
  ·refine S_skip ?_
   refine S_seq ?_
   refine S_reg [true] rfl rfl ?_
   refine J_st (R_assign rfl) rfl (J_done ?_)
   refine S_ret (E_done1 rfl rfl E ?_)
   cases x; cases y; simp_all

set_option maxRecDepth 20000 in
theorem c_eqRecord (x : Record) (y : Record) (w : World)  : Ct Tryz.prog 81 [.agg (Enc.enc x).toArray, .agg (Enc.enc y).toArray] w (fun v _ => v = .bool (decide (x = y))) := by
 refine ct_of Tryz.func81 rfl Tryz.ntmps81 rfl ?_
 refine S_sub [(0, .agg (Enc.enc x).toArray), (1, .agg (Enc.enc y).toArray)] ⟨rfl, rfl, trivial⟩ ?_
 have E : Ext w w := Ext.refl w
 refine S_seq ?_
 refine S_reg [false, false, true] rfl rfl ?_
 refine J_box rfl rfl (fun b1 w1 e1 s1 h1 => ?_)
 have g_b1 : w.heap.size ≤ b1 := by have := E.size; omega
 have y_b1 := h1.lt
 replace E := E.trans e1
 have z1 := e1.size
 refine J_box rfl rfl (fun b2 w2 e2 s2 h2 => ?_)
 have g_b2 : w.heap.size ≤ b2 := by have := E.size; omega
 have y_b2 := h2.lt
 replace E := E.trans e2; replace h1 := h1.ext e2
 have z2 := e2.size
 refine J_st (R_assign rfl) rfl (J_done ?_)
 refine S_seq ?_
 refine S_seq ?_
 refine S_reg [true, true, true, true, true] rfl rfl ?_
 refine J_st (R_fieldAddr0 fl63_0 rfl) rfl (J_st (R_load sc3 rfl (h1.one 0 rfl)) rfl (J_st (R_fieldAddr0 fl63_0 rfl) rfl (J_st (R_load sc3 rfl (h2.one 0 rfl)) rfl (J_st (R_neq rfl rfl) rfl (J_done ?_)))))
 refine S_cond rfl (fun hc1 => ?_) (fun hc1 => ?_)
 ·refine S_seq ?_
  refine S_reg [true] rfl rfl ?_
  refine J_st (R_assign rfl) rfl (J_done ?_)
  refine S_ret (E_done1 rfl rfl E ?_)
  cases x; cases y; simp_all
 ·refine S_skip ?_
  refine S_seq ?_
  refine S_seq ?_
  refine S_reg [true, true, true, true, false, true] rfl rfl ?_
  refine J_st (R_fieldAddr0 fl63_1 rfl) rfl (J_st (R_loadS st61 rfl (h1.part 1 [.int .i64 x.stamp.epoch, .int .i64 x.stamp.turn] rfl) rfl) rfl (J_st (R_fieldAddr0 fl63_1 rfl) rfl (J_st (R_loadS st61 rfl (h2.part 1 [.int .i64 y.stamp.epoch, .int .i64 y.stamp.turn] rfl) rfl) rfl ?_)))
  refine J_call Tryz.call100 rfl (c_eqStamp x.stamp y.stamp _ ) rfl (fun _ w3 e3 hv => ?_)
  subst hv
  replace E := E.trans e3; replace h1 := h1.ext e3; replace h2 := h2.ext e3
  have z3 := e3.size
  refine J_st (R_not rfl) rfl (J_done ?_)
  refine S_cond rfl (fun hc2 => ?_) (fun hc2 => ?_)
  ·refine S_seq ?_
   refine S_reg [true] rfl rfl ?_
   refine J_st (R_assign rfl) rfl (J_done ?_)
   refine S_ret (E_done1 rfl rfl E ?_)
   cases x; cases y; simp_all
  ·refine S_skip ?_
   refine S_seq ?_
   refine S_seq ?_
   refine S_reg [true, true, true, true, true] rfl rfl ?_
   refine J_st (R_fieldAddr0 fl63_2 rfl) rfl (J_st (R_load sc3 rfl (h1.one 3 rfl)) rfl (J_st (R_fieldAddr0 fl63_2 rfl) rfl (J_st (R_load sc3 rfl (h2.one 3 rfl)) rfl (J_st (R_neq rfl rfl) rfl (J_done ?_)))))
   refine S_cond rfl (fun hc3 => ?_) (fun hc3 => ?_)
   ·refine S_seq ?_
    refine S_reg [true] rfl rfl ?_
    refine J_st (R_assign rfl) rfl (J_done ?_)
    refine S_ret (E_done1 rfl rfl E ?_)
    cases x; cases y; simp_all
   ·refine S_skip ?_
    refine S_seq ?_
    refine S_seq ?_
    refine S_reg [true, true, true, true, true] rfl rfl ?_
    refine J_st (R_fieldAddr0 fl63_3 rfl) rfl (J_st (R_load sc3 rfl (h1.one 4 rfl)) rfl (J_st (R_fieldAddr0 fl63_3 rfl) rfl (J_st (R_load sc3 rfl (h2.one 4 rfl)) rfl (J_st (R_neq rfl rfl) rfl (J_done ?_)))))
    refine S_cond rfl (fun hc4 => ?_) (fun hc4 => ?_)
    ·refine S_seq ?_
     refine S_reg [true] rfl rfl ?_
     refine J_st (R_assign rfl) rfl (J_done ?_)
     refine S_ret (E_done1 rfl rfl E ?_)
     cases x; cases y; simp_all
    ·refine S_skip ?_
     refine S_seq ?_
     refine S_reg [true] rfl rfl ?_
     refine J_st (R_assign rfl) rfl (J_done ?_)
     refine S_ret (E_done1 rfl rfl E ?_)
     cases x; cases y; simp_all

set_option maxRecDepth 20000 in
theorem c_toDone (x : Done) (w : World)  : Ct Tryz.prog 68 [.agg (Enc.enc x).toArray] w (fun v _ => v = .agg (Enc.enc x).toArray) := by
 refine ct_of Tryz.func68 rfl Tryz.ntmps68 rfl ?_
 refine S_sub [(0, .agg (Enc.enc x).toArray)] ⟨rfl, trivial⟩ ?_
 have E : Ext w w := Ext.refl w
 refine S_seq ?_
 refine S_reg [false, false] rfl rfl ?_
 refine J_box rfl rfl (fun b1 w1 e1 s1 h1 => ?_)
 have g_b1 : w.heap.size ≤ b1 := by have := E.size; omega
 have y_b1 := h1.lt
 replace E := E.trans e1
 have z1 := e1.size
 refine J_alloc st92 rfl (fun b2 w2 e2 s2 h2 => ?_)
 have g_b2 : w.heap.size ≤ b2 := by have := E.size; omega
 have y_b2 := h2.lt
 replace E := E.trans e2; replace h1 := h1.ext e2
 have z2 := e2.size
 refine J_done ?_
 refine S_seq ?_
 refine S_reg [false] rfl rfl ?_
 refine J_alloc st92 rfl (fun b3 w3 e3 s3 h3 => ?_)
 have g_b3 : w.heap.size ≤ b3 := by have := E.size; omega
 have y_b3 := h3.lt
 replace E := E.trans e3; replace h1 := h1.ext e3; replace h2 := h2.ext e3
 have z3 := e3.size
 refine J_done ?_
 refine S_seq ?_
 refine S_reg [true, true, true, false] rfl rfl ?_
 refine J_st (R_fieldAddr0 fl113_0 rfl) rfl (J_st (R_load sc3 rfl (h1.one 0 rfl)) rfl (J_st (R_fieldAddr0 fl92_0 rfl) rfl ?_))
 refine J_store' (cs' := [.int .i64 x.epoch, .bool false]) sc3 rfl rfl rfl h3 (Nat.le_of_ble_eq_true rfl) rfl (fun w4 m1 h3' => ?_)
 replace h3 := h3'
 replace E := E.step m1 (fun g hg => by cases hg; omega); replace h1 := h1.mod m1 (fun g hg => by cases hg; omega); replace h2 := h2.mod m1 (fun g hg => by cases hg; omega)
 have z4 := m1.size
 refine J_done ?_
 refine S_seq ?_
 refine S_reg [true, true, true, false] rfl rfl ?_
 refine J_st (R_fieldAddr0 fl113_1 rfl) rfl (J_st (R_load sc4 rfl (h1.one 1 rfl)) rfl (J_st (R_fieldAddr0 fl92_1 rfl) rfl ?_))
 refine J_store' (cs' := [.int .i64 x.epoch, .bool x.capped]) sc4 rfl rfl rfl h3 (Nat.le_of_ble_eq_true rfl) rfl (fun w5 m2 h3' => ?_)
 replace h3 := h3'
 replace E := E.step m2 (fun g hg => by cases hg; omega); replace h1 := h1.mod m2 (fun g hg => by cases hg; omega); replace h2 := h2.mod m2 (fun g hg => by cases hg; omega)
 have z5 := m2.size
 refine J_done ?_
 refine S_seq ?_
 refine S_reg [true, false] rfl rfl ?_
 refine J_st (R_loadS st92 rfl h3.at rfl) rfl ?_
 refine J_storeS' (cs' := [.int .i64 x.epoch, .bool x.capped]) st92 rfl rfl rfl rfl h2 (Nat.le_of_ble_eq_true rfl) rfl (fun w6 m3 h2' => ?_)
 replace h2 := h2'
 replace E := E.step m3 (fun g hg => by cases hg; omega); replace h1 := h1.mod m3 (fun g hg => by cases hg; omega); replace h3 := h3.mod m3 (fun g hg => by cases hg; omega)
 have z6 := m3.size
 refine J_done ?_
 refine S_ret (E_doneC rfl rfl (run_loadVar_st st92 h2.at rfl) E ?_)
 rfl

set_option maxRecDepth 20000 in
theorem c_eqDone (x : Done) (y : Done) (w : World)  : Ct Tryz.prog 83 [.agg (Enc.enc x).toArray, .agg (Enc.enc y).toArray] w (fun v _ => v = .bool (decide (x = y))) := by
 refine ct_of Tryz.func83 rfl Tryz.ntmps83 rfl ?_
 refine S_sub [(0, .agg (Enc.enc x).toArray), (1, .agg (Enc.enc y).toArray)] ⟨rfl, rfl, trivial⟩ ?_
 have E : Ext w w := Ext.refl w
 refine S_seq ?_
 refine S_reg [false, false, true] rfl rfl ?_
 refine J_box rfl rfl (fun b1 w1 e1 s1 h1 => ?_)
 have g_b1 : w.heap.size ≤ b1 := by have := E.size; omega
 have y_b1 := h1.lt
 replace E := E.trans e1
 have z1 := e1.size
 refine J_box rfl rfl (fun b2 w2 e2 s2 h2 => ?_)
 have g_b2 : w.heap.size ≤ b2 := by have := E.size; omega
 have y_b2 := h2.lt
 replace E := E.trans e2; replace h1 := h1.ext e2
 have z2 := e2.size
 refine J_st (R_assign rfl) rfl (J_done ?_)
 refine S_seq ?_
 refine S_seq ?_
 refine S_reg [true, true, true, true, true] rfl rfl ?_
 refine J_st (R_fieldAddr0 fl92_0 rfl) rfl (J_st (R_load sc3 rfl (h1.one 0 rfl)) rfl (J_st (R_fieldAddr0 fl92_0 rfl) rfl (J_st (R_load sc3 rfl (h2.one 0 rfl)) rfl (J_st (R_neq rfl rfl) rfl (J_done ?_)))))
 refine S_cond rfl (fun hc1 => ?_) (fun hc1 => ?_)
 ·refine S_seq ?_
  refine S_reg [true] rfl rfl ?_
  refine J_st (R_assign rfl) rfl (J_done ?_)
  refine S_ret (E_done1 rfl rfl E ?_)
  cases x; cases y; simp_all
 ·refine S_skip ?_
  refine S_seq ?_
  refine S_seq ?_
  refine S_reg [true, true, true, true, true] rfl rfl ?_
  refine J_st (R_fieldAddr0 fl92_1 rfl) rfl (J_st (R_load sc4 rfl (h1.one 1 rfl)) rfl (J_st (R_fieldAddr0 fl92_1 rfl) rfl (J_st (R_load sc4 rfl (h2.one 1 rfl)) rfl (J_st (R_neqB (Tryz.underlying4) rfl rfl) rfl (J_done ?_)))))
  refine S_cond rfl (fun hc2 => ?_) (fun hc2 => ?_)
  ·refine S_seq ?_
   refine S_reg [true] rfl rfl ?_
   refine J_st (R_assign rfl) rfl (J_done ?_)
   refine S_ret (E_done1 rfl rfl E ?_)
   cases x; cases y; simp_all
  ·refine S_skip ?_
   refine S_seq ?_
   refine S_reg [true] rfl rfl ?_
   refine J_st (R_assign rfl) rfl (J_done ?_)
   refine S_ret (E_done1 rfl rfl E ?_)
   cases x; cases y; simp_all

set_option maxRecDepth 20000 in
theorem c_szRecordS (vxs : Value) (xs : List Record) (n : Int) (w : World) (hxs : RdS w vxs xs) (h0 : 0 ≤ n ∧ n ≤ 1048576) : Ct Tryz.prog 16 [vxs, .int .i64 n] w (fun v _ => v = .int .i64 (szM xs.length n)) := by
 refine ct_of Tryz.func16 rfl Tryz.ntmps16 rfl ?_
 refine S_sub [(0, vxs), (1, .int .i64 n)] ⟨rfl, rfl, trivial⟩ ?_
 have E : Ext w w := Ext.refl w
 refine S_seq ?_
 refine S_reg [true] rfl rfl ?_
 refine J_st (R_assign rfl) rfl (J_done ?_)
 refine S_seq ?_
 refine S_reg [true, true, true, true, true] rfl rfl ?_
 refine J_st (R_move rfl) rfl (J_st (R_move rfl) rfl (J_st (R_len Tryz.underlying25 rfl (hxs.ext E).len) rfl (J_st (R_sub rfl rfl rfl) rfl (J_st (R_assign rfl) rfl (J_done ?_)))))
 refine S_seq ?_
 refine S_seq ?_
 refine S_reg [true, true] rfl rfl ?_
 refine J_st (R_move rfl) rfl (J_st (R_lss rfl rfl) rfl (J_done ?_))
 refine S_cond rfl (fun hc1 => ?_) (fun hc1 => ?_)
 ·refine S_seq ?_
  refine S_reg [true] rfl rfl ?_
  refine J_st (R_assign rfl) rfl (J_done ?_)
  refine S_ret (E_done1 rfl rfl E ?_)
  exact sz_no h0.2 h0.1 hxs.1 hc1
 ·refine S_skip ?_
  refine S_seq ?_
  refine S_reg [true, true] rfl rfl ?_
  refine J_st (R_move rfl) rfl (J_st (R_assign rfl) rfl (J_done ?_))
  refine S_ret (E_done1 rfl rfl E ?_)
  exact sz_yes h0.2 h0.1 hxs.1 hc1

set_option maxRecDepth 20000 in
theorem c_toRecordS (vxs : Value) (xs : List Record) (w : World) (hxs : RdS w vxs xs) (hb : xs.length ≤ 1048576) : Ct Tryz.prog 27 [vxs] w (fun v w' => Own w' w.heap.size w'.heap.size 5 v (List.flatMap (Enc.enc (α := Record)) xs)) := by
 refine ct_of Tryz.func27 rfl Tryz.ntmps27 rfl ?_
 refine S_sub [(0, vxs)] ⟨rfl, trivial⟩ ?_
 have E : Ext w w := Ext.refl w
 refine S_seq ?_
 refine S_reg [true] rfl rfl ?_
 refine J_st (R_assign rfl) rfl (J_done ?_)
 refine S_seq ?_
 refine S_reg [true, true, false, true] rfl rfl ?_
 refine J_st (R_move rfl) rfl (J_st (R_len Tryz.underlying25 rfl (hxs.ext E).len) rfl ?_)
 refine J_make (m := xs.length) sl34 rfl rfl (by omega) (by decide) rfl (fun b1 w1 e1 s1 h1 => ?_)
 have g_b1 : w.heap.size ≤ b1 := by have := E.size; omega
 have y_b1 := h1.lt
 replace E := E.trans e1
 have z1 := e1.size
 refine J_st (R_assign rfl) rfl (J_done ?_)
 refine S_seq ?_
 refine S_seq ?_
 refine S_reg [true] rfl rfl ?_
 refine J_st (R_assign rfl) rfl (J_done ?_)
 refine S_block ?_
 refine S_loop (fun (k : Nat) => [(0, vxs), (2, .slice none 0 0), (3, .slice (some ⟨b1, 0, none⟩) xs.length xs.length), (4, .int .i64 ((k : Nat) : Int))]) (fun (k : Nat) w' => Ext w w' ∧ w1.heap.size ≤ w'.heap.size ∧ k ≤ xs.length ∧ Blk w' b1 (mk xs [.int .i64 0, .int .i64 0, .int .i64 0, .int .i64 0, .int .i64 0] k xs.length)) (fun (k : Nat) => xs.length - k) 0 ⟨rfl, rfl, rfl, rfl, trivial⟩ ⟨E, Nat.le_refl _, Nat.zero_le _, (mk_zero xs [.int .i64 0, .int .i64 0, .int .i64 0, .int .i64 0, .int .i64 0] xs.length) ▸ h1⟩ ?_
 clear E h1
 rintro k w2 ⟨E, z2, hk, h1⟩
 refine S_seq ?_
 refine S_seq ?_
 refine S_reg [true, true, true, true] rfl rfl ?_
 refine J_st (R_move rfl) rfl (J_st (R_move rfl) rfl (J_st (R_len Tryz.underlying25 rfl (hxs.ext E).len) rfl (J_st (R_lss rfl rfl) rfl (J_done ?_))))
 refine S_cond rfl (fun hc1 => ?_) (fun hc1 => ?_)
 ·have hc1n : k < xs.length := by first | (have h := of_decide_eq_true hc1; omega) | (have h := hc1; simp at h; omega)
  refine S_skip ?_
  refine S_seq ?_
  refine S_block ?_
  refine S_reg [true, true, true, true, true, true, false, true, false] rfl rfl ?_
  refine J_st (R_move rfl) rfl (J_st (R_move rfl) rfl (J_st (R_move rfl) rfl (J_st (R_move rfl) rfl ?_)))
  have hi1 : k < xs.length := (by first | assumption | omega)
  refine J_st (R_index (i := k) sl25 rfl rfl (hxs.ext E) hi1) rfl (J_st (R_loadS st109 rfl ((hxs.ext E).get hi1) rfl) rfl ?_)
  refine J_call Tryz.call66 rfl (c_toRecord (xs[k]'hi1) _ ) rfl (fun _ w3 e2 hv => ?_)
  subst hv
  replace E := E.trans e2; replace h1 := h1.ext e2
  have z3 := e2.size
  refine J_st (R_indexB sl34 rfl rfl (by first | assumption | omega)) rfl ?_
  refine J_storeS' (cs' := mk xs [.int .i64 0, .int .i64 0, .int .i64 0, .int .i64 0, .int .i64 0] (k + 1) xs.length) st63 rfl rfl rfl rfl h1 (mk_room xs [.int .i64 0, .int .i64 0, .int .i64 0, .int .i64 0, .int .i64 0] rfl hc1n hc1n (by rfl)) (mk_step xs [.int .i64 0, .int .i64 0, .int .i64 0, .int .i64 0, .int .i64 0] rfl hc1n hc1n) (fun w4 m1 h1' => ?_)
  replace h1 := h1'
  replace E := E.step m1 (fun g hg => by cases hg; omega)
  have z4 := m1.size
  refine J_done ?_
  refine S_nil (E_inB ?_)
  refine S_reg [true, true, true] rfl rfl ?_
  refine J_st (R_move rfl) rfl (J_st (R_add rfl rfl (add_one hc1n hxs.1)) rfl (J_st (R_assign rfl) rfl (J_done ?_)))
  refine S_nil (E_again (k + 1) (by omega) ⟨rfl, rfl, rfl, rfl, trivial⟩ ⟨E, (by omega), (by omega), h1⟩)
 ·have hc1n : ¬ k < xs.length := by first | (have h := of_decide_eq_false hc1; omega) | (have h := hc1; simp at h; omega)
  refine S_exit (E_lp_exit (E_inB_exit ?_))
  refine S_seq ?_
  refine S_reg [true, true] rfl rfl ?_
  refine J_st (R_move rfl) rfl (J_st (R_assign rfl) rfl (J_done ?_))
  refine S_ret (E_done1 rfl rfl E ?_)
  obtain rfl : k = xs.length := by omega
  rw [mk_all] at h1
  exact Own.ofBlk h1 (by omega) (by have := h1.lt; omega) (sum_flat xs) hxs.1

set_option maxRecDepth 20000 in
theorem c_eqRecordS (vxs : Value) (xs : List Record) (vys : Value) (ys : List Record) (w : World) (hxs : RdS w vxs xs) (hys : RdS w vys ys) : Ct Tryz.prog 37 [vxs, vys] w (fun v _ => v = .bool (decide (xs = ys))) := by
 refine ct_of Tryz.func37 rfl Tryz.ntmps37 rfl ?_
 refine S_sub [(0, vxs), (1, vys)] ⟨rfl, rfl, trivial⟩ ?_
 have E : Ext w w := Ext.refl w
 refine S_seq ?_
 refine S_reg [true] rfl rfl ?_
 refine J_st (R_assign rfl) rfl (J_done ?_)
 refine S_seq ?_
 refine S_seq ?_
 refine S_reg [true, true, true, true, true] rfl rfl ?_
 refine J_st (R_move rfl) rfl (J_st (R_len Tryz.underlying34 rfl (hxs.ext E).len) rfl (J_st (R_move rfl) rfl (J_st (R_len Tryz.underlying34 rfl (hys.ext E).len) rfl (J_st (R_neq rfl rfl) rfl (J_done ?_)))))
 refine S_cond rfl (fun hc1 => ?_) (fun hc1 => ?_)
 ·have hc1n : ¬ xs.length = ys.length := by first | (have h := of_decide_eq_true hc1; omega) | (have h := hc1; simp at h; omega)
  refine S_seq ?_
  refine S_reg [true] rfl rfl ?_
  refine J_st (R_assign rfl) rfl (J_done ?_)
  refine S_ret (E_done1 rfl rfl E ?_)
  simp [eq_len hc1n]
 ·have hc1n : xs.length = ys.length := by first | (have h := of_decide_eq_false hc1; omega) | (have h := hc1; simp at h; omega)
  refine S_skip ?_
  refine S_seq ?_
  refine S_seq ?_
  refine S_reg [true] rfl rfl ?_
  refine J_st (R_assign rfl) rfl (J_done ?_)
  refine S_block ?_
  refine S_loop (fun (k : Nat) => [(0, vxs), (1, vys), (4, .bool false), (5, .int .i64 ((k : Nat) : Int))]) (fun (k : Nat) w' => Ext w w' ∧ w.heap.size ≤ w'.heap.size ∧ k ≤ xs.length ∧ xs.take k = ys.take k) (fun (k : Nat) => xs.length - k) 0 ⟨rfl, rfl, rfl, rfl, trivial⟩ ⟨E, Nat.le_refl _, Nat.zero_le _, rfl⟩ ?_
  clear E
  rintro k w1 ⟨E, z1, hk, hp⟩
  refine S_seq ?_
  refine S_seq ?_
  refine S_reg [true, true, true, true] rfl rfl ?_
  refine J_st (R_move rfl) rfl (J_st (R_move rfl) rfl (J_st (R_len Tryz.underlying34 rfl (hxs.ext E).len) rfl (J_st (R_lss rfl rfl) rfl (J_done ?_))))
  refine S_cond rfl (fun hc2 => ?_) (fun hc2 => ?_)
  ·have hc2n : k < xs.length := by first | (have h := of_decide_eq_true hc2; omega) | (have h := hc2; simp at h; omega)
   refine S_skip ?_
   refine S_seq ?_
   refine S_block ?_
   refine S_seq ?_
   refine S_regD mixed [(0, true), (1, true), (2, true), (3, true), (4, true), (5, true), (6, true), (7, true), (8, false), (9, true)] (by decide +kernel) rfl (fun w2 e1 => ?_)
   replace E := E.trans e1
   have z2 := e1.size
   refine J_st (R_move rfl) rfl (J_st (R_move rfl) rfl ?_)
   have hi1 : k < xs.length := (by first | assumption | omega)
   refine J_st (R_index (i := k) sl34 rfl rfl (hxs.ext E) hi1) rfl (J_st (R_loadS st63 rfl ((hxs.ext E).get hi1) rfl) rfl (J_st (R_move rfl) rfl (J_st (R_move rfl) rfl ?_)))
   have hi2 : k < ys.length := (by first | assumption | omega)
   refine J_st (R_index (i := k) sl34 rfl rfl (hys.ext E) hi2) rfl (J_st (R_loadS st63 rfl ((hys.ext E).get hi2) rfl) rfl ?_)
   refine J_call Tryz.call81 rfl (c_eqRecord (xs[k]'hi1) (ys[k]'hi2) _ ) rfl (fun _ w3 e2 hv => ?_)
   subst hv
   replace E := E.trans e2
   have z3 := e2.size
   refine J_st (R_not rfl) rfl (J_done ?_)
   refine S_cond rfl (fun hc3 => ?_) (fun hc3 => ?_)
   ·refine S_seq ?_
    refine S_reg [true] rfl rfl ?_
    refine J_st (R_assign rfl) rfl (J_done ?_)
    refine S_ret (E_inB_ret (E_lp_ret (E_inB_ret (E_done1 rfl rfl E ?_))))
    exact eqS_no (by omega) (by omega) (by simpa using hc3)
   ·refine S_skip ?_
    refine S_nil (E_inB ?_)
    refine S_reg [true, true, true] rfl rfl ?_
    refine J_st (R_move rfl) rfl (J_st (R_add rfl rfl (add_one hc2n hxs.1)) rfl (J_st (R_assign rfl) rfl (J_done ?_)))
    refine S_nil (E_again (k + 1) (by omega) ⟨rfl, rfl, rfl, rfl, trivial⟩ ⟨E, (by omega), (by omega), eqS_step hp (by assumption) (by omega) (by simpa using hc3)⟩)
  ·have hc2n : ¬ k < xs.length := by first | (have h := of_decide_eq_false hc2; omega) | (have h := hc2; simp at h; omega)
   refine S_exit (E_lp_exit (E_inB_exit ?_))
   refine S_seq ?_
   refine S_reg [true] rfl rfl ?_
   refine J_st (R_assign rfl) rfl (J_done ?_)
   refine S_ret (E_done1 rfl rfl E ?_)
   exact eqS_yes hp hc1n (by omega)

set_option maxRecDepth 20000 in
theorem c_szBoolS (vxs : Value) (xs : List Bool) (n : Int) (w : World) (hxs : RdS w vxs xs) (h0 : 0 ≤ n ∧ n ≤ 1048576) : Ct Tryz.prog 19 [vxs, .int .i64 n] w (fun v _ => v = .int .i64 (szM xs.length n)) := by
 refine ct_of Tryz.func19 rfl Tryz.ntmps19 rfl ?_
 refine S_sub [(0, vxs), (1, .int .i64 n)] ⟨rfl, rfl, trivial⟩ ?_
 have E : Ext w w := Ext.refl w
 refine S_seq ?_
 refine S_reg [true] rfl rfl ?_
 refine J_st (R_assign rfl) rfl (J_done ?_)
 refine S_seq ?_
 refine S_reg [true, true, true, true, true] rfl rfl ?_
 refine J_st (R_move rfl) rfl (J_st (R_move rfl) rfl (J_st (R_len Tryz.underlying28 rfl (hxs.ext E).len) rfl (J_st (R_sub rfl rfl rfl) rfl (J_st (R_assign rfl) rfl (J_done ?_)))))
 refine S_seq ?_
 refine S_seq ?_
 refine S_reg [true, true] rfl rfl ?_
 refine J_st (R_move rfl) rfl (J_st (R_lss rfl rfl) rfl (J_done ?_))
 refine S_cond rfl (fun hc1 => ?_) (fun hc1 => ?_)
 ·refine S_seq ?_
  refine S_reg [true] rfl rfl ?_
  refine J_st (R_assign rfl) rfl (J_done ?_)
  refine S_ret (E_done1 rfl rfl E ?_)
  exact sz_no h0.2 h0.1 hxs.1 hc1
 ·refine S_skip ?_
  refine S_seq ?_
  refine S_reg [true, true] rfl rfl ?_
  refine J_st (R_move rfl) rfl (J_st (R_assign rfl) rfl (J_done ?_))
  refine S_ret (E_done1 rfl rfl E ?_)
  exact sz_yes h0.2 h0.1 hxs.1 hc1

set_option maxRecDepth 20000 in
theorem c_toBoolS (vxs : Value) (xs : List Bool) (w : World) (hxs : RdS w vxs xs) (hb : xs.length ≤ 1048576) : Ct Tryz.prog 30 [vxs] w (fun v w' => Own w' w.heap.size w'.heap.size 1 v (List.flatMap (Enc.enc (α := Bool)) xs)) := by
 refine ct_of Tryz.func30 rfl Tryz.ntmps30 rfl ?_
 refine S_sub [(0, vxs)] ⟨rfl, trivial⟩ ?_
 have E : Ext w w := Ext.refl w
 refine S_seq ?_
 refine S_reg [true] rfl rfl ?_
 refine J_st (R_assign rfl) rfl (J_done ?_)
 refine S_seq ?_
 refine S_reg [true, true, false, true] rfl rfl ?_
 refine J_st (R_move rfl) rfl (J_st (R_len Tryz.underlying28 rfl (hxs.ext E).len) rfl ?_)
 refine J_make (m := xs.length) sl28 rfl rfl (by omega) (by decide) rfl (fun b1 w1 e1 s1 h1 => ?_)
 have g_b1 : w.heap.size ≤ b1 := by have := E.size; omega
 have y_b1 := h1.lt
 replace E := E.trans e1
 have z1 := e1.size
 refine J_st (R_assign rfl) rfl (J_done ?_)
 refine S_seq ?_
 refine S_seq ?_
 refine S_reg [true] rfl rfl ?_
 refine J_st (R_assign rfl) rfl (J_done ?_)
 refine S_block ?_
 refine S_loop (fun (k : Nat) => [(0, vxs), (2, .slice none 0 0), (3, .slice (some ⟨b1, 0, none⟩) xs.length xs.length), (4, .int .i64 ((k : Nat) : Int))]) (fun (k : Nat) w' => Ext w w' ∧ w1.heap.size ≤ w'.heap.size ∧ k ≤ xs.length ∧ Blk w' b1 (mk xs [.bool false] k xs.length)) (fun (k : Nat) => xs.length - k) 0 ⟨rfl, rfl, rfl, rfl, trivial⟩ ⟨E, Nat.le_refl _, Nat.zero_le _, (mk_zero xs [.bool false] xs.length) ▸ h1⟩ ?_
 clear E h1
 rintro k w2 ⟨E, z2, hk, h1⟩
 refine S_seq ?_
 refine S_seq ?_
 refine S_reg [true, true, true, true] rfl rfl ?_
 refine J_st (R_move rfl) rfl (J_st (R_move rfl) rfl (J_st (R_len Tryz.underlying28 rfl (hxs.ext E).len) rfl (J_st (R_lss rfl rfl) rfl (J_done ?_))))
 refine S_cond rfl (fun hc1 => ?_) (fun hc1 => ?_)
 ·have hc1n : k < xs.length := by first | (have h := of_decide_eq_true hc1; omega) | (have h := hc1; simp at h; omega)
  refine S_skip ?_
  refine S_seq ?_
  refine S_block ?_
  refine S_reg [true, true, true, true, true, true, true, false] rfl rfl ?_
  refine J_st (R_move rfl) rfl (J_st (R_move rfl) rfl (J_st (R_move rfl) rfl (J_st (R_move rfl) rfl ?_)))
  have hi1 : k < xs.length := (by first | assumption | omega)
  refine J_st (R_index (i := k) sl28 rfl rfl (hxs.ext E) hi1) rfl (J_st (R_load sc4 rfl (((hxs.ext E).get hi1).one 0 rfl)) rfl (J_st (R_indexB sl28 rfl rfl (by first | assumption | omega)) rfl ?_))
  refine J_store' (cs' := mk xs [.bool false] (k + 1) xs.length) sc4 rfl rfl rfl h1 (mk_room xs [.bool false] rfl hc1n hc1n (by rfl)) (mk_step xs [.bool false] rfl hc1n hc1n) (fun w3 m1 h1' => ?_)
  replace h1 := h1'
  replace E := E.step m1 (fun g hg => by cases hg; omega)
  have z3 := m1.size
  refine J_done ?_
  refine S_nil (E_inB ?_)
  refine S_reg [true, true, true] rfl rfl ?_
  refine J_st (R_move rfl) rfl (J_st (R_add rfl rfl (add_one hc1n hxs.1)) rfl (J_st (R_assign rfl) rfl (J_done ?_)))
  refine S_nil (E_again (k + 1) (by omega) ⟨rfl, rfl, rfl, rfl, trivial⟩ ⟨E, (by omega), (by omega), h1⟩)
 ·have hc1n : ¬ k < xs.length := by first | (have h := of_decide_eq_false hc1; omega) | (have h := hc1; simp at h; omega)
  refine S_exit (E_lp_exit (E_inB_exit ?_))
  refine S_seq ?_
  refine S_reg [true, true] rfl rfl ?_
  refine J_st (R_move rfl) rfl (J_st (R_assign rfl) rfl (J_done ?_))
  refine S_ret (E_done1 rfl rfl E ?_)
  obtain rfl : k = xs.length := by omega
  rw [mk_all] at h1
  exact Own.ofBlk h1 (by omega) (by have := h1.lt; omega) (sum_flat xs) hxs.1

set_option maxRecDepth 20000 in
theorem c_eqBoolS (vxs : Value) (xs : List Bool) (vys : Value) (ys : List Bool) (w : World) (hxs : RdS w vxs xs) (hys : RdS w vys ys) : Ct Tryz.prog 40 [vxs, vys] w (fun v _ => v = .bool (decide (xs = ys))) := by
 refine ct_of Tryz.func40 rfl Tryz.ntmps40 rfl ?_
 refine S_sub [(0, vxs), (1, vys)] ⟨rfl, rfl, trivial⟩ ?_
 have E : Ext w w := Ext.refl w
 refine S_seq ?_
 refine S_reg [true] rfl rfl ?_
 refine J_st (R_assign rfl) rfl (J_done ?_)
 refine S_seq ?_
 refine S_seq ?_
 refine S_reg [true, true, true, true, true] rfl rfl ?_
 refine J_st (R_move rfl) rfl (J_st (R_len Tryz.underlying28 rfl (hxs.ext E).len) rfl (J_st (R_move rfl) rfl (J_st (R_len Tryz.underlying28 rfl (hys.ext E).len) rfl (J_st (R_neq rfl rfl) rfl (J_done ?_)))))
 refine S_cond rfl (fun hc1 => ?_) (fun hc1 => ?_)
 ·have hc1n : ¬ xs.length = ys.length := by first | (have h := of_decide_eq_true hc1; omega) | (have h := hc1; simp at h; omega)
  refine S_seq ?_
  refine S_reg [true] rfl rfl ?_
  refine J_st (R_assign rfl) rfl (J_done ?_)
  refine S_ret (E_done1 rfl rfl E ?_)
  simp [eq_len hc1n]
 ·have hc1n : xs.length = ys.length := by first | (have h := of_decide_eq_false hc1; omega) | (have h := hc1; simp at h; omega)
  refine S_skip ?_
  refine S_seq ?_
  refine S_seq ?_
  refine S_reg [true] rfl rfl ?_
  refine J_st (R_assign rfl) rfl (J_done ?_)
  refine S_block ?_
  refine S_loop (fun (k : Nat) => [(0, vxs), (1, vys), (4, .bool false), (5, .int .i64 ((k : Nat) : Int))]) (fun (k : Nat) w' => Ext w w' ∧ w.heap.size ≤ w'.heap.size ∧ k ≤ xs.length ∧ xs.take k = ys.take k) (fun (k : Nat) => xs.length - k) 0 ⟨rfl, rfl, rfl, rfl, trivial⟩ ⟨E, Nat.le_refl _, Nat.zero_le _, rfl⟩ ?_
  clear E
  rintro k w1 ⟨E, z1, hk, hp⟩
  refine S_seq ?_
  refine S_seq ?_
  refine S_reg [true, true, true, true] rfl rfl ?_
  refine J_st (R_move rfl) rfl (J_st (R_move rfl) rfl (J_st (R_len Tryz.underlying28 rfl (hxs.ext E).len) rfl (J_st (R_lss rfl rfl) rfl (J_done ?_))))
  refine S_cond rfl (fun hc2 => ?_) (fun hc2 => ?_)
  ·have hc2n : k < xs.length := by first | (have h := of_decide_eq_true hc2; omega) | (have h := hc2; simp at h; omega)
   refine S_skip ?_
   refine S_seq ?_
   refine S_block ?_
   refine S_seq ?_
   refine S_regD mixed [(0, true), (1, true), (2, true), (3, true), (4, true), (5, true), (6, true), (7, true), (8, true)] (by decide +kernel) rfl (fun w2 e1 => ?_)
   replace E := E.trans e1
   have z2 := e1.size
   refine J_st (R_move rfl) rfl (J_st (R_move rfl) rfl ?_)
   have hi1 : k < xs.length := (by first | assumption | omega)
   refine J_st (R_index (i := k) sl28 rfl rfl (hxs.ext E) hi1) rfl (J_st (R_load sc4 rfl (((hxs.ext E).get hi1).one 0 rfl)) rfl (J_st (R_move rfl) rfl (J_st (R_move rfl) rfl ?_)))
   have hi2 : k < ys.length := (by first | assumption | omega)
   refine J_st (R_index (i := k) sl28 rfl rfl (hys.ext E) hi2) rfl (J_st (R_load sc4 rfl (((hys.ext E).get hi2).one 0 rfl)) rfl (J_st (R_neqB (Tryz.underlying4) rfl rfl) rfl (J_done ?_)))
   refine S_cond rfl (fun hc3 => ?_) (fun hc3 => ?_)
   ·refine S_seq ?_
    refine S_reg [true] rfl rfl ?_
    refine J_st (R_assign rfl) rfl (J_done ?_)
    refine S_ret (E_inB_ret (E_lp_ret (E_inB_ret (E_done1 rfl rfl E ?_))))
    exact eqS_no (by omega) (by omega) (by simpa using hc3)
   ·refine S_skip ?_
    refine S_nil (E_inB ?_)
    refine S_reg [true, true, true] rfl rfl ?_
    refine J_st (R_move rfl) rfl (J_st (R_add rfl rfl (add_one hc2n hxs.1)) rfl (J_st (R_assign rfl) rfl (J_done ?_)))
    refine S_nil (E_again (k + 1) (by omega) ⟨rfl, rfl, rfl, rfl, trivial⟩ ⟨E, (by omega), (by omega), eqS_step hp (by assumption) (by omega) (by simpa using hc3)⟩)
  ·have hc2n : ¬ k < xs.length := by first | (have h := of_decide_eq_false hc2; omega) | (have h := hc2; simp at h; omega)
   refine S_exit (E_lp_exit (E_inB_exit ?_))
   refine S_seq ?_
   refine S_reg [true] rfl rfl ?_
   refine J_st (R_assign rfl) rfl (J_done ?_)
   refine S_ret (E_done1 rfl rfl E ?_)
   exact eqS_yes hp hc1n (by omega)

set_option maxRecDepth 20000 in
theorem c_szDoneS (vxs : Value) (xs : List Done) (n : Int) (w : World) (hxs : RdS w vxs xs) (h0 : 0 ≤ n ∧ n ≤ 1048576) : Ct Tryz.prog 20 [vxs, .int .i64 n] w (fun v _ => v = .int .i64 (szM xs.length n)) := by
 refine ct_of Tryz.func20 rfl Tryz.ntmps20 rfl ?_
 refine S_sub [(0, vxs), (1, .int .i64 n)] ⟨rfl, rfl, trivial⟩ ?_
 have E : Ext w w := Ext.refl w
 refine S_seq ?_
 refine S_reg [true] rfl rfl ?_
 refine J_st (R_assign rfl) rfl (J_done ?_)
 refine S_seq ?_
 refine S_reg [true, true, true, true, true] rfl rfl ?_
 refine J_st (R_move rfl) rfl (J_st (R_move rfl) rfl (J_st (R_len Tryz.underlying29 rfl (hxs.ext E).len) rfl (J_st (R_sub rfl rfl rfl) rfl (J_st (R_assign rfl) rfl (J_done ?_)))))
 refine S_seq ?_
 refine S_seq ?_
 refine S_reg [true, true] rfl rfl ?_
 refine J_st (R_move rfl) rfl (J_st (R_lss rfl rfl) rfl (J_done ?_))
 refine S_cond rfl (fun hc1 => ?_) (fun hc1 => ?_)
 ·refine S_seq ?_
  refine S_reg [true] rfl rfl ?_
  refine J_st (R_assign rfl) rfl (J_done ?_)
  refine S_ret (E_done1 rfl rfl E ?_)
  exact sz_no h0.2 h0.1 hxs.1 hc1
 ·refine S_skip ?_
  refine S_seq ?_
  refine S_reg [true, true] rfl rfl ?_
  refine J_st (R_move rfl) rfl (J_st (R_assign rfl) rfl (J_done ?_))
  refine S_ret (E_done1 rfl rfl E ?_)
  exact sz_yes h0.2 h0.1 hxs.1 hc1

set_option maxRecDepth 20000 in
theorem c_toDoneS (vxs : Value) (xs : List Done) (w : World) (hxs : RdS w vxs xs) (hb : xs.length ≤ 1048576) : Ct Tryz.prog 31 [vxs] w (fun v w' => Own w' w.heap.size w'.heap.size 2 v (List.flatMap (Enc.enc (α := Done)) xs)) := by
 refine ct_of Tryz.func31 rfl Tryz.ntmps31 rfl ?_
 refine S_sub [(0, vxs)] ⟨rfl, trivial⟩ ?_
 have E : Ext w w := Ext.refl w
 refine S_seq ?_
 refine S_reg [true] rfl rfl ?_
 refine J_st (R_assign rfl) rfl (J_done ?_)
 refine S_seq ?_
 refine S_reg [true, true, false, true] rfl rfl ?_
 refine J_st (R_move rfl) rfl (J_st (R_len Tryz.underlying29 rfl (hxs.ext E).len) rfl ?_)
 refine J_make (m := xs.length) sl36 rfl rfl (by omega) (by decide) rfl (fun b1 w1 e1 s1 h1 => ?_)
 have g_b1 : w.heap.size ≤ b1 := by have := E.size; omega
 have y_b1 := h1.lt
 replace E := E.trans e1
 have z1 := e1.size
 refine J_st (R_assign rfl) rfl (J_done ?_)
 refine S_seq ?_
 refine S_seq ?_
 refine S_reg [true] rfl rfl ?_
 refine J_st (R_assign rfl) rfl (J_done ?_)
 refine S_block ?_
 refine S_loop (fun (k : Nat) => [(0, vxs), (2, .slice none 0 0), (3, .slice (some ⟨b1, 0, none⟩) xs.length xs.length), (4, .int .i64 ((k : Nat) : Int))]) (fun (k : Nat) w' => Ext w w' ∧ w1.heap.size ≤ w'.heap.size ∧ k ≤ xs.length ∧ Blk w' b1 (mk xs [.int .i64 0, .bool false] k xs.length)) (fun (k : Nat) => xs.length - k) 0 ⟨rfl, rfl, rfl, rfl, trivial⟩ ⟨E, Nat.le_refl _, Nat.zero_le _, (mk_zero xs [.int .i64 0, .bool false] xs.length) ▸ h1⟩ ?_
 clear E h1
 rintro k w2 ⟨E, z2, hk, h1⟩
 refine S_seq ?_
 refine S_seq ?_
 refine S_reg [true, true, true, true] rfl rfl ?_
 refine J_st (R_move rfl) rfl (J_st (R_move rfl) rfl (J_st (R_len Tryz.underlying29 rfl (hxs.ext E).len) rfl (J_st (R_lss rfl rfl) rfl (J_done ?_))))
 refine S_cond rfl (fun hc1 => ?_) (fun hc1 => ?_)
 ·have hc1n : k < xs.length := by first | (have h := of_decide_eq_true hc1; omega) | (have h := hc1; simp at h; omega)
  refine S_skip ?_
  refine S_seq ?_
  refine S_block ?_
  refine S_reg [true, true, true, true, true, true, false, true, false] rfl rfl ?_
  refine J_st (R_move rfl) rfl (J_st (R_move rfl) rfl (J_st (R_move rfl) rfl (J_st (R_move rfl) rfl ?_)))
  have hi1 : k < xs.length := (by first | assumption | omega)
  refine J_st (R_index (i := k) sl29 rfl rfl (hxs.ext E) hi1) rfl (J_st (R_loadS st113 rfl ((hxs.ext E).get hi1) rfl) rfl ?_)
  refine J_call Tryz.call68 rfl (c_toDone (xs[k]'hi1) _ ) rfl (fun _ w3 e2 hv => ?_)
  subst hv
  replace E := E.trans e2; replace h1 := h1.ext e2
  have z3 := e2.size
  refine J_st (R_indexB sl36 rfl rfl (by first | assumption | omega)) rfl ?_
  refine J_storeS' (cs' := mk xs [.int .i64 0, .bool false] (k + 1) xs.length) st92 rfl rfl rfl rfl h1 (mk_room xs [.int .i64 0, .bool false] rfl hc1n hc1n (by rfl)) (mk_step xs [.int .i64 0, .bool false] rfl hc1n hc1n) (fun w4 m1 h1' => ?_)
  replace h1 := h1'
  replace E := E.step m1 (fun g hg => by cases hg; omega)
  have z4 := m1.size
  refine J_done ?_
  refine S_nil (E_inB ?_)
  refine S_reg [true, true, true] rfl rfl ?_
  refine J_st (R_move rfl) rfl (J_st (R_add rfl rfl (add_one hc1n hxs.1)) rfl (J_st (R_assign rfl) rfl (J_done ?_)))
  refine S_nil (E_again (k + 1) (by omega) ⟨rfl, rfl, rfl, rfl, trivial⟩ ⟨E, (by omega), (by omega), h1⟩)
 ·have hc1n : ¬ k < xs.length := by first | (have h := of_decide_eq_false hc1; omega) | (have h := hc1; simp at h; omega)
  refine S_exit (E_lp_exit (E_inB_exit ?_))
  refine S_seq ?_
  refine S_reg [true, true] rfl rfl ?_
  refine J_st (R_move rfl) rfl (J_st (R_assign rfl) rfl (J_done ?_))
  refine S_ret (E_done1 rfl rfl E ?_)
  obtain rfl : k = xs.length := by omega
  rw [mk_all] at h1
  exact Own.ofBlk h1 (by omega) (by have := h1.lt; omega) (sum_flat xs) hxs.1

set_option maxRecDepth 20000 in
theorem c_eqDoneS (vxs : Value) (xs : List Done) (vys : Value) (ys : List Done) (w : World) (hxs : RdS w vxs xs) (hys : RdS w vys ys) : Ct Tryz.prog 41 [vxs, vys] w (fun v _ => v = .bool (decide (xs = ys))) := by
 refine ct_of Tryz.func41 rfl Tryz.ntmps41 rfl ?_
 refine S_sub [(0, vxs), (1, vys)] ⟨rfl, rfl, trivial⟩ ?_
 have E : Ext w w := Ext.refl w
 refine S_seq ?_
 refine S_reg [true] rfl rfl ?_
 refine J_st (R_assign rfl) rfl (J_done ?_)
 refine S_seq ?_
 refine S_seq ?_
 refine S_reg [true, true, true, true, true] rfl rfl ?_
 refine J_st (R_move rfl) rfl (J_st (R_len Tryz.underlying36 rfl (hxs.ext E).len) rfl (J_st (R_move rfl) rfl (J_st (R_len Tryz.underlying36 rfl (hys.ext E).len) rfl (J_st (R_neq rfl rfl) rfl (J_done ?_)))))
 refine S_cond rfl (fun hc1 => ?_) (fun hc1 => ?_)
 ·have hc1n : ¬ xs.length = ys.length := by first | (have h := of_decide_eq_true hc1; omega) | (have h := hc1; simp at h; omega)
  refine S_seq ?_
  refine S_reg [true] rfl rfl ?_
  refine J_st (R_assign rfl) rfl (J_done ?_)
  refine S_ret (E_done1 rfl rfl E ?_)
  simp [eq_len hc1n]
 ·have hc1n : xs.length = ys.length := by first | (have h := of_decide_eq_false hc1; omega) | (have h := hc1; simp at h; omega)
  refine S_skip ?_
  refine S_seq ?_
  refine S_seq ?_
  refine S_reg [true] rfl rfl ?_
  refine J_st (R_assign rfl) rfl (J_done ?_)
  refine S_block ?_
  refine S_loop (fun (k : Nat) => [(0, vxs), (1, vys), (4, .bool false), (5, .int .i64 ((k : Nat) : Int))]) (fun (k : Nat) w' => Ext w w' ∧ w.heap.size ≤ w'.heap.size ∧ k ≤ xs.length ∧ xs.take k = ys.take k) (fun (k : Nat) => xs.length - k) 0 ⟨rfl, rfl, rfl, rfl, trivial⟩ ⟨E, Nat.le_refl _, Nat.zero_le _, rfl⟩ ?_
  clear E
  rintro k w1 ⟨E, z1, hk, hp⟩
  refine S_seq ?_
  refine S_seq ?_
  refine S_reg [true, true, true, true] rfl rfl ?_
  refine J_st (R_move rfl) rfl (J_st (R_move rfl) rfl (J_st (R_len Tryz.underlying36 rfl (hxs.ext E).len) rfl (J_st (R_lss rfl rfl) rfl (J_done ?_))))
  refine S_cond rfl (fun hc2 => ?_) (fun hc2 => ?_)
  ·have hc2n : k < xs.length := by first | (have h := of_decide_eq_true hc2; omega) | (have h := hc2; simp at h; omega)
   refine S_skip ?_
   refine S_seq ?_
   refine S_block ?_
   refine S_seq ?_
   refine S_regD mixed [(0, true), (1, true), (2, true), (3, true), (4, true), (5, true), (6, true), (7, true), (8, false), (9, true)] (by decide +kernel) rfl (fun w2 e1 => ?_)
   replace E := E.trans e1
   have z2 := e1.size
   refine J_st (R_move rfl) rfl (J_st (R_move rfl) rfl ?_)
   have hi1 : k < xs.length := (by first | assumption | omega)
   refine J_st (R_index (i := k) sl36 rfl rfl (hxs.ext E) hi1) rfl (J_st (R_loadS st92 rfl ((hxs.ext E).get hi1) rfl) rfl (J_st (R_move rfl) rfl (J_st (R_move rfl) rfl ?_)))
   have hi2 : k < ys.length := (by first | assumption | omega)
   refine J_st (R_index (i := k) sl36 rfl rfl (hys.ext E) hi2) rfl (J_st (R_loadS st92 rfl ((hys.ext E).get hi2) rfl) rfl ?_)
   refine J_call Tryz.call83 rfl (c_eqDone (xs[k]'hi1) (ys[k]'hi2) _ ) rfl (fun _ w3 e2 hv => ?_)
   subst hv
   replace E := E.trans e2
   have z3 := e2.size
   refine J_st (R_not rfl) rfl (J_done ?_)
   refine S_cond rfl (fun hc3 => ?_) (fun hc3 => ?_)
   ·refine S_seq ?_
    refine S_reg [true] rfl rfl ?_
    refine J_st (R_assign rfl) rfl (J_done ?_)
    refine S_ret (E_inB_ret (E_lp_ret (E_inB_ret (E_done1 rfl rfl E ?_))))
    exact eqS_no (by omega) (by omega) (by simpa using hc3)
   ·refine S_skip ?_
    refine S_nil (E_inB ?_)
    refine S_reg [true, true, true] rfl rfl ?_
    refine J_st (R_move rfl) rfl (J_st (R_add rfl rfl (add_one hc2n hxs.1)) rfl (J_st (R_assign rfl) rfl (J_done ?_)))
    refine S_nil (E_again (k + 1) (by omega) ⟨rfl, rfl, rfl, rfl, trivial⟩ ⟨E, (by omega), (by omega), eqS_step hp (by assumption) (by omega) (by simpa using hc3)⟩)
  ·have hc2n : ¬ k < xs.length := by first | (have h := of_decide_eq_false hc2; omega) | (have h := hc2; simp at h; omega)
   refine S_exit (E_lp_exit (E_inB_exit ?_))
   refine S_seq ?_
   refine S_reg [true] rfl rfl ?_
   refine J_st (R_assign rfl) rfl (J_done ?_)
   refine S_ret (E_done1 rfl rfl E ?_)
   exact eqS_yes hp hc1n (by omega)

set_option maxHeartbeats 4000000 in
set_option maxRecDepth 20000 in
theorem c_szWorker (cx : List Value) (x : Worker) (n : Int) (w : World) (hx : Dat.R w 0 w.heap.size cx x) (h0 : 0 ≤ n ∧ n ≤ 1048576) : Ct Tryz.prog 5 [.agg cx.toArray, .int .i64 n] w (fun v _ => v = .int .i64 (szM (cntWorker x) n)) := by
 refine ct_of Tryz.func5 rfl Tryz.ntmps5 rfl ?_
 obtain ⟨o1, o2, o3, o4, o5, o6, o7, o8, rfl, hd1, hd2, hd3, hd4, hd5, hd6, hd7, hd8⟩ := Worker.op hx
 refine S_sub [(0, .agg [o1, o2, o3, o4, o5, o6, o7, o8].toArray), (1, .int .i64 n)] ⟨rfl, rfl, trivial⟩ ?_
 have E : Ext w w := Ext.refl w
 refine S_seq ?_
 refine S_reg [false, true] rfl rfl ?_
 refine J_box rfl rfl (fun b1 w1 e1 s1 h1 => ?_)
 have g_b1 : w.heap.size ≤ b1 := by have := E.size; omega
 have y_b1 := h1.lt
 replace E := E.trans e1
 have z1 := e1.size
 refine J_st (R_assign rfl) rfl (J_done ?_)
 refine S_seq ?_
 refine S_reg [true, true, true, false, true] rfl rfl ?_
 refine J_st (R_fieldAddr0 fl31_0 rfl) rfl (J_st (R_load sc25 rfl (h1.one 0 rfl)) rfl (J_st (R_move rfl) rfl ?_))
 refine J_call Tryz.call16 rfl (c_szRecordS o1 x.queue n _ (hd1.rd.ext E) (by first | omega | (simp only [mkL_length]; omega) | (rw [mkL_length]; done) | (simp only [mkL_length]; done))) rfl (fun _ w2 e2 hv => ?_)
 subst hv
 replace E := E.trans e2; replace h1 := h1.ext e2
 have z2 := e2.size
 refine J_st (R_assign rfl) rfl (J_done ?_)
 refine S_seq ?_
 refine S_seq ?_
 refine S_reg [true, true] rfl rfl ?_
 refine J_st (R_move rfl) rfl (J_st (R_lss rfl rfl) rfl (J_done ?_))
 refine S_cond rfl (fun hc1 => ?_) (fun hc1 => ?_)
 ·have q1 := szM_no hc1 (by omega)
  refine S_seq ?_
  refine S_reg [true] rfl rfl ?_
  refine J_st (R_assign rfl) rfl (J_done ?_)
  refine S_ret (E_done1 rfl rfl E ?_)
  first | exact sz_neg (by unfold cntWorker; omega) | exact sz_fin (by unfold cntWorker; omega) (by unfold cntWorker; omega)
 ·have q2 := szM_ok hc1 (by omega)
  refine S_skip ?_
  refine S_seq ?_
  refine S_reg [true, true, true, false, true] rfl rfl ?_
  refine J_st (R_fieldAddr0 fl31_1 rfl) rfl (J_st (R_load sc25 rfl (h1.one 1 rfl)) rfl (J_st (R_move rfl) rfl ?_))
  refine J_call Tryz.call16 rfl (c_szRecordS o2 x.staged (szM x.queue.length n) _ (hd2.rd.ext E) (by first | omega | (simp only [mkL_length]; omega) | (rw [mkL_length]; done) | (simp only [mkL_length]; done))) rfl (fun _ w3 e3 hv => ?_)
  subst hv
  replace E := E.trans e3; replace h1 := h1.ext e3
  have z3 := e3.size
  refine J_st (R_assign rfl) rfl (J_done ?_)
  refine S_seq ?_
  refine S_seq ?_
  refine S_reg [true, true] rfl rfl ?_
  refine J_st (R_move rfl) rfl (J_st (R_lss rfl rfl) rfl (J_done ?_))
  refine S_cond rfl (fun hc2 => ?_) (fun hc2 => ?_)
  ·have q3 := szM_no hc2 (by omega)
   refine S_seq ?_
   refine S_reg [true] rfl rfl ?_
   refine J_st (R_assign rfl) rfl (J_done ?_)
   refine S_ret (E_done1 rfl rfl E ?_)
   first | exact sz_neg (by unfold cntWorker; omega) | exact sz_fin (by unfold cntWorker; omega) (by unfold cntWorker; omega)
  ·have q4 := szM_ok hc2 (by omega)
   refine S_skip ?_
   refine S_seq ?_
   refine S_reg [true, true, true, false, true] rfl rfl ?_
   refine J_st (R_fieldAddr0 fl31_2 rfl) rfl (J_st (R_load sc25 rfl (h1.one 2 rfl)) rfl (J_st (R_move rfl) rfl ?_))
   refine J_call Tryz.call16 rfl (c_szRecordS o3 x.inputs (szM x.staged.length (szM x.queue.length n)) _ (hd3.rd.ext E) (by first | omega | (simp only [mkL_length]; omega) | (rw [mkL_length]; done) | (simp only [mkL_length]; done))) rfl (fun _ w4 e4 hv => ?_)
   subst hv
   replace E := E.trans e4; replace h1 := h1.ext e4
   have z4 := e4.size
   refine J_st (R_assign rfl) rfl (J_done ?_)
   refine S_seq ?_
   refine S_seq ?_
   refine S_reg [true, true] rfl rfl ?_
   refine J_st (R_move rfl) rfl (J_st (R_lss rfl rfl) rfl (J_done ?_))
   refine S_cond rfl (fun hc3 => ?_) (fun hc3 => ?_)
   ·have q5 := szM_no hc3 (by omega)
    refine S_seq ?_
    refine S_reg [true] rfl rfl ?_
    refine J_st (R_assign rfl) rfl (J_done ?_)
    refine S_ret (E_done1 rfl rfl E ?_)
    first | exact sz_neg (by unfold cntWorker; omega) | exact sz_fin (by unfold cntWorker; omega) (by unfold cntWorker; omega)
   ·have q6 := szM_ok hc3 (by omega)
    refine S_skip ?_
    refine S_seq ?_
    refine S_reg [true, true, true, false, true] rfl rfl ?_
    refine J_st (R_fieldAddr0 fl31_3 rfl) rfl (J_st (R_load sc26 rfl (h1.one 3 rfl)) rfl (J_st (R_move rfl) rfl ?_))
    refine J_call Tryz.call17 rfl (c_szCellS o4 x.cells (szM x.inputs.length (szM x.staged.length (szM x.queue.length n))) _ (hd4.rd.ext E) (by first | omega | (simp only [mkL_length]; omega) | (rw [mkL_length]; done) | (simp only [mkL_length]; done))) rfl (fun _ w5 e5 hv => ?_)
    subst hv
    replace E := E.trans e5; replace h1 := h1.ext e5
    have z5 := e5.size
    refine J_st (R_assign rfl) rfl (J_done ?_)
    refine S_seq ?_
    refine S_seq ?_
    refine S_reg [true, true] rfl rfl ?_
    refine J_st (R_move rfl) rfl (J_st (R_lss rfl rfl) rfl (J_done ?_))
    refine S_cond rfl (fun hc4 => ?_) (fun hc4 => ?_)
    ·have q7 := szM_no hc4 (by omega)
     refine S_seq ?_
     refine S_reg [true] rfl rfl ?_
     refine J_st (R_assign rfl) rfl (J_done ?_)
     refine S_ret (E_done1 rfl rfl E ?_)
     first | exact sz_neg (by unfold cntWorker; omega) | exact sz_fin (by unfold cntWorker; omega) (by unfold cntWorker; omega)
    ·have q8 := szM_ok hc4 (by omega)
     refine S_skip ?_
     refine S_seq ?_
     refine S_reg [true, true, true, false, true] rfl rfl ?_
     refine J_st (R_fieldAddr0 fl31_4 rfl) rfl (J_st (R_load sc27 rfl (h1.one 4 rfl)) rfl (J_st (R_move rfl) rfl ?_))
     refine J_call Tryz.call18 rfl (c_szIntS o5 x.sums (szM x.cells.length (szM x.inputs.length (szM x.staged.length (szM x.queue.length n)))) _ (hd5.rd.ext E) (by first | omega | (simp only [mkL_length]; omega) | (rw [mkL_length]; done) | (simp only [mkL_length]; done))) rfl (fun _ w6 e6 hv => ?_)
     subst hv
     replace E := E.trans e6; replace h1 := h1.ext e6
     have z6 := e6.size
     refine J_st (R_assign rfl) rfl (J_done ?_)
     refine S_seq ?_
     refine S_seq ?_
     refine S_reg [true, true] rfl rfl ?_
     refine J_st (R_move rfl) rfl (J_st (R_lss rfl rfl) rfl (J_done ?_))
     refine S_cond rfl (fun hc5 => ?_) (fun hc5 => ?_)
     ·have q9 := szM_no hc5 (by omega)
      refine S_seq ?_
      refine S_reg [true] rfl rfl ?_
      refine J_st (R_assign rfl) rfl (J_done ?_)
      refine S_ret (E_done1 rfl rfl E ?_)
      first | exact sz_neg (by unfold cntWorker; omega) | exact sz_fin (by unfold cntWorker; omega) (by unfold cntWorker; omega)
     ·have q10 := szM_ok hc5 (by omega)
      refine S_skip ?_
      refine S_seq ?_
      refine S_reg [true, true, true, false, true] rfl rfl ?_
      refine J_st (R_fieldAddr0 fl31_5 rfl) rfl (J_st (R_load sc28 rfl (h1.one 5 rfl)) rfl (J_st (R_move rfl) rfl ?_))
      refine J_call Tryz.call19 rfl (c_szBoolS o6 x.black (szM x.sums.length (szM x.cells.length (szM x.inputs.length (szM x.staged.length (szM x.queue.length n))))) _ (hd6.rd.ext E) (by first | omega | (simp only [mkL_length]; omega) | (rw [mkL_length]; done) | (simp only [mkL_length]; done))) rfl (fun _ w7 e7 hv => ?_)
      subst hv
      replace E := E.trans e7; replace h1 := h1.ext e7
      have z7 := e7.size
      refine J_st (R_assign rfl) rfl (J_done ?_)
      refine S_seq ?_
      refine S_seq ?_
      refine S_reg [true, true] rfl rfl ?_
      refine J_st (R_move rfl) rfl (J_st (R_lss rfl rfl) rfl (J_done ?_))
      refine S_cond rfl (fun hc6 => ?_) (fun hc6 => ?_)
      ·have q11 := szM_no hc6 (by omega)
       refine S_seq ?_
       refine S_reg [true] rfl rfl ?_
       refine J_st (R_assign rfl) rfl (J_done ?_)
       refine S_ret (E_done1 rfl rfl E ?_)
       first | exact sz_neg (by unfold cntWorker; omega) | exact sz_fin (by unfold cntWorker; omega) (by unfold cntWorker; omega)
      ·have q12 := szM_ok hc6 (by omega)
       refine S_skip ?_
       refine S_seq ?_
       refine S_reg [true, true, true, false, true] rfl rfl ?_
       refine J_st (R_fieldAddr0 fl31_6 rfl) rfl (J_st (R_load sc28 rfl (h1.one 6 rfl)) rfl (J_st (R_move rfl) rfl ?_))
       refine J_call Tryz.call19 rfl (c_szBoolS o7 x.caps (szM x.black.length (szM x.sums.length (szM x.cells.length (szM x.inputs.length (szM x.staged.length (szM x.queue.length n)))))) _ (hd7.rd.ext E) (by first | omega | (simp only [mkL_length]; omega) | (rw [mkL_length]; done) | (simp only [mkL_length]; done))) rfl (fun _ w8 e8 hv => ?_)
       subst hv
       replace E := E.trans e8; replace h1 := h1.ext e8
       have z8 := e8.size
       refine J_st (R_assign rfl) rfl (J_done ?_)
       refine S_seq ?_
       refine S_seq ?_
       refine S_reg [true, true] rfl rfl ?_
       refine J_st (R_move rfl) rfl (J_st (R_lss rfl rfl) rfl (J_done ?_))
       refine S_cond rfl (fun hc7 => ?_) (fun hc7 => ?_)
       ·have q13 := szM_no hc7 (by omega)
        refine S_seq ?_
        refine S_reg [true] rfl rfl ?_
        refine J_st (R_assign rfl) rfl (J_done ?_)
        refine S_ret (E_done1 rfl rfl E ?_)
        first | exact sz_neg (by unfold cntWorker; omega) | exact sz_fin (by unfold cntWorker; omega) (by unfold cntWorker; omega)
       ·have q14 := szM_ok hc7 (by omega)
        refine S_skip ?_
        refine S_seq ?_
        refine S_reg [true, true, true, false, true] rfl rfl ?_
        refine J_st (R_fieldAddr0 fl31_7 rfl) rfl (J_st (R_load sc29 rfl (h1.one 7 rfl)) rfl (J_st (R_move rfl) rfl ?_))
        refine J_call Tryz.call20 rfl (c_szDoneS o8 x.dones (szM x.caps.length (szM x.black.length (szM x.sums.length (szM x.cells.length (szM x.inputs.length (szM x.staged.length (szM x.queue.length n))))))) _ (hd8.rd.ext E) (by first | omega | (simp only [mkL_length]; omega) | (rw [mkL_length]; done) | (simp only [mkL_length]; done))) rfl (fun _ w9 e9 hv => ?_)
        subst hv
        replace E := E.trans e9; replace h1 := h1.ext e9
        have z9 := e9.size
        refine J_st (R_assign rfl) rfl (J_done ?_)
        refine S_seq ?_
        refine S_seq ?_
        refine S_reg [true, true] rfl rfl ?_
        refine J_st (R_move rfl) rfl (J_st (R_lss rfl rfl) rfl (J_done ?_))
        refine S_cond rfl (fun hc8 => ?_) (fun hc8 => ?_)
        ·have q15 := szM_no hc8 (by omega)
         refine S_seq ?_
         refine S_reg [true] rfl rfl ?_
         refine J_st (R_assign rfl) rfl (J_done ?_)
         refine S_ret (E_done1 rfl rfl E ?_)
         first | exact sz_neg (by unfold cntWorker; omega) | exact sz_fin (by unfold cntWorker; omega) (by unfold cntWorker; omega)
        ·have q16 := szM_ok hc8 (by omega)
         refine S_skip ?_
         refine S_seq ?_
         refine S_reg [true, true] rfl rfl ?_
         refine J_st (R_move rfl) rfl (J_st (R_assign rfl) rfl (J_done ?_))
         refine S_ret (E_done1 rfl rfl E ?_)
         first | exact sz_neg (by unfold cntWorker; omega) | exact sz_fin (by unfold cntWorker; omega) (by unfold cntWorker; omega)

set_option maxHeartbeats 4000000 in
set_option maxRecDepth 20000 in
theorem c_toWorker (cx : List Value) (x : Worker) (w : World) (hx : Dat.R w 0 w.heap.size cx x) (hb : cntWorker x ≤ 1048576) : Ct Tryz.prog 8 [.agg cx.toArray] w (fun v w' => ∃ cs, v = .agg cs.toArray ∧ Own1.O w' w.heap.size w'.heap.size cs x) := by
 unfold cntWorker at hb
 refine ct_of Tryz.func8 rfl Tryz.ntmps8 rfl ?_
 obtain ⟨o1, o2, o3, o4, o5, o6, o7, o8, rfl, hd1, hd2, hd3, hd4, hd5, hd6, hd7, hd8⟩ := Worker.op hx
 refine S_sub [(0, .agg [o1, o2, o3, o4, o5, o6, o7, o8].toArray)] ⟨rfl, trivial⟩ ?_
 have E : Ext w w := Ext.refl w
 refine S_seq ?_
 refine S_reg [false, false] rfl rfl ?_
 refine J_box rfl rfl (fun b1 w1 e1 s1 h1 => ?_)
 have g_b1 : w.heap.size ≤ b1 := by have := E.size; omega
 have y_b1 := h1.lt
 replace E := E.trans e1
 have z1 := e1.size
 refine J_alloc st38 rfl (fun b2 w2 e2 s2 h2 => ?_)
 have g_b2 : w.heap.size ≤ b2 := by have := E.size; omega
 have y_b2 := h2.lt
 replace E := E.trans e2; replace h1 := h1.ext e2
 have z2 := e2.size
 refine J_done ?_
 refine S_seq ?_
 refine S_reg [false] rfl rfl ?_
 refine J_alloc st38 rfl (fun b3 w3 e3 s3 h3 => ?_)
 have g_b3 : w.heap.size ≤ b3 := by have := E.size; omega
 have y_b3 := h3.lt
 replace E := E.trans e3; replace h1 := h1.ext e3; replace h2 := h2.ext e3
 have z3 := e3.size
 refine J_done ?_
 refine S_seq ?_
 refine S_reg [true, true, false, true, false] rfl rfl ?_
 refine J_st (R_fieldAddr0 fl31_0 rfl) rfl (J_st (R_load sc25 rfl (h1.one 0 rfl)) rfl ?_)
 refine J_call Tryz.call27 rfl (c_toRecordS o1 x.queue _ (hd1.rd.ext E) (by first | omega | (simp only [mkL_length]; omega) | (rw [mkL_length]; done) | (simp only [mkL_length]; done))) rfl (fun v1 w4 e4 ho1 => ?_)
 have g_ho1 : w.heap.size ≤ w3.heap.size := E.size
 replace E := E.trans e4; replace h1 := h1.ext e4; replace h2 := h2.ext e4; replace h3 := h3.ext e4
 have z4 := e4.size
 refine J_st (R_fieldAddr0 fl38_0 rfl) rfl ?_
 refine J_store' (cs' := [v1, .slice none 0 0, .slice none 0 0, .slice none 0 0, .slice none 0 0, .slice none 0 0, .slice none 0 0, .slice none 0 0]) sc34 rfl rfl ho1.one h3 (Nat.le_of_ble_eq_true rfl) rfl (fun w5 m1 h3' => ?_)
 replace h3 := h3'
 replace E := E.step m1 (fun g hg => by cases hg; omega); replace h1 := h1.mod m1 (fun g hg => by cases hg; omega); replace h2 := h2.mod m1 (fun g hg => by cases hg; omega); replace ho1 := ho1.mod m1 (fun g hg => by cases hg; omega)
 have z5 := m1.size
 refine J_done ?_
 refine S_seq ?_
 refine S_reg [true, true, false, true, false] rfl rfl ?_
 refine J_st (R_fieldAddr0 fl31_1 rfl) rfl (J_st (R_load sc25 rfl (h1.one 1 rfl)) rfl ?_)
 refine J_call Tryz.call27 rfl (c_toRecordS o2 x.staged _ (hd2.rd.ext E) (by first | omega | (simp only [mkL_length]; omega) | (rw [mkL_length]; done) | (simp only [mkL_length]; done))) rfl (fun v2 w6 e5 ho2 => ?_)
 have g_ho2 : w.heap.size ≤ w5.heap.size := E.size
 replace E := E.trans e5; replace h1 := h1.ext e5; replace h2 := h2.ext e5; replace h3 := h3.ext e5; replace ho1 := ho1.ext e5
 have z6 := e5.size
 refine J_st (R_fieldAddr0 fl38_1 rfl) rfl ?_
 refine J_store' (cs' := [v1, v2, .slice none 0 0, .slice none 0 0, .slice none 0 0, .slice none 0 0, .slice none 0 0, .slice none 0 0]) sc34 rfl rfl ho2.one h3 (Nat.le_of_ble_eq_true rfl) rfl (fun w7 m2 h3' => ?_)
 replace h3 := h3'
 replace E := E.step m2 (fun g hg => by cases hg; omega); replace h1 := h1.mod m2 (fun g hg => by cases hg; omega); replace h2 := h2.mod m2 (fun g hg => by cases hg; omega); replace ho1 := ho1.mod m2 (fun g hg => by cases hg; omega); replace ho2 := ho2.mod m2 (fun g hg => by cases hg; omega)
 have z7 := m2.size
 refine J_done ?_
 refine S_seq ?_
 refine S_reg [true, true, false, true, false] rfl rfl ?_
 refine J_st (R_fieldAddr0 fl31_2 rfl) rfl (J_st (R_load sc25 rfl (h1.one 2 rfl)) rfl ?_)
 refine J_call Tryz.call27 rfl (c_toRecordS o3 x.inputs _ (hd3.rd.ext E) (by first | omega | (simp only [mkL_length]; omega) | (rw [mkL_length]; done) | (simp only [mkL_length]; done))) rfl (fun v3 w8 e6 ho3 => ?_)
 have g_ho3 : w.heap.size ≤ w7.heap.size := E.size
 replace E := E.trans e6; replace h1 := h1.ext e6; replace h2 := h2.ext e6; replace h3 := h3.ext e6; replace ho1 := ho1.ext e6; replace ho2 := ho2.ext e6
 have z8 := e6.size
 refine J_st (R_fieldAddr0 fl38_2 rfl) rfl ?_
 refine J_store' (cs' := [v1, v2, v3, .slice none 0 0, .slice none 0 0, .slice none 0 0, .slice none 0 0, .slice none 0 0]) sc34 rfl rfl ho3.one h3 (Nat.le_of_ble_eq_true rfl) rfl (fun w9 m3 h3' => ?_)
 replace h3 := h3'
 replace E := E.step m3 (fun g hg => by cases hg; omega); replace h1 := h1.mod m3 (fun g hg => by cases hg; omega); replace h2 := h2.mod m3 (fun g hg => by cases hg; omega); replace ho1 := ho1.mod m3 (fun g hg => by cases hg; omega); replace ho2 := ho2.mod m3 (fun g hg => by cases hg; omega); replace ho3 := ho3.mod m3 (fun g hg => by cases hg; omega)
 have z9 := m3.size
 refine J_done ?_
 refine S_seq ?_
 refine S_reg [true, true, false, true, false] rfl rfl ?_
 refine J_st (R_fieldAddr0 fl31_3 rfl) rfl (J_st (R_load sc26 rfl (h1.one 3 rfl)) rfl ?_)
 refine J_call Tryz.call28 rfl (c_toCellS o4 x.cells _ (hd4.rd.ext E) (by first | omega | (simp only [mkL_length]; omega) | (rw [mkL_length]; done) | (simp only [mkL_length]; done))) rfl (fun v4 w10 e7 ho4 => ?_)
 have g_ho4 : w.heap.size ≤ w9.heap.size := E.size
 replace E := E.trans e7; replace h1 := h1.ext e7; replace h2 := h2.ext e7; replace h3 := h3.ext e7; replace ho1 := ho1.ext e7; replace ho2 := ho2.ext e7; replace ho3 := ho3.ext e7
 have z10 := e7.size
 refine J_st (R_fieldAddr0 fl38_3 rfl) rfl ?_
 refine J_store' (cs' := [v1, v2, v3, v4, .slice none 0 0, .slice none 0 0, .slice none 0 0, .slice none 0 0]) sc35 rfl rfl ho4.one h3 (Nat.le_of_ble_eq_true rfl) rfl (fun w11 m4 h3' => ?_)
 replace h3 := h3'
 replace E := E.step m4 (fun g hg => by cases hg; omega); replace h1 := h1.mod m4 (fun g hg => by cases hg; omega); replace h2 := h2.mod m4 (fun g hg => by cases hg; omega); replace ho1 := ho1.mod m4 (fun g hg => by cases hg; omega); replace ho2 := ho2.mod m4 (fun g hg => by cases hg; omega); replace ho3 := ho3.mod m4 (fun g hg => by cases hg; omega); replace ho4 := ho4.mod m4 (fun g hg => by cases hg; omega)
 have z11 := m4.size
 refine J_done ?_
 refine S_seq ?_
 refine S_reg [true, true, false, true, false] rfl rfl ?_
 refine J_st (R_fieldAddr0 fl31_4 rfl) rfl (J_st (R_load sc27 rfl (h1.one 4 rfl)) rfl ?_)
 refine J_call Tryz.call29 rfl (c_toIntS o5 x.sums _ (hd5.rd.ext E) (by first | omega | (simp only [mkL_length]; omega) | (rw [mkL_length]; done) | (simp only [mkL_length]; done))) rfl (fun v5 w12 e8 ho5 => ?_)
 have g_ho5 : w.heap.size ≤ w11.heap.size := E.size
 replace E := E.trans e8; replace h1 := h1.ext e8; replace h2 := h2.ext e8; replace h3 := h3.ext e8; replace ho1 := ho1.ext e8; replace ho2 := ho2.ext e8; replace ho3 := ho3.ext e8; replace ho4 := ho4.ext e8
 have z12 := e8.size
 refine J_st (R_fieldAddr0 fl38_4 rfl) rfl ?_
 refine J_store' (cs' := [v1, v2, v3, v4, v5, .slice none 0 0, .slice none 0 0, .slice none 0 0]) sc27 rfl rfl ho5.one h3 (Nat.le_of_ble_eq_true rfl) rfl (fun w13 m5 h3' => ?_)
 replace h3 := h3'
 replace E := E.step m5 (fun g hg => by cases hg; omega); replace h1 := h1.mod m5 (fun g hg => by cases hg; omega); replace h2 := h2.mod m5 (fun g hg => by cases hg; omega); replace ho1 := ho1.mod m5 (fun g hg => by cases hg; omega); replace ho2 := ho2.mod m5 (fun g hg => by cases hg; omega); replace ho3 := ho3.mod m5 (fun g hg => by cases hg; omega); replace ho4 := ho4.mod m5 (fun g hg => by cases hg; omega); replace ho5 := ho5.mod m5 (fun g hg => by cases hg; omega)
 have z13 := m5.size
 refine J_done ?_
 refine S_seq ?_
 refine S_reg [true, true, false, true, false] rfl rfl ?_
 refine J_st (R_fieldAddr0 fl31_5 rfl) rfl (J_st (R_load sc28 rfl (h1.one 5 rfl)) rfl ?_)
 refine J_call Tryz.call30 rfl (c_toBoolS o6 x.black _ (hd6.rd.ext E) (by first | omega | (simp only [mkL_length]; omega) | (rw [mkL_length]; done) | (simp only [mkL_length]; done))) rfl (fun v6 w14 e9 ho6 => ?_)
 have g_ho6 : w.heap.size ≤ w13.heap.size := E.size
 replace E := E.trans e9; replace h1 := h1.ext e9; replace h2 := h2.ext e9; replace h3 := h3.ext e9; replace ho1 := ho1.ext e9; replace ho2 := ho2.ext e9; replace ho3 := ho3.ext e9; replace ho4 := ho4.ext e9; replace ho5 := ho5.ext e9
 have z14 := e9.size
 refine J_st (R_fieldAddr0 fl38_5 rfl) rfl ?_
 refine J_store' (cs' := [v1, v2, v3, v4, v5, v6, .slice none 0 0, .slice none 0 0]) sc28 rfl rfl ho6.one h3 (Nat.le_of_ble_eq_true rfl) rfl (fun w15 m6 h3' => ?_)
 replace h3 := h3'
 replace E := E.step m6 (fun g hg => by cases hg; omega); replace h1 := h1.mod m6 (fun g hg => by cases hg; omega); replace h2 := h2.mod m6 (fun g hg => by cases hg; omega); replace ho1 := ho1.mod m6 (fun g hg => by cases hg; omega); replace ho2 := ho2.mod m6 (fun g hg => by cases hg; omega); replace ho3 := ho3.mod m6 (fun g hg => by cases hg; omega); replace ho4 := ho4.mod m6 (fun g hg => by cases hg; omega); replace ho5 := ho5.mod m6 (fun g hg => by cases hg; omega); replace ho6 := ho6.mod m6 (fun g hg => by cases hg; omega)
 have z15 := m6.size
 refine J_done ?_
 refine S_seq ?_
 refine S_reg [true, true, false, true, false] rfl rfl ?_
 refine J_st (R_fieldAddr0 fl31_6 rfl) rfl (J_st (R_load sc28 rfl (h1.one 6 rfl)) rfl ?_)
 refine J_call Tryz.call30 rfl (c_toBoolS o7 x.caps _ (hd7.rd.ext E) (by first | omega | (simp only [mkL_length]; omega) | (rw [mkL_length]; done) | (simp only [mkL_length]; done))) rfl (fun v7 w16 e10 ho7 => ?_)
 have g_ho7 : w.heap.size ≤ w15.heap.size := E.size
 replace E := E.trans e10; replace h1 := h1.ext e10; replace h2 := h2.ext e10; replace h3 := h3.ext e10; replace ho1 := ho1.ext e10; replace ho2 := ho2.ext e10; replace ho3 := ho3.ext e10; replace ho4 := ho4.ext e10; replace ho5 := ho5.ext e10; replace ho6 := ho6.ext e10
 have z16 := e10.size
 refine J_st (R_fieldAddr0 fl38_6 rfl) rfl ?_
 refine J_store' (cs' := [v1, v2, v3, v4, v5, v6, v7, .slice none 0 0]) sc28 rfl rfl ho7.one h3 (Nat.le_of_ble_eq_true rfl) rfl (fun w17 m7 h3' => ?_)
 replace h3 := h3'
 replace E := E.step m7 (fun g hg => by cases hg; omega); replace h1 := h1.mod m7 (fun g hg => by cases hg; omega); replace h2 := h2.mod m7 (fun g hg => by cases hg; omega); replace ho1 := ho1.mod m7 (fun g hg => by cases hg; omega); replace ho2 := ho2.mod m7 (fun g hg => by cases hg; omega); replace ho3 := ho3.mod m7 (fun g hg => by cases hg; omega); replace ho4 := ho4.mod m7 (fun g hg => by cases hg; omega); replace ho5 := ho5.mod m7 (fun g hg => by cases hg; omega); replace ho6 := ho6.mod m7 (fun g hg => by cases hg; omega); replace ho7 := ho7.mod m7 (fun g hg => by cases hg; omega)
 have z17 := m7.size
 refine J_done ?_
 refine S_seq ?_
 refine S_reg [true, true, false, true, false] rfl rfl ?_
 refine J_st (R_fieldAddr0 fl31_7 rfl) rfl (J_st (R_load sc29 rfl (h1.one 7 rfl)) rfl ?_)
 refine J_call Tryz.call31 rfl (c_toDoneS o8 x.dones _ (hd8.rd.ext E) (by first | omega | (simp only [mkL_length]; omega) | (rw [mkL_length]; done) | (simp only [mkL_length]; done))) rfl (fun v8 w18 e11 ho8 => ?_)
 have g_ho8 : w.heap.size ≤ w17.heap.size := E.size
 replace E := E.trans e11; replace h1 := h1.ext e11; replace h2 := h2.ext e11; replace h3 := h3.ext e11; replace ho1 := ho1.ext e11; replace ho2 := ho2.ext e11; replace ho3 := ho3.ext e11; replace ho4 := ho4.ext e11; replace ho5 := ho5.ext e11; replace ho6 := ho6.ext e11; replace ho7 := ho7.ext e11
 have z18 := e11.size
 refine J_st (R_fieldAddr0 fl38_7 rfl) rfl ?_
 refine J_store' (cs' := [v1, v2, v3, v4, v5, v6, v7, v8]) sc36 rfl rfl ho8.one h3 (Nat.le_of_ble_eq_true rfl) rfl (fun w19 m8 h3' => ?_)
 replace h3 := h3'
 replace E := E.step m8 (fun g hg => by cases hg; omega); replace h1 := h1.mod m8 (fun g hg => by cases hg; omega); replace h2 := h2.mod m8 (fun g hg => by cases hg; omega); replace ho1 := ho1.mod m8 (fun g hg => by cases hg; omega); replace ho2 := ho2.mod m8 (fun g hg => by cases hg; omega); replace ho3 := ho3.mod m8 (fun g hg => by cases hg; omega); replace ho4 := ho4.mod m8 (fun g hg => by cases hg; omega); replace ho5 := ho5.mod m8 (fun g hg => by cases hg; omega); replace ho6 := ho6.mod m8 (fun g hg => by cases hg; omega); replace ho7 := ho7.mod m8 (fun g hg => by cases hg; omega); replace ho8 := ho8.mod m8 (fun g hg => by cases hg; omega)
 have z19 := m8.size
 refine J_done ?_
 refine S_seq ?_
 refine S_reg [true, false] rfl rfl ?_
 refine J_st (R_loadS st38 rfl h3.at rfl) rfl ?_
 refine J_storeS' (cs' := [v1, v2, v3, v4, v5, v6, v7, v8]) st38 rfl rfl rfl (all_cons ho1.one (all_cons ho2.one (all_cons ho3.one (all_cons ho4.one (all_cons ho5.one (all_cons ho6.one (all_cons ho7.one (all_cons ho8.one rfl)))))))) h2 (Nat.le_of_ble_eq_true rfl) rfl (fun w20 m9 h2' => ?_)
 replace h2 := h2'
 replace E := E.step m9 (fun g hg => by cases hg; omega); replace h1 := h1.mod m9 (fun g hg => by cases hg; omega); replace h3 := h3.mod m9 (fun g hg => by cases hg; omega); replace ho1 := ho1.mod m9 (fun g hg => by cases hg; omega); replace ho2 := ho2.mod m9 (fun g hg => by cases hg; omega); replace ho3 := ho3.mod m9 (fun g hg => by cases hg; omega); replace ho4 := ho4.mod m9 (fun g hg => by cases hg; omega); replace ho5 := ho5.mod m9 (fun g hg => by cases hg; omega); replace ho6 := ho6.mod m9 (fun g hg => by cases hg; omega); replace ho7 := ho7.mod m9 (fun g hg => by cases hg; omega); replace ho8 := ho8.mod m9 (fun g hg => by cases hg; omega)
 have z20 := m9.size
 refine J_done ?_
 refine S_ret (E_doneC rfl rfl (run_loadVar_st st38 h2.at rfl) E ?_)
 exact ⟨_, rfl, Worker.mkO x ⟨⟨(Own.sep ho1 ho2 (by omega)), ⟨(Own.sep ho1 ho3 (by omega)), ⟨(Own.sep ho1 ho4 (by omega)), ⟨(Own.sep ho1 ho5 (by omega)), ⟨(Own.sep ho1 ho6 (by omega)), ⟨(Own.sep ho1 ho7 (by omega)), ⟨(Own.sep ho1 ho8 (by omega)), trivial⟩⟩⟩⟩⟩⟩⟩, ⟨⟨(Own.sep ho2 ho3 (by omega)), ⟨(Own.sep ho2 ho4 (by omega)), ⟨(Own.sep ho2 ho5 (by omega)), ⟨(Own.sep ho2 ho6 (by omega)), ⟨(Own.sep ho2 ho7 (by omega)), ⟨(Own.sep ho2 ho8 (by omega)), trivial⟩⟩⟩⟩⟩⟩, ⟨⟨(Own.sep ho3 ho4 (by omega)), ⟨(Own.sep ho3 ho5 (by omega)), ⟨(Own.sep ho3 ho6 (by omega)), ⟨(Own.sep ho3 ho7 (by omega)), ⟨(Own.sep ho3 ho8 (by omega)), trivial⟩⟩⟩⟩⟩, ⟨⟨(Own.sep ho4 ho5 (by omega)), ⟨(Own.sep ho4 ho6 (by omega)), ⟨(Own.sep ho4 ho7 (by omega)), ⟨(Own.sep ho4 ho8 (by omega)), trivial⟩⟩⟩⟩, ⟨⟨(Own.sep ho5 ho6 (by omega)), ⟨(Own.sep ho5 ho7 (by omega)), ⟨(Own.sep ho5 ho8 (by omega)), trivial⟩⟩⟩, ⟨⟨(Own.sep ho6 ho7 (by omega)), ⟨(Own.sep ho6 ho8 (by omega)), trivial⟩⟩, ⟨⟨(Own.sep ho7 ho8 (by omega)), trivial⟩, ⟨trivial, trivial⟩⟩⟩⟩⟩⟩⟩⟩ (Own.widen ho1 (by omega) (by omega)) (Own.widen ho2 (by omega) (by omega)) (Own.widen ho3 (by omega) (by omega)) (Own.widen ho4 (by omega) (by omega)) (Own.widen ho5 (by omega) (by omega)) (Own.widen ho6 (by omega) (by omega)) (Own.widen ho7 (by omega) (by omega)) (Own.widen ho8 (by omega) (by omega))⟩

set_option maxHeartbeats 4000000 in
set_option maxRecDepth 20000 in
theorem c_eqWorker (cx : List Value) (x : Worker) (cy : List Value) (y : Worker) (w : World) (hx : Dat.R w 0 w.heap.size cx x) (hy : Dat.R w 0 w.heap.size cy y) : Ct Tryz.prog 10 [.agg cx.toArray, .agg cy.toArray] w (fun v _ => v = .bool (decide (x = y))) := by
 refine ct_of Tryz.func10 rfl Tryz.ntmps10 rfl ?_
 obtain ⟨o1, o2, o3, o4, o5, o6, o7, o8, rfl, hd1, hd2, hd3, hd4, hd5, hd6, hd7, hd8⟩ := Worker.op hx
 obtain ⟨o9, o10, o11, o12, o13, o14, o15, o16, rfl, hd9, hd10, hd11, hd12, hd13, hd14, hd15, hd16⟩ := Worker.op hy
 refine S_sub [(0, .agg [o1, o2, o3, o4, o5, o6, o7, o8].toArray), (1, .agg [o9, o10, o11, o12, o13, o14, o15, o16].toArray)] ⟨rfl, rfl, trivial⟩ ?_
 have E : Ext w w := Ext.refl w
 refine S_seq ?_
 refine S_reg [false, false, true] rfl rfl ?_
 refine J_box rfl rfl (fun b1 w1 e1 s1 h1 => ?_)
 have g_b1 : w.heap.size ≤ b1 := by have := E.size; omega
 have y_b1 := h1.lt
 replace E := E.trans e1
 have z1 := e1.size
 refine J_box rfl rfl (fun b2 w2 e2 s2 h2 => ?_)
 have g_b2 : w.heap.size ≤ b2 := by have := E.size; omega
 have y_b2 := h2.lt
 replace E := E.trans e2; replace h1 := h1.ext e2
 have z2 := e2.size
 refine J_st (R_assign rfl) rfl (J_done ?_)
 refine S_seq ?_
 refine S_seq ?_
 refine S_reg [true, true, true, true, false, true] rfl rfl ?_
 refine J_st (R_fieldAddr0 fl38_0 rfl) rfl (J_st (R_load sc34 rfl (h1.one 0 rfl)) rfl (J_st (R_fieldAddr0 fl38_0 rfl) rfl (J_st (R_load sc34 rfl (h2.one 0 rfl)) rfl ?_)))
 refine J_call Tryz.call37 rfl (c_eqRecordS o1 x.queue o9 y.queue _ (hd1.rd.ext E) (hd9.rd.ext E)) rfl (fun _ w3 e3 hv => ?_)
 subst hv
 replace E := E.trans e3; replace h1 := h1.ext e3; replace h2 := h2.ext e3
 have z3 := e3.size
 refine J_st (R_not rfl) rfl (J_done ?_)
 refine S_cond rfl (fun hc1 => ?_) (fun hc1 => ?_)
 ·refine S_seq ?_
  refine S_reg [true] rfl rfl ?_
  refine J_st (R_assign rfl) rfl (J_done ?_)
  refine S_ret (E_done1 rfl rfl E ?_)
  cases x; cases y; simp_all
 ·refine S_skip ?_
  refine S_seq ?_
  refine S_seq ?_
  refine S_reg [true, true, true, true, false, true] rfl rfl ?_
  refine J_st (R_fieldAddr0 fl38_1 rfl) rfl (J_st (R_load sc34 rfl (h1.one 1 rfl)) rfl (J_st (R_fieldAddr0 fl38_1 rfl) rfl (J_st (R_load sc34 rfl (h2.one 1 rfl)) rfl ?_)))
  refine J_call Tryz.call37 rfl (c_eqRecordS o2 x.staged o10 y.staged _ (hd2.rd.ext E) (hd10.rd.ext E)) rfl (fun _ w4 e4 hv => ?_)
  subst hv
  replace E := E.trans e4; replace h1 := h1.ext e4; replace h2 := h2.ext e4
  have z4 := e4.size
  refine J_st (R_not rfl) rfl (J_done ?_)
  refine S_cond rfl (fun hc2 => ?_) (fun hc2 => ?_)
  ·refine S_seq ?_
   refine S_reg [true] rfl rfl ?_
   refine J_st (R_assign rfl) rfl (J_done ?_)
   refine S_ret (E_done1 rfl rfl E ?_)
   cases x; cases y; simp_all
  ·refine S_skip ?_
   refine S_seq ?_
   refine S_seq ?_
   refine S_reg [true, true, true, true, false, true] rfl rfl ?_
   refine J_st (R_fieldAddr0 fl38_2 rfl) rfl (J_st (R_load sc34 rfl (h1.one 2 rfl)) rfl (J_st (R_fieldAddr0 fl38_2 rfl) rfl (J_st (R_load sc34 rfl (h2.one 2 rfl)) rfl ?_)))
   refine J_call Tryz.call37 rfl (c_eqRecordS o3 x.inputs o11 y.inputs _ (hd3.rd.ext E) (hd11.rd.ext E)) rfl (fun _ w5 e5 hv => ?_)
   subst hv
   replace E := E.trans e5; replace h1 := h1.ext e5; replace h2 := h2.ext e5
   have z5 := e5.size
   refine J_st (R_not rfl) rfl (J_done ?_)
   refine S_cond rfl (fun hc3 => ?_) (fun hc3 => ?_)
   ·refine S_seq ?_
    refine S_reg [true] rfl rfl ?_
    refine J_st (R_assign rfl) rfl (J_done ?_)
    refine S_ret (E_done1 rfl rfl E ?_)
    cases x; cases y; simp_all
   ·refine S_skip ?_
    refine S_seq ?_
    refine S_seq ?_
    refine S_reg [true, true, true, true, false, true] rfl rfl ?_
    refine J_st (R_fieldAddr0 fl38_3 rfl) rfl (J_st (R_load sc35 rfl (h1.one 3 rfl)) rfl (J_st (R_fieldAddr0 fl38_3 rfl) rfl (J_st (R_load sc35 rfl (h2.one 3 rfl)) rfl ?_)))
    refine J_call Tryz.call38 rfl (c_eqCellS o4 x.cells o12 y.cells _ (hd4.rd.ext E) (hd12.rd.ext E)) rfl (fun _ w6 e6 hv => ?_)
    subst hv
    replace E := E.trans e6; replace h1 := h1.ext e6; replace h2 := h2.ext e6
    have z6 := e6.size
    refine J_st (R_not rfl) rfl (J_done ?_)
    refine S_cond rfl (fun hc4 => ?_) (fun hc4 => ?_)
    ·refine S_seq ?_
     refine S_reg [true] rfl rfl ?_
     refine J_st (R_assign rfl) rfl (J_done ?_)
     refine S_ret (E_done1 rfl rfl E ?_)
     cases x; cases y; simp_all
    ·refine S_skip ?_
     refine S_seq ?_
     refine S_seq ?_
     refine S_reg [true, true, true, true, false, true] rfl rfl ?_
     refine J_st (R_fieldAddr0 fl38_4 rfl) rfl (J_st (R_load sc27 rfl (h1.one 4 rfl)) rfl (J_st (R_fieldAddr0 fl38_4 rfl) rfl (J_st (R_load sc27 rfl (h2.one 4 rfl)) rfl ?_)))
     refine J_call Tryz.call39 rfl (c_eqIntS o5 x.sums o13 y.sums _ (hd5.rd.ext E) (hd13.rd.ext E)) rfl (fun _ w7 e7 hv => ?_)
     subst hv
     replace E := E.trans e7; replace h1 := h1.ext e7; replace h2 := h2.ext e7
     have z7 := e7.size
     refine J_st (R_not rfl) rfl (J_done ?_)
     refine S_cond rfl (fun hc5 => ?_) (fun hc5 => ?_)
     ·refine S_seq ?_
      refine S_reg [true] rfl rfl ?_
      refine J_st (R_assign rfl) rfl (J_done ?_)
      refine S_ret (E_done1 rfl rfl E ?_)
      cases x; cases y; simp_all
     ·refine S_skip ?_
      refine S_seq ?_
      refine S_seq ?_
      refine S_reg [true, true, true, true, false, true] rfl rfl ?_
      refine J_st (R_fieldAddr0 fl38_5 rfl) rfl (J_st (R_load sc28 rfl (h1.one 5 rfl)) rfl (J_st (R_fieldAddr0 fl38_5 rfl) rfl (J_st (R_load sc28 rfl (h2.one 5 rfl)) rfl ?_)))
      refine J_call Tryz.call40 rfl (c_eqBoolS o6 x.black o14 y.black _ (hd6.rd.ext E) (hd14.rd.ext E)) rfl (fun _ w8 e8 hv => ?_)
      subst hv
      replace E := E.trans e8; replace h1 := h1.ext e8; replace h2 := h2.ext e8
      have z8 := e8.size
      refine J_st (R_not rfl) rfl (J_done ?_)
      refine S_cond rfl (fun hc6 => ?_) (fun hc6 => ?_)
      ·refine S_seq ?_
       refine S_reg [true] rfl rfl ?_
       refine J_st (R_assign rfl) rfl (J_done ?_)
       refine S_ret (E_done1 rfl rfl E ?_)
       cases x; cases y; simp_all
      ·refine S_skip ?_
       refine S_seq ?_
       refine S_seq ?_
       refine S_reg [true, true, true, true, false, true] rfl rfl ?_
       refine J_st (R_fieldAddr0 fl38_6 rfl) rfl (J_st (R_load sc28 rfl (h1.one 6 rfl)) rfl (J_st (R_fieldAddr0 fl38_6 rfl) rfl (J_st (R_load sc28 rfl (h2.one 6 rfl)) rfl ?_)))
       refine J_call Tryz.call40 rfl (c_eqBoolS o7 x.caps o15 y.caps _ (hd7.rd.ext E) (hd15.rd.ext E)) rfl (fun _ w9 e9 hv => ?_)
       subst hv
       replace E := E.trans e9; replace h1 := h1.ext e9; replace h2 := h2.ext e9
       have z9 := e9.size
       refine J_st (R_not rfl) rfl (J_done ?_)
       refine S_cond rfl (fun hc7 => ?_) (fun hc7 => ?_)
       ·refine S_seq ?_
        refine S_reg [true] rfl rfl ?_
        refine J_st (R_assign rfl) rfl (J_done ?_)
        refine S_ret (E_done1 rfl rfl E ?_)
        cases x; cases y; simp_all
       ·refine S_skip ?_
        refine S_seq ?_
        refine S_seq ?_
        refine S_reg [true, true, true, true, false, true] rfl rfl ?_
        refine J_st (R_fieldAddr0 fl38_7 rfl) rfl (J_st (R_load sc36 rfl (h1.one 7 rfl)) rfl (J_st (R_fieldAddr0 fl38_7 rfl) rfl (J_st (R_load sc36 rfl (h2.one 7 rfl)) rfl ?_)))
        refine J_call Tryz.call41 rfl (c_eqDoneS o8 x.dones o16 y.dones _ (hd8.rd.ext E) (hd16.rd.ext E)) rfl (fun _ w10 e10 hv => ?_)
        subst hv
        replace E := E.trans e10; replace h1 := h1.ext e10; replace h2 := h2.ext e10
        have z10 := e10.size
        refine J_st (R_not rfl) rfl (J_done ?_)
        refine S_cond rfl (fun hc8 => ?_) (fun hc8 => ?_)
        ·refine S_seq ?_
         refine S_reg [true] rfl rfl ?_
         refine J_st (R_assign rfl) rfl (J_done ?_)
         refine S_ret (E_done1 rfl rfl E ?_)
         cases x; cases y; simp_all
        ·refine S_skip ?_
         refine S_seq ?_
         refine S_reg [true] rfl rfl ?_
         refine J_st (R_assign rfl) rfl (J_done ?_)
         refine S_ret (E_done1 rfl rfl E ?_)
         cases x; cases y; simp_all

set_option maxRecDepth 20000 in
theorem c_IndexFuncDone (vxs : Value) (xs : List Done) (fp : Value) (p : Done → Bool) (w : World) (hxs : RdS w vxs xs) (hp : PredF Tryz.prog w fp p) : Ct Tryz.prog 103 [vxs, fp] w (fun v _ => v = .int .i64 (findI xs p)) := by
 refine ct_of Tryz.func103 rfl Tryz.ntmps103 rfl ?_
 obtain ⟨fid, fs, fc, rfl, hcf, hpf⟩ := hp
 refine S_sub [(0, vxs), (1, .func (.func fid) fs.toArray fc.toArray)] ⟨rfl, rfl, trivial⟩ ?_
 have E : Ext w w := Ext.refl w
 refine S_seq ?_
 refine S_reg [true] rfl rfl ?_
 refine J_st (R_assign rfl) rfl (J_done ?_)
 refine S_seq ?_
 refine S_seq ?_
 refine S_reg [true, true, true] rfl rfl ?_
 refine J_st (R_move rfl) rfl (J_st (R_len Tryz.underlying36 rfl (hxs.ext E).len) rfl (J_st (R_move rfl) rfl (J_done ?_)))
 refine S_block ?_
 refine S_loop (fun (k : Nat) => [(0, vxs), (1, .func (.func fid) fs.toArray fc.toArray), (4, .int .i64 0), (7, .int .i64 ((xs.length : Nat) : Int)), (8, .int .i64 ((k : Nat) : Int))]) (fun (k : Nat) w' => Ext w w' ∧ w.heap.size ≤ w'.heap.size ∧ k ≤ xs.length ∧ (xs.take k).any p = false) (fun (k : Nat) => xs.length - k) 0 ⟨rfl, rfl, rfl, rfl, rfl, trivial⟩ ⟨E, Nat.le_refl _, Nat.zero_le _, rfl⟩ ?_
 clear E
 rintro k w1 ⟨E, z1, hk, hI⟩
 refine S_seq ?_
 refine S_reg [true] rfl rfl ?_
 refine J_st (R_lss rfl rfl) rfl (J_done ?_)
 refine S_seq ?_
 refine S_cond rfl (fun hc1 => ?_) (fun hc1 => ?_)
 ·have hc1n : k < xs.length := by first | (have h := of_decide_eq_true hc1; omega) | (have h := hc1; simp at h; omega)
  refine S_skip ?_
  refine S_seq ?_
  refine S_block ?_
  refine S_seq ?_
  refine S_reg [true, true] rfl rfl ?_
  refine J_st (R_move rfl) rfl (J_st (R_assign rfl) rfl (J_done ?_))
  refine S_seq ?_
  refine S_reg [true, true, true, true, true, false] rfl rfl ?_
  refine J_st (R_move rfl) rfl (J_st (R_move rfl) rfl (J_st (R_move rfl) rfl ?_))
  have hi1 : k < xs.length := (by first | assumption | omega)
  refine J_st (R_index (i := k) sl36 rfl rfl (hxs.ext E) hi1) rfl (J_st (R_loadS st92 rfl ((hxs.ext E).get hi1) rfl) rfl ?_)
  refine J_callV (fs := fs) (cs := fc) hcf rfl rfl (hpf (xs[k]'hi1) _ E) rfl (fun _ w2 e1 hv => ?_)
  subst hv
  replace E := E.trans e1
  have z2 := e1.size
  refine J_done ?_
  refine S_cond rfl (fun hc2 => ?_) (fun hc2 => ?_)
  ·refine S_seq ?_
   refine S_reg [true, true] rfl rfl ?_
   refine J_st (R_move rfl) rfl (J_st (R_assign rfl) rfl (J_done ?_))
   refine S_ret (E_inB_ret (E_lp_ret (E_inB_ret (E_done1 rfl rfl E ?_))))
   exact find_yes hI (by assumption) hc2
  ·refine S_skip ?_
   refine S_nil (E_inB ?_)
   refine S_reg [true, true] rfl rfl ?_
   refine J_st (R_add rfl rfl (add_one hc1n hxs.1)) rfl (J_st (R_move rfl) rfl (J_done ?_))
   refine S_nil (E_again (k + 1) (by omega) ⟨rfl, rfl, rfl, rfl, rfl, trivial⟩ ⟨E, (by omega), (by omega), any_step hI (by assumption) hc2⟩)
 ·have hc1n : ¬ k < xs.length := by first | (have h := of_decide_eq_false hc1; omega) | (have h := hc1; simp at h; omega)
  refine S_exit (E_lp_exit (E_inB_exit ?_))
  refine S_seq ?_
  refine S_reg [true] rfl rfl ?_
  refine J_st (R_assign rfl) rfl (J_done ?_)
  refine S_ret (E_done1 rfl rfl E ?_)
  exact find_no hI (by omega)

set_option maxRecDepth 20000 in
theorem c_ContainsFuncDone (vxs : Value) (xs : List Done) (fp : Value) (p : Done → Bool) (w : World) (hxs : RdS w vxs xs) (hp : PredF Tryz.prog w fp p) : Ct Tryz.prog 93 [vxs, fp] w (fun v _ => v = .bool (xs.any p)) := by
 refine ct_of Tryz.func93 rfl Tryz.ntmps93 rfl ?_
 obtain ⟨fid, fs, fc, rfl, hcf, hpf⟩ := hp
 refine S_sub [(0, vxs), (1, .func (.func fid) fs.toArray fc.toArray)] ⟨rfl, rfl, trivial⟩ ?_
 have E : Ext w w := Ext.refl w
 refine S_seq ?_
 refine S_reg [true] rfl rfl ?_
 refine J_st (R_assign rfl) rfl (J_done ?_)
 refine S_seq ?_
 refine S_reg [true, true, false, true, true] rfl rfl ?_
 refine J_st (R_move rfl) rfl (J_st (R_move rfl) rfl ?_)
 refine J_call Tryz.call103 (by rfl) (c_IndexFuncDone vxs xs (.func (.func fid) fs.toArray fc.toArray) (p) _ (hxs.ext E) ⟨fid, fs, fc, rfl, hcf, fun y w' e => hpf y w' (E.trans e)⟩) rfl (fun _ w1 e1 hv => ?_)
 subst hv
 replace E := E.trans e1
 have z1 := e1.size
 refine J_st (R_geq rfl rfl) rfl (J_st (R_assign rfl) rfl (J_done ?_))
 refine S_ret (E_done1 rfl rfl E ?_)
 exact any_find

set_option maxRecDepth 20000 in
theorem c_doneAt1 (r : Done) (be : Nat) (e : Int) (w : World) (he : At w be 0 [.int .i64 e]) : Ct Tryz.prog 94 [.agg (Enc.enc r).toArray, .pointer (some ⟨be, 0, none⟩)] w (fun v _ => v = .bool (r.epoch == e)) := by
 refine ct_of Tryz.func94 rfl Tryz.ntmps94 rfl ?_
 refine S_sub [(0, .agg (Enc.enc r).toArray), (1, .pointer (some ⟨be, 0, none⟩))] ⟨rfl, rfl, trivial⟩ ?_
 have E : Ext w w := Ext.refl w
 refine S_seq ?_
 refine S_reg [false, true] rfl rfl ?_
 refine J_box rfl rfl (fun b1 w1 e1 s1 h1 => ?_)
 have g_b1 : w.heap.size ≤ b1 := by have := E.size; omega
 have y_b1 := h1.lt
 replace E := E.trans e1
 have z1 := e1.size
 refine J_st (R_assign rfl) rfl (J_done ?_)
 refine S_seq ?_
 refine S_reg [true, true, true, true, true] rfl rfl ?_
 refine J_st (R_fieldAddr0 fl92_0 rfl) rfl (J_st (R_load sc3 rfl (h1.one 0 rfl)) rfl (J_st (R_load sc3 rfl ((he.ext E).one 0 rfl)) rfl (J_st (R_eql rfl rfl) rfl (J_st (R_assign rfl) rfl (J_done ?_)))))
 refine S_ret (E_done1 rfl rfl E ?_)
 rfl

set_option maxRecDepth 20000 in
theorem c_doneAt (vxs : Value) (xs : List Done) (e : Int) (w : World) (hxs : RdS w vxs xs) : Ct Tryz.prog 75 [vxs, .int .i64 e] w (fun v _ => v = .bool (xs.any (fun d => d.epoch == e))) := by
 refine ct_of Tryz.func75 rfl Tryz.ntmps75 rfl ?_
 refine S_sub [(0, vxs), (1, .int .i64 e)] ⟨rfl, rfl, trivial⟩ ?_
 have E : Ext w w := Ext.refl w
 refine S_seq ?_
 refine S_reg [false, true] rfl rfl ?_
 refine J_box1 rfl rfl rfl (fun b1 w1 e1 s1 h1 => ?_)
 have g_b1 : w.heap.size ≤ b1 := by have := E.size; omega
 have y_b1 := h1.lt
 replace E := E.trans e1
 have z1 := e1.size
 refine J_st (R_assign rfl) rfl (J_done ?_)
 refine S_seq ?_
 refine S_reg [true, true, false, true] rfl rfl ?_
 refine J_st (R_move rfl) rfl (J_st (R_makeFunc rfl rfl) rfl ?_)
 refine J_call Tryz.call93 (by rfl) (c_ContainsFuncDone vxs xs (.func (.func 94) [].toArray [.pointer (some ⟨b1, 0, none⟩)].toArray) ((fun (y : Done) => y.epoch == e)) _ (hxs.ext E) ⟨94, [], [.pointer (some ⟨b1, 0, none⟩)], rfl, Tryz.call94, fun y wX eX => c_doneAt1 y b1 e wX (At.ext (Blk.at h1) eX)⟩) rfl (fun _ w2 e2 hv => ?_)
 subst hv
 replace E := E.trans e2; replace h1 := h1.ext e2
 have z2 := e2.size
 refine J_st (R_assign rfl) rfl (J_done ?_)
 refine S_ret (E_done1 rfl rfl E ?_)
 rfl

set_option maxRecDepth 20000 in
theorem c_StampOk (s : Stamp) (w : World)  : Ct Tryz.prog 95 [.agg (Enc.enc s).toArray] w (fun v _ => v = .bool (stampOk s)) := by
 refine ct_of Tryz.func95 rfl Tryz.ntmps95 rfl ?_
 refine S_sub [(0, .agg (Enc.enc s).toArray)] ⟨rfl, trivial⟩ ?_
 have E : Ext w w := Ext.refl w
 refine S_seq ?_
 refine S_reg [false, true] rfl rfl ?_
 refine J_box rfl rfl (fun b1 w1 e1 s1 h1 => ?_)
 have g_b1 : w.heap.size ≤ b1 := by have := E.size; omega
 have y_b1 := h1.lt
 replace E := E.trans e1
 have z1 := e1.size
 refine J_st (R_assign rfl) rfl (J_done ?_)
 refine S_seq ?_
 refine S_reg [true, true, false, true, true, true, false, true, true] rfl rfl ?_
 refine J_st (R_fieldAddr0 fl61_0 rfl) rfl (J_st (R_load sc3 rfl (h1.one 0 rfl)) rfl ?_)
 refine J_call Tryz.call71 rfl (c_within s.epoch 0 3 _ ) rfl (fun _ w2 e2 hv => ?_)
 subst hv
 replace E := E.trans e2; replace h1 := h1.ext e2
 have z2 := e2.size
 refine J_st (R_move rfl) rfl ?_
 refine J_cut 4 [(0, .agg (Enc.enc s).toArray), (1, .pointer (some ⟨b1, 0, none⟩)), (2, .bool false), (10, .bool ((win s.epoch 0 3) && (win s.turn 0 6)))] (fun w' => Ext w w' ∧ w2.heap.size ≤ w'.heap.size ∧ Blk w' b1 (Enc.enc s)) ?_ ?_
 ·refine J_if (gd := 6) rfl rfl (fun hg1 => ?_) (fun hg1 => ?_)
  ·refine J_gd rfl rfl (R_fieldAddr0 fl61_1 rfl) rfl (J_gd rfl rfl (R_load sc3 rfl (h1.one 1 rfl)) rfl ?_)
   refine J_ung rfl rfl ?_
   refine J_call Tryz.call71 rfl (c_within s.turn 0 6 _ ) rfl (fun _ w4 e3 hv => ?_)
   subst hv
   replace E := E.trans e3; replace h1 := h1.ext e3
   have z3 := e3.size
   refine J_st (R_pickT rfl rfl) rfl (J_cutEnd ⟨rfl, rfl, rfl, congrArg (fun b => some (Value.bool b)) (show (win s.turn 0 6) = ((win s.epoch 0 3) && (win s.turn 0 6)) by first | (rw [hg1] <;> rfl) | (simp [hg1]; done) | (simp only [nat_nlt] <;> simp)), trivial⟩ ⟨E, (by omega), h1⟩)
  ·refine J_gdno rfl rfl rfl rfl (J_gdno rfl rfl rfl rfl ?_)
   refine J_ungno rfl rfl rfl rfl ?_
   refine J_st (R_pickF rfl rfl) rfl (J_cutEnd ⟨rfl, rfl, rfl, congrArg (fun b => some (Value.bool b)) (show false = ((win s.epoch 0 3) && (win s.turn 0 6)) by first | (rw [hg1] <;> rfl) | (simp [hg1]; done) | (simp only [nat_nlt] <;> simp)), trivial⟩ ⟨E, (by omega), h1⟩)
 clear E h1
 rintro w3 ⟨E, z4, h1⟩
 refine J_st (R_assign rfl) rfl (J_done ?_)
 refine S_ret (E_done1 rfl rfl E ?_)
 rfl

set_option maxRecDepth 20000 in
theorem s_StampOk (s : Stamp) (w : World)  : Ct Tryz.prog 86 [.agg (Enc.enc s).toArray] w (fun v _ => v = .bool (stampOk s)) := by
 refine ct_of Tryz.func86 rfl Tryz.ntmps86 rfl ?_
 refine S_sub [(0, .agg (Enc.enc s).toArray)] ⟨rfl, trivial⟩ ?_
 have E : Ext w w := Ext.refl w
 refine S_seq ?_
 refine S_reg [false, true] rfl rfl ?_
 refine J_box rfl rfl (fun b1 w1 e1 s1 h1 => ?_)
 have g_b1 : w.heap.size ≤ b1 := by have := E.size; omega
 have y_b1 := h1.lt
 replace E := E.trans e1
 have z1 := e1.size
 refine J_st (R_assign rfl) rfl (J_done ?_)
 refine S_seq ?_
 refine S_reg [true, true, false, true, true, true, false, true, true] rfl rfl ?_
 refine J_st (R_fieldAddr0 fl61_0 rfl) rfl (J_st (R_load sc3 rfl (h1.one 0 rfl)) rfl ?_)
 refine J_call Tryz.call55 rfl (s_l01In s.epoch 0 3 _ ) rfl (fun _ w2 e2 hv => ?_)
 subst hv
 replace E := E.trans e2; replace h1 := h1.ext e2
 have z2 := e2.size
 refine J_st (R_move rfl) rfl ?_
 refine J_cut 4 [(0, .agg (Enc.enc s).toArray), (1, .pointer (some ⟨b1, 0, none⟩)), (2, .bool false), (10, .bool ((win s.epoch 0 3) && (win s.turn 0 6)))] (fun w' => Ext w w' ∧ w2.heap.size ≤ w'.heap.size ∧ Blk w' b1 (Enc.enc s)) ?_ ?_
 ·refine J_if (gd := 6) rfl rfl (fun hg1 => ?_) (fun hg1 => ?_)
  ·refine J_gd rfl rfl (R_fieldAddr0 fl61_1 rfl) rfl (J_gd rfl rfl (R_load sc3 rfl (h1.one 1 rfl)) rfl ?_)
   refine J_ung rfl rfl ?_
   refine J_call Tryz.call55 rfl (s_l01In s.turn 0 6 _ ) rfl (fun _ w4 e3 hv => ?_)
   subst hv
   replace E := E.trans e3; replace h1 := h1.ext e3
   have z3 := e3.size
   refine J_st (R_pickT rfl rfl) rfl (J_cutEnd ⟨rfl, rfl, rfl, congrArg (fun b => some (Value.bool b)) (show (win s.turn 0 6) = ((win s.epoch 0 3) && (win s.turn 0 6)) by first | (rw [hg1] <;> rfl) | (simp [hg1]; done) | (simp only [nat_nlt] <;> simp)), trivial⟩ ⟨E, (by omega), h1⟩)
  ·refine J_gdno rfl rfl rfl rfl (J_gdno rfl rfl rfl rfl ?_)
   refine J_ungno rfl rfl rfl rfl ?_
   refine J_st (R_pickF rfl rfl) rfl (J_cutEnd ⟨rfl, rfl, rfl, congrArg (fun b => some (Value.bool b)) (show false = ((win s.epoch 0 3) && (win s.turn 0 6)) by first | (rw [hg1] <;> rfl) | (simp [hg1]; done) | (simp only [nat_nlt] <;> simp)), trivial⟩ ⟨E, (by omega), h1⟩)
 clear E h1
 rintro w3 ⟨E, z4, h1⟩
 refine J_st (R_assign rfl) rfl (J_done ?_)
 refine S_ret (E_done1 rfl rfl E ?_)
 rfl

set_option maxRecDepth 20000 in
theorem c_itemOk (a : Int) (b : Int) (w : World)  : Ct Tryz.prog 96 [.int .i64 a, .int .i64 b] w (fun v _ => v = .bool (win a 0 99 && win b 0 999)) := by
 refine ct_of Tryz.func96 rfl Tryz.ntmps96 rfl ?_
 refine S_sub [(0, .int .i64 a), (1, .int .i64 b)] ⟨rfl, rfl, trivial⟩ ?_
 have E : Ext w w := Ext.refl w
 refine S_seq ?_
 refine S_reg [true] rfl rfl ?_
 refine J_st (R_assign rfl) rfl (J_done ?_)
 refine S_seq ?_
 refine S_reg [true, false, true, true, false, true, true] rfl rfl ?_
 refine J_st (R_move rfl) rfl ?_
 refine J_call Tryz.call71 rfl (c_within a 0 99 _ ) rfl (fun _ w1 e1 hv => ?_)
 subst hv
 replace E := E.trans e1
 have z1 := e1.size
 refine J_st (R_move rfl) rfl ?_
 refine J_cut 3 [(0, .int .i64 a), (1, .int .i64 b), (4, .bool false), (10, .bool ((win a 0 99) && (win b 0 999)))] (fun w' => Ext w w' ∧ w1.heap.size ≤ w'.heap.size) ?_ ?_
 ·refine J_if (gd := 7) rfl rfl (fun hg1 => ?_) (fun hg1 => ?_)
  ·refine J_gd rfl rfl (R_move rfl) rfl ?_
   refine J_ung rfl rfl ?_
   refine J_call Tryz.call71 rfl (c_within b 0 999 _ ) rfl (fun _ w3 e2 hv => ?_)
   subst hv
   replace E := E.trans e2
   have z2 := e2.size
   refine J_st (R_pickT rfl rfl) rfl (J_cutEnd ⟨rfl, rfl, rfl, congrArg (fun b => some (Value.bool b)) (show (win b 0 999) = ((win a 0 99) && (win b 0 999)) by first | (rw [hg1] <;> rfl) | (simp [hg1]; done) | (simp only [nat_nlt] <;> simp)), trivial⟩ ⟨E, (by omega)⟩)
  ·refine J_gdno rfl rfl rfl rfl ?_
   refine J_ungno rfl rfl rfl rfl ?_
   refine J_st (R_pickF rfl rfl) rfl (J_cutEnd ⟨rfl, rfl, rfl, congrArg (fun b => some (Value.bool b)) (show false = ((win a 0 99) && (win b 0 999)) by first | (rw [hg1] <;> rfl) | (simp [hg1]; done) | (simp only [nat_nlt] <;> simp)), trivial⟩ ⟨E, (by omega)⟩)
 clear E
 rintro w2 ⟨E, z3⟩
 refine J_st (R_assign rfl) rfl (J_done ?_)
 refine S_ret (E_done1 rfl rfl E ?_)
 rfl

set_option maxRecDepth 20000 in
theorem c_RecordOk (r : Record) (w : World)  : Ct Tryz.prog 76 [.agg (Enc.enc r).toArray] w (fun v _ => v = .bool (recordOk r)) := by
 refine ct_of Tryz.func76 rfl Tryz.ntmps76 rfl ?_
 refine S_sub [(0, .agg (Enc.enc r).toArray)] ⟨rfl, trivial⟩ ?_
 have E : Ext w w := Ext.refl w
 refine S_seq ?_
 refine S_reg [false, true] rfl rfl ?_
 refine J_box rfl rfl (fun b1 w1 e1 s1 h1 => ?_)
 have g_b1 : w.heap.size ≤ b1 := by have := E.size; omega
 have y_b1 := h1.lt
 replace E := E.trans e1
 have z1 := e1.size
 refine J_st (R_assign rfl) rfl (J_done ?_)
 refine S_seq ?_
 refine S_reg [true, true, false, true, true, true, false, true, true, true, true, true, true, false, true, true] rfl rfl ?_
 refine J_st (R_fieldAddr0 fl63_0 rfl) rfl (J_st (R_load sc3 rfl (h1.one 0 rfl)) rfl ?_)
 refine J_call Tryz.call71 rfl (c_within r.op 0 7 _ ) rfl (fun _ w2 e2 hv => ?_)
 subst hv
 replace E := E.trans e2; replace h1 := h1.ext e2
 have z2 := e2.size
 refine J_st (R_move rfl) rfl ?_
 refine J_cut 11 [(0, .agg (Enc.enc r).toArray), (1, .pointer (some ⟨b1, 0, none⟩)), (2, .bool false), (17, .bool (((win r.op 0 7) && (stampOk r.stamp)) && (win r.key 0 99 && win r.val 0 999)))] (fun w' => Ext w w' ∧ w2.heap.size ≤ w'.heap.size ∧ Blk w' b1 (Enc.enc r)) ?_ ?_
 ·refine J_if (gd := 6) rfl rfl (fun hg1 => ?_) (fun hg1 => ?_)
  ·refine J_gd rfl rfl (R_fieldAddr0 fl63_1 rfl) rfl (J_gd rfl rfl (R_loadS st61 rfl (h1.part 1 [.int .i64 r.stamp.epoch, .int .i64 r.stamp.turn] rfl) rfl) rfl ?_)
   refine J_ung rfl rfl ?_
   refine J_call Tryz.call95 rfl (c_StampOk r.stamp _ ) rfl (fun _ w4 e3 hv => ?_)
   subst hv
   replace E := E.trans e3; replace h1 := h1.ext e3
   have z3 := e3.size
   refine J_st (R_pickT rfl rfl) rfl (J_st (R_move rfl) rfl ?_)
   refine J_if (gd := 11) rfl rfl (fun hg2 => ?_) (fun hg2 => ?_)
   ·refine J_gd rfl rfl (R_fieldAddr0 fl63_2 rfl) rfl (J_gd rfl rfl (R_load sc3 rfl (h1.one 3 rfl)) rfl (J_gd rfl rfl (R_fieldAddr0 fl63_3 rfl) rfl (J_gd rfl rfl (R_load sc3 rfl (h1.one 4 rfl)) rfl ?_)))
    refine J_ung rfl rfl ?_
    refine J_call Tryz.call96 rfl (c_itemOk r.key r.val _ ) rfl (fun _ w5 e4 hv => ?_)
    subst hv
    replace E := E.trans e4; replace h1 := h1.ext e4
    have z4 := e4.size
    refine J_st (R_pickT rfl rfl) rfl (J_cutEnd ⟨rfl, rfl, rfl, congrArg (fun b => some (Value.bool b)) (show (win r.key 0 99 && win r.val 0 999) = (((win r.op 0 7) && (stampOk r.stamp)) && (win r.key 0 99 && win r.val 0 999)) by first | (rw [hg1, hg2] <;> rfl) | (simp [hg1, hg2]; done) | (simp only [nat_nlt] <;> simp)), trivial⟩ ⟨E, (by omega), h1⟩)
   ·refine J_gdno rfl rfl rfl rfl (J_gdno rfl rfl rfl rfl (J_gdno rfl rfl rfl rfl (J_gdno rfl rfl rfl rfl ?_)))
    refine J_ungno rfl rfl rfl rfl ?_
    refine J_st (R_pickF rfl rfl) rfl (J_cutEnd ⟨rfl, rfl, rfl, congrArg (fun b => some (Value.bool b)) (show false = (((win r.op 0 7) && (stampOk r.stamp)) && (win r.key 0 99 && win r.val 0 999)) by first | (rw [hg1, hg2] <;> rfl) | (simp [hg1, hg2]; done) | (simp only [nat_nlt] <;> simp)), trivial⟩ ⟨E, (by omega), h1⟩)
  ·refine J_gdno rfl rfl rfl rfl (J_gdno rfl rfl rfl rfl ?_)
   refine J_ungno rfl rfl rfl rfl ?_
   refine J_st (R_pickF rfl rfl) rfl (J_st (R_move rfl) rfl (J_gdno rfl rfl rfl rfl (J_gdno rfl rfl rfl rfl (J_gdno rfl rfl rfl rfl (J_gdno rfl rfl rfl rfl ?_)))))
   refine J_ungno rfl rfl rfl rfl ?_
   refine J_st (R_pickF rfl rfl) rfl (J_cutEnd ⟨rfl, rfl, rfl, congrArg (fun b => some (Value.bool b)) (show false = (((win r.op 0 7) && (stampOk r.stamp)) && (win r.key 0 99 && win r.val 0 999)) by first | (rw [hg1] <;> rfl) | (simp [hg1]; done) | (simp only [nat_nlt] <;> simp)), trivial⟩ ⟨E, (by omega), h1⟩)
 clear E h1
 rintro w3 ⟨E, z5, h1⟩
 refine J_st (R_assign rfl) rfl (J_done ?_)
 refine S_ret (E_done1 rfl rfl E ?_)
 rfl

set_option maxRecDepth 20000 in
theorem s_RecordOk (r : Record) (w : World)  : Ct Tryz.prog 60 [.agg (Enc.enc r).toArray] w (fun v _ => v = .bool (recordOk r)) := by
 refine ct_of Tryz.func60 rfl Tryz.ntmps60 rfl ?_
 refine S_sub [(0, .agg (Enc.enc r).toArray)] ⟨rfl, trivial⟩ ?_
 have E : Ext w w := Ext.refl w
 refine S_seq ?_
 refine S_reg [false, true] rfl rfl ?_
 refine J_box rfl rfl (fun b1 w1 e1 s1 h1 => ?_)
 have g_b1 : w.heap.size ≤ b1 := by have := E.size; omega
 have y_b1 := h1.lt
 replace E := E.trans e1
 have z1 := e1.size
 refine J_st (R_assign rfl) rfl (J_done ?_)
 refine S_seq ?_
 refine S_reg [true, true, false, true, true, true, false, true, true, true, true, false, true, true, true, true, false, true, true] rfl rfl ?_
 refine J_st (R_fieldAddr0 fl63_0 rfl) rfl (J_st (R_load sc3 rfl (h1.one 0 rfl)) rfl ?_)
 refine J_call Tryz.call55 rfl (s_l01In r.op 0 7 _ ) rfl (fun _ w2 e2 hv => ?_)
 subst hv
 replace E := E.trans e2; replace h1 := h1.ext e2
 have z2 := e2.size
 refine J_st (R_move rfl) rfl ?_
 refine J_cut 14 [(0, .agg (Enc.enc r).toArray), (1, .pointer (some ⟨b1, 0, none⟩)), (2, .bool false), (20, .bool ((((win r.op 0 7) && (stampOk r.stamp)) && (win r.key 0 99)) && (win r.val 0 999)))] (fun w' => Ext w w' ∧ w2.heap.size ≤ w'.heap.size ∧ Blk w' b1 (Enc.enc r)) ?_ ?_
 ·refine J_if (gd := 6) rfl rfl (fun hg1 => ?_) (fun hg1 => ?_)
  ·refine J_gd rfl rfl (R_fieldAddr0 fl63_1 rfl) rfl (J_gd rfl rfl (R_loadS st61 rfl (h1.part 1 [.int .i64 r.stamp.epoch, .int .i64 r.stamp.turn] rfl) rfl) rfl ?_)
   refine J_ung rfl rfl ?_
   refine J_call Tryz.call86 rfl (s_StampOk r.stamp _ ) rfl (fun _ w4 e3 hv => ?_)
   subst hv
   replace E := E.trans e3; replace h1 := h1.ext e3
   have z3 := e3.size
   refine J_st (R_pickT rfl rfl) rfl (J_st (R_move rfl) rfl ?_)
   refine J_if (gd := 11) rfl rfl (fun hg2 => ?_) (fun hg2 => ?_)
   ·refine J_gd rfl rfl (R_fieldAddr0 fl63_2 rfl) rfl (J_gd rfl rfl (R_load sc3 rfl (h1.one 3 rfl)) rfl ?_)
    refine J_ung rfl rfl ?_
    refine J_call Tryz.call55 rfl (s_l01In r.key 0 99 _ ) rfl (fun _ w5 e4 hv => ?_)
    subst hv
    replace E := E.trans e4; replace h1 := h1.ext e4
    have z4 := e4.size
    refine J_st (R_pickT rfl rfl) rfl (J_st (R_move rfl) rfl ?_)
    refine J_if (gd := 16) rfl rfl (fun hg3 => ?_) (fun hg3 => ?_)
    ·refine J_gd rfl rfl (R_fieldAddr0 fl63_3 rfl) rfl (J_gd rfl rfl (R_load sc3 rfl (h1.one 4 rfl)) rfl ?_)
     refine J_ung rfl rfl ?_
     refine J_call Tryz.call55 rfl (s_l01In r.val 0 999 _ ) rfl (fun _ w6 e5 hv => ?_)
     subst hv
     replace E := E.trans e5; replace h1 := h1.ext e5
     have z5 := e5.size
     refine J_st (R_pickT rfl rfl) rfl (J_cutEnd ⟨rfl, rfl, rfl, congrArg (fun b => some (Value.bool b)) (show (win r.val 0 999) = ((((win r.op 0 7) && (stampOk r.stamp)) && (win r.key 0 99)) && (win r.val 0 999)) by first | (rw [hg1, hg2, hg3] <;> rfl) | (simp [hg1, hg2, hg3]; done) | (simp only [nat_nlt] <;> simp)), trivial⟩ ⟨E, (by omega), h1⟩)
    ·refine J_gdno rfl rfl rfl rfl (J_gdno rfl rfl rfl rfl ?_)
     refine J_ungno rfl rfl rfl rfl ?_
     refine J_st (R_pickF rfl rfl) rfl (J_cutEnd ⟨rfl, rfl, rfl, congrArg (fun b => some (Value.bool b)) (show false = ((((win r.op 0 7) && (stampOk r.stamp)) && (win r.key 0 99)) && (win r.val 0 999)) by first | (rw [hg1, hg2, hg3] <;> rfl) | (simp [hg1, hg2, hg3]; done) | (simp only [nat_nlt] <;> simp)), trivial⟩ ⟨E, (by omega), h1⟩)
   ·refine J_gdno rfl rfl rfl rfl (J_gdno rfl rfl rfl rfl ?_)
    refine J_ungno rfl rfl rfl rfl ?_
    refine J_st (R_pickF rfl rfl) rfl (J_st (R_move rfl) rfl (J_gdno rfl rfl rfl rfl (J_gdno rfl rfl rfl rfl ?_)))
    refine J_ungno rfl rfl rfl rfl ?_
    refine J_st (R_pickF rfl rfl) rfl (J_cutEnd ⟨rfl, rfl, rfl, congrArg (fun b => some (Value.bool b)) (show false = ((((win r.op 0 7) && (stampOk r.stamp)) && (win r.key 0 99)) && (win r.val 0 999)) by first | (rw [hg1, hg2] <;> rfl) | (simp [hg1, hg2]; done) | (simp only [nat_nlt] <;> simp)), trivial⟩ ⟨E, (by omega), h1⟩)
  ·refine J_gdno rfl rfl rfl rfl (J_gdno rfl rfl rfl rfl ?_)
   refine J_ungno rfl rfl rfl rfl ?_
   refine J_st (R_pickF rfl rfl) rfl (J_st (R_move rfl) rfl (J_gdno rfl rfl rfl rfl (J_gdno rfl rfl rfl rfl ?_)))
   refine J_ungno rfl rfl rfl rfl ?_
   refine J_st (R_pickF rfl rfl) rfl (J_st (R_move rfl) rfl (J_gdno rfl rfl rfl rfl (J_gdno rfl rfl rfl rfl ?_)))
   refine J_ungno rfl rfl rfl rfl ?_
   refine J_st (R_pickF rfl rfl) rfl (J_cutEnd ⟨rfl, rfl, rfl, congrArg (fun b => some (Value.bool b)) (show false = ((((win r.op 0 7) && (stampOk r.stamp)) && (win r.key 0 99)) && (win r.val 0 999)) by first | (rw [hg1] <;> rfl) | (simp [hg1]; done) | (simp only [nat_nlt] <;> simp)), trivial⟩ ⟨E, (by omega), h1⟩)
 clear E h1
 rintro w3 ⟨E, z6, h1⟩
 refine J_st (R_assign rfl) rfl (J_done ?_)
 refine S_ret (E_done1 rfl rfl E ?_)
 simp [recordOk, Bool.and_assoc]

set_option maxRecDepth 20000 in
theorem c_isNode (cg : List Value) (g : Graph) (op : Int) (w : World) (hg : Dat.R w 0 w.heap.size cg g) : Ct Tryz.prog 77 [.agg cg.toArray, .int .i64 op] w (fun v _ => v = .bool (isNodeM g op)) := by
 refine ct_of Tryz.func77 rfl Tryz.ntmps77 rfl ?_
 obtain ⟨o1, rfl, hd1⟩ := Graph.op hg
 refine S_sub [(0, .agg [o1, .int .i64 g.workers, .int .i64 g.cap].toArray), (1, .int .i64 op)] ⟨rfl, rfl, trivial⟩ ?_
 have E : Ext w w := Ext.refl w
 refine S_seq ?_
 refine S_reg [false, true] rfl rfl ?_
 refine J_box rfl rfl (fun b1 w1 e1 s1 h1 => ?_)
 have g_b1 : w.heap.size ≤ b1 := by have := E.size; omega
 have y_b1 := h1.lt
 replace E := E.trans e1
 have z1 := e1.size
 refine J_st (R_assign rfl) rfl (J_done ?_)
 refine S_seq ?_
 refine S_reg [true, true, true, true, true, false, true] rfl rfl ?_
 refine J_st (R_move rfl) rfl (J_st (R_fieldAddr0 fl43_0 rfl) rfl (J_st (R_load sc41 rfl (h1.one 0 rfl)) rfl (J_st (R_len Tryz.underlying41 rfl (hd1.ext E).len) rfl (J_st (R_sub rfl rfl rfl) rfl ?_))))
 refine J_call Tryz.call71 rfl (c_within op 0 (IntKind.i64.wrap (((g.nodes.length : Nat) : Int) - 1)) _ ) rfl (fun _ w2 e2 hv => ?_)
 subst hv
 replace E := E.trans e2; replace h1 := h1.ext e2
 have z2 := e2.size
 refine J_st (R_assign rfl) rfl (J_done ?_)
 refine S_ret (E_done1 rfl rfl E ?_)
 have a1 := hd1.1.1
 unfold maxLen at a1
 rw [wrap_in (by omega) (by omega)]; rfl

set_option maxRecDepth 20000 in
theorem c_NextTurn (s : Stamp) (w : World)  : Ct Tryz.prog 80 [.agg (Enc.enc s).toArray] w (fun v _ => v = .tuple [.agg (Enc.enc ((nextT s).1)).toArray, .bool ((nextT s).2)].toArray) := by
 refine ct_of Tryz.func80 rfl Tryz.ntmps80 rfl ?_
 refine S_sub [(0, .agg (Enc.enc s).toArray)] ⟨rfl, trivial⟩ ?_
 have E : Ext w w := Ext.refl w
 refine S_seq ?_
 refine S_reg [false, false, true] rfl rfl ?_
 refine J_box rfl rfl (fun b1 w1 e1 s1 h1 => ?_)
 have g_b1 : w.heap.size ≤ b1 := by have := E.size; omega
 have y_b1 := h1.lt
 replace E := E.trans e1
 have z1 := e1.size
 refine J_alloc st61 rfl (fun b2 w2 e2 s2 h2 => ?_)
 have g_b2 : w.heap.size ≤ b2 := by have := E.size; omega
 have y_b2 := h2.lt
 replace E := E.trans e2; replace h1 := h1.ext e2
 have z2 := e2.size
 refine J_st (R_assign rfl) rfl (J_done ?_)
 refine S_seq ?_
 refine S_seq ?_
 refine S_reg [true, false, true, true, true, true, true, true] rfl rfl ?_
 refine J_st (R_loadS st61 rfl h1.at rfl) rfl ?_
 refine J_call Tryz.call95 rfl (c_StampOk s _ ) rfl (fun _ w3 e3 hv => ?_)
 subst hv
 replace E := E.trans e3; replace h1 := h1.ext e3; replace h2 := h2.ext e3
 have z3 := e3.size
 refine J_st (R_not rfl) rfl (J_st (R_move rfl) rfl ?_)
 refine J_cut 4 [(0, .agg (Enc.enc s).toArray), (1, .pointer (some ⟨b1, 0, none⟩)), (2, .pointer (some ⟨b2, 0, none⟩)), (3, .bool false), (11, .bool ((!(stampOk s)) || (s.turn == 6)))] (fun w' => w3 = w') ?_ ?_
 ·refine J_if (gd := 7) rfl rfl (fun hg1 => ?_) (fun hg1 => ?_)
  ·refine J_gdno rfl rfl rfl rfl (J_gdno rfl rfl rfl rfl (J_gdno rfl rfl rfl rfl (J_st (R_pickT rfl rfl) rfl (J_cutEnd ⟨rfl, rfl, rfl, rfl, congrArg (fun b => some (Value.bool b)) (show true = ((!(stampOk s)) || (s.turn == 6)) by first | (rw [hg1] <;> rfl) | (simp [hg1]; done) | (simp only [nat_nlt] <;> simp)), trivial⟩ rfl))))
  ·refine J_gd rfl rfl (R_fieldAddr0 fl61_1 rfl) rfl (J_gd rfl rfl (R_load sc3 rfl (h1.one 1 rfl)) rfl (J_gd rfl rfl (R_eql rfl rfl) rfl (J_st (R_pickF rfl rfl) rfl (J_cutEnd ⟨rfl, rfl, rfl, rfl, congrArg (fun b => some (Value.bool b)) (show (s.turn == 6) = ((!(stampOk s)) || (s.turn == 6)) by first | (rw [hg1] <;> rfl) | (simp [hg1]; done) | (simp only [nat_nlt] <;> simp)), trivial⟩ rfl))))
 rintro _ rfl
 refine J_done ?_
 refine S_cond rfl (fun hc1 => ?_) (fun hc1 => ?_)
 ·refine S_seq ?_
  refine S_reg [true, false, true] rfl rfl ?_
  refine J_st (R_loadS st61 rfl h1.at rfl) rfl ?_
  refine J_storeS' (cs' := [.int .i64 s.epoch, .int .i64 s.turn]) st61 rfl rfl rfl rfl h2 (Nat.le_of_ble_eq_true rfl) rfl (fun w5 m1 h2' => ?_)
  replace h2 := h2'
  replace E := E.step m1 (fun g hg => by cases hg; omega); replace h1 := h1.mod m1 (fun g hg => by cases hg; omega)
  have z4 := m1.size
  refine J_st (R_assign rfl) rfl (J_done ?_)
  refine S_ret (E_doneN (l := [.cell 2 61, .tmp 3]) (vs := [.agg (Enc.enc s).toArray, .bool false]) rfl ⟨.cell rfl (run_loadVar_st st61 h2.at rfl), .tmp rfl, trivial⟩ rfl E ?_)
  simp only [nextT, if_pos hc1]
 ·refine S_skip ?_
  refine S_seq ?_
  refine S_reg [true, true, true, true, true, true, false, true] rfl rfl ?_
  refine J_st (R_fieldAddr0 fl61_0 rfl) rfl (J_st (R_load sc3 rfl (h1.one 0 rfl)) rfl (J_st (R_fieldAddr0 fl61_1 rfl) rfl (J_st (R_load sc3 rfl (h1.one 1 rfl)) rfl (J_st (R_add rfl rfl rfl) rfl (J_st (R_build (⟨s.epoch, IntKind.i64.wrap (s.turn + 1)⟩ : Stamp) rfl (fun _ => by kernel_rfl)) rfl ?_)))))
  refine J_storeS' (cs' := [.int .i64 ((⟨s.epoch, IntKind.i64.wrap (s.turn + 1)⟩ : Stamp).epoch), .int .i64 ((⟨s.epoch, IntKind.i64.wrap (s.turn + 1)⟩ : Stamp).turn)]) st61 rfl rfl rfl rfl h2 (Nat.le_of_ble_eq_true rfl) rfl (fun w6 m2 h2' => ?_)
  replace h2 := h2'
  replace E := E.step m2 (fun g hg => by cases hg; omega); replace h1 := h1.mod m2 (fun g hg => by cases hg; omega)
  have z5 := m2.size
  refine J_st (R_assign rfl) rfl (J_done ?_)
  refine S_ret (E_doneN (l := [.cell 2 61, .tmp 3]) (vs := [.agg (Enc.enc (⟨s.epoch, IntKind.i64.wrap (s.turn + 1)⟩ : Stamp)).toArray, .bool true]) rfl ⟨.cell rfl (run_loadVar_st st61 h2.at rfl), .tmp rfl, trivial⟩ rfl E ?_)
  simp only [nextT, if_neg (Bool.eq_false_iff.1 hc1)]
  simp only [Bool.or_eq_false_iff, Bool.not_eq_false'] at hc1
  have ht := win_hi hc1.1
  rw [wrap_in (by omega) (by omega)]

set_option maxRecDepth 20000 in
theorem s_NextTurn (s : Stamp) (w : World)  : Ct Tryz.prog 64 [.agg (Enc.enc s).toArray] w (fun v _ => v = .tuple [.agg (Enc.enc ((nextT s).1)).toArray, .bool ((nextT s).2)].toArray) := by
 refine ct_of Tryz.func64 rfl Tryz.ntmps64 rfl ?_
 refine S_sub [(0, .agg (Enc.enc s).toArray)] ⟨rfl, trivial⟩ ?_
 have E : Ext w w := Ext.refl w
 refine S_seq ?_
 refine S_reg [false, false, true] rfl rfl ?_
 refine J_box rfl rfl (fun b1 w1 e1 s1 h1 => ?_)
 have g_b1 : w.heap.size ≤ b1 := by have := E.size; omega
 have y_b1 := h1.lt
 replace E := E.trans e1
 have z1 := e1.size
 refine J_alloc st61 rfl (fun b2 w2 e2 s2 h2 => ?_)
 have g_b2 : w.heap.size ≤ b2 := by have := E.size; omega
 have y_b2 := h2.lt
 replace E := E.trans e2; replace h1 := h1.ext e2
 have z2 := e2.size
 refine J_st (R_assign rfl) rfl (J_done ?_)
 refine S_seq ?_
 refine S_seq ?_
 refine S_reg [true, false, true, true, true, true, true, true] rfl rfl ?_
 refine J_st (R_loadS st61 rfl h1.at rfl) rfl ?_
 refine J_call Tryz.call86 rfl (s_StampOk s _ ) rfl (fun _ w3 e3 hv => ?_)
 subst hv
 replace E := E.trans e3; replace h1 := h1.ext e3; replace h2 := h2.ext e3
 have z3 := e3.size
 refine J_st (R_not rfl) rfl (J_st (R_move rfl) rfl ?_)
 refine J_cut 4 [(0, .agg (Enc.enc s).toArray), (1, .pointer (some ⟨b1, 0, none⟩)), (2, .pointer (some ⟨b2, 0, none⟩)), (3, .bool false), (11, .bool ((!(stampOk s)) || (decide (6 ≤ s.turn))))] (fun w' => w3 = w') ?_ ?_
 ·refine J_if (gd := 7) rfl rfl (fun hg1 => ?_) (fun hg1 => ?_)
  ·refine J_gdno rfl rfl rfl rfl (J_gdno rfl rfl rfl rfl (J_gdno rfl rfl rfl rfl (J_st (R_pickT rfl rfl) rfl (J_cutEnd ⟨rfl, rfl, rfl, rfl, congrArg (fun b => some (Value.bool b)) (show true = ((!(stampOk s)) || (decide (6 ≤ s.turn))) by first | (rw [hg1] <;> rfl) | (simp [hg1]; done) | (simp only [nat_nlt] <;> simp)), trivial⟩ rfl))))
  ·refine J_gd rfl rfl (R_fieldAddr0 fl61_1 rfl) rfl (J_gd rfl rfl (R_load sc3 rfl (h1.one 1 rfl)) rfl (J_gd rfl rfl (R_geq rfl rfl) rfl (J_st (R_pickF rfl rfl) rfl (J_cutEnd ⟨rfl, rfl, rfl, rfl, congrArg (fun b => some (Value.bool b)) (show (decide (6 ≤ s.turn)) = ((!(stampOk s)) || (decide (6 ≤ s.turn))) by first | (rw [hg1] <;> rfl) | (simp [hg1]; done) | (simp only [nat_nlt] <;> simp)), trivial⟩ rfl))))
 rintro _ rfl
 refine J_done ?_
 refine S_cond rfl (fun hc1 => ?_) (fun hc1 => ?_)
 ·refine S_seq ?_
  refine S_reg [true, false, true] rfl rfl ?_
  refine J_st (R_loadS st61 rfl h1.at rfl) rfl ?_
  refine J_storeS' (cs' := [.int .i64 s.epoch, .int .i64 s.turn]) st61 rfl rfl rfl rfl h2 (Nat.le_of_ble_eq_true rfl) rfl (fun w5 m1 h2' => ?_)
  replace h2 := h2'
  replace E := E.step m1 (fun g hg => by cases hg; omega); replace h1 := h1.mod m1 (fun g hg => by cases hg; omega)
  have z4 := m1.size
  refine J_st (R_assign rfl) rfl (J_done ?_)
  refine S_ret (E_doneN (l := [.cell 2 61, .tmp 3]) (vs := [.agg (Enc.enc s).toArray, .bool false]) rfl ⟨.cell rfl (run_loadVar_st st61 h2.at rfl), .tmp rfl, trivial⟩ rfl E ?_)
  simp only [nextT, if_pos (nt_ge hc1)]
 ·refine S_skip ?_
  refine S_seq ?_
  refine S_reg [true, true, true, true, false] rfl rfl ?_
  refine J_st (R_fieldAddr0 fl61_1 rfl) rfl (J_st (R_load sc3 rfl (h1.one 1 rfl)) rfl (J_st (R_add rfl rfl rfl) rfl (J_st (R_fieldAddr0 fl61_1 rfl) rfl ?_)))
  refine J_store' (cs' := [.int .i64 s.epoch, .int .i64 (IntKind.i64.wrap (s.turn + 1))]) sc3 rfl rfl rfl h1 (Nat.le_of_ble_eq_true rfl) rfl (fun w6 m2 h1' => ?_)
  replace h1 := h1'
  replace E := E.step m2 (fun g hg => by cases hg; omega); replace h2 := h2.mod m2 (fun g hg => by cases hg; omega)
  have z5 := m2.size
  refine J_done ?_
  refine S_seq ?_
  refine S_reg [true, false, true] rfl rfl ?_
  refine J_st (R_loadS st61 rfl h1.at rfl) rfl ?_
  refine J_storeS' (cs' := [.int .i64 ((⟨s.epoch, IntKind.i64.wrap (s.turn + 1)⟩ : Stamp).epoch), .int .i64 ((⟨s.epoch, IntKind.i64.wrap (s.turn + 1)⟩ : Stamp).turn)]) st61 rfl rfl rfl rfl h2 (Nat.le_of_ble_eq_true rfl) rfl (fun w7 m3 h2' => ?_)
  replace h2 := h2'
  replace E := E.step m3 (fun g hg => by cases hg; omega); replace h1 := h1.mod m3 (fun g hg => by cases hg; omega)
  have z6 := m3.size
  refine J_st (R_assign rfl) rfl (J_done ?_)
  refine S_ret (E_doneN (l := [.cell 2 61, .tmp 3]) (vs := [.agg (Enc.enc (⟨s.epoch, IntKind.i64.wrap (s.turn + 1)⟩ : Stamp)).toArray, .bool true]) rfl ⟨.cell rfl (run_loadVar_st st61 h2.at rfl), .tmp rfl, trivial⟩ rfl E ?_)
  replace hc1 := nt_lt hc1
  simp only [nextT, if_neg (Bool.eq_false_iff.1 hc1)]
  simp only [Bool.or_eq_false_iff, Bool.not_eq_false'] at hc1
  have ht := win_hi hc1.1
  rw [wrap_in (by omega) (by omega)]

set_option maxRecDepth 20000 in
theorem c_opsOk (cg : List Value) (g : Graph) (vxs : Value) (xs : List Record) (w : World) (hg : Dat.R w 0 w.heap.size cg g) (hxs : RdS w vxs xs) : Ct Tryz.prog 73 [.agg cg.toArray, vxs] w (fun v _ => v = .bool (xs.all (opOk g))) := by
 refine ct_of Tryz.func73 rfl Tryz.ntmps73 rfl ?_
 obtain ⟨o1, rfl, hd1⟩ := Graph.op hg
 refine S_sub [(0, .agg [o1, .int .i64 g.workers, .int .i64 g.cap].toArray), (1, vxs)] ⟨rfl, rfl, trivial⟩ ?_
 have E : Ext w w := Ext.refl w
 refine S_seq ?_
 refine S_reg [false, true] rfl rfl ?_
 refine J_box rfl rfl (fun b1 w1 e1 s1 h1 => ?_)
 have g_b1 : w.heap.size ≤ b1 := by have := E.size; omega
 have y_b1 := h1.lt
 replace E := E.trans e1
 have z1 := e1.size
 refine J_st (R_assign rfl) rfl (J_done ?_)
 refine S_seq ?_
 refine S_seq ?_
 refine S_reg [true, true, true] rfl rfl ?_
 refine J_st (R_move rfl) rfl (J_st (R_len Tryz.underlying34 rfl (hxs.ext E).len) rfl (J_st (R_move rfl) rfl (J_done ?_)))
 refine S_block ?_
 refine S_loop (fun (k : Nat) => [(2, .pointer (some ⟨b1, 0, none⟩)), (4, .bool false), (7, vxs), (8, .int .i64 ((xs.length : Nat) : Int)), (9, .int .i64 ((k : Nat) : Int))]) (fun (k : Nat) w' => Ext w w' ∧ w1.heap.size ≤ w'.heap.size ∧ Blk w' b1 ([o1, .int .i64 g.workers, .int .i64 g.cap]) ∧ k ≤ xs.length ∧ (xs.take k).all (opOk g) = true) (fun (k : Nat) => xs.length - k) 0 ⟨rfl, rfl, rfl, rfl, rfl, trivial⟩ ⟨E, Nat.le_refl _, h1, Nat.zero_le _, rfl⟩ ?_
 clear E h1
 rintro k w2 ⟨E, z2, h1, hk, hI⟩
 refine S_seq ?_
 refine S_reg [true] rfl rfl ?_
 refine J_st (R_lss rfl rfl) rfl (J_done ?_)
 refine S_seq ?_
 refine S_cond rfl (fun hc1 => ?_) (fun hc1 => ?_)
 ·have hc1n : k < xs.length := by first | (have h := of_decide_eq_true hc1; omega) | (have h := hc1; simp at h; omega)
  refine S_skip ?_
  refine S_seq ?_
  refine S_block ?_
  refine S_seq ?_
  refine S_reg [true, true, false, false] rfl rfl ?_
  have hi1 : k < xs.length := (by first | assumption | omega)
  refine J_st (R_index (i := k) sl34 rfl rfl (hxs.ext E) hi1) rfl (J_st (R_loadS st63 rfl ((hxs.ext E).get hi1) rfl) rfl ?_)
  refine J_alloc st63 rfl (fun b2 w3 e2 s2 h2 => ?_)
  have g_b2 : w.heap.size ≤ b2 := by have := E.size; omega
  have y_b2 := h2.lt
  replace E := E.trans e2; replace h1 := h1.ext e2
  have z3 := e2.size
  refine J_storeS' (cs' := [.int .i64 ((xs[k]'hi1).op), .int .i64 (((xs[k]'hi1).stamp).epoch), .int .i64 (((xs[k]'hi1).stamp).turn), .int .i64 ((xs[k]'hi1).key), .int .i64 ((xs[k]'hi1).val)]) st63 rfl rfl rfl rfl h2 (Nat.le_of_ble_eq_true rfl) rfl (fun w4 m1 h2' => ?_)
  replace h2 := h2'
  replace E := E.step m1 (fun g hg => by cases hg; omega); replace h1 := h1.mod m1 (fun g hg => by cases hg; omega)
  have z4 := m1.size
  refine J_done ?_
  refine S_seq ?_
  refine S_reg [true, false, true, true, true, true, true, false, true, true] rfl rfl ?_
  refine J_st (R_loadS st63 rfl h2.at rfl) rfl ?_
  refine J_call Tryz.call76 rfl (c_RecordOk (xs[k]'hi1) _ ) rfl (fun _ w5 e3 hv => ?_)
  subst hv
  replace E := E.trans e3; replace h1 := h1.ext e3; replace h2 := h2.ext e3
  have z5 := e3.size
  refine J_st (R_not rfl) rfl (J_st (R_move rfl) rfl ?_)
  refine J_cut 6 [(2, .pointer (some ⟨b1, 0, none⟩)), (4, .bool false), (6, .pointer (some ⟨b2, 0, none⟩)), (7, vxs), (8, .int .i64 ((xs.length : Nat) : Int)), (9, .int .i64 ((k : Nat) : Int)), (10, .bool (decide (((k : Nat) : Int) < ((xs.length : Nat) : Int)))), (11, .pointer (some ⟨sblk vxs, soff vxs + k * 5, none⟩)), (12, .agg (Enc.enc (xs[k]'hi1)).toArray), (22, .bool ((!(recordOk (xs[k]'hi1))) || (!(isNodeM g ((xs[k]'hi1).op)))))] (fun w' => Ext w w' ∧ w5.heap.size ≤ w'.heap.size ∧ Blk w' b1 ([o1, .int .i64 g.workers, .int .i64 g.cap]) ∧ Blk w' b2 [.int .i64 ((xs[k]'hi1).op), .int .i64 (((xs[k]'hi1).stamp).epoch), .int .i64 (((xs[k]'hi1).stamp).turn), .int .i64 ((xs[k]'hi1).key), .int .i64 ((xs[k]'hi1).val)]) ?_ ?_
  ·refine J_if (gd := 16) rfl rfl (fun hg1 => ?_) (fun hg1 => ?_)
   ·refine J_gdno rfl rfl rfl rfl (J_gdno rfl rfl rfl rfl (J_gdno rfl rfl rfl rfl ?_))
    refine J_ungno rfl rfl rfl rfl ?_
    refine J_gdno rfl rfl rfl rfl (J_st (R_pickT rfl rfl) rfl (J_cutEnd ⟨rfl, rfl, rfl, rfl, rfl, rfl, rfl, rfl, rfl, congrArg (fun b => some (Value.bool b)) (show true = ((!(recordOk (xs[k]'hi1))) || (!(isNodeM g ((xs[k]'hi1).op)))) by first | (rw [hg1] <;> rfl) | (simp [hg1]; done) | (simp only [nat_nlt] <;> simp)), trivial⟩ ⟨E, (by omega), h1, h2⟩))
   ·refine J_gd rfl rfl (R_loadS st43 rfl h1.at rfl) rfl (J_gd rfl rfl (R_fieldAddr0 fl63_0 rfl) rfl (J_gd rfl rfl (R_load sc3 rfl (h2.one 0 rfl)) rfl ?_))
    refine J_ung rfl rfl ?_
    refine J_call Tryz.call77 rfl (c_isNode [o1, .int .i64 g.workers, .int .i64 g.cap] g ((xs[k]'hi1).op) _ (Graph.mkR g (RdD.any (hd1.ext E)))) rfl (fun _ w7 e4 hv => ?_)
    subst hv
    replace E := E.trans e4; replace h1 := h1.ext e4; replace h2 := h2.ext e4
    have z6 := e4.size
    refine J_gd rfl rfl (R_not rfl) rfl (J_st (R_pickF rfl rfl) rfl (J_cutEnd ⟨rfl, rfl, rfl, rfl, rfl, rfl, rfl, rfl, rfl, congrArg (fun b => some (Value.bool b)) (show (!(isNodeM g ((xs[k]'hi1).op))) = ((!(recordOk (xs[k]'hi1))) || (!(isNodeM g ((xs[k]'hi1).op)))) by first | (rw [hg1] <;> rfl) | (simp [hg1]; done) | (simp only [nat_nlt] <;> simp)), trivial⟩ ⟨E, (by omega), h1, h2⟩))
  clear E h1 h2
  rintro w6 ⟨E, z7, h1, h2⟩
  refine J_done ?_
  refine S_cond rfl (fun hc2 => ?_) (fun hc2 => ?_)
  ·refine S_seq ?_
   refine S_reg [true] rfl rfl ?_
   refine J_st (R_assign rfl) rfl (J_done ?_)
   refine S_ret (E_inB_ret (E_lp_ret (E_inB_ret (E_done1 rfl rfl E ?_))))
   exact all_no (by assumption) (kx hc2)
  ·refine S_skip ?_
   refine S_nil (E_inB ?_)
   refine S_reg [true, true] rfl rfl ?_
   refine J_st (R_add rfl rfl (add_one hc1n hxs.1)) rfl (J_st (R_move rfl) rfl (J_done ?_))
   refine S_nil (E_again (k + 1) (by omega) ⟨rfl, rfl, rfl, rfl, rfl, trivial⟩ ⟨E, (by omega), h1, (by omega), all_step hI (by assumption) (ky hc2)⟩)
 ·have hc1n : ¬ k < xs.length := by first | (have h := of_decide_eq_false hc1; omega) | (have h := hc1; simp at h; omega)
  refine S_exit (E_lp_exit (E_inB_exit ?_))
  refine S_seq ?_
  refine S_reg [true] rfl rfl ?_
  refine J_st (R_assign rfl) rfl (J_done ?_)
  refine S_ret (E_done1 rfl rfl E ?_)
  exact all_yes hI (by omega)

set_option maxRecDepth 20000 in
theorem s_l12Records (cg : List Value) (g : Graph) (vxs : Value) (xs : List Record) (w : World) (hg : Dat.R w 0 w.heap.size cg g) (hxs : RdS w vxs xs) : Ct Tryz.prog 57 [.agg cg.toArray, vxs] w (fun v _ => v = .bool (xs.all (opOk g))) := by
 refine ct_of Tryz.func57 rfl Tryz.ntmps57 rfl ?_
 obtain ⟨o1, rfl, hd1⟩ := Graph.op hg
 refine S_sub [(0, .agg [o1, .int .i64 g.workers, .int .i64 g.cap].toArray), (1, vxs)] ⟨rfl, rfl, trivial⟩ ?_
 have E : Ext w w := Ext.refl w
 refine S_seq ?_
 refine S_reg [false, true] rfl rfl ?_
 refine J_box rfl rfl (fun b1 w1 e1 s1 h1 => ?_)
 have g_b1 : w.heap.size ≤ b1 := by have := E.size; omega
 have y_b1 := h1.lt
 replace E := E.trans e1
 have z1 := e1.size
 refine J_st (R_assign rfl) rfl (J_done ?_)
 refine S_seq ?_
 refine S_seq ?_
 refine S_reg [true] rfl rfl ?_
 refine J_st (R_assign rfl) rfl (J_done ?_)
 refine S_block ?_
 refine S_loop (fun (k : Nat) => [(1, vxs), (2, .pointer (some ⟨b1, 0, none⟩)), (4, .bool false), (5, .int .i64 ((k : Nat) : Int))]) (fun (k : Nat) w' => Ext w w' ∧ w1.heap.size ≤ w'.heap.size ∧ Blk w' b1 ([o1, .int .i64 g.workers, .int .i64 g.cap]) ∧ k ≤ xs.length ∧ (xs.take k).all (opOk g) = true) (fun (k : Nat) => xs.length - k) 0 ⟨rfl, rfl, rfl, rfl, trivial⟩ ⟨E, Nat.le_refl _, h1, Nat.zero_le _, rfl⟩ ?_
 clear E h1
 rintro k w2 ⟨E, z2, h1, hk, hI⟩
 refine S_seq ?_
 refine S_seq ?_
 refine S_reg [true, true, true, true] rfl rfl ?_
 refine J_st (R_move rfl) rfl (J_st (R_move rfl) rfl (J_st (R_len Tryz.underlying34 rfl (hxs.ext E).len) rfl (J_st (R_lss rfl rfl) rfl (J_done ?_))))
 refine S_cond rfl (fun hc1 => ?_) (fun hc1 => ?_)
 ·have hc1n : k < xs.length := by first | (have h := of_decide_eq_true hc1; omega) | (have h := hc1; simp at h; omega)
  refine S_skip ?_
  refine S_seq ?_
  refine S_block ?_
  refine S_seq ?_
  refine S_regD mixed [(0, true), (1, true), (2, true), (3, true), (4, false), (5, true), (6, true), (7, true), (8, true), (9, true), (10, true), (11, true), (12, true), (13, true), (14, true), (15, true), (16, true)] (by decide +kernel) rfl (fun w3 e2 => ?_)
  replace E := E.trans e2; replace h1 := h1.ext e2
  have z3 := e2.size
  refine J_st (R_move rfl) rfl (J_st (R_move rfl) rfl ?_)
  have hi1 : k < xs.length := (by first | assumption | omega)
  refine J_st (R_index (i := k) sl34 rfl rfl (hxs.ext E) hi1) rfl (J_st (R_loadS st63 rfl ((hxs.ext E).get hi1) rfl) rfl ?_)
  refine J_call Tryz.call60 rfl (s_RecordOk (xs[k]'hi1) _ ) rfl (fun _ w4 e3 hv => ?_)
  subst hv
  replace E := E.trans e3; replace h1 := h1.ext e3
  have z4 := e3.size
  refine J_st (R_not rfl) rfl (J_st (R_move rfl) rfl ?_)
  refine J_cut 10 [(1, vxs), (2, .pointer (some ⟨b1, 0, none⟩)), (4, .bool false), (5, .int .i64 ((k : Nat) : Int)), (6, .int .i64 ((k : Nat) : Int)), (7, vxs), (8, .int .i64 ((xs.length : Nat) : Int)), (9, .bool (decide (((k : Nat) : Int) < ((xs.length : Nat) : Int)))), (28, .bool ((!(recordOk (xs[k]'hi1))) || (decide (((g.nodes.length : Nat) : Int) ≤ ((xs[k]'hi1).op)))))] (fun w' => w4 = w') ?_ ?_
  ·refine J_if (gd := 18) rfl rfl (fun hg1 => ?_) (fun hg1 => ?_)
   ·refine J_gdno rfl rfl rfl rfl (J_gdno rfl rfl rfl rfl (J_gdno rfl rfl rfl rfl (J_gdno rfl rfl rfl rfl (J_gdno rfl rfl rfl rfl (J_gdno rfl rfl rfl rfl (J_gdno rfl rfl rfl rfl (J_gdno rfl rfl rfl rfl (J_gdno rfl rfl rfl rfl (J_st (R_pickT rfl rfl) rfl (J_cutEnd ⟨rfl, rfl, rfl, rfl, rfl, rfl, rfl, rfl, congrArg (fun b => some (Value.bool b)) (show true = ((!(recordOk (xs[k]'hi1))) || (decide (((g.nodes.length : Nat) : Int) ≤ ((xs[k]'hi1).op)))) by first | (rw [hg1] <;> rfl) | (simp [hg1]; done) | (simp only [nat_nlt] <;> simp)), trivial⟩ rfl))))))))))
   ·refine J_gd rfl rfl (R_move rfl) rfl (J_gd rfl rfl (R_move rfl) rfl (J_gd rfl rfl (R_index (i := k) sl34 rfl rfl (hxs.ext E) hi1) rfl (J_gd rfl rfl (R_fieldAddr fl63_0 rfl) rfl (J_gd rfl rfl (R_load sc3 rfl (((hxs.ext E).get hi1).one 0 rfl)) rfl (J_gd rfl rfl (R_fieldAddr0 fl43_0 rfl) rfl (J_gd rfl rfl (R_load sc41 rfl (h1.one 0 rfl)) rfl (J_gd rfl rfl (R_len Tryz.underlying41 rfl (hd1.ext E).len) rfl (J_gd rfl rfl (R_geq rfl rfl) rfl (J_st (R_pickF rfl rfl) rfl (J_cutEnd ⟨rfl, rfl, rfl, rfl, rfl, rfl, rfl, rfl, congrArg (fun b => some (Value.bool b)) (show (decide (((g.nodes.length : Nat) : Int) ≤ ((xs[k]'hi1).op))) = ((!(recordOk (xs[k]'hi1))) || (decide (((g.nodes.length : Nat) : Int) ≤ ((xs[k]'hi1).op)))) by first | (rw [hg1] <;> rfl) | (simp [hg1]; done) | (simp only [nat_nlt] <;> simp)), trivial⟩ rfl))))))))))
  rintro _ rfl
  refine J_done ?_
  refine S_cond rfl (fun hc2 => ?_) (fun hc2 => ?_)
  ·refine S_seq ?_
   refine S_reg [true] rfl rfl ?_
   refine J_st (R_assign rfl) rfl (J_done ?_)
   refine S_ret (E_inB_ret (E_lp_ret (E_inB_ret (E_done1 rfl rfl E ?_))))
   exact all_no (by assumption) (op_no hc2)
  ·refine S_skip ?_
   refine S_nil (E_inB ?_)
   refine S_reg [true, true, true] rfl rfl ?_
   refine J_st (R_move rfl) rfl (J_st (R_add rfl rfl (add_one hc1n hxs.1)) rfl (J_st (R_assign rfl) rfl (J_done ?_)))
   refine S_nil (E_again (k + 1) (by omega) ⟨rfl, rfl, rfl, rfl, trivial⟩ ⟨E, (by omega), h1, (by omega), all_step hI (by assumption) (op_yes hc2)⟩)
 ·have hc1n : ¬ k < xs.length := by first | (have h := of_decide_eq_false hc1; omega) | (have h := hc1; simp at h; omega)
  refine S_exit (E_lp_exit (E_inB_exit ?_))
  refine S_seq ?_
  refine S_reg [true] rfl rfl ?_
  refine J_st (R_assign rfl) rfl (J_done ?_)
  refine S_ret (E_done1 rfl rfl E ?_)
  exact all_yes hI (by omega)

set_option maxHeartbeats 4000000 in
set_option maxRecDepth 20000 in
theorem c_WorkerOk (cg : List Value) (g : Graph) (cx : List Value) (x : Worker) (w : World) (hg : Dat.R w 0 w.heap.size cg g) (hx : Dat.R w 0 w.heap.size cx x) : Ct Tryz.prog 34 [.agg cg.toArray, .agg cx.toArray] w (fun v _ => v = .bool (workerOk g x)) := by
 refine ct_of Tryz.func34 rfl Tryz.ntmps34 rfl ?_
 obtain ⟨o1, rfl, hd1⟩ := Graph.op hg
 obtain ⟨o2, o3, o4, o5, o6, o7, o8, o9, rfl, hd2, hd3, hd4, hd5, hd6, hd7, hd8, hd9⟩ := Worker.op hx
 refine S_sub [(0, .agg [o1, .int .i64 g.workers, .int .i64 g.cap].toArray), (1, .agg [o2, o3, o4, o5, o6, o7, o8, o9].toArray)] ⟨rfl, rfl, trivial⟩ ?_
 have E : Ext w w := Ext.refl w
 refine S_seq ?_
 refine S_reg [false, false, true] rfl rfl ?_
 refine J_box rfl rfl (fun b1 w1 e1 s1 h1 => ?_)
 have g_b1 : w.heap.size ≤ b1 := by have := E.size; omega
 have y_b1 := h1.lt
 replace E := E.trans e1
 have z1 := e1.size
 refine J_box rfl rfl (fun b2 w2 e2 s2 h2 => ?_)
 have g_b2 : w.heap.size ≤ b2 := by have := E.size; omega
 have y_b2 := h2.lt
 replace E := E.trans e2; replace h1 := h1.ext e2
 have z2 := e2.size
 refine J_st (R_assign rfl) rfl (J_done ?_)
 refine S_seq ?_
 refine S_seq ?_
 refine S_reg [true, true, true, false, true, true, true, true, true, false, true, true, true, true, true, true, false, true, true, true, true, true, false, true, true] rfl rfl ?_
 refine J_st (R_loadS st43 rfl h1.at rfl) rfl (J_st (R_fieldAddr0 fl38_0 rfl) rfl (J_st (R_load sc34 rfl (h2.one 0 rfl)) rfl ?_))
 refine J_call Tryz.call73 rfl (c_opsOk [o1, .int .i64 g.workers, .int .i64 g.cap] g o2 x.queue _ (Graph.mkR g (RdD.any (hd1.ext E))) (hd2.rd.ext E)) rfl (fun _ w3 e3 hv => ?_)
 subst hv
 replace E := E.trans e3; replace h1 := h1.ext e3; replace h2 := h2.ext e3
 have z3 := e3.size
 refine J_st (R_not rfl) rfl (J_st (R_move rfl) rfl ?_)
 refine J_cut 19 [(0, .agg [o1, .int .i64 g.workers, .int .i64 g.cap].toArray), (1, .agg [o2, o3, o4, o5, o6, o7, o8, o9].toArray), (2, .pointer (some ⟨b1, 0, none⟩)), (3, .pointer (some ⟨b2, 0, none⟩)), (4, .bool false), (35, .bool ((((!(x.queue.all (opOk g))) || (!(x.staged.all (opOk g)))) || (!(x.inputs.all (opOk g)))) || (!((adj x.cells).all cellLt))))] (fun w' => Ext w w' ∧ w3.heap.size ≤ w'.heap.size ∧ Blk w' b1 ([o1, .int .i64 g.workers, .int .i64 g.cap]) ∧ Blk w' b2 ([o2, o3, o4, o5, o6, o7, o8, o9])) ?_ ?_
 ·refine J_if (gd := 16) rfl rfl (fun hg1 => ?_) (fun hg1 => ?_)
  ·refine J_gdno rfl rfl rfl rfl (J_gdno rfl rfl rfl rfl (J_gdno rfl rfl rfl rfl ?_))
   refine J_ungno rfl rfl rfl rfl ?_
   refine J_gdno rfl rfl rfl rfl (J_st (R_pickT rfl rfl) rfl (J_st (R_move rfl) rfl (J_gdno rfl rfl rfl rfl (J_gdno rfl rfl rfl rfl (J_gdno rfl rfl rfl rfl ?_)))))
   refine J_ungno rfl rfl rfl rfl ?_
   refine J_gdno rfl rfl rfl rfl (J_st (R_pickT rfl rfl) rfl (J_st (R_move rfl) rfl (J_gdno rfl rfl rfl rfl (J_gdno rfl rfl rfl rfl ?_))))
   refine J_ungno rfl rfl rfl rfl ?_
   refine J_gdno rfl rfl rfl rfl (J_st (R_pickT rfl rfl) rfl (J_cutEnd ⟨rfl, rfl, rfl, rfl, rfl, congrArg (fun b => some (Value.bool b)) (show true = ((((!(x.queue.all (opOk g))) || (!(x.staged.all (opOk g)))) || (!(x.inputs.all (opOk g)))) || (!((adj x.cells).all cellLt))) by first | (rw [hg1] <;> rfl) | (simp [hg1]; done) | (simp only [nat_nlt] <;> simp)), trivial⟩ ⟨E, (by omega), h1, h2⟩))
  ·refine J_gd rfl rfl (R_loadS st43 rfl h1.at rfl) rfl (J_gd rfl rfl (R_fieldAddr0 fl38_1 rfl) rfl (J_gd rfl rfl (R_load sc34 rfl (h2.one 1 rfl)) rfl ?_))
   refine J_ung rfl rfl ?_
   refine J_call Tryz.call73 rfl (c_opsOk [o1, .int .i64 g.workers, .int .i64 g.cap] g o3 x.staged _ (Graph.mkR g (RdD.any (hd1.ext E))) (hd3.rd.ext E)) rfl (fun _ w5 e4 hv => ?_)
   subst hv
   replace E := E.trans e4; replace h1 := h1.ext e4; replace h2 := h2.ext e4
   have z4 := e4.size
   refine J_gd rfl rfl (R_not rfl) rfl (J_st (R_pickF rfl rfl) rfl (J_st (R_move rfl) rfl ?_))
   refine J_if (gd := 23) rfl rfl (fun hg2 => ?_) (fun hg2 => ?_)
   ·refine J_gdno rfl rfl rfl rfl (J_gdno rfl rfl rfl rfl (J_gdno rfl rfl rfl rfl ?_))
    refine J_ungno rfl rfl rfl rfl ?_
    refine J_gdno rfl rfl rfl rfl (J_st (R_pickT rfl rfl) rfl (J_st (R_move rfl) rfl (J_gdno rfl rfl rfl rfl (J_gdno rfl rfl rfl rfl ?_))))
    refine J_ungno rfl rfl rfl rfl ?_
    refine J_gdno rfl rfl rfl rfl (J_st (R_pickT rfl rfl) rfl (J_cutEnd ⟨rfl, rfl, rfl, rfl, rfl, congrArg (fun b => some (Value.bool b)) (show true = ((((!(x.queue.all (opOk g))) || (!(x.staged.all (opOk g)))) || (!(x.inputs.all (opOk g)))) || (!((adj x.cells).all cellLt))) by first | (rw [hg1, hg2] <;> rfl) | (simp [hg1, hg2]; done) | (simp only [nat_nlt] <;> simp)), trivial⟩ ⟨E, (by omega), h1, h2⟩))
   ·refine J_gd rfl rfl (R_loadS st43 rfl h1.at rfl) rfl (J_gd rfl rfl (R_fieldAddr0 fl38_2 rfl) rfl (J_gd rfl rfl (R_load sc34 rfl (h2.one 2 rfl)) rfl ?_))
    refine J_ung rfl rfl ?_
    refine J_call Tryz.call73 rfl (c_opsOk [o1, .int .i64 g.workers, .int .i64 g.cap] g o4 x.inputs _ (Graph.mkR g (RdD.any (hd1.ext E))) (hd4.rd.ext E)) rfl (fun _ w6 e5 hv => ?_)
    subst hv
    replace E := E.trans e5; replace h1 := h1.ext e5; replace h2 := h2.ext e5
    have z5 := e5.size
    refine J_gd rfl rfl (R_not rfl) rfl (J_st (R_pickF rfl rfl) rfl (J_st (R_move rfl) rfl ?_))
    refine J_if (gd := 30) rfl rfl (fun hg3 => ?_) (fun hg3 => ?_)
    ·refine J_gdno rfl rfl rfl rfl (J_gdno rfl rfl rfl rfl ?_)
     refine J_ungno rfl rfl rfl rfl ?_
     refine J_gdno rfl rfl rfl rfl (J_st (R_pickT rfl rfl) rfl (J_cutEnd ⟨rfl, rfl, rfl, rfl, rfl, congrArg (fun b => some (Value.bool b)) (show true = ((((!(x.queue.all (opOk g))) || (!(x.staged.all (opOk g)))) || (!(x.inputs.all (opOk g)))) || (!((adj x.cells).all cellLt))) by first | (rw [hg1, hg2, hg3] <;> rfl) | (simp [hg1, hg2, hg3]; done) | (simp only [nat_nlt] <;> simp)), trivial⟩ ⟨E, (by omega), h1, h2⟩))
    ·refine J_gd rfl rfl (R_fieldAddr0 fl38_3 rfl) rfl (J_gd rfl rfl (R_load sc35 rfl (h2.one 3 rfl)) rfl ?_)
     refine J_ung rfl rfl ?_
     refine J_call Tryz.call74 rfl (c_CellsOk o5 x.cells _ (hd5.rd.ext E)) rfl (fun _ w7 e6 hv => ?_)
     subst hv
     replace E := E.trans e6; replace h1 := h1.ext e6; replace h2 := h2.ext e6
     have z6 := e6.size
     refine J_gd rfl rfl (R_not rfl) rfl (J_st (R_pickF rfl rfl) rfl (J_cutEnd ⟨rfl, rfl, rfl, rfl, rfl, congrArg (fun b => some (Value.bool b)) (show (!((adj x.cells).all cellLt)) = ((((!(x.queue.all (opOk g))) || (!(x.staged.all (opOk g)))) || (!(x.inputs.all (opOk g)))) || (!((adj x.cells).all cellLt))) by first | (rw [hg1, hg2, hg3] <;> rfl) | (simp [hg1, hg2, hg3]; done) | (simp only [nat_nlt] <;> simp)), trivial⟩ ⟨E, (by omega), h1, h2⟩))
 clear E h1 h2
 rintro w4 ⟨E, z7, h1, h2⟩
 refine J_done ?_
 refine S_cond rfl (fun hc1 => ?_) (fun hc1 => ?_)
 ·refine S_seq ?_
  refine S_reg [true] rfl rfl ?_
  refine J_st (R_assign rfl) rfl (J_done ?_)
  refine S_ret (E_done1 rfl rfl E ?_)
  exact bf fun h => by simp only [workerOk, Bool.and_eq_true] at h; obtain ⟨⟨⟨⟨⟨⟨⟨⟨⟨q1, q2⟩, q3⟩, q4⟩, q5⟩, q6⟩, q7⟩, q8⟩, q9⟩, q10⟩ := h; simp only [q1, q2, q3, q4] at hc1; simp at hc1
 ·refine S_skip ?_
  refine S_seq ?_
  refine S_seq ?_
  refine S_reg [true, true, true, true] rfl rfl ?_
  refine J_st (R_fieldAddr0 fl38_2 rfl) rfl (J_st (R_load sc34 rfl (h2.one 2 rfl)) rfl (J_st (R_len Tryz.underlying34 rfl (hd4.ext E).len) rfl (J_st (R_move rfl) rfl (J_done ?_))))
  refine S_block ?_
  refine S_loop (fun (k : Nat) => [(3, .pointer (some ⟨b2, 0, none⟩)), (4, .bool false), (37, o4), (38, .int .i64 ((x.inputs.length : Nat) : Int)), (39, .int .i64 ((k : Nat) : Int))]) (fun (k : Nat) w' => Ext w w' ∧ w4.heap.size ≤ w'.heap.size ∧ Blk w' b1 ([o1, .int .i64 g.workers, .int .i64 g.cap]) ∧ Blk w' b2 ([o2, o3, o4, o5, o6, o7, o8, o9]) ∧ k ≤ x.inputs.length ∧ allR k (fun j => inAt x.inputs j) = true) (fun (k : Nat) => x.inputs.length - k) 0 ⟨rfl, rfl, rfl, rfl, rfl, trivial⟩ ⟨E, Nat.le_refl _, h1, h2, Nat.zero_le _, rfl⟩ ?_
  clear E h1 h2
  rintro k w8 ⟨E, z8, h1, h2, hk, hI1⟩
  have hmi := hd4.1.1
  unfold maxLen at hmi
  refine S_seq ?_
  refine S_reg [true] rfl rfl ?_
  refine J_st (R_lss rfl rfl) rfl (J_done ?_)
  refine S_seq ?_
  refine S_cond rfl (fun hc2 => ?_) (fun hc2 => ?_)
  ·have hc2n : k < x.inputs.length := by first | (have h := of_decide_eq_true hc2; omega) | (have h := hc2; simp at h; omega)
   refine S_skip ?_
   refine S_seq ?_
   refine S_block ?_
   refine S_seq ?_
   refine S_reg [true, true, true, false, true, false] rfl rfl ?_
   refine J_st (R_move rfl) rfl ?_
   have hi1 : k < x.inputs.length := (by first | assumption | omega)
   refine J_st (R_index (i := k) sl34 rfl rfl (hd4.rd.ext E) hi1) rfl (J_st (R_loadS st63 rfl ((hd4.rd.ext E).get hi1) rfl) rfl ?_)
   refine J_alloc st63 rfl (fun b3 w9 e7 s3 h3 => ?_)
   have g_b3 : w.heap.size ≤ b3 := by have := E.size; omega
   have y_b3 := h3.lt
   replace E := E.trans e7; replace h1 := h1.ext e7; replace h2 := h2.ext e7
   have z9 := e7.size
   refine J_st (R_assign rfl) rfl ?_
   refine J_storeS' (cs' := [.int .i64 ((x.inputs[k]'hi1).op), .int .i64 (((x.inputs[k]'hi1).stamp).epoch), .int .i64 (((x.inputs[k]'hi1).stamp).turn), .int .i64 ((x.inputs[k]'hi1).key), .int .i64 ((x.inputs[k]'hi1).val)]) st63 rfl rfl rfl rfl h3 (Nat.le_of_ble_eq_true rfl) rfl (fun w10 m1 h3' => ?_)
   replace h3 := h3'
   replace E := E.step m1 (fun g hg => by cases hg; omega); replace h1 := h1.mod m1 (fun g hg => by cases hg; omega); replace h2 := h2.mod m1 (fun g hg => by cases hg; omega)
   have z10 := m1.size
   refine J_done ?_
   refine S_seq ?_
   refine S_regD mixed [(0, true), (1, true), (2, true), (3, true), (4, true), (5, true), (6, true), (7, true), (8, true), (9, true), (10, true), (11, true), (12, true), (13, true), (14, true), (15, true), (16, true), (17, true), (18, true), (19, true), (20, true), (21, true), (22, true), (23, true), (24, true), (25, true), (26, true)] (by decide +kernel) rfl (fun w11 e8 => ?_)
   replace E := E.trans e8; replace h1 := h1.ext e8; replace h2 := h2.ext e8; replace h3 := h3.ext e8
   have z11 := e8.size
   refine J_st (R_fieldAddr0 fl63_0 rfl) rfl (J_st (R_load sc3 rfl (h3.one 0 rfl)) rfl (J_st (R_neq rfl rfl) rfl (J_st (R_move rfl) rfl ?_)))
   refine J_cut 23 [(3, .pointer (some ⟨b2, 0, none⟩)), (4, .bool false), (5, .int .i64 ((k : Nat) : Int)), (6, .pointer (some ⟨b3, 0, none⟩)), (37, o4), (38, .int .i64 ((x.inputs.length : Nat) : Int)), (39, .int .i64 ((k : Nat) : Int)), (40, .bool (decide (((k : Nat) : Int) < ((x.inputs.length : Nat) : Int)))), (41, .int .i64 ((k : Nat) : Int)), (42, .pointer (some ⟨sblk o4, soff o4 + k * 5, none⟩)), (43, .agg (Enc.enc (x.inputs[k]'hi1)).toArray), (70, .bool (((((x.inputs[k]'hi1).op) != 0) || ((((x.inputs[k]'hi1).stamp).turn) != 0)) || ((decide (0 < ((k : Nat) : Int))) && (decide ((((x.inputs[k]'hi1).stamp).epoch) < (((List.getD x.inputs (k - 1) default).stamp).epoch))))))] (fun w' => w11 = w') ?_ ?_
   ·refine J_if (gd := 47) rfl rfl (fun hg4 => ?_) (fun hg4 => ?_)
    ·refine J_gdno rfl rfl rfl rfl (J_gdno rfl rfl rfl rfl (J_gdno rfl rfl rfl rfl (J_gdno rfl rfl rfl rfl (J_st (R_pickT rfl rfl) rfl (J_st (R_move rfl) rfl (J_gdno rfl rfl rfl rfl (J_gdno rfl rfl rfl rfl (J_gdno rfl rfl rfl rfl (J_gdx rfl rfl rfl (J_gdx rfl rfl rfl (J_gdx rfl rfl rfl (J_gdx rfl rfl rfl (J_gdx rfl rfl rfl (J_gdx rfl rfl rfl (J_gdx rfl rfl rfl (J_gdx rfl rfl rfl (J_gdx rfl rfl rfl (J_gdx rfl rfl rfl (J_gdx rfl rfl rfl (J_gdx rfl rfl rfl (J_gdno rfl rfl rfl rfl (J_st (R_pickT rfl rfl) rfl (J_cutEnd ⟨rfl, rfl, rfl, rfl, rfl, rfl, rfl, rfl, rfl, rfl, rfl, congrArg (fun b => some (Value.bool b)) (show true = (((((x.inputs[k]'hi1).op) != 0) || ((((x.inputs[k]'hi1).stamp).turn) != 0)) || ((decide (0 < ((k : Nat) : Int))) && (decide ((((x.inputs[k]'hi1).stamp).epoch) < (((List.getD x.inputs (k - 1) default).stamp).epoch))))) by first | (rw [hg4] <;> rfl) | (simp [hg4]; done) | (simp only [nat_nlt] <;> simp)), trivial⟩ rfl)))))))))))))))))))))))
    ·refine J_gd rfl rfl (R_fieldAddr0 fl63_1 rfl) rfl (J_gd rfl rfl (R_fieldAddr fl61_1 rfl) rfl (J_gd rfl rfl (R_load sc3 rfl (h3.one 2 rfl)) rfl (J_gd rfl rfl (R_neq rfl rfl) rfl (J_st (R_pickF rfl rfl) rfl (J_st (R_move rfl) rfl ?_)))))
     refine J_if (gd := 53) rfl rfl (fun hg5 => ?_) (fun hg5 => ?_)
     ·refine J_gdno rfl rfl rfl rfl (J_gdno rfl rfl rfl rfl (J_gdno rfl rfl rfl rfl (J_gdx rfl rfl rfl (J_gdx rfl rfl rfl (J_gdx rfl rfl rfl (J_gdx rfl rfl rfl (J_gdx rfl rfl rfl (J_gdx rfl rfl rfl (J_gdx rfl rfl rfl (J_gdx rfl rfl rfl (J_gdx rfl rfl rfl (J_gdx rfl rfl rfl (J_gdx rfl rfl rfl (J_gdx rfl rfl rfl (J_gdno rfl rfl rfl rfl (J_st (R_pickT rfl rfl) rfl (J_cutEnd ⟨rfl, rfl, rfl, rfl, rfl, rfl, rfl, rfl, rfl, rfl, rfl, congrArg (fun b => some (Value.bool b)) (show true = (((((x.inputs[k]'hi1).op) != 0) || ((((x.inputs[k]'hi1).stamp).turn) != 0)) || ((decide (0 < ((k : Nat) : Int))) && (decide ((((x.inputs[k]'hi1).stamp).epoch) < (((List.getD x.inputs (k - 1) default).stamp).epoch))))) by first | (rw [hg4, hg5] <;> rfl) | (simp [hg4, hg5]; done) | (simp only [nat_nlt] <;> simp)), trivial⟩ rfl)))))))))))))))))
     ·refine J_gd rfl rfl (R_move rfl) rfl (J_gd rfl rfl (R_gtr rfl rfl) rfl (J_gd rfl rfl (R_move rfl) rfl ?_))
      refine J_if (gd := 56) rfl rfl (fun hg6 => ?_) (fun hg6 => ?_)
      ·have hg6n : k > 0 := by first | (have h := of_decide_eq_true hg6; omega) | (have h := hg6; simp at h; omega)
       refine J_gd rfl rfl (R_fieldAddr0 fl38_2 rfl) rfl (J_gd rfl rfl (R_load sc34 rfl (h2.one 2 rfl)) rfl (J_gd rfl rfl (R_move rfl) rfl (J_gd rfl rfl (R_sub rfl rfl (sub_nat (by omega) (by unfold maxLen; omega))) rfl (J_gd rfl rfl (R_index (i := (k - 1)) sl34 rfl rfl (hd4.rd.ext E) (by first | assumption | omega)) rfl (J_gd rfl rfl (R_fieldAddr fl63_1 rfl) rfl (J_gd rfl rfl (R_fieldAddr fl61_0 rfl) rfl (J_gd rfl rfl (R_load sc3 rfl ((RdS.getD (hd4.rd.ext E) (i := (k - 1)) (by first | assumption | omega)).one 1 rfl)) rfl (J_gd rfl rfl (R_fieldAddr0 fl63_1 rfl) rfl (J_gd rfl rfl (R_fieldAddr fl61_0 rfl) rfl (J_gd rfl rfl (R_load sc3 rfl (h3.one 1 rfl)) rfl (J_gd rfl rfl (R_gtr rfl rfl) rfl (J_gd rfl rfl (R_pickT rfl rfl) rfl (J_st (R_pickF rfl rfl) rfl (J_cutEnd ⟨rfl, rfl, rfl, rfl, rfl, rfl, rfl, rfl, rfl, rfl, rfl, congrArg (fun b => some (Value.bool b)) (show (decide ((((x.inputs[k]'hi1).stamp).epoch) < (((List.getD x.inputs (k - 1) default).stamp).epoch))) = (((((x.inputs[k]'hi1).op) != 0) || ((((x.inputs[k]'hi1).stamp).turn) != 0)) || ((decide (0 < ((k : Nat) : Int))) && (decide ((((x.inputs[k]'hi1).stamp).epoch) < (((List.getD x.inputs (k - 1) default).stamp).epoch))))) by first | (rw [hg4, hg5, hg6] <;> rfl) | (simp [hg4, hg5, hg6]; done) | (simp only [nat_nlt] <;> simp)), trivial⟩ rfl))))))))))))))
      ·have hg6n : ¬ k > 0 := by first | (have h := of_decide_eq_false hg6; omega) | (have h := hg6; simp at h; omega)
       refine J_gdno rfl rfl rfl rfl (J_gdno rfl rfl rfl rfl (J_gdno rfl rfl rfl rfl (J_gdno rfl rfl rfl rfl (J_gdno rfl rfl rfl rfl (J_gdno rfl rfl rfl rfl (J_gdno rfl rfl rfl rfl (J_gdno rfl rfl rfl rfl (J_gdno rfl rfl rfl rfl (J_gdno rfl rfl rfl rfl (J_gdno rfl rfl rfl rfl (J_gdno rfl rfl rfl rfl (J_gd rfl rfl (R_pickF rfl rfl) rfl (J_st (R_pickF rfl rfl) rfl (J_cutEnd ⟨rfl, rfl, rfl, rfl, rfl, rfl, rfl, rfl, rfl, rfl, rfl, congrArg (fun b => some (Value.bool b)) (show false = (((((x.inputs[k]'hi1).op) != 0) || ((((x.inputs[k]'hi1).stamp).turn) != 0)) || ((decide (0 < ((k : Nat) : Int))) && (decide ((((x.inputs[k]'hi1).stamp).epoch) < (((List.getD x.inputs (k - 1) default).stamp).epoch))))) by first | (rw [hg4, hg5, hg6] <;> rfl) | (simp [hg4, hg5, hg6]; done) | (simp only [nat_nlt] <;> simp)), trivial⟩ rfl))))))))))))))
   rintro _ rfl
   refine J_done ?_
   refine S_cond rfl (fun hc3 => ?_) (fun hc3 => ?_)
   ·refine S_seq ?_
    refine S_reg [true] rfl rfl ?_
    refine J_st (R_assign rfl) rfl (J_done ?_)
    refine S_ret (E_inB_ret (E_lp_ret (E_inB_ret (E_done1 rfl rfl E ?_))))
    exact bf fun h => by simp only [workerOk, Bool.and_eq_true] at h; obtain ⟨⟨⟨⟨⟨⟨⟨⟨⟨q1, q2⟩, q3⟩, q4⟩, q5⟩, q6⟩, q7⟩, q8⟩, q9⟩, q10⟩ := h; have := allR_get q5 (by assumption); rw [inAt_at (by assumption), hc3] at this; cases this
   ·refine S_skip ?_
    refine S_nil (E_inB ?_)
    refine S_reg [true, true] rfl rfl ?_
    refine J_st (R_add rfl rfl (add_one hc2n (hd4.ext E).1.1)) rfl (J_st (R_move rfl) rfl (J_done ?_))
    refine S_nil (E_again (k + 1) (by omega) ⟨rfl, rfl, rfl, rfl, rfl, trivial⟩ ⟨E, (by omega), h1, h2, (by omega), allR_s hI1 ((inAt_at (by assumption)).trans (congrArg not hc3))⟩)
  ·have hc2n : ¬ k < x.inputs.length := by first | (have h := of_decide_eq_false hc2; omega) | (have h := hc2; simp at h; omega)
   refine S_exit (E_lp_exit (E_inB_exit ?_))
   refine S_seq ?_
   refine S_seq ?_
   refine S_reg [true, true, true, true, true, true, true, true, true, true, true, true, true, true, true, true] rfl rfl ?_
   refine J_st (R_fieldAddr0 fl38_4 rfl) rfl (J_st (R_load sc27 rfl (h2.one 4 rfl)) rfl (J_st (R_len Tryz.underlying27 rfl (hd6.ext E).len) rfl (J_st (R_neq rfl rfl) rfl (J_st (R_move rfl) rfl ?_))))
   refine J_cut 11 [(3, .pointer (some ⟨b2, 0, none⟩)), (4, .bool false), (37, o4), (38, .int .i64 ((x.inputs.length : Nat) : Int)), (39, .int .i64 ((k : Nat) : Int)), (40, .bool (decide (((k : Nat) : Int) < ((x.inputs.length : Nat) : Int)))), (87, .bool (((((x.sums.length : Nat) : Int) != 4) || (((x.black.length : Nat) : Int) != 4)) || (((x.caps.length : Nat) : Int) != 4)))] (fun w' => w8 = w') ?_ ?_
   ·refine J_if (gd := 76) rfl rfl (fun hg7 => ?_) (fun hg7 => ?_)
    ·have hg7n : ¬ x.sums.length = 4 := by first | (have h := of_decide_eq_true hg7; omega) | (have h := hg7; simp at h; omega)
     refine J_gdno rfl rfl rfl rfl (J_gdno rfl rfl rfl rfl (J_gdno rfl rfl rfl rfl (J_gdno rfl rfl rfl rfl (J_st (R_pickT rfl rfl) rfl (J_st (R_move rfl) rfl (J_gdno rfl rfl rfl rfl (J_gdno rfl rfl rfl rfl (J_gdno rfl rfl rfl rfl (J_gdno rfl rfl rfl rfl (J_st (R_pickT rfl rfl) rfl (J_cutEnd ⟨rfl, rfl, rfl, rfl, rfl, rfl, congrArg (fun b => some (Value.bool b)) (show true = (((((x.sums.length : Nat) : Int) != 4) || (((x.black.length : Nat) : Int) != 4)) || (((x.caps.length : Nat) : Int) != 4)) by first | (rw [hg7] <;> rfl) | (simp [hg7]; done) | (simp only [nat_nlt] <;> simp)), trivial⟩ rfl)))))))))))
    ·have hg7n : x.sums.length = 4 := by first | (have h := of_decide_eq_false hg7; omega) | (have h := hg7; simp at h; omega)
     refine J_gd rfl rfl (R_fieldAddr0 fl38_5 rfl) rfl (J_gd rfl rfl (R_load sc28 rfl (h2.one 5 rfl)) rfl (J_gd rfl rfl (R_len Tryz.underlying28 rfl (hd7.ext E).len) rfl (J_gd rfl rfl (R_neq rfl rfl) rfl (J_st (R_pickF rfl rfl) rfl (J_st (R_move rfl) rfl ?_)))))
     refine J_if (gd := 82) rfl rfl (fun hg8 => ?_) (fun hg8 => ?_)
     ·have hg8n : ¬ x.black.length = 4 := by first | (have h := of_decide_eq_true hg8; omega) | (have h := hg8; simp at h; omega)
      refine J_gdno rfl rfl rfl rfl (J_gdno rfl rfl rfl rfl (J_gdno rfl rfl rfl rfl (J_gdno rfl rfl rfl rfl (J_st (R_pickT rfl rfl) rfl (J_cutEnd ⟨rfl, rfl, rfl, rfl, rfl, rfl, congrArg (fun b => some (Value.bool b)) (show true = (((((x.sums.length : Nat) : Int) != 4) || (((x.black.length : Nat) : Int) != 4)) || (((x.caps.length : Nat) : Int) != 4)) by first | (rw [hg7, hg8] <;> rfl) | (simp [hg7, hg8]; done) | (simp only [nat_nlt] <;> simp)), trivial⟩ rfl)))))
     ·have hg8n : x.black.length = 4 := by first | (have h := of_decide_eq_false hg8; omega) | (have h := hg8; simp at h; omega)
      refine J_gd rfl rfl (R_fieldAddr0 fl38_6 rfl) rfl (J_gd rfl rfl (R_load sc28 rfl (h2.one 6 rfl)) rfl (J_gd rfl rfl (R_len Tryz.underlying28 rfl (hd8.ext E).len) rfl (J_gd rfl rfl (R_neq rfl rfl) rfl (J_st (R_pickF rfl rfl) rfl (J_cutEnd ⟨rfl, rfl, rfl, rfl, rfl, rfl, congrArg (fun b => some (Value.bool b)) (show (((x.caps.length : Nat) : Int) != 4) = (((((x.sums.length : Nat) : Int) != 4) || (((x.black.length : Nat) : Int) != 4)) || (((x.caps.length : Nat) : Int) != 4)) by first | (rw [hg7, hg8] <;> rfl) | (simp [hg7, hg8]; done) | (simp only [nat_nlt] <;> simp)), trivial⟩ rfl)))))
   rintro _ rfl
   refine J_done ?_
   refine S_cond rfl (fun hc4 => ?_) (fun hc4 => ?_)
   ·refine S_seq ?_
    refine S_reg [true] rfl rfl ?_
    refine J_st (R_assign rfl) rfl (J_done ?_)
    refine S_ret (E_done1 rfl rfl E ?_)
    exact bf fun h => by simp only [workerOk, Bool.and_eq_true] at h; obtain ⟨⟨⟨⟨⟨⟨⟨⟨⟨q1, q2⟩, q3⟩, q4⟩, q5⟩, q6⟩, q7⟩, q8⟩, q9⟩, q10⟩ := h; simp only [beq_iff_eq] at q6 q7 q8; simp [q6, q7, q8] at hc4
   ·refine S_skip ?_
    refine S_seq ?_
    refine S_seq ?_
    refine S_reg [true, true, true, true] rfl rfl ?_
    refine J_st (R_fieldAddr0 fl38_4 rfl) rfl (J_st (R_load sc27 rfl (h2.one 4 rfl)) rfl (J_st (R_len Tryz.underlying27 rfl (hd6.ext E).len) rfl (J_st (R_move rfl) rfl (J_done ?_))))
    refine S_block ?_
    refine S_loop (fun (k : Nat) => [(3, .pointer (some ⟨b2, 0, none⟩)), (4, .bool false), (89, o6), (90, .int .i64 ((x.sums.length : Nat) : Int)), (91, .int .i64 ((k : Nat) : Int))]) (fun (k : Nat) w' => Ext w w' ∧ w8.heap.size ≤ w'.heap.size ∧ Blk w' b1 ([o1, .int .i64 g.workers, .int .i64 g.cap]) ∧ Blk w' b2 ([o2, o3, o4, o5, o6, o7, o8, o9]) ∧ k ≤ x.sums.length ∧ (x.sums.take k).all (win · (-1000000) 1000000) = true) (fun (k : Nat) => x.sums.length - k) 0 ⟨rfl, rfl, rfl, rfl, rfl, trivial⟩ ⟨E, Nat.le_refl _, h1, h2, Nat.zero_le _, rfl⟩ ?_
    clear E h1 h2
    rintro k w14 ⟨E, z12, h1, h2, hk, hI2⟩
    refine S_seq ?_
    refine S_reg [true] rfl rfl ?_
    refine J_st (R_lss rfl rfl) rfl (J_done ?_)
    refine S_seq ?_
    refine S_cond rfl (fun hc5 => ?_) (fun hc5 => ?_)
    ·have hc5n : k < x.sums.length := by first | (have h := of_decide_eq_true hc5; omega) | (have h := hc5; simp at h; omega)
     refine S_skip ?_
     refine S_seq ?_
     refine S_block ?_
     refine S_seq ?_
     refine S_reg [true, true, true] rfl rfl ?_
     have hi2 : k < x.sums.length := (by first | assumption | omega)
     refine J_st (R_index (i := k) sl27 rfl rfl (hd6.rd.ext E) hi2) rfl (J_st (R_load sc3 rfl (((hd6.rd.ext E).get hi2).one 0 rfl)) rfl (J_st (R_assign rfl) rfl (J_done ?_)))
     refine S_seq ?_
     refine S_reg [true, false, true] rfl rfl ?_
     refine J_st (R_move rfl) rfl ?_
     refine J_call Tryz.call71 rfl (c_within (x.sums[k]'hi2) (-1000000) 1000000 _ ) rfl (fun _ w15 e9 hv => ?_)
     subst hv
     replace E := E.trans e9; replace h1 := h1.ext e9; replace h2 := h2.ext e9
     have z13 := e9.size
     refine J_st (R_not rfl) rfl (J_done ?_)
     refine S_cond rfl (fun hc6 => ?_) (fun hc6 => ?_)
     ·refine S_seq ?_
      refine S_reg [true] rfl rfl ?_
      refine J_st (R_assign rfl) rfl (J_done ?_)
      refine S_ret (E_inB_ret (E_lp_ret (E_inB_ret (E_done1 rfl rfl E ?_))))
      exact bf fun h => by simp only [workerOk, Bool.and_eq_true] at h; obtain ⟨⟨⟨⟨⟨⟨⟨⟨⟨q1, q2⟩, q3⟩, q4⟩, q5⟩, q6⟩, q7⟩, q8⟩, q9⟩, q10⟩ := h; have := List.all_eq_true.1 q9 _ (List.getElem_mem (by assumption)); simp only [this] at hc6; cases hc6
     ·refine S_skip ?_
      refine S_nil (E_inB ?_)
      refine S_reg [true, true] rfl rfl ?_
      refine J_st (R_add rfl rfl (add_one hc5n (hd6.ext E).1.1)) rfl (J_st (R_move rfl) rfl (J_done ?_))
      refine S_nil (E_again (k + 1) (by omega) ⟨rfl, rfl, rfl, rfl, rfl, trivial⟩ ⟨E, (by omega), h1, h2, (by omega), all_step hI2 (by assumption) (by simpa using hc6)⟩)
    ·have hc5n : ¬ k < x.sums.length := by first | (have h := of_decide_eq_false hc5; omega) | (have h := hc5; simp at h; omega)
     refine S_exit (E_lp_exit (E_inB_exit ?_))
     refine S_seq ?_
     refine S_seq ?_
     refine S_reg [true, true, true, true] rfl rfl ?_
     refine J_st (R_fieldAddr0 fl38_7 rfl) rfl (J_st (R_load sc36 rfl (h2.one 7 rfl)) rfl (J_st (R_len Tryz.underlying36 rfl (hd9.ext E).len) rfl (J_st (R_move rfl) rfl (J_done ?_))))
     refine S_block ?_
     refine S_loop (fun (k : Nat) => [(3, .pointer (some ⟨b2, 0, none⟩)), (4, .bool false), (100, o9), (101, .int .i64 ((x.dones.length : Nat) : Int)), (102, .int .i64 ((k : Nat) : Int))]) (fun (k : Nat) w' => Ext w w' ∧ w14.heap.size ≤ w'.heap.size ∧ Blk w' b1 ([o1, .int .i64 g.workers, .int .i64 g.cap]) ∧ Blk w' b2 ([o2, o3, o4, o5, o6, o7, o8, o9]) ∧ k ≤ x.dones.length ∧ allR k (fun j => doneAtOk x.dones j) = true) (fun (k : Nat) => x.dones.length - k) 0 ⟨rfl, rfl, rfl, rfl, rfl, trivial⟩ ⟨E, Nat.le_refl _, h1, h2, Nat.zero_le _, rfl⟩ ?_
     clear E h1 h2
     rintro k w16 ⟨E, z14, h1, h2, hk, hI3⟩
     refine S_seq ?_
     refine S_reg [true] rfl rfl ?_
     refine J_st (R_lss rfl rfl) rfl (J_done ?_)
     refine S_seq ?_
     refine S_cond rfl (fun hc7 => ?_) (fun hc7 => ?_)
     ·have hc7n : k < x.dones.length := by first | (have h := of_decide_eq_true hc7; omega) | (have h := hc7; simp at h; omega)
      refine S_skip ?_
      refine S_seq ?_
      refine S_block ?_
      refine S_seq ?_
      refine S_reg [true, true, true, false, true, false] rfl rfl ?_
      refine J_st (R_move rfl) rfl ?_
      have hi3 : k < x.dones.length := (by first | assumption | omega)
      refine J_st (R_index (i := k) sl36 rfl rfl (hd9.rd.ext E) hi3) rfl (J_st (R_loadS st92 rfl ((hd9.rd.ext E).get hi3) rfl) rfl ?_)
      refine J_alloc st92 rfl (fun b4 w17 e10 s4 h4 => ?_)
      have g_b4 : w.heap.size ≤ b4 := by have := E.size; omega
      have y_b4 := h4.lt
      replace E := E.trans e10; replace h1 := h1.ext e10; replace h2 := h2.ext e10
      have z15 := e10.size
      refine J_st (R_assign rfl) rfl ?_
      refine J_storeS' (cs' := [.int .i64 ((x.dones[k]'hi3).epoch), .bool ((x.dones[k]'hi3).capped)]) st92 rfl rfl rfl rfl h4 (Nat.le_of_ble_eq_true rfl) rfl (fun w18 m2 h4' => ?_)
      replace h4 := h4'
      replace E := E.step m2 (fun g hg => by cases hg; omega); replace h1 := h1.mod m2 (fun g hg => by cases hg; omega); replace h2 := h2.mod m2 (fun g hg => by cases hg; omega)
      have z16 := m2.size
      refine J_done ?_
      refine S_seq ?_
      refine S_regD mixed [(0, true), (1, true), (2, false), (3, true), (4, true), (5, true), (6, true), (7, true), (8, true), (9, true), (10, true), (11, false), (12, true)] (by decide +kernel) rfl (fun w19 e11 => ?_)
      replace E := E.trans e11; replace h1 := h1.ext e11; replace h2 := h2.ext e11; replace h4 := h4.ext e11
      have z17 := e11.size
      refine J_st (R_fieldAddr0 fl92_0 rfl) rfl (J_st (R_load sc3 rfl (h4.one 0 rfl)) rfl ?_)
      refine J_call Tryz.call71 rfl (c_within ((x.dones[k]'hi3).epoch) 0 3 _ ) rfl (fun _ w20 e12 hv => ?_)
      subst hv
      replace E := E.trans e12; replace h1 := h1.ext e12; replace h2 := h2.ext e12; replace h4 := h4.ext e12
      have z18 := e12.size
      refine J_st (R_not rfl) rfl (J_st (R_move rfl) rfl ?_)
      refine J_cut 8 [(3, .pointer (some ⟨b2, 0, none⟩)), (4, .bool false), (9, .int .i64 ((k : Nat) : Int)), (10, .pointer (some ⟨b4, 0, none⟩)), (100, o9), (101, .int .i64 ((x.dones.length : Nat) : Int)), (102, .int .i64 ((k : Nat) : Int)), (103, .bool (decide (((k : Nat) : Int) < ((x.dones.length : Nat) : Int)))), (104, .int .i64 ((k : Nat) : Int)), (105, .pointer (some ⟨sblk o9, soff o9 + k * 2, none⟩)), (106, .agg (Enc.enc (x.dones[k]'hi3)).toArray), (119, .bool ((!(win ((x.dones[k]'hi3).epoch) 0 3)) || ((List.take k x.dones).any (fun d => d.epoch == ((x.dones[k]'hi3).epoch)))))] (fun w' => Ext w w' ∧ w20.heap.size ≤ w'.heap.size ∧ Blk w' b1 ([o1, .int .i64 g.workers, .int .i64 g.cap]) ∧ Blk w' b2 ([o2, o3, o4, o5, o6, o7, o8, o9]) ∧ Blk w' b4 [.int .i64 ((x.dones[k]'hi3).epoch), .bool ((x.dones[k]'hi3).capped)]) ?_ ?_
      ·refine J_if (gd := 111) rfl rfl (fun hg9 => ?_) (fun hg9 => ?_)
       ·refine J_gdno rfl rfl rfl rfl (J_gdno rfl rfl rfl rfl (J_gdno rfl rfl rfl rfl (J_gdno rfl rfl rfl rfl (J_gdno rfl rfl rfl rfl (J_gdno rfl rfl rfl rfl ?_)))))
        refine J_ungno rfl rfl rfl rfl ?_
        refine J_st (R_pickT rfl rfl) rfl (J_cutEnd ⟨rfl, rfl, rfl, rfl, rfl, rfl, rfl, rfl, rfl, rfl, rfl, congrArg (fun b => some (Value.bool b)) (show true = ((!(win ((x.dones[k]'hi3).epoch) 0 3)) || ((List.take k x.dones).any (fun d => d.epoch == ((x.dones[k]'hi3).epoch)))) by first | (rw [hg9] <;> rfl) | (simp [hg9]; done) | (simp only [nat_nlt] <;> simp)), trivial⟩ ⟨E, (by omega), h1, h2, h4⟩)
       ·refine J_gd rfl rfl (R_fieldAddr0 fl38_7 rfl) rfl (J_gd rfl rfl (R_load sc36 rfl (h2.one 7 rfl)) rfl (J_gd rfl rfl (R_move rfl) rfl ?_))
        have hk1 : k ≤ x.dones.length := by first | assumption | omega
        have hs1 : RdD (α := Done) w 0 w.heap.size (slTo o9 k) (List.take k x.dones) := RdB.slTo hd9 hk1
        refine J_gd rfl rfl (R_sliceTo sl36 rfl rfl (RdL.room (hd9.ext E).1) hk1) rfl (J_gd rfl rfl (R_fieldAddr0 fl92_0 rfl) rfl (J_gd rfl rfl (R_load sc3 rfl (h4.one 0 rfl)) rfl ?_))
        refine J_ung rfl rfl ?_
        refine J_call Tryz.call75 rfl (c_doneAt (slTo o9 k) (List.take k x.dones) ((x.dones[k]'hi3).epoch) _ (hs1.rd.ext E)) rfl (fun _ w22 e13 hv => ?_)
        subst hv
        replace E := E.trans e13; replace h1 := h1.ext e13; replace h2 := h2.ext e13; replace h4 := h4.ext e13
        have z19 := e13.size
        refine J_st (R_pickF rfl rfl) rfl (J_cutEnd ⟨rfl, rfl, rfl, rfl, rfl, rfl, rfl, rfl, rfl, rfl, rfl, congrArg (fun b => some (Value.bool b)) (show ((List.take k x.dones).any (fun d => d.epoch == ((x.dones[k]'hi3).epoch))) = ((!(win ((x.dones[k]'hi3).epoch) 0 3)) || ((List.take k x.dones).any (fun d => d.epoch == ((x.dones[k]'hi3).epoch)))) by first | (rw [hg9] <;> rfl) | (simp [hg9]; done) | (simp only [nat_nlt] <;> simp)), trivial⟩ ⟨E, (by omega), h1, h2, h4⟩)
      clear E h1 h2 h4
      rintro w21 ⟨E, z20, h1, h2, h4⟩
      refine J_done ?_
      refine S_cond rfl (fun hc8 => ?_) (fun hc8 => ?_)
      ·refine S_seq ?_
       refine S_reg [true] rfl rfl ?_
       refine J_st (R_assign rfl) rfl (J_done ?_)
       refine S_ret (E_inB_ret (E_lp_ret (E_inB_ret (E_done1 rfl rfl E ?_))))
       exact bf fun h => by simp only [workerOk, Bool.and_eq_true] at h; obtain ⟨⟨⟨⟨⟨⟨⟨⟨⟨q1, q2⟩, q3⟩, q4⟩, q5⟩, q6⟩, q7⟩, q8⟩, q9⟩, q10⟩ := h; have := allR_get q10 (by assumption); rw [doneAtOk_at (by assumption), hc8] at this; cases this
      ·refine S_skip ?_
       refine S_nil (E_inB ?_)
       refine S_reg [true, true] rfl rfl ?_
       refine J_st (R_add rfl rfl (add_one hc7n (hd9.ext E).1.1)) rfl (J_st (R_move rfl) rfl (J_done ?_))
       refine S_nil (E_again (k + 1) (by omega) ⟨rfl, rfl, rfl, rfl, rfl, trivial⟩ ⟨E, (by omega), h1, h2, (by omega), allR_s hI3 ((doneAtOk_at (by assumption)).trans (congrArg not hc8))⟩)
     ·have hc7n : ¬ k < x.dones.length := by first | (have h := of_decide_eq_false hc7; omega) | (have h := hc7; simp at h; omega)
      refine S_exit (E_lp_exit (E_inB_exit ?_))
      refine S_seq ?_
      refine S_reg [true] rfl rfl ?_
      refine J_st (R_assign rfl) rfl (J_done ?_)
      refine S_ret (E_done1 rfl rfl E ?_)
      exact wk_yes1 hc1 (allR_le hI1 (by omega)) hc4 (all_end hI2 (by omega)) (allR_le hI3 (by omega))

set_option maxHeartbeats 4000000 in
set_option maxRecDepth 20000 in
theorem s_WorkerOk (cg : List Value) (g : Graph) (cx : List Value) (x : Worker) (w : World) (hg : Dat.R w 0 w.heap.size cg g) (hx : Dat.R w 0 w.heap.size cx x) : Ct Tryz.prog 23 [.agg cg.toArray, .agg cx.toArray] w (fun v _ => v = .bool (workerOk g x)) := by
 refine ct_of Tryz.func23 rfl Tryz.ntmps23 rfl ?_
 obtain ⟨o1, rfl, hd1⟩ := Graph.op hg
 obtain ⟨o2, o3, o4, o5, o6, o7, o8, o9, rfl, hd2, hd3, hd4, hd5, hd6, hd7, hd8, hd9⟩ := Worker.op hx
 refine S_sub [(0, .agg [o1, .int .i64 g.workers, .int .i64 g.cap].toArray), (1, .agg [o2, o3, o4, o5, o6, o7, o8, o9].toArray)] ⟨rfl, rfl, trivial⟩ ?_
 have E : Ext w w := Ext.refl w
 refine S_seq ?_
 refine S_reg [false, false, true] rfl rfl ?_
 refine J_box rfl rfl (fun b1 w1 e1 s1 h1 => ?_)
 have g_b1 : w.heap.size ≤ b1 := by have := E.size; omega
 have y_b1 := h1.lt
 replace E := E.trans e1
 have z1 := e1.size
 refine J_box rfl rfl (fun b2 w2 e2 s2 h2 => ?_)
 have g_b2 : w.heap.size ≤ b2 := by have := E.size; omega
 have y_b2 := h2.lt
 replace E := E.trans e2; replace h1 := h1.ext e2
 have z2 := e2.size
 refine J_st (R_assign rfl) rfl (J_done ?_)
 refine S_seq ?_
 refine S_reg [true] rfl rfl ?_
 refine J_st (R_assign rfl) rfl (J_done ?_)
 refine S_seq ?_
 refine S_seq ?_
 refine S_reg [true, true, true, false, true, true, true, true, true, false, true, true, true, true, true, true, false, true, true, true, true, true, false, true, true, true, true, true, true, true, true, true, true, true, true, true, true, true, true, true, true, true, true, true, true, true] rfl rfl ?_
 refine J_st (R_loadS st43 rfl h1.at rfl) rfl (J_st (R_fieldAddr0 fl38_0 rfl) rfl (J_st (R_load sc34 rfl (h2.one 0 rfl)) rfl ?_))
 refine J_call Tryz.call57 rfl (s_l12Records [o1, .int .i64 g.workers, .int .i64 g.cap] g o2 x.queue _ (Graph.mkR g (RdD.any (hd1.ext E))) (hd2.rd.ext E)) rfl (fun _ w3 e3 hv => ?_)
 subst hv
 replace E := E.trans e3; replace h1 := h1.ext e3; replace h2 := h2.ext e3
 have z3 := e3.size
 refine J_st (R_not rfl) rfl (J_st (R_move rfl) rfl ?_)
 refine J_cut 40 [(0, .agg [o1, .int .i64 g.workers, .int .i64 g.cap].toArray), (1, .agg [o2, o3, o4, o5, o6, o7, o8, o9].toArray), (2, .pointer (some ⟨b1, 0, none⟩)), (3, .pointer (some ⟨b2, 0, none⟩)), (4, .bool false), (5, .int .i64 4), (55, .bool (((((((!(x.queue.all (opOk g))) || (!(x.staged.all (opOk g)))) || (!(x.inputs.all (opOk g)))) || (!((adj x.cells).all cellLt))) || (((x.sums.length : Nat) : Int) != 4)) || (((x.black.length : Nat) : Int) != 4)) || (((x.caps.length : Nat) : Int) != 4)))] (fun w' => Ext w w' ∧ w3.heap.size ≤ w'.heap.size ∧ Blk w' b1 ([o1, .int .i64 g.workers, .int .i64 g.cap]) ∧ Blk w' b2 ([o2, o3, o4, o5, o6, o7, o8, o9])) ?_ ?_
 ·refine J_if (gd := 15) rfl rfl (fun hg1 => ?_) (fun hg1 => ?_)
  ·refine J_gdno rfl rfl rfl rfl (J_gdno rfl rfl rfl rfl (J_gdno rfl rfl rfl rfl ?_))
   refine J_ungno rfl rfl rfl rfl ?_
   refine J_gdno rfl rfl rfl rfl (J_st (R_pickT rfl rfl) rfl (J_st (R_move rfl) rfl (J_gdno rfl rfl rfl rfl (J_gdno rfl rfl rfl rfl (J_gdno rfl rfl rfl rfl ?_)))))
   refine J_ungno rfl rfl rfl rfl ?_
   refine J_gdno rfl rfl rfl rfl (J_st (R_pickT rfl rfl) rfl (J_st (R_move rfl) rfl (J_gdno rfl rfl rfl rfl (J_gdno rfl rfl rfl rfl ?_))))
   refine J_ungno rfl rfl rfl rfl ?_
   refine J_gdno rfl rfl rfl rfl (J_st (R_pickT rfl rfl) rfl (J_st (R_move rfl) rfl (J_gdno rfl rfl rfl rfl (J_gdno rfl rfl rfl rfl (J_gdno rfl rfl rfl rfl (J_gdno rfl rfl rfl rfl (J_gdno rfl rfl rfl rfl (J_st (R_pickT rfl rfl) rfl (J_st (R_move rfl) rfl (J_gdno rfl rfl rfl rfl (J_gdno rfl rfl rfl rfl (J_gdno rfl rfl rfl rfl (J_gdno rfl rfl rfl rfl (J_gdno rfl rfl rfl rfl (J_st (R_pickT rfl rfl) rfl (J_st (R_move rfl) rfl (J_gdno rfl rfl rfl rfl (J_gdno rfl rfl rfl rfl (J_gdno rfl rfl rfl rfl (J_gdno rfl rfl rfl rfl (J_gdno rfl rfl rfl rfl (J_st (R_pickT rfl rfl) rfl (J_cutEnd ⟨rfl, rfl, rfl, rfl, rfl, rfl, congrArg (fun b => some (Value.bool b)) (show true = (((((((!(x.queue.all (opOk g))) || (!(x.staged.all (opOk g)))) || (!(x.inputs.all (opOk g)))) || (!((adj x.cells).all cellLt))) || (((x.sums.length : Nat) : Int) != 4)) || (((x.black.length : Nat) : Int) != 4)) || (((x.caps.length : Nat) : Int) != 4)) by first | (rw [hg1] <;> rfl) | (simp [hg1]; done) | (simp only [nat_nlt] <;> simp)), trivial⟩ ⟨E, (by omega), h1, h2⟩)))))))))))))))))))))))
  ·refine J_gd rfl rfl (R_loadS st43 rfl h1.at rfl) rfl (J_gd rfl rfl (R_fieldAddr0 fl38_1 rfl) rfl (J_gd rfl rfl (R_load sc34 rfl (h2.one 1 rfl)) rfl ?_))
   refine J_ung rfl rfl ?_
   refine J_call Tryz.call57 rfl (s_l12Records [o1, .int .i64 g.workers, .int .i64 g.cap] g o3 x.staged _ (Graph.mkR g (RdD.any (hd1.ext E))) (hd3.rd.ext E)) rfl (fun _ w5 e4 hv => ?_)
   subst hv
   replace E := E.trans e4; replace h1 := h1.ext e4; replace h2 := h2.ext e4
   have z4 := e4.size
   refine J_gd rfl rfl (R_not rfl) rfl (J_st (R_pickF rfl rfl) rfl (J_st (R_move rfl) rfl ?_))
   refine J_if (gd := 22) rfl rfl (fun hg2 => ?_) (fun hg2 => ?_)
   ·refine J_gdno rfl rfl rfl rfl (J_gdno rfl rfl rfl rfl (J_gdno rfl rfl rfl rfl ?_))
    refine J_ungno rfl rfl rfl rfl ?_
    refine J_gdno rfl rfl rfl rfl (J_st (R_pickT rfl rfl) rfl (J_st (R_move rfl) rfl (J_gdno rfl rfl rfl rfl (J_gdno rfl rfl rfl rfl ?_))))
    refine J_ungno rfl rfl rfl rfl ?_
    refine J_gdno rfl rfl rfl rfl (J_st (R_pickT rfl rfl) rfl (J_st (R_move rfl) rfl (J_gdno rfl rfl rfl rfl (J_gdno rfl rfl rfl rfl (J_gdno rfl rfl rfl rfl (J_gdno rfl rfl rfl rfl (J_gdno rfl rfl rfl rfl (J_st (R_pickT rfl rfl) rfl (J_st (R_move rfl) rfl (J_gdno rfl rfl rfl rfl (J_gdno rfl rfl rfl rfl (J_gdno rfl rfl rfl rfl (J_gdno rfl rfl rfl rfl (J_gdno rfl rfl rfl rfl (J_st (R_pickT rfl rfl) rfl (J_st (R_move rfl) rfl (J_gdno rfl rfl rfl rfl (J_gdno rfl rfl rfl rfl (J_gdno rfl rfl rfl rfl (J_gdno rfl rfl rfl rfl (J_gdno rfl rfl rfl rfl (J_st (R_pickT rfl rfl) rfl (J_cutEnd ⟨rfl, rfl, rfl, rfl, rfl, rfl, congrArg (fun b => some (Value.bool b)) (show true = (((((((!(x.queue.all (opOk g))) || (!(x.staged.all (opOk g)))) || (!(x.inputs.all (opOk g)))) || (!((adj x.cells).all cellLt))) || (((x.sums.length : Nat) : Int) != 4)) || (((x.black.length : Nat) : Int) != 4)) || (((x.caps.length : Nat) : Int) != 4)) by first | (rw [hg1, hg2] <;> rfl) | (simp [hg1, hg2]; done) | (simp only [nat_nlt] <;> simp)), trivial⟩ ⟨E, (by omega), h1, h2⟩)))))))))))))))))))))))
   ·refine J_gd rfl rfl (R_loadS st43 rfl h1.at rfl) rfl (J_gd rfl rfl (R_fieldAddr0 fl38_2 rfl) rfl (J_gd rfl rfl (R_load sc34 rfl (h2.one 2 rfl)) rfl ?_))
    refine J_ung rfl rfl ?_
    refine J_call Tryz.call57 rfl (s_l12Records [o1, .int .i64 g.workers, .int .i64 g.cap] g o4 x.inputs _ (Graph.mkR g (RdD.any (hd1.ext E))) (hd4.rd.ext E)) rfl (fun _ w6 e5 hv => ?_)
    subst hv
    replace E := E.trans e5; replace h1 := h1.ext e5; replace h2 := h2.ext e5
    have z5 := e5.size
    refine J_gd rfl rfl (R_not rfl) rfl (J_st (R_pickF rfl rfl) rfl (J_st (R_move rfl) rfl ?_))
    refine J_if (gd := 29) rfl rfl (fun hg3 => ?_) (fun hg3 => ?_)
    ·refine J_gdno rfl rfl rfl rfl (J_gdno rfl rfl rfl rfl ?_)
     refine J_ungno rfl rfl rfl rfl ?_
     refine J_gdno rfl rfl rfl rfl (J_st (R_pickT rfl rfl) rfl (J_st (R_move rfl) rfl (J_gdno rfl rfl rfl rfl (J_gdno rfl rfl rfl rfl (J_gdno rfl rfl rfl rfl (J_gdno rfl rfl rfl rfl (J_gdno rfl rfl rfl rfl (J_st (R_pickT rfl rfl) rfl (J_st (R_move rfl) rfl (J_gdno rfl rfl rfl rfl (J_gdno rfl rfl rfl rfl (J_gdno rfl rfl rfl rfl (J_gdno rfl rfl rfl rfl (J_gdno rfl rfl rfl rfl (J_st (R_pickT rfl rfl) rfl (J_st (R_move rfl) rfl (J_gdno rfl rfl rfl rfl (J_gdno rfl rfl rfl rfl (J_gdno rfl rfl rfl rfl (J_gdno rfl rfl rfl rfl (J_gdno rfl rfl rfl rfl (J_st (R_pickT rfl rfl) rfl (J_cutEnd ⟨rfl, rfl, rfl, rfl, rfl, rfl, congrArg (fun b => some (Value.bool b)) (show true = (((((((!(x.queue.all (opOk g))) || (!(x.staged.all (opOk g)))) || (!(x.inputs.all (opOk g)))) || (!((adj x.cells).all cellLt))) || (((x.sums.length : Nat) : Int) != 4)) || (((x.black.length : Nat) : Int) != 4)) || (((x.caps.length : Nat) : Int) != 4)) by first | (rw [hg1, hg2, hg3] <;> rfl) | (simp [hg1, hg2, hg3]; done) | (simp only [nat_nlt] <;> simp)), trivial⟩ ⟨E, (by omega), h1, h2⟩)))))))))))))))))))))))
    ·refine J_gd rfl rfl (R_fieldAddr0 fl38_3 rfl) rfl (J_gd rfl rfl (R_load sc35 rfl (h2.one 3 rfl)) rfl ?_)
     refine J_ung rfl rfl ?_
     refine J_call Tryz.call58 rfl (s_CellsOk o5 x.cells _ (hd5.rd.ext E)) rfl (fun _ w7 e6 hv => ?_)
     subst hv
     replace E := E.trans e6; replace h1 := h1.ext e6; replace h2 := h2.ext e6
     have z6 := e6.size
     refine J_gd rfl rfl (R_not rfl) rfl (J_st (R_pickF rfl rfl) rfl (J_st (R_move rfl) rfl ?_))
     refine J_if (gd := 35) rfl rfl (fun hg4 => ?_) (fun hg4 => ?_)
     ·refine J_gdno rfl rfl rfl rfl (J_gdno rfl rfl rfl rfl (J_gdno rfl rfl rfl rfl (J_gdno rfl rfl rfl rfl (J_gdno rfl rfl rfl rfl (J_st (R_pickT rfl rfl) rfl (J_st (R_move rfl) rfl (J_gdno rfl rfl rfl rfl (J_gdno rfl rfl rfl rfl (J_gdno rfl rfl rfl rfl (J_gdno rfl rfl rfl rfl (J_gdno rfl rfl rfl rfl (J_st (R_pickT rfl rfl) rfl (J_st (R_move rfl) rfl (J_gdno rfl rfl rfl rfl (J_gdno rfl rfl rfl rfl (J_gdno rfl rfl rfl rfl (J_gdno rfl rfl rfl rfl (J_gdno rfl rfl rfl rfl (J_st (R_pickT rfl rfl) rfl (J_cutEnd ⟨rfl, rfl, rfl, rfl, rfl, rfl, congrArg (fun b => some (Value.bool b)) (show true = (((((((!(x.queue.all (opOk g))) || (!(x.staged.all (opOk g)))) || (!(x.inputs.all (opOk g)))) || (!((adj x.cells).all cellLt))) || (((x.sums.length : Nat) : Int) != 4)) || (((x.black.length : Nat) : Int) != 4)) || (((x.caps.length : Nat) : Int) != 4)) by first | (rw [hg1, hg2, hg3, hg4] <;> rfl) | (simp [hg1, hg2, hg3, hg4]; done) | (simp only [nat_nlt] <;> simp)), trivial⟩ ⟨E, (by omega), h1, h2⟩))))))))))))))))))))
     ·refine J_gd rfl rfl (R_fieldAddr0 fl38_4 rfl) rfl (J_gd rfl rfl (R_load sc27 rfl (h2.one 4 rfl)) rfl (J_gd rfl rfl (R_len Tryz.underlying27 rfl (hd6.ext E).len) rfl (J_gd rfl rfl (R_move rfl) rfl (J_gd rfl rfl (R_neq rfl rfl) rfl (J_st (R_pickF rfl rfl) rfl (J_st (R_move rfl) rfl ?_))))))
      refine J_if (gd := 42) rfl rfl (fun hg5 => ?_) (fun hg5 => ?_)
      ·have hg5n : ¬ x.sums.length = 4 := by first | (have h := of_decide_eq_true hg5; omega) | (have h := hg5; simp at h; omega)
       refine J_gdno rfl rfl rfl rfl (J_gdno rfl rfl rfl rfl (J_gdno rfl rfl rfl rfl (J_gdno rfl rfl rfl rfl (J_gdno rfl rfl rfl rfl (J_st (R_pickT rfl rfl) rfl (J_st (R_move rfl) rfl (J_gdno rfl rfl rfl rfl (J_gdno rfl rfl rfl rfl (J_gdno rfl rfl rfl rfl (J_gdno rfl rfl rfl rfl (J_gdno rfl rfl rfl rfl (J_st (R_pickT rfl rfl) rfl (J_cutEnd ⟨rfl, rfl, rfl, rfl, rfl, rfl, congrArg (fun b => some (Value.bool b)) (show true = (((((((!(x.queue.all (opOk g))) || (!(x.staged.all (opOk g)))) || (!(x.inputs.all (opOk g)))) || (!((adj x.cells).all cellLt))) || (((x.sums.length : Nat) : Int) != 4)) || (((x.black.length : Nat) : Int) != 4)) || (((x.caps.length : Nat) : Int) != 4)) by first | (rw [hg1, hg2, hg3, hg4, hg5] <;> rfl) | (simp [hg1, hg2, hg3, hg4, hg5]; done) | (simp only [nat_nlt] <;> simp)), trivial⟩ ⟨E, (by omega), h1, h2⟩)))))))))))))
      ·have hg5n : x.sums.length = 4 := by first | (have h := of_decide_eq_false hg5; omega) | (have h := hg5; simp at h; omega)
       refine J_gd rfl rfl (R_fieldAddr0 fl38_5 rfl) rfl (J_gd rfl rfl (R_load sc28 rfl (h2.one 5 rfl)) rfl (J_gd rfl rfl (R_len Tryz.underlying28 rfl (hd7.ext E).len) rfl (J_gd rfl rfl (R_move rfl) rfl (J_gd rfl rfl (R_neq rfl rfl) rfl (J_st (R_pickF rfl rfl) rfl (J_st (R_move rfl) rfl ?_))))))
       refine J_if (gd := 49) rfl rfl (fun hg6 => ?_) (fun hg6 => ?_)
       ·have hg6n : ¬ x.black.length = 4 := by first | (have h := of_decide_eq_true hg6; omega) | (have h := hg6; simp at h; omega)
        refine J_gdno rfl rfl rfl rfl (J_gdno rfl rfl rfl rfl (J_gdno rfl rfl rfl rfl (J_gdno rfl rfl rfl rfl (J_gdno rfl rfl rfl rfl (J_st (R_pickT rfl rfl) rfl (J_cutEnd ⟨rfl, rfl, rfl, rfl, rfl, rfl, congrArg (fun b => some (Value.bool b)) (show true = (((((((!(x.queue.all (opOk g))) || (!(x.staged.all (opOk g)))) || (!(x.inputs.all (opOk g)))) || (!((adj x.cells).all cellLt))) || (((x.sums.length : Nat) : Int) != 4)) || (((x.black.length : Nat) : Int) != 4)) || (((x.caps.length : Nat) : Int) != 4)) by first | (rw [hg1, hg2, hg3, hg4, hg5, hg6] <;> rfl) | (simp [hg1, hg2, hg3, hg4, hg5, hg6]; done) | (simp only [nat_nlt] <;> simp)), trivial⟩ ⟨E, (by omega), h1, h2⟩))))))
       ·have hg6n : x.black.length = 4 := by first | (have h := of_decide_eq_false hg6; omega) | (have h := hg6; simp at h; omega)
        refine J_gd rfl rfl (R_fieldAddr0 fl38_6 rfl) rfl (J_gd rfl rfl (R_load sc28 rfl (h2.one 6 rfl)) rfl (J_gd rfl rfl (R_len Tryz.underlying28 rfl (hd8.ext E).len) rfl (J_gd rfl rfl (R_move rfl) rfl (J_gd rfl rfl (R_neq rfl rfl) rfl (J_st (R_pickF rfl rfl) rfl (J_cutEnd ⟨rfl, rfl, rfl, rfl, rfl, rfl, congrArg (fun b => some (Value.bool b)) (show (((x.caps.length : Nat) : Int) != 4) = (((((((!(x.queue.all (opOk g))) || (!(x.staged.all (opOk g)))) || (!(x.inputs.all (opOk g)))) || (!((adj x.cells).all cellLt))) || (((x.sums.length : Nat) : Int) != 4)) || (((x.black.length : Nat) : Int) != 4)) || (((x.caps.length : Nat) : Int) != 4)) by first | (rw [hg1, hg2, hg3, hg4, hg5, hg6] <;> rfl) | (simp [hg1, hg2, hg3, hg4, hg5, hg6]; done) | (simp only [nat_nlt] <;> simp)), trivial⟩ ⟨E, (by omega), h1, h2⟩))))))
 clear E h1 h2
 rintro w4 ⟨E, z7, h1, h2⟩
 refine J_done ?_
 refine S_cond rfl (fun hc1 => ?_) (fun hc1 => ?_)
 ·refine S_seq ?_
  refine S_reg [true] rfl rfl ?_
  refine J_st (R_assign rfl) rfl (J_done ?_)
  refine S_ret (E_done1 rfl rfl E ?_)
  exact bf fun h => by simp only [workerOk, Bool.and_eq_true] at h; obtain ⟨⟨⟨⟨⟨⟨⟨⟨⟨q1, q2⟩, q3⟩, q4⟩, q5⟩, q6⟩, q7⟩, q8⟩, q9⟩, q10⟩ := h; simp only [beq_iff_eq] at q6 q7 q8; simp only [q1, q2, q3, q4, q6, q7, q8] at hc1; simp at hc1
 ·refine S_skip ?_
  refine S_seq ?_
  refine S_seq ?_
  refine S_reg [true] rfl rfl ?_
  refine J_st (R_assign rfl) rfl (J_done ?_)
  refine S_block ?_
  refine S_loop (fun (k : Nat) => [(3, .pointer (some ⟨b2, 0, none⟩)), (4, .bool false), (5, .int .i64 4), (6, .int .i64 ((k : Nat) : Int))]) (fun (k : Nat) w' => Ext w w' ∧ w4.heap.size ≤ w'.heap.size ∧ Blk w' b1 ([o1, .int .i64 g.workers, .int .i64 g.cap]) ∧ Blk w' b2 ([o2, o3, o4, o5, o6, o7, o8, o9]) ∧ k ≤ x.inputs.length ∧ allR k (fun j => inAt x.inputs j) = true) (fun (k : Nat) => x.inputs.length - k) 0 ⟨rfl, rfl, rfl, rfl, trivial⟩ ⟨E, Nat.le_refl _, h1, h2, Nat.zero_le _, rfl⟩ ?_
  clear E h1 h2
  rintro k w8 ⟨E, z8, h1, h2, hk, hI1⟩
  have hmi := hd4.1.1
  unfold maxLen at hmi
  refine S_seq ?_
  refine S_seq ?_
  refine S_reg [true, true, true, true, true] rfl rfl ?_
  refine J_st (R_move rfl) rfl (J_st (R_fieldAddr0 fl38_2 rfl) rfl (J_st (R_load sc34 rfl (h2.one 2 rfl)) rfl (J_st (R_len Tryz.underlying34 rfl (hd4.ext E).len) rfl (J_st (R_lss rfl rfl) rfl (J_done ?_)))))
  refine S_cond rfl (fun hc2 => ?_) (fun hc2 => ?_)
  ·have hc2n : k < x.inputs.length := by first | (have h := of_decide_eq_true hc2; omega) | (have h := hc2; simp at h; omega)
   refine S_skip ?_
   refine S_seq ?_
   refine S_block ?_
   refine S_seq ?_
   refine S_regD mixed [(0, true), (1, true), (2, true), (3, true), (4, true), (5, true), (6, true), (7, true), (8, true), (9, true), (10, true), (11, true), (12, true), (13, true), (14, true), (15, true), (16, true), (17, true), (18, true), (19, true), (20, true), (21, true), (22, true), (23, true), (24, true), (25, true), (26, true), (27, true), (28, true), (29, true), (30, true), (31, true), (32, true), (33, true), (34, true), (35, true), (36, true), (37, true), (38, true)] (by decide +kernel) rfl (fun w9 e7 => ?_)
   replace E := E.trans e7; replace h1 := h1.ext e7; replace h2 := h2.ext e7
   have z9 := e7.size
   refine J_st (R_fieldAddr0 fl38_2 rfl) rfl (J_st (R_load sc34 rfl (h2.one 2 rfl)) rfl (J_st (R_move rfl) rfl ?_))
   have hi1 : k < x.inputs.length := (by first | assumption | omega)
   refine J_st (R_index (i := k) sl34 rfl rfl (hd4.rd.ext E) hi1) rfl (J_st (R_fieldAddr fl63_0 rfl) rfl (J_st (R_load sc3 rfl (((hd4.rd.ext E).get hi1).one 0 rfl)) rfl (J_st (R_neq rfl rfl) rfl (J_st (R_move rfl) rfl ?_))))
   refine J_cut 31 [(3, .pointer (some ⟨b2, 0, none⟩)), (4, .bool false), (5, .int .i64 4), (6, .int .i64 ((k : Nat) : Int)), (56, .int .i64 ((k : Nat) : Int)), (57, .pointer (some ⟨b2, 2, none⟩)), (58, o4), (59, .int .i64 ((x.inputs.length : Nat) : Int)), (60, .bool (decide (((k : Nat) : Int) < ((x.inputs.length : Nat) : Int)))), (101, .bool (((((x.inputs[k]'hi1).op) != 0) || ((((x.inputs[k]'hi1).stamp).turn) != 0)) || ((decide (0 < ((k : Nat) : Int))) && (decide ((((x.inputs[k]'hi1).stamp).epoch) < (((List.getD x.inputs (k - 1) default).stamp).epoch))))))] (fun w' => w9 = w') ?_ ?_
   ·refine J_if (gd := 70) rfl rfl (fun hg7 => ?_) (fun hg7 => ?_)
    ·refine J_gdno rfl rfl rfl rfl (J_gdno rfl rfl rfl rfl (J_gdno rfl rfl rfl rfl (J_gdno rfl rfl rfl rfl (J_gdno rfl rfl rfl rfl (J_gdno rfl rfl rfl rfl (J_gdno rfl rfl rfl rfl (J_gdno rfl rfl rfl rfl (J_st (R_pickT rfl rfl) rfl (J_st (R_move rfl) rfl (J_gdno rfl rfl rfl rfl (J_gdno rfl rfl rfl rfl (J_gdno rfl rfl rfl rfl (J_gdx rfl rfl rfl (J_gdx rfl rfl rfl (J_gdx rfl rfl rfl (J_gdx rfl rfl rfl (J_gdx rfl rfl rfl (J_gdx rfl rfl rfl (J_gdx rfl rfl rfl (J_gdx rfl rfl rfl (J_gdx rfl rfl rfl (J_gdx rfl rfl rfl (J_gdx rfl rfl rfl (J_gdx rfl rfl rfl (J_gdx rfl rfl rfl (J_gdx rfl rfl rfl (J_gdx rfl rfl rfl (J_gdx rfl rfl rfl (J_gdno rfl rfl rfl rfl (J_st (R_pickT rfl rfl) rfl (J_cutEnd ⟨rfl, rfl, rfl, rfl, rfl, rfl, rfl, rfl, rfl, congrArg (fun b => some (Value.bool b)) (show true = (((((x.inputs[k]'hi1).op) != 0) || ((((x.inputs[k]'hi1).stamp).turn) != 0)) || ((decide (0 < ((k : Nat) : Int))) && (decide ((((x.inputs[k]'hi1).stamp).epoch) < (((List.getD x.inputs (k - 1) default).stamp).epoch))))) by first | (rw [hg7] <;> rfl) | (simp [hg7]; done) | (simp only [nat_nlt] <;> simp)), trivial⟩ rfl)))))))))))))))))))))))))))))))
    ·refine J_gd rfl rfl (R_fieldAddr0 fl38_2 rfl) rfl (J_gd rfl rfl (R_load sc34 rfl (h2.one 2 rfl)) rfl (J_gd rfl rfl (R_move rfl) rfl (J_gd rfl rfl (R_index (i := k) sl34 rfl rfl (hd4.rd.ext E) hi1) rfl (J_gd rfl rfl (R_fieldAddr fl63_1 rfl) rfl (J_gd rfl rfl (R_fieldAddr fl61_1 rfl) rfl (J_gd rfl rfl (R_load sc3 rfl (((hd4.rd.ext E).get hi1).one 2 rfl)) rfl (J_gd rfl rfl (R_neq rfl rfl) rfl (J_st (R_pickF rfl rfl) rfl (J_st (R_move rfl) rfl ?_)))))))))
     refine J_if (gd := 80) rfl rfl (fun hg8 => ?_) (fun hg8 => ?_)
     ·refine J_gdno rfl rfl rfl rfl (J_gdno rfl rfl rfl rfl (J_gdno rfl rfl rfl rfl (J_gdx rfl rfl rfl (J_gdx rfl rfl rfl (J_gdx rfl rfl rfl (J_gdx rfl rfl rfl (J_gdx rfl rfl rfl (J_gdx rfl rfl rfl (J_gdx rfl rfl rfl (J_gdx rfl rfl rfl (J_gdx rfl rfl rfl (J_gdx rfl rfl rfl (J_gdx rfl rfl rfl (J_gdx rfl rfl rfl (J_gdx rfl rfl rfl (J_gdx rfl rfl rfl (J_gdx rfl rfl rfl (J_gdx rfl rfl rfl (J_gdno rfl rfl rfl rfl (J_st (R_pickT rfl rfl) rfl (J_cutEnd ⟨rfl, rfl, rfl, rfl, rfl, rfl, rfl, rfl, rfl, congrArg (fun b => some (Value.bool b)) (show true = (((((x.inputs[k]'hi1).op) != 0) || ((((x.inputs[k]'hi1).stamp).turn) != 0)) || ((decide (0 < ((k : Nat) : Int))) && (decide ((((x.inputs[k]'hi1).stamp).epoch) < (((List.getD x.inputs (k - 1) default).stamp).epoch))))) by first | (rw [hg7, hg8] <;> rfl) | (simp [hg7, hg8]; done) | (simp only [nat_nlt] <;> simp)), trivial⟩ rfl)))))))))))))))))))))
     ·refine J_gd rfl rfl (R_move rfl) rfl (J_gd rfl rfl (R_gtr rfl rfl) rfl (J_gd rfl rfl (R_move rfl) rfl ?_))
      refine J_if (gd := 83) rfl rfl (fun hg9 => ?_) (fun hg9 => ?_)
      ·have hg9n : k > 0 := by first | (have h := of_decide_eq_true hg9; omega) | (have h := hg9; simp at h; omega)
       refine J_gd rfl rfl (R_fieldAddr0 fl38_2 rfl) rfl (J_gd rfl rfl (R_load sc34 rfl (h2.one 2 rfl)) rfl (J_gd rfl rfl (R_move rfl) rfl (J_gd rfl rfl (R_sub rfl rfl (sub_nat (by omega) (by unfold maxLen; omega))) rfl (J_gd rfl rfl (R_index (i := (k - 1)) sl34 rfl rfl (hd4.rd.ext E) (by first | assumption | omega)) rfl (J_gd rfl rfl (R_fieldAddr fl63_1 rfl) rfl (J_gd rfl rfl (R_fieldAddr fl61_0 rfl) rfl (J_gd rfl rfl (R_load sc3 rfl ((RdS.getD (hd4.rd.ext E) (i := (k - 1)) (by first | assumption | omega)).one 1 rfl)) rfl (J_gd rfl rfl (R_fieldAddr0 fl38_2 rfl) rfl (J_gd rfl rfl (R_load sc34 rfl (h2.one 2 rfl)) rfl (J_gd rfl rfl (R_move rfl) rfl (J_gd rfl rfl (R_index (i := k) sl34 rfl rfl (hd4.rd.ext E) hi1) rfl (J_gd rfl rfl (R_fieldAddr fl63_1 rfl) rfl (J_gd rfl rfl (R_fieldAddr fl61_0 rfl) rfl (J_gd rfl rfl (R_load sc3 rfl (((hd4.rd.ext E).get hi1).one 1 rfl)) rfl (J_gd rfl rfl (R_gtr rfl rfl) rfl (J_gd rfl rfl (R_pickT rfl rfl) rfl (J_st (R_pickF rfl rfl) rfl (J_cutEnd ⟨rfl, rfl, rfl, rfl, rfl, rfl, rfl, rfl, rfl, congrArg (fun b => some (Value.bool b)) (show (decide ((((x.inputs[k]'hi1).stamp).epoch) < (((List.getD x.inputs (k - 1) default).stamp).epoch))) = (((((x.inputs[k]'hi1).op) != 0) || ((((x.inputs[k]'hi1).stamp).turn) != 0)) || ((decide (0 < ((k : Nat) : Int))) && (decide ((((x.inputs[k]'hi1).stamp).epoch) < (((List.getD x.inputs (k - 1) default).stamp).epoch))))) by first | (rw [hg7, hg8, hg9] <;> rfl) | (simp [hg7, hg8, hg9]; done) | (simp only [nat_nlt] <;> simp)), trivial⟩ rfl))))))))))))))))))
      ·have hg9n : ¬ k > 0 := by first | (have h := of_decide_eq_false hg9; omega) | (have h := hg9; simp at h; omega)
       refine J_gdno rfl rfl rfl rfl (J_gdno rfl rfl rfl rfl (J_gdno rfl rfl rfl rfl (J_gdno rfl rfl rfl rfl (J_gdno rfl rfl rfl rfl (J_gdno rfl rfl rfl rfl (J_gdno rfl rfl rfl rfl (J_gdno rfl rfl rfl rfl (J_gdno rfl rfl rfl rfl (J_gdno rfl rfl rfl rfl (J_gdno rfl rfl rfl rfl (J_gdno rfl rfl rfl rfl (J_gdno rfl rfl rfl rfl (J_gdno rfl rfl rfl rfl (J_gdno rfl rfl rfl rfl (J_gdno rfl rfl rfl rfl (J_gd rfl rfl (R_pickF rfl rfl) rfl (J_st (R_pickF rfl rfl) rfl (J_cutEnd ⟨rfl, rfl, rfl, rfl, rfl, rfl, rfl, rfl, rfl, congrArg (fun b => some (Value.bool b)) (show false = (((((x.inputs[k]'hi1).op) != 0) || ((((x.inputs[k]'hi1).stamp).turn) != 0)) || ((decide (0 < ((k : Nat) : Int))) && (decide ((((x.inputs[k]'hi1).stamp).epoch) < (((List.getD x.inputs (k - 1) default).stamp).epoch))))) by first | (rw [hg7, hg8, hg9] <;> rfl) | (simp [hg7, hg8, hg9]; done) | (simp only [nat_nlt] <;> simp)), trivial⟩ rfl))))))))))))))))))
   rintro _ rfl
   refine J_done ?_
   refine S_cond rfl (fun hc3 => ?_) (fun hc3 => ?_)
   ·refine S_seq ?_
    refine S_reg [true] rfl rfl ?_
    refine J_st (R_assign rfl) rfl (J_done ?_)
    refine S_ret (E_inB_ret (E_lp_ret (E_inB_ret (E_done1 rfl rfl E ?_))))
    exact bf fun h => by simp only [workerOk, Bool.and_eq_true] at h; obtain ⟨⟨⟨⟨⟨⟨⟨⟨⟨q1, q2⟩, q3⟩, q4⟩, q5⟩, q6⟩, q7⟩, q8⟩, q9⟩, q10⟩ := h; have := allR_get q5 (by assumption); rw [inAt_at (by assumption), hc3] at this; cases this
   ·refine S_skip ?_
    refine S_nil (E_inB ?_)
    refine S_reg [true, true, true] rfl rfl ?_
    refine J_st (R_move rfl) rfl (J_st (R_add rfl rfl (add_one hc2n (hd4.ext E).1.1)) rfl (J_st (R_assign rfl) rfl (J_done ?_)))
    refine S_nil (E_again (k + 1) (by omega) ⟨rfl, rfl, rfl, rfl, trivial⟩ ⟨E, (by omega), h1, h2, (by omega), allR_s hI1 ((inAt_at (by assumption)).trans (congrArg not hc3))⟩)
  ·have hc2n : ¬ k < x.inputs.length := by first | (have h := of_decide_eq_false hc2; omega) | (have h := hc2; simp at h; omega)
   refine S_exit (E_lp_exit (E_inB_exit ?_))
   refine S_seq ?_
   refine S_seq ?_
   refine S_reg [true] rfl rfl ?_
   refine J_st (R_assign rfl) rfl (J_done ?_)
   refine S_block ?_
   refine S_loop (fun (k : Nat) => [(3, .pointer (some ⟨b2, 0, none⟩)), (4, .bool false), (5, .int .i64 4), (7, .int .i64 ((k : Nat) : Int))]) (fun (k : Nat) w' => Ext w w' ∧ w8.heap.size ≤ w'.heap.size ∧ Blk w' b1 ([o1, .int .i64 g.workers, .int .i64 g.cap]) ∧ Blk w' b2 ([o2, o3, o4, o5, o6, o7, o8, o9]) ∧ k ≤ 4 ∧ (x.sums.take k).all (win · (-1000000) 1000000) = true) (fun (k : Nat) => 4 - k) 0 ⟨rfl, rfl, rfl, rfl, trivial⟩ ⟨E, Nat.le_refl _, h1, h2, Nat.zero_le _, rfl⟩ ?_
   clear E h1 h2
   rintro k w11 ⟨E, z10, h1, h2, hk, hI2⟩
   have hs4 := wk_len hc1
   refine S_seq ?_
   refine S_seq ?_
   refine S_reg [true, true, true] rfl rfl ?_
   refine J_st (R_move rfl) rfl (J_st (R_move rfl) rfl (J_st (R_lss rfl rfl) rfl (J_done ?_)))
   refine S_cond rfl (fun hc4 => ?_) (fun hc4 => ?_)
   ·have hc4n : k < 4 := by first | (have h := of_decide_eq_true hc4; omega) | (have h := hc4; simp at h; omega)
    refine S_skip ?_
    refine S_seq ?_
    refine S_block ?_
    refine S_seq ?_
    refine S_reg [true, true, true, true, true, false, true] rfl rfl ?_
    refine J_st (R_fieldAddr0 fl38_4 rfl) rfl (J_st (R_load sc27 rfl (h2.one 4 rfl)) rfl (J_st (R_move rfl) rfl ?_))
    have hi2 : k < x.sums.length := (by first | assumption | omega)
    refine J_st (R_index (i := k) sl27 rfl rfl (hd6.rd.ext E) hi2) rfl (J_st (R_load sc3 rfl (((hd6.rd.ext E).get hi2).one 0 rfl)) rfl ?_)
    refine J_call Tryz.call55 rfl (s_l01In (x.sums[k]'hi2) (-1000000) 1000000 _ ) rfl (fun _ w12 e8 hv => ?_)
    subst hv
    replace E := E.trans e8; replace h1 := h1.ext e8; replace h2 := h2.ext e8
    have z11 := e8.size
    refine J_st (R_not rfl) rfl (J_done ?_)
    refine S_cond rfl (fun hc5 => ?_) (fun hc5 => ?_)
    ·refine S_seq ?_
     refine S_reg [true] rfl rfl ?_
     refine J_st (R_assign rfl) rfl (J_done ?_)
     refine S_ret (E_inB_ret (E_lp_ret (E_inB_ret (E_done1 rfl rfl E ?_))))
     exact bf fun h => by simp only [workerOk, Bool.and_eq_true] at h; obtain ⟨⟨⟨⟨⟨⟨⟨⟨⟨q1, q2⟩, q3⟩, q4⟩, q5⟩, q6⟩, q7⟩, q8⟩, q9⟩, q10⟩ := h; have := List.all_eq_true.1 q9 _ (List.getElem_mem (by omega)); simp only [this] at hc5; cases hc5
    ·refine S_skip ?_
     refine S_nil (E_inB ?_)
     refine S_reg [true, true, true] rfl rfl ?_
     refine J_st (R_move rfl) rfl (J_st (R_add rfl rfl (add_one hc4n (by first | assumption | (unfold maxLen; omega)))) rfl (J_st (R_assign rfl) rfl (J_done ?_)))
     refine S_nil (E_again (k + 1) (by omega) ⟨rfl, rfl, rfl, rfl, trivial⟩ ⟨E, (by omega), h1, h2, (by omega), all_step hI2 (by omega) (by simpa using hc5)⟩)
   ·have hc4n : ¬ k < 4 := by first | (have h := of_decide_eq_false hc4; omega) | (have h := hc4; simp at h; omega)
    refine S_exit (E_lp_exit (E_inB_exit ?_))
    refine S_seq ?_
    refine S_seq ?_
    refine S_reg [true] rfl rfl ?_
    refine J_st (R_assign rfl) rfl (J_done ?_)
    refine S_block ?_
    refine S_loop (fun (i : Nat) => [(3, .pointer (some ⟨b2, 0, none⟩)), (4, .bool false), (8, .int .i64 ((i : Nat) : Int))]) (fun (i : Nat) w' => Ext w w' ∧ w11.heap.size ≤ w'.heap.size ∧ Blk w' b1 ([o1, .int .i64 g.workers, .int .i64 g.cap]) ∧ Blk w' b2 ([o2, o3, o4, o5, o6, o7, o8, o9]) ∧ i ≤ x.dones.length ∧ allR i (fun j => doneAtOk x.dones j) = true) (fun (i : Nat) => x.dones.length - i) 0 ⟨rfl, rfl, rfl, trivial⟩ ⟨E, Nat.le_refl _, h1, h2, Nat.zero_le _, rfl⟩ ?_
    clear E h1 h2
    rintro i w13 ⟨E, z12, h1, h2, hle, hI3⟩
    have hmd := hd9.1.1
    unfold maxLen at hmd
    refine S_seq ?_
    refine S_seq ?_
    refine S_reg [true, true, true, true, true] rfl rfl ?_
    refine J_st (R_move rfl) rfl (J_st (R_fieldAddr0 fl38_7 rfl) rfl (J_st (R_load sc36 rfl (h2.one 7 rfl)) rfl (J_st (R_len Tryz.underlying36 rfl (hd9.ext E).len) rfl (J_st (R_lss rfl rfl) rfl (J_done ?_)))))
    refine S_cond rfl (fun hc6 => ?_) (fun hc6 => ?_)
    ·have hc6n : i < x.dones.length := by first | (have h := of_decide_eq_true hc6; omega) | (have h := hc6; simp at h; omega)
     refine S_skip ?_
     refine S_seq ?_
     refine S_block ?_
     refine S_seq ?_
     refine S_seq ?_
     refine S_reg [true, true, true, true, true, true, false, true] rfl rfl ?_
     refine J_st (R_fieldAddr0 fl38_7 rfl) rfl (J_st (R_load sc36 rfl (h2.one 7 rfl)) rfl (J_st (R_move rfl) rfl ?_))
     have hi3 : i < x.dones.length := (by first | assumption | omega)
     refine J_st (R_index (i := i) sl36 rfl rfl (hd9.rd.ext E) hi3) rfl (J_st (R_fieldAddr fl92_0 rfl) rfl (J_st (R_load sc3 rfl (((hd9.rd.ext E).get hi3).one 0 rfl)) rfl ?_))
     refine J_call Tryz.call55 rfl (s_l01In ((x.dones[i]'hi3).epoch) 0 3 _ ) rfl (fun _ w14 e9 hv => ?_)
     subst hv
     replace E := E.trans e9; replace h1 := h1.ext e9; replace h2 := h2.ext e9
     have z13 := e9.size
     refine J_st (R_not rfl) rfl (J_done ?_)
     refine S_cond rfl (fun hc7 => ?_) (fun hc7 => ?_)
     ·refine S_seq ?_
      refine S_reg [true] rfl rfl ?_
      refine J_st (R_assign rfl) rfl (J_done ?_)
      refine S_ret (E_inB_ret (E_lp_ret (E_inB_ret (E_done1 rfl rfl E ?_))))
      exact bf fun h => by simp only [workerOk, Bool.and_eq_true] at h; obtain ⟨⟨⟨⟨⟨⟨⟨⟨⟨q1, q2⟩, q3⟩, q4⟩, q5⟩, q6⟩, q7⟩, q8⟩, q9⟩, q10⟩ := h; have := allR_get q10 (by assumption); rw [doneAtOk_at (by assumption)] at this; simp only [hc7, Bool.true_or] at this; cases this
     ·refine S_skip ?_
      refine S_seq ?_
      refine S_reg [true] rfl rfl ?_
      refine J_st (R_assign rfl) rfl (J_done ?_)
      refine S_block ?_
      refine S_loop (fun (j : Nat) => [(3, .pointer (some ⟨b2, 0, none⟩)), (4, .bool false), (8, .int .i64 ((i : Nat) : Int)), (9, .int .i64 ((j : Nat) : Int))]) (fun (j : Nat) w' => Ext w w' ∧ w14.heap.size ≤ w'.heap.size ∧ Blk w' b1 ([o1, .int .i64 g.workers, .int .i64 g.cap]) ∧ Blk w' b2 ([o2, o3, o4, o5, o6, o7, o8, o9]) ∧ j ≤ i ∧ (x.dones.take j).any (fun d => d.epoch == (x.dones[i]'hi3).epoch) = false) (fun (j : Nat) => i - j) 0 ⟨rfl, rfl, rfl, rfl, trivial⟩ ⟨E, Nat.le_refl _, h1, h2, Nat.zero_le _, rfl⟩ ?_
      clear E h1 h2
      rintro j w15 ⟨E, z14, h1, h2, hk, hJ⟩
      refine S_seq ?_
      refine S_seq ?_
      refine S_reg [true, true, true] rfl rfl ?_
      refine J_st (R_move rfl) rfl (J_st (R_move rfl) rfl (J_st (R_lss rfl rfl) rfl (J_done ?_)))
      refine S_cond rfl (fun hc8 => ?_) (fun hc8 => ?_)
      ·have hc8n : j < i := by first | (have h := of_decide_eq_true hc8; omega) | (have h := hc8; simp at h; omega)
       refine S_skip ?_
       refine S_seq ?_
       refine S_block ?_
       refine S_seq ?_
       refine S_regD mixed [(0, true), (1, true), (2, true), (3, true), (4, true), (5, true), (6, true), (7, true), (8, true), (9, true), (10, true), (11, true), (12, true)] (by decide +kernel) rfl (fun w16 e10 => ?_)
       replace E := E.trans e10; replace h1 := h1.ext e10; replace h2 := h2.ext e10
       have z15 := e10.size
       refine J_st (R_fieldAddr0 fl38_7 rfl) rfl (J_st (R_load sc36 rfl (h2.one 7 rfl)) rfl (J_st (R_move rfl) rfl ?_))
       have hi4 : j < x.dones.length := (by first | assumption | omega)
       refine J_st (R_index (i := j) sl36 rfl rfl (hd9.rd.ext E) hi4) rfl (J_st (R_fieldAddr fl92_0 rfl) rfl (J_st (R_load sc3 rfl (((hd9.rd.ext E).get hi4).one 0 rfl)) rfl (J_st (R_fieldAddr0 fl38_7 rfl) rfl (J_st (R_load sc36 rfl (h2.one 7 rfl)) rfl (J_st (R_move rfl) rfl (J_st (R_index (i := i) sl36 rfl rfl (hd9.rd.ext E) hi3) rfl (J_st (R_fieldAddr fl92_0 rfl) rfl (J_st (R_load sc3 rfl (((hd9.rd.ext E).get hi3).one 0 rfl)) rfl (J_st (R_eql rfl rfl) rfl (J_done ?_))))))))))
       refine S_cond rfl (fun hc9 => ?_) (fun hc9 => ?_)
       ·refine S_seq ?_
        refine S_reg [true] rfl rfl ?_
        refine J_st (R_assign rfl) rfl (J_done ?_)
        refine S_ret (E_inB_ret (E_lp_ret (E_inB_ret (E_inB_ret (E_lp_ret (E_inB_ret (E_done1 rfl rfl E ?_)))))))
        exact bf fun h => by simp only [workerOk, Bool.and_eq_true] at h; obtain ⟨⟨⟨⟨⟨⟨⟨⟨⟨q1, q2⟩, q3⟩, q4⟩, q5⟩, q6⟩, q7⟩, q8⟩, q9⟩, q10⟩ := h; have := allR_get (j := i) q10 (by omega); exact done_n this (by omega) (by assumption)
       ·refine S_skip ?_
        refine S_nil (E_inB ?_)
        refine S_reg [true, true, true] rfl rfl ?_
        refine J_st (R_move rfl) rfl (J_st (R_add rfl rfl (add_one hc8n (by first | assumption | (unfold maxLen; omega)))) rfl (J_st (R_assign rfl) rfl (J_done ?_)))
        refine S_nil (E_again (j + 1) (by omega) ⟨rfl, rfl, rfl, rfl, trivial⟩ ⟨E, (by omega), h1, h2, (by omega), any_step hJ (by omega) (by assumption)⟩)
      ·have hc8n : ¬ j < i := by first | (have h := of_decide_eq_false hc8; omega) | (have h := hc8; simp at h; omega)
       refine S_exit (E_lp_exit (E_inB_exit ?_))
       refine S_nil (E_inB ?_)
       refine S_reg [true, true, true] rfl rfl ?_
       refine J_st (R_move rfl) rfl (J_st (R_add rfl rfl (add_one hc6n (hd9.ext E).1.1)) rfl (J_st (R_assign rfl) rfl (J_done ?_)))
       refine S_nil (E_again (i + 1) (by omega) ⟨rfl, rfl, rfl, trivial⟩ ⟨E, (by omega), h1, h2, (by omega), (allR_s hI3 (done_s (h1 := hi3) (by assumption) hJ (by omega)))⟩)
    ·have hc6n : ¬ i < x.dones.length := by first | (have h := of_decide_eq_false hc6; omega) | (have h := hc6; simp at h; omega)
     refine S_exit (E_lp_exit (E_inB_exit ?_))
     refine S_seq ?_
     refine S_reg [true] rfl rfl ?_
     refine J_st (R_assign rfl) rfl (J_done ?_)
     refine S_ret (E_done1 rfl rfl E ?_)
     exact wk_yes2 hc1 (allR_le hI1 (by omega)) (all_end hI2 (by have := wk_len hc1; omega)) (allR_le hI3 (by omega))

set_option maxRecDepth 20000 in
theorem s_NodeOf (cg : List Value) (g : Graph) (op : Int) (w : World) (hg : Dat.R w 0 w.heap.size cg g) (hb : cntGraph g ≤ 1048576) : Ct Tryz.prog 59 [.agg cg.toArray, .int .i64 op] w (fun v w' => ∃ c0, v = .tuple [.agg c0.toArray, .bool ((nodeOf g op).2)].toArray ∧ Own1.O w' w.heap.size w'.heap.size c0 ((nodeOf g op).1)) := by
 refine ct_of Tryz.func59 rfl Tryz.ntmps59 rfl ?_
 obtain ⟨o1, rfl, hd1⟩ := Graph.op hg
 refine S_sub [(0, .agg [o1, .int .i64 g.workers, .int .i64 g.cap].toArray), (1, .int .i64 op)] ⟨rfl, rfl, trivial⟩ ?_
 have E : Ext w w := Ext.refl w
 refine S_seq ?_
 refine S_reg [false, false, true] rfl rfl ?_
 refine J_box rfl rfl (fun b1 w1 e1 s1 h1 => ?_)
 have g_b1 : w.heap.size ≤ b1 := by have := E.size; omega
 have y_b1 := h1.lt
 replace E := E.trans e1
 have z1 := e1.size
 refine J_alloc st87 rfl (fun b2 w2 e2 s2 h2 => ?_)
 have g_b2 : w.heap.size ≤ b2 := by have := E.size; omega
 have y_b2 := h2.lt
 replace E := E.trans e2; replace h1 := h1.ext e2
 have z2 := e2.size
 refine J_st (R_assign rfl) rfl (J_done ?_)
 refine S_seq ?_
 refine S_seq ?_
 refine S_reg [true, true, true, true, true, false, true] rfl rfl ?_
 refine J_st (R_move rfl) rfl (J_st (R_fieldAddr0 fl43_0 rfl) rfl (J_st (R_load sc41 rfl (h1.one 0 rfl)) rfl (J_st (R_len Tryz.underlying41 rfl (hd1.ext E).len) rfl (J_st (R_sub rfl rfl rfl) rfl ?_))))
 refine J_call Tryz.call55 rfl (s_l01In op 0 (IntKind.i64.wrap (((g.nodes.length : Nat) : Int) - 1)) _ ) rfl (fun _ w3 e3 hv => ?_)
 subst hv
 replace E := E.trans e3; replace h1 := h1.ext e3; replace h2 := h2.ext e3
 have z3 := e3.size
 refine J_st (R_not rfl) rfl (J_done ?_)
 refine S_cond rfl (fun hc1 => ?_) (fun hc1 => ?_)
 ·rw [isN_w hd1.1.1] at hc1
  refine S_seq ?_
  refine S_reg [true, false, true] rfl rfl ?_
  have hbl1 : ∀ w, (Instr.build 87 ([]).toArray).run Tryz.prog w = .ok (.agg [.int .i64 0, .int .i64 0, .int .i64 0, .slice none 0 0].toArray) w := by clear E; intro w; kernel_rfl
  refine J_st (R_buildC [.int .i64 0, .int .i64 0, .int .i64 0, .slice none 0 0] rfl hbl1) rfl ?_
  refine J_storeS' (cs' := [.int .i64 0, .int .i64 0, .int .i64 0, .slice none 0 0]) st87 rfl rfl rfl rfl h2 (Nat.le_of_ble_eq_true rfl) rfl (fun w4 m1 h2' => ?_)
  replace h2 := h2'
  replace E := E.step m1 (fun g hg => by cases hg; omega); replace h1 := h1.mod m1 (fun g hg => by cases hg; omega)
  have z4 := m1.size
  refine J_st (R_assign rfl) rfl (J_done ?_)
  refine S_ret (E_doneN (l := [.cell 4 87, .tmp 5]) (vs := [.agg [.int .i64 0, .int .i64 0, .int .i64 0, .slice none 0 0].toArray, .bool false]) rfl ⟨.cell rfl (run_loadVar_st st87 h2.at rfl), .tmp rfl, trivial⟩ rfl E ?_)
  rw [nodeOf_no (by simpa [isNodeM] using hc1)]
  exact ⟨_, rfl, (Node.mkO (⟨0, 0, 0, []⟩ : Node) ⟨trivial, trivial⟩ (Own.nil _ _ _ _))⟩
 ·rw [isN_w hd1.1.1] at hc1
  have hop := isNode_of (by simpa [isNodeM] using hc1)
  refine S_skip ?_
  refine S_seq ?_
  refine S_reg [true, true, true, true, true, false, false] rfl rfl ?_
  refine J_st (R_fieldAddr0 fl43_0 rfl) rfl (J_st (R_load sc41 rfl (h1.one 0 rfl)) rfl (J_st (R_move rfl) rfl ?_))
  have hi1 : (Int.toNat op) < g.nodes.length := (by first | assumption | omega)
  obtain ⟨_, hr1, ha1⟩ := RdD.get hd1 hi1
  obtain ⟨o2, rfl, hd2⟩ := Node.op hr1
  replace ha1 : At w (sblk o1) (soff o1 + (Int.toNat op) * 4) [.int .i64 ((g.nodes[(Int.toNat op)]'hi1).kind), .int .i64 ((g.nodes[(Int.toNat op)]'hi1).a), .int .i64 ((g.nodes[(Int.toNat op)]'hi1).b), o2] := ha1
  refine J_st (R_indexZ (i := (Int.toNat op)) sl41 rfl rfl (hd1.ext E).1 (by omega) hi1) rfl (J_st (R_loadS st87 rfl (ha1.ext E) rfl) rfl ?_)
  refine J_alloc st87 rfl (fun b3 w5 e4 s3 h3 => ?_)
  have g_b3 : w.heap.size ≤ b3 := by have := E.size; omega
  have y_b3 := h3.lt
  replace E := E.trans e4; replace h1 := h1.ext e4; replace h2 := h2.ext e4
  have z5 := e4.size
  refine J_storeS' (cs' := [.int .i64 ((g.nodes[(Int.toNat op)]'hi1).kind), .int .i64 ((g.nodes[(Int.toNat op)]'hi1).a), .int .i64 ((g.nodes[(Int.toNat op)]'hi1).b), o2]) st87 rfl rfl rfl (all_cons rfl (all_cons rfl (all_cons rfl (all_cons (RdD.one (hd2.ext E)) rfl)))) h3 (Nat.le_of_ble_eq_true rfl) rfl (fun w6 m2 h3' => ?_)
  replace h3 := h3'
  replace E := E.step m2 (fun g hg => by cases hg; omega); replace h1 := h1.mod m2 (fun g hg => by cases hg; omega); replace h2 := h2.mod m2 (fun g hg => by cases hg; omega)
  have z6 := m2.size
  refine J_done ?_
  refine S_seq ?_
  refine S_reg [false, true, true, false, true, false] rfl rfl ?_
  refine J_buildSlice (vs := []) (css := []) sl27 rfl rfl trivial rfl rfl (fun b4 w7 e5 s4 h4 => ?_)
  replace h4 : Blk w7 b4 [] := h4
  have g_b4 : w.heap.size ≤ b4 := by have := E.size; omega
  have y_b4 := h4.lt
  replace E := E.trans e5; replace h1 := h1.ext e5; replace h2 := h2.ext e5; replace h3 := h3.ext e5
  have z7 := e5.size
  refine J_st (R_fieldAddr0 fl87_3 rfl) rfl (J_st (R_load sc27 rfl (h3.one 3 rfl)) rfl ?_)
  refine J_append sl27 rfl rfl (Own.ofBlk (lo := b4) (hi := b4 + 1) (sz := 1) h4 (Nat.le_refl _) (Nat.lt_succ_self _) (by simp) (by simp [maxLen])) (RdS.src (hd2.rd.ext E)) (flat_one _) (by have h := outs_le hb (List.getElem_mem (l := g.nodes) (n := Int.toNat op) (by omega)); rw [sum_flat]; simp only [List.length_nil, show Enc.sz Int = 1 from rfl]; omega) (by decide) (by omega) (by omega) rfl rfl (fun v1 w8 m3 ho1 => ?_)
  replace E := E.step m3 (fun g hg => by have := Own.blk (Own.ofBlk (lo := b4) (hi := b4 + 1) (sz := 1) h4 (Nat.le_refl _) (Nat.lt_succ_self _) (by simp) (by simp [maxLen])) g hg; omega); replace h1 := h1.mod m3 (fun g hg => by have := Own.blk (Own.ofBlk (lo := b4) (hi := b4 + 1) (sz := 1) h4 (Nat.le_refl _) (Nat.lt_succ_self _) (by simp) (by simp [maxLen])) g hg; omega); replace h2 := h2.mod m3 (fun g hg => by have := Own.blk (Own.ofBlk (lo := b4) (hi := b4 + 1) (sz := 1) h4 (Nat.le_refl _) (Nat.lt_succ_self _) (by simp) (by simp [maxLen])) g hg; omega); replace h3 := h3.mod m3 (fun g hg => by have := Own.blk (Own.ofBlk (lo := b4) (hi := b4 + 1) (sz := 1) h4 (Nat.le_refl _) (Nat.lt_succ_self _) (by simp) (by simp [maxLen])) g hg; omega)
  have z8 := m3.size
  refine J_st (R_fieldAddr0 fl87_3 rfl) rfl ?_
  refine J_store' (cs' := [.int .i64 ((g.nodes[(Int.toNat op)]'hi1).kind), .int .i64 ((g.nodes[(Int.toNat op)]'hi1).a), .int .i64 ((g.nodes[(Int.toNat op)]'hi1).b), v1]) sc27 rfl rfl ho1.one h3 (Nat.le_of_ble_eq_true rfl) rfl (fun w9 m4 h3' => ?_)
  replace h3 := h3'
  replace E := E.step m4 (fun g hg => by cases hg; omega); replace h1 := h1.mod m4 (fun g hg => by cases hg; omega); replace h2 := h2.mod m4 (fun g hg => by cases hg; omega); replace ho1 := ho1.mod m4 (fun g hg => by cases hg; omega)
  have z9 := m4.size
  refine J_done ?_
  refine S_seq ?_
  refine S_reg [true, false, true] rfl rfl ?_
  refine J_st (R_loadS st87 rfl h3.at rfl) rfl ?_
  refine J_storeS' (cs' := [.int .i64 ((g.nodes[(Int.toNat op)]'hi1).kind), .int .i64 ((g.nodes[(Int.toNat op)]'hi1).a), .int .i64 ((g.nodes[(Int.toNat op)]'hi1).b), v1]) st87 rfl rfl rfl (all_cons rfl (all_cons rfl (all_cons rfl (all_cons ho1.one rfl)))) h2 (Nat.le_of_ble_eq_true rfl) rfl (fun w10 m5 h2' => ?_)
  replace h2 := h2'
  replace E := E.step m5 (fun g hg => by cases hg; omega); replace h1 := h1.mod m5 (fun g hg => by cases hg; omega); replace h3 := h3.mod m5 (fun g hg => by cases hg; omega); replace ho1 := ho1.mod m5 (fun g hg => by cases hg; omega)
  have z10 := m5.size
  refine J_st (R_assign rfl) rfl (J_done ?_)
  refine S_ret (E_doneN (l := [.cell 4 87, .tmp 5]) (vs := [.agg [.int .i64 ((g.nodes[(Int.toNat op)]'hi1).kind), .int .i64 ((g.nodes[(Int.toNat op)]'hi1).a), .int .i64 ((g.nodes[(Int.toNat op)]'hi1).b), v1].toArray, .bool true]) rfl ⟨.cell rfl (run_loadVar_st st87 h2.at rfl), .tmp rfl, trivial⟩ rfl E ?_)
  rw [nodeOf_yes (by assumption) ]
  exact ⟨_, rfl, (Node.mkO (⟨(g.nodes[(Int.toNat op)]'hi1).kind, (g.nodes[(Int.toNat op)]'hi1).a, (g.nodes[(Int.toNat op)]'hi1).b, [] ++ ((g.nodes[(Int.toNat op)]'hi1).outs)⟩ : Node) ⟨trivial, trivial⟩ (Own.widen ho1 (by omega) (by omega)))⟩

end Go.Proofs.YtffofbjffbfpiaaGreat
