/- What the functions that the laws call come to: a contract each; no condition. -/
import Derived.Test.YtffofbjffbfpiaaGreatFns3
namespace Go.Proofs.YtffofbjffbfpiaaGreat
open Go Go.Proofs.YtffofbjffbfpiaaGreat.X Go.Proofs
set_option maxRecDepth 20000 in
theorem c_Capped (cg : List Value) (g : Graph) (r : Record) (w : World) (hg : Dat.R w 0 w.heap.size cg g) : Ct Tryz.prog 36 [.agg cg.toArray, .agg (Enc.enc r).toArray] w (fun v _ => v = .bool (cappedM g r)) := by
 refine ct_of Tryz.func36 rfl Tryz.ntmps36 rfl ?_
 obtain ⟨o1, rfl, hd1⟩ := Graph.op hg
 refine S_sub [(0, .agg [o1, .int .i64 g.workers, .int .i64 g.cap].toArray), (1, .agg (Enc.enc r).toArray)] ⟨rfl, rfl, trivial⟩ ?_
 have E : Ext w w := Ext.refl w
 refine S_seq ?_
 refine S_reg [false, false, true] rfl rfl ?_
 refine J_box rfl rfl (fun b1 w1 e1 s1 h1 => ?_)
 have g_b1 : w.heap.size ≤ b1 := by have := E.size; omega
 have y_b1 := h1.lt
 replace E := E.trans e1
 have z1 := e1.size
 refine J_box rfl rfl (fun b2 w2 e2 s2 h2 => ?_)
 have g_b2 : w.heap.size ≤ b2 := by have := E.size; omega
 have y_b2 := h2.lt
 replace E := E.trans e2; replace h1 := h1.ext e2
 have z2 := e2.size
 refine J_st (R_assign rfl) rfl (J_done ?_)
 refine S_seq ?_
 refine S_seq ?_
 refine S_reg [true, false, true, true, true, false, true, true, true, true, true, true, false, true, true] rfl rfl ?_
 refine J_st (R_loadS st43 rfl h1.at rfl) rfl ?_
 refine J_call Tryz.call33 rfl (c_GraphOk [o1, .int .i64 g.workers, .int .i64 g.cap] g _ (Graph.mkR g (RdD.any (hd1.ext E)))) rfl (fun _ w3 e3 hv => ?_)
 subst hv
 replace E := E.trans e3; replace h1 := h1.ext e3; replace h2 := h2.ext e3
 have z3 := e3.size
 refine J_st (R_not rfl) rfl (J_st (R_move rfl) rfl ?_)
 refine J_cut 11 [(0, .agg [o1, .int .i64 g.workers, .int .i64 g.cap].toArray), (1, .agg (Enc.enc r).toArray), (2, .pointer (some ⟨b1, 0, none⟩)), (3, .pointer (some ⟨b2, 0, none⟩)), (4, .bool false), (22, .bool (((!(graphOk g)) || (!(recordOk r))) || (!(isNodeM g r.op))))] (fun w' => Ext w w' ∧ w3.heap.size ≤ w'.heap.size ∧ Blk w' b1 ([o1, .int .i64 g.workers, .int .i64 g.cap]) ∧ Blk w' b2 (Enc.enc r)) ?_ ?_
 ·refine J_if (gd := 11) rfl rfl (fun hg1 => ?_) (fun hg1 => ?_)
  ·refine J_gdno rfl rfl rfl rfl ?_
   refine J_ungno rfl rfl rfl rfl ?_
   refine J_gdno rfl rfl rfl rfl (J_st (R_pickT rfl rfl) rfl (J_st (R_move rfl) rfl (J_gdno rfl rfl rfl rfl (J_gdno rfl rfl rfl rfl (J_gdno rfl rfl rfl rfl ?_)))))
   refine J_ungno rfl rfl rfl rfl ?_
   refine J_gdno rfl rfl rfl rfl (J_st (R_pickT rfl rfl) rfl (J_cutEnd ⟨rfl, rfl, rfl, rfl, rfl, congrArg (fun b => some (Value.bool b)) (show true = (((!(graphOk g)) || (!(recordOk r))) || (!(isNodeM g r.op))) by first | (rw [hg1] <;> rfl) | (simp [hg1]; done) | (simp only [nat_nlt] <;> simp)), trivial⟩ ⟨E, (by omega), h1, h2⟩))
  ·refine J_gd rfl rfl (R_loadS st63 rfl h2.at rfl) rfl ?_
   refine J_ung rfl rfl ?_
   refine J_call Tryz.call76 rfl (c_RecordOk r _ ) rfl (fun _ w5 e4 hv => ?_)
   subst hv
   replace E := E.trans e4; replace h1 := h1.ext e4; replace h2 := h2.ext e4
   have z4 := e4.size
   refine J_gd rfl rfl (R_not rfl) rfl (J_st (R_pickF rfl rfl) rfl (J_st (R_move rfl) rfl ?_))
   refine J_if (gd := 16) rfl rfl (fun hg2 => ?_) (fun hg2 => ?_)
   ·refine J_gdno rfl rfl rfl rfl (J_gdno rfl rfl rfl rfl (J_gdno rfl rfl rfl rfl ?_))
    refine J_ungno rfl rfl rfl rfl ?_
    refine J_gdno rfl rfl rfl rfl (J_st (R_pickT rfl rfl) rfl (J_cutEnd ⟨rfl, rfl, rfl, rfl, rfl, congrArg (fun b => some (Value.bool b)) (show true = (((!(graphOk g)) || (!(recordOk r))) || (!(isNodeM g r.op))) by first | (rw [hg1, hg2] <;> rfl) | (simp [hg1, hg2]; done) | (simp only [nat_nlt] <;> simp)), trivial⟩ ⟨E, (by omega), h1, h2⟩))
   ·refine J_gd rfl rfl (R_loadS st43 rfl h1.at rfl) rfl (J_gd rfl rfl (R_fieldAddr0 fl63_0 rfl) rfl (J_gd rfl rfl (R_load sc3 rfl (h2.one 0 rfl)) rfl ?_))
    refine J_ung rfl rfl ?_
    refine J_call Tryz.call77 rfl (c_isNode [o1, .int .i64 g.workers, .int .i64 g.cap] g r.op _ (Graph.mkR g (RdD.any (hd1.ext E)))) rfl (fun _ w6 e5 hv => ?_)
    subst hv
    replace E := E.trans e5; replace h1 := h1.ext e5; replace h2 := h2.ext e5
    have z5 := e5.size
    refine J_gd rfl rfl (R_not rfl) rfl (J_st (R_pickF rfl rfl) rfl (J_cutEnd ⟨rfl, rfl, rfl, rfl, rfl, congrArg (fun b => some (Value.bool b)) (show (!(isNodeM g r.op)) = (((!(graphOk g)) || (!(recordOk r))) || (!(isNodeM g r.op))) by first | (rw [hg1, hg2] <;> rfl) | (simp [hg1, hg2]; done) | (simp only [nat_nlt] <;> simp)), trivial⟩ ⟨E, (by omega), h1, h2⟩))
 clear E h1 h2
 rintro w4 ⟨E, z6, h1, h2⟩
 refine J_done ?_
 refine S_cond rfl (fun hc1 => ?_) (fun hc1 => ?_)
 ·refine S_seq ?_
  refine S_reg [true] rfl rfl ?_
  refine J_st (R_assign rfl) rfl (J_done ?_)
  refine S_ret (E_done1 rfl rfl E ?_)
  exact bf fun h => capped_no h hc1
 ·have hq3 := or3 hc1
  have hop := isNode_of hq3.2.2
  refine S_skip ?_
  refine S_seq ?_
  refine S_reg [true, true, true, true, true, true, false, false] rfl rfl ?_
  refine J_st (R_fieldAddr0 fl43_0 rfl) rfl (J_st (R_load sc41 rfl (h1.one 0 rfl)) rfl (J_st (R_fieldAddr0 fl63_0 rfl) rfl (J_st (R_load sc3 rfl (h2.one 0 rfl)) rfl ?_)))
  have hi1 : (Int.toNat r.op) < g.nodes.length := (by first | assumption | omega)
  obtain ⟨_, hr1, ha1⟩ := RdD.get hd1 hi1
  obtain ⟨o2, rfl, hd2⟩ := Node.op hr1
  replace ha1 : At w (sblk o1) (soff o1 + (Int.toNat r.op) * 4) [.int .i64 ((g.nodes[(Int.toNat r.op)]'hi1).kind), .int .i64 ((g.nodes[(Int.toNat r.op)]'hi1).a), .int .i64 ((g.nodes[(Int.toNat r.op)]'hi1).b), o2] := ha1
  refine J_st (R_indexZ (i := (Int.toNat r.op)) sl41 rfl rfl (hd1.ext E).1 (by omega) hi1) rfl (J_st (R_loadS st87 rfl (ha1.ext E) rfl) rfl ?_)
  refine J_alloc st87 rfl (fun b3 w7 e6 s3 h3 => ?_)
  have g_b3 : w.heap.size ≤ b3 := by have := E.size; omega
  have y_b3 := h3.lt
  replace E := E.trans e6; replace h1 := h1.ext e6; replace h2 := h2.ext e6
  have z7 := e6.size
  refine J_storeS' (cs' := [.int .i64 ((g.nodes[(Int.toNat r.op)]'hi1).kind), .int .i64 ((g.nodes[(Int.toNat r.op)]'hi1).a), .int .i64 ((g.nodes[(Int.toNat r.op)]'hi1).b), o2]) st87 rfl rfl rfl (all_cons rfl (all_cons rfl (all_cons rfl (all_cons (RdD.one (hd2.ext E)) rfl)))) h3 (Nat.le_of_ble_eq_true rfl) rfl (fun w8 m1 h3' => ?_)
  replace h3 := h3'
  replace E := E.step m1 (fun g hg => by cases hg; omega); replace h1 := h1.mod m1 (fun g hg => by cases hg; omega); replace h2 := h2.mod m1 (fun g hg => by cases hg; omega)
  have z8 := m1.size
  refine J_done ?_
  refine S_seq ?_
  refine S_reg [true, true, false, true, true, true, false, false, true] rfl rfl ?_
  refine J_st (R_fieldAddr0 fl63_1 rfl) rfl (J_st (R_loadS st61 rfl (h2.part 1 [.int .i64 r.stamp.epoch, .int .i64 r.stamp.turn] rfl) rfl) rfl ?_)
  refine J_call Tryz.call80 rfl (c_NextTurn r.stamp _ ) rfl (fun _ w9 e7 hv => ?_)
  subst hv
  replace E := E.trans e7; replace h1 := h1.ext e7; replace h2 := h2.ext e7; replace h3 := h3.ext e7
  have z9 := e7.size
  refine J_st (R_move rfl) rfl (J_st (R_extract rfl rfl) rfl (J_st (R_extract rfl rfl) rfl ?_))
  refine J_alloc st61 rfl (fun b4 w10 e8 s4 h4 => ?_)
  have g_b4 : w.heap.size ≤ b4 := by have := E.size; omega
  have y_b4 := h4.lt
  replace E := E.trans e8; replace h1 := h1.ext e8; replace h2 := h2.ext e8; replace h3 := h3.ext e8
  have z10 := e8.size
  refine J_storeS' (cs' := [.int .i64 (((nextT r.stamp).1).epoch), .int .i64 (((nextT r.stamp).1).turn)]) st61 rfl rfl rfl rfl h4 (Nat.le_of_ble_eq_true rfl) rfl (fun w11 m2 h4' => ?_)
  replace h4 := h4'
  replace E := E.step m2 (fun g hg => by cases hg; omega); replace h1 := h1.mod m2 (fun g hg => by cases hg; omega); replace h2 := h2.mod m2 (fun g hg => by cases hg; omega); replace h3 := h3.mod m2 (fun g hg => by cases hg; omega)
  have z11 := m2.size
  refine J_st (R_assign rfl) rfl (J_done ?_)
  refine S_seq ?_
  refine S_reg [true, true, true, true, true, true, true, true, true, true, true, true, true, true] rfl rfl ?_
  refine J_st (R_fieldAddr0 fl87_0 rfl) rfl (J_st (R_load sc3 rfl (h3.one 0 rfl)) rfl (J_st (R_eql rfl rfl) rfl (J_st (R_move rfl) rfl ?_)))
  refine J_cut 9 [(0, .agg [o1, .int .i64 g.workers, .int .i64 g.cap].toArray), (1, .agg (Enc.enc r).toArray), (2, .pointer (some ⟨b1, 0, none⟩)), (3, .pointer (some ⟨b2, 0, none⟩)), (4, .bool false), (5, .pointer (some ⟨b3, 0, none⟩)), (6, .pointer (some ⟨b4, 0, none⟩)), (7, .bool ((nextT r.stamp).2)), (22, .bool (((!(graphOk g)) || (!(recordOk r))) || (!(isNodeM g r.op)))), (23, .pointer (some ⟨b1, 0, none⟩)), (24, o1), (25, .pointer (some ⟨b2, 0, none⟩)), (26, .int .i64 r.op), (27, .pointer (some ⟨sblk o1, soff o1 + (Int.toNat r.op) * 4, none⟩)), (28, .agg [.int .i64 ((g.nodes[(Int.toNat r.op)]'hi1).kind), .int .i64 ((g.nodes[(Int.toNat r.op)]'hi1).a), .int .i64 ((g.nodes[(Int.toNat r.op)]'hi1).b), o2].toArray), (29, .tuple [.agg (Enc.enc ((nextT r.stamp).1)).toArray, .bool ((nextT r.stamp).2)].toArray), (30, .pointer (some ⟨b2, 1, none⟩)), (31, .agg (Enc.enc r.stamp).toArray), (32, .tuple [.agg (Enc.enc ((nextT r.stamp).1)).toArray, .bool ((nextT r.stamp).2)].toArray), (33, .agg (Enc.enc ((nextT r.stamp).1)).toArray), (34, .bool ((nextT r.stamp).2)), (47, .bool (((((g.nodes[(Int.toNat r.op)]'hi1).kind) == 7) && (decide (0 < ((((g.nodes[(Int.toNat r.op)]'hi1).outs).length : Nat) : Int)))) && (!((nextT r.stamp).2))))] (fun w' => w11 = w') ?_ ?_
  ·refine J_if (gd := 38) rfl rfl (fun hg3 => ?_) (fun hg3 => ?_)
   ·refine J_gd rfl rfl (R_fieldAddr0 fl87_3 rfl) rfl (J_gd rfl rfl (R_load sc27 rfl (h3.one 3 rfl)) rfl (J_gd rfl rfl (R_len Tryz.underlying27 rfl (hd2.ext E).len) rfl (J_gd rfl rfl (R_gtr rfl rfl) rfl (J_st (R_pickT rfl rfl) rfl (J_st (R_move rfl) rfl ?_)))))
    refine J_if (gd := 44) rfl rfl (fun hg4 => ?_) (fun hg4 => ?_)
    ·have hg4n : ((g.nodes[(Int.toNat r.op)]'hi1).outs).length > 0 := by first | (have h := of_decide_eq_true hg4; omega) | (have h := hg4; simp at h; omega)
     refine J_gd rfl rfl (R_move rfl) rfl (J_gd rfl rfl (R_not rfl) rfl (J_st (R_pickT rfl rfl) rfl (J_cutEnd ⟨rfl, rfl, rfl, rfl, rfl, rfl, rfl, rfl, rfl, rfl, rfl, rfl, rfl, rfl, rfl, rfl, rfl, rfl, rfl, rfl, rfl, congrArg (fun b => some (Value.bool b)) (show (!((nextT r.stamp).2)) = (((((g.nodes[(Int.toNat r.op)]'hi1).kind) == 7) && (decide (0 < ((((g.nodes[(Int.toNat r.op)]'hi1).outs).length : Nat) : Int)))) && (!((nextT r.stamp).2))) by first | (rw [hg3, hg4] <;> rfl) | (simp [hg3, hg4]; done) | (simp only [nat_nlt] <;> simp)), trivial⟩ rfl)))
    ·have hg4n : ¬ ((g.nodes[(Int.toNat r.op)]'hi1).outs).length > 0 := by first | (have h := of_decide_eq_false hg4; omega) | (have h := hg4; simp at h; omega)
     refine J_gdno rfl rfl rfl rfl (J_gdno rfl rfl rfl rfl (J_st (R_pickF rfl rfl) rfl (J_cutEnd ⟨rfl, rfl, rfl, rfl, rfl, rfl, rfl, rfl, rfl, rfl, rfl, rfl, rfl, rfl, rfl, rfl, rfl, rfl, rfl, rfl, rfl, congrArg (fun b => some (Value.bool b)) (show false = (((((g.nodes[(Int.toNat r.op)]'hi1).kind) == 7) && (decide (0 < ((((g.nodes[(Int.toNat r.op)]'hi1).outs).length : Nat) : Int)))) && (!((nextT r.stamp).2))) by first | (rw [hg3, hg4] <;> rfl) | (simp [hg3, hg4]; done) | (simp only [nat_nlt] <;> simp)), trivial⟩ rfl)))
   ·refine J_gdno rfl rfl rfl rfl (J_gdno rfl rfl rfl rfl (J_gdno rfl rfl rfl rfl (J_gdno rfl rfl rfl rfl (J_st (R_pickF rfl rfl) rfl (J_st (R_move rfl) rfl (J_gdno rfl rfl rfl rfl (J_gdno rfl rfl rfl rfl (J_st (R_pickF rfl rfl) rfl (J_cutEnd ⟨rfl, rfl, rfl, rfl, rfl, rfl, rfl, rfl, rfl, rfl, rfl, rfl, rfl, rfl, rfl, rfl, rfl, rfl, rfl, rfl, rfl, congrArg (fun b => some (Value.bool b)) (show false = (((((g.nodes[(Int.toNat r.op)]'hi1).kind) == 7) && (decide (0 < ((((g.nodes[(Int.toNat r.op)]'hi1).outs).length : Nat) : Int)))) && (!((nextT r.stamp).2))) by first | (rw [hg3] <;> rfl) | (simp [hg3]; done) | (simp only [nat_nlt] <;> simp)), trivial⟩ rfl)))))))))
  rintro _ rfl
  refine J_st (R_assign rfl) rfl (J_done ?_)
  refine S_ret (E_done1 rfl rfl E ?_)
  exact congrArg Value.bool (capped_yes hq3 (by omega)).symm

set_option maxRecDepth 20000 in
theorem s_Capped (cg : List Value) (g : Graph) (r : Record) (w : World) (hg : Dat.R w 0 w.heap.size cg g) (hb : cntGraph g ≤ 1048576) : Ct Tryz.prog 25 [.agg cg.toArray, .agg (Enc.enc r).toArray] w (fun v _ => v = .bool (cappedM g r)) := by
 refine ct_of Tryz.func25 rfl Tryz.ntmps25 rfl ?_
 obtain ⟨o1, rfl, hd1⟩ := Graph.op hg
 refine S_sub [(0, .agg [o1, .int .i64 g.workers, .int .i64 g.cap].toArray), (1, .agg (Enc.enc r).toArray)] ⟨rfl, rfl, trivial⟩ ?_
 have E : Ext w w := Ext.refl w
 refine S_seq ?_
 refine S_reg [false, false, true] rfl rfl ?_
 refine J_box rfl rfl (fun b1 w1 e1 s1 h1 => ?_)
 have g_b1 : w.heap.size ≤ b1 := by have := E.size; omega
 have y_b1 := h1.lt
 replace E := E.trans e1
 have z1 := e1.size
 refine J_box rfl rfl (fun b2 w2 e2 s2 h2 => ?_)
 have g_b2 : w.heap.size ≤ b2 := by have := E.size; omega
 have y_b2 := h2.lt
 replace E := E.trans e2; replace h1 := h1.ext e2
 have z2 := e2.size
 refine J_st (R_assign rfl) rfl (J_done ?_)
 refine S_seq ?_
 refine S_reg [true, true, true, false, true, true, true, false, false, true] rfl rfl ?_
 refine J_st (R_loadS st43 rfl h1.at rfl) rfl (J_st (R_fieldAddr0 fl63_0 rfl) rfl (J_st (R_load sc3 rfl (h2.one 0 rfl)) rfl ?_))
 refine J_call Tryz.call59 rfl (s_NodeOf [o1, .int .i64 g.workers, .int .i64 g.cap] g r.op _ (Graph.mkR g (RdD.any (hd1.ext E))) (by first | omega | (simp only [mkL_length]; omega) | (rw [mkL_length]; done) | (simp only [mkL_length]; done))) rfl (fun _ w3 e3 ho1 => ?_)
 obtain ⟨_, rfl, ho2⟩ := ho1
 have g_ho1 : w.heap.size ≤ w2.heap.size := E.size
 replace E := E.trans e3; replace h1 := h1.ext e3; replace h2 := h2.ext e3
 have z3 := e3.size
 obtain ⟨o2, rfl, sp1, hw1⟩ := Node.opO ho2
 refine J_st (R_move rfl) rfl (J_st (R_extract rfl rfl) rfl (J_st (R_extract rfl rfl) rfl ?_))
 refine J_alloc st87 rfl (fun b3 w4 e4 s3 h3 => ?_)
 have g_b3 : w.heap.size ≤ b3 := by have := E.size; omega
 have y_b3 := h3.lt
 replace E := E.trans e4; replace h1 := h1.ext e4; replace h2 := h2.ext e4; replace hw1 := hw1.ext e4
 have z4 := e4.size
 refine J_storeS' (cs' := [.int .i64 (((nodeOf g r.op).1).kind), .int .i64 (((nodeOf g r.op).1).a), .int .i64 (((nodeOf g r.op).1).b), o2]) st87 rfl rfl rfl (all_cons rfl (all_cons rfl (all_cons rfl (all_cons hw1.one rfl)))) h3 (Nat.le_of_ble_eq_true rfl) rfl (fun w5 m1 h3' => ?_)
 replace h3 := h3'
 replace E := E.step m1 (fun g hg => by cases hg; omega); replace h1 := h1.mod m1 (fun g hg => by cases hg; omega); replace h2 := h2.mod m1 (fun g hg => by cases hg; omega); replace hw1 := hw1.mod m1 (fun g hg => by cases hg; omega)
 have z5 := m1.size
 refine J_st (R_assign rfl) rfl (J_done ?_)
 refine S_seq ?_
 refine S_reg [true, true, false, true, true, true, false, false, true] rfl rfl ?_
 refine J_st (R_fieldAddr0 fl63_1 rfl) rfl (J_st (R_loadS st61 rfl (h2.part 1 [.int .i64 r.stamp.epoch, .int .i64 r.stamp.turn] rfl) rfl) rfl ?_)
 refine J_call Tryz.call64 rfl (s_NextTurn r.stamp _ ) rfl (fun _ w6 e5 hv => ?_)
 subst hv
 replace E := E.trans e5; replace h1 := h1.ext e5; replace h2 := h2.ext e5; replace hw1 := hw1.ext e5; replace h3 := h3.ext e5
 have z6 := e5.size
 refine J_st (R_move rfl) rfl (J_st (R_extract rfl rfl) rfl (J_st (R_extract rfl rfl) rfl ?_))
 refine J_alloc st61 rfl (fun b4 w7 e6 s4 h4 => ?_)
 have g_b4 : w.heap.size ≤ b4 := by have := E.size; omega
 have y_b4 := h4.lt
 replace E := E.trans e6; replace h1 := h1.ext e6; replace h2 := h2.ext e6; replace hw1 := hw1.ext e6; replace h3 := h3.ext e6
 have z7 := e6.size
 refine J_storeS' (cs' := [.int .i64 (((nextT r.stamp).1).epoch), .int .i64 (((nextT r.stamp).1).turn)]) st61 rfl rfl rfl rfl h4 (Nat.le_of_ble_eq_true rfl) rfl (fun w8 m2 h4' => ?_)
 replace h4 := h4'
 replace E := E.step m2 (fun g hg => by cases hg; omega); replace h1 := h1.mod m2 (fun g hg => by cases hg; omega); replace h2 := h2.mod m2 (fun g hg => by cases hg; omega); replace hw1 := hw1.mod m2 (fun g hg => by cases hg; omega); replace h3 := h3.mod m2 (fun g hg => by cases hg; omega)
 have z8 := m2.size
 refine J_st (R_assign rfl) rfl (J_done ?_)
 refine S_seq ?_
 refine S_reg [true, true, true, false, true, true, true, false, true, true, true, true, true, true, true, true, true, true, true, true, true, true, true, true, true] rfl rfl ?_
 refine J_st (R_move rfl) rfl (J_st (R_move rfl) rfl ?_)
 refine J_cut 22 [(0, .agg [o1, .int .i64 g.workers, .int .i64 g.cap].toArray), (1, .agg (Enc.enc r).toArray), (2, .pointer (some ⟨b1, 0, none⟩)), (3, .pointer (some ⟨b2, 0, none⟩)), (4, .bool false), (5, .pointer (some ⟨b3, 0, none⟩)), (6, .bool ((nodeOf g r.op).2)), (7, .pointer (some ⟨b4, 0, none⟩)), (8, .bool ((nextT r.stamp).2)), (9, .tuple [.agg [.int .i64 (((nodeOf g r.op).1).kind), .int .i64 (((nodeOf g r.op).1).a), .int .i64 (((nodeOf g r.op).1).b), o2].toArray, .bool ((nodeOf g r.op).2)].toArray), (10, .agg [o1, .int .i64 g.workers, .int .i64 g.cap].toArray), (11, .pointer (some ⟨b2, 0, none⟩)), (12, .int .i64 r.op), (13, .tuple [.agg [.int .i64 (((nodeOf g r.op).1).kind), .int .i64 (((nodeOf g r.op).1).a), .int .i64 (((nodeOf g r.op).1).b), o2].toArray, .bool ((nodeOf g r.op).2)].toArray), (14, .agg [.int .i64 (((nodeOf g r.op).1).kind), .int .i64 (((nodeOf g r.op).1).a), .int .i64 (((nodeOf g r.op).1).b), o2].toArray), (15, .bool ((nodeOf g r.op).2)), (16, .tuple [.agg (Enc.enc ((nextT r.stamp).1)).toArray, .bool ((nextT r.stamp).2)].toArray), (17, .pointer (some ⟨b2, 1, none⟩)), (18, .agg (Enc.enc r.stamp).toArray), (19, .tuple [.agg (Enc.enc ((nextT r.stamp).1)).toArray, .bool ((nextT r.stamp).2)].toArray), (20, .agg (Enc.enc ((nextT r.stamp).1)).toArray), (21, .bool ((nextT r.stamp).2)), (45, .bool (((((((nodeOf g r.op).2) && (graphOk g)) && (recordOk r)) && ((((nodeOf g r.op).1).kind) == 7)) && (decide (0 < (((((nodeOf g r.op).1).outs).length : Nat) : Int)))) && (!((nextT r.stamp).2))))] (fun w' => Ext w w' ∧ w8.heap.size ≤ w'.heap.size ∧ Blk w' b1 ([o1, .int .i64 g.workers, .int .i64 g.cap]) ∧ Blk w' b2 (Enc.enc r) ∧ Own w' w2.heap.size w3.heap.size 1 o2 (List.flatMap (Enc.enc (α := Int)) (((nodeOf g r.op).1).outs)) ∧ Blk w' b3 [.int .i64 (((nodeOf g r.op).1).kind), .int .i64 (((nodeOf g r.op).1).a), .int .i64 (((nodeOf g r.op).1).b), o2] ∧ Blk w' b4 [.int .i64 (((nextT r.stamp).1).epoch), .int .i64 (((nextT r.stamp).1).turn)]) ?_ ?_
 ·refine J_if (gd := 23) rfl rfl (fun hg1 => ?_) (fun hg1 => ?_)
  ·refine J_gd rfl rfl (R_loadS st43 rfl h1.at rfl) rfl ?_
   refine J_ung rfl rfl ?_
   refine J_call Tryz.call22 rfl (s_GraphOk [o1, .int .i64 g.workers, .int .i64 g.cap] g _ (Graph.mkR g (RdD.any (hd1.ext E)))) rfl (fun _ w10 e7 hv => ?_)
   subst hv
   replace E := E.trans e7; replace h1 := h1.ext e7; replace h2 := h2.ext e7; replace hw1 := hw1.ext e7; replace h3 := h3.ext e7; replace h4 := h4.ext e7
   have z9 := e7.size
   refine J_st (R_pickT rfl rfl) rfl (J_st (R_move rfl) rfl ?_)
   refine J_if (gd := 27) rfl rfl (fun hg2 => ?_) (fun hg2 => ?_)
   ·refine J_gd rfl rfl (R_loadS st63 rfl h2.at rfl) rfl ?_
    refine J_ung rfl rfl ?_
    refine J_call Tryz.call60 rfl (s_RecordOk r _ ) rfl (fun _ w11 e8 hv => ?_)
    subst hv
    replace E := E.trans e8; replace h1 := h1.ext e8; replace h2 := h2.ext e8; replace hw1 := hw1.ext e8; replace h3 := h3.ext e8; replace h4 := h4.ext e8
    have z10 := e8.size
    refine J_st (R_pickT rfl rfl) rfl (J_st (R_move rfl) rfl ?_)
    refine J_if (gd := 31) rfl rfl (fun hg3 => ?_) (fun hg3 => ?_)
    ·refine J_gd rfl rfl (R_fieldAddr0 fl87_0 rfl) rfl (J_gd rfl rfl (R_load sc3 rfl (h3.one 0 rfl)) rfl (J_gd rfl rfl (R_eql rfl rfl) rfl (J_st (R_pickT rfl rfl) rfl (J_st (R_move rfl) rfl ?_))))
     refine J_if (gd := 36) rfl rfl (fun hg4 => ?_) (fun hg4 => ?_)
     ·refine J_gd rfl rfl (R_fieldAddr0 fl87_3 rfl) rfl (J_gd rfl rfl (R_load sc27 rfl (h3.one 3 rfl)) rfl (J_gd rfl rfl (R_len Tryz.underlying27 rfl (Own.len (by decide) hw1)) rfl (J_gd rfl rfl (R_gtr rfl rfl) rfl (J_st (R_pickT rfl rfl) rfl (J_st (R_move rfl) rfl ?_)))))
      refine J_if (gd := 42) rfl rfl (fun hg5 => ?_) (fun hg5 => ?_)
      ·have hg5n : (((nodeOf g r.op).1).outs).length > 0 := by first | (have h := of_decide_eq_true hg5; omega) | (have h := hg5; simp at h; omega)
       refine J_gd rfl rfl (R_move rfl) rfl (J_gd rfl rfl (R_not rfl) rfl (J_st (R_pickT rfl rfl) rfl (J_cutEnd ⟨rfl, rfl, rfl, rfl, rfl, rfl, rfl, rfl, rfl, rfl, rfl, rfl, rfl, rfl, rfl, rfl, rfl, rfl, rfl, rfl, rfl, rfl, congrArg (fun b => some (Value.bool b)) (show (!((nextT r.stamp).2)) = (((((((nodeOf g r.op).2) && (graphOk g)) && (recordOk r)) && ((((nodeOf g r.op).1).kind) == 7)) && (decide (0 < (((((nodeOf g r.op).1).outs).length : Nat) : Int)))) && (!((nextT r.stamp).2))) by first | (rw [hg1, hg2, hg3, hg4, hg5] <;> rfl) | (simp [hg1, hg2, hg3, hg4, hg5]; done) | (simp only [nat_nlt] <;> simp)), trivial⟩ ⟨E, (by omega), h1, h2, hw1, h3, h4⟩)))
      ·have hg5n : ¬ (((nodeOf g r.op).1).outs).length > 0 := by first | (have h := of_decide_eq_false hg5; omega) | (have h := hg5; simp at h; omega)
       refine J_gdno rfl rfl rfl rfl (J_gdno rfl rfl rfl rfl (J_st (R_pickF rfl rfl) rfl (J_cutEnd ⟨rfl, rfl, rfl, rfl, rfl, rfl, rfl, rfl, rfl, rfl, rfl, rfl, rfl, rfl, rfl, rfl, rfl, rfl, rfl, rfl, rfl, rfl, congrArg (fun b => some (Value.bool b)) (show false = (((((((nodeOf g r.op).2) && (graphOk g)) && (recordOk r)) && ((((nodeOf g r.op).1).kind) == 7)) && (decide (0 < (((((nodeOf g r.op).1).outs).length : Nat) : Int)))) && (!((nextT r.stamp).2))) by first | (rw [hg1, hg2, hg3, hg4, hg5] <;> rfl) | (simp [hg1, hg2, hg3, hg4, hg5]; done) | (simp only [nat_nlt] <;> simp)), trivial⟩ ⟨E, (by omega), h1, h2, hw1, h3, h4⟩)))
     ·refine J_gdno rfl rfl rfl rfl (J_gdno rfl rfl rfl rfl (J_gdno rfl rfl rfl rfl (J_gdno rfl rfl rfl rfl (J_st (R_pickF rfl rfl) rfl (J_st (R_move rfl) rfl (J_gdno rfl rfl rfl rfl (J_gdno rfl rfl rfl rfl (J_st (R_pickF rfl rfl) rfl (J_cutEnd ⟨rfl, rfl, rfl, rfl, rfl, rfl, rfl, rfl, rfl, rfl, rfl, rfl, rfl, rfl, rfl, rfl, rfl, rfl, rfl, rfl, rfl, rfl, congrArg (fun b => some (Value.bool b)) (show false = (((((((nodeOf g r.op).2) && (graphOk g)) && (recordOk r)) && ((((nodeOf g r.op).1).kind) == 7)) && (decide (0 < (((((nodeOf g r.op).1).outs).length : Nat) : Int)))) && (!((nextT r.stamp).2))) by first | (rw [hg1, hg2, hg3, hg4] <;> rfl) | (simp [hg1, hg2, hg3, hg4]; done) | (simp only [nat_nlt] <;> simp)), trivial⟩ ⟨E, (by omega), h1, h2, hw1, h3, h4⟩)))))))))
    ·refine J_gdno rfl rfl rfl rfl (J_gdno rfl rfl rfl rfl (J_gdno rfl rfl rfl rfl (J_st (R_pickF rfl rfl) rfl (J_st (R_move rfl) rfl (J_gdno rfl rfl rfl rfl (J_gdno rfl rfl rfl rfl (J_gdno rfl rfl rfl rfl (J_gdno rfl rfl rfl rfl (J_st (R_pickF rfl rfl) rfl (J_st (R_move rfl) rfl (J_gdno rfl rfl rfl rfl (J_gdno rfl rfl rfl rfl (J_st (R_pickF rfl rfl) rfl (J_cutEnd ⟨rfl, rfl, rfl, rfl, rfl, rfl, rfl, rfl, rfl, rfl, rfl, rfl, rfl, rfl, rfl, rfl, rfl, rfl, rfl, rfl, rfl, rfl, congrArg (fun b => some (Value.bool b)) (show false = (((((((nodeOf g r.op).2) && (graphOk g)) && (recordOk r)) && ((((nodeOf g r.op).1).kind) == 7)) && (decide (0 < (((((nodeOf g r.op).1).outs).length : Nat) : Int)))) && (!((nextT r.stamp).2))) by first | (rw [hg1, hg2, hg3] <;> rfl) | (simp [hg1, hg2, hg3]; done) | (simp only [nat_nlt] <;> simp)), trivial⟩ ⟨E, (by omega), h1, h2, hw1, h3, h4⟩))))))))))))))
   ·refine J_gdno rfl rfl rfl rfl ?_
    refine J_ungno rfl rfl rfl rfl ?_
    refine J_st (R_pickF rfl rfl) rfl (J_st (R_move rfl) rfl (J_gdno rfl rfl rfl rfl (J_gdno rfl rfl rfl rfl (J_gdno rfl rfl rfl rfl (J_st (R_pickF rfl rfl) rfl (J_st (R_move rfl) rfl (J_gdno rfl rfl rfl rfl (J_gdno rfl rfl rfl rfl (J_gdno rfl rfl rfl rfl (J_gdno rfl rfl rfl rfl (J_st (R_pickF rfl rfl) rfl (J_st (R_move rfl) rfl (J_gdno rfl rfl rfl rfl (J_gdno rfl rfl rfl rfl (J_st (R_pickF rfl rfl) rfl (J_cutEnd ⟨rfl, rfl, rfl, rfl, rfl, rfl, rfl, rfl, rfl, rfl, rfl, rfl, rfl, rfl, rfl, rfl, rfl, rfl, rfl, rfl, rfl, rfl, congrArg (fun b => some (Value.bool b)) (show false = (((((((nodeOf g r.op).2) && (graphOk g)) && (recordOk r)) && ((((nodeOf g r.op).1).kind) == 7)) && (decide (0 < (((((nodeOf g r.op).1).outs).length : Nat) : Int)))) && (!((nextT r.stamp).2))) by first | (rw [hg1, hg2] <;> rfl) | (simp [hg1, hg2]; done) | (simp only [nat_nlt] <;> simp)), trivial⟩ ⟨E, (by omega), h1, h2, hw1, h3, h4⟩))))))))))))))))
  ·refine J_gdno rfl rfl rfl rfl ?_
   refine J_ungno rfl rfl rfl rfl ?_
   refine J_st (R_pickF rfl rfl) rfl (J_st (R_move rfl) rfl (J_gdno rfl rfl rfl rfl ?_))
   refine J_ungno rfl rfl rfl rfl ?_
   refine J_st (R_pickF rfl rfl) rfl (J_st (R_move rfl) rfl (J_gdno rfl rfl rfl rfl (J_gdno rfl rfl rfl rfl (J_gdno rfl rfl rfl rfl (J_st (R_pickF rfl rfl) rfl (J_st (R_move rfl) rfl (J_gdno rfl rfl rfl rfl (J_gdno rfl rfl rfl rfl (J_gdno rfl rfl rfl rfl (J_gdno rfl rfl rfl rfl (J_st (R_pickF rfl rfl) rfl (J_st (R_move rfl) rfl (J_gdno rfl rfl rfl rfl (J_gdno rfl rfl rfl rfl (J_st (R_pickF rfl rfl) rfl (J_cutEnd ⟨rfl, rfl, rfl, rfl, rfl, rfl, rfl, rfl, rfl, rfl, rfl, rfl, rfl, rfl, rfl, rfl, rfl, rfl, rfl, rfl, rfl, rfl, congrArg (fun b => some (Value.bool b)) (show false = (((((((nodeOf g r.op).2) && (graphOk g)) && (recordOk r)) && ((((nodeOf g r.op).1).kind) == 7)) && (decide (0 < (((((nodeOf g r.op).1).outs).length : Nat) : Int)))) && (!((nextT r.stamp).2))) by first | (rw [hg1] <;> rfl) | (simp [hg1]; done) | (simp only [nat_nlt] <;> simp)), trivial⟩ ⟨E, (by omega), h1, h2, hw1, h3, h4⟩))))))))))))))))
 clear E h1 h2 hw1 h3 h4
 rintro w9 ⟨E, z11, h1, h2, hw1, h3, h4⟩
 refine J_st (R_assign rfl) rfl (J_done ?_)
 refine S_ret (E_done1 rfl rfl E ?_)
 rfl

set_option maxRecDepth 20000 in
theorem markRecordS (vxs : Value) (lo hi : Nat) (xs : List Record) (k : Nat) (w : World) (hxs : Own w lo hi 5 vxs (List.flatMap (Enc.enc (α := Record)) xs)) (hb : k + xs.length * 5 ≤ 1099511627776) : CtR Tryz.prog 44 [vxs, .int .i64 ((k : Nat) : Int)] w lo hi (fun v w' => v = .int .i64 ((k + 5 * xs.length : Nat) : Int) ∧ Own w' lo hi 5 vxs (List.flatMap (Enc.enc (α := Record)) (mkL 5 mkRecord k xs.length))) := by
 refine ctR_of Tryz.func44 rfl Tryz.ntmps44 rfl ?_
 refine S_sub [(0, vxs), (1, .int .i64 ((k : Nat) : Int))] ⟨rfl, rfl, trivial⟩ ?_
 have E : ModR w w lo hi := ModR.refl w lo hi
 refine S_seq ?_
 refine S_reg [true] rfl rfl ?_
 refine J_st (R_assign rfl) rfl (J_done ?_)
 refine S_seq ?_
 refine S_seq ?_
 refine S_reg [true] rfl rfl ?_
 refine J_st (R_assign rfl) rfl (J_done ?_)
 refine S_block ?_
 refine S_loop (fun (xq : Nat × Nat × List Record) => let ⟨i, q, bs⟩ := xq; [(0, vxs), (1, .int .i64 ((q : Nat) : Int)), (4, .int .i64 0), (5, .int .i64 ((i : Nat) : Int))]) (fun (xq : Nat × Nat × List Record) w' => let ⟨i, q, bs⟩ := xq; ModR w w' lo hi ∧ w.heap.size ≤ w'.heap.size ∧ i + bs.length = xs.length ∧ q = k + 5 * i ∧ Own w' lo hi 5 vxs (List.flatMap (Enc.enc (α := Record)) (mkL 5 mkRecord k i ++ bs))) (fun (xq : Nat × Nat × List Record) => let ⟨i, q, bs⟩ := xq; xs.length - i) (0, k, xs) ⟨rfl, rfl, rfl, rfl, trivial⟩ ⟨E, Nat.le_refl _, (by simp), (by simp), (by simpa [mkL] using hxs)⟩ ?_
 clear E hxs
 rintro ⟨i, q, bs⟩ w1 ⟨E, z1, hi, hq, hxs⟩
 refine S_sub [(0, vxs), (1, .int .i64 ((q : Nat) : Int)), (4, .int .i64 0), (5, .int .i64 ((i : Nat) : Int))] ⟨rfl, rfl, rfl, rfl, trivial⟩ ?_
 refine S_seq ?_
 refine S_seq ?_
 refine S_reg [true, true, true, true] rfl rfl ?_
 refine J_st (R_move rfl) rfl (J_st (R_move rfl) rfl (J_st (R_len Tryz.underlying34 rfl (Own.lenE (by decide) hxs (by simp only [List.length_append, mkL_length, List.length_cons]; omega))) rfl (J_st (R_lss rfl rfl) rfl (J_done ?_))))
 refine S_cond rfl (fun hc1 => ?_) (fun hc1 => ?_)
 ·rcases bs with _ | ⟨x, bs⟩
  ·exact absurd hi (by have h := hc1; simp at h ⊢; omega)
  simp only [List.length_cons] at hi
  have hc1n : i < xs.length := by first | (have h := of_decide_eq_true hc1; omega) | (have h := hc1; simp at h; omega)
  refine S_skip ?_
  refine S_seq ?_
  refine S_block ?_
  refine S_seq ?_
  refine S_reg [true, true, true, true, true, false] rfl rfl ?_
  refine J_st (R_move rfl) rfl (J_st (R_move rfl) rfl (J_st (R_move rfl) rfl (J_st (R_index sl34 rfl rfl (Own.rd (by decide) hxs) (by simp only [List.length_append, mkL_length, List.length_cons]; omega)) rfl (J_st (R_fieldAddr fl63_0 rfl) rfl ?_))))
  refine J_storeOwn (α := Record) (i := i) (f := 0) (⟨((q : Nat) : Int), x.stamp, x.key, x.val⟩ : Record) sc3 rfl rfl rfl rfl hxs (mkL_length _ _ _ _) (by decide) rfl (fun w2 m1 hxs' => ?_)
  have hq := hxs.blk
  replace hxs := hxs'
  replace E := E.mod m1 (fun g hg => by have := hq g hg; omega)
  have z2 := m1.size
  clear hq
  refine J_done ?_
  refine S_seq ?_
  refine S_reg [true, true, true] rfl rfl ?_
  refine J_st (R_move rfl) rfl (J_st (R_add rfl rfl (add_nat (by unfold maxLen; omega))) rfl (J_st (R_assign rfl) rfl (J_done ?_)))
  refine S_seq ?_
  refine S_reg [true, true, true, true, true, true, false] rfl rfl ?_
  refine J_st (R_move rfl) rfl (J_st (R_move rfl) rfl (J_st (R_move rfl) rfl (J_st (R_index sl34 rfl rfl (Own.rd (by decide) hxs) (by simp only [List.length_append, mkL_length, List.length_cons]; omega)) rfl (J_st (R_fieldAddr fl63_1 rfl) rfl (J_st (R_fieldAddr fl61_0 rfl) rfl ?_)))))
  refine J_storeOwn (α := Record) (i := i) (f := 1) (⟨((q : Nat) : Int), (⟨((q + 1 : Nat) : Int), x.stamp.turn⟩ : Stamp), x.key, x.val⟩ : Record) sc3 rfl rfl rfl rfl hxs (mkL_length _ _ _ _) (by decide) rfl (fun w3 m2 hxs' => ?_)
  have hq := hxs.blk
  replace hxs := hxs'
  replace E := E.mod m2 (fun g hg => by have := hq g hg; omega)
  have z3 := m2.size
  clear hq
  refine J_done ?_
  refine S_seq ?_
  refine S_reg [true, true, true] rfl rfl ?_
  refine J_st (R_move rfl) rfl (J_st (R_add rfl rfl (add_nat (by unfold maxLen; omega))) rfl (J_st (R_assign rfl) rfl (J_done ?_)))
  refine S_seq ?_
  refine S_reg [true, true, true, true, true, true, false] rfl rfl ?_
  refine J_st (R_move rfl) rfl (J_st (R_move rfl) rfl (J_st (R_move rfl) rfl (J_st (R_index sl34 rfl rfl (Own.rd (by decide) hxs) (by simp only [List.length_append, mkL_length, List.length_cons]; omega)) rfl (J_st (R_fieldAddr fl63_1 rfl) rfl (J_st (R_fieldAddr fl61_1 rfl) rfl ?_)))))
  refine J_storeOwn (α := Record) (i := i) (f := 2) (⟨((q : Nat) : Int), (⟨((q + 1 : Nat) : Int), ((q + 1 + 1 : Nat) : Int)⟩ : Stamp), x.key, x.val⟩ : Record) sc3 rfl rfl rfl rfl hxs (mkL_length _ _ _ _) (by decide) rfl (fun w4 m3 hxs' => ?_)
  have hq := hxs.blk
  replace hxs := hxs'
  replace E := E.mod m3 (fun g hg => by have := hq g hg; omega)
  have z4 := m3.size
  clear hq
  refine J_done ?_
  refine S_seq ?_
  refine S_reg [true, true, true] rfl rfl ?_
  refine J_st (R_move rfl) rfl (J_st (R_add rfl rfl (add_nat (by unfold maxLen; omega))) rfl (J_st (R_assign rfl) rfl (J_done ?_)))
  refine S_seq ?_
  refine S_reg [true, true, true, true, true, false] rfl rfl ?_
  refine J_st (R_move rfl) rfl (J_st (R_move rfl) rfl (J_st (R_move rfl) rfl (J_st (R_index sl34 rfl rfl (Own.rd (by decide) hxs) (by simp only [List.length_append, mkL_length, List.length_cons]; omega)) rfl (J_st (R_fieldAddr fl63_2 rfl) rfl ?_))))
  refine J_storeOwn (α := Record) (i := i) (f := 3) (⟨((q : Nat) : Int), (⟨((q + 1 : Nat) : Int), ((q + 1 + 1 : Nat) : Int)⟩ : Stamp), ((q + 1 + 1 + 1 : Nat) : Int), x.val⟩ : Record) sc3 rfl rfl rfl rfl hxs (mkL_length _ _ _ _) (by decide) rfl (fun w5 m4 hxs' => ?_)
  have hq := hxs.blk
  replace hxs := hxs'
  replace E := E.mod m4 (fun g hg => by have := hq g hg; omega)
  have z5 := m4.size
  clear hq
  refine J_done ?_
  refine S_seq ?_
  refine S_reg [true, true, true] rfl rfl ?_
  refine J_st (R_move rfl) rfl (J_st (R_add rfl rfl (add_nat (by unfold maxLen; omega))) rfl (J_st (R_assign rfl) rfl (J_done ?_)))
  refine S_seq ?_
  refine S_reg [true, true, true, true, true, false] rfl rfl ?_
  refine J_st (R_move rfl) rfl (J_st (R_move rfl) rfl (J_st (R_move rfl) rfl (J_st (R_index sl34 rfl rfl (Own.rd (by decide) hxs) (by simp only [List.length_append, mkL_length, List.length_cons]; omega)) rfl (J_st (R_fieldAddr fl63_3 rfl) rfl ?_))))
  refine J_storeOwn (α := Record) (i := i) (f := 4) (⟨((q : Nat) : Int), (⟨((q + 1 : Nat) : Int), ((q + 1 + 1 : Nat) : Int)⟩ : Stamp), ((q + 1 + 1 + 1 : Nat) : Int), ((q + 1 + 1 + 1 + 1 : Nat) : Int)⟩ : Record) sc3 rfl rfl rfl rfl hxs (mkL_length _ _ _ _) (by decide) rfl (fun w6 m5 hxs' => ?_)
  have hq := hxs.blk
  replace hxs := hxs'
  replace E := E.mod m5 (fun g hg => by have := hq g hg; omega)
  have z6 := m5.size
  clear hq
  refine J_done ?_
  refine S_reg [true, true, true] rfl rfl ?_
  refine J_st (R_move rfl) rfl (J_st (R_add rfl rfl (add_nat (by unfold maxLen; omega))) rfl (J_st (R_assign rfl) rfl (J_done ?_)))
  refine S_nil (E_inB ?_)
  refine S_reg [true, true, true] rfl rfl ?_
  refine J_st (R_move rfl) rfl (J_st (R_add rfl rfl (add_nat (by unfold maxLen; omega))) rfl (J_st (R_assign rfl) rfl (J_done ?_)))
  refine S_nil (E_again (i + 1, q + 1 + 1 + 1 + 1 + 1, bs) (by simp; omega) ⟨rfl, rfl, rfl, rfl, trivial⟩ ⟨E, (by omega), (by omega), (by omega), (by subst hq; rw [← mkL_succ]; exact hxs)⟩)
 ·have hc1n : ¬ i < xs.length := by first | (have h := of_decide_eq_false hc1; omega) | (have h := hc1; simp at h; omega)
  refine S_exit (E_lp_exit (E_inB_exit ?_))
  refine S_seq ?_
  refine S_reg [true, true] rfl rfl ?_
  refine J_st (R_move rfl) rfl (J_st (R_assign rfl) rfl (J_done ?_))
  refine S_ret (E_done1 rfl rfl E ?_)
  exact ⟨by subst hq; rw [show i = xs.length from by omega], by obtain rfl : bs = [] := List.eq_nil_of_length_eq_zero (by omega); rw [show xs.length = i from by simp at hi; omega]; simpa using hxs⟩

set_option maxRecDepth 20000 in
theorem heldRecordS (vxs : Value) (xs : List Record) (k : Nat) (w : World) (hxs : RdS w vxs xs) (hm : xs = mkL 5 mkRecord k xs.length) (hb : k + xs.length * 5 ≤ 1099511627776) : Ct Tryz.prog 49 [vxs, .int .i64 ((k : Nat) : Int)] w (fun v _ => v = .int .i64 ((k + 5 * xs.length : Nat) : Int)) := by
 refine ct_of Tryz.func49 rfl Tryz.ntmps49 rfl ?_
 refine S_sub [(0, vxs), (1, .int .i64 ((k : Nat) : Int))] ⟨rfl, rfl, trivial⟩ ?_
 have E : Ext w w := Ext.refl w
 refine S_seq ?_
 refine S_reg [true] rfl rfl ?_
 refine J_st (R_assign rfl) rfl (J_done ?_)
 refine S_seq ?_
 refine S_seq ?_
 refine S_reg [true] rfl rfl ?_
 refine J_st (R_assign rfl) rfl (J_done ?_)
 refine S_block ?_
 refine S_loop (fun (xq : Nat × Nat) => let ⟨i, q⟩ := xq; [(0, vxs), (1, .int .i64 ((q : Nat) : Int)), (4, .int .i64 0), (5, .int .i64 ((i : Nat) : Int))]) (fun (xq : Nat × Nat) w' => let ⟨i, q⟩ := xq; Ext w w' ∧ w.heap.size ≤ w'.heap.size ∧ i ≤ xs.length ∧ q = k + 5 * i) (fun (xq : Nat × Nat) => let ⟨i, q⟩ := xq; xs.length - i) (0, k) ⟨rfl, rfl, rfl, rfl, trivial⟩ ⟨E, Nat.le_refl _, Nat.zero_le _, (by simp)⟩ ?_
 clear E
 rintro ⟨i, q⟩ w1 ⟨E, z1, hi, hq⟩
 refine S_sub [(0, vxs), (1, .int .i64 ((q : Nat) : Int)), (4, .int .i64 0), (5, .int .i64 ((i : Nat) : Int))] ⟨rfl, rfl, rfl, rfl, trivial⟩ ?_
 refine S_seq ?_
 refine S_seq ?_
 refine S_reg [true, true, true, true] rfl rfl ?_
 refine J_st (R_move rfl) rfl (J_st (R_move rfl) rfl (J_st (R_len Tryz.underlying34 rfl (hxs.ext E).len) rfl (J_st (R_lss rfl rfl) rfl (J_done ?_))))
 refine S_cond rfl (fun hc1 => ?_) (fun hc1 => ?_)
 ·have hc1n : i < xs.length := by first | (have h := of_decide_eq_true hc1; omega) | (have h := hc1; simp at h; omega)
  refine S_skip ?_
  refine S_seq ?_
  refine S_block ?_
  refine S_seq ?_
  refine S_seq ?_
  refine S_reg [true, true, true, true, true, true, true] rfl rfl ?_
  refine J_st (R_move rfl) rfl (J_st (R_move rfl) rfl ?_)
  have hi1 : i < xs.length := (by first | assumption | omega)
  refine J_st (R_index (i := i) sl34 rfl rfl (hxs.ext E) hi1) rfl (J_st (R_fieldAddr fl63_0 rfl) rfl (J_st (R_load sc3 rfl (((hxs.ext E).get hi1).one 0 rfl)) rfl (J_st (R_move rfl) rfl (J_st (R_neq rfl rfl) rfl (J_done ?_)))))
  refine S_condFe rfl (by subst hq; rw [mkL_at hm (by omega)]; simp [mkRecord]) ?_
  refine S_skip ?_
  refine S_seq ?_
  refine S_reg [true, true, true] rfl rfl ?_
  refine J_st (R_move rfl) rfl (J_st (R_add rfl rfl (add_nat (by unfold maxLen; omega))) rfl (J_st (R_assign rfl) rfl (J_done ?_)))
  refine S_seq ?_
  refine S_seq ?_
  refine S_reg [true, true, true, true, true, true, true, true] rfl rfl ?_
  refine J_st (R_move rfl) rfl (J_st (R_move rfl) rfl (J_st (R_index (i := i) sl34 rfl rfl (hxs.ext E) hi1) rfl (J_st (R_fieldAddr fl63_1 rfl) rfl (J_st (R_fieldAddr fl61_0 rfl) rfl (J_st (R_load sc3 rfl (((hxs.ext E).get hi1).one 1 rfl)) rfl (J_st (R_move rfl) rfl (J_st (R_neq rfl rfl) rfl (J_done ?_))))))))
  refine S_condFe rfl (by subst hq; rw [mkL_at hm (by omega)]; simp [mkRecord]) ?_
  refine S_skip ?_
  refine S_seq ?_
  refine S_reg [true, true, true] rfl rfl ?_
  refine J_st (R_move rfl) rfl (J_st (R_add rfl rfl (add_nat (by unfold maxLen; omega))) rfl (J_st (R_assign rfl) rfl (J_done ?_)))
  refine S_seq ?_
  refine S_seq ?_
  refine S_reg [true, true, true, true, true, true, true, true] rfl rfl ?_
  refine J_st (R_move rfl) rfl (J_st (R_move rfl) rfl (J_st (R_index (i := i) sl34 rfl rfl (hxs.ext E) hi1) rfl (J_st (R_fieldAddr fl63_1 rfl) rfl (J_st (R_fieldAddr fl61_1 rfl) rfl (J_st (R_load sc3 rfl (((hxs.ext E).get hi1).one 2 rfl)) rfl (J_st (R_move rfl) rfl (J_st (R_neq rfl rfl) rfl (J_done ?_))))))))
  refine S_condFe rfl (by subst hq; rw [mkL_at hm (by omega)]; simp [mkRecord]) ?_
  refine S_skip ?_
  refine S_seq ?_
  refine S_reg [true, true, true] rfl rfl ?_
  refine J_st (R_move rfl) rfl (J_st (R_add rfl rfl (add_nat (by unfold maxLen; omega))) rfl (J_st (R_assign rfl) rfl (J_done ?_)))
  refine S_seq ?_
  refine S_seq ?_
  refine S_reg [true, true, true, true, true, true, true] rfl rfl ?_
  refine J_st (R_move rfl) rfl (J_st (R_move rfl) rfl (J_st (R_index (i := i) sl34 rfl rfl (hxs.ext E) hi1) rfl (J_st (R_fieldAddr fl63_2 rfl) rfl (J_st (R_load sc3 rfl (((hxs.ext E).get hi1).one 3 rfl)) rfl (J_st (R_move rfl) rfl (J_st (R_neq rfl rfl) rfl (J_done ?_)))))))
  refine S_condFe rfl (by subst hq; rw [mkL_at hm (by omega)]; simp [mkRecord]) ?_
  refine S_skip ?_
  refine S_seq ?_
  refine S_reg [true, true, true] rfl rfl ?_
  refine J_st (R_move rfl) rfl (J_st (R_add rfl rfl (add_nat (by unfold maxLen; omega))) rfl (J_st (R_assign rfl) rfl (J_done ?_)))
  refine S_seq ?_
  refine S_seq ?_
  refine S_reg [true, true, true, true, true, true, true] rfl rfl ?_
  refine J_st (R_move rfl) rfl (J_st (R_move rfl) rfl (J_st (R_index (i := i) sl34 rfl rfl (hxs.ext E) hi1) rfl (J_st (R_fieldAddr fl63_3 rfl) rfl (J_st (R_load sc3 rfl (((hxs.ext E).get hi1).one 4 rfl)) rfl (J_st (R_move rfl) rfl (J_st (R_neq rfl rfl) rfl (J_done ?_)))))))
  refine S_condFe rfl (by subst hq; rw [mkL_at hm (by omega)]; simp [mkRecord]) ?_
  refine S_skip ?_
  refine S_reg [true, true, true] rfl rfl ?_
  refine J_st (R_move rfl) rfl (J_st (R_add rfl rfl (add_nat (by unfold maxLen; omega))) rfl (J_st (R_assign rfl) rfl (J_done ?_)))
  refine S_nil (E_inB ?_)
  refine S_reg [true, true, true] rfl rfl ?_
  refine J_st (R_move rfl) rfl (J_st (R_add rfl rfl (add_nat (by unfold maxLen; omega))) rfl (J_st (R_assign rfl) rfl (J_done ?_)))
  refine S_nil (E_again (i + 1, q + 1 + 1 + 1 + 1 + 1) (by simp; omega) ⟨rfl, rfl, rfl, rfl, trivial⟩ ⟨E, (by omega), (by omega), (by omega)⟩)
 ·have hc1n : ¬ i < xs.length := by first | (have h := of_decide_eq_false hc1; omega) | (have h := hc1; simp at h; omega)
  refine S_exit (E_lp_exit (E_inB_exit ?_))
  refine S_seq ?_
  refine S_reg [true, true] rfl rfl ?_
  refine J_st (R_move rfl) rfl (J_st (R_assign rfl) rfl (J_done ?_))
  refine S_ret (E_done1 rfl rfl E ?_)
  subst hq; rw [show i = xs.length from by omega]

set_option maxRecDepth 20000 in
theorem markIntS (vxs : Value) (lo hi : Nat) (xs : List Int) (k : Nat) (w : World) (hxs : Own w lo hi 1 vxs (List.flatMap (Enc.enc (α := Int)) xs)) (hb : k + xs.length * 1 ≤ 1099511627776) : CtR Tryz.prog 46 [vxs, .int .i64 ((k : Nat) : Int)] w lo hi (fun v w' => v = .int .i64 ((k + 1 * xs.length : Nat) : Int) ∧ Own w' lo hi 1 vxs (List.flatMap (Enc.enc (α := Int)) (mkL 1 mkInt k xs.length))) := by
 refine ctR_of Tryz.func46 rfl Tryz.ntmps46 rfl ?_
 refine S_sub [(0, vxs), (1, .int .i64 ((k : Nat) : Int))] ⟨rfl, rfl, trivial⟩ ?_
 have E : ModR w w lo hi := ModR.refl w lo hi
 refine S_seq ?_
 refine S_reg [true] rfl rfl ?_
 refine J_st (R_assign rfl) rfl (J_done ?_)
 refine S_seq ?_
 refine S_seq ?_
 refine S_reg [true] rfl rfl ?_
 refine J_st (R_assign rfl) rfl (J_done ?_)
 refine S_block ?_
 refine S_loop (fun (xq : Nat × Nat × List Int) => let ⟨i, q, bs⟩ := xq; [(0, vxs), (1, .int .i64 ((q : Nat) : Int)), (4, .int .i64 0), (5, .int .i64 ((i : Nat) : Int))]) (fun (xq : Nat × Nat × List Int) w' => let ⟨i, q, bs⟩ := xq; ModR w w' lo hi ∧ w.heap.size ≤ w'.heap.size ∧ i + bs.length = xs.length ∧ q = k + 1 * i ∧ Own w' lo hi 1 vxs (List.flatMap (Enc.enc (α := Int)) (mkL 1 mkInt k i ++ bs))) (fun (xq : Nat × Nat × List Int) => let ⟨i, q, bs⟩ := xq; xs.length - i) (0, k, xs) ⟨rfl, rfl, rfl, rfl, trivial⟩ ⟨E, Nat.le_refl _, (by simp), (by simp), (by simpa [mkL] using hxs)⟩ ?_
 clear E hxs
 rintro ⟨i, q, bs⟩ w1 ⟨E, z1, hi, hq, hxs⟩
 refine S_sub [(0, vxs), (1, .int .i64 ((q : Nat) : Int)), (4, .int .i64 0), (5, .int .i64 ((i : Nat) : Int))] ⟨rfl, rfl, rfl, rfl, trivial⟩ ?_
 refine S_seq ?_
 refine S_seq ?_
 refine S_reg [true, true, true, true] rfl rfl ?_
 refine J_st (R_move rfl) rfl (J_st (R_move rfl) rfl (J_st (R_len Tryz.underlying27 rfl (Own.lenE (by decide) hxs (by simp only [List.length_append, mkL_length, List.length_cons]; omega))) rfl (J_st (R_lss rfl rfl) rfl (J_done ?_))))
 refine S_cond rfl (fun hc1 => ?_) (fun hc1 => ?_)
 ·rcases bs with _ | ⟨x, bs⟩
  ·exact absurd hi (by have h := hc1; simp at h ⊢; omega)
  simp only [List.length_cons] at hi
  have hc1n : i < xs.length := by first | (have h := of_decide_eq_true hc1; omega) | (have h := hc1; simp at h; omega)
  refine S_skip ?_
  refine S_seq ?_
  refine S_block ?_
  refine S_seq ?_
  refine S_reg [true, true, true, true, false] rfl rfl ?_
  refine J_st (R_move rfl) rfl (J_st (R_move rfl) rfl (J_st (R_move rfl) rfl (J_st (R_index sl27 rfl rfl (Own.rd (by decide) hxs) (by simp only [List.length_append, mkL_length, List.length_cons]; omega)) rfl ?_)))
  refine J_storeOwn (α := Int) (i := i) (f := 0) ((q : Nat) : Int) sc3 rfl rfl rfl rfl hxs (mkL_length _ _ _ _) (by decide) rfl (fun w2 m1 hxs' => ?_)
  have hq := hxs.blk
  replace hxs := hxs'
  replace E := E.mod m1 (fun g hg => by have := hq g hg; omega)
  have z2 := m1.size
  clear hq
  refine J_done ?_
  refine S_reg [true, true, true] rfl rfl ?_
  refine J_st (R_move rfl) rfl (J_st (R_add rfl rfl (add_nat (by unfold maxLen; omega))) rfl (J_st (R_assign rfl) rfl (J_done ?_)))
  refine S_nil (E_inB ?_)
  refine S_reg [true, true, true] rfl rfl ?_
  refine J_st (R_move rfl) rfl (J_st (R_add rfl rfl (add_nat (by unfold maxLen; omega))) rfl (J_st (R_assign rfl) rfl (J_done ?_)))
  refine S_nil (E_again (i + 1, q + 1, bs) (by simp; omega) ⟨rfl, rfl, rfl, rfl, trivial⟩ ⟨E, (by omega), (by omega), (by omega), (by subst hq; rw [← mkL_succ]; exact hxs)⟩)
 ·have hc1n : ¬ i < xs.length := by first | (have h := of_decide_eq_false hc1; omega) | (have h := hc1; simp at h; omega)
  refine S_exit (E_lp_exit (E_inB_exit ?_))
  refine S_seq ?_
  refine S_reg [true, true] rfl rfl ?_
  refine J_st (R_move rfl) rfl (J_st (R_assign rfl) rfl (J_done ?_))
  refine S_ret (E_done1 rfl rfl E ?_)
  exact ⟨by subst hq; rw [show i = xs.length from by omega], by obtain rfl : bs = [] := List.eq_nil_of_length_eq_zero (by omega); rw [show xs.length = i from by simp at hi; omega]; simpa using hxs⟩

set_option maxRecDepth 20000 in
theorem heldIntS (vxs : Value) (xs : List Int) (k : Nat) (w : World) (hxs : RdS w vxs xs) (hm : xs = mkL 1 mkInt k xs.length) (hb : k + xs.length * 1 ≤ 1099511627776) : Ct Tryz.prog 51 [vxs, .int .i64 ((k : Nat) : Int)] w (fun v _ => v = .int .i64 ((k + 1 * xs.length : Nat) : Int)) := by
 refine ct_of Tryz.func51 rfl Tryz.ntmps51 rfl ?_
 refine S_sub [(0, vxs), (1, .int .i64 ((k : Nat) : Int))] ⟨rfl, rfl, trivial⟩ ?_
 have E : Ext w w := Ext.refl w
 refine S_seq ?_
 refine S_reg [true] rfl rfl ?_
 refine J_st (R_assign rfl) rfl (J_done ?_)
 refine S_seq ?_
 refine S_seq ?_
 refine S_reg [true] rfl rfl ?_
 refine J_st (R_assign rfl) rfl (J_done ?_)
 refine S_block ?_
 refine S_loop (fun (xq : Nat × Nat) => let ⟨i, q⟩ := xq; [(0, vxs), (1, .int .i64 ((q : Nat) : Int)), (4, .int .i64 0), (5, .int .i64 ((i : Nat) : Int))]) (fun (xq : Nat × Nat) w' => let ⟨i, q⟩ := xq; Ext w w' ∧ w.heap.size ≤ w'.heap.size ∧ i ≤ xs.length ∧ q = k + 1 * i) (fun (xq : Nat × Nat) => let ⟨i, q⟩ := xq; xs.length - i) (0, k) ⟨rfl, rfl, rfl, rfl, trivial⟩ ⟨E, Nat.le_refl _, Nat.zero_le _, (by simp)⟩ ?_
 clear E
 rintro ⟨i, q⟩ w1 ⟨E, z1, hi, hq⟩
 refine S_sub [(0, vxs), (1, .int .i64 ((q : Nat) : Int)), (4, .int .i64 0), (5, .int .i64 ((i : Nat) : Int))] ⟨rfl, rfl, rfl, rfl, trivial⟩ ?_
 refine S_seq ?_
 refine S_seq ?_
 refine S_reg [true, true, true, true] rfl rfl ?_
 refine J_st (R_move rfl) rfl (J_st (R_move rfl) rfl (J_st (R_len Tryz.underlying27 rfl (hxs.ext E).len) rfl (J_st (R_lss rfl rfl) rfl (J_done ?_))))
 refine S_cond rfl (fun hc1 => ?_) (fun hc1 => ?_)
 ·have hc1n : i < xs.length := by first | (have h := of_decide_eq_true hc1; omega) | (have h := hc1; simp at h; omega)
  refine S_skip ?_
  refine S_seq ?_
  refine S_block ?_
  refine S_seq ?_
  refine S_seq ?_
  refine S_reg [true, true, true, true, true, true] rfl rfl ?_
  refine J_st (R_move rfl) rfl (J_st (R_move rfl) rfl ?_)
  have hi1 : i < xs.length := (by first | assumption | omega)
  refine J_st (R_index (i := i) sl27 rfl rfl (hxs.ext E) hi1) rfl (J_st (R_load sc3 rfl (((hxs.ext E).get hi1).one 0 rfl)) rfl (J_st (R_move rfl) rfl (J_st (R_neq rfl rfl) rfl (J_done ?_))))
  refine S_condFe rfl (by subst hq; rw [mkL_at hm (by omega)]; simp [mkInt]) ?_
  refine S_skip ?_
  refine S_reg [true, true, true] rfl rfl ?_
  refine J_st (R_move rfl) rfl (J_st (R_add rfl rfl (add_nat (by unfold maxLen; omega))) rfl (J_st (R_assign rfl) rfl (J_done ?_)))
  refine S_nil (E_inB ?_)
  refine S_reg [true, true, true] rfl rfl ?_
  refine J_st (R_move rfl) rfl (J_st (R_add rfl rfl (add_nat (by unfold maxLen; omega))) rfl (J_st (R_assign rfl) rfl (J_done ?_)))
  refine S_nil (E_again (i + 1, q + 1) (by simp; omega) ⟨rfl, rfl, rfl, rfl, trivial⟩ ⟨E, (by omega), (by omega), (by omega)⟩)
 ·have hc1n : ¬ i < xs.length := by first | (have h := of_decide_eq_false hc1; omega) | (have h := hc1; simp at h; omega)
  refine S_exit (E_lp_exit (E_inB_exit ?_))
  refine S_seq ?_
  refine S_reg [true, true] rfl rfl ?_
  refine J_st (R_move rfl) rfl (J_st (R_assign rfl) rfl (J_done ?_))
  refine S_ret (E_done1 rfl rfl E ?_)
  subst hq; rw [show i = xs.length from by omega]

set_option maxRecDepth 20000 in
theorem markBoolS (vxs : Value) (lo hi : Nat) (xs : List Bool) (k : Nat) (w : World) (hxs : Own w lo hi 1 vxs (List.flatMap (Enc.enc (α := Bool)) xs)) (hb : k + xs.length * 1 ≤ 1099511627776) : CtR Tryz.prog 47 [vxs, .int .i64 ((k : Nat) : Int)] w lo hi (fun v w' => v = .int .i64 ((k + 1 * xs.length : Nat) : Int) ∧ Own w' lo hi 1 vxs (List.flatMap (Enc.enc (α := Bool)) (mkL 1 mkBool k xs.length))) := by
 refine ctR_of Tryz.func47 rfl Tryz.ntmps47 rfl ?_
 refine S_sub [(0, vxs), (1, .int .i64 ((k : Nat) : Int))] ⟨rfl, rfl, trivial⟩ ?_
 have E : ModR w w lo hi := ModR.refl w lo hi
 refine S_seq ?_
 refine S_reg [true] rfl rfl ?_
 refine J_st (R_assign rfl) rfl (J_done ?_)
 refine S_seq ?_
 refine S_seq ?_
 refine S_reg [true] rfl rfl ?_
 refine J_st (R_assign rfl) rfl (J_done ?_)
 refine S_block ?_
 refine S_loop (fun (xq : Nat × Nat × List Bool) => let ⟨i, q, bs⟩ := xq; [(0, vxs), (1, .int .i64 ((q : Nat) : Int)), (4, .int .i64 0), (5, .int .i64 ((i : Nat) : Int))]) (fun (xq : Nat × Nat × List Bool) w' => let ⟨i, q, bs⟩ := xq; ModR w w' lo hi ∧ w.heap.size ≤ w'.heap.size ∧ i + bs.length = xs.length ∧ q = k + 1 * i ∧ Own w' lo hi 1 vxs (List.flatMap (Enc.enc (α := Bool)) (mkL 1 mkBool k i ++ bs))) (fun (xq : Nat × Nat × List Bool) => let ⟨i, q, bs⟩ := xq; xs.length - i) (0, k, xs) ⟨rfl, rfl, rfl, rfl, trivial⟩ ⟨E, Nat.le_refl _, (by simp), (by simp), (by simpa [mkL] using hxs)⟩ ?_
 clear E hxs
 rintro ⟨i, q, bs⟩ w1 ⟨E, z1, hi, hq, hxs⟩
 refine S_sub [(0, vxs), (1, .int .i64 ((q : Nat) : Int)), (4, .int .i64 0), (5, .int .i64 ((i : Nat) : Int))] ⟨rfl, rfl, rfl, rfl, trivial⟩ ?_
 refine S_seq ?_
 refine S_seq ?_
 refine S_reg [true, true, true, true] rfl rfl ?_
 refine J_st (R_move rfl) rfl (J_st (R_move rfl) rfl (J_st (R_len Tryz.underlying28 rfl (Own.lenE (by decide) hxs (by simp only [List.length_append, mkL_length, List.length_cons]; omega))) rfl (J_st (R_lss rfl rfl) rfl (J_done ?_))))
 refine S_cond rfl (fun hc1 => ?_) (fun hc1 => ?_)
 ·rcases bs with _ | ⟨x, bs⟩
  ·exact absurd hi (by have h := hc1; simp at h ⊢; omega)
  simp only [List.length_cons] at hi
  have hc1n : i < xs.length := by first | (have h := of_decide_eq_true hc1; omega) | (have h := hc1; simp at h; omega)
  refine S_skip ?_
  refine S_seq ?_
  refine S_block ?_
  refine S_seq ?_
  refine S_reg [true, true, true, true, true, true, false] rfl rfl ?_
  refine J_st (R_move rfl) rfl (J_st (R_move rfl) rfl (J_st (R_move rfl) rfl (J_st (R_rem rfl rfl (by decide) rfl) rfl (J_st (R_eql rfl rfl) rfl (J_st (R_index sl28 rfl rfl (Own.rd (by decide) hxs) (by simp only [List.length_append, mkL_length, List.length_cons]; omega)) rfl ?_)))))
  refine J_storeOwn (α := Bool) (i := i) (f := 0) ((Int.tmod ((q : Nat) : Int) 3) == 0) sc4 rfl rfl rfl rfl hxs (mkL_length _ _ _ _) (by decide) rfl (fun w2 m1 hxs' => ?_)
  have hq := hxs.blk
  replace hxs := hxs'
  replace E := E.mod m1 (fun g hg => by have := hq g hg; omega)
  have z2 := m1.size
  clear hq
  refine J_done ?_
  refine S_reg [true, true, true] rfl rfl ?_
  refine J_st (R_move rfl) rfl (J_st (R_add rfl rfl (add_nat (by unfold maxLen; omega))) rfl (J_st (R_assign rfl) rfl (J_done ?_)))
  refine S_nil (E_inB ?_)
  refine S_reg [true, true, true] rfl rfl ?_
  refine J_st (R_move rfl) rfl (J_st (R_add rfl rfl (add_nat (by unfold maxLen; omega))) rfl (J_st (R_assign rfl) rfl (J_done ?_)))
  refine S_nil (E_again (i + 1, q + 1, bs) (by simp; omega) ⟨rfl, rfl, rfl, rfl, trivial⟩ ⟨E, (by omega), (by omega), (by omega), (by subst hq; rw [← mkL_succ]; exact hxs)⟩)
 ·have hc1n : ¬ i < xs.length := by first | (have h := of_decide_eq_false hc1; omega) | (have h := hc1; simp at h; omega)
  refine S_exit (E_lp_exit (E_inB_exit ?_))
  refine S_seq ?_
  refine S_reg [true, true] rfl rfl ?_
  refine J_st (R_move rfl) rfl (J_st (R_assign rfl) rfl (J_done ?_))
  refine S_ret (E_done1 rfl rfl E ?_)
  exact ⟨by subst hq; rw [show i = xs.length from by omega], by obtain rfl : bs = [] := List.eq_nil_of_length_eq_zero (by omega); rw [show xs.length = i from by simp at hi; omega]; simpa using hxs⟩

set_option maxRecDepth 20000 in
theorem heldBoolS (vxs : Value) (xs : List Bool) (k : Nat) (w : World) (hxs : RdS w vxs xs) (hm : xs = mkL 1 mkBool k xs.length) (hb : k + xs.length * 1 ≤ 1099511627776) : Ct Tryz.prog 52 [vxs, .int .i64 ((k : Nat) : Int)] w (fun v _ => v = .int .i64 ((k + 1 * xs.length : Nat) : Int)) := by
 refine ct_of Tryz.func52 rfl Tryz.ntmps52 rfl ?_
 refine S_sub [(0, vxs), (1, .int .i64 ((k : Nat) : Int))] ⟨rfl, rfl, trivial⟩ ?_
 have E : Ext w w := Ext.refl w
 refine S_seq ?_
 refine S_reg [true] rfl rfl ?_
 refine J_st (R_assign rfl) rfl (J_done ?_)
 refine S_seq ?_
 refine S_seq ?_
 refine S_reg [true] rfl rfl ?_
 refine J_st (R_assign rfl) rfl (J_done ?_)
 refine S_block ?_
 refine S_loop (fun (xq : Nat × Nat) => let ⟨i, q⟩ := xq; [(0, vxs), (1, .int .i64 ((q : Nat) : Int)), (4, .int .i64 0), (5, .int .i64 ((i : Nat) : Int))]) (fun (xq : Nat × Nat) w' => let ⟨i, q⟩ := xq; Ext w w' ∧ w.heap.size ≤ w'.heap.size ∧ i ≤ xs.length ∧ q = k + 1 * i) (fun (xq : Nat × Nat) => let ⟨i, q⟩ := xq; xs.length - i) (0, k) ⟨rfl, rfl, rfl, rfl, trivial⟩ ⟨E, Nat.le_refl _, Nat.zero_le _, (by simp)⟩ ?_
 clear E
 rintro ⟨i, q⟩ w1 ⟨E, z1, hi, hq⟩
 refine S_sub [(0, vxs), (1, .int .i64 ((q : Nat) : Int)), (4, .int .i64 0), (5, .int .i64 ((i : Nat) : Int))] ⟨rfl, rfl, rfl, rfl, trivial⟩ ?_
 refine S_seq ?_
 refine S_seq ?_
 refine S_reg [true, true, true, true] rfl rfl ?_
 refine J_st (R_move rfl) rfl (J_st (R_move rfl) rfl (J_st (R_len Tryz.underlying28 rfl (hxs.ext E).len) rfl (J_st (R_lss rfl rfl) rfl (J_done ?_))))
 refine S_cond rfl (fun hc1 => ?_) (fun hc1 => ?_)
 ·have hc1n : i < xs.length := by first | (have h := of_decide_eq_true hc1; omega) | (have h := hc1; simp at h; omega)
  refine S_skip ?_
  refine S_seq ?_
  refine S_block ?_
  refine S_seq ?_
  refine S_seq ?_
  refine S_reg [true, true, true, true, true, true, true, true] rfl rfl ?_
  refine J_st (R_move rfl) rfl (J_st (R_move rfl) rfl ?_)
  have hi1 : i < xs.length := (by first | assumption | omega)
  refine J_st (R_index (i := i) sl28 rfl rfl (hxs.ext E) hi1) rfl (J_st (R_load sc4 rfl (((hxs.ext E).get hi1).one 0 rfl)) rfl (J_st (R_move rfl) rfl (J_st (R_rem rfl rfl (by decide) rfl) rfl (J_st (R_eql rfl rfl) rfl (J_st (R_neqB (Tryz.underlying4) rfl rfl) rfl (J_done ?_))))))
  refine S_condFe rfl (by subst hq; rw [mkL_at hm (by omega)]; simp [mkBool]) ?_
  refine S_skip ?_
  refine S_reg [true, true, true] rfl rfl ?_
  refine J_st (R_move rfl) rfl (J_st (R_add rfl rfl (add_nat (by unfold maxLen; omega))) rfl (J_st (R_assign rfl) rfl (J_done ?_)))
  refine S_nil (E_inB ?_)
  refine S_reg [true, true, true] rfl rfl ?_
  refine J_st (R_move rfl) rfl (J_st (R_add rfl rfl (add_nat (by unfold maxLen; omega))) rfl (J_st (R_assign rfl) rfl (J_done ?_)))
  refine S_nil (E_again (i + 1, q + 1) (by simp; omega) ⟨rfl, rfl, rfl, rfl, trivial⟩ ⟨E, (by omega), (by omega), (by omega)⟩)
 ·have hc1n : ¬ i < xs.length := by first | (have h := of_decide_eq_false hc1; omega) | (have h := hc1; simp at h; omega)
  refine S_exit (E_lp_exit (E_inB_exit ?_))
  refine S_seq ?_
  refine S_reg [true, true] rfl rfl ?_
  refine J_st (R_move rfl) rfl (J_st (R_assign rfl) rfl (J_done ?_))
  refine S_ret (E_done1 rfl rfl E ?_)
  subst hq; rw [show i = xs.length from by omega]

set_option maxRecDepth 20000 in
theorem markDoneS (vxs : Value) (lo hi : Nat) (xs : List Done) (k : Nat) (w : World) (hxs : Own w lo hi 2 vxs (List.flatMap (Enc.enc (α := Done)) xs)) (hb : k + xs.length * 2 ≤ 1099511627776) : CtR Tryz.prog 48 [vxs, .int .i64 ((k : Nat) : Int)] w lo hi (fun v w' => v = .int .i64 ((k + 2 * xs.length : Nat) : Int) ∧ Own w' lo hi 2 vxs (List.flatMap (Enc.enc (α := Done)) (mkL 2 mkDone k xs.length))) := by
 refine ctR_of Tryz.func48 rfl Tryz.ntmps48 rfl ?_
 refine S_sub [(0, vxs), (1, .int .i64 ((k : Nat) : Int))] ⟨rfl, rfl, trivial⟩ ?_
 have E : ModR w w lo hi := ModR.refl w lo hi
 refine S_seq ?_
 refine S_reg [true] rfl rfl ?_
 refine J_st (R_assign rfl) rfl (J_done ?_)
 refine S_seq ?_
 refine S_seq ?_
 refine S_reg [true] rfl rfl ?_
 refine J_st (R_assign rfl) rfl (J_done ?_)
 refine S_block ?_
 refine S_loop (fun (xq : Nat × Nat × List Done) => let ⟨i, q, bs⟩ := xq; [(0, vxs), (1, .int .i64 ((q : Nat) : Int)), (4, .int .i64 0), (5, .int .i64 ((i : Nat) : Int))]) (fun (xq : Nat × Nat × List Done) w' => let ⟨i, q, bs⟩ := xq; ModR w w' lo hi ∧ w.heap.size ≤ w'.heap.size ∧ i + bs.length = xs.length ∧ q = k + 2 * i ∧ Own w' lo hi 2 vxs (List.flatMap (Enc.enc (α := Done)) (mkL 2 mkDone k i ++ bs))) (fun (xq : Nat × Nat × List Done) => let ⟨i, q, bs⟩ := xq; xs.length - i) (0, k, xs) ⟨rfl, rfl, rfl, rfl, trivial⟩ ⟨E, Nat.le_refl _, (by simp), (by simp), (by simpa [mkL] using hxs)⟩ ?_
 clear E hxs
 rintro ⟨i, q, bs⟩ w1 ⟨E, z1, hi, hq, hxs⟩
 refine S_sub [(0, vxs), (1, .int .i64 ((q : Nat) : Int)), (4, .int .i64 0), (5, .int .i64 ((i : Nat) : Int))] ⟨rfl, rfl, rfl, rfl, trivial⟩ ?_
 refine S_seq ?_
 refine S_seq ?_
 refine S_reg [true, true, true, true] rfl rfl ?_
 refine J_st (R_move rfl) rfl (J_st (R_move rfl) rfl (J_st (R_len Tryz.underlying36 rfl (Own.lenE (by decide) hxs (by simp only [List.length_append, mkL_length, List.length_cons]; omega))) rfl (J_st (R_lss rfl rfl) rfl (J_done ?_))))
 refine S_cond rfl (fun hc1 => ?_) (fun hc1 => ?_)
 ·rcases bs with _ | ⟨x, bs⟩
  ·exact absurd hi (by have h := hc1; simp at h ⊢; omega)
  simp only [List.length_cons] at hi
  have hc1n : i < xs.length := by first | (have h := of_decide_eq_true hc1; omega) | (have h := hc1; simp at h; omega)
  refine S_skip ?_
  refine S_seq ?_
  refine S_block ?_
  refine S_seq ?_
  refine S_reg [true, true, true, true, true, false] rfl rfl ?_
  refine J_st (R_move rfl) rfl (J_st (R_move rfl) rfl (J_st (R_move rfl) rfl (J_st (R_index sl36 rfl rfl (Own.rd (by decide) hxs) (by simp only [List.length_append, mkL_length, List.length_cons]; omega)) rfl (J_st (R_fieldAddr fl92_0 rfl) rfl ?_))))
  refine J_storeOwn (α := Done) (i := i) (f := 0) (⟨((q : Nat) : Int), x.capped⟩ : Done) sc3 rfl rfl rfl rfl hxs (mkL_length _ _ _ _) (by decide) rfl (fun w2 m1 hxs' => ?_)
  have hq := hxs.blk
  replace hxs := hxs'
  replace E := E.mod m1 (fun g hg => by have := hq g hg; omega)
  have z2 := m1.size
  clear hq
  refine J_done ?_
  refine S_seq ?_
  refine S_reg [true, true, true] rfl rfl ?_
  refine J_st (R_move rfl) rfl (J_st (R_add rfl rfl (add_nat (by unfold maxLen; omega))) rfl (J_st (R_assign rfl) rfl (J_done ?_)))
  refine S_seq ?_
  refine S_reg [true, true, true, true, true, true, true, false] rfl rfl ?_
  refine J_st (R_move rfl) rfl (J_st (R_move rfl) rfl (J_st (R_move rfl) rfl (J_st (R_rem rfl rfl (by decide) rfl) rfl (J_st (R_eql rfl rfl) rfl (J_st (R_index sl36 rfl rfl (Own.rd (by decide) hxs) (by simp only [List.length_append, mkL_length, List.length_cons]; omega)) rfl (J_st (R_fieldAddr fl92_1 rfl) rfl ?_))))))
  refine J_storeOwn (α := Done) (i := i) (f := 1) (⟨((q : Nat) : Int), (Int.tmod ((q + 1 : Nat) : Int) 3) == 0⟩ : Done) sc4 rfl rfl rfl rfl hxs (mkL_length _ _ _ _) (by decide) rfl (fun w3 m2 hxs' => ?_)
  have hq := hxs.blk
  replace hxs := hxs'
  replace E := E.mod m2 (fun g hg => by have := hq g hg; omega)
  have z3 := m2.size
  clear hq
  refine J_done ?_
  refine S_reg [true, true, true] rfl rfl ?_
  refine J_st (R_move rfl) rfl (J_st (R_add rfl rfl (add_nat (by unfold maxLen; omega))) rfl (J_st (R_assign rfl) rfl (J_done ?_)))
  refine S_nil (E_inB ?_)
  refine S_reg [true, true, true] rfl rfl ?_
  refine J_st (R_move rfl) rfl (J_st (R_add rfl rfl (add_nat (by unfold maxLen; omega))) rfl (J_st (R_assign rfl) rfl (J_done ?_)))
  refine S_nil (E_again (i + 1, q + 1 + 1, bs) (by simp; omega) ⟨rfl, rfl, rfl, rfl, trivial⟩ ⟨E, (by omega), (by omega), (by omega), (by subst hq; rw [← mkL_succ]; exact hxs)⟩)
 ·have hc1n : ¬ i < xs.length := by first | (have h := of_decide_eq_false hc1; omega) | (have h := hc1; simp at h; omega)
  refine S_exit (E_lp_exit (E_inB_exit ?_))
  refine S_seq ?_
  refine S_reg [true, true] rfl rfl ?_
  refine J_st (R_move rfl) rfl (J_st (R_assign rfl) rfl (J_done ?_))
  refine S_ret (E_done1 rfl rfl E ?_)
  exact ⟨by subst hq; rw [show i = xs.length from by omega], by obtain rfl : bs = [] := List.eq_nil_of_length_eq_zero (by omega); rw [show xs.length = i from by simp at hi; omega]; simpa using hxs⟩

set_option maxRecDepth 20000 in
theorem heldDoneS (vxs : Value) (xs : List Done) (k : Nat) (w : World) (hxs : RdS w vxs xs) (hm : xs = mkL 2 mkDone k xs.length) (hb : k + xs.length * 2 ≤ 1099511627776) : Ct Tryz.prog 53 [vxs, .int .i64 ((k : Nat) : Int)] w (fun v _ => v = .int .i64 ((k + 2 * xs.length : Nat) : Int)) := by
 refine ct_of Tryz.func53 rfl Tryz.ntmps53 rfl ?_
 refine S_sub [(0, vxs), (1, .int .i64 ((k : Nat) : Int))] ⟨rfl, rfl, trivial⟩ ?_
 have E : Ext w w := Ext.refl w
 refine S_seq ?_
 refine S_reg [true] rfl rfl ?_
 refine J_st (R_assign rfl) rfl (J_done ?_)
 refine S_seq ?_
 refine S_seq ?_
 refine S_reg [true] rfl rfl ?_
 refine J_st (R_assign rfl) rfl (J_done ?_)
 refine S_block ?_
 refine S_loop (fun (xq : Nat × Nat) => let ⟨i, q⟩ := xq; [(0, vxs), (1, .int .i64 ((q : Nat) : Int)), (4, .int .i64 0), (5, .int .i64 ((i : Nat) : Int))]) (fun (xq : Nat × Nat) w' => let ⟨i, q⟩ := xq; Ext w w' ∧ w.heap.size ≤ w'.heap.size ∧ i ≤ xs.length ∧ q = k + 2 * i) (fun (xq : Nat × Nat) => let ⟨i, q⟩ := xq; xs.length - i) (0, k) ⟨rfl, rfl, rfl, rfl, trivial⟩ ⟨E, Nat.le_refl _, Nat.zero_le _, (by simp)⟩ ?_
 clear E
 rintro ⟨i, q⟩ w1 ⟨E, z1, hi, hq⟩
 refine S_sub [(0, vxs), (1, .int .i64 ((q : Nat) : Int)), (4, .int .i64 0), (5, .int .i64 ((i : Nat) : Int))] ⟨rfl, rfl, rfl, rfl, trivial⟩ ?_
 refine S_seq ?_
 refine S_seq ?_
 refine S_reg [true, true, true, true] rfl rfl ?_
 refine J_st (R_move rfl) rfl (J_st (R_move rfl) rfl (J_st (R_len Tryz.underlying36 rfl (hxs.ext E).len) rfl (J_st (R_lss rfl rfl) rfl (J_done ?_))))
 refine S_cond rfl (fun hc1 => ?_) (fun hc1 => ?_)
 ·have hc1n : i < xs.length := by first | (have h := of_decide_eq_true hc1; omega) | (have h := hc1; simp at h; omega)
  refine S_skip ?_
  refine S_seq ?_
  refine S_block ?_
  refine S_seq ?_
  refine S_seq ?_
  refine S_reg [true, true, true, true, true, true, true] rfl rfl ?_
  refine J_st (R_move rfl) rfl (J_st (R_move rfl) rfl ?_)
  have hi1 : i < xs.length := (by first | assumption | omega)
  refine J_st (R_index (i := i) sl36 rfl rfl (hxs.ext E) hi1) rfl (J_st (R_fieldAddr fl92_0 rfl) rfl (J_st (R_load sc3 rfl (((hxs.ext E).get hi1).one 0 rfl)) rfl (J_st (R_move rfl) rfl (J_st (R_neq rfl rfl) rfl (J_done ?_)))))
  refine S_condFe rfl (by subst hq; rw [mkL_at hm (by omega)]; simp [mkDone]) ?_
  refine S_skip ?_
  refine S_seq ?_
  refine S_reg [true, true, true] rfl rfl ?_
  refine J_st (R_move rfl) rfl (J_st (R_add rfl rfl (add_nat (by unfold maxLen; omega))) rfl (J_st (R_assign rfl) rfl (J_done ?_)))
  refine S_seq ?_
  refine S_seq ?_
  refine S_reg [true, true, true, true, true, true, true, true, true] rfl rfl ?_
  refine J_st (R_move rfl) rfl (J_st (R_move rfl) rfl (J_st (R_index (i := i) sl36 rfl rfl (hxs.ext E) hi1) rfl (J_st (R_fieldAddr fl92_1 rfl) rfl (J_st (R_load sc4 rfl (((hxs.ext E).get hi1).one 1 rfl)) rfl (J_st (R_move rfl) rfl (J_st (R_rem rfl rfl (by decide) rfl) rfl (J_st (R_eql rfl rfl) rfl (J_st (R_neqB (Tryz.underlying4) rfl rfl) rfl (J_done ?_)))))))))
  refine S_condFe rfl (by subst hq; rw [mkL_at hm (by omega)]; simp [mkDone]) ?_
  refine S_skip ?_
  refine S_reg [true, true, true] rfl rfl ?_
  refine J_st (R_move rfl) rfl (J_st (R_add rfl rfl (add_nat (by unfold maxLen; omega))) rfl (J_st (R_assign rfl) rfl (J_done ?_)))
  refine S_nil (E_inB ?_)
  refine S_reg [true, true, true] rfl rfl ?_
  refine J_st (R_move rfl) rfl (J_st (R_add rfl rfl (add_nat (by unfold maxLen; omega))) rfl (J_st (R_assign rfl) rfl (J_done ?_)))
  refine S_nil (E_again (i + 1, q + 1 + 1) (by simp; omega) ⟨rfl, rfl, rfl, rfl, trivial⟩ ⟨E, (by omega), (by omega), (by omega)⟩)
 ·have hc1n : ¬ i < xs.length := by first | (have h := of_decide_eq_false hc1; omega) | (have h := hc1; simp at h; omega)
  refine S_exit (E_lp_exit (E_inB_exit ?_))
  refine S_seq ?_
  refine S_reg [true, true] rfl rfl ?_
  refine J_st (R_move rfl) rfl (J_st (R_assign rfl) rfl (J_done ?_))
  refine S_ret (E_done1 rfl rfl E ?_)
  subst hq; rw [show i = xs.length from by omega]

set_option maxRecDepth 20000 in
theorem markWorker (cx : List Value) (lo hi : Nat) (x : Worker) (k : Nat) (w : World) (hx : Own1.O w lo hi cx x) (hhi : hi ≤ w.heap.size) (hb : k + 5 * cntWorker x ≤ 1099511627776) : CtR Tryz.prog 13 [.agg cx.toArray, .int .i64 ((k : Nat) : Int)] w lo hi (fun v w' => v = .int .i64 ((numW k x : Nat) : Int) ∧ Own1.O w' lo hi cx (markW k x)) := by
 unfold cntWorker at hb
 refine ctR_of Tryz.func13 rfl Tryz.ntmps13 rfl ?_
 obtain ⟨o1, o2, o3, o4, o5, o6, o7, o8, rfl, sp1, hw1, hw2, hw3, hw4, hw5, hw6, hw7, hw8⟩ := Worker.opO hx
 refine S_sub [(0, .agg [o1, o2, o3, o4, o5, o6, o7, o8].toArray), (1, .int .i64 ((k : Nat) : Int))] ⟨rfl, rfl, trivial⟩ ?_
 have E : ModR w w lo hi := ModR.refl w lo hi
 refine S_seq ?_
 refine S_reg [false, true] rfl rfl ?_
 refine J_box rfl rfl (fun b1 w1 e1 s1 h1 => ?_)
 have g_b1 : w.heap.size ≤ b1 := by have := E.size; omega
 have y_b1 := h1.lt
 replace E := E.ext e1; replace hw1 := hw1.ext e1; replace hw2 := hw2.ext e1; replace hw3 := hw3.ext e1; replace hw4 := hw4.ext e1; replace hw5 := hw5.ext e1; replace hw6 := hw6.ext e1; replace hw7 := hw7.ext e1; replace hw8 := hw8.ext e1
 have z1 := e1.size
 refine J_st (R_assign rfl) rfl (J_done ?_)
 refine S_seq ?_
 refine S_reg [true, true, true, false, true] rfl rfl ?_
 refine J_st (R_fieldAddr0 fl38_0 rfl) rfl (J_st (R_load sc34 rfl (h1.one 0 rfl)) rfl (J_st (R_move rfl) rfl ?_))
 refine J_callR Tryz.call44 rfl rfl (markRecordS o1 (bl o1) (bh o1) x.queue k _ (Own.tight hw1) (by first | omega | (simp only [mkL_length]; omega) | (rw [mkL_length]; done) | (simp only [mkL_length]; done))) rfl (fun _ w2 e2 hv => ?_)
 obtain ⟨rfl, hw1'⟩ := hv
 have e2c := ModR.loose e2 (Own.blk hw1)
 replace hw1 := Own.loose hw1' (Own.blk hw1)
 clear hw1'
 replace E := E.trans e2c (by omega) (by omega); replace hw2 := Own.modRS hw2 e2 sp1.1.1; replace hw3 := Own.modRS hw3 e2 sp1.1.2.1; replace hw4 := Own.modRS hw4 e2 sp1.1.2.2.1; replace hw5 := Own.modRS hw5 e2 sp1.1.2.2.2.1; replace hw6 := Own.modRS hw6 e2 sp1.1.2.2.2.2.1; replace hw7 := Own.modRS hw7 e2 sp1.1.2.2.2.2.2.1; replace hw8 := Own.modRS hw8 e2 sp1.1.2.2.2.2.2.2.1; replace h1 := h1.modR e2c (by omega)
 have z2 := e2c.size
 refine J_st (R_assign rfl) rfl (J_done ?_)
 refine S_seq ?_
 refine S_reg [true, true, true, false, true] rfl rfl ?_
 refine J_st (R_fieldAddr0 fl38_1 rfl) rfl (J_st (R_load sc34 rfl (h1.one 1 rfl)) rfl (J_st (R_move rfl) rfl ?_))
 refine J_callR Tryz.call44 rfl rfl (markRecordS o2 (bl o2) (bh o2) x.staged (k + 5 * x.queue.length) _ (Own.tight hw2) (by first | omega | (simp only [mkL_length]; omega) | (rw [mkL_length]; done) | (simp only [mkL_length]; done))) rfl (fun _ w3 e3 hv => ?_)
 obtain ⟨rfl, hw2'⟩ := hv
 have e3c := ModR.loose e3 (Own.blk hw2)
 replace hw2 := Own.loose hw2' (Own.blk hw2)
 clear hw2'
 replace E := E.trans e3c (by omega) (by omega); replace hw1 := Own.modRS hw1 e3 (sp1.1.1).symm; replace hw3 := Own.modRS hw3 e3 sp1.2.1.1; replace hw4 := Own.modRS hw4 e3 sp1.2.1.2.1; replace hw5 := Own.modRS hw5 e3 sp1.2.1.2.2.1; replace hw6 := Own.modRS hw6 e3 sp1.2.1.2.2.2.1; replace hw7 := Own.modRS hw7 e3 sp1.2.1.2.2.2.2.1; replace hw8 := Own.modRS hw8 e3 sp1.2.1.2.2.2.2.2.1; replace h1 := h1.modR e3c (by omega)
 have z3 := e3c.size
 refine J_st (R_assign rfl) rfl (J_done ?_)
 refine S_seq ?_
 refine S_reg [true, true, true, false, true] rfl rfl ?_
 refine J_st (R_fieldAddr0 fl38_2 rfl) rfl (J_st (R_load sc34 rfl (h1.one 2 rfl)) rfl (J_st (R_move rfl) rfl ?_))
 refine J_callR Tryz.call44 rfl rfl (markRecordS o3 (bl o3) (bh o3) x.inputs ((k + 5 * x.queue.length) + 5 * x.staged.length) _ (Own.tight hw3) (by first | omega | (simp only [mkL_length]; omega) | (rw [mkL_length]; done) | (simp only [mkL_length]; done))) rfl (fun _ w4 e4 hv => ?_)
 obtain ⟨rfl, hw3'⟩ := hv
 have e4c := ModR.loose e4 (Own.blk hw3)
 replace hw3 := Own.loose hw3' (Own.blk hw3)
 clear hw3'
 replace E := E.trans e4c (by omega) (by omega); replace hw1 := Own.modRS hw1 e4 (sp1.1.2.1).symm; replace hw2 := Own.modRS hw2 e4 (sp1.2.1.1).symm; replace hw4 := Own.modRS hw4 e4 sp1.2.2.1.1; replace hw5 := Own.modRS hw5 e4 sp1.2.2.1.2.1; replace hw6 := Own.modRS hw6 e4 sp1.2.2.1.2.2.1; replace hw7 := Own.modRS hw7 e4 sp1.2.2.1.2.2.2.1; replace hw8 := Own.modRS hw8 e4 sp1.2.2.1.2.2.2.2.1; replace h1 := h1.modR e4c (by omega)
 have z4 := e4c.size
 refine J_st (R_assign rfl) rfl (J_done ?_)
 refine S_seq ?_
 refine S_reg [true, true, true, false, true] rfl rfl ?_
 refine J_st (R_fieldAddr0 fl38_3 rfl) rfl (J_st (R_load sc35 rfl (h1.one 3 rfl)) rfl (J_st (R_move rfl) rfl ?_))
 refine J_callR Tryz.call45 rfl rfl (markCellS o4 (bl o4) (bh o4) x.cells (((k + 5 * x.queue.length) + 5 * x.staged.length) + 5 * x.inputs.length) _ (Own.tight hw4) (by first | omega | (simp only [mkL_length]; omega) | (rw [mkL_length]; done) | (simp only [mkL_length]; done))) rfl (fun _ w5 e5 hv => ?_)
 obtain ⟨rfl, hw4'⟩ := hv
 have e5c := ModR.loose e5 (Own.blk hw4)
 replace hw4 := Own.loose hw4' (Own.blk hw4)
 clear hw4'
 replace E := E.trans e5c (by omega) (by omega); replace hw1 := Own.modRS hw1 e5 (sp1.1.2.2.1).symm; replace hw2 := Own.modRS hw2 e5 (sp1.2.1.2.1).symm; replace hw3 := Own.modRS hw3 e5 (sp1.2.2.1.1).symm; replace hw5 := Own.modRS hw5 e5 sp1.2.2.2.1.1; replace hw6 := Own.modRS hw6 e5 sp1.2.2.2.1.2.1; replace hw7 := Own.modRS hw7 e5 sp1.2.2.2.1.2.2.1; replace hw8 := Own.modRS hw8 e5 sp1.2.2.2.1.2.2.2.1; replace h1 := h1.modR e5c (by omega)
 have z5 := e5c.size
 refine J_st (R_assign rfl) rfl (J_done ?_)
 refine S_seq ?_
 refine S_reg [true, true, true, false, true] rfl rfl ?_
 refine J_st (R_fieldAddr0 fl38_4 rfl) rfl (J_st (R_load sc27 rfl (h1.one 4 rfl)) rfl (J_st (R_move rfl) rfl ?_))
 refine J_callR Tryz.call46 rfl rfl (markIntS o5 (bl o5) (bh o5) x.sums ((((k + 5 * x.queue.length) + 5 * x.staged.length) + 5 * x.inputs.length) + 4 * x.cells.length) _ (Own.tight hw5) (by first | omega | (simp only [mkL_length]; omega) | (rw [mkL_length]; done) | (simp only [mkL_length]; done))) rfl (fun _ w6 e6 hv => ?_)
 obtain ⟨rfl, hw5'⟩ := hv
 have e6c := ModR.loose e6 (Own.blk hw5)
 replace hw5 := Own.loose hw5' (Own.blk hw5)
 clear hw5'
 replace E := E.trans e6c (by omega) (by omega); replace hw1 := Own.modRS hw1 e6 (sp1.1.2.2.2.1).symm; replace hw2 := Own.modRS hw2 e6 (sp1.2.1.2.2.1).symm; replace hw3 := Own.modRS hw3 e6 (sp1.2.2.1.2.1).symm; replace hw4 := Own.modRS hw4 e6 (sp1.2.2.2.1.1).symm; replace hw6 := Own.modRS hw6 e6 sp1.2.2.2.2.1.1; replace hw7 := Own.modRS hw7 e6 sp1.2.2.2.2.1.2.1; replace hw8 := Own.modRS hw8 e6 sp1.2.2.2.2.1.2.2.1; replace h1 := h1.modR e6c (by omega)
 have z6 := e6c.size
 refine J_st (R_assign rfl) rfl (J_done ?_)
 refine S_seq ?_
 refine S_reg [true, true, true, false, true] rfl rfl ?_
 refine J_st (R_fieldAddr0 fl38_5 rfl) rfl (J_st (R_load sc28 rfl (h1.one 5 rfl)) rfl (J_st (R_move rfl) rfl ?_))
 refine J_callR Tryz.call47 rfl rfl (markBoolS o6 (bl o6) (bh o6) x.black (((((k + 5 * x.queue.length) + 5 * x.staged.length) + 5 * x.inputs.length) + 4 * x.cells.length) + 1 * x.sums.length) _ (Own.tight hw6) (by first | omega | (simp only [mkL_length]; omega) | (rw [mkL_length]; done) | (simp only [mkL_length]; done))) rfl (fun _ w7 e7 hv => ?_)
 obtain ⟨rfl, hw6'⟩ := hv
 have e7c := ModR.loose e7 (Own.blk hw6)
 replace hw6 := Own.loose hw6' (Own.blk hw6)
 clear hw6'
 replace E := E.trans e7c (by omega) (by omega); replace hw1 := Own.modRS hw1 e7 (sp1.1.2.2.2.2.1).symm; replace hw2 := Own.modRS hw2 e7 (sp1.2.1.2.2.2.1).symm; replace hw3 := Own.modRS hw3 e7 (sp1.2.2.1.2.2.1).symm; replace hw4 := Own.modRS hw4 e7 (sp1.2.2.2.1.2.1).symm; replace hw5 := Own.modRS hw5 e7 (sp1.2.2.2.2.1.1).symm; replace hw7 := Own.modRS hw7 e7 sp1.2.2.2.2.2.1.1; replace hw8 := Own.modRS hw8 e7 sp1.2.2.2.2.2.1.2.1; replace h1 := h1.modR e7c (by omega)
 have z7 := e7c.size
 refine J_st (R_assign rfl) rfl (J_done ?_)
 refine S_seq ?_
 refine S_reg [true, true, true, false, true] rfl rfl ?_
 refine J_st (R_fieldAddr0 fl38_6 rfl) rfl (J_st (R_load sc28 rfl (h1.one 6 rfl)) rfl (J_st (R_move rfl) rfl ?_))
 refine J_callR Tryz.call47 rfl rfl (markBoolS o7 (bl o7) (bh o7) x.caps ((((((k + 5 * x.queue.length) + 5 * x.staged.length) + 5 * x.inputs.length) + 4 * x.cells.length) + 1 * x.sums.length) + 1 * x.black.length) _ (Own.tight hw7) (by first | omega | (simp only [mkL_length]; omega) | (rw [mkL_length]; done) | (simp only [mkL_length]; done))) rfl (fun _ w8 e8 hv => ?_)
 obtain ⟨rfl, hw7'⟩ := hv
 have e8c := ModR.loose e8 (Own.blk hw7)
 replace hw7 := Own.loose hw7' (Own.blk hw7)
 clear hw7'
 replace E := E.trans e8c (by omega) (by omega); replace hw1 := Own.modRS hw1 e8 (sp1.1.2.2.2.2.2.1).symm; replace hw2 := Own.modRS hw2 e8 (sp1.2.1.2.2.2.2.1).symm; replace hw3 := Own.modRS hw3 e8 (sp1.2.2.1.2.2.2.1).symm; replace hw4 := Own.modRS hw4 e8 (sp1.2.2.2.1.2.2.1).symm; replace hw5 := Own.modRS hw5 e8 (sp1.2.2.2.2.1.2.1).symm; replace hw6 := Own.modRS hw6 e8 (sp1.2.2.2.2.2.1.1).symm; replace hw8 := Own.modRS hw8 e8 sp1.2.2.2.2.2.2.1.1; replace h1 := h1.modR e8c (by omega)
 have z8 := e8c.size
 refine J_st (R_assign rfl) rfl (J_done ?_)
 refine S_seq ?_
 refine S_reg [true, true, true, false, true] rfl rfl ?_
 refine J_st (R_fieldAddr0 fl38_7 rfl) rfl (J_st (R_load sc36 rfl (h1.one 7 rfl)) rfl (J_st (R_move rfl) rfl ?_))
 refine J_callR Tryz.call48 rfl rfl (markDoneS o8 (bl o8) (bh o8) x.dones (((((((k + 5 * x.queue.length) + 5 * x.staged.length) + 5 * x.inputs.length) + 4 * x.cells.length) + 1 * x.sums.length) + 1 * x.black.length) + 1 * x.caps.length) _ (Own.tight hw8) (by first | omega | (simp only [mkL_length]; omega) | (rw [mkL_length]; done) | (simp only [mkL_length]; done))) rfl (fun _ w9 e9 hv => ?_)
 obtain ⟨rfl, hw8'⟩ := hv
 have e9c := ModR.loose e9 (Own.blk hw8)
 replace hw8 := Own.loose hw8' (Own.blk hw8)
 clear hw8'
 replace E := E.trans e9c (by omega) (by omega); replace hw1 := Own.modRS hw1 e9 (sp1.1.2.2.2.2.2.2.1).symm; replace hw2 := Own.modRS hw2 e9 (sp1.2.1.2.2.2.2.2.1).symm; replace hw3 := Own.modRS hw3 e9 (sp1.2.2.1.2.2.2.2.1).symm; replace hw4 := Own.modRS hw4 e9 (sp1.2.2.2.1.2.2.2.1).symm; replace hw5 := Own.modRS hw5 e9 (sp1.2.2.2.2.1.2.2.1).symm; replace hw6 := Own.modRS hw6 e9 (sp1.2.2.2.2.2.1.2.1).symm; replace hw7 := Own.modRS hw7 e9 (sp1.2.2.2.2.2.2.1.1).symm; replace h1 := h1.modR e9c (by omega)
 have z9 := e9c.size
 refine J_st (R_assign rfl) rfl (J_done ?_)
 refine S_seq ?_
 refine S_reg [true, true] rfl rfl ?_
 refine J_st (R_move rfl) rfl (J_st (R_assign rfl) rfl (J_done ?_))
 refine S_ret (E_done1 rfl rfl E ?_)
 exact ⟨rfl, Worker.mkO (markW k x) sp1 hw1 hw2 hw3 hw4 hw5 hw6 hw7 hw8⟩

set_option maxHeartbeats 4000000 in
set_option maxRecDepth 20000 in
theorem heldWorker (cx : List Value) (x : Worker) (k : Nat) (w : World) (hx : Dat.R w 0 w.heap.size cx x) (hm : x = markW k x) (hb : k + 5 * cntWorker x ≤ 1099511627776) : Ct Tryz.prog 14 [.agg cx.toArray, .int .i64 ((k : Nat) : Int)] w (fun v _ => v = .int .i64 ((numW k x : Nat) : Int)) := by
 unfold cntWorker at hb
 refine ct_of Tryz.func14 rfl Tryz.ntmps14 rfl ?_
 obtain ⟨o1, o2, o3, o4, o5, o6, o7, o8, rfl, hd1, hd2, hd3, hd4, hd5, hd6, hd7, hd8⟩ := Worker.op hx
 refine S_sub [(0, .agg [o1, o2, o3, o4, o5, o6, o7, o8].toArray), (1, .int .i64 ((k : Nat) : Int))] ⟨rfl, rfl, trivial⟩ ?_
 have E : Ext w w := Ext.refl w
 refine S_seq ?_
 refine S_reg [false, true] rfl rfl ?_
 refine J_box rfl rfl (fun b1 w1 e1 s1 h1 => ?_)
 have g_b1 : w.heap.size ≤ b1 := by have := E.size; omega
 have y_b1 := h1.lt
 replace E := E.trans e1
 have z1 := e1.size
 refine J_st (R_assign rfl) rfl (J_done ?_)
 refine S_seq ?_
 refine S_reg [true, true, true, false, true] rfl rfl ?_
 refine J_st (R_fieldAddr0 fl38_0 rfl) rfl (J_st (R_load sc34 rfl (h1.one 0 rfl)) rfl (J_st (R_move rfl) rfl ?_))
 refine J_call Tryz.call49 rfl (heldRecordS o1 x.queue k _ (hd1.rd.ext E) (congrArg Worker.queue hm) (by omega)) rfl (fun _ w2 e2 hv => ?_)
 subst hv
 replace E := E.trans e2; replace h1 := h1.ext e2
 have z2 := e2.size
 refine J_st (R_assign rfl) rfl (J_done ?_)
 refine S_seq ?_
 refine S_seq ?_
 refine S_reg [true, true] rfl rfl ?_
 refine J_st (R_move rfl) rfl (J_st (R_lss rfl rfl) rfl (J_done ?_))
 refine S_condFe rfl (by first | (simp; done) | (simp only [nat_nlt] <;> simp) | (simp only [mkL_length, nat_nlt] <;> simp) | (simp only [mkL_length] <;> simp)) ?_
 refine S_skip ?_
 refine S_seq ?_
 refine S_reg [true, true, true, false, true] rfl rfl ?_
 refine J_st (R_fieldAddr0 fl38_1 rfl) rfl (J_st (R_load sc34 rfl (h1.one 1 rfl)) rfl (J_st (R_move rfl) rfl ?_))
 refine J_call Tryz.call49 rfl (heldRecordS o2 x.staged (k + 5 * x.queue.length) _ (hd2.rd.ext E) (congrArg Worker.staged hm) (by omega)) rfl (fun _ w3 e3 hv => ?_)
 subst hv
 replace E := E.trans e3; replace h1 := h1.ext e3
 have z3 := e3.size
 refine J_st (R_assign rfl) rfl (J_done ?_)
 refine S_seq ?_
 refine S_seq ?_
 refine S_reg [true, true] rfl rfl ?_
 refine J_st (R_move rfl) rfl (J_st (R_lss rfl rfl) rfl (J_done ?_))
 refine S_condFe rfl (by first | (simp; done) | (simp only [nat_nlt] <;> simp) | (simp only [mkL_length, nat_nlt] <;> simp) | (simp only [mkL_length] <;> simp)) ?_
 refine S_skip ?_
 refine S_seq ?_
 refine S_reg [true, true, true, false, true] rfl rfl ?_
 refine J_st (R_fieldAddr0 fl38_2 rfl) rfl (J_st (R_load sc34 rfl (h1.one 2 rfl)) rfl (J_st (R_move rfl) rfl ?_))
 refine J_call Tryz.call49 rfl (heldRecordS o3 x.inputs ((k + 5 * x.queue.length) + 5 * x.staged.length) _ (hd3.rd.ext E) (congrArg Worker.inputs hm) (by omega)) rfl (fun _ w4 e4 hv => ?_)
 subst hv
 replace E := E.trans e4; replace h1 := h1.ext e4
 have z4 := e4.size
 refine J_st (R_assign rfl) rfl (J_done ?_)
 refine S_seq ?_
 refine S_seq ?_
 refine S_reg [true, true] rfl rfl ?_
 refine J_st (R_move rfl) rfl (J_st (R_lss rfl rfl) rfl (J_done ?_))
 refine S_condFe rfl (by first | (simp; done) | (simp only [nat_nlt] <;> simp) | (simp only [mkL_length, nat_nlt] <;> simp) | (simp only [mkL_length] <;> simp)) ?_
 refine S_skip ?_
 refine S_seq ?_
 refine S_reg [true, true, true, false, true] rfl rfl ?_
 refine J_st (R_fieldAddr0 fl38_3 rfl) rfl (J_st (R_load sc35 rfl (h1.one 3 rfl)) rfl (J_st (R_move rfl) rfl ?_))
 refine J_call Tryz.call50 rfl (heldCellS o4 x.cells (((k + 5 * x.queue.length) + 5 * x.staged.length) + 5 * x.inputs.length) _ (hd4.rd.ext E) (congrArg Worker.cells hm) (by omega)) rfl (fun _ w5 e5 hv => ?_)
 subst hv
 replace E := E.trans e5; replace h1 := h1.ext e5
 have z5 := e5.size
 refine J_st (R_assign rfl) rfl (J_done ?_)
 refine S_seq ?_
 refine S_seq ?_
 refine S_reg [true, true] rfl rfl ?_
 refine J_st (R_move rfl) rfl (J_st (R_lss rfl rfl) rfl (J_done ?_))
 refine S_condFe rfl (by first | (simp; done) | (simp only [nat_nlt] <;> simp) | (simp only [mkL_length, nat_nlt] <;> simp) | (simp only [mkL_length] <;> simp)) ?_
 refine S_skip ?_
 refine S_seq ?_
 refine S_reg [true, true, true, false, true] rfl rfl ?_
 refine J_st (R_fieldAddr0 fl38_4 rfl) rfl (J_st (R_load sc27 rfl (h1.one 4 rfl)) rfl (J_st (R_move rfl) rfl ?_))
 refine J_call Tryz.call51 rfl (heldIntS o5 x.sums ((((k + 5 * x.queue.length) + 5 * x.staged.length) + 5 * x.inputs.length) + 4 * x.cells.length) _ (hd5.rd.ext E) (congrArg Worker.sums hm) (by omega)) rfl (fun _ w6 e6 hv => ?_)
 subst hv
 replace E := E.trans e6; replace h1 := h1.ext e6
 have z6 := e6.size
 refine J_st (R_assign rfl) rfl (J_done ?_)
 refine S_seq ?_
 refine S_seq ?_
 refine S_reg [true, true] rfl rfl ?_
 refine J_st (R_move rfl) rfl (J_st (R_lss rfl rfl) rfl (J_done ?_))
 refine S_condFe rfl (by first | (simp; done) | (simp only [nat_nlt] <;> simp) | (simp only [mkL_length, nat_nlt] <;> simp) | (simp only [mkL_length] <;> simp)) ?_
 refine S_skip ?_
 refine S_seq ?_
 refine S_reg [true, true, true, false, true] rfl rfl ?_
 refine J_st (R_fieldAddr0 fl38_5 rfl) rfl (J_st (R_load sc28 rfl (h1.one 5 rfl)) rfl (J_st (R_move rfl) rfl ?_))
 refine J_call Tryz.call52 rfl (heldBoolS o6 x.black (((((k + 5 * x.queue.length) + 5 * x.staged.length) + 5 * x.inputs.length) + 4 * x.cells.length) + 1 * x.sums.length) _ (hd6.rd.ext E) (congrArg Worker.black hm) (by omega)) rfl (fun _ w7 e7 hv => ?_)
 subst hv
 replace E := E.trans e7; replace h1 := h1.ext e7
 have z7 := e7.size
 refine J_st (R_assign rfl) rfl (J_done ?_)
 refine S_seq ?_
 refine S_seq ?_
 refine S_reg [true, true] rfl rfl ?_
 refine J_st (R_move rfl) rfl (J_st (R_lss rfl rfl) rfl (J_done ?_))
 refine S_condFe rfl (by first | (simp; done) | (simp only [nat_nlt] <;> simp) | (simp only [mkL_length, nat_nlt] <;> simp) | (simp only [mkL_length] <;> simp)) ?_
 refine S_skip ?_
 refine S_seq ?_
 refine S_reg [true, true, true, false, true] rfl rfl ?_
 refine J_st (R_fieldAddr0 fl38_6 rfl) rfl (J_st (R_load sc28 rfl (h1.one 6 rfl)) rfl (J_st (R_move rfl) rfl ?_))
 refine J_call Tryz.call52 rfl (heldBoolS o7 x.caps ((((((k + 5 * x.queue.length) + 5 * x.staged.length) + 5 * x.inputs.length) + 4 * x.cells.length) + 1 * x.sums.length) + 1 * x.black.length) _ (hd7.rd.ext E) (congrArg Worker.caps hm) (by omega)) rfl (fun _ w8 e8 hv => ?_)
 subst hv
 replace E := E.trans e8; replace h1 := h1.ext e8
 have z8 := e8.size
 refine J_st (R_assign rfl) rfl (J_done ?_)
 refine S_seq ?_
 refine S_seq ?_
 refine S_reg [true, true] rfl rfl ?_
 refine J_st (R_move rfl) rfl (J_st (R_lss rfl rfl) rfl (J_done ?_))
 refine S_condFe rfl (by first | (simp; done) | (simp only [nat_nlt] <;> simp) | (simp only [mkL_length, nat_nlt] <;> simp) | (simp only [mkL_length] <;> simp)) ?_
 refine S_skip ?_
 refine S_seq ?_
 refine S_reg [true, true, true, false, true] rfl rfl ?_
 refine J_st (R_fieldAddr0 fl38_7 rfl) rfl (J_st (R_load sc36 rfl (h1.one 7 rfl)) rfl (J_st (R_move rfl) rfl ?_))
 refine J_call Tryz.call53 rfl (heldDoneS o8 x.dones (((((((k + 5 * x.queue.length) + 5 * x.staged.length) + 5 * x.inputs.length) + 4 * x.cells.length) + 1 * x.sums.length) + 1 * x.black.length) + 1 * x.caps.length) _ (hd8.rd.ext E) (congrArg Worker.dones hm) (by omega)) rfl (fun _ w9 e9 hv => ?_)
 subst hv
 replace E := E.trans e9; replace h1 := h1.ext e9
 have z9 := e9.size
 refine J_st (R_assign rfl) rfl (J_done ?_)
 refine S_seq ?_
 refine S_seq ?_
 refine S_reg [true, true] rfl rfl ?_
 refine J_st (R_move rfl) rfl (J_st (R_lss rfl rfl) rfl (J_done ?_))
 refine S_condFe rfl (by first | (simp; done) | (simp only [nat_nlt] <;> simp) | (simp only [mkL_length, nat_nlt] <;> simp) | (simp only [mkL_length] <;> simp)) ?_
 refine S_skip ?_
 refine S_seq ?_
 refine S_reg [true, true] rfl rfl ?_
 refine J_st (R_move rfl) rfl (J_st (R_assign rfl) rfl (J_done ?_))
 refine S_ret (E_done1 rfl rfl E ?_)
 rfl

set_option maxRecDepth 20000 in
theorem c_copyRecords (vxs : Value) (xs : List Record) (w : World) (hxs : RdS w vxs xs) (hb : xs.length ≤ 4194304) : Ct Tryz.prog 69 [vxs] w (fun v w' => Own w' w.heap.size w'.heap.size 5 v (List.flatMap (Enc.enc (α := Record)) xs)) := by
 refine ct_of Tryz.func69 rfl Tryz.ntmps69 rfl ?_
 refine S_sub [(0, vxs)] ⟨rfl, trivial⟩ ?_
 have E : Ext w w := Ext.refl w
 refine S_seq ?_
 refine S_reg [true] rfl rfl ?_
 refine J_st (R_assign rfl) rfl (J_done ?_)
 refine S_seq ?_
 refine S_reg [true, false, true] rfl rfl ?_
 refine J_st (R_move rfl) rfl ?_
 refine J_append sl34 rfl rfl (Own.nil w w.heap.size w.heap.size 5) (RdS.src (hxs.ext E)) (flat_one _) (by simp only [sum_flat, List.length_nil]; simp only [Enc.sz]; omega) (by decide) (by omega) (by omega) rfl rfl (fun v1 w1 m1 ho1 => ?_)
 replace E := E.step m1 (fun g hg => by have := Own.blk (Own.nil w w.heap.size w.heap.size 5) g hg; omega)
 have z1 := m1.size
 refine J_st (R_assign rfl) rfl (J_done ?_)
 refine S_ret (E_done1 rfl rfl E ?_)
 exact Own.fin ho1 (by have := E.size; omega) (by omega) (by simp [*])

set_option maxRecDepth 20000 in
theorem c_copyCells (vxs : Value) (xs : List Cell) (w : World) (hxs : RdS w vxs xs) (hb : xs.length ≤ 4194304) : Ct Tryz.prog 70 [vxs] w (fun v w' => Own w' w.heap.size w'.heap.size 4 v (List.flatMap (Enc.enc (α := Cell)) xs)) := by
 refine ct_of Tryz.func70 rfl Tryz.ntmps70 rfl ?_
 refine S_sub [(0, vxs)] ⟨rfl, trivial⟩ ?_
 have E : Ext w w := Ext.refl w
 refine S_seq ?_
 refine S_reg [true] rfl rfl ?_
 refine J_st (R_assign rfl) rfl (J_done ?_)
 refine S_seq ?_
 refine S_reg [true, false, true] rfl rfl ?_
 refine J_st (R_move rfl) rfl ?_
 refine J_append sl35 rfl rfl (Own.nil w w.heap.size w.heap.size 4) (RdS.src (hxs.ext E)) (flat_one _) (by simp only [sum_flat, List.length_nil]; simp only [Enc.sz]; omega) (by decide) (by omega) (by omega) rfl rfl (fun v1 w1 m1 ho1 => ?_)
 replace E := E.step m1 (fun g hg => by have := Own.blk (Own.nil w w.heap.size w.heap.size 4) g hg; omega)
 have z1 := m1.size
 refine J_st (R_assign rfl) rfl (J_done ?_)
 refine S_ret (E_done1 rfl rfl E ?_)
 exact Own.fin ho1 (by have := E.size; omega) (by omega) (by simp [*])

set_option maxRecDepth 20000 in
theorem c_copyWorker (cx : List Value) (x : Worker) (w : World) (hx : Dat.R w 0 w.heap.size cx x) (hb : cntWorker x ≤ 1048576) : Ct Tryz.prog 32 [.agg cx.toArray] w (fun v w' => ∃ cs, v = .agg cs.toArray ∧ Own1.O w' w.heap.size w'.heap.size cs x) := by
 unfold cntWorker at hb
 refine ct_of Tryz.func32 rfl Tryz.ntmps32 rfl ?_
 obtain ⟨o1, o2, o3, o4, o5, o6, o7, o8, rfl, hd1, hd2, hd3, hd4, hd5, hd6, hd7, hd8⟩ := Worker.op hx
 refine S_sub [(0, .agg [o1, o2, o3, o4, o5, o6, o7, o8].toArray)] ⟨rfl, trivial⟩ ?_
 have E : Ext w w := Ext.refl w
 refine S_seq ?_
 refine S_reg [false, false] rfl rfl ?_
 refine J_box rfl rfl (fun b1 w1 e1 s1 h1 => ?_)
 have g_b1 : w.heap.size ≤ b1 := by have := E.size; omega
 have y_b1 := h1.lt
 replace E := E.trans e1
 have z1 := e1.size
 refine J_alloc st38 rfl (fun b2 w2 e2 s2 h2 => ?_)
 have g_b2 : w.heap.size ≤ b2 := by have := E.size; omega
 have y_b2 := h2.lt
 replace E := E.trans e2; replace h1 := h1.ext e2
 have z2 := e2.size
 refine J_done ?_
 refine S_seq ?_
 refine S_regD mixed [(0, true), (1, true), (3, true), (4, true), (6, true), (7, true), (9, true), (10, true), (12, true), (13, true), (15, true), (16, true), (18, true), (19, true), (21, true), (22, true), (2, false), (5, false), (8, false), (11, false), (14, false), (17, false), (20, false), (23, false), (24, true), (25, false)] (by decide +kernel) rfl (fun w3 e3 => ?_)
 replace E := E.trans e3; replace h1 := h1.ext e3; replace h2 := h2.ext e3
 have z3 := e3.size
 refine J_st (R_fieldAddr0 fl38_0 rfl) rfl (J_st (R_load sc34 rfl (h1.one 0 rfl)) rfl (J_st (R_fieldAddr0 fl38_1 rfl) rfl (J_st (R_load sc34 rfl (h1.one 1 rfl)) rfl (J_st (R_fieldAddr0 fl38_2 rfl) rfl (J_st (R_load sc34 rfl (h1.one 2 rfl)) rfl (J_st (R_fieldAddr0 fl38_3 rfl) rfl (J_st (R_load sc35 rfl (h1.one 3 rfl)) rfl (J_st (R_fieldAddr0 fl38_4 rfl) rfl (J_st (R_load sc27 rfl (h1.one 4 rfl)) rfl (J_st (R_fieldAddr0 fl38_5 rfl) rfl (J_st (R_load sc28 rfl (h1.one 5 rfl)) rfl (J_st (R_fieldAddr0 fl38_6 rfl) rfl (J_st (R_load sc28 rfl (h1.one 6 rfl)) rfl (J_st (R_fieldAddr0 fl38_7 rfl) rfl (J_st (R_load sc36 rfl (h1.one 7 rfl)) rfl ?_)))))))))))))))
 refine J_call Tryz.call69 rfl (c_copyRecords o1 x.queue _ (hd1.rd.ext E) (by first | omega | (simp only [mkL_length]; omega) | (rw [mkL_length]; done) | (simp only [mkL_length]; done))) rfl (fun v1 w4 e4 ho1 => ?_)
 have g_ho1 : w.heap.size ≤ w3.heap.size := E.size
 replace E := E.trans e4; replace h1 := h1.ext e4; replace h2 := h2.ext e4
 have z4 := e4.size
 refine J_call Tryz.call69 rfl (c_copyRecords o2 x.staged _ (hd2.rd.ext E) (by first | omega | (simp only [mkL_length]; omega) | (rw [mkL_length]; done) | (simp only [mkL_length]; done))) rfl (fun v2 w5 e5 ho2 => ?_)
 have g_ho2 : w.heap.size ≤ w4.heap.size := E.size
 replace E := E.trans e5; replace h1 := h1.ext e5; replace h2 := h2.ext e5; replace ho1 := ho1.ext e5
 have z5 := e5.size
 refine J_call Tryz.call69 rfl (c_copyRecords o3 x.inputs _ (hd3.rd.ext E) (by first | omega | (simp only [mkL_length]; omega) | (rw [mkL_length]; done) | (simp only [mkL_length]; done))) rfl (fun v3 w6 e6 ho3 => ?_)
 have g_ho3 : w.heap.size ≤ w5.heap.size := E.size
 replace E := E.trans e6; replace h1 := h1.ext e6; replace h2 := h2.ext e6; replace ho1 := ho1.ext e6; replace ho2 := ho2.ext e6
 have z6 := e6.size
 refine J_call Tryz.call70 rfl (c_copyCells o4 x.cells _ (hd4.rd.ext E) (by first | omega | (simp only [mkL_length]; omega) | (rw [mkL_length]; done) | (simp only [mkL_length]; done))) rfl (fun v4 w7 e7 ho4 => ?_)
 have g_ho4 : w.heap.size ≤ w6.heap.size := E.size
 replace E := E.trans e7; replace h1 := h1.ext e7; replace h2 := h2.ext e7; replace ho1 := ho1.ext e7; replace ho2 := ho2.ext e7; replace ho3 := ho3.ext e7
 have z7 := e7.size
 refine J_appendD sl27 rfl rfl (Own.nil w7 w7.heap.size w7.heap.size 1) ⟨_, _, rfl⟩ (RdS.src (hd5.rd.ext E)) (flat_one _) (by simp only [sum_flat, List.length_nil]; simp only [Enc.sz]; omega) (by decide) (by omega) (by omega) rfl (fun v5 w8 e8 ho5 hb_ho5 => ?_)
 replace E := E.trans e8; replace h1 := h1.ext e8; replace h2 := h2.ext e8; replace ho1 := ho1.ext e8; replace ho2 := ho2.ext e8; replace ho3 := ho3.ext e8; replace ho4 := ho4.ext e8
 have z8 := e8.size
 have g_ho5 : w.heap.size ≤ w7.heap.size := by have := E.size; omega
 replace ho5 : Own w8 w7.heap.size w8.heap.size 1 v5 (List.flatMap (Enc.enc (α := Int)) x.sums) := ho5
 refine J_appendD sl28 rfl rfl (Own.nil w8 w8.heap.size w8.heap.size 1) ⟨_, _, rfl⟩ (RdS.src (hd6.rd.ext E)) (flat_one _) (by simp only [sum_flat, List.length_nil]; simp only [Enc.sz]; omega) (by decide) (by omega) (by omega) rfl (fun v6 w9 e9 ho6 hb_ho6 => ?_)
 replace E := E.trans e9; replace h1 := h1.ext e9; replace h2 := h2.ext e9; replace ho1 := ho1.ext e9; replace ho2 := ho2.ext e9; replace ho3 := ho3.ext e9; replace ho4 := ho4.ext e9; replace ho5 := ho5.ext e9
 have z9 := e9.size
 have g_ho6 : w.heap.size ≤ w8.heap.size := by have := E.size; omega
 replace ho6 : Own w9 w8.heap.size w9.heap.size 1 v6 (List.flatMap (Enc.enc (α := Bool)) x.black) := ho6
 refine J_appendD sl28 rfl rfl (Own.nil w9 w9.heap.size w9.heap.size 1) ⟨_, _, rfl⟩ (RdS.src (hd7.rd.ext E)) (flat_one _) (by simp only [sum_flat, List.length_nil]; simp only [Enc.sz]; omega) (by decide) (by omega) (by omega) rfl (fun v7 w10 e10 ho7 hb_ho7 => ?_)
 replace E := E.trans e10; replace h1 := h1.ext e10; replace h2 := h2.ext e10; replace ho1 := ho1.ext e10; replace ho2 := ho2.ext e10; replace ho3 := ho3.ext e10; replace ho4 := ho4.ext e10; replace ho5 := ho5.ext e10; replace ho6 := ho6.ext e10
 have z10 := e10.size
 have g_ho7 : w.heap.size ≤ w9.heap.size := by have := E.size; omega
 replace ho7 : Own w10 w9.heap.size w10.heap.size 1 v7 (List.flatMap (Enc.enc (α := Bool)) x.caps) := ho7
 refine J_appendD sl36 rfl rfl (Own.nil w10 w10.heap.size w10.heap.size 2) ⟨_, _, rfl⟩ (RdS.src (hd8.rd.ext E)) (flat_one _) (by simp only [sum_flat, List.length_nil]; simp only [Enc.sz]; omega) (by decide) (by omega) (by omega) rfl (fun v8 w11 e11 ho8 hb_ho8 => ?_)
 replace E := E.trans e11; replace h1 := h1.ext e11; replace h2 := h2.ext e11; replace ho1 := ho1.ext e11; replace ho2 := ho2.ext e11; replace ho3 := ho3.ext e11; replace ho4 := ho4.ext e11; replace ho5 := ho5.ext e11; replace ho6 := ho6.ext e11; replace ho7 := ho7.ext e11
 have z11 := e11.size
 have g_ho8 : w.heap.size ≤ w10.heap.size := by have := E.size; omega
 replace ho8 : Own w11 w10.heap.size w11.heap.size 2 v8 (List.flatMap (Enc.enc (α := Done)) x.dones) := ho8
 have hbl1 : ∀ w, (Instr.build 38 ([(0, v1), (1, v2), (2, v3), (3, v4), (4, v5), (5, v6), (6, v7), (7, v8)]).toArray).run Tryz.prog w = .ok (.agg [v1, v2, v3, v4, v5, v6, v7, v8].toArray) w := by clear E; obtain ⟨_, _, _, rfl⟩ := Own.shape ho1; obtain ⟨_, _, _, rfl⟩ := Own.shape ho2; obtain ⟨_, _, _, rfl⟩ := Own.shape ho3; obtain ⟨_, _, _, rfl⟩ := Own.shape ho4; obtain ⟨_, _, _, rfl⟩ := Own.shape ho5; obtain ⟨_, _, _, rfl⟩ := Own.shape ho6; obtain ⟨_, _, _, rfl⟩ := Own.shape ho7; obtain ⟨_, _, _, rfl⟩ := Own.shape ho8; intro w; kernel_rfl
 refine J_st (R_buildC [v1, v2, v3, v4, v5, v6, v7, v8] rfl hbl1) rfl ?_
 refine J_storeS' (cs' := [v1, v2, v3, v4, v5, v6, v7, v8]) st38 rfl rfl rfl (all_cons ho1.one (all_cons ho2.one (all_cons ho3.one (all_cons ho4.one (all_cons ho5.one (all_cons ho6.one (all_cons ho7.one (all_cons ho8.one rfl)))))))) h2 (Nat.le_of_ble_eq_true rfl) rfl (fun w12 m1 h2' => ?_)
 replace h2 := h2'
 replace E := E.step m1 (fun g hg => by cases hg; omega); replace h1 := h1.mod m1 (fun g hg => by cases hg; omega); replace ho1 := ho1.mod m1 (fun g hg => by cases hg; omega); replace ho2 := ho2.mod m1 (fun g hg => by cases hg; omega); replace ho3 := ho3.mod m1 (fun g hg => by cases hg; omega); replace ho4 := ho4.mod m1 (fun g hg => by cases hg; omega); replace ho5 := ho5.mod m1 (fun g hg => by cases hg; omega); replace ho6 := ho6.mod m1 (fun g hg => by cases hg; omega); replace ho7 := ho7.mod m1 (fun g hg => by cases hg; omega); replace ho8 := ho8.mod m1 (fun g hg => by cases hg; omega)
 have z12 := m1.size
 refine J_done ?_
 refine S_ret (E_doneC rfl rfl (run_loadVar_st st38 h2.at rfl) E ?_)
 exact ⟨_, rfl, Worker.mkO x ⟨⟨(Own.sep ho1 ho2 (by omega)), ⟨(Own.sep ho1 ho3 (by omega)), ⟨(Own.sep ho1 ho4 (by omega)), ⟨(Own.sep ho1 ho5 (by omega)), ⟨(Own.sep ho1 ho6 (by omega)), ⟨(Own.sep ho1 ho7 (by omega)), ⟨(Own.sep ho1 ho8 (by omega)), trivial⟩⟩⟩⟩⟩⟩⟩, ⟨⟨(Own.sep ho2 ho3 (by omega)), ⟨(Own.sep ho2 ho4 (by omega)), ⟨(Own.sep ho2 ho5 (by omega)), ⟨(Own.sep ho2 ho6 (by omega)), ⟨(Own.sep ho2 ho7 (by omega)), ⟨(Own.sep ho2 ho8 (by omega)), trivial⟩⟩⟩⟩⟩⟩, ⟨⟨(Own.sep ho3 ho4 (by omega)), ⟨(Own.sep ho3 ho5 (by omega)), ⟨(Own.sep ho3 ho6 (by omega)), ⟨(Own.sep ho3 ho7 (by omega)), ⟨(Own.sep ho3 ho8 (by omega)), trivial⟩⟩⟩⟩⟩, ⟨⟨(Own.sep ho4 ho5 (by omega)), ⟨(Own.sep ho4 ho6 (by omega)), ⟨(Own.sep ho4 ho7 (by omega)), ⟨(Own.sep ho4 ho8 (by omega)), trivial⟩⟩⟩⟩, ⟨⟨(Own.sep ho5 ho6 (by omega)), ⟨(Own.sep ho5 ho7 (by omega)), ⟨(Own.sep ho5 ho8 (by omega)), trivial⟩⟩⟩, ⟨⟨(Own.sep ho6 ho7 (by omega)), ⟨(Own.sep ho6 ho8 (by omega)), trivial⟩⟩, ⟨⟨(Own.sep ho7 ho8 (by omega)), trivial⟩, ⟨trivial, trivial⟩⟩⟩⟩⟩⟩⟩⟩ (Own.widen ho1 (by omega) (by omega)) (Own.widen ho2 (by omega) (by omega)) (Own.widen ho3 (by omega) (by omega)) (Own.widen ho4 (by omega) (by omega)) (Own.widen ho5 (by omega) (by omega)) (Own.widen ho6 (by omega) (by omega)) (Own.widen ho7 (by omega) (by omega)) (Own.widen ho8 (by omega) (by omega))⟩

set_option maxHeartbeats 4000000 in
set_option maxRecDepth 20000 in
theorem s_l12Copy (cx : List Value) (x : Worker) (w : World) (hx : Dat.R w 0 w.heap.size cx x) (hb : cntWorker x ≤ 1048576) : Ct Tryz.prog 21 [.agg cx.toArray] w (fun v w' => ∃ cs, v = .agg cs.toArray ∧ Own1.O w' w.heap.size w'.heap.size cs x) := by
 unfold cntWorker at hb
 refine ct_of Tryz.func21 rfl Tryz.ntmps21 rfl ?_
 obtain ⟨o1, o2, o3, o4, o5, o6, o7, o8, rfl, hd1, hd2, hd3, hd4, hd5, hd6, hd7, hd8⟩ := Worker.op hx
 refine S_sub [(0, .agg [o1, o2, o3, o4, o5, o6, o7, o8].toArray)] ⟨rfl, trivial⟩ ?_
 have E : Ext w w := Ext.refl w
 refine S_seq ?_
 refine S_reg [false, false] rfl rfl ?_
 refine J_box rfl rfl (fun b1 w1 e1 s1 h1 => ?_)
 have g_b1 : w.heap.size ≤ b1 := by have := E.size; omega
 have y_b1 := h1.lt
 replace E := E.trans e1
 have z1 := e1.size
 refine J_alloc st38 rfl (fun b2 w2 e2 s2 h2 => ?_)
 have g_b2 : w.heap.size ≤ b2 := by have := E.size; omega
 have y_b2 := h2.lt
 replace E := E.trans e2; replace h1 := h1.ext e2
 have z2 := e2.size
 refine J_done ?_
 refine S_seq ?_
 refine S_regP mixed [(1, true), (2, true), (5, true), (6, true), (9, true), (10, true), (13, true), (14, true), (17, true), (18, true), (21, true), (22, true), (25, true), (26, true), (29, true), (30, true)] [⟨0, 3, 5, [], true, none⟩, ⟨3, 6, 5, List.flatMap (Enc.enc (α := Record)) x.queue, false, some (0, 3)⟩, ⟨4, 7, 5, [], true, none⟩, ⟨7, 10, 5, List.flatMap (Enc.enc (α := Record)) x.staged, false, some (4, 7)⟩, ⟨8, 11, 5, [], true, none⟩, ⟨11, 14, 5, List.flatMap (Enc.enc (α := Record)) x.inputs, false, some (8, 11)⟩, ⟨12, 15, 4, [], true, none⟩, ⟨15, 18, 4, List.flatMap (Enc.enc (α := Cell)) x.cells, false, some (12, 15)⟩, ⟨16, 19, 1, [], true, none⟩, ⟨19, 22, 1, List.flatMap (Enc.enc (α := Int)) x.sums, false, some (16, 19)⟩, ⟨20, 23, 1, [], true, none⟩, ⟨23, 26, 1, List.flatMap (Enc.enc (α := Bool)) x.black, false, some (20, 23)⟩, ⟨24, 27, 1, [], true, none⟩, ⟨27, 30, 1, List.flatMap (Enc.enc (α := Bool)) x.caps, false, some (24, 27)⟩, ⟨28, 31, 2, [], true, none⟩, ⟨31, 34, 2, List.flatMap (Enc.enc (α := Done)) x.dones, false, some (28, 31)⟩] [(32, true), (33, false)] (by kernel_rfl) rfl rfl [(0, .agg [o1, o2, o3, o4, o5, o6, o7, o8].toArray), (1, .pointer (some ⟨b1, 0, none⟩)), (2, .pointer (some ⟨b2, 0, none⟩)), (4, .pointer (some ⟨b1, 0, none⟩)), (5, o1), (8, .pointer (some ⟨b1, 1, none⟩)), (9, o2), (12, .pointer (some ⟨b1, 2, none⟩)), (13, o3), (16, .pointer (some ⟨b1, 3, none⟩)), (17, o4), (20, .pointer (some ⟨b1, 4, none⟩)), (21, o5), (24, .pointer (some ⟨b1, 5, none⟩)), (25, o6), (28, .pointer (some ⟨b1, 6, none⟩)), (29, o7), (32, .pointer (some ⟨b1, 7, none⟩)), (33, o8)] (fun w' => Ext w w' ∧ w2.heap.size ≤ w'.heap.size ∧ Blk w' b1 ([o1, o2, o3, o4, o5, o6, o7, o8]) ∧ Blk w' b2 [.slice none 0 0, .slice none 0 0, .slice none 0 0, .slice none 0 0, .slice none 0 0, .slice none 0 0, .slice none 0 0, .slice none 0 0]) (fun w3 e3 => ?_) (fun w3 hphi_w3 => ?_)
 ·replace E := E.trans e3; replace h1 := h1.ext e3; replace h2 := h2.ext e3
  have z3 := e3.size
  refine J_st (R_fieldAddr0 fl38_0 rfl) rfl (J_st (R_load sc34 rfl (h1.one 0 rfl)) rfl (J_st (R_fieldAddr0 fl38_1 rfl) rfl (J_st (R_load sc34 rfl (h1.one 1 rfl)) rfl (J_st (R_fieldAddr0 fl38_2 rfl) rfl (J_st (R_load sc34 rfl (h1.one 2 rfl)) rfl (J_st (R_fieldAddr0 fl38_3 rfl) rfl (J_st (R_load sc35 rfl (h1.one 3 rfl)) rfl (J_st (R_fieldAddr0 fl38_4 rfl) rfl (J_st (R_load sc27 rfl (h1.one 4 rfl)) rfl (J_st (R_fieldAddr0 fl38_5 rfl) rfl (J_st (R_load sc28 rfl (h1.one 5 rfl)) rfl (J_st (R_fieldAddr0 fl38_6 rfl) rfl (J_st (R_load sc28 rfl (h1.one 6 rfl)) rfl (J_st (R_fieldAddr0 fl38_7 rfl) rfl (J_st (R_load sc36 rfl (h1.one 7 rfl)) rfl (J_cutEnd ⟨rfl, rfl, rfl, rfl, rfl, rfl, rfl, rfl, rfl, rfl, rfl, rfl, rfl, rfl, rfl, rfl, rfl, rfl, rfl, trivial⟩ ⟨E, (by omega), h1, h2⟩))))))))))))))))
 clear E h1 h2
 obtain ⟨E, z4, h1, h2⟩ := hphi_w3
 refine ⟨⟨⟨_, rfl, rfl, rfl, rfl, ?_⟩, ⟨_, rfl, rfl, rfl, rfl, ?_⟩, ⟨_, rfl, rfl, rfl, rfl, ?_⟩, ⟨_, rfl, rfl, rfl, rfl, ?_⟩, ⟨_, rfl, rfl, rfl, rfl, ?_⟩, ⟨_, rfl, rfl, rfl, rfl, ?_⟩, ⟨_, rfl, rfl, rfl, rfl, ?_⟩, ⟨_, rfl, rfl, rfl, rfl, ?_⟩, ⟨_, rfl, rfl, rfl, rfl, ?_⟩, ⟨_, rfl, rfl, rfl, rfl, ?_⟩, ⟨_, rfl, rfl, rfl, rfl, ?_⟩, ⟨_, rfl, rfl, rfl, rfl, ?_⟩, ⟨_, rfl, rfl, rfl, rfl, ?_⟩, ⟨_, rfl, rfl, rfl, rfl, ?_⟩, ⟨_, rfl, rfl, rfl, rfl, ?_⟩, ⟨_, rfl, rfl, rfl, rfl, ?_⟩, trivial⟩, fun w4 e4 => ?_⟩
 ·exact step_lit sl34
 ·exact step_app sl34 rfl (fun _ eX => RdS.src (RdS.ext (hd1.rd.ext E) eX)) (flat_one _) (by simp only [sum_flat, List.length_nil]; simp only [Enc.sz]; omega) (by decide)
 ·exact step_lit sl34
 ·exact step_app sl34 rfl (fun _ eX => RdS.src (RdS.ext (hd2.rd.ext E) eX)) (flat_one _) (by simp only [sum_flat, List.length_nil]; simp only [Enc.sz]; omega) (by decide)
 ·exact step_lit sl34
 ·exact step_app sl34 rfl (fun _ eX => RdS.src (RdS.ext (hd3.rd.ext E) eX)) (flat_one _) (by simp only [sum_flat, List.length_nil]; simp only [Enc.sz]; omega) (by decide)
 ·exact step_lit sl35
 ·exact step_app sl35 rfl (fun _ eX => RdS.src (RdS.ext (hd4.rd.ext E) eX)) (flat_one _) (by simp only [sum_flat, List.length_nil]; simp only [Enc.sz]; omega) (by decide)
 ·exact step_lit sl27
 ·exact step_app sl27 rfl (fun _ eX => RdS.src (RdS.ext (hd5.rd.ext E) eX)) (flat_one _) (by simp only [sum_flat, List.length_nil]; simp only [Enc.sz]; omega) (by decide)
 ·exact step_lit sl28
 ·exact step_app sl28 rfl (fun _ eX => RdS.src (RdS.ext (hd6.rd.ext E) eX)) (flat_one _) (by simp only [sum_flat, List.length_nil]; simp only [Enc.sz]; omega) (by decide)
 ·exact step_lit sl28
 ·exact step_app sl28 rfl (fun _ eX => RdS.src (RdS.ext (hd7.rd.ext E) eX)) (flat_one _) (by simp only [sum_flat, List.length_nil]; simp only [Enc.sz]; omega) (by decide)
 ·exact step_lit sl36
 ·exact step_app sl36 rfl (fun _ eX => RdS.src (RdS.ext (hd8.rd.ext E) eX)) (flat_one _) (by simp only [sum_flat, List.length_nil]; simp only [Enc.sz]; omega) (by decide)
 intro v1 ho1 v2 ho2 v3 ho3 v4 ho4 v5 ho5 v6 ho6 v7 ho7 v8 ho8 v9 ho9 v10 ho10 v11 ho11 v12 ho12 v13 ho13 v14 ho14 v15 ho15 v16 ho16 sp1
 replace sp1 : SepL [v2, v4, v6, v8, v10, v12, v14, v16] := sp1
 have g_sp1 : w.heap.size ≤ w3.heap.size := E.size
 replace E := E.trans e4; replace h1 := h1.ext e4; replace h2 := h2.ext e4
 have z5 := e4.size
 clear ho1
 replace ho2 : Own w4 w3.heap.size w4.heap.size 5 v2 (List.flatMap (Enc.enc (α := Record)) x.queue) := ho2
 clear ho3
 replace ho4 : Own w4 w3.heap.size w4.heap.size 5 v4 (List.flatMap (Enc.enc (α := Record)) x.staged) := ho4
 clear ho5
 replace ho6 : Own w4 w3.heap.size w4.heap.size 5 v6 (List.flatMap (Enc.enc (α := Record)) x.inputs) := ho6
 clear ho7
 replace ho8 : Own w4 w3.heap.size w4.heap.size 4 v8 (List.flatMap (Enc.enc (α := Cell)) x.cells) := ho8
 clear ho9
 replace ho10 : Own w4 w3.heap.size w4.heap.size 1 v10 (List.flatMap (Enc.enc (α := Int)) x.sums) := ho10
 clear ho11
 replace ho12 : Own w4 w3.heap.size w4.heap.size 1 v12 (List.flatMap (Enc.enc (α := Bool)) x.black) := ho12
 clear ho13
 replace ho14 : Own w4 w3.heap.size w4.heap.size 1 v14 (List.flatMap (Enc.enc (α := Bool)) x.caps) := ho14
 clear ho15
 replace ho16 : Own w4 w3.heap.size w4.heap.size 2 v16 (List.flatMap (Enc.enc (α := Done)) x.dones) := ho16
 refine J_sub [(0, .agg [o1, o2, o3, o4, o5, o6, o7, o8].toArray), (1, .pointer (some ⟨b1, 0, none⟩)), (2, .pointer (some ⟨b2, 0, none⟩)), (4, .pointer (some ⟨b1, 0, none⟩)), (5, o1), (6, v2), (8, .pointer (some ⟨b1, 1, none⟩)), (9, o2), (10, v4), (12, .pointer (some ⟨b1, 2, none⟩)), (13, o3), (14, v6), (16, .pointer (some ⟨b1, 3, none⟩)), (17, o4), (18, v8), (20, .pointer (some ⟨b1, 4, none⟩)), (21, o5), (22, v10), (24, .pointer (some ⟨b1, 5, none⟩)), (25, o6), (26, v12), (28, .pointer (some ⟨b1, 6, none⟩)), (29, o7), (30, v14), (32, .pointer (some ⟨b1, 7, none⟩)), (33, o8), (34, v16)] ⟨rfl, rfl, rfl, rfl, rfl, rfl, rfl, rfl, rfl, rfl, rfl, rfl, rfl, rfl, rfl, rfl, rfl, rfl, rfl, rfl, rfl, rfl, rfl, rfl, rfl, rfl, rfl, trivial⟩ ?_
 have hbl1 : ∀ w, (Instr.build 38 ([(0, v2), (1, v4), (2, v6), (3, v8), (4, v10), (5, v12), (6, v14), (7, v16)]).toArray).run Tryz.prog w = .ok (.agg [v2, v4, v6, v8, v10, v12, v14, v16].toArray) w := by clear E; obtain ⟨_, _, _, rfl⟩ := Own.shape ho2; obtain ⟨_, _, _, rfl⟩ := Own.shape ho4; obtain ⟨_, _, _, rfl⟩ := Own.shape ho6; obtain ⟨_, _, _, rfl⟩ := Own.shape ho8; obtain ⟨_, _, _, rfl⟩ := Own.shape ho10; obtain ⟨_, _, _, rfl⟩ := Own.shape ho12; obtain ⟨_, _, _, rfl⟩ := Own.shape ho14; obtain ⟨_, _, _, rfl⟩ := Own.shape ho16; intro w; kernel_rfl
 refine J_st (R_buildC [v2, v4, v6, v8, v10, v12, v14, v16] rfl hbl1) rfl ?_
 refine J_storeS' (cs' := [v2, v4, v6, v8, v10, v12, v14, v16]) st38 rfl rfl rfl (all_cons ho2.one (all_cons ho4.one (all_cons ho6.one (all_cons ho8.one (all_cons ho10.one (all_cons ho12.one (all_cons ho14.one (all_cons ho16.one rfl)))))))) h2 (Nat.le_of_ble_eq_true rfl) rfl (fun w5 m1 h2' => ?_)
 replace h2 := h2'
 replace E := E.step m1 (fun g hg => by cases hg; omega); replace h1 := h1.mod m1 (fun g hg => by cases hg; omega); replace ho2 := ho2.mod m1 (fun g hg => by cases hg; omega); replace ho4 := ho4.mod m1 (fun g hg => by cases hg; omega); replace ho6 := ho6.mod m1 (fun g hg => by cases hg; omega); replace ho8 := ho8.mod m1 (fun g hg => by cases hg; omega); replace ho10 := ho10.mod m1 (fun g hg => by cases hg; omega); replace ho12 := ho12.mod m1 (fun g hg => by cases hg; omega); replace ho14 := ho14.mod m1 (fun g hg => by cases hg; omega); replace ho16 := ho16.mod m1 (fun g hg => by cases hg; omega)
 have z6 := m1.size
 refine J_done ?_
 refine S_ret (E_doneC rfl rfl (run_loadVar_st st38 h2.at rfl) E ?_)
 exact ⟨_, rfl, Worker.mkO x sp1 (Own.widen ho2 (by omega) (by omega)) (Own.widen ho4 (by omega) (by omega)) (Own.widen ho6 (by omega) (by omega)) (Own.widen ho8 (by omega) (by omega)) (Own.widen ho10 (by omega) (by omega)) (Own.widen ho12 (by omega) (by omega)) (Own.widen ho14 (by omega) (by omega)) (Own.widen ho16 (by omega) (by omega))⟩

set_option maxRecDepth 20000 in
theorem markNodeS (vxs : Value) (lo hi : Nat) (xs : List Node) (k : Nat) (w : World) (hxs : OwS w lo hi vxs xs) (hhi : hi ≤ w.heap.size) (hb : k + 4 * cntL cntNode xs ≤ 1099511627776) : CtR Tryz.prog 43 [vxs, .int .i64 ((k : Nat) : Int)] w lo hi (fun v w' => v = .int .i64 ((numNs k xs : Nat) : Int) ∧ OwS w' lo hi vxs (markNs k xs)) := by
 have hmx : xs.length ≤ maxLen := hxs.rd.1.1
 unfold maxLen at hmx
 refine ctR_of Tryz.func43 rfl Tryz.ntmps43 rfl ?_
 refine S_sub [(0, vxs), (1, .int .i64 ((k : Nat) : Int))] ⟨rfl, rfl, trivial⟩ ?_
 have E : ModR w w lo hi := ModR.refl w lo hi
 refine S_seq ?_
 refine S_reg [true] rfl rfl ?_
 refine J_st (R_assign rfl) rfl (J_done ?_)
 refine S_seq ?_
 refine S_seq ?_
 refine S_reg [true] rfl rfl ?_
 refine J_st (R_assign rfl) rfl (J_done ?_)
 refine S_block ?_
 refine S_loop (fun (xq : Nat × Nat) => let ⟨i, q⟩ := xq; [(0, vxs), (1, .int .i64 ((q : Nat) : Int)), (4, .int .i64 0), (5, .int .i64 ((i : Nat) : Int))]) (fun (xq : Nat × Nat) w' => let ⟨i, q⟩ := xq; ModR w w' lo hi ∧ w.heap.size ≤ w'.heap.size ∧ i ≤ xs.length ∧ q = numNs k (xs.take i) ∧ OwS w' lo hi vxs (markNs k (xs.take i) ++ xs.drop i)) (fun (xq : Nat × Nat) => let ⟨i, q⟩ := xq; xs.length - i) (0, k) ⟨rfl, rfl, rfl, rfl, trivial⟩ ⟨E, Nat.le_refl _, Nat.zero_le _, rfl, (by simpa [markNs] using hxs)⟩ ?_
 clear E hxs
 rintro ⟨i, q⟩ w1 ⟨E, z1, hi0, hq, hxs⟩
 refine S_sub [(0, vxs), (1, .int .i64 ((q : Nat) : Int)), (4, .int .i64 0), (5, .int .i64 ((i : Nat) : Int))] ⟨rfl, rfl, rfl, rfl, trivial⟩ ?_
 refine S_seq ?_
 refine S_seq ?_
 refine S_reg [true, true, true, true] rfl rfl ?_
 refine J_st (R_move rfl) rfl (J_st (R_move rfl) rfl (J_st (R_len Tryz.underlying41 rfl (OwS.lenE (n := xs.length) hxs (by simp [markNs_length]; omega))) rfl (J_st (R_lss rfl rfl) rfl (J_done ?_))))
 refine S_cond rfl (fun hc1 => ?_) (fun hc1 => ?_)
 ·have hlt : i < xs.length := by have h := of_decide_eq_true hc1; omega
  rw [drop_split hlt] at hxs
  obtain ⟨_, ho1, hrow⟩ := OwS.focus hxs
  obtain ⟨o1, rfl, sp1, hw1⟩ := Node.opO ho1
  clear hxs
  have hl0 : (markNs k (xs.take i)).length = i := by rw [markNs_length]; simp; omega
  have hn0 : i + 1 + (xs.drop (i + 1)).length = xs.length := by simp; omega
  have hqk : q + 3 + 1 * (xs[i]'hlt).outs.length ≤ k + 4 * cntL cntNode xs := by rw [hq]; exact numNs_le hlt
  have hc1n : i < xs.length := by first | (have h := of_decide_eq_true hc1; omega) | (have h := hc1; simp at h; omega)
  refine S_skip ?_
  refine S_seq ?_
  refine S_block ?_
  refine S_seq ?_
  refine S_reg [true, true, true, true, true, false] rfl rfl ?_
  refine J_st (R_move rfl) rfl (J_st (R_move rfl) rfl (J_st (R_move rfl) rfl (J_st (R_index (i := i) sl41 rfl rfl (Row.same1 hrow hl0 hn0) (by simp; omega)) rfl (J_st (R_fieldAddr fl87_0 rfl) rfl ?_))))
  have hq1 := Row.sep hrow (u := o1) (by simp)
  have hqb := Row.blk hrow
  refine J_storeRow (i := i) (f := 0) (cs' := [.int .i64 ((q : Nat) : Int), .int .i64 ((xs[i]'hlt).a), .int .i64 ((xs[i]'hlt).b), o1]) sc3 rfl rfl rfl rfl hrow hl0 (by decide) rfl rfl (fun w2 m1 hrow' => ?_)
  replace hrow := hrow'
  replace E := E.mod m1 (fun g hg => by have := hqb g hg; omega); replace hw1 := Own.modS hw1 m1 hq1
  have z2 := m1.size
  clear hqb hq1
  refine J_done ?_
  refine S_seq ?_
  refine S_reg [true, true, true] rfl rfl ?_
  refine J_st (R_move rfl) rfl (J_st (R_add rfl rfl (add_nat (by unfold maxLen; omega))) rfl (J_st (R_assign rfl) rfl (J_done ?_)))
  refine S_seq ?_
  refine S_reg [true, true, true, true, true, false] rfl rfl ?_
  refine J_st (R_move rfl) rfl (J_st (R_move rfl) rfl (J_st (R_move rfl) rfl (J_st (R_index (i := i) sl41 rfl rfl (Row.same1 hrow hl0 hn0) (by simp; omega)) rfl (J_st (R_fieldAddr fl87_1 rfl) rfl ?_))))
  have hq2 := Row.sep hrow (u := o1) (by simp)
  have hqb := Row.blk hrow
  refine J_storeRow (i := i) (f := 1) (cs' := [.int .i64 ((q : Nat) : Int), .int .i64 ((q + 1 : Nat) : Int), .int .i64 ((xs[i]'hlt).b), o1]) sc3 rfl rfl rfl rfl hrow hl0 (by decide) rfl rfl (fun w3 m2 hrow' => ?_)
  replace hrow := hrow'
  replace E := E.mod m2 (fun g hg => by have := hqb g hg; omega); replace hw1 := Own.modS hw1 m2 hq2
  have z3 := m2.size
  clear hqb hq2
  refine J_done ?_
  refine S_seq ?_
  refine S_reg [true, true, true] rfl rfl ?_
  refine J_st (R_move rfl) rfl (J_st (R_add rfl rfl (add_nat (by unfold maxLen; omega))) rfl (J_st (R_assign rfl) rfl (J_done ?_)))
  refine S_seq ?_
  refine S_reg [true, true, true, true, true, false] rfl rfl ?_
  refine J_st (R_move rfl) rfl (J_st (R_move rfl) rfl (J_st (R_move rfl) rfl (J_st (R_index (i := i) sl41 rfl rfl (Row.same1 hrow hl0 hn0) (by simp; omega)) rfl (J_st (R_fieldAddr fl87_2 rfl) rfl ?_))))
  have hq3 := Row.sep hrow (u := o1) (by simp)
  have hqb := Row.blk hrow
  refine J_storeRow (i := i) (f := 2) (cs' := [.int .i64 ((q : Nat) : Int), .int .i64 ((q + 1 : Nat) : Int), .int .i64 ((q + 1 + 1 : Nat) : Int), o1]) sc3 rfl rfl rfl rfl hrow hl0 (by decide) rfl rfl (fun w4 m3 hrow' => ?_)
  replace hrow := hrow'
  replace E := E.mod m3 (fun g hg => by have := hqb g hg; omega); replace hw1 := Own.modS hw1 m3 hq3
  have z4 := m3.size
  clear hqb hq3
  refine J_done ?_
  refine S_seq ?_
  refine S_reg [true, true, true] rfl rfl ?_
  refine J_st (R_move rfl) rfl (J_st (R_add rfl rfl (add_nat (by unfold maxLen; omega))) rfl (J_st (R_assign rfl) rfl (J_done ?_)))
  refine S_reg [true, true, true, true, true, true, false, true] rfl rfl ?_
  refine J_st (R_move rfl) rfl (J_st (R_move rfl) rfl (J_st (R_index (i := i) sl41 rfl rfl (Row.same1 hrow hl0 hn0) (by simp; omega)) rfl (J_st (R_fieldAddr fl87_3 rfl) rfl (J_st (R_load sc27 rfl ((Row.at hrow hl0).one 3 rfl)) rfl (J_st (R_move rfl) rfl ?_)))))
  refine J_callR Tryz.call46 rfl rfl (markIntS o1 (bl o1) (bh o1) ((xs[i]'hlt).outs) (q + 1 + 1 + 1) _ (Own.tight hw1) (by first | omega | (simp only [mkL_length]; omega) | (rw [mkL_length]; done) | (simp only [mkL_length]; done))) rfl (fun _ w5 e1 hv => ?_)
  obtain ⟨rfl, hw1'⟩ := hv
  have e1c := ModR.loose e1 (Own.blk hw1)
  replace hw1 := Own.loose hw1' (Own.blk hw1)
  clear hw1'
  replace E := E.trans e1c (by omega) (by omega); replace hrow := Row.modRS hrow e1 (by simp)
  have z5 := e1c.size
  refine J_st (R_assign rfl) rfl (J_done ?_)
  refine S_nil (E_inB ?_)
  refine S_reg [true, true, true] rfl rfl ?_
  refine J_st (R_move rfl) rfl (J_st (R_add rfl rfl (add_nat (by unfold maxLen; omega))) rfl (J_st (R_assign rfl) rfl (J_done ?_)))
  have hxs := Row.close hrow (Node.mkO (⟨((q : Nat) : Int), ((q + 1 : Nat) : Int), ((q + 1 + 1 : Nat) : Int), mkL 1 mkInt (q + 1 + 1 + 1) ((xs[i]'hlt).outs).length⟩ : Node) sp1 (Own.widen hw1 (by omega) (by omega)))
  refine S_nil (E_again (i + 1, (q + 1 + 1 + 1) + 1 * ((xs[i]'hlt).outs).length) (by simp; omega) ⟨rfl, rfl, rfl, rfl, trivial⟩ ⟨E, (by omega), (by omega), (by rw [numNs_take hlt, ← hq]), (by rw [markNs_take hlt, ← hq]; exact hxs)⟩)
 ·have hc1n : ¬ i < xs.length := by first | (have h := of_decide_eq_false hc1; omega) | (have h := hc1; simp at h; omega)
  refine S_exit (E_lp_exit (E_inB_exit ?_))
  refine S_seq ?_
  refine S_reg [true, true] rfl rfl ?_
  refine J_st (R_move rfl) rfl (J_st (R_assign rfl) rfl (J_done ?_))
  refine S_ret (E_done1 rfl rfl E ?_)
  have hi9 : xs.length ≤ i := by have h := of_decide_eq_false hc1; omega
  rw [List.take_of_length_le hi9] at hq hxs
  rw [List.drop_of_length_le hi9, List.append_nil] at hxs
  exact ⟨by rw [hq], hxs⟩

set_option maxRecDepth 20000 in
theorem markGraph (ox : Value) (lo hi : Nat) (x : Graph) (k : Nat) (w : World) (hx : OwS w lo hi ox x.nodes) (hhi : hi ≤ w.heap.size) (hb : k + 4 * cntGraph x ≤ 1099511627776) : CtR Tryz.prog 12 [.agg [ox, .int .i64 x.workers, .int .i64 x.cap].toArray, .int .i64 ((k : Nat) : Int)] w lo hi (fun v w' => v = .int .i64 ((numNs k x.nodes : Nat) : Int) ∧ OwS w' lo hi ox (markNs k x.nodes)) := by
 unfold cntGraph at hb
 refine ctR_of Tryz.func12 rfl Tryz.ntmps12 rfl ?_
 refine S_sub [(0, .agg [ox, .int .i64 x.workers, .int .i64 x.cap].toArray), (1, .int .i64 ((k : Nat) : Int))] ⟨rfl, rfl, trivial⟩ ?_
 have E : ModR w w lo hi := ModR.refl w lo hi
 refine S_seq ?_
 refine S_reg [false, true] rfl rfl ?_
 refine J_box rfl rfl (fun b1 w1 e1 s1 h1 => ?_)
 have g_b1 : w.heap.size ≤ b1 := by have := E.size; omega
 have y_b1 := h1.lt
 replace E := E.ext e1; replace hx := hx.ext e1
 have z1 := e1.size
 refine J_st (R_assign rfl) rfl (J_done ?_)
 refine S_seq ?_
 refine S_reg [true, true, true, false, true] rfl rfl ?_
 refine J_st (R_fieldAddr0 fl43_0 rfl) rfl (J_st (R_load sc41 rfl (h1.one 0 rfl)) rfl (J_st (R_move rfl) rfl ?_))
 refine J_callR Tryz.call43 rfl rfl (markNodeS ox lo hi x.nodes k _ hx (by omega) (by first | omega | (simp only [mkL_length]; omega) | (rw [mkL_length]; done) | (simp only [mkL_length]; done))) rfl (fun _ w2 e2 hv => ?_)
 obtain ⟨rfl, hx'⟩ := hv
 replace hx := hx'
 replace E := E.trans e2 (by omega) (by omega); replace h1 := h1.modR e2 (by omega)
 have z2 := e2.size
 refine J_st (R_assign rfl) rfl (J_done ?_)
 refine S_seq ?_
 refine S_reg [true, true] rfl rfl ?_
 refine J_st (R_move rfl) rfl (J_st (R_assign rfl) rfl (J_done ?_))
 refine S_ret (E_done1 rfl rfl E ?_)
 exact ⟨rfl, hx⟩

set_option maxRecDepth 20000 in
theorem c_IndexFuncCell (vxs : Value) (xs : List Cell) (fp : Value) (p : Cell → Bool) (w : World) (hxs : RdS w vxs xs) (hp : PredF Tryz.prog w fp p) : Ct Tryz.prog 111 [vxs, fp] w (fun v _ => v = .int .i64 (findI xs p)) := by
 refine ct_of Tryz.func111 rfl Tryz.ntmps111 rfl ?_
 obtain ⟨fid, fs, fc, rfl, hcf, hpf⟩ := hp
 refine S_sub [(0, vxs), (1, .func (.func fid) fs.toArray fc.toArray)] ⟨rfl, rfl, trivial⟩ ?_
 have E : Ext w w := Ext.refl w
 refine S_seq ?_
 refine S_reg [true] rfl rfl ?_
 refine J_st (R_assign rfl) rfl (J_done ?_)
 refine S_seq ?_
 refine S_seq ?_
 refine S_reg [true, true, true] rfl rfl ?_
 refine J_st (R_move rfl) rfl (J_st (R_len Tryz.underlying35 rfl (hxs.ext E).len) rfl (J_st (R_move rfl) rfl (J_done ?_)))
 refine S_block ?_
 refine S_loop (fun (k : Nat) => [(0, vxs), (1, .func (.func fid) fs.toArray fc.toArray), (4, .int .i64 0), (7, .int .i64 ((xs.length : Nat) : Int)), (8, .int .i64 ((k : Nat) : Int))]) (fun (k : Nat) w' => Ext w w' ∧ w.heap.size ≤ w'.heap.size ∧ k ≤ xs.length ∧ (xs.take k).any p = false) (fun (k : Nat) => xs.length - k) 0 ⟨rfl, rfl, rfl, rfl, rfl, trivial⟩ ⟨E, Nat.le_refl _, Nat.zero_le _, rfl⟩ ?_
 clear E
 rintro k w1 ⟨E, z1, hk, hI⟩
 refine S_seq ?_
 refine S_reg [true] rfl rfl ?_
 refine J_st (R_lss rfl rfl) rfl (J_done ?_)
 refine S_seq ?_
 refine S_cond rfl (fun hc1 => ?_) (fun hc1 => ?_)
 ·have hc1n : k < xs.length := by first | (have h := of_decide_eq_true hc1; omega) | (have h := hc1; simp at h; omega)
  refine S_skip ?_
  refine S_seq ?_
  refine S_block ?_
  refine S_seq ?_
  refine S_reg [true, true] rfl rfl ?_
  refine J_st (R_move rfl) rfl (J_st (R_assign rfl) rfl (J_done ?_))
  refine S_seq ?_
  refine S_reg [true, true, true, true, true, false] rfl rfl ?_
  refine J_st (R_move rfl) rfl (J_st (R_move rfl) rfl (J_st (R_move rfl) rfl ?_))
  have hi1 : k < xs.length := (by first | assumption | omega)
  refine J_st (R_index (i := k) sl35 rfl rfl (hxs.ext E) hi1) rfl (J_st (R_loadS st102 rfl ((hxs.ext E).get hi1) rfl) rfl ?_)
  refine J_callV (fs := fs) (cs := fc) hcf rfl rfl (hpf (xs[k]'hi1) _ E) rfl (fun _ w2 e1 hv => ?_)
  subst hv
  replace E := E.trans e1
  have z2 := e1.size
  refine J_done ?_
  refine S_cond rfl (fun hc2 => ?_) (fun hc2 => ?_)
  ·refine S_seq ?_
   refine S_reg [true, true] rfl rfl ?_
   refine J_st (R_move rfl) rfl (J_st (R_assign rfl) rfl (J_done ?_))
   refine S_ret (E_inB_ret (E_lp_ret (E_inB_ret (E_done1 rfl rfl E ?_))))
   exact find_yes hI (by assumption) hc2
  ·refine S_skip ?_
   refine S_nil (E_inB ?_)
   refine S_reg [true, true] rfl rfl ?_
   refine J_st (R_add rfl rfl (add_one hc1n hxs.1)) rfl (J_st (R_move rfl) rfl (J_done ?_))
   refine S_nil (E_again (k + 1) (by omega) ⟨rfl, rfl, rfl, rfl, rfl, trivial⟩ ⟨E, (by omega), (by omega), any_step hI (by assumption) hc2⟩)
 ·have hc1n : ¬ k < xs.length := by first | (have h := of_decide_eq_false hc1; omega) | (have h := hc1; simp at h; omega)
  refine S_exit (E_lp_exit (E_inB_exit ?_))
  refine S_seq ?_
  refine S_reg [true] rfl rfl ?_
  refine J_st (R_assign rfl) rfl (J_done ?_)
  refine S_ret (E_done1 rfl rfl E ?_)
  exact find_no hI (by omega)

set_option maxRecDepth 20000 in
theorem c_DeleteFuncCell (vxs : Value) (lo hi : Nat) (xs : List Cell) (fp : Value) (p : Cell → Bool) (w : World) (hxs : Own w lo hi 4 vxs (List.flatMap (Enc.enc (α := Cell)) xs)) (hp : PredR Tryz.prog w lo hi fp p) (hhi : hi ≤ w.heap.size) : CtR Tryz.prog 105 [vxs, fp] w lo hi (fun v w' => Own w' lo w'.heap.size 4 v (List.flatMap (Enc.enc (α := Cell)) (List.filter (fun y => !(p y)) xs))) := by
 have hmx := (Own.rd (α := Cell) (by decide) hxs).1
 unfold maxLen at hmx
 refine ctR_of Tryz.func105 rfl Tryz.ntmps105 rfl ?_
 obtain ⟨fid, fs, fc, rfl, hcf, hpf⟩ := hp
 refine S_sub [(0, vxs), (1, .func (.func fid) fs.toArray fc.toArray)] ⟨rfl, rfl, trivial⟩ ?_
 have E : ModR w w lo hi := ModR.refl w lo hi
 refine S_seq ?_
 refine S_reg [true] rfl rfl ?_
 refine J_st (R_assign rfl) rfl (J_done ?_)
 refine S_seq ?_
 refine S_reg [true, true, false, true] rfl rfl ?_
 refine J_st (R_move rfl) rfl (J_st (R_move rfl) rfl ?_)
 refine J_call Tryz.call111 (by rfl) (c_IndexFuncCell vxs xs (.func (.func fid) fs.toArray fc.toArray) (p) _ (Own.rd (by decide) hxs) ⟨fid, fs, fc, rfl, hcf, fun y w' e => hpf y w' (E.ext e)⟩) rfl (fun _ w1 e1 hv => ?_)
 subst hv
 replace E := E.ext e1; replace hxs := hxs.ext e1
 have z1 := e1.size
 refine J_st (R_assign rfl) rfl (J_done ?_)
 refine S_seq ?_
 refine S_seq ?_
 refine S_reg [true, true] rfl rfl ?_
 refine J_st (R_move rfl) rfl (J_st (R_eql rfl rfl) rfl (J_done ?_))
 refine S_cond rfl (fun hc1 => ?_) (fun hc1 => ?_)
 ·refine S_seq ?_
  refine S_reg [true, true] rfl rfl ?_
  refine J_st (R_move rfl) rfl (J_st (R_assign rfl) rfl (J_done ?_))
  refine S_ret (E_done1 rfl rfl E ?_)
  exact Own.fin hxs (Nat.le_refl _) (by have := E.size; omega) (by rw [del_none (by simpa using hc1)])
 ·have hany := find_some (by simpa using hc1)
  have hfl := find_lt hany
  rw [find_eq hany]
  refine S_skip ?_
  refine S_seq ?_
  refine S_seq ?_
  refine S_reg [true, true, true] rfl rfl ?_
  refine J_st (R_move rfl) rfl (J_st (R_add rfl rfl (add_nat (by unfold maxLen; omega))) rfl (J_st (R_assign rfl) rfl (J_done ?_)))
  refine S_block ?_
  refine S_loop (fun (xq : Nat × Nat × List Cell) => let ⟨j, i, ys⟩ := xq; [(0, vxs), (1, .func (.func fid) fs.toArray fc.toArray), (4, .slice none 0 0), (5, .int .i64 ((i : Nat) : Int)), (6, .int .i64 ((j : Nat) : Int))]) (fun (xq : Nat × Nat × List Cell) w' => let ⟨j, i, ys⟩ := xq; ModR w w' lo hi ∧ w1.heap.size ≤ w'.heap.size ∧ ys.length = xs.length ∧ i < j ∧ j ≤ xs.length ∧ ys.take i = (xs.take j).filter (fun y => !p y) ∧ ys.drop j = xs.drop j ∧ Own w' lo hi 4 vxs (List.flatMap (Enc.enc (α := Cell)) ys)) (fun (xq : Nat × Nat × List Cell) => let ⟨j, i, ys⟩ := xq; xs.length - j) (xs.findIdx p + 1, xs.findIdx p, xs) ⟨rfl, rfl, rfl, rfl, rfl, trivial⟩ ⟨E, Nat.le_refl _, rfl, (by omega), (by omega), (del_start hany), rfl, hxs⟩ ?_
  clear E hxs
  rintro ⟨j, i, ys⟩ w2 ⟨E, z2, hyl, hij, hjl, hI, hD, hxs⟩
  refine S_sub [(0, vxs), (1, .func (.func fid) fs.toArray fc.toArray), (4, .slice none 0 0), (5, .int .i64 ((i : Nat) : Int)), (6, .int .i64 ((j : Nat) : Int))] ⟨rfl, rfl, rfl, rfl, rfl, trivial⟩ ?_
  refine S_seq ?_
  refine S_seq ?_
  refine S_reg [true, true, true, true] rfl rfl ?_
  refine J_st (R_move rfl) rfl (J_st (R_move rfl) rfl (J_st (R_len Tryz.underlying35 rfl (Own.lenE (by decide) hxs hyl)) rfl (J_st (R_lss rfl rfl) rfl (J_done ?_))))
  refine S_cond rfl (fun hc2 => ?_) (fun hc2 => ?_)
  ·have hc2n : j < xs.length := by first | (have h := of_decide_eq_true hc2; omega) | (have h := hc2; simp at h; omega)
   refine S_skip ?_
   refine S_seq ?_
   refine S_block ?_
   refine S_seq ?_
   refine S_reg [true, true, true, true, false, false] rfl rfl ?_
   refine J_st (R_move rfl) rfl (J_st (R_move rfl) rfl ?_)
   have hi1 : j < ys.length := (by first | assumption | omega)
   refine J_st (R_index (i := j) sl35 rfl rfl (Own.rd (by decide) hxs) hi1) rfl (J_st (R_loadS st102 rfl ((Own.rd (by decide) hxs).get hi1) rfl) rfl ?_)
   refine J_alloc st102 rfl (fun b1 w3 e2 s1 h1 => ?_)
   have g_b1 : w.heap.size ≤ b1 := by have := E.size; omega
   have y_b1 := h1.lt
   replace E := E.ext e2; replace hxs := hxs.ext e2
   have z3 := e2.size
   refine J_storeS' (cs' := [.int .i64 ((ys[j]'hi1).op), .int .i64 ((ys[j]'hi1).epoch), .int .i64 ((ys[j]'hi1).key), .int .i64 ((ys[j]'hi1).val)]) st102 rfl rfl rfl rfl h1 (Nat.le_of_ble_eq_true rfl) rfl (fun w4 m1 h1' => ?_)
   replace h1 := h1'
   replace E := E.mod m1 (fun g hg => by cases hg; omega); replace hxs := hxs.mod m1 (fun g hg => by cases hg; omega)
   have z4 := m1.size
   refine J_done ?_
   refine S_seq ?_
   refine S_reg [true, true, false, true] rfl rfl ?_
   refine J_st (R_move rfl) rfl (J_st (R_loadS st102 rfl h1.at rfl) rfl ?_)
   refine J_callV (fs := fs) (cs := fc) hcf rfl rfl (hpf (ys[j]'hi1) _ E) rfl (fun _ w5 e3 hv => ?_)
   subst hv
   replace E := E.ext e3; replace hxs := hxs.ext e3; replace h1 := h1.ext e3
   have z5 := e3.size
   refine J_st (R_not rfl) rfl (J_done ?_)
   refine S_cond rfl (fun hc3 => ?_) (fun hc3 => ?_)
   ·refine S_seq ?_
    refine S_reg [true, true, true, true, false] rfl rfl ?_
    refine J_st (R_move rfl) rfl (J_st (R_move rfl) rfl (J_st (R_loadS st102 rfl h1.at rfl) rfl ?_))
    have hi2 : i < ys.length := (by first | assumption | omega)
    refine J_st (R_index (i := i) sl35 rfl rfl (Own.rd (by decide) hxs) hi2) rfl ?_
    refine J_storeElem (α := Cell) (i := i) (ys[j]'hi1) st102 rfl rfl rfl hxs hi2 (fun w6 m2 hxs' => ?_)
    have hq := Own.blk hxs
    replace hxs := hxs'
    replace E := E.mod m2 (fun g hg => by have := hq g hg; omega); replace h1 := h1.mod m2 (fun g hg => by have := hq g hg; omega)
    have z6 := m2.size
    clear hq
    refine J_done ?_
    refine S_reg [true, true, true] rfl rfl ?_
    refine J_st (R_move rfl) rfl (J_st (R_add rfl rfl (add_nat (by unfold maxLen; omega))) rfl (J_st (R_assign rfl) rfl (J_done ?_)))
    refine S_nil (E_inB ?_)
    refine S_reg [true, true, true] rfl rfl ?_
    refine J_st (R_move rfl) rfl (J_st (R_add rfl rfl (add_nat (by unfold maxLen; omega))) rfl (J_st (R_assign rfl) rfl (J_done ?_)))
    refine S_nil (E_again (j + 1, i + 1, List.set ys i (ys[j]'hi1)) (by simp; omega) ⟨rfl, rfl, rfl, rfl, rfl, trivial⟩ ⟨E, (by omega), (by simpa using hyl), (by omega), (by omega), (del_yes1 hI hD hyl hij (by omega) (by simpa using hc3)), (del_yes2 hD hyl hij), hxs⟩)
   ·refine S_skip ?_
    refine S_nil (E_inB ?_)
    refine S_reg [true, true, true] rfl rfl ?_
    refine J_st (R_move rfl) rfl (J_st (R_add rfl rfl (add_nat (by unfold maxLen; omega))) rfl (J_st (R_assign rfl) rfl (J_done ?_)))
    refine S_nil (E_again (j + 1, i, ys) (by simp; omega) ⟨rfl, rfl, rfl, rfl, rfl, trivial⟩ ⟨E, (by omega), (by simpa using hyl), (by omega), (by omega), (del_no1 hI hD hyl hij (by omega) (by simpa using hc3)), (del_no2 hD hyl hij), hxs⟩)
  ·have hc2n : ¬ j < xs.length := by first | (have h := of_decide_eq_false hc2; omega) | (have h := hc2; simp at h; omega)
   refine S_exit (E_lp_exit (E_inB_exit ?_))
   refine S_seq ?_
   refine S_reg [true, true, true, false] rfl rfl ?_
   refine J_st (R_move rfl) rfl (J_st (R_move rfl) rfl ?_)
   have hk1 : i ≤ ys.length := by first | assumption | omega
   refine J_st (R_sliceFrom sl35 rfl rfl (Own.roomE (α := Cell) hxs) hk1) rfl ?_
   have hrm1 := Own.roomE (α := Cell) hxs
   have hq := Own.blk hxs
   refine J_clear (α := Cell) sl35 st102 rfl rfl hxs (by first | assumption | omega) (fun w7 m3 ho1 => ?_)
   replace E := E.mod m3 (fun g hg => by have := hq g hg; omega)
   have z7 := m3.size
   clear hq
   refine J_done ?_
   refine S_seq ?_
   refine S_reg [true, true, true, true] rfl rfl ?_
   refine J_st (R_move rfl) rfl (J_st (R_move rfl) rfl ?_)
   have hk2 : i ≤ ys.length := by first | assumption | omega
   refine J_st (R_sliceTo sl35 rfl rfl hrm1 hk2) rfl (J_st (R_assign rfl) rfl (J_done ?_))
   refine S_ret (E_done1 rfl rfl E ?_)
   exact Own.fin ho1 (Nat.le_refl _) (by have := E.size; omega) (by rw [del_end hI (by omega)])

set_option maxHeartbeats 4000000 in
set_option maxRecDepth 20000 in
theorem c_InsertCell (vxs : Value) (lo hi : Nat) (xs : List Cell) (i : Nat) (bqy : Nat) (y : Cell) (w : World) (hxs : Own w lo hi 4 vxs (List.flatMap (Enc.enc (α := Cell)) xs)) (hy : Blk w bqy (Enc.enc y)) (hlo : lo ≤ w.heap.size) (hhi : hi ≤ w.heap.size) (hil : i ≤ xs.length) (hyb : hi ≤ bqy) (hbd : xs.length ≤ 4194304) : CtR Tryz.prog 108 [vxs, .int .i64 ((i : Nat) : Int), .slice (some ⟨bqy, 0, none⟩) 1 1] w lo hi (fun v w' => Own w' lo w'.heap.size 4 v (List.flatMap (Enc.enc (α := Cell)) (insM xs i y))) := by
 have hyl := hy.lt
 refine ctR_of Tryz.func108 rfl Tryz.ntmps108 rfl ?_
 refine S_sub [(0, vxs), (1, .int .i64 ((i : Nat) : Int)), (2, .slice (some ⟨bqy, 0, none⟩) 1 1)] ⟨rfl, rfl, rfl, trivial⟩ ?_
 have E : ModR w w lo hi := ModR.refl w lo hi
 refine S_seq ?_
 refine S_reg [true] rfl rfl ?_
 refine J_st (R_assign rfl) rfl (J_done ?_)
 refine S_seq ?_
 refine S_reg [true, true, true] rfl rfl ?_
 refine J_st (R_move rfl) rfl (J_st (R_move rfl) rfl ?_)
 have hk1 : i ≤ xs.length := by first | assumption | omega
 refine J_st (R_sliceFrom sl35 rfl rfl (Own.roomE (α := Cell) hxs) hk1) rfl (J_done ?_)
 refine S_seq ?_
 refine S_reg [true, true, true] rfl rfl ?_
 refine J_st (R_move rfl) rfl (J_st (R_len Tryz.underlying35 rfl ⟨_, _, rfl⟩) rfl (J_st (R_assign rfl) rfl (J_done ?_)))
 refine S_seq ?_
 refine S_seq ?_
 refine S_reg [true, true] rfl rfl ?_
 refine J_st (R_move rfl) rfl (J_st (R_eql rfl rfl) rfl (J_done ?_))
 refine S_condFe rfl (by decide) ?_
 refine S_skip ?_
 refine S_seq ?_
 refine S_reg [true, true, true] rfl rfl ?_
 refine J_st (R_move rfl) rfl (J_st (R_len Tryz.underlying35 rfl (Own.len (by decide) hxs)) rfl (J_st (R_assign rfl) rfl (J_done ?_)))
 refine S_seq ?_
 refine S_seq ?_
 refine S_reg [true, true, true] rfl rfl ?_
 refine J_st (R_move rfl) rfl (J_st (R_move rfl) rfl (J_st (R_eql rfl rfl) rfl (J_done ?_)))
 refine S_cond rfl (fun hc1 => ?_) (fun hc1 => ?_)
 ·have hc1n : i = xs.length := by first | (have h := of_decide_eq_true hc1; omega) | (have h := hc1; simp at h; omega)
  refine S_seq ?_
  refine S_reg [true, true, false, true] rfl rfl ?_
  refine J_st (R_move rfl) rfl (J_st (R_move rfl) rfl ?_)
  refine J_append sl35 rfl rfl hxs (Src.ofBlk hy (by rfl)) (Enc.one _) (by simp only [sum_flat, Enc.len]; simp only [show Enc.sz Cell = 4 from rfl]; omega) (by decide) (by omega) (by omega) rfl rfl (fun v1 w1 m1 ho1 => ?_)
  replace E := E.mod m1 (fun g hg => by have := Own.blk hxs g hg; omega); replace hy := hy.mod m1 (fun g hg => by have := Own.blk hxs g hg; omega)
  have z1 := m1.size
  refine J_st (R_assign rfl) rfl (J_done ?_)
  refine S_ret (E_done1 rfl rfl E ?_)
  exact Own.fin ho1 (Nat.le_refl _) (by omega) (ins_end (by have h := hc1; simp at h; omega))
 ·have hlt : i < xs.length := by have h := hc1; simp at h; omega
  obtain ⟨g, off, cap, cur, rfl, hg1, hg2, hB, hn, hcm, hrr, hcur⟩ := Own.conc (n := xs.length) hxs (sum_flat xs) (by decide) (by omega)
  have hc1n : ¬ i = xs.length := by first | (have h := of_decide_eq_false hc1; omega) | (have h := hc1; simp at h; omega)
  refine S_skip ?_
  refine S_seq ?_
  refine S_seq ?_
  refine S_reg [true, true, true, true, true, true] rfl rfl ?_
  refine J_st (R_move rfl) rfl (J_st (R_move rfl) rfl (J_st (R_add rfl rfl (add_nat (by unfold maxLen; omega))) rfl (J_st (R_move rfl) rfl (J_st (R_cap Tryz.underlying35 rfl) rfl (J_st (R_gtr rfl rfl) rfl (J_done ?_))))))
  refine S_cond rfl (fun hc2 => ?_) (fun hc2 => ?_)
  ·have hc2n : xs.length + 1 > cap := by first | (have h := of_decide_eq_true hc2; omega) | (have h := hc2; simp at h; omega)
   refine S_seq ?_
   refine S_reg [true, true, true, true, true, true, true, true, false, true] rfl rfl ?_
   refine J_st (R_move rfl) rfl (J_st (R_move rfl) rfl (J_st (R_sliceToC sl35 rfl rfl (by omega)) rfl (J_st (R_move rfl) rfl (J_st (R_move rfl) rfl (J_st (R_add rfl rfl (add_nat (by unfold maxLen; omega))) rfl (J_st (R_move rfl) rfl (J_st (R_sub rfl rfl (nat_sub (by omega) (by unfold maxLen; omega))) rfl ?_)))))))
   refine J_appendZ sl35 Tryz.underlying3 rfl rfl (Blk.seg hB (fun j u hj => hcur j u (take_pre hj))) (by rw [sum_flat, List.length_take, Nat.min_eq_left (by omega)]; rfl) (by omega) (by omega) (by omega) (by decide) rfl (fun b2 G rest wZ eZ sZ h2 hG hGm hrl => ?_)
   have g_b2 : w.heap.size ≤ b2 := by have := E.size; omega
   have y_b2 := h2.lt
   replace E := E.ext eZ; replace hy := hy.ext eZ; replace hB := hB.ext eZ
   have z2 := eZ.size
   have hLA : (List.flatMap (Enc.enc (α := Cell)) (xs.take i)).length = i * 4 := by rw [sum_flat, List.length_take, Nat.min_eq_left (by omega)]; rfl
   refine J_st (R_assign rfl) rfl (J_done ?_)
   refine S_seq ?_
   refine S_reg [true, true, true, true, false] rfl rfl ?_
   refine J_st (R_move rfl) rfl (J_st (R_move rfl) rfl (J_st (R_sliceFromC sl35 rfl rfl (by omega) (by omega) (by omega)) rfl (J_st (R_move rfl) rfl ?_)))
   refine J_copy 1 sl35 rfl rfl (Nat.min_eq_left (by omega)) h2 (Blk.at hy) (by rfl) (Enc.one y) (by rw [Enc.len, List.length_append, hLA, hrl]; simp only [show Enc.sz Cell = 4 from rfl]; omega) rfl (fun w2 m2 h2' => ?_)
   replace h2 := h2'
   replace E := E.mod m2 (fun g hg => by cases hg; omega); replace hy := hy.mod m2 (fun g hg => by cases hg; omega); replace hB := hB.mod m2 (fun g hg => by cases hg; omega)
   have z3 := m2.size
   refine J_done ?_
   refine S_seq ?_
   refine S_regD mixed [(0, true), (1, true), (2, true), (3, true), (4, true), (5, true), (6, true), (7, true), (8, false)] (by decide +kernel) rfl (fun w3 e1 => ?_)
   replace E := E.ext e1; replace hy := hy.ext e1; replace hB := hB.ext e1; replace h2 := h2.ext e1
   have z4 := e1.size
   refine J_st (R_move rfl) rfl (J_st (R_move rfl) rfl (J_st (R_move rfl) rfl (J_st (R_add rfl rfl (add_nat (by unfold maxLen; omega))) rfl (J_st (R_sliceFromC sl35 rfl rfl (by omega) (by omega) (by omega)) rfl (J_st (R_move rfl) rfl (J_st (R_move rfl) rfl (J_st (R_sliceFromC sl35 rfl rfl (by omega) (by omega) (by omega)) rfl ?_)))))))
   refine J_copy (xs.length - i) sl35 rfl rfl (by show min _ _ = _; omega) h2 (Blk.seg hB (fun j u hj => by rw [Nat.add_assoc]; exact hcur _ u (drop_pre hj))) (by rw [sum_flat, List.length_drop]; rfl) (flat_one _) (by rw [spl_length, sum_flat, List.length_drop, List.length_append, hLA, hrl]; simp only [show Enc.sz Cell = 4 from rfl]; omega) rfl (fun w4 m3 h2' => ?_)
   replace h2 := h2'
   replace E := E.mod m3 (fun g hg => by cases hg; omega); replace hy := hy.mod m3 (fun g hg => by cases hg; omega); replace hB := hB.mod m3 (fun g hg => by cases hg; omega)
   have z5 := m3.size
   refine J_done ?_
   refine S_seq ?_
   refine S_reg [true, true] rfl rfl ?_
   refine J_st (R_move rfl) rfl (J_st (R_assign rfl) rfl (J_done ?_))
   refine S_ret (E_done1 rfl rfl E ?_)
   have hLC : (List.flatMap (Enc.enc (α := Cell)) (xs.drop i)).length = (xs.length - i) * 4 := by rw [sum_flat, List.length_drop]; rfl
   have hLB : (Enc.enc y).length = 4 := rfl
   exact Own.of h2 (by omega) h2.lt (by omega) hGm (by rw [spl_length, spl_length, List.length_append, hLA, hrl]; omega) (by rw [insM_flat]; simp only [List.length_append, hLA, hLB, hLC]; omega) (by rw [insM_flat]; exact ins_rowE (by omega) (by omega) (fun j u hj => by rw [Nat.zero_add, List.getElem?_append_left (List.getElem?_eq_some_iff.1 hj).1]; exact hj) (by rw [List.length_append, hLA, hLB, hLC, hrl]; omega))
  ·have hc2n : ¬ xs.length + 1 > cap := by first | (have h := of_decide_eq_false hc2; omega) | (have h := hc2; simp at h; omega)
   refine S_skip ?_
   refine S_seq ?_
   refine S_reg [true, true, true, true, true, true] rfl rfl ?_
   refine J_st (R_move rfl) rfl (J_st (R_move rfl) rfl (J_st (R_move rfl) rfl (J_st (R_add rfl rfl (add_nat (by unfold maxLen; omega))) rfl (J_st (R_sliceToC sl35 rfl rfl (by omega)) rfl (J_st (R_assign rfl) rfl (J_done ?_))))))
   refine S_seq ?_
   refine S_seq ?_
   refine S_reg [true, true, true, true, true, true, false, true] rfl rfl ?_
   refine J_st (R_move rfl) rfl (J_st (R_move rfl) rfl (J_st (R_move rfl) rfl (J_st (R_move rfl) rfl (J_st (R_add rfl rfl (add_nat (by unfold maxLen; omega))) rfl (J_st (R_sliceFromC sl35 rfl rfl (by omega) (by omega) (by omega)) rfl ?_)))))
   have hov : (callFunc 112 ([.slice (some ⟨bqy, 0, none⟩) 1 1, .slice (some ⟨g, off + (i + 1) * 4, none⟩) ((xs.length + 1) - (i + 1)) (cap - (i + 1))]).toArray).run Tryz.prog w = .ok (.value (.bool false)) w := by rw [run_callFunc_extern Tryz.func112 (by kernel_rfl) (by kernel_rfl) (by kernel_rfl) (e := Extern.SlicesOverlaps.overlaps #[35, 35] #[4]) (by kernel_rfl)]; show ((Extern.SlicesOverlaps.overlaps #[35, 35] #[4] #[.slice (some ⟨bqy, 0, none⟩) 1 1, .slice (some ⟨g, off + (i + 1) * 4, none⟩) ((xs.length + 1) - (i + 1)) (cap - (i + 1))]).run Tryz.prog w).andThen _ = _; rw [run_ov sl35 st102.size hy hB (by omega) (by omega)]; rfl
   refine J_extern (vs := [.slice (some ⟨bqy, 0, none⟩) 1 1, .slice (some ⟨g, off + (i + 1) * 4, none⟩) ((xs.length + 1) - (i + 1)) (cap - (i + 1))]) rfl hov rfl ?_
   refine J_st (R_not rfl) rfl (J_done ?_)
   refine S_condTe rfl (by first | (simp; done) | (simp only [nat_nlt] <;> simp) | (simp only [mkL_length, nat_nlt] <;> simp) | (simp only [mkL_length] <;> simp)) ?_
   refine S_seq ?_
   refine S_regD mixed [(0, true), (1, true), (2, true), (3, true), (4, true), (5, true), (6, true), (7, true), (8, false)] (by decide +kernel) rfl (fun w5 e2 => ?_)
   replace E := E.ext e2; replace hy := hy.ext e2; replace hB := hB.ext e2
   have z6 := e2.size
   refine J_st (R_move rfl) rfl (J_st (R_move rfl) rfl (J_st (R_move rfl) rfl (J_st (R_add rfl rfl (add_nat (by unfold maxLen; omega))) rfl (J_st (R_sliceFromC sl35 rfl rfl (by omega) (by omega) (by omega)) rfl (J_st (R_move rfl) rfl (J_st (R_move rfl) rfl (J_st (R_sliceFromC sl35 rfl rfl (by omega) (by omega) (by omega)) rfl ?_)))))))
   refine J_copy (xs.length - i) sl35 rfl rfl (by show min _ _ = _; omega) hB (Blk.seg hB (fun j u hj => by rw [Nat.add_assoc]; exact hcur _ u (drop_pre hj))) (by rw [sum_flat, List.length_drop]; rfl) (flat_one _) (by rw [sum_flat, List.length_drop]; simp only [show Enc.sz Cell = 4 from rfl]; omega) rfl (fun w6 m4 hB' => ?_)
   replace hB := hB'
   replace E := E.mod m4 (fun g hg => by cases hg; omega); replace hy := hy.mod m4 (fun g hg => by cases hg; omega)
   have z7 := m4.size
   refine J_done ?_
   refine S_seq ?_
   refine S_reg [true, true, true, true, false] rfl rfl ?_
   refine J_st (R_move rfl) rfl (J_st (R_move rfl) rfl (J_st (R_sliceFromC sl35 rfl rfl (by omega) (by omega) (by omega)) rfl (J_st (R_move rfl) rfl ?_)))
   refine J_copy 1 sl35 rfl rfl (Nat.min_eq_left (by omega)) hB (Blk.at hy) (by rfl) (Enc.one y) (by rw [spl_length, Enc.len]; simp only [show Enc.sz Cell = 4 from rfl]; omega) rfl (fun w7 m5 hB' => ?_)
   replace hB := hB'
   replace E := E.mod m5 (fun g hg => by cases hg; omega); replace hy := hy.mod m5 (fun g hg => by cases hg; omega)
   have z8 := m5.size
   refine J_done ?_
   refine S_seq ?_
   refine S_reg [true, true] rfl rfl ?_
   refine J_st (R_move rfl) rfl (J_st (R_assign rfl) rfl (J_done ?_))
   refine S_ret (E_done1 rfl rfl E ?_)
   have hLA : (List.flatMap (Enc.enc (α := Cell)) (xs.take i)).length = i * 4 := by rw [sum_flat, List.length_take, Nat.min_eq_left (by omega)]; rfl
   have hLC : (List.flatMap (Enc.enc (α := Cell)) (xs.drop i)).length = (xs.length - i) * 4 := by rw [sum_flat, List.length_drop]; rfl
   have hLB : (Enc.enc y).length = 4 := rfl
   exact Own.of hB hg1 (by omega) (by omega) hcm (by rw [spl_length, spl_length]; exact hrr) (by rw [insM_flat]; simp only [List.length_append, hLA, hLB, hLC]; omega) (by rw [insM_flat]; exact ins_row2E (by omega) (by omega) (fun j u hj => hcur j u (take_pre hj)) (by rw [hLA, hLB, hLC]; omega))

set_option maxRecDepth 20000 in
theorem c_PutCell (vxs : Value) (xs : List Cell) (x : Cell) (w : World) (hxs : RdS w vxs xs) (hb : xs.length ≤ 4194304) : Ct Tryz.prog 98 [vxs, .agg (Enc.enc x).toArray] w (fun v w' => Own w' w.heap.size w'.heap.size 4 v (List.flatMap (Enc.enc (α := Cell)) (putM xs x))) := by
 refine ct_of Tryz.func98 rfl Tryz.ntmps98 rfl ?_
 refine S_sub [(0, vxs), (1, .agg (Enc.enc x).toArray)] ⟨rfl, rfl, trivial⟩ ?_
 have E : Ext w w := Ext.refl w
 refine S_seq ?_
 refine S_reg [false, true] rfl rfl ?_
 refine J_box rfl rfl (fun b1 w1 e1 s1 h1 => ?_)
 have g_b1 : w.heap.size ≤ b1 := by have := E.size; omega
 have y_b1 := h1.lt
 replace E := E.trans e1
 have z1 := e1.size
 refine J_st (R_assign rfl) rfl (J_done ?_)
 refine S_seq ?_
 refine S_reg [true, false, true] rfl rfl ?_
 refine J_st (R_move rfl) rfl ?_
 refine J_call Tryz.call70 rfl (c_copyCells vxs xs _ (hxs.ext E) (by first | omega | (simp only [mkL_length]; omega) | (rw [mkL_length]; done) | (simp only [mkL_length]; done))) rfl (fun v1 w2 e2 ho1 => ?_)
 have g_ho1 : w.heap.size ≤ w1.heap.size := E.size
 replace E := E.trans e2; replace h1 := h1.ext e2
 have z2 := e2.size
 refine J_st (R_assign rfl) rfl (J_done ?_)
 refine S_seq ?_
 refine S_seq ?_
 refine S_reg [true, true, false] rfl rfl ?_
 refine J_st (R_move rfl) rfl (J_st (R_loadS st102 rfl h1.at rfl) rfl ?_)
 refine J_call Tryz.call99 rfl (c_HasCell vxs xs x _ (hxs.ext E)) rfl (fun _ w3 e3 hv => ?_)
 subst hv
 replace E := E.trans e3; replace h1 := h1.ext e3; replace ho1 := ho1.ext e3
 have z3 := e3.size
 refine J_done ?_
 refine S_cond rfl (fun hc1 => ?_) (fun hc1 => ?_)
 ·refine S_seq ?_
  refine S_reg [true, true] rfl rfl ?_
  refine J_st (R_move rfl) rfl (J_st (R_assign rfl) rfl (J_done ?_))
  refine S_ret (E_done1 rfl rfl E ?_)
  exact Own.fin ho1 (by omega) (by omega) (by simp only [putM_yes hc1, List.nil_append])
 ·refine S_skip ?_
  refine S_seq ?_
  refine S_reg [true] rfl rfl ?_
  refine J_st (R_assign rfl) rfl (J_done ?_)
  refine S_seq ?_
  refine S_block ?_
  refine S_loop (fun (k : Nat) => [(0, vxs), (3, .pointer (some ⟨b1, 0, none⟩)), (4, .slice none 0 0), (5, v1), (6, .int .i64 ((k : Nat) : Int))]) (fun (k : Nat) w' => Ext w w' ∧ w3.heap.size ≤ w'.heap.size ∧ Blk w' b1 (Enc.enc x) ∧ Own w' w1.heap.size w2.heap.size 4 v1 (List.flatMap (Enc.enc (α := Cell)) xs) ∧ k ≤ xs.length ∧ (xs.take k).all (putLt x) = true) (fun (k : Nat) => xs.length - k) 0 ⟨rfl, rfl, rfl, rfl, rfl, trivial⟩ ⟨E, Nat.le_refl _, h1, ho1, Nat.zero_le _, rfl⟩ ?_
  clear E h1 ho1
  rintro k w4 ⟨E, z4, h1, ho1, hk, hI⟩
  refine S_seq ?_
  refine S_seq ?_
  refine S_regD mixed [(0, true), (1, true), (2, true), (3, true), (4, true), (5, true), (6, true), (7, true), (8, true), (9, true), (10, false), (11, true), (12, true)] (by decide +kernel) rfl (fun w5 e4 => ?_)
  replace E := E.trans e4; replace h1 := h1.ext e4; replace ho1 := ho1.ext e4
  have z5 := e4.size
  refine J_st (R_move rfl) rfl (J_st (R_move rfl) rfl (J_st (R_len Tryz.underlying35 rfl (hxs.ext E).len) rfl (J_st (R_lss rfl rfl) rfl (J_st (R_move rfl) rfl ?_))))
  refine J_cut 8 [(0, vxs), (3, .pointer (some ⟨b1, 0, none⟩)), (4, .slice none 0 0), (5, v1), (6, .int .i64 ((k : Nat) : Int)), (25, .bool ((decide (((k : Nat) : Int) < ((xs.length : Nat) : Int))) && (decide ((cellOrd (List.getD xs k default) x) < 0))))] (fun w' => Ext w w' ∧ w5.heap.size ≤ w'.heap.size ∧ Blk w' b1 (Enc.enc x) ∧ Own w' w1.heap.size w2.heap.size 4 v1 (List.flatMap (Enc.enc (α := Cell)) xs)) ?_ ?_
  ·refine J_if (gd := 17) rfl rfl (fun hg1 => ?_) (fun hg1 => ?_)
   ·have hg1n : k < xs.length := by first | (have h := of_decide_eq_true hg1; omega) | (have h := hg1; simp at h; omega)
    refine J_gd rfl rfl (R_move rfl) rfl (J_gd rfl rfl (R_move rfl) rfl (J_gd rfl rfl (R_index (i := k) sl35 rfl rfl (hxs.ext E) (by first | assumption | omega)) rfl (J_gd rfl rfl (R_loadS st102 rfl (RdS.getD (hxs.ext E) (i := k) (by first | assumption | omega)) rfl) rfl (J_gd rfl rfl (R_loadS st102 rfl h1.at rfl) rfl ?_))))
    refine J_ung rfl rfl ?_
    refine J_call Tryz.call92 rfl (c_CellOrder (List.getD xs k default) x _ ) rfl (fun _ w7 e5 hv => ?_)
    subst hv
    replace E := E.trans e5; replace h1 := h1.ext e5; replace ho1 := ho1.ext e5
    have z6 := e5.size
    refine J_gd rfl rfl (R_lss rfl rfl) rfl (J_st (R_pickT rfl rfl) rfl (J_cutEnd ⟨rfl, rfl, rfl, rfl, rfl, congrArg (fun b => some (Value.bool b)) (show (decide ((cellOrd (List.getD xs k default) x) < 0)) = ((decide (((k : Nat) : Int) < ((xs.length : Nat) : Int))) && (decide ((cellOrd (List.getD xs k default) x) < 0))) by first | (rw [hg1] <;> rfl) | (simp [hg1]; done) | (simp only [nat_nlt] <;> simp)), trivial⟩ ⟨E, (by omega), h1, ho1⟩))
   ·have hg1n : ¬ k < xs.length := by first | (have h := of_decide_eq_false hg1; omega) | (have h := hg1; simp at h; omega)
    refine J_gdno rfl rfl rfl rfl (J_gdno rfl rfl rfl rfl (J_gdno rfl rfl rfl rfl (J_gdno rfl rfl rfl rfl (J_gdno rfl rfl rfl rfl ?_))))
    refine J_ungno rfl rfl rfl rfl ?_
    refine J_gdno rfl rfl rfl rfl (J_st (R_pickF rfl rfl) rfl (J_cutEnd ⟨rfl, rfl, rfl, rfl, rfl, congrArg (fun b => some (Value.bool b)) (show false = ((decide (((k : Nat) : Int) < ((xs.length : Nat) : Int))) && (decide ((cellOrd (List.getD xs k default) x) < 0))) by first | (rw [hg1] <;> rfl) | (simp [hg1]; done) | (simp only [nat_nlt] <;> simp)), trivial⟩ ⟨E, (by omega), h1, ho1⟩))
  clear E h1 ho1
  rintro w6 ⟨E, z7, h1, ho1⟩
  refine J_done ?_
  refine S_cond rfl (fun hc2 => ?_) (fun hc2 => ?_)
  ·have hlt := put_lt hc2
   refine S_skip ?_
   refine S_block ?_
   refine S_reg [true, true, true] rfl rfl ?_
   refine J_st (R_move rfl) rfl (J_st (R_add rfl rfl (add_nat (by unfold maxLen; omega))) rfl (J_st (R_assign rfl) rfl (J_done ?_)))
   refine S_nil (E_inB ?_)
   refine S_nil (E_again (k + 1) (by omega) ⟨rfl, rfl, rfl, rfl, rfl, trivial⟩ ⟨E, (by omega), h1, ho1, (by omega), (put_step hI hc2)⟩)
  ·refine S_exit (E_lp_exit (E_inB_exit ?_))
   refine S_seq ?_
   refine S_reg [true, true, true, false, false, true] rfl rfl ?_
   refine J_st (R_move rfl) rfl (J_st (R_move rfl) rfl (J_st (R_loadS st102 rfl h1.at rfl) rfl ?_))
   refine J_buildSlice (vs := [.agg (Enc.enc x).toArray]) (css := [[.int .i64 x.op, .int .i64 x.epoch, .int .i64 x.key, .int .i64 x.val]]) sl35 rfl rfl ⟨⟨rfl, rfl⟩, trivial⟩ rfl rfl (fun b2 w8 e6 s2 h2 => ?_)
   replace h2 : Blk w8 b2 [.int .i64 x.op, .int .i64 x.epoch, .int .i64 x.key, .int .i64 x.val] := h2
   have g_b2 : w.heap.size ≤ b2 := by have := E.size; omega
   have y_b2 := h2.lt
   replace E := E.trans e6; replace h1 := h1.ext e6; replace ho1 := ho1.ext e6
   have z8 := e6.size
   refine J_callR Tryz.call108 rfl (by rfl) (c_InsertCell v1 w1.heap.size w2.heap.size xs k b2 x _ ho1 h2 (by omega) (by omega) (by omega) (by omega) (by omega)) rfl (fun v2 w9 e7 ho2 => ?_)
   replace E := E.stepR e7 (by omega); replace h1 := h1.modR e7 (by omega); replace h2 := h2.modR e7 (by omega)
   have z9 := e7.size
   refine J_st (R_assign rfl) rfl (J_done ?_)
   refine S_ret (E_done1 rfl rfl E ?_)
   exact Own.fin ho2 (by omega) (by omega) (by rw [putM_no hc1 hI hk hc2])

set_option maxHeartbeats 4000000 in
set_option maxRecDepth 20000 in
theorem s_PutCell (vxs : Value) (xs : List Cell) (x : Cell) (w : World) (hxs : RdS w vxs xs) (hb : xs.length ≤ 4194304) : Ct Tryz.prog 89 [vxs, .agg (Enc.enc x).toArray] w (fun v w' => Own w' w.heap.size w'.heap.size 4 v (List.flatMap (Enc.enc (α := Cell)) (putM xs x))) := by
 refine ct_of Tryz.func89 rfl Tryz.ntmps89 rfl ?_
 refine S_sub [(0, vxs), (1, .agg (Enc.enc x).toArray)] ⟨rfl, rfl, trivial⟩ ?_
 have E : Ext w w := Ext.refl w
 refine S_seq ?_
 refine S_reg [false, true] rfl rfl ?_
 refine J_box rfl rfl (fun b1 w1 e1 s1 h1 => ?_)
 have g_b1 : w.heap.size ≤ b1 := by have := E.size; omega
 have y_b1 := h1.lt
 replace E := E.trans e1
 have z1 := e1.size
 refine J_st (R_assign rfl) rfl (J_done ?_)
 refine S_seq ?_
 refine S_seq ?_
 refine S_reg [true, true, false] rfl rfl ?_
 refine J_st (R_move rfl) rfl (J_st (R_loadS st102 rfl h1.at rfl) rfl ?_)
 refine J_call Tryz.call88 rfl (s_HasCell vxs xs x _ (hxs.ext E)) rfl (fun _ w2 e2 hv => ?_)
 subst hv
 replace E := E.trans e2; replace h1 := h1.ext e2
 have z2 := e2.size
 refine J_done ?_
 refine S_cond rfl (fun hc1 => ?_) (fun hc1 => ?_)
 ·refine S_seq ?_
  refine S_reg [false, true, false, true] rfl rfl ?_
  refine J_buildSlice (vs := []) (css := []) sl35 rfl rfl trivial rfl rfl (fun b2 w3 e3 s2 h2 => ?_)
  replace h2 : Blk w3 b2 [] := h2
  have g_b2 : w.heap.size ≤ b2 := by have := E.size; omega
  have y_b2 := h2.lt
  replace E := E.trans e3; replace h1 := h1.ext e3
  have z3 := e3.size
  refine J_st (R_move rfl) rfl ?_
  refine J_append sl35 rfl rfl (Own.ofBlk (lo := b2) (hi := b2 + 1) (sz := 4) h2 (Nat.le_refl _) (Nat.lt_succ_self _) (by simp) (by simp [maxLen])) (RdS.src (hxs.ext E)) (flat_one _) (by simp only [sum_flat, List.length_nil, List.length_append, List.length_take, List.length_drop, List.length_cons]; simp only [Enc.sz]; omega) (by decide) (by omega) (by omega) rfl rfl (fun v1 w4 m1 ho1 => ?_)
  replace E := E.step m1 (fun g hg => by have := Own.blk (Own.ofBlk (lo := b2) (hi := b2 + 1) (sz := 4) h2 (Nat.le_refl _) (Nat.lt_succ_self _) (by simp) (by simp [maxLen])) g hg; omega); replace h1 := h1.mod m1 (fun g hg => by have := Own.blk (Own.ofBlk (lo := b2) (hi := b2 + 1) (sz := 4) h2 (Nat.le_refl _) (Nat.lt_succ_self _) (by simp) (by simp [maxLen])) g hg; omega)
  have z4 := m1.size
  refine J_st (R_assign rfl) rfl (J_done ?_)
  refine S_ret (E_done1 rfl rfl E ?_)
  exact Own.fin ho1 (by omega) (by omega) (by simp only [putM_yes hc1, List.nil_append])
 ·refine S_skip ?_
  refine S_seq ?_
  refine S_reg [true] rfl rfl ?_
  refine J_st (R_assign rfl) rfl (J_done ?_)
  refine S_seq ?_
  refine S_block ?_
  refine S_loop (fun (k : Nat) => [(0, vxs), (3, .pointer (some ⟨b1, 0, none⟩)), (4, .slice none 0 0), (5, .int .i64 ((k : Nat) : Int))]) (fun (k : Nat) w' => Ext w w' ∧ w2.heap.size ≤ w'.heap.size ∧ Blk w' b1 (Enc.enc x) ∧ k ≤ xs.length ∧ (xs.take k).all (putLt x) = true) (fun (k : Nat) => xs.length - k) 0 ⟨rfl, rfl, rfl, rfl, trivial⟩ ⟨E, Nat.le_refl _, h1, Nat.zero_le _, rfl⟩ ?_
  clear E h1
  rintro k w5 ⟨E, z5, h1, hk, hI⟩
  refine S_seq ?_
  refine S_seq ?_
  refine S_regD mixed [(0, true), (1, true), (2, true), (3, true), (4, true), (5, true), (6, true), (7, true), (8, true), (9, true), (10, false), (11, true), (12, true)] (by decide +kernel) rfl (fun w6 e4 => ?_)
  replace E := E.trans e4; replace h1 := h1.ext e4
  have z6 := e4.size
  refine J_st (R_move rfl) rfl (J_st (R_move rfl) rfl (J_st (R_len Tryz.underlying35 rfl (hxs.ext E).len) rfl (J_st (R_lss rfl rfl) rfl (J_st (R_move rfl) rfl ?_))))
  refine J_cut 8 [(0, vxs), (3, .pointer (some ⟨b1, 0, none⟩)), (4, .slice none 0 0), (5, .int .i64 ((k : Nat) : Int)), (25, .bool ((decide (((k : Nat) : Int) < ((xs.length : Nat) : Int))) && (decide ((cellOrd (List.getD xs k default) x) < 0))))] (fun w' => Ext w w' ∧ w6.heap.size ≤ w'.heap.size ∧ Blk w' b1 (Enc.enc x)) ?_ ?_
  ·refine J_if (gd := 17) rfl rfl (fun hg1 => ?_) (fun hg1 => ?_)
   ·have hg1n : k < xs.length := by first | (have h := of_decide_eq_true hg1; omega) | (have h := hg1; simp at h; omega)
    refine J_gd rfl rfl (R_move rfl) rfl (J_gd rfl rfl (R_move rfl) rfl (J_gd rfl rfl (R_index (i := k) sl35 rfl rfl (hxs.ext E) (by first | assumption | omega)) rfl (J_gd rfl rfl (R_loadS st102 rfl (RdS.getD (hxs.ext E) (i := k) (by first | assumption | omega)) rfl) rfl (J_gd rfl rfl (R_loadS st102 rfl h1.at rfl) rfl ?_))))
    refine J_ung rfl rfl ?_
    refine J_call Tryz.call85 rfl (s_CellOrder (List.getD xs k default) x _ ) rfl (fun _ w8 e5 hv => ?_)
    subst hv
    replace E := E.trans e5; replace h1 := h1.ext e5
    have z7 := e5.size
    refine J_gd rfl rfl (R_lss rfl rfl) rfl (J_st (R_pickT rfl rfl) rfl (J_cutEnd ⟨rfl, rfl, rfl, rfl, congrArg (fun b => some (Value.bool b)) (show (decide ((cellOrd (List.getD xs k default) x) < 0)) = ((decide (((k : Nat) : Int) < ((xs.length : Nat) : Int))) && (decide ((cellOrd (List.getD xs k default) x) < 0))) by first | (rw [hg1] <;> rfl) | (simp [hg1]; done) | (simp only [nat_nlt] <;> simp)), trivial⟩ ⟨E, (by omega), h1⟩))
   ·have hg1n : ¬ k < xs.length := by first | (have h := of_decide_eq_false hg1; omega) | (have h := hg1; simp at h; omega)
    refine J_gdno rfl rfl rfl rfl (J_gdno rfl rfl rfl rfl (J_gdno rfl rfl rfl rfl (J_gdno rfl rfl rfl rfl (J_gdno rfl rfl rfl rfl ?_))))
    refine J_ungno rfl rfl rfl rfl ?_
    refine J_gdno rfl rfl rfl rfl (J_st (R_pickF rfl rfl) rfl (J_cutEnd ⟨rfl, rfl, rfl, rfl, congrArg (fun b => some (Value.bool b)) (show false = ((decide (((k : Nat) : Int) < ((xs.length : Nat) : Int))) && (decide ((cellOrd (List.getD xs k default) x) < 0))) by first | (rw [hg1] <;> rfl) | (simp [hg1]; done) | (simp only [nat_nlt] <;> simp)), trivial⟩ ⟨E, (by omega), h1⟩))
  clear E h1
  rintro w7 ⟨E, z8, h1⟩
  refine J_done ?_
  refine S_cond rfl (fun hc2 => ?_) (fun hc2 => ?_)
  ·have hlt := put_lt hc2
   refine S_skip ?_
   refine S_block ?_
   refine S_reg [true, true, true] rfl rfl ?_
   refine J_st (R_move rfl) rfl (J_st (R_add rfl rfl (add_nat (by unfold maxLen; omega))) rfl (J_st (R_assign rfl) rfl (J_done ?_)))
   refine S_nil (E_inB ?_)
   refine S_nil (E_again (k + 1) (by omega) ⟨rfl, rfl, rfl, rfl, trivial⟩ ⟨E, (by omega), h1, (by omega), (put_step hI hc2)⟩)
  ·refine S_exit (E_lp_exit (E_inB_exit ?_))
   refine S_seq ?_
   have hk1 : k ≤ xs.length := by first | assumption | omega
   have hs1 : RdS (α := Cell) w (slTo vxs k) (List.take k xs) := RdL.slTo hxs hk1
   refine S_regF mixed [7] 6 34 [33] [(1, true), (2, true), (3, true), (5, true)] [(0, false), (4, false)] [(7, false), (8, true)] (fun b => .slice (some ⟨b, 0, none⟩) 1 1) (z := [.int .i64 x.op, .int .i64 x.epoch, .int .i64 x.key, .int .i64 x.val]) (by decide +kernel) rfl rfl rfl rfl rfl rfl rfl [(0, vxs), (3, .pointer (some ⟨b1, 0, none⟩)), (4, .slice none 0 0), (5, .int .i64 ((k : Nat) : Int)), (25, .bool ((decide (((k : Nat) : Int) < ((xs.length : Nat) : Int))) && (decide ((cellOrd (List.getD xs k default) x) < 0)))), (29, vxs), (30, .int .i64 ((k : Nat) : Int)), (31, slTo vxs k), (33, .agg (Enc.enc x).toArray)] [(33, .agg (Enc.enc x).toArray)] rfl ⟨rfl, trivial⟩ (fun w' => Ext w w' ∧ w7.heap.size ≤ w'.heap.size ∧ Blk w' b1 (Enc.enc x)) (float_lit1 sl35 rfl rfl rfl rfl) (fun w9 e6 => ?_) (fun w9 hphi_w9 => ?_)
   ·replace E := E.trans e6; replace h1 := h1.ext e6
    have z9 := e6.size
    refine J_st (R_move rfl) rfl (J_st (R_move rfl) rfl ?_)
    refine J_st (R_sliceTo sl35 rfl rfl (RdL.room (hxs.ext E)) hk1) rfl (J_st (R_loadS st102 rfl h1.at rfl) rfl (J_cutEnd ⟨rfl, rfl, rfl, rfl, rfl, rfl, rfl, rfl, rfl, trivial⟩ ⟨E, (by omega), h1⟩))
   clear E h1
   obtain ⟨E, z10, h1⟩ := hphi_w9
   refine JI_un rfl (fun w10 e7 => ?_) rfl
   replace E := E.trans e7; replace h1 := h1.ext e7
   have z11 := e7.size
   refine J_buildSlice (vs := []) (css := []) sl35 rfl rfl trivial rfl rfl (fun b3 w11 e8 s3 h3 => ?_)
   replace h3 : Blk w11 b3 [] := h3
   have g_b3 : w.heap.size ≤ b3 := by have := E.size; omega
   have y_b3 := h3.lt
   replace E := E.trans e8; replace h1 := h1.ext e8
   have z12 := e8.size
   refine JI_go2 ?_
   refine JI_un rfl (fun w12 e9 => ?_) rfl
   replace E := E.trans e9; replace h1 := h1.ext e9; replace h3 := h3.ext e9
   have z13 := e9.size
   refine J_appendD sl35 rfl rfl (Own.ofBlk (lo := b3) (hi := b3 + 1) (sz := 4) h3 (Nat.le_refl _) (Nat.lt_succ_self _) (by simp) (by simp [maxLen])) ⟨_, _, rfl⟩ (RdS.src (hs1.ext E)) (flat_one _) (by simp only [sum_flat, List.length_nil, List.length_append, List.length_take, List.length_drop, List.length_cons]; simp only [Enc.sz]; omega) (by decide) (by omega) (by omega) rfl (fun v2 w13 e10 ho2 hb_ho2 => ?_)
   replace E := E.trans e10; replace h1 := h1.ext e10
   have z14 := e10.size
   have g_ho2 : w.heap.size ≤ b3 := by have := E.size; omega
   have hn1 : ∀ g, Value.ownBlock v2 = some g → g = b3 ∨ w12.heap.size ≤ g := fun g hg => (hb_ho2 g hg).elim (fun h => .inl (by cases h; rfl)) (fun h => .inr h)
   replace ho2 : Own w13 b3 w13.heap.size 4 v2 (List.flatMap (Enc.enc (α := Cell)) (List.take k xs)) := ho2
   refine JI_go2 ?_
   refine JI_end rfl (fun b4 w14 e11 g1 y1 h4 hI1 => ?_)
   have hI1_0 : b4 < w10.heap.size ∨ w11.heap.size ≤ b4 := hI1 (_, _) (by simp)
   have hI1_1 : b4 < w12.heap.size ∨ w13.heap.size ≤ b4 := hI1 (_, _) (by simp)
   replace E := E.trans e11; replace h1 := h1.ext e11; replace ho2 := ho2.ext e11
   have z15 := e11.size
   have g_b4 : w.heap.size ≤ b4 := by have := E.size; omega
   have y_b4 := h4.lt
   refine J2_sub [(0, vxs), (3, .pointer (some ⟨b1, 0, none⟩)), (4, .slice none 0 0), (5, .int .i64 ((k : Nat) : Int)), (25, .bool ((decide (((k : Nat) : Int) < ((xs.length : Nat) : Int))) && (decide ((cellOrd (List.getD xs k default) x) < 0)))), (28, .slice (some ⟨b3, 0, none⟩) 0 0), (29, vxs), (30, .int .i64 ((k : Nat) : Int)), (31, slTo vxs k), (32, v2), (33, .agg (Enc.enc x).toArray), (34, .slice (some ⟨b4, 0, none⟩) 1 1)] ⟨rfl, rfl, rfl, rfl, rfl, rfl, rfl, rfl, rfl, rfl, rfl, rfl, trivial⟩ ?_
   refine J2_X rfl ?_
   refine J_appendB sl35 rfl rfl ho2 (Src.ofBlk h4 rfl) rfl (by simp only [sum_flat, List.length_nil, List.length_append, List.length_take, List.length_drop, List.length_cons]; simp only [Enc.sz]; omega) (by decide) (by omega) (by omega) rfl rfl (fun v3 w15 m2 ho3 hb1 => ?_)
   have hn2 : ∀ g, Value.ownBlock v3 = some g → g = b3 ∨ w12.heap.size ≤ g := fun g hg => (hb1 g hg).elim (fun h => hn1 g h) (fun h => by omega)
   replace E := E.step m2 (fun g hg => by have := Own.blk ho2 g hg; have := hn1 g hg; omega); replace h1 := h1.mod m2 (fun g hg => by have := Own.blk ho2 g hg; have := hn1 g hg; omega)
   have z16 := m2.size
   refine JX_go ?_
   refine J_st (R_assign rfl) rfl (J_done ?_)
   refine S_seq ?_
   refine S_reg [true, true, true, true, false, true] rfl rfl ?_
   refine J_st (R_move rfl) rfl (J_st (R_move rfl) rfl (J_st (R_move rfl) rfl ?_))
   have hk2 : k ≤ xs.length := by first | assumption | omega
   have hs2 : RdS (α := Cell) w (slFrom vxs k 4) (List.drop k xs) := RdL.slFrom hxs hk2
   refine J_st (R_sliceFrom sl35 rfl rfl (RdL.room (hxs.ext E)) hk2) rfl ?_
   refine J_appendB sl35 rfl rfl ho3 (RdS.src (hs2.ext E)) (flat_one _) (by simp only [sum_flat, List.length_nil, List.length_append, List.length_take, List.length_drop, List.length_cons]; simp only [Enc.sz]; omega) (by decide) (by omega) (by omega) rfl rfl (fun v4 w16 m3 ho4 hb2 => ?_)
   have hn3 : ∀ g, Value.ownBlock v4 = some g → g = b3 ∨ w12.heap.size ≤ g := fun g hg => (hb2 g hg).elim (fun h => hn2 g h) (fun h => by omega)
   replace E := E.step m3 (fun g hg => by have := Own.blk ho3 g hg; have := hn2 g hg; omega); replace h1 := h1.mod m3 (fun g hg => by have := Own.blk ho3 g hg; have := hn2 g hg; omega)
   have z17 := m3.size
   refine J_st (R_assign rfl) rfl (J_done ?_)
   refine S_ret (E_done1 rfl rfl E ?_)
   exact Own.fin ho4 (by omega) (by omega) (by rw [putM_no hc1 hI hk hc2, insM_flat]; rfl)

set_option maxRecDepth 20000 in
theorem c_better1 (y : Cell) (bx : Nat) (x : Cell) (w : World) (hx : At w bx 0 [.int .i64 x.op, .int .i64 x.epoch, .int .i64 x.key, .int .i64 x.val]) : Ct Tryz.prog 106 [.agg (Enc.enc y).toArray, .pointer (some ⟨bx, 0, none⟩)] w (fun v _ => v = .bool (slot x y)) := by
 refine ct_of Tryz.func106 rfl Tryz.ntmps106 rfl ?_
 refine S_sub [(0, .agg (Enc.enc y).toArray), (1, .pointer (some ⟨bx, 0, none⟩))] ⟨rfl, rfl, trivial⟩ ?_
 have E : Ext w w := Ext.refl w
 refine S_seq ?_
 refine S_reg [false, true] rfl rfl ?_
 refine J_box rfl rfl (fun b1 w1 e1 s1 h1 => ?_)
 have g_b1 : w.heap.size ≤ b1 := by have := E.size; omega
 have y_b1 := h1.lt
 replace E := E.trans e1
 have z1 := e1.size
 refine J_st (R_assign rfl) rfl (J_done ?_)
 refine S_seq ?_
 refine S_reg [true, true, false, true] rfl rfl ?_
 refine J_st (R_loadS st102 rfl (hx.ext E) rfl) rfl (J_st (R_loadS st102 rfl h1.at rfl) rfl ?_)
 refine J_call Tryz.call107 rfl (c_sameSlot x y _ ) rfl (fun _ w2 e2 hv => ?_)
 subst hv
 replace E := E.trans e2; replace h1 := h1.ext e2
 have z2 := e2.size
 refine J_st (R_assign rfl) rfl (J_done ?_)
 refine S_ret (E_done1 rfl rfl E ?_)
 rfl

set_option maxRecDepth 20000 in
theorem c_better (vxs : Value) (xs : List Cell) (x : Cell) (w : World) (hxs : RdS w vxs xs) (hb : xs.length ≤ 4194304) : Ct Tryz.prog 97 [vxs, .agg (Enc.enc x).toArray] w (fun v w' => ∃ u0, v = .tuple [u0, .bool ((betterM xs x).2)].toArray ∧ Own w' w.heap.size w'.heap.size 4 u0 (List.flatMap (Enc.enc (α := Cell)) ((betterM xs x).1))) := by
 refine ct_of Tryz.func97 rfl Tryz.ntmps97 rfl ?_
 refine S_sub [(0, vxs), (1, .agg (Enc.enc x).toArray)] ⟨rfl, rfl, trivial⟩ ?_
 have E : Ext w w := Ext.refl w
 refine S_seq ?_
 refine S_reg [false, true, true] rfl rfl ?_
 refine J_box rfl rfl (fun b1 w1 e1 s1 h1 => ?_)
 have g_b1 : w.heap.size ≤ b1 := by have := E.size; omega
 have y_b1 := h1.lt
 replace E := E.trans e1
 have z1 := e1.size
 refine J_st (R_assign rfl) rfl (J_st (R_assign rfl) rfl (J_done ?_))
 refine S_seq ?_
 refine S_seq ?_
 refine S_reg [true, true, true, true, true, true, true, false, true, true, true, true, true] rfl rfl ?_
 refine J_st (R_move rfl) rfl (J_st (R_fieldAddr0 fl102_0 rfl) rfl (J_st (R_load sc3 rfl (h1.one 0 rfl)) rfl (J_st (R_fieldAddr0 fl102_1 rfl) rfl (J_st (R_load sc3 rfl (h1.one 1 rfl)) rfl (J_st (R_fieldAddr0 fl102_2 rfl) rfl (J_st (R_load sc3 rfl (h1.one 2 rfl)) rfl ?_))))))
 refine J_call Tryz.call104 rfl (c_LeastOf vxs xs x.op x.epoch x.key _ (hxs.ext E)) rfl (fun _ w2 e2 hv => ?_)
 subst hv
 replace E := E.trans e2; replace h1 := h1.ext e2
 have z2 := e2.size
 refine J_st (R_move rfl) rfl (J_st (R_extract rfl rfl) rfl (J_st (R_extract rfl rfl) rfl (J_st (R_assign rfl) rfl (J_st (R_assign rfl) rfl (J_done ?_)))))
 refine S_seq ?_
 refine S_reg [true, true, true, true, true, true, true] rfl rfl ?_
 refine J_st (R_move rfl) rfl (J_st (R_move rfl) rfl ?_)
 refine J_cut 5 [(0, vxs), (1, .agg (Enc.enc x).toArray), (3, .pointer (some ⟨b1, 0, none⟩)), (4, .slice none 0 0), (5, .bool false), (6, .int .i64 ((leastM xs x.op x.epoch x.key).1)), (7, .bool ((leastM xs x.op x.epoch x.key).2)), (9, .tuple [.int .i64 ((leastM xs x.op x.epoch x.key).1), .bool ((leastM xs x.op x.epoch x.key).2)].toArray), (10, vxs), (11, .pointer (some ⟨b1, 0, none⟩)), (12, .int .i64 x.op), (13, .pointer (some ⟨b1, 1, none⟩)), (14, .int .i64 x.epoch), (15, .pointer (some ⟨b1, 2, none⟩)), (16, .int .i64 x.key), (17, .tuple [.int .i64 ((leastM xs x.op x.epoch x.key).1), .bool ((leastM xs x.op x.epoch x.key).2)].toArray), (18, .int .i64 ((leastM xs x.op x.epoch x.key).1)), (19, .bool ((leastM xs x.op x.epoch x.key).2)), (26, .bool (((leastM xs x.op x.epoch x.key).2) && (decide (((leastM xs x.op x.epoch x.key).1) ≤ x.val))))] (fun w' => w2 = w') ?_ ?_
 ·refine J_if (gd := 21) rfl rfl (fun hg1 => ?_) (fun hg1 => ?_)
  ·refine J_gd rfl rfl (R_move rfl) rfl (J_gd rfl rfl (R_fieldAddr0 fl102_3 rfl) rfl (J_gd rfl rfl (R_load sc3 rfl (h1.one 3 rfl)) rfl (J_gd rfl rfl (R_leq rfl rfl) rfl (J_st (R_pickT rfl rfl) rfl (J_cutEnd ⟨rfl, rfl, rfl, rfl, rfl, rfl, rfl, rfl, rfl, rfl, rfl, rfl, rfl, rfl, rfl, rfl, rfl, rfl, congrArg (fun b => some (Value.bool b)) (show (decide (((leastM xs x.op x.epoch x.key).1) ≤ x.val)) = (((leastM xs x.op x.epoch x.key).2) && (decide (((leastM xs x.op x.epoch x.key).1) ≤ x.val))) by first | (rw [hg1] <;> rfl) | (simp [hg1]; done) | (simp only [nat_nlt] <;> simp)), trivial⟩ rfl)))))
  ·refine J_gdno rfl rfl rfl rfl (J_gdno rfl rfl rfl rfl (J_gdno rfl rfl rfl rfl (J_gdno rfl rfl rfl rfl (J_st (R_pickF rfl rfl) rfl (J_cutEnd ⟨rfl, rfl, rfl, rfl, rfl, rfl, rfl, rfl, rfl, rfl, rfl, rfl, rfl, rfl, rfl, rfl, rfl, rfl, congrArg (fun b => some (Value.bool b)) (show false = (((leastM xs x.op x.epoch x.key).2) && (decide (((leastM xs x.op x.epoch x.key).1) ≤ x.val))) by first | (rw [hg1] <;> rfl) | (simp [hg1]; done) | (simp only [nat_nlt] <;> simp)), trivial⟩ rfl)))))
 rintro _ rfl
 refine J_done ?_
 refine S_cond rfl (fun hc1 => ?_) (fun hc1 => ?_)
 ·refine S_seq ?_
  refine S_reg [true, false, true, true] rfl rfl ?_
  refine J_st (R_move rfl) rfl ?_
  refine J_call Tryz.call70 rfl (c_copyCells vxs xs _ (hxs.ext E) (by first | omega | (simp only [mkL_length]; omega) | (rw [mkL_length]; done) | (simp only [mkL_length]; done))) rfl (fun v1 w4 e3 ho1 => ?_)
  have g_ho1 : w.heap.size ≤ w2.heap.size := E.size
  replace E := E.trans e3; replace h1 := h1.ext e3
  have z3 := e3.size
  refine J_st (R_assign rfl) rfl (J_st (R_assign rfl) rfl (J_done ?_))
  refine S_ret (E_doneN (l := [.tmp 4, .tmp 5]) (vs := [v1, .bool false]) rfl ⟨.tmp rfl, .tmp rfl, trivial⟩ rfl E ?_)
  rw [betterM_yes hc1]
  exact ⟨_, rfl, Own.fin ho1 (by omega) (by omega) rfl⟩
 ·refine S_skip ?_
  refine S_seq ?_
  refine S_reg [true, false, true, false, true] rfl rfl ?_
  refine J_st (R_move rfl) rfl ?_
  refine J_call Tryz.call70 rfl (c_copyCells vxs xs _ (hxs.ext E) (by first | omega | (simp only [mkL_length]; omega) | (rw [mkL_length]; done) | (simp only [mkL_length]; done))) rfl (fun v2 w5 e4 ho2 => ?_)
  have g_ho2 : w.heap.size ≤ w2.heap.size := E.size
  replace E := E.trans e4; replace h1 := h1.ext e4
  have z4 := e4.size
  refine J_st (R_makeFunc rfl rfl) rfl ?_
  refine J_callR Tryz.call105 rfl (by rfl) (c_DeleteFuncCell v2 w2.heap.size w5.heap.size xs (.func (.func 106) [].toArray [.pointer (some ⟨b1, 0, none⟩)].toArray) ((fun (y : Cell) => slot x y)) _ ho2 ⟨106, [], [.pointer (some ⟨b1, 0, none⟩)], rfl, Tryz.call106, fun y wX eX => c_better1 y b1 x wX (At.modR (Blk.at h1) eX (by omega))⟩ (by omega)) rfl (fun v3 w6 e5 ho3 => ?_)
  replace E := E.stepR e5 (by omega); replace h1 := h1.modR e5 (by omega)
  have z5 := e5.size
  refine J_st (R_assign rfl) rfl (J_done ?_)
  refine S_seq ?_
  refine S_reg [true, true, false, true, true] rfl rfl ?_
  refine J_st (R_move rfl) rfl (J_st (R_loadS st102 rfl h1.at rfl) rfl ?_)
  refine J_call Tryz.call98 rfl (c_PutCell v3 (List.filter (fun y => !((fun (y : Cell) => slot x y) y)) xs) x _ (Own.rd (by decide) ho3) (Nat.le_trans (List.length_filter_le _ _) (by omega))) rfl (fun v4 w7 e6 ho4 => ?_)
  have g_ho4 : w.heap.size ≤ w6.heap.size := E.size
  replace E := E.trans e6; replace h1 := h1.ext e6; replace ho3 := ho3.ext e6
  have z6 := e6.size
  refine J_st (R_assign rfl) rfl (J_st (R_assign rfl) rfl (J_done ?_))
  refine S_ret (E_doneN (l := [.tmp 4, .tmp 5]) (vs := [v4, .bool true]) rfl ⟨.tmp rfl, .tmp rfl, trivial⟩ rfl E ?_)
  rw [betterM_no hc1]
  exact ⟨_, rfl, Own.fin ho4 (by omega) (by omega) rfl⟩

set_option maxRecDepth 20000 in
theorem c_Recall (kind : Int) (vxs : Value) (xs : List Cell) (x : Cell) (w : World) (hxs : RdS w vxs xs) (hb : xs.length ≤ 4194304) : Ct Tryz.prog 79 [.int .i64 kind, vxs, .agg (Enc.enc x).toArray] w (fun v w' => ∃ u0, v = .tuple [u0, .bool ((recallM kind xs x).2)].toArray ∧ Own w' w.heap.size w'.heap.size 4 u0 (List.flatMap (Enc.enc (α := Cell)) ((recallM kind xs x).1))) := by
 refine ct_of Tryz.func79 rfl Tryz.ntmps79 rfl ?_
 refine S_sub [(0, .int .i64 kind), (1, vxs), (2, .agg (Enc.enc x).toArray)] ⟨rfl, rfl, rfl, trivial⟩ ?_
 have E : Ext w w := Ext.refl w
 refine S_seq ?_
 refine S_reg [false, true, true] rfl rfl ?_
 refine J_box rfl rfl (fun b1 w1 e1 s1 h1 => ?_)
 have g_b1 : w.heap.size ≤ b1 := by have := E.size; omega
 have y_b1 := h1.lt
 replace E := E.trans e1
 have z1 := e1.size
 refine J_st (R_assign rfl) rfl (J_st (R_assign rfl) rfl (J_done ?_))
 refine S_seq ?_
 refine S_seq ?_
 refine S_reg [true] rfl rfl ?_
 refine J_st (R_move rfl) rfl (J_done ?_)
 refine S_block ?_
 refine S_seq ?_
 refine S_seq ?_
 refine S_reg [true, true] rfl rfl ?_
 refine J_st (R_eql rfl rfl) rfl (J_st (R_assign rfl) rfl (J_done ?_))
 refine S_cond rfl (fun hc1 => ?_) (fun hc1 => ?_)
 ·refine S_skip ?_
  refine S_condTe rfl hc1 ?_
  refine S_seq ?_
  refine S_reg [true, true, false, true, true, true, true] rfl rfl ?_
  refine J_st (R_move rfl) rfl (J_st (R_loadS st102 rfl h1.at rfl) rfl ?_)
  refine J_call Tryz.call97 rfl (c_better vxs xs x _ (hxs.ext E) (by first | omega | (simp only [mkL_length]; omega) | (rw [mkL_length]; done) | (simp only [mkL_length]; done))) rfl (fun _ w2 e2 ho1 => ?_)
  obtain ⟨v1, rfl, ho2⟩ := ho1
  have g_ho1 : w.heap.size ≤ w1.heap.size := E.size
  replace E := E.trans e2; replace h1 := h1.ext e2
  have z2 := e2.size
  refine J_st (R_extract rfl rfl) rfl (J_st (R_extract rfl rfl) rfl (J_st (R_assign rfl) rfl (J_st (R_assign rfl) rfl (J_done ?_))))
  refine S_ret (E_inB_ret (E_doneN (l := [.tmp 6, .tmp 7]) (vs := [v1, .bool ((betterM xs x).2)]) rfl ⟨.tmp rfl, .tmp rfl, trivial⟩ rfl E ?_))
  rw [recallM_b (.inl (by assumption))]
  exact ⟨_, rfl, Own.fin ho2 (by omega) (by omega) rfl⟩
 ·refine S_reg [true, true] rfl rfl ?_
  refine J_st (R_eql rfl rfl) rfl (J_st (R_assign rfl) rfl (J_done ?_))
  refine S_cond rfl (fun hc2 => ?_) (fun hc2 => ?_)
  ·refine S_seq ?_
   refine S_reg [true, true, false, true, true, true, true] rfl rfl ?_
   refine J_st (R_move rfl) rfl (J_st (R_loadS st102 rfl h1.at rfl) rfl ?_)
   refine J_call Tryz.call97 rfl (c_better vxs xs x _ (hxs.ext E) (by first | omega | (simp only [mkL_length]; omega) | (rw [mkL_length]; done) | (simp only [mkL_length]; done))) rfl (fun _ w3 e3 ho3 => ?_)
   obtain ⟨v2, rfl, ho4⟩ := ho3
   have g_ho3 : w.heap.size ≤ w1.heap.size := E.size
   replace E := E.trans e3; replace h1 := h1.ext e3
   have z3 := e3.size
   refine J_st (R_extract rfl rfl) rfl (J_st (R_extract rfl rfl) rfl (J_st (R_assign rfl) rfl (J_st (R_assign rfl) rfl (J_done ?_))))
   refine S_ret (E_inB_ret (E_doneN (l := [.tmp 6, .tmp 7]) (vs := [v2, .bool ((betterM xs x).2)]) rfl ⟨.tmp rfl, .tmp rfl, trivial⟩ rfl E ?_))
   rw [recallM_b (.inr (by assumption))]
   exact ⟨_, rfl, Own.fin ho4 (by omega) (by omega) rfl⟩
  ·refine S_seq ?_
   refine S_reg [true, true] rfl rfl ?_
   refine J_st (R_eql rfl rfl) rfl (J_st (R_assign rfl) rfl (J_done ?_))
   refine S_cond rfl (fun hc3 => ?_) (fun hc3 => ?_)
   ·refine S_seq ?_
    refine S_regD mixed [(0, true), (1, true), (3, true), (4, true), (2, false), (5, false), (6, true), (7, true), (8, true)] (by decide +kernel) rfl (fun w4 e4 => ?_)
    replace E := E.trans e4; replace h1 := h1.ext e4
    have z4 := e4.size
    refine J_st (R_move rfl) rfl (J_st (R_loadS st102 rfl h1.at rfl) rfl (J_st (R_move rfl) rfl (J_st (R_loadS st102 rfl h1.at rfl) rfl ?_)))
    refine J_call Tryz.call98 rfl (c_PutCell vxs xs x _ (hxs.ext E) (by first | omega | (simp only [mkL_length]; omega) | (rw [mkL_length]; done) | (simp only [mkL_length]; done))) rfl (fun v3 w5 e5 ho5 => ?_)
    have g_ho5 : w.heap.size ≤ w4.heap.size := E.size
    replace E := E.trans e5; replace h1 := h1.ext e5
    have z5 := e5.size
    refine J_call Tryz.call99 rfl (c_HasCell vxs xs x _ (hxs.ext E)) rfl (fun _ w6 e6 hv => ?_)
    subst hv
    replace E := E.trans e6; replace h1 := h1.ext e6; replace ho5 := ho5.ext e6
    have z6 := e6.size
    refine J_st (R_not rfl) rfl (J_st (R_assign rfl) rfl (J_st (R_assign rfl) rfl (J_done ?_)))
    refine S_ret (E_inB_ret (E_doneN (l := [.tmp 6, .tmp 7]) (vs := [v3, .bool (!(decide (x ∈ xs)))]) rfl ⟨.tmp rfl, .tmp rfl, trivial⟩ rfl E ?_))
    rw [recallM_n (by assumption)]
    exact ⟨_, rfl, Own.fin ho5 (by omega) (by omega) rfl⟩
   ·refine S_skip ?_
    refine S_nil (E_inB ?_)
    refine S_seq ?_
    refine S_reg [true, false, true, true] rfl rfl ?_
    refine J_st (R_move rfl) rfl ?_
    refine J_call Tryz.call70 rfl (c_copyCells vxs xs _ (hxs.ext E) (by first | omega | (simp only [mkL_length]; omega) | (rw [mkL_length]; done) | (simp only [mkL_length]; done))) rfl (fun v4 w7 e7 ho6 => ?_)
    have g_ho6 : w.heap.size ≤ w1.heap.size := E.size
    replace E := E.trans e7; replace h1 := h1.ext e7
    have z7 := e7.size
    refine J_st (R_assign rfl) rfl (J_st (R_assign rfl) rfl (J_done ?_))
    refine S_ret (E_doneN (l := [.tmp 6, .tmp 7]) (vs := [v4, .bool true]) rfl ⟨.tmp rfl, .tmp rfl, trivial⟩ rfl E ?_)
    rw [recallM_o (by assumption) (by assumption) (by assumption)]
    exact ⟨_, rfl, Own.fin ho6 (by omega) (by omega) rfl⟩

set_option maxHeartbeats 4000000 in
set_option maxRecDepth 20000 in
theorem s_Recall (kind : Int) (vxs : Value) (xs : List Cell) (x : Cell) (w : World) (hxs : RdS w vxs xs) (hb : xs.length ≤ 4194304) : Ct Tryz.prog 63 [.int .i64 kind, vxs, .agg (Enc.enc x).toArray] w (fun v w' => ∃ u0, v = .tuple [u0, .bool ((recallM kind xs x).2)].toArray ∧ Own w' w.heap.size w'.heap.size 4 u0 (List.flatMap (Enc.enc (α := Cell)) ((recallM kind xs x).1))) := by
 refine ct_of Tryz.func63 rfl Tryz.ntmps63 rfl ?_
 refine S_sub [(0, .int .i64 kind), (1, vxs), (2, .agg (Enc.enc x).toArray)] ⟨rfl, rfl, rfl, trivial⟩ ?_
 have E : Ext w w := Ext.refl w
 refine S_seq ?_
 refine S_reg [false, true, true] rfl rfl ?_
 refine J_box rfl rfl (fun b1 w1 e1 s1 h1 => ?_)
 have g_b1 : w.heap.size ≤ b1 := by have := E.size; omega
 have y_b1 := h1.lt
 replace E := E.trans e1
 have z1 := e1.size
 refine J_st (R_assign rfl) rfl (J_st (R_assign rfl) rfl (J_done ?_))
 refine S_seq ?_
 refine S_reg [false, true, false, true] rfl rfl ?_
 refine J_buildSlice (vs := []) (css := []) sl35 rfl rfl trivial rfl rfl (fun b2 w2 e2 s2 h2 => ?_)
 replace h2 : Blk w2 b2 [] := h2
 have g_b2 : w.heap.size ≤ b2 := by have := E.size; omega
 have y_b2 := h2.lt
 replace E := E.trans e2; replace h1 := h1.ext e2
 have z2 := e2.size
 refine J_st (R_move rfl) rfl ?_
 refine J_append sl35 rfl rfl (Own.ofBlk (lo := b2) (hi := b2 + 1) (sz := 4) h2 (Nat.le_refl _) (Nat.lt_succ_self _) (by simp) (by simp [maxLen])) (RdS.src (hxs.ext E)) (flat_one _) (by first | (simp only [sum_flat, List.length_nil, List.length_cons]; simp only [Enc.sz]; omega) | (have h := filt_len xs (fun y => !(slot x y)) k; simp only [show Enc.sz Cell = 4 from rfl] at h; simp only [List.length_cons, List.length_nil]; omega)) (by decide) (by omega) (by omega) rfl rfl (fun v1 w3 m1 ho1 => ?_)
 replace E := E.step m1 (fun g hg => by have := Own.blk (Own.ofBlk (lo := b2) (hi := b2 + 1) (sz := 4) h2 (Nat.le_refl _) (Nat.lt_succ_self _) (by simp) (by simp [maxLen])) g hg; omega); replace h1 := h1.mod m1 (fun g hg => by have := Own.blk (Own.ofBlk (lo := b2) (hi := b2 + 1) (sz := 4) h2 (Nat.le_refl _) (Nat.lt_succ_self _) (by simp) (by simp [maxLen])) g hg; omega)
 have z3 := m1.size
 refine J_st (R_assign rfl) rfl (J_done ?_)
 refine S_seq ?_
 refine S_seq ?_
 refine S_reg [true] rfl rfl ?_
 refine J_st (R_move rfl) rfl (J_done ?_)
 refine S_block ?_
 refine S_seq ?_
 refine S_reg [true, true] rfl rfl ?_
 refine J_st (R_eql rfl rfl) rfl (J_st (R_assign rfl) rfl (J_done ?_))
 refine S_cond rfl (fun hc1 => ?_) (fun hc1 => ?_)
 ·refine S_seq ?_
  refine S_seq ?_
  refine S_reg [true, true, false] rfl rfl ?_
  refine J_st (R_move rfl) rfl (J_st (R_loadS st102 rfl h1.at rfl) rfl ?_)
  refine J_call Tryz.call88 rfl (s_HasCell vxs xs x _ (hxs.ext E)) rfl (fun _ w4 e3 hv => ?_)
  subst hv
  replace E := E.trans e3; replace h1 := h1.ext e3; replace ho1 := ho1.ext e3
  have z4 := e3.size
  refine J_done ?_
  refine S_cond rfl (fun hc2 => ?_) (fun hc2 => ?_)
  ·refine S_seq ?_
   refine S_reg [true, true, true] rfl rfl ?_
   refine J_st (R_move rfl) rfl (J_st (R_assign rfl) rfl (J_st (R_assign rfl) rfl (J_done ?_)))
   refine S_ret (E_inB_ret (E_doneN (l := [.tmp 6, .tmp 7]) (vs := [v1, .bool false]) rfl ⟨.tmp rfl, .tmp rfl, trivial⟩ rfl E ?_))
   rw [recallM_h (by assumption) (by assumption)]
   exact ⟨_, rfl, Own.fin ho1 (by omega) (by omega) (by first | rfl | simp only [List.nil_append])⟩
  ·refine S_skip ?_
   refine S_seq ?_
   refine S_reg [true, true, false, true, true] rfl rfl ?_
   refine J_st (R_move rfl) rfl (J_st (R_loadS st102 rfl h1.at rfl) rfl ?_)
   refine J_call Tryz.call89 rfl (s_PutCell vxs xs x _ (hxs.ext E) (by omega)) rfl (fun v2 w5 e4 ho2 => ?_)
   have g_ho2 : w.heap.size ≤ w4.heap.size := E.size
   replace E := E.trans e4; replace h1 := h1.ext e4; replace ho1 := ho1.ext e4
   have z5 := e4.size
   refine J_st (R_assign rfl) rfl (J_st (R_assign rfl) rfl (J_done ?_))
   refine S_ret (E_inB_ret (E_doneN (l := [.tmp 6, .tmp 7]) (vs := [v2, .bool true]) rfl ⟨.tmp rfl, .tmp rfl, trivial⟩ rfl E ?_))
   rw [recallM_i (by assumption) (by assumption)]
   exact ⟨_, rfl, Own.fin ho2 (by omega) (by omega) (by first | rfl | simp only [List.nil_append])⟩
 ·refine S_seq ?_
  refine S_seq ?_
  refine S_reg [true, true] rfl rfl ?_
  refine J_st (R_eql rfl rfl) rfl (J_st (R_assign rfl) rfl (J_done ?_))
  refine S_cond rfl (fun hc3 => ?_) (fun hc3 => ?_)
  ·refine S_skip ?_
   refine S_condTe rfl hc3 ?_
   refine S_seq ?_
   refine S_reg [true, true, true, true, true, true, true, false, true, true, true, true, true] rfl rfl ?_
   refine J_st (R_move rfl) rfl (J_st (R_fieldAddr0 fl102_0 rfl) rfl (J_st (R_load sc3 rfl (h1.one 0 rfl)) rfl (J_st (R_fieldAddr0 fl102_1 rfl) rfl (J_st (R_load sc3 rfl (h1.one 1 rfl)) rfl (J_st (R_fieldAddr0 fl102_2 rfl) rfl (J_st (R_load sc3 rfl (h1.one 2 rfl)) rfl ?_))))))
   refine J_call Tryz.call90 rfl (s_LeastOf vxs xs x.op x.epoch x.key _ (hxs.ext E)) rfl (fun _ w6 e5 hv => ?_)
   subst hv
   replace E := E.trans e5; replace h1 := h1.ext e5; replace ho1 := ho1.ext e5
   have z6 := e5.size
   refine J_st (R_move rfl) rfl (J_st (R_extract rfl rfl) rfl (J_st (R_extract rfl rfl) rfl (J_st (R_assign rfl) rfl (J_st (R_assign rfl) rfl (J_done ?_)))))
   refine S_seq ?_
   refine S_seq ?_
   refine S_reg [true, true, true, true, true, true, true] rfl rfl ?_
   refine J_st (R_move rfl) rfl (J_st (R_move rfl) rfl ?_)
   refine J_cut 5 [(0, .int .i64 kind), (1, vxs), (2, .agg (Enc.enc x).toArray), (5, .pointer (some ⟨b1, 0, none⟩)), (6, .slice none 0 0), (7, .bool false), (8, v1), (9, .int .i64 ((leastM xs x.op x.epoch x.key).1)), (10, .bool ((leastM xs x.op x.epoch x.key).2)), (13, .slice (some ⟨b2, 0, none⟩) 0 0), (14, vxs), (15, v1), (16, .int .i64 kind), (17, .bool (kind == 6)), (18, .bool (kind == 6)), (26, .bool (kind == 5)), (27, .bool (kind == 5)), (29, .tuple [.int .i64 ((leastM xs x.op x.epoch x.key).1), .bool ((leastM xs x.op x.epoch x.key).2)].toArray), (30, vxs), (31, .pointer (some ⟨b1, 0, none⟩)), (32, .int .i64 x.op), (33, .pointer (some ⟨b1, 1, none⟩)), (34, .int .i64 x.epoch), (35, .pointer (some ⟨b1, 2, none⟩)), (36, .int .i64 x.key), (37, .tuple [.int .i64 ((leastM xs x.op x.epoch x.key).1), .bool ((leastM xs x.op x.epoch x.key).2)].toArray), (38, .int .i64 ((leastM xs x.op x.epoch x.key).1)), (39, .bool ((leastM xs x.op x.epoch x.key).2)), (46, .bool (((leastM xs x.op x.epoch x.key).2) && (decide (((leastM xs x.op x.epoch x.key).1) ≤ x.val))))] (fun w' => w6 = w') ?_ ?_
   ·refine J_if (gd := 41) rfl rfl (fun hg1 => ?_) (fun hg1 => ?_)
    ·refine J_gd rfl rfl (R_move rfl) rfl (J_gd rfl rfl (R_fieldAddr0 fl102_3 rfl) rfl (J_gd rfl rfl (R_load sc3 rfl (h1.one 3 rfl)) rfl (J_gd rfl rfl (R_leq rfl rfl) rfl (J_st (R_pickT rfl rfl) rfl (J_cutEnd ⟨rfl, rfl, rfl, rfl, rfl, rfl, rfl, rfl, rfl, rfl, rfl, rfl, rfl, rfl, rfl, rfl, rfl, rfl, rfl, rfl, rfl, rfl, rfl, rfl, rfl, rfl, rfl, rfl, congrArg (fun b => some (Value.bool b)) (show (decide (((leastM xs x.op x.epoch x.key).1) ≤ x.val)) = (((leastM xs x.op x.epoch x.key).2) && (decide (((leastM xs x.op x.epoch x.key).1) ≤ x.val))) by first | (rw [hg1] <;> rfl) | (simp [hg1]; done) | (simp only [nat_nlt] <;> simp)), trivial⟩ rfl)))))
    ·refine J_gdno rfl rfl rfl rfl (J_gdno rfl rfl rfl rfl (J_gdno rfl rfl rfl rfl (J_gdno rfl rfl rfl rfl (J_st (R_pickF rfl rfl) rfl (J_cutEnd ⟨rfl, rfl, rfl, rfl, rfl, rfl, rfl, rfl, rfl, rfl, rfl, rfl, rfl, rfl, rfl, rfl, rfl, rfl, rfl, rfl, rfl, rfl, rfl, rfl, rfl, rfl, rfl, rfl, congrArg (fun b => some (Value.bool b)) (show false = (((leastM xs x.op x.epoch x.key).2) && (decide (((leastM xs x.op x.epoch x.key).1) ≤ x.val))) by first | (rw [hg1] <;> rfl) | (simp [hg1]; done) | (simp only [nat_nlt] <;> simp)), trivial⟩ rfl)))))
   rintro _ rfl
   refine J_done ?_
   refine S_cond rfl (fun hc4 => ?_) (fun hc4 => ?_)
   ·refine S_seq ?_
    refine S_reg [true, true, true] rfl rfl ?_
    refine J_st (R_move rfl) rfl (J_st (R_assign rfl) rfl (J_st (R_assign rfl) rfl (J_done ?_)))
    refine S_ret (E_inB_ret (E_doneN (l := [.tmp 6, .tmp 7]) (vs := [v1, .bool false]) rfl ⟨.tmp rfl, .tmp rfl, trivial⟩ rfl E ?_))
    rw [recallM_b (.inl (by assumption)), betterM_yes (by assumption)]
    exact ⟨_, rfl, Own.fin ho1 (by omega) (by omega) (by first | rfl | simp only [List.nil_append])⟩
   ·refine S_skip ?_
    refine S_seq ?_
    refine S_reg [false, true] rfl rfl ?_
    refine J_buildSlice (vs := []) (css := []) sl35 rfl rfl trivial rfl rfl (fun b3 w8 e6 s3 h3 => ?_)
    replace h3 : Blk w8 b3 [] := h3
    have g_b3 : w.heap.size ≤ b3 := by have := E.size; omega
    have y_b3 := h3.lt
    replace E := E.trans e6; replace h1 := h1.ext e6; replace ho1 := ho1.ext e6
    have z7 := e6.size
    refine J_st (R_assign rfl) rfl (J_done ?_)
    refine S_seq ?_
    refine S_seq ?_
    refine S_reg [true] rfl rfl ?_
    refine J_st (R_assign rfl) rfl (J_done ?_)
    refine S_block ?_
    refine S_loop (fun (xq : Nat × Value) => let ⟨k, vo⟩ := xq; [(1, vxs), (5, .pointer (some ⟨b1, 0, none⟩)), (6, .slice none 0 0), (7, .bool false), (8, v1), (11, vo), (12, .int .i64 ((k : Nat) : Int))]) (fun (xq : Nat × Value) w' => let ⟨k, vo⟩ := xq; Ext w w' ∧ w8.heap.size ≤ w'.heap.size ∧ Blk w' b1 (Enc.enc x) ∧ Own w' b2 w3.heap.size 4 v1 ([] ++ List.flatMap (Enc.enc (α := Cell)) xs) ∧ k ≤ xs.length ∧ Own w' b3 w'.heap.size 4 vo (List.flatMap (Enc.enc (α := Cell)) ((xs.take k).filter (fun y => !(slot x y))))) (fun (xq : Nat × Value) => let ⟨k, vo⟩ := xq; xs.length - k) (0, .slice (some ⟨b3, 0, none⟩) 0 0) ⟨rfl, rfl, rfl, rfl, rfl, rfl, rfl, trivial⟩ ⟨E, Nat.le_refl _, h1, ho1, Nat.zero_le _, Own.fin (Own.ofBlk (lo := b3) (hi := b3 + 1) (sz := 4) h3 (Nat.le_refl _) (Nat.lt_succ_self _) (by simp) (by simp [maxLen])) (by have := E.size; omega) (by omega) rfl⟩ ?_
    clear E h1 ho1 h3
    rintro ⟨k, vo⟩ w9 ⟨E, z8, h1, ho1, hk, ho⟩
    refine S_sub [(1, vxs), (5, .pointer (some ⟨b1, 0, none⟩)), (6, .slice none 0 0), (7, .bool false), (8, v1), (11, vo), (12, .int .i64 ((k : Nat) : Int))] ⟨rfl, rfl, rfl, rfl, rfl, rfl, rfl, trivial⟩ ?_
    refine S_seq ?_
    refine S_seq ?_
    refine S_reg [true, true, true, true] rfl rfl ?_
    refine J_st (R_move rfl) rfl (J_st (R_move rfl) rfl (J_st (R_len Tryz.underlying35 rfl (hxs.ext E).len) rfl (J_st (R_lss rfl rfl) rfl (J_done ?_))))
    refine S_cond rfl (fun hc5 => ?_) (fun hc5 => ?_)
    ·have hc5n : k < xs.length := by first | (have h := of_decide_eq_true hc5; omega) | (have h := hc5; simp at h; omega)
     refine S_skip ?_
     refine S_seq ?_
     refine S_block ?_
     refine S_seq ?_
     refine S_regD mixed [(0, true), (1, true), (2, true), (3, true), (4, true), (5, true), (6, true), (7, true), (8, true), (9, true), (10, true), (11, true), (12, true), (13, true), (14, true), (15, true), (16, true), (17, true), (18, true), (19, true), (20, true), (21, true), (22, true), (23, true), (24, true), (25, true), (26, true), (27, true)] (by decide +kernel) rfl (fun w10 e7 => ?_)
     replace E := E.trans e7; replace h1 := h1.ext e7; replace ho1 := ho1.ext e7; replace ho := ho.ext e7
     have z9 := e7.size
     refine J_st (R_move rfl) rfl (J_st (R_move rfl) rfl ?_)
     have hi1 : k < xs.length := (by first | assumption | omega)
     refine J_st (R_index (i := k) sl35 rfl rfl (hxs.ext E) hi1) rfl (J_st (R_fieldAddr fl102_0 rfl) rfl (J_st (R_load sc3 rfl (((hxs.ext E).get hi1).one 0 rfl)) rfl (J_st (R_fieldAddr0 fl102_0 rfl) rfl (J_st (R_load sc3 rfl (h1.one 0 rfl)) rfl (J_st (R_neq rfl rfl) rfl (J_st (R_move rfl) rfl ?_))))))
     refine J_cut 19 [(1, vxs), (5, .pointer (some ⟨b1, 0, none⟩)), (6, .slice none 0 0), (7, .bool false), (8, v1), (11, vo), (12, .int .i64 ((k : Nat) : Int)), (49, .int .i64 ((k : Nat) : Int)), (50, vxs), (51, .int .i64 ((xs.length : Nat) : Int)), (52, .bool (decide (((k : Nat) : Int) < ((xs.length : Nat) : Int)))), (82, .bool (((((xs[k]'hi1).op) != x.op) || (((xs[k]'hi1).epoch) != x.epoch)) || (((xs[k]'hi1).key) != x.key)))] (fun w' => w10 = w') ?_ ?_
     ·refine J_if (gd := 63) rfl rfl (fun hg2 => ?_) (fun hg2 => ?_)
      ·refine J_gdno rfl rfl rfl rfl (J_gdno rfl rfl rfl rfl (J_gdno rfl rfl rfl rfl (J_gdno rfl rfl rfl rfl (J_gdno rfl rfl rfl rfl (J_gdno rfl rfl rfl rfl (J_gdno rfl rfl rfl rfl (J_gdno rfl rfl rfl rfl (J_st (R_pickT rfl rfl) rfl (J_st (R_move rfl) rfl (J_gdno rfl rfl rfl rfl (J_gdno rfl rfl rfl rfl (J_gdno rfl rfl rfl rfl (J_gdno rfl rfl rfl rfl (J_gdno rfl rfl rfl rfl (J_gdno rfl rfl rfl rfl (J_gdno rfl rfl rfl rfl (J_gdno rfl rfl rfl rfl (J_st (R_pickT rfl rfl) rfl (J_cutEnd ⟨rfl, rfl, rfl, rfl, rfl, rfl, rfl, rfl, rfl, rfl, rfl, congrArg (fun b => some (Value.bool b)) (show true = (((((xs[k]'hi1).op) != x.op) || (((xs[k]'hi1).epoch) != x.epoch)) || (((xs[k]'hi1).key) != x.key)) by first | (rw [hg2] <;> rfl) | (simp [hg2]; done) | (simp only [nat_nlt] <;> simp)), trivial⟩ rfl)))))))))))))))))))
      ·refine J_gd rfl rfl (R_move rfl) rfl (J_gd rfl rfl (R_move rfl) rfl (J_gd rfl rfl (R_index (i := k) sl35 rfl rfl (hxs.ext E) hi1) rfl (J_gd rfl rfl (R_fieldAddr fl102_1 rfl) rfl (J_gd rfl rfl (R_load sc3 rfl (((hxs.ext E).get hi1).one 1 rfl)) rfl (J_gd rfl rfl (R_fieldAddr0 fl102_1 rfl) rfl (J_gd rfl rfl (R_load sc3 rfl (h1.one 1 rfl)) rfl (J_gd rfl rfl (R_neq rfl rfl) rfl (J_st (R_pickF rfl rfl) rfl (J_st (R_move rfl) rfl ?_)))))))))
       refine J_if (gd := 73) rfl rfl (fun hg3 => ?_) (fun hg3 => ?_)
       ·refine J_gdno rfl rfl rfl rfl (J_gdno rfl rfl rfl rfl (J_gdno rfl rfl rfl rfl (J_gdno rfl rfl rfl rfl (J_gdno rfl rfl rfl rfl (J_gdno rfl rfl rfl rfl (J_gdno rfl rfl rfl rfl (J_gdno rfl rfl rfl rfl (J_st (R_pickT rfl rfl) rfl (J_cutEnd ⟨rfl, rfl, rfl, rfl, rfl, rfl, rfl, rfl, rfl, rfl, rfl, congrArg (fun b => some (Value.bool b)) (show true = (((((xs[k]'hi1).op) != x.op) || (((xs[k]'hi1).epoch) != x.epoch)) || (((xs[k]'hi1).key) != x.key)) by first | (rw [hg2, hg3] <;> rfl) | (simp [hg2, hg3]; done) | (simp only [nat_nlt] <;> simp)), trivial⟩ rfl)))))))))
       ·refine J_gd rfl rfl (R_move rfl) rfl (J_gd rfl rfl (R_move rfl) rfl (J_gd rfl rfl (R_index (i := k) sl35 rfl rfl (hxs.ext E) hi1) rfl (J_gd rfl rfl (R_fieldAddr fl102_2 rfl) rfl (J_gd rfl rfl (R_load sc3 rfl (((hxs.ext E).get hi1).one 2 rfl)) rfl (J_gd rfl rfl (R_fieldAddr0 fl102_2 rfl) rfl (J_gd rfl rfl (R_load sc3 rfl (h1.one 2 rfl)) rfl (J_gd rfl rfl (R_neq rfl rfl) rfl (J_st (R_pickF rfl rfl) rfl (J_cutEnd ⟨rfl, rfl, rfl, rfl, rfl, rfl, rfl, rfl, rfl, rfl, rfl, congrArg (fun b => some (Value.bool b)) (show (((xs[k]'hi1).key) != x.key) = (((((xs[k]'hi1).op) != x.op) || (((xs[k]'hi1).epoch) != x.epoch)) || (((xs[k]'hi1).key) != x.key)) by first | (rw [hg2, hg3] <;> rfl) | (simp [hg2, hg3]; done) | (simp only [nat_nlt] <;> simp)), trivial⟩ rfl)))))))))
     rintro _ rfl
     refine J_done ?_
     refine S_cond rfl (fun hc6 => ?_) (fun hc6 => ?_)
     ·refine S_reg [true, true, true, true, true, false, false, true] rfl rfl ?_
      refine J_st (R_move rfl) rfl (J_st (R_move rfl) rfl (J_st (R_move rfl) rfl (J_st (R_index (i := k) sl35 rfl rfl (hxs.ext E) hi1) rfl (J_st (R_loadS st102 rfl ((hxs.ext E).get hi1) rfl) rfl ?_))))
      refine J_buildSlice (vs := [.agg (Enc.enc (xs[k]'hi1)).toArray]) (css := [[.int .i64 ((xs[k]'hi1).op), .int .i64 ((xs[k]'hi1).epoch), .int .i64 ((xs[k]'hi1).key), .int .i64 ((xs[k]'hi1).val)]]) sl35 rfl rfl ⟨⟨rfl, rfl⟩, trivial⟩ rfl rfl (fun b4 w12 e8 s4 h4 => ?_)
      replace h4 : Blk w12 b4 [.int .i64 ((xs[k]'hi1).op), .int .i64 ((xs[k]'hi1).epoch), .int .i64 ((xs[k]'hi1).key), .int .i64 ((xs[k]'hi1).val)] := h4
      have g_b4 : w.heap.size ≤ b4 := by have := E.size; omega
      have y_b4 := h4.lt
      replace E := E.trans e8; replace h1 := h1.ext e8; replace ho1 := ho1.ext e8; replace ho := ho.ext e8
      have z10 := e8.size
      refine J_append sl35 rfl rfl ho (Src.ofBlk h4 rfl) rfl (by first | (simp only [sum_flat, List.length_nil, List.length_cons]; simp only [Enc.sz]; omega) | (have h := filt_len xs (fun y => !(slot x y)) k; simp only [show Enc.sz Cell = 4 from rfl] at h; simp only [List.length_cons, List.length_nil]; omega)) (by decide) (by omega) (by omega) rfl rfl (fun v3 w13 m2 ho3 => ?_)
      replace E := E.step m2 (fun g hg => by have := Own.blk ho g hg; omega); replace h1 := h1.mod m2 (fun g hg => by have := Own.blk ho g hg; omega); replace ho1 := ho1.mod m2 (fun g hg => by have := Own.blk ho g hg; omega)
      have z11 := m2.size
      refine J_st (R_assign rfl) rfl (J_done ?_)
      refine S_nil (E_inB ?_)
      refine S_reg [true, true, true] rfl rfl ?_
      refine J_st (R_move rfl) rfl (J_st (R_add rfl rfl (add_one hc5n hxs.1)) rfl (J_st (R_assign rfl) rfl (J_done ?_)))
      refine S_nil (E_again (k + 1, v3) (by simp; omega) ⟨rfl, rfl, rfl, rfl, rfl, rfl, rfl, trivial⟩ ⟨E, (by omega), h1, ho1, (by omega), Own.fin ho3 (Nat.le_refl _) (by omega) (filt_yes (by assumption) (ns_yes (by assumption)))⟩)
     ·refine S_skip ?_
      refine S_nil (E_inB ?_)
      refine S_reg [true, true, true] rfl rfl ?_
      refine J_st (R_move rfl) rfl (J_st (R_add rfl rfl (add_one hc5n hxs.1)) rfl (J_st (R_assign rfl) rfl (J_done ?_)))
      refine S_nil (E_again (k + 1, vo) (by simp; omega) ⟨rfl, rfl, rfl, rfl, rfl, rfl, rfl, trivial⟩ ⟨E, (by omega), h1, ho1, (by omega), Own.fin ho (Nat.le_refl _) (by omega) (filt_no (by assumption) (ns_no (by assumption)))⟩)
    ·have hc5n : ¬ k < xs.length := by first | (have h := of_decide_eq_false hc5; omega) | (have h := hc5; simp at h; omega)
     refine S_exit (E_lp_exit (E_inB_exit ?_))
     refine S_seq ?_
     refine S_reg [true, true, false, true, true] rfl rfl ?_
     refine J_st (R_move rfl) rfl (J_st (R_loadS st102 rfl h1.at rfl) rfl ?_)
     refine J_call Tryz.call89 rfl (s_PutCell vo ((xs.take k).filter (fun y => !(slot x y))) x _ (Own.rd (by decide) ho) (by have h1 := List.length_filter_le (fun y => !(slot x y)) (xs.take k); simp only [List.length_take] at h1; omega)) rfl (fun v4 w14 e9 ho4 => ?_)
     have g_ho4 : w.heap.size ≤ w9.heap.size := E.size
     replace E := E.trans e9; replace h1 := h1.ext e9; replace ho1 := ho1.ext e9; replace ho := ho.ext e9
     have z12 := e9.size
     refine J_st (R_assign rfl) rfl (J_st (R_assign rfl) rfl (J_done ?_))
     refine S_ret (E_inB_ret (E_doneN (l := [.tmp 6, .tmp 7]) (vs := [v4, .bool true]) rfl ⟨.tmp rfl, .tmp rfl, trivial⟩ rfl E ?_))
     rw [recallM_b (.inl (by assumption)), betterM_no (by assumption)]
     exact ⟨_, rfl, Own.fin ho4 (by omega) (by omega) (by simp only [List.nil_append, List.take_of_length_le (show xs.length ≤ k by omega)] <;> rfl)⟩
  ·refine S_reg [true, true] rfl rfl ?_
   refine J_st (R_eql rfl rfl) rfl (J_st (R_assign rfl) rfl (J_done ?_))
   refine S_cond rfl (fun hc7 => ?_) (fun hc7 => ?_)
   ·refine S_seq ?_
    refine S_reg [true, true, true, true, true, true, true, false, true, true, true, true, true] rfl rfl ?_
    refine J_st (R_move rfl) rfl (J_st (R_fieldAddr0 fl102_0 rfl) rfl (J_st (R_load sc3 rfl (h1.one 0 rfl)) rfl (J_st (R_fieldAddr0 fl102_1 rfl) rfl (J_st (R_load sc3 rfl (h1.one 1 rfl)) rfl (J_st (R_fieldAddr0 fl102_2 rfl) rfl (J_st (R_load sc3 rfl (h1.one 2 rfl)) rfl ?_))))))
    refine J_call Tryz.call90 rfl (s_LeastOf vxs xs x.op x.epoch x.key _ (hxs.ext E)) rfl (fun _ w15 e10 hv => ?_)
    subst hv
    replace E := E.trans e10; replace h1 := h1.ext e10; replace ho1 := ho1.ext e10
    have z13 := e10.size
    refine J_st (R_move rfl) rfl (J_st (R_extract rfl rfl) rfl (J_st (R_extract rfl rfl) rfl (J_st (R_assign rfl) rfl (J_st (R_assign rfl) rfl (J_done ?_)))))
    refine S_seq ?_
    refine S_seq ?_
    refine S_reg [true, true, true, true, true, true, true] rfl rfl ?_
    refine J_st (R_move rfl) rfl (J_st (R_move rfl) rfl ?_)
    refine J_cut 5 [(0, .int .i64 kind), (1, vxs), (2, .agg (Enc.enc x).toArray), (5, .pointer (some ⟨b1, 0, none⟩)), (6, .slice none 0 0), (7, .bool false), (8, v1), (9, .int .i64 ((leastM xs x.op x.epoch x.key).1)), (10, .bool ((leastM xs x.op x.epoch x.key).2)), (13, .slice (some ⟨b2, 0, none⟩) 0 0), (14, vxs), (15, v1), (16, .int .i64 kind), (17, .bool (kind == 6)), (18, .bool (kind == 6)), (26, .bool (kind == 8)), (27, .bool (kind == 5)), (28, .bool (kind == 8)), (29, .tuple [.int .i64 ((leastM xs x.op x.epoch x.key).1), .bool ((leastM xs x.op x.epoch x.key).2)].toArray), (30, vxs), (31, .pointer (some ⟨b1, 0, none⟩)), (32, .int .i64 x.op), (33, .pointer (some ⟨b1, 1, none⟩)), (34, .int .i64 x.epoch), (35, .pointer (some ⟨b1, 2, none⟩)), (36, .int .i64 x.key), (37, .tuple [.int .i64 ((leastM xs x.op x.epoch x.key).1), .bool ((leastM xs x.op x.epoch x.key).2)].toArray), (38, .int .i64 ((leastM xs x.op x.epoch x.key).1)), (39, .bool ((leastM xs x.op x.epoch x.key).2)), (46, .bool (((leastM xs x.op x.epoch x.key).2) && (decide (((leastM xs x.op x.epoch x.key).1) ≤ x.val))))] (fun w' => w15 = w') ?_ ?_
    ·refine J_if (gd := 41) rfl rfl (fun hg4 => ?_) (fun hg4 => ?_)
     ·refine J_gd rfl rfl (R_move rfl) rfl (J_gd rfl rfl (R_fieldAddr0 fl102_3 rfl) rfl (J_gd rfl rfl (R_load sc3 rfl (h1.one 3 rfl)) rfl (J_gd rfl rfl (R_leq rfl rfl) rfl (J_st (R_pickT rfl rfl) rfl (J_cutEnd ⟨rfl, rfl, rfl, rfl, rfl, rfl, rfl, rfl, rfl, rfl, rfl, rfl, rfl, rfl, rfl, rfl, rfl, rfl, rfl, rfl, rfl, rfl, rfl, rfl, rfl, rfl, rfl, rfl, rfl, congrArg (fun b => some (Value.bool b)) (show (decide (((leastM xs x.op x.epoch x.key).1) ≤ x.val)) = (((leastM xs x.op x.epoch x.key).2) && (decide (((leastM xs x.op x.epoch x.key).1) ≤ x.val))) by first | (rw [hg4] <;> rfl) | (simp [hg4]; done) | (simp only [nat_nlt] <;> simp)), trivial⟩ rfl)))))
     ·refine J_gdno rfl rfl rfl rfl (J_gdno rfl rfl rfl rfl (J_gdno rfl rfl rfl rfl (J_gdno rfl rfl rfl rfl (J_st (R_pickF rfl rfl) rfl (J_cutEnd ⟨rfl, rfl, rfl, rfl, rfl, rfl, rfl, rfl, rfl, rfl, rfl, rfl, rfl, rfl, rfl, rfl, rfl, rfl, rfl, rfl, rfl, rfl, rfl, rfl, rfl, rfl, rfl, rfl, rfl, congrArg (fun b => some (Value.bool b)) (show false = (((leastM xs x.op x.epoch x.key).2) && (decide (((leastM xs x.op x.epoch x.key).1) ≤ x.val))) by first | (rw [hg4] <;> rfl) | (simp [hg4]; done) | (simp only [nat_nlt] <;> simp)), trivial⟩ rfl)))))
    rintro _ rfl
    refine J_done ?_
    refine S_cond rfl (fun hc8 => ?_) (fun hc8 => ?_)
    ·refine S_seq ?_
     refine S_reg [true, true, true] rfl rfl ?_
     refine J_st (R_move rfl) rfl (J_st (R_assign rfl) rfl (J_st (R_assign rfl) rfl (J_done ?_)))
     refine S_ret (E_inB_ret (E_doneN (l := [.tmp 6, .tmp 7]) (vs := [v1, .bool false]) rfl ⟨.tmp rfl, .tmp rfl, trivial⟩ rfl E ?_))
     rw [recallM_b (.inr (by assumption)), betterM_yes (by assumption)]
     exact ⟨_, rfl, Own.fin ho1 (by omega) (by omega) (by first | rfl | simp only [List.nil_append])⟩
    ·refine S_skip ?_
     refine S_seq ?_
     refine S_reg [false, true] rfl rfl ?_
     refine J_buildSlice (vs := []) (css := []) sl35 rfl rfl trivial rfl rfl (fun b5 w17 e11 s5 h5 => ?_)
     replace h5 : Blk w17 b5 [] := h5
     have g_b5 : w.heap.size ≤ b5 := by have := E.size; omega
     have y_b5 := h5.lt
     replace E := E.trans e11; replace h1 := h1.ext e11; replace ho1 := ho1.ext e11
     have z14 := e11.size
     refine J_st (R_assign rfl) rfl (J_done ?_)
     refine S_seq ?_
     refine S_seq ?_
     refine S_reg [true] rfl rfl ?_
     refine J_st (R_assign rfl) rfl (J_done ?_)
     refine S_block ?_
     refine S_loop (fun (xq : Nat × Value) => let ⟨k, vo⟩ := xq; [(1, vxs), (5, .pointer (some ⟨b1, 0, none⟩)), (6, .slice none 0 0), (7, .bool false), (8, v1), (11, vo), (12, .int .i64 ((k : Nat) : Int))]) (fun (xq : Nat × Value) w' => let ⟨k, vo⟩ := xq; Ext w w' ∧ w17.heap.size ≤ w'.heap.size ∧ Blk w' b1 (Enc.enc x) ∧ Own w' b2 w3.heap.size 4 v1 ([] ++ List.flatMap (Enc.enc (α := Cell)) xs) ∧ k ≤ xs.length ∧ Own w' b5 w'.heap.size 4 vo (List.flatMap (Enc.enc (α := Cell)) ((xs.take k).filter (fun y => !(slot x y))))) (fun (xq : Nat × Value) => let ⟨k, vo⟩ := xq; xs.length - k) (0, .slice (some ⟨b5, 0, none⟩) 0 0) ⟨rfl, rfl, rfl, rfl, rfl, rfl, rfl, trivial⟩ ⟨E, Nat.le_refl _, h1, ho1, Nat.zero_le _, Own.fin (Own.ofBlk (lo := b5) (hi := b5 + 1) (sz := 4) h5 (Nat.le_refl _) (Nat.lt_succ_self _) (by simp) (by simp [maxLen])) (by have := E.size; omega) (by omega) rfl⟩ ?_
     clear E h1 ho1 h5
     rintro ⟨k, vo⟩ w18 ⟨E, z15, h1, ho1, hk, ho⟩
     refine S_sub [(1, vxs), (5, .pointer (some ⟨b1, 0, none⟩)), (6, .slice none 0 0), (7, .bool false), (8, v1), (11, vo), (12, .int .i64 ((k : Nat) : Int))] ⟨rfl, rfl, rfl, rfl, rfl, rfl, rfl, trivial⟩ ?_
     refine S_seq ?_
     refine S_seq ?_
     refine S_reg [true, true, true, true] rfl rfl ?_
     refine J_st (R_move rfl) rfl (J_st (R_move rfl) rfl (J_st (R_len Tryz.underlying35 rfl (hxs.ext E).len) rfl (J_st (R_lss rfl rfl) rfl (J_done ?_))))
     refine S_cond rfl (fun hc9 => ?_) (fun hc9 => ?_)
     ·have hc9n : k < xs.length := by first | (have h := of_decide_eq_true hc9; omega) | (have h := hc9; simp at h; omega)
      refine S_skip ?_
      refine S_seq ?_
      refine S_block ?_
      refine S_seq ?_
      refine S_regD mixed [(0, true), (1, true), (2, true), (3, true), (4, true), (5, true), (6, true), (7, true), (8, true), (9, true), (10, true), (11, true), (12, true), (13, true), (14, true), (15, true), (16, true), (17, true), (18, true), (19, true), (20, true), (21, true), (22, true), (23, true), (24, true), (25, true), (26, true), (27, true)] (by decide +kernel) rfl (fun w19 e12 => ?_)
      replace E := E.trans e12; replace h1 := h1.ext e12; replace ho1 := ho1.ext e12; replace ho := ho.ext e12
      have z16 := e12.size
      refine J_st (R_move rfl) rfl (J_st (R_move rfl) rfl ?_)
      have hi2 : k < xs.length := (by first | assumption | omega)
      refine J_st (R_index (i := k) sl35 rfl rfl (hxs.ext E) hi2) rfl (J_st (R_fieldAddr fl102_0 rfl) rfl (J_st (R_load sc3 rfl (((hxs.ext E).get hi2).one 0 rfl)) rfl (J_st (R_fieldAddr0 fl102_0 rfl) rfl (J_st (R_load sc3 rfl (h1.one 0 rfl)) rfl (J_st (R_neq rfl rfl) rfl (J_st (R_move rfl) rfl ?_))))))
      refine J_cut 19 [(1, vxs), (5, .pointer (some ⟨b1, 0, none⟩)), (6, .slice none 0 0), (7, .bool false), (8, v1), (11, vo), (12, .int .i64 ((k : Nat) : Int)), (49, .int .i64 ((k : Nat) : Int)), (50, vxs), (51, .int .i64 ((xs.length : Nat) : Int)), (52, .bool (decide (((k : Nat) : Int) < ((xs.length : Nat) : Int)))), (82, .bool (((((xs[k]'hi2).op) != x.op) || (((xs[k]'hi2).epoch) != x.epoch)) || (((xs[k]'hi2).key) != x.key)))] (fun w' => w19 = w') ?_ ?_
      ·refine J_if (gd := 63) rfl rfl (fun hg5 => ?_) (fun hg5 => ?_)
       ·refine J_gdno rfl rfl rfl rfl (J_gdno rfl rfl rfl rfl (J_gdno rfl rfl rfl rfl (J_gdno rfl rfl rfl rfl (J_gdno rfl rfl rfl rfl (J_gdno rfl rfl rfl rfl (J_gdno rfl rfl rfl rfl (J_gdno rfl rfl rfl rfl (J_st (R_pickT rfl rfl) rfl (J_st (R_move rfl) rfl (J_gdno rfl rfl rfl rfl (J_gdno rfl rfl rfl rfl (J_gdno rfl rfl rfl rfl (J_gdno rfl rfl rfl rfl (J_gdno rfl rfl rfl rfl (J_gdno rfl rfl rfl rfl (J_gdno rfl rfl rfl rfl (J_gdno rfl rfl rfl rfl (J_st (R_pickT rfl rfl) rfl (J_cutEnd ⟨rfl, rfl, rfl, rfl, rfl, rfl, rfl, rfl, rfl, rfl, rfl, congrArg (fun b => some (Value.bool b)) (show true = (((((xs[k]'hi2).op) != x.op) || (((xs[k]'hi2).epoch) != x.epoch)) || (((xs[k]'hi2).key) != x.key)) by first | (rw [hg5] <;> rfl) | (simp [hg5]; done) | (simp only [nat_nlt] <;> simp)), trivial⟩ rfl)))))))))))))))))))
       ·refine J_gd rfl rfl (R_move rfl) rfl (J_gd rfl rfl (R_move rfl) rfl (J_gd rfl rfl (R_index (i := k) sl35 rfl rfl (hxs.ext E) hi2) rfl (J_gd rfl rfl (R_fieldAddr fl102_1 rfl) rfl (J_gd rfl rfl (R_load sc3 rfl (((hxs.ext E).get hi2).one 1 rfl)) rfl (J_gd rfl rfl (R_fieldAddr0 fl102_1 rfl) rfl (J_gd rfl rfl (R_load sc3 rfl (h1.one 1 rfl)) rfl (J_gd rfl rfl (R_neq rfl rfl) rfl (J_st (R_pickF rfl rfl) rfl (J_st (R_move rfl) rfl ?_)))))))))
        refine J_if (gd := 73) rfl rfl (fun hg6 => ?_) (fun hg6 => ?_)
        ·refine J_gdno rfl rfl rfl rfl (J_gdno rfl rfl rfl rfl (J_gdno rfl rfl rfl rfl (J_gdno rfl rfl rfl rfl (J_gdno rfl rfl rfl rfl (J_gdno rfl rfl rfl rfl (J_gdno rfl rfl rfl rfl (J_gdno rfl rfl rfl rfl (J_st (R_pickT rfl rfl) rfl (J_cutEnd ⟨rfl, rfl, rfl, rfl, rfl, rfl, rfl, rfl, rfl, rfl, rfl, congrArg (fun b => some (Value.bool b)) (show true = (((((xs[k]'hi2).op) != x.op) || (((xs[k]'hi2).epoch) != x.epoch)) || (((xs[k]'hi2).key) != x.key)) by first | (rw [hg5, hg6] <;> rfl) | (simp [hg5, hg6]; done) | (simp only [nat_nlt] <;> simp)), trivial⟩ rfl)))))))))
        ·refine J_gd rfl rfl (R_move rfl) rfl (J_gd rfl rfl (R_move rfl) rfl (J_gd rfl rfl (R_index (i := k) sl35 rfl rfl (hxs.ext E) hi2) rfl (J_gd rfl rfl (R_fieldAddr fl102_2 rfl) rfl (J_gd rfl rfl (R_load sc3 rfl (((hxs.ext E).get hi2).one 2 rfl)) rfl (J_gd rfl rfl (R_fieldAddr0 fl102_2 rfl) rfl (J_gd rfl rfl (R_load sc3 rfl (h1.one 2 rfl)) rfl (J_gd rfl rfl (R_neq rfl rfl) rfl (J_st (R_pickF rfl rfl) rfl (J_cutEnd ⟨rfl, rfl, rfl, rfl, rfl, rfl, rfl, rfl, rfl, rfl, rfl, congrArg (fun b => some (Value.bool b)) (show (((xs[k]'hi2).key) != x.key) = (((((xs[k]'hi2).op) != x.op) || (((xs[k]'hi2).epoch) != x.epoch)) || (((xs[k]'hi2).key) != x.key)) by first | (rw [hg5, hg6] <;> rfl) | (simp [hg5, hg6]; done) | (simp only [nat_nlt] <;> simp)), trivial⟩ rfl)))))))))
      rintro _ rfl
      refine J_done ?_
      refine S_cond rfl (fun hc10 => ?_) (fun hc10 => ?_)
      ·refine S_reg [true, true, true, true, true, false, false, true] rfl rfl ?_
       refine J_st (R_move rfl) rfl (J_st (R_move rfl) rfl (J_st (R_move rfl) rfl (J_st (R_index (i := k) sl35 rfl rfl (hxs.ext E) hi2) rfl (J_st (R_loadS st102 rfl ((hxs.ext E).get hi2) rfl) rfl ?_))))
       refine J_buildSlice (vs := [.agg (Enc.enc (xs[k]'hi2)).toArray]) (css := [[.int .i64 ((xs[k]'hi2).op), .int .i64 ((xs[k]'hi2).epoch), .int .i64 ((xs[k]'hi2).key), .int .i64 ((xs[k]'hi2).val)]]) sl35 rfl rfl ⟨⟨rfl, rfl⟩, trivial⟩ rfl rfl (fun b6 w21 e13 s6 h6 => ?_)
       replace h6 : Blk w21 b6 [.int .i64 ((xs[k]'hi2).op), .int .i64 ((xs[k]'hi2).epoch), .int .i64 ((xs[k]'hi2).key), .int .i64 ((xs[k]'hi2).val)] := h6
       have g_b6 : w.heap.size ≤ b6 := by have := E.size; omega
       have y_b6 := h6.lt
       replace E := E.trans e13; replace h1 := h1.ext e13; replace ho1 := ho1.ext e13; replace ho := ho.ext e13
       have z17 := e13.size
       refine J_append sl35 rfl rfl ho (Src.ofBlk h6 rfl) rfl (by first | (simp only [sum_flat, List.length_nil, List.length_cons]; simp only [Enc.sz]; omega) | (have h := filt_len xs (fun y => !(slot x y)) k; simp only [show Enc.sz Cell = 4 from rfl] at h; simp only [List.length_cons, List.length_nil]; omega)) (by decide) (by omega) (by omega) rfl rfl (fun v5 w22 m3 ho5 => ?_)
       replace E := E.step m3 (fun g hg => by have := Own.blk ho g hg; omega); replace h1 := h1.mod m3 (fun g hg => by have := Own.blk ho g hg; omega); replace ho1 := ho1.mod m3 (fun g hg => by have := Own.blk ho g hg; omega)
       have z18 := m3.size
       refine J_st (R_assign rfl) rfl (J_done ?_)
       refine S_nil (E_inB ?_)
       refine S_reg [true, true, true] rfl rfl ?_
       refine J_st (R_move rfl) rfl (J_st (R_add rfl rfl (add_one hc9n hxs.1)) rfl (J_st (R_assign rfl) rfl (J_done ?_)))
       refine S_nil (E_again (k + 1, v5) (by simp; omega) ⟨rfl, rfl, rfl, rfl, rfl, rfl, rfl, trivial⟩ ⟨E, (by omega), h1, ho1, (by omega), Own.fin ho5 (Nat.le_refl _) (by omega) (filt_yes (by assumption) (ns_yes (by assumption)))⟩)
      ·refine S_skip ?_
       refine S_nil (E_inB ?_)
       refine S_reg [true, true, true] rfl rfl ?_
       refine J_st (R_move rfl) rfl (J_st (R_add rfl rfl (add_one hc9n hxs.1)) rfl (J_st (R_assign rfl) rfl (J_done ?_)))
       refine S_nil (E_again (k + 1, vo) (by simp; omega) ⟨rfl, rfl, rfl, rfl, rfl, rfl, rfl, trivial⟩ ⟨E, (by omega), h1, ho1, (by omega), Own.fin ho (Nat.le_refl _) (by omega) (filt_no (by assumption) (ns_no (by assumption)))⟩)
     ·have hc9n : ¬ k < xs.length := by first | (have h := of_decide_eq_false hc9; omega) | (have h := hc9; simp at h; omega)
      refine S_exit (E_lp_exit (E_inB_exit ?_))
      refine S_seq ?_
      refine S_reg [true, true, false, true, true] rfl rfl ?_
      refine J_st (R_move rfl) rfl (J_st (R_loadS st102 rfl h1.at rfl) rfl ?_)
      refine J_call Tryz.call89 rfl (s_PutCell vo ((xs.take k).filter (fun y => !(slot x y))) x _ (Own.rd (by decide) ho) (by have h1 := List.length_filter_le (fun y => !(slot x y)) (xs.take k); simp only [List.length_take] at h1; omega)) rfl (fun v6 w23 e14 ho6 => ?_)
      have g_ho6 : w.heap.size ≤ w18.heap.size := E.size
      replace E := E.trans e14; replace h1 := h1.ext e14; replace ho1 := ho1.ext e14; replace ho := ho.ext e14
      have z19 := e14.size
      refine J_st (R_assign rfl) rfl (J_st (R_assign rfl) rfl (J_done ?_))
      refine S_ret (E_inB_ret (E_doneN (l := [.tmp 6, .tmp 7]) (vs := [v6, .bool true]) rfl ⟨.tmp rfl, .tmp rfl, trivial⟩ rfl E ?_))
      rw [recallM_b (.inr (by assumption)), betterM_no (by assumption)]
      exact ⟨_, rfl, Own.fin ho6 (by omega) (by omega) (by simp only [List.nil_append, List.take_of_length_le (show xs.length ≤ k by omega)] <;> rfl)⟩
   ·refine S_skip ?_
    refine S_nil (E_inB ?_)
    refine S_seq ?_
    refine S_reg [true, true, true] rfl rfl ?_
    refine J_st (R_move rfl) rfl (J_st (R_assign rfl) rfl (J_st (R_assign rfl) rfl (J_done ?_)))
    refine S_ret (E_doneN (l := [.tmp 6, .tmp 7]) (vs := [v1, .bool true]) rfl ⟨.tmp rfl, .tmp rfl, trivial⟩ rfl E ?_)
    rw [recallM_o (by assumption) (by assumption) (by assumption)]
    exact ⟨_, rfl, Own.fin ho1 (by omega) (by omega) (by first | rfl | simp only [List.nil_append])⟩

set_option maxRecDepth 20000 in
theorem s_l02Less (a : Int) (b : Int) (w : World)  : Ct Tryz.prog 87 [.int .i64 a, .int .i64 b] w (fun v _ => v = .int .i64 (if b < a then b else a)) := by
 refine ct_of Tryz.func87 rfl Tryz.ntmps87 rfl ?_
 refine S_sub [(0, .int .i64 a), (1, .int .i64 b)] ⟨rfl, rfl, trivial⟩ ?_
 have E : Ext w w := Ext.refl w
 refine S_seq ?_
 refine S_reg [true] rfl rfl ?_
 refine J_st (R_assign rfl) rfl (J_done ?_)
 refine S_seq ?_
 refine S_seq ?_
 refine S_reg [true, true, true] rfl rfl ?_
 refine J_st (R_move rfl) rfl (J_st (R_move rfl) rfl (J_st (R_lss rfl rfl) rfl (J_done ?_)))
 refine S_cond rfl (fun hc1 => ?_) (fun hc1 => ?_)
 ·refine S_seq ?_
  refine S_reg [true, true] rfl rfl ?_
  refine J_st (R_move rfl) rfl (J_st (R_assign rfl) rfl (J_done ?_))
  refine S_ret (E_done1 rfl rfl E ?_)
  rw [if_pos (of_decide_eq_true hc1)]
 ·refine S_skip ?_
  refine S_seq ?_
  refine S_reg [true, true] rfl rfl ?_
  refine J_st (R_move rfl) rfl (J_st (R_assign rfl) rfl (J_done ?_))
  refine S_ret (E_done1 rfl rfl E ?_)
  rw [if_neg (of_decide_eq_false hc1)]

set_option maxRecDepth 20000 in
theorem c_Changed (cx : List Value) (x : Node) (a : Int) (b : Int) (w : World) (hx : Dat.R w 0 w.heap.size cx x) : Ct Tryz.prog 78 [.agg cx.toArray, .int .i64 a, .int .i64 b] w (fun v _ => v = .tuple [.int .i64 ((changedM x a b).1), .int .i64 ((changedM x a b).2.1), .bool ((changedM x a b).2.2)].toArray) := by
 refine ct_of Tryz.func78 rfl Tryz.ntmps78 rfl ?_
 obtain ⟨o1, rfl, hd1⟩ := Node.op hx
 refine S_sub [(0, .agg [.int .i64 x.kind, .int .i64 x.a, .int .i64 x.b, o1].toArray), (1, .int .i64 a), (2, .int .i64 b)] ⟨rfl, rfl, rfl, trivial⟩ ?_
 have E : Ext w w := Ext.refl w
 refine S_seq ?_
 refine S_reg [false, true, true, true] rfl rfl ?_
 refine J_box rfl rfl (fun b1 w1 e1 s1 h1 => ?_)
 have g_b1 : w.heap.size ≤ b1 := by have := E.size; omega
 have y_b1 := h1.lt
 replace E := E.trans e1
 have z1 := e1.size
 refine J_st (R_assign rfl) rfl (J_st (R_assign rfl) rfl (J_st (R_assign rfl) rfl (J_done ?_)))
 refine S_seq ?_
 refine S_seq ?_
 refine S_reg [true, false, true, true, true, true, false, true, true] rfl rfl ?_
 refine J_st (R_loadS st87 rfl h1.at rfl) rfl ?_
 refine J_call Tryz.call72 rfl (c_NodeOk [.int .i64 x.kind, .int .i64 x.a, .int .i64 x.b, o1] x _ (Node.mkR x (RdD.any (hd1.ext E)))) rfl (fun _ w2 e2 hv => ?_)
 subst hv
 replace E := E.trans e2; replace h1 := h1.ext e2
 have z2 := e2.size
 refine J_st (R_not rfl) rfl (J_st (R_move rfl) rfl ?_)
 refine J_cut 5 [(0, .agg [.int .i64 x.kind, .int .i64 x.a, .int .i64 x.b, o1].toArray), (1, .int .i64 a), (2, .int .i64 b), (3, .pointer (some ⟨b1, 0, none⟩)), (6, .int .i64 0), (7, .int .i64 0), (8, .bool false), (17, .bool ((!(nodeOk x)) || (!(win a 0 99 && win b 0 999))))] (fun w' => Ext w w' ∧ w2.heap.size ≤ w'.heap.size ∧ Blk w' b1 ([.int .i64 x.kind, .int .i64 x.a, .int .i64 x.b, o1])) ?_ ?_
 ·refine J_if (gd := 12) rfl rfl (fun hg1 => ?_) (fun hg1 => ?_)
  ·refine J_gdno rfl rfl rfl rfl (J_gdno rfl rfl rfl rfl ?_)
   refine J_ungno rfl rfl rfl rfl ?_
   refine J_gdno rfl rfl rfl rfl (J_st (R_pickT rfl rfl) rfl (J_cutEnd ⟨rfl, rfl, rfl, rfl, rfl, rfl, rfl, congrArg (fun b => some (Value.bool b)) (show true = ((!(nodeOk x)) || (!(win a 0 99 && win b 0 999))) by first | (rw [hg1] <;> rfl) | (simp [hg1]; done) | (simp only [nat_nlt] <;> simp)), trivial⟩ ⟨E, (by omega), h1⟩))
  ·refine J_gd rfl rfl (R_move rfl) rfl (J_gd rfl rfl (R_move rfl) rfl ?_)
   refine J_ung rfl rfl ?_
   refine J_call Tryz.call96 rfl (c_itemOk a b _ ) rfl (fun _ w4 e3 hv => ?_)
   subst hv
   replace E := E.trans e3; replace h1 := h1.ext e3
   have z3 := e3.size
   refine J_gd rfl rfl (R_not rfl) rfl (J_st (R_pickF rfl rfl) rfl (J_cutEnd ⟨rfl, rfl, rfl, rfl, rfl, rfl, rfl, congrArg (fun b => some (Value.bool b)) (show (!(win a 0 99 && win b 0 999)) = ((!(nodeOk x)) || (!(win a 0 99 && win b 0 999))) by first | (rw [hg1] <;> rfl) | (simp [hg1]; done) | (simp only [nat_nlt] <;> simp)), trivial⟩ ⟨E, (by omega), h1⟩))
 clear E h1
 rintro w3 ⟨E, z4, h1⟩
 refine J_done ?_
 refine S_cond rfl (fun hc1 => ?_) (fun hc1 => ?_)
 ·refine S_seq ?_
  refine S_reg [true, true, true, true, true] rfl rfl ?_
  refine J_st (R_move rfl) rfl (J_st (R_move rfl) rfl (J_st (R_assign rfl) rfl (J_st (R_assign rfl) rfl (J_st (R_assign rfl) rfl (J_done ?_)))))
  refine S_ret (E_doneN (l := [.tmp 6, .tmp 7, .tmp 8]) (vs := [.int .i64 a, .int .i64 b, .bool false]) rfl ⟨.tmp rfl, .tmp rfl, .tmp rfl, trivial⟩ rfl E ?_)
  rw [ch_0 (by assumption)]
 ·have hno := ch_ok hc1
  refine S_skip ?_
  refine S_seq ?_
  refine S_seq ?_
  refine S_reg [true, true] rfl rfl ?_
  refine J_st (R_fieldAddr0 fl87_0 rfl) rfl (J_st (R_load sc3 rfl (h1.one 0 rfl)) rfl (J_done ?_))
  refine S_block ?_
  refine S_seq ?_
  refine S_reg [true, true] rfl rfl ?_
  refine J_st (R_eql rfl rfl) rfl (J_st (R_assign rfl) rfl (J_done ?_))
  refine S_cond rfl (fun hc2 => ?_) (fun hc2 => ?_)
  ·refine S_seq ?_
   refine S_regD mixed [(0, true), (1, true), (2, true), (3, true), (4, true), (5, true), (6, true), (7, true), (8, true)] (by decide +kernel) rfl (fun w5 e4 => ?_)
   replace E := E.trans e4; replace h1 := h1.ext e4
   have z5 := e4.size
   refine J_st (R_move rfl) rfl (J_st (R_move rfl) rfl (J_st (R_fieldAddr0 fl87_1 rfl) rfl (J_st (R_load sc3 rfl (h1.one 1 rfl)) rfl (J_st (R_add rfl rfl rfl) rfl (J_st (R_min rfl rfl) rfl (J_st (R_assign rfl) rfl (J_st (R_assign rfl) rfl (J_st (R_assign rfl) rfl (J_done ?_)))))))))
   refine S_ret (E_inB_ret (E_doneN (l := [.tmp 6, .tmp 7, .tmp 8]) (vs := [.int .i64 a, .int .i64 (if (IntKind.i64.wrap (b + x.a)) < 999 then (IntKind.i64.wrap (b + x.a)) else 999), .bool true]) rfl ⟨.tmp rfl, .tmp rfl, .tmp rfl, trivial⟩ rfl E ?_))
   rw [ch_2 (by assumption) (by assumption)]
  ·refine S_seq ?_
   refine S_reg [true, true] rfl rfl ?_
   refine J_st (R_eql rfl rfl) rfl (J_st (R_assign rfl) rfl (J_done ?_))
   refine S_cond rfl (fun hc3 => ?_) (fun hc3 => ?_)
   ·refine S_seq ?_
    refine S_reg [true, true, true, true, true, true, true, true, true] rfl rfl ?_
    refine J_st (R_move rfl) rfl (J_st (R_fieldAddr0 fl87_1 rfl) rfl (J_st (R_load sc3 rfl (h1.one 1 rfl)) rfl (J_st (R_add rfl rfl rfl) rfl (J_st (R_rem rfl rfl (by decide) rfl) rfl (J_st (R_move rfl) rfl (J_st (R_assign rfl) rfl (J_st (R_assign rfl) rfl (J_st (R_assign rfl) rfl (J_done ?_)))))))))
    refine S_ret (E_inB_ret (E_doneN (l := [.tmp 6, .tmp 7, .tmp 8]) (vs := [.int .i64 (Int.tmod (IntKind.i64.wrap (a + x.a)) 100), .int .i64 b, .bool true]) rfl ⟨.tmp rfl, .tmp rfl, .tmp rfl, trivial⟩ rfl E ?_))
    rw [ch_4 (by assumption) (by assumption)]
   ·refine S_seq ?_
    refine S_reg [true, true] rfl rfl ?_
    refine J_st (R_eql rfl rfl) rfl (J_st (R_assign rfl) rfl (J_done ?_))
    refine S_cond rfl (fun hc4 => ?_) (fun hc4 => ?_)
    ·have hna := node_a3 hno hc4
     refine S_seq ?_
     refine S_regD mixed [(0, true), (1, true), (2, true), (3, true), (4, true), (5, true), (6, true), (7, true), (8, true), (9, true), (10, true), (11, true)] (by decide +kernel) rfl (fun w6 e5 => ?_)
     replace E := E.trans e5; replace h1 := h1.ext e5
     have z6 := e5.size
     refine J_st (R_move rfl) rfl (J_st (R_move rfl) rfl (J_st (R_move rfl) rfl (J_st (R_fieldAddr0 fl87_1 rfl) rfl (J_st (R_load sc3 rfl (h1.one 1 rfl)) rfl (J_st (R_rem rfl rfl (by omega) rfl) rfl (J_st (R_fieldAddr0 fl87_2 rfl) rfl (J_st (R_load sc3 rfl (h1.one 2 rfl)) rfl (J_st (R_eql rfl rfl) rfl (J_st (R_assign rfl) rfl (J_st (R_assign rfl) rfl (J_st (R_assign rfl) rfl (J_done ?_))))))))))))
     refine S_ret (E_inB_ret (E_doneN (l := [.tmp 6, .tmp 7, .tmp 8]) (vs := [.int .i64 a, .int .i64 b, .bool ((Int.tmod a x.a) == x.b)]) rfl ⟨.tmp rfl, .tmp rfl, .tmp rfl, trivial⟩ rfl E ?_))
     rw [ch_3 (by assumption) (by assumption)]
    ·refine S_skip ?_
     refine S_nil (E_inB ?_)
     refine S_seq ?_
     refine S_regD mixed [(0, true), (1, true), (2, true), (3, true), (4, true), (5, true), (6, true), (7, true)] (by decide +kernel) rfl (fun w7 e6 => ?_)
     replace E := E.trans e6; replace h1 := h1.ext e6
     have z7 := e6.size
     refine J_st (R_move rfl) rfl (J_st (R_move rfl) rfl (J_st (R_fieldAddr0 fl87_0 rfl) rfl (J_st (R_load sc3 rfl (h1.one 0 rfl)) rfl (J_st (R_neq rfl rfl) rfl (J_st (R_assign rfl) rfl (J_st (R_assign rfl) rfl (J_st (R_assign rfl) rfl (J_done ?_))))))))
     refine S_ret (E_doneN (l := [.tmp 6, .tmp 7, .tmp 8]) (vs := [.int .i64 a, .int .i64 b, .bool (x.kind != 8)]) rfl ⟨.tmp rfl, .tmp rfl, .tmp rfl, trivial⟩ rfl E ?_)
     rw [ch_o (by assumption) (by assumption) (by assumption) (by assumption)]

set_option maxRecDepth 20000 in
theorem s_Changed (cx : List Value) (x : Node) (a : Int) (b : Int) (w : World) (hx : Dat.R w 0 w.heap.size cx x) : Ct Tryz.prog 61 [.agg cx.toArray, .int .i64 a, .int .i64 b] w (fun v _ => v = .tuple [.int .i64 ((changedM x a b).1), .int .i64 ((changedM x a b).2.1), .bool ((changedM x a b).2.2)].toArray) := by
 refine ct_of Tryz.func61 rfl Tryz.ntmps61 rfl ?_
 obtain ⟨o1, rfl, hd1⟩ := Node.op hx
 refine S_sub [(0, .agg [.int .i64 x.kind, .int .i64 x.a, .int .i64 x.b, o1].toArray), (1, .int .i64 a), (2, .int .i64 b)] ⟨rfl, rfl, rfl, trivial⟩ ?_
 have E : Ext w w := Ext.refl w
 refine S_seq ?_
 refine S_reg [false, true, true, true] rfl rfl ?_
 refine J_box rfl rfl (fun b1 w1 e1 s1 h1 => ?_)
 have g_b1 : w.heap.size ≤ b1 := by have := E.size; omega
 have y_b1 := h1.lt
 replace E := E.trans e1
 have z1 := e1.size
 refine J_st (R_assign rfl) rfl (J_st (R_assign rfl) rfl (J_st (R_assign rfl) rfl (J_done ?_)))
 refine S_seq ?_
 refine S_seq ?_
 refine S_reg [true, false, true, true, true, false, true, true, true, true, false, true, true] rfl rfl ?_
 refine J_st (R_loadS st87 rfl h1.at rfl) rfl ?_
 refine J_call Tryz.call56 rfl (s_NodeOk [.int .i64 x.kind, .int .i64 x.a, .int .i64 x.b, o1] x _ (Node.mkR x (RdD.any (hd1.ext E)))) rfl (fun _ w2 e2 hv => ?_)
 subst hv
 replace E := E.trans e2; replace h1 := h1.ext e2
 have z2 := e2.size
 refine J_st (R_not rfl) rfl (J_st (R_move rfl) rfl ?_)
 refine J_cut 9 [(0, .agg [.int .i64 x.kind, .int .i64 x.a, .int .i64 x.b, o1].toArray), (1, .int .i64 a), (2, .int .i64 b), (3, .pointer (some ⟨b1, 0, none⟩)), (6, .int .i64 0), (7, .int .i64 0), (8, .bool false), (21, .bool (((!(nodeOk x)) || (!(win a 0 99))) || (!(win b 0 999))))] (fun w' => Ext w w' ∧ w2.heap.size ≤ w'.heap.size ∧ Blk w' b1 ([.int .i64 x.kind, .int .i64 x.a, .int .i64 x.b, o1])) ?_ ?_
 ·refine J_if (gd := 12) rfl rfl (fun hg1 => ?_) (fun hg1 => ?_)
  ·refine J_gdno rfl rfl rfl rfl ?_
   refine J_ungno rfl rfl rfl rfl ?_
   refine J_gdno rfl rfl rfl rfl (J_st (R_pickT rfl rfl) rfl (J_st (R_move rfl) rfl (J_gdno rfl rfl rfl rfl ?_)))
   refine J_ungno rfl rfl rfl rfl ?_
   refine J_gdno rfl rfl rfl rfl (J_st (R_pickT rfl rfl) rfl (J_cutEnd ⟨rfl, rfl, rfl, rfl, rfl, rfl, rfl, congrArg (fun b => some (Value.bool b)) (show true = (((!(nodeOk x)) || (!(win a 0 99))) || (!(win b 0 999))) by first | (rw [hg1] <;> rfl) | (simp [hg1]; done) | (simp only [nat_nlt] <;> simp)), trivial⟩ ⟨E, (by omega), h1⟩))
  ·refine J_gd rfl rfl (R_move rfl) rfl ?_
   refine J_ung rfl rfl ?_
   refine J_call Tryz.call55 rfl (s_l01In a 0 99 _ ) rfl (fun _ w4 e3 hv => ?_)
   subst hv
   replace E := E.trans e3; replace h1 := h1.ext e3
   have z3 := e3.size
   refine J_gd rfl rfl (R_not rfl) rfl (J_st (R_pickF rfl rfl) rfl (J_st (R_move rfl) rfl ?_))
   refine J_if (gd := 17) rfl rfl (fun hg2 => ?_) (fun hg2 => ?_)
   ·refine J_gdno rfl rfl rfl rfl ?_
    refine J_ungno rfl rfl rfl rfl ?_
    refine J_gdno rfl rfl rfl rfl (J_st (R_pickT rfl rfl) rfl (J_cutEnd ⟨rfl, rfl, rfl, rfl, rfl, rfl, rfl, congrArg (fun b => some (Value.bool b)) (show true = (((!(nodeOk x)) || (!(win a 0 99))) || (!(win b 0 999))) by first | (rw [hg1, hg2] <;> rfl) | (simp [hg1, hg2]; done) | (simp only [nat_nlt] <;> simp)), trivial⟩ ⟨E, (by omega), h1⟩))
   ·refine J_gd rfl rfl (R_move rfl) rfl ?_
    refine J_ung rfl rfl ?_
    refine J_call Tryz.call55 rfl (s_l01In b 0 999 _ ) rfl (fun _ w5 e4 hv => ?_)
    subst hv
    replace E := E.trans e4; replace h1 := h1.ext e4
    have z4 := e4.size
    refine J_gd rfl rfl (R_not rfl) rfl (J_st (R_pickF rfl rfl) rfl (J_cutEnd ⟨rfl, rfl, rfl, rfl, rfl, rfl, rfl, congrArg (fun b => some (Value.bool b)) (show (!(win b 0 999)) = (((!(nodeOk x)) || (!(win a 0 99))) || (!(win b 0 999))) by first | (rw [hg1, hg2] <;> rfl) | (simp [hg1, hg2]; done) | (simp only [nat_nlt] <;> simp)), trivial⟩ ⟨E, (by omega), h1⟩))
 clear E h1
 rintro w3 ⟨E, z5, h1⟩
 refine J_done ?_
 refine S_cond rfl (fun hc1 => ?_) (fun hc1 => ?_)
 ·replace hc1 := ch_st hc1
  refine S_seq ?_
  refine S_reg [true, true, true, true, true] rfl rfl ?_
  refine J_st (R_move rfl) rfl (J_st (R_move rfl) rfl (J_st (R_assign rfl) rfl (J_st (R_assign rfl) rfl (J_st (R_assign rfl) rfl (J_done ?_)))))
  refine S_ret (E_doneN (l := [.tmp 6, .tmp 7, .tmp 8]) (vs := [.int .i64 a, .int .i64 b, .bool false]) rfl ⟨.tmp rfl, .tmp rfl, .tmp rfl, trivial⟩ rfl E ?_)
  rw [ch_0 (by assumption)]
 ·replace hc1 := ch_s hc1
  have hno := ch_ok hc1
  refine S_skip ?_
  refine S_seq ?_
  refine S_seq ?_
  refine S_reg [true, true] rfl rfl ?_
  refine J_st (R_fieldAddr0 fl87_0 rfl) rfl (J_st (R_load sc3 rfl (h1.one 0 rfl)) rfl (J_done ?_))
  refine S_block ?_
  refine S_seq ?_
  refine S_reg [true, true] rfl rfl ?_
  refine J_st (R_eql rfl rfl) rfl (J_st (R_assign rfl) rfl (J_done ?_))
  refine S_cond rfl (fun hc2 => ?_) (fun hc2 => ?_)
  ·refine S_seq ?_
   refine S_reg [true, true, true, true, true, false, true, true, true] rfl rfl ?_
   refine J_st (R_move rfl) rfl (J_st (R_move rfl) rfl (J_st (R_fieldAddr0 fl87_1 rfl) rfl (J_st (R_load sc3 rfl (h1.one 1 rfl)) rfl (J_st (R_add rfl rfl rfl) rfl ?_))))
   refine J_call Tryz.call87 rfl (s_l02Less (IntKind.i64.wrap (b + x.a)) 999 _ ) rfl (fun _ w6 e5 hv => ?_)
   subst hv
   replace E := E.trans e5; replace h1 := h1.ext e5
   have z6 := e5.size
   refine J_st (R_assign rfl) rfl (J_st (R_assign rfl) rfl (J_st (R_assign rfl) rfl (J_done ?_)))
   refine S_ret (E_inB_ret (E_doneN (l := [.tmp 6, .tmp 7, .tmp 8]) (vs := [.int .i64 a, .int .i64 (if 999 < (IntKind.i64.wrap (b + x.a)) then 999 else (IntKind.i64.wrap (b + x.a))), .bool true]) rfl ⟨.tmp rfl, .tmp rfl, .tmp rfl, trivial⟩ rfl E ?_))
   rw [ch_2 (by assumption) (by assumption), min_999]
  ·refine S_seq ?_
   refine S_reg [true, true] rfl rfl ?_
   refine J_st (R_eql rfl rfl) rfl (J_st (R_assign rfl) rfl (J_done ?_))
   refine S_cond rfl (fun hc3 => ?_) (fun hc3 => ?_)
   ·refine S_seq ?_
    refine S_reg [true, true, true, true, true, true, true, true, true] rfl rfl ?_
    refine J_st (R_move rfl) rfl (J_st (R_fieldAddr0 fl87_1 rfl) rfl (J_st (R_load sc3 rfl (h1.one 1 rfl)) rfl (J_st (R_add rfl rfl rfl) rfl (J_st (R_rem rfl rfl (by decide) rfl) rfl (J_st (R_move rfl) rfl (J_st (R_assign rfl) rfl (J_st (R_assign rfl) rfl (J_st (R_assign rfl) rfl (J_done ?_)))))))))
    refine S_ret (E_inB_ret (E_doneN (l := [.tmp 6, .tmp 7, .tmp 8]) (vs := [.int .i64 (Int.tmod (IntKind.i64.wrap (a + x.a)) 100), .int .i64 b, .bool true]) rfl ⟨.tmp rfl, .tmp rfl, .tmp rfl, trivial⟩ rfl E ?_))
    rw [ch_4 (by assumption) (by assumption)]
   ·refine S_seq ?_
    refine S_reg [true, true] rfl rfl ?_
    refine J_st (R_eql rfl rfl) rfl (J_st (R_assign rfl) rfl (J_done ?_))
    refine S_cond rfl (fun hc4 => ?_) (fun hc4 => ?_)
    ·have hna := node_a3 hno hc4
     refine S_seq ?_
     refine S_regD mixed [(0, true), (1, true), (2, true), (3, true), (4, true), (5, true), (6, true), (7, true), (8, true), (9, true), (10, true), (11, true)] (by decide +kernel) rfl (fun w7 e6 => ?_)
     replace E := E.trans e6; replace h1 := h1.ext e6
     have z7 := e6.size
     refine J_st (R_move rfl) rfl (J_st (R_move rfl) rfl (J_st (R_move rfl) rfl (J_st (R_fieldAddr0 fl87_1 rfl) rfl (J_st (R_load sc3 rfl (h1.one 1 rfl)) rfl (J_st (R_rem rfl rfl (by omega) rfl) rfl (J_st (R_fieldAddr0 fl87_2 rfl) rfl (J_st (R_load sc3 rfl (h1.one 2 rfl)) rfl (J_st (R_eql rfl rfl) rfl (J_st (R_assign rfl) rfl (J_st (R_assign rfl) rfl (J_st (R_assign rfl) rfl (J_done ?_))))))))))))
     refine S_ret (E_inB_ret (E_doneN (l := [.tmp 6, .tmp 7, .tmp 8]) (vs := [.int .i64 a, .int .i64 b, .bool ((Int.tmod a x.a) == x.b)]) rfl ⟨.tmp rfl, .tmp rfl, .tmp rfl, trivial⟩ rfl E ?_))
     rw [ch_3 (by assumption) (by assumption)]
    ·refine S_skip ?_
     refine S_nil (E_inB ?_)
     refine S_seq ?_
     refine S_regD mixed [(0, true), (1, true), (2, true), (3, true), (4, true), (5, true), (6, true), (7, true)] (by decide +kernel) rfl (fun w8 e7 => ?_)
     replace E := E.trans e7; replace h1 := h1.ext e7
     have z8 := e7.size
     refine J_st (R_move rfl) rfl (J_st (R_move rfl) rfl (J_st (R_fieldAddr0 fl87_0 rfl) rfl (J_st (R_load sc3 rfl (h1.one 0 rfl)) rfl (J_st (R_neq rfl rfl) rfl (J_st (R_assign rfl) rfl (J_st (R_assign rfl) rfl (J_st (R_assign rfl) rfl (J_done ?_))))))))
     refine S_ret (E_doneN (l := [.tmp 6, .tmp 7, .tmp 8]) (vs := [.int .i64 a, .int .i64 b, .bool (x.kind != 8)]) rfl ⟨.tmp rfl, .tmp rfl, .tmp rfl, trivial⟩ rfl E ?_)
     rw [ch_o (by assumption) (by assumption) (by assumption) (by assumption)]

set_option maxRecDepth 20000 in
theorem s_Remembers (k : Int) (w : World)  : Ct Tryz.prog 62 [.int .i64 k] w (fun v _ => v = .bool (((k == 5) || (k == 6)) || (k == 8))) := by
 refine ct_of Tryz.func62 rfl Tryz.ntmps62 rfl ?_
 refine S_sub [(0, .int .i64 k)] ⟨rfl, trivial⟩ ?_
 have E : Ext w w := Ext.refl w
 refine S_seq ?_
 refine S_reg [true] rfl rfl ?_
 refine J_st (R_assign rfl) rfl (J_done ?_)
 refine S_seq ?_
 refine S_reg [true, true, true, true, true, true, true, true, true, true, true] rfl rfl ?_
 refine J_st (R_move rfl) rfl (J_st (R_eql rfl rfl) rfl (J_st (R_move rfl) rfl ?_))
 refine J_cut 7 [(0, .int .i64 k), (2, .bool false), (12, .bool (((k == 5) || (k == 6)) || (k == 8)))] (fun w' => w = w') ?_ ?_
 ·refine J_if (gd := 5) rfl rfl (fun hg1 => ?_) (fun hg1 => ?_)
  ·refine J_gdno rfl rfl rfl rfl (J_gdno rfl rfl rfl rfl (J_st (R_pickT rfl rfl) rfl (J_st (R_move rfl) rfl (J_gdno rfl rfl rfl rfl (J_gdno rfl rfl rfl rfl (J_st (R_pickT rfl rfl) rfl (J_cutEnd ⟨rfl, rfl, congrArg (fun b => some (Value.bool b)) (show true = (((k == 5) || (k == 6)) || (k == 8)) by first | (rw [hg1] <;> rfl) | (simp [hg1]; done) | (simp only [nat_nlt] <;> simp)), trivial⟩ rfl)))))))
  ·refine J_gd rfl rfl (R_move rfl) rfl (J_gd rfl rfl (R_eql rfl rfl) rfl (J_st (R_pickF rfl rfl) rfl (J_st (R_move rfl) rfl ?_)))
   refine J_if (gd := 9) rfl rfl (fun hg2 => ?_) (fun hg2 => ?_)
   ·refine J_gdno rfl rfl rfl rfl (J_gdno rfl rfl rfl rfl (J_st (R_pickT rfl rfl) rfl (J_cutEnd ⟨rfl, rfl, congrArg (fun b => some (Value.bool b)) (show true = (((k == 5) || (k == 6)) || (k == 8)) by first | (rw [hg1, hg2] <;> rfl) | (simp [hg1, hg2]; done) | (simp only [nat_nlt] <;> simp)), trivial⟩ rfl)))
   ·refine J_gd rfl rfl (R_move rfl) rfl (J_gd rfl rfl (R_eql rfl rfl) rfl (J_st (R_pickF rfl rfl) rfl (J_cutEnd ⟨rfl, rfl, congrArg (fun b => some (Value.bool b)) (show (k == 8) = (((k == 5) || (k == 6)) || (k == 8)) by first | (rw [hg1, hg2] <;> rfl) | (simp [hg1, hg2]; done) | (simp only [nat_nlt] <;> simp)), trivial⟩ rfl)))
 rintro _ rfl
 refine J_st (R_assign rfl) rfl (J_done ?_)
 refine S_ret (E_done1 rfl rfl E ?_)
 rfl

end Go.Proofs.YtffofbjffbfpiaaGreat
