/- What the functions that the laws call come to: a contract each; no condition. -/
import Derived.Test.YtmjjiajmkbjfnaaFns3
namespace Go.Proofs.Ytmjjiajmkbjfnaa
open Go Go.Proofs.Ytmjjiajmkbjfnaa.X Go.Proofs
set_option maxHeartbeats 4000000 in
set_option maxRecDepth 20000 in
theorem c_StepOp (cg : List Value) (g : Graph) (vcs : Value) (cs : List Cell) (r : Record) (w : World) (hg : Dat.R w 0 w.heap.size cg g) (hcs : RdS w vcs cs) (hb : cs.length ≤ 4194304) : Ct Try.prog 29 [.agg cg.toArray, vcs, .agg (Enc.enc r).toArray] w (fun v w' => ∃ u0 u1, v = .tuple [u0, u1, .bool ((stepM g cs r).2.2)].toArray ∧ Own w' w.heap.size w'.heap.size 4 u0 (List.flatMap (Enc.enc (α := Cell)) ((stepM g cs r).1)) ∧ Own w' w.heap.size w'.heap.size 5 u1 (List.flatMap (Enc.enc (α := Record)) ((stepM g cs r).2.1)) ∧ SepL [u0, u1]) := by
  refine ct_of Try.func29 rfl Try.ntmps29 rfl ?_
  obtain ⟨o1, rfl, hd1⟩ := Graph.op hg
  refine S_sub [(0, .agg [o1, .int .i64 g.workers, .int .i64 g.cap].toArray), (1, vcs), (2, .agg (Enc.enc r).toArray)] ⟨rfl, rfl, rfl, trivial⟩ ?_
  have E : Ext w w := Ext.refl w
  refine S_seq ?_
  refine S_reg [false, false, true, true, true] rfl rfl ?_
  refine J_box rfl rfl (fun b1 w1 e1 s1 h1 => ?_)
  have g_b1 : w.heap.size ≤ b1 := by have := E.size; omega
  have y_b1 := h1.lt
  replace E := E.trans e1
  have z1 := e1.size
  refine J_box rfl rfl (fun b2 w2 e2 s2 h2 => ?_)
  have g_b2 : w.heap.size ≤ b2 := by have := E.size; omega
  have y_b2 := h2.lt
  replace E := E.trans e2; replace h1 := h1.ext e2
  have z2 := e2.size
  refine J_st (R_assign rfl) rfl (J_st (R_assign rfl) rfl (J_st (R_assign rfl) rfl (J_done ?_)))
  refine S_seq ?_
  refine S_seq ?_
  refine S_reg [true, false, true, true, true, false, true, true, true, true, true, true, false, true, true] rfl rfl ?_
  refine J_st (R_loadS st36 rfl h1.at rfl) rfl ?_
  refine J_call Try.call44 rfl (c_GraphOk [o1, .int .i64 g.workers, .int .i64 g.cap] g _ (Graph.mkR g (RdD.any (hd1.ext E)))) rfl (fun _ w3 e3 hv => ?_)
  subst hv
  replace E := E.trans e3; replace h1 := h1.ext e3; replace h2 := h2.ext e3
  have z3 := e3.size
  refine J_st (R_not rfl) rfl (J_st (R_move rfl) rfl ?_)
  refine J_cut 11 [(0, .agg [o1, .int .i64 g.workers, .int .i64 g.cap].toArray), (1, vcs), (2, .agg (Enc.enc r).toArray), (3, .pointer (some ⟨b1, 0, none⟩)), (5, .pointer (some ⟨b2, 0, none⟩)), (6, .slice none 0 0), (7, .slice none 0 0), (8, .bool false), (33, .bool (((!(graphOk g)) || (!(recordOk r))) || (!(isNodeM g r.op))))] (fun w' => Ext w w' ∧ w3.heap.size ≤ w'.heap.size ∧ Blk w' b1 ([o1, .int .i64 g.workers, .int .i64 g.cap]) ∧ Blk w' b2 (Enc.enc r)) ?_ ?_
  · refine J_if (gd := 22) rfl rfl (fun hg1 => ?_) (fun hg1 => ?_)
    · refine J_gdno rfl rfl rfl rfl ?_
      refine J_ungno rfl rfl rfl rfl ?_
      refine J_gdno rfl rfl rfl rfl (J_st (R_pickT rfl rfl) rfl (J_st (R_move rfl) rfl (J_gdno rfl rfl rfl rfl (J_gdno rfl rfl rfl rfl (J_gdno rfl rfl rfl rfl ?_)))))
      refine J_ungno rfl rfl rfl rfl ?_
      refine J_gdno rfl rfl rfl rfl (J_st (R_pickT rfl rfl) rfl (J_cutEnd ⟨rfl, rfl, rfl, rfl, rfl, rfl, rfl, rfl, congrArg (fun b => some (Value.bool b)) (show true = (((!(graphOk g)) || (!(recordOk r))) || (!(isNodeM g r.op))) by first | (rw [hg1] <;> rfl) | (simp [hg1]; done) | (simp only [nat_nlt] <;> simp)), trivial⟩ ⟨E, (by omega), h1, h2⟩))
    · refine J_gd rfl rfl (R_loadS st54 rfl h2.at rfl) rfl ?_
      refine J_ung rfl rfl ?_
      refine J_call Try.call45 rfl (c_RecordOk r _ ) rfl (fun _ w5 e4 hv => ?_)
      subst hv
      replace E := E.trans e4; replace h1 := h1.ext e4; replace h2 := h2.ext e4
      have z4 := e4.size
      refine J_gd rfl rfl (R_not rfl) rfl (J_st (R_pickF rfl rfl) rfl (J_st (R_move rfl) rfl ?_))
      refine J_if (gd := 27) rfl rfl (fun hg2 => ?_) (fun hg2 => ?_)
      · refine J_gdno rfl rfl rfl rfl (J_gdno rfl rfl rfl rfl (J_gdno rfl rfl rfl rfl ?_))
        refine J_ungno rfl rfl rfl rfl ?_
        refine J_gdno rfl rfl rfl rfl (J_st (R_pickT rfl rfl) rfl (J_cutEnd ⟨rfl, rfl, rfl, rfl, rfl, rfl, rfl, rfl, congrArg (fun b => some (Value.bool b)) (show true = (((!(graphOk g)) || (!(recordOk r))) || (!(isNodeM g r.op))) by first | (rw [hg1, hg2] <;> rfl) | (simp [hg1, hg2]; done) | (simp only [nat_nlt] <;> simp)), trivial⟩ ⟨E, (by omega), h1, h2⟩))
      · refine J_gd rfl rfl (R_loadS st36 rfl h1.at rfl) rfl (J_gd rfl rfl (R_fieldAddr0 fl54_0 rfl) rfl (J_gd rfl rfl (R_load sc3 rfl (h2.one 0 rfl)) rfl ?_))
        refine J_ung rfl rfl ?_
        refine J_call Try.call46 rfl (c_isNode [o1, .int .i64 g.workers, .int .i64 g.cap] g r.op _ (Graph.mkR g (RdD.any (hd1.ext E)))) rfl (fun _ w6 e5 hv => ?_)
        subst hv
        replace E := E.trans e5; replace h1 := h1.ext e5; replace h2 := h2.ext e5
        have z5 := e5.size
        refine J_gd rfl rfl (R_not rfl) rfl (J_st (R_pickF rfl rfl) rfl (J_cutEnd ⟨rfl, rfl, rfl, rfl, rfl, rfl, rfl, rfl, congrArg (fun b => some (Value.bool b)) (show (!(isNodeM g r.op)) = (((!(graphOk g)) || (!(recordOk r))) || (!(isNodeM g r.op))) by first | (rw [hg1, hg2] <;> rfl) | (simp [hg1, hg2]; done) | (simp only [nat_nlt] <;> simp)), trivial⟩ ⟨E, (by omega), h1, h2⟩))
  clear E h1 h2
  rintro w4 ⟨E, z6, h1, h2⟩
  refine J_done ?_
  refine S_cond rfl (fun hc1 => ?_) (fun hc1 => ?_)
  · refine S_seq ?_
    refine S_reg [true, false, true, true, true] rfl rfl ?_
    refine J_st (R_move rfl) rfl ?_
    refine J_call Try.call26 rfl (c_copyCells vcs cs _ (hcs.ext E) (by first | omega | (simp only [mkL_length]; omega) | (rw [mkL_length]; done) | (simp only [mkL_length]; done))) rfl (fun v1 w7 e6 ho1 => ?_)
    have g_ho1 : w.heap.size ≤ w4.heap.size := E.size
    replace E := E.trans e6; replace h1 := h1.ext e6; replace h2 := h2.ext e6
    have z7 := e6.size
    refine J_st (R_assign rfl) rfl (J_st (R_assign rfl) rfl (J_st (R_assign rfl) rfl (J_done ?_)))
    refine S_ret (E_doneN (l := [.tmp 6, .tmp 7, .tmp 8]) (vs := [v1, .slice none 0 0, .bool false]) rfl ⟨.tmp rfl, .tmp rfl, .tmp rfl, trivial⟩ rfl E ?_)
    rw [st_0 hc1]
    exact ⟨_, _, rfl, Own.fin ho1 (by omega) (by omega) (by first | rfl | (simp only [List.nil_append]; done)), Own.finNil rfl, ⟨⟨(Sep.nilR _), trivial⟩, ⟨trivial, trivial⟩⟩⟩
  · have hq := st_of hc1
    have hop := isNode_of hq.2
    have hx : (g.nodes[Int.toNat r.op]'hop.2.2) = stNode g r := (getD_at hop.2.2).symm
    have hol : (g.nodes[Int.toNat r.op]'hop.2.2).outs.length ≤ 2 := hx ▸ outs_two (i := Int.toNat r.op) hq.1 (by omega)
    refine S_skip ?_
    refine S_seq ?_
    refine S_reg [true, true, true, true, true, true, false, false] rfl rfl ?_
    refine J_st (R_fieldAddr0 fl36_0 rfl) rfl (J_st (R_load sc34 rfl (h1.one 0 rfl)) rfl (J_st (R_fieldAddr0 fl54_0 rfl) rfl (J_st (R_load sc3 rfl (h2.one 0 rfl)) rfl ?_)))
    have hi1 : (Int.toNat r.op) < g.nodes.length := (by first | assumption | omega)
    obtain ⟨_, hr1, ha1⟩ := RdD.get hd1 hi1
    obtain ⟨o2, rfl, hd2⟩ := Node.op hr1
    replace ha1 : At w (sblk o1) (soff o1 + (Int.toNat r.op) * 4) [.int .i64 ((g.nodes[(Int.toNat r.op)]'hi1).kind), .int .i64 ((g.nodes[(Int.toNat r.op)]'hi1).a), .int .i64 ((g.nodes[(Int.toNat r.op)]'hi1).b), o2] := ha1
    refine J_st (R_indexZ (i := (Int.toNat r.op)) sl34 rfl rfl (hd1.ext E).1 (by omega) hi1) rfl (J_st (R_loadS st74 rfl (ha1.ext E) rfl) rfl ?_)
    refine J_alloc st74 rfl (fun b3 w8 e7 s3 h3 => ?_)
    have g_b3 : w.heap.size ≤ b3 := by have := E.size; omega
    have y_b3 := h3.lt
    replace E := E.trans e7; replace h1 := h1.ext e7; replace h2 := h2.ext e7
    have z8 := e7.size
    refine J_storeS' (cs' := [.int .i64 ((g.nodes[(Int.toNat r.op)]'hi1).kind), .int .i64 ((g.nodes[(Int.toNat r.op)]'hi1).a), .int .i64 ((g.nodes[(Int.toNat r.op)]'hi1).b), o2]) st74 rfl rfl rfl (all_cons rfl (all_cons rfl (all_cons rfl (all_cons (RdD.one (hd2.ext E)) rfl)))) h3 (Nat.le_of_ble_eq_true rfl) rfl (fun w9 m1 h3' => ?_)
    replace h3 := h3'
    replace E := E.step m1 (fun g hg => by cases hg; omega); replace h1 := h1.mod m1 (fun g hg => by cases hg; omega); replace h2 := h2.mod m1 (fun g hg => by cases hg; omega)
    have z9 := m1.size
    refine J_done ?_
    refine S_seq ?_
    refine S_reg [true, true, true, true, true, false, true, true, true, true, true, true, true] rfl rfl ?_
    refine J_st (R_loadS st74 rfl h3.at rfl) rfl (J_st (R_fieldAddr0 fl54_2 rfl) rfl (J_st (R_load sc3 rfl (h2.one 3 rfl)) rfl (J_st (R_fieldAddr0 fl54_3 rfl) rfl (J_st (R_load sc3 rfl (h2.one 4 rfl)) rfl ?_))))
    refine J_call Try.call47 rfl (c_Changed [.int .i64 ((g.nodes[(Int.toNat r.op)]'hi1).kind), .int .i64 ((g.nodes[(Int.toNat r.op)]'hi1).a), .int .i64 ((g.nodes[(Int.toNat r.op)]'hi1).b), o2] (g.nodes[(Int.toNat r.op)]'hi1) r.key r.val _ (Node.mkR (g.nodes[(Int.toNat r.op)]'hi1) (RdD.any (hd2.ext E)))) rfl (fun _ w10 e8 hv => ?_)
    subst hv
    replace E := E.trans e8; replace h1 := h1.ext e8; replace h2 := h2.ext e8; replace h3 := h3.ext e8
    have z10 := e8.size
    refine J_st (R_move rfl) rfl (J_st (R_extract rfl rfl) rfl (J_st (R_extract rfl rfl) rfl (J_st (R_extract rfl rfl) rfl (J_st (R_assign rfl) rfl (J_st (R_assign rfl) rfl (J_st (R_assign rfl) rfl (J_done ?_)))))))
    refine S_seq ?_
    refine S_seq ?_
    refine S_reg [true, true, true, true, true, true, true] rfl rfl ?_
    refine J_st (R_move rfl) rfl (J_st (R_not rfl) rfl (J_st (R_move rfl) rfl ?_))
    refine J_cut 4 [(0, .agg [o1, .int .i64 g.workers, .int .i64 g.cap].toArray), (1, vcs), (2, .agg (Enc.enc r).toArray), (3, .pointer (some ⟨b1, 0, none⟩)), (5, .pointer (some ⟨b2, 0, none⟩)), (6, .slice none 0 0), (7, .slice none 0 0), (8, .bool false), (9, .pointer (some ⟨b3, 0, none⟩)), (10, .int .i64 ((changedM (g.nodes[(Int.toNat r.op)]'hi1) r.key r.val).1)), (11, .int .i64 ((changedM (g.nodes[(Int.toNat r.op)]'hi1) r.key r.val).2.1)), (12, .bool ((changedM (g.nodes[(Int.toNat r.op)]'hi1) r.key r.val).2.2)), (33, .bool (((!(graphOk g)) || (!(recordOk r))) || (!(isNodeM g r.op)))), (36, .pointer (some ⟨b1, 0, none⟩)), (37, o1), (38, .pointer (some ⟨b2, 0, none⟩)), (39, .int .i64 r.op), (40, .pointer (some ⟨sblk o1, soff o1 + (Int.toNat r.op) * 4, none⟩)), (41, .agg [.int .i64 ((g.nodes[(Int.toNat r.op)]'hi1).kind), .int .i64 ((g.nodes[(Int.toNat r.op)]'hi1).a), .int .i64 ((g.nodes[(Int.toNat r.op)]'hi1).b), o2].toArray), (42, .tuple [.int .i64 ((changedM (g.nodes[(Int.toNat r.op)]'hi1) r.key r.val).1), .int .i64 ((changedM (g.nodes[(Int.toNat r.op)]'hi1) r.key r.val).2.1), .bool ((changedM (g.nodes[(Int.toNat r.op)]'hi1) r.key r.val).2.2)].toArray), (43, .agg [.int .i64 ((g.nodes[(Int.toNat r.op)]'hi1).kind), .int .i64 ((g.nodes[(Int.toNat r.op)]'hi1).a), .int .i64 ((g.nodes[(Int.toNat r.op)]'hi1).b), o2].toArray), (44, .pointer (some ⟨b2, 3, none⟩)), (45, .int .i64 r.key), (46, .pointer (some ⟨b2, 4, none⟩)), (47, .int .i64 r.val), (48, .tuple [.int .i64 ((changedM (g.nodes[(Int.toNat r.op)]'hi1) r.key r.val).1), .int .i64 ((changedM (g.nodes[(Int.toNat r.op)]'hi1) r.key r.val).2.1), .bool ((changedM (g.nodes[(Int.toNat r.op)]'hi1) r.key r.val).2.2)].toArray), (49, .int .i64 ((changedM (g.nodes[(Int.toNat r.op)]'hi1) r.key r.val).1)), (50, .int .i64 ((changedM (g.nodes[(Int.toNat r.op)]'hi1) r.key r.val).2.1)), (51, .bool ((changedM (g.nodes[(Int.toNat r.op)]'hi1) r.key r.val).2.2)), (58, .bool ((!((changedM (g.nodes[(Int.toNat r.op)]'hi1) r.key r.val).2.2)) && (((g.nodes[(Int.toNat r.op)]'hi1).kind) != 8)))] (fun w' => w10 = w') ?_ ?_
    · refine J_if (gd := 54) rfl rfl (fun hg3 => ?_) (fun hg3 => ?_)
      · refine J_gd rfl rfl (R_fieldAddr0 fl74_0 rfl) rfl (J_gd rfl rfl (R_load sc3 rfl (h3.one 0 rfl)) rfl (J_gd rfl rfl (R_neq rfl rfl) rfl (J_st (R_pickT rfl rfl) rfl (J_cutEnd ⟨rfl, rfl, rfl, rfl, rfl, rfl, rfl, rfl, rfl, rfl, rfl, rfl, rfl, rfl, rfl, rfl, rfl, rfl, rfl, rfl, rfl, rfl, rfl, rfl, rfl, rfl, rfl, rfl, rfl, congrArg (fun b => some (Value.bool b)) (show (((g.nodes[(Int.toNat r.op)]'hi1).kind) != 8) = ((!((changedM (g.nodes[(Int.toNat r.op)]'hi1) r.key r.val).2.2)) && (((g.nodes[(Int.toNat r.op)]'hi1).kind) != 8)) by first | (rw [hg3] <;> rfl) | (simp [hg3]; done) | (simp only [nat_nlt] <;> simp)), trivial⟩ rfl))))
      · refine J_gdno rfl rfl rfl rfl (J_gdno rfl rfl rfl rfl (J_gdno rfl rfl rfl rfl (J_st (R_pickF rfl rfl) rfl (J_cutEnd ⟨rfl, rfl, rfl, rfl, rfl, rfl, rfl, rfl, rfl, rfl, rfl, rfl, rfl, rfl, rfl, rfl, rfl, rfl, rfl, rfl, rfl, rfl, rfl, rfl, rfl, rfl, rfl, rfl, rfl, congrArg (fun b => some (Value.bool b)) (show false = ((!((changedM (g.nodes[(Int.toNat r.op)]'hi1) r.key r.val).2.2)) && (((g.nodes[(Int.toNat r.op)]'hi1).kind) != 8)) by first | (rw [hg3] <;> rfl) | (simp [hg3]; done) | (simp only [nat_nlt] <;> simp)), trivial⟩ rfl))))
    rintro _ rfl
    refine J_done ?_
    refine S_cond rfl (fun hc2 => ?_) (fun hc2 => ?_)
    · refine S_seq ?_
      refine S_reg [true, false, true, true, true] rfl rfl ?_
      refine J_st (R_move rfl) rfl ?_
      refine J_call Try.call26 rfl (c_copyCells vcs cs _ (hcs.ext E) (by first | omega | (simp only [mkL_length]; omega) | (rw [mkL_length]; done) | (simp only [mkL_length]; done))) rfl (fun v2 w12 e9 ho2 => ?_)
      have g_ho2 : w.heap.size ≤ w10.heap.size := E.size
      replace E := E.trans e9; replace h1 := h1.ext e9; replace h2 := h2.ext e9; replace h3 := h3.ext e9
      have z11 := e9.size
      refine J_st (R_assign rfl) rfl (J_st (R_assign rfl) rfl (J_st (R_assign rfl) rfl (J_done ?_)))
      refine S_ret (E_doneN (l := [.tmp 6, .tmp 7, .tmp 8]) (vs := [v2, .slice none 0 0, .bool true]) rfl ⟨.tmp rfl, .tmp rfl, .tmp rfl, trivial⟩ rfl E ?_)
      rw [st_1 hc1 hx hc2]
      exact ⟨_, _, rfl, Own.fin ho2 (by omega) (by omega) (by first | rfl | (simp only [List.nil_append]; done)), Own.finNil rfl, ⟨⟨(Sep.nilR _), trivial⟩, ⟨trivial, trivial⟩⟩⟩
    · refine S_skip ?_
      refine S_seq ?_
      refine S_reg [true, true, true, true, true, true, true, true, true, true, true, true, true, false, true, true, true, true, true] rfl rfl ?_
      refine J_st (R_fieldAddr0 fl74_0 rfl) rfl (J_st (R_load sc3 rfl (h3.one 0 rfl)) rfl (J_st (R_move rfl) rfl (J_st (R_fieldAddr0 fl54_0 rfl) rfl (J_st (R_load sc3 rfl (h2.one 0 rfl)) rfl (J_st (R_fieldAddr0 fl54_1 rfl) rfl (J_st (R_fieldAddr fl52_0 rfl) rfl (J_st (R_load sc3 rfl (h2.one 1 rfl)) rfl (J_st (R_fieldAddr0 fl54_2 rfl) rfl (J_st (R_load sc3 rfl (h2.one 3 rfl)) rfl (J_st (R_fieldAddr0 fl54_3 rfl) rfl (J_st (R_load sc3 rfl (h2.one 4 rfl)) rfl (J_st (R_build (⟨r.op, r.stamp.epoch, r.key, r.val⟩ : Cell) rfl (fun _ => by kernel_rfl)) rfl ?_))))))))))))
      refine J_call Try.call48 rfl (c_Recall ((g.nodes[(Int.toNat r.op)]'hi1).kind) vcs cs (⟨r.op, r.stamp.epoch, r.key, r.val⟩ : Cell) _ (hcs.ext E) (by first | omega | (simp only [mkL_length]; omega) | (rw [mkL_length]; done) | (simp only [mkL_length]; done))) rfl (fun _ w13 e10 ho3 => ?_)
      obtain ⟨v3, rfl, ho4⟩ := ho3
      have g_ho3 : w.heap.size ≤ w10.heap.size := E.size
      replace E := E.trans e10; replace h1 := h1.ext e10; replace h2 := h2.ext e10; replace h3 := h3.ext e10
      have z12 := e10.size
      refine J_st (R_move rfl) rfl (J_st (R_extract rfl rfl) rfl (J_st (R_extract rfl rfl) rfl (J_st (R_assign rfl) rfl (J_st (R_assign rfl) rfl (J_done ?_)))))
      refine S_seq ?_
      refine S_seq ?_
      refine S_reg [true, true] rfl rfl ?_
      refine J_st (R_move rfl) rfl (J_st (R_not rfl) rfl (J_done ?_))
      refine S_cond rfl (fun hc3 => ?_) (fun hc3 => ?_)
      · refine S_seq ?_
        refine S_reg [true, true, true, true] rfl rfl ?_
        refine J_st (R_move rfl) rfl (J_st (R_assign rfl) rfl (J_st (R_assign rfl) rfl (J_st (R_assign rfl) rfl (J_done ?_))))
        refine S_ret (E_doneN (l := [.tmp 6, .tmp 7, .tmp 8]) (vs := [v3, .slice none 0 0, .bool true]) rfl ⟨.tmp rfl, .tmp rfl, .tmp rfl, trivial⟩ rfl E ?_)
        rw [st_2 hc1 hx hc2 hc3]
        exact ⟨_, _, rfl, Own.fin ho4 (by omega) (by omega) (by first | rfl | (simp only [List.nil_append]; done)), Own.finNil rfl, ⟨⟨(Sep.nilR _), trivial⟩, ⟨trivial, trivial⟩⟩⟩
      · refine S_skip ?_
        refine S_seq ?_
        refine S_reg [true, true, false, false, true] rfl rfl ?_
        refine J_st (R_fieldAddr0 fl54_1 rfl) rfl (J_st (R_loadS st52 rfl (h2.part 1 [.int .i64 r.stamp.epoch, .int .i64 r.stamp.turn] rfl) rfl) rfl ?_)
        refine J_alloc st52 rfl (fun b4 w14 e11 s4 h4 => ?_)
        have g_b4 : w.heap.size ≤ b4 := by have := E.size; omega
        have y_b4 := h4.lt
        replace E := E.trans e11; replace h1 := h1.ext e11; replace h2 := h2.ext e11; replace h3 := h3.ext e11; replace ho4 := ho4.ext e11
        have z13 := e11.size
        refine J_storeS' (cs' := [.int .i64 r.stamp.epoch, .int .i64 r.stamp.turn]) st52 rfl rfl rfl rfl h4 (Nat.le_of_ble_eq_true rfl) rfl (fun w15 m2 h4' => ?_)
        replace h4 := h4'
        replace E := E.step m2 (fun g hg => by cases hg; omega); replace h1 := h1.mod m2 (fun g hg => by cases hg; omega); replace h2 := h2.mod m2 (fun g hg => by cases hg; omega); replace h3 := h3.mod m2 (fun g hg => by cases hg; omega); replace ho4 := ho4.mod m2 (fun g hg => by cases hg; omega)
        have z14 := m2.size
        refine J_st (R_assign rfl) rfl (J_done ?_)
        refine S_seq ?_
        refine S_seq ?_
        refine S_reg [true, true, true] rfl rfl ?_
        refine J_st (R_fieldAddr0 fl74_0 rfl) rfl (J_st (R_load sc3 rfl (h3.one 0 rfl)) rfl (J_st (R_eql rfl rfl) rfl (J_done ?_)))
        refine S_cond rfl (fun hc4 => ?_) (fun hc4 => ?_)
        · have hstm := stamp_7 hx hc4
          refine S_reg [true, true, false, true, true, true, false, true] rfl rfl ?_
          refine J_st (R_fieldAddr0 fl54_1 rfl) rfl (J_st (R_loadS st52 rfl (h2.part 1 [.int .i64 r.stamp.epoch, .int .i64 r.stamp.turn] rfl) rfl) rfl ?_)
          refine J_call Try.call49 rfl (c_NextTurn r.stamp _ ) rfl (fun _ w16 e12 hv => ?_)
          subst hv
          replace E := E.trans e12; replace h1 := h1.ext e12; replace h2 := h2.ext e12; replace h3 := h3.ext e12; replace ho4 := ho4.ext e12; replace h4 := h4.ext e12
          have z15 := e12.size
          refine J_st (R_move rfl) rfl (J_st (R_extract rfl rfl) rfl (J_st (R_extract rfl rfl) rfl ?_))
          refine J_storeS' (cs' := [.int .i64 (((nextT r.stamp).1).epoch), .int .i64 (((nextT r.stamp).1).turn)]) st52 rfl rfl rfl rfl h4 (Nat.le_of_ble_eq_true rfl) rfl (fun w17 m3 h4' => ?_)
          replace h4 := h4'
          replace E := E.step m3 (fun g hg => by cases hg; omega); replace h1 := h1.mod m3 (fun g hg => by cases hg; omega); replace h2 := h2.mod m3 (fun g hg => by cases hg; omega); replace h3 := h3.mod m3 (fun g hg => by cases hg; omega); replace ho4 := ho4.mod m3 (fun g hg => by cases hg; omega)
          have z16 := m3.size
          refine J_st (R_assign rfl) rfl (J_done ?_)
          refine S_seq ?_
          refine S_reg [true] rfl rfl ?_
          refine J_st (R_assign rfl) rfl (J_done ?_)
          refine S_seq ?_
          refine S_seq ?_
          refine S_reg [true, true, true, true] rfl rfl ?_
          refine J_st (R_fieldAddr0 fl74_3 rfl) rfl (J_st (R_load sc71 rfl (h3.one 3 rfl)) rfl (J_st (R_len Try.underlying71 rfl (hd2.ext E).len) rfl (J_st (R_move rfl) rfl (J_done ?_))))
          refine S_block ?_
          refine S_loop (fun (xq : Nat × Value) => let ⟨k, vo⟩ := xq; [(6, .slice none 0 0), (7, .slice none 0 0), (8, .bool false), (10, .int .i64 ((changedM (g.nodes[(Int.toNat r.op)]'hi1) r.key r.val).1)), (11, .int .i64 ((changedM (g.nodes[(Int.toNat r.op)]'hi1) r.key r.val).2.1)), (13, v3), (14, .pointer (some ⟨b4, 0, none⟩)), (15, .bool ((nextT r.stamp).2)), (16, vo), (93, o2), (94, .int .i64 ((((g.nodes[(Int.toNat r.op)]'hi1).outs).length : Nat) : Int)), (95, .int .i64 ((k : Nat) : Int))]) (fun (xq : Nat × Value) w' => let ⟨k, vo⟩ := xq; Ext w w' ∧ w17.heap.size ≤ w'.heap.size ∧ Blk w' b1 ([o1, .int .i64 g.workers, .int .i64 g.cap]) ∧ Blk w' b2 (Enc.enc r) ∧ Blk w' b3 [.int .i64 ((g.nodes[(Int.toNat r.op)]'hi1).kind), .int .i64 ((g.nodes[(Int.toNat r.op)]'hi1).a), .int .i64 ((g.nodes[(Int.toNat r.op)]'hi1).b), o2] ∧ Own w' w10.heap.size w13.heap.size 4 v3 (List.flatMap (Enc.enc (α := Cell)) ((recallM ((g.nodes[(Int.toNat r.op)]'hi1).kind) cs (⟨r.op, r.stamp.epoch, r.key, r.val⟩ : Cell)).1)) ∧ Blk w' b4 [.int .i64 (((nextT r.stamp).1).epoch), .int .i64 (((nextT r.stamp).1).turn)] ∧ k ≤ (g.nodes[Int.toNat r.op]'hop.2.2).outs.length ∧ Own w' w17.heap.size w'.heap.size 5 vo (List.flatMap (Enc.enc (α := Record)) (stOut g r k))) (fun (xq : Nat × Value) => let ⟨k, vo⟩ := xq; (g.nodes[Int.toNat r.op]'hop.2.2).outs.length - k) (0, .slice none 0 0) ⟨rfl, rfl, rfl, rfl, rfl, rfl, rfl, rfl, rfl, rfl, rfl, rfl, trivial⟩ ⟨E, Nat.le_refl _, h1, h2, h3, ho4, h4, Nat.zero_le _, Own.fin (Own.nil w17 w17.heap.size w17.heap.size 5) (by omega) (by omega) out_zero.symm⟩ ?_
          clear E h1 h2 h3 ho4 h4
          rintro ⟨k, vo⟩ w18 ⟨E, z17, h1, h2, h3, ho4, h4, hk, hvo⟩
          refine S_sub [(6, .slice none 0 0), (7, .slice none 0 0), (8, .bool false), (10, .int .i64 ((changedM (g.nodes[(Int.toNat r.op)]'hi1) r.key r.val).1)), (11, .int .i64 ((changedM (g.nodes[(Int.toNat r.op)]'hi1) r.key r.val).2.1)), (13, v3), (14, .pointer (some ⟨b4, 0, none⟩)), (15, .bool ((nextT r.stamp).2)), (16, vo), (93, o2), (94, .int .i64 ((((g.nodes[(Int.toNat r.op)]'hi1).outs).length : Nat) : Int)), (95, .int .i64 ((k : Nat) : Int))] ⟨rfl, rfl, rfl, rfl, rfl, rfl, rfl, rfl, rfl, rfl, rfl, rfl, trivial⟩ ?_
          refine S_seq ?_
          refine S_reg [true] rfl rfl ?_
          refine J_st (R_lss rfl rfl) rfl (J_done ?_)
          refine S_seq ?_
          refine S_cond rfl (fun hc5 => ?_) (fun hc5 => ?_)
          · have hc5n : k < ((g.nodes[(Int.toNat r.op)]'hi1).outs).length := by first | (have h := of_decide_eq_true hc5; omega) | (have h := hc5; simp at h; omega)
            refine S_skip ?_
            refine S_seq ?_
            refine S_block ?_
            refine S_seq ?_
            refine S_reg [true, true, true] rfl rfl ?_
            have hi2 : k < ((g.nodes[(Int.toNat r.op)]'hi1).outs).length := (by first | assumption | omega)
            refine J_st (R_index (i := k) sl71 rfl rfl (hd2.rd.ext E) hi2) rfl (J_st (R_load sc3 rfl (((hd2.rd.ext E).get hi2).one 0 rfl)) rfl (J_st (R_assign rfl) rfl (J_done ?_)))
            refine S_seq ?_
            refine S_reg [true] rfl rfl ?_
            refine J_st (R_move rfl) rfl (J_done ?_)
            refine S_cond rfl (fun hc6 => ?_) (fun hc6 => ?_)
            · refine S_reg [true, true, true, true, true, true, false, false, true] rfl rfl ?_
              refine J_st (R_move rfl) rfl (J_st (R_move rfl) rfl (J_st (R_loadS st52 rfl h4.at rfl) rfl (J_st (R_move rfl) rfl (J_st (R_move rfl) rfl (J_st (R_build (⟨(((g.nodes[(Int.toNat r.op)]'hi1).outs)[k]'hi2), ((nextT r.stamp).1), (changedM (g.nodes[(Int.toNat r.op)]'hi1) r.key r.val).1, (changedM (g.nodes[(Int.toNat r.op)]'hi1) r.key r.val).2.1⟩ : Record) rfl (fun _ => by kernel_rfl)) rfl ?_)))))
              refine J_buildSlice (vs := [.agg (Enc.enc (⟨(((g.nodes[(Int.toNat r.op)]'hi1).outs)[k]'hi2), ((nextT r.stamp).1), (changedM (g.nodes[(Int.toNat r.op)]'hi1) r.key r.val).1, (changedM (g.nodes[(Int.toNat r.op)]'hi1) r.key r.val).2.1⟩ : Record)).toArray]) (css := [[.int .i64 ((⟨(((g.nodes[(Int.toNat r.op)]'hi1).outs)[k]'hi2), ((nextT r.stamp).1), (changedM (g.nodes[(Int.toNat r.op)]'hi1) r.key r.val).1, (changedM (g.nodes[(Int.toNat r.op)]'hi1) r.key r.val).2.1⟩ : Record).op), .int .i64 (((⟨(((g.nodes[(Int.toNat r.op)]'hi1).outs)[k]'hi2), ((nextT r.stamp).1), (changedM (g.nodes[(Int.toNat r.op)]'hi1) r.key r.val).1, (changedM (g.nodes[(Int.toNat r.op)]'hi1) r.key r.val).2.1⟩ : Record).stamp).epoch), .int .i64 (((⟨(((g.nodes[(Int.toNat r.op)]'hi1).outs)[k]'hi2), ((nextT r.stamp).1), (changedM (g.nodes[(Int.toNat r.op)]'hi1) r.key r.val).1, (changedM (g.nodes[(Int.toNat r.op)]'hi1) r.key r.val).2.1⟩ : Record).stamp).turn), .int .i64 ((⟨(((g.nodes[(Int.toNat r.op)]'hi1).outs)[k]'hi2), ((nextT r.stamp).1), (changedM (g.nodes[(Int.toNat r.op)]'hi1) r.key r.val).1, (changedM (g.nodes[(Int.toNat r.op)]'hi1) r.key r.val).2.1⟩ : Record).key), .int .i64 ((⟨(((g.nodes[(Int.toNat r.op)]'hi1).outs)[k]'hi2), ((nextT r.stamp).1), (changedM (g.nodes[(Int.toNat r.op)]'hi1) r.key r.val).1, (changedM (g.nodes[(Int.toNat r.op)]'hi1) r.key r.val).2.1⟩ : Record).val)]]) sl31 rfl rfl ⟨⟨rfl, rfl⟩, trivial⟩ rfl rfl (fun b5 w19 e13 s5 h5 => ?_)
              replace h5 : Blk w19 b5 [.int .i64 ((⟨(((g.nodes[(Int.toNat r.op)]'hi1).outs)[k]'hi2), ((nextT r.stamp).1), (changedM (g.nodes[(Int.toNat r.op)]'hi1) r.key r.val).1, (changedM (g.nodes[(Int.toNat r.op)]'hi1) r.key r.val).2.1⟩ : Record).op), .int .i64 (((⟨(((g.nodes[(Int.toNat r.op)]'hi1).outs)[k]'hi2), ((nextT r.stamp).1), (changedM (g.nodes[(Int.toNat r.op)]'hi1) r.key r.val).1, (changedM (g.nodes[(Int.toNat r.op)]'hi1) r.key r.val).2.1⟩ : Record).stamp).epoch), .int .i64 (((⟨(((g.nodes[(Int.toNat r.op)]'hi1).outs)[k]'hi2), ((nextT r.stamp).1), (changedM (g.nodes[(Int.toNat r.op)]'hi1) r.key r.val).1, (changedM (g.nodes[(Int.toNat r.op)]'hi1) r.key r.val).2.1⟩ : Record).stamp).turn), .int .i64 ((⟨(((g.nodes[(Int.toNat r.op)]'hi1).outs)[k]'hi2), ((nextT r.stamp).1), (changedM (g.nodes[(Int.toNat r.op)]'hi1) r.key r.val).1, (changedM (g.nodes[(Int.toNat r.op)]'hi1) r.key r.val).2.1⟩ : Record).key), .int .i64 ((⟨(((g.nodes[(Int.toNat r.op)]'hi1).outs)[k]'hi2), ((nextT r.stamp).1), (changedM (g.nodes[(Int.toNat r.op)]'hi1) r.key r.val).1, (changedM (g.nodes[(Int.toNat r.op)]'hi1) r.key r.val).2.1⟩ : Record).val)] := h5
              have g_b5 : w.heap.size ≤ b5 := by have := E.size; omega
              have y_b5 := h5.lt
              replace E := E.trans e13; replace h1 := h1.ext e13; replace h2 := h2.ext e13; replace h3 := h3.ext e13; replace ho4 := ho4.ext e13; replace h4 := h4.ext e13; replace hvo := hvo.ext e13
              have z18 := e13.size
              refine J_append sl31 rfl rfl hvo (Src.ofBlk h5 rfl) rfl (by first | (simp only [sum_flat, List.length_nil, List.length_cons]; simp only [Enc.sz]; omega) | (have h := out_len g r k; rw [sum_flat]; simp only [show Enc.sz Record = 5 from rfl, List.length_cons, List.length_nil]; omega)) (by decide) (by omega) (by omega) rfl rfl (fun v4 w20 m4 ho5 => ?_)
              replace E := E.step m4 (fun g hg => by have := Own.blk hvo g hg; omega); replace h1 := h1.mod m4 (fun g hg => by have := Own.blk hvo g hg; omega); replace h2 := h2.mod m4 (fun g hg => by have := Own.blk hvo g hg; omega); replace h3 := h3.mod m4 (fun g hg => by have := Own.blk hvo g hg; omega); replace ho4 := ho4.mod m4 (fun g hg => by have := Own.blk hvo g hg; omega); replace h4 := h4.mod m4 (fun g hg => by have := Own.blk hvo g hg; omega)
              have z19 := m4.size
              refine J_st (R_assign rfl) rfl (J_done ?_)
              refine S_nil (E_inB ?_)
              refine S_reg [true, true] rfl rfl ?_
              refine J_st (R_add rfl rfl (add_one hc5n (hd2.ext E).1.1)) rfl (J_st (R_move rfl) rfl (J_done ?_))
              refine S_nil (E_again (k + 1, v4) (by dsimp only; omega) ⟨rfl, rfl, rfl, rfl, rfl, rfl, rfl, rfl, rfl, rfl, rfl, rfl, trivial⟩ ⟨E, (by omega), h1, h2, h3, ho4, h4, (by omega), Own.fin ho5 (Nat.le_refl _) (by omega) (out_step (by rw [hstm]) (by rw [hstm]; exact hc6) hx (by omega))⟩)
            · refine S_skip ?_
              refine S_nil (E_inB ?_)
              refine S_reg [true, true] rfl rfl ?_
              refine J_st (R_add rfl rfl (add_one hc5n (hd2.ext E).1.1)) rfl (J_st (R_move rfl) rfl (J_done ?_))
              refine S_nil (E_again (k + 1, vo) (by dsimp only; omega) ⟨rfl, rfl, rfl, rfl, rfl, rfl, rfl, rfl, rfl, rfl, rfl, rfl, trivial⟩ ⟨E, (by omega), h1, h2, h3, ho4, h4, (by omega), Own.fin hvo (Nat.le_refl _) (by omega) (out_skip (by rw [hstm]; exact hc6))⟩)
          · have hc5n : ¬ k < ((g.nodes[(Int.toNat r.op)]'hi1).outs).length := by first | (have h := of_decide_eq_false hc5; omega) | (have h := hc5; simp at h; omega)
            refine S_exit (E_lp_exit (E_inB_exit ?_))
            refine S_seq ?_
            refine S_reg [true, true, true, true, true] rfl rfl ?_
            refine J_st (R_move rfl) rfl (J_st (R_move rfl) rfl (J_st (R_assign rfl) rfl (J_st (R_assign rfl) rfl (J_st (R_assign rfl) rfl (J_done ?_)))))
            refine S_ret (E_doneN (l := [.tmp 6, .tmp 7, .tmp 8]) (vs := [v3, vo, .bool true]) rfl ⟨.tmp rfl, .tmp rfl, .tmp rfl, trivial⟩ rfl E ?_)
            rw [st_3 hc1 hx hc2 hc3]
            exact ⟨_, _, rfl, Own.fin ho4 (by omega) (by omega) (by first | rfl | (simp only [List.nil_append]; done)), Own.fin hvo (by omega) (by omega) (by rw [show (g.nodes[Int.toNat r.op]'hop.2.2).outs.length = k from by omega]), ⟨⟨(Own.sep ho4 hvo (by omega)), trivial⟩, ⟨trivial, trivial⟩⟩⟩
        · have hstm := stamp_o hx hc4
          refine S_skip ?_
          refine S_seq ?_
          refine S_reg [true] rfl rfl ?_
          refine J_st (R_assign rfl) rfl (J_done ?_)
          refine S_seq ?_
          refine S_seq ?_
          refine S_reg [true, true, true, true] rfl rfl ?_
          refine J_st (R_fieldAddr0 fl74_3 rfl) rfl (J_st (R_load sc71 rfl (h3.one 3 rfl)) rfl (J_st (R_len Try.underlying71 rfl (hd2.ext E).len) rfl (J_st (R_move rfl) rfl (J_done ?_))))
          refine S_block ?_
          refine S_loop (fun (xq : Nat × Value) => let ⟨k, vo⟩ := xq; [(6, .slice none 0 0), (7, .slice none 0 0), (8, .bool false), (10, .int .i64 ((changedM (g.nodes[(Int.toNat r.op)]'hi1) r.key r.val).1)), (11, .int .i64 ((changedM (g.nodes[(Int.toNat r.op)]'hi1) r.key r.val).2.1)), (13, v3), (14, .pointer (some ⟨b4, 0, none⟩)), (15, .bool true), (16, vo), (93, o2), (94, .int .i64 ((((g.nodes[(Int.toNat r.op)]'hi1).outs).length : Nat) : Int)), (95, .int .i64 ((k : Nat) : Int))]) (fun (xq : Nat × Value) w' => let ⟨k, vo⟩ := xq; Ext w w' ∧ w15.heap.size ≤ w'.heap.size ∧ Blk w' b1 ([o1, .int .i64 g.workers, .int .i64 g.cap]) ∧ Blk w' b2 (Enc.enc r) ∧ Blk w' b3 [.int .i64 ((g.nodes[(Int.toNat r.op)]'hi1).kind), .int .i64 ((g.nodes[(Int.toNat r.op)]'hi1).a), .int .i64 ((g.nodes[(Int.toNat r.op)]'hi1).b), o2] ∧ Own w' w10.heap.size w13.heap.size 4 v3 (List.flatMap (Enc.enc (α := Cell)) ((recallM ((g.nodes[(Int.toNat r.op)]'hi1).kind) cs (⟨r.op, r.stamp.epoch, r.key, r.val⟩ : Cell)).1)) ∧ Blk w' b4 [.int .i64 r.stamp.epoch, .int .i64 r.stamp.turn] ∧ k ≤ (g.nodes[Int.toNat r.op]'hop.2.2).outs.length ∧ Own w' w15.heap.size w'.heap.size 5 vo (List.flatMap (Enc.enc (α := Record)) (stOut g r k))) (fun (xq : Nat × Value) => let ⟨k, vo⟩ := xq; (g.nodes[Int.toNat r.op]'hop.2.2).outs.length - k) (0, .slice none 0 0) ⟨rfl, rfl, rfl, rfl, rfl, rfl, rfl, rfl, rfl, rfl, rfl, rfl, trivial⟩ ⟨E, Nat.le_refl _, h1, h2, h3, ho4, h4, Nat.zero_le _, Own.fin (Own.nil w15 w15.heap.size w15.heap.size 5) (by omega) (by omega) out_zero.symm⟩ ?_
          clear E h1 h2 h3 ho4 h4
          rintro ⟨k, vo⟩ w21 ⟨E, z20, h1, h2, h3, ho4, h4, hk, hvo⟩
          refine S_sub [(6, .slice none 0 0), (7, .slice none 0 0), (8, .bool false), (10, .int .i64 ((changedM (g.nodes[(Int.toNat r.op)]'hi1) r.key r.val).1)), (11, .int .i64 ((changedM (g.nodes[(Int.toNat r.op)]'hi1) r.key r.val).2.1)), (13, v3), (14, .pointer (some ⟨b4, 0, none⟩)), (15, .bool true), (16, vo), (93, o2), (94, .int .i64 ((((g.nodes[(Int.toNat r.op)]'hi1).outs).length : Nat) : Int)), (95, .int .i64 ((k : Nat) : Int))] ⟨rfl, rfl, rfl, rfl, rfl, rfl, rfl, rfl, rfl, rfl, rfl, rfl, trivial⟩ ?_
          refine S_seq ?_
          refine S_reg [true] rfl rfl ?_
          refine J_st (R_lss rfl rfl) rfl (J_done ?_)
          refine S_seq ?_
          refine S_cond rfl (fun hc7 => ?_) (fun hc7 => ?_)
          · have hc7n : k < ((g.nodes[(Int.toNat r.op)]'hi1).outs).length := by first | (have h := of_decide_eq_true hc7; omega) | (have h := hc7; simp at h; omega)
            refine S_skip ?_
            refine S_seq ?_
            refine S_block ?_
            refine S_seq ?_
            refine S_reg [true, true, true] rfl rfl ?_
            have hi3 : k < ((g.nodes[(Int.toNat r.op)]'hi1).outs).length := (by first | assumption | omega)
            refine J_st (R_index (i := k) sl71 rfl rfl (hd2.rd.ext E) hi3) rfl (J_st (R_load sc3 rfl (((hd2.rd.ext E).get hi3).one 0 rfl)) rfl (J_st (R_assign rfl) rfl (J_done ?_)))
            refine S_seq ?_
            refine S_reg [true] rfl rfl ?_
            refine J_st (R_move rfl) rfl (J_done ?_)
            refine S_condT rfl ?_
            refine S_reg [true, true, true, true, true, true, false, false, true] rfl rfl ?_
            refine J_st (R_move rfl) rfl (J_st (R_move rfl) rfl (J_st (R_loadS st52 rfl h4.at rfl) rfl (J_st (R_move rfl) rfl (J_st (R_move rfl) rfl (J_st (R_build (⟨(((g.nodes[(Int.toNat r.op)]'hi1).outs)[k]'hi3), r.stamp, (changedM (g.nodes[(Int.toNat r.op)]'hi1) r.key r.val).1, (changedM (g.nodes[(Int.toNat r.op)]'hi1) r.key r.val).2.1⟩ : Record) rfl (fun _ => by kernel_rfl)) rfl ?_)))))
            refine J_buildSlice (vs := [.agg (Enc.enc (⟨(((g.nodes[(Int.toNat r.op)]'hi1).outs)[k]'hi3), r.stamp, (changedM (g.nodes[(Int.toNat r.op)]'hi1) r.key r.val).1, (changedM (g.nodes[(Int.toNat r.op)]'hi1) r.key r.val).2.1⟩ : Record)).toArray]) (css := [[.int .i64 ((⟨(((g.nodes[(Int.toNat r.op)]'hi1).outs)[k]'hi3), r.stamp, (changedM (g.nodes[(Int.toNat r.op)]'hi1) r.key r.val).1, (changedM (g.nodes[(Int.toNat r.op)]'hi1) r.key r.val).2.1⟩ : Record).op), .int .i64 (((⟨(((g.nodes[(Int.toNat r.op)]'hi1).outs)[k]'hi3), r.stamp, (changedM (g.nodes[(Int.toNat r.op)]'hi1) r.key r.val).1, (changedM (g.nodes[(Int.toNat r.op)]'hi1) r.key r.val).2.1⟩ : Record).stamp).epoch), .int .i64 (((⟨(((g.nodes[(Int.toNat r.op)]'hi1).outs)[k]'hi3), r.stamp, (changedM (g.nodes[(Int.toNat r.op)]'hi1) r.key r.val).1, (changedM (g.nodes[(Int.toNat r.op)]'hi1) r.key r.val).2.1⟩ : Record).stamp).turn), .int .i64 ((⟨(((g.nodes[(Int.toNat r.op)]'hi1).outs)[k]'hi3), r.stamp, (changedM (g.nodes[(Int.toNat r.op)]'hi1) r.key r.val).1, (changedM (g.nodes[(Int.toNat r.op)]'hi1) r.key r.val).2.1⟩ : Record).key), .int .i64 ((⟨(((g.nodes[(Int.toNat r.op)]'hi1).outs)[k]'hi3), r.stamp, (changedM (g.nodes[(Int.toNat r.op)]'hi1) r.key r.val).1, (changedM (g.nodes[(Int.toNat r.op)]'hi1) r.key r.val).2.1⟩ : Record).val)]]) sl31 rfl rfl ⟨⟨rfl, rfl⟩, trivial⟩ rfl rfl (fun b6 w22 e14 s6 h6 => ?_)
            replace h6 : Blk w22 b6 [.int .i64 ((⟨(((g.nodes[(Int.toNat r.op)]'hi1).outs)[k]'hi3), r.stamp, (changedM (g.nodes[(Int.toNat r.op)]'hi1) r.key r.val).1, (changedM (g.nodes[(Int.toNat r.op)]'hi1) r.key r.val).2.1⟩ : Record).op), .int .i64 (((⟨(((g.nodes[(Int.toNat r.op)]'hi1).outs)[k]'hi3), r.stamp, (changedM (g.nodes[(Int.toNat r.op)]'hi1) r.key r.val).1, (changedM (g.nodes[(Int.toNat r.op)]'hi1) r.key r.val).2.1⟩ : Record).stamp).epoch), .int .i64 (((⟨(((g.nodes[(Int.toNat r.op)]'hi1).outs)[k]'hi3), r.stamp, (changedM (g.nodes[(Int.toNat r.op)]'hi1) r.key r.val).1, (changedM (g.nodes[(Int.toNat r.op)]'hi1) r.key r.val).2.1⟩ : Record).stamp).turn), .int .i64 ((⟨(((g.nodes[(Int.toNat r.op)]'hi1).outs)[k]'hi3), r.stamp, (changedM (g.nodes[(Int.toNat r.op)]'hi1) r.key r.val).1, (changedM (g.nodes[(Int.toNat r.op)]'hi1) r.key r.val).2.1⟩ : Record).key), .int .i64 ((⟨(((g.nodes[(Int.toNat r.op)]'hi1).outs)[k]'hi3), r.stamp, (changedM (g.nodes[(Int.toNat r.op)]'hi1) r.key r.val).1, (changedM (g.nodes[(Int.toNat r.op)]'hi1) r.key r.val).2.1⟩ : Record).val)] := h6
            have g_b6 : w.heap.size ≤ b6 := by have := E.size; omega
            have y_b6 := h6.lt
            replace E := E.trans e14; replace h1 := h1.ext e14; replace h2 := h2.ext e14; replace h3 := h3.ext e14; replace ho4 := ho4.ext e14; replace h4 := h4.ext e14; replace hvo := hvo.ext e14
            have z21 := e14.size
            refine J_append sl31 rfl rfl hvo (Src.ofBlk h6 rfl) rfl (by first | (simp only [sum_flat, List.length_nil, List.length_cons]; simp only [Enc.sz]; omega) | (have h := out_len g r k; rw [sum_flat]; simp only [show Enc.sz Record = 5 from rfl, List.length_cons, List.length_nil]; omega)) (by decide) (by omega) (by omega) rfl rfl (fun v5 w23 m5 ho6 => ?_)
            replace E := E.step m5 (fun g hg => by have := Own.blk hvo g hg; omega); replace h1 := h1.mod m5 (fun g hg => by have := Own.blk hvo g hg; omega); replace h2 := h2.mod m5 (fun g hg => by have := Own.blk hvo g hg; omega); replace h3 := h3.mod m5 (fun g hg => by have := Own.blk hvo g hg; omega); replace ho4 := ho4.mod m5 (fun g hg => by have := Own.blk hvo g hg; omega); replace h4 := h4.mod m5 (fun g hg => by have := Own.blk hvo g hg; omega)
            have z22 := m5.size
            refine J_st (R_assign rfl) rfl (J_done ?_)
            refine S_nil (E_inB ?_)
            refine S_reg [true, true] rfl rfl ?_
            refine J_st (R_add rfl rfl (add_one hc7n (hd2.ext E).1.1)) rfl (J_st (R_move rfl) rfl (J_done ?_))
            refine S_nil (E_again (k + 1, v5) (by dsimp only; omega) ⟨rfl, rfl, rfl, rfl, rfl, rfl, rfl, rfl, rfl, rfl, rfl, rfl, trivial⟩ ⟨E, (by omega), h1, h2, h3, ho4, h4, (by omega), Own.fin ho6 (Nat.le_refl _) (by omega) (out_step (by rw [hstm]) (by rw [hstm]) hx (by omega))⟩)
          · have hc7n : ¬ k < ((g.nodes[(Int.toNat r.op)]'hi1).outs).length := by first | (have h := of_decide_eq_false hc7; omega) | (have h := hc7; simp at h; omega)
            refine S_exit (E_lp_exit (E_inB_exit ?_))
            refine S_seq ?_
            refine S_reg [true, true, true, true, true] rfl rfl ?_
            refine J_st (R_move rfl) rfl (J_st (R_move rfl) rfl (J_st (R_assign rfl) rfl (J_st (R_assign rfl) rfl (J_st (R_assign rfl) rfl (J_done ?_)))))
            refine S_ret (E_doneN (l := [.tmp 6, .tmp 7, .tmp 8]) (vs := [v3, vo, .bool true]) rfl ⟨.tmp rfl, .tmp rfl, .tmp rfl, trivial⟩ rfl E ?_)
            rw [st_3 hc1 hx hc2 hc3]
            exact ⟨_, _, rfl, Own.fin ho4 (by omega) (by omega) (by first | rfl | (simp only [List.nil_append]; done)), Own.fin hvo (by omega) (by omega) (by rw [show (g.nodes[Int.toNat r.op]'hop.2.2).outs.length = k from by omega]), ⟨⟨(Own.sep ho4 hvo (by omega)), trivial⟩, ⟨trivial, trivial⟩⟩⟩

set_option maxHeartbeats 4000000 in
set_option maxRecDepth 20000 in
theorem s_StepOp (cg : List Value) (g : Graph) (vcs : Value) (cs : List Cell) (r : Record) (w : World) (hg : Dat.R w 0 w.heap.size cg g) (hcs : RdS w vcs cs) (hb : cs.length ≤ 4194304) (hcg : cntGraph g ≤ 1048576) : Ct Try.prog 22 [.agg cg.toArray, vcs, .agg (Enc.enc r).toArray] w (fun v w' => ∃ u0 u1, v = .tuple [u0, u1, .bool ((stepM g cs r).2.2)].toArray ∧ Own w' w.heap.size w'.heap.size 4 u0 (List.flatMap (Enc.enc (α := Cell)) ((stepM g cs r).1)) ∧ Own w' w.heap.size w'.heap.size 5 u1 (List.flatMap (Enc.enc (α := Record)) ((stepM g cs r).2.1)) ∧ SepL [u0, u1]) := by
  refine ct_of Try.func22 rfl Try.ntmps22 rfl ?_
  obtain ⟨o1, rfl, hd1⟩ := Graph.op hg
  refine S_sub [(0, .agg [o1, .int .i64 g.workers, .int .i64 g.cap].toArray), (1, vcs), (2, .agg (Enc.enc r).toArray)] ⟨rfl, rfl, rfl, trivial⟩ ?_
  have E : Ext w w := Ext.refl w
  refine S_seq ?_
  refine S_reg [false, false, true, true, true] rfl rfl ?_
  refine J_box rfl rfl (fun b1 w1 e1 s1 h1 => ?_)
  have g_b1 : w.heap.size ≤ b1 := by have := E.size; omega
  have y_b1 := h1.lt
  replace E := E.trans e1
  have z1 := e1.size
  refine J_box rfl rfl (fun b2 w2 e2 s2 h2 => ?_)
  have g_b2 : w.heap.size ≤ b2 := by have := E.size; omega
  have y_b2 := h2.lt
  replace E := E.trans e2; replace h1 := h1.ext e2
  have z2 := e2.size
  refine J_st (R_assign rfl) rfl (J_st (R_assign rfl) rfl (J_st (R_assign rfl) rfl (J_done ?_)))
  refine S_seq ?_
  refine S_reg [false, true, false, true] rfl rfl ?_
  refine J_buildSlice (vs := []) (css := []) sl30 rfl rfl trivial rfl rfl (fun b3 w3 e3 s3 h3 => ?_)
  replace h3 : Blk w3 b3 [] := h3
  have g_b3 : w.heap.size ≤ b3 := by have := E.size; omega
  have y_b3 := h3.lt
  replace E := E.trans e3; replace h1 := h1.ext e3; replace h2 := h2.ext e3
  have z3 := e3.size
  refine J_st (R_move rfl) rfl ?_
  refine J_append sl30 rfl rfl (Own.ofBlk (lo := b3) (hi := b3 + 1) (sz := 4) h3 (Nat.le_refl _) (Nat.lt_succ_self _) (by simp) (by simp [maxLen])) (RdS.src (hcs.ext E)) (flat_one _) (by first | (simp only [sum_flat, List.length_nil, List.length_cons]; simp only [Enc.sz]; omega) | (have h := out_len g r k; rw [sum_flat]; simp only [show Enc.sz Record = 5 from rfl, List.length_cons, List.length_nil]; omega)) (by decide) (by omega) (by omega) rfl rfl (fun v1 w4 m1 ho1 => ?_)
  replace E := E.step m1 (fun g hg => by have := Own.blk (Own.ofBlk (lo := b3) (hi := b3 + 1) (sz := 4) h3 (Nat.le_refl _) (Nat.lt_succ_self _) (by simp) (by simp [maxLen])) g hg; omega); replace h1 := h1.mod m1 (fun g hg => by have := Own.blk (Own.ofBlk (lo := b3) (hi := b3 + 1) (sz := 4) h3 (Nat.le_refl _) (Nat.lt_succ_self _) (by simp) (by simp [maxLen])) g hg; omega); replace h2 := h2.mod m1 (fun g hg => by have := Own.blk (Own.ofBlk (lo := b3) (hi := b3 + 1) (sz := 4) h3 (Nat.le_refl _) (Nat.lt_succ_self _) (by simp) (by simp [maxLen])) g hg; omega)
  have z4 := m1.size
  refine J_st (R_assign rfl) rfl (J_done ?_)
  refine S_seq ?_
  refine S_reg [false, true] rfl rfl ?_
  refine J_buildSlice (vs := []) (css := []) sl31 rfl rfl trivial rfl rfl (fun b4 w5 e4 s4 h4 => ?_)
  replace h4 : Blk w5 b4 [] := h4
  have g_b4 : w.heap.size ≤ b4 := by have := E.size; omega
  have y_b4 := h4.lt
  replace E := E.trans e4; replace h1 := h1.ext e4; replace h2 := h2.ext e4; replace ho1 := ho1.ext e4
  have z5 := e4.size
  refine J_st (R_assign rfl) rfl (J_done ?_)
  refine S_seq ?_
  refine S_reg [true, true, true, false, true, true, true, false, false, true] rfl rfl ?_
  refine J_st (R_loadS st36 rfl h1.at rfl) rfl (J_st (R_fieldAddr0 fl54_0 rfl) rfl (J_st (R_load sc3 rfl (h2.one 0 rfl)) rfl ?_))
  refine J_call Try.call35 rfl (s_NodeOf [o1, .int .i64 g.workers, .int .i64 g.cap] g r.op _ (Graph.mkR g (RdD.any (hd1.ext E))) (by first | omega | (simp only [mkL_length]; omega) | (rw [mkL_length]; done) | (simp only [mkL_length]; done))) rfl (fun _ w6 e5 ho2 => ?_)
  obtain ⟨_, rfl, ho3⟩ := ho2
  have g_ho2 : w.heap.size ≤ w5.heap.size := E.size
  replace E := E.trans e5; replace h1 := h1.ext e5; replace h2 := h2.ext e5; replace ho1 := ho1.ext e5; replace h4 := h4.ext e5
  have z6 := e5.size
  obtain ⟨o2, rfl, sp1, hw1⟩ := Node.opO ho3
  refine J_st (R_move rfl) rfl (J_st (R_extract rfl rfl) rfl (J_st (R_extract rfl rfl) rfl ?_))
  refine J_alloc st74 rfl (fun b5 w7 e6 s5 h5 => ?_)
  have g_b5 : w.heap.size ≤ b5 := by have := E.size; omega
  have y_b5 := h5.lt
  replace E := E.trans e6; replace h1 := h1.ext e6; replace h2 := h2.ext e6; replace ho1 := ho1.ext e6; replace h4 := h4.ext e6; replace hw1 := hw1.ext e6
  have z7 := e6.size
  refine J_storeS' (cs' := [.int .i64 (((nodeOf g r.op).1).kind), .int .i64 (((nodeOf g r.op).1).a), .int .i64 (((nodeOf g r.op).1).b), o2]) st74 rfl rfl rfl (all_cons rfl (all_cons rfl (all_cons rfl (all_cons hw1.one rfl)))) h5 (Nat.le_of_ble_eq_true rfl) rfl (fun w8 m2 h5' => ?_)
  replace h5 := h5'
  replace E := E.step m2 (fun g hg => by cases hg; omega); replace h1 := h1.mod m2 (fun g hg => by cases hg; omega); replace h2 := h2.mod m2 (fun g hg => by cases hg; omega); replace ho1 := ho1.mod m2 (fun g hg => by cases hg; omega); replace h4 := h4.mod m2 (fun g hg => by cases hg; omega); replace hw1 := hw1.mod m2 (fun g hg => by cases hg; omega)
  have z8 := m2.size
  refine J_st (R_assign rfl) rfl (J_done ?_)
  refine S_seq ?_
  refine S_seq ?_
  refine S_reg [true, true, true, true, false, true, true, true, true, false, true, true] rfl rfl ?_
  refine J_st (R_move rfl) rfl (J_st (R_not rfl) rfl (J_st (R_move rfl) rfl ?_))
  refine J_cut 9 [(0, .agg [o1, .int .i64 g.workers, .int .i64 g.cap].toArray), (1, vcs), (2, .agg (Enc.enc r).toArray), (3, .pointer (some ⟨b1, 0, none⟩)), (5, .pointer (some ⟨b2, 0, none⟩)), (6, .slice none 0 0), (7, .slice none 0 0), (8, .bool false), (9, v1), (10, .slice (some ⟨b4, 0, none⟩) 0 0), (11, .pointer (some ⟨b5, 0, none⟩)), (12, .bool ((nodeOf g r.op).2)), (22, .slice (some ⟨b3, 0, none⟩) 0 0), (23, vcs), (24, v1), (25, .slice (some ⟨b4, 0, none⟩) 0 0), (26, .tuple [.agg [.int .i64 (((nodeOf g r.op).1).kind), .int .i64 (((nodeOf g r.op).1).a), .int .i64 (((nodeOf g r.op).1).b), o2].toArray, .bool ((nodeOf g r.op).2)].toArray), (27, .agg [o1, .int .i64 g.workers, .int .i64 g.cap].toArray), (28, .pointer (some ⟨b2, 0, none⟩)), (29, .int .i64 r.op), (30, .tuple [.agg [.int .i64 (((nodeOf g r.op).1).kind), .int .i64 (((nodeOf g r.op).1).a), .int .i64 (((nodeOf g r.op).1).b), o2].toArray, .bool ((nodeOf g r.op).2)].toArray), (31, .agg [.int .i64 (((nodeOf g r.op).1).kind), .int .i64 (((nodeOf g r.op).1).a), .int .i64 (((nodeOf g r.op).1).b), o2].toArray), (32, .bool ((nodeOf g r.op).2)), (44, .bool (((!((nodeOf g r.op).2)) || (!(graphOk g))) || (!(recordOk r))))] (fun w' => Ext w w' ∧ w8.heap.size ≤ w'.heap.size ∧ Blk w' b1 ([o1, .int .i64 g.workers, .int .i64 g.cap]) ∧ Blk w' b2 (Enc.enc r) ∧ Own w' b3 w4.heap.size 4 v1 ([] ++ List.flatMap (Enc.enc (α := Cell)) cs) ∧ Blk w' b4 [] ∧ Own w' w5.heap.size w6.heap.size 1 o2 (List.flatMap (Enc.enc (α := Int)) (((nodeOf g r.op).1).outs)) ∧ Blk w' b5 [.int .i64 (((nodeOf g r.op).1).kind), .int .i64 (((nodeOf g r.op).1).a), .int .i64 (((nodeOf g r.op).1).b), o2]) ?_ ?_
  · refine J_if (gd := 35) rfl rfl (fun hg1 => ?_) (fun hg1 => ?_)
    · refine J_gdno rfl rfl rfl rfl ?_
      refine J_ungno rfl rfl rfl rfl ?_
      refine J_gdno rfl rfl rfl rfl (J_st (R_pickT rfl rfl) rfl (J_st (R_move rfl) rfl (J_gdno rfl rfl rfl rfl ?_)))
      refine J_ungno rfl rfl rfl rfl ?_
      refine J_gdno rfl rfl rfl rfl (J_st (R_pickT rfl rfl) rfl (J_cutEnd ⟨rfl, rfl, rfl, rfl, rfl, rfl, rfl, rfl, rfl, rfl, rfl, rfl, rfl, rfl, rfl, rfl, rfl, rfl, rfl, rfl, rfl, rfl, rfl, congrArg (fun b => some (Value.bool b)) (show true = (((!((nodeOf g r.op).2)) || (!(graphOk g))) || (!(recordOk r))) by first | (rw [hg1] <;> rfl) | (simp [hg1]; done) | (simp only [nat_nlt] <;> simp)), trivial⟩ ⟨E, (by omega), h1, h2, ho1, h4, hw1, h5⟩))
    · refine J_gd rfl rfl (R_loadS st36 rfl h1.at rfl) rfl ?_
      refine J_ung rfl rfl ?_
      refine J_call Try.call36 rfl (s_GraphOk [o1, .int .i64 g.workers, .int .i64 g.cap] g _ (Graph.mkR g (RdD.any (hd1.ext E)))) rfl (fun _ w10 e7 hv => ?_)
      subst hv
      replace E := E.trans e7; replace h1 := h1.ext e7; replace h2 := h2.ext e7; replace ho1 := ho1.ext e7; replace h4 := h4.ext e7; replace hw1 := hw1.ext e7; replace h5 := h5.ext e7
      have z9 := e7.size
      refine J_gd rfl rfl (R_not rfl) rfl (J_st (R_pickF rfl rfl) rfl (J_st (R_move rfl) rfl ?_))
      refine J_if (gd := 40) rfl rfl (fun hg2 => ?_) (fun hg2 => ?_)
      · refine J_gdno rfl rfl rfl rfl ?_
        refine J_ungno rfl rfl rfl rfl ?_
        refine J_gdno rfl rfl rfl rfl (J_st (R_pickT rfl rfl) rfl (J_cutEnd ⟨rfl, rfl, rfl, rfl, rfl, rfl, rfl, rfl, rfl, rfl, rfl, rfl, rfl, rfl, rfl, rfl, rfl, rfl, rfl, rfl, rfl, rfl, rfl, congrArg (fun b => some (Value.bool b)) (show true = (((!((nodeOf g r.op).2)) || (!(graphOk g))) || (!(recordOk r))) by first | (rw [hg1, hg2] <;> rfl) | (simp [hg1, hg2]; done) | (simp only [nat_nlt] <;> simp)), trivial⟩ ⟨E, (by omega), h1, h2, ho1, h4, hw1, h5⟩))
      · refine J_gd rfl rfl (R_loadS st54 rfl h2.at rfl) rfl ?_
        refine J_ung rfl rfl ?_
        refine J_call Try.call37 rfl (s_RecordOk r _ ) rfl (fun _ w11 e8 hv => ?_)
        subst hv
        replace E := E.trans e8; replace h1 := h1.ext e8; replace h2 := h2.ext e8; replace ho1 := ho1.ext e8; replace h4 := h4.ext e8; replace hw1 := hw1.ext e8; replace h5 := h5.ext e8
        have z10 := e8.size
        refine J_gd rfl rfl (R_not rfl) rfl (J_st (R_pickF rfl rfl) rfl (J_cutEnd ⟨rfl, rfl, rfl, rfl, rfl, rfl, rfl, rfl, rfl, rfl, rfl, rfl, rfl, rfl, rfl, rfl, rfl, rfl, rfl, rfl, rfl, rfl, rfl, congrArg (fun b => some (Value.bool b)) (show (!(recordOk r)) = (((!((nodeOf g r.op).2)) || (!(graphOk g))) || (!(recordOk r))) by first | (rw [hg1, hg2] <;> rfl) | (simp [hg1, hg2]; done) | (simp only [nat_nlt] <;> simp)), trivial⟩ ⟨E, (by omega), h1, h2, ho1, h4, hw1, h5⟩))
  clear E h1 h2 ho1 h4 hw1 h5
  rintro w9 ⟨E, z11, h1, h2, ho1, h4, hw1, h5⟩
  refine J_done ?_
  refine S_cond rfl (fun hc1 => ?_) (fun hc1 => ?_)
  · replace hc1 := st_spt hc1
    refine S_seq ?_
    refine S_reg [true, true, true, true, true] rfl rfl ?_
    refine J_st (R_move rfl) rfl (J_st (R_move rfl) rfl (J_st (R_assign rfl) rfl (J_st (R_assign rfl) rfl (J_st (R_assign rfl) rfl (J_done ?_)))))
    refine S_ret (E_doneN (l := [.tmp 6, .tmp 7, .tmp 8]) (vs := [v1, .slice (some ⟨b4, 0, none⟩) 0 0, .bool false]) rfl ⟨.tmp rfl, .tmp rfl, .tmp rfl, trivial⟩ rfl E ?_)
    rw [st_0 hc1]
    exact ⟨_, _, rfl, Own.fin ho1 (by omega) (by omega) (by first | rfl | (simp only [List.nil_append]; done)), Own.fin (Own.ofBlk (lo := b4) (hi := b4 + 1) (sz := 5) h4 (Nat.le_refl _) (Nat.lt_succ_self _) (by rfl) (by unfold maxLen; omega)) (by omega) (by omega) (by first | rfl | (simp only [List.nil_append]; done)), ⟨⟨(Own.sep ho1 (Own.ofBlk (lo := b4) (hi := b4 + 1) (sz := 5) h4 (Nat.le_refl _) (Nat.lt_succ_self _) (by rfl) (by unfold maxLen; omega)) (by omega)), trivial⟩, ⟨trivial, trivial⟩⟩⟩
  · replace hc1 := st_spf hc1
    have hq := st_of hc1
    have hop := isNode_of hq.2
    have hx : ((nodeOf g r.op).1) = stNode g r := nodeOf_1 hq.2
    have hol : ((nodeOf g r.op).1).outs.length ≤ 2 := hx ▸ outs_two (i := Int.toNat r.op) hq.1 (by omega)
    refine S_skip ?_
    refine S_seq ?_
    refine S_reg [true, true, true, true, true, false, true, true, true, true, true, true, true] rfl rfl ?_
    refine J_st (R_loadS st74 rfl h5.at rfl) rfl (J_st (R_fieldAddr0 fl54_2 rfl) rfl (J_st (R_load sc3 rfl (h2.one 3 rfl)) rfl (J_st (R_fieldAddr0 fl54_3 rfl) rfl (J_st (R_load sc3 rfl (h2.one 4 rfl)) rfl ?_))))
    refine J_call Try.call38 rfl (s_Changed [.int .i64 (((nodeOf g r.op).1).kind), .int .i64 (((nodeOf g r.op).1).a), .int .i64 (((nodeOf g r.op).1).b), o2] ((nodeOf g r.op).1) r.key r.val _ (Node.mkR ((nodeOf g r.op).1) (RdD.any (Own.rdD hw1)))) rfl (fun _ w12 e9 hv => ?_)
    subst hv
    replace E := E.trans e9; replace h1 := h1.ext e9; replace h2 := h2.ext e9; replace ho1 := ho1.ext e9; replace h4 := h4.ext e9; replace hw1 := hw1.ext e9; replace h5 := h5.ext e9
    have z12 := e9.size
    refine J_st (R_move rfl) rfl (J_st (R_extract rfl rfl) rfl (J_st (R_extract rfl rfl) rfl (J_st (R_extract rfl rfl) rfl (J_st (R_assign rfl) rfl (J_st (R_assign rfl) rfl (J_st (R_assign rfl) rfl (J_done ?_)))))))
    refine S_seq ?_
    refine S_seq ?_
    refine S_reg [true, true, true, true, true, true, true] rfl rfl ?_
    refine J_st (R_move rfl) rfl (J_st (R_not rfl) rfl (J_st (R_move rfl) rfl ?_))
    refine J_cut 4 [(0, .agg [o1, .int .i64 g.workers, .int .i64 g.cap].toArray), (1, vcs), (2, .agg (Enc.enc r).toArray), (3, .pointer (some ⟨b1, 0, none⟩)), (5, .pointer (some ⟨b2, 0, none⟩)), (6, .slice none 0 0), (7, .slice none 0 0), (8, .bool false), (9, v1), (10, .slice (some ⟨b4, 0, none⟩) 0 0), (11, .pointer (some ⟨b5, 0, none⟩)), (12, .bool ((nodeOf g r.op).2)), (13, .int .i64 ((changedM ((nodeOf g r.op).1) r.key r.val).1)), (14, .int .i64 ((changedM ((nodeOf g r.op).1) r.key r.val).2.1)), (15, .bool ((changedM ((nodeOf g r.op).1) r.key r.val).2.2)), (22, .slice (some ⟨b3, 0, none⟩) 0 0), (23, vcs), (24, v1), (25, .slice (some ⟨b4, 0, none⟩) 0 0), (26, .tuple [.agg [.int .i64 (((nodeOf g r.op).1).kind), .int .i64 (((nodeOf g r.op).1).a), .int .i64 (((nodeOf g r.op).1).b), o2].toArray, .bool ((nodeOf g r.op).2)].toArray), (27, .agg [o1, .int .i64 g.workers, .int .i64 g.cap].toArray), (28, .pointer (some ⟨b2, 0, none⟩)), (29, .int .i64 r.op), (30, .tuple [.agg [.int .i64 (((nodeOf g r.op).1).kind), .int .i64 (((nodeOf g r.op).1).a), .int .i64 (((nodeOf g r.op).1).b), o2].toArray, .bool ((nodeOf g r.op).2)].toArray), (31, .agg [.int .i64 (((nodeOf g r.op).1).kind), .int .i64 (((nodeOf g r.op).1).a), .int .i64 (((nodeOf g r.op).1).b), o2].toArray), (32, .bool ((nodeOf g r.op).2)), (44, .bool (((!((nodeOf g r.op).2)) || (!(graphOk g))) || (!(recordOk r)))), (47, .tuple [.int .i64 ((changedM ((nodeOf g r.op).1) r.key r.val).1), .int .i64 ((changedM ((nodeOf g r.op).1) r.key r.val).2.1), .bool ((changedM ((nodeOf g r.op).1) r.key r.val).2.2)].toArray), (48, .agg [.int .i64 (((nodeOf g r.op).1).kind), .int .i64 (((nodeOf g r.op).1).a), .int .i64 (((nodeOf g r.op).1).b), o2].toArray), (49, .pointer (some ⟨b2, 3, none⟩)), (50, .int .i64 r.key), (51, .pointer (some ⟨b2, 4, none⟩)), (52, .int .i64 r.val), (53, .tuple [.int .i64 ((changedM ((nodeOf g r.op).1) r.key r.val).1), .int .i64 ((changedM ((nodeOf g r.op).1) r.key r.val).2.1), .bool ((changedM ((nodeOf g r.op).1) r.key r.val).2.2)].toArray), (54, .int .i64 ((changedM ((nodeOf g r.op).1) r.key r.val).1)), (55, .int .i64 ((changedM ((nodeOf g r.op).1) r.key r.val).2.1)), (56, .bool ((changedM ((nodeOf g r.op).1) r.key r.val).2.2)), (63, .bool ((!((changedM ((nodeOf g r.op).1) r.key r.val).2.2)) && ((((nodeOf g r.op).1).kind) != 8)))] (fun w' => w12 = w') ?_ ?_
    · refine J_if (gd := 59) rfl rfl (fun hg3 => ?_) (fun hg3 => ?_)
      · refine J_gd rfl rfl (R_fieldAddr0 fl74_0 rfl) rfl (J_gd rfl rfl (R_load sc3 rfl (h5.one 0 rfl)) rfl (J_gd rfl rfl (R_neq rfl rfl) rfl (J_st (R_pickT rfl rfl) rfl (J_cutEnd ⟨rfl, rfl, rfl, rfl, rfl, rfl, rfl, rfl, rfl, rfl, rfl, rfl, rfl, rfl, rfl, rfl, rfl, rfl, rfl, rfl, rfl, rfl, rfl, rfl, rfl, rfl, rfl, rfl, rfl, rfl, rfl, rfl, rfl, rfl, rfl, rfl, rfl, congrArg (fun b => some (Value.bool b)) (show ((((nodeOf g r.op).1).kind) != 8) = ((!((changedM ((nodeOf g r.op).1) r.key r.val).2.2)) && ((((nodeOf g r.op).1).kind) != 8)) by first | (rw [hg3] <;> rfl) | (simp [hg3]; done) | (simp only [nat_nlt] <;> simp)), trivial⟩ rfl))))
      · refine J_gdno rfl rfl rfl rfl (J_gdno rfl rfl rfl rfl (J_gdno rfl rfl rfl rfl (J_st (R_pickF rfl rfl) rfl (J_cutEnd ⟨rfl, rfl, rfl, rfl, rfl, rfl, rfl, rfl, rfl, rfl, rfl, rfl, rfl, rfl, rfl, rfl, rfl, rfl, rfl, rfl, rfl, rfl, rfl, rfl, rfl, rfl, rfl, rfl, rfl, rfl, rfl, rfl, rfl, rfl, rfl, rfl, rfl, congrArg (fun b => some (Value.bool b)) (show false = ((!((changedM ((nodeOf g r.op).1) r.key r.val).2.2)) && ((((nodeOf g r.op).1).kind) != 8)) by first | (rw [hg3] <;> rfl) | (simp [hg3]; done) | (simp only [nat_nlt] <;> simp)), trivial⟩ rfl))))
    rintro _ rfl
    refine J_done ?_
    refine S_cond rfl (fun hc2 => ?_) (fun hc2 => ?_)
    · refine S_seq ?_
      refine S_reg [true, true, true, true, true] rfl rfl ?_
      refine J_st (R_move rfl) rfl (J_st (R_move rfl) rfl (J_st (R_assign rfl) rfl (J_st (R_assign rfl) rfl (J_st (R_assign rfl) rfl (J_done ?_)))))
      refine S_ret (E_doneN (l := [.tmp 6, .tmp 7, .tmp 8]) (vs := [v1, .slice (some ⟨b4, 0, none⟩) 0 0, .bool true]) rfl ⟨.tmp rfl, .tmp rfl, .tmp rfl, trivial⟩ rfl E ?_)
      rw [st_1 hc1 hx hc2]
      exact ⟨_, _, rfl, Own.fin ho1 (by omega) (by omega) (by first | rfl | (simp only [List.nil_append]; done)), Own.fin (Own.ofBlk (lo := b4) (hi := b4 + 1) (sz := 5) h4 (Nat.le_refl _) (Nat.lt_succ_self _) (by rfl) (by unfold maxLen; omega)) (by omega) (by omega) (by first | rfl | (simp only [List.nil_append]; done)), ⟨⟨(Own.sep ho1 (Own.ofBlk (lo := b4) (hi := b4 + 1) (sz := 5) h4 (Nat.le_refl _) (Nat.lt_succ_self _) (by rfl) (by unfold maxLen; omega)) (by omega)), trivial⟩, ⟨trivial, trivial⟩⟩⟩
    · refine S_skip ?_
      refine S_seq ?_
      refine S_seq ?_
      refine S_reg [true, true, false] rfl rfl ?_
      refine J_st (R_fieldAddr0 fl74_0 rfl) rfl (J_st (R_load sc3 rfl (h5.one 0 rfl)) rfl ?_)
      refine J_call Try.call39 rfl (s_Remembers (((nodeOf g r.op).1).kind) _ ) rfl (fun _ w14 e10 hv => ?_)
      subst hv
      replace E := E.trans e10; replace h1 := h1.ext e10; replace h2 := h2.ext e10; replace ho1 := ho1.ext e10; replace h4 := h4.ext e10; replace hw1 := hw1.ext e10; replace h5 := h5.ext e10
      have z13 := e10.size
      refine J_done ?_
      refine S_cond rfl (fun hc3 => ?_) (fun hc3 => ?_)
      · refine S_seq ?_
        refine S_reg [true, true, true, true, true, true, true, true, true, true, true, true, true, false, true, true, true, true, true] rfl rfl ?_
        refine J_st (R_fieldAddr0 fl74_0 rfl) rfl (J_st (R_load sc3 rfl (h5.one 0 rfl)) rfl (J_st (R_move rfl) rfl (J_st (R_fieldAddr0 fl54_0 rfl) rfl (J_st (R_load sc3 rfl (h2.one 0 rfl)) rfl (J_st (R_fieldAddr0 fl54_1 rfl) rfl (J_st (R_fieldAddr fl52_0 rfl) rfl (J_st (R_load sc3 rfl (h2.one 1 rfl)) rfl (J_st (R_fieldAddr0 fl54_2 rfl) rfl (J_st (R_load sc3 rfl (h2.one 3 rfl)) rfl (J_st (R_fieldAddr0 fl54_3 rfl) rfl (J_st (R_load sc3 rfl (h2.one 4 rfl)) rfl (J_st (R_build (⟨r.op, r.stamp.epoch, r.key, r.val⟩ : Cell) rfl (fun _ => by kernel_rfl)) rfl ?_))))))))))))
        refine J_call Try.call40 rfl (s_Recall (((nodeOf g r.op).1).kind) vcs cs (⟨r.op, r.stamp.epoch, r.key, r.val⟩ : Cell) _ (hcs.ext E) (by first | omega | (simp only [mkL_length]; omega) | (rw [mkL_length]; done) | (simp only [mkL_length]; done))) rfl (fun _ w15 e11 ho4 => ?_)
        obtain ⟨v2, rfl, ho5⟩ := ho4
        have g_ho4 : w.heap.size ≤ w14.heap.size := E.size
        replace E := E.trans e11; replace h1 := h1.ext e11; replace h2 := h2.ext e11; replace ho1 := ho1.ext e11; replace h4 := h4.ext e11; replace hw1 := hw1.ext e11; replace h5 := h5.ext e11
        have z14 := e11.size
        refine J_st (R_move rfl) rfl (J_st (R_extract rfl rfl) rfl (J_st (R_extract rfl rfl) rfl (J_st (R_assign rfl) rfl (J_st (R_assign rfl) rfl (J_done ?_)))))
        refine S_seq ?_
        refine S_reg [true, true] rfl rfl ?_
        refine J_st (R_move rfl) rfl (J_st (R_assign rfl) rfl (J_done ?_))
        refine S_seq ?_
        refine S_reg [true, true] rfl rfl ?_
        refine J_st (R_move rfl) rfl (J_st (R_not rfl) rfl (J_done ?_))
        refine S_cond rfl (fun hc4 => ?_) (fun hc4 => ?_)
        · refine S_seq ?_
          refine S_reg [true, true, true, true, true] rfl rfl ?_
          refine J_st (R_move rfl) rfl (J_st (R_move rfl) rfl (J_st (R_assign rfl) rfl (J_st (R_assign rfl) rfl (J_st (R_assign rfl) rfl (J_done ?_)))))
          refine S_ret (E_doneN (l := [.tmp 6, .tmp 7, .tmp 8]) (vs := [v2, .slice (some ⟨b4, 0, none⟩) 0 0, .bool true]) rfl ⟨.tmp rfl, .tmp rfl, .tmp rfl, trivial⟩ rfl E ?_)
          rw [st_2 hc1 hx hc2 hc4]
          exact ⟨_, _, rfl, Own.fin ho5 (by omega) (by omega) (by first | rfl | (simp only [List.nil_append]; done)), Own.fin (Own.ofBlk (lo := b4) (hi := b4 + 1) (sz := 5) h4 (Nat.le_refl _) (Nat.lt_succ_self _) (by rfl) (by unfold maxLen; omega)) (by omega) (by omega) (by first | rfl | (simp only [List.nil_append]; done)), ⟨⟨(Own.sep ho5 (Own.ofBlk (lo := b4) (hi := b4 + 1) (sz := 5) h4 (Nat.le_refl _) (Nat.lt_succ_self _) (by rfl) (by unfold maxLen; omega)) (by omega)), trivial⟩, ⟨trivial, trivial⟩⟩⟩
        · refine S_skip ?_
          refine S_seq ?_
          refine S_reg [true, true, false, false] rfl rfl ?_
          refine J_st (R_fieldAddr0 fl54_1 rfl) rfl (J_st (R_loadS st52 rfl (h2.part 1 [.int .i64 r.stamp.epoch, .int .i64 r.stamp.turn] rfl) rfl) rfl ?_)
          refine J_alloc st52 rfl (fun b6 w16 e12 s6 h6 => ?_)
          have g_b6 : w.heap.size ≤ b6 := by have := E.size; omega
          have y_b6 := h6.lt
          replace E := E.trans e12; replace h1 := h1.ext e12; replace h2 := h2.ext e12; replace ho1 := ho1.ext e12; replace h4 := h4.ext e12; replace hw1 := hw1.ext e12; replace h5 := h5.ext e12; replace ho5 := ho5.ext e12
          have z15 := e12.size
          refine J_storeS' (cs' := [.int .i64 r.stamp.epoch, .int .i64 r.stamp.turn]) st52 rfl rfl rfl rfl h6 (Nat.le_of_ble_eq_true rfl) rfl (fun w17 m3 h6' => ?_)
          replace h6 := h6'
          replace E := E.step m3 (fun g hg => by cases hg; omega); replace h1 := h1.mod m3 (fun g hg => by cases hg; omega); replace h2 := h2.mod m3 (fun g hg => by cases hg; omega); replace ho1 := ho1.mod m3 (fun g hg => by cases hg; omega); replace h4 := h4.mod m3 (fun g hg => by cases hg; omega); replace hw1 := hw1.mod m3 (fun g hg => by cases hg; omega); replace h5 := h5.mod m3 (fun g hg => by cases hg; omega); replace ho5 := ho5.mod m3 (fun g hg => by cases hg; omega)
          have z16 := m3.size
          refine J_done ?_
          refine S_seq ?_
          refine S_seq ?_
          refine S_reg [true, true, true] rfl rfl ?_
          refine J_st (R_fieldAddr0 fl74_0 rfl) rfl (J_st (R_load sc3 rfl (h5.one 0 rfl)) rfl (J_st (R_eql rfl rfl) rfl (J_done ?_)))
          refine S_cond rfl (fun hc5 => ?_) (fun hc5 => ?_)
          · have hstm := stamp_7 hx hc5
            refine S_seq ?_
            refine S_reg [true, false, true, true, true, false, false, true] rfl rfl ?_
            refine J_st (R_loadS st52 rfl h6.at rfl) rfl ?_
            refine J_call Try.call41 rfl (s_NextTurn r.stamp _ ) rfl (fun _ w18 e13 hv => ?_)
            subst hv
            replace E := E.trans e13; replace h1 := h1.ext e13; replace h2 := h2.ext e13; replace ho1 := ho1.ext e13; replace h4 := h4.ext e13; replace hw1 := hw1.ext e13; replace h5 := h5.ext e13; replace ho5 := ho5.ext e13; replace h6 := h6.ext e13
            have z17 := e13.size
            refine J_st (R_move rfl) rfl (J_st (R_extract rfl rfl) rfl (J_st (R_extract rfl rfl) rfl ?_))
            refine J_alloc st52 rfl (fun b7 w19 e14 s7 h7 => ?_)
            have g_b7 : w.heap.size ≤ b7 := by have := E.size; omega
            have y_b7 := h7.lt
            replace E := E.trans e14; replace h1 := h1.ext e14; replace h2 := h2.ext e14; replace ho1 := ho1.ext e14; replace h4 := h4.ext e14; replace hw1 := hw1.ext e14; replace h5 := h5.ext e14; replace ho5 := ho5.ext e14; replace h6 := h6.ext e14
            have z18 := e14.size
            refine J_storeS' (cs' := [.int .i64 (((nextT r.stamp).1).epoch), .int .i64 (((nextT r.stamp).1).turn)]) st52 rfl rfl rfl rfl h7 (Nat.le_of_ble_eq_true rfl) rfl (fun w20 m4 h7' => ?_)
            replace h7 := h7'
            replace E := E.step m4 (fun g hg => by cases hg; omega); replace h1 := h1.mod m4 (fun g hg => by cases hg; omega); replace h2 := h2.mod m4 (fun g hg => by cases hg; omega); replace ho1 := ho1.mod m4 (fun g hg => by cases hg; omega); replace h4 := h4.mod m4 (fun g hg => by cases hg; omega); replace hw1 := hw1.mod m4 (fun g hg => by cases hg; omega); replace h5 := h5.mod m4 (fun g hg => by cases hg; omega); replace ho5 := ho5.mod m4 (fun g hg => by cases hg; omega); replace h6 := h6.mod m4 (fun g hg => by cases hg; omega)
            have z19 := m4.size
            refine J_st (R_assign rfl) rfl (J_done ?_)
            refine S_seq ?_
            refine S_seq ?_
            refine S_reg [true, true] rfl rfl ?_
            refine J_st (R_move rfl) rfl (J_st (R_not rfl) rfl (J_done ?_))
            refine S_cond rfl (fun hc6 => ?_) (fun hc6 => ?_)
            · refine S_seq ?_
              refine S_reg [true, true, true, true, true] rfl rfl ?_
              refine J_st (R_move rfl) rfl (J_st (R_move rfl) rfl (J_st (R_assign rfl) rfl (J_st (R_assign rfl) rfl (J_st (R_assign rfl) rfl (J_done ?_)))))
              refine S_ret (E_doneN (l := [.tmp 6, .tmp 7, .tmp 8]) (vs := [v2, .slice (some ⟨b4, 0, none⟩) 0 0, .bool true]) rfl ⟨.tmp rfl, .tmp rfl, .tmp rfl, trivial⟩ rfl E ?_)
              rw [st_3 hc1 hx hc2 hc4, out_no (by rw [hstm]; exact not_t hc6)]
              exact ⟨_, _, rfl, Own.fin ho5 (by omega) (by omega) (by first | rfl | (simp only [List.nil_append]; done)), Own.fin (Own.ofBlk (lo := b4) (hi := b4 + 1) (sz := 5) h4 (Nat.le_refl _) (Nat.lt_succ_self _) (by rfl) (by unfold maxLen; omega)) (by omega) (by omega) (by first | rfl | (simp only [List.nil_append]; done)), ⟨⟨(Own.sep ho5 (Own.ofBlk (lo := b4) (hi := b4 + 1) (sz := 5) h4 (Nat.le_refl _) (Nat.lt_succ_self _) (by rfl) (by unfold maxLen; omega)) (by omega)), trivial⟩, ⟨trivial, trivial⟩⟩⟩
            · refine S_skip ?_
              refine S_reg [true, false] rfl rfl ?_
              refine J_st (R_loadS st52 rfl h7.at rfl) rfl ?_
              refine J_storeS' (cs' := [.int .i64 (((nextT r.stamp).1).epoch), .int .i64 (((nextT r.stamp).1).turn)]) st52 rfl rfl rfl rfl h6 (Nat.le_of_ble_eq_true rfl) rfl (fun w21 m5 h6' => ?_)
              replace h6 := h6'
              replace E := E.step m5 (fun g hg => by cases hg; omega); replace h1 := h1.mod m5 (fun g hg => by cases hg; omega); replace h2 := h2.mod m5 (fun g hg => by cases hg; omega); replace ho1 := ho1.mod m5 (fun g hg => by cases hg; omega); replace h4 := h4.mod m5 (fun g hg => by cases hg; omega); replace hw1 := hw1.mod m5 (fun g hg => by cases hg; omega); replace h5 := h5.mod m5 (fun g hg => by cases hg; omega); replace ho5 := ho5.mod m5 (fun g hg => by cases hg; omega); replace h7 := h7.mod m5 (fun g hg => by cases hg; omega)
              have z20 := m5.size
              refine J_done ?_
              refine S_seq ?_
              refine S_seq ?_
              refine S_reg [true] rfl rfl ?_
              refine J_st (R_assign rfl) rfl (J_done ?_)
              refine S_block ?_
              refine S_loop (fun (xq : Nat × Value) => let ⟨k, vo⟩ := xq; [(6, .slice none 0 0), (7, .slice none 0 0), (8, .bool false), (9, v2), (10, vo), (11, .pointer (some ⟨b5, 0, none⟩)), (13, .int .i64 ((changedM ((nodeOf g r.op).1) r.key r.val).1)), (14, .int .i64 ((changedM ((nodeOf g r.op).1) r.key r.val).2.1)), (18, .pointer (some ⟨b6, 0, none⟩)), (21, .int .i64 ((k : Nat) : Int))]) (fun (xq : Nat × Value) w' => let ⟨k, vo⟩ := xq; Ext w w' ∧ w21.heap.size ≤ w'.heap.size ∧ Blk w' b1 ([o1, .int .i64 g.workers, .int .i64 g.cap]) ∧ Blk w' b2 (Enc.enc r) ∧ Own w' b3 w4.heap.size 4 v1 ([] ++ List.flatMap (Enc.enc (α := Cell)) cs) ∧ Own w' w5.heap.size w6.heap.size 1 o2 (List.flatMap (Enc.enc (α := Int)) (((nodeOf g r.op).1).outs)) ∧ Blk w' b5 [.int .i64 (((nodeOf g r.op).1).kind), .int .i64 (((nodeOf g r.op).1).a), .int .i64 (((nodeOf g r.op).1).b), o2] ∧ Own w' w14.heap.size w15.heap.size 4 v2 (List.flatMap (Enc.enc (α := Cell)) ((recallM (((nodeOf g r.op).1).kind) cs (⟨r.op, r.stamp.epoch, r.key, r.val⟩ : Cell)).1)) ∧ Blk w' b6 [.int .i64 (((nextT r.stamp).1).epoch), .int .i64 (((nextT r.stamp).1).turn)] ∧ Blk w' b7 [.int .i64 (((nextT r.stamp).1).epoch), .int .i64 (((nextT r.stamp).1).turn)] ∧ k ≤ ((nodeOf g r.op).1).outs.length ∧ Own w' b4 w'.heap.size 5 vo (List.flatMap (Enc.enc (α := Record)) (stOut g r k)) ∧ (∀ g, Value.ownBlock vo = some g → g = b4 ∨ w21.heap.size ≤ g)) (fun (xq : Nat × Value) => let ⟨k, vo⟩ := xq; ((nodeOf g r.op).1).outs.length - k) (0, .slice (some ⟨b4, 0, none⟩) 0 0) ⟨rfl, rfl, rfl, rfl, rfl, rfl, rfl, rfl, rfl, rfl, trivial⟩ ⟨E, Nat.le_refl _, h1, h2, ho1, hw1, h5, ho5, h6, h7, Nat.zero_le _, Own.fin (Own.ofBlk (lo := b4) (hi := b4 + 1) (sz := 5) h4 (Nat.le_refl _) (Nat.lt_succ_self _) (by simp) (by simp [maxLen])) (by omega) (by omega) out_zero.symm, (fun g hg => .inl (by cases hg; rfl))⟩ ?_
              clear E h1 h2 ho1 h4 hw1 h5 ho5 h6 h7
              rintro ⟨k, vo⟩ w22 ⟨E, z21, h1, h2, ho1, hw1, h5, ho5, h6, h7, hk, hvo, hvn⟩
              refine S_sub [(6, .slice none 0 0), (7, .slice none 0 0), (8, .bool false), (9, v2), (10, vo), (11, .pointer (some ⟨b5, 0, none⟩)), (13, .int .i64 ((changedM ((nodeOf g r.op).1) r.key r.val).1)), (14, .int .i64 ((changedM ((nodeOf g r.op).1) r.key r.val).2.1)), (18, .pointer (some ⟨b6, 0, none⟩)), (21, .int .i64 ((k : Nat) : Int))] ⟨rfl, rfl, rfl, rfl, rfl, rfl, rfl, rfl, rfl, rfl, trivial⟩ ?_
              refine S_seq ?_
              refine S_seq ?_
              refine S_reg [true, true, true, true, true] rfl rfl ?_
              refine J_st (R_move rfl) rfl (J_st (R_fieldAddr0 fl74_3 rfl) rfl (J_st (R_load sc71 rfl (h5.one 3 rfl)) rfl (J_st (R_len Try.underlying71 rfl (Own.len (by decide) hw1)) rfl (J_st (R_lss rfl rfl) rfl (J_done ?_)))))
              refine S_cond rfl (fun hc7 => ?_) (fun hc7 => ?_)
              · have hc7n : k < (((nodeOf g r.op).1).outs).length := by first | (have h := of_decide_eq_true hc7; omega) | (have h := hc7; simp at h; omega)
                refine S_skip ?_
                refine S_seq ?_
                refine S_block ?_
                refine S_regX mixed [11] [(0, true), (1, true), (2, true), (3, true), (4, true), (5, true), (6, true), (7, true), (8, true), (9, true), (10, false)] [(11, false), (12, true)] (by decide +kernel) rfl rfl (fun w23 e15 => ?_)
                replace E := E.trans e15; replace h1 := h1.ext e15; replace h2 := h2.ext e15; replace ho1 := ho1.ext e15; replace hw1 := hw1.ext e15; replace h5 := h5.ext e15; replace ho5 := ho5.ext e15; replace h6 := h6.ext e15; replace h7 := h7.ext e15; replace hvo := hvo.ext e15
                have z22 := e15.size
                refine J_st (R_move rfl) rfl (J_st (R_fieldAddr0 fl74_3 rfl) rfl (J_st (R_load sc71 rfl (h5.one 3 rfl)) rfl (J_st (R_move rfl) rfl ?_)))
                have hi1 : k < (((nodeOf g r.op).1).outs).length := (by first | assumption | omega)
                refine J_st (R_index (i := k) sl71 rfl rfl (Own.rd (by decide) hw1) hi1) rfl (J_st (R_load sc3 rfl (((Own.rd (by decide) hw1).get hi1).one 0 rfl)) rfl (J_st (R_loadS st52 rfl h6.at rfl) rfl (J_st (R_move rfl) rfl (J_st (R_move rfl) rfl (J_st (R_build (⟨((((nodeOf g r.op).1).outs)[k]'hi1), ((nextT r.stamp).1), (changedM ((nodeOf g r.op).1) r.key r.val).1, (changedM ((nodeOf g r.op).1) r.key r.val).2.1⟩ : Record) rfl (fun _ => by kernel_rfl)) rfl ?_)))))
                refine J_buildSlice (vs := [.agg (Enc.enc (⟨((((nodeOf g r.op).1).outs)[k]'hi1), ((nextT r.stamp).1), (changedM ((nodeOf g r.op).1) r.key r.val).1, (changedM ((nodeOf g r.op).1) r.key r.val).2.1⟩ : Record)).toArray]) (css := [[.int .i64 ((⟨((((nodeOf g r.op).1).outs)[k]'hi1), ((nextT r.stamp).1), (changedM ((nodeOf g r.op).1) r.key r.val).1, (changedM ((nodeOf g r.op).1) r.key r.val).2.1⟩ : Record).op), .int .i64 (((⟨((((nodeOf g r.op).1).outs)[k]'hi1), ((nextT r.stamp).1), (changedM ((nodeOf g r.op).1) r.key r.val).1, (changedM ((nodeOf g r.op).1) r.key r.val).2.1⟩ : Record).stamp).epoch), .int .i64 (((⟨((((nodeOf g r.op).1).outs)[k]'hi1), ((nextT r.stamp).1), (changedM ((nodeOf g r.op).1) r.key r.val).1, (changedM ((nodeOf g r.op).1) r.key r.val).2.1⟩ : Record).stamp).turn), .int .i64 ((⟨((((nodeOf g r.op).1).outs)[k]'hi1), ((nextT r.stamp).1), (changedM ((nodeOf g r.op).1) r.key r.val).1, (changedM ((nodeOf g r.op).1) r.key r.val).2.1⟩ : Record).key), .int .i64 ((⟨((((nodeOf g r.op).1).outs)[k]'hi1), ((nextT r.stamp).1), (changedM ((nodeOf g r.op).1) r.key r.val).1, (changedM ((nodeOf g r.op).1) r.key r.val).2.1⟩ : Record).val)]]) sl31 rfl rfl ⟨⟨rfl, rfl⟩, trivial⟩ rfl rfl (fun b8 w24 e16 s8 h8 => ?_)
                replace h8 : Blk w24 b8 [.int .i64 ((⟨((((nodeOf g r.op).1).outs)[k]'hi1), ((nextT r.stamp).1), (changedM ((nodeOf g r.op).1) r.key r.val).1, (changedM ((nodeOf g r.op).1) r.key r.val).2.1⟩ : Record).op), .int .i64 (((⟨((((nodeOf g r.op).1).outs)[k]'hi1), ((nextT r.stamp).1), (changedM ((nodeOf g r.op).1) r.key r.val).1, (changedM ((nodeOf g r.op).1) r.key r.val).2.1⟩ : Record).stamp).epoch), .int .i64 (((⟨((((nodeOf g r.op).1).outs)[k]'hi1), ((nextT r.stamp).1), (changedM ((nodeOf g r.op).1) r.key r.val).1, (changedM ((nodeOf g r.op).1) r.key r.val).2.1⟩ : Record).stamp).turn), .int .i64 ((⟨((((nodeOf g r.op).1).outs)[k]'hi1), ((nextT r.stamp).1), (changedM ((nodeOf g r.op).1) r.key r.val).1, (changedM ((nodeOf g r.op).1) r.key r.val).2.1⟩ : Record).key), .int .i64 ((⟨((((nodeOf g r.op).1).outs)[k]'hi1), ((nextT r.stamp).1), (changedM ((nodeOf g r.op).1) r.key r.val).1, (changedM ((nodeOf g r.op).1) r.key r.val).2.1⟩ : Record).val)] := h8
                have g_b8 : w.heap.size ≤ b8 := by have := E.size; omega
                have y_b8 := h8.lt
                replace E := E.trans e16; replace h1 := h1.ext e16; replace h2 := h2.ext e16; replace ho1 := ho1.ext e16; replace hw1 := hw1.ext e16; replace h5 := h5.ext e16; replace ho5 := ho5.ext e16; replace h6 := h6.ext e16; replace h7 := h7.ext e16; replace hvo := hvo.ext e16
                have z23 := e16.size
                refine JX_tail ?_
                refine J2_X rfl ?_
                refine J_appendB sl31 rfl rfl hvo (Src.ofBlk h8 rfl) rfl (by first | (simp only [sum_flat, List.length_nil, List.length_cons]; simp only [Enc.sz]; omega) | (have h := out_len g r k; rw [sum_flat]; simp only [show Enc.sz Record = 5 from rfl, List.length_cons, List.length_nil]; omega)) (by decide) (by omega) (by omega) rfl rfl (fun v3 w25 m6 ho6 hb1 => ?_)
                have hn1 : ∀ g, Value.ownBlock v3 = some g → g = b4 ∨ w21.heap.size ≤ g := fun g hg => (hb1 g hg).elim (fun h => hvn g h) (fun h => by omega)
                replace E := E.step m6 (fun g hg => by have := Own.blk hvo g hg; have := hvn g hg; omega); replace h1 := h1.mod m6 (fun g hg => by have := Own.blk hvo g hg; have := hvn g hg; omega); replace h2 := h2.mod m6 (fun g hg => by have := Own.blk hvo g hg; have := hvn g hg; omega); replace ho1 := ho1.mod m6 (fun g hg => by have := Own.blk hvo g hg; have := hvn g hg; omega); replace hw1 := hw1.mod m6 (fun g hg => by have := Own.blk hvo g hg; have := hvn g hg; omega); replace h5 := h5.mod m6 (fun g hg => by have := Own.blk hvo g hg; have := hvn g hg; omega); replace ho5 := ho5.mod m6 (fun g hg => by have := Own.blk hvo g hg; have := hvn g hg; omega); replace h6 := h6.mod m6 (fun g hg => by have := Own.blk hvo g hg; have := hvn g hg; omega); replace h7 := h7.mod m6 (fun g hg => by have := Own.blk hvo g hg; have := hvn g hg; omega)
                have z24 := m6.size
                refine JX_go ?_
                refine J_st (R_assign rfl) rfl (J_done ?_)
                refine S_nil (E_inB ?_)
                refine S_reg [true, true, true] rfl rfl ?_
                refine J_st (R_move rfl) rfl (J_st (R_add rfl rfl (add_one hc7n (Own.rd (by decide) hw1).1)) rfl (J_st (R_assign rfl) rfl (J_done ?_)))
                refine S_nil (E_again (k + 1, v3) (by dsimp only; omega) ⟨rfl, rfl, rfl, rfl, rfl, rfl, rfl, rfl, rfl, rfl, trivial⟩ ⟨E, (by omega), h1, h2, ho1, hw1, h5, ho5, h6, h7, (by omega), Own.fin ho6 (Nat.le_refl _) (by omega) (out_step (by rw [hstm]) (by rw [hstm]; exact not_f hc6) hx (by omega)), hn1⟩)
              · have hc7n : ¬ k < (((nodeOf g r.op).1).outs).length := by first | (have h := of_decide_eq_false hc7; omega) | (have h := hc7; simp at h; omega)
                refine S_exit (E_lp_exit (E_inB_exit ?_))
                refine S_seq ?_
                refine S_reg [true, true, true, true, true] rfl rfl ?_
                refine J_st (R_move rfl) rfl (J_st (R_move rfl) rfl (J_st (R_assign rfl) rfl (J_st (R_assign rfl) rfl (J_st (R_assign rfl) rfl (J_done ?_)))))
                refine S_ret (E_doneN (l := [.tmp 6, .tmp 7, .tmp 8]) (vs := [v2, vo, .bool true]) rfl ⟨.tmp rfl, .tmp rfl, .tmp rfl, trivial⟩ rfl E ?_)
                rw [st_3 hc1 hx hc2 hc4]
                exact ⟨_, _, rfl, Own.fin ho5 (by omega) (by omega) (by first | rfl | (simp only [List.nil_append]; done)), Own.fin hvo (by omega) (by omega) (by rw [show ((nodeOf g r.op).1).outs.length = k from by omega]), ⟨⟨(fun g hg he => by have := Own.blk ho5 g hg; have := Own.blk hvo g he; have := hvn g he; omega), trivial⟩, ⟨trivial, trivial⟩⟩⟩
          · have hstm := stamp_o hx hc5
            refine S_skip ?_
            refine S_seq ?_
            refine S_seq ?_
            refine S_reg [true] rfl rfl ?_
            refine J_st (R_assign rfl) rfl (J_done ?_)
            refine S_block ?_
            refine S_loop (fun (xq : Nat × Value) => let ⟨k, vo⟩ := xq; [(6, .slice none 0 0), (7, .slice none 0 0), (8, .bool false), (9, v2), (10, vo), (11, .pointer (some ⟨b5, 0, none⟩)), (13, .int .i64 ((changedM ((nodeOf g r.op).1) r.key r.val).1)), (14, .int .i64 ((changedM ((nodeOf g r.op).1) r.key r.val).2.1)), (18, .pointer (some ⟨b6, 0, none⟩)), (21, .int .i64 ((k : Nat) : Int))]) (fun (xq : Nat × Value) w' => let ⟨k, vo⟩ := xq; Ext w w' ∧ w17.heap.size ≤ w'.heap.size ∧ Blk w' b1 ([o1, .int .i64 g.workers, .int .i64 g.cap]) ∧ Blk w' b2 (Enc.enc r) ∧ Own w' b3 w4.heap.size 4 v1 ([] ++ List.flatMap (Enc.enc (α := Cell)) cs) ∧ Own w' w5.heap.size w6.heap.size 1 o2 (List.flatMap (Enc.enc (α := Int)) (((nodeOf g r.op).1).outs)) ∧ Blk w' b5 [.int .i64 (((nodeOf g r.op).1).kind), .int .i64 (((nodeOf g r.op).1).a), .int .i64 (((nodeOf g r.op).1).b), o2] ∧ Own w' w14.heap.size w15.heap.size 4 v2 (List.flatMap (Enc.enc (α := Cell)) ((recallM (((nodeOf g r.op).1).kind) cs (⟨r.op, r.stamp.epoch, r.key, r.val⟩ : Cell)).1)) ∧ Blk w' b6 [.int .i64 r.stamp.epoch, .int .i64 r.stamp.turn] ∧ k ≤ ((nodeOf g r.op).1).outs.length ∧ Own w' b4 w'.heap.size 5 vo (List.flatMap (Enc.enc (α := Record)) (stOut g r k)) ∧ (∀ g, Value.ownBlock vo = some g → g = b4 ∨ w17.heap.size ≤ g)) (fun (xq : Nat × Value) => let ⟨k, vo⟩ := xq; ((nodeOf g r.op).1).outs.length - k) (0, .slice (some ⟨b4, 0, none⟩) 0 0) ⟨rfl, rfl, rfl, rfl, rfl, rfl, rfl, rfl, rfl, rfl, trivial⟩ ⟨E, Nat.le_refl _, h1, h2, ho1, hw1, h5, ho5, h6, Nat.zero_le _, Own.fin (Own.ofBlk (lo := b4) (hi := b4 + 1) (sz := 5) h4 (Nat.le_refl _) (Nat.lt_succ_self _) (by simp) (by simp [maxLen])) (by omega) (by omega) out_zero.symm, (fun g hg => .inl (by cases hg; rfl))⟩ ?_
            clear E h1 h2 ho1 h4 hw1 h5 ho5 h6
            rintro ⟨k, vo⟩ w26 ⟨E, z25, h1, h2, ho1, hw1, h5, ho5, h6, hk, hvo, hvn⟩
            refine S_sub [(6, .slice none 0 0), (7, .slice none 0 0), (8, .bool false), (9, v2), (10, vo), (11, .pointer (some ⟨b5, 0, none⟩)), (13, .int .i64 ((changedM ((nodeOf g r.op).1) r.key r.val).1)), (14, .int .i64 ((changedM ((nodeOf g r.op).1) r.key r.val).2.1)), (18, .pointer (some ⟨b6, 0, none⟩)), (21, .int .i64 ((k : Nat) : Int))] ⟨rfl, rfl, rfl, rfl, rfl, rfl, rfl, rfl, rfl, rfl, trivial⟩ ?_
            refine S_seq ?_
            refine S_seq ?_
            refine S_reg [true, true, true, true, true] rfl rfl ?_
            refine J_st (R_move rfl) rfl (J_st (R_fieldAddr0 fl74_3 rfl) rfl (J_st (R_load sc71 rfl (h5.one 3 rfl)) rfl (J_st (R_len Try.underlying71 rfl (Own.len (by decide) hw1)) rfl (J_st (R_lss rfl rfl) rfl (J_done ?_)))))
            refine S_cond rfl (fun hc8 => ?_) (fun hc8 => ?_)
            · have hc8n : k < (((nodeOf g r.op).1).outs).length := by first | (have h := of_decide_eq_true hc8; omega) | (have h := hc8; simp at h; omega)
              refine S_skip ?_
              refine S_seq ?_
              refine S_block ?_
              refine S_regX mixed [11] [(0, true), (1, true), (2, true), (3, true), (4, true), (5, true), (6, true), (7, true), (8, true), (9, true), (10, false)] [(11, false), (12, true)] (by decide +kernel) rfl rfl (fun w27 e17 => ?_)
              replace E := E.trans e17; replace h1 := h1.ext e17; replace h2 := h2.ext e17; replace ho1 := ho1.ext e17; replace hw1 := hw1.ext e17; replace h5 := h5.ext e17; replace ho5 := ho5.ext e17; replace h6 := h6.ext e17; replace hvo := hvo.ext e17
              have z26 := e17.size
              refine J_st (R_move rfl) rfl (J_st (R_fieldAddr0 fl74_3 rfl) rfl (J_st (R_load sc71 rfl (h5.one 3 rfl)) rfl (J_st (R_move rfl) rfl ?_)))
              have hi2 : k < (((nodeOf g r.op).1).outs).length := (by first | assumption | omega)
              refine J_st (R_index (i := k) sl71 rfl rfl (Own.rd (by decide) hw1) hi2) rfl (J_st (R_load sc3 rfl (((Own.rd (by decide) hw1).get hi2).one 0 rfl)) rfl (J_st (R_loadS st52 rfl h6.at rfl) rfl (J_st (R_move rfl) rfl (J_st (R_move rfl) rfl (J_st (R_build (⟨((((nodeOf g r.op).1).outs)[k]'hi2), r.stamp, (changedM ((nodeOf g r.op).1) r.key r.val).1, (changedM ((nodeOf g r.op).1) r.key r.val).2.1⟩ : Record) rfl (fun _ => by kernel_rfl)) rfl ?_)))))
              refine J_buildSlice (vs := [.agg (Enc.enc (⟨((((nodeOf g r.op).1).outs)[k]'hi2), r.stamp, (changedM ((nodeOf g r.op).1) r.key r.val).1, (changedM ((nodeOf g r.op).1) r.key r.val).2.1⟩ : Record)).toArray]) (css := [[.int .i64 ((⟨((((nodeOf g r.op).1).outs)[k]'hi2), r.stamp, (changedM ((nodeOf g r.op).1) r.key r.val).1, (changedM ((nodeOf g r.op).1) r.key r.val).2.1⟩ : Record).op), .int .i64 (((⟨((((nodeOf g r.op).1).outs)[k]'hi2), r.stamp, (changedM ((nodeOf g r.op).1) r.key r.val).1, (changedM ((nodeOf g r.op).1) r.key r.val).2.1⟩ : Record).stamp).epoch), .int .i64 (((⟨((((nodeOf g r.op).1).outs)[k]'hi2), r.stamp, (changedM ((nodeOf g r.op).1) r.key r.val).1, (changedM ((nodeOf g r.op).1) r.key r.val).2.1⟩ : Record).stamp).turn), .int .i64 ((⟨((((nodeOf g r.op).1).outs)[k]'hi2), r.stamp, (changedM ((nodeOf g r.op).1) r.key r.val).1, (changedM ((nodeOf g r.op).1) r.key r.val).2.1⟩ : Record).key), .int .i64 ((⟨((((nodeOf g r.op).1).outs)[k]'hi2), r.stamp, (changedM ((nodeOf g r.op).1) r.key r.val).1, (changedM ((nodeOf g r.op).1) r.key r.val).2.1⟩ : Record).val)]]) sl31 rfl rfl ⟨⟨rfl, rfl⟩, trivial⟩ rfl rfl (fun b9 w28 e18 s9 h9 => ?_)
              replace h9 : Blk w28 b9 [.int .i64 ((⟨((((nodeOf g r.op).1).outs)[k]'hi2), r.stamp, (changedM ((nodeOf g r.op).1) r.key r.val).1, (changedM ((nodeOf g r.op).1) r.key r.val).2.1⟩ : Record).op), .int .i64 (((⟨((((nodeOf g r.op).1).outs)[k]'hi2), r.stamp, (changedM ((nodeOf g r.op).1) r.key r.val).1, (changedM ((nodeOf g r.op).1) r.key r.val).2.1⟩ : Record).stamp).epoch), .int .i64 (((⟨((((nodeOf g r.op).1).outs)[k]'hi2), r.stamp, (changedM ((nodeOf g r.op).1) r.key r.val).1, (changedM ((nodeOf g r.op).1) r.key r.val).2.1⟩ : Record).stamp).turn), .int .i64 ((⟨((((nodeOf g r.op).1).outs)[k]'hi2), r.stamp, (changedM ((nodeOf g r.op).1) r.key r.val).1, (changedM ((nodeOf g r.op).1) r.key r.val).2.1⟩ : Record).key), .int .i64 ((⟨((((nodeOf g r.op).1).outs)[k]'hi2), r.stamp, (changedM ((nodeOf g r.op).1) r.key r.val).1, (changedM ((nodeOf g r.op).1) r.key r.val).2.1⟩ : Record).val)] := h9
              have g_b9 : w.heap.size ≤ b9 := by have := E.size; omega
              have y_b9 := h9.lt
              replace E := E.trans e18; replace h1 := h1.ext e18; replace h2 := h2.ext e18; replace ho1 := ho1.ext e18; replace hw1 := hw1.ext e18; replace h5 := h5.ext e18; replace ho5 := ho5.ext e18; replace h6 := h6.ext e18; replace hvo := hvo.ext e18
              have z27 := e18.size
              refine JX_tail ?_
              refine J2_X rfl ?_
              refine J_appendB sl31 rfl rfl hvo (Src.ofBlk h9 rfl) rfl (by first | (simp only [sum_flat, List.length_nil, List.length_cons]; simp only [Enc.sz]; omega) | (have h := out_len g r k; rw [sum_flat]; simp only [show Enc.sz Record = 5 from rfl, List.length_cons, List.length_nil]; omega)) (by decide) (by omega) (by omega) rfl rfl (fun v4 w29 m7 ho7 hb2 => ?_)
              have hn2 : ∀ g, Value.ownBlock v4 = some g → g = b4 ∨ w17.heap.size ≤ g := fun g hg => (hb2 g hg).elim (fun h => hvn g h) (fun h => by omega)
              replace E := E.step m7 (fun g hg => by have := Own.blk hvo g hg; have := hvn g hg; omega); replace h1 := h1.mod m7 (fun g hg => by have := Own.blk hvo g hg; have := hvn g hg; omega); replace h2 := h2.mod m7 (fun g hg => by have := Own.blk hvo g hg; have := hvn g hg; omega); replace ho1 := ho1.mod m7 (fun g hg => by have := Own.blk hvo g hg; have := hvn g hg; omega); replace hw1 := hw1.mod m7 (fun g hg => by have := Own.blk hvo g hg; have := hvn g hg; omega); replace h5 := h5.mod m7 (fun g hg => by have := Own.blk hvo g hg; have := hvn g hg; omega); replace ho5 := ho5.mod m7 (fun g hg => by have := Own.blk hvo g hg; have := hvn g hg; omega); replace h6 := h6.mod m7 (fun g hg => by have := Own.blk hvo g hg; have := hvn g hg; omega)
              have z28 := m7.size
              refine JX_go ?_
              refine J_st (R_assign rfl) rfl (J_done ?_)
              refine S_nil (E_inB ?_)
              refine S_reg [true, true, true] rfl rfl ?_
              refine J_st (R_move rfl) rfl (J_st (R_add rfl rfl (add_one hc8n (Own.rd (by decide) hw1).1)) rfl (J_st (R_assign rfl) rfl (J_done ?_)))
              refine S_nil (E_again (k + 1, v4) (by dsimp only; omega) ⟨rfl, rfl, rfl, rfl, rfl, rfl, rfl, rfl, rfl, rfl, trivial⟩ ⟨E, (by omega), h1, h2, ho1, hw1, h5, ho5, h6, (by omega), Own.fin ho7 (Nat.le_refl _) (by omega) (out_step (by rw [hstm]) (by rw [hstm]) hx (by omega)), hn2⟩)
            · have hc8n : ¬ k < (((nodeOf g r.op).1).outs).length := by first | (have h := of_decide_eq_false hc8; omega) | (have h := hc8; simp at h; omega)
              refine S_exit (E_lp_exit (E_inB_exit ?_))
              refine S_seq ?_
              refine S_reg [true, true, true, true, true] rfl rfl ?_
              refine J_st (R_move rfl) rfl (J_st (R_move rfl) rfl (J_st (R_assign rfl) rfl (J_st (R_assign rfl) rfl (J_st (R_assign rfl) rfl (J_done ?_)))))
              refine S_ret (E_doneN (l := [.tmp 6, .tmp 7, .tmp 8]) (vs := [v2, vo, .bool true]) rfl ⟨.tmp rfl, .tmp rfl, .tmp rfl, trivial⟩ rfl E ?_)
              rw [st_3 hc1 hx hc2 hc4]
              exact ⟨_, _, rfl, Own.fin ho5 (by omega) (by omega) (by first | rfl | (simp only [List.nil_append]; done)), Own.fin hvo (by omega) (by omega) (by rw [show ((nodeOf g r.op).1).outs.length = k from by omega]), ⟨⟨(fun g hg he => by have := Own.blk ho5 g hg; have := Own.blk hvo g he; have := hvn g he; omega), trivial⟩, ⟨trivial, trivial⟩⟩⟩
      · refine S_skip ?_
        refine S_seq ?_
        refine S_reg [true, true, false, false] rfl rfl ?_
        refine J_st (R_fieldAddr0 fl54_1 rfl) rfl (J_st (R_loadS st52 rfl (h2.part 1 [.int .i64 r.stamp.epoch, .int .i64 r.stamp.turn] rfl) rfl) rfl ?_)
        refine J_alloc st52 rfl (fun b10 w30 e19 s10 h10 => ?_)
        have g_b10 : w.heap.size ≤ b10 := by have := E.size; omega
        have y_b10 := h10.lt
        replace E := E.trans e19; replace h1 := h1.ext e19; replace h2 := h2.ext e19; replace ho1 := ho1.ext e19; replace h4 := h4.ext e19; replace hw1 := hw1.ext e19; replace h5 := h5.ext e19
        have z29 := e19.size
        refine J_storeS' (cs' := [.int .i64 r.stamp.epoch, .int .i64 r.stamp.turn]) st52 rfl rfl rfl rfl h10 (Nat.le_of_ble_eq_true rfl) rfl (fun w31 m8 h10' => ?_)
        replace h10 := h10'
        replace E := E.step m8 (fun g hg => by cases hg; omega); replace h1 := h1.mod m8 (fun g hg => by cases hg; omega); replace h2 := h2.mod m8 (fun g hg => by cases hg; omega); replace ho1 := ho1.mod m8 (fun g hg => by cases hg; omega); replace h4 := h4.mod m8 (fun g hg => by cases hg; omega); replace hw1 := hw1.mod m8 (fun g hg => by cases hg; omega); replace h5 := h5.mod m8 (fun g hg => by cases hg; omega)
        have z30 := m8.size
        refine J_done ?_
        refine S_seq ?_
        refine S_seq ?_
        refine S_reg [true, true, true] rfl rfl ?_
        refine J_st (R_fieldAddr0 fl74_0 rfl) rfl (J_st (R_load sc3 rfl (h5.one 0 rfl)) rfl (J_st (R_eql rfl rfl) rfl (J_done ?_)))
        refine S_cond rfl (fun hc9 => ?_) (fun hc9 => ?_)
        · have hstm := stamp_7 hx hc9
          refine S_seq ?_
          refine S_reg [true, false, true, true, true, false, false, true] rfl rfl ?_
          refine J_st (R_loadS st52 rfl h10.at rfl) rfl ?_
          refine J_call Try.call41 rfl (s_NextTurn r.stamp _ ) rfl (fun _ w32 e20 hv => ?_)
          subst hv
          replace E := E.trans e20; replace h1 := h1.ext e20; replace h2 := h2.ext e20; replace ho1 := ho1.ext e20; replace h4 := h4.ext e20; replace hw1 := hw1.ext e20; replace h5 := h5.ext e20; replace h10 := h10.ext e20
          have z31 := e20.size
          refine J_st (R_move rfl) rfl (J_st (R_extract rfl rfl) rfl (J_st (R_extract rfl rfl) rfl ?_))
          refine J_alloc st52 rfl (fun b11 w33 e21 s11 h11 => ?_)
          have g_b11 : w.heap.size ≤ b11 := by have := E.size; omega
          have y_b11 := h11.lt
          replace E := E.trans e21; replace h1 := h1.ext e21; replace h2 := h2.ext e21; replace ho1 := ho1.ext e21; replace h4 := h4.ext e21; replace hw1 := hw1.ext e21; replace h5 := h5.ext e21; replace h10 := h10.ext e21
          have z32 := e21.size
          refine J_storeS' (cs' := [.int .i64 (((nextT r.stamp).1).epoch), .int .i64 (((nextT r.stamp).1).turn)]) st52 rfl rfl rfl rfl h11 (Nat.le_of_ble_eq_true rfl) rfl (fun w34 m9 h11' => ?_)
          replace h11 := h11'
          replace E := E.step m9 (fun g hg => by cases hg; omega); replace h1 := h1.mod m9 (fun g hg => by cases hg; omega); replace h2 := h2.mod m9 (fun g hg => by cases hg; omega); replace ho1 := ho1.mod m9 (fun g hg => by cases hg; omega); replace h4 := h4.mod m9 (fun g hg => by cases hg; omega); replace hw1 := hw1.mod m9 (fun g hg => by cases hg; omega); replace h5 := h5.mod m9 (fun g hg => by cases hg; omega); replace h10 := h10.mod m9 (fun g hg => by cases hg; omega)
          have z33 := m9.size
          refine J_st (R_assign rfl) rfl (J_done ?_)
          refine S_seq ?_
          refine S_seq ?_
          refine S_reg [true, true] rfl rfl ?_
          refine J_st (R_move rfl) rfl (J_st (R_not rfl) rfl (J_done ?_))
          refine S_cond rfl (fun hc10 => ?_) (fun hc10 => ?_)
          · refine S_seq ?_
            refine S_reg [true, true, true, true, true] rfl rfl ?_
            refine J_st (R_move rfl) rfl (J_st (R_move rfl) rfl (J_st (R_assign rfl) rfl (J_st (R_assign rfl) rfl (J_st (R_assign rfl) rfl (J_done ?_)))))
            refine S_ret (E_doneN (l := [.tmp 6, .tmp 7, .tmp 8]) (vs := [v1, .slice (some ⟨b4, 0, none⟩) 0 0, .bool true]) rfl ⟨.tmp rfl, .tmp rfl, .tmp rfl, trivial⟩ rfl E ?_)
            rw [st_3 hc1 hx hc2 (by rw [rec_no hc3]; rfl), rec_no hc3, out_no (by rw [hstm]; exact not_t hc10)]
            exact ⟨_, _, rfl, Own.fin ho1 (by omega) (by omega) (by first | rfl | (simp only [List.nil_append]; done)), Own.fin (Own.ofBlk (lo := b4) (hi := b4 + 1) (sz := 5) h4 (Nat.le_refl _) (Nat.lt_succ_self _) (by rfl) (by unfold maxLen; omega)) (by omega) (by omega) (by first | rfl | (simp only [List.nil_append]; done)), ⟨⟨(Own.sep ho1 (Own.ofBlk (lo := b4) (hi := b4 + 1) (sz := 5) h4 (Nat.le_refl _) (Nat.lt_succ_self _) (by rfl) (by unfold maxLen; omega)) (by omega)), trivial⟩, ⟨trivial, trivial⟩⟩⟩
          · refine S_skip ?_
            refine S_reg [true, false] rfl rfl ?_
            refine J_st (R_loadS st52 rfl h11.at rfl) rfl ?_
            refine J_storeS' (cs' := [.int .i64 (((nextT r.stamp).1).epoch), .int .i64 (((nextT r.stamp).1).turn)]) st52 rfl rfl rfl rfl h10 (Nat.le_of_ble_eq_true rfl) rfl (fun w35 m10 h10' => ?_)
            replace h10 := h10'
            replace E := E.step m10 (fun g hg => by cases hg; omega); replace h1 := h1.mod m10 (fun g hg => by cases hg; omega); replace h2 := h2.mod m10 (fun g hg => by cases hg; omega); replace ho1 := ho1.mod m10 (fun g hg => by cases hg; omega); replace h4 := h4.mod m10 (fun g hg => by cases hg; omega); replace hw1 := hw1.mod m10 (fun g hg => by cases hg; omega); replace h5 := h5.mod m10 (fun g hg => by cases hg; omega); replace h11 := h11.mod m10 (fun g hg => by cases hg; omega)
            have z34 := m10.size
            refine J_done ?_
            refine S_seq ?_
            refine S_seq ?_
            refine S_reg [true] rfl rfl ?_
            refine J_st (R_assign rfl) rfl (J_done ?_)
            refine S_block ?_
            refine S_loop (fun (xq : Nat × Value) => let ⟨k, vo⟩ := xq; [(6, .slice none 0 0), (7, .slice none 0 0), (8, .bool false), (9, v1), (10, vo), (11, .pointer (some ⟨b5, 0, none⟩)), (13, .int .i64 ((changedM ((nodeOf g r.op).1) r.key r.val).1)), (14, .int .i64 ((changedM ((nodeOf g r.op).1) r.key r.val).2.1)), (18, .pointer (some ⟨b10, 0, none⟩)), (21, .int .i64 ((k : Nat) : Int))]) (fun (xq : Nat × Value) w' => let ⟨k, vo⟩ := xq; Ext w w' ∧ w35.heap.size ≤ w'.heap.size ∧ Blk w' b1 ([o1, .int .i64 g.workers, .int .i64 g.cap]) ∧ Blk w' b2 (Enc.enc r) ∧ Own w' b3 w4.heap.size 4 v1 ([] ++ List.flatMap (Enc.enc (α := Cell)) cs) ∧ Own w' w5.heap.size w6.heap.size 1 o2 (List.flatMap (Enc.enc (α := Int)) (((nodeOf g r.op).1).outs)) ∧ Blk w' b5 [.int .i64 (((nodeOf g r.op).1).kind), .int .i64 (((nodeOf g r.op).1).a), .int .i64 (((nodeOf g r.op).1).b), o2] ∧ Blk w' b10 [.int .i64 (((nextT r.stamp).1).epoch), .int .i64 (((nextT r.stamp).1).turn)] ∧ Blk w' b11 [.int .i64 (((nextT r.stamp).1).epoch), .int .i64 (((nextT r.stamp).1).turn)] ∧ k ≤ ((nodeOf g r.op).1).outs.length ∧ Own w' b4 w'.heap.size 5 vo (List.flatMap (Enc.enc (α := Record)) (stOut g r k)) ∧ (∀ g, Value.ownBlock vo = some g → g = b4 ∨ w35.heap.size ≤ g)) (fun (xq : Nat × Value) => let ⟨k, vo⟩ := xq; ((nodeOf g r.op).1).outs.length - k) (0, .slice (some ⟨b4, 0, none⟩) 0 0) ⟨rfl, rfl, rfl, rfl, rfl, rfl, rfl, rfl, rfl, rfl, trivial⟩ ⟨E, Nat.le_refl _, h1, h2, ho1, hw1, h5, h10, h11, Nat.zero_le _, Own.fin (Own.ofBlk (lo := b4) (hi := b4 + 1) (sz := 5) h4 (Nat.le_refl _) (Nat.lt_succ_self _) (by simp) (by simp [maxLen])) (by omega) (by omega) out_zero.symm, (fun g hg => .inl (by cases hg; rfl))⟩ ?_
            clear E h1 h2 ho1 h4 hw1 h5 h10 h11
            rintro ⟨k, vo⟩ w36 ⟨E, z35, h1, h2, ho1, hw1, h5, h10, h11, hk, hvo, hvn⟩
            refine S_sub [(6, .slice none 0 0), (7, .slice none 0 0), (8, .bool false), (9, v1), (10, vo), (11, .pointer (some ⟨b5, 0, none⟩)), (13, .int .i64 ((changedM ((nodeOf g r.op).1) r.key r.val).1)), (14, .int .i64 ((changedM ((nodeOf g r.op).1) r.key r.val).2.1)), (18, .pointer (some ⟨b10, 0, none⟩)), (21, .int .i64 ((k : Nat) : Int))] ⟨rfl, rfl, rfl, rfl, rfl, rfl, rfl, rfl, rfl, rfl, trivial⟩ ?_
            refine S_seq ?_
            refine S_seq ?_
            refine S_reg [true, true, true, true, true] rfl rfl ?_
            refine J_st (R_move rfl) rfl (J_st (R_fieldAddr0 fl74_3 rfl) rfl (J_st (R_load sc71 rfl (h5.one 3 rfl)) rfl (J_st (R_len Try.underlying71 rfl (Own.len (by decide) hw1)) rfl (J_st (R_lss rfl rfl) rfl (J_done ?_)))))
            refine S_cond rfl (fun hc11 => ?_) (fun hc11 => ?_)
            · have hc11n : k < (((nodeOf g r.op).1).outs).length := by first | (have h := of_decide_eq_true hc11; omega) | (have h := hc11; simp at h; omega)
              refine S_skip ?_
              refine S_seq ?_
              refine S_block ?_
              refine S_regX mixed [11] [(0, true), (1, true), (2, true), (3, true), (4, true), (5, true), (6, true), (7, true), (8, true), (9, true), (10, false)] [(11, false), (12, true)] (by decide +kernel) rfl rfl (fun w37 e22 => ?_)
              replace E := E.trans e22; replace h1 := h1.ext e22; replace h2 := h2.ext e22; replace ho1 := ho1.ext e22; replace hw1 := hw1.ext e22; replace h5 := h5.ext e22; replace h10 := h10.ext e22; replace h11 := h11.ext e22; replace hvo := hvo.ext e22
              have z36 := e22.size
              refine J_st (R_move rfl) rfl (J_st (R_fieldAddr0 fl74_3 rfl) rfl (J_st (R_load sc71 rfl (h5.one 3 rfl)) rfl (J_st (R_move rfl) rfl ?_)))
              have hi3 : k < (((nodeOf g r.op).1).outs).length := (by first | assumption | omega)
              refine J_st (R_index (i := k) sl71 rfl rfl (Own.rd (by decide) hw1) hi3) rfl (J_st (R_load sc3 rfl (((Own.rd (by decide) hw1).get hi3).one 0 rfl)) rfl (J_st (R_loadS st52 rfl h10.at rfl) rfl (J_st (R_move rfl) rfl (J_st (R_move rfl) rfl (J_st (R_build (⟨((((nodeOf g r.op).1).outs)[k]'hi3), ((nextT r.stamp).1), (changedM ((nodeOf g r.op).1) r.key r.val).1, (changedM ((nodeOf g r.op).1) r.key r.val).2.1⟩ : Record) rfl (fun _ => by kernel_rfl)) rfl ?_)))))
              refine J_buildSlice (vs := [.agg (Enc.enc (⟨((((nodeOf g r.op).1).outs)[k]'hi3), ((nextT r.stamp).1), (changedM ((nodeOf g r.op).1) r.key r.val).1, (changedM ((nodeOf g r.op).1) r.key r.val).2.1⟩ : Record)).toArray]) (css := [[.int .i64 ((⟨((((nodeOf g r.op).1).outs)[k]'hi3), ((nextT r.stamp).1), (changedM ((nodeOf g r.op).1) r.key r.val).1, (changedM ((nodeOf g r.op).1) r.key r.val).2.1⟩ : Record).op), .int .i64 (((⟨((((nodeOf g r.op).1).outs)[k]'hi3), ((nextT r.stamp).1), (changedM ((nodeOf g r.op).1) r.key r.val).1, (changedM ((nodeOf g r.op).1) r.key r.val).2.1⟩ : Record).stamp).epoch), .int .i64 (((⟨((((nodeOf g r.op).1).outs)[k]'hi3), ((nextT r.stamp).1), (changedM ((nodeOf g r.op).1) r.key r.val).1, (changedM ((nodeOf g r.op).1) r.key r.val).2.1⟩ : Record).stamp).turn), .int .i64 ((⟨((((nodeOf g r.op).1).outs)[k]'hi3), ((nextT r.stamp).1), (changedM ((nodeOf g r.op).1) r.key r.val).1, (changedM ((nodeOf g r.op).1) r.key r.val).2.1⟩ : Record).key), .int .i64 ((⟨((((nodeOf g r.op).1).outs)[k]'hi3), ((nextT r.stamp).1), (changedM ((nodeOf g r.op).1) r.key r.val).1, (changedM ((nodeOf g r.op).1) r.key r.val).2.1⟩ : Record).val)]]) sl31 rfl rfl ⟨⟨rfl, rfl⟩, trivial⟩ rfl rfl (fun b12 w38 e23 s12 h12 => ?_)
              replace h12 : Blk w38 b12 [.int .i64 ((⟨((((nodeOf g r.op).1).outs)[k]'hi3), ((nextT r.stamp).1), (changedM ((nodeOf g r.op).1) r.key r.val).1, (changedM ((nodeOf g r.op).1) r.key r.val).2.1⟩ : Record).op), .int .i64 (((⟨((((nodeOf g r.op).1).outs)[k]'hi3), ((nextT r.stamp).1), (changedM ((nodeOf g r.op).1) r.key r.val).1, (changedM ((nodeOf g r.op).1) r.key r.val).2.1⟩ : Record).stamp).epoch), .int .i64 (((⟨((((nodeOf g r.op).1).outs)[k]'hi3), ((nextT r.stamp).1), (changedM ((nodeOf g r.op).1) r.key r.val).1, (changedM ((nodeOf g r.op).1) r.key r.val).2.1⟩ : Record).stamp).turn), .int .i64 ((⟨((((nodeOf g r.op).1).outs)[k]'hi3), ((nextT r.stamp).1), (changedM ((nodeOf g r.op).1) r.key r.val).1, (changedM ((nodeOf g r.op).1) r.key r.val).2.1⟩ : Record).key), .int .i64 ((⟨((((nodeOf g r.op).1).outs)[k]'hi3), ((nextT r.stamp).1), (changedM ((nodeOf g r.op).1) r.key r.val).1, (changedM ((nodeOf g r.op).1) r.key r.val).2.1⟩ : Record).val)] := h12
              have g_b12 : w.heap.size ≤ b12 := by have := E.size; omega
              have y_b12 := h12.lt
              replace E := E.trans e23; replace h1 := h1.ext e23; replace h2 := h2.ext e23; replace ho1 := ho1.ext e23; replace hw1 := hw1.ext e23; replace h5 := h5.ext e23; replace h10 := h10.ext e23; replace h11 := h11.ext e23; replace hvo := hvo.ext e23
              have z37 := e23.size
              refine JX_tail ?_
              refine J2_X rfl ?_
              refine J_appendB sl31 rfl rfl hvo (Src.ofBlk h12 rfl) rfl (by first | (simp only [sum_flat, List.length_nil, List.length_cons]; simp only [Enc.sz]; omega) | (have h := out_len g r k; rw [sum_flat]; simp only [show Enc.sz Record = 5 from rfl, List.length_cons, List.length_nil]; omega)) (by decide) (by omega) (by omega) rfl rfl (fun v5 w39 m11 ho8 hb3 => ?_)
              have hn3 : ∀ g, Value.ownBlock v5 = some g → g = b4 ∨ w35.heap.size ≤ g := fun g hg => (hb3 g hg).elim (fun h => hvn g h) (fun h => by omega)
              replace E := E.step m11 (fun g hg => by have := Own.blk hvo g hg; have := hvn g hg; omega); replace h1 := h1.mod m11 (fun g hg => by have := Own.blk hvo g hg; have := hvn g hg; omega); replace h2 := h2.mod m11 (fun g hg => by have := Own.blk hvo g hg; have := hvn g hg; omega); replace ho1 := ho1.mod m11 (fun g hg => by have := Own.blk hvo g hg; have := hvn g hg; omega); replace hw1 := hw1.mod m11 (fun g hg => by have := Own.blk hvo g hg; have := hvn g hg; omega); replace h5 := h5.mod m11 (fun g hg => by have := Own.blk hvo g hg; have := hvn g hg; omega); replace h10 := h10.mod m11 (fun g hg => by have := Own.blk hvo g hg; have := hvn g hg; omega); replace h11 := h11.mod m11 (fun g hg => by have := Own.blk hvo g hg; have := hvn g hg; omega)
              have z38 := m11.size
              refine JX_go ?_
              refine J_st (R_assign rfl) rfl (J_done ?_)
              refine S_nil (E_inB ?_)
              refine S_reg [true, true, true] rfl rfl ?_
              refine J_st (R_move rfl) rfl (J_st (R_add rfl rfl (add_one hc11n (Own.rd (by decide) hw1).1)) rfl (J_st (R_assign rfl) rfl (J_done ?_)))
              refine S_nil (E_again (k + 1, v5) (by dsimp only; omega) ⟨rfl, rfl, rfl, rfl, rfl, rfl, rfl, rfl, rfl, rfl, trivial⟩ ⟨E, (by omega), h1, h2, ho1, hw1, h5, h10, h11, (by omega), Own.fin ho8 (Nat.le_refl _) (by omega) (out_step (by rw [hstm]) (by rw [hstm]; exact not_f hc10) hx (by omega)), hn3⟩)
            · have hc11n : ¬ k < (((nodeOf g r.op).1).outs).length := by first | (have h := of_decide_eq_false hc11; omega) | (have h := hc11; simp at h; omega)
              refine S_exit (E_lp_exit (E_inB_exit ?_))
              refine S_seq ?_
              refine S_reg [true, true, true, true, true] rfl rfl ?_
              refine J_st (R_move rfl) rfl (J_st (R_move rfl) rfl (J_st (R_assign rfl) rfl (J_st (R_assign rfl) rfl (J_st (R_assign rfl) rfl (J_done ?_)))))
              refine S_ret (E_doneN (l := [.tmp 6, .tmp 7, .tmp 8]) (vs := [v1, vo, .bool true]) rfl ⟨.tmp rfl, .tmp rfl, .tmp rfl, trivial⟩ rfl E ?_)
              rw [st_3 hc1 hx hc2 (by rw [rec_no hc3]; rfl), rec_no hc3]
              exact ⟨_, _, rfl, Own.fin ho1 (by omega) (by omega) (by first | rfl | (simp only [List.nil_append]; done)), Own.fin hvo (by omega) (by omega) (by rw [show ((nodeOf g r.op).1).outs.length = k from by omega]), ⟨⟨(fun g hg he => by have := Own.blk ho1 g hg; have := Own.blk hvo g he; have := hvn g he; omega), trivial⟩, ⟨trivial, trivial⟩⟩⟩
        · have hstm := stamp_o hx hc9
          refine S_skip ?_
          refine S_seq ?_
          refine S_seq ?_
          refine S_reg [true] rfl rfl ?_
          refine J_st (R_assign rfl) rfl (J_done ?_)
          refine S_block ?_
          refine S_loop (fun (xq : Nat × Value) => let ⟨k, vo⟩ := xq; [(6, .slice none 0 0), (7, .slice none 0 0), (8, .bool false), (9, v1), (10, vo), (11, .pointer (some ⟨b5, 0, none⟩)), (13, .int .i64 ((changedM ((nodeOf g r.op).1) r.key r.val).1)), (14, .int .i64 ((changedM ((nodeOf g r.op).1) r.key r.val).2.1)), (18, .pointer (some ⟨b10, 0, none⟩)), (21, .int .i64 ((k : Nat) : Int))]) (fun (xq : Nat × Value) w' => let ⟨k, vo⟩ := xq; Ext w w' ∧ w31.heap.size ≤ w'.heap.size ∧ Blk w' b1 ([o1, .int .i64 g.workers, .int .i64 g.cap]) ∧ Blk w' b2 (Enc.enc r) ∧ Own w' b3 w4.heap.size 4 v1 ([] ++ List.flatMap (Enc.enc (α := Cell)) cs) ∧ Own w' w5.heap.size w6.heap.size 1 o2 (List.flatMap (Enc.enc (α := Int)) (((nodeOf g r.op).1).outs)) ∧ Blk w' b5 [.int .i64 (((nodeOf g r.op).1).kind), .int .i64 (((nodeOf g r.op).1).a), .int .i64 (((nodeOf g r.op).1).b), o2] ∧ Blk w' b10 [.int .i64 r.stamp.epoch, .int .i64 r.stamp.turn] ∧ k ≤ ((nodeOf g r.op).1).outs.length ∧ Own w' b4 w'.heap.size 5 vo (List.flatMap (Enc.enc (α := Record)) (stOut g r k)) ∧ (∀ g, Value.ownBlock vo = some g → g = b4 ∨ w31.heap.size ≤ g)) (fun (xq : Nat × Value) => let ⟨k, vo⟩ := xq; ((nodeOf g r.op).1).outs.length - k) (0, .slice (some ⟨b4, 0, none⟩) 0 0) ⟨rfl, rfl, rfl, rfl, rfl, rfl, rfl, rfl, rfl, rfl, trivial⟩ ⟨E, Nat.le_refl _, h1, h2, ho1, hw1, h5, h10, Nat.zero_le _, Own.fin (Own.ofBlk (lo := b4) (hi := b4 + 1) (sz := 5) h4 (Nat.le_refl _) (Nat.lt_succ_self _) (by simp) (by simp [maxLen])) (by omega) (by omega) out_zero.symm, (fun g hg => .inl (by cases hg; rfl))⟩ ?_
          clear E h1 h2 ho1 h4 hw1 h5 h10
          rintro ⟨k, vo⟩ w40 ⟨E, z39, h1, h2, ho1, hw1, h5, h10, hk, hvo, hvn⟩
          refine S_sub [(6, .slice none 0 0), (7, .slice none 0 0), (8, .bool false), (9, v1), (10, vo), (11, .pointer (some ⟨b5, 0, none⟩)), (13, .int .i64 ((changedM ((nodeOf g r.op).1) r.key r.val).1)), (14, .int .i64 ((changedM ((nodeOf g r.op).1) r.key r.val).2.1)), (18, .pointer (some ⟨b10, 0, none⟩)), (21, .int .i64 ((k : Nat) : Int))] ⟨rfl, rfl, rfl, rfl, rfl, rfl, rfl, rfl, rfl, rfl, trivial⟩ ?_
          refine S_seq ?_
          refine S_seq ?_
          refine S_reg [true, true, true, true, true] rfl rfl ?_
          refine J_st (R_move rfl) rfl (J_st (R_fieldAddr0 fl74_3 rfl) rfl (J_st (R_load sc71 rfl (h5.one 3 rfl)) rfl (J_st (R_len Try.underlying71 rfl (Own.len (by decide) hw1)) rfl (J_st (R_lss rfl rfl) rfl (J_done ?_)))))
          refine S_cond rfl (fun hc12 => ?_) (fun hc12 => ?_)
          · have hc12n : k < (((nodeOf g r.op).1).outs).length := by first | (have h := of_decide_eq_true hc12; omega) | (have h := hc12; simp at h; omega)
            refine S_skip ?_
            refine S_seq ?_
            refine S_block ?_
            refine S_regX mixed [11] [(0, true), (1, true), (2, true), (3, true), (4, true), (5, true), (6, true), (7, true), (8, true), (9, true), (10, false)] [(11, false), (12, true)] (by decide +kernel) rfl rfl (fun w41 e24 => ?_)
            replace E := E.trans e24; replace h1 := h1.ext e24; replace h2 := h2.ext e24; replace ho1 := ho1.ext e24; replace hw1 := hw1.ext e24; replace h5 := h5.ext e24; replace h10 := h10.ext e24; replace hvo := hvo.ext e24
            have z40 := e24.size
            refine J_st (R_move rfl) rfl (J_st (R_fieldAddr0 fl74_3 rfl) rfl (J_st (R_load sc71 rfl (h5.one 3 rfl)) rfl (J_st (R_move rfl) rfl ?_)))
            have hi4 : k < (((nodeOf g r.op).1).outs).length := (by first | assumption | omega)
            refine J_st (R_index (i := k) sl71 rfl rfl (Own.rd (by decide) hw1) hi4) rfl (J_st (R_load sc3 rfl (((Own.rd (by decide) hw1).get hi4).one 0 rfl)) rfl (J_st (R_loadS st52 rfl h10.at rfl) rfl (J_st (R_move rfl) rfl (J_st (R_move rfl) rfl (J_st (R_build (⟨((((nodeOf g r.op).1).outs)[k]'hi4), r.stamp, (changedM ((nodeOf g r.op).1) r.key r.val).1, (changedM ((nodeOf g r.op).1) r.key r.val).2.1⟩ : Record) rfl (fun _ => by kernel_rfl)) rfl ?_)))))
            refine J_buildSlice (vs := [.agg (Enc.enc (⟨((((nodeOf g r.op).1).outs)[k]'hi4), r.stamp, (changedM ((nodeOf g r.op).1) r.key r.val).1, (changedM ((nodeOf g r.op).1) r.key r.val).2.1⟩ : Record)).toArray]) (css := [[.int .i64 ((⟨((((nodeOf g r.op).1).outs)[k]'hi4), r.stamp, (changedM ((nodeOf g r.op).1) r.key r.val).1, (changedM ((nodeOf g r.op).1) r.key r.val).2.1⟩ : Record).op), .int .i64 (((⟨((((nodeOf g r.op).1).outs)[k]'hi4), r.stamp, (changedM ((nodeOf g r.op).1) r.key r.val).1, (changedM ((nodeOf g r.op).1) r.key r.val).2.1⟩ : Record).stamp).epoch), .int .i64 (((⟨((((nodeOf g r.op).1).outs)[k]'hi4), r.stamp, (changedM ((nodeOf g r.op).1) r.key r.val).1, (changedM ((nodeOf g r.op).1) r.key r.val).2.1⟩ : Record).stamp).turn), .int .i64 ((⟨((((nodeOf g r.op).1).outs)[k]'hi4), r.stamp, (changedM ((nodeOf g r.op).1) r.key r.val).1, (changedM ((nodeOf g r.op).1) r.key r.val).2.1⟩ : Record).key), .int .i64 ((⟨((((nodeOf g r.op).1).outs)[k]'hi4), r.stamp, (changedM ((nodeOf g r.op).1) r.key r.val).1, (changedM ((nodeOf g r.op).1) r.key r.val).2.1⟩ : Record).val)]]) sl31 rfl rfl ⟨⟨rfl, rfl⟩, trivial⟩ rfl rfl (fun b13 w42 e25 s13 h13 => ?_)
            replace h13 : Blk w42 b13 [.int .i64 ((⟨((((nodeOf g r.op).1).outs)[k]'hi4), r.stamp, (changedM ((nodeOf g r.op).1) r.key r.val).1, (changedM ((nodeOf g r.op).1) r.key r.val).2.1⟩ : Record).op), .int .i64 (((⟨((((nodeOf g r.op).1).outs)[k]'hi4), r.stamp, (changedM ((nodeOf g r.op).1) r.key r.val).1, (changedM ((nodeOf g r.op).1) r.key r.val).2.1⟩ : Record).stamp).epoch), .int .i64 (((⟨((((nodeOf g r.op).1).outs)[k]'hi4), r.stamp, (changedM ((nodeOf g r.op).1) r.key r.val).1, (changedM ((nodeOf g r.op).1) r.key r.val).2.1⟩ : Record).stamp).turn), .int .i64 ((⟨((((nodeOf g r.op).1).outs)[k]'hi4), r.stamp, (changedM ((nodeOf g r.op).1) r.key r.val).1, (changedM ((nodeOf g r.op).1) r.key r.val).2.1⟩ : Record).key), .int .i64 ((⟨((((nodeOf g r.op).1).outs)[k]'hi4), r.stamp, (changedM ((nodeOf g r.op).1) r.key r.val).1, (changedM ((nodeOf g r.op).1) r.key r.val).2.1⟩ : Record).val)] := h13
            have g_b13 : w.heap.size ≤ b13 := by have := E.size; omega
            have y_b13 := h13.lt
            replace E := E.trans e25; replace h1 := h1.ext e25; replace h2 := h2.ext e25; replace ho1 := ho1.ext e25; replace hw1 := hw1.ext e25; replace h5 := h5.ext e25; replace h10 := h10.ext e25; replace hvo := hvo.ext e25
            have z41 := e25.size
            refine JX_tail ?_
            refine J2_X rfl ?_
            refine J_appendB sl31 rfl rfl hvo (Src.ofBlk h13 rfl) rfl (by first | (simp only [sum_flat, List.length_nil, List.length_cons]; simp only [Enc.sz]; omega) | (have h := out_len g r k; rw [sum_flat]; simp only [show Enc.sz Record = 5 from rfl, List.length_cons, List.length_nil]; omega)) (by decide) (by omega) (by omega) rfl rfl (fun v6 w43 m12 ho9 hb4 => ?_)
            have hn4 : ∀ g, Value.ownBlock v6 = some g → g = b4 ∨ w31.heap.size ≤ g := fun g hg => (hb4 g hg).elim (fun h => hvn g h) (fun h => by omega)
            replace E := E.step m12 (fun g hg => by have := Own.blk hvo g hg; have := hvn g hg; omega); replace h1 := h1.mod m12 (fun g hg => by have := Own.blk hvo g hg; have := hvn g hg; omega); replace h2 := h2.mod m12 (fun g hg => by have := Own.blk hvo g hg; have := hvn g hg; omega); replace ho1 := ho1.mod m12 (fun g hg => by have := Own.blk hvo g hg; have := hvn g hg; omega); replace hw1 := hw1.mod m12 (fun g hg => by have := Own.blk hvo g hg; have := hvn g hg; omega); replace h5 := h5.mod m12 (fun g hg => by have := Own.blk hvo g hg; have := hvn g hg; omega); replace h10 := h10.mod m12 (fun g hg => by have := Own.blk hvo g hg; have := hvn g hg; omega)
            have z42 := m12.size
            refine JX_go ?_
            refine J_st (R_assign rfl) rfl (J_done ?_)
            refine S_nil (E_inB ?_)
            refine S_reg [true, true, true] rfl rfl ?_
            refine J_st (R_move rfl) rfl (J_st (R_add rfl rfl (add_one hc12n (Own.rd (by decide) hw1).1)) rfl (J_st (R_assign rfl) rfl (J_done ?_)))
            refine S_nil (E_again (k + 1, v6) (by dsimp only; omega) ⟨rfl, rfl, rfl, rfl, rfl, rfl, rfl, rfl, rfl, rfl, trivial⟩ ⟨E, (by omega), h1, h2, ho1, hw1, h5, h10, (by omega), Own.fin ho9 (Nat.le_refl _) (by omega) (out_step (by rw [hstm]) (by rw [hstm]) hx (by omega)), hn4⟩)
          · have hc12n : ¬ k < (((nodeOf g r.op).1).outs).length := by first | (have h := of_decide_eq_false hc12; omega) | (have h := hc12; simp at h; omega)
            refine S_exit (E_lp_exit (E_inB_exit ?_))
            refine S_seq ?_
            refine S_reg [true, true, true, true, true] rfl rfl ?_
            refine J_st (R_move rfl) rfl (J_st (R_move rfl) rfl (J_st (R_assign rfl) rfl (J_st (R_assign rfl) rfl (J_st (R_assign rfl) rfl (J_done ?_)))))
            refine S_ret (E_doneN (l := [.tmp 6, .tmp 7, .tmp 8]) (vs := [v1, vo, .bool true]) rfl ⟨.tmp rfl, .tmp rfl, .tmp rfl, trivial⟩ rfl E ?_)
            rw [st_3 hc1 hx hc2 (by rw [rec_no hc3]; rfl), rec_no hc3]
            exact ⟨_, _, rfl, Own.fin ho1 (by omega) (by omega) (by first | rfl | (simp only [List.nil_append]; done)), Own.fin hvo (by omega) (by omega) (by rw [show ((nodeOf g r.op).1).outs.length = k from by omega]), ⟨⟨(fun g hg he => by have := Own.blk ho1 g hg; have := Own.blk hvo g he; have := hvn g he; omega), trivial⟩, ⟨trivial, trivial⟩⟩⟩

set_option maxRecDepth 20000 in
theorem c_Brought (n : Int) (a : Int) (b : Int) (w : World)  : Ct Try.prog 28 [.int .i64 n, .int .i64 a, .int .i64 b] w (fun v _ => v = .int .i64 (brM n a b)) := by
  refine ct_of Try.func28 rfl Try.ntmps28 rfl ?_
  refine S_sub [(0, .int .i64 n), (1, .int .i64 a), (2, .int .i64 b)] ⟨rfl, rfl, rfl, trivial⟩ ?_
  have E : Ext w w := Ext.refl w
  refine S_seq ?_
  refine S_reg [true] rfl rfl ?_
  refine J_st (R_assign rfl) rfl (J_done ?_)
  refine S_seq ?_
  refine S_seq ?_
  refine S_reg [true, true, true, true, true, true, true, true] rfl rfl ?_
  refine J_st (R_move rfl) rfl (J_st (R_move rfl) rfl (J_st (R_lss rfl rfl) rfl (J_st (R_move rfl) rfl ?_)))
  refine J_cut 4 [(0, .int .i64 n), (1, .int .i64 a), (2, .int .i64 b), (6, .int .i64 0), (14, .bool ((decide (b < a)) || (decide (n < a))))] (fun w' => w = w') ?_ ?_
  · refine J_if (gd := 10) rfl rfl (fun hg1 => ?_) (fun hg1 => ?_)
    · refine J_gdno rfl rfl rfl rfl (J_gdno rfl rfl rfl rfl (J_gdno rfl rfl rfl rfl (J_st (R_pickT rfl rfl) rfl (J_cutEnd ⟨rfl, rfl, rfl, rfl, congrArg (fun b => some (Value.bool b)) (show true = ((decide (b < a)) || (decide (n < a))) by first | (rw [hg1] <;> rfl) | (simp [hg1]; done) | (simp only [nat_nlt] <;> simp)), trivial⟩ rfl))))
    · refine J_gd rfl rfl (R_move rfl) rfl (J_gd rfl rfl (R_move rfl) rfl (J_gd rfl rfl (R_lss rfl rfl) rfl (J_st (R_pickF rfl rfl) rfl (J_cutEnd ⟨rfl, rfl, rfl, rfl, congrArg (fun b => some (Value.bool b)) (show (decide (n < a)) = ((decide (b < a)) || (decide (n < a))) by first | (rw [hg1] <;> rfl) | (simp [hg1]; done) | (simp only [nat_nlt] <;> simp)), trivial⟩ rfl))))
  rintro _ rfl
  refine J_done ?_
  refine S_cond rfl (fun hc1 => ?_) (fun hc1 => ?_)
  · refine S_seq ?_
    refine S_reg [true, true] rfl rfl ?_
    refine J_st (R_move rfl) rfl (J_st (R_assign rfl) rfl (J_done ?_))
    refine S_ret (E_done1 rfl rfl E ?_)
    rw [brM, if_pos hc1]
  · refine S_skip ?_
    refine S_seq ?_
    refine S_reg [true, true, true, true] rfl rfl ?_
    refine J_st (R_move rfl) rfl (J_st (R_move rfl) rfl (J_st (R_min rfl rfl) rfl (J_st (R_assign rfl) rfl (J_done ?_))))
    refine S_ret (E_done1 rfl rfl E ?_)
    rw [brM, if_neg (nof hc1)]

set_option maxRecDepth 20000 in
theorem s_Brought (n : Int) (a : Int) (b : Int) (w : World)  : Ct Try.prog 21 [.int .i64 n, .int .i64 a, .int .i64 b] w (fun v _ => v = .int .i64 (brM n a b)) := by
  refine ct_of Try.func21 rfl Try.ntmps21 rfl ?_
  refine S_sub [(0, .int .i64 n), (1, .int .i64 a), (2, .int .i64 b)] ⟨rfl, rfl, rfl, trivial⟩ ?_
  have E : Ext w w := Ext.refl w
  refine S_seq ?_
  refine S_reg [true] rfl rfl ?_
  refine J_st (R_assign rfl) rfl (J_done ?_)
  refine S_seq ?_
  refine S_seq ?_
  refine S_reg [true, true, true, true, true, true, true, true] rfl rfl ?_
  refine J_st (R_move rfl) rfl (J_st (R_move rfl) rfl (J_st (R_lss rfl rfl) rfl (J_st (R_move rfl) rfl ?_)))
  refine J_cut 4 [(0, .int .i64 n), (1, .int .i64 a), (2, .int .i64 b), (6, .int .i64 0), (14, .bool ((decide (b < a)) || (decide (n < a))))] (fun w' => w = w') ?_ ?_
  · refine J_if (gd := 10) rfl rfl (fun hg1 => ?_) (fun hg1 => ?_)
    · refine J_gdno rfl rfl rfl rfl (J_gdno rfl rfl rfl rfl (J_gdno rfl rfl rfl rfl (J_st (R_pickT rfl rfl) rfl (J_cutEnd ⟨rfl, rfl, rfl, rfl, congrArg (fun b => some (Value.bool b)) (show true = ((decide (b < a)) || (decide (n < a))) by first | (rw [hg1] <;> rfl) | (simp [hg1]; done) | (simp only [nat_nlt] <;> simp)), trivial⟩ rfl))))
    · refine J_gd rfl rfl (R_move rfl) rfl (J_gd rfl rfl (R_move rfl) rfl (J_gd rfl rfl (R_lss rfl rfl) rfl (J_st (R_pickF rfl rfl) rfl (J_cutEnd ⟨rfl, rfl, rfl, rfl, congrArg (fun b => some (Value.bool b)) (show (decide (n < a)) = ((decide (b < a)) || (decide (n < a))) by first | (rw [hg1] <;> rfl) | (simp [hg1]; done) | (simp only [nat_nlt] <;> simp)), trivial⟩ rfl))))
  rintro _ rfl
  refine J_done ?_
  refine S_cond rfl (fun hc1 => ?_) (fun hc1 => ?_)
  · refine S_seq ?_
    refine S_reg [true, true] rfl rfl ?_
    refine J_st (R_move rfl) rfl (J_st (R_assign rfl) rfl (J_done ?_))
    refine S_ret (E_done1 rfl rfl E ?_)
    rw [brM, if_pos hc1]
  · refine S_skip ?_
    refine S_seq ?_
    refine S_seq ?_
    refine S_reg [true, true, true] rfl rfl ?_
    refine J_st (R_move rfl) rfl (J_st (R_move rfl) rfl (J_st (R_gtr rfl rfl) rfl (J_done ?_)))
    refine S_cond rfl (fun hc2 => ?_) (fun hc2 => ?_)
    · refine S_seq ?_
      refine S_reg [true, true] rfl rfl ?_
      refine J_st (R_move rfl) rfl (J_st (R_assign rfl) rfl (J_done ?_))
      refine S_ret (E_done1 rfl rfl E ?_)
      rw [brM, if_neg (nof hc1), if_pos (of_decide_eq_true hc2)]
    · refine S_skip ?_
      refine S_seq ?_
      refine S_reg [true, true] rfl rfl ?_
      refine J_st (R_move rfl) rfl (J_st (R_assign rfl) rfl (J_done ?_))
      refine S_ret (E_done1 rfl rfl E ?_)
      rw [brM, if_neg (nof hc1), if_neg (of_decide_eq_false hc2)]

set_option maxRecDepth 20000 in
theorem c_StepAll (cg : List Value) (g : Graph) (vcs : Value) (cs : List Cell) (vrs : Value) (rs : List Record) (m : Int) (w : World) (hg : Dat.R w 0 w.heap.size cg g) (hcs : RdS w vcs cs) (hrs : RdS w vrs rs) (hb : cs.length ≤ 1048576) (hb2 : rs.length ≤ 1048576) : Ct Try.prog 11 [.agg cg.toArray, vcs, vrs, .int .i64 m] w (fun v w' => ∃ u0 u1, v = .tuple [u0, u1, .int .i64 (((stepAllM g cs rs m).2.2 : Nat) : Int)].toArray ∧ Own w' w.heap.size w'.heap.size 4 u0 (List.flatMap (Enc.enc (α := Cell)) ((stepAllM g cs rs m).1)) ∧ Own w' w.heap.size w'.heap.size 5 u1 (List.flatMap (Enc.enc (α := Record)) ((stepAllM g cs rs m).2.1)) ∧ SepL [u0, u1]) := by
  have hbr := br_rg m
  refine ct_of Try.func11 rfl Try.ntmps11 rfl ?_
  obtain ⟨o1, rfl, hd1⟩ := Graph.op hg
  refine S_sub [(0, .agg [o1, .int .i64 g.workers, .int .i64 g.cap].toArray), (1, vcs), (2, vrs), (3, .int .i64 m)] ⟨rfl, rfl, rfl, rfl, trivial⟩ ?_
  have E : Ext w w := Ext.refl w
  refine S_seq ?_
  refine S_reg [false, true, true, true] rfl rfl ?_
  refine J_box rfl rfl (fun b1 w1 e1 s1 h1 => ?_)
  have g_b1 : w.heap.size ≤ b1 := by have := E.size; omega
  have y_b1 := h1.lt
  replace E := E.trans e1
  have z1 := e1.size
  refine J_st (R_assign rfl) rfl (J_st (R_assign rfl) rfl (J_st (R_assign rfl) rfl (J_done ?_)))
  refine S_seq ?_
  refine S_reg [true, false, true, false, true, true] rfl rfl ?_
  refine J_st (R_move rfl) rfl ?_
  refine J_call Try.call26 rfl (c_copyCells vcs cs _ (hcs.ext E) (by first | omega | (simp only [mkL_length]; omega) | (rw [mkL_length]; done) | (simp only [mkL_length]; done))) rfl (fun v1 w2 e2 ho1 => ?_)
  have g_ho1 : w.heap.size ≤ w1.heap.size := E.size
  replace E := E.trans e2; replace h1 := h1.ext e2
  have z2 := e2.size
  refine J_st (R_move rfl) rfl ?_
  refine J_call Try.call27 rfl (c_copyRecords vrs rs _ (hrs.ext E) (by first | omega | (simp only [mkL_length]; omega) | (rw [mkL_length]; done) | (simp only [mkL_length]; done))) rfl (fun v2 w3 e3 ho2 => ?_)
  have g_ho2 : w.heap.size ≤ w2.heap.size := E.size
  replace E := E.trans e3; replace h1 := h1.ext e3; replace ho1 := ho1.ext e3
  have z3 := e3.size
  refine J_st (R_assign rfl) rfl (J_st (R_assign rfl) rfl (J_done ?_))
  refine S_seq ?_
  refine S_reg [true] rfl rfl ?_
  refine J_st (R_assign rfl) rfl (J_done ?_)
  refine S_seq ?_
  refine S_block ?_
  refine S_loop (fun (xq : Nat × List Cell × List Record × Value × Value) => let ⟨k, cs1, rs1, vc, vl⟩ := xq; [(1, vc), (2, vl), (3, .int .i64 m), (4, .pointer (some ⟨b1, 0, none⟩)), (8, .slice none 0 0), (9, .slice none 0 0), (10, .int .i64 0), (11, .int .i64 ((k : Nat) : Int))]) (fun (xq : Nat × List Cell × List Record × Value × Value) w' => let ⟨k, cs1, rs1, vc, vl⟩ := xq; Ext w w' ∧ w3.heap.size ≤ w'.heap.size ∧ Blk w' b1 ([o1, .int .i64 g.workers, .int .i64 g.cap]) ∧ k ≤ Int.toNat (brM m 0 100000) ∧ allM g (Int.toNat (brM m 0 100000)) cs rs = ((allM g (Int.toNat (brM m 0 100000) - k) cs1 rs1).1, (allM g (Int.toNat (brM m 0 100000) - k) cs1 rs1).2.1, (allM g (Int.toNat (brM m 0 100000) - k) cs1 rs1).2.2 + k) ∧ cs1.length ≤ cs.length + k ∧ rs1.length ≤ rs.length + k ∧ Own w' w1.heap.size w'.heap.size 4 vc (List.flatMap (Enc.enc (α := Cell)) cs1) ∧ Own w' w1.heap.size w'.heap.size 5 vl (List.flatMap (Enc.enc (α := Record)) rs1) ∧ SepL [vc, vl]) (fun (xq : Nat × List Cell × List Record × Value × Value) => let ⟨k, cs1, rs1, vc, vl⟩ := xq; Int.toNat (brM m 0 100000) - k) (0, cs, rs, v1, v2) ⟨rfl, rfl, rfl, rfl, rfl, rfl, rfl, rfl, trivial⟩ ⟨E, Nat.le_refl _, h1, Nat.zero_le _, rfl, (by omega), (by omega), Own.fin ho1 (by omega) (by omega) rfl, Own.fin ho2 (by omega) (by omega) rfl, ⟨⟨(Own.sep ho1 ho2 (by omega)), trivial⟩, ⟨trivial, trivial⟩⟩⟩ ?_
  clear E h1 ho1 ho2
  rintro ⟨k, cs1, rs1, vc, vl⟩ w4 ⟨E, z4, h1, hk, hI, hcl, hrl, hvc, hvl, sq⟩
  refine S_sub [(1, vc), (2, vl), (3, .int .i64 m), (4, .pointer (some ⟨b1, 0, none⟩)), (8, .slice none 0 0), (9, .slice none 0 0), (10, .int .i64 0), (11, .int .i64 ((k : Nat) : Int))] ⟨rfl, rfl, rfl, rfl, rfl, rfl, rfl, rfl, trivial⟩ ?_
  refine S_seq ?_
  refine S_seq ?_
  refine S_reg [true, true, false, true, true, true, true, true, true] rfl rfl ?_
  refine J_st (R_move rfl) rfl (J_st (R_move rfl) rfl ?_)
  refine J_call Try.call28 rfl (c_Brought m 0 100000 _ ) rfl (fun _ w5 e4 hv => ?_)
  subst hv
  replace E := E.trans e4; replace h1 := h1.ext e4; replace hvc := hvc.ext e4; replace hvl := hvl.ext e4
  have z5 := e4.size
  refine J_st (R_lss rfl rfl) rfl (J_st (R_move rfl) rfl ?_)
  refine J_cut 4 [(1, vc), (2, vl), (3, .int .i64 m), (4, .pointer (some ⟨b1, 0, none⟩)), (8, .slice none 0 0), (9, .slice none 0 0), (10, .int .i64 0), (11, .int .i64 ((k : Nat) : Int)), (27, .bool ((decide (((k : Nat) : Int) < (brM m 0 100000))) && (decide (0 < ((rs1.length : Nat) : Int)))))] (fun w' => w5 = w') ?_ ?_
  · refine J_if (gd := 23) rfl rfl (fun hg1 => ?_) (fun hg1 => ?_)
    · refine J_gd rfl rfl (R_move rfl) rfl (J_gd rfl rfl (R_len Try.underlying31 rfl (Own.len (by decide) hvl)) rfl (J_gd rfl rfl (R_gtr rfl rfl) rfl (J_st (R_pickT rfl rfl) rfl (J_cutEnd ⟨rfl, rfl, rfl, rfl, rfl, rfl, rfl, rfl, congrArg (fun b => some (Value.bool b)) (show (decide (0 < ((rs1.length : Nat) : Int))) = ((decide (((k : Nat) : Int) < (brM m 0 100000))) && (decide (0 < ((rs1.length : Nat) : Int)))) by first | (rw [hg1] <;> rfl) | (simp [hg1]; done) | (simp only [nat_nlt] <;> simp)), trivial⟩ rfl))))
    · refine J_gdno rfl rfl rfl rfl (J_gdno rfl rfl rfl rfl (J_gdno rfl rfl rfl rfl (J_st (R_pickF rfl rfl) rfl (J_cutEnd ⟨rfl, rfl, rfl, rfl, rfl, rfl, rfl, rfl, congrArg (fun b => some (Value.bool b)) (show false = ((decide (((k : Nat) : Int) < (brM m 0 100000))) && (decide (0 < ((rs1.length : Nat) : Int)))) by first | (rw [hg1] <;> rfl) | (simp [hg1]; done) | (simp only [nat_nlt] <;> simp)), trivial⟩ rfl))))
  rintro _ rfl
  refine J_done ?_
  refine S_cond rfl (fun hc1 => ?_) (fun hc1 => ?_)
  · have hlt : 0 < rs1.length := by have h := (and_tt hc1).2; omega
    have hkb := (and_tt hc1).1
    refine S_skip ?_
    refine S_block ?_
    refine S_seq ?_
    refine S_regD mixed [(0, true), (1, true), (2, true), (3, true), (4, true), (5, false), (6, true), (7, true), (8, true), (9, true), (10, true), (11, true), (12, true)] (by decide +kernel) rfl (fun w7 e5 => ?_)
    replace E := E.trans e5; replace h1 := h1.ext e5; replace hvc := hvc.ext e5; replace hvl := hvl.ext e5
    have z6 := e5.size
    refine J_st (R_loadS st36 rfl h1.at rfl) rfl (J_st (R_move rfl) rfl (J_st (R_move rfl) rfl ?_))
    have hi1 : 0 < rs1.length := (by first | assumption | omega)
    refine J_st (R_index (i := 0) sl31 rfl rfl (Own.rd (by decide) hvl) hi1) rfl (J_st (R_loadS st54 rfl ((Own.rd (by decide) hvl).get hi1) rfl) rfl ?_)
    refine J_call Try.call29 rfl (c_StepOp [o1, .int .i64 g.workers, .int .i64 g.cap] g vc cs1 (rs1[0]'hi1) _ (Graph.mkR g (RdD.any (hd1.ext E))) (Own.rd (by decide) hvc) (by first | omega | (simp only [mkL_length]; omega) | (rw [mkL_length]; done) | (simp only [mkL_length]; done))) rfl (fun _ w8 e6 ho3 => ?_)
    obtain ⟨v3, v4, rfl, ho4, ho5, sp1⟩ := ho3
    have g_ho3 : w.heap.size ≤ w7.heap.size := E.size
    replace E := E.trans e6; replace h1 := h1.ext e6; replace hvc := hvc.ext e6; replace hvl := hvl.ext e6
    have z7 := e6.size
    refine J_st (R_move rfl) rfl (J_st (R_extract rfl rfl) rfl (J_st (R_extract rfl rfl) rfl (J_st (R_extract rfl rfl) rfl (J_st (R_assign rfl) rfl (J_st (R_assign rfl) rfl (J_st (R_assign rfl) rfl (J_done ?_)))))))
    refine S_seq ?_
    refine S_reg [true, true] rfl rfl ?_
    refine J_st (R_move rfl) rfl (J_st (R_assign rfl) rfl (J_done ?_))
    refine S_seq ?_
    refine S_reg [true, true, true, false, true] rfl rfl ?_
    refine J_st (R_move rfl) rfl ?_
    have hk1 : 1 ≤ rs1.length := by first | assumption | omega
    have hs1 := Own.slFromE (α := Record) hvl hk1
    replace hs1 : Own w8 w1.heap.size w4.heap.size 5 (slFrom vl 1 5) (List.flatMap (Enc.enc (α := Record)) (List.drop 1 rs1)) := hs1
    have hb1 : Become w8 vl (slFrom vl 1 5) := fun g hg => .inl (by rwa [slFrom_blk] at hg)
    replace sq := SepL.set hb1 1 rfl sq ⟨(Own.lt hvc), (Own.lt hvl), trivial⟩
    replace sq : SepL [vc, slFrom vl 1 5] := sq
    refine J_st (R_sliceFrom sl31 rfl rfl (Own.roomE (α := Record) hvl) hk1) rfl (J_st (R_move rfl) rfl ?_)
    refine J_appendB sl31 rfl rfl hs1 (Own.src ho5) (flat_one _) (by first | (simp only [List.length_append, sum_flat, List.length_nil, List.length_cons, List.length_drop]; simp only [Enc.sz]; omega) | (have h := @step_len2 g cs1 (rs1[0]'hlt); simp only [List.length_append, sum_flat, List.length_nil, List.length_cons, List.length_drop]; simp only [Enc.sz]; omega)) (by decide) (by omega) (by omega) rfl rfl (fun v5 w9 m1 ho6 hb2 => ?_)
    have hn1 : ∀ g, Value.ownBlock v5 = some g → g < w4.heap.size ∨ w8.heap.size ≤ g := fun g hg => (hb2 g hg).elim (fun h => .inl (by have := Own.blk hs1 g h; omega)) (fun h => .inr h)
    have sq1 := sq
    replace sq := SepL.set hb2 1 rfl sq ⟨(Own.lt hvc), (Own.lt hs1), trivial⟩
    replace sq : SepL [vc, v5] := sq
    replace E := E.step m1 (fun g hg => by have := Own.blk hs1 g hg; omega); replace h1 := h1.mod m1 (fun g hg => by have := Own.blk hs1 g hg; omega); replace hvc := Own.modS hvc m1 (sq1.1.1).symm; replace ho4 := ho4.mod m1 (fun g hg => by have := Own.blk hs1 g hg; omega); replace ho5 := ho5.mod m1 (fun g hg => by have := Own.blk hs1 g hg; omega)
    have z8 := m1.size
    replace ho6 : Own w9 w1.heap.size w9.heap.size 5 v5 (List.flatMap (Enc.enc (α := Record)) ((List.drop 1 rs1) ++ ((stepM g cs1 (rs1[0]'hi1)).2.1))) := by rw [List.flatMap_append]; exact ho6
    refine J_st (R_assign rfl) rfl (J_done ?_)
    refine S_reg [true, true, true] rfl rfl ?_
    refine J_st (R_move rfl) rfl (J_st (R_add rfl rfl (add_nat (by unfold maxLen; omega))) rfl (J_st (R_assign rfl) rfl (J_done ?_)))
    refine S_nil (E_inB ?_)
    have hs1 := @step_len1 g cs1 (rs1[0]'hi1)
    have hs2 := @step_len2 g cs1 (rs1[0]'hi1)
    refine S_nil (E_again (k + 1, (stepM g cs1 (rs1[0]'hi1)).1, List.drop 1 rs1 ++ (stepM g cs1 (rs1[0]'hi1)).2.1, v3, v5) (by dsimp only; omega) ⟨rfl, rfl, rfl, rfl, rfl, rfl, rfl, rfl, trivial⟩ ⟨E, (by omega), h1, (by omega), (all_next hI (by omega) hlt (getD_at hlt)), (by omega), (by simp only [List.length_append, List.length_drop]; omega), Own.fin ho4 (by omega) (by omega) rfl, Own.fin ho6 (by omega) (by omega) (by first | rfl | (simp only [List.flatMap_append, List.nil_append]; done)), ⟨⟨(fun g hg he => by have := Own.blk ho4 g hg; have := Own.blk ho6 g he; have := hn1 g he; omega), trivial⟩, ⟨trivial, trivial⟩⟩⟩)
  · have hend := all_end' hI (by rcases and_ff hc1 with h | h <;> omega)
    refine S_exit (E_lp_exit (E_inB_exit ?_))
    refine S_seq ?_
    refine S_reg [true, true, false, true, true, true, true] rfl rfl ?_
    refine J_st (R_move rfl) rfl (J_st (R_move rfl) rfl ?_)
    refine J_call Try.call27 rfl (c_copyRecords vl rs1 _ (Own.rd (by decide) hvl) (by first | omega | (simp only [mkL_length]; omega) | (rw [mkL_length]; done) | (simp only [mkL_length]; done))) rfl (fun v6 w10 e7 ho7 => ?_)
    have g_ho7 : w.heap.size ≤ w5.heap.size := E.size
    replace E := E.trans e7; replace h1 := h1.ext e7; replace hvc := hvc.ext e7; replace hvl := hvl.ext e7
    have z9 := e7.size
    refine J_st (R_move rfl) rfl (J_st (R_assign rfl) rfl (J_st (R_assign rfl) rfl (J_st (R_assign rfl) rfl (J_done ?_))))
    refine S_ret (E_doneN (l := [.tmp 8, .tmp 9, .tmp 10]) (vs := [vc, v6, .int .i64 ((k : Nat) : Int)]) rfl ⟨.tmp rfl, .tmp rfl, .tmp rfl, trivial⟩ rfl E ?_)
    rw [show stepAllM g cs rs m = (cs1, rs1, k) from hend]
    exact ⟨_, _, rfl, Own.fin hvc (by omega) (by omega) (by first | rfl | (simp only [List.nil_append]; done)), Own.fin ho7 (by omega) (by omega) (by first | rfl | (simp only [List.nil_append]; done)), ⟨⟨(Own.sep hvc ho7 (by omega)), trivial⟩, ⟨trivial, trivial⟩⟩⟩

set_option maxHeartbeats 4000000 in
set_option maxRecDepth 20000 in
theorem s_StepAll (cg : List Value) (g : Graph) (vcs : Value) (cs : List Cell) (vrs : Value) (rs : List Record) (m : Int) (w : World) (hg : Dat.R w 0 w.heap.size cg g) (hcs : RdS w vcs cs) (hrs : RdS w vrs rs) (hb : cs.length ≤ 1048576) (hb2 : rs.length ≤ 1048576) (hcg : cntGraph g ≤ 1048576) : Ct Try.prog 7 [.agg cg.toArray, vcs, vrs, .int .i64 m] w (fun v w' => ∃ u0 u1, v = .tuple [u0, u1, .int .i64 (((stepAllM g cs rs m).2.2 : Nat) : Int)].toArray ∧ Own w' w.heap.size w'.heap.size 4 u0 (List.flatMap (Enc.enc (α := Cell)) ((stepAllM g cs rs m).1)) ∧ Own w' w.heap.size w'.heap.size 5 u1 (List.flatMap (Enc.enc (α := Record)) ((stepAllM g cs rs m).2.1)) ∧ SepL [u0, u1]) := by
  have hbr := br_rg m
  refine ct_of Try.func7 rfl Try.ntmps7 rfl ?_
  obtain ⟨o1, rfl, hd1⟩ := Graph.op hg
  refine S_sub [(0, .agg [o1, .int .i64 g.workers, .int .i64 g.cap].toArray), (1, vcs), (2, vrs), (3, .int .i64 m)] ⟨rfl, rfl, rfl, rfl, trivial⟩ ?_
  have E : Ext w w := Ext.refl w
  refine S_seq ?_
  refine S_reg [false, true, true, true] rfl rfl ?_
  refine J_box rfl rfl (fun b1 w1 e1 s1 h1 => ?_)
  have g_b1 : w.heap.size ≤ b1 := by have := E.size; omega
  have y_b1 := h1.lt
  replace E := E.trans e1
  have z1 := e1.size
  refine J_st (R_assign rfl) rfl (J_st (R_assign rfl) rfl (J_st (R_assign rfl) rfl (J_done ?_)))
  refine S_seq ?_
  refine S_reg [false, true, false, true] rfl rfl ?_
  refine J_buildSlice (vs := []) (css := []) sl30 rfl rfl trivial rfl rfl (fun b2 w2 e2 s2 h2 => ?_)
  replace h2 : Blk w2 b2 [] := h2
  have g_b2 : w.heap.size ≤ b2 := by have := E.size; omega
  have y_b2 := h2.lt
  replace E := E.trans e2; replace h1 := h1.ext e2
  have z2 := e2.size
  refine J_st (R_move rfl) rfl ?_
  refine J_append sl30 rfl rfl (Own.ofBlk (lo := b2) (hi := b2 + 1) (sz := 4) h2 (Nat.le_refl _) (Nat.lt_succ_self _) (by simp) (by simp [maxLen])) (RdS.src (hcs.ext E)) (flat_one _) (by first | (simp only [List.length_append, sum_flat, List.length_nil, List.length_cons, List.length_drop]; simp only [Enc.sz]; omega) | (have h := @step_len2 g cs1 (rs1[0]'hlt); simp only [List.length_append, sum_flat, List.length_nil, List.length_cons, List.length_drop]; simp only [Enc.sz]; omega)) (by decide) (by omega) (by omega) rfl rfl (fun v1 w3 m1 ho1 => ?_)
  replace E := E.step m1 (fun g hg => by have := Own.blk (Own.ofBlk (lo := b2) (hi := b2 + 1) (sz := 4) h2 (Nat.le_refl _) (Nat.lt_succ_self _) (by simp) (by simp [maxLen])) g hg; omega); replace h1 := h1.mod m1 (fun g hg => by have := Own.blk (Own.ofBlk (lo := b2) (hi := b2 + 1) (sz := 4) h2 (Nat.le_refl _) (Nat.lt_succ_self _) (by simp) (by simp [maxLen])) g hg; omega)
  have z3 := m1.size
  refine J_st (R_assign rfl) rfl (J_done ?_)
  refine S_seq ?_
  refine S_reg [false, true, false, true] rfl rfl ?_
  refine J_buildSlice (vs := []) (css := []) sl31 rfl rfl trivial rfl rfl (fun b3 w4 e3 s3 h3 => ?_)
  replace h3 : Blk w4 b3 [] := h3
  have g_b3 : w.heap.size ≤ b3 := by have := E.size; omega
  have y_b3 := h3.lt
  replace E := E.trans e3; replace h1 := h1.ext e3; replace ho1 := ho1.ext e3
  have z4 := e3.size
  refine J_st (R_move rfl) rfl ?_
  refine J_append sl31 rfl rfl (Own.ofBlk (lo := b3) (hi := b3 + 1) (sz := 5) h3 (Nat.le_refl _) (Nat.lt_succ_self _) (by simp) (by simp [maxLen])) (RdS.src (hrs.ext E)) (flat_one _) (by first | (simp only [List.length_append, sum_flat, List.length_nil, List.length_cons, List.length_drop]; simp only [Enc.sz]; omega) | (have h := @step_len2 g cs1 (rs1[0]'hlt); simp only [List.length_append, sum_flat, List.length_nil, List.length_cons, List.length_drop]; simp only [Enc.sz]; omega)) (by decide) (by omega) (by omega) rfl rfl (fun v2 w5 m2 ho2 => ?_)
  replace E := E.step m2 (fun g hg => by have := Own.blk (Own.ofBlk (lo := b3) (hi := b3 + 1) (sz := 5) h3 (Nat.le_refl _) (Nat.lt_succ_self _) (by simp) (by simp [maxLen])) g hg; omega); replace h1 := h1.mod m2 (fun g hg => by have := Own.blk (Own.ofBlk (lo := b3) (hi := b3 + 1) (sz := 5) h3 (Nat.le_refl _) (Nat.lt_succ_self _) (by simp) (by simp [maxLen])) g hg; omega); replace ho1 := ho1.mod m2 (fun g hg => by have := Own.blk (Own.ofBlk (lo := b3) (hi := b3 + 1) (sz := 5) h3 (Nat.le_refl _) (Nat.lt_succ_self _) (by simp) (by simp [maxLen])) g hg; omega)
  have z5 := m2.size
  refine J_st (R_assign rfl) rfl (J_done ?_)
  refine S_seq ?_
  refine S_reg [true] rfl rfl ?_
  refine J_st (R_assign rfl) rfl (J_done ?_)
  refine S_seq ?_
  refine S_reg [true, false, true] rfl rfl ?_
  refine J_st (R_move rfl) rfl ?_
  refine J_call Try.call21 rfl (s_Brought m 0 100000 _ ) rfl (fun _ w6 e4 hv => ?_)
  subst hv
  replace E := E.trans e4; replace h1 := h1.ext e4; replace ho1 := ho1.ext e4; replace ho2 := ho2.ext e4
  have z6 := e4.size
  refine J_st (R_assign rfl) rfl (J_done ?_)
  refine S_seq ?_
  refine S_block ?_
  refine S_loop (fun (xq : Nat × List Cell × List Record × Value × Value) => let ⟨k, cs1, rs1, vc, vl⟩ := xq; [(1, vc), (2, vl), (3, .int .i64 (brM m 0 100000)), (4, .pointer (some ⟨b1, 0, none⟩)), (8, .slice none 0 0), (9, .slice none 0 0), (10, .int .i64 0), (11, .int .i64 ((k : Nat) : Int))]) (fun (xq : Nat × List Cell × List Record × Value × Value) w' => let ⟨k, cs1, rs1, vc, vl⟩ := xq; Ext w w' ∧ w6.heap.size ≤ w'.heap.size ∧ Blk w' b1 ([o1, .int .i64 g.workers, .int .i64 g.cap]) ∧ k ≤ Int.toNat (brM m 0 100000) ∧ allM g (Int.toNat (brM m 0 100000)) cs rs = ((allM g (Int.toNat (brM m 0 100000) - k) cs1 rs1).1, (allM g (Int.toNat (brM m 0 100000) - k) cs1 rs1).2.1, (allM g (Int.toNat (brM m 0 100000) - k) cs1 rs1).2.2 + k) ∧ cs1.length ≤ cs.length + k ∧ rs1.length ≤ rs.length + k ∧ Own w' b2 w'.heap.size 4 vc (List.flatMap (Enc.enc (α := Cell)) cs1) ∧ Own w' b2 w'.heap.size 5 vl (List.flatMap (Enc.enc (α := Record)) rs1) ∧ SepL [vc, vl]) (fun (xq : Nat × List Cell × List Record × Value × Value) => let ⟨k, cs1, rs1, vc, vl⟩ := xq; Int.toNat (brM m 0 100000) - k) (0, cs, rs, v1, v2) ⟨rfl, rfl, rfl, rfl, rfl, rfl, rfl, rfl, trivial⟩ ⟨E, Nat.le_refl _, h1, Nat.zero_le _, rfl, (by omega), (by omega), Own.fin ho1 (by omega) (by omega) rfl, Own.fin ho2 (by omega) (by omega) rfl, ⟨⟨(Own.sep ho1 ho2 (by omega)), trivial⟩, ⟨trivial, trivial⟩⟩⟩ ?_
  clear E h1 ho1 ho2
  rintro ⟨k, cs1, rs1, vc, vl⟩ w7 ⟨E, z7, h1, hk, hI, hcl, hrl, hvc, hvl, sq⟩
  refine S_sub [(1, vc), (2, vl), (3, .int .i64 (brM m 0 100000)), (4, .pointer (some ⟨b1, 0, none⟩)), (8, .slice none 0 0), (9, .slice none 0 0), (10, .int .i64 0), (11, .int .i64 ((k : Nat) : Int))] ⟨rfl, rfl, rfl, rfl, rfl, rfl, rfl, rfl, trivial⟩ ?_
  refine S_seq ?_
  refine S_seq ?_
  refine S_reg [true, true, true, true, true, true, true, true] rfl rfl ?_
  refine J_st (R_move rfl) rfl (J_st (R_move rfl) rfl (J_st (R_lss rfl rfl) rfl (J_st (R_move rfl) rfl ?_)))
  refine J_cut 4 [(1, vc), (2, vl), (3, .int .i64 (brM m 0 100000)), (4, .pointer (some ⟨b1, 0, none⟩)), (8, .slice none 0 0), (9, .slice none 0 0), (10, .int .i64 0), (11, .int .i64 ((k : Nat) : Int)), (30, .bool ((decide (((k : Nat) : Int) < (brM m 0 100000))) && (decide (0 < ((rs1.length : Nat) : Int)))))] (fun w' => w7 = w') ?_ ?_
  · refine J_if (gd := 26) rfl rfl (fun hg1 => ?_) (fun hg1 => ?_)
    · refine J_gd rfl rfl (R_move rfl) rfl (J_gd rfl rfl (R_len Try.underlying31 rfl (Own.len (by decide) hvl)) rfl (J_gd rfl rfl (R_gtr rfl rfl) rfl (J_st (R_pickT rfl rfl) rfl (J_cutEnd ⟨rfl, rfl, rfl, rfl, rfl, rfl, rfl, rfl, congrArg (fun b => some (Value.bool b)) (show (decide (0 < ((rs1.length : Nat) : Int))) = ((decide (((k : Nat) : Int) < (brM m 0 100000))) && (decide (0 < ((rs1.length : Nat) : Int)))) by first | (rw [hg1] <;> rfl) | (simp [hg1]; done) | (simp only [nat_nlt] <;> simp)), trivial⟩ rfl))))
    · refine J_gdno rfl rfl rfl rfl (J_gdno rfl rfl rfl rfl (J_gdno rfl rfl rfl rfl (J_st (R_pickF rfl rfl) rfl (J_cutEnd ⟨rfl, rfl, rfl, rfl, rfl, rfl, rfl, rfl, congrArg (fun b => some (Value.bool b)) (show false = ((decide (((k : Nat) : Int) < (brM m 0 100000))) && (decide (0 < ((rs1.length : Nat) : Int)))) by first | (rw [hg1] <;> rfl) | (simp [hg1]; done) | (simp only [nat_nlt] <;> simp)), trivial⟩ rfl))))
  rintro _ rfl
  refine J_done ?_
  refine S_cond rfl (fun hc1 => ?_) (fun hc1 => ?_)
  · have hlt : 0 < rs1.length := by have h := (and_tt hc1).2; omega
    have hkb := (and_tt hc1).1
    refine S_skip ?_
    refine S_block ?_
    refine S_seq ?_
    refine S_regD mixed [(0, true), (1, true), (2, true), (3, true), (4, true), (5, false), (6, true), (7, true), (8, true), (9, true), (10, true), (11, true), (12, true)] (by decide +kernel) rfl (fun w9 e5 => ?_)
    replace E := E.trans e5; replace h1 := h1.ext e5; replace hvc := hvc.ext e5; replace hvl := hvl.ext e5
    have z8 := e5.size
    refine J_st (R_loadS st36 rfl h1.at rfl) rfl (J_st (R_move rfl) rfl (J_st (R_move rfl) rfl ?_))
    have hi1 : 0 < rs1.length := (by first | assumption | omega)
    refine J_st (R_index (i := 0) sl31 rfl rfl (Own.rd (by decide) hvl) hi1) rfl (J_st (R_loadS st54 rfl ((Own.rd (by decide) hvl).get hi1) rfl) rfl ?_)
    refine J_call Try.call22 rfl (s_StepOp [o1, .int .i64 g.workers, .int .i64 g.cap] g vc cs1 (rs1[0]'hi1) _ (Graph.mkR g (RdD.any (hd1.ext E))) (Own.rd (by decide) hvc) (by first | omega | (simp only [mkL_length]; omega) | (rw [mkL_length]; done) | (simp only [mkL_length]; done)) (by first | omega | (simp only [mkL_length]; omega) | (rw [mkL_length]; done) | (simp only [mkL_length]; done))) rfl (fun _ w10 e6 ho3 => ?_)
    obtain ⟨v3, v4, rfl, ho4, ho5, sp1⟩ := ho3
    have g_ho3 : w.heap.size ≤ w9.heap.size := E.size
    replace E := E.trans e6; replace h1 := h1.ext e6; replace hvc := hvc.ext e6; replace hvl := hvl.ext e6
    have z9 := e6.size
    refine J_st (R_move rfl) rfl (J_st (R_extract rfl rfl) rfl (J_st (R_extract rfl rfl) rfl (J_st (R_extract rfl rfl) rfl (J_st (R_assign rfl) rfl (J_st (R_assign rfl) rfl (J_st (R_assign rfl) rfl (J_done ?_)))))))
    refine S_seq ?_
    refine S_reg [true, true] rfl rfl ?_
    refine J_st (R_move rfl) rfl (J_st (R_assign rfl) rfl (J_done ?_))
    refine S_seq ?_
    refine S_reg [false, true, true, false, true, false, true] rfl rfl ?_
    refine J_buildSlice (vs := []) (css := []) sl31 rfl rfl trivial rfl rfl (fun b4 w11 e7 s4 h4 => ?_)
    replace h4 : Blk w11 b4 [] := h4
    have g_b4 : w.heap.size ≤ b4 := by have := E.size; omega
    have y_b4 := h4.lt
    replace E := E.trans e7; replace h1 := h1.ext e7; replace hvc := hvc.ext e7; replace hvl := hvl.ext e7; replace ho4 := ho4.ext e7; replace ho5 := ho5.ext e7
    have z10 := e7.size
    refine J_st (R_move rfl) rfl ?_
    have hk1 : 1 ≤ rs1.length := by first | assumption | omega
    have hs1 := Own.slFromE (α := Record) hvl hk1
    replace hs1 : Own w11 b2 w7.heap.size 5 (slFrom vl 1 5) (List.flatMap (Enc.enc (α := Record)) (List.drop 1 rs1)) := hs1
    have hb1 : Become w11 vl (slFrom vl 1 5) := fun g hg => .inl (by rwa [slFrom_blk] at hg)
    replace sq := SepL.set hb1 1 rfl sq ⟨(Own.lt hvc), (Own.lt hvl), trivial⟩
    replace sq : SepL [vc, slFrom vl 1 5] := sq
    refine J_st (R_sliceFrom sl31 rfl rfl (Own.roomE (α := Record) hvl) hk1) rfl ?_
    refine J_append sl31 rfl rfl (Own.ofBlk (lo := b4) (hi := b4 + 1) (sz := 5) h4 (Nat.le_refl _) (Nat.lt_succ_self _) (by simp) (by simp [maxLen])) (Own.src hs1) (flat_one _) (by first | (simp only [List.length_append, sum_flat, List.length_nil, List.length_cons, List.length_drop]; simp only [Enc.sz]; omega) | (have h := @step_len2 g cs1 (rs1[0]'hlt); simp only [List.length_append, sum_flat, List.length_nil, List.length_cons, List.length_drop]; simp only [Enc.sz]; omega)) (by decide) (by omega) (by omega) rfl rfl (fun v5 w12 m3 ho6 => ?_)
    replace E := E.step m3 (fun g hg => by have := Own.blk (Own.ofBlk (lo := b4) (hi := b4 + 1) (sz := 5) h4 (Nat.le_refl _) (Nat.lt_succ_self _) (by simp) (by simp [maxLen])) g hg; omega); replace h1 := h1.mod m3 (fun g hg => by have := Own.blk (Own.ofBlk (lo := b4) (hi := b4 + 1) (sz := 5) h4 (Nat.le_refl _) (Nat.lt_succ_self _) (by simp) (by simp [maxLen])) g hg; omega); replace hvc := hvc.mod m3 (fun g hg => by have := Own.blk (Own.ofBlk (lo := b4) (hi := b4 + 1) (sz := 5) h4 (Nat.le_refl _) (Nat.lt_succ_self _) (by simp) (by simp [maxLen])) g hg; omega); replace ho4 := ho4.mod m3 (fun g hg => by have := Own.blk (Own.ofBlk (lo := b4) (hi := b4 + 1) (sz := 5) h4 (Nat.le_refl _) (Nat.lt_succ_self _) (by simp) (by simp [maxLen])) g hg; omega); replace ho5 := ho5.mod m3 (fun g hg => by have := Own.blk (Own.ofBlk (lo := b4) (hi := b4 + 1) (sz := 5) h4 (Nat.le_refl _) (Nat.lt_succ_self _) (by simp) (by simp [maxLen])) g hg; omega); replace hs1 := hs1.mod m3 (fun g hg => by have := Own.blk (Own.ofBlk (lo := b4) (hi := b4 + 1) (sz := 5) h4 (Nat.le_refl _) (Nat.lt_succ_self _) (by simp) (by simp [maxLen])) g hg; omega)
    have z11 := m3.size
    refine J_st (R_move rfl) rfl ?_
    refine J_append sl31 rfl rfl ho6 (Own.src ho5) (flat_one _) (by first | (simp only [List.length_append, sum_flat, List.length_nil, List.length_cons, List.length_drop]; simp only [Enc.sz]; omega) | (have h := @step_len2 g cs1 (rs1[0]'hlt); simp only [List.length_append, sum_flat, List.length_nil, List.length_cons, List.length_drop]; simp only [Enc.sz]; omega)) (by decide) (by omega) (by omega) rfl rfl (fun v6 w13 m4 ho7 => ?_)
    replace E := E.step m4 (fun g hg => by have := Own.blk ho6 g hg; omega); replace h1 := h1.mod m4 (fun g hg => by have := Own.blk ho6 g hg; omega); replace hvc := hvc.mod m4 (fun g hg => by have := Own.blk ho6 g hg; omega); replace ho4 := ho4.mod m4 (fun g hg => by have := Own.blk ho6 g hg; omega); replace ho5 := ho5.mod m4 (fun g hg => by have := Own.blk ho6 g hg; omega); replace hs1 := hs1.mod m4 (fun g hg => by have := Own.blk ho6 g hg; omega)
    have z12 := m4.size
    refine J_st (R_assign rfl) rfl (J_done ?_)
    refine S_reg [true, true, true] rfl rfl ?_
    refine J_st (R_move rfl) rfl (J_st (R_add rfl rfl (add_nat (by unfold maxLen; omega))) rfl (J_st (R_assign rfl) rfl (J_done ?_)))
    refine S_nil (E_inB ?_)
    have hs1 := @step_len1 g cs1 (rs1[0]'hi1)
    have hs2 := @step_len2 g cs1 (rs1[0]'hi1)
    refine S_nil (E_again (k + 1, (stepM g cs1 (rs1[0]'hi1)).1, List.drop 1 rs1 ++ (stepM g cs1 (rs1[0]'hi1)).2.1, v3, v6) (by dsimp only; omega) ⟨rfl, rfl, rfl, rfl, rfl, rfl, rfl, rfl, trivial⟩ ⟨E, (by omega), h1, (by omega), (all_next hI (by omega) hlt (getD_at hlt)), (by omega), (by simp only [List.length_append, List.length_drop]; omega), Own.fin ho4 (by omega) (by omega) rfl, Own.fin ho7 (by omega) (by omega) (by first | rfl | (simp only [List.flatMap_append, List.nil_append]; done)), ⟨⟨(Own.sep ho4 ho7 (by omega)), trivial⟩, ⟨trivial, trivial⟩⟩⟩)
  · have hend := all_end' hI (by rcases and_ff hc1 with h | h <;> omega)
    refine S_exit (E_lp_exit (E_inB_exit ?_))
    refine S_seq ?_
    refine S_reg [true, true, true, true, true, true] rfl rfl ?_
    refine J_st (R_move rfl) rfl (J_st (R_move rfl) rfl (J_st (R_move rfl) rfl (J_st (R_assign rfl) rfl (J_st (R_assign rfl) rfl (J_st (R_assign rfl) rfl (J_done ?_))))))
    refine S_ret (E_doneN (l := [.tmp 8, .tmp 9, .tmp 10]) (vs := [vc, vl, .int .i64 ((k : Nat) : Int)]) rfl ⟨.tmp rfl, .tmp rfl, .tmp rfl, trivial⟩ rfl E ?_)
    rw [show stepAllM g cs rs m = (cs1, rs1, k) from hend]
    exact ⟨_, _, rfl, Own.fin hvc (by omega) (by omega) (by first | rfl | (simp only [List.nil_append]; done)), Own.fin hvl (by omega) (by omega) (by first | rfl | (simp only [List.nil_append]; done)), ⟨⟨sq.1.1, trivial⟩, ⟨trivial, trivial⟩⟩⟩

set_option maxHeartbeats 4000000 in
set_option maxRecDepth 20000 in
theorem l_StepAll (cg : List Value) (g : Graph) (vcs : Value) (cs : List Cell) (vrs : Value) (rs : List Record) (m : Int) (w : World) (hg : Dat.R w 0 w.heap.size cg g) (hcs : RdS w vcs cs) (hrs : RdS w vrs rs) (_kg : okGraph g) (_kcs : ∀ y ∈ cs, okCell y) (_krs : ∀ y ∈ rs, okRecord y) (_km : rg m) : Ct Try.prog 3 [.agg cg.toArray, vcs, vrs, .int .i64 m] w (fun v _ => v = .bool true) := by
  have hl1 := @stepAll_len1 g cs rs m
  have hl2 := @stepAll_len2 g cs rs m
  have hnn := @numNs_all 1 g.nodes
  have hcq : cntGraph g = cntL cntNode g.nodes := rfl
  refine ct_of Try.func3 rfl Try.ntmps3 rfl ?_
  obtain ⟨o1, rfl, hd1⟩ := Graph.op hg
  refine S_sub [(0, .agg [o1, .int .i64 g.workers, .int .i64 g.cap].toArray), (1, vcs), (2, vrs), (3, .int .i64 m)] ⟨rfl, rfl, rfl, rfl, trivial⟩ ?_
  have E : Ext w w := Ext.refl w
  refine S_seq ?_
  refine S_reg [false, true] rfl rfl ?_
  refine J_box rfl rfl (fun b1 w1 e1 s1 h1 => ?_)
  have g_b1 : w.heap.size ≤ b1 := by have := E.size; omega
  have y_b1 := h1.lt
  replace E := E.trans e1
  have z1 := e1.size
  refine J_st (R_assign rfl) rfl (J_done ?_)
  refine S_seq ?_
  refine S_reg [true] rfl rfl ?_
  refine J_st (R_assign rfl) rfl (J_done ?_)
  refine S_seq ?_
  refine S_reg [true, true, false, true] rfl rfl ?_
  refine J_st (R_loadS st24 rfl h1.at rfl) rfl (J_st (R_move rfl) rfl ?_)
  refine J_call Try.call4 rfl (c_szGraph [o1, .int .i64 g.workers, .int .i64 g.cap] g 1048576 _ (Graph.mkR g (RdD.any (hd1.ext E))) (by first | omega | (simp only [mkL_length]; omega) | (rw [mkL_length]; done) | (simp only [mkL_length]; done))) rfl (fun _ w2 e2 hv => ?_)
  subst hv
  replace E := E.trans e2; replace h1 := h1.ext e2
  have z2 := e2.size
  refine J_st (R_assign rfl) rfl (J_done ?_)
  refine S_seq ?_
  refine S_seq ?_
  refine S_reg [true, true] rfl rfl ?_
  refine J_st (R_move rfl) rfl (J_st (R_lss rfl rfl) rfl (J_done ?_))
  refine S_cond rfl (fun hc1 => ?_) (fun hc1 => ?_)
  · have q1 := szM_no hc1 (by omega)
    refine S_seq ?_
    refine S_reg [true] rfl rfl ?_
    refine J_st (R_assign rfl) rfl (J_done ?_)
    refine S_ret (E_done1 rfl rfl E ?_)
    rfl
  · have q2 := szM_ok hc1 (by omega)
    refine S_skip ?_
    refine S_seq ?_
    refine S_reg [true, true, false, true] rfl rfl ?_
    refine J_st (R_move rfl) rfl (J_st (R_move rfl) rfl ?_)
    refine J_call Try.call5 rfl (c_szCellS vcs cs (szM (cntGraph g) 1048576) _ (hcs.ext E) (by first | omega | (simp only [mkL_length]; omega) | (rw [mkL_length]; done) | (simp only [mkL_length]; done))) rfl (fun _ w3 e3 hv => ?_)
    subst hv
    replace E := E.trans e3; replace h1 := h1.ext e3
    have z3 := e3.size
    refine J_st (R_assign rfl) rfl (J_done ?_)
    refine S_seq ?_
    refine S_seq ?_
    refine S_reg [true, true] rfl rfl ?_
    refine J_st (R_move rfl) rfl (J_st (R_lss rfl rfl) rfl (J_done ?_))
    refine S_cond rfl (fun hc2 => ?_) (fun hc2 => ?_)
    · have q3 := szM_no hc2 (by omega)
      refine S_seq ?_
      refine S_reg [true] rfl rfl ?_
      refine J_st (R_assign rfl) rfl (J_done ?_)
      refine S_ret (E_done1 rfl rfl E ?_)
      rfl
    · have q4 := szM_ok hc2 (by omega)
      refine S_skip ?_
      refine S_seq ?_
      refine S_reg [true, true, false, true] rfl rfl ?_
      refine J_st (R_move rfl) rfl (J_st (R_move rfl) rfl ?_)
      refine J_call Try.call6 rfl (c_szRecordS vrs rs (szM cs.length (szM (cntGraph g) 1048576)) _ (hrs.ext E) (by first | omega | (simp only [mkL_length]; omega) | (rw [mkL_length]; done) | (simp only [mkL_length]; done))) rfl (fun _ w4 e4 hv => ?_)
      subst hv
      replace E := E.trans e4; replace h1 := h1.ext e4
      have z4 := e4.size
      refine J_st (R_assign rfl) rfl (J_done ?_)
      refine S_seq ?_
      refine S_seq ?_
      refine S_reg [true, true] rfl rfl ?_
      refine J_st (R_move rfl) rfl (J_st (R_lss rfl rfl) rfl (J_done ?_))
      refine S_cond rfl (fun hc3 => ?_) (fun hc3 => ?_)
      · have q5 := szM_no hc3 (by omega)
        refine S_seq ?_
        refine S_reg [true] rfl rfl ?_
        refine J_st (R_assign rfl) rfl (J_done ?_)
        refine S_ret (E_done1 rfl rfl E ?_)
        rfl
      · have q6 := szM_ok hc3 (by omega)
        refine S_skip ?_
        refine S_seq ?_
        refine S_reg [true, false, true, false, true, false, true, false, true, true, true, true, true, true, true] rfl rfl ?_
        refine J_st (R_loadS st24 rfl h1.at rfl) rfl ?_
        refine J_call Try.call8 rfl (c_toGraph [o1, .int .i64 g.workers, .int .i64 g.cap] g _ (Graph.mkR g (RdD.any (hd1.ext E))) (by first | omega | (simp only [mkL_length]; omega) | (rw [mkL_length]; done) | (simp only [mkL_length]; done))) rfl (fun _ w5 e5 ho1 => ?_)
        obtain ⟨o2, rfl, ho1⟩ := ho1
        have g_ho1 : w.heap.size ≤ w4.heap.size := E.size
        replace E := E.trans e5; replace h1 := h1.ext e5
        have z5 := e5.size
        refine J_st (R_move rfl) rfl ?_
        refine J_call Try.call9 rfl (c_toCellS vcs cs _ (hcs.ext E) (by first | omega | (simp only [mkL_length]; omega) | (rw [mkL_length]; done) | (simp only [mkL_length]; done))) rfl (fun v1 w6 e6 ho2 => ?_)
        have g_ho2 : w.heap.size ≤ w5.heap.size := E.size
        replace E := E.trans e6; replace h1 := h1.ext e6; replace ho1 := ho1.ext e6
        have z6 := e6.size
        refine J_st (R_move rfl) rfl ?_
        refine J_call Try.call10 rfl (c_toRecordS vrs rs _ (hrs.ext E) (by first | omega | (simp only [mkL_length]; omega) | (rw [mkL_length]; done) | (simp only [mkL_length]; done))) rfl (fun v2 w7 e7 ho3 => ?_)
        have g_ho3 : w.heap.size ≤ w6.heap.size := E.size
        replace E := E.trans e7; replace h1 := h1.ext e7; replace ho1 := ho1.ext e7; replace ho2 := ho2.ext e7
        have z7 := e7.size
        refine J_st (R_move rfl) rfl ?_
        refine J_call Try.call7 rfl (s_StepAll [o2, .int .i64 g.workers, .int .i64 g.cap] g v1 cs v2 rs m _ (Graph.mkR g (RdD.any (OwS.rd ho1))) (Own.rd (by decide) ho2) (Own.rd (by decide) ho3) (by first | omega | (simp only [mkL_length]; omega) | (rw [mkL_length]; done) | (simp only [mkL_length]; done)) (by first | omega | (simp only [mkL_length]; omega) | (rw [mkL_length]; done) | (simp only [mkL_length]; done)) (by first | omega | (simp only [mkL_length]; omega) | (rw [mkL_length]; done) | (simp only [mkL_length]; done))) rfl (fun _ w8 e8 ho4 => ?_)
        obtain ⟨v3, v4, rfl, ho5, ho6, sp1⟩ := ho4
        have g_ho4 : w.heap.size ≤ w7.heap.size := E.size
        replace E := E.trans e8; replace h1 := h1.ext e8; replace ho1 := ho1.ext e8; replace ho2 := ho2.ext e8; replace ho3 := ho3.ext e8
        have z8 := e8.size
        refine J_st (R_move rfl) rfl (J_st (R_extract rfl rfl) rfl (J_st (R_extract rfl rfl) rfl (J_st (R_extract rfl rfl) rfl (J_st (R_assign rfl) rfl (J_st (R_assign rfl) rfl (J_st (R_assign rfl) rfl (J_done ?_)))))))
        refine S_seq ?_
        refine S_reg [true, false, false, false] rfl rfl ?_
        refine J_st (R_loadS st24 rfl h1.at rfl) rfl ?_
        refine J_call Try.call8 rfl (c_toGraph [o1, .int .i64 g.workers, .int .i64 g.cap] g _ (Graph.mkR g (RdD.any (hd1.ext E))) (by first | omega | (simp only [mkL_length]; omega) | (rw [mkL_length]; done) | (simp only [mkL_length]; done))) rfl (fun _ w9 e9 ho7 => ?_)
        obtain ⟨o3, rfl, ho7⟩ := ho7
        have g_ho7 : w.heap.size ≤ w8.heap.size := E.size
        replace E := E.trans e9; replace h1 := h1.ext e9; replace ho1 := ho1.ext e9; replace ho2 := ho2.ext e9; replace ho3 := ho3.ext e9; replace ho5 := ho5.ext e9; replace ho6 := ho6.ext e9
        have z9 := e9.size
        refine J_alloc st36 rfl (fun b2 w10 e10 s2 h2 => ?_)
        have g_b2 : w.heap.size ≤ b2 := by have := E.size; omega
        have y_b2 := h2.lt
        replace E := E.trans e10; replace h1 := h1.ext e10; replace ho1 := ho1.ext e10; replace ho2 := ho2.ext e10; replace ho3 := ho3.ext e10; replace ho5 := ho5.ext e10; replace ho6 := ho6.ext e10; replace ho7 := ho7.ext e10
        have z10 := e10.size
        refine J_storeS' (cs' := [o3, .int .i64 g.workers, .int .i64 g.cap]) st36 rfl rfl rfl (all_cons (RdD.one (OwS.rd ho7)) (all_cons rfl (all_cons rfl rfl))) h2 (Nat.le_of_ble_eq_true rfl) rfl (fun w11 m1 h2' => ?_)
        replace h2 := h2'
        replace E := E.step m1 (fun g hg => by cases hg; omega); replace h1 := h1.mod m1 (fun g hg => by cases hg; omega); replace ho1 := ho1.mod m1 (fun g hg => by cases hg; omega); replace ho2 := ho2.mod m1 (fun g hg => by cases hg; omega); replace ho3 := ho3.mod m1 (fun g hg => by cases hg; omega); replace ho5 := ho5.mod m1 (fun g hg => by cases hg; omega); replace ho6 := ho6.mod m1 (fun g hg => by cases hg; omega); replace ho7 := ho7.mod m1 (fun g hg => by cases hg; omega)
        have z11 := m1.size
        refine J_done ?_
        refine S_seq ?_
        refine S_reg [true, false, true] rfl rfl ?_
        refine J_st (R_move rfl) rfl ?_
        refine J_call Try.call9 rfl (c_toCellS vcs cs _ (hcs.ext E) (by first | omega | (simp only [mkL_length]; omega) | (rw [mkL_length]; done) | (simp only [mkL_length]; done))) rfl (fun v5 w12 e11 ho8 => ?_)
        have g_ho8 : w.heap.size ≤ w11.heap.size := E.size
        replace E := E.trans e11; replace h1 := h1.ext e11; replace ho1 := ho1.ext e11; replace ho2 := ho2.ext e11; replace ho3 := ho3.ext e11; replace ho5 := ho5.ext e11; replace ho6 := ho6.ext e11; replace ho7 := ho7.ext e11; replace h2 := h2.ext e11
        have z12 := e11.size
        refine J_st (R_assign rfl) rfl (J_done ?_)
        refine S_seq ?_
        refine S_reg [true, false, true] rfl rfl ?_
        refine J_st (R_move rfl) rfl ?_
        refine J_call Try.call10 rfl (c_toRecordS vrs rs _ (hrs.ext E) (by first | omega | (simp only [mkL_length]; omega) | (rw [mkL_length]; done) | (simp only [mkL_length]; done))) rfl (fun v6 w13 e12 ho9 => ?_)
        have g_ho9 : w.heap.size ≤ w12.heap.size := E.size
        replace E := E.trans e12; replace h1 := h1.ext e12; replace ho1 := ho1.ext e12; replace ho2 := ho2.ext e12; replace ho3 := ho3.ext e12; replace ho5 := ho5.ext e12; replace ho6 := ho6.ext e12; replace ho7 := ho7.ext e12; replace h2 := h2.ext e12; replace ho8 := ho8.ext e12
        have z13 := e12.size
        refine J_st (R_assign rfl) rfl (J_done ?_)
        refine S_seq ?_
        refine S_reg [true, true, true, true, false, true, true, true, true, true, true, true] rfl rfl ?_
        refine J_st (R_loadS st36 rfl h2.at rfl) rfl (J_st (R_move rfl) rfl (J_st (R_move rfl) rfl (J_st (R_move rfl) rfl ?_)))
        refine J_call Try.call11 rfl (c_StepAll [o3, .int .i64 g.workers, .int .i64 g.cap] g v5 cs v6 rs m _ (Graph.mkR g (RdD.any (OwS.rd ho7))) (Own.rd (by decide) ho8) (Own.rd (by decide) ho9) (by first | omega | (simp only [mkL_length]; omega) | (rw [mkL_length]; done) | (simp only [mkL_length]; done)) (by first | omega | (simp only [mkL_length]; omega) | (rw [mkL_length]; done) | (simp only [mkL_length]; done))) rfl (fun _ w14 e13 ho10 => ?_)
        obtain ⟨v7, v8, rfl, ho11, ho12, sp2⟩ := ho10
        have g_ho10 : w.heap.size ≤ w13.heap.size := E.size
        replace E := E.trans e13; replace h1 := h1.ext e13; replace ho1 := ho1.ext e13; replace ho2 := ho2.ext e13; replace ho3 := ho3.ext e13; replace ho5 := ho5.ext e13; replace ho6 := ho6.ext e13; replace ho7 := ho7.ext e13; replace h2 := h2.ext e13; replace ho8 := ho8.ext e13; replace ho9 := ho9.ext e13
        have z14 := e13.size
        refine J_st (R_move rfl) rfl (J_st (R_extract rfl rfl) rfl (J_st (R_extract rfl rfl) rfl (J_st (R_extract rfl rfl) rfl (J_st (R_assign rfl) rfl (J_st (R_assign rfl) rfl (J_st (R_assign rfl) rfl (J_done ?_)))))))
        refine S_seq ?_
        refine S_seq ?_
        refine S_reg [true, true, false, true, true, true, true, false, true, true, true, true, true, true, true] rfl rfl ?_
        refine J_st (R_move rfl) rfl (J_st (R_move rfl) rfl ?_)
        refine J_call Try.call12 rfl (c_eqCellS v7 ((stepAllM g cs rs m).1) v3 ((stepAllM g cs rs m).1) _ (Own.rd (by decide) ho11) (Own.rd (by decide) ho5)) rfl (fun _ w15 e14 hv => ?_)
        subst hv
        replace E := E.trans e14; replace h1 := h1.ext e14; replace ho1 := ho1.ext e14; replace ho2 := ho2.ext e14; replace ho3 := ho3.ext e14; replace ho5 := ho5.ext e14; replace ho6 := ho6.ext e14; replace ho7 := ho7.ext e14; replace h2 := h2.ext e14; replace ho8 := ho8.ext e14; replace ho9 := ho9.ext e14; replace ho11 := ho11.ext e14; replace ho12 := ho12.ext e14
        have z15 := e14.size
        refine J_st (R_not rfl) rfl (J_st (R_move rfl) rfl ?_)
        refine J_cut 10 [(0, .agg [o1, .int .i64 g.workers, .int .i64 g.cap].toArray), (1, vcs), (2, vrs), (3, .int .i64 m), (4, .pointer (some ⟨b1, 0, none⟩)), (8, .bool false), (9, .int .i64 (szM rs.length (szM cs.length (szM (cntGraph g) 1048576)))), (10, v3), (11, v4), (12, .int .i64 (((stepAllM g cs rs m).2.2 : Nat) : Int)), (13, .pointer (some ⟨b2, 0, none⟩)), (14, v5), (15, v6), (16, v7), (17, v8), (18, .int .i64 (((stepAllM g cs rs m).2.2 : Nat) : Int)), (25, .agg [o1, .int .i64 g.workers, .int .i64 g.cap].toArray), (26, .int .i64 1048576), (27, .int .i64 (szM (cntGraph g) 1048576)), (28, .int .i64 (szM (cntGraph g) 1048576)), (29, .bool (decide ((szM (cntGraph g) 1048576) < 0))), (30, vcs), (31, .int .i64 (szM (cntGraph g) 1048576)), (32, .int .i64 (szM cs.length (szM (cntGraph g) 1048576))), (33, .int .i64 (szM cs.length (szM (cntGraph g) 1048576))), (34, .bool (decide ((szM cs.length (szM (cntGraph g) 1048576)) < 0))), (35, vrs), (36, .int .i64 (szM cs.length (szM (cntGraph g) 1048576))), (37, .int .i64 (szM rs.length (szM cs.length (szM (cntGraph g) 1048576)))), (38, .int .i64 (szM rs.length (szM cs.length (szM (cntGraph g) 1048576)))), (39, .bool (decide ((szM rs.length (szM cs.length (szM (cntGraph g) 1048576))) < 0))), (40, .tuple [v3, v4, .int .i64 (((stepAllM g cs rs m).2.2 : Nat) : Int)].toArray), (41, .agg [o1, .int .i64 g.workers, .int .i64 g.cap].toArray), (42, .agg [o2, .int .i64 g.workers, .int .i64 g.cap].toArray), (43, vcs), (44, v1), (45, vrs), (46, v2), (47, .int .i64 m), (48, .tuple [v3, v4, .int .i64 (((stepAllM g cs rs m).2.2 : Nat) : Int)].toArray), (49, v3), (50, v4), (51, .int .i64 (((stepAllM g cs rs m).2.2 : Nat) : Int)), (52, .agg [o1, .int .i64 g.workers, .int .i64 g.cap].toArray), (53, .agg [o3, .int .i64 g.workers, .int .i64 g.cap].toArray), (54, vcs), (55, v5), (56, vrs), (57, v6), (58, .tuple [v7, v8, .int .i64 (((stepAllM g cs rs m).2.2 : Nat) : Int)].toArray), (59, .agg [o3, .int .i64 g.workers, .int .i64 g.cap].toArray), (60, v5), (61, v6), (62, .int .i64 m), (63, .tuple [v7, v8, .int .i64 (((stepAllM g cs rs m).2.2 : Nat) : Int)].toArray), (64, v7), (65, v8), (66, .int .i64 (((stepAllM g cs rs m).2.2 : Nat) : Int)), (81, .bool (((!(decide (((stepAllM g cs rs m).1) = ((stepAllM g cs rs m).1)))) || (!(decide (((stepAllM g cs rs m).2.1) = ((stepAllM g cs rs m).2.1))))) || ((((stepAllM g cs rs m).2.2 : Nat) : Int) != (((stepAllM g cs rs m).2.2 : Nat) : Int))))] (fun w' => Ext w w' ∧ w15.heap.size ≤ w'.heap.size ∧ Blk w' b1 ([o1, .int .i64 g.workers, .int .i64 g.cap]) ∧ OwS w' w4.heap.size w5.heap.size o2 g.nodes ∧ Own w' w5.heap.size w6.heap.size 4 v1 (List.flatMap (Enc.enc (α := Cell)) cs) ∧ Own w' w6.heap.size w7.heap.size 5 v2 (List.flatMap (Enc.enc (α := Record)) rs) ∧ Own w' w7.heap.size w8.heap.size 4 v3 (List.flatMap (Enc.enc (α := Cell)) ((stepAllM g cs rs m).1)) ∧ Own w' w7.heap.size w8.heap.size 5 v4 (List.flatMap (Enc.enc (α := Record)) ((stepAllM g cs rs m).2.1)) ∧ OwS w' w8.heap.size w9.heap.size o3 g.nodes ∧ Blk w' b2 [o3, .int .i64 g.workers, .int .i64 g.cap] ∧ Own w' w11.heap.size w12.heap.size 4 v5 (List.flatMap (Enc.enc (α := Cell)) cs) ∧ Own w' w12.heap.size w13.heap.size 5 v6 (List.flatMap (Enc.enc (α := Record)) rs) ∧ Own w' w13.heap.size w14.heap.size 4 v7 (List.flatMap (Enc.enc (α := Cell)) ((stepAllM g cs rs m).1)) ∧ Own w' w13.heap.size w14.heap.size 5 v8 (List.flatMap (Enc.enc (α := Record)) ((stepAllM g cs rs m).2.1))) ?_ ?_
        · refine J_if (gd := 71) rfl rfl (fun hg1 => ?_) (fun hg1 => ?_)
          · exact absurd hg1 (by first | (simp; done) | (simp only [nat_nlt] <;> simp) | (simp only [mkL_length, nat_nlt] <;> simp) | (simp only [mkL_length] <;> simp))
          · refine J_gd rfl rfl (R_move rfl) rfl (J_gd rfl rfl (R_move rfl) rfl ?_)
            refine J_ung rfl rfl ?_
            refine J_call Try.call13 rfl (c_eqRecordS v8 ((stepAllM g cs rs m).2.1) v4 ((stepAllM g cs rs m).2.1) _ (Own.rd (by decide) ho12) (Own.rd (by decide) ho6)) rfl (fun _ w17 e15 hv => ?_)
            subst hv
            replace E := E.trans e15; replace h1 := h1.ext e15; replace ho1 := ho1.ext e15; replace ho2 := ho2.ext e15; replace ho3 := ho3.ext e15; replace ho5 := ho5.ext e15; replace ho6 := ho6.ext e15; replace ho7 := ho7.ext e15; replace h2 := h2.ext e15; replace ho8 := ho8.ext e15; replace ho9 := ho9.ext e15; replace ho11 := ho11.ext e15; replace ho12 := ho12.ext e15
            have z16 := e15.size
            refine J_gd rfl rfl (R_not rfl) rfl (J_st (R_pickF rfl rfl) rfl (J_st (R_move rfl) rfl ?_))
            refine J_if (gd := 77) rfl rfl (fun hg2 => ?_) (fun hg2 => ?_)
            · exact absurd hg2 (by first | (simp; done) | (simp only [nat_nlt] <;> simp) | (simp only [mkL_length, nat_nlt] <;> simp) | (simp only [mkL_length] <;> simp))
            · refine J_gd rfl rfl (R_move rfl) rfl (J_gd rfl rfl (R_move rfl) rfl (J_gd rfl rfl (R_neq rfl rfl) rfl (J_st (R_pickF rfl rfl) rfl (J_cutEnd ⟨rfl, rfl, rfl, rfl, rfl, rfl, rfl, rfl, rfl, rfl, rfl, rfl, rfl, rfl, rfl, rfl, rfl, rfl, rfl, rfl, rfl, rfl, rfl, rfl, rfl, rfl, rfl, rfl, rfl, rfl, rfl, rfl, rfl, rfl, rfl, rfl, rfl, rfl, rfl, rfl, rfl, rfl, rfl, rfl, rfl, rfl, rfl, rfl, rfl, rfl, rfl, rfl, rfl, rfl, rfl, rfl, rfl, rfl, congrArg (fun b => some (Value.bool b)) (show ((((stepAllM g cs rs m).2.2 : Nat) : Int) != (((stepAllM g cs rs m).2.2 : Nat) : Int)) = (((!(decide (((stepAllM g cs rs m).1) = ((stepAllM g cs rs m).1)))) || (!(decide (((stepAllM g cs rs m).2.1) = ((stepAllM g cs rs m).2.1))))) || ((((stepAllM g cs rs m).2.2 : Nat) : Int) != (((stepAllM g cs rs m).2.2 : Nat) : Int))) by first | (rw [hg1, hg2] <;> rfl) | (simp [hg1, hg2]; done) | (simp only [nat_nlt] <;> simp)), trivial⟩ ⟨E, (by omega), h1, ho1, ho2, ho3, ho5, ho6, ho7, h2, ho8, ho9, ho11, ho12⟩))))
        clear E h1 ho1 ho2 ho3 ho5 ho6 ho7 h2 ho8 ho9 ho11 ho12
        rintro w16 ⟨E, z17, h1, ho1, ho2, ho3, ho5, ho6, ho7, h2, ho8, ho9, ho11, ho12⟩
        refine J_done ?_
        refine S_condFe rfl (by first | (simp; done) | (simp only [nat_nlt] <;> simp) | (simp only [mkL_length, nat_nlt] <;> simp) | (simp only [mkL_length] <;> simp)) ?_
        refine S_skip ?_
        refine S_seq ?_
        refine S_seq ?_
        refine S_regD mixed [(0, true), (1, true), (2, false), (3, false), (4, true)] (by decide +kernel) rfl (fun w18 e16 => ?_)
        replace E := E.trans e16; replace h1 := h1.ext e16; replace ho1 := ho1.ext e16; replace ho2 := ho2.ext e16; replace ho3 := ho3.ext e16; replace ho5 := ho5.ext e16; replace ho6 := ho6.ext e16; replace ho7 := ho7.ext e16; replace h2 := h2.ext e16; replace ho8 := ho8.ext e16; replace ho9 := ho9.ext e16; replace ho11 := ho11.ext e16; replace ho12 := ho12.ext e16
        have z18 := e16.size
        refine J_st (R_loadS st36 rfl h2.at rfl) rfl (J_st (R_loadS st24 rfl h1.at rfl) rfl ?_)
        refine J_call Try.call8 rfl (c_toGraph [o1, .int .i64 g.workers, .int .i64 g.cap] g _ (Graph.mkR g (RdD.any (hd1.ext E))) (by first | omega | (simp only [mkL_length]; omega) | (rw [mkL_length]; done) | (simp only [mkL_length]; done))) rfl (fun _ w19 e17 ho13 => ?_)
        obtain ⟨o4, rfl, ho13⟩ := ho13
        have g_ho13 : w.heap.size ≤ w18.heap.size := E.size
        replace E := E.trans e17; replace h1 := h1.ext e17; replace ho1 := ho1.ext e17; replace ho2 := ho2.ext e17; replace ho3 := ho3.ext e17; replace ho5 := ho5.ext e17; replace ho6 := ho6.ext e17; replace ho7 := ho7.ext e17; replace h2 := h2.ext e17; replace ho8 := ho8.ext e17; replace ho9 := ho9.ext e17; replace ho11 := ho11.ext e17; replace ho12 := ho12.ext e17
        have z19 := e17.size
        refine J_call Try.call14 rfl (c_eqGraph [o3, .int .i64 g.workers, .int .i64 g.cap] g [o4, .int .i64 g.workers, .int .i64 g.cap] g _ (Graph.mkR g (RdD.any (OwS.rd ho7))) (Graph.mkR g (RdD.any (OwS.rd ho13)))) rfl (fun _ w20 e18 hv => ?_)
        subst hv
        replace E := E.trans e18; replace h1 := h1.ext e18; replace ho1 := ho1.ext e18; replace ho2 := ho2.ext e18; replace ho3 := ho3.ext e18; replace ho5 := ho5.ext e18; replace ho6 := ho6.ext e18; replace ho7 := ho7.ext e18; replace h2 := h2.ext e18; replace ho8 := ho8.ext e18; replace ho9 := ho9.ext e18; replace ho11 := ho11.ext e18; replace ho12 := ho12.ext e18; replace ho13 := ho13.ext e18
        have z20 := e18.size
        refine J_st (R_not rfl) rfl (J_done ?_)
        refine S_condFe rfl (by first | (simp; done) | (simp only [nat_nlt] <;> simp) | (simp only [mkL_length, nat_nlt] <;> simp) | (simp only [mkL_length] <;> simp)) ?_
        refine S_skip ?_
        refine S_seq ?_
        refine S_seq ?_
        refine S_reg [true, true, false, false, true] rfl rfl ?_
        refine J_st (R_move rfl) rfl (J_st (R_move rfl) rfl ?_)
        refine J_call Try.call9 rfl (c_toCellS vcs cs _ (hcs.ext E) (by first | omega | (simp only [mkL_length]; omega) | (rw [mkL_length]; done) | (simp only [mkL_length]; done))) rfl (fun v9 w21 e19 ho14 => ?_)
        have g_ho14 : w.heap.size ≤ w20.heap.size := E.size
        replace E := E.trans e19; replace h1 := h1.ext e19; replace ho1 := ho1.ext e19; replace ho2 := ho2.ext e19; replace ho3 := ho3.ext e19; replace ho5 := ho5.ext e19; replace ho6 := ho6.ext e19; replace ho7 := ho7.ext e19; replace h2 := h2.ext e19; replace ho8 := ho8.ext e19; replace ho9 := ho9.ext e19; replace ho11 := ho11.ext e19; replace ho12 := ho12.ext e19; replace ho13 := ho13.ext e19
        have z21 := e19.size
        refine J_call Try.call12 rfl (c_eqCellS v5 cs v9 cs _ (Own.rd (by decide) ho8) (Own.rd (by decide) ho14)) rfl (fun _ w22 e20 hv => ?_)
        subst hv
        replace E := E.trans e20; replace h1 := h1.ext e20; replace ho1 := ho1.ext e20; replace ho2 := ho2.ext e20; replace ho3 := ho3.ext e20; replace ho5 := ho5.ext e20; replace ho6 := ho6.ext e20; replace ho7 := ho7.ext e20; replace h2 := h2.ext e20; replace ho8 := ho8.ext e20; replace ho9 := ho9.ext e20; replace ho11 := ho11.ext e20; replace ho12 := ho12.ext e20; replace ho13 := ho13.ext e20; replace ho14 := ho14.ext e20
        have z22 := e20.size
        refine J_st (R_not rfl) rfl (J_done ?_)
        refine S_condFe rfl (by first | (simp; done) | (simp only [nat_nlt] <;> simp) | (simp only [mkL_length, nat_nlt] <;> simp) | (simp only [mkL_length] <;> simp)) ?_
        refine S_skip ?_
        refine S_seq ?_
        refine S_seq ?_
        refine S_reg [true, true, false, false, true] rfl rfl ?_
        refine J_st (R_move rfl) rfl (J_st (R_move rfl) rfl ?_)
        refine J_call Try.call10 rfl (c_toRecordS vrs rs _ (hrs.ext E) (by first | omega | (simp only [mkL_length]; omega) | (rw [mkL_length]; done) | (simp only [mkL_length]; done))) rfl (fun v10 w23 e21 ho15 => ?_)
        have g_ho15 : w.heap.size ≤ w22.heap.size := E.size
        replace E := E.trans e21; replace h1 := h1.ext e21; replace ho1 := ho1.ext e21; replace ho2 := ho2.ext e21; replace ho3 := ho3.ext e21; replace ho5 := ho5.ext e21; replace ho6 := ho6.ext e21; replace ho7 := ho7.ext e21; replace h2 := h2.ext e21; replace ho8 := ho8.ext e21; replace ho9 := ho9.ext e21; replace ho11 := ho11.ext e21; replace ho12 := ho12.ext e21; replace ho13 := ho13.ext e21; replace ho14 := ho14.ext e21
        have z23 := e21.size
        refine J_call Try.call13 rfl (c_eqRecordS v6 rs v10 rs _ (Own.rd (by decide) ho9) (Own.rd (by decide) ho15)) rfl (fun _ w24 e22 hv => ?_)
        subst hv
        replace E := E.trans e22; replace h1 := h1.ext e22; replace ho1 := ho1.ext e22; replace ho2 := ho2.ext e22; replace ho3 := ho3.ext e22; replace ho5 := ho5.ext e22; replace ho6 := ho6.ext e22; replace ho7 := ho7.ext e22; replace h2 := h2.ext e22; replace ho8 := ho8.ext e22; replace ho9 := ho9.ext e22; replace ho11 := ho11.ext e22; replace ho12 := ho12.ext e22; replace ho13 := ho13.ext e22; replace ho14 := ho14.ext e22; replace ho15 := ho15.ext e22
        have z24 := e22.size
        refine J_st (R_not rfl) rfl (J_done ?_)
        refine S_condFe rfl (by first | (simp; done) | (simp only [nat_nlt] <;> simp) | (simp only [mkL_length, nat_nlt] <;> simp) | (simp only [mkL_length] <;> simp)) ?_
        refine S_skip ?_
        refine S_seq ?_
        refine S_reg [true] rfl rfl ?_
        refine J_st (R_assign rfl) rfl (J_done ?_)
        refine S_seq ?_
        refine S_reg [true, true, false, true] rfl rfl ?_
        refine J_st (R_loadS st36 rfl h2.at rfl) rfl (J_st (R_move rfl) rfl ?_)
        refine J_callR Try.call15 rfl rfl (markGraph o3 w8.heap.size w9.heap.size g 1 _ ho7 (by omega) (by first | omega | (simp only [mkL_length]; omega) | (rw [mkL_length]; done) | (simp only [mkL_length]; done))) rfl (fun _ w25 e23 hv => ?_)
        obtain ⟨rfl, ho7'⟩ := hv
        replace ho7 := ho7'
        replace E := E.stepR e23 (by omega); replace h1 := h1.modR e23 (by omega); replace ho1 := ho1.modR e23 (by omega); replace ho2 := ho2.modR e23 (by omega); replace ho3 := ho3.modR e23 (by omega); replace ho5 := ho5.modR e23 (by omega); replace ho6 := ho6.modR e23 (by omega); replace h2 := h2.modR e23 (by omega); replace ho8 := ho8.modR e23 (by omega); replace ho9 := ho9.modR e23 (by omega); replace ho11 := ho11.modR e23 (by omega); replace ho12 := ho12.modR e23 (by omega); replace ho13 := ho13.modR e23 (by omega); replace ho14 := ho14.modR e23 (by omega); replace ho15 := ho15.modR e23 (by omega)
        have z25 := e23.size
        refine J_st (R_assign rfl) rfl (J_done ?_)
        refine S_seq ?_
        refine S_reg [true, true, false, true] rfl rfl ?_
        refine J_st (R_move rfl) rfl (J_st (R_move rfl) rfl ?_)
        refine J_callR Try.call16 rfl rfl (markCellS v5 w11.heap.size w12.heap.size cs (numNs 1 g.nodes) _ ho8 (by first | omega | (simp only [mkL_length]; omega) | (rw [mkL_length]; done) | (simp only [mkL_length]; done))) rfl (fun _ w26 e24 hv => ?_)
        obtain ⟨rfl, ho8'⟩ := hv
        replace ho8 := ho8'
        replace E := E.stepR e24 (by omega); replace h1 := h1.modR e24 (by omega); replace ho1 := ho1.modR e24 (by omega); replace ho2 := ho2.modR e24 (by omega); replace ho3 := ho3.modR e24 (by omega); replace ho5 := ho5.modR e24 (by omega); replace ho6 := ho6.modR e24 (by omega); replace ho7 := ho7.modR e24 (by omega); replace h2 := h2.modR e24 (by omega); replace ho9 := ho9.modR e24 (by omega); replace ho11 := ho11.modR e24 (by omega); replace ho12 := ho12.modR e24 (by omega); replace ho13 := ho13.modR e24 (by omega); replace ho14 := ho14.modR e24 (by omega); replace ho15 := ho15.modR e24 (by omega)
        have z26 := e24.size
        refine J_st (R_assign rfl) rfl (J_done ?_)
        refine S_seq ?_
        refine S_reg [true, true, false, true] rfl rfl ?_
        refine J_st (R_move rfl) rfl (J_st (R_move rfl) rfl ?_)
        refine J_callR Try.call17 rfl rfl (markRecordS v6 w12.heap.size w13.heap.size rs ((numNs 1 g.nodes) + 4 * cs.length) _ ho9 (by first | omega | (simp only [mkL_length]; omega) | (rw [mkL_length]; done) | (simp only [mkL_length]; done))) rfl (fun _ w27 e25 hv => ?_)
        obtain ⟨rfl, ho9'⟩ := hv
        replace ho9 := ho9'
        replace E := E.stepR e25 (by omega); replace h1 := h1.modR e25 (by omega); replace ho1 := ho1.modR e25 (by omega); replace ho2 := ho2.modR e25 (by omega); replace ho3 := ho3.modR e25 (by omega); replace ho5 := ho5.modR e25 (by omega); replace ho6 := ho6.modR e25 (by omega); replace ho7 := ho7.modR e25 (by omega); replace h2 := h2.modR e25 (by omega); replace ho8 := ho8.modR e25 (by omega); replace ho11 := ho11.modR e25 (by omega); replace ho12 := ho12.modR e25 (by omega); replace ho13 := ho13.modR e25 (by omega); replace ho14 := ho14.modR e25 (by omega); replace ho15 := ho15.modR e25 (by omega)
        have z27 := e25.size
        refine J_st (R_assign rfl) rfl (J_done ?_)
        refine S_seq ?_
        refine S_seq ?_
        refine S_reg [true, true, true, true, true, false, true, true, true, true, true, false, true, true, true, true, true, true, true] rfl rfl ?_
        refine J_st (R_move rfl) rfl (J_st (R_lss rfl rfl) rfl (J_st (R_move rfl) rfl ?_))
        refine J_cut 16 [(0, .agg [o1, .int .i64 g.workers, .int .i64 g.cap].toArray), (1, vcs), (2, vrs), (3, .int .i64 m), (4, .pointer (some ⟨b1, 0, none⟩)), (8, .bool false), (9, .int .i64 (szM rs.length (szM cs.length (szM (cntGraph g) 1048576)))), (10, v3), (11, v4), (12, .int .i64 (((stepAllM g cs rs m).2.2 : Nat) : Int)), (13, .pointer (some ⟨b2, 0, none⟩)), (14, v5), (15, v6), (16, v7), (17, v8), (18, .int .i64 (((stepAllM g cs rs m).2.2 : Nat) : Int)), (19, .int .i64 ((((numNs 1 g.nodes) + 4 * cs.length) + 5 * rs.length : Nat) : Int)), (25, .agg [o1, .int .i64 g.workers, .int .i64 g.cap].toArray), (26, .int .i64 1048576), (27, .int .i64 (szM (cntGraph g) 1048576)), (28, .int .i64 (szM (cntGraph g) 1048576)), (29, .bool (decide ((szM (cntGraph g) 1048576) < 0))), (30, vcs), (31, .int .i64 (szM (cntGraph g) 1048576)), (32, .int .i64 (szM cs.length (szM (cntGraph g) 1048576))), (33, .int .i64 (szM cs.length (szM (cntGraph g) 1048576))), (34, .bool (decide ((szM cs.length (szM (cntGraph g) 1048576)) < 0))), (35, vrs), (36, .int .i64 (szM cs.length (szM (cntGraph g) 1048576))), (37, .int .i64 (szM rs.length (szM cs.length (szM (cntGraph g) 1048576)))), (38, .int .i64 (szM rs.length (szM cs.length (szM (cntGraph g) 1048576)))), (39, .bool (decide ((szM rs.length (szM cs.length (szM (cntGraph g) 1048576))) < 0))), (40, .tuple [v3, v4, .int .i64 (((stepAllM g cs rs m).2.2 : Nat) : Int)].toArray), (41, .agg [o1, .int .i64 g.workers, .int .i64 g.cap].toArray), (42, .agg [o2, .int .i64 g.workers, .int .i64 g.cap].toArray), (43, vcs), (44, v1), (45, vrs), (46, v2), (47, .int .i64 m), (48, .tuple [v3, v4, .int .i64 (((stepAllM g cs rs m).2.2 : Nat) : Int)].toArray), (49, v3), (50, v4), (51, .int .i64 (((stepAllM g cs rs m).2.2 : Nat) : Int)), (52, .agg [o1, .int .i64 g.workers, .int .i64 g.cap].toArray), (53, .agg [o3, .int .i64 g.workers, .int .i64 g.cap].toArray), (54, vcs), (55, v5), (56, vrs), (57, v6), (58, .tuple [v7, v8, .int .i64 (((stepAllM g cs rs m).2.2 : Nat) : Int)].toArray), (59, .agg [o3, .int .i64 g.workers, .int .i64 g.cap].toArray), (60, v5), (61, v6), (62, .int .i64 m), (63, .tuple [v7, v8, .int .i64 (((stepAllM g cs rs m).2.2 : Nat) : Int)].toArray), (64, v7), (65, v8), (66, .int .i64 (((stepAllM g cs rs m).2.2 : Nat) : Int)), (81, .bool (((!(decide (((stepAllM g cs rs m).1) = ((stepAllM g cs rs m).1)))) || (!(decide (((stepAllM g cs rs m).2.1) = ((stepAllM g cs rs m).2.1))))) || ((((stepAllM g cs rs m).2.2 : Nat) : Int) != (((stepAllM g cs rs m).2.2 : Nat) : Int)))), (82, .agg [o3, .int .i64 g.workers, .int .i64 g.cap].toArray), (83, .agg [o1, .int .i64 g.workers, .int .i64 g.cap].toArray), (84, .agg [o4, .int .i64 g.workers, .int .i64 g.cap].toArray), (85, .bool (decide (g = g))), (86, .bool (!(decide (g = g)))), (87, v5), (88, vcs), (89, v9), (90, .bool (decide (cs = cs))), (91, .bool (!(decide (cs = cs)))), (92, v6), (93, vrs), (94, v10), (95, .bool (decide (rs = rs))), (96, .bool (!(decide (rs = rs)))), (97, .agg [o3, .int .i64 g.workers, .int .i64 g.cap].toArray), (98, .int .i64 1), (99, .int .i64 ((numNs 1 g.nodes : Nat) : Int)), (100, v5), (101, .int .i64 ((numNs 1 g.nodes : Nat) : Int)), (102, .int .i64 (((numNs 1 g.nodes) + 4 * cs.length : Nat) : Int)), (103, v6), (104, .int .i64 (((numNs 1 g.nodes) + 4 * cs.length : Nat) : Int)), (105, .int .i64 ((((numNs 1 g.nodes) + 4 * cs.length) + 5 * rs.length : Nat) : Int)), (124, .bool ((((decide (((((numNs 1 g.nodes) + 4 * cs.length) + 5 * rs.length : Nat) : Int) < 0)) || (!(decide (((stepAllM g cs rs m).1) = ((stepAllM g cs rs m).1))))) || (!(decide (((stepAllM g cs rs m).2.1) = ((stepAllM g cs rs m).2.1))))) || ((((stepAllM g cs rs m).2.2 : Nat) : Int) != (((stepAllM g cs rs m).2.2 : Nat) : Int))))] (fun w' => Ext w w' ∧ w27.heap.size ≤ w'.heap.size ∧ Blk w' b1 ([o1, .int .i64 g.workers, .int .i64 g.cap]) ∧ OwS w' w4.heap.size w5.heap.size o2 g.nodes ∧ Own w' w5.heap.size w6.heap.size 4 v1 (List.flatMap (Enc.enc (α := Cell)) cs) ∧ Own w' w6.heap.size w7.heap.size 5 v2 (List.flatMap (Enc.enc (α := Record)) rs) ∧ Own w' w7.heap.size w8.heap.size 4 v3 (List.flatMap (Enc.enc (α := Cell)) ((stepAllM g cs rs m).1)) ∧ Own w' w7.heap.size w8.heap.size 5 v4 (List.flatMap (Enc.enc (α := Record)) ((stepAllM g cs rs m).2.1)) ∧ OwS w' w8.heap.size w9.heap.size o3 (markNs 1 g.nodes) ∧ Blk w' b2 [o3, .int .i64 g.workers, .int .i64 g.cap] ∧ Own w' w11.heap.size w12.heap.size 4 v5 (List.flatMap (Enc.enc (α := Cell)) (mkL 4 mkCell (numNs 1 g.nodes) cs.length)) ∧ Own w' w12.heap.size w13.heap.size 5 v6 (List.flatMap (Enc.enc (α := Record)) (mkL 5 mkRecord ((numNs 1 g.nodes) + 4 * cs.length) rs.length)) ∧ Own w' w13.heap.size w14.heap.size 4 v7 (List.flatMap (Enc.enc (α := Cell)) ((stepAllM g cs rs m).1)) ∧ Own w' w13.heap.size w14.heap.size 5 v8 (List.flatMap (Enc.enc (α := Record)) ((stepAllM g cs rs m).2.1)) ∧ OwS w' w18.heap.size w19.heap.size o4 g.nodes ∧ Own w' w20.heap.size w21.heap.size 4 v9 (List.flatMap (Enc.enc (α := Cell)) cs) ∧ Own w' w22.heap.size w23.heap.size 5 v10 (List.flatMap (Enc.enc (α := Record)) rs)) ?_ ?_
        · refine J_if (gd := 108) rfl rfl (fun hg3 => ?_) (fun hg3 => ?_)
          · exact absurd hg3 (by first | (simp; done) | (simp only [nat_nlt] <;> simp) | (simp only [mkL_length, nat_nlt] <;> simp) | (simp only [mkL_length] <;> simp))
          · have hg3n : ¬ ((numNs 1 g.nodes) + 4 * cs.length) + 5 * rs.length < 0 := by first | (have h := of_decide_eq_false hg3; omega) | (have h := hg3; simp at h; omega)
            refine J_gd rfl rfl (R_move rfl) rfl (J_gd rfl rfl (R_move rfl) rfl ?_)
            refine J_ung rfl rfl ?_
            refine J_call Try.call12 rfl (c_eqCellS v7 ((stepAllM g cs rs m).1) v3 ((stepAllM g cs rs m).1) _ (Own.rd (by decide) ho11) (Own.rd (by decide) ho5)) rfl (fun _ w29 e26 hv => ?_)
            subst hv
            replace E := E.trans e26; replace h1 := h1.ext e26; replace ho1 := ho1.ext e26; replace ho2 := ho2.ext e26; replace ho3 := ho3.ext e26; replace ho5 := ho5.ext e26; replace ho6 := ho6.ext e26; replace ho7 := ho7.ext e26; replace h2 := h2.ext e26; replace ho8 := ho8.ext e26; replace ho9 := ho9.ext e26; replace ho11 := ho11.ext e26; replace ho12 := ho12.ext e26; replace ho13 := ho13.ext e26; replace ho14 := ho14.ext e26; replace ho15 := ho15.ext e26
            have z28 := e26.size
            refine J_gd rfl rfl (R_not rfl) rfl (J_st (R_pickF rfl rfl) rfl (J_st (R_move rfl) rfl ?_))
            refine J_if (gd := 114) rfl rfl (fun hg4 => ?_) (fun hg4 => ?_)
            · exact absurd hg4 (by first | (simp; done) | (simp only [nat_nlt] <;> simp) | (simp only [mkL_length, nat_nlt] <;> simp) | (simp only [mkL_length] <;> simp))
            · refine J_gd rfl rfl (R_move rfl) rfl (J_gd rfl rfl (R_move rfl) rfl ?_)
              refine J_ung rfl rfl ?_
              refine J_call Try.call13 rfl (c_eqRecordS v8 ((stepAllM g cs rs m).2.1) v4 ((stepAllM g cs rs m).2.1) _ (Own.rd (by decide) ho12) (Own.rd (by decide) ho6)) rfl (fun _ w30 e27 hv => ?_)
              subst hv
              replace E := E.trans e27; replace h1 := h1.ext e27; replace ho1 := ho1.ext e27; replace ho2 := ho2.ext e27; replace ho3 := ho3.ext e27; replace ho5 := ho5.ext e27; replace ho6 := ho6.ext e27; replace ho7 := ho7.ext e27; replace h2 := h2.ext e27; replace ho8 := ho8.ext e27; replace ho9 := ho9.ext e27; replace ho11 := ho11.ext e27; replace ho12 := ho12.ext e27; replace ho13 := ho13.ext e27; replace ho14 := ho14.ext e27; replace ho15 := ho15.ext e27
              have z29 := e27.size
              refine J_gd rfl rfl (R_not rfl) rfl (J_st (R_pickF rfl rfl) rfl (J_st (R_move rfl) rfl ?_))
              refine J_if (gd := 120) rfl rfl (fun hg5 => ?_) (fun hg5 => ?_)
              · exact absurd hg5 (by first | (simp; done) | (simp only [nat_nlt] <;> simp) | (simp only [mkL_length, nat_nlt] <;> simp) | (simp only [mkL_length] <;> simp))
              · refine J_gd rfl rfl (R_move rfl) rfl (J_gd rfl rfl (R_move rfl) rfl (J_gd rfl rfl (R_neq rfl rfl) rfl (J_st (R_pickF rfl rfl) rfl (J_cutEnd ⟨rfl, rfl, rfl, rfl, rfl, rfl, rfl, rfl, rfl, rfl, rfl, rfl, rfl, rfl, rfl, rfl, rfl, rfl, rfl, rfl, rfl, rfl, rfl, rfl, rfl, rfl, rfl, rfl, rfl, rfl, rfl, rfl, rfl, rfl, rfl, rfl, rfl, rfl, rfl, rfl, rfl, rfl, rfl, rfl, rfl, rfl, rfl, rfl, rfl, rfl, rfl, rfl, rfl, rfl, rfl, rfl, rfl, rfl, rfl, rfl, rfl, rfl, rfl, rfl, rfl, rfl, rfl, rfl, rfl, rfl, rfl, rfl, rfl, rfl, rfl, rfl, rfl, rfl, rfl, rfl, rfl, rfl, rfl, rfl, congrArg (fun b => some (Value.bool b)) (show ((((stepAllM g cs rs m).2.2 : Nat) : Int) != (((stepAllM g cs rs m).2.2 : Nat) : Int)) = ((((decide (((((numNs 1 g.nodes) + 4 * cs.length) + 5 * rs.length : Nat) : Int) < 0)) || (!(decide (((stepAllM g cs rs m).1) = ((stepAllM g cs rs m).1))))) || (!(decide (((stepAllM g cs rs m).2.1) = ((stepAllM g cs rs m).2.1))))) || ((((stepAllM g cs rs m).2.2 : Nat) : Int) != (((stepAllM g cs rs m).2.2 : Nat) : Int))) by first | (rw [hg3, hg4, hg5] <;> rfl) | (simp [hg3, hg4, hg5]; done) | (simp only [nat_nlt] <;> simp)), trivial⟩ ⟨E, (by omega), h1, ho1, ho2, ho3, ho5, ho6, ho7, h2, ho8, ho9, ho11, ho12, ho13, ho14, ho15⟩))))
        clear E h1 ho1 ho2 ho3 ho5 ho6 ho7 h2 ho8 ho9 ho11 ho12 ho13 ho14 ho15
        rintro w28 ⟨E, z30, h1, ho1, ho2, ho3, ho5, ho6, ho7, h2, ho8, ho9, ho11, ho12, ho13, ho14, ho15⟩
        refine J_done ?_
        refine S_condFe rfl (by first | (simp; done) | (simp only [nat_nlt] <;> simp) | (simp only [mkL_length, nat_nlt] <;> simp) | (simp only [mkL_length] <;> simp)) ?_
        refine S_skip ?_
        refine S_seq ?_
        refine S_reg [true] rfl rfl ?_
        refine J_st (R_assign rfl) rfl (J_done ?_)
        refine S_seq ?_
        refine S_reg [true, true, false, true] rfl rfl ?_
        refine J_st (R_move rfl) rfl (J_st (R_move rfl) rfl ?_)
        refine J_callR Try.call16 rfl rfl (markCellS v7 (bl v7) (bh v7) ((stepAllM g cs rs m).1) 1 _ (Own.tight ho11) (by first | omega | (simp only [mkL_length]; omega) | (rw [mkL_length]; done) | (simp only [mkL_length]; done))) rfl (fun _ w31 e28 hv => ?_)
        obtain ⟨rfl, ho11'⟩ := hv
        have e28c := ModR.loose e28 (Own.blk ho11)
        replace ho11 := Own.loose ho11' (Own.blk ho11)
        clear ho11'
        replace E := E.stepR e28c (by omega); replace h1 := h1.modR e28c (by omega); replace ho1 := ho1.modR e28c (by omega); replace ho2 := ho2.modR e28c (by omega); replace ho3 := ho3.modR e28c (by omega); replace ho5 := ho5.modR e28c (by omega); replace ho6 := ho6.modR e28c (by omega); replace ho7 := ho7.modR e28c (by omega); replace h2 := h2.modR e28c (by omega); replace ho8 := ho8.modR e28c (by omega); replace ho9 := ho9.modR e28c (by omega); replace ho12 := Own.modRS ho12 e28 sp2.1.1; replace ho13 := ho13.modR e28c (by omega); replace ho14 := ho14.modR e28c (by omega); replace ho15 := ho15.modR e28c (by omega)
        have z31 := e28c.size
        refine J_st (R_assign rfl) rfl (J_done ?_)
        refine S_seq ?_
        refine S_reg [true, true, false, true] rfl rfl ?_
        refine J_st (R_move rfl) rfl (J_st (R_move rfl) rfl ?_)
        refine J_callR Try.call17 rfl rfl (markRecordS v8 (bl v8) (bh v8) ((stepAllM g cs rs m).2.1) (1 + 4 * ((stepAllM g cs rs m).1).length) _ (Own.tight ho12) (by first | omega | (simp only [mkL_length]; omega) | (rw [mkL_length]; done) | (simp only [mkL_length]; done))) rfl (fun _ w32 e29 hv => ?_)
        obtain ⟨rfl, ho12'⟩ := hv
        have e29c := ModR.loose e29 (Own.blk ho12)
        replace ho12 := Own.loose ho12' (Own.blk ho12)
        clear ho12'
        replace E := E.stepR e29c (by omega); replace h1 := h1.modR e29c (by omega); replace ho1 := ho1.modR e29c (by omega); replace ho2 := ho2.modR e29c (by omega); replace ho3 := ho3.modR e29c (by omega); replace ho5 := ho5.modR e29c (by omega); replace ho6 := ho6.modR e29c (by omega); replace ho7 := ho7.modR e29c (by omega); replace h2 := h2.modR e29c (by omega); replace ho8 := ho8.modR e29c (by omega); replace ho9 := ho9.modR e29c (by omega); replace ho11 := Own.modRS ho11 e29 (sp2.1.1).symm; replace ho13 := ho13.modR e29c (by omega); replace ho14 := ho14.modR e29c (by omega); replace ho15 := ho15.modR e29c (by omega)
        have z32 := e29c.size
        refine J_st (R_assign rfl) rfl (J_done ?_)
        refine S_seq ?_
        refine S_reg [true] rfl rfl ?_
        refine J_st (R_assign rfl) rfl (J_done ?_)
        refine S_seq ?_
        refine S_reg [true, true, false, true] rfl rfl ?_
        refine J_st (R_move rfl) rfl (J_st (R_move rfl) rfl ?_)
        refine J_call Try.call18 rfl (heldCellS v7 (mkL 4 mkCell 1 ((stepAllM g cs rs m).1).length) 1 _ (Own.rd (by decide) ho11) (by first | omega | (simp only [mkL_length]; omega) | (rw [mkL_length]; done) | (simp only [mkL_length]; done)) (by first | omega | (simp only [mkL_length]; omega) | (rw [mkL_length]; done) | (simp only [mkL_length]; done))) rfl (fun _ w33 e30 hv => ?_)
        subst hv
        replace E := E.trans e30; replace h1 := h1.ext e30; replace ho1 := ho1.ext e30; replace ho2 := ho2.ext e30; replace ho3 := ho3.ext e30; replace ho5 := ho5.ext e30; replace ho6 := ho6.ext e30; replace ho7 := ho7.ext e30; replace h2 := h2.ext e30; replace ho8 := ho8.ext e30; replace ho9 := ho9.ext e30; replace ho11 := ho11.ext e30; replace ho12 := ho12.ext e30; replace ho13 := ho13.ext e30; replace ho14 := ho14.ext e30; replace ho15 := ho15.ext e30
        have z33 := e30.size
        refine J_st (R_assign rfl) rfl (J_done ?_)
        refine S_seq ?_
        refine S_seq ?_
        refine S_reg [true, true] rfl rfl ?_
        refine J_st (R_move rfl) rfl (J_st (R_lss rfl rfl) rfl (J_done ?_))
        refine S_condFe rfl (by first | (simp; done) | (simp only [nat_nlt] <;> simp) | (simp only [mkL_length, nat_nlt] <;> simp) | (simp only [mkL_length] <;> simp)) ?_
        refine S_skip ?_
        refine S_seq ?_
        refine S_reg [true, true, false, true] rfl rfl ?_
        refine J_st (R_move rfl) rfl (J_st (R_move rfl) rfl ?_)
        refine J_call Try.call19 rfl (heldRecordS v8 (mkL 5 mkRecord (1 + 4 * ((stepAllM g cs rs m).1).length) ((stepAllM g cs rs m).2.1).length) (1 + 4 * (mkL 4 mkCell 1 ((stepAllM g cs rs m).1).length).length) _ (Own.rd (by decide) ho12) (by first | omega | (simp only [mkL_length]; omega) | (rw [mkL_length]; done) | (simp only [mkL_length]; done)) (by first | omega | (simp only [mkL_length]; omega) | (rw [mkL_length]; done) | (simp only [mkL_length]; done))) rfl (fun _ w34 e31 hv => ?_)
        subst hv
        replace E := E.trans e31; replace h1 := h1.ext e31; replace ho1 := ho1.ext e31; replace ho2 := ho2.ext e31; replace ho3 := ho3.ext e31; replace ho5 := ho5.ext e31; replace ho6 := ho6.ext e31; replace ho7 := ho7.ext e31; replace h2 := h2.ext e31; replace ho8 := ho8.ext e31; replace ho9 := ho9.ext e31; replace ho11 := ho11.ext e31; replace ho12 := ho12.ext e31; replace ho13 := ho13.ext e31; replace ho14 := ho14.ext e31; replace ho15 := ho15.ext e31
        have z34 := e31.size
        refine J_st (R_assign rfl) rfl (J_done ?_)
        refine S_seq ?_
        refine S_seq ?_
        refine S_reg [true, true] rfl rfl ?_
        refine J_st (R_move rfl) rfl (J_st (R_lss rfl rfl) rfl (J_done ?_))
        refine S_condFe rfl (by first | (simp; done) | (simp only [nat_nlt] <;> simp) | (simp only [mkL_length, nat_nlt] <;> simp) | (simp only [mkL_length] <;> simp)) ?_
        refine S_skip ?_
        refine S_seq ?_
        refine S_seq ?_
        refine S_reg [true, true, true] rfl rfl ?_
        refine J_st (R_move rfl) rfl (J_st (R_move rfl) rfl (J_st (R_neq rfl rfl) rfl (J_done ?_)))
        refine S_condFe rfl (by first | (simp; done) | (simp only [nat_nlt] <;> simp) | (simp only [mkL_length, nat_nlt] <;> simp) | (simp only [mkL_length] <;> simp)) ?_
        refine S_skip ?_
        refine S_seq ?_
        refine S_reg [true, false, true, false, true, false, true, false, true, true, true, true, true, true, true] rfl rfl ?_
        refine J_st (R_loadS st24 rfl h1.at rfl) rfl ?_
        refine J_call Try.call8 rfl (c_toGraph [o1, .int .i64 g.workers, .int .i64 g.cap] g _ (Graph.mkR g (RdD.any (hd1.ext E))) (by first | omega | (simp only [mkL_length]; omega) | (rw [mkL_length]; done) | (simp only [mkL_length]; done))) rfl (fun _ w35 e32 ho16 => ?_)
        obtain ⟨o5, rfl, ho16⟩ := ho16
        have g_ho16 : w.heap.size ≤ w34.heap.size := E.size
        replace E := E.trans e32; replace h1 := h1.ext e32; replace ho1 := ho1.ext e32; replace ho2 := ho2.ext e32; replace ho3 := ho3.ext e32; replace ho5 := ho5.ext e32; replace ho6 := ho6.ext e32; replace ho7 := ho7.ext e32; replace h2 := h2.ext e32; replace ho8 := ho8.ext e32; replace ho9 := ho9.ext e32; replace ho11 := ho11.ext e32; replace ho12 := ho12.ext e32; replace ho13 := ho13.ext e32; replace ho14 := ho14.ext e32; replace ho15 := ho15.ext e32
        have z35 := e32.size
        refine J_st (R_move rfl) rfl ?_
        refine J_call Try.call9 rfl (c_toCellS vcs cs _ (hcs.ext E) (by first | omega | (simp only [mkL_length]; omega) | (rw [mkL_length]; done) | (simp only [mkL_length]; done))) rfl (fun v11 w36 e33 ho17 => ?_)
        have g_ho17 : w.heap.size ≤ w35.heap.size := E.size
        replace E := E.trans e33; replace h1 := h1.ext e33; replace ho1 := ho1.ext e33; replace ho2 := ho2.ext e33; replace ho3 := ho3.ext e33; replace ho5 := ho5.ext e33; replace ho6 := ho6.ext e33; replace ho7 := ho7.ext e33; replace h2 := h2.ext e33; replace ho8 := ho8.ext e33; replace ho9 := ho9.ext e33; replace ho11 := ho11.ext e33; replace ho12 := ho12.ext e33; replace ho13 := ho13.ext e33; replace ho14 := ho14.ext e33; replace ho15 := ho15.ext e33; replace ho16 := ho16.ext e33
        have z36 := e33.size
        refine J_st (R_move rfl) rfl ?_
        refine J_call Try.call10 rfl (c_toRecordS vrs rs _ (hrs.ext E) (by first | omega | (simp only [mkL_length]; omega) | (rw [mkL_length]; done) | (simp only [mkL_length]; done))) rfl (fun v12 w37 e34 ho18 => ?_)
        have g_ho18 : w.heap.size ≤ w36.heap.size := E.size
        replace E := E.trans e34; replace h1 := h1.ext e34; replace ho1 := ho1.ext e34; replace ho2 := ho2.ext e34; replace ho3 := ho3.ext e34; replace ho5 := ho5.ext e34; replace ho6 := ho6.ext e34; replace ho7 := ho7.ext e34; replace h2 := h2.ext e34; replace ho8 := ho8.ext e34; replace ho9 := ho9.ext e34; replace ho11 := ho11.ext e34; replace ho12 := ho12.ext e34; replace ho13 := ho13.ext e34; replace ho14 := ho14.ext e34; replace ho15 := ho15.ext e34; replace ho16 := ho16.ext e34; replace ho17 := ho17.ext e34
        have z37 := e34.size
        refine J_st (R_move rfl) rfl ?_
        refine J_call Try.call11 rfl (c_StepAll [o5, .int .i64 g.workers, .int .i64 g.cap] g v11 cs v12 rs m _ (Graph.mkR g (RdD.any (OwS.rd ho16))) (Own.rd (by decide) ho17) (Own.rd (by decide) ho18) (by first | omega | (simp only [mkL_length]; omega) | (rw [mkL_length]; done) | (simp only [mkL_length]; done)) (by first | omega | (simp only [mkL_length]; omega) | (rw [mkL_length]; done) | (simp only [mkL_length]; done))) rfl (fun _ w38 e35 ho19 => ?_)
        obtain ⟨v13, v14, rfl, ho20, ho21, sp3⟩ := ho19
        have g_ho19 : w.heap.size ≤ w37.heap.size := E.size
        replace E := E.trans e35; replace h1 := h1.ext e35; replace ho1 := ho1.ext e35; replace ho2 := ho2.ext e35; replace ho3 := ho3.ext e35; replace ho5 := ho5.ext e35; replace ho6 := ho6.ext e35; replace ho7 := ho7.ext e35; replace h2 := h2.ext e35; replace ho8 := ho8.ext e35; replace ho9 := ho9.ext e35; replace ho11 := ho11.ext e35; replace ho12 := ho12.ext e35; replace ho13 := ho13.ext e35; replace ho14 := ho14.ext e35; replace ho15 := ho15.ext e35; replace ho16 := ho16.ext e35; replace ho17 := ho17.ext e35; replace ho18 := ho18.ext e35
        have z38 := e35.size
        refine J_st (R_move rfl) rfl (J_st (R_extract rfl rfl) rfl (J_st (R_extract rfl rfl) rfl (J_st (R_extract rfl rfl) rfl (J_st (R_assign rfl) rfl (J_st (R_assign rfl) rfl (J_st (R_assign rfl) rfl (J_done ?_)))))))
        refine S_seq ?_
        refine S_seq ?_
        refine S_reg [true, true, false, true, true, true, true, false, true, true, true, true, true, true, true] rfl rfl ?_
        refine J_st (R_move rfl) rfl (J_st (R_move rfl) rfl ?_)
        refine J_call Try.call12 rfl (c_eqCellS v13 ((stepAllM g cs rs m).1) v3 ((stepAllM g cs rs m).1) _ (Own.rd (by decide) ho20) (Own.rd (by decide) ho5)) rfl (fun _ w39 e36 hv => ?_)
        subst hv
        replace E := E.trans e36; replace h1 := h1.ext e36; replace ho1 := ho1.ext e36; replace ho2 := ho2.ext e36; replace ho3 := ho3.ext e36; replace ho5 := ho5.ext e36; replace ho6 := ho6.ext e36; replace ho7 := ho7.ext e36; replace h2 := h2.ext e36; replace ho8 := ho8.ext e36; replace ho9 := ho9.ext e36; replace ho11 := ho11.ext e36; replace ho12 := ho12.ext e36; replace ho13 := ho13.ext e36; replace ho14 := ho14.ext e36; replace ho15 := ho15.ext e36; replace ho16 := ho16.ext e36; replace ho17 := ho17.ext e36; replace ho18 := ho18.ext e36; replace ho20 := ho20.ext e36; replace ho21 := ho21.ext e36
        have z39 := e36.size
        refine J_st (R_not rfl) rfl (J_st (R_move rfl) rfl ?_)
        refine J_cut 10 [(0, .agg [o1, .int .i64 g.workers, .int .i64 g.cap].toArray), (1, vcs), (2, vrs), (3, .int .i64 m), (4, .pointer (some ⟨b1, 0, none⟩)), (8, .bool false), (9, .int .i64 (szM rs.length (szM cs.length (szM (cntGraph g) 1048576)))), (10, v3), (11, v4), (12, .int .i64 (((stepAllM g cs rs m).2.2 : Nat) : Int)), (13, .pointer (some ⟨b2, 0, none⟩)), (14, v5), (15, v6), (16, v7), (17, v8), (18, .int .i64 (((stepAllM g cs rs m).2.2 : Nat) : Int)), (19, .int .i64 ((((numNs 1 g.nodes) + 4 * cs.length) + 5 * rs.length : Nat) : Int)), (20, .int .i64 (((1 + 4 * ((stepAllM g cs rs m).1).length) + 5 * ((stepAllM g cs rs m).2.1).length : Nat) : Int)), (21, .int .i64 (((1 + 4 * (mkL 4 mkCell 1 ((stepAllM g cs rs m).1).length).length) + 5 * (mkL 5 mkRecord (1 + 4 * ((stepAllM g cs rs m).1).length) ((stepAllM g cs rs m).2.1).length).length : Nat) : Int)), (22, v13), (23, v14), (24, .int .i64 (((stepAllM g cs rs m).2.2 : Nat) : Int)), (25, .agg [o1, .int .i64 g.workers, .int .i64 g.cap].toArray), (26, .int .i64 1048576), (27, .int .i64 (szM (cntGraph g) 1048576)), (28, .int .i64 (szM (cntGraph g) 1048576)), (29, .bool (decide ((szM (cntGraph g) 1048576) < 0))), (30, vcs), (31, .int .i64 (szM (cntGraph g) 1048576)), (32, .int .i64 (szM cs.length (szM (cntGraph g) 1048576))), (33, .int .i64 (szM cs.length (szM (cntGraph g) 1048576))), (34, .bool (decide ((szM cs.length (szM (cntGraph g) 1048576)) < 0))), (35, vrs), (36, .int .i64 (szM cs.length (szM (cntGraph g) 1048576))), (37, .int .i64 (szM rs.length (szM cs.length (szM (cntGraph g) 1048576)))), (38, .int .i64 (szM rs.length (szM cs.length (szM (cntGraph g) 1048576)))), (39, .bool (decide ((szM rs.length (szM cs.length (szM (cntGraph g) 1048576))) < 0))), (40, .tuple [v3, v4, .int .i64 (((stepAllM g cs rs m).2.2 : Nat) : Int)].toArray), (41, .agg [o1, .int .i64 g.workers, .int .i64 g.cap].toArray), (42, .agg [o2, .int .i64 g.workers, .int .i64 g.cap].toArray), (43, vcs), (44, v1), (45, vrs), (46, v2), (47, .int .i64 m), (48, .tuple [v3, v4, .int .i64 (((stepAllM g cs rs m).2.2 : Nat) : Int)].toArray), (49, v3), (50, v4), (51, .int .i64 (((stepAllM g cs rs m).2.2 : Nat) : Int)), (52, .agg [o1, .int .i64 g.workers, .int .i64 g.cap].toArray), (53, .agg [o3, .int .i64 g.workers, .int .i64 g.cap].toArray), (54, vcs), (55, v5), (56, vrs), (57, v6), (58, .tuple [v7, v8, .int .i64 (((stepAllM g cs rs m).2.2 : Nat) : Int)].toArray), (59, .agg [o3, .int .i64 g.workers, .int .i64 g.cap].toArray), (60, v5), (61, v6), (62, .int .i64 m), (63, .tuple [v7, v8, .int .i64 (((stepAllM g cs rs m).2.2 : Nat) : Int)].toArray), (64, v7), (65, v8), (66, .int .i64 (((stepAllM g cs rs m).2.2 : Nat) : Int)), (81, .bool (((!(decide (((stepAllM g cs rs m).1) = ((stepAllM g cs rs m).1)))) || (!(decide (((stepAllM g cs rs m).2.1) = ((stepAllM g cs rs m).2.1))))) || ((((stepAllM g cs rs m).2.2 : Nat) : Int) != (((stepAllM g cs rs m).2.2 : Nat) : Int)))), (82, .agg [o3, .int .i64 g.workers, .int .i64 g.cap].toArray), (83, .agg [o1, .int .i64 g.workers, .int .i64 g.cap].toArray), (84, .agg [o4, .int .i64 g.workers, .int .i64 g.cap].toArray), (85, .bool (decide (g = g))), (86, .bool (!(decide (g = g)))), (87, v5), (88, vcs), (89, v9), (90, .bool (decide (cs = cs))), (91, .bool (!(decide (cs = cs)))), (92, v6), (93, vrs), (94, v10), (95, .bool (decide (rs = rs))), (96, .bool (!(decide (rs = rs)))), (97, .agg [o3, .int .i64 g.workers, .int .i64 g.cap].toArray), (98, .int .i64 1), (99, .int .i64 ((numNs 1 g.nodes : Nat) : Int)), (100, v5), (101, .int .i64 ((numNs 1 g.nodes : Nat) : Int)), (102, .int .i64 (((numNs 1 g.nodes) + 4 * cs.length : Nat) : Int)), (103, v6), (104, .int .i64 (((numNs 1 g.nodes) + 4 * cs.length : Nat) : Int)), (105, .int .i64 ((((numNs 1 g.nodes) + 4 * cs.length) + 5 * rs.length : Nat) : Int)), (124, .bool ((((decide (((((numNs 1 g.nodes) + 4 * cs.length) + 5 * rs.length : Nat) : Int) < 0)) || (!(decide (((stepAllM g cs rs m).1) = ((stepAllM g cs rs m).1))))) || (!(decide (((stepAllM g cs rs m).2.1) = ((stepAllM g cs rs m).2.1))))) || ((((stepAllM g cs rs m).2.2 : Nat) : Int) != (((stepAllM g cs rs m).2.2 : Nat) : Int)))), (125, v7), (126, .int .i64 1), (127, .int .i64 ((1 + 4 * ((stepAllM g cs rs m).1).length : Nat) : Int)), (128, v8), (129, .int .i64 ((1 + 4 * ((stepAllM g cs rs m).1).length : Nat) : Int)), (130, .int .i64 (((1 + 4 * ((stepAllM g cs rs m).1).length) + 5 * ((stepAllM g cs rs m).2.1).length : Nat) : Int)), (131, v7), (132, .int .i64 1), (133, .int .i64 ((1 + 4 * (mkL 4 mkCell 1 ((stepAllM g cs rs m).1).length).length : Nat) : Int)), (134, .int .i64 ((1 + 4 * (mkL 4 mkCell 1 ((stepAllM g cs rs m).1).length).length : Nat) : Int)), (135, .bool (decide (((1 + 4 * (mkL 4 mkCell 1 ((stepAllM g cs rs m).1).length).length : Nat) : Int) < 0))), (136, v8), (137, .int .i64 ((1 + 4 * (mkL 4 mkCell 1 ((stepAllM g cs rs m).1).length).length : Nat) : Int)), (138, .int .i64 (((1 + 4 * (mkL 4 mkCell 1 ((stepAllM g cs rs m).1).length).length) + 5 * (mkL 5 mkRecord (1 + 4 * ((stepAllM g cs rs m).1).length) ((stepAllM g cs rs m).2.1).length).length : Nat) : Int)), (139, .int .i64 (((1 + 4 * (mkL 4 mkCell 1 ((stepAllM g cs rs m).1).length).length) + 5 * (mkL 5 mkRecord (1 + 4 * ((stepAllM g cs rs m).1).length) ((stepAllM g cs rs m).2.1).length).length : Nat) : Int)), (140, .bool (decide ((((1 + 4 * (mkL 4 mkCell 1 ((stepAllM g cs rs m).1).length).length) + 5 * (mkL 5 mkRecord (1 + 4 * ((stepAllM g cs rs m).1).length) ((stepAllM g cs rs m).2.1).length).length : Nat) : Int) < 0))), (141, .int .i64 (((1 + 4 * (mkL 4 mkCell 1 ((stepAllM g cs rs m).1).length).length) + 5 * (mkL 5 mkRecord (1 + 4 * ((stepAllM g cs rs m).1).length) ((stepAllM g cs rs m).2.1).length).length : Nat) : Int)), (142, .int .i64 (((1 + 4 * ((stepAllM g cs rs m).1).length) + 5 * ((stepAllM g cs rs m).2.1).length : Nat) : Int)), (143, .bool ((((1 + 4 * (mkL 4 mkCell 1 ((stepAllM g cs rs m).1).length).length) + 5 * (mkL 5 mkRecord (1 + 4 * ((stepAllM g cs rs m).1).length) ((stepAllM g cs rs m).2.1).length).length : Nat) : Int) != (((1 + 4 * ((stepAllM g cs rs m).1).length) + 5 * ((stepAllM g cs rs m).2.1).length : Nat) : Int))), (144, .tuple [v13, v14, .int .i64 (((stepAllM g cs rs m).2.2 : Nat) : Int)].toArray), (145, .agg [o1, .int .i64 g.workers, .int .i64 g.cap].toArray), (146, .agg [o5, .int .i64 g.workers, .int .i64 g.cap].toArray), (147, vcs), (148, v11), (149, vrs), (150, v12), (151, .int .i64 m), (152, .tuple [v13, v14, .int .i64 (((stepAllM g cs rs m).2.2 : Nat) : Int)].toArray), (153, v13), (154, v14), (155, .int .i64 (((stepAllM g cs rs m).2.2 : Nat) : Int)), (170, .bool (((!(decide (((stepAllM g cs rs m).1) = ((stepAllM g cs rs m).1)))) || (!(decide (((stepAllM g cs rs m).2.1) = ((stepAllM g cs rs m).2.1))))) || ((((stepAllM g cs rs m).2.2 : Nat) : Int) != (((stepAllM g cs rs m).2.2 : Nat) : Int))))] (fun w' => Ext w w' ∧ w39.heap.size ≤ w'.heap.size ∧ Blk w' b1 ([o1, .int .i64 g.workers, .int .i64 g.cap]) ∧ OwS w' w4.heap.size w5.heap.size o2 g.nodes ∧ Own w' w5.heap.size w6.heap.size 4 v1 (List.flatMap (Enc.enc (α := Cell)) cs) ∧ Own w' w6.heap.size w7.heap.size 5 v2 (List.flatMap (Enc.enc (α := Record)) rs) ∧ Own w' w7.heap.size w8.heap.size 4 v3 (List.flatMap (Enc.enc (α := Cell)) ((stepAllM g cs rs m).1)) ∧ Own w' w7.heap.size w8.heap.size 5 v4 (List.flatMap (Enc.enc (α := Record)) ((stepAllM g cs rs m).2.1)) ∧ OwS w' w8.heap.size w9.heap.size o3 (markNs 1 g.nodes) ∧ Blk w' b2 [o3, .int .i64 g.workers, .int .i64 g.cap] ∧ Own w' w11.heap.size w12.heap.size 4 v5 (List.flatMap (Enc.enc (α := Cell)) (mkL 4 mkCell (numNs 1 g.nodes) cs.length)) ∧ Own w' w12.heap.size w13.heap.size 5 v6 (List.flatMap (Enc.enc (α := Record)) (mkL 5 mkRecord ((numNs 1 g.nodes) + 4 * cs.length) rs.length)) ∧ Own w' w13.heap.size w14.heap.size 4 v7 (List.flatMap (Enc.enc (α := Cell)) (mkL 4 mkCell 1 ((stepAllM g cs rs m).1).length)) ∧ Own w' w13.heap.size w14.heap.size 5 v8 (List.flatMap (Enc.enc (α := Record)) (mkL 5 mkRecord (1 + 4 * ((stepAllM g cs rs m).1).length) ((stepAllM g cs rs m).2.1).length)) ∧ OwS w' w18.heap.size w19.heap.size o4 g.nodes ∧ Own w' w20.heap.size w21.heap.size 4 v9 (List.flatMap (Enc.enc (α := Cell)) cs) ∧ Own w' w22.heap.size w23.heap.size 5 v10 (List.flatMap (Enc.enc (α := Record)) rs) ∧ OwS w' w34.heap.size w35.heap.size o5 g.nodes ∧ Own w' w35.heap.size w36.heap.size 4 v11 (List.flatMap (Enc.enc (α := Cell)) cs) ∧ Own w' w36.heap.size w37.heap.size 5 v12 (List.flatMap (Enc.enc (α := Record)) rs) ∧ Own w' w37.heap.size w38.heap.size 4 v13 (List.flatMap (Enc.enc (α := Cell)) ((stepAllM g cs rs m).1)) ∧ Own w' w37.heap.size w38.heap.size 5 v14 (List.flatMap (Enc.enc (α := Record)) ((stepAllM g cs rs m).2.1))) ?_ ?_
        · refine J_if (gd := 160) rfl rfl (fun hg6 => ?_) (fun hg6 => ?_)
          · exact absurd hg6 (by first | (simp; done) | (simp only [nat_nlt] <;> simp) | (simp only [mkL_length, nat_nlt] <;> simp) | (simp only [mkL_length] <;> simp))
          · refine J_gd rfl rfl (R_move rfl) rfl (J_gd rfl rfl (R_move rfl) rfl ?_)
            refine J_ung rfl rfl ?_
            refine J_call Try.call13 rfl (c_eqRecordS v14 ((stepAllM g cs rs m).2.1) v4 ((stepAllM g cs rs m).2.1) _ (Own.rd (by decide) ho21) (Own.rd (by decide) ho6)) rfl (fun _ w41 e37 hv => ?_)
            subst hv
            replace E := E.trans e37; replace h1 := h1.ext e37; replace ho1 := ho1.ext e37; replace ho2 := ho2.ext e37; replace ho3 := ho3.ext e37; replace ho5 := ho5.ext e37; replace ho6 := ho6.ext e37; replace ho7 := ho7.ext e37; replace h2 := h2.ext e37; replace ho8 := ho8.ext e37; replace ho9 := ho9.ext e37; replace ho11 := ho11.ext e37; replace ho12 := ho12.ext e37; replace ho13 := ho13.ext e37; replace ho14 := ho14.ext e37; replace ho15 := ho15.ext e37; replace ho16 := ho16.ext e37; replace ho17 := ho17.ext e37; replace ho18 := ho18.ext e37; replace ho20 := ho20.ext e37; replace ho21 := ho21.ext e37
            have z40 := e37.size
            refine J_gd rfl rfl (R_not rfl) rfl (J_st (R_pickF rfl rfl) rfl (J_st (R_move rfl) rfl ?_))
            refine J_if (gd := 166) rfl rfl (fun hg7 => ?_) (fun hg7 => ?_)
            · exact absurd hg7 (by first | (simp; done) | (simp only [nat_nlt] <;> simp) | (simp only [mkL_length, nat_nlt] <;> simp) | (simp only [mkL_length] <;> simp))
            · refine J_gd rfl rfl (R_move rfl) rfl (J_gd rfl rfl (R_move rfl) rfl (J_gd rfl rfl (R_neq rfl rfl) rfl (J_st (R_pickF rfl rfl) rfl (J_cutEnd ⟨rfl, rfl, rfl, rfl, rfl, rfl, rfl, rfl, rfl, rfl, rfl, rfl, rfl, rfl, rfl, rfl, rfl, rfl, rfl, rfl, rfl, rfl, rfl, rfl, rfl, rfl, rfl, rfl, rfl, rfl, rfl, rfl, rfl, rfl, rfl, rfl, rfl, rfl, rfl, rfl, rfl, rfl, rfl, rfl, rfl, rfl, rfl, rfl, rfl, rfl, rfl, rfl, rfl, rfl, rfl, rfl, rfl, rfl, rfl, rfl, rfl, rfl, rfl, rfl, rfl, rfl, rfl, rfl, rfl, rfl, rfl, rfl, rfl, rfl, rfl, rfl, rfl, rfl, rfl, rfl, rfl, rfl, rfl, rfl, rfl, rfl, rfl, rfl, rfl, rfl, rfl, rfl, rfl, rfl, rfl, rfl, rfl, rfl, rfl, rfl, rfl, rfl, rfl, rfl, rfl, rfl, rfl, rfl, rfl, rfl, rfl, rfl, rfl, rfl, rfl, rfl, rfl, rfl, rfl, rfl, rfl, congrArg (fun b => some (Value.bool b)) (show ((((stepAllM g cs rs m).2.2 : Nat) : Int) != (((stepAllM g cs rs m).2.2 : Nat) : Int)) = (((!(decide (((stepAllM g cs rs m).1) = ((stepAllM g cs rs m).1)))) || (!(decide (((stepAllM g cs rs m).2.1) = ((stepAllM g cs rs m).2.1))))) || ((((stepAllM g cs rs m).2.2 : Nat) : Int) != (((stepAllM g cs rs m).2.2 : Nat) : Int))) by first | (rw [hg6, hg7] <;> rfl) | (simp [hg6, hg7]; done) | (simp only [nat_nlt] <;> simp)), trivial⟩ ⟨E, (by omega), h1, ho1, ho2, ho3, ho5, ho6, ho7, h2, ho8, ho9, ho11, ho12, ho13, ho14, ho15, ho16, ho17, ho18, ho20, ho21⟩))))
        clear E h1 ho1 ho2 ho3 ho5 ho6 ho7 h2 ho8 ho9 ho11 ho12 ho13 ho14 ho15 ho16 ho17 ho18 ho20 ho21
        rintro w40 ⟨E, z41, h1, ho1, ho2, ho3, ho5, ho6, ho7, h2, ho8, ho9, ho11, ho12, ho13, ho14, ho15, ho16, ho17, ho18, ho20, ho21⟩
        refine J_done ?_
        refine S_condFe rfl (by first | (simp; done) | (simp only [nat_nlt] <;> simp) | (simp only [mkL_length, nat_nlt] <;> simp) | (simp only [mkL_length] <;> simp)) ?_
        refine S_skip ?_
        refine S_seq ?_
        refine S_reg [true] rfl rfl ?_
        refine J_st (R_assign rfl) rfl (J_done ?_)
        refine S_seq ?_
        refine S_reg [true, true, false, true] rfl rfl ?_
        refine J_st (R_move rfl) rfl (J_st (R_move rfl) rfl ?_)
        refine J_call Try.call18 rfl (heldCellS v7 (mkL 4 mkCell 1 ((stepAllM g cs rs m).1).length) 1 _ (Own.rd (by decide) ho11) (by first | omega | (simp only [mkL_length]; omega) | (rw [mkL_length]; done) | (simp only [mkL_length]; done)) (by first | omega | (simp only [mkL_length]; omega) | (rw [mkL_length]; done) | (simp only [mkL_length]; done))) rfl (fun _ w42 e38 hv => ?_)
        subst hv
        replace E := E.trans e38; replace h1 := h1.ext e38; replace ho1 := ho1.ext e38; replace ho2 := ho2.ext e38; replace ho3 := ho3.ext e38; replace ho5 := ho5.ext e38; replace ho6 := ho6.ext e38; replace ho7 := ho7.ext e38; replace h2 := h2.ext e38; replace ho8 := ho8.ext e38; replace ho9 := ho9.ext e38; replace ho11 := ho11.ext e38; replace ho12 := ho12.ext e38; replace ho13 := ho13.ext e38; replace ho14 := ho14.ext e38; replace ho15 := ho15.ext e38; replace ho16 := ho16.ext e38; replace ho17 := ho17.ext e38; replace ho18 := ho18.ext e38; replace ho20 := ho20.ext e38; replace ho21 := ho21.ext e38
        have z42 := e38.size
        refine J_st (R_assign rfl) rfl (J_done ?_)
        refine S_seq ?_
        refine S_seq ?_
        refine S_reg [true, true] rfl rfl ?_
        refine J_st (R_move rfl) rfl (J_st (R_lss rfl rfl) rfl (J_done ?_))
        refine S_condFe rfl (by first | (simp; done) | (simp only [nat_nlt] <;> simp) | (simp only [mkL_length, nat_nlt] <;> simp) | (simp only [mkL_length] <;> simp)) ?_
        refine S_skip ?_
        refine S_seq ?_
        refine S_reg [true, true, false, true] rfl rfl ?_
        refine J_st (R_move rfl) rfl (J_st (R_move rfl) rfl ?_)
        refine J_call Try.call19 rfl (heldRecordS v8 (mkL 5 mkRecord (1 + 4 * ((stepAllM g cs rs m).1).length) ((stepAllM g cs rs m).2.1).length) (1 + 4 * (mkL 4 mkCell 1 ((stepAllM g cs rs m).1).length).length) _ (Own.rd (by decide) ho12) (by first | omega | (simp only [mkL_length]; omega) | (rw [mkL_length]; done) | (simp only [mkL_length]; done)) (by first | omega | (simp only [mkL_length]; omega) | (rw [mkL_length]; done) | (simp only [mkL_length]; done))) rfl (fun _ w43 e39 hv => ?_)
        subst hv
        replace E := E.trans e39; replace h1 := h1.ext e39; replace ho1 := ho1.ext e39; replace ho2 := ho2.ext e39; replace ho3 := ho3.ext e39; replace ho5 := ho5.ext e39; replace ho6 := ho6.ext e39; replace ho7 := ho7.ext e39; replace h2 := h2.ext e39; replace ho8 := ho8.ext e39; replace ho9 := ho9.ext e39; replace ho11 := ho11.ext e39; replace ho12 := ho12.ext e39; replace ho13 := ho13.ext e39; replace ho14 := ho14.ext e39; replace ho15 := ho15.ext e39; replace ho16 := ho16.ext e39; replace ho17 := ho17.ext e39; replace ho18 := ho18.ext e39; replace ho20 := ho20.ext e39; replace ho21 := ho21.ext e39
        have z43 := e39.size
        refine J_st (R_assign rfl) rfl (J_done ?_)
        refine S_seq ?_
        refine S_seq ?_
        refine S_reg [true, true] rfl rfl ?_
        refine J_st (R_move rfl) rfl (J_st (R_lss rfl rfl) rfl (J_done ?_))
        refine S_condFe rfl (by first | (simp; done) | (simp only [nat_nlt] <;> simp) | (simp only [mkL_length, nat_nlt] <;> simp) | (simp only [mkL_length] <;> simp)) ?_
        refine S_skip ?_
        refine S_seq ?_
        refine S_seq ?_
        refine S_reg [true, true, true] rfl rfl ?_
        refine J_st (R_move rfl) rfl (J_st (R_move rfl) rfl (J_st (R_neq rfl rfl) rfl (J_done ?_)))
        refine S_condFe rfl (by first | (simp; done) | (simp only [nat_nlt] <;> simp) | (simp only [mkL_length, nat_nlt] <;> simp) | (simp only [mkL_length] <;> simp)) ?_
        refine S_skip ?_
        refine S_seq ?_
        refine S_reg [true] rfl rfl ?_
        refine J_st (R_assign rfl) rfl (J_done ?_)
        refine S_ret (E_done1 rfl rfl E ?_)
        rfl

end Go.Proofs.Ytmjjiajmkbjfnaa
