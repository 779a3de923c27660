/- What the functions that the laws call come to: a contract each; no condition. -/
import Derived.Test.YtlhdkpdpkgocoaaFns3
namespace Go.Proofs.Ytlhdkpdpkgocoaa
open Go Go.Proofs.Ytlhdkpdpkgocoaa.X Go.Proofs
set_option maxHeartbeats 4000000 in
set_option maxRecDepth 20000 in
theorem c_Improve (cg : List Value) (g : Graph) (vxs : Value) (xs : List Cell) (x : Cell) (w : World) (hg : Dat.R w 0 w.heap.size cg g) (hxs : RdS w vxs xs) (hb : xs.length ≤ 4194304) : Ct Try.prog 27 [.agg cg.toArray, vxs, .agg (Enc.enc x).toArray] w (fun v w' => ∃ u0 u1, v = .tuple [u0, u1].toArray ∧ Own w' w.heap.size w'.heap.size 4 u0 (List.flatMap (Enc.enc (α := Cell)) ((improveM g xs x).1)) ∧ Own w' w.heap.size w'.heap.size 4 u1 (List.flatMap (Enc.enc (α := Cell)) ((improveM g xs x).2)) ∧ SepL [u0, u1]) := by
  refine ct_of Try.func27 rfl Try.ntmps27 rfl ?_
  obtain ⟨o1, rfl, hd1⟩ := Graph.op hg
  refine S_sub [(0, .agg [o1, .int .i64 g.workers, .int .i64 g.cap].toArray), (1, vxs), (2, .agg (Enc.enc x).toArray)] ⟨rfl, rfl, rfl, trivial⟩ ?_
  have E : Ext w w := Ext.refl w
  refine S_seq ?_
  refine S_reg [false, false, true, true] rfl rfl ?_
  refine J_box rfl rfl (fun b1 w1 e1 s1 h1 => ?_)
  have g_b1 : w.heap.size ≤ b1 := by have := E.size; omega
  have y_b1 := h1.lt
  replace E := E.trans e1
  have z1 := e1.size
  refine J_box rfl rfl (fun b2 w2 e2 s2 h2 => ?_)
  have g_b2 : w.heap.size ≤ b2 := by have := E.size; omega
  have y_b2 := h2.lt
  replace E := E.trans e2; replace h1 := h1.ext e2
  have z2 := e2.size
  refine J_st (R_assign rfl) rfl (J_st (R_assign rfl) rfl (J_done ?_))
  refine S_seq ?_
  refine S_seq ?_
  refine S_reg [true, false, true, true, true, true, true, false, true, true, true, true, true, false, true, true, true, true, true, true, true, false, true, true] rfl rfl ?_
  refine J_st (R_loadS st32 rfl h1.at rfl) rfl ?_
  refine J_call Try.call46 rfl (c_GraphOk [o1, .int .i64 g.workers, .int .i64 g.cap] g _ (Graph.mkR g (RdD.any (hd1.ext E)))) rfl (fun _ w3 e3 hv => ?_)
  subst hv
  replace E := E.trans e3; replace h1 := h1.ext e3; replace h2 := h2.ext e3
  have z3 := e3.size
  refine J_st (R_not rfl) rfl (J_st (R_move rfl) rfl ?_)
  refine J_cut 20 [(0, .agg [o1, .int .i64 g.workers, .int .i64 g.cap].toArray), (1, vxs), (2, .agg (Enc.enc x).toArray), (3, .pointer (some ⟨b1, 0, none⟩)), (5, .pointer (some ⟨b2, 0, none⟩)), (6, .slice none 0 0), (7, .slice none 0 0), (39, .bool ((((!(graphOk g)) || (!(isNodeM g x.op))) || (!(win x.epoch 0 3))) || (!(win x.key 0 99 && win x.val 0 999))))] (fun w' => Ext w w' ∧ w3.heap.size ≤ w'.heap.size ∧ Blk w' b1 ([o1, .int .i64 g.workers, .int .i64 g.cap]) ∧ Blk w' b2 (Enc.enc x)) ?_ ?_
  · refine J_if (gd := 19) rfl rfl (fun hg1 => ?_) (fun hg1 => ?_)
    · refine J_gdno rfl rfl rfl rfl (J_gdno rfl rfl rfl rfl (J_gdno rfl rfl rfl rfl ?_))
      refine J_ungno rfl rfl rfl rfl ?_
      refine J_gdno rfl rfl rfl rfl (J_st (R_pickT rfl rfl) rfl (J_st (R_move rfl) rfl (J_gdno rfl rfl rfl rfl (J_gdno rfl rfl rfl rfl ?_))))
      refine J_ungno rfl rfl rfl rfl ?_
      refine J_gdno rfl rfl rfl rfl (J_st (R_pickT rfl rfl) rfl (J_st (R_move rfl) rfl (J_gdno rfl rfl rfl rfl (J_gdno rfl rfl rfl rfl (J_gdno rfl rfl rfl rfl (J_gdno rfl rfl rfl rfl ?_))))))
      refine J_ungno rfl rfl rfl rfl ?_
      refine J_gdno rfl rfl rfl rfl (J_st (R_pickT rfl rfl) rfl (J_cutEnd ⟨rfl, rfl, rfl, rfl, rfl, rfl, rfl, congrArg (fun b => some (Value.bool b)) (show true = ((((!(graphOk g)) || (!(isNodeM g x.op))) || (!(win x.epoch 0 3))) || (!(win x.key 0 99 && win x.val 0 999))) by first | (rw [hg1] <;> rfl) | (simp [hg1]; done) | (simp only [nat_nlt] <;> simp)), trivial⟩ ⟨E, (by omega), h1, h2⟩))
    · refine J_gd rfl rfl (R_loadS st32 rfl h1.at rfl) rfl (J_gd rfl rfl (R_fieldAddr0 fl50_0 rfl) rfl (J_gd rfl rfl (R_load sc3 rfl (h2.one 0 rfl)) rfl ?_))
      refine J_ung rfl rfl ?_
      refine J_call Try.call47 rfl (c_isNode [o1, .int .i64 g.workers, .int .i64 g.cap] g x.op _ (Graph.mkR g (RdD.any (hd1.ext E)))) rfl (fun _ w5 e4 hv => ?_)
      subst hv
      replace E := E.trans e4; replace h1 := h1.ext e4; replace h2 := h2.ext e4
      have z4 := e4.size
      refine J_gd rfl rfl (R_not rfl) rfl (J_st (R_pickF rfl rfl) rfl (J_st (R_move rfl) rfl ?_))
      refine J_if (gd := 26) rfl rfl (fun hg2 => ?_) (fun hg2 => ?_)
      · refine J_gdno rfl rfl rfl rfl (J_gdno rfl rfl rfl rfl ?_)
        refine J_ungno rfl rfl rfl rfl ?_
        refine J_gdno rfl rfl rfl rfl (J_st (R_pickT rfl rfl) rfl (J_st (R_move rfl) rfl (J_gdno rfl rfl rfl rfl (J_gdno rfl rfl rfl rfl (J_gdno rfl rfl rfl rfl (J_gdno rfl rfl rfl rfl ?_))))))
        refine J_ungno rfl rfl rfl rfl ?_
        refine J_gdno rfl rfl rfl rfl (J_st (R_pickT rfl rfl) rfl (J_cutEnd ⟨rfl, rfl, rfl, rfl, rfl, rfl, rfl, congrArg (fun b => some (Value.bool b)) (show true = ((((!(graphOk g)) || (!(isNodeM g x.op))) || (!(win x.epoch 0 3))) || (!(win x.key 0 99 && win x.val 0 999))) by first | (rw [hg1, hg2] <;> rfl) | (simp [hg1, hg2]; done) | (simp only [nat_nlt] <;> simp)), trivial⟩ ⟨E, (by omega), h1, h2⟩))
      · refine J_gd rfl rfl (R_fieldAddr0 fl50_1 rfl) rfl (J_gd rfl rfl (R_load sc3 rfl (h2.one 1 rfl)) rfl ?_)
        refine J_ung rfl rfl ?_
        refine J_call Try.call43 rfl (c_within x.epoch 0 3 _ ) rfl (fun _ w6 e5 hv => ?_)
        subst hv
        replace E := E.trans e5; replace h1 := h1.ext e5; replace h2 := h2.ext e5
        have z5 := e5.size
        refine J_gd rfl rfl (R_not rfl) rfl (J_st (R_pickF rfl rfl) rfl (J_st (R_move rfl) rfl ?_))
        refine J_if (gd := 32) rfl rfl (fun hg3 => ?_) (fun hg3 => ?_)
        · refine J_gdno rfl rfl rfl rfl (J_gdno rfl rfl rfl rfl (J_gdno rfl rfl rfl rfl (J_gdno rfl rfl rfl rfl ?_)))
          refine J_ungno rfl rfl rfl rfl ?_
          refine J_gdno rfl rfl rfl rfl (J_st (R_pickT rfl rfl) rfl (J_cutEnd ⟨rfl, rfl, rfl, rfl, rfl, rfl, rfl, congrArg (fun b => some (Value.bool b)) (show true = ((((!(graphOk g)) || (!(isNodeM g x.op))) || (!(win x.epoch 0 3))) || (!(win x.key 0 99 && win x.val 0 999))) by first | (rw [hg1, hg2, hg3] <;> rfl) | (simp [hg1, hg2, hg3]; done) | (simp only [nat_nlt] <;> simp)), trivial⟩ ⟨E, (by omega), h1, h2⟩))
        · refine J_gd rfl rfl (R_fieldAddr0 fl50_2 rfl) rfl (J_gd rfl rfl (R_load sc3 rfl (h2.one 2 rfl)) rfl (J_gd rfl rfl (R_fieldAddr0 fl50_3 rfl) rfl (J_gd rfl rfl (R_load sc3 rfl (h2.one 3 rfl)) rfl ?_)))
          refine J_ung rfl rfl ?_
          refine J_call Try.call45 rfl (c_itemOk x.key x.val _ ) rfl (fun _ w7 e6 hv => ?_)
          subst hv
          replace E := E.trans e6; replace h1 := h1.ext e6; replace h2 := h2.ext e6
          have z6 := e6.size
          refine J_gd rfl rfl (R_not rfl) rfl (J_st (R_pickF rfl rfl) rfl (J_cutEnd ⟨rfl, rfl, rfl, rfl, rfl, rfl, rfl, congrArg (fun b => some (Value.bool b)) (show (!(win x.key 0 99 && win x.val 0 999)) = ((((!(graphOk g)) || (!(isNodeM g x.op))) || (!(win x.epoch 0 3))) || (!(win x.key 0 99 && win x.val 0 999))) by first | (rw [hg1, hg2, hg3] <;> rfl) | (simp [hg1, hg2, hg3]; done) | (simp only [nat_nlt] <;> simp)), trivial⟩ ⟨E, (by omega), h1, h2⟩))
  clear E h1 h2
  rintro w4 ⟨E, z7, h1, h2⟩
  refine J_done ?_
  refine S_cond rfl (fun hc1 => ?_) (fun hc1 => ?_)
  · refine S_seq ?_
    refine S_reg [true, false, true, true] rfl rfl ?_
    refine J_st (R_move rfl) rfl ?_
    refine J_call Try.call48 rfl (c_copyCells vxs xs _ (hxs.ext E) (by first | omega | (simp only [mkL_length]; omega) | (rw [mkL_length]; done) | (simp only [mkL_length]; done))) rfl (fun v1 w8 e7 ho1 => ?_)
    have g_ho1 : w.heap.size ≤ w4.heap.size := E.size
    replace E := E.trans e7; replace h1 := h1.ext e7; replace h2 := h2.ext e7
    have z8 := e7.size
    refine J_st (R_assign rfl) rfl (J_st (R_assign rfl) rfl (J_done ?_))
    refine S_ret (E_doneN (l := [.tmp 6, .tmp 7]) (vs := [v1, .slice none 0 0]) rfl ⟨.tmp rfl, .tmp rfl, trivial⟩ rfl E ?_)
    rw [imp_0 hc1]
    exact ⟨_, _, rfl, Own.fin ho1 (by omega) (by omega) (by first | rfl | (simp only [List.nil_append]; rfl) | (rw [impTo_all (by omega)])), Own.finNil rfl, ⟨⟨(Sep.nilR _), trivial⟩, ⟨trivial, trivial⟩⟩⟩
  · have hq := imp_of hc1
    have hop := isNode_of hq.2
    have hgo := hq.1
    have ho2 := outs_two (i := Int.toNat x.op) hgo (by omega)
    have hof := getD_at (xs := g.nodes) hop.2.2 ▸ ho2
    refine S_skip ?_
    refine S_seq ?_
    refine S_reg [true, true, false, true, true, true, true, true] rfl rfl ?_
    refine J_st (R_move rfl) rfl (J_st (R_loadS st50 rfl h2.at rfl) rfl ?_)
    refine J_call Try.call49 rfl (c_better vxs xs x _ (hxs.ext E) (by first | omega | (simp only [mkL_length]; omega) | (rw [mkL_length]; done) | (simp only [mkL_length]; done))) rfl (fun _ w9 e8 ho2 => ?_)
    obtain ⟨v2, rfl, ho3⟩ := ho2
    have g_ho2 : w.heap.size ≤ w4.heap.size := E.size
    replace E := E.trans e8; replace h1 := h1.ext e8; replace h2 := h2.ext e8
    have z9 := e8.size
    refine J_st (R_move rfl) rfl (J_st (R_extract rfl rfl) rfl (J_st (R_extract rfl rfl) rfl (J_st (R_assign rfl) rfl (J_st (R_assign rfl) rfl (J_done ?_)))))
    refine S_seq ?_
    refine S_regD mixed [(0, true), (1, true), (2, true), (3, true), (4, true), (5, true), (6, true), (7, true), (8, true), (9, true), (10, false), (11, true), (12, true), (13, true), (14, true), (15, true), (16, true), (17, true)] (by decide +kernel) rfl (fun w10 e9 => ?_)
    replace E := E.trans e9; replace h1 := h1.ext e9; replace h2 := h2.ext e9; replace ho3 := ho3.ext e9
    have z10 := e9.size
    refine J_st (R_fieldAddr0 fl32_0 rfl) rfl (J_st (R_load sc30 rfl (h1.one 0 rfl)) rfl (J_st (R_fieldAddr0 fl50_0 rfl) rfl (J_st (R_load sc3 rfl (h2.one 0 rfl)) rfl ?_)))
    have hi1 : (Int.toNat x.op) < g.nodes.length := (by first | assumption | omega)
    obtain ⟨_, hr1, ha1⟩ := RdD.get hd1 hi1
    obtain ⟨o2, rfl, hd2⟩ := Node.op hr1
    replace ha1 : At w (sblk o1) (soff o1 + (Int.toNat x.op) * 4) [.int .i64 ((g.nodes[(Int.toNat x.op)]'hi1).kind), .int .i64 ((g.nodes[(Int.toNat x.op)]'hi1).a), .int .i64 ((g.nodes[(Int.toNat x.op)]'hi1).b), o2] := ha1
    refine J_st (R_indexZ (i := (Int.toNat x.op)) sl30 rfl rfl (hd1.ext E).1 (by omega) hi1) rfl (J_st (R_loadS st70 rfl (ha1.ext E) rfl) rfl (J_st (R_fieldAddr0 fl50_2 rfl) rfl (J_st (R_load sc3 rfl (h2.one 2 rfl)) rfl (J_st (R_fieldAddr0 fl50_3 rfl) rfl (J_st (R_load sc3 rfl (h2.one 3 rfl)) rfl ?_)))))
    refine J_call Try.call50 rfl (c_Changed [.int .i64 ((g.nodes[(Int.toNat x.op)]'hi1).kind), .int .i64 ((g.nodes[(Int.toNat x.op)]'hi1).a), .int .i64 ((g.nodes[(Int.toNat x.op)]'hi1).b), o2] (g.nodes[(Int.toNat x.op)]'hi1) x.key x.val _ (Node.mkR (g.nodes[(Int.toNat x.op)]'hi1) (RdD.any (hd2.ext E)))) rfl (fun _ w11 e10 hv => ?_)
    subst hv
    replace E := E.trans e10; replace h1 := h1.ext e10; replace h2 := h2.ext e10; replace ho3 := ho3.ext e10
    have z11 := e10.size
    refine J_st (R_move rfl) rfl (J_st (R_extract rfl rfl) rfl (J_st (R_extract rfl rfl) rfl (J_st (R_extract rfl rfl) rfl (J_st (R_assign rfl) rfl (J_st (R_assign rfl) rfl (J_st (R_assign rfl) rfl (J_done ?_)))))))
    refine S_seq ?_
    refine S_seq ?_
    refine S_reg [true, true, true, true, true, true] rfl rfl ?_
    refine J_st (R_move rfl) rfl (J_st (R_not rfl) rfl (J_st (R_move rfl) rfl ?_))
    refine J_cut 3 [(0, .agg [o1, .int .i64 g.workers, .int .i64 g.cap].toArray), (1, vxs), (2, .agg (Enc.enc x).toArray), (3, .pointer (some ⟨b1, 0, none⟩)), (5, .pointer (some ⟨b2, 0, none⟩)), (6, .slice none 0 0), (7, .slice none 0 0), (8, v2), (9, .bool ((betterM xs x).2)), (10, .int .i64 ((changedM (g.nodes[(Int.toNat x.op)]'hi1) x.key x.val).1)), (11, .int .i64 ((changedM (g.nodes[(Int.toNat x.op)]'hi1) x.key x.val).2.1)), (12, .bool ((changedM (g.nodes[(Int.toNat x.op)]'hi1) x.key x.val).2.2)), (39, .bool ((((!(graphOk g)) || (!(isNodeM g x.op))) || (!(win x.epoch 0 3))) || (!(win x.key 0 99 && win x.val 0 999)))), (42, .tuple [v2, .bool ((betterM xs x).2)].toArray), (43, vxs), (44, .agg (Enc.enc x).toArray), (45, .tuple [v2, .bool ((betterM xs x).2)].toArray), (46, v2), (47, .bool ((betterM xs x).2)), (48, .tuple [.int .i64 ((changedM (g.nodes[(Int.toNat x.op)]'hi1) x.key x.val).1), .int .i64 ((changedM (g.nodes[(Int.toNat x.op)]'hi1) x.key x.val).2.1), .bool ((changedM (g.nodes[(Int.toNat x.op)]'hi1) x.key x.val).2.2)].toArray), (49, .pointer (some ⟨b1, 0, none⟩)), (50, o1), (51, .pointer (some ⟨b2, 0, none⟩)), (52, .int .i64 x.op), (53, .pointer (some ⟨sblk o1, soff o1 + (Int.toNat x.op) * 4, none⟩)), (54, .agg [.int .i64 ((g.nodes[(Int.toNat x.op)]'hi1).kind), .int .i64 ((g.nodes[(Int.toNat x.op)]'hi1).a), .int .i64 ((g.nodes[(Int.toNat x.op)]'hi1).b), o2].toArray), (55, .pointer (some ⟨b2, 2, none⟩)), (56, .int .i64 x.key), (57, .pointer (some ⟨b2, 3, none⟩)), (58, .int .i64 x.val), (59, .tuple [.int .i64 ((changedM (g.nodes[(Int.toNat x.op)]'hi1) x.key x.val).1), .int .i64 ((changedM (g.nodes[(Int.toNat x.op)]'hi1) x.key x.val).2.1), .bool ((changedM (g.nodes[(Int.toNat x.op)]'hi1) x.key x.val).2.2)].toArray), (60, .int .i64 ((changedM (g.nodes[(Int.toNat x.op)]'hi1) x.key x.val).1)), (61, .int .i64 ((changedM (g.nodes[(Int.toNat x.op)]'hi1) x.key x.val).2.1)), (62, .bool ((changedM (g.nodes[(Int.toNat x.op)]'hi1) x.key x.val).2.2)), (68, .bool ((!((betterM xs x).2)) || (!((changedM (g.nodes[(Int.toNat x.op)]'hi1) x.key x.val).2.2))))] (fun w' => w11 = w') ?_ ?_
    · refine J_if (gd := 65) rfl rfl (fun hg4 => ?_) (fun hg4 => ?_)
      · refine J_gdno rfl rfl rfl rfl (J_gdno rfl rfl rfl rfl (J_st (R_pickT rfl rfl) rfl (J_cutEnd ⟨rfl, rfl, rfl, rfl, rfl, rfl, rfl, rfl, rfl, rfl, rfl, rfl, rfl, rfl, rfl, rfl, rfl, rfl, rfl, rfl, rfl, rfl, rfl, rfl, rfl, rfl, rfl, rfl, rfl, rfl, rfl, rfl, rfl, rfl, congrArg (fun b => some (Value.bool b)) (show true = ((!((betterM xs x).2)) || (!((changedM (g.nodes[(Int.toNat x.op)]'hi1) x.key x.val).2.2))) by first | (rw [hg4] <;> rfl) | (simp [hg4]; done) | (simp only [nat_nlt] <;> simp)), trivial⟩ rfl)))
      · refine J_gd rfl rfl (R_move rfl) rfl (J_gd rfl rfl (R_not rfl) rfl (J_st (R_pickF rfl rfl) rfl (J_cutEnd ⟨rfl, rfl, rfl, rfl, rfl, rfl, rfl, rfl, rfl, rfl, rfl, rfl, rfl, rfl, rfl, rfl, rfl, rfl, rfl, rfl, rfl, rfl, rfl, rfl, rfl, rfl, rfl, rfl, rfl, rfl, rfl, rfl, rfl, rfl, congrArg (fun b => some (Value.bool b)) (show (!((changedM (g.nodes[(Int.toNat x.op)]'hi1) x.key x.val).2.2)) = ((!((betterM xs x).2)) || (!((changedM (g.nodes[(Int.toNat x.op)]'hi1) x.key x.val).2.2))) by first | (rw [hg4] <;> rfl) | (simp [hg4]; done) | (simp only [nat_nlt] <;> simp)), trivial⟩ rfl)))
    rintro _ rfl
    refine J_done ?_
    refine S_cond rfl (fun hc2 => ?_) (fun hc2 => ?_)
    · refine S_seq ?_
      refine S_reg [true, true, true] rfl rfl ?_
      refine J_st (R_move rfl) rfl (J_st (R_assign rfl) rfl (J_st (R_assign rfl) rfl (J_done ?_)))
      refine S_ret (E_doneN (l := [.tmp 6, .tmp 7]) (vs := [v2, .slice none 0 0]) rfl ⟨.tmp rfl, .tmp rfl, trivial⟩ rfl E ?_)
      rw [imp_1 hc1 hop (by assumption)]
      exact ⟨_, _, rfl, Own.fin ho3 (by omega) (by omega) (by first | rfl | (simp only [List.nil_append]; rfl) | (rw [impTo_all (by omega)])), Own.finNil rfl, ⟨⟨(Sep.nilR _), trivial⟩, ⟨trivial, trivial⟩⟩⟩
    · refine S_skip ?_
      refine S_seq ?_
      refine S_reg [true] rfl rfl ?_
      refine J_st (R_assign rfl) rfl (J_done ?_)
      refine S_seq ?_
      refine S_seq ?_
      refine S_reg [true, true, true, true, true, true, true, true, true] rfl rfl ?_
      refine J_st (R_fieldAddr0 fl32_0 rfl) rfl (J_st (R_load sc30 rfl (h1.one 0 rfl)) rfl (J_st (R_fieldAddr0 fl50_0 rfl) rfl (J_st (R_load sc3 rfl (h2.one 0 rfl)) rfl (J_st (R_indexZ (i := (Int.toNat x.op)) sl30 rfl rfl (hd1.ext E).1 (by omega) hi1) rfl (J_st (R_fieldAddr fl70_3 rfl) rfl (J_st (R_load sc65 rfl ((ha1.ext E).one 3 rfl)) rfl (J_st (R_len Try.underlying65 rfl (hd2.ext E).len) rfl (J_st (R_move rfl) rfl (J_done ?_)))))))))
      refine S_block ?_
      refine S_loop (fun (xq : Nat × Value) => let ⟨k, vo⟩ := xq; [(5, .pointer (some ⟨b2, 0, none⟩)), (6, .slice none 0 0), (7, .slice none 0 0), (8, v2), (10, .int .i64 ((changedM (g.nodes[(Int.toNat x.op)]'hi1) x.key x.val).1)), (11, .int .i64 ((changedM (g.nodes[(Int.toNat x.op)]'hi1) x.key x.val).2.1)), (13, vo), (76, o2), (77, .int .i64 ((((g.nodes[(Int.toNat x.op)]'hi1).outs).length : Nat) : Int)), (78, .int .i64 ((k : Nat) : Int))]) (fun (xq : Nat × Value) w' => let ⟨k, vo⟩ := xq; Ext w w' ∧ w11.heap.size ≤ w'.heap.size ∧ Blk w' b1 ([o1, .int .i64 g.workers, .int .i64 g.cap]) ∧ Blk w' b2 (Enc.enc x) ∧ Own w' w4.heap.size w9.heap.size 4 v2 (List.flatMap (Enc.enc (α := Cell)) ((betterM xs x).1)) ∧ k ≤ (List.getD g.nodes (Int.toNat x.op) default).outs.length ∧ Own w' w11.heap.size w'.heap.size 4 vo (List.flatMap (Enc.enc (α := Cell)) (impTo g x k))) (fun (xq : Nat × Value) => let ⟨k, vo⟩ := xq; (List.getD g.nodes (Int.toNat x.op) default).outs.length - k) (0, .slice none 0 0) ⟨rfl, rfl, rfl, rfl, rfl, rfl, rfl, rfl, rfl, rfl, trivial⟩ ⟨E, Nat.le_refl _, h1, h2, ho3, Nat.zero_le _, Own.fin (Own.nil w11 w11.heap.size w11.heap.size 4) (by omega) (by omega) rfl⟩ ?_
      clear E h1 h2 ho3
      rintro ⟨k, vo⟩ w13 ⟨E, z12, h1, h2, ho3, hk, hvo⟩
      refine S_sub [(5, .pointer (some ⟨b2, 0, none⟩)), (6, .slice none 0 0), (7, .slice none 0 0), (8, v2), (10, .int .i64 ((changedM (g.nodes[(Int.toNat x.op)]'hi1) x.key x.val).1)), (11, .int .i64 ((changedM (g.nodes[(Int.toNat x.op)]'hi1) x.key x.val).2.1)), (13, vo), (76, o2), (77, .int .i64 ((((g.nodes[(Int.toNat x.op)]'hi1).outs).length : Nat) : Int)), (78, .int .i64 ((k : Nat) : Int))] ⟨rfl, rfl, rfl, rfl, rfl, rfl, rfl, rfl, rfl, rfl, trivial⟩ ?_
      have hke : (List.getD g.nodes (Int.toNat x.op) default).outs.length = (g.nodes[Int.toNat x.op]'hop.2.2).outs.length := by rw [getD_at hop.2.2]
      refine S_seq ?_
      refine S_reg [true] rfl rfl ?_
      refine J_st (R_lss rfl rfl) rfl (J_done ?_)
      refine S_seq ?_
      refine S_cond rfl (fun hc3 => ?_) (fun hc3 => ?_)
      · have hc3n : k < ((g.nodes[(Int.toNat x.op)]'hi1).outs).length := by first | (have h := of_decide_eq_true hc3; omega) | (have h := hc3; simp at h; omega)
        refine S_skip ?_
        refine S_seq ?_
        refine S_block ?_
        refine S_seq ?_
        refine S_reg [true, true, true] rfl rfl ?_
        have hi2 : k < ((g.nodes[(Int.toNat x.op)]'hi1).outs).length := (by first | assumption | omega)
        refine J_st (R_index (i := k) sl65 rfl rfl (hd2.rd.ext E) hi2) rfl (J_st (R_load sc3 rfl (((hd2.rd.ext E).get hi2).one 0 rfl)) rfl (J_st (R_assign rfl) rfl (J_done ?_)))
        refine S_reg [true, true, true, true, true, true, true, false, false, true] rfl rfl ?_
        refine J_st (R_move rfl) rfl (J_st (R_move rfl) rfl (J_st (R_fieldAddr0 fl50_1 rfl) rfl (J_st (R_load sc3 rfl (h2.one 1 rfl)) rfl (J_st (R_move rfl) rfl (J_st (R_move rfl) rfl (J_st (R_build (⟨(((g.nodes[(Int.toNat x.op)]'hi1).outs)[k]'hi2), x.epoch, (changedM (g.nodes[(Int.toNat x.op)]'hi1) x.key x.val).1, (changedM (g.nodes[(Int.toNat x.op)]'hi1) x.key x.val).2.1⟩ : Cell) rfl (fun _ => by kernel_rfl)) rfl ?_))))))
        refine J_buildSlice (vs := [.agg (Enc.enc (⟨(((g.nodes[(Int.toNat x.op)]'hi1).outs)[k]'hi2), x.epoch, (changedM (g.nodes[(Int.toNat x.op)]'hi1) x.key x.val).1, (changedM (g.nodes[(Int.toNat x.op)]'hi1) x.key x.val).2.1⟩ : Cell)).toArray]) (css := [[.int .i64 ((⟨(((g.nodes[(Int.toNat x.op)]'hi1).outs)[k]'hi2), x.epoch, (changedM (g.nodes[(Int.toNat x.op)]'hi1) x.key x.val).1, (changedM (g.nodes[(Int.toNat x.op)]'hi1) x.key x.val).2.1⟩ : Cell).op), .int .i64 ((⟨(((g.nodes[(Int.toNat x.op)]'hi1).outs)[k]'hi2), x.epoch, (changedM (g.nodes[(Int.toNat x.op)]'hi1) x.key x.val).1, (changedM (g.nodes[(Int.toNat x.op)]'hi1) x.key x.val).2.1⟩ : Cell).epoch), .int .i64 ((⟨(((g.nodes[(Int.toNat x.op)]'hi1).outs)[k]'hi2), x.epoch, (changedM (g.nodes[(Int.toNat x.op)]'hi1) x.key x.val).1, (changedM (g.nodes[(Int.toNat x.op)]'hi1) x.key x.val).2.1⟩ : Cell).key), .int .i64 ((⟨(((g.nodes[(Int.toNat x.op)]'hi1).outs)[k]'hi2), x.epoch, (changedM (g.nodes[(Int.toNat x.op)]'hi1) x.key x.val).1, (changedM (g.nodes[(Int.toNat x.op)]'hi1) x.key x.val).2.1⟩ : Cell).val)]]) sl28 rfl rfl ⟨⟨rfl, rfl⟩, trivial⟩ rfl rfl (fun b3 w14 e11 s3 h3 => ?_)
        replace h3 : Blk w14 b3 [.int .i64 ((⟨(((g.nodes[(Int.toNat x.op)]'hi1).outs)[k]'hi2), x.epoch, (changedM (g.nodes[(Int.toNat x.op)]'hi1) x.key x.val).1, (changedM (g.nodes[(Int.toNat x.op)]'hi1) x.key x.val).2.1⟩ : Cell).op), .int .i64 ((⟨(((g.nodes[(Int.toNat x.op)]'hi1).outs)[k]'hi2), x.epoch, (changedM (g.nodes[(Int.toNat x.op)]'hi1) x.key x.val).1, (changedM (g.nodes[(Int.toNat x.op)]'hi1) x.key x.val).2.1⟩ : Cell).epoch), .int .i64 ((⟨(((g.nodes[(Int.toNat x.op)]'hi1).outs)[k]'hi2), x.epoch, (changedM (g.nodes[(Int.toNat x.op)]'hi1) x.key x.val).1, (changedM (g.nodes[(Int.toNat x.op)]'hi1) x.key x.val).2.1⟩ : Cell).key), .int .i64 ((⟨(((g.nodes[(Int.toNat x.op)]'hi1).outs)[k]'hi2), x.epoch, (changedM (g.nodes[(Int.toNat x.op)]'hi1) x.key x.val).1, (changedM (g.nodes[(Int.toNat x.op)]'hi1) x.key x.val).2.1⟩ : Cell).val)] := h3
        have g_b3 : w.heap.size ≤ b3 := by have := E.size; omega
        have y_b3 := h3.lt
        replace E := E.trans e11; replace h1 := h1.ext e11; replace h2 := h2.ext e11; replace ho3 := ho3.ext e11; replace hvo := hvo.ext e11
        have z13 := e11.size
        refine J_append sl28 rfl rfl hvo (Src.ofBlk h3 rfl) rfl (by first | (simp only [sum_flat, List.length_nil, List.length_cons]; simp only [Enc.sz]; omega) | (have h := impTo_len g x k; rw [sum_flat]; simp only [show Enc.sz Cell = 4 from rfl, List.length_cons, List.length_nil]; omega)) (by decide) (by omega) (by omega) rfl rfl (fun v3 w15 m1 ho4 => ?_)
        replace E := E.step m1 (fun g hg => by have := Own.blk hvo g hg; omega); replace h1 := h1.mod m1 (fun g hg => by have := Own.blk hvo g hg; omega); replace h2 := h2.mod m1 (fun g hg => by have := Own.blk hvo g hg; omega); replace ho3 := ho3.mod m1 (fun g hg => by have := Own.blk hvo g hg; omega)
        have z14 := m1.size
        refine J_st (R_assign rfl) rfl (J_done ?_)
        refine S_nil (E_inB ?_)
        refine S_reg [true, true] rfl rfl ?_
        refine J_st (R_add rfl rfl (add_one hc3n (hd2.ext E).1.1)) rfl (J_st (R_move rfl) rfl (J_done ?_))
        refine S_nil (E_again (k + 1, v3) (by dsimp only; omega) ⟨rfl, rfl, rfl, rfl, rfl, rfl, rfl, rfl, rfl, rfl, trivial⟩ ⟨E, (by omega), h1, h2, ho3, (by omega), Own.fin ho4 (Nat.le_refl _) (by omega) (imp_step hop.2.2 (by omega))⟩)
      · have hc3n : ¬ k < ((g.nodes[(Int.toNat x.op)]'hi1).outs).length := by first | (have h := of_decide_eq_false hc3; omega) | (have h := hc3; simp at h; omega)
        refine S_exit (E_lp_exit (E_inB_exit ?_))
        refine S_seq ?_
        refine S_reg [true, true, true, true] rfl rfl ?_
        refine J_st (R_move rfl) rfl (J_st (R_move rfl) rfl (J_st (R_assign rfl) rfl (J_st (R_assign rfl) rfl (J_done ?_))))
        refine S_ret (E_doneN (l := [.tmp 6, .tmp 7]) (vs := [v2, vo]) rfl ⟨.tmp rfl, .tmp rfl, trivial⟩ rfl E ?_)
        rw [imp_2 hc1 hop (by assumption)]
        exact ⟨_, _, rfl, Own.fin ho3 (by omega) (by omega) (by first | rfl | (simp only [List.nil_append]; rfl) | (rw [impTo_all (by omega)])), Own.fin hvo (by omega) (by omega) (by first | rfl | (simp only [List.nil_append]; rfl) | (rw [impTo_all (by omega)])), ⟨⟨(Own.sep ho3 hvo (by omega)), trivial⟩, ⟨trivial, trivial⟩⟩⟩

set_option maxHeartbeats 4000000 in
set_option maxRecDepth 20000 in
theorem s_Improve (cg : List Value) (g : Graph) (vxs : Value) (xs : List Cell) (x : Cell) (w : World) (hg : Dat.R w 0 w.heap.size cg g) (hxs : RdS w vxs xs) (hb : xs.length ≤ 4194304) (hcg : cntGraph g ≤ 1048576) : Ct Try.prog 22 [.agg cg.toArray, vxs, .agg (Enc.enc x).toArray] w (fun v w' => ∃ u0 u1, v = .tuple [u0, u1].toArray ∧ Own w' w.heap.size w'.heap.size 4 u0 (List.flatMap (Enc.enc (α := Cell)) ((improveM g xs x).1)) ∧ Own w' w.heap.size w'.heap.size 4 u1 (List.flatMap (Enc.enc (α := Cell)) ((improveM g xs x).2)) ∧ SepL [u0, u1]) := by
  refine ct_of Try.func22 rfl Try.ntmps22 rfl ?_
  obtain ⟨o1, rfl, hd1⟩ := Graph.op hg
  refine S_sub [(0, .agg [o1, .int .i64 g.workers, .int .i64 g.cap].toArray), (1, vxs), (2, .agg (Enc.enc x).toArray)] ⟨rfl, rfl, rfl, trivial⟩ ?_
  have E : Ext w w := Ext.refl w
  refine S_seq ?_
  refine S_reg [false, false, true, true] rfl rfl ?_
  refine J_box rfl rfl (fun b1 w1 e1 s1 h1 => ?_)
  have g_b1 : w.heap.size ≤ b1 := by have := E.size; omega
  have y_b1 := h1.lt
  replace E := E.trans e1
  have z1 := e1.size
  refine J_box rfl rfl (fun b2 w2 e2 s2 h2 => ?_)
  have g_b2 : w.heap.size ≤ b2 := by have := E.size; omega
  have y_b2 := h2.lt
  replace E := E.trans e2; replace h1 := h1.ext e2
  have z2 := e2.size
  refine J_st (R_assign rfl) rfl (J_st (R_assign rfl) rfl (J_done ?_))
  refine S_seq ?_
  refine S_reg [false, true, false, true] rfl rfl ?_
  refine J_buildSlice (vs := []) (css := []) sl28 rfl rfl trivial rfl rfl (fun b3 w3 e3 s3 h3 => ?_)
  replace h3 : Blk w3 b3 [] := h3
  have g_b3 : w.heap.size ≤ b3 := by have := E.size; omega
  have y_b3 := h3.lt
  replace E := E.trans e3; replace h1 := h1.ext e3; replace h2 := h2.ext e3
  have z3 := e3.size
  refine J_st (R_move rfl) rfl ?_
  refine J_append sl28 rfl rfl (Own.ofBlk (lo := b3) (hi := b3 + 1) (sz := 4) h3 (Nat.le_refl _) (Nat.lt_succ_self _) (by simp) (by simp [maxLen])) (RdS.src (hxs.ext E)) (flat_one _) (by first | (simp only [sum_flat, List.length_nil, List.length_cons]; simp only [Enc.sz]; omega) | (have h := impTo_len g x k; rw [sum_flat]; simp only [show Enc.sz Cell = 4 from rfl, List.length_cons, List.length_nil]; omega)) (by decide) (by omega) (by omega) rfl rfl (fun v1 w4 m1 ho1 => ?_)
  replace E := E.step m1 (fun g hg => by have := Own.blk (Own.ofBlk (lo := b3) (hi := b3 + 1) (sz := 4) h3 (Nat.le_refl _) (Nat.lt_succ_self _) (by simp) (by simp [maxLen])) g hg; omega); replace h1 := h1.mod m1 (fun g hg => by have := Own.blk (Own.ofBlk (lo := b3) (hi := b3 + 1) (sz := 4) h3 (Nat.le_refl _) (Nat.lt_succ_self _) (by simp) (by simp [maxLen])) g hg; omega); replace h2 := h2.mod m1 (fun g hg => by have := Own.blk (Own.ofBlk (lo := b3) (hi := b3 + 1) (sz := 4) h3 (Nat.le_refl _) (Nat.lt_succ_self _) (by simp) (by simp [maxLen])) g hg; omega)
  have z4 := m1.size
  refine J_st (R_assign rfl) rfl (J_done ?_)
  refine S_seq ?_
  refine S_reg [false, true] rfl rfl ?_
  refine J_buildSlice (vs := []) (css := []) sl28 rfl rfl trivial rfl rfl (fun b4 w5 e4 s4 h4 => ?_)
  replace h4 : Blk w5 b4 [] := h4
  have g_b4 : w.heap.size ≤ b4 := by have := E.size; omega
  have y_b4 := h4.lt
  replace E := E.trans e4; replace h1 := h1.ext e4; replace h2 := h2.ext e4; replace ho1 := ho1.ext e4
  have z5 := e4.size
  refine J_st (R_assign rfl) rfl (J_done ?_)
  refine S_seq ?_
  refine S_reg [true, true, true, false, true, true, true, false, false, true] rfl rfl ?_
  refine J_st (R_loadS st32 rfl h1.at rfl) rfl (J_st (R_fieldAddr0 fl50_0 rfl) rfl (J_st (R_load sc3 rfl (h2.one 0 rfl)) rfl ?_))
  refine J_call Try.call37 rfl (s_NodeOf [o1, .int .i64 g.workers, .int .i64 g.cap] g x.op _ (Graph.mkR g (RdD.any (hd1.ext E))) (by first | omega | (simp only [mkL_length]; omega) | (rw [mkL_length]; done) | (simp only [mkL_length]; done))) rfl (fun _ w6 e5 ho2 => ?_)
  obtain ⟨_, rfl, ho3⟩ := ho2
  have g_ho2 : w.heap.size ≤ w5.heap.size := E.size
  replace E := E.trans e5; replace h1 := h1.ext e5; replace h2 := h2.ext e5; replace ho1 := ho1.ext e5; replace h4 := h4.ext e5
  have z6 := e5.size
  obtain ⟨o2, rfl, sp1, hw1⟩ := Node.opO ho3
  refine J_st (R_move rfl) rfl (J_st (R_extract rfl rfl) rfl (J_st (R_extract rfl rfl) rfl ?_))
  refine J_alloc st70 rfl (fun b5 w7 e6 s5 h5 => ?_)
  have g_b5 : w.heap.size ≤ b5 := by have := E.size; omega
  have y_b5 := h5.lt
  replace E := E.trans e6; replace h1 := h1.ext e6; replace h2 := h2.ext e6; replace ho1 := ho1.ext e6; replace h4 := h4.ext e6; replace hw1 := hw1.ext e6
  have z7 := e6.size
  refine J_storeS' (cs' := [.int .i64 (((nodeOf g x.op).1).kind), .int .i64 (((nodeOf g x.op).1).a), .int .i64 (((nodeOf g x.op).1).b), o2]) st70 rfl rfl rfl (all_cons rfl (all_cons rfl (all_cons rfl (all_cons hw1.one rfl)))) h5 (Nat.le_of_ble_eq_true rfl) rfl (fun w8 m2 h5' => ?_)
  replace h5 := h5'
  replace E := E.step m2 (fun g hg => by cases hg; omega); replace h1 := h1.mod m2 (fun g hg => by cases hg; omega); replace h2 := h2.mod m2 (fun g hg => by cases hg; omega); replace ho1 := ho1.mod m2 (fun g hg => by cases hg; omega); replace h4 := h4.mod m2 (fun g hg => by cases hg; omega); replace hw1 := hw1.mod m2 (fun g hg => by cases hg; omega)
  have z8 := m2.size
  refine J_st (R_assign rfl) rfl (J_done ?_)
  refine S_seq ?_
  refine S_seq ?_
  refine S_reg [true, true, true, true, false, true, true, true, true, true, false, true, true, true, true, true, false, true, true, true, true, true, false, true, true] rfl rfl ?_
  refine J_st (R_move rfl) rfl (J_st (R_not rfl) rfl (J_st (R_move rfl) rfl ?_))
  refine J_cut 22 [(0, .agg [o1, .int .i64 g.workers, .int .i64 g.cap].toArray), (1, vxs), (2, .agg (Enc.enc x).toArray), (3, .pointer (some ⟨b1, 0, none⟩)), (5, .pointer (some ⟨b2, 0, none⟩)), (6, .slice none 0 0), (7, .slice none 0 0), (8, v1), (9, .slice (some ⟨b4, 0, none⟩) 0 0), (10, .pointer (some ⟨b5, 0, none⟩)), (11, .bool ((nodeOf g x.op).2)), (18, .slice (some ⟨b3, 0, none⟩) 0 0), (19, vxs), (20, v1), (21, .slice (some ⟨b4, 0, none⟩) 0 0), (22, .tuple [.agg [.int .i64 (((nodeOf g x.op).1).kind), .int .i64 (((nodeOf g x.op).1).a), .int .i64 (((nodeOf g x.op).1).b), o2].toArray, .bool ((nodeOf g x.op).2)].toArray), (23, .agg [o1, .int .i64 g.workers, .int .i64 g.cap].toArray), (24, .pointer (some ⟨b2, 0, none⟩)), (25, .int .i64 x.op), (26, .tuple [.agg [.int .i64 (((nodeOf g x.op).1).kind), .int .i64 (((nodeOf g x.op).1).a), .int .i64 (((nodeOf g x.op).1).b), o2].toArray, .bool ((nodeOf g x.op).2)].toArray), (27, .agg [.int .i64 (((nodeOf g x.op).1).kind), .int .i64 (((nodeOf g x.op).1).a), .int .i64 (((nodeOf g x.op).1).b), o2].toArray), (28, .bool ((nodeOf g x.op).2)), (53, .bool (((((!((nodeOf g x.op).2)) || (!(graphOk g))) || (!(win x.epoch 0 3))) || (!(win x.key 0 99))) || (!(win x.val 0 999))))] (fun w' => Ext w w' ∧ w8.heap.size ≤ w'.heap.size ∧ Blk w' b1 ([o1, .int .i64 g.workers, .int .i64 g.cap]) ∧ Blk w' b2 (Enc.enc x) ∧ Own w' b3 w4.heap.size 4 v1 ([] ++ List.flatMap (Enc.enc (α := Cell)) xs) ∧ Blk w' b4 [] ∧ Own w' w5.heap.size w6.heap.size 1 o2 (List.flatMap (Enc.enc (α := Int)) (((nodeOf g x.op).1).outs)) ∧ Blk w' b5 [.int .i64 (((nodeOf g x.op).1).kind), .int .i64 (((nodeOf g x.op).1).a), .int .i64 (((nodeOf g x.op).1).b), o2]) ?_ ?_
  · refine J_if (gd := 31) rfl rfl (fun hg1 => ?_) (fun hg1 => ?_)
    · refine J_gdno rfl rfl rfl rfl ?_
      refine J_ungno rfl rfl rfl rfl ?_
      refine J_gdno rfl rfl rfl rfl (J_st (R_pickT rfl rfl) rfl (J_st (R_move rfl) rfl (J_gdno rfl rfl rfl rfl (J_gdno rfl rfl rfl rfl ?_))))
      refine J_ungno rfl rfl rfl rfl ?_
      refine J_gdno rfl rfl rfl rfl (J_st (R_pickT rfl rfl) rfl (J_st (R_move rfl) rfl (J_gdno rfl rfl rfl rfl (J_gdno rfl rfl rfl rfl ?_))))
      refine J_ungno rfl rfl rfl rfl ?_
      refine J_gdno rfl rfl rfl rfl (J_st (R_pickT rfl rfl) rfl (J_st (R_move rfl) rfl (J_gdno rfl rfl rfl rfl (J_gdno rfl rfl rfl rfl ?_))))
      refine J_ungno rfl rfl rfl rfl ?_
      refine J_gdno rfl rfl rfl rfl (J_st (R_pickT rfl rfl) rfl (J_cutEnd ⟨rfl, rfl, rfl, rfl, rfl, rfl, rfl, rfl, rfl, rfl, rfl, rfl, rfl, rfl, rfl, rfl, rfl, rfl, rfl, rfl, rfl, rfl, congrArg (fun b => some (Value.bool b)) (show true = (((((!((nodeOf g x.op).2)) || (!(graphOk g))) || (!(win x.epoch 0 3))) || (!(win x.key 0 99))) || (!(win x.val 0 999))) by first | (rw [hg1] <;> rfl) | (simp [hg1]; done) | (simp only [nat_nlt] <;> simp)), trivial⟩ ⟨E, (by omega), h1, h2, ho1, h4, hw1, h5⟩))
    · refine J_gd rfl rfl (R_loadS st32 rfl h1.at rfl) rfl ?_
      refine J_ung rfl rfl ?_
      refine J_call Try.call38 rfl (s_GraphOk [o1, .int .i64 g.workers, .int .i64 g.cap] g _ (Graph.mkR g (RdD.any (hd1.ext E)))) rfl (fun _ w10 e7 hv => ?_)
      subst hv
      replace E := E.trans e7; replace h1 := h1.ext e7; replace h2 := h2.ext e7; replace ho1 := ho1.ext e7; replace h4 := h4.ext e7; replace hw1 := hw1.ext e7; replace h5 := h5.ext e7
      have z9 := e7.size
      refine J_gd rfl rfl (R_not rfl) rfl (J_st (R_pickF rfl rfl) rfl (J_st (R_move rfl) rfl ?_))
      refine J_if (gd := 36) rfl rfl (fun hg2 => ?_) (fun hg2 => ?_)
      · refine J_gdno rfl rfl rfl rfl (J_gdno rfl rfl rfl rfl ?_)
        refine J_ungno rfl rfl rfl rfl ?_
        refine J_gdno rfl rfl rfl rfl (J_st (R_pickT rfl rfl) rfl (J_st (R_move rfl) rfl (J_gdno rfl rfl rfl rfl (J_gdno rfl rfl rfl rfl ?_))))
        refine J_ungno rfl rfl rfl rfl ?_
        refine J_gdno rfl rfl rfl rfl (J_st (R_pickT rfl rfl) rfl (J_st (R_move rfl) rfl (J_gdno rfl rfl rfl rfl (J_gdno rfl rfl rfl rfl ?_))))
        refine J_ungno rfl rfl rfl rfl ?_
        refine J_gdno rfl rfl rfl rfl (J_st (R_pickT rfl rfl) rfl (J_cutEnd ⟨rfl, rfl, rfl, rfl, rfl, rfl, rfl, rfl, rfl, rfl, rfl, rfl, rfl, rfl, rfl, rfl, rfl, rfl, rfl, rfl, rfl, rfl, congrArg (fun b => some (Value.bool b)) (show true = (((((!((nodeOf g x.op).2)) || (!(graphOk g))) || (!(win x.epoch 0 3))) || (!(win x.key 0 99))) || (!(win x.val 0 999))) by first | (rw [hg1, hg2] <;> rfl) | (simp [hg1, hg2]; done) | (simp only [nat_nlt] <;> simp)), trivial⟩ ⟨E, (by omega), h1, h2, ho1, h4, hw1, h5⟩))
      · refine J_gd rfl rfl (R_fieldAddr0 fl50_1 rfl) rfl (J_gd rfl rfl (R_load sc3 rfl (h2.one 1 rfl)) rfl ?_)
        refine J_ung rfl rfl ?_
        refine J_call Try.call35 rfl (s_l01In x.epoch 0 3 _ ) rfl (fun _ w11 e8 hv => ?_)
        subst hv
        replace E := E.trans e8; replace h1 := h1.ext e8; replace h2 := h2.ext e8; replace ho1 := ho1.ext e8; replace h4 := h4.ext e8; replace hw1 := hw1.ext e8; replace h5 := h5.ext e8
        have z10 := e8.size
        refine J_gd rfl rfl (R_not rfl) rfl (J_st (R_pickF rfl rfl) rfl (J_st (R_move rfl) rfl ?_))
        refine J_if (gd := 42) rfl rfl (fun hg3 => ?_) (fun hg3 => ?_)
        · refine J_gdno rfl rfl rfl rfl (J_gdno rfl rfl rfl rfl ?_)
          refine J_ungno rfl rfl rfl rfl ?_
          refine J_gdno rfl rfl rfl rfl (J_st (R_pickT rfl rfl) rfl (J_st (R_move rfl) rfl (J_gdno rfl rfl rfl rfl (J_gdno rfl rfl rfl rfl ?_))))
          refine J_ungno rfl rfl rfl rfl ?_
          refine J_gdno rfl rfl rfl rfl (J_st (R_pickT rfl rfl) rfl (J_cutEnd ⟨rfl, rfl, rfl, rfl, rfl, rfl, rfl, rfl, rfl, rfl, rfl, rfl, rfl, rfl, rfl, rfl, rfl, rfl, rfl, rfl, rfl, rfl, congrArg (fun b => some (Value.bool b)) (show true = (((((!((nodeOf g x.op).2)) || (!(graphOk g))) || (!(win x.epoch 0 3))) || (!(win x.key 0 99))) || (!(win x.val 0 999))) by first | (rw [hg1, hg2, hg3] <;> rfl) | (simp [hg1, hg2, hg3]; done) | (simp only [nat_nlt] <;> simp)), trivial⟩ ⟨E, (by omega), h1, h2, ho1, h4, hw1, h5⟩))
        · refine J_gd rfl rfl (R_fieldAddr0 fl50_2 rfl) rfl (J_gd rfl rfl (R_load sc3 rfl (h2.one 2 rfl)) rfl ?_)
          refine J_ung rfl rfl ?_
          refine J_call Try.call35 rfl (s_l01In x.key 0 99 _ ) rfl (fun _ w12 e9 hv => ?_)
          subst hv
          replace E := E.trans e9; replace h1 := h1.ext e9; replace h2 := h2.ext e9; replace ho1 := ho1.ext e9; replace h4 := h4.ext e9; replace hw1 := hw1.ext e9; replace h5 := h5.ext e9
          have z11 := e9.size
          refine J_gd rfl rfl (R_not rfl) rfl (J_st (R_pickF rfl rfl) rfl (J_st (R_move rfl) rfl ?_))
          refine J_if (gd := 48) rfl rfl (fun hg4 => ?_) (fun hg4 => ?_)
          · refine J_gdno rfl rfl rfl rfl (J_gdno rfl rfl rfl rfl ?_)
            refine J_ungno rfl rfl rfl rfl ?_
            refine J_gdno rfl rfl rfl rfl (J_st (R_pickT rfl rfl) rfl (J_cutEnd ⟨rfl, rfl, rfl, rfl, rfl, rfl, rfl, rfl, rfl, rfl, rfl, rfl, rfl, rfl, rfl, rfl, rfl, rfl, rfl, rfl, rfl, rfl, congrArg (fun b => some (Value.bool b)) (show true = (((((!((nodeOf g x.op).2)) || (!(graphOk g))) || (!(win x.epoch 0 3))) || (!(win x.key 0 99))) || (!(win x.val 0 999))) by first | (rw [hg1, hg2, hg3, hg4] <;> rfl) | (simp [hg1, hg2, hg3, hg4]; done) | (simp only [nat_nlt] <;> simp)), trivial⟩ ⟨E, (by omega), h1, h2, ho1, h4, hw1, h5⟩))
          · refine J_gd rfl rfl (R_fieldAddr0 fl50_3 rfl) rfl (J_gd rfl rfl (R_load sc3 rfl (h2.one 3 rfl)) rfl ?_)
            refine J_ung rfl rfl ?_
            refine J_call Try.call35 rfl (s_l01In x.val 0 999 _ ) rfl (fun _ w13 e10 hv => ?_)
            subst hv
            replace E := E.trans e10; replace h1 := h1.ext e10; replace h2 := h2.ext e10; replace ho1 := ho1.ext e10; replace h4 := h4.ext e10; replace hw1 := hw1.ext e10; replace h5 := h5.ext e10
            have z12 := e10.size
            refine J_gd rfl rfl (R_not rfl) rfl (J_st (R_pickF rfl rfl) rfl (J_cutEnd ⟨rfl, rfl, rfl, rfl, rfl, rfl, rfl, rfl, rfl, rfl, rfl, rfl, rfl, rfl, rfl, rfl, rfl, rfl, rfl, rfl, rfl, rfl, congrArg (fun b => some (Value.bool b)) (show (!(win x.val 0 999)) = (((((!((nodeOf g x.op).2)) || (!(graphOk g))) || (!(win x.epoch 0 3))) || (!(win x.key 0 99))) || (!(win x.val 0 999))) by first | (rw [hg1, hg2, hg3, hg4] <;> rfl) | (simp [hg1, hg2, hg3, hg4]; done) | (simp only [nat_nlt] <;> simp)), trivial⟩ ⟨E, (by omega), h1, h2, ho1, h4, hw1, h5⟩))
  clear E h1 h2 ho1 h4 hw1 h5
  rintro w9 ⟨E, z13, h1, h2, ho1, h4, hw1, h5⟩
  refine J_done ?_
  refine S_cond rfl (fun hc1 => ?_) (fun hc1 => ?_)
  · replace hc1 := imp_st hc1
    refine S_seq ?_
    refine S_reg [true, true, true, true] rfl rfl ?_
    refine J_st (R_move rfl) rfl (J_st (R_move rfl) rfl (J_st (R_assign rfl) rfl (J_st (R_assign rfl) rfl (J_done ?_))))
    refine S_ret (E_doneN (l := [.tmp 6, .tmp 7]) (vs := [v1, .slice (some ⟨b4, 0, none⟩) 0 0]) rfl ⟨.tmp rfl, .tmp rfl, trivial⟩ rfl E ?_)
    rw [imp_0 hc1]
    exact ⟨_, _, rfl, Own.fin ho1 (by omega) (by omega) (by first | rfl | (simp only [List.nil_append]; rfl) | (rw [impTo_all (by omega)])), Own.fin (Own.ofBlk (lo := b4) (hi := b4 + 1) (sz := 4) h4 (Nat.le_refl _) (Nat.lt_succ_self _) (by rfl) (by unfold maxLen; omega)) (by omega) (by omega) (by first | rfl | (simp only [List.nil_append]; rfl) | (rw [impTo_all (by omega)])), ⟨⟨(Own.sep ho1 (Own.ofBlk (lo := b4) (hi := b4 + 1) (sz := 4) h4 (Nat.le_refl _) (Nat.lt_succ_self _) (by rfl) (by unfold maxLen; omega)) (by omega)), trivial⟩, ⟨trivial, trivial⟩⟩⟩
  · replace hc1 := imp_sf hc1
    have hq := imp_of hc1
    have hop := isNode_of hq.2
    have hgo := hq.1
    have ho2 := outs_two (i := Int.toNat x.op) hgo (by omega)
    have hof := getD_at (xs := g.nodes) hop.2.2 ▸ ho2
    have hnod := nodeOf_1 hq.2
    have hol3 : ((nodeOf g x.op).1).outs.length ≤ 2 := hnod ▸ ho2
    refine S_skip ?_
    refine S_seq ?_
    refine S_reg [true, true, false, true, true, true, true, true] rfl rfl ?_
    refine J_st (R_move rfl) rfl (J_st (R_loadS st50 rfl h2.at rfl) rfl ?_)
    refine J_call Try.call39 rfl (s_Recall 5 vxs xs x _ (hxs.ext E) (by first | omega | (simp only [mkL_length]; omega) | (rw [mkL_length]; done) | (simp only [mkL_length]; done))) rfl (fun _ w14 e11 ho4 => ?_)
    obtain ⟨v2, rfl, ho5⟩ := ho4
    have g_ho4 : w.heap.size ≤ w9.heap.size := E.size
    replace E := E.trans e11; replace h1 := h1.ext e11; replace h2 := h2.ext e11; replace ho1 := ho1.ext e11; replace h4 := h4.ext e11; replace hw1 := hw1.ext e11; replace h5 := h5.ext e11
    have z14 := e11.size
    refine J_st (R_move rfl) rfl (J_st (R_extract rfl rfl) rfl (J_st (R_extract rfl rfl) rfl (J_st (R_assign rfl) rfl (J_st (R_assign rfl) rfl (J_done ?_)))))
    refine S_seq ?_
    refine S_seq ?_
    refine S_reg [true, true] rfl rfl ?_
    refine J_st (R_move rfl) rfl (J_st (R_not rfl) rfl (J_done ?_))
    refine S_cond rfl (fun hc2 => ?_) (fun hc2 => ?_)
    · refine S_seq ?_
      refine S_reg [true, true, true, true] rfl rfl ?_
      refine J_st (R_move rfl) rfl (J_st (R_move rfl) rfl (J_st (R_assign rfl) rfl (J_st (R_assign rfl) rfl (J_done ?_))))
      refine S_ret (E_doneN (l := [.tmp 6, .tmp 7]) (vs := [v1, .slice (some ⟨b4, 0, none⟩) 0 0]) rfl ⟨.tmp rfl, .tmp rfl, trivial⟩ rfl E ?_)
      rw [imp_n hc1 hc2]
      exact ⟨_, _, rfl, Own.fin ho1 (by omega) (by omega) (by first | rfl | (simp only [List.nil_append]; rfl) | (rw [impTo_all (by omega)])), Own.fin (Own.ofBlk (lo := b4) (hi := b4 + 1) (sz := 4) h4 (Nat.le_refl _) (Nat.lt_succ_self _) (by rfl) (by unfold maxLen; omega)) (by omega) (by omega) (by first | rfl | (simp only [List.nil_append]; rfl) | (rw [impTo_all (by omega)])), ⟨⟨(Own.sep ho1 (Own.ofBlk (lo := b4) (hi := b4 + 1) (sz := 4) h4 (Nat.le_refl _) (Nat.lt_succ_self _) (by rfl) (by unfold maxLen; omega)) (by omega)), trivial⟩, ⟨trivial, trivial⟩⟩⟩
    · refine S_skip ?_
      refine S_seq ?_
      refine S_reg [true, true, true, true, true, false, true, true, true, true, true, true, true] rfl rfl ?_
      refine J_st (R_loadS st70 rfl h5.at rfl) rfl (J_st (R_fieldAddr0 fl50_2 rfl) rfl (J_st (R_load sc3 rfl (h2.one 2 rfl)) rfl (J_st (R_fieldAddr0 fl50_3 rfl) rfl (J_st (R_load sc3 rfl (h2.one 3 rfl)) rfl ?_))))
      refine J_call Try.call40 rfl (s_Changed [.int .i64 (((nodeOf g x.op).1).kind), .int .i64 (((nodeOf g x.op).1).a), .int .i64 (((nodeOf g x.op).1).b), o2] ((nodeOf g x.op).1) x.key x.val _ (Node.mkR ((nodeOf g x.op).1) (RdD.any (Own.rdD hw1)))) rfl (fun _ w15 e12 hv => ?_)
      subst hv
      replace E := E.trans e12; replace h1 := h1.ext e12; replace h2 := h2.ext e12; replace ho1 := ho1.ext e12; replace h4 := h4.ext e12; replace hw1 := hw1.ext e12; replace h5 := h5.ext e12; replace ho5 := ho5.ext e12
      have z15 := e12.size
      refine J_st (R_move rfl) rfl (J_st (R_extract rfl rfl) rfl (J_st (R_extract rfl rfl) rfl (J_st (R_extract rfl rfl) rfl (J_st (R_assign rfl) rfl (J_st (R_assign rfl) rfl (J_st (R_assign rfl) rfl (J_done ?_)))))))
      refine S_seq ?_
      refine S_seq ?_
      refine S_reg [true] rfl rfl ?_
      refine J_st (R_assign rfl) rfl (J_done ?_)
      refine S_block ?_
      refine S_loop (fun (xq : Nat × Value) => let ⟨k, vo⟩ := xq; [(5, .pointer (some ⟨b2, 0, none⟩)), (6, .slice none 0 0), (7, .slice none 0 0), (9, vo), (10, .pointer (some ⟨b5, 0, none⟩)), (12, v2), (14, .int .i64 ((changedM ((nodeOf g x.op).1) x.key x.val).1)), (15, .int .i64 ((changedM ((nodeOf g x.op).1) x.key x.val).2.1)), (16, .bool ((changedM ((nodeOf g x.op).1) x.key x.val).2.2)), (17, .int .i64 ((k : Nat) : Int))]) (fun (xq : Nat × Value) w' => let ⟨k, vo⟩ := xq; Ext w w' ∧ w15.heap.size ≤ w'.heap.size ∧ Blk w' b1 ([o1, .int .i64 g.workers, .int .i64 g.cap]) ∧ Blk w' b2 (Enc.enc x) ∧ Own w' b3 w4.heap.size 4 v1 ([] ++ List.flatMap (Enc.enc (α := Cell)) xs) ∧ Own w' w5.heap.size w6.heap.size 1 o2 (List.flatMap (Enc.enc (α := Int)) (((nodeOf g x.op).1).outs)) ∧ Blk w' b5 [.int .i64 (((nodeOf g x.op).1).kind), .int .i64 (((nodeOf g x.op).1).a), .int .i64 (((nodeOf g x.op).1).b), o2] ∧ Own w' w9.heap.size w14.heap.size 4 v2 (List.flatMap (Enc.enc (α := Cell)) ((recallM 5 xs x).1)) ∧ k ≤ ((nodeOf g x.op).1).outs.length ∧ ((changedM ((nodeOf g x.op).1) x.key x.val).2.2 = false → k = 0) ∧ Own w' b4 w'.heap.size 4 vo (List.flatMap (Enc.enc (α := Cell)) (impTo g x k)) ∧ (∀ g, Value.ownBlock vo = some g → g = b4 ∨ w15.heap.size ≤ g)) (fun (xq : Nat × Value) => let ⟨k, vo⟩ := xq; ((nodeOf g x.op).1).outs.length - k) (0, .slice (some ⟨b4, 0, none⟩) 0 0) ⟨rfl, rfl, rfl, rfl, rfl, rfl, rfl, rfl, rfl, rfl, trivial⟩ ⟨E, Nat.le_refl _, h1, h2, ho1, hw1, h5, ho5, Nat.zero_le _, (fun _ => rfl), Own.fin (Own.ofBlk (lo := b4) (hi := b4 + 1) (sz := 4) h4 (Nat.le_refl _) (Nat.lt_succ_self _) (by simp) (by simp [maxLen])) (by omega) (by omega) rfl, (fun g hg => .inl (by cases hg; rfl))⟩ ?_
      clear E h1 h2 ho1 h4 hw1 h5 ho5
      rintro ⟨k, vo⟩ w16 ⟨E, z16, h1, h2, ho1, hw1, h5, ho5, hk, hgz, hvo, hvn⟩
      refine S_sub [(5, .pointer (some ⟨b2, 0, none⟩)), (6, .slice none 0 0), (7, .slice none 0 0), (9, vo), (10, .pointer (some ⟨b5, 0, none⟩)), (12, v2), (14, .int .i64 ((changedM ((nodeOf g x.op).1) x.key x.val).1)), (15, .int .i64 ((changedM ((nodeOf g x.op).1) x.key x.val).2.1)), (16, .bool ((changedM ((nodeOf g x.op).1) x.key x.val).2.2)), (17, .int .i64 ((k : Nat) : Int))] ⟨rfl, rfl, rfl, rfl, rfl, rfl, rfl, rfl, rfl, rfl, trivial⟩ ?_
      refine S_seq ?_
      refine S_seq ?_
      refine S_reg [true, true, true, true, true, true, true, true] rfl rfl ?_
      refine J_st (R_move rfl) rfl (J_st (R_fieldAddr0 fl70_3 rfl) rfl (J_st (R_load sc65 rfl (h5.one 3 rfl)) rfl (J_st (R_len Try.underlying65 rfl (Own.len (by decide) hw1)) rfl (J_st (R_lss rfl rfl) rfl (J_st (R_move rfl) rfl ?_)))))
      refine J_cut 2 [(5, .pointer (some ⟨b2, 0, none⟩)), (6, .slice none 0 0), (7, .slice none 0 0), (9, vo), (10, .pointer (some ⟨b5, 0, none⟩)), (12, v2), (14, .int .i64 ((changedM ((nodeOf g x.op).1) x.key x.val).1)), (15, .int .i64 ((changedM ((nodeOf g x.op).1) x.key x.val).2.1)), (16, .bool ((changedM ((nodeOf g x.op).1) x.key x.val).2.2)), (17, .int .i64 ((k : Nat) : Int)), (83, .bool ((decide (((k : Nat) : Int) < (((((nodeOf g x.op).1).outs).length : Nat) : Int))) && ((changedM ((nodeOf g x.op).1) x.key x.val).2.2)))] (fun w' => w16 = w') ?_ ?_
      · refine J_if (gd := 81) rfl rfl (fun hg5 => ?_) (fun hg5 => ?_)
        · have hg5n : k < (((nodeOf g x.op).1).outs).length := by first | (have h := of_decide_eq_true hg5; omega) | (have h := hg5; simp at h; omega)
          refine J_gd rfl rfl (R_move rfl) rfl (J_st (R_pickT rfl rfl) rfl (J_cutEnd ⟨rfl, rfl, rfl, rfl, rfl, rfl, rfl, rfl, rfl, rfl, congrArg (fun b => some (Value.bool b)) (show ((changedM ((nodeOf g x.op).1) x.key x.val).2.2) = ((decide (((k : Nat) : Int) < (((((nodeOf g x.op).1).outs).length : Nat) : Int))) && ((changedM ((nodeOf g x.op).1) x.key x.val).2.2)) by first | (rw [hg5] <;> rfl) | (simp [hg5]; done) | (simp only [nat_nlt] <;> simp)), trivial⟩ rfl))
        · have hg5n : ¬ k < (((nodeOf g x.op).1).outs).length := by first | (have h := of_decide_eq_false hg5; omega) | (have h := hg5; simp at h; omega)
          refine J_gdno rfl rfl rfl rfl (J_st (R_pickF rfl rfl) rfl (J_cutEnd ⟨rfl, rfl, rfl, rfl, rfl, rfl, rfl, rfl, rfl, rfl, congrArg (fun b => some (Value.bool b)) (show false = ((decide (((k : Nat) : Int) < (((((nodeOf g x.op).1).outs).length : Nat) : Int))) && ((changedM ((nodeOf g x.op).1) x.key x.val).2.2)) by first | (rw [hg5] <;> rfl) | (simp [hg5]; done) | (simp only [nat_nlt] <;> simp)), trivial⟩ rfl))
      rintro _ rfl
      refine J_done ?_
      refine S_cond rfl (fun hc3 => ?_) (fun hc3 => ?_)
      · have hlt := imp_lt hc3
        refine S_skip ?_
        refine S_seq ?_
        refine S_block ?_
        refine S_regX mixed [12] [(0, true), (1, true), (2, true), (3, true), (4, true), (5, true), (6, true), (7, true), (8, true), (9, true), (10, true), (11, false)] [(12, false), (13, true)] (by decide +kernel) rfl rfl (fun w18 e13 => ?_)
        replace E := E.trans e13; replace h1 := h1.ext e13; replace h2 := h2.ext e13; replace ho1 := ho1.ext e13; replace hw1 := hw1.ext e13; replace h5 := h5.ext e13; replace ho5 := ho5.ext e13; replace hvo := hvo.ext e13
        have z17 := e13.size
        refine J_st (R_move rfl) rfl (J_st (R_fieldAddr0 fl70_3 rfl) rfl (J_st (R_load sc65 rfl (h5.one 3 rfl)) rfl (J_st (R_move rfl) rfl ?_)))
        have hi1 : k < (((nodeOf g x.op).1).outs).length := (by first | assumption | omega)
        refine J_st (R_index (i := k) sl65 rfl rfl (Own.rd (by decide) hw1) hi1) rfl (J_st (R_load sc3 rfl (((Own.rd (by decide) hw1).get hi1).one 0 rfl)) rfl (J_st (R_fieldAddr0 fl50_1 rfl) rfl (J_st (R_load sc3 rfl (h2.one 1 rfl)) rfl (J_st (R_move rfl) rfl (J_st (R_move rfl) rfl (J_st (R_build (⟨((((nodeOf g x.op).1).outs)[k]'hi1), x.epoch, (changedM ((nodeOf g x.op).1) x.key x.val).1, (changedM ((nodeOf g x.op).1) x.key x.val).2.1⟩ : Cell) rfl (fun _ => by kernel_rfl)) rfl ?_))))))
        refine J_buildSlice (vs := [.agg (Enc.enc (⟨((((nodeOf g x.op).1).outs)[k]'hi1), x.epoch, (changedM ((nodeOf g x.op).1) x.key x.val).1, (changedM ((nodeOf g x.op).1) x.key x.val).2.1⟩ : Cell)).toArray]) (css := [[.int .i64 ((⟨((((nodeOf g x.op).1).outs)[k]'hi1), x.epoch, (changedM ((nodeOf g x.op).1) x.key x.val).1, (changedM ((nodeOf g x.op).1) x.key x.val).2.1⟩ : Cell).op), .int .i64 ((⟨((((nodeOf g x.op).1).outs)[k]'hi1), x.epoch, (changedM ((nodeOf g x.op).1) x.key x.val).1, (changedM ((nodeOf g x.op).1) x.key x.val).2.1⟩ : Cell).epoch), .int .i64 ((⟨((((nodeOf g x.op).1).outs)[k]'hi1), x.epoch, (changedM ((nodeOf g x.op).1) x.key x.val).1, (changedM ((nodeOf g x.op).1) x.key x.val).2.1⟩ : Cell).key), .int .i64 ((⟨((((nodeOf g x.op).1).outs)[k]'hi1), x.epoch, (changedM ((nodeOf g x.op).1) x.key x.val).1, (changedM ((nodeOf g x.op).1) x.key x.val).2.1⟩ : Cell).val)]]) sl28 rfl rfl ⟨⟨rfl, rfl⟩, trivial⟩ rfl rfl (fun b6 w19 e14 s6 h6 => ?_)
        replace h6 : Blk w19 b6 [.int .i64 ((⟨((((nodeOf g x.op).1).outs)[k]'hi1), x.epoch, (changedM ((nodeOf g x.op).1) x.key x.val).1, (changedM ((nodeOf g x.op).1) x.key x.val).2.1⟩ : Cell).op), .int .i64 ((⟨((((nodeOf g x.op).1).outs)[k]'hi1), x.epoch, (changedM ((nodeOf g x.op).1) x.key x.val).1, (changedM ((nodeOf g x.op).1) x.key x.val).2.1⟩ : Cell).epoch), .int .i64 ((⟨((((nodeOf g x.op).1).outs)[k]'hi1), x.epoch, (changedM ((nodeOf g x.op).1) x.key x.val).1, (changedM ((nodeOf g x.op).1) x.key x.val).2.1⟩ : Cell).key), .int .i64 ((⟨((((nodeOf g x.op).1).outs)[k]'hi1), x.epoch, (changedM ((nodeOf g x.op).1) x.key x.val).1, (changedM ((nodeOf g x.op).1) x.key x.val).2.1⟩ : Cell).val)] := h6
        have g_b6 : w.heap.size ≤ b6 := by have := E.size; omega
        have y_b6 := h6.lt
        replace E := E.trans e14; replace h1 := h1.ext e14; replace h2 := h2.ext e14; replace ho1 := ho1.ext e14; replace hw1 := hw1.ext e14; replace h5 := h5.ext e14; replace ho5 := ho5.ext e14; replace hvo := hvo.ext e14
        have z18 := e14.size
        refine JX_tail ?_
        refine J2_X rfl ?_
        refine J_appendB sl28 rfl rfl hvo (Src.ofBlk h6 rfl) rfl (by first | (simp only [sum_flat, List.length_nil, List.length_cons]; simp only [Enc.sz]; omega) | (have h := impTo_len g x k; rw [sum_flat]; simp only [show Enc.sz Cell = 4 from rfl, List.length_cons, List.length_nil]; omega)) (by decide) (by omega) (by omega) rfl rfl (fun v3 w20 m3 ho6 hb1 => ?_)
        have hn1 : ∀ g, Value.ownBlock v3 = some g → g = b4 ∨ w15.heap.size ≤ g := fun g hg => (hb1 g hg).elim (fun h => hvn g h) (fun h => by omega)
        replace E := E.step m3 (fun g hg => by have := Own.blk hvo g hg; have := hvn g hg; omega); replace h1 := h1.mod m3 (fun g hg => by have := Own.blk hvo g hg; have := hvn g hg; omega); replace h2 := h2.mod m3 (fun g hg => by have := Own.blk hvo g hg; have := hvn g hg; omega); replace ho1 := ho1.mod m3 (fun g hg => by have := Own.blk hvo g hg; have := hvn g hg; omega); replace hw1 := hw1.mod m3 (fun g hg => by have := Own.blk hvo g hg; have := hvn g hg; omega); replace h5 := h5.mod m3 (fun g hg => by have := Own.blk hvo g hg; have := hvn g hg; omega); replace ho5 := ho5.mod m3 (fun g hg => by have := Own.blk hvo g hg; have := hvn g hg; omega)
        have z19 := m3.size
        refine JX_go ?_
        refine J_st (R_assign rfl) rfl (J_done ?_)
        refine S_nil (E_inB ?_)
        refine S_reg [true, true, true] rfl rfl ?_
        refine J_st (R_move rfl) rfl (J_st (R_add rfl rfl (add_nat (by unfold maxLen; omega))) rfl (J_st (R_assign rfl) rfl (J_done ?_)))
        refine S_nil (E_again (k + 1, v3) (by dsimp only; omega) ⟨rfl, rfl, rfl, rfl, rfl, rfl, rfl, rfl, rfl, rfl, trivial⟩ ⟨E, (by omega), h1, h2, ho1, hw1, h5, ho5, (by omega), (fun h => absurd h (by rw [hlt.2]; simp)), Own.fin ho6 (Nat.le_refl _) (by omega) (imp_stepS hnod hlt.1), hn1⟩)
      · refine S_exit (E_lp_exit (E_inB_exit ?_))
        refine S_seq ?_
        refine S_reg [true, true, true, true] rfl rfl ?_
        refine J_st (R_move rfl) rfl (J_st (R_move rfl) rfl (J_st (R_assign rfl) rfl (J_st (R_assign rfl) rfl (J_done ?_))))
        refine S_ret (E_doneN (l := [.tmp 6, .tmp 7]) (vs := [v2, vo]) rfl ⟨.tmp rfl, .tmp rfl, trivial⟩ rfl E ?_)
        rw [imp_e hc1 hc2 hnod hk hgz hc3]
        exact ⟨_, _, rfl, Own.fin ho5 (by omega) (by omega) (by first | rfl | (simp only [List.nil_append]; rfl) | (rw [impTo_all (by omega)])), Own.fin hvo (by omega) (by omega) (by first | rfl | (simp only [List.nil_append]; rfl) | (rw [impTo_all (by omega)])), ⟨⟨(fun g hg he => by have := Own.blk ho5 g hg; have := Own.blk hvo g he; have := hvn g he; omega), trivial⟩, ⟨trivial, trivial⟩⟩⟩

set_option maxHeartbeats 4000000 in
set_option maxRecDepth 20000 in
theorem c_Fixpoint (cg : List Value) (g : Graph) (e : Int) (vrs : Value) (rs : List Record) (w : World) (hg : Dat.R w 0 w.heap.size cg g) (hrs : RdS w vrs rs) (hb : rs.length ≤ 1048576) : Ct Try.prog 10 [.agg cg.toArray, .int .i64 e, vrs] w (fun v w' => Own w' w.heap.size w'.heap.size 4 v (List.flatMap (Enc.enc (α := Cell)) (fixM g e rs))) := by
  refine ct_of Try.func10 rfl Try.ntmps10 rfl ?_
  obtain ⟨o1, rfl, hd1⟩ := Graph.op hg
  refine S_sub [(0, .agg [o1, .int .i64 g.workers, .int .i64 g.cap].toArray), (1, .int .i64 e), (2, vrs)] ⟨rfl, rfl, rfl, trivial⟩ ?_
  have E : Ext w w := Ext.refl w
  refine S_seq ?_
  refine S_reg [false, true] rfl rfl ?_
  refine J_box rfl rfl (fun b1 w1 e1 s1 h1 => ?_)
  have g_b1 : w.heap.size ≤ b1 := by have := E.size; omega
  have y_b1 := h1.lt
  replace E := E.trans e1
  have z1 := e1.size
  refine J_st (R_assign rfl) rfl (J_done ?_)
  refine S_seq ?_
  refine S_reg [true, true] rfl rfl ?_
  refine J_st (R_assign rfl) rfl (J_st (R_assign rfl) rfl (J_done ?_))
  refine S_seq ?_
  refine S_seq ?_
  refine S_reg [true, true, false, true, true] rfl rfl ?_
  refine J_st (R_move rfl) rfl (J_st (R_move rfl) rfl ?_)
  refine J_call Try.call25 rfl (c_OfEpoch vrs rs e _ (hrs.ext E) (by first | omega | (simp only [mkL_length]; omega) | (rw [mkL_length]; done) | (simp only [mkL_length]; done))) rfl (fun v1 w2 e2 ho1 => ?_)
  have g_ho1 : w.heap.size ≤ w1.heap.size := E.size
  replace E := E.trans e2; replace h1 := h1.ext e2
  have z2 := e2.size
  refine J_st (R_len Try.underlying34 rfl (Own.len (by decide) ho1)) rfl (J_st (R_move rfl) rfl (J_done ?_))
  refine S_block ?_
  refine S_loop (fun (xq : Nat × Value) => let ⟨k, vo⟩ := xq; [(1, .int .i64 e), (3, .pointer (some ⟨b1, 0, none⟩)), (6, .slice none 0 0), (7, .slice none 0 0), (8, vo), (15, v1), (16, .int .i64 (((rs.filter (ofE e)).length : Nat) : Int)), (17, .int .i64 ((k : Nat) : Int))]) (fun (xq : Nat × Value) w' => let ⟨k, vo⟩ := xq; Ext w w' ∧ w2.heap.size ≤ w'.heap.size ∧ Blk w' b1 ([o1, .int .i64 g.workers, .int .i64 g.cap]) ∧ Own w' w1.heap.size w2.heap.size 5 v1 (List.flatMap (Enc.enc (α := Record)) (rs.filter (ofE e))) ∧ k ≤ (rs.filter (ofE e)).length ∧ Own w' w2.heap.size w'.heap.size 4 vo (List.flatMap (Enc.enc (α := Cell)) (fixT e recordOk (rs.filter (ofE e)) k))) (fun (xq : Nat × Value) => let ⟨k, vo⟩ := xq; (rs.filter (ofE e)).length - k) (0, .slice none 0 0) ⟨rfl, rfl, rfl, rfl, rfl, rfl, rfl, rfl, trivial⟩ ⟨E, Nat.le_refl _, h1, ho1, Nat.zero_le _, Own.fin (Own.nil w2 w2.heap.size w2.heap.size 4) (by omega) (by omega) fixT_0.symm⟩ ?_
  clear E h1 ho1
  rintro ⟨k, vo⟩ w3 ⟨E, z3, h1, ho1, hk, ho⟩
  refine S_sub [(1, .int .i64 e), (3, .pointer (some ⟨b1, 0, none⟩)), (6, .slice none 0 0), (7, .slice none 0 0), (8, vo), (15, v1), (16, .int .i64 (((rs.filter (ofE e)).length : Nat) : Int)), (17, .int .i64 ((k : Nat) : Int))] ⟨rfl, rfl, rfl, rfl, rfl, rfl, rfl, rfl, trivial⟩ ?_
  refine S_seq ?_
  refine S_reg [true] rfl rfl ?_
  refine J_st (R_lss rfl rfl) rfl (J_done ?_)
  refine S_seq ?_
  refine S_cond rfl (fun hc1 => ?_) (fun hc1 => ?_)
  · have hc1n : k < (rs.filter (ofE e)).length := by first | (have h := of_decide_eq_true hc1; omega) | (have h := hc1; simp at h; omega)
    refine S_skip ?_
    refine S_seq ?_
    refine S_block ?_
    refine S_seq ?_
    refine S_reg [true, true, false, false] rfl rfl ?_
    have hi1 : k < (rs.filter (ofE e)).length := (by first | assumption | omega)
    refine J_st (R_index (i := k) sl34 rfl rfl (Own.rd (by decide) ho1) hi1) rfl (J_st (R_loadS st47 rfl ((Own.rd (by decide) ho1).get hi1) rfl) rfl ?_)
    refine J_alloc st47 rfl (fun b2 w4 e3 s2 h2 => ?_)
    have g_b2 : w.heap.size ≤ b2 := by have := E.size; omega
    have y_b2 := h2.lt
    replace E := E.trans e3; replace h1 := h1.ext e3; replace ho1 := ho1.ext e3; replace ho := ho.ext e3
    have z4 := e3.size
    refine J_storeS' (cs' := [.int .i64 (((rs.filter (ofE e))[k]'hi1).op), .int .i64 ((((rs.filter (ofE e))[k]'hi1).stamp).epoch), .int .i64 ((((rs.filter (ofE e))[k]'hi1).stamp).turn), .int .i64 (((rs.filter (ofE e))[k]'hi1).key), .int .i64 (((rs.filter (ofE e))[k]'hi1).val)]) st47 rfl rfl rfl rfl h2 (Nat.le_of_ble_eq_true rfl) rfl (fun w5 m1 h2' => ?_)
    replace h2 := h2'
    replace E := E.step m1 (fun g hg => by cases hg; omega); replace h1 := h1.mod m1 (fun g hg => by cases hg; omega); replace ho1 := ho1.mod m1 (fun g hg => by cases hg; omega); replace ho := ho.mod m1 (fun g hg => by cases hg; omega)
    have z5 := m1.size
    refine J_done ?_
    refine S_seq ?_
    refine S_reg [true, false] rfl rfl ?_
    refine J_st (R_loadS st47 rfl h2.at rfl) rfl ?_
    refine J_call Try.call26 rfl (c_RecordOk ((rs.filter (ofE e))[k]'hi1) _ ) rfl (fun _ w6 e4 hv => ?_)
    subst hv
    replace E := E.trans e4; replace h1 := h1.ext e4; replace ho1 := ho1.ext e4; replace ho := ho.ext e4; replace h2 := h2.ext e4
    have z6 := e4.size
    refine J_done ?_
    refine S_cond rfl (fun hc2 => ?_) (fun hc2 => ?_)
    · refine S_reg [true, true, true, true, true, true, true, false, false, true] rfl rfl ?_
      refine J_st (R_move rfl) rfl (J_st (R_move rfl) rfl (J_st (R_fieldAddr0 fl47_2 rfl) rfl (J_st (R_load sc3 rfl (h2.one 3 rfl)) rfl (J_st (R_fieldAddr0 fl47_3 rfl) rfl (J_st (R_load sc3 rfl (h2.one 4 rfl)) rfl (J_st (R_build (⟨0, e, ((rs.filter (ofE e))[k]'hi1).key, ((rs.filter (ofE e))[k]'hi1).val⟩ : Cell) rfl (fun _ => by kernel_rfl)) rfl ?_))))))
      refine J_buildSlice (vs := [.agg (Enc.enc (⟨0, e, ((rs.filter (ofE e))[k]'hi1).key, ((rs.filter (ofE e))[k]'hi1).val⟩ : Cell)).toArray]) (css := [[.int .i64 ((⟨0, e, ((rs.filter (ofE e))[k]'hi1).key, ((rs.filter (ofE e))[k]'hi1).val⟩ : Cell).op), .int .i64 ((⟨0, e, ((rs.filter (ofE e))[k]'hi1).key, ((rs.filter (ofE e))[k]'hi1).val⟩ : Cell).epoch), .int .i64 ((⟨0, e, ((rs.filter (ofE e))[k]'hi1).key, ((rs.filter (ofE e))[k]'hi1).val⟩ : Cell).key), .int .i64 ((⟨0, e, ((rs.filter (ofE e))[k]'hi1).key, ((rs.filter (ofE e))[k]'hi1).val⟩ : Cell).val)]]) sl28 rfl rfl ⟨⟨rfl, rfl⟩, trivial⟩ rfl rfl (fun b3 w7 e5 s3 h3 => ?_)
      replace h3 : Blk w7 b3 [.int .i64 ((⟨0, e, ((rs.filter (ofE e))[k]'hi1).key, ((rs.filter (ofE e))[k]'hi1).val⟩ : Cell).op), .int .i64 ((⟨0, e, ((rs.filter (ofE e))[k]'hi1).key, ((rs.filter (ofE e))[k]'hi1).val⟩ : Cell).epoch), .int .i64 ((⟨0, e, ((rs.filter (ofE e))[k]'hi1).key, ((rs.filter (ofE e))[k]'hi1).val⟩ : Cell).key), .int .i64 ((⟨0, e, ((rs.filter (ofE e))[k]'hi1).key, ((rs.filter (ofE e))[k]'hi1).val⟩ : Cell).val)] := h3
      have g_b3 : w.heap.size ≤ b3 := by have := E.size; omega
      have y_b3 := h3.lt
      replace E := E.trans e5; replace h1 := h1.ext e5; replace ho1 := ho1.ext e5; replace ho := ho.ext e5; replace h2 := h2.ext e5
      have z7 := e5.size
      refine J_append sl28 rfl rfl ho (Src.ofBlk h3 rfl) rfl (by first | (have h := fixT_len e recordOk (rs.filter (ofE e)) k; simp only [List.length_append, sum_flat, List.length_nil, List.length_cons, List.length_drop]; simp only [Enc.sz]; have h2 := List.length_filter_le (ofE e) rs; omega) | (simp only [List.length_append, sum_flat, List.length_nil, List.length_cons, List.length_drop]; simp only [Enc.sz]; omega) | (have h := @improve_len2 g cs1 (ls1[0]'hlt); simp only [List.length_append, sum_flat, List.length_nil, List.length_cons, List.length_drop]; simp only [Enc.sz]; omega)) (by decide) (by omega) (by omega) rfl rfl (fun v2 w8 m2 ho2 => ?_)
      replace E := E.step m2 (fun g hg => by have := Own.blk ho g hg; omega); replace h1 := h1.mod m2 (fun g hg => by have := Own.blk ho g hg; omega); replace ho1 := ho1.mod m2 (fun g hg => by have := Own.blk ho g hg; omega); replace h2 := h2.mod m2 (fun g hg => by have := Own.blk ho g hg; omega)
      have z8 := m2.size
      refine J_st (R_assign rfl) rfl (J_done ?_)
      refine S_nil (E_inB ?_)
      refine S_reg [true, true] rfl rfl ?_
      refine J_st (R_add rfl rfl (add_one hc1n (Own.rd (by decide) ho1).1)) rfl (J_st (R_move rfl) rfl (J_done ?_))
      refine S_nil (E_again (k + 1, v2) (by dsimp only; omega) ⟨rfl, rfl, rfl, rfl, rfl, rfl, rfl, rfl, trivial⟩ ⟨E, (by omega), h1, ho1, (by omega), Own.fin ho2 (Nat.le_refl _) (by omega) (fixT_yes (by assumption) (by simpa using hc2))⟩)
    · refine S_skip ?_
      refine S_nil (E_inB ?_)
      refine S_reg [true, true] rfl rfl ?_
      refine J_st (R_add rfl rfl (add_one hc1n (Own.rd (by decide) ho1).1)) rfl (J_st (R_move rfl) rfl (J_done ?_))
      refine S_nil (E_again (k + 1, vo) (by dsimp only; omega) ⟨rfl, rfl, rfl, rfl, rfl, rfl, rfl, rfl, trivial⟩ ⟨E, (by omega), h1, ho1, (by omega), Own.fin ho (Nat.le_refl _) (by omega) (fixT_no (by assumption) (by simpa using hc2))⟩)
  · have hc1n : ¬ k < (rs.filter (ofE e)).length := by first | (have h := of_decide_eq_false hc1; omega) | (have h := hc1; simp at h; omega)
    refine S_exit (E_lp_exit (E_inB_exit ?_))
    refine S_seq ?_
    refine S_block ?_
    have hfe := fixT_im (e := e) (rs := rs) (k := k) (by omega)
    have hfl := fixIn_len e rs
    have hp0 := psi_nil
    refine S_loop (fun (xq : List Cell × List Cell × Value × Value) => let ⟨cs1, ls1, vc, vl⟩ := xq; [(3, .pointer (some ⟨b1, 0, none⟩)), (6, .slice none 0 0), (7, vc), (8, vl)]) (fun (xq : List Cell × List Cell × Value × Value) w' => let ⟨cs1, ls1, vc, vl⟩ := xq; Ext w w' ∧ w3.heap.size ≤ w'.heap.size ∧ Blk w' b1 ([o1, .int .i64 g.workers, .int .i64 g.cap]) ∧ Own w' w1.heap.size w2.heap.size 5 v1 (List.flatMap (Enc.enc (α := Record)) (rs.filter (ofE e))) ∧ fixM g e rs = fixGo g cs1 ls1 ∧ cs1.length + psi cs1 ≤ 3200000 ∧ 3 * psi cs1 + ls1.length ≤ rs.length + 9600000 ∧ Own w' w2.heap.size w'.heap.size 4 vc (List.flatMap (Enc.enc (α := Cell)) cs1) ∧ Own w' w2.heap.size w'.heap.size 4 vl (List.flatMap (Enc.enc (α := Cell)) ls1) ∧ SepL [vc, vl]) (fun (xq : List Cell × List Cell × Value × Value) => let ⟨cs1, ls1, vc, vl⟩ := xq; 3 * psi cs1 + ls1.length) ([], fixIn e rs, .slice none 0 0, vo) ⟨rfl, rfl, rfl, rfl, trivial⟩ ⟨E, Nat.le_refl _, h1, ho1, rfl, (by rw [psi_nil]; simp), (by omega), Own.fin (Own.nil w3 w3.heap.size w3.heap.size 4) (by omega) (by omega) rfl, Own.fin ho (by omega) (by omega) (by rw [hfe]), ⟨⟨(Sep.nilL _), trivial⟩, ⟨trivial, trivial⟩⟩⟩ ?_
    clear E h1 ho1 ho
    rintro ⟨cs1, ls1, vc, vl⟩ w9 ⟨E, z9, h1, ho1, hI, hcl, hrl, hvc, hvl, sq⟩
    refine S_sub [(3, .pointer (some ⟨b1, 0, none⟩)), (6, .slice none 0 0), (7, vc), (8, vl)] ⟨rfl, rfl, rfl, rfl, trivial⟩ ?_
    refine S_seq ?_
    refine S_seq ?_
    refine S_reg [true, true, true] rfl rfl ?_
    refine J_st (R_move rfl) rfl (J_st (R_len Try.underlying28 rfl (Own.len (by decide) hvl)) rfl (J_st (R_gtr rfl rfl) rfl (J_done ?_)))
    refine S_cond rfl (fun hc3 => ?_) (fun hc3 => ?_)
    · have hlt : 0 < ls1.length := by first | (have h := of_decide_eq_true hc3; omega) | (have h := hc3; simp at h; omega)
      have hc3n : ls1.length > 0 := by first | (have h := of_decide_eq_true hc3; omega) | (have h := hc3; simp at h; omega)
      refine S_skip ?_
      refine S_block ?_
      refine S_seq ?_
      refine S_regD mixed [(0, true), (1, true), (2, true), (3, true), (4, true), (5, false), (6, true), (7, true), (8, true), (9, true), (10, true)] (by decide +kernel) rfl (fun w10 e6 => ?_)
      replace E := E.trans e6; replace h1 := h1.ext e6; replace ho1 := ho1.ext e6; replace hvc := hvc.ext e6; replace hvl := hvl.ext e6
      have z10 := e6.size
      refine J_st (R_loadS st32 rfl h1.at rfl) rfl (J_st (R_move rfl) rfl (J_st (R_move rfl) rfl ?_))
      have hi2 : 0 < ls1.length := (by first | assumption | omega)
      refine J_st (R_index (i := 0) sl28 rfl rfl (Own.rd (by decide) hvl) hi2) rfl (J_st (R_loadS st50 rfl ((Own.rd (by decide) hvl).get hi2) rfl) rfl ?_)
      refine J_call Try.call27 rfl (c_Improve [o1, .int .i64 g.workers, .int .i64 g.cap] g vc cs1 (ls1[0]'hi2) _ (Graph.mkR g (RdD.any (hd1.ext E))) (Own.rd (by decide) hvc) (by first | omega | (simp only [mkL_length]; omega) | (rw [mkL_length]; done) | (simp only [mkL_length]; done))) rfl (fun _ w11 e7 ho3 => ?_)
      obtain ⟨v3, v4, rfl, ho4, ho5, sp1⟩ := ho3
      have g_ho3 : w.heap.size ≤ w10.heap.size := E.size
      replace E := E.trans e7; replace h1 := h1.ext e7; replace ho1 := ho1.ext e7; replace hvc := hvc.ext e7; replace hvl := hvl.ext e7
      have z11 := e7.size
      refine J_st (R_move rfl) rfl (J_st (R_extract rfl rfl) rfl (J_st (R_extract rfl rfl) rfl (J_st (R_assign rfl) rfl (J_st (R_assign rfl) rfl (J_done ?_)))))
      refine S_seq ?_
      refine S_reg [true, true] rfl rfl ?_
      refine J_st (R_move rfl) rfl (J_st (R_assign rfl) rfl (J_done ?_))
      refine S_reg [true, true, true, false, true] rfl rfl ?_
      refine J_st (R_move rfl) rfl ?_
      have hk1 : 1 ≤ ls1.length := by first | assumption | omega
      have hs1 := Own.slFromE (α := Cell) hvl hk1
      replace hs1 : Own w11 w2.heap.size w9.heap.size 4 (slFrom vl 1 4) (List.flatMap (Enc.enc (α := Cell)) (List.drop 1 ls1)) := hs1
      have hb1 : Become w11 vl (slFrom vl 1 4) := fun g hg => .inl (by rwa [slFrom_blk] at hg)
      replace sq := SepL.set hb1 1 rfl sq ⟨(Own.lt hvc), (Own.lt hvl), trivial⟩
      replace sq : SepL [vc, slFrom vl 1 4] := sq
      refine J_st (R_sliceFrom sl28 rfl rfl (Own.roomE (α := Cell) hvl) hk1) rfl (J_st (R_move rfl) rfl ?_)
      refine J_appendB sl28 rfl rfl hs1 (Own.src ho5) (flat_one _) (by first | (have h := fixT_len e recordOk (rs.filter (ofE e)) k; simp only [List.length_append, sum_flat, List.length_nil, List.length_cons, List.length_drop]; simp only [Enc.sz]; have h2 := List.length_filter_le (ofE e) rs; omega) | (simp only [List.length_append, sum_flat, List.length_nil, List.length_cons, List.length_drop]; simp only [Enc.sz]; omega) | (have h := @improve_len2 g cs1 (ls1[0]'hlt); simp only [List.length_append, sum_flat, List.length_nil, List.length_cons, List.length_drop]; simp only [Enc.sz]; omega)) (by decide) (by omega) (by omega) rfl rfl (fun v5 w12 m3 ho6 hb2 => ?_)
      have hn1 : ∀ g, Value.ownBlock v5 = some g → g < w9.heap.size ∨ w11.heap.size ≤ g := fun g hg => (hb2 g hg).elim (fun h => .inl (by have := Own.blk hs1 g h; omega)) (fun h => .inr h)
      have sq1 := sq
      replace sq := SepL.set hb2 1 rfl sq ⟨(Own.lt hvc), (Own.lt hs1), trivial⟩
      replace sq : SepL [vc, v5] := sq
      replace E := E.step m3 (fun g hg => by have := Own.blk hs1 g hg; omega); replace h1 := h1.mod m3 (fun g hg => by have := Own.blk hs1 g hg; omega); replace ho1 := ho1.mod m3 (fun g hg => by have := Own.blk hs1 g hg; omega); replace hvc := Own.modS hvc m3 (sq1.1.1).symm; replace ho4 := ho4.mod m3 (fun g hg => by have := Own.blk hs1 g hg; omega); replace ho5 := ho5.mod m3 (fun g hg => by have := Own.blk hs1 g hg; omega)
      have z12 := m3.size
      replace ho6 : Own w12 w2.heap.size w12.heap.size 4 v5 (List.flatMap (Enc.enc (α := Cell)) ((List.drop 1 ls1) ++ ((improveM g cs1 (ls1[0]'hi2)).2))) := by rw [List.flatMap_append]; exact ho6
      refine J_st (R_assign rfl) rfl (J_done ?_)
      refine S_nil (E_inB ?_)
      have hm1 := @fix_mu g cs1 ls1 (ls1[0]'hi2) hlt
      have hm2 := @fix_b g cs1 (ls1[0]'hi2)
      refine S_nil (E_again ((improveM g cs1 (ls1[0]'hi2)).1, List.drop 1 ls1 ++ (improveM g cs1 (ls1[0]'hi2)).2, v3, v5) (by exact hm1) ⟨rfl, rfl, rfl, rfl, trivial⟩ ⟨E, (by omega), h1, ho1, (hI.trans (fix_next hlt (getD_at hlt))), (by omega), (by omega), Own.fin ho4 (by omega) (by omega) rfl, Own.fin ho6 (by omega) (by omega) (by first | rfl | (simp only [List.flatMap_append, List.nil_append]; done)), ⟨⟨(fun g hg he => by have := Own.blk ho4 g hg; have := Own.blk ho6 g he; have := hn1 g he; omega), trivial⟩, ⟨trivial, trivial⟩⟩⟩)
    · have hend := hI.trans (fix_end (by first | (have h := of_decide_eq_false hc3; omega) | (have h := hc3; simp at h; omega)))
      have hc3n : ¬ ls1.length > 0 := by first | (have h := of_decide_eq_false hc3; omega) | (have h := hc3; simp at h; omega)
      refine S_exit (E_lp_exit (E_inB_exit ?_))
      refine S_seq ?_
      refine S_reg [true, true] rfl rfl ?_
      refine J_st (R_move rfl) rfl (J_st (R_assign rfl) rfl (J_done ?_))
      refine S_ret (E_done1 rfl rfl E ?_)
      exact Own.fin hvc (by omega) (by omega) (by rw [hend])

set_option maxHeartbeats 4000000 in
set_option maxRecDepth 20000 in
theorem s_Fixpoint (cg : List Value) (g : Graph) (e : Int) (vrs : Value) (rs : List Record) (w : World) (hg : Dat.R w 0 w.heap.size cg g) (hrs : RdS w vrs rs) (hb : rs.length ≤ 1048576) (hcg : cntGraph g ≤ 1048576) : Ct Try.prog 7 [.agg cg.toArray, .int .i64 e, vrs] w (fun v w' => Own w' w.heap.size w'.heap.size 4 v (List.flatMap (Enc.enc (α := Cell)) (fixM g e rs))) := by
  refine ct_of Try.func7 rfl Try.ntmps7 rfl ?_
  obtain ⟨o1, rfl, hd1⟩ := Graph.op hg
  refine S_sub [(0, .agg [o1, .int .i64 g.workers, .int .i64 g.cap].toArray), (1, .int .i64 e), (2, vrs)] ⟨rfl, rfl, rfl, trivial⟩ ?_
  have E : Ext w w := Ext.refl w
  refine S_seq ?_
  refine S_reg [false, true] rfl rfl ?_
  refine J_box rfl rfl (fun b1 w1 e1 s1 h1 => ?_)
  have g_b1 : w.heap.size ≤ b1 := by have := E.size; omega
  have y_b1 := h1.lt
  replace E := E.trans e1
  have z1 := e1.size
  refine J_st (R_assign rfl) rfl (J_done ?_)
  refine S_seq ?_
  refine S_reg [false, true] rfl rfl ?_
  refine J_buildSlice (vs := []) (css := []) sl28 rfl rfl trivial rfl rfl (fun b2 w2 e2 s2 h2 => ?_)
  replace h2 : Blk w2 b2 [] := h2
  have g_b2 : w.heap.size ≤ b2 := by have := E.size; omega
  have y_b2 := h2.lt
  replace E := E.trans e2; replace h1 := h1.ext e2
  have z2 := e2.size
  refine J_st (R_assign rfl) rfl (J_done ?_)
  refine S_seq ?_
  refine S_reg [false, true] rfl rfl ?_
  refine J_buildSlice (vs := []) (css := []) sl28 rfl rfl trivial rfl rfl (fun b3 w3 e3 s3 h3 => ?_)
  replace h3 : Blk w3 b3 [] := h3
  have g_b3 : w.heap.size ≤ b3 := by have := E.size; omega
  have y_b3 := h3.lt
  replace E := E.trans e3; replace h1 := h1.ext e3; replace h2 := h2.ext e3
  have z3 := e3.size
  refine J_st (R_assign rfl) rfl (J_done ?_)
  refine S_seq ?_
  refine S_seq ?_
  refine S_reg [true] rfl rfl ?_
  refine J_st (R_assign rfl) rfl (J_done ?_)
  refine S_block ?_
  refine S_loop (fun (xq : Nat × Value) => let ⟨k, vo⟩ := xq; [(1, .int .i64 e), (2, vrs), (3, .pointer (some ⟨b1, 0, none⟩)), (6, .slice none 0 0), (7, .slice (some ⟨b2, 0, none⟩) 0 0), (8, vo), (9, .int .i64 ((k : Nat) : Int))]) (fun (xq : Nat × Value) w' => let ⟨k, vo⟩ := xq; Ext w w' ∧ w3.heap.size ≤ w'.heap.size ∧ Blk w' b1 ([o1, .int .i64 g.workers, .int .i64 g.cap]) ∧ Blk w' b2 [] ∧ k ≤ rs.length ∧ Own w' b3 w'.heap.size 4 vo (List.flatMap (Enc.enc (α := Cell)) (fixT e (fun r => ofE e r && recordOk r) rs k))) (fun (xq : Nat × Value) => let ⟨k, vo⟩ := xq; rs.length - k) (0, .slice (some ⟨b3, 0, none⟩) 0 0) ⟨rfl, rfl, rfl, rfl, rfl, rfl, rfl, trivial⟩ ⟨E, Nat.le_refl _, h1, h2, Nat.zero_le _, Own.fin (Own.ofBlk (lo := b3) (hi := b3 + 1) (sz := 4) h3 (Nat.le_refl _) (Nat.lt_succ_self _) (by simp) (by simp [maxLen])) (by omega) (by omega) fixT_0.symm⟩ ?_
  clear E h1 h2 h3
  rintro ⟨k, vo⟩ w4 ⟨E, z4, h1, h2, hk, ho⟩
  refine S_sub [(1, .int .i64 e), (2, vrs), (3, .pointer (some ⟨b1, 0, none⟩)), (6, .slice none 0 0), (7, .slice (some ⟨b2, 0, none⟩) 0 0), (8, vo), (9, .int .i64 ((k : Nat) : Int))] ⟨rfl, rfl, rfl, rfl, rfl, rfl, rfl, trivial⟩ ?_
  refine S_seq ?_
  refine S_seq ?_
  refine S_reg [true, true, true, true] rfl rfl ?_
  refine J_st (R_move rfl) rfl (J_st (R_move rfl) rfl (J_st (R_len Try.underlying34 rfl (hrs.ext E).len) rfl (J_st (R_lss rfl rfl) rfl (J_done ?_))))
  refine S_cond rfl (fun hc1 => ?_) (fun hc1 => ?_)
  · have hc1n : k < rs.length := by first | (have h := of_decide_eq_true hc1; omega) | (have h := hc1; simp at h; omega)
    refine S_skip ?_
    refine S_seq ?_
    refine S_block ?_
    refine S_seq ?_
    refine S_reg [true, true, true, true, false, false] rfl rfl ?_
    refine J_st (R_move rfl) rfl (J_st (R_move rfl) rfl ?_)
    have hi1 : k < rs.length := (by first | assumption | omega)
    refine J_st (R_index (i := k) sl34 rfl rfl (hrs.ext E) hi1) rfl (J_st (R_loadS st47 rfl ((hrs.ext E).get hi1) rfl) rfl ?_)
    refine J_alloc st47 rfl (fun b4 w5 e4 s4 h4 => ?_)
    have g_b4 : w.heap.size ≤ b4 := by have := E.size; omega
    have y_b4 := h4.lt
    replace E := E.trans e4; replace h1 := h1.ext e4; replace h2 := h2.ext e4; replace ho := ho.ext e4
    have z5 := e4.size
    refine J_storeS' (cs' := [.int .i64 ((rs[k]'hi1).op), .int .i64 (((rs[k]'hi1).stamp).epoch), .int .i64 (((rs[k]'hi1).stamp).turn), .int .i64 ((rs[k]'hi1).key), .int .i64 ((rs[k]'hi1).val)]) st47 rfl rfl rfl rfl h4 (Nat.le_of_ble_eq_true rfl) rfl (fun w6 m1 h4' => ?_)
    replace h4 := h4'
    replace E := E.step m1 (fun g hg => by cases hg; omega); replace h1 := h1.mod m1 (fun g hg => by cases hg; omega); replace h2 := h2.mod m1 (fun g hg => by cases hg; omega); replace ho := ho.mod m1 (fun g hg => by cases hg; omega)
    have z6 := m1.size
    refine J_done ?_
    refine S_seq ?_
    refine S_reg [true, true, true, true, true, true, true, false, true] rfl rfl ?_
    refine J_st (R_fieldAddr0 fl47_1 rfl) rfl (J_st (R_fieldAddr fl45_0 rfl) rfl (J_st (R_load sc3 rfl (h4.one 1 rfl)) rfl (J_st (R_move rfl) rfl (J_st (R_eql rfl rfl) rfl (J_st (R_move rfl) rfl ?_)))))
    refine J_cut 3 [(1, .int .i64 e), (2, vrs), (3, .pointer (some ⟨b1, 0, none⟩)), (6, .slice none 0 0), (7, .slice (some ⟨b2, 0, none⟩) 0 0), (8, vo), (9, .int .i64 ((k : Nat) : Int)), (10, .pointer (some ⟨b4, 0, none⟩)), (15, .int .i64 ((k : Nat) : Int)), (16, vrs), (17, .int .i64 ((rs.length : Nat) : Int)), (18, .bool (decide (((k : Nat) : Int) < ((rs.length : Nat) : Int)))), (21, vrs), (22, .int .i64 ((k : Nat) : Int)), (23, .pointer (some ⟨sblk vrs, soff vrs + k * 5, none⟩)), (24, .agg (Enc.enc (rs[k]'hi1)).toArray), (33, .bool (((((rs[k]'hi1).stamp).epoch) == e) && (recordOk (rs[k]'hi1))))] (fun w' => Ext w w' ∧ w6.heap.size ≤ w'.heap.size ∧ Blk w' b1 ([o1, .int .i64 g.workers, .int .i64 g.cap]) ∧ Blk w' b2 [] ∧ Own w' b3 w4.heap.size 4 vo (List.flatMap (Enc.enc (α := Cell)) (fixT e (fun r => ofE e r && recordOk r) rs k)) ∧ Blk w' b4 [.int .i64 ((rs[k]'hi1).op), .int .i64 (((rs[k]'hi1).stamp).epoch), .int .i64 (((rs[k]'hi1).stamp).turn), .int .i64 ((rs[k]'hi1).key), .int .i64 ((rs[k]'hi1).val)]) ?_ ?_
    · refine J_if (gd := 30) rfl rfl (fun hg1 => ?_) (fun hg1 => ?_)
      · refine J_gd rfl rfl (R_loadS st47 rfl h4.at rfl) rfl ?_
        refine J_ung rfl rfl ?_
        refine J_call Try.call21 rfl (s_RecordOk (rs[k]'hi1) _ ) rfl (fun _ w8 e5 hv => ?_)
        subst hv
        replace E := E.trans e5; replace h1 := h1.ext e5; replace h2 := h2.ext e5; replace ho := ho.ext e5; replace h4 := h4.ext e5
        have z7 := e5.size
        refine J_st (R_pickT rfl rfl) rfl (J_cutEnd ⟨rfl, rfl, rfl, rfl, rfl, rfl, rfl, rfl, rfl, rfl, rfl, rfl, rfl, rfl, rfl, rfl, congrArg (fun b => some (Value.bool b)) (show (recordOk (rs[k]'hi1)) = (((((rs[k]'hi1).stamp).epoch) == e) && (recordOk (rs[k]'hi1))) by first | (rw [hg1] <;> rfl) | (simp [hg1]; done) | (simp only [nat_nlt] <;> simp)), trivial⟩ ⟨E, (by omega), h1, h2, ho, h4⟩)
      · refine J_gdno rfl rfl rfl rfl ?_
        refine J_ungno rfl rfl rfl rfl ?_
        refine J_st (R_pickF rfl rfl) rfl (J_cutEnd ⟨rfl, rfl, rfl, rfl, rfl, rfl, rfl, rfl, rfl, rfl, rfl, rfl, rfl, rfl, rfl, rfl, congrArg (fun b => some (Value.bool b)) (show false = (((((rs[k]'hi1).stamp).epoch) == e) && (recordOk (rs[k]'hi1))) by first | (rw [hg1] <;> rfl) | (simp [hg1]; done) | (simp only [nat_nlt] <;> simp)), trivial⟩ ⟨E, (by omega), h1, h2, ho, h4⟩)
    clear E h1 h2 ho h4
    rintro w7 ⟨E, z8, h1, h2, ho, h4⟩
    refine J_done ?_
    refine S_cond rfl (fun hc2 => ?_) (fun hc2 => ?_)
    · refine S_reg [true, true, true, true, true, true, true, false, false, true] rfl rfl ?_
      refine J_st (R_move rfl) rfl (J_st (R_move rfl) rfl (J_st (R_fieldAddr0 fl47_2 rfl) rfl (J_st (R_load sc3 rfl (h4.one 3 rfl)) rfl (J_st (R_fieldAddr0 fl47_3 rfl) rfl (J_st (R_load sc3 rfl (h4.one 4 rfl)) rfl (J_st (R_build (⟨0, e, (rs[k]'hi1).key, (rs[k]'hi1).val⟩ : Cell) rfl (fun _ => by kernel_rfl)) rfl ?_))))))
      refine J_buildSlice (vs := [.agg (Enc.enc (⟨0, e, (rs[k]'hi1).key, (rs[k]'hi1).val⟩ : Cell)).toArray]) (css := [[.int .i64 ((⟨0, e, (rs[k]'hi1).key, (rs[k]'hi1).val⟩ : Cell).op), .int .i64 ((⟨0, e, (rs[k]'hi1).key, (rs[k]'hi1).val⟩ : Cell).epoch), .int .i64 ((⟨0, e, (rs[k]'hi1).key, (rs[k]'hi1).val⟩ : Cell).key), .int .i64 ((⟨0, e, (rs[k]'hi1).key, (rs[k]'hi1).val⟩ : Cell).val)]]) sl28 rfl rfl ⟨⟨rfl, rfl⟩, trivial⟩ rfl rfl (fun b5 w9 e6 s5 h5 => ?_)
      replace h5 : Blk w9 b5 [.int .i64 ((⟨0, e, (rs[k]'hi1).key, (rs[k]'hi1).val⟩ : Cell).op), .int .i64 ((⟨0, e, (rs[k]'hi1).key, (rs[k]'hi1).val⟩ : Cell).epoch), .int .i64 ((⟨0, e, (rs[k]'hi1).key, (rs[k]'hi1).val⟩ : Cell).key), .int .i64 ((⟨0, e, (rs[k]'hi1).key, (rs[k]'hi1).val⟩ : Cell).val)] := h5
      have g_b5 : w.heap.size ≤ b5 := by have := E.size; omega
      have y_b5 := h5.lt
      replace E := E.trans e6; replace h1 := h1.ext e6; replace h2 := h2.ext e6; replace ho := ho.ext e6; replace h4 := h4.ext e6
      have z9 := e6.size
      refine J_append sl28 rfl rfl ho (Src.ofBlk h5 rfl) rfl (by first | (have h := fixT_len e (fun r => ofE e r && recordOk r) rs k; simp only [List.length_append, sum_flat, List.length_nil, List.length_cons, List.length_drop]; simp only [Enc.sz]; have h2 := List.length_filter_le (ofE e) rs; omega) | (simp only [List.length_append, sum_flat, List.length_nil, List.length_cons, List.length_drop]; simp only [Enc.sz]; omega) | (have h := @improve_len2 g cs1 (ls1[0]'hlt); simp only [List.length_append, sum_flat, List.length_nil, List.length_cons, List.length_drop]; simp only [Enc.sz]; omega)) (by decide) (by omega) (by omega) rfl rfl (fun v1 w10 m2 ho1 => ?_)
      replace E := E.step m2 (fun g hg => by have := Own.blk ho g hg; omega); replace h1 := h1.mod m2 (fun g hg => by have := Own.blk ho g hg; omega); replace h2 := h2.mod m2 (fun g hg => by have := Own.blk ho g hg; omega); replace h4 := h4.mod m2 (fun g hg => by have := Own.blk ho g hg; omega)
      have z10 := m2.size
      refine J_st (R_assign rfl) rfl (J_done ?_)
      refine S_nil (E_inB ?_)
      refine S_reg [true, true, true] rfl rfl ?_
      refine J_st (R_move rfl) rfl (J_st (R_add rfl rfl (add_one hc1n hrs.1)) rfl (J_st (R_assign rfl) rfl (J_done ?_)))
      refine S_nil (E_again (k + 1, v1) (by dsimp only; omega) ⟨rfl, rfl, rfl, rfl, rfl, rfl, rfl, trivial⟩ ⟨E, (by omega), h1, h2, (by omega), Own.fin ho1 (Nat.le_refl _) (by omega) (fixT_yes (by assumption) (by simpa [ofE] using hc2))⟩)
    · refine S_skip ?_
      refine S_nil (E_inB ?_)
      refine S_reg [true, true, true] rfl rfl ?_
      refine J_st (R_move rfl) rfl (J_st (R_add rfl rfl (add_one hc1n hrs.1)) rfl (J_st (R_assign rfl) rfl (J_done ?_)))
      refine S_nil (E_again (k + 1, vo) (by dsimp only; omega) ⟨rfl, rfl, rfl, rfl, rfl, rfl, rfl, trivial⟩ ⟨E, (by omega), h1, h2, (by omega), Own.fin ho (Nat.le_refl _) (by omega) (fixT_no (by assumption) (by simpa [ofE] using hc2))⟩)
  · have hc1n : ¬ k < rs.length := by first | (have h := of_decide_eq_false hc1; omega) | (have h := hc1; simp at h; omega)
    refine S_exit (E_lp_exit (E_inB_exit ?_))
    refine S_seq ?_
    refine S_block ?_
    have hfe := fixT_sp (e := e) (rs := rs) (k := k) (by omega)
    have hfl := fixIn_len e rs
    have hp0 := psi_nil
    refine S_loop (fun (xq : List Cell × List Cell × Value × Value) => let ⟨cs1, ls1, vc, vl⟩ := xq; [(3, .pointer (some ⟨b1, 0, none⟩)), (6, .slice none 0 0), (7, vc), (8, vl)]) (fun (xq : List Cell × List Cell × Value × Value) w' => let ⟨cs1, ls1, vc, vl⟩ := xq; Ext w w' ∧ w4.heap.size ≤ w'.heap.size ∧ Blk w' b1 ([o1, .int .i64 g.workers, .int .i64 g.cap]) ∧ fixM g e rs = fixGo g cs1 ls1 ∧ cs1.length + psi cs1 ≤ 3200000 ∧ 3 * psi cs1 + ls1.length ≤ rs.length + 9600000 ∧ Own w' b2 w'.heap.size 4 vc (List.flatMap (Enc.enc (α := Cell)) cs1) ∧ Own w' b2 w'.heap.size 4 vl (List.flatMap (Enc.enc (α := Cell)) ls1) ∧ SepL [vc, vl]) (fun (xq : List Cell × List Cell × Value × Value) => let ⟨cs1, ls1, vc, vl⟩ := xq; 3 * psi cs1 + ls1.length) ([], fixIn e rs, .slice (some ⟨b2, 0, none⟩) 0 0, vo) ⟨rfl, rfl, rfl, rfl, trivial⟩ ⟨E, Nat.le_refl _, h1, rfl, (by rw [psi_nil]; simp), (by omega), Own.fin (Own.ofBlk (lo := b2) (hi := b2 + 1) (sz := 4) h2 (Nat.le_refl _) (Nat.lt_succ_self _) (by simp) (by simp [maxLen])) (by omega) (by omega) rfl, Own.fin ho (by omega) (by omega) (by rw [hfe]), ⟨⟨(Own.sep (Own.ofBlk (lo := b2) (hi := b2 + 1) (sz := 4) h2 (Nat.le_refl _) (Nat.lt_succ_self _) (by rfl) (by unfold maxLen; omega)) ho (by omega)), trivial⟩, ⟨trivial, trivial⟩⟩⟩ ?_
    clear E h1 h2 ho
    rintro ⟨cs1, ls1, vc, vl⟩ w11 ⟨E, z11, h1, hI, hcl, hrl, hvc, hvl, sq⟩
    refine S_sub [(3, .pointer (some ⟨b1, 0, none⟩)), (6, .slice none 0 0), (7, vc), (8, vl)] ⟨rfl, rfl, rfl, rfl, trivial⟩ ?_
    refine S_seq ?_
    refine S_seq ?_
    refine S_reg [true, true, true] rfl rfl ?_
    refine J_st (R_move rfl) rfl (J_st (R_len Try.underlying28 rfl (Own.len (by decide) hvl)) rfl (J_st (R_gtr rfl rfl) rfl (J_done ?_)))
    refine S_cond rfl (fun hc3 => ?_) (fun hc3 => ?_)
    · have hlt : 0 < ls1.length := by first | (have h := of_decide_eq_true hc3; omega) | (have h := hc3; simp at h; omega)
      have hc3n : ls1.length > 0 := by first | (have h := of_decide_eq_true hc3; omega) | (have h := hc3; simp at h; omega)
      refine S_skip ?_
      refine S_block ?_
      refine S_seq ?_
      refine S_regD mixed [(0, true), (1, true), (2, true), (3, true), (4, true), (5, false), (6, true), (7, true), (8, true), (9, true), (10, true)] (by decide +kernel) rfl (fun w12 e7 => ?_)
      replace E := E.trans e7; replace h1 := h1.ext e7; replace hvc := hvc.ext e7; replace hvl := hvl.ext e7
      have z12 := e7.size
      refine J_st (R_loadS st32 rfl h1.at rfl) rfl (J_st (R_move rfl) rfl (J_st (R_move rfl) rfl ?_))
      have hi2 : 0 < ls1.length := (by first | assumption | omega)
      refine J_st (R_index (i := 0) sl28 rfl rfl (Own.rd (by decide) hvl) hi2) rfl (J_st (R_loadS st50 rfl ((Own.rd (by decide) hvl).get hi2) rfl) rfl ?_)
      refine J_call Try.call22 rfl (s_Improve [o1, .int .i64 g.workers, .int .i64 g.cap] g vc cs1 (ls1[0]'hi2) _ (Graph.mkR g (RdD.any (hd1.ext E))) (Own.rd (by decide) hvc) (by first | omega | (simp only [mkL_length]; omega) | (rw [mkL_length]; done) | (simp only [mkL_length]; done)) (by first | omega | (simp only [mkL_length]; omega) | (rw [mkL_length]; done) | (simp only [mkL_length]; done))) rfl (fun _ w13 e8 ho2 => ?_)
      obtain ⟨v2, v3, rfl, ho3, ho4, sp1⟩ := ho2
      have g_ho2 : w.heap.size ≤ w12.heap.size := E.size
      replace E := E.trans e8; replace h1 := h1.ext e8; replace hvc := hvc.ext e8; replace hvl := hvl.ext e8
      have z13 := e8.size
      refine J_st (R_move rfl) rfl (J_st (R_extract rfl rfl) rfl (J_st (R_extract rfl rfl) rfl (J_st (R_assign rfl) rfl (J_st (R_assign rfl) rfl (J_done ?_)))))
      refine S_seq ?_
      refine S_reg [true, true] rfl rfl ?_
      refine J_st (R_move rfl) rfl (J_st (R_assign rfl) rfl (J_done ?_))
      refine S_reg [false, true, true, false, true, false, true] rfl rfl ?_
      refine J_buildSlice (vs := []) (css := []) sl28 rfl rfl trivial rfl rfl (fun b6 w14 e9 s6 h6 => ?_)
      replace h6 : Blk w14 b6 [] := h6
      have g_b6 : w.heap.size ≤ b6 := by have := E.size; omega
      have y_b6 := h6.lt
      replace E := E.trans e9; replace h1 := h1.ext e9; replace hvc := hvc.ext e9; replace hvl := hvl.ext e9; replace ho3 := ho3.ext e9; replace ho4 := ho4.ext e9
      have z14 := e9.size
      refine J_st (R_move rfl) rfl ?_
      have hk1 : 1 ≤ ls1.length := by first | assumption | omega
      have hs1 := Own.slFromE (α := Cell) hvl hk1
      replace hs1 : Own w14 b2 w11.heap.size 4 (slFrom vl 1 4) (List.flatMap (Enc.enc (α := Cell)) (List.drop 1 ls1)) := hs1
      have hb1 : Become w14 vl (slFrom vl 1 4) := fun g hg => .inl (by rwa [slFrom_blk] at hg)
      replace sq := SepL.set hb1 1 rfl sq ⟨(Own.lt hvc), (Own.lt hvl), trivial⟩
      replace sq : SepL [vc, slFrom vl 1 4] := sq
      refine J_st (R_sliceFrom sl28 rfl rfl (Own.roomE (α := Cell) hvl) hk1) rfl ?_
      refine J_append sl28 rfl rfl (Own.ofBlk (lo := b6) (hi := b6 + 1) (sz := 4) h6 (Nat.le_refl _) (Nat.lt_succ_self _) (by simp) (by simp [maxLen])) (Own.src hs1) (flat_one _) (by first | (have h := fixT_len e (fun r => ofE e r && recordOk r) rs k; simp only [List.length_append, sum_flat, List.length_nil, List.length_cons, List.length_drop]; simp only [Enc.sz]; have h2 := List.length_filter_le (ofE e) rs; omega) | (simp only [List.length_append, sum_flat, List.length_nil, List.length_cons, List.length_drop]; simp only [Enc.sz]; omega) | (have h := @improve_len2 g cs1 (ls1[0]'hlt); simp only [List.length_append, sum_flat, List.length_nil, List.length_cons, List.length_drop]; simp only [Enc.sz]; omega)) (by decide) (by omega) (by omega) rfl rfl (fun v4 w15 m3 ho5 => ?_)
      replace E := E.step m3 (fun g hg => by have := Own.blk (Own.ofBlk (lo := b6) (hi := b6 + 1) (sz := 4) h6 (Nat.le_refl _) (Nat.lt_succ_self _) (by simp) (by simp [maxLen])) g hg; omega); replace h1 := h1.mod m3 (fun g hg => by have := Own.blk (Own.ofBlk (lo := b6) (hi := b6 + 1) (sz := 4) h6 (Nat.le_refl _) (Nat.lt_succ_self _) (by simp) (by simp [maxLen])) g hg; omega); replace hvc := hvc.mod m3 (fun g hg => by have := Own.blk (Own.ofBlk (lo := b6) (hi := b6 + 1) (sz := 4) h6 (Nat.le_refl _) (Nat.lt_succ_self _) (by simp) (by simp [maxLen])) g hg; omega); replace ho3 := ho3.mod m3 (fun g hg => by have := Own.blk (Own.ofBlk (lo := b6) (hi := b6 + 1) (sz := 4) h6 (Nat.le_refl _) (Nat.lt_succ_self _) (by simp) (by simp [maxLen])) g hg; omega); replace ho4 := ho4.mod m3 (fun g hg => by have := Own.blk (Own.ofBlk (lo := b6) (hi := b6 + 1) (sz := 4) h6 (Nat.le_refl _) (Nat.lt_succ_self _) (by simp) (by simp [maxLen])) g hg; omega); replace hs1 := hs1.mod m3 (fun g hg => by have := Own.blk (Own.ofBlk (lo := b6) (hi := b6 + 1) (sz := 4) h6 (Nat.le_refl _) (Nat.lt_succ_self _) (by simp) (by simp [maxLen])) g hg; omega)
      have z15 := m3.size
      refine J_st (R_move rfl) rfl ?_
      refine J_append sl28 rfl rfl ho5 (Own.src ho4) (flat_one _) (by first | (have h := fixT_len e (fun r => ofE e r && recordOk r) rs k; simp only [List.length_append, sum_flat, List.length_nil, List.length_cons, List.length_drop]; simp only [Enc.sz]; have h2 := List.length_filter_le (ofE e) rs; omega) | (simp only [List.length_append, sum_flat, List.length_nil, List.length_cons, List.length_drop]; simp only [Enc.sz]; omega) | (have h := @improve_len2 g cs1 (ls1[0]'hlt); simp only [List.length_append, sum_flat, List.length_nil, List.length_cons, List.length_drop]; simp only [Enc.sz]; omega)) (by decide) (by omega) (by omega) rfl rfl (fun v5 w16 m4 ho6 => ?_)
      replace E := E.step m4 (fun g hg => by have := Own.blk ho5 g hg; omega); replace h1 := h1.mod m4 (fun g hg => by have := Own.blk ho5 g hg; omega); replace hvc := hvc.mod m4 (fun g hg => by have := Own.blk ho5 g hg; omega); replace ho3 := ho3.mod m4 (fun g hg => by have := Own.blk ho5 g hg; omega); replace ho4 := ho4.mod m4 (fun g hg => by have := Own.blk ho5 g hg; omega); replace hs1 := hs1.mod m4 (fun g hg => by have := Own.blk ho5 g hg; omega)
      have z16 := m4.size
      refine J_st (R_assign rfl) rfl (J_done ?_)
      refine S_nil (E_inB ?_)
      have hm1 := @fix_mu g cs1 ls1 (ls1[0]'hi2) hlt
      have hm2 := @fix_b g cs1 (ls1[0]'hi2)
      refine S_nil (E_again ((improveM g cs1 (ls1[0]'hi2)).1, List.drop 1 ls1 ++ (improveM g cs1 (ls1[0]'hi2)).2, v2, v5) (by exact hm1) ⟨rfl, rfl, rfl, rfl, trivial⟩ ⟨E, (by omega), h1, (hI.trans (fix_next hlt (getD_at hlt))), (by omega), (by omega), Own.fin ho3 (by omega) (by omega) rfl, Own.fin ho6 (by omega) (by omega) (by first | rfl | (simp only [List.flatMap_append, List.nil_append]; done)), ⟨⟨(Own.sep ho3 ho6 (by omega)), trivial⟩, ⟨trivial, trivial⟩⟩⟩)
    · have hend := hI.trans (fix_end (by first | (have h := of_decide_eq_false hc3; omega) | (have h := hc3; simp at h; omega)))
      have hc3n : ¬ ls1.length > 0 := by first | (have h := of_decide_eq_false hc3; omega) | (have h := hc3; simp at h; omega)
      refine S_exit (E_lp_exit (E_inB_exit ?_))
      refine S_seq ?_
      refine S_reg [true, true] rfl rfl ?_
      refine J_st (R_move rfl) rfl (J_st (R_assign rfl) rfl (J_done ?_))
      refine S_ret (E_done1 rfl rfl E ?_)
      exact Own.fin hvc (by omega) (by omega) (by rw [hend])

set_option maxRecDepth 20000 in
theorem s_ResultOf (cg : List Value) (g : Graph) (e : Int) (vrs : Value) (rs : List Record) (w : World) (hg : Dat.R w 0 w.heap.size cg g) (hrs : RdS w vrs rs) (hb : rs.length ≤ 1048576) (hcg : cntGraph g ≤ 1048576) : Ct Try.prog 18 [.agg cg.toArray, .int .i64 e, vrs] w (fun v w' => Own w' w.heap.size w'.heap.size 4 v (List.flatMap (Enc.enc (α := Cell)) ((fixM g e rs).filter (outOf g)))) := by
  have hl1 := fix_len g e rs
  refine ct_of Try.func18 rfl Try.ntmps18 rfl ?_
  obtain ⟨o1, rfl, hd1⟩ := Graph.op hg
  refine S_sub [(0, .agg [o1, .int .i64 g.workers, .int .i64 g.cap].toArray), (1, .int .i64 e), (2, vrs)] ⟨rfl, rfl, rfl, trivial⟩ ?_
  have E : Ext w w := Ext.refl w
  refine S_seq ?_
  refine S_reg [false, true] rfl rfl ?_
  refine J_box rfl rfl (fun b1 w1 e1 s1 h1 => ?_)
  have g_b1 : w.heap.size ≤ b1 := by have := E.size; omega
  have y_b1 := h1.lt
  replace E := E.trans e1
  have z1 := e1.size
  refine J_st (R_assign rfl) rfl (J_done ?_)
  refine S_seq ?_
  refine S_regD mixed [(0, true), (1, true), (2, true), (3, true), (4, false), (5, false), (6, true)] (by decide +kernel) rfl (fun w2 e2 => ?_)
  replace E := E.trans e2; replace h1 := h1.ext e2
  have z2 := e2.size
  refine J_st (R_loadS st32 rfl h1.at rfl) rfl (J_st (R_loadS st32 rfl h1.at rfl) rfl (J_st (R_move rfl) rfl (J_st (R_move rfl) rfl ?_)))
  refine J_call Try.call7 rfl (s_Fixpoint [o1, .int .i64 g.workers, .int .i64 g.cap] g e vrs rs _ (Graph.mkR g (RdD.any (hd1.ext E))) (hrs.ext E) (by first | omega | (simp only [mkL_length]; omega) | (rw [mkL_length]; done) | (simp only [mkL_length]; done)) (by first | omega | (simp only [mkL_length]; omega) | (rw [mkL_length]; done) | (simp only [mkL_length]; done))) rfl (fun v1 w3 e3 ho1 => ?_)
  have g_ho1 : w.heap.size ≤ w2.heap.size := E.size
  replace E := E.trans e3; replace h1 := h1.ext e3
  have z3 := e3.size
  refine J_call Try.call32 rfl (s_OutsOnly [o1, .int .i64 g.workers, .int .i64 g.cap] g v1 (fixM g e rs) _ (Graph.mkR g (RdD.any (hd1.ext E))) (Own.rd (by decide) ho1) (by first | omega | (simp only [mkL_length]; omega) | (rw [mkL_length]; done) | (simp only [mkL_length]; done)) (by first | omega | (simp only [mkL_length]; omega) | (rw [mkL_length]; done) | (simp only [mkL_length]; done))) rfl (fun v2 w4 e4 ho2 => ?_)
  have g_ho2 : w.heap.size ≤ w3.heap.size := E.size
  replace E := E.trans e4; replace h1 := h1.ext e4; replace ho1 := ho1.ext e4
  have z4 := e4.size
  refine J_st (R_assign rfl) rfl (J_done ?_)
  refine S_ret (E_done1 rfl rfl E ?_)
  exact Own.fin ho2 (by have := E.size; omega) (by omega) (by simp [*])

set_option maxRecDepth 20000 in
theorem c_ResultOf (cg : List Value) (g : Graph) (e : Int) (vrs : Value) (rs : List Record) (w : World) (hg : Dat.R w 0 w.heap.size cg g) (hrs : RdS w vrs rs) (hb : rs.length ≤ 1048576) : Ct Try.prog 19 [.agg cg.toArray, .int .i64 e, vrs] w (fun v w' => Own w' w.heap.size w'.heap.size 4 v (List.flatMap (Enc.enc (α := Cell)) ((fixM g e rs).filter (outOf g)))) := by
  have hl1 := fix_len g e rs
  refine ct_of Try.func19 rfl Try.ntmps19 rfl ?_
  obtain ⟨o1, rfl, hd1⟩ := Graph.op hg
  refine S_sub [(0, .agg [o1, .int .i64 g.workers, .int .i64 g.cap].toArray), (1, .int .i64 e), (2, vrs)] ⟨rfl, rfl, rfl, trivial⟩ ?_
  have E : Ext w w := Ext.refl w
  refine S_seq ?_
  refine S_reg [false, true] rfl rfl ?_
  refine J_box rfl rfl (fun b1 w1 e1 s1 h1 => ?_)
  have g_b1 : w.heap.size ≤ b1 := by have := E.size; omega
  have y_b1 := h1.lt
  replace E := E.trans e1
  have z1 := e1.size
  refine J_st (R_assign rfl) rfl (J_done ?_)
  refine S_seq ?_
  refine S_regD mixed [(0, true), (1, true), (2, true), (3, true), (4, false), (5, false), (6, true)] (by decide +kernel) rfl (fun w2 e2 => ?_)
  replace E := E.trans e2; replace h1 := h1.ext e2
  have z2 := e2.size
  refine J_st (R_loadS st32 rfl h1.at rfl) rfl (J_st (R_loadS st32 rfl h1.at rfl) rfl (J_st (R_move rfl) rfl (J_st (R_move rfl) rfl ?_)))
  refine J_call Try.call10 rfl (c_Fixpoint [o1, .int .i64 g.workers, .int .i64 g.cap] g e vrs rs _ (Graph.mkR g (RdD.any (hd1.ext E))) (hrs.ext E) (by first | omega | (simp only [mkL_length]; omega) | (rw [mkL_length]; done) | (simp only [mkL_length]; done))) rfl (fun v1 w3 e3 ho1 => ?_)
  have g_ho1 : w.heap.size ≤ w2.heap.size := E.size
  replace E := E.trans e3; replace h1 := h1.ext e3
  have z3 := e3.size
  refine J_call Try.call33 rfl (c_OutsOnly [o1, .int .i64 g.workers, .int .i64 g.cap] g v1 (fixM g e rs) _ (Graph.mkR g (RdD.any (hd1.ext E))) (Own.rd (by decide) ho1) (by first | omega | (simp only [mkL_length]; omega) | (rw [mkL_length]; done) | (simp only [mkL_length]; done))) rfl (fun v2 w4 e4 ho2 => ?_)
  have g_ho2 : w.heap.size ≤ w3.heap.size := E.size
  replace E := E.trans e4; replace h1 := h1.ext e4; replace ho1 := ho1.ext e4
  have z4 := e4.size
  refine J_st (R_assign rfl) rfl (J_done ?_)
  refine S_ret (E_done1 rfl rfl E ?_)
  exact Own.fin ho2 (by have := E.size; omega) (by omega) (by simp [*])

set_option maxHeartbeats 4000000 in
set_option maxRecDepth 20000 in
theorem l_ResultOf (cg : List Value) (g : Graph) (e : Int) (vrs : Value) (rs : List Record) (w : World) (hg : Dat.R w 0 w.heap.size cg g) (hrs : RdS w vrs rs) (_kg : okGraph g) (_ke : rg e) (_krs : ∀ y ∈ rs, okRecord y) : Ct Try.prog 4 [.agg cg.toArray, .int .i64 e, vrs] w (fun v _ => v = .bool true) := by
  have hl0 := fix_len g e rs
  have hl1 : ((fixM g e rs).filter (outOf g)).length ≤ 3200000 := Nat.le_trans (List.length_filter_le _ _) hl0
  have hnn := @numNs_all 1 g.nodes
  have hcq : cntGraph g = cntL cntNode g.nodes := rfl
  refine ct_of Try.func4 rfl Try.ntmps4 rfl ?_
  obtain ⟨o1, rfl, hd1⟩ := Graph.op hg
  refine S_sub [(0, .agg [o1, .int .i64 g.workers, .int .i64 g.cap].toArray), (1, .int .i64 e), (2, vrs)] ⟨rfl, rfl, rfl, trivial⟩ ?_
  have E : Ext w w := Ext.refl w
  refine S_seq ?_
  refine S_reg [false, true] rfl rfl ?_
  refine J_box rfl rfl (fun b1 w1 e1 s1 h1 => ?_)
  have g_b1 : w.heap.size ≤ b1 := by have := E.size; omega
  have y_b1 := h1.lt
  replace E := E.trans e1
  have z1 := e1.size
  refine J_st (R_assign rfl) rfl (J_done ?_)
  refine S_seq ?_
  refine S_reg [true] rfl rfl ?_
  refine J_st (R_assign rfl) rfl (J_done ?_)
  refine S_seq ?_
  refine S_reg [true, true, false, true] rfl rfl ?_
  refine J_st (R_loadS st24 rfl h1.at rfl) rfl (J_st (R_move rfl) rfl ?_)
  refine J_call Try.call5 rfl (c_szGraph [o1, .int .i64 g.workers, .int .i64 g.cap] g 1048576 _ (Graph.mkR g (RdD.any (hd1.ext E))) (by first | omega | (simp only [mkL_length]; omega) | (rw [mkL_length]; done) | (simp only [mkL_length]; done))) rfl (fun _ w2 e2 hv => ?_)
  subst hv
  replace E := E.trans e2; replace h1 := h1.ext e2
  have z2 := e2.size
  refine J_st (R_assign rfl) rfl (J_done ?_)
  refine S_seq ?_
  refine S_seq ?_
  refine S_reg [true, true] rfl rfl ?_
  refine J_st (R_move rfl) rfl (J_st (R_lss rfl rfl) rfl (J_done ?_))
  refine S_cond rfl (fun hc1 => ?_) (fun hc1 => ?_)
  · have q1 := szM_no hc1 (by omega)
    refine S_seq ?_
    refine S_reg [true] rfl rfl ?_
    refine J_st (R_assign rfl) rfl (J_done ?_)
    refine S_ret (E_done1 rfl rfl E ?_)
    rfl
  · have q2 := szM_ok hc1 (by omega)
    refine S_skip ?_
    refine S_seq ?_
    refine S_reg [true, true, false, true] rfl rfl ?_
    refine J_st (R_move rfl) rfl (J_st (R_move rfl) rfl ?_)
    refine J_call Try.call6 rfl (c_szRecordS vrs rs (szM (cntGraph g) 1048576) _ (hrs.ext E) (by first | omega | (simp only [mkL_length]; omega) | (rw [mkL_length]; done) | (simp only [mkL_length]; done))) rfl (fun _ w3 e3 hv => ?_)
    subst hv
    replace E := E.trans e3; replace h1 := h1.ext e3
    have z3 := e3.size
    refine J_st (R_assign rfl) rfl (J_done ?_)
    refine S_seq ?_
    refine S_seq ?_
    refine S_reg [true, true] rfl rfl ?_
    refine J_st (R_move rfl) rfl (J_st (R_lss rfl rfl) rfl (J_done ?_))
    refine S_cond rfl (fun hc2 => ?_) (fun hc2 => ?_)
    · have q3 := szM_no hc2 (by omega)
      refine S_seq ?_
      refine S_reg [true] rfl rfl ?_
      refine J_st (R_assign rfl) rfl (J_done ?_)
      refine S_ret (E_done1 rfl rfl E ?_)
      rfl
    · have q4 := szM_ok hc2 (by omega)
      refine S_skip ?_
      refine S_seq ?_
      refine S_reg [true, false, true, true, false, false, true] rfl rfl ?_
      refine J_st (R_loadS st24 rfl h1.at rfl) rfl ?_
      refine J_call Try.call8 rfl (c_toGraph [o1, .int .i64 g.workers, .int .i64 g.cap] g _ (Graph.mkR g (RdD.any (hd1.ext E))) (by first | omega | (simp only [mkL_length]; omega) | (rw [mkL_length]; done) | (simp only [mkL_length]; done))) rfl (fun _ w4 e4 ho1 => ?_)
      obtain ⟨o2, rfl, ho1⟩ := ho1
      have g_ho1 : w.heap.size ≤ w3.heap.size := E.size
      replace E := E.trans e4; replace h1 := h1.ext e4
      have z4 := e4.size
      refine J_st (R_move rfl) rfl (J_st (R_move rfl) rfl ?_)
      refine J_call Try.call9 rfl (c_toRecordS vrs rs _ (hrs.ext E) (by first | omega | (simp only [mkL_length]; omega) | (rw [mkL_length]; done) | (simp only [mkL_length]; done))) rfl (fun v1 w5 e5 ho2 => ?_)
      have g_ho2 : w.heap.size ≤ w4.heap.size := E.size
      replace E := E.trans e5; replace h1 := h1.ext e5; replace ho1 := ho1.ext e5
      have z5 := e5.size
      refine J_call Try.call18 rfl (s_ResultOf [o2, .int .i64 g.workers, .int .i64 g.cap] g e v1 rs _ (Graph.mkR g (RdD.any (OwS.rd ho1))) (Own.rd (by decide) ho2) (by first | omega | (simp only [mkL_length]; omega) | (rw [mkL_length]; done) | (simp only [mkL_length]; done)) (by first | omega | (simp only [mkL_length]; omega) | (rw [mkL_length]; done) | (simp only [mkL_length]; done))) rfl (fun v2 w6 e6 ho3 => ?_)
      have g_ho3 : w.heap.size ≤ w5.heap.size := E.size
      replace E := E.trans e6; replace h1 := h1.ext e6; replace ho1 := ho1.ext e6; replace ho2 := ho2.ext e6
      have z6 := e6.size
      refine J_st (R_assign rfl) rfl (J_done ?_)
      refine S_seq ?_
      refine S_reg [true, false, false, false] rfl rfl ?_
      refine J_st (R_loadS st24 rfl h1.at rfl) rfl ?_
      refine J_call Try.call8 rfl (c_toGraph [o1, .int .i64 g.workers, .int .i64 g.cap] g _ (Graph.mkR g (RdD.any (hd1.ext E))) (by first | omega | (simp only [mkL_length]; omega) | (rw [mkL_length]; done) | (simp only [mkL_length]; done))) rfl (fun _ w7 e7 ho4 => ?_)
      obtain ⟨o3, rfl, ho4⟩ := ho4
      have g_ho4 : w.heap.size ≤ w6.heap.size := E.size
      replace E := E.trans e7; replace h1 := h1.ext e7; replace ho1 := ho1.ext e7; replace ho2 := ho2.ext e7; replace ho3 := ho3.ext e7
      have z7 := e7.size
      refine J_alloc st32 rfl (fun b2 w8 e8 s2 h2 => ?_)
      have g_b2 : w.heap.size ≤ b2 := by have := E.size; omega
      have y_b2 := h2.lt
      replace E := E.trans e8; replace h1 := h1.ext e8; replace ho1 := ho1.ext e8; replace ho2 := ho2.ext e8; replace ho3 := ho3.ext e8; replace ho4 := ho4.ext e8
      have z8 := e8.size
      refine J_storeS' (cs' := [o3, .int .i64 g.workers, .int .i64 g.cap]) st32 rfl rfl rfl (all_cons (RdD.one (OwS.rd ho4)) (all_cons rfl (all_cons rfl rfl))) h2 (Nat.le_of_ble_eq_true rfl) rfl (fun w9 m1 h2' => ?_)
      replace h2 := h2'
      replace E := E.step m1 (fun g hg => by cases hg; omega); replace h1 := h1.mod m1 (fun g hg => by cases hg; omega); replace ho1 := ho1.mod m1 (fun g hg => by cases hg; omega); replace ho2 := ho2.mod m1 (fun g hg => by cases hg; omega); replace ho3 := ho3.mod m1 (fun g hg => by cases hg; omega); replace ho4 := ho4.mod m1 (fun g hg => by cases hg; omega)
      have z9 := m1.size
      refine J_done ?_
      refine S_seq ?_
      refine S_reg [true, false, true] rfl rfl ?_
      refine J_st (R_move rfl) rfl ?_
      refine J_call Try.call9 rfl (c_toRecordS vrs rs _ (hrs.ext E) (by first | omega | (simp only [mkL_length]; omega) | (rw [mkL_length]; done) | (simp only [mkL_length]; done))) rfl (fun v3 w10 e9 ho5 => ?_)
      have g_ho5 : w.heap.size ≤ w9.heap.size := E.size
      replace E := E.trans e9; replace h1 := h1.ext e9; replace ho1 := ho1.ext e9; replace ho2 := ho2.ext e9; replace ho3 := ho3.ext e9; replace ho4 := ho4.ext e9; replace h2 := h2.ext e9
      have z10 := e9.size
      refine J_st (R_assign rfl) rfl (J_done ?_)
      refine S_seq ?_
      refine S_reg [true, true, true, false, true] rfl rfl ?_
      refine J_st (R_loadS st32 rfl h2.at rfl) rfl (J_st (R_move rfl) rfl (J_st (R_move rfl) rfl ?_))
      refine J_call Try.call19 rfl (c_ResultOf [o3, .int .i64 g.workers, .int .i64 g.cap] g e v3 rs _ (Graph.mkR g (RdD.any (OwS.rd ho4))) (Own.rd (by decide) ho5) (by first | omega | (simp only [mkL_length]; omega) | (rw [mkL_length]; done) | (simp only [mkL_length]; done))) rfl (fun v4 w11 e10 ho6 => ?_)
      have g_ho6 : w.heap.size ≤ w10.heap.size := E.size
      replace E := E.trans e10; replace h1 := h1.ext e10; replace ho1 := ho1.ext e10; replace ho2 := ho2.ext e10; replace ho3 := ho3.ext e10; replace ho4 := ho4.ext e10; replace h2 := h2.ext e10; replace ho5 := ho5.ext e10
      have z11 := e10.size
      refine J_st (R_assign rfl) rfl (J_done ?_)
      refine S_seq ?_
      refine S_seq ?_
      refine S_reg [true, true, false, true] rfl rfl ?_
      refine J_st (R_move rfl) rfl (J_st (R_move rfl) rfl ?_)
      refine J_call Try.call11 rfl (c_eqCellS v4 ((fixM g e rs).filter (outOf g)) v2 ((fixM g e rs).filter (outOf g)) _ (Own.rd (by decide) ho6) (Own.rd (by decide) ho3)) rfl (fun _ w12 e11 hv => ?_)
      subst hv
      replace E := E.trans e11; replace h1 := h1.ext e11; replace ho1 := ho1.ext e11; replace ho2 := ho2.ext e11; replace ho3 := ho3.ext e11; replace ho4 := ho4.ext e11; replace h2 := h2.ext e11; replace ho5 := ho5.ext e11; replace ho6 := ho6.ext e11
      have z12 := e11.size
      refine J_st (R_not rfl) rfl (J_done ?_)
      refine S_condFe rfl (by first | (simp; done) | (simp only [nat_nlt] <;> simp) | (simp only [mkL_length, nat_nlt] <;> simp) | (simp only [mkL_length] <;> simp)) ?_
      refine S_skip ?_
      refine S_seq ?_
      refine S_seq ?_
      refine S_regD mixed [(0, true), (1, true), (2, false), (3, false), (4, true)] (by decide +kernel) rfl (fun w13 e12 => ?_)
      replace E := E.trans e12; replace h1 := h1.ext e12; replace ho1 := ho1.ext e12; replace ho2 := ho2.ext e12; replace ho3 := ho3.ext e12; replace ho4 := ho4.ext e12; replace h2 := h2.ext e12; replace ho5 := ho5.ext e12; replace ho6 := ho6.ext e12
      have z13 := e12.size
      refine J_st (R_loadS st32 rfl h2.at rfl) rfl (J_st (R_loadS st24 rfl h1.at rfl) rfl ?_)
      refine J_call Try.call8 rfl (c_toGraph [o1, .int .i64 g.workers, .int .i64 g.cap] g _ (Graph.mkR g (RdD.any (hd1.ext E))) (by first | omega | (simp only [mkL_length]; omega) | (rw [mkL_length]; done) | (simp only [mkL_length]; done))) rfl (fun _ w14 e13 ho7 => ?_)
      obtain ⟨o4, rfl, ho7⟩ := ho7
      have g_ho7 : w.heap.size ≤ w13.heap.size := E.size
      replace E := E.trans e13; replace h1 := h1.ext e13; replace ho1 := ho1.ext e13; replace ho2 := ho2.ext e13; replace ho3 := ho3.ext e13; replace ho4 := ho4.ext e13; replace h2 := h2.ext e13; replace ho5 := ho5.ext e13; replace ho6 := ho6.ext e13
      have z14 := e13.size
      refine J_call Try.call12 rfl (c_eqGraph [o3, .int .i64 g.workers, .int .i64 g.cap] g [o4, .int .i64 g.workers, .int .i64 g.cap] g _ (Graph.mkR g (RdD.any (OwS.rd ho4))) (Graph.mkR g (RdD.any (OwS.rd ho7)))) rfl (fun _ w15 e14 hv => ?_)
      subst hv
      replace E := E.trans e14; replace h1 := h1.ext e14; replace ho1 := ho1.ext e14; replace ho2 := ho2.ext e14; replace ho3 := ho3.ext e14; replace ho4 := ho4.ext e14; replace h2 := h2.ext e14; replace ho5 := ho5.ext e14; replace ho6 := ho6.ext e14; replace ho7 := ho7.ext e14
      have z15 := e14.size
      refine J_st (R_not rfl) rfl (J_done ?_)
      refine S_condFe rfl (by first | (simp; done) | (simp only [nat_nlt] <;> simp) | (simp only [mkL_length, nat_nlt] <;> simp) | (simp only [mkL_length] <;> simp)) ?_
      refine S_skip ?_
      refine S_seq ?_
      refine S_seq ?_
      refine S_reg [true, true, false, false, true] rfl rfl ?_
      refine J_st (R_move rfl) rfl (J_st (R_move rfl) rfl ?_)
      refine J_call Try.call9 rfl (c_toRecordS vrs rs _ (hrs.ext E) (by first | omega | (simp only [mkL_length]; omega) | (rw [mkL_length]; done) | (simp only [mkL_length]; done))) rfl (fun v5 w16 e15 ho8 => ?_)
      have g_ho8 : w.heap.size ≤ w15.heap.size := E.size
      replace E := E.trans e15; replace h1 := h1.ext e15; replace ho1 := ho1.ext e15; replace ho2 := ho2.ext e15; replace ho3 := ho3.ext e15; replace ho4 := ho4.ext e15; replace h2 := h2.ext e15; replace ho5 := ho5.ext e15; replace ho6 := ho6.ext e15; replace ho7 := ho7.ext e15
      have z16 := e15.size
      refine J_call Try.call13 rfl (c_eqRecordS v3 rs v5 rs _ (Own.rd (by decide) ho5) (Own.rd (by decide) ho8)) rfl (fun _ w17 e16 hv => ?_)
      subst hv
      replace E := E.trans e16; replace h1 := h1.ext e16; replace ho1 := ho1.ext e16; replace ho2 := ho2.ext e16; replace ho3 := ho3.ext e16; replace ho4 := ho4.ext e16; replace h2 := h2.ext e16; replace ho5 := ho5.ext e16; replace ho6 := ho6.ext e16; replace ho7 := ho7.ext e16; replace ho8 := ho8.ext e16
      have z17 := e16.size
      refine J_st (R_not rfl) rfl (J_done ?_)
      refine S_condFe rfl (by first | (simp; done) | (simp only [nat_nlt] <;> simp) | (simp only [mkL_length, nat_nlt] <;> simp) | (simp only [mkL_length] <;> simp)) ?_
      refine S_skip ?_
      refine S_seq ?_
      refine S_reg [true] rfl rfl ?_
      refine J_st (R_assign rfl) rfl (J_done ?_)
      refine S_seq ?_
      refine S_reg [true, true, false, true] rfl rfl ?_
      refine J_st (R_loadS st32 rfl h2.at rfl) rfl (J_st (R_move rfl) rfl ?_)
      refine J_callR Try.call14 rfl rfl (markGraph o3 w6.heap.size w7.heap.size g 1 _ ho4 (by omega) (by first | omega | (simp only [mkL_length]; omega) | (rw [mkL_length]; done) | (simp only [mkL_length]; done))) rfl (fun _ w18 e17 hv => ?_)
      obtain ⟨rfl, ho4'⟩ := hv
      replace ho4 := ho4'
      replace E := E.stepR e17 (by omega); replace h1 := h1.modR e17 (by omega); replace ho1 := ho1.modR e17 (by omega); replace ho2 := ho2.modR e17 (by omega); replace ho3 := ho3.modR e17 (by omega); replace h2 := h2.modR e17 (by omega); replace ho5 := ho5.modR e17 (by omega); replace ho6 := ho6.modR e17 (by omega); replace ho7 := ho7.modR e17 (by omega); replace ho8 := ho8.modR e17 (by omega)
      have z18 := e17.size
      refine J_st (R_assign rfl) rfl (J_done ?_)
      refine S_seq ?_
      refine S_reg [true, true, false, true] rfl rfl ?_
      refine J_st (R_move rfl) rfl (J_st (R_move rfl) rfl ?_)
      refine J_callR Try.call15 rfl rfl (markRecordS v3 w9.heap.size w10.heap.size rs (numNs 1 g.nodes) _ ho5 (by first | omega | (simp only [mkL_length]; omega) | (rw [mkL_length]; done) | (simp only [mkL_length]; done))) rfl (fun _ w19 e18 hv => ?_)
      obtain ⟨rfl, ho5'⟩ := hv
      replace ho5 := ho5'
      replace E := E.stepR e18 (by omega); replace h1 := h1.modR e18 (by omega); replace ho1 := ho1.modR e18 (by omega); replace ho2 := ho2.modR e18 (by omega); replace ho3 := ho3.modR e18 (by omega); replace ho4 := ho4.modR e18 (by omega); replace h2 := h2.modR e18 (by omega); replace ho6 := ho6.modR e18 (by omega); replace ho7 := ho7.modR e18 (by omega); replace ho8 := ho8.modR e18 (by omega)
      have z19 := e18.size
      refine J_st (R_assign rfl) rfl (J_done ?_)
      refine S_seq ?_
      refine S_seq ?_
      refine S_reg [true, true, true, true, true, false, true, true] rfl rfl ?_
      refine J_st (R_move rfl) rfl (J_st (R_lss rfl rfl) rfl (J_st (R_move rfl) rfl ?_))
      refine J_cut 5 [(0, .agg [o1, .int .i64 g.workers, .int .i64 g.cap].toArray), (1, .int .i64 e), (2, vrs), (3, .pointer (some ⟨b1, 0, none⟩)), (6, .bool false), (7, .int .i64 (szM rs.length (szM (cntGraph g) 1048576))), (8, v2), (9, .pointer (some ⟨b2, 0, none⟩)), (10, v3), (11, v4), (12, .int .i64 (((numNs 1 g.nodes) + 5 * rs.length : Nat) : Int)), (16, .agg [o1, .int .i64 g.workers, .int .i64 g.cap].toArray), (17, .int .i64 1048576), (18, .int .i64 (szM (cntGraph g) 1048576)), (19, .int .i64 (szM (cntGraph g) 1048576)), (20, .bool (decide ((szM (cntGraph g) 1048576) < 0))), (21, vrs), (22, .int .i64 (szM (cntGraph g) 1048576)), (23, .int .i64 (szM rs.length (szM (cntGraph g) 1048576))), (24, .int .i64 (szM rs.length (szM (cntGraph g) 1048576))), (25, .bool (decide ((szM rs.length (szM (cntGraph g) 1048576)) < 0))), (26, .agg [o1, .int .i64 g.workers, .int .i64 g.cap].toArray), (27, .agg [o2, .int .i64 g.workers, .int .i64 g.cap].toArray), (28, .int .i64 e), (29, vrs), (30, v1), (31, v2), (32, .agg [o1, .int .i64 g.workers, .int .i64 g.cap].toArray), (33, .agg [o3, .int .i64 g.workers, .int .i64 g.cap].toArray), (34, vrs), (35, v3), (36, .agg [o3, .int .i64 g.workers, .int .i64 g.cap].toArray), (37, .int .i64 e), (38, v3), (39, v4), (40, v4), (41, v2), (42, .bool (decide (((fixM g e rs).filter (outOf g)) = ((fixM g e rs).filter (outOf g))))), (43, .bool (!(decide (((fixM g e rs).filter (outOf g)) = ((fixM g e rs).filter (outOf g)))))), (44, .agg [o3, .int .i64 g.workers, .int .i64 g.cap].toArray), (45, .agg [o1, .int .i64 g.workers, .int .i64 g.cap].toArray), (46, .agg [o4, .int .i64 g.workers, .int .i64 g.cap].toArray), (47, .bool (decide (g = g))), (48, .bool (!(decide (g = g)))), (49, v3), (50, vrs), (51, v5), (52, .bool (decide (rs = rs))), (53, .bool (!(decide (rs = rs)))), (54, .agg [o3, .int .i64 g.workers, .int .i64 g.cap].toArray), (55, .int .i64 1), (56, .int .i64 ((numNs 1 g.nodes : Nat) : Int)), (57, v3), (58, .int .i64 ((numNs 1 g.nodes : Nat) : Int)), (59, .int .i64 (((numNs 1 g.nodes) + 5 * rs.length : Nat) : Int)), (67, .bool ((decide ((((numNs 1 g.nodes) + 5 * rs.length : Nat) : Int) < 0)) || (!(decide (((fixM g e rs).filter (outOf g)) = ((fixM g e rs).filter (outOf g)))))))] (fun w' => Ext w w' ∧ w19.heap.size ≤ w'.heap.size ∧ Blk w' b1 ([o1, .int .i64 g.workers, .int .i64 g.cap]) ∧ OwS w' w3.heap.size w4.heap.size o2 g.nodes ∧ Own w' w4.heap.size w5.heap.size 5 v1 (List.flatMap (Enc.enc (α := Record)) rs) ∧ Own w' w5.heap.size w6.heap.size 4 v2 (List.flatMap (Enc.enc (α := Cell)) ((fixM g e rs).filter (outOf g))) ∧ OwS w' w6.heap.size w7.heap.size o3 (markNs 1 g.nodes) ∧ Blk w' b2 [o3, .int .i64 g.workers, .int .i64 g.cap] ∧ Own w' w9.heap.size w10.heap.size 5 v3 (List.flatMap (Enc.enc (α := Record)) (mkL 5 mkRecord (numNs 1 g.nodes) rs.length)) ∧ Own w' w10.heap.size w11.heap.size 4 v4 (List.flatMap (Enc.enc (α := Cell)) ((fixM g e rs).filter (outOf g))) ∧ OwS w' w13.heap.size w14.heap.size o4 g.nodes ∧ Own w' w15.heap.size w16.heap.size 5 v5 (List.flatMap (Enc.enc (α := Record)) rs)) ?_ ?_
      · refine J_if (gd := 62) rfl rfl (fun hg1 => ?_) (fun hg1 => ?_)
        · exact absurd hg1 (by first | (simp; done) | (simp only [nat_nlt] <;> simp) | (simp only [mkL_length, nat_nlt] <;> simp) | (simp only [mkL_length] <;> simp))
        · have hg1n : ¬ (numNs 1 g.nodes) + 5 * rs.length < 0 := by first | (have h := of_decide_eq_false hg1; omega) | (have h := hg1; simp at h; omega)
          refine J_gd rfl rfl (R_move rfl) rfl (J_gd rfl rfl (R_move rfl) rfl ?_)
          refine J_ung rfl rfl ?_
          refine J_call Try.call11 rfl (c_eqCellS v4 ((fixM g e rs).filter (outOf g)) v2 ((fixM g e rs).filter (outOf g)) _ (Own.rd (by decide) ho6) (Own.rd (by decide) ho3)) rfl (fun _ w21 e19 hv => ?_)
          subst hv
          replace E := E.trans e19; replace h1 := h1.ext e19; replace ho1 := ho1.ext e19; replace ho2 := ho2.ext e19; replace ho3 := ho3.ext e19; replace ho4 := ho4.ext e19; replace h2 := h2.ext e19; replace ho5 := ho5.ext e19; replace ho6 := ho6.ext e19; replace ho7 := ho7.ext e19; replace ho8 := ho8.ext e19
          have z20 := e19.size
          refine J_gd rfl rfl (R_not rfl) rfl (J_st (R_pickF rfl rfl) rfl (J_cutEnd ⟨rfl, rfl, rfl, rfl, rfl, rfl, rfl, rfl, rfl, rfl, rfl, rfl, rfl, rfl, rfl, rfl, rfl, rfl, rfl, rfl, rfl, rfl, rfl, rfl, rfl, rfl, rfl, rfl, rfl, rfl, rfl, rfl, rfl, rfl, rfl, rfl, rfl, rfl, rfl, rfl, rfl, rfl, rfl, rfl, rfl, rfl, rfl, rfl, rfl, rfl, rfl, rfl, rfl, rfl, rfl, congrArg (fun b => some (Value.bool b)) (show (!(decide (((fixM g e rs).filter (outOf g)) = ((fixM g e rs).filter (outOf g))))) = ((decide ((((numNs 1 g.nodes) + 5 * rs.length : Nat) : Int) < 0)) || (!(decide (((fixM g e rs).filter (outOf g)) = ((fixM g e rs).filter (outOf g)))))) by first | (rw [hg1] <;> rfl) | (simp [hg1]; done) | (simp only [nat_nlt] <;> simp)), trivial⟩ ⟨E, (by omega), h1, ho1, ho2, ho3, ho4, h2, ho5, ho6, ho7, ho8⟩))
      clear E h1 ho1 ho2 ho3 ho4 h2 ho5 ho6 ho7 ho8
      rintro w20 ⟨E, z21, h1, ho1, ho2, ho3, ho4, h2, ho5, ho6, ho7, ho8⟩
      refine J_done ?_
      refine S_condFe rfl (by first | (simp; done) | (simp only [nat_nlt] <;> simp) | (simp only [mkL_length, nat_nlt] <;> simp) | (simp only [mkL_length] <;> simp)) ?_
      refine S_skip ?_
      refine S_seq ?_
      refine S_reg [true] rfl rfl ?_
      refine J_st (R_assign rfl) rfl (J_done ?_)
      refine S_seq ?_
      refine S_reg [true, true, false, true] rfl rfl ?_
      refine J_st (R_move rfl) rfl (J_st (R_move rfl) rfl ?_)
      refine J_callR Try.call16 rfl rfl (markCellS v4 w10.heap.size w11.heap.size ((fixM g e rs).filter (outOf g)) 1 _ ho6 (by first | omega | (simp only [mkL_length]; omega) | (rw [mkL_length]; done) | (simp only [mkL_length]; done))) rfl (fun _ w22 e20 hv => ?_)
      obtain ⟨rfl, ho6'⟩ := hv
      replace ho6 := ho6'
      replace E := E.stepR e20 (by omega); replace h1 := h1.modR e20 (by omega); replace ho1 := ho1.modR e20 (by omega); replace ho2 := ho2.modR e20 (by omega); replace ho3 := ho3.modR e20 (by omega); replace ho4 := ho4.modR e20 (by omega); replace h2 := h2.modR e20 (by omega); replace ho5 := ho5.modR e20 (by omega); replace ho7 := ho7.modR e20 (by omega); replace ho8 := ho8.modR e20 (by omega)
      have z22 := e20.size
      refine J_st (R_assign rfl) rfl (J_done ?_)
      refine S_seq ?_
      refine S_reg [true] rfl rfl ?_
      refine J_st (R_assign rfl) rfl (J_done ?_)
      refine S_seq ?_
      refine S_reg [true, true, false, true] rfl rfl ?_
      refine J_st (R_move rfl) rfl (J_st (R_move rfl) rfl ?_)
      refine J_call Try.call17 rfl (heldCellS v4 (mkL 4 mkCell 1 ((fixM g e rs).filter (outOf g)).length) 1 _ (Own.rd (by decide) ho6) (by first | omega | (simp only [mkL_length]; omega) | (rw [mkL_length]; done) | (simp only [mkL_length]; done)) (by first | omega | (simp only [mkL_length]; omega) | (rw [mkL_length]; done) | (simp only [mkL_length]; done))) rfl (fun _ w23 e21 hv => ?_)
      subst hv
      replace E := E.trans e21; replace h1 := h1.ext e21; replace ho1 := ho1.ext e21; replace ho2 := ho2.ext e21; replace ho3 := ho3.ext e21; replace ho4 := ho4.ext e21; replace h2 := h2.ext e21; replace ho5 := ho5.ext e21; replace ho6 := ho6.ext e21; replace ho7 := ho7.ext e21; replace ho8 := ho8.ext e21
      have z23 := e21.size
      refine J_st (R_assign rfl) rfl (J_done ?_)
      refine S_seq ?_
      refine S_seq ?_
      refine S_reg [true, true] rfl rfl ?_
      refine J_st (R_move rfl) rfl (J_st (R_lss rfl rfl) rfl (J_done ?_))
      refine S_condFe rfl (by first | (simp; done) | (simp only [nat_nlt] <;> simp) | (simp only [mkL_length, nat_nlt] <;> simp) | (simp only [mkL_length] <;> simp)) ?_
      refine S_skip ?_
      refine S_seq ?_
      refine S_seq ?_
      refine S_reg [true, true, true] rfl rfl ?_
      refine J_st (R_move rfl) rfl (J_st (R_move rfl) rfl (J_st (R_neq rfl rfl) rfl (J_done ?_)))
      refine S_condFe rfl (by first | (simp; done) | (simp only [nat_nlt] <;> simp) | (simp only [mkL_length, nat_nlt] <;> simp) | (simp only [mkL_length] <;> simp)) ?_
      refine S_skip ?_
      refine S_seq ?_
      refine S_reg [true, false, true, true, false, false, true] rfl rfl ?_
      refine J_st (R_loadS st24 rfl h1.at rfl) rfl ?_
      refine J_call Try.call8 rfl (c_toGraph [o1, .int .i64 g.workers, .int .i64 g.cap] g _ (Graph.mkR g (RdD.any (hd1.ext E))) (by first | omega | (simp only [mkL_length]; omega) | (rw [mkL_length]; done) | (simp only [mkL_length]; done))) rfl (fun _ w24 e22 ho9 => ?_)
      obtain ⟨o5, rfl, ho9⟩ := ho9
      have g_ho9 : w.heap.size ≤ w23.heap.size := E.size
      replace E := E.trans e22; replace h1 := h1.ext e22; replace ho1 := ho1.ext e22; replace ho2 := ho2.ext e22; replace ho3 := ho3.ext e22; replace ho4 := ho4.ext e22; replace h2 := h2.ext e22; replace ho5 := ho5.ext e22; replace ho6 := ho6.ext e22; replace ho7 := ho7.ext e22; replace ho8 := ho8.ext e22
      have z24 := e22.size
      refine J_st (R_move rfl) rfl (J_st (R_move rfl) rfl ?_)
      refine J_call Try.call9 rfl (c_toRecordS vrs rs _ (hrs.ext E) (by first | omega | (simp only [mkL_length]; omega) | (rw [mkL_length]; done) | (simp only [mkL_length]; done))) rfl (fun v6 w25 e23 ho10 => ?_)
      have g_ho10 : w.heap.size ≤ w24.heap.size := E.size
      replace E := E.trans e23; replace h1 := h1.ext e23; replace ho1 := ho1.ext e23; replace ho2 := ho2.ext e23; replace ho3 := ho3.ext e23; replace ho4 := ho4.ext e23; replace h2 := h2.ext e23; replace ho5 := ho5.ext e23; replace ho6 := ho6.ext e23; replace ho7 := ho7.ext e23; replace ho8 := ho8.ext e23; replace ho9 := ho9.ext e23
      have z25 := e23.size
      refine J_call Try.call19 rfl (c_ResultOf [o5, .int .i64 g.workers, .int .i64 g.cap] g e v6 rs _ (Graph.mkR g (RdD.any (OwS.rd ho9))) (Own.rd (by decide) ho10) (by first | omega | (simp only [mkL_length]; omega) | (rw [mkL_length]; done) | (simp only [mkL_length]; done))) rfl (fun v7 w26 e24 ho11 => ?_)
      have g_ho11 : w.heap.size ≤ w25.heap.size := E.size
      replace E := E.trans e24; replace h1 := h1.ext e24; replace ho1 := ho1.ext e24; replace ho2 := ho2.ext e24; replace ho3 := ho3.ext e24; replace ho4 := ho4.ext e24; replace h2 := h2.ext e24; replace ho5 := ho5.ext e24; replace ho6 := ho6.ext e24; replace ho7 := ho7.ext e24; replace ho8 := ho8.ext e24; replace ho9 := ho9.ext e24; replace ho10 := ho10.ext e24
      have z26 := e24.size
      refine J_st (R_assign rfl) rfl (J_done ?_)
      refine S_seq ?_
      refine S_seq ?_
      refine S_reg [true, true, false, true] rfl rfl ?_
      refine J_st (R_move rfl) rfl (J_st (R_move rfl) rfl ?_)
      refine J_call Try.call11 rfl (c_eqCellS v7 ((fixM g e rs).filter (outOf g)) v2 ((fixM g e rs).filter (outOf g)) _ (Own.rd (by decide) ho11) (Own.rd (by decide) ho3)) rfl (fun _ w27 e25 hv => ?_)
      subst hv
      replace E := E.trans e25; replace h1 := h1.ext e25; replace ho1 := ho1.ext e25; replace ho2 := ho2.ext e25; replace ho3 := ho3.ext e25; replace ho4 := ho4.ext e25; replace h2 := h2.ext e25; replace ho5 := ho5.ext e25; replace ho6 := ho6.ext e25; replace ho7 := ho7.ext e25; replace ho8 := ho8.ext e25; replace ho9 := ho9.ext e25; replace ho10 := ho10.ext e25; replace ho11 := ho11.ext e25
      have z27 := e25.size
      refine J_st (R_not rfl) rfl (J_done ?_)
      refine S_condFe rfl (by first | (simp; done) | (simp only [nat_nlt] <;> simp) | (simp only [mkL_length, nat_nlt] <;> simp) | (simp only [mkL_length] <;> simp)) ?_
      refine S_skip ?_
      refine S_seq ?_
      refine S_reg [true] rfl rfl ?_
      refine J_st (R_assign rfl) rfl (J_done ?_)
      refine S_seq ?_
      refine S_reg [true, true, false, true] rfl rfl ?_
      refine J_st (R_move rfl) rfl (J_st (R_move rfl) rfl ?_)
      refine J_call Try.call17 rfl (heldCellS v4 (mkL 4 mkCell 1 ((fixM g e rs).filter (outOf g)).length) 1 _ (Own.rd (by decide) ho6) (by first | omega | (simp only [mkL_length]; omega) | (rw [mkL_length]; done) | (simp only [mkL_length]; done)) (by first | omega | (simp only [mkL_length]; omega) | (rw [mkL_length]; done) | (simp only [mkL_length]; done))) rfl (fun _ w28 e26 hv => ?_)
      subst hv
      replace E := E.trans e26; replace h1 := h1.ext e26; replace ho1 := ho1.ext e26; replace ho2 := ho2.ext e26; replace ho3 := ho3.ext e26; replace ho4 := ho4.ext e26; replace h2 := h2.ext e26; replace ho5 := ho5.ext e26; replace ho6 := ho6.ext e26; replace ho7 := ho7.ext e26; replace ho8 := ho8.ext e26; replace ho9 := ho9.ext e26; replace ho10 := ho10.ext e26; replace ho11 := ho11.ext e26
      have z28 := e26.size
      refine J_st (R_assign rfl) rfl (J_done ?_)
      refine S_seq ?_
      refine S_seq ?_
      refine S_reg [true, true] rfl rfl ?_
      refine J_st (R_move rfl) rfl (J_st (R_lss rfl rfl) rfl (J_done ?_))
      refine S_condFe rfl (by first | (simp; done) | (simp only [nat_nlt] <;> simp) | (simp only [mkL_length, nat_nlt] <;> simp) | (simp only [mkL_length] <;> simp)) ?_
      refine S_skip ?_
      refine S_seq ?_
      refine S_seq ?_
      refine S_reg [true, true, true] rfl rfl ?_
      refine J_st (R_move rfl) rfl (J_st (R_move rfl) rfl (J_st (R_neq rfl rfl) rfl (J_done ?_)))
      refine S_condFe rfl (by first | (simp; done) | (simp only [nat_nlt] <;> simp) | (simp only [mkL_length, nat_nlt] <;> simp) | (simp only [mkL_length] <;> simp)) ?_
      refine S_skip ?_
      refine S_seq ?_
      refine S_reg [true] rfl rfl ?_
      refine J_st (R_assign rfl) rfl (J_done ?_)
      refine S_ret (E_done1 rfl rfl E ?_)
      rfl

end Go.Proofs.Ytlhdkpdpkgocoaa
