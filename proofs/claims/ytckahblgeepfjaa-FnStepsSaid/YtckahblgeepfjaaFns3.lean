/- What the functions that the laws call come to: a contract each; no condition. -/
import Derived.Test.YtckahblgeepfjaaFns2
namespace Go.Proofs.Ytckahblgeepfjaa
open Go Go.Proofs.Ytckahblgeepfjaa.X Go.Proofs
set_option maxRecDepth 20000 in
theorem c_StepAll (cg : List Value) (g : Graph) (vcs : Value) (cs : List Cell) (vrs : Value) (rs : List Record) (m : Int) (w : World) (hg : Dat.R w 0 w.heap.size cg g) (hcs : RdS w vcs cs) (hrs : RdS w vrs rs) (hb : cs.length ≤ 1048576) (hb2 : rs.length ≤ 1048576) : Ct Try.prog 15 [.agg cg.toArray, vcs, vrs, .int .i64 m] w (fun v w' => ∃ u0 u1, v = .tuple [u0, u1, .int .i64 (((stepAllM g cs rs m).2.2 : Nat) : Int)].toArray ∧ Own w' w.heap.size w'.heap.size 4 u0 (List.flatMap (Enc.enc (α := Cell)) ((stepAllM g cs rs m).1)) ∧ Own w' w.heap.size w'.heap.size 5 u1 (List.flatMap (Enc.enc (α := Record)) ((stepAllM g cs rs m).2.1)) ∧ SepL [u0, u1]) := by
 have hbr := br_rg m
 refine ct_of Try.func15 rfl Try.ntmps15 rfl ?_
 obtain ⟨o1, rfl, hd1⟩ := Graph.op hg
 refine S_sub [(0, .agg [o1, .int .i64 g.workers, .int .i64 g.cap].toArray), (1, vcs), (2, vrs), (3, .int .i64 m)] ⟨rfl, rfl, rfl, rfl, trivial⟩ ?_
 have E : Ext w w := Ext.refl w
 refine S_seq ?_
 refine S_reg [false, true, true, true] rfl rfl ?_
 refine J_box rfl rfl (fun b1 w1 e1 s1 h1 => ?_)
 have g_b1 : w.heap.size ≤ b1 := by have := E.size; omega
 have y_b1 := h1.lt
 replace E := E.trans e1
 have z1 := e1.size
 refine J_st (R_assign rfl) rfl (J_st (R_assign rfl) rfl (J_st (R_assign rfl) rfl (J_done ?_)))
 refine S_seq ?_
 refine S_reg [true, false, true, false, true, true] rfl rfl ?_
 refine J_st (R_move rfl) rfl ?_
 refine J_call Try.call44 rfl (c_copyCells vcs cs _ (hcs.ext E) (by first | omega | (simp only [mkL_length]; omega) | (rw [mkL_length]; done) | (simp only [mkL_length]; done))) rfl (fun v1 w2 e2 ho1 => ?_)
 have g_ho1 : w.heap.size ≤ w1.heap.size := E.size
 replace E := E.trans e2; replace h1 := h1.ext e2
 have z2 := e2.size
 refine J_st (R_move rfl) rfl ?_
 refine J_call Try.call57 rfl (c_copyRecords vrs rs _ (hrs.ext E) (by first | omega | (simp only [mkL_length]; omega) | (rw [mkL_length]; done) | (simp only [mkL_length]; done))) rfl (fun v2 w3 e3 ho2 => ?_)
 have g_ho2 : w.heap.size ≤ w2.heap.size := E.size
 replace E := E.trans e3; replace h1 := h1.ext e3; replace ho1 := ho1.ext e3
 have z3 := e3.size
 refine J_st (R_assign rfl) rfl (J_st (R_assign rfl) rfl (J_done ?_))
 refine S_seq ?_
 refine S_reg [true] rfl rfl ?_
 refine J_st (R_assign rfl) rfl (J_done ?_)
 refine S_seq ?_
 refine S_block ?_
 refine S_loop (fun (xq : Nat × List Cell × List Record × Value × Value) => let ⟨k, cs1, rs1, vc, vl⟩ := xq; [(1, vc), (2, vl), (3, .int .i64 m), (4, .pointer (some ⟨b1, 0, none⟩)), (8, .slice none 0 0), (9, .slice none 0 0), (10, .int .i64 0), (11, .int .i64 ((k : Nat) : Int))]) (fun (xq : Nat × List Cell × List Record × Value × Value) w' => let ⟨k, cs1, rs1, vc, vl⟩ := xq; Ext w w' ∧ w3.heap.size ≤ w'.heap.size ∧ Blk w' b1 ([o1, .int .i64 g.workers, .int .i64 g.cap]) ∧ k ≤ Int.toNat (brM m 0 100000) ∧ allM g (Int.toNat (brM m 0 100000)) cs rs = ((allM g (Int.toNat (brM m 0 100000) - k) cs1 rs1).1, (allM g (Int.toNat (brM m 0 100000) - k) cs1 rs1).2.1, (allM g (Int.toNat (brM m 0 100000) - k) cs1 rs1).2.2 + k) ∧ cs1.length ≤ cs.length + k ∧ rs1.length ≤ rs.length + k ∧ Own w' w1.heap.size w'.heap.size 4 vc (List.flatMap (Enc.enc (α := Cell)) cs1) ∧ Own w' w1.heap.size w'.heap.size 5 vl (List.flatMap (Enc.enc (α := Record)) rs1) ∧ SepL [vc, vl]) (fun (xq : Nat × List Cell × List Record × Value × Value) => let ⟨k, cs1, rs1, vc, vl⟩ := xq; Int.toNat (brM m 0 100000) - k) (0, cs, rs, v1, v2) ⟨rfl, rfl, rfl, rfl, rfl, rfl, rfl, rfl, trivial⟩ ⟨E, Nat.le_refl _, h1, Nat.zero_le _, rfl, (by omega), (by omega), Own.fin ho1 (by omega) (by omega) rfl, Own.fin ho2 (by omega) (by omega) rfl, ⟨⟨(Own.sep ho1 ho2 (by omega)), trivial⟩, ⟨trivial, trivial⟩⟩⟩ ?_
 clear E h1 ho1 ho2
 rintro ⟨k, cs1, rs1, vc, vl⟩ w4 ⟨E, z4, h1, hk, hI, hcl, hrl, hvc, hvl, sq⟩
 refine S_sub [(1, vc), (2, vl), (3, .int .i64 m), (4, .pointer (some ⟨b1, 0, none⟩)), (8, .slice none 0 0), (9, .slice none 0 0), (10, .int .i64 0), (11, .int .i64 ((k : Nat) : Int))] ⟨rfl, rfl, rfl, rfl, rfl, rfl, rfl, rfl, trivial⟩ ?_
 refine S_seq ?_
 refine S_seq ?_
 refine S_reg [true, true, false, true, true, true, true, true, true] rfl rfl ?_
 refine J_st (R_move rfl) rfl (J_st (R_move rfl) rfl ?_)
 refine J_call Try.call58 rfl (c_Brought m 0 100000 _ ) rfl (fun _ w5 e4 hv => ?_)
 subst hv
 replace E := E.trans e4; replace h1 := h1.ext e4; replace hvc := hvc.ext e4; replace hvl := hvl.ext e4
 have z5 := e4.size
 refine J_st (R_lss rfl rfl) rfl (J_st (R_move rfl) rfl ?_)
 refine J_cut 4 [(1, vc), (2, vl), (3, .int .i64 m), (4, .pointer (some ⟨b1, 0, none⟩)), (8, .slice none 0 0), (9, .slice none 0 0), (10, .int .i64 0), (11, .int .i64 ((k : Nat) : Int)), (27, .bool ((decide (((k : Nat) : Int) < (brM m 0 100000))) && (decide (0 < ((rs1.length : Nat) : Int)))))] (fun w' => w5 = w') ?_ ?_
 ·refine J_if (gd := 23) rfl rfl (fun hg1 => ?_) (fun hg1 => ?_)
  ·refine J_gd rfl rfl (R_move rfl) rfl (J_gd rfl rfl (R_len Try.underlying34 rfl (Own.len (by decide) hvl)) rfl (J_gd rfl rfl (R_gtr rfl rfl) rfl (J_st (R_pickT rfl rfl) rfl (J_cutEnd ⟨rfl, rfl, rfl, rfl, rfl, rfl, rfl, rfl, congrArg (fun b => some (Value.bool b)) (show (decide (0 < ((rs1.length : Nat) : Int))) = ((decide (((k : Nat) : Int) < (brM m 0 100000))) && (decide (0 < ((rs1.length : Nat) : Int)))) by first | (rw [hg1] <;> rfl) | (simp [hg1]; done) | (simp only [nat_nlt] <;> simp)), trivial⟩ rfl))))
  ·refine J_gdno rfl rfl rfl rfl (J_gdno rfl rfl rfl rfl (J_gdno rfl rfl rfl rfl (J_st (R_pickF rfl rfl) rfl (J_cutEnd ⟨rfl, rfl, rfl, rfl, rfl, rfl, rfl, rfl, congrArg (fun b => some (Value.bool b)) (show false = ((decide (((k : Nat) : Int) < (brM m 0 100000))) && (decide (0 < ((rs1.length : Nat) : Int)))) by first | (rw [hg1] <;> rfl) | (simp [hg1]; done) | (simp only [nat_nlt] <;> simp)), trivial⟩ rfl))))
 rintro _ rfl
 refine J_done ?_
 refine S_cond rfl (fun hc1 => ?_) (fun hc1 => ?_)
 ·have hlt : 0 < rs1.length := by have h := (and_tt hc1).2; omega
  have hkb := (and_tt hc1).1
  refine S_skip ?_
  refine S_block ?_
  refine S_seq ?_
  refine S_regD mixed [(0, true), (1, true), (2, true), (3, true), (4, true), (5, false), (6, true), (7, true), (8, true), (9, true), (10, true), (11, true), (12, true)] (by decide +kernel) rfl (fun w7 e5 => ?_)
  replace E := E.trans e5; replace h1 := h1.ext e5; replace hvc := hvc.ext e5; replace hvl := hvl.ext e5
  have z6 := e5.size
  refine J_st (R_loadS st26 rfl h1.at rfl) rfl (J_st (R_move rfl) rfl (J_st (R_move rfl) rfl ?_))
  have hi1 : 0 < rs1.length := (by first | assumption | omega | (simp only [List.length_set]; first | assumption | omega) | (simp only [List.getElem_set_self, List.length_set]; first | assumption | omega) | (simp only [setW, setLk, List.length_set]; first | assumption | omega) | (simp; done))
  refine J_st (R_index (i := 0) sl34 rfl rfl (Own.rd (by decide) hvl) hi1) rfl (J_st (R_loadS st31 rfl ((Own.rd (by decide) hvl).get hi1) rfl) rfl ?_)
  refine J_call Try.call7 rfl (c_StepOp [o1, .int .i64 g.workers, .int .i64 g.cap] g vc cs1 (rs1[0]'hi1) _ (Graph.mkR g (RdD.any (hd1.ext E))) (Own.rd (by decide) hvc) (by first | omega | (simp only [mkL_length]; omega) | (rw [mkL_length]; done) | (simp only [mkL_length]; done))) rfl (fun _ w8 e6 ho3 => ?_)
  obtain ⟨v3, v4, rfl, ho4, ho5, sp1⟩ := ho3
  have g_ho3 : w.heap.size ≤ w7.heap.size := E.size
  replace E := E.trans e6; replace h1 := h1.ext e6; replace hvc := hvc.ext e6; replace hvl := hvl.ext e6
  have z7 := e6.size
  refine J_st (R_move rfl) rfl (J_st (R_extract rfl rfl) rfl (J_st (R_extract rfl rfl) rfl (J_st (R_extract rfl rfl) rfl (J_st (R_assign rfl) rfl (J_st (R_assign rfl) rfl (J_st (R_assign rfl) rfl (J_done ?_)))))))
  refine S_seq ?_
  refine S_reg [true, true] rfl rfl ?_
  refine J_st (R_move rfl) rfl (J_st (R_assign rfl) rfl (J_done ?_))
  refine S_seq ?_
  refine S_reg [true, true, true, false, true] rfl rfl ?_
  refine J_st (R_move rfl) rfl ?_
  have hk1 : 1 ≤ rs1.length := by first | assumption | omega
  have hs1 := Own.slFromE (α := Record) hvl hk1
  replace hs1 : Own w8 w1.heap.size w4.heap.size 5 (slFrom vl 1 5) (List.flatMap (Enc.enc (α := Record)) (List.drop 1 rs1)) := hs1
  have hb1 : Become w8 vl (slFrom vl 1 5) := fun g hg => .inl (by rwa [slFrom_blk] at hg)
  replace sq := SepL.set hb1 1 rfl sq ⟨(Own.lt hvc), (Own.lt hvl), trivial⟩
  replace sq : SepL [vc, slFrom vl 1 5] := sq
  refine J_st (R_sliceFrom sl34 rfl rfl (Own.roomE (α := Record) hvl) hk1) rfl (J_st (R_move rfl) rfl ?_)
  refine J_appendB sl34 rfl rfl hs1 (Own.src ho5) (flat_one _) (by first | (simp only [List.length_append, sum_flat, List.length_nil, List.length_cons, List.length_drop]; simp only [Enc.sz]; omega) | (have h := @step_len2 g cs1 (rs1[0]'hlt); simp only [List.length_append, sum_flat, List.length_nil, List.length_cons, List.length_drop]; simp only [Enc.sz]; omega)) (by decide) (by omega) (by omega) rfl rfl (fun v5 w9 m1 ho6 hb2 => ?_)
  have hn1 : ∀ g, Value.ownBlock v5 = some g → g < w4.heap.size ∨ w8.heap.size ≤ g := fun g hg => (hb2 g hg).elim (fun h => .inl (by have := Own.blk hs1 g h; omega)) (fun h => .inr h)
  have sq1 := sq
  replace sq := SepL.set hb2 1 rfl sq ⟨(Own.lt hvc), (Own.lt hs1), trivial⟩
  replace sq : SepL [vc, v5] := sq
  replace E := E.step m1 (fun g hg => by have := Own.blk hs1 g hg; omega); replace h1 := h1.mod m1 (fun g hg => by have := Own.blk hs1 g hg; omega); replace hvc := Own.modS hvc m1 (sq1.1.1).symm; replace ho4 := ho4.mod m1 (fun g hg => by have := Own.blk hs1 g hg; omega); replace ho5 := ho5.mod m1 (fun g hg => by have := Own.blk hs1 g hg; omega)
  have z8 := m1.size
  replace ho6 : Own w9 w1.heap.size w9.heap.size 5 v5 (List.flatMap (Enc.enc (α := Record)) ((List.drop 1 rs1) ++ ((stepM g cs1 (rs1[0]'hi1)).2.1))) := by rw [List.flatMap_append]; exact ho6
  refine J_st (R_assign rfl) rfl (J_done ?_)
  refine S_reg [true, true, true] rfl rfl ?_
  refine J_st (R_move rfl) rfl (J_st (R_add rfl rfl (add_nat (by unfold maxLen; omega))) rfl (J_st (R_assign rfl) rfl (J_done ?_)))
  refine S_nil (E_inB ?_)
  have hs1 := @step_len1 g cs1 (rs1[0]'hi1)
  have hs2 := @step_len2 g cs1 (rs1[0]'hi1)
  refine S_nil (E_again (k + 1, (stepM g cs1 (rs1[0]'hi1)).1, List.drop 1 rs1 ++ (stepM g cs1 (rs1[0]'hi1)).2.1, v3, v5) (by dsimp only; omega) ⟨rfl, rfl, rfl, rfl, rfl, rfl, rfl, rfl, trivial⟩ ⟨E, (by omega), h1, (by omega), (all_next hI (by omega) hlt (getD_at hlt)), (by omega), (by simp only [List.length_append, List.length_drop]; omega), Own.fin ho4 (by omega) (by omega) rfl, Own.fin ho6 (by omega) (by omega) (by first | rfl | (simp only [List.flatMap_append, List.nil_append]; done)), ⟨⟨(fun g hg he => by have := Own.blk ho4 g hg; have := Own.blk ho6 g he; have := hn1 g he; omega), trivial⟩, ⟨trivial, trivial⟩⟩⟩)
 ·have hend := all_end' hI (by rcases and_ff hc1 with h | h <;> omega)
  refine S_exit (E_lp_exit (E_inB_exit ?_))
  refine S_seq ?_
  refine S_reg [true, true, false, true, true, true, true] rfl rfl ?_
  refine J_st (R_move rfl) rfl (J_st (R_move rfl) rfl ?_)
  refine J_call Try.call57 rfl (c_copyRecords vl rs1 _ (Own.rd (by decide) hvl) (by first | omega | (simp only [mkL_length]; omega) | (rw [mkL_length]; done) | (simp only [mkL_length]; done))) rfl (fun v6 w10 e7 ho7 => ?_)
  have g_ho7 : w.heap.size ≤ w5.heap.size := E.size
  replace E := E.trans e7; replace h1 := h1.ext e7; replace hvc := hvc.ext e7; replace hvl := hvl.ext e7
  have z9 := e7.size
  refine J_st (R_move rfl) rfl (J_st (R_assign rfl) rfl (J_st (R_assign rfl) rfl (J_st (R_assign rfl) rfl (J_done ?_))))
  refine S_ret (E_doneN (l := [.tmp 8, .tmp 9, .tmp 10]) (vs := [vc, v6, .int .i64 ((k : Nat) : Int)]) rfl ⟨.tmp rfl, .tmp rfl, .tmp rfl, trivial⟩ rfl E ?_)
  rw [show stepAllM g cs rs m = (cs1, rs1, k) from hend]
  exact ⟨_, _, rfl, Own.fin hvc (by omega) (by omega) (by first | rfl | (simp only [List.nil_append]; done)), Own.fin ho7 (by omega) (by omega) (by first | rfl | (simp only [List.nil_append]; done)), ⟨⟨(Own.sep hvc ho7 (by omega)), trivial⟩, ⟨trivial, trivial⟩⟩⟩

set_option maxHeartbeats 4000000 in
set_option maxRecDepth 20000 in
theorem s_StepAll (cg : List Value) (g : Graph) (vcs : Value) (cs : List Cell) (vrs : Value) (rs : List Record) (m : Int) (w : World) (hg : Dat.R w 0 w.heap.size cg g) (hcs : RdS w vcs cs) (hrs : RdS w vrs rs) (hb : cs.length ≤ 1048576) (hb2 : rs.length ≤ 1048576) (hcg : cntGraph g ≤ 1048576) : Ct Try.prog 16 [.agg cg.toArray, vcs, vrs, .int .i64 m] w (fun v w' => ∃ u0 u1, v = .tuple [u0, u1, .int .i64 (((stepAllM g cs rs m).2.2 : Nat) : Int)].toArray ∧ Own w' w.heap.size w'.heap.size 4 u0 (List.flatMap (Enc.enc (α := Cell)) ((stepAllM g cs rs m).1)) ∧ Own w' w.heap.size w'.heap.size 5 u1 (List.flatMap (Enc.enc (α := Record)) ((stepAllM g cs rs m).2.1)) ∧ SepL [u0, u1]) := by
 have hbr := br_rg m
 refine ct_of Try.func16 rfl Try.ntmps16 rfl ?_
 obtain ⟨o1, rfl, hd1⟩ := Graph.op hg
 refine S_sub [(0, .agg [o1, .int .i64 g.workers, .int .i64 g.cap].toArray), (1, vcs), (2, vrs), (3, .int .i64 m)] ⟨rfl, rfl, rfl, rfl, trivial⟩ ?_
 have E : Ext w w := Ext.refl w
 refine S_seq ?_
 refine S_reg [false, true, true, true] rfl rfl ?_
 refine J_box rfl rfl (fun b1 w1 e1 s1 h1 => ?_)
 have g_b1 : w.heap.size ≤ b1 := by have := E.size; omega
 have y_b1 := h1.lt
 replace E := E.trans e1
 have z1 := e1.size
 refine J_st (R_assign rfl) rfl (J_st (R_assign rfl) rfl (J_st (R_assign rfl) rfl (J_done ?_)))
 refine S_seq ?_
 refine S_reg [false, true, false, true] rfl rfl ?_
 refine J_buildSlice (vs := []) (css := []) sl27 rfl rfl trivial rfl rfl (fun b2 w2 e2 s2 h2 => ?_)
 replace h2 : Blk w2 b2 [] := h2
 have g_b2 : w.heap.size ≤ b2 := by have := E.size; omega
 have y_b2 := h2.lt
 replace E := E.trans e2; replace h1 := h1.ext e2
 have z2 := e2.size
 refine J_st (R_move rfl) rfl ?_
 refine J_append sl27 rfl rfl (Own.ofBlk (lo := b2) (hi := b2 + 1) (sz := 4) h2 (Nat.le_refl _) (Nat.lt_succ_self _) (by simp) (by simp [maxLen])) (RdS.src (hcs.ext E)) (flat_one _) (by first | (simp only [List.length_append, sum_flat, List.length_nil, List.length_cons, List.length_drop]; simp only [Enc.sz]; omega) | (have h := @step_len2 g cs1 (rs1[0]'hlt); simp only [List.length_append, sum_flat, List.length_nil, List.length_cons, List.length_drop]; simp only [Enc.sz]; omega)) (by decide) (by omega) (by omega) rfl rfl (fun v1 w3 m1 ho1 => ?_)
 replace E := E.step m1 (fun g hg => by have := Own.blk (Own.ofBlk (lo := b2) (hi := b2 + 1) (sz := 4) h2 (Nat.le_refl _) (Nat.lt_succ_self _) (by simp) (by simp [maxLen])) g hg; omega); replace h1 := h1.mod m1 (fun g hg => by have := Own.blk (Own.ofBlk (lo := b2) (hi := b2 + 1) (sz := 4) h2 (Nat.le_refl _) (Nat.lt_succ_self _) (by simp) (by simp [maxLen])) g hg; omega)
 have z3 := m1.size
 refine J_st (R_assign rfl) rfl (J_done ?_)
 refine S_seq ?_
 refine S_reg [false, true, false, true] rfl rfl ?_
 refine J_buildSlice (vs := []) (css := []) sl34 rfl rfl trivial rfl rfl (fun b3 w4 e3 s3 h3 => ?_)
 replace h3 : Blk w4 b3 [] := h3
 have g_b3 : w.heap.size ≤ b3 := by have := E.size; omega
 have y_b3 := h3.lt
 replace E := E.trans e3; replace h1 := h1.ext e3; replace ho1 := ho1.ext e3
 have z4 := e3.size
 refine J_st (R_move rfl) rfl ?_
 refine J_append sl34 rfl rfl (Own.ofBlk (lo := b3) (hi := b3 + 1) (sz := 5) h3 (Nat.le_refl _) (Nat.lt_succ_self _) (by simp) (by simp [maxLen])) (RdS.src (hrs.ext E)) (flat_one _) (by first | (simp only [List.length_append, sum_flat, List.length_nil, List.length_cons, List.length_drop]; simp only [Enc.sz]; omega) | (have h := @step_len2 g cs1 (rs1[0]'hlt); simp only [List.length_append, sum_flat, List.length_nil, List.length_cons, List.length_drop]; simp only [Enc.sz]; omega)) (by decide) (by omega) (by omega) rfl rfl (fun v2 w5 m2 ho2 => ?_)
 replace E := E.step m2 (fun g hg => by have := Own.blk (Own.ofBlk (lo := b3) (hi := b3 + 1) (sz := 5) h3 (Nat.le_refl _) (Nat.lt_succ_self _) (by simp) (by simp [maxLen])) g hg; omega); replace h1 := h1.mod m2 (fun g hg => by have := Own.blk (Own.ofBlk (lo := b3) (hi := b3 + 1) (sz := 5) h3 (Nat.le_refl _) (Nat.lt_succ_self _) (by simp) (by simp [maxLen])) g hg; omega); replace ho1 := ho1.mod m2 (fun g hg => by have := Own.blk (Own.ofBlk (lo := b3) (hi := b3 + 1) (sz := 5) h3 (Nat.le_refl _) (Nat.lt_succ_self _) (by simp) (by simp [maxLen])) g hg; omega)
 have z5 := m2.size
 refine J_st (R_assign rfl) rfl (J_done ?_)
 refine S_seq ?_
 refine S_reg [true] rfl rfl ?_
 refine J_st (R_assign rfl) rfl (J_done ?_)
 refine S_seq ?_
 refine S_reg [true, false, true] rfl rfl ?_
 refine J_st (R_move rfl) rfl ?_
 refine J_call Try.call59 rfl (s_Brought m 0 100000 _ ) rfl (fun _ w6 e4 hv => ?_)
 subst hv
 replace E := E.trans e4; replace h1 := h1.ext e4; replace ho1 := ho1.ext e4; replace ho2 := ho2.ext e4
 have z6 := e4.size
 refine J_st (R_assign rfl) rfl (J_done ?_)
 refine S_seq ?_
 refine S_block ?_
 refine S_loop (fun (xq : Nat × List Cell × List Record × Value × Value) => let ⟨k, cs1, rs1, vc, vl⟩ := xq; [(1, vc), (2, vl), (3, .int .i64 (brM m 0 100000)), (4, .pointer (some ⟨b1, 0, none⟩)), (8, .slice none 0 0), (9, .slice none 0 0), (10, .int .i64 0), (11, .int .i64 ((k : Nat) : Int))]) (fun (xq : Nat × List Cell × List Record × Value × Value) w' => let ⟨k, cs1, rs1, vc, vl⟩ := xq; Ext w w' ∧ w6.heap.size ≤ w'.heap.size ∧ Blk w' b1 ([o1, .int .i64 g.workers, .int .i64 g.cap]) ∧ k ≤ Int.toNat (brM m 0 100000) ∧ allM g (Int.toNat (brM m 0 100000)) cs rs = ((allM g (Int.toNat (brM m 0 100000) - k) cs1 rs1).1, (allM g (Int.toNat (brM m 0 100000) - k) cs1 rs1).2.1, (allM g (Int.toNat (brM m 0 100000) - k) cs1 rs1).2.2 + k) ∧ cs1.length ≤ cs.length + k ∧ rs1.length ≤ rs.length + k ∧ Own w' b2 w'.heap.size 4 vc (List.flatMap (Enc.enc (α := Cell)) cs1) ∧ Own w' b2 w'.heap.size 5 vl (List.flatMap (Enc.enc (α := Record)) rs1) ∧ SepL [vc, vl]) (fun (xq : Nat × List Cell × List Record × Value × Value) => let ⟨k, cs1, rs1, vc, vl⟩ := xq; Int.toNat (brM m 0 100000) - k) (0, cs, rs, v1, v2) ⟨rfl, rfl, rfl, rfl, rfl, rfl, rfl, rfl, trivial⟩ ⟨E, Nat.le_refl _, h1, Nat.zero_le _, rfl, (by omega), (by omega), Own.fin ho1 (by omega) (by omega) rfl, Own.fin ho2 (by omega) (by omega) rfl, ⟨⟨(Own.sep ho1 ho2 (by omega)), trivial⟩, ⟨trivial, trivial⟩⟩⟩ ?_
 clear E h1 ho1 ho2
 rintro ⟨k, cs1, rs1, vc, vl⟩ w7 ⟨E, z7, h1, hk, hI, hcl, hrl, hvc, hvl, sq⟩
 refine S_sub [(1, vc), (2, vl), (3, .int .i64 (brM m 0 100000)), (4, .pointer (some ⟨b1, 0, none⟩)), (8, .slice none 0 0), (9, .slice none 0 0), (10, .int .i64 0), (11, .int .i64 ((k : Nat) : Int))] ⟨rfl, rfl, rfl, rfl, rfl, rfl, rfl, rfl, trivial⟩ ?_
 refine S_seq ?_
 refine S_seq ?_
 refine S_reg [true, true, true, true, true, true, true, true] rfl rfl ?_
 refine J_st (R_move rfl) rfl (J_st (R_move rfl) rfl (J_st (R_lss rfl rfl) rfl (J_st (R_move rfl) rfl ?_)))
 refine J_cut 4 [(1, vc), (2, vl), (3, .int .i64 (brM m 0 100000)), (4, .pointer (some ⟨b1, 0, none⟩)), (8, .slice none 0 0), (9, .slice none 0 0), (10, .int .i64 0), (11, .int .i64 ((k : Nat) : Int)), (30, .bool ((decide (((k : Nat) : Int) < (brM m 0 100000))) && (decide (0 < ((rs1.length : Nat) : Int)))))] (fun w' => w7 = w') ?_ ?_
 ·refine J_if (gd := 26) rfl rfl (fun hg1 => ?_) (fun hg1 => ?_)
  ·refine J_gd rfl rfl (R_move rfl) rfl (J_gd rfl rfl (R_len Try.underlying34 rfl (Own.len (by decide) hvl)) rfl (J_gd rfl rfl (R_gtr rfl rfl) rfl (J_st (R_pickT rfl rfl) rfl (J_cutEnd ⟨rfl, rfl, rfl, rfl, rfl, rfl, rfl, rfl, congrArg (fun b => some (Value.bool b)) (show (decide (0 < ((rs1.length : Nat) : Int))) = ((decide (((k : Nat) : Int) < (brM m 0 100000))) && (decide (0 < ((rs1.length : Nat) : Int)))) by first | (rw [hg1] <;> rfl) | (simp [hg1]; done) | (simp only [nat_nlt] <;> simp)), trivial⟩ rfl))))
  ·refine J_gdno rfl rfl rfl rfl (J_gdno rfl rfl rfl rfl (J_gdno rfl rfl rfl rfl (J_st (R_pickF rfl rfl) rfl (J_cutEnd ⟨rfl, rfl, rfl, rfl, rfl, rfl, rfl, rfl, congrArg (fun b => some (Value.bool b)) (show false = ((decide (((k : Nat) : Int) < (brM m 0 100000))) && (decide (0 < ((rs1.length : Nat) : Int)))) by first | (rw [hg1] <;> rfl) | (simp [hg1]; done) | (simp only [nat_nlt] <;> simp)), trivial⟩ rfl))))
 rintro _ rfl
 refine J_done ?_
 refine S_cond rfl (fun hc1 => ?_) (fun hc1 => ?_)
 ·have hlt : 0 < rs1.length := by have h := (and_tt hc1).2; omega
  have hkb := (and_tt hc1).1
  refine S_skip ?_
  refine S_block ?_
  refine S_seq ?_
  refine S_regD mixed [(0, true), (1, true), (2, true), (3, true), (4, true), (5, false), (6, true), (7, true), (8, true), (9, true), (10, true), (11, true), (12, true)] (by decide +kernel) rfl (fun w9 e5 => ?_)
  replace E := E.trans e5; replace h1 := h1.ext e5; replace hvc := hvc.ext e5; replace hvl := hvl.ext e5
  have z8 := e5.size
  refine J_st (R_loadS st26 rfl h1.at rfl) rfl (J_st (R_move rfl) rfl (J_st (R_move rfl) rfl ?_))
  have hi1 : 0 < rs1.length := (by first | assumption | omega | (simp only [List.length_set]; first | assumption | omega) | (simp only [List.getElem_set_self, List.length_set]; first | assumption | omega) | (simp only [setW, setLk, List.length_set]; first | assumption | omega) | (simp; done))
  refine J_st (R_index (i := 0) sl34 rfl rfl (Own.rd (by decide) hvl) hi1) rfl (J_st (R_loadS st31 rfl ((Own.rd (by decide) hvl).get hi1) rfl) rfl ?_)
  refine J_call Try.call8 rfl (s_StepOp [o1, .int .i64 g.workers, .int .i64 g.cap] g vc cs1 (rs1[0]'hi1) _ (Graph.mkR g (RdD.any (hd1.ext E))) (Own.rd (by decide) hvc) (by first | omega | (simp only [mkL_length]; omega) | (rw [mkL_length]; done) | (simp only [mkL_length]; done)) (by first | omega | (simp only [mkL_length]; omega) | (rw [mkL_length]; done) | (simp only [mkL_length]; done))) rfl (fun _ w10 e6 ho3 => ?_)
  obtain ⟨v3, v4, rfl, ho4, ho5, sp1⟩ := ho3
  have g_ho3 : w.heap.size ≤ w9.heap.size := E.size
  replace E := E.trans e6; replace h1 := h1.ext e6; replace hvc := hvc.ext e6; replace hvl := hvl.ext e6
  have z9 := e6.size
  refine J_st (R_move rfl) rfl (J_st (R_extract rfl rfl) rfl (J_st (R_extract rfl rfl) rfl (J_st (R_extract rfl rfl) rfl (J_st (R_assign rfl) rfl (J_st (R_assign rfl) rfl (J_st (R_assign rfl) rfl (J_done ?_)))))))
  refine S_seq ?_
  refine S_reg [true, true] rfl rfl ?_
  refine J_st (R_move rfl) rfl (J_st (R_assign rfl) rfl (J_done ?_))
  refine S_seq ?_
  refine S_reg [false, true, true, false, true, false, true] rfl rfl ?_
  refine J_buildSlice (vs := []) (css := []) sl34 rfl rfl trivial rfl rfl (fun b4 w11 e7 s4 h4 => ?_)
  replace h4 : Blk w11 b4 [] := h4
  have g_b4 : w.heap.size ≤ b4 := by have := E.size; omega
  have y_b4 := h4.lt
  replace E := E.trans e7; replace h1 := h1.ext e7; replace hvc := hvc.ext e7; replace hvl := hvl.ext e7; replace ho4 := ho4.ext e7; replace ho5 := ho5.ext e7
  have z10 := e7.size
  refine J_st (R_move rfl) rfl ?_
  have hk1 : 1 ≤ rs1.length := by first | assumption | omega
  have hs1 := Own.slFromE (α := Record) hvl hk1
  replace hs1 : Own w11 b2 w7.heap.size 5 (slFrom vl 1 5) (List.flatMap (Enc.enc (α := Record)) (List.drop 1 rs1)) := hs1
  have hb1 : Become w11 vl (slFrom vl 1 5) := fun g hg => .inl (by rwa [slFrom_blk] at hg)
  replace sq := SepL.set hb1 1 rfl sq ⟨(Own.lt hvc), (Own.lt hvl), trivial⟩
  replace sq : SepL [vc, slFrom vl 1 5] := sq
  refine J_st (R_sliceFrom sl34 rfl rfl (Own.roomE (α := Record) hvl) hk1) rfl ?_
  refine J_append sl34 rfl rfl (Own.ofBlk (lo := b4) (hi := b4 + 1) (sz := 5) h4 (Nat.le_refl _) (Nat.lt_succ_self _) (by simp) (by simp [maxLen])) (Own.src hs1) (flat_one _) (by first | (simp only [List.length_append, sum_flat, List.length_nil, List.length_cons, List.length_drop]; simp only [Enc.sz]; omega) | (have h := @step_len2 g cs1 (rs1[0]'hlt); simp only [List.length_append, sum_flat, List.length_nil, List.length_cons, List.length_drop]; simp only [Enc.sz]; omega)) (by decide) (by omega) (by omega) rfl rfl (fun v5 w12 m3 ho6 => ?_)
  replace E := E.step m3 (fun g hg => by have := Own.blk (Own.ofBlk (lo := b4) (hi := b4 + 1) (sz := 5) h4 (Nat.le_refl _) (Nat.lt_succ_self _) (by simp) (by simp [maxLen])) g hg; omega); replace h1 := h1.mod m3 (fun g hg => by have := Own.blk (Own.ofBlk (lo := b4) (hi := b4 + 1) (sz := 5) h4 (Nat.le_refl _) (Nat.lt_succ_self _) (by simp) (by simp [maxLen])) g hg; omega); replace hvc := hvc.mod m3 (fun g hg => by have := Own.blk (Own.ofBlk (lo := b4) (hi := b4 + 1) (sz := 5) h4 (Nat.le_refl _) (Nat.lt_succ_self _) (by simp) (by simp [maxLen])) g hg; omega); replace ho4 := ho4.mod m3 (fun g hg => by have := Own.blk (Own.ofBlk (lo := b4) (hi := b4 + 1) (sz := 5) h4 (Nat.le_refl _) (Nat.lt_succ_self _) (by simp) (by simp [maxLen])) g hg; omega); replace ho5 := ho5.mod m3 (fun g hg => by have := Own.blk (Own.ofBlk (lo := b4) (hi := b4 + 1) (sz := 5) h4 (Nat.le_refl _) (Nat.lt_succ_self _) (by simp) (by simp [maxLen])) g hg; omega); replace hs1 := hs1.mod m3 (fun g hg => by have := Own.blk (Own.ofBlk (lo := b4) (hi := b4 + 1) (sz := 5) h4 (Nat.le_refl _) (Nat.lt_succ_self _) (by simp) (by simp [maxLen])) g hg; omega)
  have z11 := m3.size
  refine J_st (R_move rfl) rfl ?_
  refine J_append sl34 rfl rfl ho6 (Own.src ho5) (flat_one _) (by first | (simp only [List.length_append, sum_flat, List.length_nil, List.length_cons, List.length_drop]; simp only [Enc.sz]; omega) | (have h := @step_len2 g cs1 (rs1[0]'hlt); simp only [List.length_append, sum_flat, List.length_nil, List.length_cons, List.length_drop]; simp only [Enc.sz]; omega)) (by decide) (by omega) (by omega) rfl rfl (fun v6 w13 m4 ho7 => ?_)
  replace E := E.step m4 (fun g hg => by have := Own.blk ho6 g hg; omega); replace h1 := h1.mod m4 (fun g hg => by have := Own.blk ho6 g hg; omega); replace hvc := hvc.mod m4 (fun g hg => by have := Own.blk ho6 g hg; omega); replace ho4 := ho4.mod m4 (fun g hg => by have := Own.blk ho6 g hg; omega); replace ho5 := ho5.mod m4 (fun g hg => by have := Own.blk ho6 g hg; omega); replace hs1 := hs1.mod m4 (fun g hg => by have := Own.blk ho6 g hg; omega)
  have z12 := m4.size
  refine J_st (R_assign rfl) rfl (J_done ?_)
  refine S_reg [true, true, true] rfl rfl ?_
  refine J_st (R_move rfl) rfl (J_st (R_add rfl rfl (add_nat (by unfold maxLen; omega))) rfl (J_st (R_assign rfl) rfl (J_done ?_)))
  refine S_nil (E_inB ?_)
  have hs1 := @step_len1 g cs1 (rs1[0]'hi1)
  have hs2 := @step_len2 g cs1 (rs1[0]'hi1)
  refine S_nil (E_again (k + 1, (stepM g cs1 (rs1[0]'hi1)).1, List.drop 1 rs1 ++ (stepM g cs1 (rs1[0]'hi1)).2.1, v3, v6) (by dsimp only; omega) ⟨rfl, rfl, rfl, rfl, rfl, rfl, rfl, rfl, trivial⟩ ⟨E, (by omega), h1, (by omega), (all_next hI (by omega) hlt (getD_at hlt)), (by omega), (by simp only [List.length_append, List.length_drop]; omega), Own.fin ho4 (by omega) (by omega) rfl, Own.fin ho7 (by omega) (by omega) (by first | rfl | (simp only [List.flatMap_append, List.nil_append]; done)), ⟨⟨(Own.sep ho4 ho7 (by omega)), trivial⟩, ⟨trivial, trivial⟩⟩⟩)
 ·have hend := all_end' hI (by rcases and_ff hc1 with h | h <;> omega)
  refine S_exit (E_lp_exit (E_inB_exit ?_))
  refine S_seq ?_
  refine S_reg [true, true, true, true, true, true] rfl rfl ?_
  refine J_st (R_move rfl) rfl (J_st (R_move rfl) rfl (J_st (R_move rfl) rfl (J_st (R_assign rfl) rfl (J_st (R_assign rfl) rfl (J_st (R_assign rfl) rfl (J_done ?_))))))
  refine S_ret (E_doneN (l := [.tmp 8, .tmp 9, .tmp 10]) (vs := [vc, vl, .int .i64 ((k : Nat) : Int)]) rfl ⟨.tmp rfl, .tmp rfl, .tmp rfl, trivial⟩ rfl E ?_)
  rw [show stepAllM g cs rs m = (cs1, rs1, k) from hend]
  exact ⟨_, _, rfl, Own.fin hvc (by omega) (by omega) (by first | rfl | (simp only [List.nil_append]; done)), Own.fin hvl (by omega) (by omega) (by first | rfl | (simp only [List.nil_append]; done)), ⟨⟨sq.1.1, trivial⟩, ⟨trivial, trivial⟩⟩⟩

set_option maxRecDepth 20000 in
theorem s_l01New (vcode : Value) (code : List Byt) (w : World) (hcode : RdS w vcode code) : Ct Try.prog 34 [vcode] w (fun v w' => ∃ b, v = .pointer (some ⟨b, 0, none⟩) ∧ w.heap.size ≤ b ∧ CurO w' b vcode code) := by
 have hmx := hcode.1
 unfold maxLen at hmx
 refine ct_of Try.func34 rfl Try.ntmps34 rfl ?_
 refine S_sub [(0, vcode)] ⟨rfl, trivial⟩ ?_
 have E : Ext w w := Ext.refl w
 refine S_seq ?_
 refine S_reg [true] rfl rfl ?_
 refine J_st (R_assign rfl) rfl (J_done ?_)
 refine S_seq ?_
 refine S_reg [true, true, true, true] rfl rfl ?_
 refine J_st (R_move rfl) rfl (J_st (R_len Try.underlying22 rfl (hcode.ext E).len) rfl (J_st (R_add rfl rfl rfl) rfl (J_st (R_assign rfl) rfl (J_done ?_))))
 refine S_seq ?_
 refine S_seq ?_
 refine S_reg [true] rfl rfl ?_
 refine J_st (R_assign rfl) rfl (J_done ?_)
 refine S_block ?_
 refine S_loop (fun (xq : Nat × Int) => let ⟨k, hh⟩ := xq; [(0, vcode), (2, .pointer none), (3, .int .i64 hh), (4, .int .i64 ((k : Nat) : Int))]) (fun (xq : Nat × Int) w' => let ⟨k, hh⟩ := xq; Ext w w' ∧ w.heap.size ≤ w'.heap.size ∧ k ≤ code.length) (fun (xq : Nat × Int) => let ⟨k, hh⟩ := xq; code.length - k) (0, IntKind.i64.wrap (94701 + ((code.length : Nat) : Int))) ⟨rfl, rfl, rfl, rfl, trivial⟩ ⟨E, Nat.le_refl _, Nat.zero_le _⟩ ?_
 clear E
 rintro ⟨k, hh⟩ w1 ⟨E, z1, hk⟩
 refine S_sub [(0, vcode), (2, .pointer none), (3, .int .i64 hh), (4, .int .i64 ((k : Nat) : Int))] ⟨rfl, rfl, rfl, rfl, trivial⟩ ?_
 refine S_seq ?_
 refine S_seq ?_
 refine S_reg [true, true, true, true, true, true, true, true] rfl rfl ?_
 refine J_st (R_move rfl) rfl (J_st (R_move rfl) rfl (J_st (R_len Try.underlying22 rfl (hcode.ext E).len) rfl (J_st (R_lss rfl rfl) rfl (J_st (R_move rfl) rfl ?_))))
 refine J_cut 3 [(0, vcode), (2, .pointer none), (3, .int .i64 hh), (4, .int .i64 ((k : Nat) : Int)), (15, .bool ((decide (((k : Nat) : Int) < ((code.length : Nat) : Int))) && (decide (((k : Nat) : Int) < 4000))))] (fun w' => w1 = w') ?_ ?_
 ·refine J_if (gd := 12) rfl rfl (fun hg1 => ?_) (fun hg1 => ?_)
  ·have hg1n : k < code.length := by first | (have h := of_decide_eq_true hg1; omega) | (have h := hg1; simp at h; omega)
   refine J_gd rfl rfl (R_move rfl) rfl (J_gd rfl rfl (R_lss rfl rfl) rfl (J_st (R_pickT rfl rfl) rfl (J_cutEnd ⟨rfl, rfl, rfl, rfl, congrArg (fun b => some (Value.bool b)) (show (decide (((k : Nat) : Int) < 4000)) = ((decide (((k : Nat) : Int) < ((code.length : Nat) : Int))) && (decide (((k : Nat) : Int) < 4000))) by first | (rw [hg1] <;> rfl) | (simp [hg1]; done) | (simp only [nat_nlt] <;> simp)), trivial⟩ rfl)))
  ·have hg1n : ¬ k < code.length := by first | (have h := of_decide_eq_false hg1; omega) | (have h := hg1; simp at h; omega)
   refine J_gdno rfl rfl rfl rfl (J_gdno rfl rfl rfl rfl (J_st (R_pickF rfl rfl) rfl (J_cutEnd ⟨rfl, rfl, rfl, rfl, congrArg (fun b => some (Value.bool b)) (show false = ((decide (((k : Nat) : Int) < ((code.length : Nat) : Int))) && (decide (((k : Nat) : Int) < 4000))) by first | (rw [hg1] <;> rfl) | (simp [hg1]; done) | (simp only [nat_nlt] <;> simp)), trivial⟩ rfl)))
 rintro _ rfl
 refine J_done ?_
 refine S_cond rfl (fun hc1 => ?_) (fun hc1 => ?_)
 ·have hlt : k < code.length := by have h := (Bool.and_eq_true _ _ ▸ hc1).1; have h2 := of_decide_eq_true h; omega
  refine S_skip ?_
  refine S_seq ?_
  refine S_block ?_
  refine S_reg [true, true, true, true, true, true, true, true, true, true, true] rfl rfl ?_
  refine J_st (R_move rfl) rfl (J_st (R_mul rfl rfl rfl) rfl (J_st (R_move rfl) rfl (J_st (R_move rfl) rfl ?_)))
  have hi1 : k < code.length := (by first | assumption | omega | (simp only [List.length_set]; first | assumption | omega) | (simp only [List.getElem_set_self, List.length_set]; first | assumption | omega) | (simp only [setW, setLk, List.length_set]; first | assumption | omega) | (simp; done))
  refine J_st (R_index (i := k) sl22 rfl rfl (hcode.ext E) hi1) rfl (J_st (R_load sc5 rfl (((hcode.ext E).get hi1).one 0 rfl)) rfl (J_st (R_conv Try.underlying5 Try.underlying3 rfl) rfl (J_st (R_add rfl rfl rfl) rfl (J_st (R_add rfl rfl rfl) rfl (J_st (R_and rfl rfl) rfl (J_st (R_assign rfl) rfl (J_done ?_)))))))
  refine S_nil (E_inB ?_)
  refine S_reg [true, true, true] rfl rfl ?_
  refine J_st (R_move rfl) rfl (J_st (R_add rfl rfl (add_nat (by unfold maxLen; omega))) rfl (J_st (R_assign rfl) rfl (J_done ?_)))
  refine S_nil (E_again (k + 1, andB .i64 (IntKind.i64.wrap ((IntKind.i64.wrap ((IntKind.i64.wrap (hh * 131)) + (IntKind.i64.wrap ((code[k]'hi1).v)))) + 7)) 1073741823) (by simp; omega) ⟨rfl, rfl, rfl, rfl, trivial⟩ ⟨E, (by omega), (by omega)⟩)
 ·refine S_exit (E_lp_exit (E_inB_exit ?_))
  refine S_seq ?_
  refine S_reg [true, true, true, false, true] rfl rfl ?_
  refine J_st (R_move rfl) rfl (J_st (R_move rfl) rfl ?_)
  have hbl1 : ∀ w, (Instr.build 96 ([(0, vcode), (2, .int .i64 hh)]).toArray).run Try.prog w = .ok (.agg [vcode, .int .i64 0, .int .i64 hh].toArray) w := by clear E; obtain ⟨_, _, _, rfl⟩ := SlLen.shape (RdL.len hcode); intro w; kernel_rfl
  refine J_st (R_buildC [vcode, .int .i64 0, .int .i64 hh] rfl hbl1) rfl ?_
  refine J_box rfl rfl (fun b1 w3 e1 s1 h1 => ?_)
  have g_b1 : w.heap.size ≤ b1 := by have := E.size; omega
  have y_b1 := h1.lt
  replace E := E.trans e1
  have z2 := e1.size
  refine J_st (R_assign rfl) rfl (J_done ?_)
  refine S_ret (E_done1 rfl rfl E ?_)
  exact ⟨_, rfl, (by omega), 0, _, h1, Nat.zero_le _⟩

set_option maxRecDepth 20000 in
theorem s_l01Byte (lo : Nat) (vb : Value) (bs : List Byt) (w : World) (hcu : CurO w lo vb bs) (hbs : RdD w 0 lo vb bs) : CtR Try.prog 80 [.pointer (some ⟨lo, 0, none⟩)] w lo (lo + 1) (fun v w' => ∃ (dr0 : Int), 0 ≤ dr0 ∧ dr0 ≤ 255 ∧ CurO w' lo vb bs ∧ v = .int .i64 dr0) := by
 have y_lo := CurO.lt hcu
 refine ctR_of Try.func80 rfl Try.ntmps80 rfl ?_
 obtain ⟨icu, hcn, hblk, hicu⟩ := hcu
 refine S_sub [(0, .pointer (some ⟨lo, 0, none⟩))] ⟨rfl, trivial⟩ ?_
 have E : ModR w w lo (lo + 1) := ModR.refl w lo (lo + 1)
 refine S_seq ?_
 refine S_reg [true] rfl rfl ?_
 refine J_st (R_assign rfl) rfl (J_done ?_)
 refine S_seq ?_
 refine S_reg [true, true, true, true, true, true, true, true, true, false] rfl rfl ?_
 refine J_st (R_move rfl) rfl (J_st (R_move rfl) rfl (J_st (R_nilCheck rfl) rfl (J_st (R_fieldAddr0 fl96_2 rfl) rfl (J_st (R_load sc3 rfl (hblk.one 2 rfl)) rfl (J_st (R_mul rfl rfl rfl) rfl (J_st (R_add rfl rfl rfl) rfl (J_st (R_nilCheck rfl) rfl (J_st (R_fieldAddr0 fl96_2 rfl) rfl ?_))))))))
 refine J_store' (cs' := [vb, .int .i64 ((icu : Nat) : Int), .int .i64 (IntKind.i64.wrap ((IntKind.i64.wrap (hcn * 6364136223846793005)) + 1442695040888963407))]) sc3 rfl rfl rfl hblk (Nat.le_of_ble_eq_true rfl) rfl (fun w1 m1 hblk' => ?_)
 replace hblk := hblk'
 replace E := E.mod m1 (fun g hg => by cases hg; omega); replace hbs := hbs.mod m1 (fun g hg => by cases hg; omega)
 have z1 := m1.size
 refine J_done ?_
 refine S_seq ?_
 refine S_regD mixed [(0, true), (1, true), (2, true), (3, true), (4, true), (5, true), (6, true), (7, true), (8, true), (9, true), (10, true), (11, true), (12, true)] (by decide +kernel) rfl (fun w2 e1 => ?_)
 replace E := E.ext e1; replace hblk := hblk.ext e1; replace hbs := hbs.ext e1
 have z2 := e1.size
 refine J_st (R_move rfl) rfl (J_st (R_nilCheck rfl) rfl (J_st (R_fieldAddr0 fl96_2 rfl) rfl (J_st (R_load sc3 rfl (hblk.one 2 rfl)) rfl (J_st (R_shr rfl rfl (by decide)) rfl (J_st (R_move rfl) rfl (J_st (R_nilCheck rfl) rfl (J_st (R_fieldAddr0 fl96_2 rfl) rfl (J_st (R_load sc3 rfl (hblk.one 2 rfl)) rfl (J_st (R_shr rfl rfl (by decide)) rfl (J_st (R_xor rfl rfl) rfl (J_st (R_and rfl rfl) rfl (J_st (R_assign rfl) rfl (J_done ?_)))))))))))))
 refine S_seq ?_
 refine S_seq ?_
 refine S_regD mixed [(0, true), (1, true), (2, true), (3, true), (4, true), (5, true), (6, true), (7, true), (8, true), (9, true)] (by decide +kernel) rfl (fun w3 e2 => ?_)
 replace E := E.ext e2; replace hblk := hblk.ext e2; replace hbs := hbs.ext e2
 have z3 := e2.size
 refine J_st (R_move rfl) rfl (J_st (R_nilCheck rfl) rfl (J_st (R_fieldAddr0 fl96_1 rfl) rfl (J_st (R_load sc3 rfl (hblk.one 1 rfl)) rfl (J_st (R_move rfl) rfl (J_st (R_nilCheck rfl) rfl (J_st (R_fieldAddr0 fl96_0 rfl) rfl (J_st (R_load sc22 rfl (hblk.one 0 rfl)) rfl (J_st (R_len Try.underlying22 rfl hbs.len) rfl (J_st (R_lss rfl rfl) rfl (J_done ?_))))))))))
 refine S_cond rfl (fun hc1 => ?_) (fun hc1 => ?_)
 ·have hc1n : icu < bs.length := by first | (have h := of_decide_eq_true hc1; omega) | (have h := hc1; simp at h; omega)
  refine S_seq ?_
  refine S_regD mixed [(0, true), (1, true), (2, true), (3, true), (4, true), (5, true), (6, true), (7, true), (8, true), (9, true), (10, true), (11, true), (12, true), (13, true), (14, true)] (by decide +kernel) rfl (fun w4 e3 => ?_)
  replace E := E.ext e3; replace hblk := hblk.ext e3; replace hbs := hbs.ext e3
  have z4 := e3.size
  refine J_st (R_move rfl) rfl (J_st (R_move rfl) rfl (J_st (R_nilCheck rfl) rfl (J_st (R_fieldAddr0 fl96_0 rfl) rfl (J_st (R_load sc22 rfl (hblk.one 0 rfl)) rfl (J_st (R_move rfl) rfl (J_st (R_nilCheck rfl) rfl (J_st (R_fieldAddr0 fl96_1 rfl) rfl (J_st (R_load sc3 rfl (hblk.one 1 rfl)) rfl ?_))))))))
  have hi1 : icu < bs.length := (by first | assumption | omega | (simp only [List.length_set]; first | assumption | omega) | (simp only [List.getElem_set_self, List.length_set]; first | assumption | omega) | (simp only [setW, setLk, List.length_set]; first | assumption | omega) | (simp; done))
  refine J_st (R_index (i := icu) sl22 rfl rfl (RdD.rd hbs) hi1) rfl (J_st (R_load sc5 rfl (((RdD.rd hbs).get hi1).one 0 rfl)) rfl (J_st (R_conv Try.underlying5 Try.underlying3 rfl) rfl (J_st (R_add rfl rfl rfl) rfl (J_st (R_and rfl rfl) rfl (J_st (R_assign rfl) rfl (J_done ?_))))))
  refine S_reg [true, true, true, true, true, true, true, true, false] rfl rfl ?_
  refine J_st (R_move rfl) rfl (J_st (R_move rfl) rfl (J_st (R_nilCheck rfl) rfl (J_st (R_fieldAddr0 fl96_1 rfl) rfl (J_st (R_load sc3 rfl (hblk.one 1 rfl)) rfl (J_st (R_add rfl rfl (add_one hc1n hbs.1.1)) rfl (J_st (R_nilCheck rfl) rfl (J_st (R_fieldAddr0 fl96_1 rfl) rfl ?_)))))))
  refine J_store' (cs' := [vb, .int .i64 ((icu + 1 : Nat) : Int), .int .i64 (IntKind.i64.wrap ((IntKind.i64.wrap (hcn * 6364136223846793005)) + 1442695040888963407))]) sc3 rfl rfl rfl hblk (Nat.le_of_ble_eq_true rfl) rfl (fun w5 m2 hblk' => ?_)
  replace hblk := hblk'
  replace E := E.mod m2 (fun g hg => by cases hg; omega); replace hbs := hbs.mod m2 (fun g hg => by cases hg; omega)
  have z5 := m2.size
  refine J_done ?_
  refine S_seq ?_
  refine S_reg [true, true] rfl rfl ?_
  refine J_st (R_move rfl) rfl (J_st (R_assign rfl) rfl (J_done ?_))
  refine S_ret (E_done1 rfl rfl E ?_)
  exact ⟨(andB .i64 (IntKind.i64.wrap ((andB .i64 (xorB .i64 (shrB .i64 (IntKind.i64.wrap ((IntKind.i64.wrap (hcn * 6364136223846793005)) + 1442695040888963407)) 33) (shrB .i64 (IntKind.i64.wrap ((IntKind.i64.wrap (hcn * 6364136223846793005)) + 1442695040888963407)) 45)) 255) + (IntKind.i64.wrap ((bs[icu]'hi1).v)))) 255), (andB_255 _).1, (andB_255 _).2, ⟨icu + 1, _, hblk, (by omega)⟩, rfl⟩
 ·have hc1n : ¬ icu < bs.length := by first | (have h := of_decide_eq_false hc1; omega) | (have h := hc1; simp at h; omega)
  refine S_skip ?_
  refine S_seq ?_
  refine S_reg [true, true] rfl rfl ?_
  refine J_st (R_move rfl) rfl (J_st (R_assign rfl) rfl (J_done ?_))
  refine S_ret (E_done1 rfl rfl E ?_)
  exact ⟨(andB .i64 (xorB .i64 (shrB .i64 (IntKind.i64.wrap ((IntKind.i64.wrap (hcn * 6364136223846793005)) + 1442695040888963407)) 33) (shrB .i64 (IntKind.i64.wrap ((IntKind.i64.wrap (hcn * 6364136223846793005)) + 1442695040888963407)) 45)) 255), (andB_255 _).1, (andB_255 _).2, ⟨icu, _, hblk, (by omega)⟩, rfl⟩

set_option maxRecDepth 20000 in
theorem s_l01Below (lo : Nat) (vb : Value) (bs : List Byt) (n : Int) (w : World) (hcu : CurO w lo vb bs) (hbs : RdD w 0 lo vb bs) : CtR Try.prog 55 [.pointer (some ⟨lo, 0, none⟩), .int .i64 n] w lo (lo + 1) (fun v w' => ∃ (dr0 : Nat), (0 < n → ((dr0 : Nat) : Int) < n) ∧ (n ≤ 0 → dr0 = 0) ∧ CurO w' lo vb bs ∧ v = .int .i64 ((dr0 : Nat) : Int)) := by
 have y_lo := CurO.lt hcu
 refine ctR_of Try.func55 rfl Try.ntmps55 rfl ?_
 refine S_sub [(0, .pointer (some ⟨lo, 0, none⟩)), (1, .int .i64 n)] ⟨rfl, rfl, trivial⟩ ?_
 have E : ModR w w lo (lo + 1) := ModR.refl w lo (lo + 1)
 refine S_seq ?_
 refine S_reg [true] rfl rfl ?_
 refine J_st (R_assign rfl) rfl (J_done ?_)
 refine S_seq ?_
 refine S_seq ?_
 refine S_reg [true, true] rfl rfl ?_
 refine J_st (R_move rfl) rfl (J_st (R_leq rfl rfl) rfl (J_done ?_))
 refine S_cond rfl (fun hc1 => ?_) (fun hc1 => ?_)
 ·have hnp : n ≤ 0 := by exact of_decide_eq_true hc1
  refine S_seq ?_
  refine S_reg [true] rfl rfl ?_
  refine J_st (R_assign rfl) rfl (J_done ?_)
  refine S_ret (E_done1 rfl rfl E ?_)
  exact ⟨0, (fun h => by omega), (fun _ => rfl), hcu, rfl⟩
 ·have hnp : ¬ n ≤ 0 := by exact of_decide_eq_false hc1
  refine S_skip ?_
  refine S_seq ?_
  refine S_seq ?_
  refine S_reg [true, true] rfl rfl ?_
  refine J_st (R_move rfl) rfl (J_st (R_leq rfl rfl) rfl (J_done ?_))
  refine S_cond rfl (fun hc2 => ?_) (fun hc2 => ?_)
  ·refine S_seq ?_
   refine S_reg [true, false, true, true, true] rfl rfl ?_
   refine J_st (R_move rfl) rfl ?_
   refine J_callR Try.call80 rfl rfl (s_l01Byte lo vb bs _ hcu (RdD.modR hbs E (.inl (Nat.le_refl _)))) rfl (fun _ w1 e1 hv => ?_)
   obtain ⟨dx1, q1, q2, hcu', hv⟩ := hv
   replace hcu := hcu'
   subst hv
   replace E := E.trans e1 (by omega) (by omega)
   have z1 := e1.size
   refine J_st (R_move rfl) rfl (J_st (R_rem rfl rfl (by omega) rfl) rfl (J_st (R_assign rfl) rfl (J_done ?_)))
   refine S_ret (E_done1 rfl rfl E ?_)
   have htm := tmod_nat (n := n) q1 hnp
   exact ⟨_, (fun _ => by rw [htm.1]; exact htm.2), (fun h => absurd h hnp), hcu, congrArg (Value.int .i64) htm.1.symm⟩
  ·refine S_skip ?_
   refine S_seq ?_
   refine S_reg [true, false, true] rfl rfl ?_
   refine J_st (R_move rfl) rfl ?_
   refine J_callR Try.call80 rfl rfl (s_l01Byte lo vb bs _ hcu (RdD.modR hbs E (.inl (Nat.le_refl _)))) rfl (fun _ w2 e2 hv => ?_)
   obtain ⟨dx2, q3, q4, hcu', hv⟩ := hv
   replace hcu := hcu'
   subst hv
   replace E := E.trans e2 (by omega) (by omega)
   have z2 := e2.size
   refine J_st (R_assign rfl) rfl (J_done ?_)
   refine S_seq ?_
   refine S_reg [true, false, true] rfl rfl ?_
   refine J_st (R_move rfl) rfl ?_
   refine J_callR Try.call80 rfl rfl (s_l01Byte lo vb bs _ hcu (RdD.modR hbs E (.inl (Nat.le_refl _)))) rfl (fun _ w3 e3 hv => ?_)
   obtain ⟨dx3, q5, q6, hcu', hv⟩ := hv
   replace hcu := hcu'
   subst hv
   replace E := E.trans e3 (by omega) (by omega)
   have z3 := e3.size
   refine J_st (R_assign rfl) rfl (J_done ?_)
   refine S_seq ?_
   refine S_reg [true, false, true] rfl rfl ?_
   refine J_st (R_move rfl) rfl ?_
   refine J_callR Try.call80 rfl rfl (s_l01Byte lo vb bs _ hcu (RdD.modR hbs E (.inl (Nat.le_refl _)))) rfl (fun _ w4 e4 hv => ?_)
   obtain ⟨dx4, q7, q8, hcu', hv⟩ := hv
   replace hcu := hcu'
   subst hv
   replace E := E.trans e4 (by omega) (by omega)
   have z4 := e4.size
   refine J_st (R_assign rfl) rfl (J_done ?_)
   refine S_seq ?_
   refine S_reg [true, false, true] rfl rfl ?_
   refine J_st (R_move rfl) rfl ?_
   refine J_callR Try.call80 rfl rfl (s_l01Byte lo vb bs _ hcu (RdD.modR hbs E (.inl (Nat.le_refl _)))) rfl (fun _ w5 e5 hv => ?_)
   obtain ⟨dx5, q9, q10, hcu', hv⟩ := hv
   replace hcu := hcu'
   subst hv
   replace E := E.trans e5 (by omega) (by omega)
   have z5 := e5.size
   refine J_st (R_assign rfl) rfl (J_done ?_)
   refine S_seq ?_
   refine S_reg [true, true, true, true, true, true, true, true, true, true, true, true, true] rfl rfl ?_
   refine J_st (R_move rfl) rfl (J_st (R_mul rfl rfl rfl) rfl (J_st (R_move rfl) rfl (J_st (R_mul rfl rfl rfl) rfl (J_st (R_add rfl rfl rfl) rfl (J_st (R_move rfl) rfl (J_st (R_mul rfl rfl rfl) rfl (J_st (R_add rfl rfl rfl) rfl (J_st (R_move rfl) rfl (J_st (R_add rfl rfl rfl) rfl (J_st (R_move rfl) rfl (J_st (R_rem rfl rfl (by omega) rfl) rfl (J_st (R_assign rfl) rfl (J_done ?_)))))))))))))
   refine S_ret (E_done1 rfl rfl E ?_)
   have htm := tmod_nat (n := n) (four_nn q3 q4 q5 q6 q7 q8 q9 q10) hnp
   exact ⟨_, (fun _ => by rw [htm.1]; exact htm.2), (fun h => absurd h hnp), hcu, congrArg (Value.int .i64) htm.1.symm⟩

set_option maxRecDepth 20000 in
theorem s_l01Once (lo : Nat) (vb : Value) (bs : List Byt) (n : Int) (w : World) (hcu : CurO w lo vb bs) (hbs : RdD w 0 lo vb bs) : CtR Try.prog 36 [.pointer (some ⟨lo, 0, none⟩), .int .i64 n] w lo (lo + 1) (fun v w' => ∃ (dr0 : Bool), CurO w' lo vb bs ∧ v = .bool dr0) := by
 have y_lo := CurO.lt hcu
 refine ctR_of Try.func36 rfl Try.ntmps36 rfl ?_
 refine S_sub [(0, .pointer (some ⟨lo, 0, none⟩)), (1, .int .i64 n)] ⟨rfl, rfl, trivial⟩ ?_
 have E : ModR w w lo (lo + 1) := ModR.refl w lo (lo + 1)
 refine S_seq ?_
 refine S_reg [true] rfl rfl ?_
 refine J_st (R_assign rfl) rfl (J_done ?_)
 refine S_seq ?_
 refine S_reg [true, true, false, true, true] rfl rfl ?_
 refine J_st (R_move rfl) rfl (J_st (R_move rfl) rfl ?_)
 refine J_callR Try.call55 rfl rfl (s_l01Below lo vb bs n _ hcu (RdD.modR hbs E (.inl (Nat.le_refl _)))) rfl (fun _ w1 e1 hv => ?_)
 obtain ⟨dx1, q1, q2, hcu', hv⟩ := hv
 replace hcu := hcu'
 subst hv
 replace E := E.trans e1 (by omega) (by omega)
 have z1 := e1.size
 refine J_st (R_eql rfl rfl) rfl (J_st (R_assign rfl) rfl (J_done ?_))
 refine S_ret (E_done1 rfl rfl E ?_)
 exact ⟨(((dx1 : Nat) : Int) == 0), hcu, rfl⟩

set_option maxRecDepth 20000 in
theorem s_l01PickInt (lo : Nat) (vb : Value) (bs : List Byt) (vxs : Value) (xs : List Int) (w : World) (hcu : CurO w lo vb bs) (hbs : RdD w 0 lo vb bs) (hxs : Stab w lo (fun w' => RdS w' vxs xs)) (hne : 0 < xs.length) : CtR Try.prog 56 [.pointer (some ⟨lo, 0, none⟩), vxs] w lo (lo + 1) (fun v w' => ∃ (dr0 : Int), dr0 ∈ xs ∧ CurO w' lo vb bs ∧ v = .int .i64 dr0) := by
 have y_lo := CurO.lt hcu
 refine ctR_of Try.func56 rfl Try.ntmps56 rfl ?_
 refine S_sub [(0, .pointer (some ⟨lo, 0, none⟩)), (1, vxs)] ⟨rfl, rfl, trivial⟩ ?_
 have E : ModR w w lo (lo + 1) := ModR.refl w lo (lo + 1)
 refine S_seq ?_
 refine S_reg [true] rfl rfl ?_
 refine J_st (R_assign rfl) rfl (J_done ?_)
 refine S_seq ?_
 refine S_reg [true, true, true, true, false, true, true, true] rfl rfl ?_
 refine J_st (R_move rfl) rfl (J_st (R_move rfl) rfl (J_st (R_move rfl) rfl (J_st (R_len Try.underlying40 rfl (hxs _ E).len) rfl ?_)))
 refine J_callR Try.call55 rfl rfl (s_l01Below lo vb bs ((xs.length : Nat) : Int) _ hcu (RdD.modR hbs E (.inl (Nat.le_refl _)))) rfl (fun _ w1 e1 hv => ?_)
 obtain ⟨dx1, q1, q2, hcu', hv⟩ := hv
 replace hcu := hcu'
 subst hv
 replace E := E.trans e1 (by omega) (by omega)
 have z1 := e1.size
 have hi1 : dx1 < xs.length := (by first | assumption | omega | (simp only [List.length_set]; first | assumption | omega) | (simp only [List.getElem_set_self, List.length_set]; first | assumption | omega) | (simp only [setW, setLk, List.length_set]; first | assumption | omega) | (simp; done))
 refine J_st (R_index (i := dx1) sl40 rfl rfl (hxs _ E) hi1) rfl (J_st (R_load sc3 rfl (((hxs _ E).get hi1).one 0 rfl)) rfl (J_st (R_assign rfl) rfl (J_done ?_)))
 refine S_ret (E_done1 rfl rfl E ?_)
 exact ⟨(xs[dx1]'hi1), (List.getElem_mem _), hcu, rfl⟩

set_option maxRecDepth 20000 in
theorem l_sameCells (vxs : Value) (xs : List Cell) (vys : Value) (ys : List Cell) (w : World) (hxs : RdS w vxs xs) (hys : RdS w vys ys) : Ct Try.prog 9 [vxs, vys] w (fun v _ => v = .bool (decide (xs = ys))) := by
 refine ct_of Try.func9 rfl Try.ntmps9 rfl ?_
 refine S_sub [(0, vxs), (1, vys)] ⟨rfl, rfl, trivial⟩ ?_
 have E : Ext w w := Ext.refl w
 refine S_seq ?_
 refine S_reg [true] rfl rfl ?_
 refine J_st (R_assign rfl) rfl (J_done ?_)
 refine S_seq ?_
 refine S_seq ?_
 refine S_reg [true, true, true, true, true] rfl rfl ?_
 refine J_st (R_move rfl) rfl (J_st (R_len Try.underlying27 rfl (hxs.ext E).len) rfl (J_st (R_move rfl) rfl (J_st (R_len Try.underlying27 rfl (hys.ext E).len) rfl (J_st (R_neq rfl rfl) rfl (J_done ?_)))))
 refine S_cond rfl (fun hc1 => ?_) (fun hc1 => ?_)
 ·have hc1n : ¬ xs.length = ys.length := by first | (have h := of_decide_eq_true hc1; omega) | (have h := hc1; simp at h; omega)
  refine S_seq ?_
  refine S_reg [true] rfl rfl ?_
  refine J_st (R_assign rfl) rfl (J_done ?_)
  refine S_ret (E_done1 rfl rfl E ?_)
  simp [eq_len hc1n]
 ·have hc1n : xs.length = ys.length := by first | (have h := of_decide_eq_false hc1; omega) | (have h := hc1; simp at h; omega)
  refine S_skip ?_
  refine S_seq ?_
  refine S_seq ?_
  refine S_reg [true] rfl rfl ?_
  refine J_st (R_assign rfl) rfl (J_done ?_)
  refine S_block ?_
  refine S_loop (fun (k : Nat) => [(0, vxs), (1, vys), (4, .bool false), (5, .int .i64 ((k : Nat) : Int))]) (fun (k : Nat) w' => Ext w w' ∧ w.heap.size ≤ w'.heap.size ∧ k ≤ xs.length ∧ xs.take k = ys.take k) (fun (k : Nat) => xs.length - k) 0 ⟨rfl, rfl, rfl, rfl, trivial⟩ ⟨E, Nat.le_refl _, Nat.zero_le _, rfl⟩ ?_
  clear E
  rintro k w1 ⟨E, z1, hk, hp⟩
  refine S_seq ?_
  refine S_seq ?_
  refine S_reg [true, true, true, true] rfl rfl ?_
  refine J_st (R_move rfl) rfl (J_st (R_move rfl) rfl (J_st (R_len Try.underlying27 rfl (hxs.ext E).len) rfl (J_st (R_lss rfl rfl) rfl (J_done ?_))))
  refine S_cond rfl (fun hc2 => ?_) (fun hc2 => ?_)
  ·have hc2n : k < xs.length := by first | (have h := of_decide_eq_true hc2; omega) | (have h := hc2; simp at h; omega)
   refine S_skip ?_
   refine S_seq ?_
   refine S_block ?_
   refine S_seq ?_
   refine S_regD mixed [(0, true), (1, true), (2, true), (3, true), (4, true), (5, true), (6, true), (7, true), (8, true)] (by decide +kernel) rfl (fun w2 e1 => ?_)
   replace E := E.trans e1
   have z2 := e1.size
   refine J_st (R_move rfl) rfl (J_st (R_move rfl) rfl ?_)
   have hi1 : k < xs.length := (by first | assumption | omega | (simp only [List.length_set]; first | assumption | omega) | (simp only [List.getElem_set_self, List.length_set]; first | assumption | omega) | (simp only [setW, setLk, List.length_set]; first | assumption | omega) | (simp; done))
   refine J_st (R_index (i := k) sl27 rfl rfl (hxs.ext E) hi1) rfl (J_st (R_loadS st56 rfl ((hxs.ext E).get hi1) rfl) rfl (J_st (R_move rfl) rfl (J_st (R_move rfl) rfl ?_)))
   have hi2 : k < ys.length := (by first | assumption | omega | (simp only [List.length_set]; first | assumption | omega) | (simp only [List.getElem_set_self, List.length_set]; first | assumption | omega) | (simp only [setW, setLk, List.length_set]; first | assumption | omega) | (simp; done))
   refine J_st (R_index (i := k) sl27 rfl rfl (hys.ext E) hi2) rfl (J_st (R_loadS st56 rfl ((hys.ext E).get hi2) rfl) rfl (J_st (R_neqS (ne56 (xs[k]'hi1) (ys[k]'hi2)) eqg56 rfl rfl) rfl (J_done ?_)))
   refine S_cond rfl (fun hc3 => ?_) (fun hc3 => ?_)
   ·refine S_seq ?_
    refine S_reg [true] rfl rfl ?_
    refine J_st (R_assign rfl) rfl (J_done ?_)
    refine S_ret (E_inB_ret (E_lp_ret (E_inB_ret (E_done1 rfl rfl E ?_))))
    exact eqS_no (by omega) (by omega) (by simpa using hc3)
   ·refine S_skip ?_
    refine S_nil (E_inB ?_)
    refine S_reg [true, true, true] rfl rfl ?_
    refine J_st (R_move rfl) rfl (J_st (R_add rfl rfl (add_one hc2n hxs.1)) rfl (J_st (R_assign rfl) rfl (J_done ?_)))
    refine S_nil (E_again (k + 1) (by omega) ⟨rfl, rfl, rfl, rfl, trivial⟩ ⟨E, (by omega), (by omega), eqS_step hp (by assumption) (by omega) (by simpa using hc3)⟩)
  ·have hc2n : ¬ k < xs.length := by first | (have h := of_decide_eq_false hc2; omega) | (have h := hc2; simp at h; omega)
   refine S_exit (E_lp_exit (E_inB_exit ?_))
   refine S_seq ?_
   refine S_reg [true] rfl rfl ?_
   refine J_st (R_assign rfl) rfl (J_done ?_)
   refine S_ret (E_done1 rfl rfl E ?_)
   exact eqS_yes hp hc1n (by omega)

set_option maxRecDepth 20000 in
theorem l_big (vcode : Value) (code : List Byt) (w : World) (hcode : RdS w vcode code) : Ct Try.prog 5 [vcode] w (fun v _ => v = .bool (decide (((code.length : Nat) : Int) > 1048576))) := by
 refine ct_of Try.func5 rfl Try.ntmps5 rfl ?_
 refine S_sub [(0, vcode)] ⟨rfl, trivial⟩ ?_
 have E : Ext w w := Ext.refl w
 refine S_seq ?_
 refine S_reg [true] rfl rfl ?_
 refine J_st (R_assign rfl) rfl (J_done ?_)
 refine S_seq ?_
 refine S_reg [true, true, true, true] rfl rfl ?_
 refine J_st (R_move rfl) rfl (J_st (R_len Try.underlying22 rfl (hcode.ext E).len) rfl (J_st (R_gtr rfl rfl) rfl (J_st (R_assign rfl) rfl (J_done ?_))))
 refine S_ret (E_done1 rfl rfl E ?_)
 rfl

set_option maxHeartbeats 4000000 in
set_option maxRecDepth 20000 in
theorem s_l07Node (lo : Nat) (vb : Value) (bs : List Byt) (w : World) (hcu : CurO w lo vb bs) (hbs : RdD w 0 lo vb bs) : CtR Try.prog 86 [.pointer (some ⟨lo, 0, none⟩)] w lo (lo + 1) (fun v w' => ∃ (dr0 : Node), dr0.outs.length ≤ 2 ∧ CurO w' lo vb bs ∧ ∃ cs, v = .agg cs.toArray ∧ Own1.O w' w.heap.size w'.heap.size cs dr0) := by
 have y_lo := CurO.lt hcu
 refine ctR_of Try.func86 rfl Try.ntmps86 rfl ?_
 refine S_sub [(0, .pointer (some ⟨lo, 0, none⟩))] ⟨rfl, trivial⟩ ?_
 have E : ModR w w lo (lo + 1) := ModR.refl w lo (lo + 1)
 refine S_seq ?_
 refine S_reg [false] rfl rfl ?_
 refine J_alloc st42 rfl (fun b1 w1 e1 s1 h1 => ?_)
 have g_b1 : w.heap.size ≤ b1 := by have := E.size; omega
 have y_b1 := h1.lt
 replace E := E.ext e1; replace hcu := hcu.ext e1
 have z1 := e1.size
 refine J_done ?_
 refine S_seq ?_
 refine S_reg [true, false, true, true, false, false] rfl rfl ?_
 refine J_st (R_move rfl) rfl ?_
 refine J_callR Try.call55 rfl rfl (s_l01Below lo vb bs 8 _ hcu (RdD.modR hbs E (.inl (Nat.le_refl _)))) rfl (fun _ w2 e2 hv => ?_)
 obtain ⟨dx1, q1, q2, hcu', hv⟩ := hv
 replace hcu := hcu'
 subst hv
 replace E := E.trans e2 (by omega) (by omega); replace h1 := h1.modR e2 (by omega)
 have z2 := e2.size
 refine J_st (R_add rfl rfl rfl) rfl ?_
 have hbl1 : ∀ w, (Instr.build 42 ([(0, .int .i64 (IntKind.i64.wrap (1 + ((dx1 : Nat) : Int))))]).toArray).run Try.prog w = .ok (.agg [.int .i64 (IntKind.i64.wrap (1 + ((dx1 : Nat) : Int))), .int .i64 0, .int .i64 0, .slice none 0 0].toArray) w := by clear E; intro w; kernel_rfl
 refine J_st (R_buildC [.int .i64 (IntKind.i64.wrap (1 + ((dx1 : Nat) : Int))), .int .i64 0, .int .i64 0, .slice none 0 0] rfl hbl1) rfl ?_
 refine J_alloc st42 rfl (fun b2 w3 e3 s2 h2 => ?_)
 have g_b2 : w.heap.size ≤ b2 := by have := E.size; omega
 have y_b2 := h2.lt
 replace E := E.ext e3; replace hcu := hcu.ext e3; replace h1 := h1.ext e3
 have z3 := e3.size
 refine J_storeS' (cs' := [.int .i64 (IntKind.i64.wrap (1 + ((dx1 : Nat) : Int))), .int .i64 0, .int .i64 0, .slice none 0 0]) st42 rfl rfl rfl rfl h2 (Nat.le_of_ble_eq_true rfl) rfl (fun w4 m1 h2' => ?_)
 replace h2 := h2'
 replace E := E.mod m1 (fun g hg => by cases hg; omega); replace hcu := hcu.mod m1 (fun g hg => by cases hg; omega); replace h1 := h1.mod m1 (fun g hg => by cases hg; omega)
 have z4 := m1.size
 refine J_done ?_
 refine S_seq ?_
 refine S_seq ?_
 refine S_reg [true, true] rfl rfl ?_
 refine J_st (R_fieldAddr0 fl42_0 rfl) rfl (J_st (R_load sc3 rfl (h2.one 0 rfl)) rfl (J_done ?_))
 refine S_block ?_
 refine S_seq ?_
 refine S_reg [true, true] rfl rfl ?_
 refine J_st (R_eql rfl rfl) rfl (J_st (R_assign rfl) rfl (J_done ?_))
 refine S_cond rfl (fun hc1 => ?_) (fun hc1 => ?_)
 ·refine S_reg [true, false, false, true, false] rfl rfl ?_
  refine J_st (R_move rfl) rfl ?_
  refine J_buildSlice (vs := [.int .i64 0, .int .i64 1, .int .i64 3, .int .i64 10, .int .i64 999]) (css := [[.int .i64 0], [.int .i64 1], [.int .i64 3], [.int .i64 10], [.int .i64 999]]) sl40 rfl rfl ⟨⟨rfl, rfl⟩, ⟨rfl, rfl⟩, ⟨rfl, rfl⟩, ⟨rfl, rfl⟩, ⟨rfl, rfl⟩, trivial⟩ rfl rfl (fun b3 w5 e4 s3 h3 => ?_)
  replace h3 : Blk w5 b3 [.int .i64 0, .int .i64 1, .int .i64 3, .int .i64 10, .int .i64 999] := h3
  have g_b3 : w.heap.size ≤ b3 := by have := E.size; omega
  have y_b3 := h3.lt
  replace E := E.ext e4; replace hcu := hcu.ext e4; replace h1 := h1.ext e4; replace h2 := h2.ext e4
  have z5 := e4.size
  refine J_callR Try.call56 rfl rfl (s_l01PickInt lo vb bs (.slice (some ⟨b3, 0, none⟩) 5 5) [0, 1, 3, 10, 999] _ hcu (RdD.modR hbs E (.inl (Nat.le_refl _))) (fun wX eX => (Blk.rd (α := Int) (xs := [0, 1, 3, 10, 999]) (by decide) (Blk.modR h3 eX (by omega)) rfl (by simp [maxLen]))) (by decide)) rfl (fun _ w6 e5 hv => ?_)
  obtain ⟨dx2, q3, hcu', hv⟩ := hv
  replace hcu := hcu'
  subst hv
  replace E := E.trans e5 (by omega) (by omega); replace h1 := h1.modR e5 (by omega); replace h2 := h2.modR e5 (by omega); replace h3 := h3.modR e5 (by omega)
  have z6 := e5.size
  refine J_st (R_fieldAddr0 fl42_1 rfl) rfl ?_
  refine J_store' (cs' := [.int .i64 (IntKind.i64.wrap (1 + ((dx1 : Nat) : Int))), .int .i64 dx2, .int .i64 0, .slice none 0 0]) sc3 rfl rfl rfl h2 (Nat.le_of_ble_eq_true rfl) rfl (fun w7 m2 h2' => ?_)
  replace h2 := h2'
  replace E := E.mod m2 (fun g hg => by cases hg; omega); replace hcu := hcu.mod m2 (fun g hg => by cases hg; omega); replace h1 := h1.mod m2 (fun g hg => by cases hg; omega); replace h3 := h3.mod m2 (fun g hg => by cases hg; omega)
  have z7 := m2.size
  refine J_done ?_
  refine S_nil (E_inB ?_)
  refine S_seq ?_
  refine S_seq ?_
  refine S_reg [true, true, true] rfl rfl ?_
  refine J_st (R_fieldAddr0 fl42_0 rfl) rfl (J_st (R_load sc3 rfl (h2.one 0 rfl)) rfl (J_st (R_neq rfl rfl) rfl (J_done ?_)))
  refine S_cond rfl (fun hc2 => ?_) (fun hc2 => ?_)
  ·refine S_seq ?_
   refine S_reg [true] rfl rfl ?_
   refine J_st (R_assign rfl) rfl (J_done ?_)
   refine S_block ?_
   refine S_loop (fun (xq : Nat × Value × List Int) => let ⟨k, vo, ls⟩ := xq; [(0, .pointer (some ⟨lo, 0, none⟩)), (2, .pointer (some ⟨b1, 0, none⟩)), (3, .pointer (some ⟨b2, 0, none⟩)), (4, .int .i64 ((k : Nat) : Int)), (9, .pointer (some ⟨b2, 0, none⟩)), (16, .pointer (some ⟨b2, 1, none⟩)), (34, .pointer (some ⟨b2, 0, none⟩))]) (fun (xq : Nat × Value × List Int) w' => let ⟨k, vo, ls⟩ := xq; ModR w w' lo (lo + 1) ∧ w7.heap.size ≤ w'.heap.size ∧ CurO w' lo vb bs ∧ Blk w' b1 [.int .i64 0, .int .i64 0, .int .i64 0, .slice none 0 0] ∧ Blk w' b3 [.int .i64 0, .int .i64 1, .int .i64 3, .int .i64 10, .int .i64 999] ∧ k ≤ 2 ∧ ls.length ≤ k ∧ Own w' w7.heap.size w'.heap.size 1 vo (List.flatMap (Enc.enc (α := Int)) ls) ∧ Blk w' b2 [.int .i64 (IntKind.i64.wrap (1 + ((dx1 : Nat) : Int))), .int .i64 dx2, .int .i64 0, vo]) (fun (xq : Nat × Value × List Int) => let ⟨k, vo, ls⟩ := xq; 2 - k) (0, .slice none 0 0, []) ⟨rfl, rfl, rfl, rfl, rfl, rfl, rfl, trivial⟩ ⟨E, Nat.le_refl _, hcu, h1, h3, Nat.zero_le _, Nat.le_refl _, (Own.nil _ _ _ _), h2⟩ ?_
   clear E hcu h1 h2 h3
   rintro ⟨k, vo, ls⟩ w8 ⟨E, z8, hcu, h1, h3, hk, hls, ho, h2⟩
   refine S_sub [(0, .pointer (some ⟨lo, 0, none⟩)), (2, .pointer (some ⟨b1, 0, none⟩)), (3, .pointer (some ⟨b2, 0, none⟩)), (4, .int .i64 ((k : Nat) : Int)), (9, .pointer (some ⟨b2, 0, none⟩)), (16, .pointer (some ⟨b2, 1, none⟩)), (34, .pointer (some ⟨b2, 0, none⟩))] ⟨rfl, rfl, rfl, rfl, rfl, rfl, rfl, trivial⟩ ?_
   refine S_seq ?_
   refine S_seq ?_
   refine S_reg [true, true, false, true] rfl rfl ?_
   refine J_st (R_move rfl) rfl (J_st (R_move rfl) rfl ?_)
   refine J_callR Try.call55 rfl rfl (s_l01Below lo vb bs 3 _ hcu (RdD.modR hbs E (.inl (Nat.le_refl _)))) rfl (fun _ w9 e6 hv => ?_)
   obtain ⟨dx3, q4, q5, hcu', hv⟩ := hv
   replace hcu := hcu'
   subst hv
   replace E := E.trans e6 (by omega) (by omega); replace h1 := h1.modR e6 (by omega); replace h3 := h3.modR e6 (by omega); replace ho := ho.modR e6 (by omega); replace h2 := h2.modR e6 (by omega)
   have z9 := e6.size
   refine J_st (R_lss rfl rfl) rfl (J_done ?_)
   refine S_cond rfl (fun hc3 => ?_) (fun hc3 => ?_)
   ·have hc3n : k < dx3 := by first | (have h := of_decide_eq_true hc3; omega) | (have h := hc3; simp at h; omega)
    refine S_skip ?_
    refine S_seq ?_
    refine S_block ?_
    refine S_regW mixed [0, 2, 3, 4, 5, 7, 10] [(0, true), (1, true), (2, true), (3, true), (4, true), (5, true), (6, false), (7, true), (8, false), (9, false), (10, true)] [(11, false)] (by decide +kernel) rfl rfl (fun w' => ModR w w' lo (lo + 1) ∧ w9.heap.size ≤ w'.heap.size ∧ CurO w' lo vb bs ∧ Blk w' b1 [.int .i64 0, .int .i64 0, .int .i64 0, .slice none 0 0] ∧ Blk w' b3 [.int .i64 0, .int .i64 1, .int .i64 3, .int .i64 10, .int .i64 999] ∧ Blk w' b2 [.int .i64 (IntKind.i64.wrap (1 + ((dx1 : Nat) : Int))), .int .i64 dx2, .int .i64 0, vo]) (fun w10 e7 => ?_)
    replace E := E.ext e7; replace hcu := hcu.ext e7; replace h1 := h1.ext e7; replace h3 := h3.ext e7; replace ho := ho.ext e7; replace h2 := h2.ext e7
    have z10 := e7.size
    refine ⟨⟨E, (by omega), hcu, h1, h3, h2⟩, ?_⟩
    refine JC_pu rfl (fun wX => R_fieldAddr0 fl42_3 rfl) rfl ?_
    refine JC_st rfl (fun wX hX => by obtain ⟨E, zX, hcu, h1, h3, h2⟩ := hX; exact R_load sc40 rfl (h2.one 3 rfl)) rfl ?_
    refine JC_pu rfl (fun wX => R_move rfl) rfl ?_
    refine JC_pu rfl (fun wX => R_mul rfl rfl rfl) rfl ?_
    refine JC_pu rfl (fun wX => R_add rfl rfl rfl) rfl ?_
    refine JC_pu rfl (fun wX => R_move rfl) rfl ?_
    refine JC_un rfl ?_
    refine J_callR Try.call55 rfl rfl (s_l01Below lo vb bs 2 _ hcu (RdD.modR hbs E (.inl (Nat.le_refl _)))) rfl (fun _ w11 e8 hv => ?_)
    obtain ⟨dx4, q6, q7, hcu', hv⟩ := hv
    replace hcu := hcu'
    subst hv
    replace E := E.trans e8 (by omega) (by omega); replace h1 := h1.modR e8 (by omega); replace h3 := h3.modR e8 (by omega); replace ho := ho.modR e8 (by omega); replace h2 := h2.modR e8 (by omega)
    have z11 := e8.size
    refine JC_next ⟨E, (by omega), hcu, h1, h3, h2⟩ ?_
    refine JC_pu rfl (fun wX => R_add rfl rfl rfl) rfl ?_
    refine JC_un rfl ?_
    refine J_buildSlice (vs := [.int .i64 (IntKind.i64.wrap ((IntKind.i64.wrap (1 + (IntKind.i64.wrap (((k : Nat) : Int) * 2)))) + ((dx4 : Nat) : Int)))]) (css := [[.int .i64 (IntKind.i64.wrap ((IntKind.i64.wrap (1 + (IntKind.i64.wrap (((k : Nat) : Int) * 2)))) + ((dx4 : Nat) : Int)))]]) sl40 rfl rfl ⟨⟨rfl, rfl⟩, trivial⟩ rfl rfl (fun b4 w12 e9 s4 h4 => ?_)
    replace h4 : Blk w12 b4 [.int .i64 (IntKind.i64.wrap ((IntKind.i64.wrap (1 + (IntKind.i64.wrap (((k : Nat) : Int) * 2)))) + ((dx4 : Nat) : Int)))] := h4
    have g_b4 : w.heap.size ≤ b4 := by have := E.size; omega
    have y_b4 := h4.lt
    replace E := E.ext e9; replace hcu := hcu.ext e9; replace h1 := h1.ext e9; replace h3 := h3.ext e9; replace ho := ho.ext e9; replace h2 := h2.ext e9
    have z12 := e9.size
    refine JC_next ⟨E, (by omega), hcu, h1, h3, h2⟩ ?_
    refine JC_un rfl ?_
    refine J_append sl40 rfl rfl ho (Src.ofBlk h4 rfl) rfl (by simp only [sum_flat, List.length_cons, List.length_nil]; simp only [Enc.sz]; omega) (by decide) (by omega) (by omega) rfl rfl (fun v1 w13 m3 ho1 => ?_)
    replace E := E.mod m3 (fun g hg => by have := Own.blk ho g hg; omega); replace hcu := hcu.mod m3 (fun g hg => by have := Own.blk ho g hg; omega); replace h1 := h1.mod m3 (fun g hg => by have := Own.blk ho g hg; omega); replace h3 := h3.mod m3 (fun g hg => by have := Own.blk ho g hg; omega); replace h2 := h2.mod m3 (fun g hg => by have := Own.blk ho g hg; omega)
    have z13 := m3.size
    refine JC_next ⟨E, (by omega), hcu, h1, h3, h2⟩ ?_
    refine JC_pu rfl (fun wX => R_fieldAddr0 fl42_3 rfl) rfl ?_
    refine JC_end ?_
    refine J_store' (cs' := [.int .i64 (IntKind.i64.wrap (1 + ((dx1 : Nat) : Int))), .int .i64 dx2, .int .i64 0, v1]) sc40 rfl rfl ho1.one h2 (Nat.le_of_ble_eq_true rfl) rfl (fun w14 m4 h2' => ?_)
    replace h2 := h2'
    replace E := E.mod m4 (fun g hg => by cases hg; omega); replace hcu := hcu.mod m4 (fun g hg => by cases hg; omega); replace h1 := h1.mod m4 (fun g hg => by cases hg; omega); replace h3 := h3.mod m4 (fun g hg => by cases hg; omega); replace ho1 := ho1.mod m4 (fun g hg => by cases hg; omega)
    have z14 := m4.size
    refine J_done ?_
    refine S_nil (E_inB ?_)
    refine S_reg [true, true, true] rfl rfl ?_
    refine J_st (R_move rfl) rfl (J_st (R_add rfl rfl (add_nat (by unfold maxLen; omega))) rfl (J_st (R_assign rfl) rfl (J_done ?_)))
    refine S_nil (E_again (k + 1, v1, (ls ++ [IntKind.i64.wrap ((IntKind.i64.wrap (1 + (IntKind.i64.wrap (((k : Nat) : Int) * 2)))) + ((dx4 : Nat) : Int))])) (by simp; omega) ⟨rfl, rfl, rfl, rfl, rfl, rfl, rfl, trivial⟩ ⟨E, (by omega), hcu, h1, h3, (by omega), (by simp; omega), Own.fin ho1 (by omega) (by omega) (by simp [Enc.enc]), h2⟩)
   ·have hc3n : ¬ k < dx3 := by first | (have h := of_decide_eq_false hc3; omega) | (have h := hc3; simp at h; omega)
    refine S_exit (E_lp_exit (E_inB_exit ?_))
    refine S_seq ?_
    refine S_reg [true, false] rfl rfl ?_
    refine J_st (R_loadS st42 rfl h2.at rfl) rfl ?_
    refine J_storeS' (cs' := [.int .i64 (IntKind.i64.wrap (1 + ((dx1 : Nat) : Int))), .int .i64 dx2, .int .i64 0, vo]) st42 rfl rfl rfl (all_cons rfl (all_cons rfl (all_cons rfl (all_cons ho.one rfl)))) h1 (Nat.le_of_ble_eq_true rfl) rfl (fun w15 m5 h1' => ?_)
    replace h1 := h1'
    replace E := E.mod m5 (fun g hg => by cases hg; omega); replace hcu := hcu.mod m5 (fun g hg => by cases hg; omega); replace h3 := h3.mod m5 (fun g hg => by cases hg; omega); replace ho := ho.mod m5 (fun g hg => by cases hg; omega); replace h2 := h2.mod m5 (fun g hg => by cases hg; omega)
    have z15 := m5.size
    refine J_done ?_
    refine S_ret (E_doneC rfl rfl (run_loadVar_st st42 h1.at rfl) E ?_)
    exact ⟨(⟨IntKind.i64.wrap (1 + ((dx1 : Nat) : Int)), dx2, 0, ls⟩ : Node), (by first | (simp; done) | (show ls.length ≤ 2; omega)), hcu, ⟨_, rfl, Node.mkO (⟨IntKind.i64.wrap (1 + ((dx1 : Nat) : Int)), dx2, 0, ls⟩ : Node) ⟨trivial, trivial⟩ (Own.widen ho (by omega) (by omega))⟩⟩
  ·refine S_skip ?_
   refine S_seq ?_
   refine S_reg [true, false] rfl rfl ?_
   refine J_st (R_loadS st42 rfl h2.at rfl) rfl ?_
   refine J_storeS' (cs' := [.int .i64 (IntKind.i64.wrap (1 + ((dx1 : Nat) : Int))), .int .i64 dx2, .int .i64 0, .slice none 0 0]) st42 rfl rfl rfl rfl h1 (Nat.le_of_ble_eq_true rfl) rfl (fun w16 m6 h1' => ?_)
   replace h1 := h1'
   replace E := E.mod m6 (fun g hg => by cases hg; omega); replace hcu := hcu.mod m6 (fun g hg => by cases hg; omega); replace h2 := h2.mod m6 (fun g hg => by cases hg; omega); replace h3 := h3.mod m6 (fun g hg => by cases hg; omega)
   have z16 := m6.size
   refine J_done ?_
   refine S_ret (E_doneC rfl rfl (run_loadVar_st st42 h1.at rfl) E ?_)
   exact ⟨(⟨IntKind.i64.wrap (1 + ((dx1 : Nat) : Int)), dx2, 0, []⟩ : Node), (by first | (simp; done) | (show ls.length ≤ 2; omega)), hcu, ⟨_, rfl, Node.mkO (⟨IntKind.i64.wrap (1 + ((dx1 : Nat) : Int)), dx2, 0, []⟩ : Node) ⟨trivial, trivial⟩ (Own.nil _ _ _ _)⟩⟩
 ·refine S_seq ?_
  refine S_reg [true, true] rfl rfl ?_
  refine J_st (R_eql rfl rfl) rfl (J_st (R_assign rfl) rfl (J_done ?_))
  refine S_cond rfl (fun hc4 => ?_) (fun hc4 => ?_)
  ·refine S_seq ?_
   refine S_reg [true, false, true, true, false] rfl rfl ?_
   refine J_st (R_move rfl) rfl ?_
   refine J_callR Try.call55 rfl rfl (s_l01Below lo vb bs 4 _ hcu (RdD.modR hbs E (.inl (Nat.le_refl _)))) rfl (fun _ w17 e10 hv => ?_)
   obtain ⟨dx5, q8, q9, hcu', hv⟩ := hv
   replace hcu := hcu'
   subst hv
   replace E := E.trans e10 (by omega) (by omega); replace h1 := h1.modR e10 (by omega); replace h2 := h2.modR e10 (by omega)
   have z17 := e10.size
   refine J_st (R_add rfl rfl rfl) rfl (J_st (R_fieldAddr0 fl42_1 rfl) rfl ?_)
   refine J_store' (cs' := [.int .i64 (IntKind.i64.wrap (1 + ((dx1 : Nat) : Int))), .int .i64 (IntKind.i64.wrap (1 + ((dx5 : Nat) : Int))), .int .i64 0, .slice none 0 0]) sc3 rfl rfl rfl h2 (Nat.le_of_ble_eq_true rfl) rfl (fun w18 m7 h2' => ?_)
   replace h2 := h2'
   replace E := E.mod m7 (fun g hg => by cases hg; omega); replace hcu := hcu.mod m7 (fun g hg => by cases hg; omega); replace h1 := h1.mod m7 (fun g hg => by cases hg; omega)
   have z18 := m7.size
   refine J_done ?_
   refine S_reg [true, true, true, false, true, false] rfl rfl ?_
   refine J_st (R_move rfl) rfl (J_st (R_fieldAddr0 fl42_1 rfl) rfl (J_st (R_load sc3 rfl (h2.one 1 rfl)) rfl ?_))
   refine J_callR Try.call55 rfl rfl (s_l01Below lo vb bs (IntKind.i64.wrap (1 + ((dx5 : Nat) : Int))) _ hcu (RdD.modR hbs E (.inl (Nat.le_refl _)))) rfl (fun _ w19 e11 hv => ?_)
   obtain ⟨dx6, q10, q11, hcu', hv⟩ := hv
   replace hcu := hcu'
   subst hv
   replace E := E.trans e11 (by omega) (by omega); replace h1 := h1.modR e11 (by omega); replace h2 := h2.modR e11 (by omega)
   have z19 := e11.size
   refine J_st (R_fieldAddr0 fl42_2 rfl) rfl ?_
   refine J_store' (cs' := [.int .i64 (IntKind.i64.wrap (1 + ((dx1 : Nat) : Int))), .int .i64 (IntKind.i64.wrap (1 + ((dx5 : Nat) : Int))), .int .i64 ((dx6 : Nat) : Int), .slice none 0 0]) sc3 rfl rfl rfl h2 (Nat.le_of_ble_eq_true rfl) rfl (fun w20 m8 h2' => ?_)
   replace h2 := h2'
   replace E := E.mod m8 (fun g hg => by cases hg; omega); replace hcu := hcu.mod m8 (fun g hg => by cases hg; omega); replace h1 := h1.mod m8 (fun g hg => by cases hg; omega)
   have z20 := m8.size
   refine J_done ?_
   refine S_nil (E_inB ?_)
   refine S_seq ?_
   refine S_seq ?_
   refine S_reg [true, true, true] rfl rfl ?_
   refine J_st (R_fieldAddr0 fl42_0 rfl) rfl (J_st (R_load sc3 rfl (h2.one 0 rfl)) rfl (J_st (R_neq rfl rfl) rfl (J_done ?_)))
   refine S_cond rfl (fun hc5 => ?_) (fun hc5 => ?_)
   ·refine S_seq ?_
    refine S_reg [true] rfl rfl ?_
    refine J_st (R_assign rfl) rfl (J_done ?_)
    refine S_block ?_
    refine S_loop (fun (xq : Nat × Value × List Int) => let ⟨k, vo, ls⟩ := xq; [(0, .pointer (some ⟨lo, 0, none⟩)), (2, .pointer (some ⟨b1, 0, none⟩)), (3, .pointer (some ⟨b2, 0, none⟩)), (4, .int .i64 ((k : Nat) : Int)), (9, .pointer (some ⟨b2, 0, none⟩)), (22, .pointer (some ⟨b2, 1, none⟩)), (24, .pointer (some ⟨b2, 1, none⟩)), (27, .pointer (some ⟨b2, 2, none⟩)), (34, .pointer (some ⟨b2, 0, none⟩))]) (fun (xq : Nat × Value × List Int) w' => let ⟨k, vo, ls⟩ := xq; ModR w w' lo (lo + 1) ∧ w20.heap.size ≤ w'.heap.size ∧ CurO w' lo vb bs ∧ Blk w' b1 [.int .i64 0, .int .i64 0, .int .i64 0, .slice none 0 0] ∧ k ≤ 2 ∧ ls.length ≤ k ∧ Own w' w20.heap.size w'.heap.size 1 vo (List.flatMap (Enc.enc (α := Int)) ls) ∧ Blk w' b2 [.int .i64 (IntKind.i64.wrap (1 + ((dx1 : Nat) : Int))), .int .i64 (IntKind.i64.wrap (1 + ((dx5 : Nat) : Int))), .int .i64 ((dx6 : Nat) : Int), vo]) (fun (xq : Nat × Value × List Int) => let ⟨k, vo, ls⟩ := xq; 2 - k) (0, .slice none 0 0, []) ⟨rfl, rfl, rfl, rfl, rfl, rfl, rfl, rfl, rfl, trivial⟩ ⟨E, Nat.le_refl _, hcu, h1, Nat.zero_le _, Nat.le_refl _, (Own.nil _ _ _ _), h2⟩ ?_
    clear E hcu h1 h2
    rintro ⟨k, vo, ls⟩ w21 ⟨E, z21, hcu, h1, hk, hls, ho, h2⟩
    refine S_sub [(0, .pointer (some ⟨lo, 0, none⟩)), (2, .pointer (some ⟨b1, 0, none⟩)), (3, .pointer (some ⟨b2, 0, none⟩)), (4, .int .i64 ((k : Nat) : Int)), (9, .pointer (some ⟨b2, 0, none⟩)), (22, .pointer (some ⟨b2, 1, none⟩)), (24, .pointer (some ⟨b2, 1, none⟩)), (27, .pointer (some ⟨b2, 2, none⟩)), (34, .pointer (some ⟨b2, 0, none⟩))] ⟨rfl, rfl, rfl, rfl, rfl, rfl, rfl, rfl, rfl, trivial⟩ ?_
    refine S_seq ?_
    refine S_seq ?_
    refine S_reg [true, true, false, true] rfl rfl ?_
    refine J_st (R_move rfl) rfl (J_st (R_move rfl) rfl ?_)
    refine J_callR Try.call55 rfl rfl (s_l01Below lo vb bs 3 _ hcu (RdD.modR hbs E (.inl (Nat.le_refl _)))) rfl (fun _ w22 e12 hv => ?_)
    obtain ⟨dx7, q12, q13, hcu', hv⟩ := hv
    replace hcu := hcu'
    subst hv
    replace E := E.trans e12 (by omega) (by omega); replace h1 := h1.modR e12 (by omega); replace ho := ho.modR e12 (by omega); replace h2 := h2.modR e12 (by omega)
    have z22 := e12.size
    refine J_st (R_lss rfl rfl) rfl (J_done ?_)
    refine S_cond rfl (fun hc6 => ?_) (fun hc6 => ?_)
    ·have hc6n : k < dx7 := by first | (have h := of_decide_eq_true hc6; omega) | (have h := hc6; simp at h; omega)
     refine S_skip ?_
     refine S_seq ?_
     refine S_block ?_
     refine S_regW mixed [0, 2, 3, 4, 5, 7, 10] [(0, true), (1, true), (2, true), (3, true), (4, true), (5, true), (6, false), (7, true), (8, false), (9, false), (10, true)] [(11, false)] (by decide +kernel) rfl rfl (fun w' => ModR w w' lo (lo + 1) ∧ w22.heap.size ≤ w'.heap.size ∧ CurO w' lo vb bs ∧ Blk w' b1 [.int .i64 0, .int .i64 0, .int .i64 0, .slice none 0 0] ∧ Blk w' b2 [.int .i64 (IntKind.i64.wrap (1 + ((dx1 : Nat) : Int))), .int .i64 (IntKind.i64.wrap (1 + ((dx5 : Nat) : Int))), .int .i64 ((dx6 : Nat) : Int), vo]) (fun w23 e13 => ?_)
     replace E := E.ext e13; replace hcu := hcu.ext e13; replace h1 := h1.ext e13; replace ho := ho.ext e13; replace h2 := h2.ext e13
     have z23 := e13.size
     refine ⟨⟨E, (by omega), hcu, h1, h2⟩, ?_⟩
     refine JC_pu rfl (fun wX => R_fieldAddr0 fl42_3 rfl) rfl ?_
     refine JC_st rfl (fun wX hX => by obtain ⟨E, zX, hcu, h1, h2⟩ := hX; exact R_load sc40 rfl (h2.one 3 rfl)) rfl ?_
     refine JC_pu rfl (fun wX => R_move rfl) rfl ?_
     refine JC_pu rfl (fun wX => R_mul rfl rfl rfl) rfl ?_
     refine JC_pu rfl (fun wX => R_add rfl rfl rfl) rfl ?_
     refine JC_pu rfl (fun wX => R_move rfl) rfl ?_
     refine JC_un rfl ?_
     refine J_callR Try.call55 rfl rfl (s_l01Below lo vb bs 2 _ hcu (RdD.modR hbs E (.inl (Nat.le_refl _)))) rfl (fun _ w24 e14 hv => ?_)
     obtain ⟨dx8, q14, q15, hcu', hv⟩ := hv
     replace hcu := hcu'
     subst hv
     replace E := E.trans e14 (by omega) (by omega); replace h1 := h1.modR e14 (by omega); replace ho := ho.modR e14 (by omega); replace h2 := h2.modR e14 (by omega)
     have z24 := e14.size
     refine JC_next ⟨E, (by omega), hcu, h1, h2⟩ ?_
     refine JC_pu rfl (fun wX => R_add rfl rfl rfl) rfl ?_
     refine JC_un rfl ?_
     refine J_buildSlice (vs := [.int .i64 (IntKind.i64.wrap ((IntKind.i64.wrap (1 + (IntKind.i64.wrap (((k : Nat) : Int) * 2)))) + ((dx8 : Nat) : Int)))]) (css := [[.int .i64 (IntKind.i64.wrap ((IntKind.i64.wrap (1 + (IntKind.i64.wrap (((k : Nat) : Int) * 2)))) + ((dx8 : Nat) : Int)))]]) sl40 rfl rfl ⟨⟨rfl, rfl⟩, trivial⟩ rfl rfl (fun b5 w25 e15 s5 h5 => ?_)
     replace h5 : Blk w25 b5 [.int .i64 (IntKind.i64.wrap ((IntKind.i64.wrap (1 + (IntKind.i64.wrap (((k : Nat) : Int) * 2)))) + ((dx8 : Nat) : Int)))] := h5
     have g_b5 : w.heap.size ≤ b5 := by have := E.size; omega
     have y_b5 := h5.lt
     replace E := E.ext e15; replace hcu := hcu.ext e15; replace h1 := h1.ext e15; replace ho := ho.ext e15; replace h2 := h2.ext e15
     have z25 := e15.size
     refine JC_next ⟨E, (by omega), hcu, h1, h2⟩ ?_
     refine JC_un rfl ?_
     refine J_append sl40 rfl rfl ho (Src.ofBlk h5 rfl) rfl (by simp only [sum_flat, List.length_cons, List.length_nil]; simp only [Enc.sz]; omega) (by decide) (by omega) (by omega) rfl rfl (fun v2 w26 m9 ho2 => ?_)
     replace E := E.mod m9 (fun g hg => by have := Own.blk ho g hg; omega); replace hcu := hcu.mod m9 (fun g hg => by have := Own.blk ho g hg; omega); replace h1 := h1.mod m9 (fun g hg => by have := Own.blk ho g hg; omega); replace h2 := h2.mod m9 (fun g hg => by have := Own.blk ho g hg; omega)
     have z26 := m9.size
     refine JC_next ⟨E, (by omega), hcu, h1, h2⟩ ?_
     refine JC_pu rfl (fun wX => R_fieldAddr0 fl42_3 rfl) rfl ?_
     refine JC_end ?_
     refine J_store' (cs' := [.int .i64 (IntKind.i64.wrap (1 + ((dx1 : Nat) : Int))), .int .i64 (IntKind.i64.wrap (1 + ((dx5 : Nat) : Int))), .int .i64 ((dx6 : Nat) : Int), v2]) sc40 rfl rfl ho2.one h2 (Nat.le_of_ble_eq_true rfl) rfl (fun w27 m10 h2' => ?_)
     replace h2 := h2'
     replace E := E.mod m10 (fun g hg => by cases hg; omega); replace hcu := hcu.mod m10 (fun g hg => by cases hg; omega); replace h1 := h1.mod m10 (fun g hg => by cases hg; omega); replace ho2 := ho2.mod m10 (fun g hg => by cases hg; omega)
     have z27 := m10.size
     refine J_done ?_
     refine S_nil (E_inB ?_)
     refine S_reg [true, true, true] rfl rfl ?_
     refine J_st (R_move rfl) rfl (J_st (R_add rfl rfl (add_nat (by unfold maxLen; omega))) rfl (J_st (R_assign rfl) rfl (J_done ?_)))
     refine S_nil (E_again (k + 1, v2, (ls ++ [IntKind.i64.wrap ((IntKind.i64.wrap (1 + (IntKind.i64.wrap (((k : Nat) : Int) * 2)))) + ((dx8 : Nat) : Int))])) (by simp; omega) ⟨rfl, rfl, rfl, rfl, rfl, rfl, rfl, rfl, rfl, trivial⟩ ⟨E, (by omega), hcu, h1, (by omega), (by simp; omega), Own.fin ho2 (by omega) (by omega) (by simp [Enc.enc]), h2⟩)
    ·have hc6n : ¬ k < dx7 := by first | (have h := of_decide_eq_false hc6; omega) | (have h := hc6; simp at h; omega)
     refine S_exit (E_lp_exit (E_inB_exit ?_))
     refine S_seq ?_
     refine S_reg [true, false] rfl rfl ?_
     refine J_st (R_loadS st42 rfl h2.at rfl) rfl ?_
     refine J_storeS' (cs' := [.int .i64 (IntKind.i64.wrap (1 + ((dx1 : Nat) : Int))), .int .i64 (IntKind.i64.wrap (1 + ((dx5 : Nat) : Int))), .int .i64 ((dx6 : Nat) : Int), vo]) st42 rfl rfl rfl (all_cons rfl (all_cons rfl (all_cons rfl (all_cons ho.one rfl)))) h1 (Nat.le_of_ble_eq_true rfl) rfl (fun w28 m11 h1' => ?_)
     replace h1 := h1'
     replace E := E.mod m11 (fun g hg => by cases hg; omega); replace hcu := hcu.mod m11 (fun g hg => by cases hg; omega); replace ho := ho.mod m11 (fun g hg => by cases hg; omega); replace h2 := h2.mod m11 (fun g hg => by cases hg; omega)
     have z28 := m11.size
     refine J_done ?_
     refine S_ret (E_doneC rfl rfl (run_loadVar_st st42 h1.at rfl) E ?_)
     exact ⟨(⟨IntKind.i64.wrap (1 + ((dx1 : Nat) : Int)), IntKind.i64.wrap (1 + ((dx5 : Nat) : Int)), ((dx6 : Nat) : Int), ls⟩ : Node), (by first | (simp; done) | (show ls.length ≤ 2; omega)), hcu, ⟨_, rfl, Node.mkO (⟨IntKind.i64.wrap (1 + ((dx1 : Nat) : Int)), IntKind.i64.wrap (1 + ((dx5 : Nat) : Int)), ((dx6 : Nat) : Int), ls⟩ : Node) ⟨trivial, trivial⟩ (Own.widen ho (by omega) (by omega))⟩⟩
   ·refine S_skip ?_
    refine S_seq ?_
    refine S_reg [true, false] rfl rfl ?_
    refine J_st (R_loadS st42 rfl h2.at rfl) rfl ?_
    refine J_storeS' (cs' := [.int .i64 (IntKind.i64.wrap (1 + ((dx1 : Nat) : Int))), .int .i64 (IntKind.i64.wrap (1 + ((dx5 : Nat) : Int))), .int .i64 ((dx6 : Nat) : Int), .slice none 0 0]) st42 rfl rfl rfl rfl h1 (Nat.le_of_ble_eq_true rfl) rfl (fun w29 m12 h1' => ?_)
    replace h1 := h1'
    replace E := E.mod m12 (fun g hg => by cases hg; omega); replace hcu := hcu.mod m12 (fun g hg => by cases hg; omega); replace h2 := h2.mod m12 (fun g hg => by cases hg; omega)
    have z29 := m12.size
    refine J_done ?_
    refine S_ret (E_doneC rfl rfl (run_loadVar_st st42 h1.at rfl) E ?_)
    exact ⟨(⟨IntKind.i64.wrap (1 + ((dx1 : Nat) : Int)), IntKind.i64.wrap (1 + ((dx5 : Nat) : Int)), ((dx6 : Nat) : Int), []⟩ : Node), (by first | (simp; done) | (show ls.length ≤ 2; omega)), hcu, ⟨_, rfl, Node.mkO (⟨IntKind.i64.wrap (1 + ((dx1 : Nat) : Int)), IntKind.i64.wrap (1 + ((dx5 : Nat) : Int)), ((dx6 : Nat) : Int), []⟩ : Node) ⟨trivial, trivial⟩ (Own.nil _ _ _ _)⟩⟩
  ·refine S_seq ?_
   refine S_reg [true, true] rfl rfl ?_
   refine J_st (R_eql rfl rfl) rfl (J_st (R_assign rfl) rfl (J_done ?_))
   refine S_cond rfl (fun hc7 => ?_) (fun hc7 => ?_)
   ·refine S_reg [true, false, false, true, false] rfl rfl ?_
    refine J_st (R_move rfl) rfl ?_
    refine J_buildSlice (vs := [.int .i64 0, .int .i64 1, .int .i64 2, .int .i64 3, .int .i64 50, .int .i64 99]) (css := [[.int .i64 0], [.int .i64 1], [.int .i64 2], [.int .i64 3], [.int .i64 50], [.int .i64 99]]) sl40 rfl rfl ⟨⟨rfl, rfl⟩, ⟨rfl, rfl⟩, ⟨rfl, rfl⟩, ⟨rfl, rfl⟩, ⟨rfl, rfl⟩, ⟨rfl, rfl⟩, trivial⟩ rfl rfl (fun b6 w30 e16 s6 h6 => ?_)
    replace h6 : Blk w30 b6 [.int .i64 0, .int .i64 1, .int .i64 2, .int .i64 3, .int .i64 50, .int .i64 99] := h6
    have g_b6 : w.heap.size ≤ b6 := by have := E.size; omega
    have y_b6 := h6.lt
    replace E := E.ext e16; replace hcu := hcu.ext e16; replace h1 := h1.ext e16; replace h2 := h2.ext e16
    have z30 := e16.size
    refine J_callR Try.call56 rfl rfl (s_l01PickInt lo vb bs (.slice (some ⟨b6, 0, none⟩) 6 6) [0, 1, 2, 3, 50, 99] _ hcu (RdD.modR hbs E (.inl (Nat.le_refl _))) (fun wX eX => (Blk.rd (α := Int) (xs := [0, 1, 2, 3, 50, 99]) (by decide) (Blk.modR h6 eX (by omega)) rfl (by simp [maxLen]))) (by decide)) rfl (fun _ w31 e17 hv => ?_)
    obtain ⟨dx9, q16, hcu', hv⟩ := hv
    replace hcu := hcu'
    subst hv
    replace E := E.trans e17 (by omega) (by omega); replace h1 := h1.modR e17 (by omega); replace h2 := h2.modR e17 (by omega); replace h6 := h6.modR e17 (by omega)
    have z31 := e17.size
    refine J_st (R_fieldAddr0 fl42_1 rfl) rfl ?_
    refine J_store' (cs' := [.int .i64 (IntKind.i64.wrap (1 + ((dx1 : Nat) : Int))), .int .i64 dx9, .int .i64 0, .slice none 0 0]) sc3 rfl rfl rfl h2 (Nat.le_of_ble_eq_true rfl) rfl (fun w32 m13 h2' => ?_)
    replace h2 := h2'
    replace E := E.mod m13 (fun g hg => by cases hg; omega); replace hcu := hcu.mod m13 (fun g hg => by cases hg; omega); replace h1 := h1.mod m13 (fun g hg => by cases hg; omega); replace h6 := h6.mod m13 (fun g hg => by cases hg; omega)
    have z32 := m13.size
    refine J_done ?_
    refine S_nil (E_inB ?_)
    refine S_seq ?_
    refine S_seq ?_
    refine S_reg [true, true, true] rfl rfl ?_
    refine J_st (R_fieldAddr0 fl42_0 rfl) rfl (J_st (R_load sc3 rfl (h2.one 0 rfl)) rfl (J_st (R_neq rfl rfl) rfl (J_done ?_)))
    refine S_cond rfl (fun hc8 => ?_) (fun hc8 => ?_)
    ·refine S_seq ?_
     refine S_reg [true] rfl rfl ?_
     refine J_st (R_assign rfl) rfl (J_done ?_)
     refine S_block ?_
     refine S_loop (fun (xq : Nat × Value × List Int) => let ⟨k, vo, ls⟩ := xq; [(0, .pointer (some ⟨lo, 0, none⟩)), (2, .pointer (some ⟨b1, 0, none⟩)), (3, .pointer (some ⟨b2, 0, none⟩)), (4, .int .i64 ((k : Nat) : Int)), (9, .pointer (some ⟨b2, 0, none⟩)), (33, .pointer (some ⟨b2, 1, none⟩)), (34, .pointer (some ⟨b2, 0, none⟩))]) (fun (xq : Nat × Value × List Int) w' => let ⟨k, vo, ls⟩ := xq; ModR w w' lo (lo + 1) ∧ w32.heap.size ≤ w'.heap.size ∧ CurO w' lo vb bs ∧ Blk w' b1 [.int .i64 0, .int .i64 0, .int .i64 0, .slice none 0 0] ∧ Blk w' b6 [.int .i64 0, .int .i64 1, .int .i64 2, .int .i64 3, .int .i64 50, .int .i64 99] ∧ k ≤ 2 ∧ ls.length ≤ k ∧ Own w' w32.heap.size w'.heap.size 1 vo (List.flatMap (Enc.enc (α := Int)) ls) ∧ Blk w' b2 [.int .i64 (IntKind.i64.wrap (1 + ((dx1 : Nat) : Int))), .int .i64 dx9, .int .i64 0, vo]) (fun (xq : Nat × Value × List Int) => let ⟨k, vo, ls⟩ := xq; 2 - k) (0, .slice none 0 0, []) ⟨rfl, rfl, rfl, rfl, rfl, rfl, rfl, trivial⟩ ⟨E, Nat.le_refl _, hcu, h1, h6, Nat.zero_le _, Nat.le_refl _, (Own.nil _ _ _ _), h2⟩ ?_
     clear E hcu h1 h2 h6
     rintro ⟨k, vo, ls⟩ w33 ⟨E, z33, hcu, h1, h6, hk, hls, ho, h2⟩
     refine S_sub [(0, .pointer (some ⟨lo, 0, none⟩)), (2, .pointer (some ⟨b1, 0, none⟩)), (3, .pointer (some ⟨b2, 0, none⟩)), (4, .int .i64 ((k : Nat) : Int)), (9, .pointer (some ⟨b2, 0, none⟩)), (33, .pointer (some ⟨b2, 1, none⟩)), (34, .pointer (some ⟨b2, 0, none⟩))] ⟨rfl, rfl, rfl, rfl, rfl, rfl, rfl, trivial⟩ ?_
     refine S_seq ?_
     refine S_seq ?_
     refine S_reg [true, true, false, true] rfl rfl ?_
     refine J_st (R_move rfl) rfl (J_st (R_move rfl) rfl ?_)
     refine J_callR Try.call55 rfl rfl (s_l01Below lo vb bs 3 _ hcu (RdD.modR hbs E (.inl (Nat.le_refl _)))) rfl (fun _ w34 e18 hv => ?_)
     obtain ⟨dx10, q17, q18, hcu', hv⟩ := hv
     replace hcu := hcu'
     subst hv
     replace E := E.trans e18 (by omega) (by omega); replace h1 := h1.modR e18 (by omega); replace h6 := h6.modR e18 (by omega); replace ho := ho.modR e18 (by omega); replace h2 := h2.modR e18 (by omega)
     have z34 := e18.size
     refine J_st (R_lss rfl rfl) rfl (J_done ?_)
     refine S_cond rfl (fun hc9 => ?_) (fun hc9 => ?_)
     ·have hc9n : k < dx10 := by first | (have h := of_decide_eq_true hc9; omega) | (have h := hc9; simp at h; omega)
      refine S_skip ?_
      refine S_seq ?_
      refine S_block ?_
      refine S_regW mixed [0, 2, 3, 4, 5, 7, 10] [(0, true), (1, true), (2, true), (3, true), (4, true), (5, true), (6, false), (7, true), (8, false), (9, false), (10, true)] [(11, false)] (by decide +kernel) rfl rfl (fun w' => ModR w w' lo (lo + 1) ∧ w34.heap.size ≤ w'.heap.size ∧ CurO w' lo vb bs ∧ Blk w' b1 [.int .i64 0, .int .i64 0, .int .i64 0, .slice none 0 0] ∧ Blk w' b6 [.int .i64 0, .int .i64 1, .int .i64 2, .int .i64 3, .int .i64 50, .int .i64 99] ∧ Blk w' b2 [.int .i64 (IntKind.i64.wrap (1 + ((dx1 : Nat) : Int))), .int .i64 dx9, .int .i64 0, vo]) (fun w35 e19 => ?_)
      replace E := E.ext e19; replace hcu := hcu.ext e19; replace h1 := h1.ext e19; replace h6 := h6.ext e19; replace ho := ho.ext e19; replace h2 := h2.ext e19
      have z35 := e19.size
      refine ⟨⟨E, (by omega), hcu, h1, h6, h2⟩, ?_⟩
      refine JC_pu rfl (fun wX => R_fieldAddr0 fl42_3 rfl) rfl ?_
      refine JC_st rfl (fun wX hX => by obtain ⟨E, zX, hcu, h1, h6, h2⟩ := hX; exact R_load sc40 rfl (h2.one 3 rfl)) rfl ?_
      refine JC_pu rfl (fun wX => R_move rfl) rfl ?_
      refine JC_pu rfl (fun wX => R_mul rfl rfl rfl) rfl ?_
      refine JC_pu rfl (fun wX => R_add rfl rfl rfl) rfl ?_
      refine JC_pu rfl (fun wX => R_move rfl) rfl ?_
      refine JC_un rfl ?_
      refine J_callR Try.call55 rfl rfl (s_l01Below lo vb bs 2 _ hcu (RdD.modR hbs E (.inl (Nat.le_refl _)))) rfl (fun _ w36 e20 hv => ?_)
      obtain ⟨dx11, q19, q20, hcu', hv⟩ := hv
      replace hcu := hcu'
      subst hv
      replace E := E.trans e20 (by omega) (by omega); replace h1 := h1.modR e20 (by omega); replace h6 := h6.modR e20 (by omega); replace ho := ho.modR e20 (by omega); replace h2 := h2.modR e20 (by omega)
      have z36 := e20.size
      refine JC_next ⟨E, (by omega), hcu, h1, h6, h2⟩ ?_
      refine JC_pu rfl (fun wX => R_add rfl rfl rfl) rfl ?_
      refine JC_un rfl ?_
      refine J_buildSlice (vs := [.int .i64 (IntKind.i64.wrap ((IntKind.i64.wrap (1 + (IntKind.i64.wrap (((k : Nat) : Int) * 2)))) + ((dx11 : Nat) : Int)))]) (css := [[.int .i64 (IntKind.i64.wrap ((IntKind.i64.wrap (1 + (IntKind.i64.wrap (((k : Nat) : Int) * 2)))) + ((dx11 : Nat) : Int)))]]) sl40 rfl rfl ⟨⟨rfl, rfl⟩, trivial⟩ rfl rfl (fun b7 w37 e21 s7 h7 => ?_)
      replace h7 : Blk w37 b7 [.int .i64 (IntKind.i64.wrap ((IntKind.i64.wrap (1 + (IntKind.i64.wrap (((k : Nat) : Int) * 2)))) + ((dx11 : Nat) : Int)))] := h7
      have g_b7 : w.heap.size ≤ b7 := by have := E.size; omega
      have y_b7 := h7.lt
      replace E := E.ext e21; replace hcu := hcu.ext e21; replace h1 := h1.ext e21; replace h6 := h6.ext e21; replace ho := ho.ext e21; replace h2 := h2.ext e21
      have z37 := e21.size
      refine JC_next ⟨E, (by omega), hcu, h1, h6, h2⟩ ?_
      refine JC_un rfl ?_
      refine J_append sl40 rfl rfl ho (Src.ofBlk h7 rfl) rfl (by simp only [sum_flat, List.length_cons, List.length_nil]; simp only [Enc.sz]; omega) (by decide) (by omega) (by omega) rfl rfl (fun v3 w38 m14 ho3 => ?_)
      replace E := E.mod m14 (fun g hg => by have := Own.blk ho g hg; omega); replace hcu := hcu.mod m14 (fun g hg => by have := Own.blk ho g hg; omega); replace h1 := h1.mod m14 (fun g hg => by have := Own.blk ho g hg; omega); replace h6 := h6.mod m14 (fun g hg => by have := Own.blk ho g hg; omega); replace h2 := h2.mod m14 (fun g hg => by have := Own.blk ho g hg; omega)
      have z38 := m14.size
      refine JC_next ⟨E, (by omega), hcu, h1, h6, h2⟩ ?_
      refine JC_pu rfl (fun wX => R_fieldAddr0 fl42_3 rfl) rfl ?_
      refine JC_end ?_
      refine J_store' (cs' := [.int .i64 (IntKind.i64.wrap (1 + ((dx1 : Nat) : Int))), .int .i64 dx9, .int .i64 0, v3]) sc40 rfl rfl ho3.one h2 (Nat.le_of_ble_eq_true rfl) rfl (fun w39 m15 h2' => ?_)
      replace h2 := h2'
      replace E := E.mod m15 (fun g hg => by cases hg; omega); replace hcu := hcu.mod m15 (fun g hg => by cases hg; omega); replace h1 := h1.mod m15 (fun g hg => by cases hg; omega); replace h6 := h6.mod m15 (fun g hg => by cases hg; omega); replace ho3 := ho3.mod m15 (fun g hg => by cases hg; omega)
      have z39 := m15.size
      refine J_done ?_
      refine S_nil (E_inB ?_)
      refine S_reg [true, true, true] rfl rfl ?_
      refine J_st (R_move rfl) rfl (J_st (R_add rfl rfl (add_nat (by unfold maxLen; omega))) rfl (J_st (R_assign rfl) rfl (J_done ?_)))
      refine S_nil (E_again (k + 1, v3, (ls ++ [IntKind.i64.wrap ((IntKind.i64.wrap (1 + (IntKind.i64.wrap (((k : Nat) : Int) * 2)))) + ((dx11 : Nat) : Int))])) (by simp; omega) ⟨rfl, rfl, rfl, rfl, rfl, rfl, rfl, trivial⟩ ⟨E, (by omega), hcu, h1, h6, (by omega), (by simp; omega), Own.fin ho3 (by omega) (by omega) (by simp [Enc.enc]), h2⟩)
     ·have hc9n : ¬ k < dx10 := by first | (have h := of_decide_eq_false hc9; omega) | (have h := hc9; simp at h; omega)
      refine S_exit (E_lp_exit (E_inB_exit ?_))
      refine S_seq ?_
      refine S_reg [true, false] rfl rfl ?_
      refine J_st (R_loadS st42 rfl h2.at rfl) rfl ?_
      refine J_storeS' (cs' := [.int .i64 (IntKind.i64.wrap (1 + ((dx1 : Nat) : Int))), .int .i64 dx9, .int .i64 0, vo]) st42 rfl rfl rfl (all_cons rfl (all_cons rfl (all_cons rfl (all_cons ho.one rfl)))) h1 (Nat.le_of_ble_eq_true rfl) rfl (fun w40 m16 h1' => ?_)
      replace h1 := h1'
      replace E := E.mod m16 (fun g hg => by cases hg; omega); replace hcu := hcu.mod m16 (fun g hg => by cases hg; omega); replace h6 := h6.mod m16 (fun g hg => by cases hg; omega); replace ho := ho.mod m16 (fun g hg => by cases hg; omega); replace h2 := h2.mod m16 (fun g hg => by cases hg; omega)
      have z40 := m16.size
      refine J_done ?_
      refine S_ret (E_doneC rfl rfl (run_loadVar_st st42 h1.at rfl) E ?_)
      exact ⟨(⟨IntKind.i64.wrap (1 + ((dx1 : Nat) : Int)), dx9, 0, ls⟩ : Node), (by first | (simp; done) | (show ls.length ≤ 2; omega)), hcu, ⟨_, rfl, Node.mkO (⟨IntKind.i64.wrap (1 + ((dx1 : Nat) : Int)), dx9, 0, ls⟩ : Node) ⟨trivial, trivial⟩ (Own.widen ho (by omega) (by omega))⟩⟩
    ·refine S_skip ?_
     refine S_seq ?_
     refine S_reg [true, false] rfl rfl ?_
     refine J_st (R_loadS st42 rfl h2.at rfl) rfl ?_
     refine J_storeS' (cs' := [.int .i64 (IntKind.i64.wrap (1 + ((dx1 : Nat) : Int))), .int .i64 dx9, .int .i64 0, .slice none 0 0]) st42 rfl rfl rfl rfl h1 (Nat.le_of_ble_eq_true rfl) rfl (fun w41 m17 h1' => ?_)
     replace h1 := h1'
     replace E := E.mod m17 (fun g hg => by cases hg; omega); replace hcu := hcu.mod m17 (fun g hg => by cases hg; omega); replace h2 := h2.mod m17 (fun g hg => by cases hg; omega); replace h6 := h6.mod m17 (fun g hg => by cases hg; omega)
     have z41 := m17.size
     refine J_done ?_
     refine S_ret (E_doneC rfl rfl (run_loadVar_st st42 h1.at rfl) E ?_)
     exact ⟨(⟨IntKind.i64.wrap (1 + ((dx1 : Nat) : Int)), dx9, 0, []⟩ : Node), (by first | (simp; done) | (show ls.length ≤ 2; omega)), hcu, ⟨_, rfl, Node.mkO (⟨IntKind.i64.wrap (1 + ((dx1 : Nat) : Int)), dx9, 0, []⟩ : Node) ⟨trivial, trivial⟩ (Own.nil _ _ _ _)⟩⟩
   ·refine S_skip ?_
    refine S_nil (E_inB ?_)
    refine S_seq ?_
    refine S_seq ?_
    refine S_reg [true, true, true] rfl rfl ?_
    refine J_st (R_fieldAddr0 fl42_0 rfl) rfl (J_st (R_load sc3 rfl (h2.one 0 rfl)) rfl (J_st (R_neq rfl rfl) rfl (J_done ?_)))
    refine S_cond rfl (fun hc10 => ?_) (fun hc10 => ?_)
    ·refine S_seq ?_
     refine S_reg [true] rfl rfl ?_
     refine J_st (R_assign rfl) rfl (J_done ?_)
     refine S_block ?_
     refine S_loop (fun (xq : Nat × Value × List Int) => let ⟨k, vo, ls⟩ := xq; [(0, .pointer (some ⟨lo, 0, none⟩)), (2, .pointer (some ⟨b1, 0, none⟩)), (3, .pointer (some ⟨b2, 0, none⟩)), (4, .int .i64 ((k : Nat) : Int)), (9, .pointer (some ⟨b2, 0, none⟩)), (34, .pointer (some ⟨b2, 0, none⟩))]) (fun (xq : Nat × Value × List Int) w' => let ⟨k, vo, ls⟩ := xq; ModR w w' lo (lo + 1) ∧ w4.heap.size ≤ w'.heap.size ∧ CurO w' lo vb bs ∧ Blk w' b1 [.int .i64 0, .int .i64 0, .int .i64 0, .slice none 0 0] ∧ k ≤ 2 ∧ ls.length ≤ k ∧ Own w' w4.heap.size w'.heap.size 1 vo (List.flatMap (Enc.enc (α := Int)) ls) ∧ Blk w' b2 [.int .i64 (IntKind.i64.wrap (1 + ((dx1 : Nat) : Int))), .int .i64 0, .int .i64 0, vo]) (fun (xq : Nat × Value × List Int) => let ⟨k, vo, ls⟩ := xq; 2 - k) (0, .slice none 0 0, []) ⟨rfl, rfl, rfl, rfl, rfl, rfl, trivial⟩ ⟨E, Nat.le_refl _, hcu, h1, Nat.zero_le _, Nat.le_refl _, (Own.nil _ _ _ _), h2⟩ ?_
     clear E hcu h1 h2
     rintro ⟨k, vo, ls⟩ w42 ⟨E, z42, hcu, h1, hk, hls, ho, h2⟩
     refine S_sub [(0, .pointer (some ⟨lo, 0, none⟩)), (2, .pointer (some ⟨b1, 0, none⟩)), (3, .pointer (some ⟨b2, 0, none⟩)), (4, .int .i64 ((k : Nat) : Int)), (9, .pointer (some ⟨b2, 0, none⟩)), (34, .pointer (some ⟨b2, 0, none⟩))] ⟨rfl, rfl, rfl, rfl, rfl, rfl, trivial⟩ ?_
     refine S_seq ?_
     refine S_seq ?_
     refine S_reg [true, true, false, true] rfl rfl ?_
     refine J_st (R_move rfl) rfl (J_st (R_move rfl) rfl ?_)
     refine J_callR Try.call55 rfl rfl (s_l01Below lo vb bs 3 _ hcu (RdD.modR hbs E (.inl (Nat.le_refl _)))) rfl (fun _ w43 e22 hv => ?_)
     obtain ⟨dx12, q21, q22, hcu', hv⟩ := hv
     replace hcu := hcu'
     subst hv
     replace E := E.trans e22 (by omega) (by omega); replace h1 := h1.modR e22 (by omega); replace ho := ho.modR e22 (by omega); replace h2 := h2.modR e22 (by omega)
     have z43 := e22.size
     refine J_st (R_lss rfl rfl) rfl (J_done ?_)
     refine S_cond rfl (fun hc11 => ?_) (fun hc11 => ?_)
     ·have hc11n : k < dx12 := by first | (have h := of_decide_eq_true hc11; omega) | (have h := hc11; simp at h; omega)
      refine S_skip ?_
      refine S_seq ?_
      refine S_block ?_
      refine S_regW mixed [0, 2, 3, 4, 5, 7, 10] [(0, true), (1, true), (2, true), (3, true), (4, true), (5, true), (6, false), (7, true), (8, false), (9, false), (10, true)] [(11, false)] (by decide +kernel) rfl rfl (fun w' => ModR w w' lo (lo + 1) ∧ w43.heap.size ≤ w'.heap.size ∧ CurO w' lo vb bs ∧ Blk w' b1 [.int .i64 0, .int .i64 0, .int .i64 0, .slice none 0 0] ∧ Blk w' b2 [.int .i64 (IntKind.i64.wrap (1 + ((dx1 : Nat) : Int))), .int .i64 0, .int .i64 0, vo]) (fun w44 e23 => ?_)
      replace E := E.ext e23; replace hcu := hcu.ext e23; replace h1 := h1.ext e23; replace ho := ho.ext e23; replace h2 := h2.ext e23
      have z44 := e23.size
      refine ⟨⟨E, (by omega), hcu, h1, h2⟩, ?_⟩
      refine JC_pu rfl (fun wX => R_fieldAddr0 fl42_3 rfl) rfl ?_
      refine JC_st rfl (fun wX hX => by obtain ⟨E, zX, hcu, h1, h2⟩ := hX; exact R_load sc40 rfl (h2.one 3 rfl)) rfl ?_
      refine JC_pu rfl (fun wX => R_move rfl) rfl ?_
      refine JC_pu rfl (fun wX => R_mul rfl rfl rfl) rfl ?_
      refine JC_pu rfl (fun wX => R_add rfl rfl rfl) rfl ?_
      refine JC_pu rfl (fun wX => R_move rfl) rfl ?_
      refine JC_un rfl ?_
      refine J_callR Try.call55 rfl rfl (s_l01Below lo vb bs 2 _ hcu (RdD.modR hbs E (.inl (Nat.le_refl _)))) rfl (fun _ w45 e24 hv => ?_)
      obtain ⟨dx13, q23, q24, hcu', hv⟩ := hv
      replace hcu := hcu'
      subst hv
      replace E := E.trans e24 (by omega) (by omega); replace h1 := h1.modR e24 (by omega); replace ho := ho.modR e24 (by omega); replace h2 := h2.modR e24 (by omega)
      have z45 := e24.size
      refine JC_next ⟨E, (by omega), hcu, h1, h2⟩ ?_
      refine JC_pu rfl (fun wX => R_add rfl rfl rfl) rfl ?_
      refine JC_un rfl ?_
      refine J_buildSlice (vs := [.int .i64 (IntKind.i64.wrap ((IntKind.i64.wrap (1 + (IntKind.i64.wrap (((k : Nat) : Int) * 2)))) + ((dx13 : Nat) : Int)))]) (css := [[.int .i64 (IntKind.i64.wrap ((IntKind.i64.wrap (1 + (IntKind.i64.wrap (((k : Nat) : Int) * 2)))) + ((dx13 : Nat) : Int)))]]) sl40 rfl rfl ⟨⟨rfl, rfl⟩, trivial⟩ rfl rfl (fun b8 w46 e25 s8 h8 => ?_)
      replace h8 : Blk w46 b8 [.int .i64 (IntKind.i64.wrap ((IntKind.i64.wrap (1 + (IntKind.i64.wrap (((k : Nat) : Int) * 2)))) + ((dx13 : Nat) : Int)))] := h8
      have g_b8 : w.heap.size ≤ b8 := by have := E.size; omega
      have y_b8 := h8.lt
      replace E := E.ext e25; replace hcu := hcu.ext e25; replace h1 := h1.ext e25; replace ho := ho.ext e25; replace h2 := h2.ext e25
      have z46 := e25.size
      refine JC_next ⟨E, (by omega), hcu, h1, h2⟩ ?_
      refine JC_un rfl ?_
      refine J_append sl40 rfl rfl ho (Src.ofBlk h8 rfl) rfl (by simp only [sum_flat, List.length_cons, List.length_nil]; simp only [Enc.sz]; omega) (by decide) (by omega) (by omega) rfl rfl (fun v4 w47 m18 ho4 => ?_)
      replace E := E.mod m18 (fun g hg => by have := Own.blk ho g hg; omega); replace hcu := hcu.mod m18 (fun g hg => by have := Own.blk ho g hg; omega); replace h1 := h1.mod m18 (fun g hg => by have := Own.blk ho g hg; omega); replace h2 := h2.mod m18 (fun g hg => by have := Own.blk ho g hg; omega)
      have z47 := m18.size
      refine JC_next ⟨E, (by omega), hcu, h1, h2⟩ ?_
      refine JC_pu rfl (fun wX => R_fieldAddr0 fl42_3 rfl) rfl ?_
      refine JC_end ?_
      refine J_store' (cs' := [.int .i64 (IntKind.i64.wrap (1 + ((dx1 : Nat) : Int))), .int .i64 0, .int .i64 0, v4]) sc40 rfl rfl ho4.one h2 (Nat.le_of_ble_eq_true rfl) rfl (fun w48 m19 h2' => ?_)
      replace h2 := h2'
      replace E := E.mod m19 (fun g hg => by cases hg; omega); replace hcu := hcu.mod m19 (fun g hg => by cases hg; omega); replace h1 := h1.mod m19 (fun g hg => by cases hg; omega); replace ho4 := ho4.mod m19 (fun g hg => by cases hg; omega)
      have z48 := m19.size
      refine J_done ?_
      refine S_nil (E_inB ?_)
      refine S_reg [true, true, true] rfl rfl ?_
      refine J_st (R_move rfl) rfl (J_st (R_add rfl rfl (add_nat (by unfold maxLen; omega))) rfl (J_st (R_assign rfl) rfl (J_done ?_)))
      refine S_nil (E_again (k + 1, v4, (ls ++ [IntKind.i64.wrap ((IntKind.i64.wrap (1 + (IntKind.i64.wrap (((k : Nat) : Int) * 2)))) + ((dx13 : Nat) : Int))])) (by simp; omega) ⟨rfl, rfl, rfl, rfl, rfl, rfl, trivial⟩ ⟨E, (by omega), hcu, h1, (by omega), (by simp; omega), Own.fin ho4 (by omega) (by omega) (by simp [Enc.enc]), h2⟩)
     ·have hc11n : ¬ k < dx12 := by first | (have h := of_decide_eq_false hc11; omega) | (have h := hc11; simp at h; omega)
      refine S_exit (E_lp_exit (E_inB_exit ?_))
      refine S_seq ?_
      refine S_reg [true, false] rfl rfl ?_
      refine J_st (R_loadS st42 rfl h2.at rfl) rfl ?_
      refine J_storeS' (cs' := [.int .i64 (IntKind.i64.wrap (1 + ((dx1 : Nat) : Int))), .int .i64 0, .int .i64 0, vo]) st42 rfl rfl rfl (all_cons rfl (all_cons rfl (all_cons rfl (all_cons ho.one rfl)))) h1 (Nat.le_of_ble_eq_true rfl) rfl (fun w49 m20 h1' => ?_)
      replace h1 := h1'
      replace E := E.mod m20 (fun g hg => by cases hg; omega); replace hcu := hcu.mod m20 (fun g hg => by cases hg; omega); replace ho := ho.mod m20 (fun g hg => by cases hg; omega); replace h2 := h2.mod m20 (fun g hg => by cases hg; omega)
      have z49 := m20.size
      refine J_done ?_
      refine S_ret (E_doneC rfl rfl (run_loadVar_st st42 h1.at rfl) E ?_)
      exact ⟨(⟨IntKind.i64.wrap (1 + ((dx1 : Nat) : Int)), 0, 0, ls⟩ : Node), (by first | (simp; done) | (show ls.length ≤ 2; omega)), hcu, ⟨_, rfl, Node.mkO (⟨IntKind.i64.wrap (1 + ((dx1 : Nat) : Int)), 0, 0, ls⟩ : Node) ⟨trivial, trivial⟩ (Own.widen ho (by omega) (by omega))⟩⟩
    ·refine S_skip ?_
     refine S_seq ?_
     refine S_reg [true, false] rfl rfl ?_
     refine J_st (R_loadS st42 rfl h2.at rfl) rfl ?_
     refine J_storeS' (cs' := [.int .i64 (IntKind.i64.wrap (1 + ((dx1 : Nat) : Int))), .int .i64 0, .int .i64 0, .slice none 0 0]) st42 rfl rfl rfl rfl h1 (Nat.le_of_ble_eq_true rfl) rfl (fun w50 m21 h1' => ?_)
     replace h1 := h1'
     replace E := E.mod m21 (fun g hg => by cases hg; omega); replace hcu := hcu.mod m21 (fun g hg => by cases hg; omega); replace h2 := h2.mod m21 (fun g hg => by cases hg; omega)
     have z50 := m21.size
     refine J_done ?_
     refine S_ret (E_doneC rfl rfl (run_loadVar_st st42 h1.at rfl) E ?_)
     exact ⟨(⟨IntKind.i64.wrap (1 + ((dx1 : Nat) : Int)), 0, 0, []⟩ : Node), (by first | (simp; done) | (show ls.length ≤ 2; omega)), hcu, ⟨_, rfl, Node.mkO (⟨IntKind.i64.wrap (1 + ((dx1 : Nat) : Int)), 0, 0, []⟩ : Node) ⟨trivial, trivial⟩ (Own.nil _ _ _ _)⟩⟩

set_option maxHeartbeats 4000000 in
set_option maxRecDepth 20000 in
theorem s_l07Any (lo : Nat) (vb : Value) (bs : List Byt) (w : World) (hcu : CurO w lo vb bs) (hbs : RdD w 0 lo vb bs) : CtR Try.prog 70 [.pointer (some ⟨lo, 0, none⟩)] w lo (lo + 1) (fun v w' => ∃ (dr0 : Node), dr0.outs.length ≤ 3 ∧ CurO w' lo vb bs ∧ ∃ cs, v = .agg cs.toArray ∧ Own1.O w' w.heap.size w'.heap.size cs dr0) := by
 have y_lo := CurO.lt hcu
 refine ctR_of Try.func70 rfl Try.ntmps70 rfl ?_
 refine S_sub [(0, .pointer (some ⟨lo, 0, none⟩))] ⟨rfl, trivial⟩ ?_
 have E : ModR w w lo (lo + 1) := ModR.refl w lo (lo + 1)
 refine S_seq ?_
 refine S_reg [false] rfl rfl ?_
 refine J_alloc st42 rfl (fun b1 w1 e1 s1 h1 => ?_)
 have g_b1 : w.heap.size ≤ b1 := by have := E.size; omega
 have y_b1 := h1.lt
 replace E := E.ext e1; replace hcu := hcu.ext e1
 have z1 := e1.size
 refine J_done ?_
 refine S_seq ?_
 refine S_reg [true, false, false, false] rfl rfl ?_
 refine J_st (R_move rfl) rfl ?_
 refine J_callR Try.call86 rfl rfl (s_l07Node lo vb bs _ hcu (RdD.modR hbs E (.inl (Nat.le_refl _)))) rfl (fun _ w2 e2 ho1 => ?_)
 obtain ⟨dx1, q1, hcu', ho1⟩ := ho1
 replace hcu := hcu'
 obtain ⟨_, rfl, ho1⟩ := ho1
 have g_ho1 : w.heap.size ≤ w1.heap.size := E.size
 replace E := E.trans e2 (by omega) (by omega); replace h1 := h1.modR e2 (by omega)
 have z2 := e2.size
 obtain ⟨o1, rfl, sp1, hw1⟩ := Node.opO ho1
 refine J_alloc st42 rfl (fun b2 w3 e3 s2 h2 => ?_)
 have g_b2 : w.heap.size ≤ b2 := by have := E.size; omega
 have y_b2 := h2.lt
 replace E := E.ext e3; replace hcu := hcu.ext e3; replace h1 := h1.ext e3; replace hw1 := hw1.ext e3
 have z3 := e3.size
 refine J_storeS' (cs' := [.int .i64 dx1.kind, .int .i64 dx1.a, .int .i64 dx1.b, o1]) st42 rfl rfl rfl (all_cons rfl (all_cons rfl (all_cons rfl (all_cons hw1.one rfl)))) h2 (Nat.le_of_ble_eq_true rfl) rfl (fun w4 m1 h2' => ?_)
 replace h2 := h2'
 replace E := E.mod m1 (fun g hg => by cases hg; omega); replace hcu := hcu.mod m1 (fun g hg => by cases hg; omega); replace h1 := h1.mod m1 (fun g hg => by cases hg; omega); replace hw1 := hw1.mod m1 (fun g hg => by cases hg; omega)
 have z4 := m1.size
 refine J_done ?_
 refine S_seq ?_
 refine S_seq ?_
 refine S_reg [true, false] rfl rfl ?_
 refine J_st (R_move rfl) rfl ?_
 refine J_callR Try.call55 rfl rfl (s_l01Below lo vb bs 12 _ hcu (RdD.modR hbs E (.inl (Nat.le_refl _)))) rfl (fun _ w5 e4 hv => ?_)
 obtain ⟨dx2, q2, q3, hcu', hv⟩ := hv
 replace hcu := hcu'
 subst hv
 replace E := E.trans e4 (by omega) (by omega); replace h1 := h1.modR e4 (by omega); replace hw1 := hw1.modR e4 (by omega); replace h2 := h2.modR e4 (by omega)
 have z5 := e4.size
 refine J_done ?_
 refine S_block ?_
 refine S_seq ?_
 refine S_reg [true, true] rfl rfl ?_
 refine J_st (R_eql rfl rfl) rfl (J_st (R_assign rfl) rfl (J_done ?_))
 refine S_cond rfl (fun hc1 => ?_) (fun hc1 => ?_)
 ·have hc1n : dx2 = 0 := by first | (have h := of_decide_eq_true hc1; omega) | (have h := hc1; simp at h; omega)
  refine S_reg [true, false, true, true, false] rfl rfl ?_
  refine J_st (R_move rfl) rfl ?_
  refine J_callR Try.call55 rfl rfl (s_l01Below lo vb bs 11 _ hcu (RdD.modR hbs E (.inl (Nat.le_refl _)))) rfl (fun _ w6 e5 hv => ?_)
  obtain ⟨dx3, q4, q5, hcu', hv⟩ := hv
  replace hcu := hcu'
  subst hv
  replace E := E.trans e5 (by omega) (by omega); replace h1 := h1.modR e5 (by omega); replace hw1 := hw1.modR e5 (by omega); replace h2 := h2.modR e5 (by omega)
  have z6 := e5.size
  refine J_st (R_sub rfl rfl rfl) rfl (J_st (R_fieldAddr0 fl42_0 rfl) rfl ?_)
  refine J_store' (cs' := [.int .i64 (IntKind.i64.wrap (((dx3 : Nat) : Int) - 1)), .int .i64 dx1.a, .int .i64 dx1.b, o1]) sc3 rfl rfl rfl h2 (Nat.le_of_ble_eq_true rfl) rfl (fun w7 m2 h2' => ?_)
  replace h2 := h2'
  replace E := E.mod m2 (fun g hg => by cases hg; omega); replace hcu := hcu.mod m2 (fun g hg => by cases hg; omega); replace h1 := h1.mod m2 (fun g hg => by cases hg; omega); replace hw1 := hw1.mod m2 (fun g hg => by cases hg; omega)
  have z7 := m2.size
  refine J_done ?_
  refine S_nil (E_inB ?_)
  refine S_seq ?_
  refine S_reg [true, false] rfl rfl ?_
  refine J_st (R_loadS st42 rfl h2.at rfl) rfl ?_
  refine J_storeS' (cs' := [.int .i64 (IntKind.i64.wrap (((dx3 : Nat) : Int) - 1)), .int .i64 dx1.a, .int .i64 dx1.b, o1]) st42 rfl rfl rfl (all_cons rfl (all_cons rfl (all_cons rfl (all_cons hw1.one rfl)))) h1 (Nat.le_of_ble_eq_true rfl) rfl (fun w8 m3 h1' => ?_)
  replace h1 := h1'
  replace E := E.mod m3 (fun g hg => by cases hg; omega); replace hcu := hcu.mod m3 (fun g hg => by cases hg; omega); replace hw1 := hw1.mod m3 (fun g hg => by cases hg; omega); replace h2 := h2.mod m3 (fun g hg => by cases hg; omega)
  have z8 := m3.size
  refine J_done ?_
  refine S_ret (E_doneC rfl rfl (run_loadVar_st st42 h1.at rfl) E ?_)
  exact ⟨(⟨IntKind.i64.wrap (((dx3 : Nat) : Int) - 1), dx1.a, dx1.b, dx1.outs⟩ : Node), (by first | omega | (simp; omega)), hcu, ⟨_, rfl, Node.mkO (⟨IntKind.i64.wrap (((dx3 : Nat) : Int) - 1), dx1.a, dx1.b, dx1.outs⟩ : Node) sp1 (Own.widen hw1 (by omega) (by omega))⟩⟩
 ·have hc1n : ¬ dx2 = 0 := by first | (have h := of_decide_eq_false hc1; omega) | (have h := hc1; simp at h; omega)
  refine S_seq ?_
  refine S_reg [true, true] rfl rfl ?_
  refine J_st (R_eql rfl rfl) rfl (J_st (R_assign rfl) rfl (J_done ?_))
  refine S_cond rfl (fun hc2 => ?_) (fun hc2 => ?_)
  ·have hc2n : dx2 = 1 := by first | (have h := of_decide_eq_true hc2; omega) | (have h := hc2; simp at h; omega)
   refine S_reg [true, false, false, true, false] rfl rfl ?_
   refine J_st (R_move rfl) rfl ?_
   refine J_buildSlice (vs := [.int .i64 (-1), .int .i64 0, .int .i64 1000, .int .i64 100, .int .i64 11]) (css := [[.int .i64 (-1)], [.int .i64 0], [.int .i64 1000], [.int .i64 100], [.int .i64 11]]) sl40 rfl rfl ⟨⟨rfl, rfl⟩, ⟨rfl, rfl⟩, ⟨rfl, rfl⟩, ⟨rfl, rfl⟩, ⟨rfl, rfl⟩, trivial⟩ rfl rfl (fun b3 w9 e6 s3 h3 => ?_)
   replace h3 : Blk w9 b3 [.int .i64 (-1), .int .i64 0, .int .i64 1000, .int .i64 100, .int .i64 11] := h3
   have g_b3 : w.heap.size ≤ b3 := by have := E.size; omega
   have y_b3 := h3.lt
   replace E := E.ext e6; replace hcu := hcu.ext e6; replace h1 := h1.ext e6; replace hw1 := hw1.ext e6; replace h2 := h2.ext e6
   have z9 := e6.size
   refine J_callR Try.call56 rfl rfl (s_l01PickInt lo vb bs (.slice (some ⟨b3, 0, none⟩) 5 5) [(-1), 0, 1000, 100, 11] _ hcu (RdD.modR hbs E (.inl (Nat.le_refl _))) (fun wX eX => (Blk.rd (α := Int) (xs := [(-1), 0, 1000, 100, 11]) (by decide) (Blk.modR h3 eX (by omega)) rfl (by simp [maxLen]))) (by decide)) rfl (fun _ w10 e7 hv => ?_)
   obtain ⟨dx4, q6, hcu', hv⟩ := hv
   replace hcu := hcu'
   subst hv
   replace E := E.trans e7 (by omega) (by omega); replace h1 := h1.modR e7 (by omega); replace hw1 := hw1.modR e7 (by omega); replace h2 := h2.modR e7 (by omega); replace h3 := h3.modR e7 (by omega)
   have z10 := e7.size
   refine J_st (R_fieldAddr0 fl42_1 rfl) rfl ?_
   refine J_store' (cs' := [.int .i64 dx1.kind, .int .i64 dx4, .int .i64 dx1.b, o1]) sc3 rfl rfl rfl h2 (Nat.le_of_ble_eq_true rfl) rfl (fun w11 m4 h2' => ?_)
   replace h2 := h2'
   replace E := E.mod m4 (fun g hg => by cases hg; omega); replace hcu := hcu.mod m4 (fun g hg => by cases hg; omega); replace h1 := h1.mod m4 (fun g hg => by cases hg; omega); replace hw1 := hw1.mod m4 (fun g hg => by cases hg; omega); replace h3 := h3.mod m4 (fun g hg => by cases hg; omega)
   have z11 := m4.size
   refine J_done ?_
   refine S_nil (E_inB ?_)
   refine S_seq ?_
   refine S_reg [true, false] rfl rfl ?_
   refine J_st (R_loadS st42 rfl h2.at rfl) rfl ?_
   refine J_storeS' (cs' := [.int .i64 dx1.kind, .int .i64 dx4, .int .i64 dx1.b, o1]) st42 rfl rfl rfl (all_cons rfl (all_cons rfl (all_cons rfl (all_cons hw1.one rfl)))) h1 (Nat.le_of_ble_eq_true rfl) rfl (fun w12 m5 h1' => ?_)
   replace h1 := h1'
   replace E := E.mod m5 (fun g hg => by cases hg; omega); replace hcu := hcu.mod m5 (fun g hg => by cases hg; omega); replace hw1 := hw1.mod m5 (fun g hg => by cases hg; omega); replace h2 := h2.mod m5 (fun g hg => by cases hg; omega); replace h3 := h3.mod m5 (fun g hg => by cases hg; omega)
   have z12 := m5.size
   refine J_done ?_
   refine S_ret (E_doneC rfl rfl (run_loadVar_st st42 h1.at rfl) E ?_)
   exact ⟨(⟨dx1.kind, dx4, dx1.b, dx1.outs⟩ : Node), (by first | omega | (simp; omega)), hcu, ⟨_, rfl, Node.mkO (⟨dx1.kind, dx4, dx1.b, dx1.outs⟩ : Node) sp1 (Own.widen hw1 (by omega) (by omega))⟩⟩
  ·have hc2n : ¬ dx2 = 1 := by first | (have h := of_decide_eq_false hc2; omega) | (have h := hc2; simp at h; omega)
   refine S_seq ?_
   refine S_reg [true, true] rfl rfl ?_
   refine J_st (R_eql rfl rfl) rfl (J_st (R_assign rfl) rfl (J_done ?_))
   refine S_cond rfl (fun hc3 => ?_) (fun hc3 => ?_)
   ·have hc3n : dx2 = 2 := by first | (have h := of_decide_eq_true hc3; omega) | (have h := hc3; simp at h; omega)
    refine S_reg [true, false, false, true, false] rfl rfl ?_
    refine J_st (R_move rfl) rfl ?_
    refine J_buildSlice (vs := [.int .i64 (-1), .int .i64 1, .int .i64 3]) (css := [[.int .i64 (-1)], [.int .i64 1], [.int .i64 3]]) sl40 rfl rfl ⟨⟨rfl, rfl⟩, ⟨rfl, rfl⟩, ⟨rfl, rfl⟩, trivial⟩ rfl rfl (fun b4 w13 e8 s4 h4 => ?_)
    replace h4 : Blk w13 b4 [.int .i64 (-1), .int .i64 1, .int .i64 3] := h4
    have g_b4 : w.heap.size ≤ b4 := by have := E.size; omega
    have y_b4 := h4.lt
    replace E := E.ext e8; replace hcu := hcu.ext e8; replace h1 := h1.ext e8; replace hw1 := hw1.ext e8; replace h2 := h2.ext e8
    have z13 := e8.size
    refine J_callR Try.call56 rfl rfl (s_l01PickInt lo vb bs (.slice (some ⟨b4, 0, none⟩) 3 3) [(-1), 1, 3] _ hcu (RdD.modR hbs E (.inl (Nat.le_refl _))) (fun wX eX => (Blk.rd (α := Int) (xs := [(-1), 1, 3]) (by decide) (Blk.modR h4 eX (by omega)) rfl (by simp [maxLen]))) (by decide)) rfl (fun _ w14 e9 hv => ?_)
    obtain ⟨dx5, q7, hcu', hv⟩ := hv
    replace hcu := hcu'
    subst hv
    replace E := E.trans e9 (by omega) (by omega); replace h1 := h1.modR e9 (by omega); replace hw1 := hw1.modR e9 (by omega); replace h2 := h2.modR e9 (by omega); replace h4 := h4.modR e9 (by omega)
    have z14 := e9.size
    refine J_st (R_fieldAddr0 fl42_2 rfl) rfl ?_
    refine J_store' (cs' := [.int .i64 dx1.kind, .int .i64 dx1.a, .int .i64 dx5, o1]) sc3 rfl rfl rfl h2 (Nat.le_of_ble_eq_true rfl) rfl (fun w15 m6 h2' => ?_)
    replace h2 := h2'
    replace E := E.mod m6 (fun g hg => by cases hg; omega); replace hcu := hcu.mod m6 (fun g hg => by cases hg; omega); replace h1 := h1.mod m6 (fun g hg => by cases hg; omega); replace hw1 := hw1.mod m6 (fun g hg => by cases hg; omega); replace h4 := h4.mod m6 (fun g hg => by cases hg; omega)
    have z15 := m6.size
    refine J_done ?_
    refine S_nil (E_inB ?_)
    refine S_seq ?_
    refine S_reg [true, false] rfl rfl ?_
    refine J_st (R_loadS st42 rfl h2.at rfl) rfl ?_
    refine J_storeS' (cs' := [.int .i64 dx1.kind, .int .i64 dx1.a, .int .i64 dx5, o1]) st42 rfl rfl rfl (all_cons rfl (all_cons rfl (all_cons rfl (all_cons hw1.one rfl)))) h1 (Nat.le_of_ble_eq_true rfl) rfl (fun w16 m7 h1' => ?_)
    replace h1 := h1'
    replace E := E.mod m7 (fun g hg => by cases hg; omega); replace hcu := hcu.mod m7 (fun g hg => by cases hg; omega); replace hw1 := hw1.mod m7 (fun g hg => by cases hg; omega); replace h2 := h2.mod m7 (fun g hg => by cases hg; omega); replace h4 := h4.mod m7 (fun g hg => by cases hg; omega)
    have z16 := m7.size
    refine J_done ?_
    refine S_ret (E_doneC rfl rfl (run_loadVar_st st42 h1.at rfl) E ?_)
    exact ⟨(⟨dx1.kind, dx1.a, dx5, dx1.outs⟩ : Node), (by first | omega | (simp; omega)), hcu, ⟨_, rfl, Node.mkO (⟨dx1.kind, dx1.a, dx5, dx1.outs⟩ : Node) sp1 (Own.widen hw1 (by omega) (by omega))⟩⟩
   ·have hc3n : ¬ dx2 = 2 := by first | (have h := of_decide_eq_false hc3; omega) | (have h := hc3; simp at h; omega)
    refine S_seq ?_
    refine S_reg [true, true] rfl rfl ?_
    refine J_st (R_eql rfl rfl) rfl (J_st (R_assign rfl) rfl (J_done ?_))
    refine S_cond rfl (fun hc4 => ?_) (fun hc4 => ?_)
    ·have hc4n : dx2 = 3 := by first | (have h := of_decide_eq_true hc4; omega) | (have h := hc4; simp at h; omega)
     refine S_regW mixed [0, 2, 7] [(0, true), (1, true), (2, true), (3, false), (4, false), (5, false), (6, false), (7, true)] [(8, false)] (by decide +kernel) rfl rfl (fun w' => ModR w w' lo (lo + 1) ∧ w5.heap.size ≤ w'.heap.size ∧ CurO w' lo vb bs ∧ Blk w' b1 [.int .i64 0, .int .i64 0, .int .i64 0, .slice none 0 0] ∧ Blk w' b2 [.int .i64 dx1.kind, .int .i64 dx1.a, .int .i64 dx1.b, o1]) (fun w17 e10 => ?_)
     replace E := E.ext e10; replace hcu := hcu.ext e10; replace h1 := h1.ext e10; replace hw1 := hw1.ext e10; replace h2 := h2.ext e10
     have z17 := e10.size
     refine ⟨⟨E, (by omega), hcu, h1, h2⟩, ?_⟩
     refine JC_pu rfl (fun wX => R_fieldAddr0 fl42_3 rfl) rfl ?_
     refine JC_st rfl (fun wX hX => by obtain ⟨E, zX, hcu, h1, h2⟩ := hX; exact R_load sc40 rfl (h2.one 3 rfl)) rfl ?_
     refine JC_pu rfl (fun wX => R_move rfl) rfl ?_
     refine JC_un rfl ?_
     refine J_buildSlice (vs := [.int .i64 1, .int .i64 7, .int .i64 8, .int .i64 (-1)]) (css := [[.int .i64 1], [.int .i64 7], [.int .i64 8], [.int .i64 (-1)]]) sl40 rfl rfl ⟨⟨rfl, rfl⟩, ⟨rfl, rfl⟩, ⟨rfl, rfl⟩, ⟨rfl, rfl⟩, trivial⟩ rfl rfl (fun b5 w18 e11 s5 h5 => ?_)
     replace h5 : Blk w18 b5 [.int .i64 1, .int .i64 7, .int .i64 8, .int .i64 (-1)] := h5
     have g_b5 : w.heap.size ≤ b5 := by have := E.size; omega
     have y_b5 := h5.lt
     replace E := E.ext e11; replace hcu := hcu.ext e11; replace h1 := h1.ext e11; replace hw1 := hw1.ext e11; replace h2 := h2.ext e11
     have z18 := e11.size
     refine JC_next ⟨E, (by omega), hcu, h1, h2⟩ ?_
     refine JC_un rfl ?_
     refine J_callR Try.call56 rfl rfl (s_l01PickInt lo vb bs (.slice (some ⟨b5, 0, none⟩) 4 4) [1, 7, 8, (-1)] _ hcu (RdD.modR hbs E (.inl (Nat.le_refl _))) (fun wX eX => (Blk.rd (α := Int) (xs := [1, 7, 8, (-1)]) (by decide) (Blk.modR h5 eX (by omega)) rfl (by simp [maxLen]))) (by decide)) rfl (fun _ w19 e12 hv => ?_)
     obtain ⟨dx6, q8, hcu', hv⟩ := hv
     replace hcu := hcu'
     subst hv
     replace E := E.trans e12 (by omega) (by omega); replace h1 := h1.modR e12 (by omega); replace hw1 := hw1.modR e12 (by omega); replace h2 := h2.modR e12 (by omega); replace h5 := h5.modR e12 (by omega)
     have z19 := e12.size
     refine JC_next ⟨E, (by omega), hcu, h1, h2⟩ ?_
     refine JC_un rfl ?_
     refine J_buildSlice (vs := [.int .i64 dx6]) (css := [[.int .i64 dx6]]) sl40 rfl rfl ⟨⟨rfl, rfl⟩, trivial⟩ rfl rfl (fun b6 w20 e13 s6 h6 => ?_)
     replace h6 : Blk w20 b6 [.int .i64 dx6] := h6
     have g_b6 : w.heap.size ≤ b6 := by have := E.size; omega
     have y_b6 := h6.lt
     replace E := E.ext e13; replace hcu := hcu.ext e13; replace h1 := h1.ext e13; replace hw1 := hw1.ext e13; replace h2 := h2.ext e13; replace h5 := h5.ext e13
     have z20 := e13.size
     refine JC_next ⟨E, (by omega), hcu, h1, h2⟩ ?_
     refine JC_un rfl ?_
     refine J_appendB sl40 rfl rfl hw1 (Src.ofBlk h6 rfl) rfl (by simp only [sum_flat, List.length_cons, List.length_nil]; simp only [Enc.sz]; omega) (by decide) (by omega) (by omega) rfl rfl (fun v1 w21 m8 ho2 hb1 => ?_)
     have hn1 : ∀ g, Value.ownBlock v1 = some g → g < w2.heap.size ∨ w20.heap.size ≤ g := fun g hg => (hb1 g hg).elim (fun h => .inl (by have := Own.blk hw1 g h; omega)) (fun h => .inr h)
     have sq1 := sp1
     replace sp1 := SepL.set hb1 0 rfl sp1 ⟨(Own.lt hw1), trivial⟩
     replace sp1 : SepL [v1] := sp1
     replace E := E.mod m8 (fun g hg => by have := Own.blk hw1 g hg; omega); replace hcu := hcu.mod m8 (fun g hg => by have := Own.blk hw1 g hg; omega); replace h1 := h1.mod m8 (fun g hg => by have := Own.blk hw1 g hg; omega); replace h2 := h2.mod m8 (fun g hg => by have := Own.blk hw1 g hg; omega); replace h5 := h5.mod m8 (fun g hg => by have := Own.blk hw1 g hg; omega)
     have z21 := m8.size
     replace ho2 : Own w21 w1.heap.size w21.heap.size 1 v1 (List.flatMap (Enc.enc (α := Int)) (dx1.outs ++ [dx6])) := by rw [List.flatMap_append]; exact ho2
     refine JC_next ⟨E, (by omega), hcu, h1, h2⟩ ?_
     refine JC_pu rfl (fun wX => R_fieldAddr0 fl42_3 rfl) rfl ?_
     refine JC_end ?_
     refine J_store' (cs' := [.int .i64 dx1.kind, .int .i64 dx1.a, .int .i64 dx1.b, v1]) sc40 rfl rfl ho2.one h2 (Nat.le_of_ble_eq_true rfl) rfl (fun w22 m9 h2' => ?_)
     replace h2 := h2'
     replace E := E.mod m9 (fun g hg => by cases hg; omega); replace hcu := hcu.mod m9 (fun g hg => by cases hg; omega); replace h1 := h1.mod m9 (fun g hg => by cases hg; omega); replace h5 := h5.mod m9 (fun g hg => by cases hg; omega); replace ho2 := Own.modN ho2 m9 (fun g hg hv => by have hN := hn1 g hv; have hB := Own.blk ho2 g hv; cases hg; omega)
     have z22 := m9.size
     refine J_done ?_
     refine S_nil (E_inB ?_)
     refine S_seq ?_
     refine S_reg [true, false] rfl rfl ?_
     refine J_st (R_loadS st42 rfl h2.at rfl) rfl ?_
     refine J_storeS' (cs' := [.int .i64 dx1.kind, .int .i64 dx1.a, .int .i64 dx1.b, v1]) st42 rfl rfl rfl (all_cons rfl (all_cons rfl (all_cons rfl (all_cons ho2.one rfl)))) h1 (Nat.le_of_ble_eq_true rfl) rfl (fun w23 m10 h1' => ?_)
     replace h1 := h1'
     replace E := E.mod m10 (fun g hg => by cases hg; omega); replace hcu := hcu.mod m10 (fun g hg => by cases hg; omega); replace h2 := h2.mod m10 (fun g hg => by cases hg; omega); replace h5 := h5.mod m10 (fun g hg => by cases hg; omega); replace ho2 := Own.modN ho2 m10 (fun g hg hv => by have hN := hn1 g hv; have hB := Own.blk ho2 g hv; cases hg; omega)
     have z23 := m10.size
     refine J_done ?_
     refine S_ret (E_doneC rfl rfl (run_loadVar_st st42 h1.at rfl) E ?_)
     exact ⟨(⟨dx1.kind, dx1.a, dx1.b, dx1.outs ++ [dx6]⟩ : Node), (by first | omega | (simp; omega)), hcu, ⟨_, rfl, Node.mkO (⟨dx1.kind, dx1.a, dx1.b, dx1.outs ++ [dx6]⟩ : Node) sp1 (Own.widen ho2 (by omega) (by omega))⟩⟩
    ·have hc4n : ¬ dx2 = 3 := by first | (have h := of_decide_eq_false hc4; omega) | (have h := hc4; simp at h; omega)
     refine S_skip ?_
     refine S_nil (E_inB ?_)
     refine S_seq ?_
     refine S_reg [true, false] rfl rfl ?_
     refine J_st (R_loadS st42 rfl h2.at rfl) rfl ?_
     refine J_storeS' (cs' := [.int .i64 dx1.kind, .int .i64 dx1.a, .int .i64 dx1.b, o1]) st42 rfl rfl rfl (all_cons rfl (all_cons rfl (all_cons rfl (all_cons hw1.one rfl)))) h1 (Nat.le_of_ble_eq_true rfl) rfl (fun w24 m11 h1' => ?_)
     replace h1 := h1'
     replace E := E.mod m11 (fun g hg => by cases hg; omega); replace hcu := hcu.mod m11 (fun g hg => by cases hg; omega); replace hw1 := hw1.mod m11 (fun g hg => by cases hg; omega); replace h2 := h2.mod m11 (fun g hg => by cases hg; omega)
     have z24 := m11.size
     refine J_done ?_
     refine S_ret (E_doneC rfl rfl (run_loadVar_st st42 h1.at rfl) E ?_)
     exact ⟨dx1, (by first | omega | (simp; omega)), hcu, ⟨_, rfl, Node.mkO dx1 sp1 (Own.widen hw1 (by omega) (by omega))⟩⟩

end Go.Proofs.Ytckahblgeepfjaa
