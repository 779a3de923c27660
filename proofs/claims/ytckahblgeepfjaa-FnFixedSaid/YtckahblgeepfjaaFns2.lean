/- What the functions that the laws call come to: a contract each; no condition. -/
import Derived.Test.YtckahblgeepfjaaFns
namespace Go.Proofs.Ytckahblgeepfjaa
open Go Go.Proofs.Ytckahblgeepfjaa.X Go.Proofs
set_option maxRecDepth 20000 in
theorem s_OutsOnly (cg : List Value) (g : Graph) (vxs : Value) (xs : List Cell) (w : World) (hg : Dat.R w 0 w.heap.size cg g) (hxs : RdS w vxs xs) (hb : xs.length ≤ 4194304) (hcg : cntGraph g ≤ 1048576) : Ct Try.prog 32 [.agg cg.toArray, vxs] w (fun v w' => Own w' w.heap.size w'.heap.size 4 v (List.flatMap (Enc.enc (α := Cell)) (xs.filter (outOf g)))) := by
 refine ct_of Try.func32 rfl Try.ntmps32 rfl ?_
 obtain ⟨o1, rfl, hd1⟩ := Graph.op hg
 refine S_sub [(0, .agg [o1, .int .i64 g.workers, .int .i64 g.cap].toArray), (1, vxs)] ⟨rfl, rfl, trivial⟩ ?_
 have E : Ext w w := Ext.refl w
 refine S_seq ?_
 refine S_reg [false, true] rfl rfl ?_
 refine J_box rfl rfl (fun b1 w1 e1 s1 h1 => ?_)
 have g_b1 : w.heap.size ≤ b1 := by have := E.size; omega
 have y_b1 := h1.lt
 replace E := E.trans e1
 have z1 := e1.size
 refine J_st (R_assign rfl) rfl (J_done ?_)
 refine S_seq ?_
 refine S_reg [false, true] rfl rfl ?_
 refine J_buildSlice (vs := []) (css := []) sl27 rfl rfl trivial rfl rfl (fun b2 w2 e2 s2 h2 => ?_)
 replace h2 : Blk w2 b2 [] := h2
 have g_b2 : w.heap.size ≤ b2 := by have := E.size; omega
 have y_b2 := h2.lt
 replace E := E.trans e2; replace h1 := h1.ext e2
 have z2 := e2.size
 refine J_st (R_assign rfl) rfl (J_done ?_)
 refine S_seq ?_
 refine S_seq ?_
 refine S_reg [true] rfl rfl ?_
 refine J_st (R_assign rfl) rfl (J_done ?_)
 refine S_block ?_
 refine S_loop (fun (xq : Nat × Value) => let ⟨k, vo⟩ := xq; [(1, vxs), (2, .pointer (some ⟨b1, 0, none⟩)), (4, .slice none 0 0), (5, vo), (6, .int .i64 ((k : Nat) : Int))]) (fun (xq : Nat × Value) w' => let ⟨k, vo⟩ := xq; Ext w w' ∧ w2.heap.size ≤ w'.heap.size ∧ Blk w' b1 ([o1, .int .i64 g.workers, .int .i64 g.cap]) ∧ k ≤ xs.length ∧ Own w' b2 w'.heap.size 4 vo (List.flatMap (Enc.enc (α := Cell)) ((xs.take k).filter (outOf g)))) (fun (xq : Nat × Value) => let ⟨k, vo⟩ := xq; xs.length - k) (0, .slice (some ⟨b2, 0, none⟩) 0 0) ⟨rfl, rfl, rfl, rfl, rfl, trivial⟩ ⟨E, Nat.le_refl _, h1, Nat.zero_le _, Own.fin (Own.ofBlk (lo := b2) (hi := b2 + 1) (sz := 4) h2 (Nat.le_refl _) (Nat.lt_succ_self _) (by simp) (by simp [maxLen])) (by have := E.size; omega) (by omega) rfl⟩ ?_
 clear E h1 h2
 rintro ⟨k, vo⟩ w3 ⟨E, z3, h1, hk, ho⟩
 refine S_sub [(1, vxs), (2, .pointer (some ⟨b1, 0, none⟩)), (4, .slice none 0 0), (5, vo), (6, .int .i64 ((k : Nat) : Int))] ⟨rfl, rfl, rfl, rfl, rfl, trivial⟩ ?_
 refine S_seq ?_
 refine S_seq ?_
 refine S_reg [true, true, true, true] rfl rfl ?_
 refine J_st (R_move rfl) rfl (J_st (R_move rfl) rfl (J_st (R_len Try.underlying27 rfl (hxs.ext E).len) rfl (J_st (R_lss rfl rfl) rfl (J_done ?_))))
 refine S_cond rfl (fun hc1 => ?_) (fun hc1 => ?_)
 ·have hc1n : k < xs.length := by first | (have h := of_decide_eq_true hc1; omega) | (have h := hc1; simp at h; omega)
  refine S_skip ?_
  refine S_seq ?_
  refine S_block ?_
  refine S_seq ?_
  have hi1 : k < xs.length := (by first | assumption | omega | (simp only [List.length_set]; first | assumption | omega) | (simp only [List.getElem_set_self, List.length_set]; first | assumption | omega) | (simp only [setW, setLk, List.length_set]; first | assumption | omega) | (simp; done))
  refine S_regF mixed [] 10 7 [] [(0, true), (1, true), (2, true), (3, true), (4, true), (5, true)] [(6, false), (7, true), (8, true), (9, true)] [(11, false), (12, true)] (fun b => .pointer (some ⟨b, 0, none⟩)) (z := [.int .i64 0, .int .i64 0, .int .i64 0, .slice none 0 0]) (by decide +kernel) rfl rfl rfl rfl rfl rfl rfl [(1, vxs), (2, .pointer (some ⟨b1, 0, none⟩)), (4, .slice none 0 0), (5, vo), (6, .int .i64 ((k : Nat) : Int)), (10, .int .i64 ((k : Nat) : Int)), (11, vxs), (12, .int .i64 ((xs.length : Nat) : Int)), (13, .bool (decide (((k : Nat) : Int) < ((xs.length : Nat) : Int)))), (17, .agg [o1, .int .i64 g.workers, .int .i64 g.cap].toArray), (18, vxs), (19, .int .i64 ((k : Nat) : Int)), (20, .pointer (some ⟨sblk vxs, soff vxs + k * 4, none⟩)), (21, .pointer (some ⟨(sblk vxs), soff vxs + k * 4 + 0, none⟩)), (22, .int .i64 ((xs[k]'hi1).op))] [] rfl trivial (fun w' => Ext w w' ∧ w3.heap.size ≤ w'.heap.size ∧ Blk w' b1 ([o1, .int .i64 g.workers, .int .i64 g.cap]) ∧ Own w' b2 w3.heap.size 4 vo (List.flatMap (Enc.enc (α := Cell)) ((xs.take k).filter (outOf g)))) (float_alloc st42) (fun w4 e3 => ?_) (fun w4 hphi_w4 => ?_)
  ·replace E := E.trans e3; replace h1 := h1.ext e3; replace ho := ho.ext e3
   have z4 := e3.size
   refine J_st (R_loadS st26 rfl h1.at rfl) rfl (J_st (R_move rfl) rfl (J_st (R_move rfl) rfl ?_))
   refine J_st (R_index (i := k) sl27 rfl rfl (hxs.ext E) hi1) rfl (J_st (R_fieldAddr fl56_0 rfl) rfl (J_st (R_load sc3 rfl (((hxs.ext E).get hi1).one 0 rfl)) rfl (J_cutEnd ⟨rfl, rfl, rfl, rfl, rfl, rfl, rfl, rfl, rfl, rfl, rfl, rfl, rfl, rfl, rfl, trivial⟩ ⟨E, (by omega), h1, ho⟩)))
  clear E h1 ho
  obtain ⟨E, z5, h1, ho⟩ := hphi_w4
  refine JI_un rfl (fun w5 e4 => ?_) rfl
  replace E := E.trans e4; replace h1 := h1.ext e4; replace ho := ho.ext e4
  have z6 := e4.size
  refine J_call Try.call48 rfl (s_NodeOf [o1, .int .i64 g.workers, .int .i64 g.cap] g ((xs[k]'hi1).op) _ (Graph.mkR g (RdD.any (hd1.ext E))) (by first | omega | (simp only [mkL_length]; omega) | (rw [mkL_length]; done) | (simp only [mkL_length]; done))) rfl (fun _ w6 e5 ho1 => ?_)
  obtain ⟨_, rfl, ho2⟩ := ho1
  have g_ho1 : w.heap.size ≤ w5.heap.size := E.size
  replace E := E.trans e5; replace h1 := h1.ext e5; replace ho := ho.ext e5
  have z7 := e5.size
  obtain ⟨o2, rfl, sp1, hw1⟩ := Node.opO ho2
  refine JI_go2 ?_
  refine JI_seg 3 rfl ?_
  refine J_st (R_move rfl) rfl (J_st (R_extract rfl rfl) rfl (J_st (R_extract rfl rfl) rfl (JI_go ?_)))
  refine JI_end rfl (fun b3 w7 e6 g1 y1 h3 hI1 => ?_)
  have hI1_0 : b3 < w5.heap.size ∨ w6.heap.size ≤ b3 := hI1 (_, _) (by simp)
  replace E := E.trans e6; replace h1 := h1.ext e6; replace ho := ho.ext e6; replace hw1 := hw1.ext e6
  have z8 := e6.size
  have g_b3 : w.heap.size ≤ b3 := by have := E.size; omega
  have y_b3 := h3.lt
  refine J2_sub [(1, vxs), (2, .pointer (some ⟨b1, 0, none⟩)), (4, .slice none 0 0), (5, vo), (6, .int .i64 ((k : Nat) : Int)), (7, .pointer (some ⟨b3, 0, none⟩)), (10, .int .i64 ((k : Nat) : Int)), (11, vxs), (12, .int .i64 ((xs.length : Nat) : Int)), (13, .bool (decide (((k : Nat) : Int) < ((xs.length : Nat) : Int)))), (16, .tuple [.agg [.int .i64 (((nodeOf g ((xs[k]'hi1).op)).1).kind), .int .i64 (((nodeOf g ((xs[k]'hi1).op)).1).a), .int .i64 (((nodeOf g ((xs[k]'hi1).op)).1).b), o2].toArray, .bool ((nodeOf g ((xs[k]'hi1).op)).2)].toArray), (17, .agg [o1, .int .i64 g.workers, .int .i64 g.cap].toArray), (18, vxs), (19, .int .i64 ((k : Nat) : Int)), (20, .pointer (some ⟨sblk vxs, soff vxs + k * 4, none⟩)), (21, .pointer (some ⟨(sblk vxs), soff vxs + k * 4 + 0, none⟩)), (22, .int .i64 ((xs[k]'hi1).op)), (23, .tuple [.agg [.int .i64 (((nodeOf g ((xs[k]'hi1).op)).1).kind), .int .i64 (((nodeOf g ((xs[k]'hi1).op)).1).a), .int .i64 (((nodeOf g ((xs[k]'hi1).op)).1).b), o2].toArray, .bool ((nodeOf g ((xs[k]'hi1).op)).2)].toArray), (24, .agg [.int .i64 (((nodeOf g ((xs[k]'hi1).op)).1).kind), .int .i64 (((nodeOf g ((xs[k]'hi1).op)).1).a), .int .i64 (((nodeOf g ((xs[k]'hi1).op)).1).b), o2].toArray), (25, .bool ((nodeOf g ((xs[k]'hi1).op)).2))] ⟨rfl, rfl, rfl, rfl, rfl, rfl, rfl, rfl, rfl, rfl, rfl, rfl, rfl, rfl, rfl, rfl, rfl, rfl, rfl, rfl, trivial⟩ ?_
  refine J2_of rfl ?_
  refine J_storeS' (cs' := [.int .i64 (((nodeOf g ((xs[k]'hi1).op)).1).kind), .int .i64 (((nodeOf g ((xs[k]'hi1).op)).1).a), .int .i64 (((nodeOf g ((xs[k]'hi1).op)).1).b), o2]) st42 rfl rfl rfl (all_cons rfl (all_cons rfl (all_cons rfl (all_cons hw1.one rfl)))) h3 (Nat.le_of_ble_eq_true rfl) rfl (fun w8 m1 h3' => ?_)
  replace h3 := h3'
  replace E := E.step m1 (fun g hg => by cases hg; omega); replace h1 := h1.mod m1 (fun g hg => by cases hg; omega); replace ho := ho.mod m1 (fun g hg => by cases hg; omega); replace hw1 := hw1.mod m1 (fun g hg => by cases hg; omega)
  have z9 := m1.size
  refine J_st (R_assign rfl) rfl (J_done ?_)
  refine S_seq ?_
  refine S_reg [true, true, true, true, true, true] rfl rfl ?_
  refine J_st (R_move rfl) rfl (J_st (R_move rfl) rfl ?_)
  refine J_cut 4 [(1, vxs), (2, .pointer (some ⟨b1, 0, none⟩)), (4, .slice none 0 0), (5, vo), (6, .int .i64 ((k : Nat) : Int)), (7, .pointer (some ⟨b3, 0, none⟩)), (8, .bool ((nodeOf g ((xs[k]'hi1).op)).2)), (10, .int .i64 ((k : Nat) : Int)), (11, vxs), (12, .int .i64 ((xs.length : Nat) : Int)), (13, .bool (decide (((k : Nat) : Int) < ((xs.length : Nat) : Int)))), (16, .tuple [.agg [.int .i64 (((nodeOf g ((xs[k]'hi1).op)).1).kind), .int .i64 (((nodeOf g ((xs[k]'hi1).op)).1).a), .int .i64 (((nodeOf g ((xs[k]'hi1).op)).1).b), o2].toArray, .bool ((nodeOf g ((xs[k]'hi1).op)).2)].toArray), (17, .agg [o1, .int .i64 g.workers, .int .i64 g.cap].toArray), (18, vxs), (19, .int .i64 ((k : Nat) : Int)), (20, .pointer (some ⟨sblk vxs, soff vxs + k * 4, none⟩)), (21, .pointer (some ⟨(sblk vxs), soff vxs + k * 4 + 0, none⟩)), (22, .int .i64 ((xs[k]'hi1).op)), (23, .tuple [.agg [.int .i64 (((nodeOf g ((xs[k]'hi1).op)).1).kind), .int .i64 (((nodeOf g ((xs[k]'hi1).op)).1).a), .int .i64 (((nodeOf g ((xs[k]'hi1).op)).1).b), o2].toArray, .bool ((nodeOf g ((xs[k]'hi1).op)).2)].toArray), (24, .agg [.int .i64 (((nodeOf g ((xs[k]'hi1).op)).1).kind), .int .i64 (((nodeOf g ((xs[k]'hi1).op)).1).a), .int .i64 (((nodeOf g ((xs[k]'hi1).op)).1).b), o2].toArray), (25, .bool ((nodeOf g ((xs[k]'hi1).op)).2)), (31, .bool (((nodeOf g ((xs[k]'hi1).op)).2) && ((((nodeOf g ((xs[k]'hi1).op)).1).kind) == 8)))] (fun w' => w8 = w') ?_ ?_
  ·refine J_if (gd := 27) rfl rfl (fun hg1 => ?_) (fun hg1 => ?_)
   ·refine J_gd rfl rfl (R_fieldAddr0 fl42_0 rfl) rfl (J_gd rfl rfl (R_load sc3 rfl (h3.one 0 rfl)) rfl (J_gd rfl rfl (R_eql rfl rfl) rfl (J_st (R_pickT rfl rfl) rfl (J_cutEnd ⟨rfl, rfl, rfl, rfl, rfl, rfl, rfl, rfl, rfl, rfl, rfl, rfl, rfl, rfl, rfl, rfl, rfl, rfl, rfl, rfl, rfl, congrArg (fun b => some (Value.bool b)) (show ((((nodeOf g ((xs[k]'hi1).op)).1).kind) == 8) = (((nodeOf g ((xs[k]'hi1).op)).2) && ((((nodeOf g ((xs[k]'hi1).op)).1).kind) == 8)) by first | (rw [hg1] <;> rfl) | (simp [hg1]; done) | (simp only [nat_nlt] <;> simp)), trivial⟩ rfl))))
   ·refine J_gdno rfl rfl rfl rfl (J_gdno rfl rfl rfl rfl (J_gdno rfl rfl rfl rfl (J_st (R_pickF rfl rfl) rfl (J_cutEnd ⟨rfl, rfl, rfl, rfl, rfl, rfl, rfl, rfl, rfl, rfl, rfl, rfl, rfl, rfl, rfl, rfl, rfl, rfl, rfl, rfl, rfl, congrArg (fun b => some (Value.bool b)) (show false = (((nodeOf g ((xs[k]'hi1).op)).2) && ((((nodeOf g ((xs[k]'hi1).op)).1).kind) == 8)) by first | (rw [hg1] <;> rfl) | (simp [hg1]; done) | (simp only [nat_nlt] <;> simp)), trivial⟩ rfl))))
  rintro _ rfl
  refine J_done ?_
  refine S_cond rfl (fun hc2 => ?_) (fun hc2 => ?_)
  ·refine S_reg [true, true, true, true, true, false, false, true] rfl rfl ?_
   refine J_st (R_move rfl) rfl (J_st (R_move rfl) rfl (J_st (R_move rfl) rfl (J_st (R_index (i := k) sl27 rfl rfl (hxs.ext E) hi1) rfl (J_st (R_loadS st56 rfl ((hxs.ext E).get hi1) rfl) rfl ?_))))
   refine J_buildSlice (vs := [.agg (Enc.enc (xs[k]'hi1)).toArray]) (css := [[.int .i64 ((xs[k]'hi1).op), .int .i64 ((xs[k]'hi1).epoch), .int .i64 ((xs[k]'hi1).key), .int .i64 ((xs[k]'hi1).val)]]) sl27 rfl rfl ⟨⟨rfl, rfl⟩, trivial⟩ rfl rfl (fun b4 w10 e7 s3 h4 => ?_)
   replace h4 : Blk w10 b4 [.int .i64 ((xs[k]'hi1).op), .int .i64 ((xs[k]'hi1).epoch), .int .i64 ((xs[k]'hi1).key), .int .i64 ((xs[k]'hi1).val)] := h4
   have g_b4 : w.heap.size ≤ b4 := by have := E.size; omega
   have y_b4 := h4.lt
   replace E := E.trans e7; replace h1 := h1.ext e7; replace ho := ho.ext e7; replace hw1 := hw1.ext e7; replace h3 := h3.ext e7
   have z10 := e7.size
   refine J_append sl27 rfl rfl ho (Src.ofBlk h4 rfl) rfl (by have h := filt_len xs (outOf g) k; simp only [show Enc.sz Cell = 4 from rfl] at h; simp at h ⊢; omega) (by decide) (by omega) (by omega) rfl rfl (fun v1 w11 m2 ho3 => ?_)
   replace E := E.step m2 (fun g hg => by have := Own.blk ho g hg; omega); replace h1 := h1.mod m2 (fun g hg => by have := Own.blk ho g hg; omega); replace hw1 := hw1.mod m2 (fun g hg => by have := Own.blk ho g hg; omega); replace h3 := h3.mod m2 (fun g hg => by have := Own.blk ho g hg; omega)
   have z11 := m2.size
   refine J_st (R_assign rfl) rfl (J_done ?_)
   refine S_nil (E_inB ?_)
   refine S_reg [true, true, true] rfl rfl ?_
   refine J_st (R_move rfl) rfl (J_st (R_add rfl rfl (add_one hc1n hxs.1)) rfl (J_st (R_assign rfl) rfl (J_done ?_)))
   refine S_nil (E_again (k + 1, v1) (by simp; omega) ⟨rfl, rfl, rfl, rfl, rfl, trivial⟩ ⟨E, (by omega), h1, (by omega), Own.fin ho3 (Nat.le_refl _) (by omega) (filt_yes (by assumption) (by simpa [← outOf_two] using hc2))⟩)
  ·refine S_skip ?_
   refine S_nil (E_inB ?_)
   refine S_reg [true, true, true] rfl rfl ?_
   refine J_st (R_move rfl) rfl (J_st (R_add rfl rfl (add_one hc1n hxs.1)) rfl (J_st (R_assign rfl) rfl (J_done ?_)))
   refine S_nil (E_again (k + 1, vo) (by simp; omega) ⟨rfl, rfl, rfl, rfl, rfl, trivial⟩ ⟨E, (by omega), h1, (by omega), Own.fin ho (Nat.le_refl _) (by omega) (filt_no (by assumption) (by simpa [← outOf_two] using hc2))⟩)
 ·have hc1n : ¬ k < xs.length := by first | (have h := of_decide_eq_false hc1; omega) | (have h := hc1; simp at h; omega)
  refine S_exit (E_lp_exit (E_inB_exit ?_))
  refine S_seq ?_
  refine S_reg [true, true] rfl rfl ?_
  refine J_st (R_move rfl) rfl (J_st (R_assign rfl) rfl (J_done ?_))
  refine S_ret (E_done1 rfl rfl E ?_)
  exact Own.fin ho (by omega) (by omega) (filt_all (by omega))

set_option maxRecDepth 20000 in
theorem c_IndexFuncCell (vxs : Value) (xs : List Cell) (fp : Value) (p : Cell → Bool) (w : World) (hxs : RdS w vxs xs) (hp : PredF Try.prog w fp p) : Ct Try.prog 92 [vxs, fp] w (fun v _ => v = .int .i64 (findI xs p)) := by
 refine ct_of Try.func92 rfl Try.ntmps92 rfl ?_
 obtain ⟨fid, fs, fc, rfl, hcf, hpf⟩ := hp
 refine S_sub [(0, vxs), (1, .func (.func fid) fs.toArray fc.toArray)] ⟨rfl, rfl, trivial⟩ ?_
 have E : Ext w w := Ext.refl w
 refine S_seq ?_
 refine S_reg [true] rfl rfl ?_
 refine J_st (R_assign rfl) rfl (J_done ?_)
 refine S_seq ?_
 refine S_seq ?_
 refine S_reg [true, true, true] rfl rfl ?_
 refine J_st (R_move rfl) rfl (J_st (R_len Try.underlying27 rfl (hxs.ext E).len) rfl (J_st (R_move rfl) rfl (J_done ?_)))
 refine S_block ?_
 refine S_loop (fun (k : Nat) => [(0, vxs), (1, .func (.func fid) fs.toArray fc.toArray), (4, .int .i64 0), (7, .int .i64 ((xs.length : Nat) : Int)), (8, .int .i64 ((k : Nat) : Int))]) (fun (k : Nat) w' => Ext w w' ∧ w.heap.size ≤ w'.heap.size ∧ k ≤ xs.length ∧ (xs.take k).any p = false) (fun (k : Nat) => xs.length - k) 0 ⟨rfl, rfl, rfl, rfl, rfl, trivial⟩ ⟨E, Nat.le_refl _, Nat.zero_le _, rfl⟩ ?_
 clear E
 rintro k w1 ⟨E, z1, hk, hI⟩
 refine S_seq ?_
 refine S_reg [true] rfl rfl ?_
 refine J_st (R_lss rfl rfl) rfl (J_done ?_)
 refine S_seq ?_
 refine S_cond rfl (fun hc1 => ?_) (fun hc1 => ?_)
 ·have hc1n : k < xs.length := by first | (have h := of_decide_eq_true hc1; omega) | (have h := hc1; simp at h; omega)
  refine S_skip ?_
  refine S_seq ?_
  refine S_block ?_
  refine S_seq ?_
  refine S_reg [true, true] rfl rfl ?_
  refine J_st (R_move rfl) rfl (J_st (R_assign rfl) rfl (J_done ?_))
  refine S_seq ?_
  refine S_reg [true, true, true, true, true, false] rfl rfl ?_
  refine J_st (R_move rfl) rfl (J_st (R_move rfl) rfl (J_st (R_move rfl) rfl ?_))
  have hi1 : k < xs.length := (by first | assumption | omega | (simp only [List.length_set]; first | assumption | omega) | (simp only [List.getElem_set_self, List.length_set]; first | assumption | omega) | (simp only [setW, setLk, List.length_set]; first | assumption | omega) | (simp; done))
  refine J_st (R_index (i := k) sl27 rfl rfl (hxs.ext E) hi1) rfl (J_st (R_loadS st56 rfl ((hxs.ext E).get hi1) rfl) rfl ?_)
  refine J_callV (fs := fs) (cs := fc) hcf rfl rfl (hpf (xs[k]'hi1) _ E) rfl (fun _ w2 e1 hv => ?_)
  subst hv
  replace E := E.trans e1
  have z2 := e1.size
  refine J_done ?_
  refine S_cond rfl (fun hc2 => ?_) (fun hc2 => ?_)
  ·refine S_seq ?_
   refine S_reg [true, true] rfl rfl ?_
   refine J_st (R_move rfl) rfl (J_st (R_assign rfl) rfl (J_done ?_))
   refine S_ret (E_inB_ret (E_lp_ret (E_inB_ret (E_done1 rfl rfl E ?_))))
   exact find_yes hI (by assumption) hc2
  ·refine S_skip ?_
   refine S_nil (E_inB ?_)
   refine S_reg [true, true] rfl rfl ?_
   refine J_st (R_add rfl rfl (add_one hc1n hxs.1)) rfl (J_st (R_move rfl) rfl (J_done ?_))
   refine S_nil (E_again (k + 1) (by omega) ⟨rfl, rfl, rfl, rfl, rfl, trivial⟩ ⟨E, (by omega), (by omega), any_step hI (by assumption) hc2⟩)
 ·have hc1n : ¬ k < xs.length := by first | (have h := of_decide_eq_false hc1; omega) | (have h := hc1; simp at h; omega)
  refine S_exit (E_lp_exit (E_inB_exit ?_))
  refine S_seq ?_
  refine S_reg [true] rfl rfl ?_
  refine J_st (R_assign rfl) rfl (J_done ?_)
  refine S_ret (E_done1 rfl rfl E ?_)
  exact find_no hI (by omega)

set_option maxRecDepth 20000 in
theorem c_DeleteFuncCell (vxs : Value) (lo hi : Nat) (xs : List Cell) (fp : Value) (p : Cell → Bool) (w : World) (hxs : Own w lo hi 4 vxs (List.flatMap (Enc.enc (α := Cell)) xs)) (hp : PredR Try.prog w lo hi fp p) (hhi : hi ≤ w.heap.size) : CtR Try.prog 83 [vxs, fp] w lo hi (fun v w' => Own w' lo w'.heap.size 4 v (List.flatMap (Enc.enc (α := Cell)) (List.filter (fun y => !(p y)) xs))) := by
 have hmx := (Own.rd (α := Cell) (by decide) hxs).1
 unfold maxLen at hmx
 refine ctR_of Try.func83 rfl Try.ntmps83 rfl ?_
 obtain ⟨fid, fs, fc, rfl, hcf, hpf⟩ := hp
 refine S_sub [(0, vxs), (1, .func (.func fid) fs.toArray fc.toArray)] ⟨rfl, rfl, trivial⟩ ?_
 have E : ModR w w lo hi := ModR.refl w lo hi
 refine S_seq ?_
 refine S_reg [true] rfl rfl ?_
 refine J_st (R_assign rfl) rfl (J_done ?_)
 refine S_seq ?_
 refine S_reg [true, true, false, true] rfl rfl ?_
 refine J_st (R_move rfl) rfl (J_st (R_move rfl) rfl ?_)
 refine J_call Try.call92 (by rfl) (c_IndexFuncCell vxs xs (.func (.func fid) fs.toArray fc.toArray) (p) _ (Own.rd (by decide) hxs) ⟨fid, fs, fc, rfl, hcf, fun y w' e => hpf y w' (E.ext e)⟩) rfl (fun _ w1 e1 hv => ?_)
 subst hv
 replace E := E.ext e1; replace hxs := hxs.ext e1
 have z1 := e1.size
 refine J_st (R_assign rfl) rfl (J_done ?_)
 refine S_seq ?_
 refine S_seq ?_
 refine S_reg [true, true] rfl rfl ?_
 refine J_st (R_move rfl) rfl (J_st (R_eql rfl rfl) rfl (J_done ?_))
 refine S_cond rfl (fun hc1 => ?_) (fun hc1 => ?_)
 ·refine S_seq ?_
  refine S_reg [true, true] rfl rfl ?_
  refine J_st (R_move rfl) rfl (J_st (R_assign rfl) rfl (J_done ?_))
  refine S_ret (E_done1 rfl rfl E ?_)
  exact Own.fin hxs (Nat.le_refl _) (by have := E.size; omega) (by rw [del_none (by simpa using hc1)])
 ·have hany := find_some (by simpa using hc1)
  have hfl := find_lt hany
  rw [find_eq hany]
  refine S_skip ?_
  refine S_seq ?_
  refine S_seq ?_
  refine S_reg [true, true, true] rfl rfl ?_
  refine J_st (R_move rfl) rfl (J_st (R_add rfl rfl (add_nat (by unfold maxLen; omega))) rfl (J_st (R_assign rfl) rfl (J_done ?_)))
  refine S_block ?_
  refine S_loop (fun (xq : Nat × Nat × List Cell) => let ⟨j, i, ys⟩ := xq; [(0, vxs), (1, .func (.func fid) fs.toArray fc.toArray), (4, .slice none 0 0), (5, .int .i64 ((i : Nat) : Int)), (6, .int .i64 ((j : Nat) : Int))]) (fun (xq : Nat × Nat × List Cell) w' => let ⟨j, i, ys⟩ := xq; ModR w w' lo hi ∧ w1.heap.size ≤ w'.heap.size ∧ ys.length = xs.length ∧ i < j ∧ j ≤ xs.length ∧ ys.take i = (xs.take j).filter (fun y => !p y) ∧ ys.drop j = xs.drop j ∧ Own w' lo hi 4 vxs (List.flatMap (Enc.enc (α := Cell)) ys)) (fun (xq : Nat × Nat × List Cell) => let ⟨j, i, ys⟩ := xq; xs.length - j) (xs.findIdx p + 1, xs.findIdx p, xs) ⟨rfl, rfl, rfl, rfl, rfl, trivial⟩ ⟨E, Nat.le_refl _, rfl, (by omega), (by omega), (del_start hany), rfl, hxs⟩ ?_
  clear E hxs
  rintro ⟨j, i, ys⟩ w2 ⟨E, z2, hyl, hij, hjl, hI, hD, hxs⟩
  refine S_sub [(0, vxs), (1, .func (.func fid) fs.toArray fc.toArray), (4, .slice none 0 0), (5, .int .i64 ((i : Nat) : Int)), (6, .int .i64 ((j : Nat) : Int))] ⟨rfl, rfl, rfl, rfl, rfl, trivial⟩ ?_
  refine S_seq ?_
  refine S_seq ?_
  refine S_reg [true, true, true, true] rfl rfl ?_
  refine J_st (R_move rfl) rfl (J_st (R_move rfl) rfl (J_st (R_len Try.underlying27 rfl (Own.lenE (by decide) hxs hyl)) rfl (J_st (R_lss rfl rfl) rfl (J_done ?_))))
  refine S_cond rfl (fun hc2 => ?_) (fun hc2 => ?_)
  ·have hc2n : j < xs.length := by first | (have h := of_decide_eq_true hc2; omega) | (have h := hc2; simp at h; omega)
   refine S_skip ?_
   refine S_seq ?_
   refine S_block ?_
   refine S_seq ?_
   refine S_reg [true, true, true, true, false, false] rfl rfl ?_
   refine J_st (R_move rfl) rfl (J_st (R_move rfl) rfl ?_)
   have hi1 : j < ys.length := (by first | assumption | omega | (simp only [List.length_set]; first | assumption | omega) | (simp only [List.getElem_set_self, List.length_set]; first | assumption | omega) | (simp only [setW, setLk, List.length_set]; first | assumption | omega) | (simp; done))
   refine J_st (R_index (i := j) sl27 rfl rfl (Own.rd (by decide) hxs) hi1) rfl (J_st (R_loadS st56 rfl ((Own.rd (by decide) hxs).get hi1) rfl) rfl ?_)
   refine J_alloc st56 rfl (fun b1 w3 e2 s1 h1 => ?_)
   have g_b1 : w.heap.size ≤ b1 := by have := E.size; omega
   have y_b1 := h1.lt
   replace E := E.ext e2; replace hxs := hxs.ext e2
   have z3 := e2.size
   refine J_storeS' (cs' := [.int .i64 ((ys[j]'hi1).op), .int .i64 ((ys[j]'hi1).epoch), .int .i64 ((ys[j]'hi1).key), .int .i64 ((ys[j]'hi1).val)]) st56 rfl rfl rfl rfl h1 (Nat.le_of_ble_eq_true rfl) rfl (fun w4 m1 h1' => ?_)
   replace h1 := h1'
   replace E := E.mod m1 (fun g hg => by cases hg; omega); replace hxs := hxs.mod m1 (fun g hg => by cases hg; omega)
   have z4 := m1.size
   refine J_done ?_
   refine S_seq ?_
   refine S_reg [true, true, false, true] rfl rfl ?_
   refine J_st (R_move rfl) rfl (J_st (R_loadS st56 rfl h1.at rfl) rfl ?_)
   refine J_callV (fs := fs) (cs := fc) hcf rfl rfl (hpf (ys[j]'hi1) _ E) rfl (fun _ w5 e3 hv => ?_)
   subst hv
   replace E := E.ext e3; replace hxs := hxs.ext e3; replace h1 := h1.ext e3
   have z5 := e3.size
   refine J_st (R_not rfl) rfl (J_done ?_)
   refine S_cond rfl (fun hc3 => ?_) (fun hc3 => ?_)
   ·refine S_seq ?_
    refine S_reg [true, true, true, true, false] rfl rfl ?_
    refine J_st (R_move rfl) rfl (J_st (R_move rfl) rfl (J_st (R_loadS st56 rfl h1.at rfl) rfl ?_))
    have hi2 : i < ys.length := (by first | assumption | omega | (simp only [List.length_set]; first | assumption | omega) | (simp only [List.getElem_set_self, List.length_set]; first | assumption | omega) | (simp only [setW, setLk, List.length_set]; first | assumption | omega) | (simp; done))
    refine J_st (R_index (i := i) sl27 rfl rfl (Own.rd (by decide) hxs) hi2) rfl ?_
    refine J_storeElem (α := Cell) (i := i) (ys[j]'hi1) st56 rfl rfl rfl hxs hi2 (fun w6 m2 hxs' => ?_)
    have hq := Own.blk hxs
    replace hxs := hxs'
    replace E := E.mod m2 (fun g hg => by have := hq g hg; omega); replace h1 := h1.mod m2 (fun g hg => by have := hq g hg; omega)
    have z6 := m2.size
    clear hq
    refine J_done ?_
    refine S_reg [true, true, true] rfl rfl ?_
    refine J_st (R_move rfl) rfl (J_st (R_add rfl rfl (add_nat (by unfold maxLen; omega))) rfl (J_st (R_assign rfl) rfl (J_done ?_)))
    refine S_nil (E_inB ?_)
    refine S_reg [true, true, true] rfl rfl ?_
    refine J_st (R_move rfl) rfl (J_st (R_add rfl rfl (add_nat (by unfold maxLen; omega))) rfl (J_st (R_assign rfl) rfl (J_done ?_)))
    refine S_nil (E_again (j + 1, i + 1, List.set ys i (ys[j]'hi1)) (by simp; omega) ⟨rfl, rfl, rfl, rfl, rfl, trivial⟩ ⟨E, (by omega), (by simpa using hyl), (by omega), (by omega), (del_yes1 hI hD hyl hij (by omega) (by simpa using hc3)), (del_yes2 hD hyl hij), hxs⟩)
   ·refine S_skip ?_
    refine S_nil (E_inB ?_)
    refine S_reg [true, true, true] rfl rfl ?_
    refine J_st (R_move rfl) rfl (J_st (R_add rfl rfl (add_nat (by unfold maxLen; omega))) rfl (J_st (R_assign rfl) rfl (J_done ?_)))
    refine S_nil (E_again (j + 1, i, ys) (by simp; omega) ⟨rfl, rfl, rfl, rfl, rfl, trivial⟩ ⟨E, (by omega), (by simpa using hyl), (by omega), (by omega), (del_no1 hI hD hyl hij (by omega) (by simpa using hc3)), (del_no2 hD hyl hij), hxs⟩)
  ·have hc2n : ¬ j < xs.length := by first | (have h := of_decide_eq_false hc2; omega) | (have h := hc2; simp at h; omega)
   refine S_exit (E_lp_exit (E_inB_exit ?_))
   refine S_seq ?_
   refine S_reg [true, true, true, false] rfl rfl ?_
   refine J_st (R_move rfl) rfl (J_st (R_move rfl) rfl ?_)
   have hk1 : i ≤ ys.length := by first | assumption | omega
   refine J_st (R_sliceFrom sl27 rfl rfl (Own.roomE (α := Cell) hxs) hk1) rfl ?_
   have hrm1 := Own.roomE (α := Cell) hxs
   have hq := Own.blk hxs
   refine J_clear (α := Cell) sl27 st56 rfl rfl hxs (by first | assumption | omega) (fun w7 m3 ho1 => ?_)
   replace E := E.mod m3 (fun g hg => by have := hq g hg; omega)
   have z7 := m3.size
   clear hq
   refine J_done ?_
   refine S_seq ?_
   refine S_reg [true, true, true, true] rfl rfl ?_
   refine J_st (R_move rfl) rfl (J_st (R_move rfl) rfl ?_)
   have hk2 : i ≤ ys.length := by first | assumption | omega
   refine J_st (R_sliceTo sl27 rfl rfl hrm1 hk2) rfl (J_st (R_assign rfl) rfl (J_done ?_))
   refine S_ret (E_done1 rfl rfl E ?_)
   exact Own.fin ho1 (Nat.le_refl _) (by have := E.size; omega) (by rw [del_end hI (by omega)])

set_option maxHeartbeats 4000000 in
set_option maxRecDepth 20000 in
theorem c_InsertCell (vxs : Value) (lo hi : Nat) (xs : List Cell) (i : Nat) (bqy : Nat) (y : Cell) (w : World) (hxs : Own w lo hi 4 vxs (List.flatMap (Enc.enc (α := Cell)) xs)) (hy : Blk w bqy (Enc.enc y)) (hlo : lo ≤ w.heap.size) (hhi : hi ≤ w.heap.size) (hil : i ≤ xs.length) (hyb : hi ≤ bqy) (hbd : xs.length ≤ 4194304) : CtR Try.prog 89 [vxs, .int .i64 ((i : Nat) : Int), .slice (some ⟨bqy, 0, none⟩) 1 1] w lo hi (fun v w' => Own w' lo w'.heap.size 4 v (List.flatMap (Enc.enc (α := Cell)) (insM xs i y))) := by
 have hyl := hy.lt
 refine ctR_of Try.func89 rfl Try.ntmps89 rfl ?_
 refine S_sub [(0, vxs), (1, .int .i64 ((i : Nat) : Int)), (2, .slice (some ⟨bqy, 0, none⟩) 1 1)] ⟨rfl, rfl, rfl, trivial⟩ ?_
 have E : ModR w w lo hi := ModR.refl w lo hi
 refine S_seq ?_
 refine S_reg [true] rfl rfl ?_
 refine J_st (R_assign rfl) rfl (J_done ?_)
 refine S_seq ?_
 refine S_reg [true, true, true] rfl rfl ?_
 refine J_st (R_move rfl) rfl (J_st (R_move rfl) rfl ?_)
 have hk1 : i ≤ xs.length := by first | assumption | omega
 refine J_st (R_sliceFrom sl27 rfl rfl (Own.roomE (α := Cell) hxs) hk1) rfl (J_done ?_)
 refine S_seq ?_
 refine S_reg [true, true, true] rfl rfl ?_
 refine J_st (R_move rfl) rfl (J_st (R_len Try.underlying27 rfl ⟨_, _, rfl⟩) rfl (J_st (R_assign rfl) rfl (J_done ?_)))
 refine S_seq ?_
 refine S_seq ?_
 refine S_reg [true, true] rfl rfl ?_
 refine J_st (R_move rfl) rfl (J_st (R_eql rfl rfl) rfl (J_done ?_))
 refine S_condFe rfl (by decide) ?_
 refine S_skip ?_
 refine S_seq ?_
 refine S_reg [true, true, true] rfl rfl ?_
 refine J_st (R_move rfl) rfl (J_st (R_len Try.underlying27 rfl (Own.len (by decide) hxs)) rfl (J_st (R_assign rfl) rfl (J_done ?_)))
 refine S_seq ?_
 refine S_seq ?_
 refine S_reg [true, true, true] rfl rfl ?_
 refine J_st (R_move rfl) rfl (J_st (R_move rfl) rfl (J_st (R_eql rfl rfl) rfl (J_done ?_)))
 refine S_cond rfl (fun hc1 => ?_) (fun hc1 => ?_)
 ·have hc1n : i = xs.length := by first | (have h := of_decide_eq_true hc1; omega) | (have h := hc1; simp at h; omega)
  refine S_seq ?_
  refine S_reg [true, true, false, true] rfl rfl ?_
  refine J_st (R_move rfl) rfl (J_st (R_move rfl) rfl ?_)
  refine J_append sl27 rfl rfl hxs (Src.ofBlk hy (by rfl)) (Enc.one _) (by simp only [sum_flat, Enc.len]; simp only [show Enc.sz Cell = 4 from rfl]; omega) (by decide) (by omega) (by omega) rfl rfl (fun v1 w1 m1 ho1 => ?_)
  replace E := E.mod m1 (fun g hg => by have := Own.blk hxs g hg; omega); replace hy := hy.mod m1 (fun g hg => by have := Own.blk hxs g hg; omega)
  have z1 := m1.size
  refine J_st (R_assign rfl) rfl (J_done ?_)
  refine S_ret (E_done1 rfl rfl E ?_)
  exact Own.fin ho1 (Nat.le_refl _) (by omega) (ins_end (by have h := hc1; simp at h; omega))
 ·have hlt : i < xs.length := by have h := hc1; simp at h; omega
  obtain ⟨g, off, cap, cur, rfl, hg1, hg2, hB, hn, hcm, hrr, hcur⟩ := Own.conc (n := xs.length) hxs (sum_flat xs) (by decide) (by omega)
  have hc1n : ¬ i = xs.length := by first | (have h := of_decide_eq_false hc1; omega) | (have h := hc1; simp at h; omega)
  refine S_skip ?_
  refine S_seq ?_
  refine S_seq ?_
  refine S_reg [true, true, true, true, true, true] rfl rfl ?_
  refine J_st (R_move rfl) rfl (J_st (R_move rfl) rfl (J_st (R_add rfl rfl (add_nat (by unfold maxLen; omega))) rfl (J_st (R_move rfl) rfl (J_st (R_cap Try.underlying27 rfl) rfl (J_st (R_gtr rfl rfl) rfl (J_done ?_))))))
  refine S_cond rfl (fun hc2 => ?_) (fun hc2 => ?_)
  ·have hc2n : xs.length + 1 > cap := by first | (have h := of_decide_eq_true hc2; omega) | (have h := hc2; simp at h; omega)
   refine S_seq ?_
   refine S_reg [true, true, true, true, true, true, true, true, false, true] rfl rfl ?_
   refine J_st (R_move rfl) rfl (J_st (R_move rfl) rfl (J_st (R_sliceToC sl27 rfl rfl (by omega)) rfl (J_st (R_move rfl) rfl (J_st (R_move rfl) rfl (J_st (R_add rfl rfl (add_nat (by unfold maxLen; omega))) rfl (J_st (R_move rfl) rfl (J_st (R_sub rfl rfl (nat_sub (by omega) (by unfold maxLen; omega))) rfl ?_)))))))
   refine J_appendZ sl27 Try.underlying3 rfl rfl (Blk.seg hB (fun j u hj => hcur j u (take_pre hj))) (by rw [sum_flat, List.length_take, Nat.min_eq_left (by omega)]; rfl) (by omega) (by omega) (by omega) (by decide) rfl (fun b2 G rest wZ eZ sZ h2 hG hGm hrl => ?_)
   have g_b2 : w.heap.size ≤ b2 := by have := E.size; omega
   have y_b2 := h2.lt
   replace E := E.ext eZ; replace hy := hy.ext eZ; replace hB := hB.ext eZ
   have z2 := eZ.size
   have hLA : (List.flatMap (Enc.enc (α := Cell)) (xs.take i)).length = i * 4 := by rw [sum_flat, List.length_take, Nat.min_eq_left (by omega)]; rfl
   refine J_st (R_assign rfl) rfl (J_done ?_)
   refine S_seq ?_
   refine S_reg [true, true, true, true, false] rfl rfl ?_
   refine J_st (R_move rfl) rfl (J_st (R_move rfl) rfl (J_st (R_sliceFromC sl27 rfl rfl (by omega) (by omega) (by omega)) rfl (J_st (R_move rfl) rfl ?_)))
   refine J_copy 1 sl27 rfl rfl (Nat.min_eq_left (by omega)) h2 (Blk.at hy) (by rfl) (Enc.one y) (by rw [Enc.len, List.length_append, hLA, hrl]; simp only [show Enc.sz Cell = 4 from rfl]; omega) rfl (fun w2 m2 h2' => ?_)
   replace h2 := h2'
   replace E := E.mod m2 (fun g hg => by cases hg; omega); replace hy := hy.mod m2 (fun g hg => by cases hg; omega); replace hB := hB.mod m2 (fun g hg => by cases hg; omega)
   have z3 := m2.size
   refine J_done ?_
   refine S_seq ?_
   refine S_regD mixed [(0, true), (1, true), (2, true), (3, true), (4, true), (5, true), (6, true), (7, true), (8, false)] (by decide +kernel) rfl (fun w3 e1 => ?_)
   replace E := E.ext e1; replace hy := hy.ext e1; replace hB := hB.ext e1; replace h2 := h2.ext e1
   have z4 := e1.size
   refine J_st (R_move rfl) rfl (J_st (R_move rfl) rfl (J_st (R_move rfl) rfl (J_st (R_add rfl rfl (add_nat (by unfold maxLen; omega))) rfl (J_st (R_sliceFromC sl27 rfl rfl (by omega) (by omega) (by omega)) rfl (J_st (R_move rfl) rfl (J_st (R_move rfl) rfl (J_st (R_sliceFromC sl27 rfl rfl (by omega) (by omega) (by omega)) rfl ?_)))))))
   refine J_copy (xs.length - i) sl27 rfl rfl (by show min _ _ = _; omega) h2 (Blk.seg hB (fun j u hj => by rw [Nat.add_assoc]; exact hcur _ u (drop_pre hj))) (by rw [sum_flat, List.length_drop]; rfl) (flat_one _) (by rw [spl_length, sum_flat, List.length_drop, List.length_append, hLA, hrl]; simp only [show Enc.sz Cell = 4 from rfl]; omega) rfl (fun w4 m3 h2' => ?_)
   replace h2 := h2'
   replace E := E.mod m3 (fun g hg => by cases hg; omega); replace hy := hy.mod m3 (fun g hg => by cases hg; omega); replace hB := hB.mod m3 (fun g hg => by cases hg; omega)
   have z5 := m3.size
   refine J_done ?_
   refine S_seq ?_
   refine S_reg [true, true] rfl rfl ?_
   refine J_st (R_move rfl) rfl (J_st (R_assign rfl) rfl (J_done ?_))
   refine S_ret (E_done1 rfl rfl E ?_)
   have hLC : (List.flatMap (Enc.enc (α := Cell)) (xs.drop i)).length = (xs.length - i) * 4 := by rw [sum_flat, List.length_drop]; rfl
   have hLB : (Enc.enc y).length = 4 := rfl
   exact Own.of h2 (by omega) h2.lt (by omega) hGm (by rw [spl_length, spl_length, List.length_append, hLA, hrl]; omega) (by rw [insM_flat]; simp only [List.length_append, hLA, hLB, hLC]; omega) (by rw [insM_flat]; exact ins_rowE (by omega) (by omega) (fun j u hj => by rw [Nat.zero_add, List.getElem?_append_left (List.getElem?_eq_some_iff.1 hj).1]; exact hj) (by rw [List.length_append, hLA, hLB, hLC, hrl]; omega))
  ·have hc2n : ¬ xs.length + 1 > cap := by first | (have h := of_decide_eq_false hc2; omega) | (have h := hc2; simp at h; omega)
   refine S_skip ?_
   refine S_seq ?_
   refine S_reg [true, true, true, true, true, true] rfl rfl ?_
   refine J_st (R_move rfl) rfl (J_st (R_move rfl) rfl (J_st (R_move rfl) rfl (J_st (R_add rfl rfl (add_nat (by unfold maxLen; omega))) rfl (J_st (R_sliceToC sl27 rfl rfl (by omega)) rfl (J_st (R_assign rfl) rfl (J_done ?_))))))
   refine S_seq ?_
   refine S_seq ?_
   refine S_reg [true, true, true, true, true, true, false, true] rfl rfl ?_
   refine J_st (R_move rfl) rfl (J_st (R_move rfl) rfl (J_st (R_move rfl) rfl (J_st (R_move rfl) rfl (J_st (R_add rfl rfl (add_nat (by unfold maxLen; omega))) rfl (J_st (R_sliceFromC sl27 rfl rfl (by omega) (by omega) (by omega)) rfl ?_)))))
   have hov : (callFunc 94 ([.slice (some ⟨bqy, 0, none⟩) 1 1, .slice (some ⟨g, off + (i + 1) * 4, none⟩) ((xs.length + 1) - (i + 1)) (cap - (i + 1))]).toArray).run Try.prog w = .ok (.value (.bool false)) w := by rw [run_callFunc_extern Try.func94 (by kernel_rfl) (by kernel_rfl) (by kernel_rfl) (e := Extern.SlicesOverlaps.overlaps #[27, 27] #[4]) (by kernel_rfl)]; show ((Extern.SlicesOverlaps.overlaps #[27, 27] #[4] #[.slice (some ⟨bqy, 0, none⟩) 1 1, .slice (some ⟨g, off + (i + 1) * 4, none⟩) ((xs.length + 1) - (i + 1)) (cap - (i + 1))]).run Try.prog w).andThen _ = _; rw [run_ov sl27 st56.size hy hB (by omega) (by omega)]; rfl
   refine J_extern (vs := [.slice (some ⟨bqy, 0, none⟩) 1 1, .slice (some ⟨g, off + (i + 1) * 4, none⟩) ((xs.length + 1) - (i + 1)) (cap - (i + 1))]) rfl hov rfl ?_
   refine J_st (R_not rfl) rfl (J_done ?_)
   refine S_condTe rfl (by first | (simp; done) | (simp only [nat_nlt] <;> simp) | (simp only [mkL_length, nat_nlt] <;> simp) | (simp only [mkL_length] <;> simp)) ?_
   refine S_seq ?_
   refine S_regD mixed [(0, true), (1, true), (2, true), (3, true), (4, true), (5, true), (6, true), (7, true), (8, false)] (by decide +kernel) rfl (fun w5 e2 => ?_)
   replace E := E.ext e2; replace hy := hy.ext e2; replace hB := hB.ext e2
   have z6 := e2.size
   refine J_st (R_move rfl) rfl (J_st (R_move rfl) rfl (J_st (R_move rfl) rfl (J_st (R_add rfl rfl (add_nat (by unfold maxLen; omega))) rfl (J_st (R_sliceFromC sl27 rfl rfl (by omega) (by omega) (by omega)) rfl (J_st (R_move rfl) rfl (J_st (R_move rfl) rfl (J_st (R_sliceFromC sl27 rfl rfl (by omega) (by omega) (by omega)) rfl ?_)))))))
   refine J_copy (xs.length - i) sl27 rfl rfl (by show min _ _ = _; omega) hB (Blk.seg hB (fun j u hj => by rw [Nat.add_assoc]; exact hcur _ u (drop_pre hj))) (by rw [sum_flat, List.length_drop]; rfl) (flat_one _) (by rw [sum_flat, List.length_drop]; simp only [show Enc.sz Cell = 4 from rfl]; omega) rfl (fun w6 m4 hB' => ?_)
   replace hB := hB'
   replace E := E.mod m4 (fun g hg => by cases hg; omega); replace hy := hy.mod m4 (fun g hg => by cases hg; omega)
   have z7 := m4.size
   refine J_done ?_
   refine S_seq ?_
   refine S_reg [true, true, true, true, false] rfl rfl ?_
   refine J_st (R_move rfl) rfl (J_st (R_move rfl) rfl (J_st (R_sliceFromC sl27 rfl rfl (by omega) (by omega) (by omega)) rfl (J_st (R_move rfl) rfl ?_)))
   refine J_copy 1 sl27 rfl rfl (Nat.min_eq_left (by omega)) hB (Blk.at hy) (by rfl) (Enc.one y) (by rw [spl_length, Enc.len]; simp only [show Enc.sz Cell = 4 from rfl]; omega) rfl (fun w7 m5 hB' => ?_)
   replace hB := hB'
   replace E := E.mod m5 (fun g hg => by cases hg; omega); replace hy := hy.mod m5 (fun g hg => by cases hg; omega)
   have z8 := m5.size
   refine J_done ?_
   refine S_seq ?_
   refine S_reg [true, true] rfl rfl ?_
   refine J_st (R_move rfl) rfl (J_st (R_assign rfl) rfl (J_done ?_))
   refine S_ret (E_done1 rfl rfl E ?_)
   have hLA : (List.flatMap (Enc.enc (α := Cell)) (xs.take i)).length = i * 4 := by rw [sum_flat, List.length_take, Nat.min_eq_left (by omega)]; rfl
   have hLC : (List.flatMap (Enc.enc (α := Cell)) (xs.drop i)).length = (xs.length - i) * 4 := by rw [sum_flat, List.length_drop]; rfl
   have hLB : (Enc.enc y).length = 4 := rfl
   exact Own.of hB hg1 (by omega) (by omega) hcm (by rw [spl_length, spl_length]; exact hrr) (by rw [insM_flat]; simp only [List.length_append, hLA, hLB, hLC]; omega) (by rw [insM_flat]; exact ins_row2E (by omega) (by omega) (fun j u hj => hcur j u (take_pre hj)) (by rw [hLA, hLB, hLC]; omega))

set_option maxRecDepth 20000 in
theorem c_PutCell (vxs : Value) (xs : List Cell) (x : Cell) (w : World) (hxs : RdS w vxs xs) (hb : xs.length ≤ 4194304) : Ct Try.prog 75 [vxs, .agg (Enc.enc x).toArray] w (fun v w' => Own w' w.heap.size w'.heap.size 4 v (List.flatMap (Enc.enc (α := Cell)) (putM xs x))) := by
 refine ct_of Try.func75 rfl Try.ntmps75 rfl ?_
 refine S_sub [(0, vxs), (1, .agg (Enc.enc x).toArray)] ⟨rfl, rfl, trivial⟩ ?_
 have E : Ext w w := Ext.refl w
 refine S_seq ?_
 refine S_reg [false, true] rfl rfl ?_
 refine J_box rfl rfl (fun b1 w1 e1 s1 h1 => ?_)
 have g_b1 : w.heap.size ≤ b1 := by have := E.size; omega
 have y_b1 := h1.lt
 replace E := E.trans e1
 have z1 := e1.size
 refine J_st (R_assign rfl) rfl (J_done ?_)
 refine S_seq ?_
 refine S_reg [true, false, true] rfl rfl ?_
 refine J_st (R_move rfl) rfl ?_
 refine J_call Try.call44 rfl (c_copyCells vxs xs _ (hxs.ext E) (by first | omega | (simp only [mkL_length]; omega) | (rw [mkL_length]; done) | (simp only [mkL_length]; done))) rfl (fun v1 w2 e2 ho1 => ?_)
 have g_ho1 : w.heap.size ≤ w1.heap.size := E.size
 replace E := E.trans e2; replace h1 := h1.ext e2
 have z2 := e2.size
 refine J_st (R_assign rfl) rfl (J_done ?_)
 refine S_seq ?_
 refine S_seq ?_
 refine S_reg [true, true, false] rfl rfl ?_
 refine J_st (R_move rfl) rfl (J_st (R_loadS st56 rfl h1.at rfl) rfl ?_)
 refine J_call Try.call76 rfl (c_HasCell vxs xs x _ (hxs.ext E)) rfl (fun _ w3 e3 hv => ?_)
 subst hv
 replace E := E.trans e3; replace h1 := h1.ext e3; replace ho1 := ho1.ext e3
 have z3 := e3.size
 refine J_done ?_
 refine S_cond rfl (fun hc1 => ?_) (fun hc1 => ?_)
 ·refine S_seq ?_
  refine S_reg [true, true] rfl rfl ?_
  refine J_st (R_move rfl) rfl (J_st (R_assign rfl) rfl (J_done ?_))
  refine S_ret (E_done1 rfl rfl E ?_)
  exact Own.fin ho1 (by omega) (by omega) (by simp only [putM_yes hc1, List.nil_append])
 ·refine S_skip ?_
  refine S_seq ?_
  refine S_reg [true] rfl rfl ?_
  refine J_st (R_assign rfl) rfl (J_done ?_)
  refine S_seq ?_
  refine S_block ?_
  refine S_loop (fun (k : Nat) => [(0, vxs), (3, .pointer (some ⟨b1, 0, none⟩)), (4, .slice none 0 0), (5, v1), (6, .int .i64 ((k : Nat) : Int))]) (fun (k : Nat) w' => Ext w w' ∧ w3.heap.size ≤ w'.heap.size ∧ Blk w' b1 (Enc.enc x) ∧ Own w' w1.heap.size w2.heap.size 4 v1 (List.flatMap (Enc.enc (α := Cell)) xs) ∧ k ≤ xs.length ∧ (xs.take k).all (putLt x) = true) (fun (k : Nat) => xs.length - k) 0 ⟨rfl, rfl, rfl, rfl, rfl, trivial⟩ ⟨E, Nat.le_refl _, h1, ho1, Nat.zero_le _, rfl⟩ ?_
  clear E h1 ho1
  rintro k w4 ⟨E, z4, h1, ho1, hk, hI⟩
  refine S_seq ?_
  refine S_seq ?_
  refine S_regD mixed [(0, true), (1, true), (2, true), (3, true), (4, true), (5, true), (6, true), (7, true), (8, true), (9, true), (10, false), (11, true), (12, true)] (by decide +kernel) rfl (fun w5 e4 => ?_)
  replace E := E.trans e4; replace h1 := h1.ext e4; replace ho1 := ho1.ext e4
  have z5 := e4.size
  refine J_st (R_move rfl) rfl (J_st (R_move rfl) rfl (J_st (R_len Try.underlying27 rfl (hxs.ext E).len) rfl (J_st (R_lss rfl rfl) rfl (J_st (R_move rfl) rfl ?_))))
  refine J_cut 8 [(0, vxs), (3, .pointer (some ⟨b1, 0, none⟩)), (4, .slice none 0 0), (5, v1), (6, .int .i64 ((k : Nat) : Int)), (25, .bool ((decide (((k : Nat) : Int) < ((xs.length : Nat) : Int))) && (decide ((cellOrd (List.getD xs k default) x) < 0))))] (fun w' => Ext w w' ∧ w5.heap.size ≤ w'.heap.size ∧ Blk w' b1 (Enc.enc x) ∧ Own w' w1.heap.size w2.heap.size 4 v1 (List.flatMap (Enc.enc (α := Cell)) xs)) ?_ ?_
  ·refine J_if (gd := 17) rfl rfl (fun hg1 => ?_) (fun hg1 => ?_)
   ·have hg1n : k < xs.length := by first | (have h := of_decide_eq_true hg1; omega) | (have h := hg1; simp at h; omega)
    refine J_gd rfl rfl (R_move rfl) rfl (J_gd rfl rfl (R_move rfl) rfl (J_gd rfl rfl (R_index (i := k) sl27 rfl rfl (hxs.ext E) (by first | assumption | omega | (simp only [List.length_set]; first | assumption | omega) | (simp only [List.getElem_set_self, List.length_set]; first | assumption | omega) | (simp only [setW, setLk, List.length_set]; first | assumption | omega) | (simp; done))) rfl (J_gd rfl rfl (R_loadS st56 rfl (RdS.getD (hxs.ext E) (i := k) (by first | assumption | omega | (simp only [List.length_set]; first | assumption | omega) | (simp only [List.getElem_set_self, List.length_set]; first | assumption | omega) | (simp only [setW, setLk, List.length_set]; first | assumption | omega) | (simp; done))) rfl) rfl (J_gd rfl rfl (R_loadS st56 rfl h1.at rfl) rfl ?_))))
    refine J_ung rfl rfl ?_
    refine J_call Try.call88 rfl (c_CellOrder (List.getD xs k default) x _ ) rfl (fun _ w7 e5 hv => ?_)
    subst hv
    replace E := E.trans e5; replace h1 := h1.ext e5; replace ho1 := ho1.ext e5
    have z6 := e5.size
    refine J_gd rfl rfl (R_lss rfl rfl) rfl (J_st (R_pickT rfl rfl) rfl (J_cutEnd ⟨rfl, rfl, rfl, rfl, rfl, congrArg (fun b => some (Value.bool b)) (show (decide ((cellOrd (List.getD xs k default) x) < 0)) = ((decide (((k : Nat) : Int) < ((xs.length : Nat) : Int))) && (decide ((cellOrd (List.getD xs k default) x) < 0))) by first | (rw [hg1] <;> rfl) | (simp [hg1]; done) | (simp only [nat_nlt] <;> simp)), trivial⟩ ⟨E, (by omega), h1, ho1⟩))
   ·have hg1n : ¬ k < xs.length := by first | (have h := of_decide_eq_false hg1; omega) | (have h := hg1; simp at h; omega)
    refine J_gdno rfl rfl rfl rfl (J_gdno rfl rfl rfl rfl (J_gdno rfl rfl rfl rfl (J_gdno rfl rfl rfl rfl (J_gdno rfl rfl rfl rfl ?_))))
    refine J_ungno rfl rfl rfl rfl ?_
    refine J_gdno rfl rfl rfl rfl (J_st (R_pickF rfl rfl) rfl (J_cutEnd ⟨rfl, rfl, rfl, rfl, rfl, congrArg (fun b => some (Value.bool b)) (show false = ((decide (((k : Nat) : Int) < ((xs.length : Nat) : Int))) && (decide ((cellOrd (List.getD xs k default) x) < 0))) by first | (rw [hg1] <;> rfl) | (simp [hg1]; done) | (simp only [nat_nlt] <;> simp)), trivial⟩ ⟨E, (by omega), h1, ho1⟩))
  clear E h1 ho1
  rintro w6 ⟨E, z7, h1, ho1⟩
  refine J_done ?_
  refine S_cond rfl (fun hc2 => ?_) (fun hc2 => ?_)
  ·have hlt := put_lt hc2
   refine S_skip ?_
   refine S_block ?_
   refine S_reg [true, true, true] rfl rfl ?_
   refine J_st (R_move rfl) rfl (J_st (R_add rfl rfl (add_nat (by unfold maxLen; omega))) rfl (J_st (R_assign rfl) rfl (J_done ?_)))
   refine S_nil (E_inB ?_)
   refine S_nil (E_again (k + 1) (by omega) ⟨rfl, rfl, rfl, rfl, rfl, trivial⟩ ⟨E, (by omega), h1, ho1, (by omega), (put_step hI hc2)⟩)
  ·refine S_exit (E_lp_exit (E_inB_exit ?_))
   refine S_seq ?_
   refine S_reg [true, true, true, false, false, true] rfl rfl ?_
   refine J_st (R_move rfl) rfl (J_st (R_move rfl) rfl (J_st (R_loadS st56 rfl h1.at rfl) rfl ?_))
   refine J_buildSlice (vs := [.agg (Enc.enc x).toArray]) (css := [[.int .i64 x.op, .int .i64 x.epoch, .int .i64 x.key, .int .i64 x.val]]) sl27 rfl rfl ⟨⟨rfl, rfl⟩, trivial⟩ rfl rfl (fun b2 w8 e6 s2 h2 => ?_)
   replace h2 : Blk w8 b2 [.int .i64 x.op, .int .i64 x.epoch, .int .i64 x.key, .int .i64 x.val] := h2
   have g_b2 : w.heap.size ≤ b2 := by have := E.size; omega
   have y_b2 := h2.lt
   replace E := E.trans e6; replace h1 := h1.ext e6; replace ho1 := ho1.ext e6
   have z8 := e6.size
   refine J_callR Try.call89 rfl (by rfl) (c_InsertCell v1 w1.heap.size w2.heap.size xs k b2 x _ ho1 h2 (by omega) (by omega) (by omega) (by omega) (by omega)) rfl (fun v2 w9 e7 ho2 => ?_)
   replace E := E.stepR e7 (by omega); replace h1 := h1.modR e7 (by omega); replace h2 := h2.modR e7 (by omega)
   have z9 := e7.size
   refine J_st (R_assign rfl) rfl (J_done ?_)
   refine S_ret (E_done1 rfl rfl E ?_)
   exact Own.fin ho2 (by omega) (by omega) (by rw [putM_no hc1 hI hk hc2])

set_option maxHeartbeats 4000000 in
set_option maxRecDepth 20000 in
theorem s_PutCell (vxs : Value) (xs : List Cell) (x : Cell) (w : World) (hxs : RdS w vxs xs) (hb : xs.length ≤ 4194304) : Ct Try.prog 79 [vxs, .agg (Enc.enc x).toArray] w (fun v w' => Own w' w.heap.size w'.heap.size 4 v (List.flatMap (Enc.enc (α := Cell)) (putM xs x))) := by
 refine ct_of Try.func79 rfl Try.ntmps79 rfl ?_
 refine S_sub [(0, vxs), (1, .agg (Enc.enc x).toArray)] ⟨rfl, rfl, trivial⟩ ?_
 have E : Ext w w := Ext.refl w
 refine S_seq ?_
 refine S_reg [false, true] rfl rfl ?_
 refine J_box rfl rfl (fun b1 w1 e1 s1 h1 => ?_)
 have g_b1 : w.heap.size ≤ b1 := by have := E.size; omega
 have y_b1 := h1.lt
 replace E := E.trans e1
 have z1 := e1.size
 refine J_st (R_assign rfl) rfl (J_done ?_)
 refine S_seq ?_
 refine S_seq ?_
 refine S_reg [true, true, false] rfl rfl ?_
 refine J_st (R_move rfl) rfl (J_st (R_loadS st56 rfl h1.at rfl) rfl ?_)
 refine J_call Try.call78 rfl (s_HasCell vxs xs x _ (hxs.ext E)) rfl (fun _ w2 e2 hv => ?_)
 subst hv
 replace E := E.trans e2; replace h1 := h1.ext e2
 have z2 := e2.size
 refine J_done ?_
 refine S_cond rfl (fun hc1 => ?_) (fun hc1 => ?_)
 ·refine S_seq ?_
  refine S_reg [false, true, false, true] rfl rfl ?_
  refine J_buildSlice (vs := []) (css := []) sl27 rfl rfl trivial rfl rfl (fun b2 w3 e3 s2 h2 => ?_)
  replace h2 : Blk w3 b2 [] := h2
  have g_b2 : w.heap.size ≤ b2 := by have := E.size; omega
  have y_b2 := h2.lt
  replace E := E.trans e3; replace h1 := h1.ext e3
  have z3 := e3.size
  refine J_st (R_move rfl) rfl ?_
  refine J_append sl27 rfl rfl (Own.ofBlk (lo := b2) (hi := b2 + 1) (sz := 4) h2 (Nat.le_refl _) (Nat.lt_succ_self _) (by simp) (by simp [maxLen])) (RdS.src (hxs.ext E)) (flat_one _) (by simp only [sum_flat, List.length_nil, List.length_append, List.length_take, List.length_drop, List.length_cons]; simp only [Enc.sz]; omega) (by decide) (by omega) (by omega) rfl rfl (fun v1 w4 m1 ho1 => ?_)
  replace E := E.step m1 (fun g hg => by have := Own.blk (Own.ofBlk (lo := b2) (hi := b2 + 1) (sz := 4) h2 (Nat.le_refl _) (Nat.lt_succ_self _) (by simp) (by simp [maxLen])) g hg; omega); replace h1 := h1.mod m1 (fun g hg => by have := Own.blk (Own.ofBlk (lo := b2) (hi := b2 + 1) (sz := 4) h2 (Nat.le_refl _) (Nat.lt_succ_self _) (by simp) (by simp [maxLen])) g hg; omega)
  have z4 := m1.size
  refine J_st (R_assign rfl) rfl (J_done ?_)
  refine S_ret (E_done1 rfl rfl E ?_)
  exact Own.fin ho1 (by omega) (by omega) (by simp only [putM_yes hc1, List.nil_append])
 ·refine S_skip ?_
  refine S_seq ?_
  refine S_reg [true] rfl rfl ?_
  refine J_st (R_assign rfl) rfl (J_done ?_)
  refine S_seq ?_
  refine S_block ?_
  refine S_loop (fun (k : Nat) => [(0, vxs), (3, .pointer (some ⟨b1, 0, none⟩)), (4, .slice none 0 0), (5, .int .i64 ((k : Nat) : Int))]) (fun (k : Nat) w' => Ext w w' ∧ w2.heap.size ≤ w'.heap.size ∧ Blk w' b1 (Enc.enc x) ∧ k ≤ xs.length ∧ (xs.take k).all (putLt x) = true) (fun (k : Nat) => xs.length - k) 0 ⟨rfl, rfl, rfl, rfl, trivial⟩ ⟨E, Nat.le_refl _, h1, Nat.zero_le _, rfl⟩ ?_
  clear E h1
  rintro k w5 ⟨E, z5, h1, hk, hI⟩
  refine S_seq ?_
  refine S_seq ?_
  refine S_regD mixed [(0, true), (1, true), (2, true), (3, true), (4, true), (5, true), (6, true), (7, true), (8, true), (9, true), (10, false), (11, true), (12, true)] (by decide +kernel) rfl (fun w6 e4 => ?_)
  replace E := E.trans e4; replace h1 := h1.ext e4
  have z6 := e4.size
  refine J_st (R_move rfl) rfl (J_st (R_move rfl) rfl (J_st (R_len Try.underlying27 rfl (hxs.ext E).len) rfl (J_st (R_lss rfl rfl) rfl (J_st (R_move rfl) rfl ?_))))
  refine J_cut 8 [(0, vxs), (3, .pointer (some ⟨b1, 0, none⟩)), (4, .slice none 0 0), (5, .int .i64 ((k : Nat) : Int)), (25, .bool ((decide (((k : Nat) : Int) < ((xs.length : Nat) : Int))) && (decide ((cellOrd (List.getD xs k default) x) < 0))))] (fun w' => Ext w w' ∧ w6.heap.size ≤ w'.heap.size ∧ Blk w' b1 (Enc.enc x)) ?_ ?_
  ·refine J_if (gd := 17) rfl rfl (fun hg1 => ?_) (fun hg1 => ?_)
   ·have hg1n : k < xs.length := by first | (have h := of_decide_eq_true hg1; omega) | (have h := hg1; simp at h; omega)
    refine J_gd rfl rfl (R_move rfl) rfl (J_gd rfl rfl (R_move rfl) rfl (J_gd rfl rfl (R_index (i := k) sl27 rfl rfl (hxs.ext E) (by first | assumption | omega | (simp only [List.length_set]; first | assumption | omega) | (simp only [List.getElem_set_self, List.length_set]; first | assumption | omega) | (simp only [setW, setLk, List.length_set]; first | assumption | omega) | (simp; done))) rfl (J_gd rfl rfl (R_loadS st56 rfl (RdS.getD (hxs.ext E) (i := k) (by first | assumption | omega | (simp only [List.length_set]; first | assumption | omega) | (simp only [List.getElem_set_self, List.length_set]; first | assumption | omega) | (simp only [setW, setLk, List.length_set]; first | assumption | omega) | (simp; done))) rfl) rfl (J_gd rfl rfl (R_loadS st56 rfl h1.at rfl) rfl ?_))))
    refine J_ung rfl rfl ?_
    refine J_call Try.call91 rfl (s_CellOrder (List.getD xs k default) x _ ) rfl (fun _ w8 e5 hv => ?_)
    subst hv
    replace E := E.trans e5; replace h1 := h1.ext e5
    have z7 := e5.size
    refine J_gd rfl rfl (R_lss rfl rfl) rfl (J_st (R_pickT rfl rfl) rfl (J_cutEnd ⟨rfl, rfl, rfl, rfl, congrArg (fun b => some (Value.bool b)) (show (decide ((cellOrd (List.getD xs k default) x) < 0)) = ((decide (((k : Nat) : Int) < ((xs.length : Nat) : Int))) && (decide ((cellOrd (List.getD xs k default) x) < 0))) by first | (rw [hg1] <;> rfl) | (simp [hg1]; done) | (simp only [nat_nlt] <;> simp)), trivial⟩ ⟨E, (by omega), h1⟩))
   ·have hg1n : ¬ k < xs.length := by first | (have h := of_decide_eq_false hg1; omega) | (have h := hg1; simp at h; omega)
    refine J_gdno rfl rfl rfl rfl (J_gdno rfl rfl rfl rfl (J_gdno rfl rfl rfl rfl (J_gdno rfl rfl rfl rfl (J_gdno rfl rfl rfl rfl ?_))))
    refine J_ungno rfl rfl rfl rfl ?_
    refine J_gdno rfl rfl rfl rfl (J_st (R_pickF rfl rfl) rfl (J_cutEnd ⟨rfl, rfl, rfl, rfl, congrArg (fun b => some (Value.bool b)) (show false = ((decide (((k : Nat) : Int) < ((xs.length : Nat) : Int))) && (decide ((cellOrd (List.getD xs k default) x) < 0))) by first | (rw [hg1] <;> rfl) | (simp [hg1]; done) | (simp only [nat_nlt] <;> simp)), trivial⟩ ⟨E, (by omega), h1⟩))
  clear E h1
  rintro w7 ⟨E, z8, h1⟩
  refine J_done ?_
  refine S_cond rfl (fun hc2 => ?_) (fun hc2 => ?_)
  ·have hlt := put_lt hc2
   refine S_skip ?_
   refine S_block ?_
   refine S_reg [true, true, true] rfl rfl ?_
   refine J_st (R_move rfl) rfl (J_st (R_add rfl rfl (add_nat (by unfold maxLen; omega))) rfl (J_st (R_assign rfl) rfl (J_done ?_)))
   refine S_nil (E_inB ?_)
   refine S_nil (E_again (k + 1) (by omega) ⟨rfl, rfl, rfl, rfl, trivial⟩ ⟨E, (by omega), h1, (by omega), (put_step hI hc2)⟩)
  ·refine S_exit (E_lp_exit (E_inB_exit ?_))
   refine S_seq ?_
   have hk1 : k ≤ xs.length := by first | assumption | omega
   have hs1 : RdS (α := Cell) w (slTo vxs k) (List.take k xs) := RdL.slTo hxs hk1
   refine S_regF mixed [7] 6 34 [33] [(1, true), (2, true), (3, true), (5, true)] [(0, false), (4, false)] [(7, false), (8, true)] (fun b => .slice (some ⟨b, 0, none⟩) 1 1) (z := [.int .i64 x.op, .int .i64 x.epoch, .int .i64 x.key, .int .i64 x.val]) (by decide +kernel) rfl rfl rfl rfl rfl rfl rfl [(0, vxs), (3, .pointer (some ⟨b1, 0, none⟩)), (4, .slice none 0 0), (5, .int .i64 ((k : Nat) : Int)), (25, .bool ((decide (((k : Nat) : Int) < ((xs.length : Nat) : Int))) && (decide ((cellOrd (List.getD xs k default) x) < 0)))), (29, vxs), (30, .int .i64 ((k : Nat) : Int)), (31, slTo vxs k), (33, .agg (Enc.enc x).toArray)] [(33, .agg (Enc.enc x).toArray)] rfl ⟨rfl, trivial⟩ (fun w' => Ext w w' ∧ w7.heap.size ≤ w'.heap.size ∧ Blk w' b1 (Enc.enc x)) (float_lit1 sl27 rfl rfl rfl rfl) (fun w9 e6 => ?_) (fun w9 hphi_w9 => ?_)
   ·replace E := E.trans e6; replace h1 := h1.ext e6
    have z9 := e6.size
    refine J_st (R_move rfl) rfl (J_st (R_move rfl) rfl ?_)
    refine J_st (R_sliceTo sl27 rfl rfl (RdL.room (hxs.ext E)) hk1) rfl (J_st (R_loadS st56 rfl h1.at rfl) rfl (J_cutEnd ⟨rfl, rfl, rfl, rfl, rfl, rfl, rfl, rfl, rfl, trivial⟩ ⟨E, (by omega), h1⟩))
   clear E h1
   obtain ⟨E, z10, h1⟩ := hphi_w9
   refine JI_un rfl (fun w10 e7 => ?_) rfl
   replace E := E.trans e7; replace h1 := h1.ext e7
   have z11 := e7.size
   refine J_buildSlice (vs := []) (css := []) sl27 rfl rfl trivial rfl rfl (fun b3 w11 e8 s3 h3 => ?_)
   replace h3 : Blk w11 b3 [] := h3
   have g_b3 : w.heap.size ≤ b3 := by have := E.size; omega
   have y_b3 := h3.lt
   replace E := E.trans e8; replace h1 := h1.ext e8
   have z12 := e8.size
   refine JI_go2 ?_
   refine JI_un rfl (fun w12 e9 => ?_) rfl
   replace E := E.trans e9; replace h1 := h1.ext e9; replace h3 := h3.ext e9
   have z13 := e9.size
   refine J_appendD sl27 rfl rfl (Own.ofBlk (lo := b3) (hi := b3 + 1) (sz := 4) h3 (Nat.le_refl _) (Nat.lt_succ_self _) (by simp) (by simp [maxLen])) ⟨_, _, rfl⟩ (RdS.src (hs1.ext E)) (flat_one _) (by simp only [sum_flat, List.length_nil, List.length_append, List.length_take, List.length_drop, List.length_cons]; simp only [Enc.sz]; omega) (by decide) (by omega) (by omega) rfl (fun v2 w13 e10 ho2 hb_ho2 => ?_)
   replace E := E.trans e10; replace h1 := h1.ext e10
   have z14 := e10.size
   have g_ho2 : w.heap.size ≤ b3 := by have := E.size; omega
   have hn1 : ∀ g, Value.ownBlock v2 = some g → g = b3 ∨ w12.heap.size ≤ g := fun g hg => (hb_ho2 g hg).elim (fun h => .inl (by cases h; rfl)) (fun h => .inr h)
   replace ho2 : Own w13 b3 w13.heap.size 4 v2 (List.flatMap (Enc.enc (α := Cell)) (List.take k xs)) := ho2
   refine JI_go2 ?_
   refine JI_end rfl (fun b4 w14 e11 g1 y1 h4 hI1 => ?_)
   have hI1_0 : b4 < w10.heap.size ∨ w11.heap.size ≤ b4 := hI1 (_, _) (by simp)
   have hI1_1 : b4 < w12.heap.size ∨ w13.heap.size ≤ b4 := hI1 (_, _) (by simp)
   replace E := E.trans e11; replace h1 := h1.ext e11; replace ho2 := ho2.ext e11
   have z15 := e11.size
   have g_b4 : w.heap.size ≤ b4 := by have := E.size; omega
   have y_b4 := h4.lt
   refine J2_sub [(0, vxs), (3, .pointer (some ⟨b1, 0, none⟩)), (4, .slice none 0 0), (5, .int .i64 ((k : Nat) : Int)), (25, .bool ((decide (((k : Nat) : Int) < ((xs.length : Nat) : Int))) && (decide ((cellOrd (List.getD xs k default) x) < 0)))), (28, .slice (some ⟨b3, 0, none⟩) 0 0), (29, vxs), (30, .int .i64 ((k : Nat) : Int)), (31, slTo vxs k), (32, v2), (33, .agg (Enc.enc x).toArray), (34, .slice (some ⟨b4, 0, none⟩) 1 1)] ⟨rfl, rfl, rfl, rfl, rfl, rfl, rfl, rfl, rfl, rfl, rfl, rfl, trivial⟩ ?_
   refine J2_X rfl ?_
   refine J_appendB sl27 rfl rfl ho2 (Src.ofBlk h4 rfl) rfl (by simp only [sum_flat, List.length_nil, List.length_append, List.length_take, List.length_drop, List.length_cons]; simp only [Enc.sz]; omega) (by decide) (by omega) (by omega) rfl rfl (fun v3 w15 m2 ho3 hb1 => ?_)
   have hn2 : ∀ g, Value.ownBlock v3 = some g → g = b3 ∨ w12.heap.size ≤ g := fun g hg => (hb1 g hg).elim (fun h => hn1 g h) (fun h => by omega)
   replace E := E.step m2 (fun g hg => by have := Own.blk ho2 g hg; have := hn1 g hg; omega); replace h1 := h1.mod m2 (fun g hg => by have := Own.blk ho2 g hg; have := hn1 g hg; omega)
   have z16 := m2.size
   refine JX_go ?_
   refine J_st (R_assign rfl) rfl (J_done ?_)
   refine S_seq ?_
   refine S_reg [true, true, true, true, false, true] rfl rfl ?_
   refine J_st (R_move rfl) rfl (J_st (R_move rfl) rfl (J_st (R_move rfl) rfl ?_))
   have hk2 : k ≤ xs.length := by first | assumption | omega
   have hs2 : RdS (α := Cell) w (slFrom vxs k 4) (List.drop k xs) := RdL.slFrom hxs hk2
   refine J_st (R_sliceFrom sl27 rfl rfl (RdL.room (hxs.ext E)) hk2) rfl ?_
   refine J_appendB sl27 rfl rfl ho3 (RdS.src (hs2.ext E)) (flat_one _) (by simp only [sum_flat, List.length_nil, List.length_append, List.length_take, List.length_drop, List.length_cons]; simp only [Enc.sz]; omega) (by decide) (by omega) (by omega) rfl rfl (fun v4 w16 m3 ho4 hb2 => ?_)
   have hn3 : ∀ g, Value.ownBlock v4 = some g → g = b3 ∨ w12.heap.size ≤ g := fun g hg => (hb2 g hg).elim (fun h => hn2 g h) (fun h => by omega)
   replace E := E.step m3 (fun g hg => by have := Own.blk ho3 g hg; have := hn2 g hg; omega); replace h1 := h1.mod m3 (fun g hg => by have := Own.blk ho3 g hg; have := hn2 g hg; omega)
   have z17 := m3.size
   refine J_st (R_assign rfl) rfl (J_done ?_)
   refine S_ret (E_done1 rfl rfl E ?_)
   exact Own.fin ho4 (by omega) (by omega) (by rw [putM_no hc1 hI hk hc2, insM_flat]; rfl)

set_option maxRecDepth 20000 in
theorem c_better1 (y : Cell) (bx : Nat) (x : Cell) (w : World) (hx : At w bx 0 [.int .i64 x.op, .int .i64 x.epoch, .int .i64 x.key, .int .i64 x.val]) : Ct Try.prog 84 [.agg (Enc.enc y).toArray, .pointer (some ⟨bx, 0, none⟩)] w (fun v _ => v = .bool (slot x y)) := by
 refine ct_of Try.func84 rfl Try.ntmps84 rfl ?_
 refine S_sub [(0, .agg (Enc.enc y).toArray), (1, .pointer (some ⟨bx, 0, none⟩))] ⟨rfl, rfl, trivial⟩ ?_
 have E : Ext w w := Ext.refl w
 refine S_seq ?_
 refine S_reg [false, true] rfl rfl ?_
 refine J_box rfl rfl (fun b1 w1 e1 s1 h1 => ?_)
 have g_b1 : w.heap.size ≤ b1 := by have := E.size; omega
 have y_b1 := h1.lt
 replace E := E.trans e1
 have z1 := e1.size
 refine J_st (R_assign rfl) rfl (J_done ?_)
 refine S_seq ?_
 refine S_reg [true, true, false, true] rfl rfl ?_
 refine J_st (R_loadS st56 rfl (hx.ext E) rfl) rfl (J_st (R_loadS st56 rfl h1.at rfl) rfl ?_)
 refine J_call Try.call85 rfl (c_sameSlot x y _ ) rfl (fun _ w2 e2 hv => ?_)
 subst hv
 replace E := E.trans e2; replace h1 := h1.ext e2
 have z2 := e2.size
 refine J_st (R_assign rfl) rfl (J_done ?_)
 refine S_ret (E_done1 rfl rfl E ?_)
 rfl

set_option maxRecDepth 20000 in
theorem c_better (vxs : Value) (xs : List Cell) (x : Cell) (w : World) (hxs : RdS w vxs xs) (hb : xs.length ≤ 4194304) : Ct Try.prog 66 [vxs, .agg (Enc.enc x).toArray] w (fun v w' => ∃ u0, v = .tuple [u0, .bool ((betterM xs x).2)].toArray ∧ Own w' w.heap.size w'.heap.size 4 u0 (List.flatMap (Enc.enc (α := Cell)) ((betterM xs x).1))) := by
 refine ct_of Try.func66 rfl Try.ntmps66 rfl ?_
 refine S_sub [(0, vxs), (1, .agg (Enc.enc x).toArray)] ⟨rfl, rfl, trivial⟩ ?_
 have E : Ext w w := Ext.refl w
 refine S_seq ?_
 refine S_reg [false, true, true] rfl rfl ?_
 refine J_box rfl rfl (fun b1 w1 e1 s1 h1 => ?_)
 have g_b1 : w.heap.size ≤ b1 := by have := E.size; omega
 have y_b1 := h1.lt
 replace E := E.trans e1
 have z1 := e1.size
 refine J_st (R_assign rfl) rfl (J_st (R_assign rfl) rfl (J_done ?_))
 refine S_seq ?_
 refine S_seq ?_
 refine S_reg [true, true, true, true, true, true, true, false, true, true, true, true, true] rfl rfl ?_
 refine J_st (R_move rfl) rfl (J_st (R_fieldAddr0 fl56_0 rfl) rfl (J_st (R_load sc3 rfl (h1.one 0 rfl)) rfl (J_st (R_fieldAddr0 fl56_1 rfl) rfl (J_st (R_load sc3 rfl (h1.one 1 rfl)) rfl (J_st (R_fieldAddr0 fl56_2 rfl) rfl (J_st (R_load sc3 rfl (h1.one 2 rfl)) rfl ?_))))))
 refine J_call Try.call67 rfl (c_LeastOf vxs xs x.op x.epoch x.key _ (hxs.ext E)) rfl (fun _ w2 e2 hv => ?_)
 subst hv
 replace E := E.trans e2; replace h1 := h1.ext e2
 have z2 := e2.size
 refine J_st (R_move rfl) rfl (J_st (R_extract rfl rfl) rfl (J_st (R_extract rfl rfl) rfl (J_st (R_assign rfl) rfl (J_st (R_assign rfl) rfl (J_done ?_)))))
 refine S_seq ?_
 refine S_reg [true, true, true, true, true, true, true] rfl rfl ?_
 refine J_st (R_move rfl) rfl (J_st (R_move rfl) rfl ?_)
 refine J_cut 5 [(0, vxs), (1, .agg (Enc.enc x).toArray), (3, .pointer (some ⟨b1, 0, none⟩)), (4, .slice none 0 0), (5, .bool false), (6, .int .i64 ((leastM xs x.op x.epoch x.key).1)), (7, .bool ((leastM xs x.op x.epoch x.key).2)), (9, .tuple [.int .i64 ((leastM xs x.op x.epoch x.key).1), .bool ((leastM xs x.op x.epoch x.key).2)].toArray), (10, vxs), (11, .pointer (some ⟨b1, 0, none⟩)), (12, .int .i64 x.op), (13, .pointer (some ⟨b1, 1, none⟩)), (14, .int .i64 x.epoch), (15, .pointer (some ⟨b1, 2, none⟩)), (16, .int .i64 x.key), (17, .tuple [.int .i64 ((leastM xs x.op x.epoch x.key).1), .bool ((leastM xs x.op x.epoch x.key).2)].toArray), (18, .int .i64 ((leastM xs x.op x.epoch x.key).1)), (19, .bool ((leastM xs x.op x.epoch x.key).2)), (26, .bool (((leastM xs x.op x.epoch x.key).2) && (decide (((leastM xs x.op x.epoch x.key).1) ≤ x.val))))] (fun w' => w2 = w') ?_ ?_
 ·refine J_if (gd := 21) rfl rfl (fun hg1 => ?_) (fun hg1 => ?_)
  ·refine J_gd rfl rfl (R_move rfl) rfl (J_gd rfl rfl (R_fieldAddr0 fl56_3 rfl) rfl (J_gd rfl rfl (R_load sc3 rfl (h1.one 3 rfl)) rfl (J_gd rfl rfl (R_leq rfl rfl) rfl (J_st (R_pickT rfl rfl) rfl (J_cutEnd ⟨rfl, rfl, rfl, rfl, rfl, rfl, rfl, rfl, rfl, rfl, rfl, rfl, rfl, rfl, rfl, rfl, rfl, rfl, congrArg (fun b => some (Value.bool b)) (show (decide (((leastM xs x.op x.epoch x.key).1) ≤ x.val)) = (((leastM xs x.op x.epoch x.key).2) && (decide (((leastM xs x.op x.epoch x.key).1) ≤ x.val))) by first | (rw [hg1] <;> rfl) | (simp [hg1]; done) | (simp only [nat_nlt] <;> simp)), trivial⟩ rfl)))))
  ·refine J_gdno rfl rfl rfl rfl (J_gdno rfl rfl rfl rfl (J_gdno rfl rfl rfl rfl (J_gdno rfl rfl rfl rfl (J_st (R_pickF rfl rfl) rfl (J_cutEnd ⟨rfl, rfl, rfl, rfl, rfl, rfl, rfl, rfl, rfl, rfl, rfl, rfl, rfl, rfl, rfl, rfl, rfl, rfl, congrArg (fun b => some (Value.bool b)) (show false = (((leastM xs x.op x.epoch x.key).2) && (decide (((leastM xs x.op x.epoch x.key).1) ≤ x.val))) by first | (rw [hg1] <;> rfl) | (simp [hg1]; done) | (simp only [nat_nlt] <;> simp)), trivial⟩ rfl)))))
 rintro _ rfl
 refine J_done ?_
 refine S_cond rfl (fun hc1 => ?_) (fun hc1 => ?_)
 ·refine S_seq ?_
  refine S_reg [true, false, true, true] rfl rfl ?_
  refine J_st (R_move rfl) rfl ?_
  refine J_call Try.call44 rfl (c_copyCells vxs xs _ (hxs.ext E) (by first | omega | (simp only [mkL_length]; omega) | (rw [mkL_length]; done) | (simp only [mkL_length]; done))) rfl (fun v1 w4 e3 ho1 => ?_)
  have g_ho1 : w.heap.size ≤ w2.heap.size := E.size
  replace E := E.trans e3; replace h1 := h1.ext e3
  have z3 := e3.size
  refine J_st (R_assign rfl) rfl (J_st (R_assign rfl) rfl (J_done ?_))
  refine S_ret (E_doneN (l := [.tmp 4, .tmp 5]) (vs := [v1, .bool false]) rfl ⟨.tmp rfl, .tmp rfl, trivial⟩ rfl E ?_)
  rw [betterM_yes hc1]
  exact ⟨_, rfl, Own.fin ho1 (by omega) (by omega) rfl⟩
 ·refine S_skip ?_
  refine S_seq ?_
  refine S_reg [true, false, true, false, true] rfl rfl ?_
  refine J_st (R_move rfl) rfl ?_
  refine J_call Try.call44 rfl (c_copyCells vxs xs _ (hxs.ext E) (by first | omega | (simp only [mkL_length]; omega) | (rw [mkL_length]; done) | (simp only [mkL_length]; done))) rfl (fun v2 w5 e4 ho2 => ?_)
  have g_ho2 : w.heap.size ≤ w2.heap.size := E.size
  replace E := E.trans e4; replace h1 := h1.ext e4
  have z4 := e4.size
  refine J_st (R_makeFunc rfl rfl) rfl ?_
  refine J_callR Try.call83 rfl (by rfl) (c_DeleteFuncCell v2 w2.heap.size w5.heap.size xs (.func (.func 84) [].toArray [.pointer (some ⟨b1, 0, none⟩)].toArray) ((fun (y : Cell) => slot x y)) _ ho2 ⟨84, [], [.pointer (some ⟨b1, 0, none⟩)], rfl, Try.call84, fun y wX eX => c_better1 y b1 x wX (At.modR (Blk.at h1) eX (by omega))⟩ (by omega)) rfl (fun v3 w6 e5 ho3 => ?_)
  replace E := E.stepR e5 (by omega); replace h1 := h1.modR e5 (by omega)
  have z5 := e5.size
  refine J_st (R_assign rfl) rfl (J_done ?_)
  refine S_seq ?_
  refine S_reg [true, true, false, true, true] rfl rfl ?_
  refine J_st (R_move rfl) rfl (J_st (R_loadS st56 rfl h1.at rfl) rfl ?_)
  refine J_call Try.call75 rfl (c_PutCell v3 (List.filter (fun y => !((fun (y : Cell) => slot x y) y)) xs) x _ (Own.rd (by decide) ho3) (Nat.le_trans (List.length_filter_le _ _) (by omega))) rfl (fun v4 w7 e6 ho4 => ?_)
  have g_ho4 : w.heap.size ≤ w6.heap.size := E.size
  replace E := E.trans e6; replace h1 := h1.ext e6; replace ho3 := ho3.ext e6
  have z6 := e6.size
  refine J_st (R_assign rfl) rfl (J_st (R_assign rfl) rfl (J_done ?_))
  refine S_ret (E_doneN (l := [.tmp 4, .tmp 5]) (vs := [v4, .bool true]) rfl ⟨.tmp rfl, .tmp rfl, trivial⟩ rfl E ?_)
  rw [betterM_no hc1]
  exact ⟨_, rfl, Own.fin ho4 (by omega) (by omega) rfl⟩

set_option maxHeartbeats 4000000 in
set_option maxRecDepth 20000 in
theorem s_Recall (kind : Int) (vxs : Value) (xs : List Cell) (x : Cell) (w : World) (hxs : RdS w vxs xs) (hb : xs.length ≤ 4194304) : Ct Try.prog 51 [.int .i64 kind, vxs, .agg (Enc.enc x).toArray] w (fun v w' => ∃ u0, v = .tuple [u0, .bool ((recallM kind xs x).2)].toArray ∧ Own w' w.heap.size w'.heap.size 4 u0 (List.flatMap (Enc.enc (α := Cell)) ((recallM kind xs x).1))) := by
 refine ct_of Try.func51 rfl Try.ntmps51 rfl ?_
 refine S_sub [(0, .int .i64 kind), (1, vxs), (2, .agg (Enc.enc x).toArray)] ⟨rfl, rfl, rfl, trivial⟩ ?_
 have E : Ext w w := Ext.refl w
 refine S_seq ?_
 refine S_reg [false, true, true] rfl rfl ?_
 refine J_box rfl rfl (fun b1 w1 e1 s1 h1 => ?_)
 have g_b1 : w.heap.size ≤ b1 := by have := E.size; omega
 have y_b1 := h1.lt
 replace E := E.trans e1
 have z1 := e1.size
 refine J_st (R_assign rfl) rfl (J_st (R_assign rfl) rfl (J_done ?_))
 refine S_seq ?_
 refine S_reg [false, true, false, true] rfl rfl ?_
 refine J_buildSlice (vs := []) (css := []) sl27 rfl rfl trivial rfl rfl (fun b2 w2 e2 s2 h2 => ?_)
 replace h2 : Blk w2 b2 [] := h2
 have g_b2 : w.heap.size ≤ b2 := by have := E.size; omega
 have y_b2 := h2.lt
 replace E := E.trans e2; replace h1 := h1.ext e2
 have z2 := e2.size
 refine J_st (R_move rfl) rfl ?_
 refine J_append sl27 rfl rfl (Own.ofBlk (lo := b2) (hi := b2 + 1) (sz := 4) h2 (Nat.le_refl _) (Nat.lt_succ_self _) (by simp) (by simp [maxLen])) (RdS.src (hxs.ext E)) (flat_one _) (by first | (simp only [sum_flat, List.length_nil, List.length_cons]; simp only [Enc.sz]; omega) | (have h := filt_len xs (fun y => !(slot x y)) k; simp only [show Enc.sz Cell = 4 from rfl] at h; simp only [List.length_cons, List.length_nil]; omega)) (by decide) (by omega) (by omega) rfl rfl (fun v1 w3 m1 ho1 => ?_)
 replace E := E.step m1 (fun g hg => by have := Own.blk (Own.ofBlk (lo := b2) (hi := b2 + 1) (sz := 4) h2 (Nat.le_refl _) (Nat.lt_succ_self _) (by simp) (by simp [maxLen])) g hg; omega); replace h1 := h1.mod m1 (fun g hg => by have := Own.blk (Own.ofBlk (lo := b2) (hi := b2 + 1) (sz := 4) h2 (Nat.le_refl _) (Nat.lt_succ_self _) (by simp) (by simp [maxLen])) g hg; omega)
 have z3 := m1.size
 refine J_st (R_assign rfl) rfl (J_done ?_)
 refine S_seq ?_
 refine S_seq ?_
 refine S_reg [true] rfl rfl ?_
 refine J_st (R_move rfl) rfl (J_done ?_)
 refine S_block ?_
 refine S_seq ?_
 refine S_reg [true, true] rfl rfl ?_
 refine J_st (R_eql rfl rfl) rfl (J_st (R_assign rfl) rfl (J_done ?_))
 refine S_cond rfl (fun hc1 => ?_) (fun hc1 => ?_)
 ·refine S_seq ?_
  refine S_seq ?_
  refine S_reg [true, true, false] rfl rfl ?_
  refine J_st (R_move rfl) rfl (J_st (R_loadS st56 rfl h1.at rfl) rfl ?_)
  refine J_call Try.call78 rfl (s_HasCell vxs xs x _ (hxs.ext E)) rfl (fun _ w4 e3 hv => ?_)
  subst hv
  replace E := E.trans e3; replace h1 := h1.ext e3; replace ho1 := ho1.ext e3
  have z4 := e3.size
  refine J_done ?_
  refine S_cond rfl (fun hc2 => ?_) (fun hc2 => ?_)
  ·refine S_seq ?_
   refine S_reg [true, true, true] rfl rfl ?_
   refine J_st (R_move rfl) rfl (J_st (R_assign rfl) rfl (J_st (R_assign rfl) rfl (J_done ?_)))
   refine S_ret (E_inB_ret (E_doneN (l := [.tmp 6, .tmp 7]) (vs := [v1, .bool false]) rfl ⟨.tmp rfl, .tmp rfl, trivial⟩ rfl E ?_))
   rw [recallM_h (by assumption) (by assumption)]
   exact ⟨_, rfl, Own.fin ho1 (by omega) (by omega) (by first | rfl | simp only [List.nil_append])⟩
  ·refine S_skip ?_
   refine S_seq ?_
   refine S_reg [true, true, false, true, true] rfl rfl ?_
   refine J_st (R_move rfl) rfl (J_st (R_loadS st56 rfl h1.at rfl) rfl ?_)
   refine J_call Try.call79 rfl (s_PutCell vxs xs x _ (hxs.ext E) (by omega)) rfl (fun v2 w5 e4 ho2 => ?_)
   have g_ho2 : w.heap.size ≤ w4.heap.size := E.size
   replace E := E.trans e4; replace h1 := h1.ext e4; replace ho1 := ho1.ext e4
   have z5 := e4.size
   refine J_st (R_assign rfl) rfl (J_st (R_assign rfl) rfl (J_done ?_))
   refine S_ret (E_inB_ret (E_doneN (l := [.tmp 6, .tmp 7]) (vs := [v2, .bool true]) rfl ⟨.tmp rfl, .tmp rfl, trivial⟩ rfl E ?_))
   rw [recallM_i (by assumption) (by assumption)]
   exact ⟨_, rfl, Own.fin ho2 (by omega) (by omega) (by first | rfl | simp only [List.nil_append])⟩
 ·refine S_seq ?_
  refine S_seq ?_
  refine S_reg [true, true] rfl rfl ?_
  refine J_st (R_eql rfl rfl) rfl (J_st (R_assign rfl) rfl (J_done ?_))
  refine S_cond rfl (fun hc3 => ?_) (fun hc3 => ?_)
  ·refine S_skip ?_
   refine S_condTe rfl hc3 ?_
   refine S_seq ?_
   refine S_reg [true, true, true, true, true, true, true, false, true, true, true, true, true] rfl rfl ?_
   refine J_st (R_move rfl) rfl (J_st (R_fieldAddr0 fl56_0 rfl) rfl (J_st (R_load sc3 rfl (h1.one 0 rfl)) rfl (J_st (R_fieldAddr0 fl56_1 rfl) rfl (J_st (R_load sc3 rfl (h1.one 1 rfl)) rfl (J_st (R_fieldAddr0 fl56_2 rfl) rfl (J_st (R_load sc3 rfl (h1.one 2 rfl)) rfl ?_))))))
   refine J_call Try.call68 rfl (s_LeastOf vxs xs x.op x.epoch x.key _ (hxs.ext E)) rfl (fun _ w6 e5 hv => ?_)
   subst hv
   replace E := E.trans e5; replace h1 := h1.ext e5; replace ho1 := ho1.ext e5
   have z6 := e5.size
   refine J_st (R_move rfl) rfl (J_st (R_extract rfl rfl) rfl (J_st (R_extract rfl rfl) rfl (J_st (R_assign rfl) rfl (J_st (R_assign rfl) rfl (J_done ?_)))))
   refine S_seq ?_
   refine S_seq ?_
   refine S_reg [true, true, true, true, true, true, true] rfl rfl ?_
   refine J_st (R_move rfl) rfl (J_st (R_move rfl) rfl ?_)
   refine J_cut 5 [(0, .int .i64 kind), (1, vxs), (2, .agg (Enc.enc x).toArray), (5, .pointer (some ⟨b1, 0, none⟩)), (6, .slice none 0 0), (7, .bool false), (8, v1), (9, .int .i64 ((leastM xs x.op x.epoch x.key).1)), (10, .bool ((leastM xs x.op x.epoch x.key).2)), (13, .slice (some ⟨b2, 0, none⟩) 0 0), (14, vxs), (15, v1), (16, .int .i64 kind), (17, .bool (kind == 6)), (18, .bool (kind == 6)), (26, .bool (kind == 5)), (27, .bool (kind == 5)), (29, .tuple [.int .i64 ((leastM xs x.op x.epoch x.key).1), .bool ((leastM xs x.op x.epoch x.key).2)].toArray), (30, vxs), (31, .pointer (some ⟨b1, 0, none⟩)), (32, .int .i64 x.op), (33, .pointer (some ⟨b1, 1, none⟩)), (34, .int .i64 x.epoch), (35, .pointer (some ⟨b1, 2, none⟩)), (36, .int .i64 x.key), (37, .tuple [.int .i64 ((leastM xs x.op x.epoch x.key).1), .bool ((leastM xs x.op x.epoch x.key).2)].toArray), (38, .int .i64 ((leastM xs x.op x.epoch x.key).1)), (39, .bool ((leastM xs x.op x.epoch x.key).2)), (46, .bool (((leastM xs x.op x.epoch x.key).2) && (decide (((leastM xs x.op x.epoch x.key).1) ≤ x.val))))] (fun w' => w6 = w') ?_ ?_
   ·refine J_if (gd := 41) rfl rfl (fun hg1 => ?_) (fun hg1 => ?_)
    ·refine J_gd rfl rfl (R_move rfl) rfl (J_gd rfl rfl (R_fieldAddr0 fl56_3 rfl) rfl (J_gd rfl rfl (R_load sc3 rfl (h1.one 3 rfl)) rfl (J_gd rfl rfl (R_leq rfl rfl) rfl (J_st (R_pickT rfl rfl) rfl (J_cutEnd ⟨rfl, rfl, rfl, rfl, rfl, rfl, rfl, rfl, rfl, rfl, rfl, rfl, rfl, rfl, rfl, rfl, rfl, rfl, rfl, rfl, rfl, rfl, rfl, rfl, rfl, rfl, rfl, rfl, congrArg (fun b => some (Value.bool b)) (show (decide (((leastM xs x.op x.epoch x.key).1) ≤ x.val)) = (((leastM xs x.op x.epoch x.key).2) && (decide (((leastM xs x.op x.epoch x.key).1) ≤ x.val))) by first | (rw [hg1] <;> rfl) | (simp [hg1]; done) | (simp only [nat_nlt] <;> simp)), trivial⟩ rfl)))))
    ·refine J_gdno rfl rfl rfl rfl (J_gdno rfl rfl rfl rfl (J_gdno rfl rfl rfl rfl (J_gdno rfl rfl rfl rfl (J_st (R_pickF rfl rfl) rfl (J_cutEnd ⟨rfl, rfl, rfl, rfl, rfl, rfl, rfl, rfl, rfl, rfl, rfl, rfl, rfl, rfl, rfl, rfl, rfl, rfl, rfl, rfl, rfl, rfl, rfl, rfl, rfl, rfl, rfl, rfl, congrArg (fun b => some (Value.bool b)) (show false = (((leastM xs x.op x.epoch x.key).2) && (decide (((leastM xs x.op x.epoch x.key).1) ≤ x.val))) by first | (rw [hg1] <;> rfl) | (simp [hg1]; done) | (simp only [nat_nlt] <;> simp)), trivial⟩ rfl)))))
   rintro _ rfl
   refine J_done ?_
   refine S_cond rfl (fun hc4 => ?_) (fun hc4 => ?_)
   ·refine S_seq ?_
    refine S_reg [true, true, true] rfl rfl ?_
    refine J_st (R_move rfl) rfl (J_st (R_assign rfl) rfl (J_st (R_assign rfl) rfl (J_done ?_)))
    refine S_ret (E_inB_ret (E_doneN (l := [.tmp 6, .tmp 7]) (vs := [v1, .bool false]) rfl ⟨.tmp rfl, .tmp rfl, trivial⟩ rfl E ?_))
    rw [recallM_b (.inl (by assumption)), betterM_yes (by assumption)]
    exact ⟨_, rfl, Own.fin ho1 (by omega) (by omega) (by first | rfl | simp only [List.nil_append])⟩
   ·refine S_skip ?_
    refine S_seq ?_
    refine S_reg [false, true] rfl rfl ?_
    refine J_buildSlice (vs := []) (css := []) sl27 rfl rfl trivial rfl rfl (fun b3 w8 e6 s3 h3 => ?_)
    replace h3 : Blk w8 b3 [] := h3
    have g_b3 : w.heap.size ≤ b3 := by have := E.size; omega
    have y_b3 := h3.lt
    replace E := E.trans e6; replace h1 := h1.ext e6; replace ho1 := ho1.ext e6
    have z7 := e6.size
    refine J_st (R_assign rfl) rfl (J_done ?_)
    refine S_seq ?_
    refine S_seq ?_
    refine S_reg [true] rfl rfl ?_
    refine J_st (R_assign rfl) rfl (J_done ?_)
    refine S_block ?_
    refine S_loop (fun (xq : Nat × Value) => let ⟨k, vo⟩ := xq; [(1, vxs), (5, .pointer (some ⟨b1, 0, none⟩)), (6, .slice none 0 0), (7, .bool false), (8, v1), (11, vo), (12, .int .i64 ((k : Nat) : Int))]) (fun (xq : Nat × Value) w' => let ⟨k, vo⟩ := xq; Ext w w' ∧ w8.heap.size ≤ w'.heap.size ∧ Blk w' b1 (Enc.enc x) ∧ Own w' b2 w3.heap.size 4 v1 ([] ++ List.flatMap (Enc.enc (α := Cell)) xs) ∧ k ≤ xs.length ∧ Own w' b3 w'.heap.size 4 vo (List.flatMap (Enc.enc (α := Cell)) ((xs.take k).filter (fun y => !(slot x y))))) (fun (xq : Nat × Value) => let ⟨k, vo⟩ := xq; xs.length - k) (0, .slice (some ⟨b3, 0, none⟩) 0 0) ⟨rfl, rfl, rfl, rfl, rfl, rfl, rfl, trivial⟩ ⟨E, Nat.le_refl _, h1, ho1, Nat.zero_le _, Own.fin (Own.ofBlk (lo := b3) (hi := b3 + 1) (sz := 4) h3 (Nat.le_refl _) (Nat.lt_succ_self _) (by simp) (by simp [maxLen])) (by have := E.size; omega) (by omega) rfl⟩ ?_
    clear E h1 ho1 h3
    rintro ⟨k, vo⟩ w9 ⟨E, z8, h1, ho1, hk, ho⟩
    refine S_sub [(1, vxs), (5, .pointer (some ⟨b1, 0, none⟩)), (6, .slice none 0 0), (7, .bool false), (8, v1), (11, vo), (12, .int .i64 ((k : Nat) : Int))] ⟨rfl, rfl, rfl, rfl, rfl, rfl, rfl, trivial⟩ ?_
    refine S_seq ?_
    refine S_seq ?_
    refine S_reg [true, true, true, true] rfl rfl ?_
    refine J_st (R_move rfl) rfl (J_st (R_move rfl) rfl (J_st (R_len Try.underlying27 rfl (hxs.ext E).len) rfl (J_st (R_lss rfl rfl) rfl (J_done ?_))))
    refine S_cond rfl (fun hc5 => ?_) (fun hc5 => ?_)
    ·have hc5n : k < xs.length := by first | (have h := of_decide_eq_true hc5; omega) | (have h := hc5; simp at h; omega)
     refine S_skip ?_
     refine S_seq ?_
     refine S_block ?_
     refine S_seq ?_
     refine S_regD mixed [(0, true), (1, true), (2, true), (3, true), (4, true), (5, true), (6, true), (7, true), (8, true), (9, true), (10, true), (11, true), (12, true), (13, true), (14, true), (15, true), (16, true), (17, true), (18, true), (19, true), (20, true), (21, true), (22, true), (23, true), (24, true), (25, true), (26, true), (27, true)] (by decide +kernel) rfl (fun w10 e7 => ?_)
     replace E := E.trans e7; replace h1 := h1.ext e7; replace ho1 := ho1.ext e7; replace ho := ho.ext e7
     have z9 := e7.size
     refine J_st (R_move rfl) rfl (J_st (R_move rfl) rfl ?_)
     have hi1 : k < xs.length := (by first | assumption | omega | (simp only [List.length_set]; first | assumption | omega) | (simp only [List.getElem_set_self, List.length_set]; first | assumption | omega) | (simp only [setW, setLk, List.length_set]; first | assumption | omega) | (simp; done))
     refine J_st (R_index (i := k) sl27 rfl rfl (hxs.ext E) hi1) rfl (J_st (R_fieldAddr fl56_0 rfl) rfl (J_st (R_load sc3 rfl (((hxs.ext E).get hi1).one 0 rfl)) rfl (J_st (R_fieldAddr0 fl56_0 rfl) rfl (J_st (R_load sc3 rfl (h1.one 0 rfl)) rfl (J_st (R_neq rfl rfl) rfl (J_st (R_move rfl) rfl ?_))))))
     refine J_cut 19 [(1, vxs), (5, .pointer (some ⟨b1, 0, none⟩)), (6, .slice none 0 0), (7, .bool false), (8, v1), (11, vo), (12, .int .i64 ((k : Nat) : Int)), (49, .int .i64 ((k : Nat) : Int)), (50, vxs), (51, .int .i64 ((xs.length : Nat) : Int)), (52, .bool (decide (((k : Nat) : Int) < ((xs.length : Nat) : Int)))), (82, .bool (((((xs[k]'hi1).op) != x.op) || (((xs[k]'hi1).epoch) != x.epoch)) || (((xs[k]'hi1).key) != x.key)))] (fun w' => w10 = w') ?_ ?_
     ·refine J_if (gd := 63) rfl rfl (fun hg2 => ?_) (fun hg2 => ?_)
      ·refine J_gdno rfl rfl rfl rfl (J_gdno rfl rfl rfl rfl (J_gdno rfl rfl rfl rfl (J_gdno rfl rfl rfl rfl (J_gdno rfl rfl rfl rfl (J_gdno rfl rfl rfl rfl (J_gdno rfl rfl rfl rfl (J_gdno rfl rfl rfl rfl (J_st (R_pickT rfl rfl) rfl (J_st (R_move rfl) rfl (J_gdno rfl rfl rfl rfl (J_gdno rfl rfl rfl rfl (J_gdno rfl rfl rfl rfl (J_gdno rfl rfl rfl rfl (J_gdno rfl rfl rfl rfl (J_gdno rfl rfl rfl rfl (J_gdno rfl rfl rfl rfl (J_gdno rfl rfl rfl rfl (J_st (R_pickT rfl rfl) rfl (J_cutEnd ⟨rfl, rfl, rfl, rfl, rfl, rfl, rfl, rfl, rfl, rfl, rfl, congrArg (fun b => some (Value.bool b)) (show true = (((((xs[k]'hi1).op) != x.op) || (((xs[k]'hi1).epoch) != x.epoch)) || (((xs[k]'hi1).key) != x.key)) by first | (rw [hg2] <;> rfl) | (simp [hg2]; done) | (simp only [nat_nlt] <;> simp)), trivial⟩ rfl)))))))))))))))))))
      ·refine J_gd rfl rfl (R_move rfl) rfl (J_gd rfl rfl (R_move rfl) rfl (J_gd rfl rfl (R_index (i := k) sl27 rfl rfl (hxs.ext E) hi1) rfl (J_gd rfl rfl (R_fieldAddr fl56_1 rfl) rfl (J_gd rfl rfl (R_load sc3 rfl (((hxs.ext E).get hi1).one 1 rfl)) rfl (J_gd rfl rfl (R_fieldAddr0 fl56_1 rfl) rfl (J_gd rfl rfl (R_load sc3 rfl (h1.one 1 rfl)) rfl (J_gd rfl rfl (R_neq rfl rfl) rfl (J_st (R_pickF rfl rfl) rfl (J_st (R_move rfl) rfl ?_)))))))))
       refine J_if (gd := 73) rfl rfl (fun hg3 => ?_) (fun hg3 => ?_)
       ·refine J_gdno rfl rfl rfl rfl (J_gdno rfl rfl rfl rfl (J_gdno rfl rfl rfl rfl (J_gdno rfl rfl rfl rfl (J_gdno rfl rfl rfl rfl (J_gdno rfl rfl rfl rfl (J_gdno rfl rfl rfl rfl (J_gdno rfl rfl rfl rfl (J_st (R_pickT rfl rfl) rfl (J_cutEnd ⟨rfl, rfl, rfl, rfl, rfl, rfl, rfl, rfl, rfl, rfl, rfl, congrArg (fun b => some (Value.bool b)) (show true = (((((xs[k]'hi1).op) != x.op) || (((xs[k]'hi1).epoch) != x.epoch)) || (((xs[k]'hi1).key) != x.key)) by first | (rw [hg2, hg3] <;> rfl) | (simp [hg2, hg3]; done) | (simp only [nat_nlt] <;> simp)), trivial⟩ rfl)))))))))
       ·refine J_gd rfl rfl (R_move rfl) rfl (J_gd rfl rfl (R_move rfl) rfl (J_gd rfl rfl (R_index (i := k) sl27 rfl rfl (hxs.ext E) hi1) rfl (J_gd rfl rfl (R_fieldAddr fl56_2 rfl) rfl (J_gd rfl rfl (R_load sc3 rfl (((hxs.ext E).get hi1).one 2 rfl)) rfl (J_gd rfl rfl (R_fieldAddr0 fl56_2 rfl) rfl (J_gd rfl rfl (R_load sc3 rfl (h1.one 2 rfl)) rfl (J_gd rfl rfl (R_neq rfl rfl) rfl (J_st (R_pickF rfl rfl) rfl (J_cutEnd ⟨rfl, rfl, rfl, rfl, rfl, rfl, rfl, rfl, rfl, rfl, rfl, congrArg (fun b => some (Value.bool b)) (show (((xs[k]'hi1).key) != x.key) = (((((xs[k]'hi1).op) != x.op) || (((xs[k]'hi1).epoch) != x.epoch)) || (((xs[k]'hi1).key) != x.key)) by first | (rw [hg2, hg3] <;> rfl) | (simp [hg2, hg3]; done) | (simp only [nat_nlt] <;> simp)), trivial⟩ rfl)))))))))
     rintro _ rfl
     refine J_done ?_
     refine S_cond rfl (fun hc6 => ?_) (fun hc6 => ?_)
     ·refine S_reg [true, true, true, true, true, false, false, true] rfl rfl ?_
      refine J_st (R_move rfl) rfl (J_st (R_move rfl) rfl (J_st (R_move rfl) rfl (J_st (R_index (i := k) sl27 rfl rfl (hxs.ext E) hi1) rfl (J_st (R_loadS st56 rfl ((hxs.ext E).get hi1) rfl) rfl ?_))))
      refine J_buildSlice (vs := [.agg (Enc.enc (xs[k]'hi1)).toArray]) (css := [[.int .i64 ((xs[k]'hi1).op), .int .i64 ((xs[k]'hi1).epoch), .int .i64 ((xs[k]'hi1).key), .int .i64 ((xs[k]'hi1).val)]]) sl27 rfl rfl ⟨⟨rfl, rfl⟩, trivial⟩ rfl rfl (fun b4 w12 e8 s4 h4 => ?_)
      replace h4 : Blk w12 b4 [.int .i64 ((xs[k]'hi1).op), .int .i64 ((xs[k]'hi1).epoch), .int .i64 ((xs[k]'hi1).key), .int .i64 ((xs[k]'hi1).val)] := h4
      have g_b4 : w.heap.size ≤ b4 := by have := E.size; omega
      have y_b4 := h4.lt
      replace E := E.trans e8; replace h1 := h1.ext e8; replace ho1 := ho1.ext e8; replace ho := ho.ext e8
      have z10 := e8.size
      refine J_append sl27 rfl rfl ho (Src.ofBlk h4 rfl) rfl (by first | (simp only [sum_flat, List.length_nil, List.length_cons]; simp only [Enc.sz]; omega) | (have h := filt_len xs (fun y => !(slot x y)) k; simp only [show Enc.sz Cell = 4 from rfl] at h; simp only [List.length_cons, List.length_nil]; omega)) (by decide) (by omega) (by omega) rfl rfl (fun v3 w13 m2 ho3 => ?_)
      replace E := E.step m2 (fun g hg => by have := Own.blk ho g hg; omega); replace h1 := h1.mod m2 (fun g hg => by have := Own.blk ho g hg; omega); replace ho1 := ho1.mod m2 (fun g hg => by have := Own.blk ho g hg; omega)
      have z11 := m2.size
      refine J_st (R_assign rfl) rfl (J_done ?_)
      refine S_nil (E_inB ?_)
      refine S_reg [true, true, true] rfl rfl ?_
      refine J_st (R_move rfl) rfl (J_st (R_add rfl rfl (add_one hc5n hxs.1)) rfl (J_st (R_assign rfl) rfl (J_done ?_)))
      refine S_nil (E_again (k + 1, v3) (by simp; omega) ⟨rfl, rfl, rfl, rfl, rfl, rfl, rfl, trivial⟩ ⟨E, (by omega), h1, ho1, (by omega), Own.fin ho3 (Nat.le_refl _) (by omega) (filt_yes (by assumption) (ns_yes (by assumption)))⟩)
     ·refine S_skip ?_
      refine S_nil (E_inB ?_)
      refine S_reg [true, true, true] rfl rfl ?_
      refine J_st (R_move rfl) rfl (J_st (R_add rfl rfl (add_one hc5n hxs.1)) rfl (J_st (R_assign rfl) rfl (J_done ?_)))
      refine S_nil (E_again (k + 1, vo) (by simp; omega) ⟨rfl, rfl, rfl, rfl, rfl, rfl, rfl, trivial⟩ ⟨E, (by omega), h1, ho1, (by omega), Own.fin ho (Nat.le_refl _) (by omega) (filt_no (by assumption) (ns_no (by assumption)))⟩)
    ·have hc5n : ¬ k < xs.length := by first | (have h := of_decide_eq_false hc5; omega) | (have h := hc5; simp at h; omega)
     refine S_exit (E_lp_exit (E_inB_exit ?_))
     refine S_seq ?_
     refine S_reg [true, true, false, true, true] rfl rfl ?_
     refine J_st (R_move rfl) rfl (J_st (R_loadS st56 rfl h1.at rfl) rfl ?_)
     refine J_call Try.call79 rfl (s_PutCell vo ((xs.take k).filter (fun y => !(slot x y))) x _ (Own.rd (by decide) ho) (by have h1 := List.length_filter_le (fun y => !(slot x y)) (xs.take k); simp only [List.length_take] at h1; omega)) rfl (fun v4 w14 e9 ho4 => ?_)
     have g_ho4 : w.heap.size ≤ w9.heap.size := E.size
     replace E := E.trans e9; replace h1 := h1.ext e9; replace ho1 := ho1.ext e9; replace ho := ho.ext e9
     have z12 := e9.size
     refine J_st (R_assign rfl) rfl (J_st (R_assign rfl) rfl (J_done ?_))
     refine S_ret (E_inB_ret (E_doneN (l := [.tmp 6, .tmp 7]) (vs := [v4, .bool true]) rfl ⟨.tmp rfl, .tmp rfl, trivial⟩ rfl E ?_))
     rw [recallM_b (.inl (by assumption)), betterM_no (by assumption)]
     exact ⟨_, rfl, Own.fin ho4 (by omega) (by omega) (by simp only [List.nil_append, List.take_of_length_le (show xs.length ≤ k by omega)] <;> rfl)⟩
  ·refine S_reg [true, true] rfl rfl ?_
   refine J_st (R_eql rfl rfl) rfl (J_st (R_assign rfl) rfl (J_done ?_))
   refine S_cond rfl (fun hc7 => ?_) (fun hc7 => ?_)
   ·refine S_seq ?_
    refine S_reg [true, true, true, true, true, true, true, false, true, true, true, true, true] rfl rfl ?_
    refine J_st (R_move rfl) rfl (J_st (R_fieldAddr0 fl56_0 rfl) rfl (J_st (R_load sc3 rfl (h1.one 0 rfl)) rfl (J_st (R_fieldAddr0 fl56_1 rfl) rfl (J_st (R_load sc3 rfl (h1.one 1 rfl)) rfl (J_st (R_fieldAddr0 fl56_2 rfl) rfl (J_st (R_load sc3 rfl (h1.one 2 rfl)) rfl ?_))))))
    refine J_call Try.call68 rfl (s_LeastOf vxs xs x.op x.epoch x.key _ (hxs.ext E)) rfl (fun _ w15 e10 hv => ?_)
    subst hv
    replace E := E.trans e10; replace h1 := h1.ext e10; replace ho1 := ho1.ext e10
    have z13 := e10.size
    refine J_st (R_move rfl) rfl (J_st (R_extract rfl rfl) rfl (J_st (R_extract rfl rfl) rfl (J_st (R_assign rfl) rfl (J_st (R_assign rfl) rfl (J_done ?_)))))
    refine S_seq ?_
    refine S_seq ?_
    refine S_reg [true, true, true, true, true, true, true] rfl rfl ?_
    refine J_st (R_move rfl) rfl (J_st (R_move rfl) rfl ?_)
    refine J_cut 5 [(0, .int .i64 kind), (1, vxs), (2, .agg (Enc.enc x).toArray), (5, .pointer (some ⟨b1, 0, none⟩)), (6, .slice none 0 0), (7, .bool false), (8, v1), (9, .int .i64 ((leastM xs x.op x.epoch x.key).1)), (10, .bool ((leastM xs x.op x.epoch x.key).2)), (13, .slice (some ⟨b2, 0, none⟩) 0 0), (14, vxs), (15, v1), (16, .int .i64 kind), (17, .bool (kind == 6)), (18, .bool (kind == 6)), (26, .bool (kind == 8)), (27, .bool (kind == 5)), (28, .bool (kind == 8)), (29, .tuple [.int .i64 ((leastM xs x.op x.epoch x.key).1), .bool ((leastM xs x.op x.epoch x.key).2)].toArray), (30, vxs), (31, .pointer (some ⟨b1, 0, none⟩)), (32, .int .i64 x.op), (33, .pointer (some ⟨b1, 1, none⟩)), (34, .int .i64 x.epoch), (35, .pointer (some ⟨b1, 2, none⟩)), (36, .int .i64 x.key), (37, .tuple [.int .i64 ((leastM xs x.op x.epoch x.key).1), .bool ((leastM xs x.op x.epoch x.key).2)].toArray), (38, .int .i64 ((leastM xs x.op x.epoch x.key).1)), (39, .bool ((leastM xs x.op x.epoch x.key).2)), (46, .bool (((leastM xs x.op x.epoch x.key).2) && (decide (((leastM xs x.op x.epoch x.key).1) ≤ x.val))))] (fun w' => w15 = w') ?_ ?_
    ·refine J_if (gd := 41) rfl rfl (fun hg4 => ?_) (fun hg4 => ?_)
     ·refine J_gd rfl rfl (R_move rfl) rfl (J_gd rfl rfl (R_fieldAddr0 fl56_3 rfl) rfl (J_gd rfl rfl (R_load sc3 rfl (h1.one 3 rfl)) rfl (J_gd rfl rfl (R_leq rfl rfl) rfl (J_st (R_pickT rfl rfl) rfl (J_cutEnd ⟨rfl, rfl, rfl, rfl, rfl, rfl, rfl, rfl, rfl, rfl, rfl, rfl, rfl, rfl, rfl, rfl, rfl, rfl, rfl, rfl, rfl, rfl, rfl, rfl, rfl, rfl, rfl, rfl, rfl, congrArg (fun b => some (Value.bool b)) (show (decide (((leastM xs x.op x.epoch x.key).1) ≤ x.val)) = (((leastM xs x.op x.epoch x.key).2) && (decide (((leastM xs x.op x.epoch x.key).1) ≤ x.val))) by first | (rw [hg4] <;> rfl) | (simp [hg4]; done) | (simp only [nat_nlt] <;> simp)), trivial⟩ rfl)))))
     ·refine J_gdno rfl rfl rfl rfl (J_gdno rfl rfl rfl rfl (J_gdno rfl rfl rfl rfl (J_gdno rfl rfl rfl rfl (J_st (R_pickF rfl rfl) rfl (J_cutEnd ⟨rfl, rfl, rfl, rfl, rfl, rfl, rfl, rfl, rfl, rfl, rfl, rfl, rfl, rfl, rfl, rfl, rfl, rfl, rfl, rfl, rfl, rfl, rfl, rfl, rfl, rfl, rfl, rfl, rfl, congrArg (fun b => some (Value.bool b)) (show false = (((leastM xs x.op x.epoch x.key).2) && (decide (((leastM xs x.op x.epoch x.key).1) ≤ x.val))) by first | (rw [hg4] <;> rfl) | (simp [hg4]; done) | (simp only [nat_nlt] <;> simp)), trivial⟩ rfl)))))
    rintro _ rfl
    refine J_done ?_
    refine S_cond rfl (fun hc8 => ?_) (fun hc8 => ?_)
    ·refine S_seq ?_
     refine S_reg [true, true, true] rfl rfl ?_
     refine J_st (R_move rfl) rfl (J_st (R_assign rfl) rfl (J_st (R_assign rfl) rfl (J_done ?_)))
     refine S_ret (E_inB_ret (E_doneN (l := [.tmp 6, .tmp 7]) (vs := [v1, .bool false]) rfl ⟨.tmp rfl, .tmp rfl, trivial⟩ rfl E ?_))
     rw [recallM_b (.inr (by assumption)), betterM_yes (by assumption)]
     exact ⟨_, rfl, Own.fin ho1 (by omega) (by omega) (by first | rfl | simp only [List.nil_append])⟩
    ·refine S_skip ?_
     refine S_seq ?_
     refine S_reg [false, true] rfl rfl ?_
     refine J_buildSlice (vs := []) (css := []) sl27 rfl rfl trivial rfl rfl (fun b5 w17 e11 s5 h5 => ?_)
     replace h5 : Blk w17 b5 [] := h5
     have g_b5 : w.heap.size ≤ b5 := by have := E.size; omega
     have y_b5 := h5.lt
     replace E := E.trans e11; replace h1 := h1.ext e11; replace ho1 := ho1.ext e11
     have z14 := e11.size
     refine J_st (R_assign rfl) rfl (J_done ?_)
     refine S_seq ?_
     refine S_seq ?_
     refine S_reg [true] rfl rfl ?_
     refine J_st (R_assign rfl) rfl (J_done ?_)
     refine S_block ?_
     refine S_loop (fun (xq : Nat × Value) => let ⟨k, vo⟩ := xq; [(1, vxs), (5, .pointer (some ⟨b1, 0, none⟩)), (6, .slice none 0 0), (7, .bool false), (8, v1), (11, vo), (12, .int .i64 ((k : Nat) : Int))]) (fun (xq : Nat × Value) w' => let ⟨k, vo⟩ := xq; Ext w w' ∧ w17.heap.size ≤ w'.heap.size ∧ Blk w' b1 (Enc.enc x) ∧ Own w' b2 w3.heap.size 4 v1 ([] ++ List.flatMap (Enc.enc (α := Cell)) xs) ∧ k ≤ xs.length ∧ Own w' b5 w'.heap.size 4 vo (List.flatMap (Enc.enc (α := Cell)) ((xs.take k).filter (fun y => !(slot x y))))) (fun (xq : Nat × Value) => let ⟨k, vo⟩ := xq; xs.length - k) (0, .slice (some ⟨b5, 0, none⟩) 0 0) ⟨rfl, rfl, rfl, rfl, rfl, rfl, rfl, trivial⟩ ⟨E, Nat.le_refl _, h1, ho1, Nat.zero_le _, Own.fin (Own.ofBlk (lo := b5) (hi := b5 + 1) (sz := 4) h5 (Nat.le_refl _) (Nat.lt_succ_self _) (by simp) (by simp [maxLen])) (by have := E.size; omega) (by omega) rfl⟩ ?_
     clear E h1 ho1 h5
     rintro ⟨k, vo⟩ w18 ⟨E, z15, h1, ho1, hk, ho⟩
     refine S_sub [(1, vxs), (5, .pointer (some ⟨b1, 0, none⟩)), (6, .slice none 0 0), (7, .bool false), (8, v1), (11, vo), (12, .int .i64 ((k : Nat) : Int))] ⟨rfl, rfl, rfl, rfl, rfl, rfl, rfl, trivial⟩ ?_
     refine S_seq ?_
     refine S_seq ?_
     refine S_reg [true, true, true, true] rfl rfl ?_
     refine J_st (R_move rfl) rfl (J_st (R_move rfl) rfl (J_st (R_len Try.underlying27 rfl (hxs.ext E).len) rfl (J_st (R_lss rfl rfl) rfl (J_done ?_))))
     refine S_cond rfl (fun hc9 => ?_) (fun hc9 => ?_)
     ·have hc9n : k < xs.length := by first | (have h := of_decide_eq_true hc9; omega) | (have h := hc9; simp at h; omega)
      refine S_skip ?_
      refine S_seq ?_
      refine S_block ?_
      refine S_seq ?_
      refine S_regD mixed [(0, true), (1, true), (2, true), (3, true), (4, true), (5, true), (6, true), (7, true), (8, true), (9, true), (10, true), (11, true), (12, true), (13, true), (14, true), (15, true), (16, true), (17, true), (18, true), (19, true), (20, true), (21, true), (22, true), (23, true), (24, true), (25, true), (26, true), (27, true)] (by decide +kernel) rfl (fun w19 e12 => ?_)
      replace E := E.trans e12; replace h1 := h1.ext e12; replace ho1 := ho1.ext e12; replace ho := ho.ext e12
      have z16 := e12.size
      refine J_st (R_move rfl) rfl (J_st (R_move rfl) rfl ?_)
      have hi2 : k < xs.length := (by first | assumption | omega | (simp only [List.length_set]; first | assumption | omega) | (simp only [List.getElem_set_self, List.length_set]; first | assumption | omega) | (simp only [setW, setLk, List.length_set]; first | assumption | omega) | (simp; done))
      refine J_st (R_index (i := k) sl27 rfl rfl (hxs.ext E) hi2) rfl (J_st (R_fieldAddr fl56_0 rfl) rfl (J_st (R_load sc3 rfl (((hxs.ext E).get hi2).one 0 rfl)) rfl (J_st (R_fieldAddr0 fl56_0 rfl) rfl (J_st (R_load sc3 rfl (h1.one 0 rfl)) rfl (J_st (R_neq rfl rfl) rfl (J_st (R_move rfl) rfl ?_))))))
      refine J_cut 19 [(1, vxs), (5, .pointer (some ⟨b1, 0, none⟩)), (6, .slice none 0 0), (7, .bool false), (8, v1), (11, vo), (12, .int .i64 ((k : Nat) : Int)), (49, .int .i64 ((k : Nat) : Int)), (50, vxs), (51, .int .i64 ((xs.length : Nat) : Int)), (52, .bool (decide (((k : Nat) : Int) < ((xs.length : Nat) : Int)))), (82, .bool (((((xs[k]'hi2).op) != x.op) || (((xs[k]'hi2).epoch) != x.epoch)) || (((xs[k]'hi2).key) != x.key)))] (fun w' => w19 = w') ?_ ?_
      ·refine J_if (gd := 63) rfl rfl (fun hg5 => ?_) (fun hg5 => ?_)
       ·refine J_gdno rfl rfl rfl rfl (J_gdno rfl rfl rfl rfl (J_gdno rfl rfl rfl rfl (J_gdno rfl rfl rfl rfl (J_gdno rfl rfl rfl rfl (J_gdno rfl rfl rfl rfl (J_gdno rfl rfl rfl rfl (J_gdno rfl rfl rfl rfl (J_st (R_pickT rfl rfl) rfl (J_st (R_move rfl) rfl (J_gdno rfl rfl rfl rfl (J_gdno rfl rfl rfl rfl (J_gdno rfl rfl rfl rfl (J_gdno rfl rfl rfl rfl (J_gdno rfl rfl rfl rfl (J_gdno rfl rfl rfl rfl (J_gdno rfl rfl rfl rfl (J_gdno rfl rfl rfl rfl (J_st (R_pickT rfl rfl) rfl (J_cutEnd ⟨rfl, rfl, rfl, rfl, rfl, rfl, rfl, rfl, rfl, rfl, rfl, congrArg (fun b => some (Value.bool b)) (show true = (((((xs[k]'hi2).op) != x.op) || (((xs[k]'hi2).epoch) != x.epoch)) || (((xs[k]'hi2).key) != x.key)) by first | (rw [hg5] <;> rfl) | (simp [hg5]; done) | (simp only [nat_nlt] <;> simp)), trivial⟩ rfl)))))))))))))))))))
       ·refine J_gd rfl rfl (R_move rfl) rfl (J_gd rfl rfl (R_move rfl) rfl (J_gd rfl rfl (R_index (i := k) sl27 rfl rfl (hxs.ext E) hi2) rfl (J_gd rfl rfl (R_fieldAddr fl56_1 rfl) rfl (J_gd rfl rfl (R_load sc3 rfl (((hxs.ext E).get hi2).one 1 rfl)) rfl (J_gd rfl rfl (R_fieldAddr0 fl56_1 rfl) rfl (J_gd rfl rfl (R_load sc3 rfl (h1.one 1 rfl)) rfl (J_gd rfl rfl (R_neq rfl rfl) rfl (J_st (R_pickF rfl rfl) rfl (J_st (R_move rfl) rfl ?_)))))))))
        refine J_if (gd := 73) rfl rfl (fun hg6 => ?_) (fun hg6 => ?_)
        ·refine J_gdno rfl rfl rfl rfl (J_gdno rfl rfl rfl rfl (J_gdno rfl rfl rfl rfl (J_gdno rfl rfl rfl rfl (J_gdno rfl rfl rfl rfl (J_gdno rfl rfl rfl rfl (J_gdno rfl rfl rfl rfl (J_gdno rfl rfl rfl rfl (J_st (R_pickT rfl rfl) rfl (J_cutEnd ⟨rfl, rfl, rfl, rfl, rfl, rfl, rfl, rfl, rfl, rfl, rfl, congrArg (fun b => some (Value.bool b)) (show true = (((((xs[k]'hi2).op) != x.op) || (((xs[k]'hi2).epoch) != x.epoch)) || (((xs[k]'hi2).key) != x.key)) by first | (rw [hg5, hg6] <;> rfl) | (simp [hg5, hg6]; done) | (simp only [nat_nlt] <;> simp)), trivial⟩ rfl)))))))))
        ·refine J_gd rfl rfl (R_move rfl) rfl (J_gd rfl rfl (R_move rfl) rfl (J_gd rfl rfl (R_index (i := k) sl27 rfl rfl (hxs.ext E) hi2) rfl (J_gd rfl rfl (R_fieldAddr fl56_2 rfl) rfl (J_gd rfl rfl (R_load sc3 rfl (((hxs.ext E).get hi2).one 2 rfl)) rfl (J_gd rfl rfl (R_fieldAddr0 fl56_2 rfl) rfl (J_gd rfl rfl (R_load sc3 rfl (h1.one 2 rfl)) rfl (J_gd rfl rfl (R_neq rfl rfl) rfl (J_st (R_pickF rfl rfl) rfl (J_cutEnd ⟨rfl, rfl, rfl, rfl, rfl, rfl, rfl, rfl, rfl, rfl, rfl, congrArg (fun b => some (Value.bool b)) (show (((xs[k]'hi2).key) != x.key) = (((((xs[k]'hi2).op) != x.op) || (((xs[k]'hi2).epoch) != x.epoch)) || (((xs[k]'hi2).key) != x.key)) by first | (rw [hg5, hg6] <;> rfl) | (simp [hg5, hg6]; done) | (simp only [nat_nlt] <;> simp)), trivial⟩ rfl)))))))))
      rintro _ rfl
      refine J_done ?_
      refine S_cond rfl (fun hc10 => ?_) (fun hc10 => ?_)
      ·refine S_reg [true, true, true, true, true, false, false, true] rfl rfl ?_
       refine J_st (R_move rfl) rfl (J_st (R_move rfl) rfl (J_st (R_move rfl) rfl (J_st (R_index (i := k) sl27 rfl rfl (hxs.ext E) hi2) rfl (J_st (R_loadS st56 rfl ((hxs.ext E).get hi2) rfl) rfl ?_))))
       refine J_buildSlice (vs := [.agg (Enc.enc (xs[k]'hi2)).toArray]) (css := [[.int .i64 ((xs[k]'hi2).op), .int .i64 ((xs[k]'hi2).epoch), .int .i64 ((xs[k]'hi2).key), .int .i64 ((xs[k]'hi2).val)]]) sl27 rfl rfl ⟨⟨rfl, rfl⟩, trivial⟩ rfl rfl (fun b6 w21 e13 s6 h6 => ?_)
       replace h6 : Blk w21 b6 [.int .i64 ((xs[k]'hi2).op), .int .i64 ((xs[k]'hi2).epoch), .int .i64 ((xs[k]'hi2).key), .int .i64 ((xs[k]'hi2).val)] := h6
       have g_b6 : w.heap.size ≤ b6 := by have := E.size; omega
       have y_b6 := h6.lt
       replace E := E.trans e13; replace h1 := h1.ext e13; replace ho1 := ho1.ext e13; replace ho := ho.ext e13
       have z17 := e13.size
       refine J_append sl27 rfl rfl ho (Src.ofBlk h6 rfl) rfl (by first | (simp only [sum_flat, List.length_nil, List.length_cons]; simp only [Enc.sz]; omega) | (have h := filt_len xs (fun y => !(slot x y)) k; simp only [show Enc.sz Cell = 4 from rfl] at h; simp only [List.length_cons, List.length_nil]; omega)) (by decide) (by omega) (by omega) rfl rfl (fun v5 w22 m3 ho5 => ?_)
       replace E := E.step m3 (fun g hg => by have := Own.blk ho g hg; omega); replace h1 := h1.mod m3 (fun g hg => by have := Own.blk ho g hg; omega); replace ho1 := ho1.mod m3 (fun g hg => by have := Own.blk ho g hg; omega)
       have z18 := m3.size
       refine J_st (R_assign rfl) rfl (J_done ?_)
       refine S_nil (E_inB ?_)
       refine S_reg [true, true, true] rfl rfl ?_
       refine J_st (R_move rfl) rfl (J_st (R_add rfl rfl (add_one hc9n hxs.1)) rfl (J_st (R_assign rfl) rfl (J_done ?_)))
       refine S_nil (E_again (k + 1, v5) (by simp; omega) ⟨rfl, rfl, rfl, rfl, rfl, rfl, rfl, trivial⟩ ⟨E, (by omega), h1, ho1, (by omega), Own.fin ho5 (Nat.le_refl _) (by omega) (filt_yes (by assumption) (ns_yes (by assumption)))⟩)
      ·refine S_skip ?_
       refine S_nil (E_inB ?_)
       refine S_reg [true, true, true] rfl rfl ?_
       refine J_st (R_move rfl) rfl (J_st (R_add rfl rfl (add_one hc9n hxs.1)) rfl (J_st (R_assign rfl) rfl (J_done ?_)))
       refine S_nil (E_again (k + 1, vo) (by simp; omega) ⟨rfl, rfl, rfl, rfl, rfl, rfl, rfl, trivial⟩ ⟨E, (by omega), h1, ho1, (by omega), Own.fin ho (Nat.le_refl _) (by omega) (filt_no (by assumption) (ns_no (by assumption)))⟩)
     ·have hc9n : ¬ k < xs.length := by first | (have h := of_decide_eq_false hc9; omega) | (have h := hc9; simp at h; omega)
      refine S_exit (E_lp_exit (E_inB_exit ?_))
      refine S_seq ?_
      refine S_reg [true, true, false, true, true] rfl rfl ?_
      refine J_st (R_move rfl) rfl (J_st (R_loadS st56 rfl h1.at rfl) rfl ?_)
      refine J_call Try.call79 rfl (s_PutCell vo ((xs.take k).filter (fun y => !(slot x y))) x _ (Own.rd (by decide) ho) (by have h1 := List.length_filter_le (fun y => !(slot x y)) (xs.take k); simp only [List.length_take] at h1; omega)) rfl (fun v6 w23 e14 ho6 => ?_)
      have g_ho6 : w.heap.size ≤ w18.heap.size := E.size
      replace E := E.trans e14; replace h1 := h1.ext e14; replace ho1 := ho1.ext e14; replace ho := ho.ext e14
      have z19 := e14.size
      refine J_st (R_assign rfl) rfl (J_st (R_assign rfl) rfl (J_done ?_))
      refine S_ret (E_inB_ret (E_doneN (l := [.tmp 6, .tmp 7]) (vs := [v6, .bool true]) rfl ⟨.tmp rfl, .tmp rfl, trivial⟩ rfl E ?_))
      rw [recallM_b (.inr (by assumption)), betterM_no (by assumption)]
      exact ⟨_, rfl, Own.fin ho6 (by omega) (by omega) (by simp only [List.nil_append, List.take_of_length_le (show xs.length ≤ k by omega)] <;> rfl)⟩
   ·refine S_skip ?_
    refine S_nil (E_inB ?_)
    refine S_seq ?_
    refine S_reg [true, true, true] rfl rfl ?_
    refine J_st (R_move rfl) rfl (J_st (R_assign rfl) rfl (J_st (R_assign rfl) rfl (J_done ?_)))
    refine S_ret (E_doneN (l := [.tmp 6, .tmp 7]) (vs := [v1, .bool true]) rfl ⟨.tmp rfl, .tmp rfl, trivial⟩ rfl E ?_)
    rw [recallM_o (by assumption) (by assumption) (by assumption)]
    exact ⟨_, rfl, Own.fin ho1 (by omega) (by omega) (by first | rfl | simp only [List.nil_append])⟩

set_option maxRecDepth 20000 in
theorem s_l02Less (a : Int) (b : Int) (w : World)  : Ct Try.prog 77 [.int .i64 a, .int .i64 b] w (fun v _ => v = .int .i64 (if b < a then b else a)) := by
 refine ct_of Try.func77 rfl Try.ntmps77 rfl ?_
 refine S_sub [(0, .int .i64 a), (1, .int .i64 b)] ⟨rfl, rfl, trivial⟩ ?_
 have E : Ext w w := Ext.refl w
 refine S_seq ?_
 refine S_reg [true] rfl rfl ?_
 refine J_st (R_assign rfl) rfl (J_done ?_)
 refine S_seq ?_
 refine S_seq ?_
 refine S_reg [true, true, true] rfl rfl ?_
 refine J_st (R_move rfl) rfl (J_st (R_move rfl) rfl (J_st (R_lss rfl rfl) rfl (J_done ?_)))
 refine S_cond rfl (fun hc1 => ?_) (fun hc1 => ?_)
 ·refine S_seq ?_
  refine S_reg [true, true] rfl rfl ?_
  refine J_st (R_move rfl) rfl (J_st (R_assign rfl) rfl (J_done ?_))
  refine S_ret (E_done1 rfl rfl E ?_)
  rw [if_pos (of_decide_eq_true hc1)]
 ·refine S_skip ?_
  refine S_seq ?_
  refine S_reg [true, true] rfl rfl ?_
  refine J_st (R_move rfl) rfl (J_st (R_assign rfl) rfl (J_done ?_))
  refine S_ret (E_done1 rfl rfl E ?_)
  rw [if_neg (of_decide_eq_false hc1)]

set_option maxRecDepth 20000 in
theorem c_Changed (cx : List Value) (x : Node) (a : Int) (b : Int) (w : World) (hx : Dat.R w 0 w.heap.size cx x) : Ct Try.prog 45 [.agg cx.toArray, .int .i64 a, .int .i64 b] w (fun v _ => v = .tuple [.int .i64 ((changedM x a b).1), .int .i64 ((changedM x a b).2.1), .bool ((changedM x a b).2.2)].toArray) := by
 refine ct_of Try.func45 rfl Try.ntmps45 rfl ?_
 obtain ⟨o1, rfl, hd1⟩ := Node.op hx
 refine S_sub [(0, .agg [.int .i64 x.kind, .int .i64 x.a, .int .i64 x.b, o1].toArray), (1, .int .i64 a), (2, .int .i64 b)] ⟨rfl, rfl, rfl, trivial⟩ ?_
 have E : Ext w w := Ext.refl w
 refine S_seq ?_
 refine S_reg [false, true, true, true] rfl rfl ?_
 refine J_box rfl rfl (fun b1 w1 e1 s1 h1 => ?_)
 have g_b1 : w.heap.size ≤ b1 := by have := E.size; omega
 have y_b1 := h1.lt
 replace E := E.trans e1
 have z1 := e1.size
 refine J_st (R_assign rfl) rfl (J_st (R_assign rfl) rfl (J_st (R_assign rfl) rfl (J_done ?_)))
 refine S_seq ?_
 refine S_seq ?_
 refine S_reg [true, false, true, true, true, true, false, true, true] rfl rfl ?_
 refine J_st (R_loadS st42 rfl h1.at rfl) rfl ?_
 refine J_call Try.call73 rfl (c_NodeOk [.int .i64 x.kind, .int .i64 x.a, .int .i64 x.b, o1] x _ (Node.mkR x (RdD.any (hd1.ext E)))) rfl (fun _ w2 e2 hv => ?_)
 subst hv
 replace E := E.trans e2; replace h1 := h1.ext e2
 have z2 := e2.size
 refine J_st (R_not rfl) rfl (J_st (R_move rfl) rfl ?_)
 refine J_cut 5 [(0, .agg [.int .i64 x.kind, .int .i64 x.a, .int .i64 x.b, o1].toArray), (1, .int .i64 a), (2, .int .i64 b), (3, .pointer (some ⟨b1, 0, none⟩)), (6, .int .i64 0), (7, .int .i64 0), (8, .bool false), (17, .bool ((!(nodeOk x)) || (!(win a 0 99 && win b 0 999))))] (fun w' => Ext w w' ∧ w2.heap.size ≤ w'.heap.size ∧ Blk w' b1 ([.int .i64 x.kind, .int .i64 x.a, .int .i64 x.b, o1])) ?_ ?_
 ·refine J_if (gd := 12) rfl rfl (fun hg1 => ?_) (fun hg1 => ?_)
  ·refine J_gdno rfl rfl rfl rfl (J_gdno rfl rfl rfl rfl ?_)
   refine J_ungno rfl rfl rfl rfl ?_
   refine J_gdno rfl rfl rfl rfl (J_st (R_pickT rfl rfl) rfl (J_cutEnd ⟨rfl, rfl, rfl, rfl, rfl, rfl, rfl, congrArg (fun b => some (Value.bool b)) (show true = ((!(nodeOk x)) || (!(win a 0 99 && win b 0 999))) by first | (rw [hg1] <;> rfl) | (simp [hg1]; done) | (simp only [nat_nlt] <;> simp)), trivial⟩ ⟨E, (by omega), h1⟩))
  ·refine J_gd rfl rfl (R_move rfl) rfl (J_gd rfl rfl (R_move rfl) rfl ?_)
   refine J_ung rfl rfl ?_
   refine J_call Try.call65 rfl (c_itemOk a b _ ) rfl (fun _ w4 e3 hv => ?_)
   subst hv
   replace E := E.trans e3; replace h1 := h1.ext e3
   have z3 := e3.size
   refine J_gd rfl rfl (R_not rfl) rfl (J_st (R_pickF rfl rfl) rfl (J_cutEnd ⟨rfl, rfl, rfl, rfl, rfl, rfl, rfl, congrArg (fun b => some (Value.bool b)) (show (!(win a 0 99 && win b 0 999)) = ((!(nodeOk x)) || (!(win a 0 99 && win b 0 999))) by first | (rw [hg1] <;> rfl) | (simp [hg1]; done) | (simp only [nat_nlt] <;> simp)), trivial⟩ ⟨E, (by omega), h1⟩))
 clear E h1
 rintro w3 ⟨E, z4, h1⟩
 refine J_done ?_
 refine S_cond rfl (fun hc1 => ?_) (fun hc1 => ?_)
 ·refine S_seq ?_
  refine S_reg [true, true, true, true, true] rfl rfl ?_
  refine J_st (R_move rfl) rfl (J_st (R_move rfl) rfl (J_st (R_assign rfl) rfl (J_st (R_assign rfl) rfl (J_st (R_assign rfl) rfl (J_done ?_)))))
  refine S_ret (E_doneN (l := [.tmp 6, .tmp 7, .tmp 8]) (vs := [.int .i64 a, .int .i64 b, .bool false]) rfl ⟨.tmp rfl, .tmp rfl, .tmp rfl, trivial⟩ rfl E ?_)
  rw [ch_0 (by assumption)]
 ·have hno := ch_ok hc1
  refine S_skip ?_
  refine S_seq ?_
  refine S_seq ?_
  refine S_reg [true, true] rfl rfl ?_
  refine J_st (R_fieldAddr0 fl42_0 rfl) rfl (J_st (R_load sc3 rfl (h1.one 0 rfl)) rfl (J_done ?_))
  refine S_block ?_
  refine S_seq ?_
  refine S_reg [true, true] rfl rfl ?_
  refine J_st (R_eql rfl rfl) rfl (J_st (R_assign rfl) rfl (J_done ?_))
  refine S_cond rfl (fun hc2 => ?_) (fun hc2 => ?_)
  ·refine S_seq ?_
   refine S_regD mixed [(0, true), (1, true), (2, true), (3, true), (4, true), (5, true), (6, true), (7, true), (8, true)] (by decide +kernel) rfl (fun w5 e4 => ?_)
   replace E := E.trans e4; replace h1 := h1.ext e4
   have z5 := e4.size
   refine J_st (R_move rfl) rfl (J_st (R_move rfl) rfl (J_st (R_fieldAddr0 fl42_1 rfl) rfl (J_st (R_load sc3 rfl (h1.one 1 rfl)) rfl (J_st (R_add rfl rfl rfl) rfl (J_st (R_min rfl rfl) rfl (J_st (R_assign rfl) rfl (J_st (R_assign rfl) rfl (J_st (R_assign rfl) rfl (J_done ?_)))))))))
   refine S_ret (E_inB_ret (E_doneN (l := [.tmp 6, .tmp 7, .tmp 8]) (vs := [.int .i64 a, .int .i64 (if (IntKind.i64.wrap (b + x.a)) < 999 then (IntKind.i64.wrap (b + x.a)) else 999), .bool true]) rfl ⟨.tmp rfl, .tmp rfl, .tmp rfl, trivial⟩ rfl E ?_))
   rw [ch_2 (by assumption) (by assumption)]
  ·refine S_seq ?_
   refine S_reg [true, true] rfl rfl ?_
   refine J_st (R_eql rfl rfl) rfl (J_st (R_assign rfl) rfl (J_done ?_))
   refine S_cond rfl (fun hc3 => ?_) (fun hc3 => ?_)
   ·refine S_seq ?_
    refine S_reg [true, true, true, true, true, true, true, true, true] rfl rfl ?_
    refine J_st (R_move rfl) rfl (J_st (R_fieldAddr0 fl42_1 rfl) rfl (J_st (R_load sc3 rfl (h1.one 1 rfl)) rfl (J_st (R_add rfl rfl rfl) rfl (J_st (R_rem rfl rfl (by decide) rfl) rfl (J_st (R_move rfl) rfl (J_st (R_assign rfl) rfl (J_st (R_assign rfl) rfl (J_st (R_assign rfl) rfl (J_done ?_)))))))))
    refine S_ret (E_inB_ret (E_doneN (l := [.tmp 6, .tmp 7, .tmp 8]) (vs := [.int .i64 (Int.tmod (IntKind.i64.wrap (a + x.a)) 100), .int .i64 b, .bool true]) rfl ⟨.tmp rfl, .tmp rfl, .tmp rfl, trivial⟩ rfl E ?_))
    rw [ch_4 (by assumption) (by assumption)]
   ·refine S_seq ?_
    refine S_reg [true, true] rfl rfl ?_
    refine J_st (R_eql rfl rfl) rfl (J_st (R_assign rfl) rfl (J_done ?_))
    refine S_cond rfl (fun hc4 => ?_) (fun hc4 => ?_)
    ·have hna := node_a3 hno hc4
     refine S_seq ?_
     refine S_regD mixed [(0, true), (1, true), (2, true), (3, true), (4, true), (5, true), (6, true), (7, true), (8, true), (9, true), (10, true), (11, true)] (by decide +kernel) rfl (fun w6 e5 => ?_)
     replace E := E.trans e5; replace h1 := h1.ext e5
     have z6 := e5.size
     refine J_st (R_move rfl) rfl (J_st (R_move rfl) rfl (J_st (R_move rfl) rfl (J_st (R_fieldAddr0 fl42_1 rfl) rfl (J_st (R_load sc3 rfl (h1.one 1 rfl)) rfl (J_st (R_rem rfl rfl (by omega) rfl) rfl (J_st (R_fieldAddr0 fl42_2 rfl) rfl (J_st (R_load sc3 rfl (h1.one 2 rfl)) rfl (J_st (R_eql rfl rfl) rfl (J_st (R_assign rfl) rfl (J_st (R_assign rfl) rfl (J_st (R_assign rfl) rfl (J_done ?_))))))))))))
     refine S_ret (E_inB_ret (E_doneN (l := [.tmp 6, .tmp 7, .tmp 8]) (vs := [.int .i64 a, .int .i64 b, .bool ((Int.tmod a x.a) == x.b)]) rfl ⟨.tmp rfl, .tmp rfl, .tmp rfl, trivial⟩ rfl E ?_))
     rw [ch_3 (by assumption) (by assumption)]
    ·refine S_skip ?_
     refine S_nil (E_inB ?_)
     refine S_seq ?_
     refine S_regD mixed [(0, true), (1, true), (2, true), (3, true), (4, true), (5, true), (6, true), (7, true)] (by decide +kernel) rfl (fun w7 e6 => ?_)
     replace E := E.trans e6; replace h1 := h1.ext e6
     have z7 := e6.size
     refine J_st (R_move rfl) rfl (J_st (R_move rfl) rfl (J_st (R_fieldAddr0 fl42_0 rfl) rfl (J_st (R_load sc3 rfl (h1.one 0 rfl)) rfl (J_st (R_neq rfl rfl) rfl (J_st (R_assign rfl) rfl (J_st (R_assign rfl) rfl (J_st (R_assign rfl) rfl (J_done ?_))))))))
     refine S_ret (E_doneN (l := [.tmp 6, .tmp 7, .tmp 8]) (vs := [.int .i64 a, .int .i64 b, .bool (x.kind != 8)]) rfl ⟨.tmp rfl, .tmp rfl, .tmp rfl, trivial⟩ rfl E ?_)
     rw [ch_o (by assumption) (by assumption) (by assumption) (by assumption)]

set_option maxRecDepth 20000 in
theorem s_Changed (cx : List Value) (x : Node) (a : Int) (b : Int) (w : World) (hx : Dat.R w 0 w.heap.size cx x) : Ct Try.prog 49 [.agg cx.toArray, .int .i64 a, .int .i64 b] w (fun v _ => v = .tuple [.int .i64 ((changedM x a b).1), .int .i64 ((changedM x a b).2.1), .bool ((changedM x a b).2.2)].toArray) := by
 refine ct_of Try.func49 rfl Try.ntmps49 rfl ?_
 obtain ⟨o1, rfl, hd1⟩ := Node.op hx
 refine S_sub [(0, .agg [.int .i64 x.kind, .int .i64 x.a, .int .i64 x.b, o1].toArray), (1, .int .i64 a), (2, .int .i64 b)] ⟨rfl, rfl, rfl, trivial⟩ ?_
 have E : Ext w w := Ext.refl w
 refine S_seq ?_
 refine S_reg [false, true, true, true] rfl rfl ?_
 refine J_box rfl rfl (fun b1 w1 e1 s1 h1 => ?_)
 have g_b1 : w.heap.size ≤ b1 := by have := E.size; omega
 have y_b1 := h1.lt
 replace E := E.trans e1
 have z1 := e1.size
 refine J_st (R_assign rfl) rfl (J_st (R_assign rfl) rfl (J_st (R_assign rfl) rfl (J_done ?_)))
 refine S_seq ?_
 refine S_seq ?_
 refine S_reg [true, false, true, true, true, false, true, true, true, true, false, true, true] rfl rfl ?_
 refine J_st (R_loadS st42 rfl h1.at rfl) rfl ?_
 refine J_call Try.call69 rfl (s_NodeOk [.int .i64 x.kind, .int .i64 x.a, .int .i64 x.b, o1] x _ (Node.mkR x (RdD.any (hd1.ext E)))) rfl (fun _ w2 e2 hv => ?_)
 subst hv
 replace E := E.trans e2; replace h1 := h1.ext e2
 have z2 := e2.size
 refine J_st (R_not rfl) rfl (J_st (R_move rfl) rfl ?_)
 refine J_cut 9 [(0, .agg [.int .i64 x.kind, .int .i64 x.a, .int .i64 x.b, o1].toArray), (1, .int .i64 a), (2, .int .i64 b), (3, .pointer (some ⟨b1, 0, none⟩)), (6, .int .i64 0), (7, .int .i64 0), (8, .bool false), (21, .bool (((!(nodeOk x)) || (!(win a 0 99))) || (!(win b 0 999))))] (fun w' => Ext w w' ∧ w2.heap.size ≤ w'.heap.size ∧ Blk w' b1 ([.int .i64 x.kind, .int .i64 x.a, .int .i64 x.b, o1])) ?_ ?_
 ·refine J_if (gd := 12) rfl rfl (fun hg1 => ?_) (fun hg1 => ?_)
  ·refine J_gdno rfl rfl rfl rfl ?_
   refine J_ungno rfl rfl rfl rfl ?_
   refine J_gdno rfl rfl rfl rfl (J_st (R_pickT rfl rfl) rfl (J_st (R_move rfl) rfl (J_gdno rfl rfl rfl rfl ?_)))
   refine J_ungno rfl rfl rfl rfl ?_
   refine J_gdno rfl rfl rfl rfl (J_st (R_pickT rfl rfl) rfl (J_cutEnd ⟨rfl, rfl, rfl, rfl, rfl, rfl, rfl, congrArg (fun b => some (Value.bool b)) (show true = (((!(nodeOk x)) || (!(win a 0 99))) || (!(win b 0 999))) by first | (rw [hg1] <;> rfl) | (simp [hg1]; done) | (simp only [nat_nlt] <;> simp)), trivial⟩ ⟨E, (by omega), h1⟩))
  ·refine J_gd rfl rfl (R_move rfl) rfl ?_
   refine J_ung rfl rfl ?_
   refine J_call Try.call53 rfl (s_l01In a 0 99 _ ) rfl (fun _ w4 e3 hv => ?_)
   subst hv
   replace E := E.trans e3; replace h1 := h1.ext e3
   have z3 := e3.size
   refine J_gd rfl rfl (R_not rfl) rfl (J_st (R_pickF rfl rfl) rfl (J_st (R_move rfl) rfl ?_))
   refine J_if (gd := 17) rfl rfl (fun hg2 => ?_) (fun hg2 => ?_)
   ·refine J_gdno rfl rfl rfl rfl ?_
    refine J_ungno rfl rfl rfl rfl ?_
    refine J_gdno rfl rfl rfl rfl (J_st (R_pickT rfl rfl) rfl (J_cutEnd ⟨rfl, rfl, rfl, rfl, rfl, rfl, rfl, congrArg (fun b => some (Value.bool b)) (show true = (((!(nodeOk x)) || (!(win a 0 99))) || (!(win b 0 999))) by first | (rw [hg1, hg2] <;> rfl) | (simp [hg1, hg2]; done) | (simp only [nat_nlt] <;> simp)), trivial⟩ ⟨E, (by omega), h1⟩))
   ·refine J_gd rfl rfl (R_move rfl) rfl ?_
    refine J_ung rfl rfl ?_
    refine J_call Try.call53 rfl (s_l01In b 0 999 _ ) rfl (fun _ w5 e4 hv => ?_)
    subst hv
    replace E := E.trans e4; replace h1 := h1.ext e4
    have z4 := e4.size
    refine J_gd rfl rfl (R_not rfl) rfl (J_st (R_pickF rfl rfl) rfl (J_cutEnd ⟨rfl, rfl, rfl, rfl, rfl, rfl, rfl, congrArg (fun b => some (Value.bool b)) (show (!(win b 0 999)) = (((!(nodeOk x)) || (!(win a 0 99))) || (!(win b 0 999))) by first | (rw [hg1, hg2] <;> rfl) | (simp [hg1, hg2]; done) | (simp only [nat_nlt] <;> simp)), trivial⟩ ⟨E, (by omega), h1⟩))
 clear E h1
 rintro w3 ⟨E, z5, h1⟩
 refine J_done ?_
 refine S_cond rfl (fun hc1 => ?_) (fun hc1 => ?_)
 ·replace hc1 := ch_st hc1
  refine S_seq ?_
  refine S_reg [true, true, true, true, true] rfl rfl ?_
  refine J_st (R_move rfl) rfl (J_st (R_move rfl) rfl (J_st (R_assign rfl) rfl (J_st (R_assign rfl) rfl (J_st (R_assign rfl) rfl (J_done ?_)))))
  refine S_ret (E_doneN (l := [.tmp 6, .tmp 7, .tmp 8]) (vs := [.int .i64 a, .int .i64 b, .bool false]) rfl ⟨.tmp rfl, .tmp rfl, .tmp rfl, trivial⟩ rfl E ?_)
  rw [ch_0 (by assumption)]
 ·replace hc1 := ch_s hc1
  have hno := ch_ok hc1
  refine S_skip ?_
  refine S_seq ?_
  refine S_seq ?_
  refine S_reg [true, true] rfl rfl ?_
  refine J_st (R_fieldAddr0 fl42_0 rfl) rfl (J_st (R_load sc3 rfl (h1.one 0 rfl)) rfl (J_done ?_))
  refine S_block ?_
  refine S_seq ?_
  refine S_reg [true, true] rfl rfl ?_
  refine J_st (R_eql rfl rfl) rfl (J_st (R_assign rfl) rfl (J_done ?_))
  refine S_cond rfl (fun hc2 => ?_) (fun hc2 => ?_)
  ·refine S_seq ?_
   refine S_reg [true, true, true, true, true, false, true, true, true] rfl rfl ?_
   refine J_st (R_move rfl) rfl (J_st (R_move rfl) rfl (J_st (R_fieldAddr0 fl42_1 rfl) rfl (J_st (R_load sc3 rfl (h1.one 1 rfl)) rfl (J_st (R_add rfl rfl rfl) rfl ?_))))
   refine J_call Try.call77 rfl (s_l02Less (IntKind.i64.wrap (b + x.a)) 999 _ ) rfl (fun _ w6 e5 hv => ?_)
   subst hv
   replace E := E.trans e5; replace h1 := h1.ext e5
   have z6 := e5.size
   refine J_st (R_assign rfl) rfl (J_st (R_assign rfl) rfl (J_st (R_assign rfl) rfl (J_done ?_)))
   refine S_ret (E_inB_ret (E_doneN (l := [.tmp 6, .tmp 7, .tmp 8]) (vs := [.int .i64 a, .int .i64 (if 999 < (IntKind.i64.wrap (b + x.a)) then 999 else (IntKind.i64.wrap (b + x.a))), .bool true]) rfl ⟨.tmp rfl, .tmp rfl, .tmp rfl, trivial⟩ rfl E ?_))
   rw [ch_2 (by assumption) (by assumption), min_999]
  ·refine S_seq ?_
   refine S_reg [true, true] rfl rfl ?_
   refine J_st (R_eql rfl rfl) rfl (J_st (R_assign rfl) rfl (J_done ?_))
   refine S_cond rfl (fun hc3 => ?_) (fun hc3 => ?_)
   ·refine S_seq ?_
    refine S_reg [true, true, true, true, true, true, true, true, true] rfl rfl ?_
    refine J_st (R_move rfl) rfl (J_st (R_fieldAddr0 fl42_1 rfl) rfl (J_st (R_load sc3 rfl (h1.one 1 rfl)) rfl (J_st (R_add rfl rfl rfl) rfl (J_st (R_rem rfl rfl (by decide) rfl) rfl (J_st (R_move rfl) rfl (J_st (R_assign rfl) rfl (J_st (R_assign rfl) rfl (J_st (R_assign rfl) rfl (J_done ?_)))))))))
    refine S_ret (E_inB_ret (E_doneN (l := [.tmp 6, .tmp 7, .tmp 8]) (vs := [.int .i64 (Int.tmod (IntKind.i64.wrap (a + x.a)) 100), .int .i64 b, .bool true]) rfl ⟨.tmp rfl, .tmp rfl, .tmp rfl, trivial⟩ rfl E ?_))
    rw [ch_4 (by assumption) (by assumption)]
   ·refine S_seq ?_
    refine S_reg [true, true] rfl rfl ?_
    refine J_st (R_eql rfl rfl) rfl (J_st (R_assign rfl) rfl (J_done ?_))
    refine S_cond rfl (fun hc4 => ?_) (fun hc4 => ?_)
    ·have hna := node_a3 hno hc4
     refine S_seq ?_
     refine S_regD mixed [(0, true), (1, true), (2, true), (3, true), (4, true), (5, true), (6, true), (7, true), (8, true), (9, true), (10, true), (11, true)] (by decide +kernel) rfl (fun w7 e6 => ?_)
     replace E := E.trans e6; replace h1 := h1.ext e6
     have z7 := e6.size
     refine J_st (R_move rfl) rfl (J_st (R_move rfl) rfl (J_st (R_move rfl) rfl (J_st (R_fieldAddr0 fl42_1 rfl) rfl (J_st (R_load sc3 rfl (h1.one 1 rfl)) rfl (J_st (R_rem rfl rfl (by omega) rfl) rfl (J_st (R_fieldAddr0 fl42_2 rfl) rfl (J_st (R_load sc3 rfl (h1.one 2 rfl)) rfl (J_st (R_eql rfl rfl) rfl (J_st (R_assign rfl) rfl (J_st (R_assign rfl) rfl (J_st (R_assign rfl) rfl (J_done ?_))))))))))))
     refine S_ret (E_inB_ret (E_doneN (l := [.tmp 6, .tmp 7, .tmp 8]) (vs := [.int .i64 a, .int .i64 b, .bool ((Int.tmod a x.a) == x.b)]) rfl ⟨.tmp rfl, .tmp rfl, .tmp rfl, trivial⟩ rfl E ?_))
     rw [ch_3 (by assumption) (by assumption)]
    ·refine S_skip ?_
     refine S_nil (E_inB ?_)
     refine S_seq ?_
     refine S_regD mixed [(0, true), (1, true), (2, true), (3, true), (4, true), (5, true), (6, true), (7, true)] (by decide +kernel) rfl (fun w8 e7 => ?_)
     replace E := E.trans e7; replace h1 := h1.ext e7
     have z8 := e7.size
     refine J_st (R_move rfl) rfl (J_st (R_move rfl) rfl (J_st (R_fieldAddr0 fl42_0 rfl) rfl (J_st (R_load sc3 rfl (h1.one 0 rfl)) rfl (J_st (R_neq rfl rfl) rfl (J_st (R_assign rfl) rfl (J_st (R_assign rfl) rfl (J_st (R_assign rfl) rfl (J_done ?_))))))))
     refine S_ret (E_doneN (l := [.tmp 6, .tmp 7, .tmp 8]) (vs := [.int .i64 a, .int .i64 b, .bool (x.kind != 8)]) rfl ⟨.tmp rfl, .tmp rfl, .tmp rfl, trivial⟩ rfl E ?_)
     rw [ch_o (by assumption) (by assumption) (by assumption) (by assumption)]

set_option maxHeartbeats 4000000 in
set_option maxRecDepth 20000 in
theorem c_Improve (cg : List Value) (g : Graph) (vxs : Value) (xs : List Cell) (x : Cell) (w : World) (hg : Dat.R w 0 w.heap.size cg g) (hxs : RdS w vxs xs) (hb : xs.length ≤ 4194304) : Ct Try.prog 25 [.agg cg.toArray, vxs, .agg (Enc.enc x).toArray] w (fun v w' => ∃ u0 u1, v = .tuple [u0, u1].toArray ∧ Own w' w.heap.size w'.heap.size 4 u0 (List.flatMap (Enc.enc (α := Cell)) ((improveM g xs x).1)) ∧ Own w' w.heap.size w'.heap.size 4 u1 (List.flatMap (Enc.enc (α := Cell)) ((improveM g xs x).2)) ∧ SepL [u0, u1]) := by
 refine ct_of Try.func25 rfl Try.ntmps25 rfl ?_
 obtain ⟨o1, rfl, hd1⟩ := Graph.op hg
 refine S_sub [(0, .agg [o1, .int .i64 g.workers, .int .i64 g.cap].toArray), (1, vxs), (2, .agg (Enc.enc x).toArray)] ⟨rfl, rfl, rfl, trivial⟩ ?_
 have E : Ext w w := Ext.refl w
 refine S_seq ?_
 refine S_reg [false, false, true, true] rfl rfl ?_
 refine J_box rfl rfl (fun b1 w1 e1 s1 h1 => ?_)
 have g_b1 : w.heap.size ≤ b1 := by have := E.size; omega
 have y_b1 := h1.lt
 replace E := E.trans e1
 have z1 := e1.size
 refine J_box rfl rfl (fun b2 w2 e2 s2 h2 => ?_)
 have g_b2 : w.heap.size ≤ b2 := by have := E.size; omega
 have y_b2 := h2.lt
 replace E := E.trans e2; replace h1 := h1.ext e2
 have z2 := e2.size
 refine J_st (R_assign rfl) rfl (J_st (R_assign rfl) rfl (J_done ?_))
 refine S_seq ?_
 refine S_seq ?_
 refine S_reg [true, false, true, true, true, true, true, false, true, true, true, true, true, false, true, true, true, true, true, true, true, false, true, true] rfl rfl ?_
 refine J_st (R_loadS st26 rfl h1.at rfl) rfl ?_
 refine J_call Try.call41 rfl (c_GraphOk [o1, .int .i64 g.workers, .int .i64 g.cap] g _ (Graph.mkR g (RdD.any (hd1.ext E)))) rfl (fun _ w3 e3 hv => ?_)
 subst hv
 replace E := E.trans e3; replace h1 := h1.ext e3; replace h2 := h2.ext e3
 have z3 := e3.size
 refine J_st (R_not rfl) rfl (J_st (R_move rfl) rfl ?_)
 refine J_cut 20 [(0, .agg [o1, .int .i64 g.workers, .int .i64 g.cap].toArray), (1, vxs), (2, .agg (Enc.enc x).toArray), (3, .pointer (some ⟨b1, 0, none⟩)), (5, .pointer (some ⟨b2, 0, none⟩)), (6, .slice none 0 0), (7, .slice none 0 0), (39, .bool ((((!(graphOk g)) || (!(isNodeM g x.op))) || (!(win x.epoch 0 3))) || (!(win x.key 0 99 && win x.val 0 999))))] (fun w' => Ext w w' ∧ w3.heap.size ≤ w'.heap.size ∧ Blk w' b1 ([o1, .int .i64 g.workers, .int .i64 g.cap]) ∧ Blk w' b2 (Enc.enc x)) ?_ ?_
 ·refine J_if (gd := 19) rfl rfl (fun hg1 => ?_) (fun hg1 => ?_)
  ·refine J_gdno rfl rfl rfl rfl (J_gdno rfl rfl rfl rfl (J_gdno rfl rfl rfl rfl ?_))
   refine J_ungno rfl rfl rfl rfl ?_
   refine J_gdno rfl rfl rfl rfl (J_st (R_pickT rfl rfl) rfl (J_st (R_move rfl) rfl (J_gdno rfl rfl rfl rfl (J_gdno rfl rfl rfl rfl ?_))))
   refine J_ungno rfl rfl rfl rfl ?_
   refine J_gdno rfl rfl rfl rfl (J_st (R_pickT rfl rfl) rfl (J_st (R_move rfl) rfl (J_gdno rfl rfl rfl rfl (J_gdno rfl rfl rfl rfl (J_gdno rfl rfl rfl rfl (J_gdno rfl rfl rfl rfl ?_))))))
   refine J_ungno rfl rfl rfl rfl ?_
   refine J_gdno rfl rfl rfl rfl (J_st (R_pickT rfl rfl) rfl (J_cutEnd ⟨rfl, rfl, rfl, rfl, rfl, rfl, rfl, congrArg (fun b => some (Value.bool b)) (show true = ((((!(graphOk g)) || (!(isNodeM g x.op))) || (!(win x.epoch 0 3))) || (!(win x.key 0 99 && win x.val 0 999))) by first | (rw [hg1] <;> rfl) | (simp [hg1]; done) | (simp only [nat_nlt] <;> simp)), trivial⟩ ⟨E, (by omega), h1, h2⟩))
  ·refine J_gd rfl rfl (R_loadS st26 rfl h1.at rfl) rfl (J_gd rfl rfl (R_fieldAddr0 fl56_0 rfl) rfl (J_gd rfl rfl (R_load sc3 rfl (h2.one 0 rfl)) rfl ?_))
   refine J_ung rfl rfl ?_
   refine J_call Try.call43 rfl (c_isNode [o1, .int .i64 g.workers, .int .i64 g.cap] g x.op _ (Graph.mkR g (RdD.any (hd1.ext E)))) rfl (fun _ w5 e4 hv => ?_)
   subst hv
   replace E := E.trans e4; replace h1 := h1.ext e4; replace h2 := h2.ext e4
   have z4 := e4.size
   refine J_gd rfl rfl (R_not rfl) rfl (J_st (R_pickF rfl rfl) rfl (J_st (R_move rfl) rfl ?_))
   refine J_if (gd := 26) rfl rfl (fun hg2 => ?_) (fun hg2 => ?_)
   ·refine J_gdno rfl rfl rfl rfl (J_gdno rfl rfl rfl rfl ?_)
    refine J_ungno rfl rfl rfl rfl ?_
    refine J_gdno rfl rfl rfl rfl (J_st (R_pickT rfl rfl) rfl (J_st (R_move rfl) rfl (J_gdno rfl rfl rfl rfl (J_gdno rfl rfl rfl rfl (J_gdno rfl rfl rfl rfl (J_gdno rfl rfl rfl rfl ?_))))))
    refine J_ungno rfl rfl rfl rfl ?_
    refine J_gdno rfl rfl rfl rfl (J_st (R_pickT rfl rfl) rfl (J_cutEnd ⟨rfl, rfl, rfl, rfl, rfl, rfl, rfl, congrArg (fun b => some (Value.bool b)) (show true = ((((!(graphOk g)) || (!(isNodeM g x.op))) || (!(win x.epoch 0 3))) || (!(win x.key 0 99 && win x.val 0 999))) by first | (rw [hg1, hg2] <;> rfl) | (simp [hg1, hg2]; done) | (simp only [nat_nlt] <;> simp)), trivial⟩ ⟨E, (by omega), h1, h2⟩))
   ·refine J_gd rfl rfl (R_fieldAddr0 fl56_1 rfl) rfl (J_gd rfl rfl (R_load sc3 rfl (h2.one 1 rfl)) rfl ?_)
    refine J_ung rfl rfl ?_
    refine J_call Try.call64 rfl (c_within x.epoch 0 3 _ ) rfl (fun _ w6 e5 hv => ?_)
    subst hv
    replace E := E.trans e5; replace h1 := h1.ext e5; replace h2 := h2.ext e5
    have z5 := e5.size
    refine J_gd rfl rfl (R_not rfl) rfl (J_st (R_pickF rfl rfl) rfl (J_st (R_move rfl) rfl ?_))
    refine J_if (gd := 32) rfl rfl (fun hg3 => ?_) (fun hg3 => ?_)
    ·refine J_gdno rfl rfl rfl rfl (J_gdno rfl rfl rfl rfl (J_gdno rfl rfl rfl rfl (J_gdno rfl rfl rfl rfl ?_)))
     refine J_ungno rfl rfl rfl rfl ?_
     refine J_gdno rfl rfl rfl rfl (J_st (R_pickT rfl rfl) rfl (J_cutEnd ⟨rfl, rfl, rfl, rfl, rfl, rfl, rfl, congrArg (fun b => some (Value.bool b)) (show true = ((((!(graphOk g)) || (!(isNodeM g x.op))) || (!(win x.epoch 0 3))) || (!(win x.key 0 99 && win x.val 0 999))) by first | (rw [hg1, hg2, hg3] <;> rfl) | (simp [hg1, hg2, hg3]; done) | (simp only [nat_nlt] <;> simp)), trivial⟩ ⟨E, (by omega), h1, h2⟩))
    ·refine J_gd rfl rfl (R_fieldAddr0 fl56_2 rfl) rfl (J_gd rfl rfl (R_load sc3 rfl (h2.one 2 rfl)) rfl (J_gd rfl rfl (R_fieldAddr0 fl56_3 rfl) rfl (J_gd rfl rfl (R_load sc3 rfl (h2.one 3 rfl)) rfl ?_)))
     refine J_ung rfl rfl ?_
     refine J_call Try.call65 rfl (c_itemOk x.key x.val _ ) rfl (fun _ w7 e6 hv => ?_)
     subst hv
     replace E := E.trans e6; replace h1 := h1.ext e6; replace h2 := h2.ext e6
     have z6 := e6.size
     refine J_gd rfl rfl (R_not rfl) rfl (J_st (R_pickF rfl rfl) rfl (J_cutEnd ⟨rfl, rfl, rfl, rfl, rfl, rfl, rfl, congrArg (fun b => some (Value.bool b)) (show (!(win x.key 0 99 && win x.val 0 999)) = ((((!(graphOk g)) || (!(isNodeM g x.op))) || (!(win x.epoch 0 3))) || (!(win x.key 0 99 && win x.val 0 999))) by first | (rw [hg1, hg2, hg3] <;> rfl) | (simp [hg1, hg2, hg3]; done) | (simp only [nat_nlt] <;> simp)), trivial⟩ ⟨E, (by omega), h1, h2⟩))
 clear E h1 h2
 rintro w4 ⟨E, z7, h1, h2⟩
 refine J_done ?_
 refine S_cond rfl (fun hc1 => ?_) (fun hc1 => ?_)
 ·refine S_seq ?_
  refine S_reg [true, false, true, true] rfl rfl ?_
  refine J_st (R_move rfl) rfl ?_
  refine J_call Try.call44 rfl (c_copyCells vxs xs _ (hxs.ext E) (by first | omega | (simp only [mkL_length]; omega) | (rw [mkL_length]; done) | (simp only [mkL_length]; done))) rfl (fun v1 w8 e7 ho1 => ?_)
  have g_ho1 : w.heap.size ≤ w4.heap.size := E.size
  replace E := E.trans e7; replace h1 := h1.ext e7; replace h2 := h2.ext e7
  have z8 := e7.size
  refine J_st (R_assign rfl) rfl (J_st (R_assign rfl) rfl (J_done ?_))
  refine S_ret (E_doneN (l := [.tmp 6, .tmp 7]) (vs := [v1, .slice none 0 0]) rfl ⟨.tmp rfl, .tmp rfl, trivial⟩ rfl E ?_)
  rw [imp_0 hc1]
  exact ⟨_, _, rfl, Own.fin ho1 (by omega) (by omega) (by first | rfl | (simp only [List.nil_append]; rfl) | (rw [impTo_all (by omega)])), Own.finNil rfl, ⟨⟨(Sep.nilR _), trivial⟩, ⟨trivial, trivial⟩⟩⟩
 ·have hq := imp_of hc1
  have hop := isNode_of hq.2
  have hgo := hq.1
  have ho2 := outs_two (i := Int.toNat x.op) hgo (by omega)
  have hof := getD_at (xs := g.nodes) hop.2.2 ▸ ho2
  refine S_skip ?_
  refine S_seq ?_
  refine S_reg [true, true, false, true, true, true, true, true] rfl rfl ?_
  refine J_st (R_move rfl) rfl (J_st (R_loadS st56 rfl h2.at rfl) rfl ?_)
  refine J_call Try.call66 rfl (c_better vxs xs x _ (hxs.ext E) (by first | omega | (simp only [mkL_length]; omega) | (rw [mkL_length]; done) | (simp only [mkL_length]; done))) rfl (fun _ w9 e8 ho2 => ?_)
  obtain ⟨v2, rfl, ho3⟩ := ho2
  have g_ho2 : w.heap.size ≤ w4.heap.size := E.size
  replace E := E.trans e8; replace h1 := h1.ext e8; replace h2 := h2.ext e8
  have z9 := e8.size
  refine J_st (R_move rfl) rfl (J_st (R_extract rfl rfl) rfl (J_st (R_extract rfl rfl) rfl (J_st (R_assign rfl) rfl (J_st (R_assign rfl) rfl (J_done ?_)))))
  refine S_seq ?_
  refine S_regD mixed [(0, true), (1, true), (2, true), (3, true), (4, true), (5, true), (6, true), (7, true), (8, true), (9, true), (10, false), (11, true), (12, true), (13, true), (14, true), (15, true), (16, true), (17, true)] (by decide +kernel) rfl (fun w10 e9 => ?_)
  replace E := E.trans e9; replace h1 := h1.ext e9; replace h2 := h2.ext e9; replace ho3 := ho3.ext e9
  have z10 := e9.size
  refine J_st (R_fieldAddr0 fl26_0 rfl) rfl (J_st (R_load sc24 rfl (h1.one 0 rfl)) rfl (J_st (R_fieldAddr0 fl56_0 rfl) rfl (J_st (R_load sc3 rfl (h2.one 0 rfl)) rfl ?_)))
  have hi1 : (Int.toNat x.op) < g.nodes.length := (by first | assumption | omega | (simp only [List.length_set]; first | assumption | omega) | (simp only [List.getElem_set_self, List.length_set]; first | assumption | omega) | (simp only [setW, setLk, List.length_set]; first | assumption | omega) | (simp; done))
  obtain ⟨_, hr1, ha1⟩ := RdD.get hd1 hi1
  obtain ⟨o2, rfl, hd2⟩ := Node.op hr1
  replace ha1 : At w (sblk o1) (soff o1 + (Int.toNat x.op) * 4) [.int .i64 ((g.nodes[(Int.toNat x.op)]'hi1).kind), .int .i64 ((g.nodes[(Int.toNat x.op)]'hi1).a), .int .i64 ((g.nodes[(Int.toNat x.op)]'hi1).b), o2] := ha1
  refine J_st (R_indexZ (i := (Int.toNat x.op)) sl24 rfl rfl (hd1.ext E).1 (by omega) hi1) rfl (J_st (R_loadS st42 rfl (ha1.ext E) rfl) rfl (J_st (R_fieldAddr0 fl56_2 rfl) rfl (J_st (R_load sc3 rfl (h2.one 2 rfl)) rfl (J_st (R_fieldAddr0 fl56_3 rfl) rfl (J_st (R_load sc3 rfl (h2.one 3 rfl)) rfl ?_)))))
  refine J_call Try.call45 rfl (c_Changed [.int .i64 ((g.nodes[(Int.toNat x.op)]'hi1).kind), .int .i64 ((g.nodes[(Int.toNat x.op)]'hi1).a), .int .i64 ((g.nodes[(Int.toNat x.op)]'hi1).b), o2] (g.nodes[(Int.toNat x.op)]'hi1) x.key x.val _ (Node.mkR (g.nodes[(Int.toNat x.op)]'hi1) (RdD.any (hd2.ext E)))) rfl (fun _ w11 e10 hv => ?_)
  subst hv
  replace E := E.trans e10; replace h1 := h1.ext e10; replace h2 := h2.ext e10; replace ho3 := ho3.ext e10
  have z11 := e10.size
  refine J_st (R_move rfl) rfl (J_st (R_extract rfl rfl) rfl (J_st (R_extract rfl rfl) rfl (J_st (R_extract rfl rfl) rfl (J_st (R_assign rfl) rfl (J_st (R_assign rfl) rfl (J_st (R_assign rfl) rfl (J_done ?_)))))))
  refine S_seq ?_
  refine S_seq ?_
  refine S_reg [true, true, true, true, true, true] rfl rfl ?_
  refine J_st (R_move rfl) rfl (J_st (R_not rfl) rfl (J_st (R_move rfl) rfl ?_))
  refine J_cut 3 [(0, .agg [o1, .int .i64 g.workers, .int .i64 g.cap].toArray), (1, vxs), (2, .agg (Enc.enc x).toArray), (3, .pointer (some ⟨b1, 0, none⟩)), (5, .pointer (some ⟨b2, 0, none⟩)), (6, .slice none 0 0), (7, .slice none 0 0), (8, v2), (9, .bool ((betterM xs x).2)), (10, .int .i64 ((changedM (g.nodes[(Int.toNat x.op)]'hi1) x.key x.val).1)), (11, .int .i64 ((changedM (g.nodes[(Int.toNat x.op)]'hi1) x.key x.val).2.1)), (12, .bool ((changedM (g.nodes[(Int.toNat x.op)]'hi1) x.key x.val).2.2)), (39, .bool ((((!(graphOk g)) || (!(isNodeM g x.op))) || (!(win x.epoch 0 3))) || (!(win x.key 0 99 && win x.val 0 999)))), (42, .tuple [v2, .bool ((betterM xs x).2)].toArray), (43, vxs), (44, .agg (Enc.enc x).toArray), (45, .tuple [v2, .bool ((betterM xs x).2)].toArray), (46, v2), (47, .bool ((betterM xs x).2)), (48, .tuple [.int .i64 ((changedM (g.nodes[(Int.toNat x.op)]'hi1) x.key x.val).1), .int .i64 ((changedM (g.nodes[(Int.toNat x.op)]'hi1) x.key x.val).2.1), .bool ((changedM (g.nodes[(Int.toNat x.op)]'hi1) x.key x.val).2.2)].toArray), (49, .pointer (some ⟨b1, 0, none⟩)), (50, o1), (51, .pointer (some ⟨b2, 0, none⟩)), (52, .int .i64 x.op), (53, .pointer (some ⟨sblk o1, soff o1 + (Int.toNat x.op) * 4, none⟩)), (54, .agg [.int .i64 ((g.nodes[(Int.toNat x.op)]'hi1).kind), .int .i64 ((g.nodes[(Int.toNat x.op)]'hi1).a), .int .i64 ((g.nodes[(Int.toNat x.op)]'hi1).b), o2].toArray), (55, .pointer (some ⟨b2, 2, none⟩)), (56, .int .i64 x.key), (57, .pointer (some ⟨b2, 3, none⟩)), (58, .int .i64 x.val), (59, .tuple [.int .i64 ((changedM (g.nodes[(Int.toNat x.op)]'hi1) x.key x.val).1), .int .i64 ((changedM (g.nodes[(Int.toNat x.op)]'hi1) x.key x.val).2.1), .bool ((changedM (g.nodes[(Int.toNat x.op)]'hi1) x.key x.val).2.2)].toArray), (60, .int .i64 ((changedM (g.nodes[(Int.toNat x.op)]'hi1) x.key x.val).1)), (61, .int .i64 ((changedM (g.nodes[(Int.toNat x.op)]'hi1) x.key x.val).2.1)), (62, .bool ((changedM (g.nodes[(Int.toNat x.op)]'hi1) x.key x.val).2.2)), (68, .bool ((!((betterM xs x).2)) || (!((changedM (g.nodes[(Int.toNat x.op)]'hi1) x.key x.val).2.2))))] (fun w' => w11 = w') ?_ ?_
  ·refine J_if (gd := 65) rfl rfl (fun hg4 => ?_) (fun hg4 => ?_)
   ·refine J_gdno rfl rfl rfl rfl (J_gdno rfl rfl rfl rfl (J_st (R_pickT rfl rfl) rfl (J_cutEnd ⟨rfl, rfl, rfl, rfl, rfl, rfl, rfl, rfl, rfl, rfl, rfl, rfl, rfl, rfl, rfl, rfl, rfl, rfl, rfl, rfl, rfl, rfl, rfl, rfl, rfl, rfl, rfl, rfl, rfl, rfl, rfl, rfl, rfl, rfl, congrArg (fun b => some (Value.bool b)) (show true = ((!((betterM xs x).2)) || (!((changedM (g.nodes[(Int.toNat x.op)]'hi1) x.key x.val).2.2))) by first | (rw [hg4] <;> rfl) | (simp [hg4]; done) | (simp only [nat_nlt] <;> simp)), trivial⟩ rfl)))
   ·refine J_gd rfl rfl (R_move rfl) rfl (J_gd rfl rfl (R_not rfl) rfl (J_st (R_pickF rfl rfl) rfl (J_cutEnd ⟨rfl, rfl, rfl, rfl, rfl, rfl, rfl, rfl, rfl, rfl, rfl, rfl, rfl, rfl, rfl, rfl, rfl, rfl, rfl, rfl, rfl, rfl, rfl, rfl, rfl, rfl, rfl, rfl, rfl, rfl, rfl, rfl, rfl, rfl, congrArg (fun b => some (Value.bool b)) (show (!((changedM (g.nodes[(Int.toNat x.op)]'hi1) x.key x.val).2.2)) = ((!((betterM xs x).2)) || (!((changedM (g.nodes[(Int.toNat x.op)]'hi1) x.key x.val).2.2))) by first | (rw [hg4] <;> rfl) | (simp [hg4]; done) | (simp only [nat_nlt] <;> simp)), trivial⟩ rfl)))
  rintro _ rfl
  refine J_done ?_
  refine S_cond rfl (fun hc2 => ?_) (fun hc2 => ?_)
  ·refine S_seq ?_
   refine S_reg [true, true, true] rfl rfl ?_
   refine J_st (R_move rfl) rfl (J_st (R_assign rfl) rfl (J_st (R_assign rfl) rfl (J_done ?_)))
   refine S_ret (E_doneN (l := [.tmp 6, .tmp 7]) (vs := [v2, .slice none 0 0]) rfl ⟨.tmp rfl, .tmp rfl, trivial⟩ rfl E ?_)
   rw [imp_1 hc1 hop (by assumption)]
   exact ⟨_, _, rfl, Own.fin ho3 (by omega) (by omega) (by first | rfl | (simp only [List.nil_append]; rfl) | (rw [impTo_all (by omega)])), Own.finNil rfl, ⟨⟨(Sep.nilR _), trivial⟩, ⟨trivial, trivial⟩⟩⟩
  ·refine S_skip ?_
   refine S_seq ?_
   refine S_reg [true] rfl rfl ?_
   refine J_st (R_assign rfl) rfl (J_done ?_)
   refine S_seq ?_
   refine S_seq ?_
   refine S_reg [true, true, true, true, true, true, true, true, true] rfl rfl ?_
   refine J_st (R_fieldAddr0 fl26_0 rfl) rfl (J_st (R_load sc24 rfl (h1.one 0 rfl)) rfl (J_st (R_fieldAddr0 fl56_0 rfl) rfl (J_st (R_load sc3 rfl (h2.one 0 rfl)) rfl (J_st (R_indexZ (i := (Int.toNat x.op)) sl24 rfl rfl (hd1.ext E).1 (by omega) hi1) rfl (J_st (R_fieldAddr fl42_3 rfl) rfl (J_st (R_load sc40 rfl ((ha1.ext E).one 3 rfl)) rfl (J_st (R_len Try.underlying40 rfl (hd2.ext E).len) rfl (J_st (R_move rfl) rfl (J_done ?_)))))))))
   refine S_block ?_
   refine S_loop (fun (xq : Nat × Value) => let ⟨k, vo⟩ := xq; [(5, .pointer (some ⟨b2, 0, none⟩)), (6, .slice none 0 0), (7, .slice none 0 0), (8, v2), (10, .int .i64 ((changedM (g.nodes[(Int.toNat x.op)]'hi1) x.key x.val).1)), (11, .int .i64 ((changedM (g.nodes[(Int.toNat x.op)]'hi1) x.key x.val).2.1)), (13, vo), (76, o2), (77, .int .i64 ((((g.nodes[(Int.toNat x.op)]'hi1).outs).length : Nat) : Int)), (78, .int .i64 ((k : Nat) : Int))]) (fun (xq : Nat × Value) w' => let ⟨k, vo⟩ := xq; Ext w w' ∧ w11.heap.size ≤ w'.heap.size ∧ Blk w' b1 ([o1, .int .i64 g.workers, .int .i64 g.cap]) ∧ Blk w' b2 (Enc.enc x) ∧ Own w' w4.heap.size w9.heap.size 4 v2 (List.flatMap (Enc.enc (α := Cell)) ((betterM xs x).1)) ∧ k ≤ (List.getD g.nodes (Int.toNat x.op) default).outs.length ∧ Own w' w11.heap.size w'.heap.size 4 vo (List.flatMap (Enc.enc (α := Cell)) (impTo g x k))) (fun (xq : Nat × Value) => let ⟨k, vo⟩ := xq; (List.getD g.nodes (Int.toNat x.op) default).outs.length - k) (0, .slice none 0 0) ⟨rfl, rfl, rfl, rfl, rfl, rfl, rfl, rfl, rfl, rfl, trivial⟩ ⟨E, Nat.le_refl _, h1, h2, ho3, Nat.zero_le _, Own.fin (Own.nil w11 w11.heap.size w11.heap.size 4) (by omega) (by omega) rfl⟩ ?_
   clear E h1 h2 ho3
   rintro ⟨k, vo⟩ w13 ⟨E, z12, h1, h2, ho3, hk, hvo⟩
   refine S_sub [(5, .pointer (some ⟨b2, 0, none⟩)), (6, .slice none 0 0), (7, .slice none 0 0), (8, v2), (10, .int .i64 ((changedM (g.nodes[(Int.toNat x.op)]'hi1) x.key x.val).1)), (11, .int .i64 ((changedM (g.nodes[(Int.toNat x.op)]'hi1) x.key x.val).2.1)), (13, vo), (76, o2), (77, .int .i64 ((((g.nodes[(Int.toNat x.op)]'hi1).outs).length : Nat) : Int)), (78, .int .i64 ((k : Nat) : Int))] ⟨rfl, rfl, rfl, rfl, rfl, rfl, rfl, rfl, rfl, rfl, trivial⟩ ?_
   have hke : (List.getD g.nodes (Int.toNat x.op) default).outs.length = (g.nodes[Int.toNat x.op]'hop.2.2).outs.length := by rw [getD_at hop.2.2]
   refine S_seq ?_
   refine S_reg [true] rfl rfl ?_
   refine J_st (R_lss rfl rfl) rfl (J_done ?_)
   refine S_seq ?_
   refine S_cond rfl (fun hc3 => ?_) (fun hc3 => ?_)
   ·have hc3n : k < ((g.nodes[(Int.toNat x.op)]'hi1).outs).length := by first | (have h := of_decide_eq_true hc3; omega) | (have h := hc3; simp at h; omega)
    refine S_skip ?_
    refine S_seq ?_
    refine S_block ?_
    refine S_seq ?_
    refine S_reg [true, true, true] rfl rfl ?_
    have hi2 : k < ((g.nodes[(Int.toNat x.op)]'hi1).outs).length := (by first | assumption | omega | (simp only [List.length_set]; first | assumption | omega) | (simp only [List.getElem_set_self, List.length_set]; first | assumption | omega) | (simp only [setW, setLk, List.length_set]; first | assumption | omega) | (simp; done))
    refine J_st (R_index (i := k) sl40 rfl rfl (hd2.rd.ext E) hi2) rfl (J_st (R_load sc3 rfl (((hd2.rd.ext E).get hi2).one 0 rfl)) rfl (J_st (R_assign rfl) rfl (J_done ?_)))
    refine S_reg [true, true, true, true, true, true, true, false, false, true] rfl rfl ?_
    refine J_st (R_move rfl) rfl (J_st (R_move rfl) rfl (J_st (R_fieldAddr0 fl56_1 rfl) rfl (J_st (R_load sc3 rfl (h2.one 1 rfl)) rfl (J_st (R_move rfl) rfl (J_st (R_move rfl) rfl (J_st (R_build (⟨(((g.nodes[(Int.toNat x.op)]'hi1).outs)[k]'hi2), x.epoch, (changedM (g.nodes[(Int.toNat x.op)]'hi1) x.key x.val).1, (changedM (g.nodes[(Int.toNat x.op)]'hi1) x.key x.val).2.1⟩ : Cell) rfl (fun _ => by kernel_rfl)) rfl ?_))))))
    refine J_buildSlice (vs := [.agg (Enc.enc (⟨(((g.nodes[(Int.toNat x.op)]'hi1).outs)[k]'hi2), x.epoch, (changedM (g.nodes[(Int.toNat x.op)]'hi1) x.key x.val).1, (changedM (g.nodes[(Int.toNat x.op)]'hi1) x.key x.val).2.1⟩ : Cell)).toArray]) (css := [[.int .i64 ((⟨(((g.nodes[(Int.toNat x.op)]'hi1).outs)[k]'hi2), x.epoch, (changedM (g.nodes[(Int.toNat x.op)]'hi1) x.key x.val).1, (changedM (g.nodes[(Int.toNat x.op)]'hi1) x.key x.val).2.1⟩ : Cell).op), .int .i64 ((⟨(((g.nodes[(Int.toNat x.op)]'hi1).outs)[k]'hi2), x.epoch, (changedM (g.nodes[(Int.toNat x.op)]'hi1) x.key x.val).1, (changedM (g.nodes[(Int.toNat x.op)]'hi1) x.key x.val).2.1⟩ : Cell).epoch), .int .i64 ((⟨(((g.nodes[(Int.toNat x.op)]'hi1).outs)[k]'hi2), x.epoch, (changedM (g.nodes[(Int.toNat x.op)]'hi1) x.key x.val).1, (changedM (g.nodes[(Int.toNat x.op)]'hi1) x.key x.val).2.1⟩ : Cell).key), .int .i64 ((⟨(((g.nodes[(Int.toNat x.op)]'hi1).outs)[k]'hi2), x.epoch, (changedM (g.nodes[(Int.toNat x.op)]'hi1) x.key x.val).1, (changedM (g.nodes[(Int.toNat x.op)]'hi1) x.key x.val).2.1⟩ : Cell).val)]]) sl27 rfl rfl ⟨⟨rfl, rfl⟩, trivial⟩ rfl rfl (fun b3 w14 e11 s3 h3 => ?_)
    replace h3 : Blk w14 b3 [.int .i64 ((⟨(((g.nodes[(Int.toNat x.op)]'hi1).outs)[k]'hi2), x.epoch, (changedM (g.nodes[(Int.toNat x.op)]'hi1) x.key x.val).1, (changedM (g.nodes[(Int.toNat x.op)]'hi1) x.key x.val).2.1⟩ : Cell).op), .int .i64 ((⟨(((g.nodes[(Int.toNat x.op)]'hi1).outs)[k]'hi2), x.epoch, (changedM (g.nodes[(Int.toNat x.op)]'hi1) x.key x.val).1, (changedM (g.nodes[(Int.toNat x.op)]'hi1) x.key x.val).2.1⟩ : Cell).epoch), .int .i64 ((⟨(((g.nodes[(Int.toNat x.op)]'hi1).outs)[k]'hi2), x.epoch, (changedM (g.nodes[(Int.toNat x.op)]'hi1) x.key x.val).1, (changedM (g.nodes[(Int.toNat x.op)]'hi1) x.key x.val).2.1⟩ : Cell).key), .int .i64 ((⟨(((g.nodes[(Int.toNat x.op)]'hi1).outs)[k]'hi2), x.epoch, (changedM (g.nodes[(Int.toNat x.op)]'hi1) x.key x.val).1, (changedM (g.nodes[(Int.toNat x.op)]'hi1) x.key x.val).2.1⟩ : Cell).val)] := h3
    have g_b3 : w.heap.size ≤ b3 := by have := E.size; omega
    have y_b3 := h3.lt
    replace E := E.trans e11; replace h1 := h1.ext e11; replace h2 := h2.ext e11; replace ho3 := ho3.ext e11; replace hvo := hvo.ext e11
    have z13 := e11.size
    refine J_append sl27 rfl rfl hvo (Src.ofBlk h3 rfl) rfl (by first | (simp only [sum_flat, List.length_nil, List.length_cons]; simp only [Enc.sz]; omega) | (have h := impTo_len g x k; rw [sum_flat]; simp only [show Enc.sz Cell = 4 from rfl, List.length_cons, List.length_nil]; omega)) (by decide) (by omega) (by omega) rfl rfl (fun v3 w15 m1 ho4 => ?_)
    replace E := E.step m1 (fun g hg => by have := Own.blk hvo g hg; omega); replace h1 := h1.mod m1 (fun g hg => by have := Own.blk hvo g hg; omega); replace h2 := h2.mod m1 (fun g hg => by have := Own.blk hvo g hg; omega); replace ho3 := ho3.mod m1 (fun g hg => by have := Own.blk hvo g hg; omega)
    have z14 := m1.size
    refine J_st (R_assign rfl) rfl (J_done ?_)
    refine S_nil (E_inB ?_)
    refine S_reg [true, true] rfl rfl ?_
    refine J_st (R_add rfl rfl (add_one hc3n (hd2.ext E).1.1)) rfl (J_st (R_move rfl) rfl (J_done ?_))
    refine S_nil (E_again (k + 1, v3) (by dsimp only; omega) ⟨rfl, rfl, rfl, rfl, rfl, rfl, rfl, rfl, rfl, rfl, trivial⟩ ⟨E, (by omega), h1, h2, ho3, (by omega), Own.fin ho4 (Nat.le_refl _) (by omega) (imp_step hop.2.2 (by omega))⟩)
   ·have hc3n : ¬ k < ((g.nodes[(Int.toNat x.op)]'hi1).outs).length := by first | (have h := of_decide_eq_false hc3; omega) | (have h := hc3; simp at h; omega)
    refine S_exit (E_lp_exit (E_inB_exit ?_))
    refine S_seq ?_
    refine S_reg [true, true, true, true] rfl rfl ?_
    refine J_st (R_move rfl) rfl (J_st (R_move rfl) rfl (J_st (R_assign rfl) rfl (J_st (R_assign rfl) rfl (J_done ?_))))
    refine S_ret (E_doneN (l := [.tmp 6, .tmp 7]) (vs := [v2, vo]) rfl ⟨.tmp rfl, .tmp rfl, trivial⟩ rfl E ?_)
    rw [imp_2 hc1 hop (by assumption)]
    exact ⟨_, _, rfl, Own.fin ho3 (by omega) (by omega) (by first | rfl | (simp only [List.nil_append]; rfl) | (rw [impTo_all (by omega)])), Own.fin hvo (by omega) (by omega) (by first | rfl | (simp only [List.nil_append]; rfl) | (rw [impTo_all (by omega)])), ⟨⟨(Own.sep ho3 hvo (by omega)), trivial⟩, ⟨trivial, trivial⟩⟩⟩

set_option maxHeartbeats 4000000 in
set_option maxRecDepth 20000 in
theorem s_Improve (cg : List Value) (g : Graph) (vxs : Value) (xs : List Cell) (x : Cell) (w : World) (hg : Dat.R w 0 w.heap.size cg g) (hxs : RdS w vxs xs) (hb : xs.length ≤ 4194304) (hcg : cntGraph g ≤ 1048576) : Ct Try.prog 26 [.agg cg.toArray, vxs, .agg (Enc.enc x).toArray] w (fun v w' => ∃ u0 u1, v = .tuple [u0, u1].toArray ∧ Own w' w.heap.size w'.heap.size 4 u0 (List.flatMap (Enc.enc (α := Cell)) ((improveM g xs x).1)) ∧ Own w' w.heap.size w'.heap.size 4 u1 (List.flatMap (Enc.enc (α := Cell)) ((improveM g xs x).2)) ∧ SepL [u0, u1]) := by
 refine ct_of Try.func26 rfl Try.ntmps26 rfl ?_
 obtain ⟨o1, rfl, hd1⟩ := Graph.op hg
 refine S_sub [(0, .agg [o1, .int .i64 g.workers, .int .i64 g.cap].toArray), (1, vxs), (2, .agg (Enc.enc x).toArray)] ⟨rfl, rfl, rfl, trivial⟩ ?_
 have E : Ext w w := Ext.refl w
 refine S_seq ?_
 refine S_reg [false, false, true, true] rfl rfl ?_
 refine J_box rfl rfl (fun b1 w1 e1 s1 h1 => ?_)
 have g_b1 : w.heap.size ≤ b1 := by have := E.size; omega
 have y_b1 := h1.lt
 replace E := E.trans e1
 have z1 := e1.size
 refine J_box rfl rfl (fun b2 w2 e2 s2 h2 => ?_)
 have g_b2 : w.heap.size ≤ b2 := by have := E.size; omega
 have y_b2 := h2.lt
 replace E := E.trans e2; replace h1 := h1.ext e2
 have z2 := e2.size
 refine J_st (R_assign rfl) rfl (J_st (R_assign rfl) rfl (J_done ?_))
 refine S_seq ?_
 refine S_reg [false, true, false, true] rfl rfl ?_
 refine J_buildSlice (vs := []) (css := []) sl27 rfl rfl trivial rfl rfl (fun b3 w3 e3 s3 h3 => ?_)
 replace h3 : Blk w3 b3 [] := h3
 have g_b3 : w.heap.size ≤ b3 := by have := E.size; omega
 have y_b3 := h3.lt
 replace E := E.trans e3; replace h1 := h1.ext e3; replace h2 := h2.ext e3
 have z3 := e3.size
 refine J_st (R_move rfl) rfl ?_
 refine J_append sl27 rfl rfl (Own.ofBlk (lo := b3) (hi := b3 + 1) (sz := 4) h3 (Nat.le_refl _) (Nat.lt_succ_self _) (by simp) (by simp [maxLen])) (RdS.src (hxs.ext E)) (flat_one _) (by first | (simp only [sum_flat, List.length_nil, List.length_cons]; simp only [Enc.sz]; omega) | (have h := impTo_len g x k; rw [sum_flat]; simp only [show Enc.sz Cell = 4 from rfl, List.length_cons, List.length_nil]; omega)) (by decide) (by omega) (by omega) rfl rfl (fun v1 w4 m1 ho1 => ?_)
 replace E := E.step m1 (fun g hg => by have := Own.blk (Own.ofBlk (lo := b3) (hi := b3 + 1) (sz := 4) h3 (Nat.le_refl _) (Nat.lt_succ_self _) (by simp) (by simp [maxLen])) g hg; omega); replace h1 := h1.mod m1 (fun g hg => by have := Own.blk (Own.ofBlk (lo := b3) (hi := b3 + 1) (sz := 4) h3 (Nat.le_refl _) (Nat.lt_succ_self _) (by simp) (by simp [maxLen])) g hg; omega); replace h2 := h2.mod m1 (fun g hg => by have := Own.blk (Own.ofBlk (lo := b3) (hi := b3 + 1) (sz := 4) h3 (Nat.le_refl _) (Nat.lt_succ_self _) (by simp) (by simp [maxLen])) g hg; omega)
 have z4 := m1.size
 refine J_st (R_assign rfl) rfl (J_done ?_)
 refine S_seq ?_
 refine S_reg [false, true] rfl rfl ?_
 refine J_buildSlice (vs := []) (css := []) sl27 rfl rfl trivial rfl rfl (fun b4 w5 e4 s4 h4 => ?_)
 replace h4 : Blk w5 b4 [] := h4
 have g_b4 : w.heap.size ≤ b4 := by have := E.size; omega
 have y_b4 := h4.lt
 replace E := E.trans e4; replace h1 := h1.ext e4; replace h2 := h2.ext e4; replace ho1 := ho1.ext e4
 have z5 := e4.size
 refine J_st (R_assign rfl) rfl (J_done ?_)
 refine S_seq ?_
 refine S_reg [true, true, true, false, true, true, true, false, false, true] rfl rfl ?_
 refine J_st (R_loadS st26 rfl h1.at rfl) rfl (J_st (R_fieldAddr0 fl56_0 rfl) rfl (J_st (R_load sc3 rfl (h2.one 0 rfl)) rfl ?_))
 refine J_call Try.call48 rfl (s_NodeOf [o1, .int .i64 g.workers, .int .i64 g.cap] g x.op _ (Graph.mkR g (RdD.any (hd1.ext E))) (by first | omega | (simp only [mkL_length]; omega) | (rw [mkL_length]; done) | (simp only [mkL_length]; done))) rfl (fun _ w6 e5 ho2 => ?_)
 obtain ⟨_, rfl, ho3⟩ := ho2
 have g_ho2 : w.heap.size ≤ w5.heap.size := E.size
 replace E := E.trans e5; replace h1 := h1.ext e5; replace h2 := h2.ext e5; replace ho1 := ho1.ext e5; replace h4 := h4.ext e5
 have z6 := e5.size
 obtain ⟨o2, rfl, sp1, hw1⟩ := Node.opO ho3
 refine J_st (R_move rfl) rfl (J_st (R_extract rfl rfl) rfl (J_st (R_extract rfl rfl) rfl ?_))
 refine J_alloc st42 rfl (fun b5 w7 e6 s5 h5 => ?_)
 have g_b5 : w.heap.size ≤ b5 := by have := E.size; omega
 have y_b5 := h5.lt
 replace E := E.trans e6; replace h1 := h1.ext e6; replace h2 := h2.ext e6; replace ho1 := ho1.ext e6; replace h4 := h4.ext e6; replace hw1 := hw1.ext e6
 have z7 := e6.size
 refine J_storeS' (cs' := [.int .i64 (((nodeOf g x.op).1).kind), .int .i64 (((nodeOf g x.op).1).a), .int .i64 (((nodeOf g x.op).1).b), o2]) st42 rfl rfl rfl (all_cons rfl (all_cons rfl (all_cons rfl (all_cons hw1.one rfl)))) h5 (Nat.le_of_ble_eq_true rfl) rfl (fun w8 m2 h5' => ?_)
 replace h5 := h5'
 replace E := E.step m2 (fun g hg => by cases hg; omega); replace h1 := h1.mod m2 (fun g hg => by cases hg; omega); replace h2 := h2.mod m2 (fun g hg => by cases hg; omega); replace ho1 := ho1.mod m2 (fun g hg => by cases hg; omega); replace h4 := h4.mod m2 (fun g hg => by cases hg; omega); replace hw1 := hw1.mod m2 (fun g hg => by cases hg; omega)
 have z8 := m2.size
 refine J_st (R_assign rfl) rfl (J_done ?_)
 refine S_seq ?_
 refine S_seq ?_
 refine S_reg [true, true, true, true, false, true, true, true, true, true, false, true, true, true, true, true, false, true, true, true, true, true, false, true, true] rfl rfl ?_
 refine J_st (R_move rfl) rfl (J_st (R_not rfl) rfl (J_st (R_move rfl) rfl ?_))
 refine J_cut 22 [(0, .agg [o1, .int .i64 g.workers, .int .i64 g.cap].toArray), (1, vxs), (2, .agg (Enc.enc x).toArray), (3, .pointer (some ⟨b1, 0, none⟩)), (5, .pointer (some ⟨b2, 0, none⟩)), (6, .slice none 0 0), (7, .slice none 0 0), (8, v1), (9, .slice (some ⟨b4, 0, none⟩) 0 0), (10, .pointer (some ⟨b5, 0, none⟩)), (11, .bool ((nodeOf g x.op).2)), (18, .slice (some ⟨b3, 0, none⟩) 0 0), (19, vxs), (20, v1), (21, .slice (some ⟨b4, 0, none⟩) 0 0), (22, .tuple [.agg [.int .i64 (((nodeOf g x.op).1).kind), .int .i64 (((nodeOf g x.op).1).a), .int .i64 (((nodeOf g x.op).1).b), o2].toArray, .bool ((nodeOf g x.op).2)].toArray), (23, .agg [o1, .int .i64 g.workers, .int .i64 g.cap].toArray), (24, .pointer (some ⟨b2, 0, none⟩)), (25, .int .i64 x.op), (26, .tuple [.agg [.int .i64 (((nodeOf g x.op).1).kind), .int .i64 (((nodeOf g x.op).1).a), .int .i64 (((nodeOf g x.op).1).b), o2].toArray, .bool ((nodeOf g x.op).2)].toArray), (27, .agg [.int .i64 (((nodeOf g x.op).1).kind), .int .i64 (((nodeOf g x.op).1).a), .int .i64 (((nodeOf g x.op).1).b), o2].toArray), (28, .bool ((nodeOf g x.op).2)), (53, .bool (((((!((nodeOf g x.op).2)) || (!(graphOk g))) || (!(win x.epoch 0 3))) || (!(win x.key 0 99))) || (!(win x.val 0 999))))] (fun w' => Ext w w' ∧ w8.heap.size ≤ w'.heap.size ∧ Blk w' b1 ([o1, .int .i64 g.workers, .int .i64 g.cap]) ∧ Blk w' b2 (Enc.enc x) ∧ Own w' b3 w4.heap.size 4 v1 ([] ++ List.flatMap (Enc.enc (α := Cell)) xs) ∧ Blk w' b4 [] ∧ Own w' w5.heap.size w6.heap.size 1 o2 (List.flatMap (Enc.enc (α := Int)) (((nodeOf g x.op).1).outs)) ∧ Blk w' b5 [.int .i64 (((nodeOf g x.op).1).kind), .int .i64 (((nodeOf g x.op).1).a), .int .i64 (((nodeOf g x.op).1).b), o2]) ?_ ?_
 ·refine J_if (gd := 31) rfl rfl (fun hg1 => ?_) (fun hg1 => ?_)
  ·refine J_gdno rfl rfl rfl rfl ?_
   refine J_ungno rfl rfl rfl rfl ?_
   refine J_gdno rfl rfl rfl rfl (J_st (R_pickT rfl rfl) rfl (J_st (R_move rfl) rfl (J_gdno rfl rfl rfl rfl (J_gdno rfl rfl rfl rfl ?_))))
   refine J_ungno rfl rfl rfl rfl ?_
   refine J_gdno rfl rfl rfl rfl (J_st (R_pickT rfl rfl) rfl (J_st (R_move rfl) rfl (J_gdno rfl rfl rfl rfl (J_gdno rfl rfl rfl rfl ?_))))
   refine J_ungno rfl rfl rfl rfl ?_
   refine J_gdno rfl rfl rfl rfl (J_st (R_pickT rfl rfl) rfl (J_st (R_move rfl) rfl (J_gdno rfl rfl rfl rfl (J_gdno rfl rfl rfl rfl ?_))))
   refine J_ungno rfl rfl rfl rfl ?_
   refine J_gdno rfl rfl rfl rfl (J_st (R_pickT rfl rfl) rfl (J_cutEnd ⟨rfl, rfl, rfl, rfl, rfl, rfl, rfl, rfl, rfl, rfl, rfl, rfl, rfl, rfl, rfl, rfl, rfl, rfl, rfl, rfl, rfl, rfl, congrArg (fun b => some (Value.bool b)) (show true = (((((!((nodeOf g x.op).2)) || (!(graphOk g))) || (!(win x.epoch 0 3))) || (!(win x.key 0 99))) || (!(win x.val 0 999))) by first | (rw [hg1] <;> rfl) | (simp [hg1]; done) | (simp only [nat_nlt] <;> simp)), trivial⟩ ⟨E, (by omega), h1, h2, ho1, h4, hw1, h5⟩))
  ·refine J_gd rfl rfl (R_loadS st26 rfl h1.at rfl) rfl ?_
   refine J_ung rfl rfl ?_
   refine J_call Try.call33 rfl (s_GraphOk [o1, .int .i64 g.workers, .int .i64 g.cap] g _ (Graph.mkR g (RdD.any (hd1.ext E)))) rfl (fun _ w10 e7 hv => ?_)
   subst hv
   replace E := E.trans e7; replace h1 := h1.ext e7; replace h2 := h2.ext e7; replace ho1 := ho1.ext e7; replace h4 := h4.ext e7; replace hw1 := hw1.ext e7; replace h5 := h5.ext e7
   have z9 := e7.size
   refine J_gd rfl rfl (R_not rfl) rfl (J_st (R_pickF rfl rfl) rfl (J_st (R_move rfl) rfl ?_))
   refine J_if (gd := 36) rfl rfl (fun hg2 => ?_) (fun hg2 => ?_)
   ·refine J_gdno rfl rfl rfl rfl (J_gdno rfl rfl rfl rfl ?_)
    refine J_ungno rfl rfl rfl rfl ?_
    refine J_gdno rfl rfl rfl rfl (J_st (R_pickT rfl rfl) rfl (J_st (R_move rfl) rfl (J_gdno rfl rfl rfl rfl (J_gdno rfl rfl rfl rfl ?_))))
    refine J_ungno rfl rfl rfl rfl ?_
    refine J_gdno rfl rfl rfl rfl (J_st (R_pickT rfl rfl) rfl (J_st (R_move rfl) rfl (J_gdno rfl rfl rfl rfl (J_gdno rfl rfl rfl rfl ?_))))
    refine J_ungno rfl rfl rfl rfl ?_
    refine J_gdno rfl rfl rfl rfl (J_st (R_pickT rfl rfl) rfl (J_cutEnd ⟨rfl, rfl, rfl, rfl, rfl, rfl, rfl, rfl, rfl, rfl, rfl, rfl, rfl, rfl, rfl, rfl, rfl, rfl, rfl, rfl, rfl, rfl, congrArg (fun b => some (Value.bool b)) (show true = (((((!((nodeOf g x.op).2)) || (!(graphOk g))) || (!(win x.epoch 0 3))) || (!(win x.key 0 99))) || (!(win x.val 0 999))) by first | (rw [hg1, hg2] <;> rfl) | (simp [hg1, hg2]; done) | (simp only [nat_nlt] <;> simp)), trivial⟩ ⟨E, (by omega), h1, h2, ho1, h4, hw1, h5⟩))
   ·refine J_gd rfl rfl (R_fieldAddr0 fl56_1 rfl) rfl (J_gd rfl rfl (R_load sc3 rfl (h2.one 1 rfl)) rfl ?_)
    refine J_ung rfl rfl ?_
    refine J_call Try.call53 rfl (s_l01In x.epoch 0 3 _ ) rfl (fun _ w11 e8 hv => ?_)
    subst hv
    replace E := E.trans e8; replace h1 := h1.ext e8; replace h2 := h2.ext e8; replace ho1 := ho1.ext e8; replace h4 := h4.ext e8; replace hw1 := hw1.ext e8; replace h5 := h5.ext e8
    have z10 := e8.size
    refine J_gd rfl rfl (R_not rfl) rfl (J_st (R_pickF rfl rfl) rfl (J_st (R_move rfl) rfl ?_))
    refine J_if (gd := 42) rfl rfl (fun hg3 => ?_) (fun hg3 => ?_)
    ·refine J_gdno rfl rfl rfl rfl (J_gdno rfl rfl rfl rfl ?_)
     refine J_ungno rfl rfl rfl rfl ?_
     refine J_gdno rfl rfl rfl rfl (J_st (R_pickT rfl rfl) rfl (J_st (R_move rfl) rfl (J_gdno rfl rfl rfl rfl (J_gdno rfl rfl rfl rfl ?_))))
     refine J_ungno rfl rfl rfl rfl ?_
     refine J_gdno rfl rfl rfl rfl (J_st (R_pickT rfl rfl) rfl (J_cutEnd ⟨rfl, rfl, rfl, rfl, rfl, rfl, rfl, rfl, rfl, rfl, rfl, rfl, rfl, rfl, rfl, rfl, rfl, rfl, rfl, rfl, rfl, rfl, congrArg (fun b => some (Value.bool b)) (show true = (((((!((nodeOf g x.op).2)) || (!(graphOk g))) || (!(win x.epoch 0 3))) || (!(win x.key 0 99))) || (!(win x.val 0 999))) by first | (rw [hg1, hg2, hg3] <;> rfl) | (simp [hg1, hg2, hg3]; done) | (simp only [nat_nlt] <;> simp)), trivial⟩ ⟨E, (by omega), h1, h2, ho1, h4, hw1, h5⟩))
    ·refine J_gd rfl rfl (R_fieldAddr0 fl56_2 rfl) rfl (J_gd rfl rfl (R_load sc3 rfl (h2.one 2 rfl)) rfl ?_)
     refine J_ung rfl rfl ?_
     refine J_call Try.call53 rfl (s_l01In x.key 0 99 _ ) rfl (fun _ w12 e9 hv => ?_)
     subst hv
     replace E := E.trans e9; replace h1 := h1.ext e9; replace h2 := h2.ext e9; replace ho1 := ho1.ext e9; replace h4 := h4.ext e9; replace hw1 := hw1.ext e9; replace h5 := h5.ext e9
     have z11 := e9.size
     refine J_gd rfl rfl (R_not rfl) rfl (J_st (R_pickF rfl rfl) rfl (J_st (R_move rfl) rfl ?_))
     refine J_if (gd := 48) rfl rfl (fun hg4 => ?_) (fun hg4 => ?_)
     ·refine J_gdno rfl rfl rfl rfl (J_gdno rfl rfl rfl rfl ?_)
      refine J_ungno rfl rfl rfl rfl ?_
      refine J_gdno rfl rfl rfl rfl (J_st (R_pickT rfl rfl) rfl (J_cutEnd ⟨rfl, rfl, rfl, rfl, rfl, rfl, rfl, rfl, rfl, rfl, rfl, rfl, rfl, rfl, rfl, rfl, rfl, rfl, rfl, rfl, rfl, rfl, congrArg (fun b => some (Value.bool b)) (show true = (((((!((nodeOf g x.op).2)) || (!(graphOk g))) || (!(win x.epoch 0 3))) || (!(win x.key 0 99))) || (!(win x.val 0 999))) by first | (rw [hg1, hg2, hg3, hg4] <;> rfl) | (simp [hg1, hg2, hg3, hg4]; done) | (simp only [nat_nlt] <;> simp)), trivial⟩ ⟨E, (by omega), h1, h2, ho1, h4, hw1, h5⟩))
     ·refine J_gd rfl rfl (R_fieldAddr0 fl56_3 rfl) rfl (J_gd rfl rfl (R_load sc3 rfl (h2.one 3 rfl)) rfl ?_)
      refine J_ung rfl rfl ?_
      refine J_call Try.call53 rfl (s_l01In x.val 0 999 _ ) rfl (fun _ w13 e10 hv => ?_)
      subst hv
      replace E := E.trans e10; replace h1 := h1.ext e10; replace h2 := h2.ext e10; replace ho1 := ho1.ext e10; replace h4 := h4.ext e10; replace hw1 := hw1.ext e10; replace h5 := h5.ext e10
      have z12 := e10.size
      refine J_gd rfl rfl (R_not rfl) rfl (J_st (R_pickF rfl rfl) rfl (J_cutEnd ⟨rfl, rfl, rfl, rfl, rfl, rfl, rfl, rfl, rfl, rfl, rfl, rfl, rfl, rfl, rfl, rfl, rfl, rfl, rfl, rfl, rfl, rfl, congrArg (fun b => some (Value.bool b)) (show (!(win x.val 0 999)) = (((((!((nodeOf g x.op).2)) || (!(graphOk g))) || (!(win x.epoch 0 3))) || (!(win x.key 0 99))) || (!(win x.val 0 999))) by first | (rw [hg1, hg2, hg3, hg4] <;> rfl) | (simp [hg1, hg2, hg3, hg4]; done) | (simp only [nat_nlt] <;> simp)), trivial⟩ ⟨E, (by omega), h1, h2, ho1, h4, hw1, h5⟩))
 clear E h1 h2 ho1 h4 hw1 h5
 rintro w9 ⟨E, z13, h1, h2, ho1, h4, hw1, h5⟩
 refine J_done ?_
 refine S_cond rfl (fun hc1 => ?_) (fun hc1 => ?_)
 ·replace hc1 := imp_st hc1
  refine S_seq ?_
  refine S_reg [true, true, true, true] rfl rfl ?_
  refine J_st (R_move rfl) rfl (J_st (R_move rfl) rfl (J_st (R_assign rfl) rfl (J_st (R_assign rfl) rfl (J_done ?_))))
  refine S_ret (E_doneN (l := [.tmp 6, .tmp 7]) (vs := [v1, .slice (some ⟨b4, 0, none⟩) 0 0]) rfl ⟨.tmp rfl, .tmp rfl, trivial⟩ rfl E ?_)
  rw [imp_0 hc1]
  exact ⟨_, _, rfl, Own.fin ho1 (by omega) (by omega) (by first | rfl | (simp only [List.nil_append]; rfl) | (rw [impTo_all (by omega)])), Own.fin (Own.ofBlk (lo := b4) (hi := b4 + 1) (sz := 4) h4 (Nat.le_refl _) (Nat.lt_succ_self _) (by rfl) (by unfold maxLen; omega)) (by omega) (by omega) (by first | rfl | (simp only [List.nil_append]; rfl) | (rw [impTo_all (by omega)])), ⟨⟨(Own.sep ho1 (Own.ofBlk (lo := b4) (hi := b4 + 1) (sz := 4) h4 (Nat.le_refl _) (Nat.lt_succ_self _) (by rfl) (by unfold maxLen; omega)) (by omega)), trivial⟩, ⟨trivial, trivial⟩⟩⟩
 ·replace hc1 := imp_sf hc1
  have hq := imp_of hc1
  have hop := isNode_of hq.2
  have hgo := hq.1
  have ho2 := outs_two (i := Int.toNat x.op) hgo (by omega)
  have hof := getD_at (xs := g.nodes) hop.2.2 ▸ ho2
  have hnod := nodeOf_1 hq.2
  have hol3 : ((nodeOf g x.op).1).outs.length ≤ 2 := hnod ▸ ho2
  refine S_skip ?_
  refine S_seq ?_
  refine S_reg [true, true, false, true, true, true, true, true] rfl rfl ?_
  refine J_st (R_move rfl) rfl (J_st (R_loadS st56 rfl h2.at rfl) rfl ?_)
  refine J_call Try.call51 rfl (s_Recall 5 vxs xs x _ (hxs.ext E) (by first | omega | (simp only [mkL_length]; omega) | (rw [mkL_length]; done) | (simp only [mkL_length]; done))) rfl (fun _ w14 e11 ho4 => ?_)
  obtain ⟨v2, rfl, ho5⟩ := ho4
  have g_ho4 : w.heap.size ≤ w9.heap.size := E.size
  replace E := E.trans e11; replace h1 := h1.ext e11; replace h2 := h2.ext e11; replace ho1 := ho1.ext e11; replace h4 := h4.ext e11; replace hw1 := hw1.ext e11; replace h5 := h5.ext e11
  have z14 := e11.size
  refine J_st (R_move rfl) rfl (J_st (R_extract rfl rfl) rfl (J_st (R_extract rfl rfl) rfl (J_st (R_assign rfl) rfl (J_st (R_assign rfl) rfl (J_done ?_)))))
  refine S_seq ?_
  refine S_seq ?_
  refine S_reg [true, true] rfl rfl ?_
  refine J_st (R_move rfl) rfl (J_st (R_not rfl) rfl (J_done ?_))
  refine S_cond rfl (fun hc2 => ?_) (fun hc2 => ?_)
  ·refine S_seq ?_
   refine S_reg [true, true, true, true] rfl rfl ?_
   refine J_st (R_move rfl) rfl (J_st (R_move rfl) rfl (J_st (R_assign rfl) rfl (J_st (R_assign rfl) rfl (J_done ?_))))
   refine S_ret (E_doneN (l := [.tmp 6, .tmp 7]) (vs := [v1, .slice (some ⟨b4, 0, none⟩) 0 0]) rfl ⟨.tmp rfl, .tmp rfl, trivial⟩ rfl E ?_)
   rw [imp_n hc1 hc2]
   exact ⟨_, _, rfl, Own.fin ho1 (by omega) (by omega) (by first | rfl | (simp only [List.nil_append]; rfl) | (rw [impTo_all (by omega)])), Own.fin (Own.ofBlk (lo := b4) (hi := b4 + 1) (sz := 4) h4 (Nat.le_refl _) (Nat.lt_succ_self _) (by rfl) (by unfold maxLen; omega)) (by omega) (by omega) (by first | rfl | (simp only [List.nil_append]; rfl) | (rw [impTo_all (by omega)])), ⟨⟨(Own.sep ho1 (Own.ofBlk (lo := b4) (hi := b4 + 1) (sz := 4) h4 (Nat.le_refl _) (Nat.lt_succ_self _) (by rfl) (by unfold maxLen; omega)) (by omega)), trivial⟩, ⟨trivial, trivial⟩⟩⟩
  ·refine S_skip ?_
   refine S_seq ?_
   refine S_reg [true, true, true, true, true, false, true, true, true, true, true, true, true] rfl rfl ?_
   refine J_st (R_loadS st42 rfl h5.at rfl) rfl (J_st (R_fieldAddr0 fl56_2 rfl) rfl (J_st (R_load sc3 rfl (h2.one 2 rfl)) rfl (J_st (R_fieldAddr0 fl56_3 rfl) rfl (J_st (R_load sc3 rfl (h2.one 3 rfl)) rfl ?_))))
   refine J_call Try.call49 rfl (s_Changed [.int .i64 (((nodeOf g x.op).1).kind), .int .i64 (((nodeOf g x.op).1).a), .int .i64 (((nodeOf g x.op).1).b), o2] ((nodeOf g x.op).1) x.key x.val _ (Node.mkR ((nodeOf g x.op).1) (RdD.any (Own.rdD hw1)))) rfl (fun _ w15 e12 hv => ?_)
   subst hv
   replace E := E.trans e12; replace h1 := h1.ext e12; replace h2 := h2.ext e12; replace ho1 := ho1.ext e12; replace h4 := h4.ext e12; replace hw1 := hw1.ext e12; replace h5 := h5.ext e12; replace ho5 := ho5.ext e12
   have z15 := e12.size
   refine J_st (R_move rfl) rfl (J_st (R_extract rfl rfl) rfl (J_st (R_extract rfl rfl) rfl (J_st (R_extract rfl rfl) rfl (J_st (R_assign rfl) rfl (J_st (R_assign rfl) rfl (J_st (R_assign rfl) rfl (J_done ?_)))))))
   refine S_seq ?_
   refine S_seq ?_
   refine S_reg [true] rfl rfl ?_
   refine J_st (R_assign rfl) rfl (J_done ?_)
   refine S_block ?_
   refine S_loop (fun (xq : Nat × Value) => let ⟨k, vo⟩ := xq; [(5, .pointer (some ⟨b2, 0, none⟩)), (6, .slice none 0 0), (7, .slice none 0 0), (9, vo), (10, .pointer (some ⟨b5, 0, none⟩)), (12, v2), (14, .int .i64 ((changedM ((nodeOf g x.op).1) x.key x.val).1)), (15, .int .i64 ((changedM ((nodeOf g x.op).1) x.key x.val).2.1)), (16, .bool ((changedM ((nodeOf g x.op).1) x.key x.val).2.2)), (17, .int .i64 ((k : Nat) : Int))]) (fun (xq : Nat × Value) w' => let ⟨k, vo⟩ := xq; Ext w w' ∧ w15.heap.size ≤ w'.heap.size ∧ Blk w' b1 ([o1, .int .i64 g.workers, .int .i64 g.cap]) ∧ Blk w' b2 (Enc.enc x) ∧ Own w' b3 w4.heap.size 4 v1 ([] ++ List.flatMap (Enc.enc (α := Cell)) xs) ∧ Own w' w5.heap.size w6.heap.size 1 o2 (List.flatMap (Enc.enc (α := Int)) (((nodeOf g x.op).1).outs)) ∧ Blk w' b5 [.int .i64 (((nodeOf g x.op).1).kind), .int .i64 (((nodeOf g x.op).1).a), .int .i64 (((nodeOf g x.op).1).b), o2] ∧ Own w' w9.heap.size w14.heap.size 4 v2 (List.flatMap (Enc.enc (α := Cell)) ((recallM 5 xs x).1)) ∧ k ≤ ((nodeOf g x.op).1).outs.length ∧ ((changedM ((nodeOf g x.op).1) x.key x.val).2.2 = false → k = 0) ∧ Own w' b4 w'.heap.size 4 vo (List.flatMap (Enc.enc (α := Cell)) (impTo g x k)) ∧ (∀ g, Value.ownBlock vo = some g → g = b4 ∨ w15.heap.size ≤ g)) (fun (xq : Nat × Value) => let ⟨k, vo⟩ := xq; ((nodeOf g x.op).1).outs.length - k) (0, .slice (some ⟨b4, 0, none⟩) 0 0) ⟨rfl, rfl, rfl, rfl, rfl, rfl, rfl, rfl, rfl, rfl, trivial⟩ ⟨E, Nat.le_refl _, h1, h2, ho1, hw1, h5, ho5, Nat.zero_le _, (fun _ => rfl), Own.fin (Own.ofBlk (lo := b4) (hi := b4 + 1) (sz := 4) h4 (Nat.le_refl _) (Nat.lt_succ_self _) (by simp) (by simp [maxLen])) (by omega) (by omega) rfl, (fun g hg => .inl (by cases hg; rfl))⟩ ?_
   clear E h1 h2 ho1 h4 hw1 h5 ho5
   rintro ⟨k, vo⟩ w16 ⟨E, z16, h1, h2, ho1, hw1, h5, ho5, hk, hgz, hvo, hvn⟩
   refine S_sub [(5, .pointer (some ⟨b2, 0, none⟩)), (6, .slice none 0 0), (7, .slice none 0 0), (9, vo), (10, .pointer (some ⟨b5, 0, none⟩)), (12, v2), (14, .int .i64 ((changedM ((nodeOf g x.op).1) x.key x.val).1)), (15, .int .i64 ((changedM ((nodeOf g x.op).1) x.key x.val).2.1)), (16, .bool ((changedM ((nodeOf g x.op).1) x.key x.val).2.2)), (17, .int .i64 ((k : Nat) : Int))] ⟨rfl, rfl, rfl, rfl, rfl, rfl, rfl, rfl, rfl, rfl, trivial⟩ ?_
   refine S_seq ?_
   refine S_seq ?_
   refine S_reg [true, true, true, true, true, true, true, true] rfl rfl ?_
   refine J_st (R_move rfl) rfl (J_st (R_fieldAddr0 fl42_3 rfl) rfl (J_st (R_load sc40 rfl (h5.one 3 rfl)) rfl (J_st (R_len Try.underlying40 rfl (Own.len (by decide) hw1)) rfl (J_st (R_lss rfl rfl) rfl (J_st (R_move rfl) rfl ?_)))))
   refine J_cut 2 [(5, .pointer (some ⟨b2, 0, none⟩)), (6, .slice none 0 0), (7, .slice none 0 0), (9, vo), (10, .pointer (some ⟨b5, 0, none⟩)), (12, v2), (14, .int .i64 ((changedM ((nodeOf g x.op).1) x.key x.val).1)), (15, .int .i64 ((changedM ((nodeOf g x.op).1) x.key x.val).2.1)), (16, .bool ((changedM ((nodeOf g x.op).1) x.key x.val).2.2)), (17, .int .i64 ((k : Nat) : Int)), (83, .bool ((decide (((k : Nat) : Int) < (((((nodeOf g x.op).1).outs).length : Nat) : Int))) && ((changedM ((nodeOf g x.op).1) x.key x.val).2.2)))] (fun w' => w16 = w') ?_ ?_
   ·refine J_if (gd := 81) rfl rfl (fun hg5 => ?_) (fun hg5 => ?_)
    ·have hg5n : k < (((nodeOf g x.op).1).outs).length := by first | (have h := of_decide_eq_true hg5; omega) | (have h := hg5; simp at h; omega)
     refine J_gd rfl rfl (R_move rfl) rfl (J_st (R_pickT rfl rfl) rfl (J_cutEnd ⟨rfl, rfl, rfl, rfl, rfl, rfl, rfl, rfl, rfl, rfl, congrArg (fun b => some (Value.bool b)) (show ((changedM ((nodeOf g x.op).1) x.key x.val).2.2) = ((decide (((k : Nat) : Int) < (((((nodeOf g x.op).1).outs).length : Nat) : Int))) && ((changedM ((nodeOf g x.op).1) x.key x.val).2.2)) by first | (rw [hg5] <;> rfl) | (simp [hg5]; done) | (simp only [nat_nlt] <;> simp)), trivial⟩ rfl))
    ·have hg5n : ¬ k < (((nodeOf g x.op).1).outs).length := by first | (have h := of_decide_eq_false hg5; omega) | (have h := hg5; simp at h; omega)
     refine J_gdno rfl rfl rfl rfl (J_st (R_pickF rfl rfl) rfl (J_cutEnd ⟨rfl, rfl, rfl, rfl, rfl, rfl, rfl, rfl, rfl, rfl, congrArg (fun b => some (Value.bool b)) (show false = ((decide (((k : Nat) : Int) < (((((nodeOf g x.op).1).outs).length : Nat) : Int))) && ((changedM ((nodeOf g x.op).1) x.key x.val).2.2)) by first | (rw [hg5] <;> rfl) | (simp [hg5]; done) | (simp only [nat_nlt] <;> simp)), trivial⟩ rfl))
   rintro _ rfl
   refine J_done ?_
   refine S_cond rfl (fun hc3 => ?_) (fun hc3 => ?_)
   ·have hlt := imp_lt hc3
    refine S_skip ?_
    refine S_seq ?_
    refine S_block ?_
    refine S_regX mixed [12] [(0, true), (1, true), (2, true), (3, true), (4, true), (5, true), (6, true), (7, true), (8, true), (9, true), (10, true), (11, false)] [(12, false), (13, true)] (by decide +kernel) rfl rfl (fun w18 e13 => ?_)
    replace E := E.trans e13; replace h1 := h1.ext e13; replace h2 := h2.ext e13; replace ho1 := ho1.ext e13; replace hw1 := hw1.ext e13; replace h5 := h5.ext e13; replace ho5 := ho5.ext e13; replace hvo := hvo.ext e13
    have z17 := e13.size
    refine J_st (R_move rfl) rfl (J_st (R_fieldAddr0 fl42_3 rfl) rfl (J_st (R_load sc40 rfl (h5.one 3 rfl)) rfl (J_st (R_move rfl) rfl ?_)))
    have hi1 : k < (((nodeOf g x.op).1).outs).length := (by first | assumption | omega | (simp only [List.length_set]; first | assumption | omega) | (simp only [List.getElem_set_self, List.length_set]; first | assumption | omega) | (simp only [setW, setLk, List.length_set]; first | assumption | omega) | (simp; done))
    refine J_st (R_index (i := k) sl40 rfl rfl (Own.rd (by decide) hw1) hi1) rfl (J_st (R_load sc3 rfl (((Own.rd (by decide) hw1).get hi1).one 0 rfl)) rfl (J_st (R_fieldAddr0 fl56_1 rfl) rfl (J_st (R_load sc3 rfl (h2.one 1 rfl)) rfl (J_st (R_move rfl) rfl (J_st (R_move rfl) rfl (J_st (R_build (⟨((((nodeOf g x.op).1).outs)[k]'hi1), x.epoch, (changedM ((nodeOf g x.op).1) x.key x.val).1, (changedM ((nodeOf g x.op).1) x.key x.val).2.1⟩ : Cell) rfl (fun _ => by kernel_rfl)) rfl ?_))))))
    refine J_buildSlice (vs := [.agg (Enc.enc (⟨((((nodeOf g x.op).1).outs)[k]'hi1), x.epoch, (changedM ((nodeOf g x.op).1) x.key x.val).1, (changedM ((nodeOf g x.op).1) x.key x.val).2.1⟩ : Cell)).toArray]) (css := [[.int .i64 ((⟨((((nodeOf g x.op).1).outs)[k]'hi1), x.epoch, (changedM ((nodeOf g x.op).1) x.key x.val).1, (changedM ((nodeOf g x.op).1) x.key x.val).2.1⟩ : Cell).op), .int .i64 ((⟨((((nodeOf g x.op).1).outs)[k]'hi1), x.epoch, (changedM ((nodeOf g x.op).1) x.key x.val).1, (changedM ((nodeOf g x.op).1) x.key x.val).2.1⟩ : Cell).epoch), .int .i64 ((⟨((((nodeOf g x.op).1).outs)[k]'hi1), x.epoch, (changedM ((nodeOf g x.op).1) x.key x.val).1, (changedM ((nodeOf g x.op).1) x.key x.val).2.1⟩ : Cell).key), .int .i64 ((⟨((((nodeOf g x.op).1).outs)[k]'hi1), x.epoch, (changedM ((nodeOf g x.op).1) x.key x.val).1, (changedM ((nodeOf g x.op).1) x.key x.val).2.1⟩ : Cell).val)]]) sl27 rfl rfl ⟨⟨rfl, rfl⟩, trivial⟩ rfl rfl (fun b6 w19 e14 s6 h6 => ?_)
    replace h6 : Blk w19 b6 [.int .i64 ((⟨((((nodeOf g x.op).1).outs)[k]'hi1), x.epoch, (changedM ((nodeOf g x.op).1) x.key x.val).1, (changedM ((nodeOf g x.op).1) x.key x.val).2.1⟩ : Cell).op), .int .i64 ((⟨((((nodeOf g x.op).1).outs)[k]'hi1), x.epoch, (changedM ((nodeOf g x.op).1) x.key x.val).1, (changedM ((nodeOf g x.op).1) x.key x.val).2.1⟩ : Cell).epoch), .int .i64 ((⟨((((nodeOf g x.op).1).outs)[k]'hi1), x.epoch, (changedM ((nodeOf g x.op).1) x.key x.val).1, (changedM ((nodeOf g x.op).1) x.key x.val).2.1⟩ : Cell).key), .int .i64 ((⟨((((nodeOf g x.op).1).outs)[k]'hi1), x.epoch, (changedM ((nodeOf g x.op).1) x.key x.val).1, (changedM ((nodeOf g x.op).1) x.key x.val).2.1⟩ : Cell).val)] := h6
    have g_b6 : w.heap.size ≤ b6 := by have := E.size; omega
    have y_b6 := h6.lt
    replace E := E.trans e14; replace h1 := h1.ext e14; replace h2 := h2.ext e14; replace ho1 := ho1.ext e14; replace hw1 := hw1.ext e14; replace h5 := h5.ext e14; replace ho5 := ho5.ext e14; replace hvo := hvo.ext e14
    have z18 := e14.size
    refine JX_tail ?_
    refine J2_X rfl ?_
    refine J_appendB sl27 rfl rfl hvo (Src.ofBlk h6 rfl) rfl (by first | (simp only [sum_flat, List.length_nil, List.length_cons]; simp only [Enc.sz]; omega) | (have h := impTo_len g x k; rw [sum_flat]; simp only [show Enc.sz Cell = 4 from rfl, List.length_cons, List.length_nil]; omega)) (by decide) (by omega) (by omega) rfl rfl (fun v3 w20 m3 ho6 hb1 => ?_)
    have hn1 : ∀ g, Value.ownBlock v3 = some g → g = b4 ∨ w15.heap.size ≤ g := fun g hg => (hb1 g hg).elim (fun h => hvn g h) (fun h => by omega)
    replace E := E.step m3 (fun g hg => by have := Own.blk hvo g hg; have := hvn g hg; omega); replace h1 := h1.mod m3 (fun g hg => by have := Own.blk hvo g hg; have := hvn g hg; omega); replace h2 := h2.mod m3 (fun g hg => by have := Own.blk hvo g hg; have := hvn g hg; omega); replace ho1 := ho1.mod m3 (fun g hg => by have := Own.blk hvo g hg; have := hvn g hg; omega); replace hw1 := hw1.mod m3 (fun g hg => by have := Own.blk hvo g hg; have := hvn g hg; omega); replace h5 := h5.mod m3 (fun g hg => by have := Own.blk hvo g hg; have := hvn g hg; omega); replace ho5 := ho5.mod m3 (fun g hg => by have := Own.blk hvo g hg; have := hvn g hg; omega)
    have z19 := m3.size
    refine JX_go ?_
    refine J_st (R_assign rfl) rfl (J_done ?_)
    refine S_nil (E_inB ?_)
    refine S_reg [true, true, true] rfl rfl ?_
    refine J_st (R_move rfl) rfl (J_st (R_add rfl rfl (add_nat (by unfold maxLen; omega))) rfl (J_st (R_assign rfl) rfl (J_done ?_)))
    refine S_nil (E_again (k + 1, v3) (by dsimp only; omega) ⟨rfl, rfl, rfl, rfl, rfl, rfl, rfl, rfl, rfl, rfl, trivial⟩ ⟨E, (by omega), h1, h2, ho1, hw1, h5, ho5, (by omega), (fun h => absurd h (by rw [hlt.2]; simp)), Own.fin ho6 (Nat.le_refl _) (by omega) (imp_stepS hnod hlt.1), hn1⟩)
   ·refine S_exit (E_lp_exit (E_inB_exit ?_))
    refine S_seq ?_
    refine S_reg [true, true, true, true] rfl rfl ?_
    refine J_st (R_move rfl) rfl (J_st (R_move rfl) rfl (J_st (R_assign rfl) rfl (J_st (R_assign rfl) rfl (J_done ?_))))
    refine S_ret (E_doneN (l := [.tmp 6, .tmp 7]) (vs := [v2, vo]) rfl ⟨.tmp rfl, .tmp rfl, trivial⟩ rfl E ?_)
    rw [imp_e hc1 hc2 hnod hk hgz hc3]
    exact ⟨_, _, rfl, Own.fin ho5 (by omega) (by omega) (by first | rfl | (simp only [List.nil_append]; rfl) | (rw [impTo_all (by omega)])), Own.fin hvo (by omega) (by omega) (by first | rfl | (simp only [List.nil_append]; rfl) | (rw [impTo_all (by omega)])), ⟨⟨(fun g hg he => by have := Own.blk ho5 g hg; have := Own.blk hvo g he; have := hvn g he; omega), trivial⟩, ⟨trivial, trivial⟩⟩⟩

set_option maxRecDepth 20000 in
theorem c_IsClosed (cg : List Value) (g : Graph) (vxs : Value) (xs : List Cell) (w : World) (hg : Dat.R w 0 w.heap.size cg g) (hxs : RdS w vxs xs) (hb : xs.length ≤ 4194304) : Ct Try.prog 27 [.agg cg.toArray, vxs] w (fun v _ => v = .bool (isClosedM g xs)) := by
 refine ct_of Try.func27 rfl Try.ntmps27 rfl ?_
 obtain ⟨o1, rfl, hd1⟩ := Graph.op hg
 refine S_sub [(0, .agg [o1, .int .i64 g.workers, .int .i64 g.cap].toArray), (1, vxs)] ⟨rfl, rfl, trivial⟩ ?_
 have E : Ext w w := Ext.refl w
 refine S_seq ?_
 refine S_reg [false, true] rfl rfl ?_
 refine J_box rfl rfl (fun b1 w1 e1 s1 h1 => ?_)
 have g_b1 : w.heap.size ≤ b1 := by have := E.size; omega
 have y_b1 := h1.lt
 replace E := E.trans e1
 have z1 := e1.size
 refine J_st (R_assign rfl) rfl (J_done ?_)
 refine S_seq ?_
 refine S_seq ?_
 refine S_reg [true, false, true] rfl rfl ?_
 refine J_st (R_loadS st26 rfl h1.at rfl) rfl ?_
 refine J_call Try.call41 rfl (c_GraphOk [o1, .int .i64 g.workers, .int .i64 g.cap] g _ (Graph.mkR g (RdD.any (hd1.ext E)))) rfl (fun _ w2 e2 hv => ?_)
 subst hv
 replace E := E.trans e2; replace h1 := h1.ext e2
 have z2 := e2.size
 refine J_st (R_not rfl) rfl (J_done ?_)
 refine S_cond rfl (fun hc1 => ?_) (fun hc1 => ?_)
 ·refine S_seq ?_
  refine S_reg [true] rfl rfl ?_
  refine J_st (R_assign rfl) rfl (J_done ?_)
  refine S_ret (E_done1 rfl rfl E ?_)
  exact ic_0 hc1
 ·refine S_skip ?_
  refine S_seq ?_
  refine S_seq ?_
  refine S_reg [true, true, true] rfl rfl ?_
  refine J_st (R_move rfl) rfl (J_st (R_len Try.underlying27 rfl (hxs.ext E).len) rfl (J_st (R_move rfl) rfl (J_done ?_)))
  refine S_block ?_
  refine S_loop (fun (k : Nat) => [(1, vxs), (2, .pointer (some ⟨b1, 0, none⟩)), (4, .bool false), (12, vxs), (13, .int .i64 ((xs.length : Nat) : Int)), (14, .int .i64 ((k : Nat) : Int))]) (fun (k : Nat) w' => Ext w w' ∧ w2.heap.size ≤ w'.heap.size ∧ Blk w' b1 ([o1, .int .i64 g.workers, .int .i64 g.cap]) ∧ k ≤ xs.length ∧ (xs.take k).all (icP g xs) = true) (fun (k : Nat) => xs.length - k) 0 ⟨rfl, rfl, rfl, rfl, rfl, rfl, trivial⟩ ⟨E, Nat.le_refl _, h1, Nat.zero_le _, rfl⟩ ?_
  clear E h1
  rintro k w3 ⟨E, z3, h1, hk, hI⟩
  refine S_seq ?_
  refine S_reg [true] rfl rfl ?_
  refine J_st (R_lss rfl rfl) rfl (J_done ?_)
  refine S_seq ?_
  refine S_cond rfl (fun hc2 => ?_) (fun hc2 => ?_)
  ·have hc2n : k < xs.length := by first | (have h := of_decide_eq_true hc2; omega) | (have h := hc2; simp at h; omega)
   refine S_skip ?_
   refine S_seq ?_
   refine S_block ?_
   refine S_seq ?_
   refine S_reg [true, true, false, false] rfl rfl ?_
   have hi1 : k < xs.length := (by first | assumption | omega | (simp only [List.length_set]; first | assumption | omega) | (simp only [List.getElem_set_self, List.length_set]; first | assumption | omega) | (simp only [setW, setLk, List.length_set]; first | assumption | omega) | (simp; done))
   refine J_st (R_index (i := k) sl27 rfl rfl (hxs.ext E) hi1) rfl (J_st (R_loadS st56 rfl ((hxs.ext E).get hi1) rfl) rfl ?_)
   refine J_alloc st56 rfl (fun b2 w4 e3 s2 h2 => ?_)
   have g_b2 : w.heap.size ≤ b2 := by have := E.size; omega
   have y_b2 := h2.lt
   replace E := E.trans e3; replace h1 := h1.ext e3
   have z4 := e3.size
   refine J_storeS' (cs' := [.int .i64 ((xs[k]'hi1).op), .int .i64 ((xs[k]'hi1).epoch), .int .i64 ((xs[k]'hi1).key), .int .i64 ((xs[k]'hi1).val)]) st56 rfl rfl rfl rfl h2 (Nat.le_of_ble_eq_true rfl) rfl (fun w5 m1 h2' => ?_)
   replace h2 := h2'
   replace E := E.step m1 (fun g hg => by cases hg; omega); replace h1 := h1.mod m1 (fun g hg => by cases hg; omega)
   have z5 := m1.size
   refine J_done ?_
   refine S_seq ?_
   refine S_reg [true, true, false, true, true, true, true, true] rfl rfl ?_
   refine J_st (R_loadS st26 rfl h1.at rfl) rfl (J_st (R_loadS st56 rfl h2.at rfl) rfl ?_)
   refine J_call Try.call25 rfl (c_Improve [o1, .int .i64 g.workers, .int .i64 g.cap] g (.slice none 0 0) [] (xs[k]'hi1) _ (Graph.mkR g (RdD.any (hd1.ext E))) (RdS.nil _) (by simp)) rfl (fun _ w6 e4 ho1 => ?_)
   obtain ⟨v1, v2, rfl, ho2, ho3, sp1⟩ := ho1
   have g_ho1 : w.heap.size ≤ w5.heap.size := E.size
   replace E := E.trans e4; replace h1 := h1.ext e4; replace h2 := h2.ext e4
   have z6 := e4.size
   refine J_st (R_move rfl) rfl (J_st (R_extract rfl rfl) rfl (J_st (R_extract rfl rfl) rfl (J_st (R_assign rfl) rfl (J_st (R_assign rfl) rfl (J_done ?_)))))
   refine S_seq ?_
   refine S_reg [true, true, false, true] rfl rfl ?_
   refine J_st (R_move rfl) rfl (J_st (R_move rfl) rfl ?_)
   refine J_call Try.call29 rfl (c_NoWorse vxs xs v2 ((improveM g [] (xs[k]'hi1)).2) _ (hxs.ext E) (Own.rd (by decide) ho3)) rfl (fun _ w7 e5 hv => ?_)
   subst hv
   replace E := E.trans e5; replace h1 := h1.ext e5; replace h2 := h2.ext e5; replace ho2 := ho2.ext e5; replace ho3 := ho3.ext e5
   have z7 := e5.size
   refine J_st (R_not rfl) rfl (J_done ?_)
   refine S_cond rfl (fun hc3 => ?_) (fun hc3 => ?_)
   ·refine S_seq ?_
    refine S_reg [true] rfl rfl ?_
    refine J_st (R_assign rfl) rfl (J_done ?_)
    refine S_ret (E_inB_ret (E_lp_ret (E_inB_ret (E_done1 rfl rfl E ?_))))
    exact ic_1 (by assumption) (not_t hc3)
   ·refine S_skip ?_
    refine S_nil (E_inB ?_)
    refine S_reg [true, true] rfl rfl ?_
    refine J_st (R_add rfl rfl (add_one hc2n hxs.1)) rfl (J_st (R_move rfl) rfl (J_done ?_))
    refine S_nil (E_again (k + 1) (by omega) ⟨rfl, rfl, rfl, rfl, rfl, rfl, trivial⟩ ⟨E, (by omega), h1, (by omega), all_step hI (by assumption) (not_f hc3)⟩)
  ·have hc2n : ¬ k < xs.length := by first | (have h := of_decide_eq_false hc2; omega) | (have h := hc2; simp at h; omega)
   refine S_exit (E_lp_exit (E_inB_exit ?_))
   refine S_seq ?_
   refine S_reg [true] rfl rfl ?_
   refine J_st (R_assign rfl) rfl (J_done ?_)
   refine S_ret (E_done1 rfl rfl E ?_)
   exact ic_2 hc1 (all_end hI (by omega))

set_option maxRecDepth 20000 in
theorem s_IsClosed (cg : List Value) (g : Graph) (vxs : Value) (xs : List Cell) (w : World) (hg : Dat.R w 0 w.heap.size cg g) (hxs : RdS w vxs xs) (hb : xs.length ≤ 4194304) (hcg : cntGraph g ≤ 1048576) : Ct Try.prog 28 [.agg cg.toArray, vxs] w (fun v _ => v = .bool (isClosedM g xs)) := by
 refine ct_of Try.func28 rfl Try.ntmps28 rfl ?_
 obtain ⟨o1, rfl, hd1⟩ := Graph.op hg
 refine S_sub [(0, .agg [o1, .int .i64 g.workers, .int .i64 g.cap].toArray), (1, vxs)] ⟨rfl, rfl, trivial⟩ ?_
 have E : Ext w w := Ext.refl w
 refine S_seq ?_
 refine S_reg [false, true] rfl rfl ?_
 refine J_box rfl rfl (fun b1 w1 e1 s1 h1 => ?_)
 have g_b1 : w.heap.size ≤ b1 := by have := E.size; omega
 have y_b1 := h1.lt
 replace E := E.trans e1
 have z1 := e1.size
 refine J_st (R_assign rfl) rfl (J_done ?_)
 refine S_seq ?_
 refine S_seq ?_
 refine S_reg [true] rfl rfl ?_
 refine J_st (R_assign rfl) rfl (J_done ?_)
 refine S_block ?_
 refine S_loop (fun (k : Nat) => [(1, vxs), (2, .pointer (some ⟨b1, 0, none⟩)), (4, .bool false), (5, .int .i64 ((k : Nat) : Int))]) (fun (k : Nat) w' => Ext w w' ∧ w1.heap.size ≤ w'.heap.size ∧ Blk w' b1 ([o1, .int .i64 g.workers, .int .i64 g.cap]) ∧ k ≤ xs.length ∧ (xs.take k).all (icP g xs) = true) (fun (k : Nat) => xs.length - k) 0 ⟨rfl, rfl, rfl, rfl, trivial⟩ ⟨E, Nat.le_refl _, h1, Nat.zero_le _, rfl⟩ ?_
 clear E h1
 rintro k w2 ⟨E, z2, h1, hk, hI⟩
 refine S_seq ?_
 refine S_seq ?_
 refine S_reg [true, true, true, true] rfl rfl ?_
 refine J_st (R_move rfl) rfl (J_st (R_move rfl) rfl (J_st (R_len Try.underlying27 rfl (hxs.ext E).len) rfl (J_st (R_lss rfl rfl) rfl (J_done ?_))))
 refine S_cond rfl (fun hc1 => ?_) (fun hc1 => ?_)
 ·have hc1n : k < xs.length := by first | (have h := of_decide_eq_true hc1; omega) | (have h := hc1; simp at h; omega)
  refine S_skip ?_
  refine S_seq ?_
  refine S_block ?_
  refine S_seq ?_
  refine S_regD mixed [(0, true), (2, true), (3, true), (4, true), (5, true), (1, false), (6, false), (7, true), (8, true), (9, true), (10, true), (11, true)] (by decide +kernel) rfl (fun w3 e2 => ?_)
  replace E := E.trans e2; replace h1 := h1.ext e2
  have z3 := e2.size
  refine J_st (R_loadS st26 rfl h1.at rfl) rfl (J_st (R_move rfl) rfl (J_st (R_move rfl) rfl ?_))
  have hi1 : k < xs.length := (by first | assumption | omega | (simp only [List.length_set]; first | assumption | omega) | (simp only [List.getElem_set_self, List.length_set]; first | assumption | omega) | (simp only [setW, setLk, List.length_set]; first | assumption | omega) | (simp; done))
  refine J_st (R_index (i := k) sl27 rfl rfl (hxs.ext E) hi1) rfl (J_st (R_loadS st56 rfl ((hxs.ext E).get hi1) rfl) rfl ?_)
  refine J_buildSlice (vs := []) (css := []) sl27 rfl rfl trivial rfl rfl (fun b2 w4 e3 s2 h2 => ?_)
  replace h2 : Blk w4 b2 [] := h2
  have g_b2 : w.heap.size ≤ b2 := by have := E.size; omega
  have y_b2 := h2.lt
  replace E := E.trans e3; replace h1 := h1.ext e3
  have z4 := e3.size
  refine J_call Try.call26 rfl (s_Improve [o1, .int .i64 g.workers, .int .i64 g.cap] g (.slice (some ⟨b2, 0, none⟩) 0 0) [] (xs[k]'hi1) _ (Graph.mkR g (RdD.any (hd1.ext E))) (Blk.rd (α := Cell) (xs := []) (by decide) h2 rfl (by simp [maxLen])) (by simp) hcg) rfl (fun _ w5 e4 ho1 => ?_)
  obtain ⟨v1, v2, rfl, ho2, ho3, sp1⟩ := ho1
  have g_ho1 : w.heap.size ≤ w4.heap.size := E.size
  replace E := E.trans e4; replace h1 := h1.ext e4; replace h2 := h2.ext e4
  have z5 := e4.size
  refine J_st (R_move rfl) rfl (J_st (R_extract rfl rfl) rfl (J_st (R_extract rfl rfl) rfl (J_st (R_assign rfl) rfl (J_st (R_assign rfl) rfl (J_done ?_)))))
  refine S_seq ?_
  refine S_reg [true, true, false, true] rfl rfl ?_
  refine J_st (R_move rfl) rfl (J_st (R_move rfl) rfl ?_)
  refine J_call Try.call30 rfl (s_NoWorse vxs xs v2 ((improveM g [] (xs[k]'hi1)).2) _ (hxs.ext E) (Own.rd (by decide) ho3)) rfl (fun _ w6 e5 hv => ?_)
  subst hv
  replace E := E.trans e5; replace h1 := h1.ext e5; replace h2 := h2.ext e5; replace ho2 := ho2.ext e5; replace ho3 := ho3.ext e5
  have z6 := e5.size
  refine J_st (R_not rfl) rfl (J_done ?_)
  refine S_cond rfl (fun hc2 => ?_) (fun hc2 => ?_)
  ·refine S_seq ?_
   refine S_reg [true] rfl rfl ?_
   refine J_st (R_assign rfl) rfl (J_done ?_)
   refine S_ret (E_inB_ret (E_lp_ret (E_inB_ret (E_done1 rfl rfl E ?_))))
   exact ic_1 (by assumption) (not_t hc2)
  ·refine S_skip ?_
   refine S_nil (E_inB ?_)
   refine S_reg [true, true, true] rfl rfl ?_
   refine J_st (R_move rfl) rfl (J_st (R_add rfl rfl (add_one hc1n hxs.1)) rfl (J_st (R_assign rfl) rfl (J_done ?_)))
   refine S_nil (E_again (k + 1) (by omega) ⟨rfl, rfl, rfl, rfl, trivial⟩ ⟨E, (by omega), h1, (by omega), all_step hI (by assumption) (not_f hc2)⟩)
 ·have hc1n : ¬ k < xs.length := by first | (have h := of_decide_eq_false hc1; omega) | (have h := hc1; simp at h; omega)
  refine S_exit (E_lp_exit (E_inB_exit ?_))
  refine S_seq ?_
  refine S_reg [true, false, true] rfl rfl ?_
  refine J_st (R_loadS st26 rfl h1.at rfl) rfl ?_
  refine J_call Try.call33 rfl (s_GraphOk [o1, .int .i64 g.workers, .int .i64 g.cap] g _ (Graph.mkR g (RdD.any (hd1.ext E)))) rfl (fun _ w7 e6 hv => ?_)
  subst hv
  replace E := E.trans e6; replace h1 := h1.ext e6
  have z7 := e6.size
  refine J_st (R_assign rfl) rfl (J_done ?_)
  refine S_ret (E_done1 rfl rfl E ?_)
  exact ic_3 (all_end hI (by omega))

set_option maxRecDepth 20000 in
theorem s_Brought (n : Int) (a : Int) (b : Int) (w : World)  : Ct Try.prog 59 [.int .i64 n, .int .i64 a, .int .i64 b] w (fun v _ => v = .int .i64 (brM n a b)) := by
 refine ct_of Try.func59 rfl Try.ntmps59 rfl ?_
 refine S_sub [(0, .int .i64 n), (1, .int .i64 a), (2, .int .i64 b)] ⟨rfl, rfl, rfl, trivial⟩ ?_
 have E : Ext w w := Ext.refl w
 refine S_seq ?_
 refine S_reg [true] rfl rfl ?_
 refine J_st (R_assign rfl) rfl (J_done ?_)
 refine S_seq ?_
 refine S_seq ?_
 refine S_reg [true, true, true, true, true, true, true, true] rfl rfl ?_
 refine J_st (R_move rfl) rfl (J_st (R_move rfl) rfl (J_st (R_lss rfl rfl) rfl (J_st (R_move rfl) rfl ?_)))
 refine J_cut 4 [(0, .int .i64 n), (1, .int .i64 a), (2, .int .i64 b), (6, .int .i64 0), (14, .bool ((decide (b < a)) || (decide (n < a))))] (fun w' => w = w') ?_ ?_
 ·refine J_if (gd := 10) rfl rfl (fun hg1 => ?_) (fun hg1 => ?_)
  ·refine J_gdno rfl rfl rfl rfl (J_gdno rfl rfl rfl rfl (J_gdno rfl rfl rfl rfl (J_st (R_pickT rfl rfl) rfl (J_cutEnd ⟨rfl, rfl, rfl, rfl, congrArg (fun b => some (Value.bool b)) (show true = ((decide (b < a)) || (decide (n < a))) by first | (rw [hg1] <;> rfl) | (simp [hg1]; done) | (simp only [nat_nlt] <;> simp)), trivial⟩ rfl))))
  ·refine J_gd rfl rfl (R_move rfl) rfl (J_gd rfl rfl (R_move rfl) rfl (J_gd rfl rfl (R_lss rfl rfl) rfl (J_st (R_pickF rfl rfl) rfl (J_cutEnd ⟨rfl, rfl, rfl, rfl, congrArg (fun b => some (Value.bool b)) (show (decide (n < a)) = ((decide (b < a)) || (decide (n < a))) by first | (rw [hg1] <;> rfl) | (simp [hg1]; done) | (simp only [nat_nlt] <;> simp)), trivial⟩ rfl))))
 rintro _ rfl
 refine J_done ?_
 refine S_cond rfl (fun hc1 => ?_) (fun hc1 => ?_)
 ·refine S_seq ?_
  refine S_reg [true, true] rfl rfl ?_
  refine J_st (R_move rfl) rfl (J_st (R_assign rfl) rfl (J_done ?_))
  refine S_ret (E_done1 rfl rfl E ?_)
  rw [brM, if_pos hc1]
 ·refine S_skip ?_
  refine S_seq ?_
  refine S_seq ?_
  refine S_reg [true, true, true] rfl rfl ?_
  refine J_st (R_move rfl) rfl (J_st (R_move rfl) rfl (J_st (R_gtr rfl rfl) rfl (J_done ?_)))
  refine S_cond rfl (fun hc2 => ?_) (fun hc2 => ?_)
  ·refine S_seq ?_
   refine S_reg [true, true] rfl rfl ?_
   refine J_st (R_move rfl) rfl (J_st (R_assign rfl) rfl (J_done ?_))
   refine S_ret (E_done1 rfl rfl E ?_)
   rw [brM, if_neg (nof hc1), if_pos (of_decide_eq_true hc2)]
  ·refine S_skip ?_
   refine S_seq ?_
   refine S_reg [true, true] rfl rfl ?_
   refine J_st (R_move rfl) rfl (J_st (R_assign rfl) rfl (J_done ?_))
   refine S_ret (E_done1 rfl rfl E ?_)
   rw [brM, if_neg (nof hc1), if_neg (of_decide_eq_false hc2)]

set_option maxHeartbeats 4000000 in
set_option maxRecDepth 20000 in
theorem c_Fixpoint (cg : List Value) (g : Graph) (e : Int) (vrs : Value) (rs : List Record) (w : World) (hg : Dat.R w 0 w.heap.size cg g) (hrs : RdS w vrs rs) (hb : rs.length ≤ 1048576) : Ct Try.prog 18 [.agg cg.toArray, .int .i64 e, vrs] w (fun v w' => Own w' w.heap.size w'.heap.size 4 v (List.flatMap (Enc.enc (α := Cell)) (fixM g e rs))) := by
 refine ct_of Try.func18 rfl Try.ntmps18 rfl ?_
 obtain ⟨o1, rfl, hd1⟩ := Graph.op hg
 refine S_sub [(0, .agg [o1, .int .i64 g.workers, .int .i64 g.cap].toArray), (1, .int .i64 e), (2, vrs)] ⟨rfl, rfl, rfl, trivial⟩ ?_
 have E : Ext w w := Ext.refl w
 refine S_seq ?_
 refine S_reg [false, true] rfl rfl ?_
 refine J_box rfl rfl (fun b1 w1 e1 s1 h1 => ?_)
 have g_b1 : w.heap.size ≤ b1 := by have := E.size; omega
 have y_b1 := h1.lt
 replace E := E.trans e1
 have z1 := e1.size
 refine J_st (R_assign rfl) rfl (J_done ?_)
 refine S_seq ?_
 refine S_reg [true, true] rfl rfl ?_
 refine J_st (R_assign rfl) rfl (J_st (R_assign rfl) rfl (J_done ?_))
 refine S_seq ?_
 refine S_seq ?_
 refine S_reg [true, true, false, true, true] rfl rfl ?_
 refine J_st (R_move rfl) rfl (J_st (R_move rfl) rfl ?_)
 refine J_call Try.call61 rfl (c_OfEpoch vrs rs e _ (hrs.ext E) (by first | omega | (simp only [mkL_length]; omega) | (rw [mkL_length]; done) | (simp only [mkL_length]; done))) rfl (fun v1 w2 e2 ho1 => ?_)
 have g_ho1 : w.heap.size ≤ w1.heap.size := E.size
 replace E := E.trans e2; replace h1 := h1.ext e2
 have z2 := e2.size
 refine J_st (R_len Try.underlying34 rfl (Own.len (by decide) ho1)) rfl (J_st (R_move rfl) rfl (J_done ?_))
 refine S_block ?_
 refine S_loop (fun (xq : Nat × Value) => let ⟨k, vo⟩ := xq; [(1, .int .i64 e), (3, .pointer (some ⟨b1, 0, none⟩)), (6, .slice none 0 0), (7, .slice none 0 0), (8, vo), (15, v1), (16, .int .i64 (((rs.filter (ofE e)).length : Nat) : Int)), (17, .int .i64 ((k : Nat) : Int))]) (fun (xq : Nat × Value) w' => let ⟨k, vo⟩ := xq; Ext w w' ∧ w2.heap.size ≤ w'.heap.size ∧ Blk w' b1 ([o1, .int .i64 g.workers, .int .i64 g.cap]) ∧ Own w' w1.heap.size w2.heap.size 5 v1 (List.flatMap (Enc.enc (α := Record)) (rs.filter (ofE e))) ∧ k ≤ (rs.filter (ofE e)).length ∧ Own w' w2.heap.size w'.heap.size 4 vo (List.flatMap (Enc.enc (α := Cell)) (fixT e recordOk (rs.filter (ofE e)) k))) (fun (xq : Nat × Value) => let ⟨k, vo⟩ := xq; (rs.filter (ofE e)).length - k) (0, .slice none 0 0) ⟨rfl, rfl, rfl, rfl, rfl, rfl, rfl, rfl, trivial⟩ ⟨E, Nat.le_refl _, h1, ho1, Nat.zero_le _, Own.fin (Own.nil w2 w2.heap.size w2.heap.size 4) (by omega) (by omega) fixT_0.symm⟩ ?_
 clear E h1 ho1
 rintro ⟨k, vo⟩ w3 ⟨E, z3, h1, ho1, hk, ho⟩
 refine S_sub [(1, .int .i64 e), (3, .pointer (some ⟨b1, 0, none⟩)), (6, .slice none 0 0), (7, .slice none 0 0), (8, vo), (15, v1), (16, .int .i64 (((rs.filter (ofE e)).length : Nat) : Int)), (17, .int .i64 ((k : Nat) : Int))] ⟨rfl, rfl, rfl, rfl, rfl, rfl, rfl, rfl, trivial⟩ ?_
 refine S_seq ?_
 refine S_reg [true] rfl rfl ?_
 refine J_st (R_lss rfl rfl) rfl (J_done ?_)
 refine S_seq ?_
 refine S_cond rfl (fun hc1 => ?_) (fun hc1 => ?_)
 ·have hc1n : k < (rs.filter (ofE e)).length := by first | (have h := of_decide_eq_true hc1; omega) | (have h := hc1; simp at h; omega)
  refine S_skip ?_
  refine S_seq ?_
  refine S_block ?_
  refine S_seq ?_
  refine S_reg [true, true, false, false] rfl rfl ?_
  have hi1 : k < (rs.filter (ofE e)).length := (by first | assumption | omega | (simp only [List.length_set]; first | assumption | omega) | (simp only [List.getElem_set_self, List.length_set]; first | assumption | omega) | (simp only [setW, setLk, List.length_set]; first | assumption | omega) | (simp; done))
  refine J_st (R_index (i := k) sl34 rfl rfl (Own.rd (by decide) ho1) hi1) rfl (J_st (R_loadS st31 rfl ((Own.rd (by decide) ho1).get hi1) rfl) rfl ?_)
  refine J_alloc st31 rfl (fun b2 w4 e3 s2 h2 => ?_)
  have g_b2 : w.heap.size ≤ b2 := by have := E.size; omega
  have y_b2 := h2.lt
  replace E := E.trans e3; replace h1 := h1.ext e3; replace ho1 := ho1.ext e3; replace ho := ho.ext e3
  have z4 := e3.size
  refine J_storeS' (cs' := [.int .i64 (((rs.filter (ofE e))[k]'hi1).op), .int .i64 ((((rs.filter (ofE e))[k]'hi1).stamp).epoch), .int .i64 ((((rs.filter (ofE e))[k]'hi1).stamp).turn), .int .i64 (((rs.filter (ofE e))[k]'hi1).key), .int .i64 (((rs.filter (ofE e))[k]'hi1).val)]) st31 rfl rfl rfl rfl h2 (Nat.le_of_ble_eq_true rfl) rfl (fun w5 m1 h2' => ?_)
  replace h2 := h2'
  replace E := E.step m1 (fun g hg => by cases hg; omega); replace h1 := h1.mod m1 (fun g hg => by cases hg; omega); replace ho1 := ho1.mod m1 (fun g hg => by cases hg; omega); replace ho := ho.mod m1 (fun g hg => by cases hg; omega)
  have z5 := m1.size
  refine J_done ?_
  refine S_seq ?_
  refine S_reg [true, false] rfl rfl ?_
  refine J_st (R_loadS st31 rfl h2.at rfl) rfl ?_
  refine J_call Try.call42 rfl (c_RecordOk ((rs.filter (ofE e))[k]'hi1) _ ) rfl (fun _ w6 e4 hv => ?_)
  subst hv
  replace E := E.trans e4; replace h1 := h1.ext e4; replace ho1 := ho1.ext e4; replace ho := ho.ext e4; replace h2 := h2.ext e4
  have z6 := e4.size
  refine J_done ?_
  refine S_cond rfl (fun hc2 => ?_) (fun hc2 => ?_)
  ·refine S_reg [true, true, true, true, true, true, true, false, false, true] rfl rfl ?_
   refine J_st (R_move rfl) rfl (J_st (R_move rfl) rfl (J_st (R_fieldAddr0 fl31_2 rfl) rfl (J_st (R_load sc3 rfl (h2.one 3 rfl)) rfl (J_st (R_fieldAddr0 fl31_3 rfl) rfl (J_st (R_load sc3 rfl (h2.one 4 rfl)) rfl (J_st (R_build (⟨0, e, ((rs.filter (ofE e))[k]'hi1).key, ((rs.filter (ofE e))[k]'hi1).val⟩ : Cell) rfl (fun _ => by kernel_rfl)) rfl ?_))))))
   refine J_buildSlice (vs := [.agg (Enc.enc (⟨0, e, ((rs.filter (ofE e))[k]'hi1).key, ((rs.filter (ofE e))[k]'hi1).val⟩ : Cell)).toArray]) (css := [[.int .i64 ((⟨0, e, ((rs.filter (ofE e))[k]'hi1).key, ((rs.filter (ofE e))[k]'hi1).val⟩ : Cell).op), .int .i64 ((⟨0, e, ((rs.filter (ofE e))[k]'hi1).key, ((rs.filter (ofE e))[k]'hi1).val⟩ : Cell).epoch), .int .i64 ((⟨0, e, ((rs.filter (ofE e))[k]'hi1).key, ((rs.filter (ofE e))[k]'hi1).val⟩ : Cell).key), .int .i64 ((⟨0, e, ((rs.filter (ofE e))[k]'hi1).key, ((rs.filter (ofE e))[k]'hi1).val⟩ : Cell).val)]]) sl27 rfl rfl ⟨⟨rfl, rfl⟩, trivial⟩ rfl rfl (fun b3 w7 e5 s3 h3 => ?_)
   replace h3 : Blk w7 b3 [.int .i64 ((⟨0, e, ((rs.filter (ofE e))[k]'hi1).key, ((rs.filter (ofE e))[k]'hi1).val⟩ : Cell).op), .int .i64 ((⟨0, e, ((rs.filter (ofE e))[k]'hi1).key, ((rs.filter (ofE e))[k]'hi1).val⟩ : Cell).epoch), .int .i64 ((⟨0, e, ((rs.filter (ofE e))[k]'hi1).key, ((rs.filter (ofE e))[k]'hi1).val⟩ : Cell).key), .int .i64 ((⟨0, e, ((rs.filter (ofE e))[k]'hi1).key, ((rs.filter (ofE e))[k]'hi1).val⟩ : Cell).val)] := h3
   have g_b3 : w.heap.size ≤ b3 := by have := E.size; omega
   have y_b3 := h3.lt
   replace E := E.trans e5; replace h1 := h1.ext e5; replace ho1 := ho1.ext e5; replace ho := ho.ext e5; replace h2 := h2.ext e5
   have z7 := e5.size
   refine J_append sl27 rfl rfl ho (Src.ofBlk h3 rfl) rfl (by first | (have h := fixT_len e recordOk (rs.filter (ofE e)) k; simp only [List.length_append, sum_flat, List.length_nil, List.length_cons, List.length_drop]; simp only [Enc.sz]; have h2 := List.length_filter_le (ofE e) rs; omega) | (simp only [List.length_append, sum_flat, List.length_nil, List.length_cons, List.length_drop]; simp only [Enc.sz]; omega) | (have h := @improve_len2 g cs1 (ls1[0]'hlt); simp only [List.length_append, sum_flat, List.length_nil, List.length_cons, List.length_drop]; simp only [Enc.sz]; omega)) (by decide) (by omega) (by omega) rfl rfl (fun v2 w8 m2 ho2 => ?_)
   replace E := E.step m2 (fun g hg => by have := Own.blk ho g hg; omega); replace h1 := h1.mod m2 (fun g hg => by have := Own.blk ho g hg; omega); replace ho1 := ho1.mod m2 (fun g hg => by have := Own.blk ho g hg; omega); replace h2 := h2.mod m2 (fun g hg => by have := Own.blk ho g hg; omega)
   have z8 := m2.size
   refine J_st (R_assign rfl) rfl (J_done ?_)
   refine S_nil (E_inB ?_)
   refine S_reg [true, true] rfl rfl ?_
   refine J_st (R_add rfl rfl (add_one hc1n (Own.rd (by decide) ho1).1)) rfl (J_st (R_move rfl) rfl (J_done ?_))
   refine S_nil (E_again (k + 1, v2) (by dsimp only; omega) ⟨rfl, rfl, rfl, rfl, rfl, rfl, rfl, rfl, trivial⟩ ⟨E, (by omega), h1, ho1, (by omega), Own.fin ho2 (Nat.le_refl _) (by omega) (fixT_yes (by assumption) (by simpa using hc2))⟩)
  ·refine S_skip ?_
   refine S_nil (E_inB ?_)
   refine S_reg [true, true] rfl rfl ?_
   refine J_st (R_add rfl rfl (add_one hc1n (Own.rd (by decide) ho1).1)) rfl (J_st (R_move rfl) rfl (J_done ?_))
   refine S_nil (E_again (k + 1, vo) (by dsimp only; omega) ⟨rfl, rfl, rfl, rfl, rfl, rfl, rfl, rfl, trivial⟩ ⟨E, (by omega), h1, ho1, (by omega), Own.fin ho (Nat.le_refl _) (by omega) (fixT_no (by assumption) (by simpa using hc2))⟩)
 ·have hc1n : ¬ k < (rs.filter (ofE e)).length := by first | (have h := of_decide_eq_false hc1; omega) | (have h := hc1; simp at h; omega)
  refine S_exit (E_lp_exit (E_inB_exit ?_))
  refine S_seq ?_
  refine S_block ?_
  have hfe := fixT_im (e := e) (rs := rs) (k := k) (by omega)
  have hfl := fixIn_len e rs
  have hp0 := psi_nil
  refine S_loop (fun (xq : List Cell × List Cell × Value × Value) => let ⟨cs1, ls1, vc, vl⟩ := xq; [(3, .pointer (some ⟨b1, 0, none⟩)), (6, .slice none 0 0), (7, vc), (8, vl)]) (fun (xq : List Cell × List Cell × Value × Value) w' => let ⟨cs1, ls1, vc, vl⟩ := xq; Ext w w' ∧ w3.heap.size ≤ w'.heap.size ∧ Blk w' b1 ([o1, .int .i64 g.workers, .int .i64 g.cap]) ∧ Own w' w1.heap.size w2.heap.size 5 v1 (List.flatMap (Enc.enc (α := Record)) (rs.filter (ofE e))) ∧ fixM g e rs = fixGo g cs1 ls1 ∧ cs1.length + psi cs1 ≤ 3200000 ∧ 3 * psi cs1 + ls1.length ≤ rs.length + 9600000 ∧ Own w' w2.heap.size w'.heap.size 4 vc (List.flatMap (Enc.enc (α := Cell)) cs1) ∧ Own w' w2.heap.size w'.heap.size 4 vl (List.flatMap (Enc.enc (α := Cell)) ls1) ∧ SepL [vc, vl]) (fun (xq : List Cell × List Cell × Value × Value) => let ⟨cs1, ls1, vc, vl⟩ := xq; 3 * psi cs1 + ls1.length) ([], fixIn e rs, .slice none 0 0, vo) ⟨rfl, rfl, rfl, rfl, trivial⟩ ⟨E, Nat.le_refl _, h1, ho1, rfl, (by rw [psi_nil]; simp), (by omega), Own.fin (Own.nil w3 w3.heap.size w3.heap.size 4) (by omega) (by omega) rfl, Own.fin ho (by omega) (by omega) (by rw [hfe]), ⟨⟨(Sep.nilL _), trivial⟩, ⟨trivial, trivial⟩⟩⟩ ?_
  clear E h1 ho1 ho
  rintro ⟨cs1, ls1, vc, vl⟩ w9 ⟨E, z9, h1, ho1, hI, hcl, hrl, hvc, hvl, sq⟩
  refine S_sub [(3, .pointer (some ⟨b1, 0, none⟩)), (6, .slice none 0 0), (7, vc), (8, vl)] ⟨rfl, rfl, rfl, rfl, trivial⟩ ?_
  refine S_seq ?_
  refine S_seq ?_
  refine S_reg [true, true, true] rfl rfl ?_
  refine J_st (R_move rfl) rfl (J_st (R_len Try.underlying27 rfl (Own.len (by decide) hvl)) rfl (J_st (R_gtr rfl rfl) rfl (J_done ?_)))
  refine S_cond rfl (fun hc3 => ?_) (fun hc3 => ?_)
  ·have hlt : 0 < ls1.length := by first | (have h := of_decide_eq_true hc3; omega) | (have h := hc3; simp at h; omega)
   have hc3n : ls1.length > 0 := by first | (have h := of_decide_eq_true hc3; omega) | (have h := hc3; simp at h; omega)
   refine S_skip ?_
   refine S_block ?_
   refine S_seq ?_
   refine S_regD mixed [(0, true), (1, true), (2, true), (3, true), (4, true), (5, false), (6, true), (7, true), (8, true), (9, true), (10, true)] (by decide +kernel) rfl (fun w10 e6 => ?_)
   replace E := E.trans e6; replace h1 := h1.ext e6; replace ho1 := ho1.ext e6; replace hvc := hvc.ext e6; replace hvl := hvl.ext e6
   have z10 := e6.size
   refine J_st (R_loadS st26 rfl h1.at rfl) rfl (J_st (R_move rfl) rfl (J_st (R_move rfl) rfl ?_))
   have hi2 : 0 < ls1.length := (by first | assumption | omega | (simp only [List.length_set]; first | assumption | omega) | (simp only [List.getElem_set_self, List.length_set]; first | assumption | omega) | (simp only [setW, setLk, List.length_set]; first | assumption | omega) | (simp; done))
   refine J_st (R_index (i := 0) sl27 rfl rfl (Own.rd (by decide) hvl) hi2) rfl (J_st (R_loadS st56 rfl ((Own.rd (by decide) hvl).get hi2) rfl) rfl ?_)
   refine J_call Try.call25 rfl (c_Improve [o1, .int .i64 g.workers, .int .i64 g.cap] g vc cs1 (ls1[0]'hi2) _ (Graph.mkR g (RdD.any (hd1.ext E))) (Own.rd (by decide) hvc) (by first | omega | (simp only [mkL_length]; omega) | (rw [mkL_length]; done) | (simp only [mkL_length]; done))) rfl (fun _ w11 e7 ho3 => ?_)
   obtain ⟨v3, v4, rfl, ho4, ho5, sp1⟩ := ho3
   have g_ho3 : w.heap.size ≤ w10.heap.size := E.size
   replace E := E.trans e7; replace h1 := h1.ext e7; replace ho1 := ho1.ext e7; replace hvc := hvc.ext e7; replace hvl := hvl.ext e7
   have z11 := e7.size
   refine J_st (R_move rfl) rfl (J_st (R_extract rfl rfl) rfl (J_st (R_extract rfl rfl) rfl (J_st (R_assign rfl) rfl (J_st (R_assign rfl) rfl (J_done ?_)))))
   refine S_seq ?_
   refine S_reg [true, true] rfl rfl ?_
   refine J_st (R_move rfl) rfl (J_st (R_assign rfl) rfl (J_done ?_))
   refine S_reg [true, true, true, false, true] rfl rfl ?_
   refine J_st (R_move rfl) rfl ?_
   have hk1 : 1 ≤ ls1.length := by first | assumption | omega
   have hs1 := Own.slFromE (α := Cell) hvl hk1
   replace hs1 : Own w11 w2.heap.size w9.heap.size 4 (slFrom vl 1 4) (List.flatMap (Enc.enc (α := Cell)) (List.drop 1 ls1)) := hs1
   have hb1 : Become w11 vl (slFrom vl 1 4) := fun g hg => .inl (by rwa [slFrom_blk] at hg)
   replace sq := SepL.set hb1 1 rfl sq ⟨(Own.lt hvc), (Own.lt hvl), trivial⟩
   replace sq : SepL [vc, slFrom vl 1 4] := sq
   refine J_st (R_sliceFrom sl27 rfl rfl (Own.roomE (α := Cell) hvl) hk1) rfl (J_st (R_move rfl) rfl ?_)
   refine J_appendB sl27 rfl rfl hs1 (Own.src ho5) (flat_one _) (by first | (have h := fixT_len e recordOk (rs.filter (ofE e)) k; simp only [List.length_append, sum_flat, List.length_nil, List.length_cons, List.length_drop]; simp only [Enc.sz]; have h2 := List.length_filter_le (ofE e) rs; omega) | (simp only [List.length_append, sum_flat, List.length_nil, List.length_cons, List.length_drop]; simp only [Enc.sz]; omega) | (have h := @improve_len2 g cs1 (ls1[0]'hlt); simp only [List.length_append, sum_flat, List.length_nil, List.length_cons, List.length_drop]; simp only [Enc.sz]; omega)) (by decide) (by omega) (by omega) rfl rfl (fun v5 w12 m3 ho6 hb2 => ?_)
   have hn1 : ∀ g, Value.ownBlock v5 = some g → g < w9.heap.size ∨ w11.heap.size ≤ g := fun g hg => (hb2 g hg).elim (fun h => .inl (by have := Own.blk hs1 g h; omega)) (fun h => .inr h)
   have sq1 := sq
   replace sq := SepL.set hb2 1 rfl sq ⟨(Own.lt hvc), (Own.lt hs1), trivial⟩
   replace sq : SepL [vc, v5] := sq
   replace E := E.step m3 (fun g hg => by have := Own.blk hs1 g hg; omega); replace h1 := h1.mod m3 (fun g hg => by have := Own.blk hs1 g hg; omega); replace ho1 := ho1.mod m3 (fun g hg => by have := Own.blk hs1 g hg; omega); replace hvc := Own.modS hvc m3 (sq1.1.1).symm; replace ho4 := ho4.mod m3 (fun g hg => by have := Own.blk hs1 g hg; omega); replace ho5 := ho5.mod m3 (fun g hg => by have := Own.blk hs1 g hg; omega)
   have z12 := m3.size
   replace ho6 : Own w12 w2.heap.size w12.heap.size 4 v5 (List.flatMap (Enc.enc (α := Cell)) ((List.drop 1 ls1) ++ ((improveM g cs1 (ls1[0]'hi2)).2))) := by rw [List.flatMap_append]; exact ho6
   refine J_st (R_assign rfl) rfl (J_done ?_)
   refine S_nil (E_inB ?_)
   have hm1 := @fix_mu g cs1 ls1 (ls1[0]'hi2) hlt
   have hm2 := @fix_b g cs1 (ls1[0]'hi2)
   refine S_nil (E_again ((improveM g cs1 (ls1[0]'hi2)).1, List.drop 1 ls1 ++ (improveM g cs1 (ls1[0]'hi2)).2, v3, v5) (by exact hm1) ⟨rfl, rfl, rfl, rfl, trivial⟩ ⟨E, (by omega), h1, ho1, (hI.trans (fix_next hlt (getD_at hlt))), (by omega), (by omega), Own.fin ho4 (by omega) (by omega) rfl, Own.fin ho6 (by omega) (by omega) (by first | rfl | (simp only [List.flatMap_append, List.nil_append]; done)), ⟨⟨(fun g hg he => by have := Own.blk ho4 g hg; have := Own.blk ho6 g he; have := hn1 g he; omega), trivial⟩, ⟨trivial, trivial⟩⟩⟩)
  ·have hend := hI.trans (fix_end (by first | (have h := of_decide_eq_false hc3; omega) | (have h := hc3; simp at h; omega)))
   have hc3n : ¬ ls1.length > 0 := by first | (have h := of_decide_eq_false hc3; omega) | (have h := hc3; simp at h; omega)
   refine S_exit (E_lp_exit (E_inB_exit ?_))
   refine S_seq ?_
   refine S_reg [true, true] rfl rfl ?_
   refine J_st (R_move rfl) rfl (J_st (R_assign rfl) rfl (J_done ?_))
   refine S_ret (E_done1 rfl rfl E ?_)
   exact Own.fin hvc (by omega) (by omega) (by rw [hend])

set_option maxHeartbeats 4000000 in
set_option maxRecDepth 20000 in
theorem s_Fixpoint (cg : List Value) (g : Graph) (e : Int) (vrs : Value) (rs : List Record) (w : World) (hg : Dat.R w 0 w.heap.size cg g) (hrs : RdS w vrs rs) (hb : rs.length ≤ 1048576) (hcg : cntGraph g ≤ 1048576) : Ct Try.prog 19 [.agg cg.toArray, .int .i64 e, vrs] w (fun v w' => Own w' w.heap.size w'.heap.size 4 v (List.flatMap (Enc.enc (α := Cell)) (fixM g e rs))) := by
 refine ct_of Try.func19 rfl Try.ntmps19 rfl ?_
 obtain ⟨o1, rfl, hd1⟩ := Graph.op hg
 refine S_sub [(0, .agg [o1, .int .i64 g.workers, .int .i64 g.cap].toArray), (1, .int .i64 e), (2, vrs)] ⟨rfl, rfl, rfl, trivial⟩ ?_
 have E : Ext w w := Ext.refl w
 refine S_seq ?_
 refine S_reg [false, true] rfl rfl ?_
 refine J_box rfl rfl (fun b1 w1 e1 s1 h1 => ?_)
 have g_b1 : w.heap.size ≤ b1 := by have := E.size; omega
 have y_b1 := h1.lt
 replace E := E.trans e1
 have z1 := e1.size
 refine J_st (R_assign rfl) rfl (J_done ?_)
 refine S_seq ?_
 refine S_reg [false, true] rfl rfl ?_
 refine J_buildSlice (vs := []) (css := []) sl27 rfl rfl trivial rfl rfl (fun b2 w2 e2 s2 h2 => ?_)
 replace h2 : Blk w2 b2 [] := h2
 have g_b2 : w.heap.size ≤ b2 := by have := E.size; omega
 have y_b2 := h2.lt
 replace E := E.trans e2; replace h1 := h1.ext e2
 have z2 := e2.size
 refine J_st (R_assign rfl) rfl (J_done ?_)
 refine S_seq ?_
 refine S_reg [false, true] rfl rfl ?_
 refine J_buildSlice (vs := []) (css := []) sl27 rfl rfl trivial rfl rfl (fun b3 w3 e3 s3 h3 => ?_)
 replace h3 : Blk w3 b3 [] := h3
 have g_b3 : w.heap.size ≤ b3 := by have := E.size; omega
 have y_b3 := h3.lt
 replace E := E.trans e3; replace h1 := h1.ext e3; replace h2 := h2.ext e3
 have z3 := e3.size
 refine J_st (R_assign rfl) rfl (J_done ?_)
 refine S_seq ?_
 refine S_seq ?_
 refine S_reg [true] rfl rfl ?_
 refine J_st (R_assign rfl) rfl (J_done ?_)
 refine S_block ?_
 refine S_loop (fun (xq : Nat × Value) => let ⟨k, vo⟩ := xq; [(1, .int .i64 e), (2, vrs), (3, .pointer (some ⟨b1, 0, none⟩)), (6, .slice none 0 0), (7, .slice (some ⟨b2, 0, none⟩) 0 0), (8, vo), (9, .int .i64 ((k : Nat) : Int))]) (fun (xq : Nat × Value) w' => let ⟨k, vo⟩ := xq; Ext w w' ∧ w3.heap.size ≤ w'.heap.size ∧ Blk w' b1 ([o1, .int .i64 g.workers, .int .i64 g.cap]) ∧ Blk w' b2 [] ∧ k ≤ rs.length ∧ Own w' b3 w'.heap.size 4 vo (List.flatMap (Enc.enc (α := Cell)) (fixT e (fun r => ofE e r && recordOk r) rs k))) (fun (xq : Nat × Value) => let ⟨k, vo⟩ := xq; rs.length - k) (0, .slice (some ⟨b3, 0, none⟩) 0 0) ⟨rfl, rfl, rfl, rfl, rfl, rfl, rfl, trivial⟩ ⟨E, Nat.le_refl _, h1, h2, Nat.zero_le _, Own.fin (Own.ofBlk (lo := b3) (hi := b3 + 1) (sz := 4) h3 (Nat.le_refl _) (Nat.lt_succ_self _) (by simp) (by simp [maxLen])) (by omega) (by omega) fixT_0.symm⟩ ?_
 clear E h1 h2 h3
 rintro ⟨k, vo⟩ w4 ⟨E, z4, h1, h2, hk, ho⟩
 refine S_sub [(1, .int .i64 e), (2, vrs), (3, .pointer (some ⟨b1, 0, none⟩)), (6, .slice none 0 0), (7, .slice (some ⟨b2, 0, none⟩) 0 0), (8, vo), (9, .int .i64 ((k : Nat) : Int))] ⟨rfl, rfl, rfl, rfl, rfl, rfl, rfl, trivial⟩ ?_
 refine S_seq ?_
 refine S_seq ?_
 refine S_reg [true, true, true, true] rfl rfl ?_
 refine J_st (R_move rfl) rfl (J_st (R_move rfl) rfl (J_st (R_len Try.underlying34 rfl (hrs.ext E).len) rfl (J_st (R_lss rfl rfl) rfl (J_done ?_))))
 refine S_cond rfl (fun hc1 => ?_) (fun hc1 => ?_)
 ·have hc1n : k < rs.length := by first | (have h := of_decide_eq_true hc1; omega) | (have h := hc1; simp at h; omega)
  refine S_skip ?_
  refine S_seq ?_
  refine S_block ?_
  refine S_seq ?_
  refine S_reg [true, true, true, true, false, false] rfl rfl ?_
  refine J_st (R_move rfl) rfl (J_st (R_move rfl) rfl ?_)
  have hi1 : k < rs.length := (by first | assumption | omega | (simp only [List.length_set]; first | assumption | omega) | (simp only [List.getElem_set_self, List.length_set]; first | assumption | omega) | (simp only [setW, setLk, List.length_set]; first | assumption | omega) | (simp; done))
  refine J_st (R_index (i := k) sl34 rfl rfl (hrs.ext E) hi1) rfl (J_st (R_loadS st31 rfl ((hrs.ext E).get hi1) rfl) rfl ?_)
  refine J_alloc st31 rfl (fun b4 w5 e4 s4 h4 => ?_)
  have g_b4 : w.heap.size ≤ b4 := by have := E.size; omega
  have y_b4 := h4.lt
  replace E := E.trans e4; replace h1 := h1.ext e4; replace h2 := h2.ext e4; replace ho := ho.ext e4
  have z5 := e4.size
  refine J_storeS' (cs' := [.int .i64 ((rs[k]'hi1).op), .int .i64 (((rs[k]'hi1).stamp).epoch), .int .i64 (((rs[k]'hi1).stamp).turn), .int .i64 ((rs[k]'hi1).key), .int .i64 ((rs[k]'hi1).val)]) st31 rfl rfl rfl rfl h4 (Nat.le_of_ble_eq_true rfl) rfl (fun w6 m1 h4' => ?_)
  replace h4 := h4'
  replace E := E.step m1 (fun g hg => by cases hg; omega); replace h1 := h1.mod m1 (fun g hg => by cases hg; omega); replace h2 := h2.mod m1 (fun g hg => by cases hg; omega); replace ho := ho.mod m1 (fun g hg => by cases hg; omega)
  have z6 := m1.size
  refine J_done ?_
  refine S_seq ?_
  refine S_reg [true, true, true, true, true, true, true, false, true] rfl rfl ?_
  refine J_st (R_fieldAddr0 fl31_1 rfl) rfl (J_st (R_fieldAddr fl29_0 rfl) rfl (J_st (R_load sc3 rfl (h4.one 1 rfl)) rfl (J_st (R_move rfl) rfl (J_st (R_eql rfl rfl) rfl (J_st (R_move rfl) rfl ?_)))))
  refine J_cut 3 [(1, .int .i64 e), (2, vrs), (3, .pointer (some ⟨b1, 0, none⟩)), (6, .slice none 0 0), (7, .slice (some ⟨b2, 0, none⟩) 0 0), (8, vo), (9, .int .i64 ((k : Nat) : Int)), (10, .pointer (some ⟨b4, 0, none⟩)), (15, .int .i64 ((k : Nat) : Int)), (16, vrs), (17, .int .i64 ((rs.length : Nat) : Int)), (18, .bool (decide (((k : Nat) : Int) < ((rs.length : Nat) : Int)))), (21, vrs), (22, .int .i64 ((k : Nat) : Int)), (23, .pointer (some ⟨sblk vrs, soff vrs + k * 5, none⟩)), (24, .agg (Enc.enc (rs[k]'hi1)).toArray), (33, .bool (((((rs[k]'hi1).stamp).epoch) == e) && (recordOk (rs[k]'hi1))))] (fun w' => Ext w w' ∧ w6.heap.size ≤ w'.heap.size ∧ Blk w' b1 ([o1, .int .i64 g.workers, .int .i64 g.cap]) ∧ Blk w' b2 [] ∧ Own w' b3 w4.heap.size 4 vo (List.flatMap (Enc.enc (α := Cell)) (fixT e (fun r => ofE e r && recordOk r) rs k)) ∧ Blk w' b4 [.int .i64 ((rs[k]'hi1).op), .int .i64 (((rs[k]'hi1).stamp).epoch), .int .i64 (((rs[k]'hi1).stamp).turn), .int .i64 ((rs[k]'hi1).key), .int .i64 ((rs[k]'hi1).val)]) ?_ ?_
  ·refine J_if (gd := 30) rfl rfl (fun hg1 => ?_) (fun hg1 => ?_)
   ·refine J_gd rfl rfl (R_loadS st31 rfl h4.at rfl) rfl ?_
    refine J_ung rfl rfl ?_
    refine J_call Try.call13 rfl (s_RecordOk (rs[k]'hi1) _ ) rfl (fun _ w8 e5 hv => ?_)
    subst hv
    replace E := E.trans e5; replace h1 := h1.ext e5; replace h2 := h2.ext e5; replace ho := ho.ext e5; replace h4 := h4.ext e5
    have z7 := e5.size
    refine J_st (R_pickT rfl rfl) rfl (J_cutEnd ⟨rfl, rfl, rfl, rfl, rfl, rfl, rfl, rfl, rfl, rfl, rfl, rfl, rfl, rfl, rfl, rfl, congrArg (fun b => some (Value.bool b)) (show (recordOk (rs[k]'hi1)) = (((((rs[k]'hi1).stamp).epoch) == e) && (recordOk (rs[k]'hi1))) by first | (rw [hg1] <;> rfl) | (simp [hg1]; done) | (simp only [nat_nlt] <;> simp)), trivial⟩ ⟨E, (by omega), h1, h2, ho, h4⟩)
   ·refine J_gdno rfl rfl rfl rfl ?_
    refine J_ungno rfl rfl rfl rfl ?_
    refine J_st (R_pickF rfl rfl) rfl (J_cutEnd ⟨rfl, rfl, rfl, rfl, rfl, rfl, rfl, rfl, rfl, rfl, rfl, rfl, rfl, rfl, rfl, rfl, congrArg (fun b => some (Value.bool b)) (show false = (((((rs[k]'hi1).stamp).epoch) == e) && (recordOk (rs[k]'hi1))) by first | (rw [hg1] <;> rfl) | (simp [hg1]; done) | (simp only [nat_nlt] <;> simp)), trivial⟩ ⟨E, (by omega), h1, h2, ho, h4⟩)
  clear E h1 h2 ho h4
  rintro w7 ⟨E, z8, h1, h2, ho, h4⟩
  refine J_done ?_
  refine S_cond rfl (fun hc2 => ?_) (fun hc2 => ?_)
  ·refine S_reg [true, true, true, true, true, true, true, false, false, true] rfl rfl ?_
   refine J_st (R_move rfl) rfl (J_st (R_move rfl) rfl (J_st (R_fieldAddr0 fl31_2 rfl) rfl (J_st (R_load sc3 rfl (h4.one 3 rfl)) rfl (J_st (R_fieldAddr0 fl31_3 rfl) rfl (J_st (R_load sc3 rfl (h4.one 4 rfl)) rfl (J_st (R_build (⟨0, e, (rs[k]'hi1).key, (rs[k]'hi1).val⟩ : Cell) rfl (fun _ => by kernel_rfl)) rfl ?_))))))
   refine J_buildSlice (vs := [.agg (Enc.enc (⟨0, e, (rs[k]'hi1).key, (rs[k]'hi1).val⟩ : Cell)).toArray]) (css := [[.int .i64 ((⟨0, e, (rs[k]'hi1).key, (rs[k]'hi1).val⟩ : Cell).op), .int .i64 ((⟨0, e, (rs[k]'hi1).key, (rs[k]'hi1).val⟩ : Cell).epoch), .int .i64 ((⟨0, e, (rs[k]'hi1).key, (rs[k]'hi1).val⟩ : Cell).key), .int .i64 ((⟨0, e, (rs[k]'hi1).key, (rs[k]'hi1).val⟩ : Cell).val)]]) sl27 rfl rfl ⟨⟨rfl, rfl⟩, trivial⟩ rfl rfl (fun b5 w9 e6 s5 h5 => ?_)
   replace h5 : Blk w9 b5 [.int .i64 ((⟨0, e, (rs[k]'hi1).key, (rs[k]'hi1).val⟩ : Cell).op), .int .i64 ((⟨0, e, (rs[k]'hi1).key, (rs[k]'hi1).val⟩ : Cell).epoch), .int .i64 ((⟨0, e, (rs[k]'hi1).key, (rs[k]'hi1).val⟩ : Cell).key), .int .i64 ((⟨0, e, (rs[k]'hi1).key, (rs[k]'hi1).val⟩ : Cell).val)] := h5
   have g_b5 : w.heap.size ≤ b5 := by have := E.size; omega
   have y_b5 := h5.lt
   replace E := E.trans e6; replace h1 := h1.ext e6; replace h2 := h2.ext e6; replace ho := ho.ext e6; replace h4 := h4.ext e6
   have z9 := e6.size
   refine J_append sl27 rfl rfl ho (Src.ofBlk h5 rfl) rfl (by first | (have h := fixT_len e (fun r => ofE e r && recordOk r) rs k; simp only [List.length_append, sum_flat, List.length_nil, List.length_cons, List.length_drop]; simp only [Enc.sz]; have h2 := List.length_filter_le (ofE e) rs; omega) | (simp only [List.length_append, sum_flat, List.length_nil, List.length_cons, List.length_drop]; simp only [Enc.sz]; omega) | (have h := @improve_len2 g cs1 (ls1[0]'hlt); simp only [List.length_append, sum_flat, List.length_nil, List.length_cons, List.length_drop]; simp only [Enc.sz]; omega)) (by decide) (by omega) (by omega) rfl rfl (fun v1 w10 m2 ho1 => ?_)
   replace E := E.step m2 (fun g hg => by have := Own.blk ho g hg; omega); replace h1 := h1.mod m2 (fun g hg => by have := Own.blk ho g hg; omega); replace h2 := h2.mod m2 (fun g hg => by have := Own.blk ho g hg; omega); replace h4 := h4.mod m2 (fun g hg => by have := Own.blk ho g hg; omega)
   have z10 := m2.size
   refine J_st (R_assign rfl) rfl (J_done ?_)
   refine S_nil (E_inB ?_)
   refine S_reg [true, true, true] rfl rfl ?_
   refine J_st (R_move rfl) rfl (J_st (R_add rfl rfl (add_one hc1n hrs.1)) rfl (J_st (R_assign rfl) rfl (J_done ?_)))
   refine S_nil (E_again (k + 1, v1) (by dsimp only; omega) ⟨rfl, rfl, rfl, rfl, rfl, rfl, rfl, trivial⟩ ⟨E, (by omega), h1, h2, (by omega), Own.fin ho1 (Nat.le_refl _) (by omega) (fixT_yes (by assumption) (by simpa [ofE] using hc2))⟩)
  ·refine S_skip ?_
   refine S_nil (E_inB ?_)
   refine S_reg [true, true, true] rfl rfl ?_
   refine J_st (R_move rfl) rfl (J_st (R_add rfl rfl (add_one hc1n hrs.1)) rfl (J_st (R_assign rfl) rfl (J_done ?_)))
   refine S_nil (E_again (k + 1, vo) (by dsimp only; omega) ⟨rfl, rfl, rfl, rfl, rfl, rfl, rfl, trivial⟩ ⟨E, (by omega), h1, h2, (by omega), Own.fin ho (Nat.le_refl _) (by omega) (fixT_no (by assumption) (by simpa [ofE] using hc2))⟩)
 ·have hc1n : ¬ k < rs.length := by first | (have h := of_decide_eq_false hc1; omega) | (have h := hc1; simp at h; omega)
  refine S_exit (E_lp_exit (E_inB_exit ?_))
  refine S_seq ?_
  refine S_block ?_
  have hfe := fixT_sp (e := e) (rs := rs) (k := k) (by omega)
  have hfl := fixIn_len e rs
  have hp0 := psi_nil
  refine S_loop (fun (xq : List Cell × List Cell × Value × Value) => let ⟨cs1, ls1, vc, vl⟩ := xq; [(3, .pointer (some ⟨b1, 0, none⟩)), (6, .slice none 0 0), (7, vc), (8, vl)]) (fun (xq : List Cell × List Cell × Value × Value) w' => let ⟨cs1, ls1, vc, vl⟩ := xq; Ext w w' ∧ w4.heap.size ≤ w'.heap.size ∧ Blk w' b1 ([o1, .int .i64 g.workers, .int .i64 g.cap]) ∧ fixM g e rs = fixGo g cs1 ls1 ∧ cs1.length + psi cs1 ≤ 3200000 ∧ 3 * psi cs1 + ls1.length ≤ rs.length + 9600000 ∧ Own w' b2 w'.heap.size 4 vc (List.flatMap (Enc.enc (α := Cell)) cs1) ∧ Own w' b2 w'.heap.size 4 vl (List.flatMap (Enc.enc (α := Cell)) ls1) ∧ SepL [vc, vl]) (fun (xq : List Cell × List Cell × Value × Value) => let ⟨cs1, ls1, vc, vl⟩ := xq; 3 * psi cs1 + ls1.length) ([], fixIn e rs, .slice (some ⟨b2, 0, none⟩) 0 0, vo) ⟨rfl, rfl, rfl, rfl, trivial⟩ ⟨E, Nat.le_refl _, h1, rfl, (by rw [psi_nil]; simp), (by omega), Own.fin (Own.ofBlk (lo := b2) (hi := b2 + 1) (sz := 4) h2 (Nat.le_refl _) (Nat.lt_succ_self _) (by simp) (by simp [maxLen])) (by omega) (by omega) rfl, Own.fin ho (by omega) (by omega) (by rw [hfe]), ⟨⟨(Own.sep (Own.ofBlk (lo := b2) (hi := b2 + 1) (sz := 4) h2 (Nat.le_refl _) (Nat.lt_succ_self _) (by rfl) (by unfold maxLen; omega)) ho (by omega)), trivial⟩, ⟨trivial, trivial⟩⟩⟩ ?_
  clear E h1 h2 ho
  rintro ⟨cs1, ls1, vc, vl⟩ w11 ⟨E, z11, h1, hI, hcl, hrl, hvc, hvl, sq⟩
  refine S_sub [(3, .pointer (some ⟨b1, 0, none⟩)), (6, .slice none 0 0), (7, vc), (8, vl)] ⟨rfl, rfl, rfl, rfl, trivial⟩ ?_
  refine S_seq ?_
  refine S_seq ?_
  refine S_reg [true, true, true] rfl rfl ?_
  refine J_st (R_move rfl) rfl (J_st (R_len Try.underlying27 rfl (Own.len (by decide) hvl)) rfl (J_st (R_gtr rfl rfl) rfl (J_done ?_)))
  refine S_cond rfl (fun hc3 => ?_) (fun hc3 => ?_)
  ·have hlt : 0 < ls1.length := by first | (have h := of_decide_eq_true hc3; omega) | (have h := hc3; simp at h; omega)
   have hc3n : ls1.length > 0 := by first | (have h := of_decide_eq_true hc3; omega) | (have h := hc3; simp at h; omega)
   refine S_skip ?_
   refine S_block ?_
   refine S_seq ?_
   refine S_regD mixed [(0, true), (1, true), (2, true), (3, true), (4, true), (5, false), (6, true), (7, true), (8, true), (9, true), (10, true)] (by decide +kernel) rfl (fun w12 e7 => ?_)
   replace E := E.trans e7; replace h1 := h1.ext e7; replace hvc := hvc.ext e7; replace hvl := hvl.ext e7
   have z12 := e7.size
   refine J_st (R_loadS st26 rfl h1.at rfl) rfl (J_st (R_move rfl) rfl (J_st (R_move rfl) rfl ?_))
   have hi2 : 0 < ls1.length := (by first | assumption | omega | (simp only [List.length_set]; first | assumption | omega) | (simp only [List.getElem_set_self, List.length_set]; first | assumption | omega) | (simp only [setW, setLk, List.length_set]; first | assumption | omega) | (simp; done))
   refine J_st (R_index (i := 0) sl27 rfl rfl (Own.rd (by decide) hvl) hi2) rfl (J_st (R_loadS st56 rfl ((Own.rd (by decide) hvl).get hi2) rfl) rfl ?_)
   refine J_call Try.call26 rfl (s_Improve [o1, .int .i64 g.workers, .int .i64 g.cap] g vc cs1 (ls1[0]'hi2) _ (Graph.mkR g (RdD.any (hd1.ext E))) (Own.rd (by decide) hvc) (by first | omega | (simp only [mkL_length]; omega) | (rw [mkL_length]; done) | (simp only [mkL_length]; done)) (by first | omega | (simp only [mkL_length]; omega) | (rw [mkL_length]; done) | (simp only [mkL_length]; done))) rfl (fun _ w13 e8 ho2 => ?_)
   obtain ⟨v2, v3, rfl, ho3, ho4, sp1⟩ := ho2
   have g_ho2 : w.heap.size ≤ w12.heap.size := E.size
   replace E := E.trans e8; replace h1 := h1.ext e8; replace hvc := hvc.ext e8; replace hvl := hvl.ext e8
   have z13 := e8.size
   refine J_st (R_move rfl) rfl (J_st (R_extract rfl rfl) rfl (J_st (R_extract rfl rfl) rfl (J_st (R_assign rfl) rfl (J_st (R_assign rfl) rfl (J_done ?_)))))
   refine S_seq ?_
   refine S_reg [true, true] rfl rfl ?_
   refine J_st (R_move rfl) rfl (J_st (R_assign rfl) rfl (J_done ?_))
   refine S_reg [false, true, true, false, true, false, true] rfl rfl ?_
   refine J_buildSlice (vs := []) (css := []) sl27 rfl rfl trivial rfl rfl (fun b6 w14 e9 s6 h6 => ?_)
   replace h6 : Blk w14 b6 [] := h6
   have g_b6 : w.heap.size ≤ b6 := by have := E.size; omega
   have y_b6 := h6.lt
   replace E := E.trans e9; replace h1 := h1.ext e9; replace hvc := hvc.ext e9; replace hvl := hvl.ext e9; replace ho3 := ho3.ext e9; replace ho4 := ho4.ext e9
   have z14 := e9.size
   refine J_st (R_move rfl) rfl ?_
   have hk1 : 1 ≤ ls1.length := by first | assumption | omega
   have hs1 := Own.slFromE (α := Cell) hvl hk1
   replace hs1 : Own w14 b2 w11.heap.size 4 (slFrom vl 1 4) (List.flatMap (Enc.enc (α := Cell)) (List.drop 1 ls1)) := hs1
   have hb1 : Become w14 vl (slFrom vl 1 4) := fun g hg => .inl (by rwa [slFrom_blk] at hg)
   replace sq := SepL.set hb1 1 rfl sq ⟨(Own.lt hvc), (Own.lt hvl), trivial⟩
   replace sq : SepL [vc, slFrom vl 1 4] := sq
   refine J_st (R_sliceFrom sl27 rfl rfl (Own.roomE (α := Cell) hvl) hk1) rfl ?_
   refine J_append sl27 rfl rfl (Own.ofBlk (lo := b6) (hi := b6 + 1) (sz := 4) h6 (Nat.le_refl _) (Nat.lt_succ_self _) (by simp) (by simp [maxLen])) (Own.src hs1) (flat_one _) (by first | (have h := fixT_len e (fun r => ofE e r && recordOk r) rs k; simp only [List.length_append, sum_flat, List.length_nil, List.length_cons, List.length_drop]; simp only [Enc.sz]; have h2 := List.length_filter_le (ofE e) rs; omega) | (simp only [List.length_append, sum_flat, List.length_nil, List.length_cons, List.length_drop]; simp only [Enc.sz]; omega) | (have h := @improve_len2 g cs1 (ls1[0]'hlt); simp only [List.length_append, sum_flat, List.length_nil, List.length_cons, List.length_drop]; simp only [Enc.sz]; omega)) (by decide) (by omega) (by omega) rfl rfl (fun v4 w15 m3 ho5 => ?_)
   replace E := E.step m3 (fun g hg => by have := Own.blk (Own.ofBlk (lo := b6) (hi := b6 + 1) (sz := 4) h6 (Nat.le_refl _) (Nat.lt_succ_self _) (by simp) (by simp [maxLen])) g hg; omega); replace h1 := h1.mod m3 (fun g hg => by have := Own.blk (Own.ofBlk (lo := b6) (hi := b6 + 1) (sz := 4) h6 (Nat.le_refl _) (Nat.lt_succ_self _) (by simp) (by simp [maxLen])) g hg; omega); replace hvc := hvc.mod m3 (fun g hg => by have := Own.blk (Own.ofBlk (lo := b6) (hi := b6 + 1) (sz := 4) h6 (Nat.le_refl _) (Nat.lt_succ_self _) (by simp) (by simp [maxLen])) g hg; omega); replace ho3 := ho3.mod m3 (fun g hg => by have := Own.blk (Own.ofBlk (lo := b6) (hi := b6 + 1) (sz := 4) h6 (Nat.le_refl _) (Nat.lt_succ_self _) (by simp) (by simp [maxLen])) g hg; omega); replace ho4 := ho4.mod m3 (fun g hg => by have := Own.blk (Own.ofBlk (lo := b6) (hi := b6 + 1) (sz := 4) h6 (Nat.le_refl _) (Nat.lt_succ_self _) (by simp) (by simp [maxLen])) g hg; omega); replace hs1 := hs1.mod m3 (fun g hg => by have := Own.blk (Own.ofBlk (lo := b6) (hi := b6 + 1) (sz := 4) h6 (Nat.le_refl _) (Nat.lt_succ_self _) (by simp) (by simp [maxLen])) g hg; omega)
   have z15 := m3.size
   refine J_st (R_move rfl) rfl ?_
   refine J_append sl27 rfl rfl ho5 (Own.src ho4) (flat_one _) (by first | (have h := fixT_len e (fun r => ofE e r && recordOk r) rs k; simp only [List.length_append, sum_flat, List.length_nil, List.length_cons, List.length_drop]; simp only [Enc.sz]; have h2 := List.length_filter_le (ofE e) rs; omega) | (simp only [List.length_append, sum_flat, List.length_nil, List.length_cons, List.length_drop]; simp only [Enc.sz]; omega) | (have h := @improve_len2 g cs1 (ls1[0]'hlt); simp only [List.length_append, sum_flat, List.length_nil, List.length_cons, List.length_drop]; simp only [Enc.sz]; omega)) (by decide) (by omega) (by omega) rfl rfl (fun v5 w16 m4 ho6 => ?_)
   replace E := E.step m4 (fun g hg => by have := Own.blk ho5 g hg; omega); replace h1 := h1.mod m4 (fun g hg => by have := Own.blk ho5 g hg; omega); replace hvc := hvc.mod m4 (fun g hg => by have := Own.blk ho5 g hg; omega); replace ho3 := ho3.mod m4 (fun g hg => by have := Own.blk ho5 g hg; omega); replace ho4 := ho4.mod m4 (fun g hg => by have := Own.blk ho5 g hg; omega); replace hs1 := hs1.mod m4 (fun g hg => by have := Own.blk ho5 g hg; omega)
   have z16 := m4.size
   refine J_st (R_assign rfl) rfl (J_done ?_)
   refine S_nil (E_inB ?_)
   have hm1 := @fix_mu g cs1 ls1 (ls1[0]'hi2) hlt
   have hm2 := @fix_b g cs1 (ls1[0]'hi2)
   refine S_nil (E_again ((improveM g cs1 (ls1[0]'hi2)).1, List.drop 1 ls1 ++ (improveM g cs1 (ls1[0]'hi2)).2, v2, v5) (by exact hm1) ⟨rfl, rfl, rfl, rfl, trivial⟩ ⟨E, (by omega), h1, (hI.trans (fix_next hlt (getD_at hlt))), (by omega), (by omega), Own.fin ho3 (by omega) (by omega) rfl, Own.fin ho6 (by omega) (by omega) (by first | rfl | (simp only [List.flatMap_append, List.nil_append]; done)), ⟨⟨(Own.sep ho3 ho6 (by omega)), trivial⟩, ⟨trivial, trivial⟩⟩⟩)
  ·have hend := hI.trans (fix_end (by first | (have h := of_decide_eq_false hc3; omega) | (have h := hc3; simp at h; omega)))
   have hc3n : ¬ ls1.length > 0 := by first | (have h := of_decide_eq_false hc3; omega) | (have h := hc3; simp at h; omega)
   refine S_exit (E_lp_exit (E_inB_exit ?_))
   refine S_seq ?_
   refine S_reg [true, true] rfl rfl ?_
   refine J_st (R_move rfl) rfl (J_st (R_assign rfl) rfl (J_done ?_))
   refine S_ret (E_done1 rfl rfl E ?_)
   exact Own.fin hvc (by omega) (by omega) (by rw [hend])

set_option maxRecDepth 20000 in
theorem s_ResultOf (cg : List Value) (g : Graph) (e : Int) (vrs : Value) (rs : List Record) (w : World) (hg : Dat.R w 0 w.heap.size cg g) (hrs : RdS w vrs rs) (hb : rs.length ≤ 1048576) (hcg : cntGraph g ≤ 1048576) : Ct Try.prog 21 [.agg cg.toArray, .int .i64 e, vrs] w (fun v w' => Own w' w.heap.size w'.heap.size 4 v (List.flatMap (Enc.enc (α := Cell)) ((fixM g e rs).filter (outOf g)))) := by
 have hl1 := fix_len g e rs
 refine ct_of Try.func21 rfl Try.ntmps21 rfl ?_
 obtain ⟨o1, rfl, hd1⟩ := Graph.op hg
 refine S_sub [(0, .agg [o1, .int .i64 g.workers, .int .i64 g.cap].toArray), (1, .int .i64 e), (2, vrs)] ⟨rfl, rfl, rfl, trivial⟩ ?_
 have E : Ext w w := Ext.refl w
 refine S_seq ?_
 refine S_reg [false, true] rfl rfl ?_
 refine J_box rfl rfl (fun b1 w1 e1 s1 h1 => ?_)
 have g_b1 : w.heap.size ≤ b1 := by have := E.size; omega
 have y_b1 := h1.lt
 replace E := E.trans e1
 have z1 := e1.size
 refine J_st (R_assign rfl) rfl (J_done ?_)
 refine S_seq ?_
 refine S_regD mixed [(0, true), (1, true), (2, true), (3, true), (4, false), (5, false), (6, true)] (by decide +kernel) rfl (fun w2 e2 => ?_)
 replace E := E.trans e2; replace h1 := h1.ext e2
 have z2 := e2.size
 refine J_st (R_loadS st26 rfl h1.at rfl) rfl (J_st (R_loadS st26 rfl h1.at rfl) rfl (J_st (R_move rfl) rfl (J_st (R_move rfl) rfl ?_)))
 refine J_call Try.call19 rfl (s_Fixpoint [o1, .int .i64 g.workers, .int .i64 g.cap] g e vrs rs _ (Graph.mkR g (RdD.any (hd1.ext E))) (hrs.ext E) (by first | omega | (simp only [mkL_length]; omega) | (rw [mkL_length]; done) | (simp only [mkL_length]; done)) (by first | omega | (simp only [mkL_length]; omega) | (rw [mkL_length]; done) | (simp only [mkL_length]; done))) rfl (fun v1 w3 e3 ho1 => ?_)
 have g_ho1 : w.heap.size ≤ w2.heap.size := E.size
 replace E := E.trans e3; replace h1 := h1.ext e3
 have z3 := e3.size
 refine J_call Try.call32 rfl (s_OutsOnly [o1, .int .i64 g.workers, .int .i64 g.cap] g v1 (fixM g e rs) _ (Graph.mkR g (RdD.any (hd1.ext E))) (Own.rd (by decide) ho1) (by first | omega | (simp only [mkL_length]; omega) | (rw [mkL_length]; done) | (simp only [mkL_length]; done)) (by first | omega | (simp only [mkL_length]; omega) | (rw [mkL_length]; done) | (simp only [mkL_length]; done))) rfl (fun v2 w4 e4 ho2 => ?_)
 have g_ho2 : w.heap.size ≤ w3.heap.size := E.size
 replace E := E.trans e4; replace h1 := h1.ext e4; replace ho1 := ho1.ext e4
 have z4 := e4.size
 refine J_st (R_assign rfl) rfl (J_done ?_)
 refine S_ret (E_done1 rfl rfl E ?_)
 exact Own.fin ho2 (by have := E.size; omega) (by omega) (by simp [*])

set_option maxRecDepth 20000 in
theorem c_ResultOf (cg : List Value) (g : Graph) (e : Int) (vrs : Value) (rs : List Record) (w : World) (hg : Dat.R w 0 w.heap.size cg g) (hrs : RdS w vrs rs) (hb : rs.length ≤ 1048576) : Ct Try.prog 20 [.agg cg.toArray, .int .i64 e, vrs] w (fun v w' => Own w' w.heap.size w'.heap.size 4 v (List.flatMap (Enc.enc (α := Cell)) ((fixM g e rs).filter (outOf g)))) := by
 have hl1 := fix_len g e rs
 refine ct_of Try.func20 rfl Try.ntmps20 rfl ?_
 obtain ⟨o1, rfl, hd1⟩ := Graph.op hg
 refine S_sub [(0, .agg [o1, .int .i64 g.workers, .int .i64 g.cap].toArray), (1, .int .i64 e), (2, vrs)] ⟨rfl, rfl, rfl, trivial⟩ ?_
 have E : Ext w w := Ext.refl w
 refine S_seq ?_
 refine S_reg [false, true] rfl rfl ?_
 refine J_box rfl rfl (fun b1 w1 e1 s1 h1 => ?_)
 have g_b1 : w.heap.size ≤ b1 := by have := E.size; omega
 have y_b1 := h1.lt
 replace E := E.trans e1
 have z1 := e1.size
 refine J_st (R_assign rfl) rfl (J_done ?_)
 refine S_seq ?_
 refine S_regD mixed [(0, true), (1, true), (2, true), (3, true), (4, false), (5, false), (6, true)] (by decide +kernel) rfl (fun w2 e2 => ?_)
 replace E := E.trans e2; replace h1 := h1.ext e2
 have z2 := e2.size
 refine J_st (R_loadS st26 rfl h1.at rfl) rfl (J_st (R_loadS st26 rfl h1.at rfl) rfl (J_st (R_move rfl) rfl (J_st (R_move rfl) rfl ?_)))
 refine J_call Try.call18 rfl (c_Fixpoint [o1, .int .i64 g.workers, .int .i64 g.cap] g e vrs rs _ (Graph.mkR g (RdD.any (hd1.ext E))) (hrs.ext E) (by first | omega | (simp only [mkL_length]; omega) | (rw [mkL_length]; done) | (simp only [mkL_length]; done))) rfl (fun v1 w3 e3 ho1 => ?_)
 have g_ho1 : w.heap.size ≤ w2.heap.size := E.size
 replace E := E.trans e3; replace h1 := h1.ext e3
 have z3 := e3.size
 refine J_call Try.call31 rfl (c_OutsOnly [o1, .int .i64 g.workers, .int .i64 g.cap] g v1 (fixM g e rs) _ (Graph.mkR g (RdD.any (hd1.ext E))) (Own.rd (by decide) ho1) (by first | omega | (simp only [mkL_length]; omega) | (rw [mkL_length]; done) | (simp only [mkL_length]; done))) rfl (fun v2 w4 e4 ho2 => ?_)
 have g_ho2 : w.heap.size ≤ w3.heap.size := E.size
 replace E := E.trans e4; replace h1 := h1.ext e4; replace ho1 := ho1.ext e4
 have z4 := e4.size
 refine J_st (R_assign rfl) rfl (J_done ?_)
 refine S_ret (E_done1 rfl rfl E ?_)
 exact Own.fin ho2 (by have := E.size; omega) (by omega) (by simp [*])

set_option maxRecDepth 20000 in
theorem s_l01New (vcode : Value) (code : List Byt) (w : World) (hcode : RdS w vcode code) : Ct Try.prog 34 [vcode] w (fun v w' => ∃ b, v = .pointer (some ⟨b, 0, none⟩) ∧ w.heap.size ≤ b ∧ CurO w' b vcode code) := by
 have hmx := hcode.1
 unfold maxLen at hmx
 refine ct_of Try.func34 rfl Try.ntmps34 rfl ?_
 refine S_sub [(0, vcode)] ⟨rfl, trivial⟩ ?_
 have E : Ext w w := Ext.refl w
 refine S_seq ?_
 refine S_reg [true] rfl rfl ?_
 refine J_st (R_assign rfl) rfl (J_done ?_)
 refine S_seq ?_
 refine S_reg [true, true, true, true] rfl rfl ?_
 refine J_st (R_move rfl) rfl (J_st (R_len Try.underlying22 rfl (hcode.ext E).len) rfl (J_st (R_add rfl rfl rfl) rfl (J_st (R_assign rfl) rfl (J_done ?_))))
 refine S_seq ?_
 refine S_seq ?_
 refine S_reg [true] rfl rfl ?_
 refine J_st (R_assign rfl) rfl (J_done ?_)
 refine S_block ?_
 refine S_loop (fun (xq : Nat × Int) => let ⟨k, hh⟩ := xq; [(0, vcode), (2, .pointer none), (3, .int .i64 hh), (4, .int .i64 ((k : Nat) : Int))]) (fun (xq : Nat × Int) w' => let ⟨k, hh⟩ := xq; Ext w w' ∧ w.heap.size ≤ w'.heap.size ∧ k ≤ code.length) (fun (xq : Nat × Int) => let ⟨k, hh⟩ := xq; code.length - k) (0, IntKind.i64.wrap (94701 + ((code.length : Nat) : Int))) ⟨rfl, rfl, rfl, rfl, trivial⟩ ⟨E, Nat.le_refl _, Nat.zero_le _⟩ ?_
 clear E
 rintro ⟨k, hh⟩ w1 ⟨E, z1, hk⟩
 refine S_sub [(0, vcode), (2, .pointer none), (3, .int .i64 hh), (4, .int .i64 ((k : Nat) : Int))] ⟨rfl, rfl, rfl, rfl, trivial⟩ ?_
 refine S_seq ?_
 refine S_seq ?_
 refine S_reg [true, true, true, true, true, true, true, true] rfl rfl ?_
 refine J_st (R_move rfl) rfl (J_st (R_move rfl) rfl (J_st (R_len Try.underlying22 rfl (hcode.ext E).len) rfl (J_st (R_lss rfl rfl) rfl (J_st (R_move rfl) rfl ?_))))
 refine J_cut 3 [(0, vcode), (2, .pointer none), (3, .int .i64 hh), (4, .int .i64 ((k : Nat) : Int)), (15, .bool ((decide (((k : Nat) : Int) < ((code.length : Nat) : Int))) && (decide (((k : Nat) : Int) < 4000))))] (fun w' => w1 = w') ?_ ?_
 ·refine J_if (gd := 12) rfl rfl (fun hg1 => ?_) (fun hg1 => ?_)
  ·have hg1n : k < code.length := by first | (have h := of_decide_eq_true hg1; omega) | (have h := hg1; simp at h; omega)
   refine J_gd rfl rfl (R_move rfl) rfl (J_gd rfl rfl (R_lss rfl rfl) rfl (J_st (R_pickT rfl rfl) rfl (J_cutEnd ⟨rfl, rfl, rfl, rfl, congrArg (fun b => some (Value.bool b)) (show (decide (((k : Nat) : Int) < 4000)) = ((decide (((k : Nat) : Int) < ((code.length : Nat) : Int))) && (decide (((k : Nat) : Int) < 4000))) by first | (rw [hg1] <;> rfl) | (simp [hg1]; done) | (simp only [nat_nlt] <;> simp)), trivial⟩ rfl)))
  ·have hg1n : ¬ k < code.length := by first | (have h := of_decide_eq_false hg1; omega) | (have h := hg1; simp at h; omega)
   refine J_gdno rfl rfl rfl rfl (J_gdno rfl rfl rfl rfl (J_st (R_pickF rfl rfl) rfl (J_cutEnd ⟨rfl, rfl, rfl, rfl, congrArg (fun b => some (Value.bool b)) (show false = ((decide (((k : Nat) : Int) < ((code.length : Nat) : Int))) && (decide (((k : Nat) : Int) < 4000))) by first | (rw [hg1] <;> rfl) | (simp [hg1]; done) | (simp only [nat_nlt] <;> simp)), trivial⟩ rfl)))
 rintro _ rfl
 refine J_done ?_
 refine S_cond rfl (fun hc1 => ?_) (fun hc1 => ?_)
 ·have hlt : k < code.length := by have h := (Bool.and_eq_true _ _ ▸ hc1).1; have h2 := of_decide_eq_true h; omega
  refine S_skip ?_
  refine S_seq ?_
  refine S_block ?_
  refine S_reg [true, true, true, true, true, true, true, true, true, true, true] rfl rfl ?_
  refine J_st (R_move rfl) rfl (J_st (R_mul rfl rfl rfl) rfl (J_st (R_move rfl) rfl (J_st (R_move rfl) rfl ?_)))
  have hi1 : k < code.length := (by first | assumption | omega | (simp only [List.length_set]; first | assumption | omega) | (simp only [List.getElem_set_self, List.length_set]; first | assumption | omega) | (simp only [setW, setLk, List.length_set]; first | assumption | omega) | (simp; done))
  refine J_st (R_index (i := k) sl22 rfl rfl (hcode.ext E) hi1) rfl (J_st (R_load sc5 rfl (((hcode.ext E).get hi1).one 0 rfl)) rfl (J_st (R_conv Try.underlying5 Try.underlying3 rfl) rfl (J_st (R_add rfl rfl rfl) rfl (J_st (R_add rfl rfl rfl) rfl (J_st (R_and rfl rfl) rfl (J_st (R_assign rfl) rfl (J_done ?_)))))))
  refine S_nil (E_inB ?_)
  refine S_reg [true, true, true] rfl rfl ?_
  refine J_st (R_move rfl) rfl (J_st (R_add rfl rfl (add_nat (by unfold maxLen; omega))) rfl (J_st (R_assign rfl) rfl (J_done ?_)))
  refine S_nil (E_again (k + 1, andB .i64 (IntKind.i64.wrap ((IntKind.i64.wrap ((IntKind.i64.wrap (hh * 131)) + (IntKind.i64.wrap ((code[k]'hi1).v)))) + 7)) 1073741823) (by simp; omega) ⟨rfl, rfl, rfl, rfl, trivial⟩ ⟨E, (by omega), (by omega)⟩)
 ·refine S_exit (E_lp_exit (E_inB_exit ?_))
  refine S_seq ?_
  refine S_reg [true, true, true, false, true] rfl rfl ?_
  refine J_st (R_move rfl) rfl (J_st (R_move rfl) rfl ?_)
  have hbl1 : ∀ w, (Instr.build 96 ([(0, vcode), (2, .int .i64 hh)]).toArray).run Try.prog w = .ok (.agg [vcode, .int .i64 0, .int .i64 hh].toArray) w := by clear E; obtain ⟨_, _, _, rfl⟩ := SlLen.shape (RdL.len hcode); intro w; kernel_rfl
  refine J_st (R_buildC [vcode, .int .i64 0, .int .i64 hh] rfl hbl1) rfl ?_
  refine J_box rfl rfl (fun b1 w3 e1 s1 h1 => ?_)
  have g_b1 : w.heap.size ≤ b1 := by have := E.size; omega
  have y_b1 := h1.lt
  replace E := E.trans e1
  have z2 := e1.size
  refine J_st (R_assign rfl) rfl (J_done ?_)
  refine S_ret (E_done1 rfl rfl E ?_)
  exact ⟨_, rfl, (by omega), 0, _, h1, Nat.zero_le _⟩

end Go.Proofs.Ytckahblgeepfjaa
