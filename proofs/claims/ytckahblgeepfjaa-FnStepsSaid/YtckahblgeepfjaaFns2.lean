/- What the functions that the laws call come to: a contract each; no condition. -/
import Derived.Test.YtckahblgeepfjaaFns
namespace Go.Proofs.Ytckahblgeepfjaa
open Go Go.Proofs.Ytckahblgeepfjaa.X Go.Proofs
set_option maxRecDepth 20000 in
theorem c_DeleteFuncCell (vxs : Value) (lo hi : Nat) (xs : List Cell) (fp : Value) (p : Cell → Bool) (w : World) (hxs : Own w lo hi 4 vxs (List.flatMap (Enc.enc (α := Cell)) xs)) (hp : PredR Try.prog w lo hi fp p) (hhi : hi ≤ w.heap.size) : CtR Try.prog 83 [vxs, fp] w lo hi (fun v w' => Own w' lo w'.heap.size 4 v (List.flatMap (Enc.enc (α := Cell)) (List.filter (fun y => !(p y)) xs))) := by
 have hmx := (Own.rd (α := Cell) (by decide) hxs).1
 unfold maxLen at hmx
 refine ctR_of Try.func83 rfl Try.ntmps83 rfl ?_
 obtain ⟨fid, fs, fc, rfl, hcf, hpf⟩ := hp
 refine S_sub [(0, vxs), (1, .func (.func fid) fs.toArray fc.toArray)] ⟨rfl, rfl, trivial⟩ ?_
 have E : ModR w w lo hi := ModR.refl w lo hi
 refine S_seq ?_
 refine S_reg [true] rfl rfl ?_
 refine J_st (R_assign rfl) rfl (J_done ?_)
 refine S_seq ?_
 refine S_reg [true, true, false, true] rfl rfl ?_
 refine J_st (R_move rfl) rfl (J_st (R_move rfl) rfl ?_)
 refine J_call Try.call92 (by rfl) (c_IndexFuncCell vxs xs (.func (.func fid) fs.toArray fc.toArray) (p) _ (Own.rd (by decide) hxs) ⟨fid, fs, fc, rfl, hcf, fun y w' e => hpf y w' (E.ext e)⟩) rfl (fun _ w1 e1 hv => ?_)
 subst hv
 replace E := E.ext e1; replace hxs := hxs.ext e1
 have z1 := e1.size
 refine J_st (R_assign rfl) rfl (J_done ?_)
 refine S_seq ?_
 refine S_seq ?_
 refine S_reg [true, true] rfl rfl ?_
 refine J_st (R_move rfl) rfl (J_st (R_eql rfl rfl) rfl (J_done ?_))
 refine S_cond rfl (fun hc1 => ?_) (fun hc1 => ?_)
 ·refine S_seq ?_
  refine S_reg [true, true] rfl rfl ?_
  refine J_st (R_move rfl) rfl (J_st (R_assign rfl) rfl (J_done ?_))
  refine S_ret (E_done1 rfl rfl E ?_)
  exact Own.fin hxs (Nat.le_refl _) (by have := E.size; omega) (by rw [del_none (by simpa using hc1)])
 ·have hany := find_some (by simpa using hc1)
  have hfl := find_lt hany
  rw [find_eq hany]
  refine S_skip ?_
  refine S_seq ?_
  refine S_seq ?_
  refine S_reg [true, true, true] rfl rfl ?_
  refine J_st (R_move rfl) rfl (J_st (R_add rfl rfl (add_nat (by unfold maxLen; omega))) rfl (J_st (R_assign rfl) rfl (J_done ?_)))
  refine S_block ?_
  refine S_loop (fun (xq : Nat × Nat × List Cell) => let ⟨j, i, ys⟩ := xq; [(0, vxs), (1, .func (.func fid) fs.toArray fc.toArray), (4, .slice none 0 0), (5, .int .i64 ((i : Nat) : Int)), (6, .int .i64 ((j : Nat) : Int))]) (fun (xq : Nat × Nat × List Cell) w' => let ⟨j, i, ys⟩ := xq; ModR w w' lo hi ∧ w1.heap.size ≤ w'.heap.size ∧ ys.length = xs.length ∧ i < j ∧ j ≤ xs.length ∧ ys.take i = (xs.take j).filter (fun y => !p y) ∧ ys.drop j = xs.drop j ∧ Own w' lo hi 4 vxs (List.flatMap (Enc.enc (α := Cell)) ys)) (fun (xq : Nat × Nat × List Cell) => let ⟨j, i, ys⟩ := xq; xs.length - j) (xs.findIdx p + 1, xs.findIdx p, xs) ⟨rfl, rfl, rfl, rfl, rfl, trivial⟩ ⟨E, Nat.le_refl _, rfl, (by omega), (by omega), (del_start hany), rfl, hxs⟩ ?_
  clear E hxs
  rintro ⟨j, i, ys⟩ w2 ⟨E, z2, hyl, hij, hjl, hI, hD, hxs⟩
  refine S_sub [(0, vxs), (1, .func (.func fid) fs.toArray fc.toArray), (4, .slice none 0 0), (5, .int .i64 ((i : Nat) : Int)), (6, .int .i64 ((j : Nat) : Int))] ⟨rfl, rfl, rfl, rfl, rfl, trivial⟩ ?_
  refine S_seq ?_
  refine S_seq ?_
  refine S_reg [true, true, true, true] rfl rfl ?_
  refine J_st (R_move rfl) rfl (J_st (R_move rfl) rfl (J_st (R_len Try.underlying27 rfl (Own.lenE (by decide) hxs hyl)) rfl (J_st (R_lss rfl rfl) rfl (J_done ?_))))
  refine S_cond rfl (fun hc2 => ?_) (fun hc2 => ?_)
  ·have hc2n : j < xs.length := by first | (have h := of_decide_eq_true hc2; omega) | (have h := hc2; simp at h; omega)
   refine S_skip ?_
   refine S_seq ?_
   refine S_block ?_
   refine S_seq ?_
   refine S_reg [true, true, true, true, false, false] rfl rfl ?_
   refine J_st (R_move rfl) rfl (J_st (R_move rfl) rfl ?_)
   have hi1 : j < ys.length := (by first | assumption | omega | (simp only [List.length_set]; first | assumption | omega) | (simp only [List.getElem_set_self, List.length_set]; first | assumption | omega) | (simp only [setW, setLk, List.length_set]; first | assumption | omega) | (simp; done))
   refine J_st (R_index (i := j) sl27 rfl rfl (Own.rd (by decide) hxs) hi1) rfl (J_st (R_loadS st56 rfl ((Own.rd (by decide) hxs).get hi1) rfl) rfl ?_)
   refine J_alloc st56 rfl (fun b1 w3 e2 s1 h1 => ?_)
   have g_b1 : w.heap.size ≤ b1 := by have := E.size; omega
   have y_b1 := h1.lt
   replace E := E.ext e2; replace hxs := hxs.ext e2
   have z3 := e2.size
   refine J_storeS' (cs' := [.int .i64 ((ys[j]'hi1).op), .int .i64 ((ys[j]'hi1).epoch), .int .i64 ((ys[j]'hi1).key), .int .i64 ((ys[j]'hi1).val)]) st56 rfl rfl rfl rfl h1 (Nat.le_of_ble_eq_true rfl) rfl (fun w4 m1 h1' => ?_)
   replace h1 := h1'
   replace E := E.mod m1 (fun g hg => by cases hg; omega); replace hxs := hxs.mod m1 (fun g hg => by cases hg; omega)
   have z4 := m1.size
   refine J_done ?_
   refine S_seq ?_
   refine S_reg [true, true, false, true] rfl rfl ?_
   refine J_st (R_move rfl) rfl (J_st (R_loadS st56 rfl h1.at rfl) rfl ?_)
   refine J_callV (fs := fs) (cs := fc) hcf rfl rfl (hpf (ys[j]'hi1) _ E) rfl (fun _ w5 e3 hv => ?_)
   subst hv
   replace E := E.ext e3; replace hxs := hxs.ext e3; replace h1 := h1.ext e3
   have z5 := e3.size
   refine J_st (R_not rfl) rfl (J_done ?_)
   refine S_cond rfl (fun hc3 => ?_) (fun hc3 => ?_)
   ·refine S_seq ?_
    refine S_reg [true, true, true, true, false] rfl rfl ?_
    refine J_st (R_move rfl) rfl (J_st (R_move rfl) rfl (J_st (R_loadS st56 rfl h1.at rfl) rfl ?_))
    have hi2 : i < ys.length := (by first | assumption | omega | (simp only [List.length_set]; first | assumption | omega) | (simp only [List.getElem_set_self, List.length_set]; first | assumption | omega) | (simp only [setW, setLk, List.length_set]; first | assumption | omega) | (simp; done))
    refine J_st (R_index (i := i) sl27 rfl rfl (Own.rd (by decide) hxs) hi2) rfl ?_
    refine J_storeElem (α := Cell) (i := i) (ys[j]'hi1) st56 rfl rfl rfl hxs hi2 (fun w6 m2 hxs' => ?_)
    have hq := Own.blk hxs
    replace hxs := hxs'
    replace E := E.mod m2 (fun g hg => by have := hq g hg; omega); replace h1 := h1.mod m2 (fun g hg => by have := hq g hg; omega)
    have z6 := m2.size
    clear hq
    refine J_done ?_
    refine S_reg [true, true, true] rfl rfl ?_
    refine J_st (R_move rfl) rfl (J_st (R_add rfl rfl (add_nat (by unfold maxLen; omega))) rfl (J_st (R_assign rfl) rfl (J_done ?_)))
    refine S_nil (E_inB ?_)
    refine S_reg [true, true, true] rfl rfl ?_
    refine J_st (R_move rfl) rfl (J_st (R_add rfl rfl (add_nat (by unfold maxLen; omega))) rfl (J_st (R_assign rfl) rfl (J_done ?_)))
    refine S_nil (E_again (j + 1, i + 1, List.set ys i (ys[j]'hi1)) (by simp; omega) ⟨rfl, rfl, rfl, rfl, rfl, trivial⟩ ⟨E, (by omega), (by simpa using hyl), (by omega), (by omega), (del_yes1 hI hD hyl hij (by omega) (by simpa using hc3)), (del_yes2 hD hyl hij), hxs⟩)
   ·refine S_skip ?_
    refine S_nil (E_inB ?_)
    refine S_reg [true, true, true] rfl rfl ?_
    refine J_st (R_move rfl) rfl (J_st (R_add rfl rfl (add_nat (by unfold maxLen; omega))) rfl (J_st (R_assign rfl) rfl (J_done ?_)))
    refine S_nil (E_again (j + 1, i, ys) (by simp; omega) ⟨rfl, rfl, rfl, rfl, rfl, trivial⟩ ⟨E, (by omega), (by simpa using hyl), (by omega), (by omega), (del_no1 hI hD hyl hij (by omega) (by simpa using hc3)), (del_no2 hD hyl hij), hxs⟩)
  ·have hc2n : ¬ j < xs.length := by first | (have h := of_decide_eq_false hc2; omega) | (have h := hc2; simp at h; omega)
   refine S_exit (E_lp_exit (E_inB_exit ?_))
   refine S_seq ?_
   refine S_reg [true, true, true, false] rfl rfl ?_
   refine J_st (R_move rfl) rfl (J_st (R_move rfl) rfl ?_)
   have hk1 : i ≤ ys.length := by first | assumption | omega
   refine J_st (R_sliceFrom sl27 rfl rfl (Own.roomE (α := Cell) hxs) hk1) rfl ?_
   have hrm1 := Own.roomE (α := Cell) hxs
   have hq := Own.blk hxs
   refine J_clear (α := Cell) sl27 st56 rfl rfl hxs (by first | assumption | omega) (fun w7 m3 ho1 => ?_)
   replace E := E.mod m3 (fun g hg => by have := hq g hg; omega)
   have z7 := m3.size
   clear hq
   refine J_done ?_
   refine S_seq ?_
   refine S_reg [true, true, true, true] rfl rfl ?_
   refine J_st (R_move rfl) rfl (J_st (R_move rfl) rfl ?_)
   have hk2 : i ≤ ys.length := by first | assumption | omega
   refine J_st (R_sliceTo sl27 rfl rfl hrm1 hk2) rfl (J_st (R_assign rfl) rfl (J_done ?_))
   refine S_ret (E_done1 rfl rfl E ?_)
   exact Own.fin ho1 (Nat.le_refl _) (by have := E.size; omega) (by rw [del_end hI (by omega)])

set_option maxHeartbeats 4000000 in
set_option maxRecDepth 20000 in
theorem c_InsertCell (vxs : Value) (lo hi : Nat) (xs : List Cell) (i : Nat) (bqy : Nat) (y : Cell) (w : World) (hxs : Own w lo hi 4 vxs (List.flatMap (Enc.enc (α := Cell)) xs)) (hy : Blk w bqy (Enc.enc y)) (hlo : lo ≤ w.heap.size) (hhi : hi ≤ w.heap.size) (hil : i ≤ xs.length) (hyb : hi ≤ bqy) (hbd : xs.length ≤ 4194304) : CtR Try.prog 89 [vxs, .int .i64 ((i : Nat) : Int), .slice (some ⟨bqy, 0, none⟩) 1 1] w lo hi (fun v w' => Own w' lo w'.heap.size 4 v (List.flatMap (Enc.enc (α := Cell)) (insM xs i y))) := by
 have hyl := hy.lt
 refine ctR_of Try.func89 rfl Try.ntmps89 rfl ?_
 refine S_sub [(0, vxs), (1, .int .i64 ((i : Nat) : Int)), (2, .slice (some ⟨bqy, 0, none⟩) 1 1)] ⟨rfl, rfl, rfl, trivial⟩ ?_
 have E : ModR w w lo hi := ModR.refl w lo hi
 refine S_seq ?_
 refine S_reg [true] rfl rfl ?_
 refine J_st (R_assign rfl) rfl (J_done ?_)
 refine S_seq ?_
 refine S_reg [true, true, true] rfl rfl ?_
 refine J_st (R_move rfl) rfl (J_st (R_move rfl) rfl ?_)
 have hk1 : i ≤ xs.length := by first | assumption | omega
 refine J_st (R_sliceFrom sl27 rfl rfl (Own.roomE (α := Cell) hxs) hk1) rfl (J_done ?_)
 refine S_seq ?_
 refine S_reg [true, true, true] rfl rfl ?_
 refine J_st (R_move rfl) rfl (J_st (R_len Try.underlying27 rfl ⟨_, _, rfl⟩) rfl (J_st (R_assign rfl) rfl (J_done ?_)))
 refine S_seq ?_
 refine S_seq ?_
 refine S_reg [true, true] rfl rfl ?_
 refine J_st (R_move rfl) rfl (J_st (R_eql rfl rfl) rfl (J_done ?_))
 refine S_condFe rfl (by decide) ?_
 refine S_skip ?_
 refine S_seq ?_
 refine S_reg [true, true, true] rfl rfl ?_
 refine J_st (R_move rfl) rfl (J_st (R_len Try.underlying27 rfl (Own.len (by decide) hxs)) rfl (J_st (R_assign rfl) rfl (J_done ?_)))
 refine S_seq ?_
 refine S_seq ?_
 refine S_reg [true, true, true] rfl rfl ?_
 refine J_st (R_move rfl) rfl (J_st (R_move rfl) rfl (J_st (R_eql rfl rfl) rfl (J_done ?_)))
 refine S_cond rfl (fun hc1 => ?_) (fun hc1 => ?_)
 ·have hc1n : i = xs.length := by first | (have h := of_decide_eq_true hc1; omega) | (have h := hc1; simp at h; omega)
  refine S_seq ?_
  refine S_reg [true, true, false, true] rfl rfl ?_
  refine J_st (R_move rfl) rfl (J_st (R_move rfl) rfl ?_)
  refine J_append sl27 rfl rfl hxs (Src.ofBlk hy (by rfl)) (Enc.one _) (by simp only [sum_flat, Enc.len]; simp only [show Enc.sz Cell = 4 from rfl]; omega) (by decide) (by omega) (by omega) rfl rfl (fun v1 w1 m1 ho1 => ?_)
  replace E := E.mod m1 (fun g hg => by have := Own.blk hxs g hg; omega); replace hy := hy.mod m1 (fun g hg => by have := Own.blk hxs g hg; omega)
  have z1 := m1.size
  refine J_st (R_assign rfl) rfl (J_done ?_)
  refine S_ret (E_done1 rfl rfl E ?_)
  exact Own.fin ho1 (Nat.le_refl _) (by omega) (ins_end (by have h := hc1; simp at h; omega))
 ·have hlt : i < xs.length := by have h := hc1; simp at h; omega
  obtain ⟨g, off, cap, cur, rfl, hg1, hg2, hB, hn, hcm, hrr, hcur⟩ := Own.conc (n := xs.length) hxs (sum_flat xs) (by decide) (by omega)
  have hc1n : ¬ i = xs.length := by first | (have h := of_decide_eq_false hc1; omega) | (have h := hc1; simp at h; omega)
  refine S_skip ?_
  refine S_seq ?_
  refine S_seq ?_
  refine S_reg [true, true, true, true, true, true] rfl rfl ?_
  refine J_st (R_move rfl) rfl (J_st (R_move rfl) rfl (J_st (R_add rfl rfl (add_nat (by unfold maxLen; omega))) rfl (J_st (R_move rfl) rfl (J_st (R_cap Try.underlying27 rfl) rfl (J_st (R_gtr rfl rfl) rfl (J_done ?_))))))
  refine S_cond rfl (fun hc2 => ?_) (fun hc2 => ?_)
  ·have hc2n : xs.length + 1 > cap := by first | (have h := of_decide_eq_true hc2; omega) | (have h := hc2; simp at h; omega)
   refine S_seq ?_
   refine S_reg [true, true, true, true, true, true, true, true, false, true] rfl rfl ?_
   refine J_st (R_move rfl) rfl (J_st (R_move rfl) rfl (J_st (R_sliceToC sl27 rfl rfl (by omega)) rfl (J_st (R_move rfl) rfl (J_st (R_move rfl) rfl (J_st (R_add rfl rfl (add_nat (by unfold maxLen; omega))) rfl (J_st (R_move rfl) rfl (J_st (R_sub rfl rfl (nat_sub (by omega) (by unfold maxLen; omega))) rfl ?_)))))))
   refine J_appendZ sl27 Try.underlying3 rfl rfl (Blk.seg hB (fun j u hj => hcur j u (take_pre hj))) (by rw [sum_flat, List.length_take, Nat.min_eq_left (by omega)]; rfl) (by omega) (by omega) (by omega) (by decide) rfl (fun b2 G rest wZ eZ sZ h2 hG hGm hrl => ?_)
   have g_b2 : w.heap.size ≤ b2 := by have := E.size; omega
   have y_b2 := h2.lt
   replace E := E.ext eZ; replace hy := hy.ext eZ; replace hB := hB.ext eZ
   have z2 := eZ.size
   have hLA : (List.flatMap (Enc.enc (α := Cell)) (xs.take i)).length = i * 4 := by rw [sum_flat, List.length_take, Nat.min_eq_left (by omega)]; rfl
   refine J_st (R_assign rfl) rfl (J_done ?_)
   refine S_seq ?_
   refine S_reg [true, true, true, true, false] rfl rfl ?_
   refine J_st (R_move rfl) rfl (J_st (R_move rfl) rfl (J_st (R_sliceFromC sl27 rfl rfl (by omega) (by omega) (by omega)) rfl (J_st (R_move rfl) rfl ?_)))
   refine J_copy 1 sl27 rfl rfl (Nat.min_eq_left (by omega)) h2 (Blk.at hy) (by rfl) (Enc.one y) (by rw [Enc.len, List.length_append, hLA, hrl]; simp only [show Enc.sz Cell = 4 from rfl]; omega) rfl (fun w2 m2 h2' => ?_)
   replace h2 := h2'
   replace E := E.mod m2 (fun g hg => by cases hg; omega); replace hy := hy.mod m2 (fun g hg => by cases hg; omega); replace hB := hB.mod m2 (fun g hg => by cases hg; omega)
   have z3 := m2.size
   refine J_done ?_
   refine S_seq ?_
   refine S_regD mixed [(0, true), (1, true), (2, true), (3, true), (4, true), (5, true), (6, true), (7, true), (8, false)] (by decide +kernel) rfl (fun w3 e1 => ?_)
   replace E := E.ext e1; replace hy := hy.ext e1; replace hB := hB.ext e1; replace h2 := h2.ext e1
   have z4 := e1.size
   refine J_st (R_move rfl) rfl (J_st (R_move rfl) rfl (J_st (R_move rfl) rfl (J_st (R_add rfl rfl (add_nat (by unfold maxLen; omega))) rfl (J_st (R_sliceFromC sl27 rfl rfl (by omega) (by omega) (by omega)) rfl (J_st (R_move rfl) rfl (J_st (R_move rfl) rfl (J_st (R_sliceFromC sl27 rfl rfl (by omega) (by omega) (by omega)) rfl ?_)))))))
   refine J_copy (xs.length - i) sl27 rfl rfl (by show min _ _ = _; omega) h2 (Blk.seg hB (fun j u hj => by rw [Nat.add_assoc]; exact hcur _ u (drop_pre hj))) (by rw [sum_flat, List.length_drop]; rfl) (flat_one _) (by rw [spl_length, sum_flat, List.length_drop, List.length_append, hLA, hrl]; simp only [show Enc.sz Cell = 4 from rfl]; omega) rfl (fun w4 m3 h2' => ?_)
   replace h2 := h2'
   replace E := E.mod m3 (fun g hg => by cases hg; omega); replace hy := hy.mod m3 (fun g hg => by cases hg; omega); replace hB := hB.mod m3 (fun g hg => by cases hg; omega)
   have z5 := m3.size
   refine J_done ?_
   refine S_seq ?_
   refine S_reg [true, true] rfl rfl ?_
   refine J_st (R_move rfl) rfl (J_st (R_assign rfl) rfl (J_done ?_))
   refine S_ret (E_done1 rfl rfl E ?_)
   have hLC : (List.flatMap (Enc.enc (α := Cell)) (xs.drop i)).length = (xs.length - i) * 4 := by rw [sum_flat, List.length_drop]; rfl
   have hLB : (Enc.enc y).length = 4 := rfl
   exact Own.of h2 (by omega) h2.lt (by omega) hGm (by rw [spl_length, spl_length, List.length_append, hLA, hrl]; omega) (by rw [insM_flat]; simp only [List.length_append, hLA, hLB, hLC]; omega) (by rw [insM_flat]; exact ins_rowE (by omega) (by omega) (fun j u hj => by rw [Nat.zero_add, List.getElem?_append_left (List.getElem?_eq_some_iff.1 hj).1]; exact hj) (by rw [List.length_append, hLA, hLB, hLC, hrl]; omega))
  ·have hc2n : ¬ xs.length + 1 > cap := by first | (have h := of_decide_eq_false hc2; omega) | (have h := hc2; simp at h; omega)
   refine S_skip ?_
   refine S_seq ?_
   refine S_reg [true, true, true, true, true, true] rfl rfl ?_
   refine J_st (R_move rfl) rfl (J_st (R_move rfl) rfl (J_st (R_move rfl) rfl (J_st (R_add rfl rfl (add_nat (by unfold maxLen; omega))) rfl (J_st (R_sliceToC sl27 rfl rfl (by omega)) rfl (J_st (R_assign rfl) rfl (J_done ?_))))))
   refine S_seq ?_
   refine S_seq ?_
   refine S_reg [true, true, true, true, true, true, false, true] rfl rfl ?_
   refine J_st (R_move rfl) rfl (J_st (R_move rfl) rfl (J_st (R_move rfl) rfl (J_st (R_move rfl) rfl (J_st (R_add rfl rfl (add_nat (by unfold maxLen; omega))) rfl (J_st (R_sliceFromC sl27 rfl rfl (by omega) (by omega) (by omega)) rfl ?_)))))
   have hov : (callFunc 94 ([.slice (some ⟨bqy, 0, none⟩) 1 1, .slice (some ⟨g, off + (i + 1) * 4, none⟩) ((xs.length + 1) - (i + 1)) (cap - (i + 1))]).toArray).run Try.prog w = .ok (.value (.bool false)) w := by rw [run_callFunc_extern Try.func94 (by kernel_rfl) (by kernel_rfl) (by kernel_rfl) (e := Extern.SlicesOverlaps.overlaps #[27, 27] #[4]) (by kernel_rfl)]; show ((Extern.SlicesOverlaps.overlaps #[27, 27] #[4] #[.slice (some ⟨bqy, 0, none⟩) 1 1, .slice (some ⟨g, off + (i + 1) * 4, none⟩) ((xs.length + 1) - (i + 1)) (cap - (i + 1))]).run Try.prog w).andThen _ = _; rw [run_ov sl27 st56.size hy hB (by omega) (by omega)]; rfl
   refine J_extern (vs := [.slice (some ⟨bqy, 0, none⟩) 1 1, .slice (some ⟨g, off + (i + 1) * 4, none⟩) ((xs.length + 1) - (i + 1)) (cap - (i + 1))]) rfl hov rfl ?_
   refine J_st (R_not rfl) rfl (J_done ?_)
   refine S_condTe rfl (by first | (simp; done) | (simp only [nat_nlt] <;> simp) | (simp only [mkL_length, nat_nlt] <;> simp) | (simp only [mkL_length] <;> simp)) ?_
   refine S_seq ?_
   refine S_regD mixed [(0, true), (1, true), (2, true), (3, true), (4, true), (5, true), (6, true), (7, true), (8, false)] (by decide +kernel) rfl (fun w5 e2 => ?_)
   replace E := E.ext e2; replace hy := hy.ext e2; replace hB := hB.ext e2
   have z6 := e2.size
   refine J_st (R_move rfl) rfl (J_st (R_move rfl) rfl (J_st (R_move rfl) rfl (J_st (R_add rfl rfl (add_nat (by unfold maxLen; omega))) rfl (J_st (R_sliceFromC sl27 rfl rfl (by omega) (by omega) (by omega)) rfl (J_st (R_move rfl) rfl (J_st (R_move rfl) rfl (J_st (R_sliceFromC sl27 rfl rfl (by omega) (by omega) (by omega)) rfl ?_)))))))
   refine J_copy (xs.length - i) sl27 rfl rfl (by show min _ _ = _; omega) hB (Blk.seg hB (fun j u hj => by rw [Nat.add_assoc]; exact hcur _ u (drop_pre hj))) (by rw [sum_flat, List.length_drop]; rfl) (flat_one _) (by rw [sum_flat, List.length_drop]; simp only [show Enc.sz Cell = 4 from rfl]; omega) rfl (fun w6 m4 hB' => ?_)
   replace hB := hB'
   replace E := E.mod m4 (fun g hg => by cases hg; omega); replace hy := hy.mod m4 (fun g hg => by cases hg; omega)
   have z7 := m4.size
   refine J_done ?_
   refine S_seq ?_
   refine S_reg [true, true, true, true, false] rfl rfl ?_
   refine J_st (R_move rfl) rfl (J_st (R_move rfl) rfl (J_st (R_sliceFromC sl27 rfl rfl (by omega) (by omega) (by omega)) rfl (J_st (R_move rfl) rfl ?_)))
   refine J_copy 1 sl27 rfl rfl (Nat.min_eq_left (by omega)) hB (Blk.at hy) (by rfl) (Enc.one y) (by rw [spl_length, Enc.len]; simp only [show Enc.sz Cell = 4 from rfl]; omega) rfl (fun w7 m5 hB' => ?_)
   replace hB := hB'
   replace E := E.mod m5 (fun g hg => by cases hg; omega); replace hy := hy.mod m5 (fun g hg => by cases hg; omega)
   have z8 := m5.size
   refine J_done ?_
   refine S_seq ?_
   refine S_reg [true, true] rfl rfl ?_
   refine J_st (R_move rfl) rfl (J_st (R_assign rfl) rfl (J_done ?_))
   refine S_ret (E_done1 rfl rfl E ?_)
   have hLA : (List.flatMap (Enc.enc (α := Cell)) (xs.take i)).length = i * 4 := by rw [sum_flat, List.length_take, Nat.min_eq_left (by omega)]; rfl
   have hLC : (List.flatMap (Enc.enc (α := Cell)) (xs.drop i)).length = (xs.length - i) * 4 := by rw [sum_flat, List.length_drop]; rfl
   have hLB : (Enc.enc y).length = 4 := rfl
   exact Own.of hB hg1 (by omega) (by omega) hcm (by rw [spl_length, spl_length]; exact hrr) (by rw [insM_flat]; simp only [List.length_append, hLA, hLB, hLC]; omega) (by rw [insM_flat]; exact ins_row2E (by omega) (by omega) (fun j u hj => hcur j u (take_pre hj)) (by rw [hLA, hLB, hLC]; omega))

set_option maxRecDepth 20000 in
theorem c_PutCell (vxs : Value) (xs : List Cell) (x : Cell) (w : World) (hxs : RdS w vxs xs) (hb : xs.length ≤ 4194304) : Ct Try.prog 75 [vxs, .agg (Enc.enc x).toArray] w (fun v w' => Own w' w.heap.size w'.heap.size 4 v (List.flatMap (Enc.enc (α := Cell)) (putM xs x))) := by
 refine ct_of Try.func75 rfl Try.ntmps75 rfl ?_
 refine S_sub [(0, vxs), (1, .agg (Enc.enc x).toArray)] ⟨rfl, rfl, trivial⟩ ?_
 have E : Ext w w := Ext.refl w
 refine S_seq ?_
 refine S_reg [false, true] rfl rfl ?_
 refine J_box rfl rfl (fun b1 w1 e1 s1 h1 => ?_)
 have g_b1 : w.heap.size ≤ b1 := by have := E.size; omega
 have y_b1 := h1.lt
 replace E := E.trans e1
 have z1 := e1.size
 refine J_st (R_assign rfl) rfl (J_done ?_)
 refine S_seq ?_
 refine S_reg [true, false, true] rfl rfl ?_
 refine J_st (R_move rfl) rfl ?_
 refine J_call Try.call44 rfl (c_copyCells vxs xs _ (hxs.ext E) (by first | omega | (simp only [mkL_length]; omega) | (rw [mkL_length]; done) | (simp only [mkL_length]; done))) rfl (fun v1 w2 e2 ho1 => ?_)
 have g_ho1 : w.heap.size ≤ w1.heap.size := E.size
 replace E := E.trans e2; replace h1 := h1.ext e2
 have z2 := e2.size
 refine J_st (R_assign rfl) rfl (J_done ?_)
 refine S_seq ?_
 refine S_seq ?_
 refine S_reg [true, true, false] rfl rfl ?_
 refine J_st (R_move rfl) rfl (J_st (R_loadS st56 rfl h1.at rfl) rfl ?_)
 refine J_call Try.call76 rfl (c_HasCell vxs xs x _ (hxs.ext E)) rfl (fun _ w3 e3 hv => ?_)
 subst hv
 replace E := E.trans e3; replace h1 := h1.ext e3; replace ho1 := ho1.ext e3
 have z3 := e3.size
 refine J_done ?_
 refine S_cond rfl (fun hc1 => ?_) (fun hc1 => ?_)
 ·refine S_seq ?_
  refine S_reg [true, true] rfl rfl ?_
  refine J_st (R_move rfl) rfl (J_st (R_assign rfl) rfl (J_done ?_))
  refine S_ret (E_done1 rfl rfl E ?_)
  exact Own.fin ho1 (by omega) (by omega) (by simp only [putM_yes hc1, List.nil_append])
 ·refine S_skip ?_
  refine S_seq ?_
  refine S_reg [true] rfl rfl ?_
  refine J_st (R_assign rfl) rfl (J_done ?_)
  refine S_seq ?_
  refine S_block ?_
  refine S_loop (fun (k : Nat) => [(0, vxs), (3, .pointer (some ⟨b1, 0, none⟩)), (4, .slice none 0 0), (5, v1), (6, .int .i64 ((k : Nat) : Int))]) (fun (k : Nat) w' => Ext w w' ∧ w3.heap.size ≤ w'.heap.size ∧ Blk w' b1 (Enc.enc x) ∧ Own w' w1.heap.size w2.heap.size 4 v1 (List.flatMap (Enc.enc (α := Cell)) xs) ∧ k ≤ xs.length ∧ (xs.take k).all (putLt x) = true) (fun (k : Nat) => xs.length - k) 0 ⟨rfl, rfl, rfl, rfl, rfl, trivial⟩ ⟨E, Nat.le_refl _, h1, ho1, Nat.zero_le _, rfl⟩ ?_
  clear E h1 ho1
  rintro k w4 ⟨E, z4, h1, ho1, hk, hI⟩
  refine S_seq ?_
  refine S_seq ?_
  refine S_regD mixed [(0, true), (1, true), (2, true), (3, true), (4, true), (5, true), (6, true), (7, true), (8, true), (9, true), (10, false), (11, true), (12, true)] (by decide +kernel) rfl (fun w5 e4 => ?_)
  replace E := E.trans e4; replace h1 := h1.ext e4; replace ho1 := ho1.ext e4
  have z5 := e4.size
  refine J_st (R_move rfl) rfl (J_st (R_move rfl) rfl (J_st (R_len Try.underlying27 rfl (hxs.ext E).len) rfl (J_st (R_lss rfl rfl) rfl (J_st (R_move rfl) rfl ?_))))
  refine J_cut 8 [(0, vxs), (3, .pointer (some ⟨b1, 0, none⟩)), (4, .slice none 0 0), (5, v1), (6, .int .i64 ((k : Nat) : Int)), (25, .bool ((decide (((k : Nat) : Int) < ((xs.length : Nat) : Int))) && (decide ((cellOrd (List.getD xs k default) x) < 0))))] (fun w' => Ext w w' ∧ w5.heap.size ≤ w'.heap.size ∧ Blk w' b1 (Enc.enc x) ∧ Own w' w1.heap.size w2.heap.size 4 v1 (List.flatMap (Enc.enc (α := Cell)) xs)) ?_ ?_
  ·refine J_if (gd := 17) rfl rfl (fun hg1 => ?_) (fun hg1 => ?_)
   ·have hg1n : k < xs.length := by first | (have h := of_decide_eq_true hg1; omega) | (have h := hg1; simp at h; omega)
    refine J_gd rfl rfl (R_move rfl) rfl (J_gd rfl rfl (R_move rfl) rfl (J_gd rfl rfl (R_index (i := k) sl27 rfl rfl (hxs.ext E) (by first | assumption | omega | (simp only [List.length_set]; first | assumption | omega) | (simp only [List.getElem_set_self, List.length_set]; first | assumption | omega) | (simp only [setW, setLk, List.length_set]; first | assumption | omega) | (simp; done))) rfl (J_gd rfl rfl (R_loadS st56 rfl (RdS.getD (hxs.ext E) (i := k) (by first | assumption | omega | (simp only [List.length_set]; first | assumption | omega) | (simp only [List.getElem_set_self, List.length_set]; first | assumption | omega) | (simp only [setW, setLk, List.length_set]; first | assumption | omega) | (simp; done))) rfl) rfl (J_gd rfl rfl (R_loadS st56 rfl h1.at rfl) rfl ?_))))
    refine J_ung rfl rfl ?_
    refine J_call Try.call88 rfl (c_CellOrder (List.getD xs k default) x _ ) rfl (fun _ w7 e5 hv => ?_)
    subst hv
    replace E := E.trans e5; replace h1 := h1.ext e5; replace ho1 := ho1.ext e5
    have z6 := e5.size
    refine J_gd rfl rfl (R_lss rfl rfl) rfl (J_st (R_pickT rfl rfl) rfl (J_cutEnd ⟨rfl, rfl, rfl, rfl, rfl, congrArg (fun b => some (Value.bool b)) (show (decide ((cellOrd (List.getD xs k default) x) < 0)) = ((decide (((k : Nat) : Int) < ((xs.length : Nat) : Int))) && (decide ((cellOrd (List.getD xs k default) x) < 0))) by first | (rw [hg1] <;> rfl) | (simp [hg1]; done) | (simp only [nat_nlt] <;> simp)), trivial⟩ ⟨E, (by omega), h1, ho1⟩))
   ·have hg1n : ¬ k < xs.length := by first | (have h := of_decide_eq_false hg1; omega) | (have h := hg1; simp at h; omega)
    refine J_gdno rfl rfl rfl rfl (J_gdno rfl rfl rfl rfl (J_gdno rfl rfl rfl rfl (J_gdno rfl rfl rfl rfl (J_gdno rfl rfl rfl rfl ?_))))
    refine J_ungno rfl rfl rfl rfl ?_
    refine J_gdno rfl rfl rfl rfl (J_st (R_pickF rfl rfl) rfl (J_cutEnd ⟨rfl, rfl, rfl, rfl, rfl, congrArg (fun b => some (Value.bool b)) (show false = ((decide (((k : Nat) : Int) < ((xs.length : Nat) : Int))) && (decide ((cellOrd (List.getD xs k default) x) < 0))) by first | (rw [hg1] <;> rfl) | (simp [hg1]; done) | (simp only [nat_nlt] <;> simp)), trivial⟩ ⟨E, (by omega), h1, ho1⟩))
  clear E h1 ho1
  rintro w6 ⟨E, z7, h1, ho1⟩
  refine J_done ?_
  refine S_cond rfl (fun hc2 => ?_) (fun hc2 => ?_)
  ·have hlt := put_lt hc2
   refine S_skip ?_
   refine S_block ?_
   refine S_reg [true, true, true] rfl rfl ?_
   refine J_st (R_move rfl) rfl (J_st (R_add rfl rfl (add_nat (by unfold maxLen; omega))) rfl (J_st (R_assign rfl) rfl (J_done ?_)))
   refine S_nil (E_inB ?_)
   refine S_nil (E_again (k + 1) (by omega) ⟨rfl, rfl, rfl, rfl, rfl, trivial⟩ ⟨E, (by omega), h1, ho1, (by omega), (put_step hI hc2)⟩)
  ·refine S_exit (E_lp_exit (E_inB_exit ?_))
   refine S_seq ?_
   refine S_reg [true, true, true, false, false, true] rfl rfl ?_
   refine J_st (R_move rfl) rfl (J_st (R_move rfl) rfl (J_st (R_loadS st56 rfl h1.at rfl) rfl ?_))
   refine J_buildSlice (vs := [.agg (Enc.enc x).toArray]) (css := [[.int .i64 x.op, .int .i64 x.epoch, .int .i64 x.key, .int .i64 x.val]]) sl27 rfl rfl ⟨⟨rfl, rfl⟩, trivial⟩ rfl rfl (fun b2 w8 e6 s2 h2 => ?_)
   replace h2 : Blk w8 b2 [.int .i64 x.op, .int .i64 x.epoch, .int .i64 x.key, .int .i64 x.val] := h2
   have g_b2 : w.heap.size ≤ b2 := by have := E.size; omega
   have y_b2 := h2.lt
   replace E := E.trans e6; replace h1 := h1.ext e6; replace ho1 := ho1.ext e6
   have z8 := e6.size
   refine J_callR Try.call89 rfl (by rfl) (c_InsertCell v1 w1.heap.size w2.heap.size xs k b2 x _ ho1 h2 (by omega) (by omega) (by omega) (by omega) (by omega)) rfl (fun v2 w9 e7 ho2 => ?_)
   replace E := E.stepR e7 (by omega); replace h1 := h1.modR e7 (by omega); replace h2 := h2.modR e7 (by omega)
   have z9 := e7.size
   refine J_st (R_assign rfl) rfl (J_done ?_)
   refine S_ret (E_done1 rfl rfl E ?_)
   exact Own.fin ho2 (by omega) (by omega) (by rw [putM_no hc1 hI hk hc2])

set_option maxHeartbeats 4000000 in
set_option maxRecDepth 20000 in
theorem s_PutCell (vxs : Value) (xs : List Cell) (x : Cell) (w : World) (hxs : RdS w vxs xs) (hb : xs.length ≤ 4194304) : Ct Try.prog 79 [vxs, .agg (Enc.enc x).toArray] w (fun v w' => Own w' w.heap.size w'.heap.size 4 v (List.flatMap (Enc.enc (α := Cell)) (putM xs x))) := by
 refine ct_of Try.func79 rfl Try.ntmps79 rfl ?_
 refine S_sub [(0, vxs), (1, .agg (Enc.enc x).toArray)] ⟨rfl, rfl, trivial⟩ ?_
 have E : Ext w w := Ext.refl w
 refine S_seq ?_
 refine S_reg [false, true] rfl rfl ?_
 refine J_box rfl rfl (fun b1 w1 e1 s1 h1 => ?_)
 have g_b1 : w.heap.size ≤ b1 := by have := E.size; omega
 have y_b1 := h1.lt
 replace E := E.trans e1
 have z1 := e1.size
 refine J_st (R_assign rfl) rfl (J_done ?_)
 refine S_seq ?_
 refine S_seq ?_
 refine S_reg [true, true, false] rfl rfl ?_
 refine J_st (R_move rfl) rfl (J_st (R_loadS st56 rfl h1.at rfl) rfl ?_)
 refine J_call Try.call78 rfl (s_HasCell vxs xs x _ (hxs.ext E)) rfl (fun _ w2 e2 hv => ?_)
 subst hv
 replace E := E.trans e2; replace h1 := h1.ext e2
 have z2 := e2.size
 refine J_done ?_
 refine S_cond rfl (fun hc1 => ?_) (fun hc1 => ?_)
 ·refine S_seq ?_
  refine S_reg [false, true, false, true] rfl rfl ?_
  refine J_buildSlice (vs := []) (css := []) sl27 rfl rfl trivial rfl rfl (fun b2 w3 e3 s2 h2 => ?_)
  replace h2 : Blk w3 b2 [] := h2
  have g_b2 : w.heap.size ≤ b2 := by have := E.size; omega
  have y_b2 := h2.lt
  replace E := E.trans e3; replace h1 := h1.ext e3
  have z3 := e3.size
  refine J_st (R_move rfl) rfl ?_
  refine J_append sl27 rfl rfl (Own.ofBlk (lo := b2) (hi := b2 + 1) (sz := 4) h2 (Nat.le_refl _) (Nat.lt_succ_self _) (by simp) (by simp [maxLen])) (RdS.src (hxs.ext E)) (flat_one _) (by simp only [sum_flat, List.length_nil, List.length_append, List.length_take, List.length_drop, List.length_cons]; simp only [Enc.sz]; omega) (by decide) (by omega) (by omega) rfl rfl (fun v1 w4 m1 ho1 => ?_)
  replace E := E.step m1 (fun g hg => by have := Own.blk (Own.ofBlk (lo := b2) (hi := b2 + 1) (sz := 4) h2 (Nat.le_refl _) (Nat.lt_succ_self _) (by simp) (by simp [maxLen])) g hg; omega); replace h1 := h1.mod m1 (fun g hg => by have := Own.blk (Own.ofBlk (lo := b2) (hi := b2 + 1) (sz := 4) h2 (Nat.le_refl _) (Nat.lt_succ_self _) (by simp) (by simp [maxLen])) g hg; omega)
  have z4 := m1.size
  refine J_st (R_assign rfl) rfl (J_done ?_)
  refine S_ret (E_done1 rfl rfl E ?_)
  exact Own.fin ho1 (by omega) (by omega) (by simp only [putM_yes hc1, List.nil_append])
 ·refine S_skip ?_
  refine S_seq ?_
  refine S_reg [true] rfl rfl ?_
  refine J_st (R_assign rfl) rfl (J_done ?_)
  refine S_seq ?_
  refine S_block ?_
  refine S_loop (fun (k : Nat) => [(0, vxs), (3, .pointer (some ⟨b1, 0, none⟩)), (4, .slice none 0 0), (5, .int .i64 ((k : Nat) : Int))]) (fun (k : Nat) w' => Ext w w' ∧ w2.heap.size ≤ w'.heap.size ∧ Blk w' b1 (Enc.enc x) ∧ k ≤ xs.length ∧ (xs.take k).all (putLt x) = true) (fun (k : Nat) => xs.length - k) 0 ⟨rfl, rfl, rfl, rfl, trivial⟩ ⟨E, Nat.le_refl _, h1, Nat.zero_le _, rfl⟩ ?_
  clear E h1
  rintro k w5 ⟨E, z5, h1, hk, hI⟩
  refine S_seq ?_
  refine S_seq ?_
  refine S_regD mixed [(0, true), (1, true), (2, true), (3, true), (4, true), (5, true), (6, true), (7, true), (8, true), (9, true), (10, false), (11, true), (12, true)] (by decide +kernel) rfl (fun w6 e4 => ?_)
  replace E := E.trans e4; replace h1 := h1.ext e4
  have z6 := e4.size
  refine J_st (R_move rfl) rfl (J_st (R_move rfl) rfl (J_st (R_len Try.underlying27 rfl (hxs.ext E).len) rfl (J_st (R_lss rfl rfl) rfl (J_st (R_move rfl) rfl ?_))))
  refine J_cut 8 [(0, vxs), (3, .pointer (some ⟨b1, 0, none⟩)), (4, .slice none 0 0), (5, .int .i64 ((k : Nat) : Int)), (25, .bool ((decide (((k : Nat) : Int) < ((xs.length : Nat) : Int))) && (decide ((cellOrd (List.getD xs k default) x) < 0))))] (fun w' => Ext w w' ∧ w6.heap.size ≤ w'.heap.size ∧ Blk w' b1 (Enc.enc x)) ?_ ?_
  ·refine J_if (gd := 17) rfl rfl (fun hg1 => ?_) (fun hg1 => ?_)
   ·have hg1n : k < xs.length := by first | (have h := of_decide_eq_true hg1; omega) | (have h := hg1; simp at h; omega)
    refine J_gd rfl rfl (R_move rfl) rfl (J_gd rfl rfl (R_move rfl) rfl (J_gd rfl rfl (R_index (i := k) sl27 rfl rfl (hxs.ext E) (by first | assumption | omega | (simp only [List.length_set]; first | assumption | omega) | (simp only [List.getElem_set_self, List.length_set]; first | assumption | omega) | (simp only [setW, setLk, List.length_set]; first | assumption | omega) | (simp; done))) rfl (J_gd rfl rfl (R_loadS st56 rfl (RdS.getD (hxs.ext E) (i := k) (by first | assumption | omega | (simp only [List.length_set]; first | assumption | omega) | (simp only [List.getElem_set_self, List.length_set]; first | assumption | omega) | (simp only [setW, setLk, List.length_set]; first | assumption | omega) | (simp; done))) rfl) rfl (J_gd rfl rfl (R_loadS st56 rfl h1.at rfl) rfl ?_))))
    refine J_ung rfl rfl ?_
    refine J_call Try.call91 rfl (s_CellOrder (List.getD xs k default) x _ ) rfl (fun _ w8 e5 hv => ?_)
    subst hv
    replace E := E.trans e5; replace h1 := h1.ext e5
    have z7 := e5.size
    refine J_gd rfl rfl (R_lss rfl rfl) rfl (J_st (R_pickT rfl rfl) rfl (J_cutEnd ⟨rfl, rfl, rfl, rfl, congrArg (fun b => some (Value.bool b)) (show (decide ((cellOrd (List.getD xs k default) x) < 0)) = ((decide (((k : Nat) : Int) < ((xs.length : Nat) : Int))) && (decide ((cellOrd (List.getD xs k default) x) < 0))) by first | (rw [hg1] <;> rfl) | (simp [hg1]; done) | (simp only [nat_nlt] <;> simp)), trivial⟩ ⟨E, (by omega), h1⟩))
   ·have hg1n : ¬ k < xs.length := by first | (have h := of_decide_eq_false hg1; omega) | (have h := hg1; simp at h; omega)
    refine J_gdno rfl rfl rfl rfl (J_gdno rfl rfl rfl rfl (J_gdno rfl rfl rfl rfl (J_gdno rfl rfl rfl rfl (J_gdno rfl rfl rfl rfl ?_))))
    refine J_ungno rfl rfl rfl rfl ?_
    refine J_gdno rfl rfl rfl rfl (J_st (R_pickF rfl rfl) rfl (J_cutEnd ⟨rfl, rfl, rfl, rfl, congrArg (fun b => some (Value.bool b)) (show false = ((decide (((k : Nat) : Int) < ((xs.length : Nat) : Int))) && (decide ((cellOrd (List.getD xs k default) x) < 0))) by first | (rw [hg1] <;> rfl) | (simp [hg1]; done) | (simp only [nat_nlt] <;> simp)), trivial⟩ ⟨E, (by omega), h1⟩))
  clear E h1
  rintro w7 ⟨E, z8, h1⟩
  refine J_done ?_
  refine S_cond rfl (fun hc2 => ?_) (fun hc2 => ?_)
  ·have hlt := put_lt hc2
   refine S_skip ?_
   refine S_block ?_
   refine S_reg [true, true, true] rfl rfl ?_
   refine J_st (R_move rfl) rfl (J_st (R_add rfl rfl (add_nat (by unfold maxLen; omega))) rfl (J_st (R_assign rfl) rfl (J_done ?_)))
   refine S_nil (E_inB ?_)
   refine S_nil (E_again (k + 1) (by omega) ⟨rfl, rfl, rfl, rfl, trivial⟩ ⟨E, (by omega), h1, (by omega), (put_step hI hc2)⟩)
  ·refine S_exit (E_lp_exit (E_inB_exit ?_))
   refine S_seq ?_
   have hk1 : k ≤ xs.length := by first | assumption | omega
   have hs1 : RdS (α := Cell) w (slTo vxs k) (List.take k xs) := RdL.slTo hxs hk1
   refine S_regF mixed [7] 6 34 [33] [(1, true), (2, true), (3, true), (5, true)] [(0, false), (4, false)] [(7, false), (8, true)] (fun b => .slice (some ⟨b, 0, none⟩) 1 1) (z := [.int .i64 x.op, .int .i64 x.epoch, .int .i64 x.key, .int .i64 x.val]) (by decide +kernel) rfl rfl rfl rfl rfl rfl rfl [(0, vxs), (3, .pointer (some ⟨b1, 0, none⟩)), (4, .slice none 0 0), (5, .int .i64 ((k : Nat) : Int)), (25, .bool ((decide (((k : Nat) : Int) < ((xs.length : Nat) : Int))) && (decide ((cellOrd (List.getD xs k default) x) < 0)))), (29, vxs), (30, .int .i64 ((k : Nat) : Int)), (31, slTo vxs k), (33, .agg (Enc.enc x).toArray)] [(33, .agg (Enc.enc x).toArray)] rfl ⟨rfl, trivial⟩ (fun w' => Ext w w' ∧ w7.heap.size ≤ w'.heap.size ∧ Blk w' b1 (Enc.enc x)) (float_lit1 sl27 rfl rfl rfl rfl) (fun w9 e6 => ?_) (fun w9 hphi_w9 => ?_)
   ·replace E := E.trans e6; replace h1 := h1.ext e6
    have z9 := e6.size
    refine J_st (R_move rfl) rfl (J_st (R_move rfl) rfl ?_)
    refine J_st (R_sliceTo sl27 rfl rfl (RdL.room (hxs.ext E)) hk1) rfl (J_st (R_loadS st56 rfl h1.at rfl) rfl (J_cutEnd ⟨rfl, rfl, rfl, rfl, rfl, rfl, rfl, rfl, rfl, trivial⟩ ⟨E, (by omega), h1⟩))
   clear E h1
   obtain ⟨E, z10, h1⟩ := hphi_w9
   refine JI_un rfl (fun w10 e7 => ?_) rfl
   replace E := E.trans e7; replace h1 := h1.ext e7
   have z11 := e7.size
   refine J_buildSlice (vs := []) (css := []) sl27 rfl rfl trivial rfl rfl (fun b3 w11 e8 s3 h3 => ?_)
   replace h3 : Blk w11 b3 [] := h3
   have g_b3 : w.heap.size ≤ b3 := by have := E.size; omega
   have y_b3 := h3.lt
   replace E := E.trans e8; replace h1 := h1.ext e8
   have z12 := e8.size
   refine JI_go2 ?_
   refine JI_un rfl (fun w12 e9 => ?_) rfl
   replace E := E.trans e9; replace h1 := h1.ext e9; replace h3 := h3.ext e9
   have z13 := e9.size
   refine J_appendD sl27 rfl rfl (Own.ofBlk (lo := b3) (hi := b3 + 1) (sz := 4) h3 (Nat.le_refl _) (Nat.lt_succ_self _) (by simp) (by simp [maxLen])) ⟨_, _, rfl⟩ (RdS.src (hs1.ext E)) (flat_one _) (by simp only [sum_flat, List.length_nil, List.length_append, List.length_take, List.length_drop, List.length_cons]; simp only [Enc.sz]; omega) (by decide) (by omega) (by omega) rfl (fun v2 w13 e10 ho2 hb_ho2 => ?_)
   replace E := E.trans e10; replace h1 := h1.ext e10
   have z14 := e10.size
   have g_ho2 : w.heap.size ≤ b3 := by have := E.size; omega
   have hn1 : ∀ g, Value.ownBlock v2 = some g → g = b3 ∨ w12.heap.size ≤ g := fun g hg => (hb_ho2 g hg).elim (fun h => .inl (by cases h; rfl)) (fun h => .inr h)
   replace ho2 : Own w13 b3 w13.heap.size 4 v2 (List.flatMap (Enc.enc (α := Cell)) (List.take k xs)) := ho2
   refine JI_go2 ?_
   refine JI_end rfl (fun b4 w14 e11 g1 y1 h4 hI1 => ?_)
   have hI1_0 : b4 < w10.heap.size ∨ w11.heap.size ≤ b4 := hI1 (_, _) (by simp)
   have hI1_1 : b4 < w12.heap.size ∨ w13.heap.size ≤ b4 := hI1 (_, _) (by simp)
   replace E := E.trans e11; replace h1 := h1.ext e11; replace ho2 := ho2.ext e11
   have z15 := e11.size
   have g_b4 : w.heap.size ≤ b4 := by have := E.size; omega
   have y_b4 := h4.lt
   refine J2_sub [(0, vxs), (3, .pointer (some ⟨b1, 0, none⟩)), (4, .slice none 0 0), (5, .int .i64 ((k : Nat) : Int)), (25, .bool ((decide (((k : Nat) : Int) < ((xs.length : Nat) : Int))) && (decide ((cellOrd (List.getD xs k default) x) < 0)))), (28, .slice (some ⟨b3, 0, none⟩) 0 0), (29, vxs), (30, .int .i64 ((k : Nat) : Int)), (31, slTo vxs k), (32, v2), (33, .agg (Enc.enc x).toArray), (34, .slice (some ⟨b4, 0, none⟩) 1 1)] ⟨rfl, rfl, rfl, rfl, rfl, rfl, rfl, rfl, rfl, rfl, rfl, rfl, trivial⟩ ?_
   refine J2_X rfl ?_
   refine J_appendB sl27 rfl rfl ho2 (Src.ofBlk h4 rfl) rfl (by simp only [sum_flat, List.length_nil, List.length_append, List.length_take, List.length_drop, List.length_cons]; simp only [Enc.sz]; omega) (by decide) (by omega) (by omega) rfl rfl (fun v3 w15 m2 ho3 hb1 => ?_)
   have hn2 : ∀ g, Value.ownBlock v3 = some g → g = b3 ∨ w12.heap.size ≤ g := fun g hg => (hb1 g hg).elim (fun h => hn1 g h) (fun h => by omega)
   replace E := E.step m2 (fun g hg => by have := Own.blk ho2 g hg; have := hn1 g hg; omega); replace h1 := h1.mod m2 (fun g hg => by have := Own.blk ho2 g hg; have := hn1 g hg; omega)
   have z16 := m2.size
   refine JX_go ?_
   refine J_st (R_assign rfl) rfl (J_done ?_)
   refine S_seq ?_
   refine S_reg [true, true, true, true, false, true] rfl rfl ?_
   refine J_st (R_move rfl) rfl (J_st (R_move rfl) rfl (J_st (R_move rfl) rfl ?_))
   have hk2 : k ≤ xs.length := by first | assumption | omega
   have hs2 : RdS (α := Cell) w (slFrom vxs k 4) (List.drop k xs) := RdL.slFrom hxs hk2
   refine J_st (R_sliceFrom sl27 rfl rfl (RdL.room (hxs.ext E)) hk2) rfl ?_
   refine J_appendB sl27 rfl rfl ho3 (RdS.src (hs2.ext E)) (flat_one _) (by simp only [sum_flat, List.length_nil, List.length_append, List.length_take, List.length_drop, List.length_cons]; simp only [Enc.sz]; omega) (by decide) (by omega) (by omega) rfl rfl (fun v4 w16 m3 ho4 hb2 => ?_)
   have hn3 : ∀ g, Value.ownBlock v4 = some g → g = b3 ∨ w12.heap.size ≤ g := fun g hg => (hb2 g hg).elim (fun h => hn2 g h) (fun h => by omega)
   replace E := E.step m3 (fun g hg => by have := Own.blk ho3 g hg; have := hn2 g hg; omega); replace h1 := h1.mod m3 (fun g hg => by have := Own.blk ho3 g hg; have := hn2 g hg; omega)
   have z17 := m3.size
   refine J_st (R_assign rfl) rfl (J_done ?_)
   refine S_ret (E_done1 rfl rfl E ?_)
   exact Own.fin ho4 (by omega) (by omega) (by rw [putM_no hc1 hI hk hc2, insM_flat]; rfl)

set_option maxRecDepth 20000 in
theorem c_better1 (y : Cell) (bx : Nat) (x : Cell) (w : World) (hx : At w bx 0 [.int .i64 x.op, .int .i64 x.epoch, .int .i64 x.key, .int .i64 x.val]) : Ct Try.prog 84 [.agg (Enc.enc y).toArray, .pointer (some ⟨bx, 0, none⟩)] w (fun v _ => v = .bool (slot x y)) := by
 refine ct_of Try.func84 rfl Try.ntmps84 rfl ?_
 refine S_sub [(0, .agg (Enc.enc y).toArray), (1, .pointer (some ⟨bx, 0, none⟩))] ⟨rfl, rfl, trivial⟩ ?_
 have E : Ext w w := Ext.refl w
 refine S_seq ?_
 refine S_reg [false, true] rfl rfl ?_
 refine J_box rfl rfl (fun b1 w1 e1 s1 h1 => ?_)
 have g_b1 : w.heap.size ≤ b1 := by have := E.size; omega
 have y_b1 := h1.lt
 replace E := E.trans e1
 have z1 := e1.size
 refine J_st (R_assign rfl) rfl (J_done ?_)
 refine S_seq ?_
 refine S_reg [true, true, false, true] rfl rfl ?_
 refine J_st (R_loadS st56 rfl (hx.ext E) rfl) rfl (J_st (R_loadS st56 rfl h1.at rfl) rfl ?_)
 refine J_call Try.call85 rfl (c_sameSlot x y _ ) rfl (fun _ w2 e2 hv => ?_)
 subst hv
 replace E := E.trans e2; replace h1 := h1.ext e2
 have z2 := e2.size
 refine J_st (R_assign rfl) rfl (J_done ?_)
 refine S_ret (E_done1 rfl rfl E ?_)
 rfl

set_option maxRecDepth 20000 in
theorem c_better (vxs : Value) (xs : List Cell) (x : Cell) (w : World) (hxs : RdS w vxs xs) (hb : xs.length ≤ 4194304) : Ct Try.prog 66 [vxs, .agg (Enc.enc x).toArray] w (fun v w' => ∃ u0, v = .tuple [u0, .bool ((betterM xs x).2)].toArray ∧ Own w' w.heap.size w'.heap.size 4 u0 (List.flatMap (Enc.enc (α := Cell)) ((betterM xs x).1))) := by
 refine ct_of Try.func66 rfl Try.ntmps66 rfl ?_
 refine S_sub [(0, vxs), (1, .agg (Enc.enc x).toArray)] ⟨rfl, rfl, trivial⟩ ?_
 have E : Ext w w := Ext.refl w
 refine S_seq ?_
 refine S_reg [false, true, true] rfl rfl ?_
 refine J_box rfl rfl (fun b1 w1 e1 s1 h1 => ?_)
 have g_b1 : w.heap.size ≤ b1 := by have := E.size; omega
 have y_b1 := h1.lt
 replace E := E.trans e1
 have z1 := e1.size
 refine J_st (R_assign rfl) rfl (J_st (R_assign rfl) rfl (J_done ?_))
 refine S_seq ?_
 refine S_seq ?_
 refine S_reg [true, true, true, true, true, true, true, false, true, true, true, true, true] rfl rfl ?_
 refine J_st (R_move rfl) rfl (J_st (R_fieldAddr0 fl56_0 rfl) rfl (J_st (R_load sc3 rfl (h1.one 0 rfl)) rfl (J_st (R_fieldAddr0 fl56_1 rfl) rfl (J_st (R_load sc3 rfl (h1.one 1 rfl)) rfl (J_st (R_fieldAddr0 fl56_2 rfl) rfl (J_st (R_load sc3 rfl (h1.one 2 rfl)) rfl ?_))))))
 refine J_call Try.call67 rfl (c_LeastOf vxs xs x.op x.epoch x.key _ (hxs.ext E)) rfl (fun _ w2 e2 hv => ?_)
 subst hv
 replace E := E.trans e2; replace h1 := h1.ext e2
 have z2 := e2.size
 refine J_st (R_move rfl) rfl (J_st (R_extract rfl rfl) rfl (J_st (R_extract rfl rfl) rfl (J_st (R_assign rfl) rfl (J_st (R_assign rfl) rfl (J_done ?_)))))
 refine S_seq ?_
 refine S_reg [true, true, true, true, true, true, true] rfl rfl ?_
 refine J_st (R_move rfl) rfl (J_st (R_move rfl) rfl ?_)
 refine J_cut 5 [(0, vxs), (1, .agg (Enc.enc x).toArray), (3, .pointer (some ⟨b1, 0, none⟩)), (4, .slice none 0 0), (5, .bool false), (6, .int .i64 ((leastM xs x.op x.epoch x.key).1)), (7, .bool ((leastM xs x.op x.epoch x.key).2)), (9, .tuple [.int .i64 ((leastM xs x.op x.epoch x.key).1), .bool ((leastM xs x.op x.epoch x.key).2)].toArray), (10, vxs), (11, .pointer (some ⟨b1, 0, none⟩)), (12, .int .i64 x.op), (13, .pointer (some ⟨b1, 1, none⟩)), (14, .int .i64 x.epoch), (15, .pointer (some ⟨b1, 2, none⟩)), (16, .int .i64 x.key), (17, .tuple [.int .i64 ((leastM xs x.op x.epoch x.key).1), .bool ((leastM xs x.op x.epoch x.key).2)].toArray), (18, .int .i64 ((leastM xs x.op x.epoch x.key).1)), (19, .bool ((leastM xs x.op x.epoch x.key).2)), (26, .bool (((leastM xs x.op x.epoch x.key).2) && (decide (((leastM xs x.op x.epoch x.key).1) ≤ x.val))))] (fun w' => w2 = w') ?_ ?_
 ·refine J_if (gd := 21) rfl rfl (fun hg1 => ?_) (fun hg1 => ?_)
  ·refine J_gd rfl rfl (R_move rfl) rfl (J_gd rfl rfl (R_fieldAddr0 fl56_3 rfl) rfl (J_gd rfl rfl (R_load sc3 rfl (h1.one 3 rfl)) rfl (J_gd rfl rfl (R_leq rfl rfl) rfl (J_st (R_pickT rfl rfl) rfl (J_cutEnd ⟨rfl, rfl, rfl, rfl, rfl, rfl, rfl, rfl, rfl, rfl, rfl, rfl, rfl, rfl, rfl, rfl, rfl, rfl, congrArg (fun b => some (Value.bool b)) (show (decide (((leastM xs x.op x.epoch x.key).1) ≤ x.val)) = (((leastM xs x.op x.epoch x.key).2) && (decide (((leastM xs x.op x.epoch x.key).1) ≤ x.val))) by first | (rw [hg1] <;> rfl) | (simp [hg1]; done) | (simp only [nat_nlt] <;> simp)), trivial⟩ rfl)))))
  ·refine J_gdno rfl rfl rfl rfl (J_gdno rfl rfl rfl rfl (J_gdno rfl rfl rfl rfl (J_gdno rfl rfl rfl rfl (J_st (R_pickF rfl rfl) rfl (J_cutEnd ⟨rfl, rfl, rfl, rfl, rfl, rfl, rfl, rfl, rfl, rfl, rfl, rfl, rfl, rfl, rfl, rfl, rfl, rfl, congrArg (fun b => some (Value.bool b)) (show false = (((leastM xs x.op x.epoch x.key).2) && (decide (((leastM xs x.op x.epoch x.key).1) ≤ x.val))) by first | (rw [hg1] <;> rfl) | (simp [hg1]; done) | (simp only [nat_nlt] <;> simp)), trivial⟩ rfl)))))
 rintro _ rfl
 refine J_done ?_
 refine S_cond rfl (fun hc1 => ?_) (fun hc1 => ?_)
 ·refine S_seq ?_
  refine S_reg [true, false, true, true] rfl rfl ?_
  refine J_st (R_move rfl) rfl ?_
  refine J_call Try.call44 rfl (c_copyCells vxs xs _ (hxs.ext E) (by first | omega | (simp only [mkL_length]; omega) | (rw [mkL_length]; done) | (simp only [mkL_length]; done))) rfl (fun v1 w4 e3 ho1 => ?_)
  have g_ho1 : w.heap.size ≤ w2.heap.size := E.size
  replace E := E.trans e3; replace h1 := h1.ext e3
  have z3 := e3.size
  refine J_st (R_assign rfl) rfl (J_st (R_assign rfl) rfl (J_done ?_))
  refine S_ret (E_doneN (l := [.tmp 4, .tmp 5]) (vs := [v1, .bool false]) rfl ⟨.tmp rfl, .tmp rfl, trivial⟩ rfl E ?_)
  rw [betterM_yes hc1]
  exact ⟨_, rfl, Own.fin ho1 (by omega) (by omega) rfl⟩
 ·refine S_skip ?_
  refine S_seq ?_
  refine S_reg [true, false, true, false, true] rfl rfl ?_
  refine J_st (R_move rfl) rfl ?_
  refine J_call Try.call44 rfl (c_copyCells vxs xs _ (hxs.ext E) (by first | omega | (simp only [mkL_length]; omega) | (rw [mkL_length]; done) | (simp only [mkL_length]; done))) rfl (fun v2 w5 e4 ho2 => ?_)
  have g_ho2 : w.heap.size ≤ w2.heap.size := E.size
  replace E := E.trans e4; replace h1 := h1.ext e4
  have z4 := e4.size
  refine J_st (R_makeFunc rfl rfl) rfl ?_
  refine J_callR Try.call83 rfl (by rfl) (c_DeleteFuncCell v2 w2.heap.size w5.heap.size xs (.func (.func 84) [].toArray [.pointer (some ⟨b1, 0, none⟩)].toArray) ((fun (y : Cell) => slot x y)) _ ho2 ⟨84, [], [.pointer (some ⟨b1, 0, none⟩)], rfl, Try.call84, fun y wX eX => c_better1 y b1 x wX (At.modR (Blk.at h1) eX (by omega))⟩ (by omega)) rfl (fun v3 w6 e5 ho3 => ?_)
  replace E := E.stepR e5 (by omega); replace h1 := h1.modR e5 (by omega)
  have z5 := e5.size
  refine J_st (R_assign rfl) rfl (J_done ?_)
  refine S_seq ?_
  refine S_reg [true, true, false, true, true] rfl rfl ?_
  refine J_st (R_move rfl) rfl (J_st (R_loadS st56 rfl h1.at rfl) rfl ?_)
  refine J_call Try.call75 rfl (c_PutCell v3 (List.filter (fun y => !((fun (y : Cell) => slot x y) y)) xs) x _ (Own.rd (by decide) ho3) (Nat.le_trans (List.length_filter_le _ _) (by omega))) rfl (fun v4 w7 e6 ho4 => ?_)
  have g_ho4 : w.heap.size ≤ w6.heap.size := E.size
  replace E := E.trans e6; replace h1 := h1.ext e6; replace ho3 := ho3.ext e6
  have z6 := e6.size
  refine J_st (R_assign rfl) rfl (J_st (R_assign rfl) rfl (J_done ?_))
  refine S_ret (E_doneN (l := [.tmp 4, .tmp 5]) (vs := [v4, .bool true]) rfl ⟨.tmp rfl, .tmp rfl, trivial⟩ rfl E ?_)
  rw [betterM_no hc1]
  exact ⟨_, rfl, Own.fin ho4 (by omega) (by omega) rfl⟩

set_option maxRecDepth 20000 in
theorem c_Recall (kind : Int) (vxs : Value) (xs : List Cell) (x : Cell) (w : World) (hxs : RdS w vxs xs) (hb : xs.length ≤ 4194304) : Ct Try.prog 46 [.int .i64 kind, vxs, .agg (Enc.enc x).toArray] w (fun v w' => ∃ u0, v = .tuple [u0, .bool ((recallM kind xs x).2)].toArray ∧ Own w' w.heap.size w'.heap.size 4 u0 (List.flatMap (Enc.enc (α := Cell)) ((recallM kind xs x).1))) := by
 refine ct_of Try.func46 rfl Try.ntmps46 rfl ?_
 refine S_sub [(0, .int .i64 kind), (1, vxs), (2, .agg (Enc.enc x).toArray)] ⟨rfl, rfl, rfl, trivial⟩ ?_
 have E : Ext w w := Ext.refl w
 refine S_seq ?_
 refine S_reg [false, true, true] rfl rfl ?_
 refine J_box rfl rfl (fun b1 w1 e1 s1 h1 => ?_)
 have g_b1 : w.heap.size ≤ b1 := by have := E.size; omega
 have y_b1 := h1.lt
 replace E := E.trans e1
 have z1 := e1.size
 refine J_st (R_assign rfl) rfl (J_st (R_assign rfl) rfl (J_done ?_))
 refine S_seq ?_
 refine S_seq ?_
 refine S_reg [true] rfl rfl ?_
 refine J_st (R_move rfl) rfl (J_done ?_)
 refine S_block ?_
 refine S_seq ?_
 refine S_seq ?_
 refine S_reg [true, true] rfl rfl ?_
 refine J_st (R_eql rfl rfl) rfl (J_st (R_assign rfl) rfl (J_done ?_))
 refine S_cond rfl (fun hc1 => ?_) (fun hc1 => ?_)
 ·refine S_skip ?_
  refine S_condTe rfl hc1 ?_
  refine S_seq ?_
  refine S_reg [true, true, false, true, true, true, true] rfl rfl ?_
  refine J_st (R_move rfl) rfl (J_st (R_loadS st56 rfl h1.at rfl) rfl ?_)
  refine J_call Try.call66 rfl (c_better vxs xs x _ (hxs.ext E) (by first | omega | (simp only [mkL_length]; omega) | (rw [mkL_length]; done) | (simp only [mkL_length]; done))) rfl (fun _ w2 e2 ho1 => ?_)
  obtain ⟨v1, rfl, ho2⟩ := ho1
  have g_ho1 : w.heap.size ≤ w1.heap.size := E.size
  replace E := E.trans e2; replace h1 := h1.ext e2
  have z2 := e2.size
  refine J_st (R_extract rfl rfl) rfl (J_st (R_extract rfl rfl) rfl (J_st (R_assign rfl) rfl (J_st (R_assign rfl) rfl (J_done ?_))))
  refine S_ret (E_inB_ret (E_doneN (l := [.tmp 6, .tmp 7]) (vs := [v1, .bool ((betterM xs x).2)]) rfl ⟨.tmp rfl, .tmp rfl, trivial⟩ rfl E ?_))
  rw [recallM_b (.inl (by assumption))]
  exact ⟨_, rfl, Own.fin ho2 (by omega) (by omega) rfl⟩
 ·refine S_reg [true, true] rfl rfl ?_
  refine J_st (R_eql rfl rfl) rfl (J_st (R_assign rfl) rfl (J_done ?_))
  refine S_cond rfl (fun hc2 => ?_) (fun hc2 => ?_)
  ·refine S_seq ?_
   refine S_reg [true, true, false, true, true, true, true] rfl rfl ?_
   refine J_st (R_move rfl) rfl (J_st (R_loadS st56 rfl h1.at rfl) rfl ?_)
   refine J_call Try.call66 rfl (c_better vxs xs x _ (hxs.ext E) (by first | omega | (simp only [mkL_length]; omega) | (rw [mkL_length]; done) | (simp only [mkL_length]; done))) rfl (fun _ w3 e3 ho3 => ?_)
   obtain ⟨v2, rfl, ho4⟩ := ho3
   have g_ho3 : w.heap.size ≤ w1.heap.size := E.size
   replace E := E.trans e3; replace h1 := h1.ext e3
   have z3 := e3.size
   refine J_st (R_extract rfl rfl) rfl (J_st (R_extract rfl rfl) rfl (J_st (R_assign rfl) rfl (J_st (R_assign rfl) rfl (J_done ?_))))
   refine S_ret (E_inB_ret (E_doneN (l := [.tmp 6, .tmp 7]) (vs := [v2, .bool ((betterM xs x).2)]) rfl ⟨.tmp rfl, .tmp rfl, trivial⟩ rfl E ?_))
   rw [recallM_b (.inr (by assumption))]
   exact ⟨_, rfl, Own.fin ho4 (by omega) (by omega) rfl⟩
  ·refine S_seq ?_
   refine S_reg [true, true] rfl rfl ?_
   refine J_st (R_eql rfl rfl) rfl (J_st (R_assign rfl) rfl (J_done ?_))
   refine S_cond rfl (fun hc3 => ?_) (fun hc3 => ?_)
   ·refine S_seq ?_
    refine S_regD mixed [(0, true), (1, true), (3, true), (4, true), (2, false), (5, false), (6, true), (7, true), (8, true)] (by decide +kernel) rfl (fun w4 e4 => ?_)
    replace E := E.trans e4; replace h1 := h1.ext e4
    have z4 := e4.size
    refine J_st (R_move rfl) rfl (J_st (R_loadS st56 rfl h1.at rfl) rfl (J_st (R_move rfl) rfl (J_st (R_loadS st56 rfl h1.at rfl) rfl ?_)))
    refine J_call Try.call75 rfl (c_PutCell vxs xs x _ (hxs.ext E) (by first | omega | (simp only [mkL_length]; omega) | (rw [mkL_length]; done) | (simp only [mkL_length]; done))) rfl (fun v3 w5 e5 ho5 => ?_)
    have g_ho5 : w.heap.size ≤ w4.heap.size := E.size
    replace E := E.trans e5; replace h1 := h1.ext e5
    have z5 := e5.size
    refine J_call Try.call76 rfl (c_HasCell vxs xs x _ (hxs.ext E)) rfl (fun _ w6 e6 hv => ?_)
    subst hv
    replace E := E.trans e6; replace h1 := h1.ext e6; replace ho5 := ho5.ext e6
    have z6 := e6.size
    refine J_st (R_not rfl) rfl (J_st (R_assign rfl) rfl (J_st (R_assign rfl) rfl (J_done ?_)))
    refine S_ret (E_inB_ret (E_doneN (l := [.tmp 6, .tmp 7]) (vs := [v3, .bool (!(decide (x ∈ xs)))]) rfl ⟨.tmp rfl, .tmp rfl, trivial⟩ rfl E ?_))
    rw [recallM_n (by assumption)]
    exact ⟨_, rfl, Own.fin ho5 (by omega) (by omega) rfl⟩
   ·refine S_skip ?_
    refine S_nil (E_inB ?_)
    refine S_seq ?_
    refine S_reg [true, false, true, true] rfl rfl ?_
    refine J_st (R_move rfl) rfl ?_
    refine J_call Try.call44 rfl (c_copyCells vxs xs _ (hxs.ext E) (by first | omega | (simp only [mkL_length]; omega) | (rw [mkL_length]; done) | (simp only [mkL_length]; done))) rfl (fun v4 w7 e7 ho6 => ?_)
    have g_ho6 : w.heap.size ≤ w1.heap.size := E.size
    replace E := E.trans e7; replace h1 := h1.ext e7
    have z7 := e7.size
    refine J_st (R_assign rfl) rfl (J_st (R_assign rfl) rfl (J_done ?_))
    refine S_ret (E_doneN (l := [.tmp 6, .tmp 7]) (vs := [v4, .bool true]) rfl ⟨.tmp rfl, .tmp rfl, trivial⟩ rfl E ?_)
    rw [recallM_o (by assumption) (by assumption) (by assumption)]
    exact ⟨_, rfl, Own.fin ho6 (by omega) (by omega) rfl⟩

set_option maxHeartbeats 4000000 in
set_option maxRecDepth 20000 in
theorem s_Recall (kind : Int) (vxs : Value) (xs : List Cell) (x : Cell) (w : World) (hxs : RdS w vxs xs) (hb : xs.length ≤ 4194304) : Ct Try.prog 51 [.int .i64 kind, vxs, .agg (Enc.enc x).toArray] w (fun v w' => ∃ u0, v = .tuple [u0, .bool ((recallM kind xs x).2)].toArray ∧ Own w' w.heap.size w'.heap.size 4 u0 (List.flatMap (Enc.enc (α := Cell)) ((recallM kind xs x).1))) := by
 refine ct_of Try.func51 rfl Try.ntmps51 rfl ?_
 refine S_sub [(0, .int .i64 kind), (1, vxs), (2, .agg (Enc.enc x).toArray)] ⟨rfl, rfl, rfl, trivial⟩ ?_
 have E : Ext w w := Ext.refl w
 refine S_seq ?_
 refine S_reg [false, true, true] rfl rfl ?_
 refine J_box rfl rfl (fun b1 w1 e1 s1 h1 => ?_)
 have g_b1 : w.heap.size ≤ b1 := by have := E.size; omega
 have y_b1 := h1.lt
 replace E := E.trans e1
 have z1 := e1.size
 refine J_st (R_assign rfl) rfl (J_st (R_assign rfl) rfl (J_done ?_))
 refine S_seq ?_
 refine S_reg [false, true, false, true] rfl rfl ?_
 refine J_buildSlice (vs := []) (css := []) sl27 rfl rfl trivial rfl rfl (fun b2 w2 e2 s2 h2 => ?_)
 replace h2 : Blk w2 b2 [] := h2
 have g_b2 : w.heap.size ≤ b2 := by have := E.size; omega
 have y_b2 := h2.lt
 replace E := E.trans e2; replace h1 := h1.ext e2
 have z2 := e2.size
 refine J_st (R_move rfl) rfl ?_
 refine J_append sl27 rfl rfl (Own.ofBlk (lo := b2) (hi := b2 + 1) (sz := 4) h2 (Nat.le_refl _) (Nat.lt_succ_self _) (by simp) (by simp [maxLen])) (RdS.src (hxs.ext E)) (flat_one _) (by first | (simp only [sum_flat, List.length_nil, List.length_cons]; simp only [Enc.sz]; omega) | (have h := filt_len xs (fun y => !(slot x y)) k; simp only [show Enc.sz Cell = 4 from rfl] at h; simp only [List.length_cons, List.length_nil]; omega)) (by decide) (by omega) (by omega) rfl rfl (fun v1 w3 m1 ho1 => ?_)
 replace E := E.step m1 (fun g hg => by have := Own.blk (Own.ofBlk (lo := b2) (hi := b2 + 1) (sz := 4) h2 (Nat.le_refl _) (Nat.lt_succ_self _) (by simp) (by simp [maxLen])) g hg; omega); replace h1 := h1.mod m1 (fun g hg => by have := Own.blk (Own.ofBlk (lo := b2) (hi := b2 + 1) (sz := 4) h2 (Nat.le_refl _) (Nat.lt_succ_self _) (by simp) (by simp [maxLen])) g hg; omega)
 have z3 := m1.size
 refine J_st (R_assign rfl) rfl (J_done ?_)
 refine S_seq ?_
 refine S_seq ?_
 refine S_reg [true] rfl rfl ?_
 refine J_st (R_move rfl) rfl (J_done ?_)
 refine S_block ?_
 refine S_seq ?_
 refine S_reg [true, true] rfl rfl ?_
 refine J_st (R_eql rfl rfl) rfl (J_st (R_assign rfl) rfl (J_done ?_))
 refine S_cond rfl (fun hc1 => ?_) (fun hc1 => ?_)
 ·refine S_seq ?_
  refine S_seq ?_
  refine S_reg [true, true, false] rfl rfl ?_
  refine J_st (R_move rfl) rfl (J_st (R_loadS st56 rfl h1.at rfl) rfl ?_)
  refine J_call Try.call78 rfl (s_HasCell vxs xs x _ (hxs.ext E)) rfl (fun _ w4 e3 hv => ?_)
  subst hv
  replace E := E.trans e3; replace h1 := h1.ext e3; replace ho1 := ho1.ext e3
  have z4 := e3.size
  refine J_done ?_
  refine S_cond rfl (fun hc2 => ?_) (fun hc2 => ?_)
  ·refine S_seq ?_
   refine S_reg [true, true, true] rfl rfl ?_
   refine J_st (R_move rfl) rfl (J_st (R_assign rfl) rfl (J_st (R_assign rfl) rfl (J_done ?_)))
   refine S_ret (E_inB_ret (E_doneN (l := [.tmp 6, .tmp 7]) (vs := [v1, .bool false]) rfl ⟨.tmp rfl, .tmp rfl, trivial⟩ rfl E ?_))
   rw [recallM_h (by assumption) (by assumption)]
   exact ⟨_, rfl, Own.fin ho1 (by omega) (by omega) (by first | rfl | simp only [List.nil_append])⟩
  ·refine S_skip ?_
   refine S_seq ?_
   refine S_reg [true, true, false, true, true] rfl rfl ?_
   refine J_st (R_move rfl) rfl (J_st (R_loadS st56 rfl h1.at rfl) rfl ?_)
   refine J_call Try.call79 rfl (s_PutCell vxs xs x _ (hxs.ext E) (by omega)) rfl (fun v2 w5 e4 ho2 => ?_)
   have g_ho2 : w.heap.size ≤ w4.heap.size := E.size
   replace E := E.trans e4; replace h1 := h1.ext e4; replace ho1 := ho1.ext e4
   have z5 := e4.size
   refine J_st (R_assign rfl) rfl (J_st (R_assign rfl) rfl (J_done ?_))
   refine S_ret (E_inB_ret (E_doneN (l := [.tmp 6, .tmp 7]) (vs := [v2, .bool true]) rfl ⟨.tmp rfl, .tmp rfl, trivial⟩ rfl E ?_))
   rw [recallM_i (by assumption) (by assumption)]
   exact ⟨_, rfl, Own.fin ho2 (by omega) (by omega) (by first | rfl | simp only [List.nil_append])⟩
 ·refine S_seq ?_
  refine S_seq ?_
  refine S_reg [true, true] rfl rfl ?_
  refine J_st (R_eql rfl rfl) rfl (J_st (R_assign rfl) rfl (J_done ?_))
  refine S_cond rfl (fun hc3 => ?_) (fun hc3 => ?_)
  ·refine S_skip ?_
   refine S_condTe rfl hc3 ?_
   refine S_seq ?_
   refine S_reg [true, true, true, true, true, true, true, false, true, true, true, true, true] rfl rfl ?_
   refine J_st (R_move rfl) rfl (J_st (R_fieldAddr0 fl56_0 rfl) rfl (J_st (R_load sc3 rfl (h1.one 0 rfl)) rfl (J_st (R_fieldAddr0 fl56_1 rfl) rfl (J_st (R_load sc3 rfl (h1.one 1 rfl)) rfl (J_st (R_fieldAddr0 fl56_2 rfl) rfl (J_st (R_load sc3 rfl (h1.one 2 rfl)) rfl ?_))))))
   refine J_call Try.call68 rfl (s_LeastOf vxs xs x.op x.epoch x.key _ (hxs.ext E)) rfl (fun _ w6 e5 hv => ?_)
   subst hv
   replace E := E.trans e5; replace h1 := h1.ext e5; replace ho1 := ho1.ext e5
   have z6 := e5.size
   refine J_st (R_move rfl) rfl (J_st (R_extract rfl rfl) rfl (J_st (R_extract rfl rfl) rfl (J_st (R_assign rfl) rfl (J_st (R_assign rfl) rfl (J_done ?_)))))
   refine S_seq ?_
   refine S_seq ?_
   refine S_reg [true, true, true, true, true, true, true] rfl rfl ?_
   refine J_st (R_move rfl) rfl (J_st (R_move rfl) rfl ?_)
   refine J_cut 5 [(0, .int .i64 kind), (1, vxs), (2, .agg (Enc.enc x).toArray), (5, .pointer (some ⟨b1, 0, none⟩)), (6, .slice none 0 0), (7, .bool false), (8, v1), (9, .int .i64 ((leastM xs x.op x.epoch x.key).1)), (10, .bool ((leastM xs x.op x.epoch x.key).2)), (13, .slice (some ⟨b2, 0, none⟩) 0 0), (14, vxs), (15, v1), (16, .int .i64 kind), (17, .bool (kind == 6)), (18, .bool (kind == 6)), (26, .bool (kind == 5)), (27, .bool (kind == 5)), (29, .tuple [.int .i64 ((leastM xs x.op x.epoch x.key).1), .bool ((leastM xs x.op x.epoch x.key).2)].toArray), (30, vxs), (31, .pointer (some ⟨b1, 0, none⟩)), (32, .int .i64 x.op), (33, .pointer (some ⟨b1, 1, none⟩)), (34, .int .i64 x.epoch), (35, .pointer (some ⟨b1, 2, none⟩)), (36, .int .i64 x.key), (37, .tuple [.int .i64 ((leastM xs x.op x.epoch x.key).1), .bool ((leastM xs x.op x.epoch x.key).2)].toArray), (38, .int .i64 ((leastM xs x.op x.epoch x.key).1)), (39, .bool ((leastM xs x.op x.epoch x.key).2)), (46, .bool (((leastM xs x.op x.epoch x.key).2) && (decide (((leastM xs x.op x.epoch x.key).1) ≤ x.val))))] (fun w' => w6 = w') ?_ ?_
   ·refine J_if (gd := 41) rfl rfl (fun hg1 => ?_) (fun hg1 => ?_)
    ·refine J_gd rfl rfl (R_move rfl) rfl (J_gd rfl rfl (R_fieldAddr0 fl56_3 rfl) rfl (J_gd rfl rfl (R_load sc3 rfl (h1.one 3 rfl)) rfl (J_gd rfl rfl (R_leq rfl rfl) rfl (J_st (R_pickT rfl rfl) rfl (J_cutEnd ⟨rfl, rfl, rfl, rfl, rfl, rfl, rfl, rfl, rfl, rfl, rfl, rfl, rfl, rfl, rfl, rfl, rfl, rfl, rfl, rfl, rfl, rfl, rfl, rfl, rfl, rfl, rfl, rfl, congrArg (fun b => some (Value.bool b)) (show (decide (((leastM xs x.op x.epoch x.key).1) ≤ x.val)) = (((leastM xs x.op x.epoch x.key).2) && (decide (((leastM xs x.op x.epoch x.key).1) ≤ x.val))) by first | (rw [hg1] <;> rfl) | (simp [hg1]; done) | (simp only [nat_nlt] <;> simp)), trivial⟩ rfl)))))
    ·refine J_gdno rfl rfl rfl rfl (J_gdno rfl rfl rfl rfl (J_gdno rfl rfl rfl rfl (J_gdno rfl rfl rfl rfl (J_st (R_pickF rfl rfl) rfl (J_cutEnd ⟨rfl, rfl, rfl, rfl, rfl, rfl, rfl, rfl, rfl, rfl, rfl, rfl, rfl, rfl, rfl, rfl, rfl, rfl, rfl, rfl, rfl, rfl, rfl, rfl, rfl, rfl, rfl, rfl, congrArg (fun b => some (Value.bool b)) (show false = (((leastM xs x.op x.epoch x.key).2) && (decide (((leastM xs x.op x.epoch x.key).1) ≤ x.val))) by first | (rw [hg1] <;> rfl) | (simp [hg1]; done) | (simp only [nat_nlt] <;> simp)), trivial⟩ rfl)))))
   rintro _ rfl
   refine J_done ?_
   refine S_cond rfl (fun hc4 => ?_) (fun hc4 => ?_)
   ·refine S_seq ?_
    refine S_reg [true, true, true] rfl rfl ?_
    refine J_st (R_move rfl) rfl (J_st (R_assign rfl) rfl (J_st (R_assign rfl) rfl (J_done ?_)))
    refine S_ret (E_inB_ret (E_doneN (l := [.tmp 6, .tmp 7]) (vs := [v1, .bool false]) rfl ⟨.tmp rfl, .tmp rfl, trivial⟩ rfl E ?_))
    rw [recallM_b (.inl (by assumption)), betterM_yes (by assumption)]
    exact ⟨_, rfl, Own.fin ho1 (by omega) (by omega) (by first | rfl | simp only [List.nil_append])⟩
   ·refine S_skip ?_
    refine S_seq ?_
    refine S_reg [false, true] rfl rfl ?_
    refine J_buildSlice (vs := []) (css := []) sl27 rfl rfl trivial rfl rfl (fun b3 w8 e6 s3 h3 => ?_)
    replace h3 : Blk w8 b3 [] := h3
    have g_b3 : w.heap.size ≤ b3 := by have := E.size; omega
    have y_b3 := h3.lt
    replace E := E.trans e6; replace h1 := h1.ext e6; replace ho1 := ho1.ext e6
    have z7 := e6.size
    refine J_st (R_assign rfl) rfl (J_done ?_)
    refine S_seq ?_
    refine S_seq ?_
    refine S_reg [true] rfl rfl ?_
    refine J_st (R_assign rfl) rfl (J_done ?_)
    refine S_block ?_
    refine S_loop (fun (xq : Nat × Value) => let ⟨k, vo⟩ := xq; [(1, vxs), (5, .pointer (some ⟨b1, 0, none⟩)), (6, .slice none 0 0), (7, .bool false), (8, v1), (11, vo), (12, .int .i64 ((k : Nat) : Int))]) (fun (xq : Nat × Value) w' => let ⟨k, vo⟩ := xq; Ext w w' ∧ w8.heap.size ≤ w'.heap.size ∧ Blk w' b1 (Enc.enc x) ∧ Own w' b2 w3.heap.size 4 v1 ([] ++ List.flatMap (Enc.enc (α := Cell)) xs) ∧ k ≤ xs.length ∧ Own w' b3 w'.heap.size 4 vo (List.flatMap (Enc.enc (α := Cell)) ((xs.take k).filter (fun y => !(slot x y))))) (fun (xq : Nat × Value) => let ⟨k, vo⟩ := xq; xs.length - k) (0, .slice (some ⟨b3, 0, none⟩) 0 0) ⟨rfl, rfl, rfl, rfl, rfl, rfl, rfl, trivial⟩ ⟨E, Nat.le_refl _, h1, ho1, Nat.zero_le _, Own.fin (Own.ofBlk (lo := b3) (hi := b3 + 1) (sz := 4) h3 (Nat.le_refl _) (Nat.lt_succ_self _) (by simp) (by simp [maxLen])) (by have := E.size; omega) (by omega) rfl⟩ ?_
    clear E h1 ho1 h3
    rintro ⟨k, vo⟩ w9 ⟨E, z8, h1, ho1, hk, ho⟩
    refine S_sub [(1, vxs), (5, .pointer (some ⟨b1, 0, none⟩)), (6, .slice none 0 0), (7, .bool false), (8, v1), (11, vo), (12, .int .i64 ((k : Nat) : Int))] ⟨rfl, rfl, rfl, rfl, rfl, rfl, rfl, trivial⟩ ?_
    refine S_seq ?_
    refine S_seq ?_
    refine S_reg [true, true, true, true] rfl rfl ?_
    refine J_st (R_move rfl) rfl (J_st (R_move rfl) rfl (J_st (R_len Try.underlying27 rfl (hxs.ext E).len) rfl (J_st (R_lss rfl rfl) rfl (J_done ?_))))
    refine S_cond rfl (fun hc5 => ?_) (fun hc5 => ?_)
    ·have hc5n : k < xs.length := by first | (have h := of_decide_eq_true hc5; omega) | (have h := hc5; simp at h; omega)
     refine S_skip ?_
     refine S_seq ?_
     refine S_block ?_
     refine S_seq ?_
     refine S_regD mixed [(0, true), (1, true), (2, true), (3, true), (4, true), (5, true), (6, true), (7, true), (8, true), (9, true), (10, true), (11, true), (12, true), (13, true), (14, true), (15, true), (16, true), (17, true), (18, true), (19, true), (20, true), (21, true), (22, true), (23, true), (24, true), (25, true), (26, true), (27, true)] (by decide +kernel) rfl (fun w10 e7 => ?_)
     replace E := E.trans e7; replace h1 := h1.ext e7; replace ho1 := ho1.ext e7; replace ho := ho.ext e7
     have z9 := e7.size
     refine J_st (R_move rfl) rfl (J_st (R_move rfl) rfl ?_)
     have hi1 : k < xs.length := (by first | assumption | omega | (simp only [List.length_set]; first | assumption | omega) | (simp only [List.getElem_set_self, List.length_set]; first | assumption | omega) | (simp only [setW, setLk, List.length_set]; first | assumption | omega) | (simp; done))
     refine J_st (R_index (i := k) sl27 rfl rfl (hxs.ext E) hi1) rfl (J_st (R_fieldAddr fl56_0 rfl) rfl (J_st (R_load sc3 rfl (((hxs.ext E).get hi1).one 0 rfl)) rfl (J_st (R_fieldAddr0 fl56_0 rfl) rfl (J_st (R_load sc3 rfl (h1.one 0 rfl)) rfl (J_st (R_neq rfl rfl) rfl (J_st (R_move rfl) rfl ?_))))))
     refine J_cut 19 [(1, vxs), (5, .pointer (some ⟨b1, 0, none⟩)), (6, .slice none 0 0), (7, .bool false), (8, v1), (11, vo), (12, .int .i64 ((k : Nat) : Int)), (49, .int .i64 ((k : Nat) : Int)), (50, vxs), (51, .int .i64 ((xs.length : Nat) : Int)), (52, .bool (decide (((k : Nat) : Int) < ((xs.length : Nat) : Int)))), (82, .bool (((((xs[k]'hi1).op) != x.op) || (((xs[k]'hi1).epoch) != x.epoch)) || (((xs[k]'hi1).key) != x.key)))] (fun w' => w10 = w') ?_ ?_
     ·refine J_if (gd := 63) rfl rfl (fun hg2 => ?_) (fun hg2 => ?_)
      ·refine J_gdno rfl rfl rfl rfl (J_gdno rfl rfl rfl rfl (J_gdno rfl rfl rfl rfl (J_gdno rfl rfl rfl rfl (J_gdno rfl rfl rfl rfl (J_gdno rfl rfl rfl rfl (J_gdno rfl rfl rfl rfl (J_gdno rfl rfl rfl rfl (J_st (R_pickT rfl rfl) rfl (J_st (R_move rfl) rfl (J_gdno rfl rfl rfl rfl (J_gdno rfl rfl rfl rfl (J_gdno rfl rfl rfl rfl (J_gdno rfl rfl rfl rfl (J_gdno rfl rfl rfl rfl (J_gdno rfl rfl rfl rfl (J_gdno rfl rfl rfl rfl (J_gdno rfl rfl rfl rfl (J_st (R_pickT rfl rfl) rfl (J_cutEnd ⟨rfl, rfl, rfl, rfl, rfl, rfl, rfl, rfl, rfl, rfl, rfl, congrArg (fun b => some (Value.bool b)) (show true = (((((xs[k]'hi1).op) != x.op) || (((xs[k]'hi1).epoch) != x.epoch)) || (((xs[k]'hi1).key) != x.key)) by first | (rw [hg2] <;> rfl) | (simp [hg2]; done) | (simp only [nat_nlt] <;> simp)), trivial⟩ rfl)))))))))))))))))))
      ·refine J_gd rfl rfl (R_move rfl) rfl (J_gd rfl rfl (R_move rfl) rfl (J_gd rfl rfl (R_index (i := k) sl27 rfl rfl (hxs.ext E) hi1) rfl (J_gd rfl rfl (R_fieldAddr fl56_1 rfl) rfl (J_gd rfl rfl (R_load sc3 rfl (((hxs.ext E).get hi1).one 1 rfl)) rfl (J_gd rfl rfl (R_fieldAddr0 fl56_1 rfl) rfl (J_gd rfl rfl (R_load sc3 rfl (h1.one 1 rfl)) rfl (J_gd rfl rfl (R_neq rfl rfl) rfl (J_st (R_pickF rfl rfl) rfl (J_st (R_move rfl) rfl ?_)))))))))
       refine J_if (gd := 73) rfl rfl (fun hg3 => ?_) (fun hg3 => ?_)
       ·refine J_gdno rfl rfl rfl rfl (J_gdno rfl rfl rfl rfl (J_gdno rfl rfl rfl rfl (J_gdno rfl rfl rfl rfl (J_gdno rfl rfl rfl rfl (J_gdno rfl rfl rfl rfl (J_gdno rfl rfl rfl rfl (J_gdno rfl rfl rfl rfl (J_st (R_pickT rfl rfl) rfl (J_cutEnd ⟨rfl, rfl, rfl, rfl, rfl, rfl, rfl, rfl, rfl, rfl, rfl, congrArg (fun b => some (Value.bool b)) (show true = (((((xs[k]'hi1).op) != x.op) || (((xs[k]'hi1).epoch) != x.epoch)) || (((xs[k]'hi1).key) != x.key)) by first | (rw [hg2, hg3] <;> rfl) | (simp [hg2, hg3]; done) | (simp only [nat_nlt] <;> simp)), trivial⟩ rfl)))))))))
       ·refine J_gd rfl rfl (R_move rfl) rfl (J_gd rfl rfl (R_move rfl) rfl (J_gd rfl rfl (R_index (i := k) sl27 rfl rfl (hxs.ext E) hi1) rfl (J_gd rfl rfl (R_fieldAddr fl56_2 rfl) rfl (J_gd rfl rfl (R_load sc3 rfl (((hxs.ext E).get hi1).one 2 rfl)) rfl (J_gd rfl rfl (R_fieldAddr0 fl56_2 rfl) rfl (J_gd rfl rfl (R_load sc3 rfl (h1.one 2 rfl)) rfl (J_gd rfl rfl (R_neq rfl rfl) rfl (J_st (R_pickF rfl rfl) rfl (J_cutEnd ⟨rfl, rfl, rfl, rfl, rfl, rfl, rfl, rfl, rfl, rfl, rfl, congrArg (fun b => some (Value.bool b)) (show (((xs[k]'hi1).key) != x.key) = (((((xs[k]'hi1).op) != x.op) || (((xs[k]'hi1).epoch) != x.epoch)) || (((xs[k]'hi1).key) != x.key)) by first | (rw [hg2, hg3] <;> rfl) | (simp [hg2, hg3]; done) | (simp only [nat_nlt] <;> simp)), trivial⟩ rfl)))))))))
     rintro _ rfl
     refine J_done ?_
     refine S_cond rfl (fun hc6 => ?_) (fun hc6 => ?_)
     ·refine S_reg [true, true, true, true, true, false, false, true] rfl rfl ?_
      refine J_st (R_move rfl) rfl (J_st (R_move rfl) rfl (J_st (R_move rfl) rfl (J_st (R_index (i := k) sl27 rfl rfl (hxs.ext E) hi1) rfl (J_st (R_loadS st56 rfl ((hxs.ext E).get hi1) rfl) rfl ?_))))
      refine J_buildSlice (vs := [.agg (Enc.enc (xs[k]'hi1)).toArray]) (css := [[.int .i64 ((xs[k]'hi1).op), .int .i64 ((xs[k]'hi1).epoch), .int .i64 ((xs[k]'hi1).key), .int .i64 ((xs[k]'hi1).val)]]) sl27 rfl rfl ⟨⟨rfl, rfl⟩, trivial⟩ rfl rfl (fun b4 w12 e8 s4 h4 => ?_)
      replace h4 : Blk w12 b4 [.int .i64 ((xs[k]'hi1).op), .int .i64 ((xs[k]'hi1).epoch), .int .i64 ((xs[k]'hi1).key), .int .i64 ((xs[k]'hi1).val)] := h4
      have g_b4 : w.heap.size ≤ b4 := by have := E.size; omega
      have y_b4 := h4.lt
      replace E := E.trans e8; replace h1 := h1.ext e8; replace ho1 := ho1.ext e8; replace ho := ho.ext e8
      have z10 := e8.size
      refine J_append sl27 rfl rfl ho (Src.ofBlk h4 rfl) rfl (by first | (simp only [sum_flat, List.length_nil, List.length_cons]; simp only [Enc.sz]; omega) | (have h := filt_len xs (fun y => !(slot x y)) k; simp only [show Enc.sz Cell = 4 from rfl] at h; simp only [List.length_cons, List.length_nil]; omega)) (by decide) (by omega) (by omega) rfl rfl (fun v3 w13 m2 ho3 => ?_)
      replace E := E.step m2 (fun g hg => by have := Own.blk ho g hg; omega); replace h1 := h1.mod m2 (fun g hg => by have := Own.blk ho g hg; omega); replace ho1 := ho1.mod m2 (fun g hg => by have := Own.blk ho g hg; omega)
      have z11 := m2.size
      refine J_st (R_assign rfl) rfl (J_done ?_)
      refine S_nil (E_inB ?_)
      refine S_reg [true, true, true] rfl rfl ?_
      refine J_st (R_move rfl) rfl (J_st (R_add rfl rfl (add_one hc5n hxs.1)) rfl (J_st (R_assign rfl) rfl (J_done ?_)))
      refine S_nil (E_again (k + 1, v3) (by simp; omega) ⟨rfl, rfl, rfl, rfl, rfl, rfl, rfl, trivial⟩ ⟨E, (by omega), h1, ho1, (by omega), Own.fin ho3 (Nat.le_refl _) (by omega) (filt_yes (by assumption) (ns_yes (by assumption)))⟩)
     ·refine S_skip ?_
      refine S_nil (E_inB ?_)
      refine S_reg [true, true, true] rfl rfl ?_
      refine J_st (R_move rfl) rfl (J_st (R_add rfl rfl (add_one hc5n hxs.1)) rfl (J_st (R_assign rfl) rfl (J_done ?_)))
      refine S_nil (E_again (k + 1, vo) (by simp; omega) ⟨rfl, rfl, rfl, rfl, rfl, rfl, rfl, trivial⟩ ⟨E, (by omega), h1, ho1, (by omega), Own.fin ho (Nat.le_refl _) (by omega) (filt_no (by assumption) (ns_no (by assumption)))⟩)
    ·have hc5n : ¬ k < xs.length := by first | (have h := of_decide_eq_false hc5; omega) | (have h := hc5; simp at h; omega)
     refine S_exit (E_lp_exit (E_inB_exit ?_))
     refine S_seq ?_
     refine S_reg [true, true, false, true, true] rfl rfl ?_
     refine J_st (R_move rfl) rfl (J_st (R_loadS st56 rfl h1.at rfl) rfl ?_)
     refine J_call Try.call79 rfl (s_PutCell vo ((xs.take k).filter (fun y => !(slot x y))) x _ (Own.rd (by decide) ho) (by have h1 := List.length_filter_le (fun y => !(slot x y)) (xs.take k); simp only [List.length_take] at h1; omega)) rfl (fun v4 w14 e9 ho4 => ?_)
     have g_ho4 : w.heap.size ≤ w9.heap.size := E.size
     replace E := E.trans e9; replace h1 := h1.ext e9; replace ho1 := ho1.ext e9; replace ho := ho.ext e9
     have z12 := e9.size
     refine J_st (R_assign rfl) rfl (J_st (R_assign rfl) rfl (J_done ?_))
     refine S_ret (E_inB_ret (E_doneN (l := [.tmp 6, .tmp 7]) (vs := [v4, .bool true]) rfl ⟨.tmp rfl, .tmp rfl, trivial⟩ rfl E ?_))
     rw [recallM_b (.inl (by assumption)), betterM_no (by assumption)]
     exact ⟨_, rfl, Own.fin ho4 (by omega) (by omega) (by simp only [List.nil_append, List.take_of_length_le (show xs.length ≤ k by omega)] <;> rfl)⟩
  ·refine S_reg [true, true] rfl rfl ?_
   refine J_st (R_eql rfl rfl) rfl (J_st (R_assign rfl) rfl (J_done ?_))
   refine S_cond rfl (fun hc7 => ?_) (fun hc7 => ?_)
   ·refine S_seq ?_
    refine S_reg [true, true, true, true, true, true, true, false, true, true, true, true, true] rfl rfl ?_
    refine J_st (R_move rfl) rfl (J_st (R_fieldAddr0 fl56_0 rfl) rfl (J_st (R_load sc3 rfl (h1.one 0 rfl)) rfl (J_st (R_fieldAddr0 fl56_1 rfl) rfl (J_st (R_load sc3 rfl (h1.one 1 rfl)) rfl (J_st (R_fieldAddr0 fl56_2 rfl) rfl (J_st (R_load sc3 rfl (h1.one 2 rfl)) rfl ?_))))))
    refine J_call Try.call68 rfl (s_LeastOf vxs xs x.op x.epoch x.key _ (hxs.ext E)) rfl (fun _ w15 e10 hv => ?_)
    subst hv
    replace E := E.trans e10; replace h1 := h1.ext e10; replace ho1 := ho1.ext e10
    have z13 := e10.size
    refine J_st (R_move rfl) rfl (J_st (R_extract rfl rfl) rfl (J_st (R_extract rfl rfl) rfl (J_st (R_assign rfl) rfl (J_st (R_assign rfl) rfl (J_done ?_)))))
    refine S_seq ?_
    refine S_seq ?_
    refine S_reg [true, true, true, true, true, true, true] rfl rfl ?_
    refine J_st (R_move rfl) rfl (J_st (R_move rfl) rfl ?_)
    refine J_cut 5 [(0, .int .i64 kind), (1, vxs), (2, .agg (Enc.enc x).toArray), (5, .pointer (some ⟨b1, 0, none⟩)), (6, .slice none 0 0), (7, .bool false), (8, v1), (9, .int .i64 ((leastM xs x.op x.epoch x.key).1)), (10, .bool ((leastM xs x.op x.epoch x.key).2)), (13, .slice (some ⟨b2, 0, none⟩) 0 0), (14, vxs), (15, v1), (16, .int .i64 kind), (17, .bool (kind == 6)), (18, .bool (kind == 6)), (26, .bool (kind == 8)), (27, .bool (kind == 5)), (28, .bool (kind == 8)), (29, .tuple [.int .i64 ((leastM xs x.op x.epoch x.key).1), .bool ((leastM xs x.op x.epoch x.key).2)].toArray), (30, vxs), (31, .pointer (some ⟨b1, 0, none⟩)), (32, .int .i64 x.op), (33, .pointer (some ⟨b1, 1, none⟩)), (34, .int .i64 x.epoch), (35, .pointer (some ⟨b1, 2, none⟩)), (36, .int .i64 x.key), (37, .tuple [.int .i64 ((leastM xs x.op x.epoch x.key).1), .bool ((leastM xs x.op x.epoch x.key).2)].toArray), (38, .int .i64 ((leastM xs x.op x.epoch x.key).1)), (39, .bool ((leastM xs x.op x.epoch x.key).2)), (46, .bool (((leastM xs x.op x.epoch x.key).2) && (decide (((leastM xs x.op x.epoch x.key).1) ≤ x.val))))] (fun w' => w15 = w') ?_ ?_
    ·refine J_if (gd := 41) rfl rfl (fun hg4 => ?_) (fun hg4 => ?_)
     ·refine J_gd rfl rfl (R_move rfl) rfl (J_gd rfl rfl (R_fieldAddr0 fl56_3 rfl) rfl (J_gd rfl rfl (R_load sc3 rfl (h1.one 3 rfl)) rfl (J_gd rfl rfl (R_leq rfl rfl) rfl (J_st (R_pickT rfl rfl) rfl (J_cutEnd ⟨rfl, rfl, rfl, rfl, rfl, rfl, rfl, rfl, rfl, rfl, rfl, rfl, rfl, rfl, rfl, rfl, rfl, rfl, rfl, rfl, rfl, rfl, rfl, rfl, rfl, rfl, rfl, rfl, rfl, congrArg (fun b => some (Value.bool b)) (show (decide (((leastM xs x.op x.epoch x.key).1) ≤ x.val)) = (((leastM xs x.op x.epoch x.key).2) && (decide (((leastM xs x.op x.epoch x.key).1) ≤ x.val))) by first | (rw [hg4] <;> rfl) | (simp [hg4]; done) | (simp only [nat_nlt] <;> simp)), trivial⟩ rfl)))))
     ·refine J_gdno rfl rfl rfl rfl (J_gdno rfl rfl rfl rfl (J_gdno rfl rfl rfl rfl (J_gdno rfl rfl rfl rfl (J_st (R_pickF rfl rfl) rfl (J_cutEnd ⟨rfl, rfl, rfl, rfl, rfl, rfl, rfl, rfl, rfl, rfl, rfl, rfl, rfl, rfl, rfl, rfl, rfl, rfl, rfl, rfl, rfl, rfl, rfl, rfl, rfl, rfl, rfl, rfl, rfl, congrArg (fun b => some (Value.bool b)) (show false = (((leastM xs x.op x.epoch x.key).2) && (decide (((leastM xs x.op x.epoch x.key).1) ≤ x.val))) by first | (rw [hg4] <;> rfl) | (simp [hg4]; done) | (simp only [nat_nlt] <;> simp)), trivial⟩ rfl)))))
    rintro _ rfl
    refine J_done ?_
    refine S_cond rfl (fun hc8 => ?_) (fun hc8 => ?_)
    ·refine S_seq ?_
     refine S_reg [true, true, true] rfl rfl ?_
     refine J_st (R_move rfl) rfl (J_st (R_assign rfl) rfl (J_st (R_assign rfl) rfl (J_done ?_)))
     refine S_ret (E_inB_ret (E_doneN (l := [.tmp 6, .tmp 7]) (vs := [v1, .bool false]) rfl ⟨.tmp rfl, .tmp rfl, trivial⟩ rfl E ?_))
     rw [recallM_b (.inr (by assumption)), betterM_yes (by assumption)]
     exact ⟨_, rfl, Own.fin ho1 (by omega) (by omega) (by first | rfl | simp only [List.nil_append])⟩
    ·refine S_skip ?_
     refine S_seq ?_
     refine S_reg [false, true] rfl rfl ?_
     refine J_buildSlice (vs := []) (css := []) sl27 rfl rfl trivial rfl rfl (fun b5 w17 e11 s5 h5 => ?_)
     replace h5 : Blk w17 b5 [] := h5
     have g_b5 : w.heap.size ≤ b5 := by have := E.size; omega
     have y_b5 := h5.lt
     replace E := E.trans e11; replace h1 := h1.ext e11; replace ho1 := ho1.ext e11
     have z14 := e11.size
     refine J_st (R_assign rfl) rfl (J_done ?_)
     refine S_seq ?_
     refine S_seq ?_
     refine S_reg [true] rfl rfl ?_
     refine J_st (R_assign rfl) rfl (J_done ?_)
     refine S_block ?_
     refine S_loop (fun (xq : Nat × Value) => let ⟨k, vo⟩ := xq; [(1, vxs), (5, .pointer (some ⟨b1, 0, none⟩)), (6, .slice none 0 0), (7, .bool false), (8, v1), (11, vo), (12, .int .i64 ((k : Nat) : Int))]) (fun (xq : Nat × Value) w' => let ⟨k, vo⟩ := xq; Ext w w' ∧ w17.heap.size ≤ w'.heap.size ∧ Blk w' b1 (Enc.enc x) ∧ Own w' b2 w3.heap.size 4 v1 ([] ++ List.flatMap (Enc.enc (α := Cell)) xs) ∧ k ≤ xs.length ∧ Own w' b5 w'.heap.size 4 vo (List.flatMap (Enc.enc (α := Cell)) ((xs.take k).filter (fun y => !(slot x y))))) (fun (xq : Nat × Value) => let ⟨k, vo⟩ := xq; xs.length - k) (0, .slice (some ⟨b5, 0, none⟩) 0 0) ⟨rfl, rfl, rfl, rfl, rfl, rfl, rfl, trivial⟩ ⟨E, Nat.le_refl _, h1, ho1, Nat.zero_le _, Own.fin (Own.ofBlk (lo := b5) (hi := b5 + 1) (sz := 4) h5 (Nat.le_refl _) (Nat.lt_succ_self _) (by simp) (by simp [maxLen])) (by have := E.size; omega) (by omega) rfl⟩ ?_
     clear E h1 ho1 h5
     rintro ⟨k, vo⟩ w18 ⟨E, z15, h1, ho1, hk, ho⟩
     refine S_sub [(1, vxs), (5, .pointer (some ⟨b1, 0, none⟩)), (6, .slice none 0 0), (7, .bool false), (8, v1), (11, vo), (12, .int .i64 ((k : Nat) : Int))] ⟨rfl, rfl, rfl, rfl, rfl, rfl, rfl, trivial⟩ ?_
     refine S_seq ?_
     refine S_seq ?_
     refine S_reg [true, true, true, true] rfl rfl ?_
     refine J_st (R_move rfl) rfl (J_st (R_move rfl) rfl (J_st (R_len Try.underlying27 rfl (hxs.ext E).len) rfl (J_st (R_lss rfl rfl) rfl (J_done ?_))))
     refine S_cond rfl (fun hc9 => ?_) (fun hc9 => ?_)
     ·have hc9n : k < xs.length := by first | (have h := of_decide_eq_true hc9; omega) | (have h := hc9; simp at h; omega)
      refine S_skip ?_
      refine S_seq ?_
      refine S_block ?_
      refine S_seq ?_
      refine S_regD mixed [(0, true), (1, true), (2, true), (3, true), (4, true), (5, true), (6, true), (7, true), (8, true), (9, true), (10, true), (11, true), (12, true), (13, true), (14, true), (15, true), (16, true), (17, true), (18, true), (19, true), (20, true), (21, true), (22, true), (23, true), (24, true), (25, true), (26, true), (27, true)] (by decide +kernel) rfl (fun w19 e12 => ?_)
      replace E := E.trans e12; replace h1 := h1.ext e12; replace ho1 := ho1.ext e12; replace ho := ho.ext e12
      have z16 := e12.size
      refine J_st (R_move rfl) rfl (J_st (R_move rfl) rfl ?_)
      have hi2 : k < xs.length := (by first | assumption | omega | (simp only [List.length_set]; first | assumption | omega) | (simp only [List.getElem_set_self, List.length_set]; first | assumption | omega) | (simp only [setW, setLk, List.length_set]; first | assumption | omega) | (simp; done))
      refine J_st (R_index (i := k) sl27 rfl rfl (hxs.ext E) hi2) rfl (J_st (R_fieldAddr fl56_0 rfl) rfl (J_st (R_load sc3 rfl (((hxs.ext E).get hi2).one 0 rfl)) rfl (J_st (R_fieldAddr0 fl56_0 rfl) rfl (J_st (R_load sc3 rfl (h1.one 0 rfl)) rfl (J_st (R_neq rfl rfl) rfl (J_st (R_move rfl) rfl ?_))))))
      refine J_cut 19 [(1, vxs), (5, .pointer (some ⟨b1, 0, none⟩)), (6, .slice none 0 0), (7, .bool false), (8, v1), (11, vo), (12, .int .i64 ((k : Nat) : Int)), (49, .int .i64 ((k : Nat) : Int)), (50, vxs), (51, .int .i64 ((xs.length : Nat) : Int)), (52, .bool (decide (((k : Nat) : Int) < ((xs.length : Nat) : Int)))), (82, .bool (((((xs[k]'hi2).op) != x.op) || (((xs[k]'hi2).epoch) != x.epoch)) || (((xs[k]'hi2).key) != x.key)))] (fun w' => w19 = w') ?_ ?_
      ·refine J_if (gd := 63) rfl rfl (fun hg5 => ?_) (fun hg5 => ?_)
       ·refine J_gdno rfl rfl rfl rfl (J_gdno rfl rfl rfl rfl (J_gdno rfl rfl rfl rfl (J_gdno rfl rfl rfl rfl (J_gdno rfl rfl rfl rfl (J_gdno rfl rfl rfl rfl (J_gdno rfl rfl rfl rfl (J_gdno rfl rfl rfl rfl (J_st (R_pickT rfl rfl) rfl (J_st (R_move rfl) rfl (J_gdno rfl rfl rfl rfl (J_gdno rfl rfl rfl rfl (J_gdno rfl rfl rfl rfl (J_gdno rfl rfl rfl rfl (J_gdno rfl rfl rfl rfl (J_gdno rfl rfl rfl rfl (J_gdno rfl rfl rfl rfl (J_gdno rfl rfl rfl rfl (J_st (R_pickT rfl rfl) rfl (J_cutEnd ⟨rfl, rfl, rfl, rfl, rfl, rfl, rfl, rfl, rfl, rfl, rfl, congrArg (fun b => some (Value.bool b)) (show true = (((((xs[k]'hi2).op) != x.op) || (((xs[k]'hi2).epoch) != x.epoch)) || (((xs[k]'hi2).key) != x.key)) by first | (rw [hg5] <;> rfl) | (simp [hg5]; done) | (simp only [nat_nlt] <;> simp)), trivial⟩ rfl)))))))))))))))))))
       ·refine J_gd rfl rfl (R_move rfl) rfl (J_gd rfl rfl (R_move rfl) rfl (J_gd rfl rfl (R_index (i := k) sl27 rfl rfl (hxs.ext E) hi2) rfl (J_gd rfl rfl (R_fieldAddr fl56_1 rfl) rfl (J_gd rfl rfl (R_load sc3 rfl (((hxs.ext E).get hi2).one 1 rfl)) rfl (J_gd rfl rfl (R_fieldAddr0 fl56_1 rfl) rfl (J_gd rfl rfl (R_load sc3 rfl (h1.one 1 rfl)) rfl (J_gd rfl rfl (R_neq rfl rfl) rfl (J_st (R_pickF rfl rfl) rfl (J_st (R_move rfl) rfl ?_)))))))))
        refine J_if (gd := 73) rfl rfl (fun hg6 => ?_) (fun hg6 => ?_)
        ·refine J_gdno rfl rfl rfl rfl (J_gdno rfl rfl rfl rfl (J_gdno rfl rfl rfl rfl (J_gdno rfl rfl rfl rfl (J_gdno rfl rfl rfl rfl (J_gdno rfl rfl rfl rfl (J_gdno rfl rfl rfl rfl (J_gdno rfl rfl rfl rfl (J_st (R_pickT rfl rfl) rfl (J_cutEnd ⟨rfl, rfl, rfl, rfl, rfl, rfl, rfl, rfl, rfl, rfl, rfl, congrArg (fun b => some (Value.bool b)) (show true = (((((xs[k]'hi2).op) != x.op) || (((xs[k]'hi2).epoch) != x.epoch)) || (((xs[k]'hi2).key) != x.key)) by first | (rw [hg5, hg6] <;> rfl) | (simp [hg5, hg6]; done) | (simp only [nat_nlt] <;> simp)), trivial⟩ rfl)))))))))
        ·refine J_gd rfl rfl (R_move rfl) rfl (J_gd rfl rfl (R_move rfl) rfl (J_gd rfl rfl (R_index (i := k) sl27 rfl rfl (hxs.ext E) hi2) rfl (J_gd rfl rfl (R_fieldAddr fl56_2 rfl) rfl (J_gd rfl rfl (R_load sc3 rfl (((hxs.ext E).get hi2).one 2 rfl)) rfl (J_gd rfl rfl (R_fieldAddr0 fl56_2 rfl) rfl (J_gd rfl rfl (R_load sc3 rfl (h1.one 2 rfl)) rfl (J_gd rfl rfl (R_neq rfl rfl) rfl (J_st (R_pickF rfl rfl) rfl (J_cutEnd ⟨rfl, rfl, rfl, rfl, rfl, rfl, rfl, rfl, rfl, rfl, rfl, congrArg (fun b => some (Value.bool b)) (show (((xs[k]'hi2).key) != x.key) = (((((xs[k]'hi2).op) != x.op) || (((xs[k]'hi2).epoch) != x.epoch)) || (((xs[k]'hi2).key) != x.key)) by first | (rw [hg5, hg6] <;> rfl) | (simp [hg5, hg6]; done) | (simp only [nat_nlt] <;> simp)), trivial⟩ rfl)))))))))
      rintro _ rfl
      refine J_done ?_
      refine S_cond rfl (fun hc10 => ?_) (fun hc10 => ?_)
      ·refine S_reg [true, true, true, true, true, false, false, true] rfl rfl ?_
       refine J_st (R_move rfl) rfl (J_st (R_move rfl) rfl (J_st (R_move rfl) rfl (J_st (R_index (i := k) sl27 rfl rfl (hxs.ext E) hi2) rfl (J_st (R_loadS st56 rfl ((hxs.ext E).get hi2) rfl) rfl ?_))))
       refine J_buildSlice (vs := [.agg (Enc.enc (xs[k]'hi2)).toArray]) (css := [[.int .i64 ((xs[k]'hi2).op), .int .i64 ((xs[k]'hi2).epoch), .int .i64 ((xs[k]'hi2).key), .int .i64 ((xs[k]'hi2).val)]]) sl27 rfl rfl ⟨⟨rfl, rfl⟩, trivial⟩ rfl rfl (fun b6 w21 e13 s6 h6 => ?_)
       replace h6 : Blk w21 b6 [.int .i64 ((xs[k]'hi2).op), .int .i64 ((xs[k]'hi2).epoch), .int .i64 ((xs[k]'hi2).key), .int .i64 ((xs[k]'hi2).val)] := h6
       have g_b6 : w.heap.size ≤ b6 := by have := E.size; omega
       have y_b6 := h6.lt
       replace E := E.trans e13; replace h1 := h1.ext e13; replace ho1 := ho1.ext e13; replace ho := ho.ext e13
       have z17 := e13.size
       refine J_append sl27 rfl rfl ho (Src.ofBlk h6 rfl) rfl (by first | (simp only [sum_flat, List.length_nil, List.length_cons]; simp only [Enc.sz]; omega) | (have h := filt_len xs (fun y => !(slot x y)) k; simp only [show Enc.sz Cell = 4 from rfl] at h; simp only [List.length_cons, List.length_nil]; omega)) (by decide) (by omega) (by omega) rfl rfl (fun v5 w22 m3 ho5 => ?_)
       replace E := E.step m3 (fun g hg => by have := Own.blk ho g hg; omega); replace h1 := h1.mod m3 (fun g hg => by have := Own.blk ho g hg; omega); replace ho1 := ho1.mod m3 (fun g hg => by have := Own.blk ho g hg; omega)
       have z18 := m3.size
       refine J_st (R_assign rfl) rfl (J_done ?_)
       refine S_nil (E_inB ?_)
       refine S_reg [true, true, true] rfl rfl ?_
       refine J_st (R_move rfl) rfl (J_st (R_add rfl rfl (add_one hc9n hxs.1)) rfl (J_st (R_assign rfl) rfl (J_done ?_)))
       refine S_nil (E_again (k + 1, v5) (by simp; omega) ⟨rfl, rfl, rfl, rfl, rfl, rfl, rfl, trivial⟩ ⟨E, (by omega), h1, ho1, (by omega), Own.fin ho5 (Nat.le_refl _) (by omega) (filt_yes (by assumption) (ns_yes (by assumption)))⟩)
      ·refine S_skip ?_
       refine S_nil (E_inB ?_)
       refine S_reg [true, true, true] rfl rfl ?_
       refine J_st (R_move rfl) rfl (J_st (R_add rfl rfl (add_one hc9n hxs.1)) rfl (J_st (R_assign rfl) rfl (J_done ?_)))
       refine S_nil (E_again (k + 1, vo) (by simp; omega) ⟨rfl, rfl, rfl, rfl, rfl, rfl, rfl, trivial⟩ ⟨E, (by omega), h1, ho1, (by omega), Own.fin ho (Nat.le_refl _) (by omega) (filt_no (by assumption) (ns_no (by assumption)))⟩)
     ·have hc9n : ¬ k < xs.length := by first | (have h := of_decide_eq_false hc9; omega) | (have h := hc9; simp at h; omega)
      refine S_exit (E_lp_exit (E_inB_exit ?_))
      refine S_seq ?_
      refine S_reg [true, true, false, true, true] rfl rfl ?_
      refine J_st (R_move rfl) rfl (J_st (R_loadS st56 rfl h1.at rfl) rfl ?_)
      refine J_call Try.call79 rfl (s_PutCell vo ((xs.take k).filter (fun y => !(slot x y))) x _ (Own.rd (by decide) ho) (by have h1 := List.length_filter_le (fun y => !(slot x y)) (xs.take k); simp only [List.length_take] at h1; omega)) rfl (fun v6 w23 e14 ho6 => ?_)
      have g_ho6 : w.heap.size ≤ w18.heap.size := E.size
      replace E := E.trans e14; replace h1 := h1.ext e14; replace ho1 := ho1.ext e14; replace ho := ho.ext e14
      have z19 := e14.size
      refine J_st (R_assign rfl) rfl (J_st (R_assign rfl) rfl (J_done ?_))
      refine S_ret (E_inB_ret (E_doneN (l := [.tmp 6, .tmp 7]) (vs := [v6, .bool true]) rfl ⟨.tmp rfl, .tmp rfl, trivial⟩ rfl E ?_))
      rw [recallM_b (.inr (by assumption)), betterM_no (by assumption)]
      exact ⟨_, rfl, Own.fin ho6 (by omega) (by omega) (by simp only [List.nil_append, List.take_of_length_le (show xs.length ≤ k by omega)] <;> rfl)⟩
   ·refine S_skip ?_
    refine S_nil (E_inB ?_)
    refine S_seq ?_
    refine S_reg [true, true, true] rfl rfl ?_
    refine J_st (R_move rfl) rfl (J_st (R_assign rfl) rfl (J_st (R_assign rfl) rfl (J_done ?_)))
    refine S_ret (E_doneN (l := [.tmp 6, .tmp 7]) (vs := [v1, .bool true]) rfl ⟨.tmp rfl, .tmp rfl, trivial⟩ rfl E ?_)
    rw [recallM_o (by assumption) (by assumption) (by assumption)]
    exact ⟨_, rfl, Own.fin ho1 (by omega) (by omega) (by first | rfl | simp only [List.nil_append])⟩

set_option maxRecDepth 20000 in
theorem s_l02Less (a : Int) (b : Int) (w : World)  : Ct Try.prog 77 [.int .i64 a, .int .i64 b] w (fun v _ => v = .int .i64 (if b < a then b else a)) := by
 refine ct_of Try.func77 rfl Try.ntmps77 rfl ?_
 refine S_sub [(0, .int .i64 a), (1, .int .i64 b)] ⟨rfl, rfl, trivial⟩ ?_
 have E : Ext w w := Ext.refl w
 refine S_seq ?_
 refine S_reg [true] rfl rfl ?_
 refine J_st (R_assign rfl) rfl (J_done ?_)
 refine S_seq ?_
 refine S_seq ?_
 refine S_reg [true, true, true] rfl rfl ?_
 refine J_st (R_move rfl) rfl (J_st (R_move rfl) rfl (J_st (R_lss rfl rfl) rfl (J_done ?_)))
 refine S_cond rfl (fun hc1 => ?_) (fun hc1 => ?_)
 ·refine S_seq ?_
  refine S_reg [true, true] rfl rfl ?_
  refine J_st (R_move rfl) rfl (J_st (R_assign rfl) rfl (J_done ?_))
  refine S_ret (E_done1 rfl rfl E ?_)
  rw [if_pos (of_decide_eq_true hc1)]
 ·refine S_skip ?_
  refine S_seq ?_
  refine S_reg [true, true] rfl rfl ?_
  refine J_st (R_move rfl) rfl (J_st (R_assign rfl) rfl (J_done ?_))
  refine S_ret (E_done1 rfl rfl E ?_)
  rw [if_neg (of_decide_eq_false hc1)]

set_option maxRecDepth 20000 in
theorem c_Changed (cx : List Value) (x : Node) (a : Int) (b : Int) (w : World) (hx : Dat.R w 0 w.heap.size cx x) : Ct Try.prog 45 [.agg cx.toArray, .int .i64 a, .int .i64 b] w (fun v _ => v = .tuple [.int .i64 ((changedM x a b).1), .int .i64 ((changedM x a b).2.1), .bool ((changedM x a b).2.2)].toArray) := by
 refine ct_of Try.func45 rfl Try.ntmps45 rfl ?_
 obtain ⟨o1, rfl, hd1⟩ := Node.op hx
 refine S_sub [(0, .agg [.int .i64 x.kind, .int .i64 x.a, .int .i64 x.b, o1].toArray), (1, .int .i64 a), (2, .int .i64 b)] ⟨rfl, rfl, rfl, trivial⟩ ?_
 have E : Ext w w := Ext.refl w
 refine S_seq ?_
 refine S_reg [false, true, true, true] rfl rfl ?_
 refine J_box rfl rfl (fun b1 w1 e1 s1 h1 => ?_)
 have g_b1 : w.heap.size ≤ b1 := by have := E.size; omega
 have y_b1 := h1.lt
 replace E := E.trans e1
 have z1 := e1.size
 refine J_st (R_assign rfl) rfl (J_st (R_assign rfl) rfl (J_st (R_assign rfl) rfl (J_done ?_)))
 refine S_seq ?_
 refine S_seq ?_
 refine S_reg [true, false, true, true, true, true, false, true, true] rfl rfl ?_
 refine J_st (R_loadS st42 rfl h1.at rfl) rfl ?_
 refine J_call Try.call73 rfl (c_NodeOk [.int .i64 x.kind, .int .i64 x.a, .int .i64 x.b, o1] x _ (Node.mkR x (RdD.any (hd1.ext E)))) rfl (fun _ w2 e2 hv => ?_)
 subst hv
 replace E := E.trans e2; replace h1 := h1.ext e2
 have z2 := e2.size
 refine J_st (R_not rfl) rfl (J_st (R_move rfl) rfl ?_)
 refine J_cut 5 [(0, .agg [.int .i64 x.kind, .int .i64 x.a, .int .i64 x.b, o1].toArray), (1, .int .i64 a), (2, .int .i64 b), (3, .pointer (some ⟨b1, 0, none⟩)), (6, .int .i64 0), (7, .int .i64 0), (8, .bool false), (17, .bool ((!(nodeOk x)) || (!(win a 0 99 && win b 0 999))))] (fun w' => Ext w w' ∧ w2.heap.size ≤ w'.heap.size ∧ Blk w' b1 ([.int .i64 x.kind, .int .i64 x.a, .int .i64 x.b, o1])) ?_ ?_
 ·refine J_if (gd := 12) rfl rfl (fun hg1 => ?_) (fun hg1 => ?_)
  ·refine J_gdno rfl rfl rfl rfl (J_gdno rfl rfl rfl rfl ?_)
   refine J_ungno rfl rfl rfl rfl ?_
   refine J_gdno rfl rfl rfl rfl (J_st (R_pickT rfl rfl) rfl (J_cutEnd ⟨rfl, rfl, rfl, rfl, rfl, rfl, rfl, congrArg (fun b => some (Value.bool b)) (show true = ((!(nodeOk x)) || (!(win a 0 99 && win b 0 999))) by first | (rw [hg1] <;> rfl) | (simp [hg1]; done) | (simp only [nat_nlt] <;> simp)), trivial⟩ ⟨E, (by omega), h1⟩))
  ·refine J_gd rfl rfl (R_move rfl) rfl (J_gd rfl rfl (R_move rfl) rfl ?_)
   refine J_ung rfl rfl ?_
   refine J_call Try.call65 rfl (c_itemOk a b _ ) rfl (fun _ w4 e3 hv => ?_)
   subst hv
   replace E := E.trans e3; replace h1 := h1.ext e3
   have z3 := e3.size
   refine J_gd rfl rfl (R_not rfl) rfl (J_st (R_pickF rfl rfl) rfl (J_cutEnd ⟨rfl, rfl, rfl, rfl, rfl, rfl, rfl, congrArg (fun b => some (Value.bool b)) (show (!(win a 0 99 && win b 0 999)) = ((!(nodeOk x)) || (!(win a 0 99 && win b 0 999))) by first | (rw [hg1] <;> rfl) | (simp [hg1]; done) | (simp only [nat_nlt] <;> simp)), trivial⟩ ⟨E, (by omega), h1⟩))
 clear E h1
 rintro w3 ⟨E, z4, h1⟩
 refine J_done ?_
 refine S_cond rfl (fun hc1 => ?_) (fun hc1 => ?_)
 ·refine S_seq ?_
  refine S_reg [true, true, true, true, true] rfl rfl ?_
  refine J_st (R_move rfl) rfl (J_st (R_move rfl) rfl (J_st (R_assign rfl) rfl (J_st (R_assign rfl) rfl (J_st (R_assign rfl) rfl (J_done ?_)))))
  refine S_ret (E_doneN (l := [.tmp 6, .tmp 7, .tmp 8]) (vs := [.int .i64 a, .int .i64 b, .bool false]) rfl ⟨.tmp rfl, .tmp rfl, .tmp rfl, trivial⟩ rfl E ?_)
  rw [ch_0 (by assumption)]
 ·have hno := ch_ok hc1
  refine S_skip ?_
  refine S_seq ?_
  refine S_seq ?_
  refine S_reg [true, true] rfl rfl ?_
  refine J_st (R_fieldAddr0 fl42_0 rfl) rfl (J_st (R_load sc3 rfl (h1.one 0 rfl)) rfl (J_done ?_))
  refine S_block ?_
  refine S_seq ?_
  refine S_reg [true, true] rfl rfl ?_
  refine J_st (R_eql rfl rfl) rfl (J_st (R_assign rfl) rfl (J_done ?_))
  refine S_cond rfl (fun hc2 => ?_) (fun hc2 => ?_)
  ·refine S_seq ?_
   refine S_regD mixed [(0, true), (1, true), (2, true), (3, true), (4, true), (5, true), (6, true), (7, true), (8, true)] (by decide +kernel) rfl (fun w5 e4 => ?_)
   replace E := E.trans e4; replace h1 := h1.ext e4
   have z5 := e4.size
   refine J_st (R_move rfl) rfl (J_st (R_move rfl) rfl (J_st (R_fieldAddr0 fl42_1 rfl) rfl (J_st (R_load sc3 rfl (h1.one 1 rfl)) rfl (J_st (R_add rfl rfl rfl) rfl (J_st (R_min rfl rfl) rfl (J_st (R_assign rfl) rfl (J_st (R_assign rfl) rfl (J_st (R_assign rfl) rfl (J_done ?_)))))))))
   refine S_ret (E_inB_ret (E_doneN (l := [.tmp 6, .tmp 7, .tmp 8]) (vs := [.int .i64 a, .int .i64 (if (IntKind.i64.wrap (b + x.a)) < 999 then (IntKind.i64.wrap (b + x.a)) else 999), .bool true]) rfl ⟨.tmp rfl, .tmp rfl, .tmp rfl, trivial⟩ rfl E ?_))
   rw [ch_2 (by assumption) (by assumption)]
  ·refine S_seq ?_
   refine S_reg [true, true] rfl rfl ?_
   refine J_st (R_eql rfl rfl) rfl (J_st (R_assign rfl) rfl (J_done ?_))
   refine S_cond rfl (fun hc3 => ?_) (fun hc3 => ?_)
   ·refine S_seq ?_
    refine S_reg [true, true, true, true, true, true, true, true, true] rfl rfl ?_
    refine J_st (R_move rfl) rfl (J_st (R_fieldAddr0 fl42_1 rfl) rfl (J_st (R_load sc3 rfl (h1.one 1 rfl)) rfl (J_st (R_add rfl rfl rfl) rfl (J_st (R_rem rfl rfl (by decide) rfl) rfl (J_st (R_move rfl) rfl (J_st (R_assign rfl) rfl (J_st (R_assign rfl) rfl (J_st (R_assign rfl) rfl (J_done ?_)))))))))
    refine S_ret (E_inB_ret (E_doneN (l := [.tmp 6, .tmp 7, .tmp 8]) (vs := [.int .i64 (Int.tmod (IntKind.i64.wrap (a + x.a)) 100), .int .i64 b, .bool true]) rfl ⟨.tmp rfl, .tmp rfl, .tmp rfl, trivial⟩ rfl E ?_))
    rw [ch_4 (by assumption) (by assumption)]
   ·refine S_seq ?_
    refine S_reg [true, true] rfl rfl ?_
    refine J_st (R_eql rfl rfl) rfl (J_st (R_assign rfl) rfl (J_done ?_))
    refine S_cond rfl (fun hc4 => ?_) (fun hc4 => ?_)
    ·have hna := node_a3 hno hc4
     refine S_seq ?_
     refine S_regD mixed [(0, true), (1, true), (2, true), (3, true), (4, true), (5, true), (6, true), (7, true), (8, true), (9, true), (10, true), (11, true)] (by decide +kernel) rfl (fun w6 e5 => ?_)
     replace E := E.trans e5; replace h1 := h1.ext e5
     have z6 := e5.size
     refine J_st (R_move rfl) rfl (J_st (R_move rfl) rfl (J_st (R_move rfl) rfl (J_st (R_fieldAddr0 fl42_1 rfl) rfl (J_st (R_load sc3 rfl (h1.one 1 rfl)) rfl (J_st (R_rem rfl rfl (by omega) rfl) rfl (J_st (R_fieldAddr0 fl42_2 rfl) rfl (J_st (R_load sc3 rfl (h1.one 2 rfl)) rfl (J_st (R_eql rfl rfl) rfl (J_st (R_assign rfl) rfl (J_st (R_assign rfl) rfl (J_st (R_assign rfl) rfl (J_done ?_))))))))))))
     refine S_ret (E_inB_ret (E_doneN (l := [.tmp 6, .tmp 7, .tmp 8]) (vs := [.int .i64 a, .int .i64 b, .bool ((Int.tmod a x.a) == x.b)]) rfl ⟨.tmp rfl, .tmp rfl, .tmp rfl, trivial⟩ rfl E ?_))
     rw [ch_3 (by assumption) (by assumption)]
    ·refine S_skip ?_
     refine S_nil (E_inB ?_)
     refine S_seq ?_
     refine S_regD mixed [(0, true), (1, true), (2, true), (3, true), (4, true), (5, true), (6, true), (7, true)] (by decide +kernel) rfl (fun w7 e6 => ?_)
     replace E := E.trans e6; replace h1 := h1.ext e6
     have z7 := e6.size
     refine J_st (R_move rfl) rfl (J_st (R_move rfl) rfl (J_st (R_fieldAddr0 fl42_0 rfl) rfl (J_st (R_load sc3 rfl (h1.one 0 rfl)) rfl (J_st (R_neq rfl rfl) rfl (J_st (R_assign rfl) rfl (J_st (R_assign rfl) rfl (J_st (R_assign rfl) rfl (J_done ?_))))))))
     refine S_ret (E_doneN (l := [.tmp 6, .tmp 7, .tmp 8]) (vs := [.int .i64 a, .int .i64 b, .bool (x.kind != 8)]) rfl ⟨.tmp rfl, .tmp rfl, .tmp rfl, trivial⟩ rfl E ?_)
     rw [ch_o (by assumption) (by assumption) (by assumption) (by assumption)]

set_option maxRecDepth 20000 in
theorem s_Changed (cx : List Value) (x : Node) (a : Int) (b : Int) (w : World) (hx : Dat.R w 0 w.heap.size cx x) : Ct Try.prog 49 [.agg cx.toArray, .int .i64 a, .int .i64 b] w (fun v _ => v = .tuple [.int .i64 ((changedM x a b).1), .int .i64 ((changedM x a b).2.1), .bool ((changedM x a b).2.2)].toArray) := by
 refine ct_of Try.func49 rfl Try.ntmps49 rfl ?_
 obtain ⟨o1, rfl, hd1⟩ := Node.op hx
 refine S_sub [(0, .agg [.int .i64 x.kind, .int .i64 x.a, .int .i64 x.b, o1].toArray), (1, .int .i64 a), (2, .int .i64 b)] ⟨rfl, rfl, rfl, trivial⟩ ?_
 have E : Ext w w := Ext.refl w
 refine S_seq ?_
 refine S_reg [false, true, true, true] rfl rfl ?_
 refine J_box rfl rfl (fun b1 w1 e1 s1 h1 => ?_)
 have g_b1 : w.heap.size ≤ b1 := by have := E.size; omega
 have y_b1 := h1.lt
 replace E := E.trans e1
 have z1 := e1.size
 refine J_st (R_assign rfl) rfl (J_st (R_assign rfl) rfl (J_st (R_assign rfl) rfl (J_done ?_)))
 refine S_seq ?_
 refine S_seq ?_
 refine S_reg [true, false, true, true, true, false, true, true, true, true, false, true, true] rfl rfl ?_
 refine J_st (R_loadS st42 rfl h1.at rfl) rfl ?_
 refine J_call Try.call69 rfl (s_NodeOk [.int .i64 x.kind, .int .i64 x.a, .int .i64 x.b, o1] x _ (Node.mkR x (RdD.any (hd1.ext E)))) rfl (fun _ w2 e2 hv => ?_)
 subst hv
 replace E := E.trans e2; replace h1 := h1.ext e2
 have z2 := e2.size
 refine J_st (R_not rfl) rfl (J_st (R_move rfl) rfl ?_)
 refine J_cut 9 [(0, .agg [.int .i64 x.kind, .int .i64 x.a, .int .i64 x.b, o1].toArray), (1, .int .i64 a), (2, .int .i64 b), (3, .pointer (some ⟨b1, 0, none⟩)), (6, .int .i64 0), (7, .int .i64 0), (8, .bool false), (21, .bool (((!(nodeOk x)) || (!(win a 0 99))) || (!(win b 0 999))))] (fun w' => Ext w w' ∧ w2.heap.size ≤ w'.heap.size ∧ Blk w' b1 ([.int .i64 x.kind, .int .i64 x.a, .int .i64 x.b, o1])) ?_ ?_
 ·refine J_if (gd := 12) rfl rfl (fun hg1 => ?_) (fun hg1 => ?_)
  ·refine J_gdno rfl rfl rfl rfl ?_
   refine J_ungno rfl rfl rfl rfl ?_
   refine J_gdno rfl rfl rfl rfl (J_st (R_pickT rfl rfl) rfl (J_st (R_move rfl) rfl (J_gdno rfl rfl rfl rfl ?_)))
   refine J_ungno rfl rfl rfl rfl ?_
   refine J_gdno rfl rfl rfl rfl (J_st (R_pickT rfl rfl) rfl (J_cutEnd ⟨rfl, rfl, rfl, rfl, rfl, rfl, rfl, congrArg (fun b => some (Value.bool b)) (show true = (((!(nodeOk x)) || (!(win a 0 99))) || (!(win b 0 999))) by first | (rw [hg1] <;> rfl) | (simp [hg1]; done) | (simp only [nat_nlt] <;> simp)), trivial⟩ ⟨E, (by omega), h1⟩))
  ·refine J_gd rfl rfl (R_move rfl) rfl ?_
   refine J_ung rfl rfl ?_
   refine J_call Try.call53 rfl (s_l01In a 0 99 _ ) rfl (fun _ w4 e3 hv => ?_)
   subst hv
   replace E := E.trans e3; replace h1 := h1.ext e3
   have z3 := e3.size
   refine J_gd rfl rfl (R_not rfl) rfl (J_st (R_pickF rfl rfl) rfl (J_st (R_move rfl) rfl ?_))
   refine J_if (gd := 17) rfl rfl (fun hg2 => ?_) (fun hg2 => ?_)
   ·refine J_gdno rfl rfl rfl rfl ?_
    refine J_ungno rfl rfl rfl rfl ?_
    refine J_gdno rfl rfl rfl rfl (J_st (R_pickT rfl rfl) rfl (J_cutEnd ⟨rfl, rfl, rfl, rfl, rfl, rfl, rfl, congrArg (fun b => some (Value.bool b)) (show true = (((!(nodeOk x)) || (!(win a 0 99))) || (!(win b 0 999))) by first | (rw [hg1, hg2] <;> rfl) | (simp [hg1, hg2]; done) | (simp only [nat_nlt] <;> simp)), trivial⟩ ⟨E, (by omega), h1⟩))
   ·refine J_gd rfl rfl (R_move rfl) rfl ?_
    refine J_ung rfl rfl ?_
    refine J_call Try.call53 rfl (s_l01In b 0 999 _ ) rfl (fun _ w5 e4 hv => ?_)
    subst hv
    replace E := E.trans e4; replace h1 := h1.ext e4
    have z4 := e4.size
    refine J_gd rfl rfl (R_not rfl) rfl (J_st (R_pickF rfl rfl) rfl (J_cutEnd ⟨rfl, rfl, rfl, rfl, rfl, rfl, rfl, congrArg (fun b => some (Value.bool b)) (show (!(win b 0 999)) = (((!(nodeOk x)) || (!(win a 0 99))) || (!(win b 0 999))) by first | (rw [hg1, hg2] <;> rfl) | (simp [hg1, hg2]; done) | (simp only [nat_nlt] <;> simp)), trivial⟩ ⟨E, (by omega), h1⟩))
 clear E h1
 rintro w3 ⟨E, z5, h1⟩
 refine J_done ?_
 refine S_cond rfl (fun hc1 => ?_) (fun hc1 => ?_)
 ·replace hc1 := ch_st hc1
  refine S_seq ?_
  refine S_reg [true, true, true, true, true] rfl rfl ?_
  refine J_st (R_move rfl) rfl (J_st (R_move rfl) rfl (J_st (R_assign rfl) rfl (J_st (R_assign rfl) rfl (J_st (R_assign rfl) rfl (J_done ?_)))))
  refine S_ret (E_doneN (l := [.tmp 6, .tmp 7, .tmp 8]) (vs := [.int .i64 a, .int .i64 b, .bool false]) rfl ⟨.tmp rfl, .tmp rfl, .tmp rfl, trivial⟩ rfl E ?_)
  rw [ch_0 (by assumption)]
 ·replace hc1 := ch_s hc1
  have hno := ch_ok hc1
  refine S_skip ?_
  refine S_seq ?_
  refine S_seq ?_
  refine S_reg [true, true] rfl rfl ?_
  refine J_st (R_fieldAddr0 fl42_0 rfl) rfl (J_st (R_load sc3 rfl (h1.one 0 rfl)) rfl (J_done ?_))
  refine S_block ?_
  refine S_seq ?_
  refine S_reg [true, true] rfl rfl ?_
  refine J_st (R_eql rfl rfl) rfl (J_st (R_assign rfl) rfl (J_done ?_))
  refine S_cond rfl (fun hc2 => ?_) (fun hc2 => ?_)
  ·refine S_seq ?_
   refine S_reg [true, true, true, true, true, false, true, true, true] rfl rfl ?_
   refine J_st (R_move rfl) rfl (J_st (R_move rfl) rfl (J_st (R_fieldAddr0 fl42_1 rfl) rfl (J_st (R_load sc3 rfl (h1.one 1 rfl)) rfl (J_st (R_add rfl rfl rfl) rfl ?_))))
   refine J_call Try.call77 rfl (s_l02Less (IntKind.i64.wrap (b + x.a)) 999 _ ) rfl (fun _ w6 e5 hv => ?_)
   subst hv
   replace E := E.trans e5; replace h1 := h1.ext e5
   have z6 := e5.size
   refine J_st (R_assign rfl) rfl (J_st (R_assign rfl) rfl (J_st (R_assign rfl) rfl (J_done ?_)))
   refine S_ret (E_inB_ret (E_doneN (l := [.tmp 6, .tmp 7, .tmp 8]) (vs := [.int .i64 a, .int .i64 (if 999 < (IntKind.i64.wrap (b + x.a)) then 999 else (IntKind.i64.wrap (b + x.a))), .bool true]) rfl ⟨.tmp rfl, .tmp rfl, .tmp rfl, trivial⟩ rfl E ?_))
   rw [ch_2 (by assumption) (by assumption), min_999]
  ·refine S_seq ?_
   refine S_reg [true, true] rfl rfl ?_
   refine J_st (R_eql rfl rfl) rfl (J_st (R_assign rfl) rfl (J_done ?_))
   refine S_cond rfl (fun hc3 => ?_) (fun hc3 => ?_)
   ·refine S_seq ?_
    refine S_reg [true, true, true, true, true, true, true, true, true] rfl rfl ?_
    refine J_st (R_move rfl) rfl (J_st (R_fieldAddr0 fl42_1 rfl) rfl (J_st (R_load sc3 rfl (h1.one 1 rfl)) rfl (J_st (R_add rfl rfl rfl) rfl (J_st (R_rem rfl rfl (by decide) rfl) rfl (J_st (R_move rfl) rfl (J_st (R_assign rfl) rfl (J_st (R_assign rfl) rfl (J_st (R_assign rfl) rfl (J_done ?_)))))))))
    refine S_ret (E_inB_ret (E_doneN (l := [.tmp 6, .tmp 7, .tmp 8]) (vs := [.int .i64 (Int.tmod (IntKind.i64.wrap (a + x.a)) 100), .int .i64 b, .bool true]) rfl ⟨.tmp rfl, .tmp rfl, .tmp rfl, trivial⟩ rfl E ?_))
    rw [ch_4 (by assumption) (by assumption)]
   ·refine S_seq ?_
    refine S_reg [true, true] rfl rfl ?_
    refine J_st (R_eql rfl rfl) rfl (J_st (R_assign rfl) rfl (J_done ?_))
    refine S_cond rfl (fun hc4 => ?_) (fun hc4 => ?_)
    ·have hna := node_a3 hno hc4
     refine S_seq ?_
     refine S_regD mixed [(0, true), (1, true), (2, true), (3, true), (4, true), (5, true), (6, true), (7, true), (8, true), (9, true), (10, true), (11, true)] (by decide +kernel) rfl (fun w7 e6 => ?_)
     replace E := E.trans e6; replace h1 := h1.ext e6
     have z7 := e6.size
     refine J_st (R_move rfl) rfl (J_st (R_move rfl) rfl (J_st (R_move rfl) rfl (J_st (R_fieldAddr0 fl42_1 rfl) rfl (J_st (R_load sc3 rfl (h1.one 1 rfl)) rfl (J_st (R_rem rfl rfl (by omega) rfl) rfl (J_st (R_fieldAddr0 fl42_2 rfl) rfl (J_st (R_load sc3 rfl (h1.one 2 rfl)) rfl (J_st (R_eql rfl rfl) rfl (J_st (R_assign rfl) rfl (J_st (R_assign rfl) rfl (J_st (R_assign rfl) rfl (J_done ?_))))))))))))
     refine S_ret (E_inB_ret (E_doneN (l := [.tmp 6, .tmp 7, .tmp 8]) (vs := [.int .i64 a, .int .i64 b, .bool ((Int.tmod a x.a) == x.b)]) rfl ⟨.tmp rfl, .tmp rfl, .tmp rfl, trivial⟩ rfl E ?_))
     rw [ch_3 (by assumption) (by assumption)]
    ·refine S_skip ?_
     refine S_nil (E_inB ?_)
     refine S_seq ?_
     refine S_regD mixed [(0, true), (1, true), (2, true), (3, true), (4, true), (5, true), (6, true), (7, true)] (by decide +kernel) rfl (fun w8 e7 => ?_)
     replace E := E.trans e7; replace h1 := h1.ext e7
     have z8 := e7.size
     refine J_st (R_move rfl) rfl (J_st (R_move rfl) rfl (J_st (R_fieldAddr0 fl42_0 rfl) rfl (J_st (R_load sc3 rfl (h1.one 0 rfl)) rfl (J_st (R_neq rfl rfl) rfl (J_st (R_assign rfl) rfl (J_st (R_assign rfl) rfl (J_st (R_assign rfl) rfl (J_done ?_))))))))
     refine S_ret (E_doneN (l := [.tmp 6, .tmp 7, .tmp 8]) (vs := [.int .i64 a, .int .i64 b, .bool (x.kind != 8)]) rfl ⟨.tmp rfl, .tmp rfl, .tmp rfl, trivial⟩ rfl E ?_)
     rw [ch_o (by assumption) (by assumption) (by assumption) (by assumption)]

set_option maxRecDepth 20000 in
theorem s_Remembers (k : Int) (w : World)  : Ct Try.prog 50 [.int .i64 k] w (fun v _ => v = .bool (((k == 5) || (k == 6)) || (k == 8))) := by
 refine ct_of Try.func50 rfl Try.ntmps50 rfl ?_
 refine S_sub [(0, .int .i64 k)] ⟨rfl, trivial⟩ ?_
 have E : Ext w w := Ext.refl w
 refine S_seq ?_
 refine S_reg [true] rfl rfl ?_
 refine J_st (R_assign rfl) rfl (J_done ?_)
 refine S_seq ?_
 refine S_reg [true, true, true, true, true, true, true, true, true, true, true] rfl rfl ?_
 refine J_st (R_move rfl) rfl (J_st (R_eql rfl rfl) rfl (J_st (R_move rfl) rfl ?_))
 refine J_cut 7 [(0, .int .i64 k), (2, .bool false), (12, .bool (((k == 5) || (k == 6)) || (k == 8)))] (fun w' => w = w') ?_ ?_
 ·refine J_if (gd := 5) rfl rfl (fun hg1 => ?_) (fun hg1 => ?_)
  ·refine J_gdno rfl rfl rfl rfl (J_gdno rfl rfl rfl rfl (J_st (R_pickT rfl rfl) rfl (J_st (R_move rfl) rfl (J_gdno rfl rfl rfl rfl (J_gdno rfl rfl rfl rfl (J_st (R_pickT rfl rfl) rfl (J_cutEnd ⟨rfl, rfl, congrArg (fun b => some (Value.bool b)) (show true = (((k == 5) || (k == 6)) || (k == 8)) by first | (rw [hg1] <;> rfl) | (simp [hg1]; done) | (simp only [nat_nlt] <;> simp)), trivial⟩ rfl)))))))
  ·refine J_gd rfl rfl (R_move rfl) rfl (J_gd rfl rfl (R_eql rfl rfl) rfl (J_st (R_pickF rfl rfl) rfl (J_st (R_move rfl) rfl ?_)))
   refine J_if (gd := 9) rfl rfl (fun hg2 => ?_) (fun hg2 => ?_)
   ·refine J_gdno rfl rfl rfl rfl (J_gdno rfl rfl rfl rfl (J_st (R_pickT rfl rfl) rfl (J_cutEnd ⟨rfl, rfl, congrArg (fun b => some (Value.bool b)) (show true = (((k == 5) || (k == 6)) || (k == 8)) by first | (rw [hg1, hg2] <;> rfl) | (simp [hg1, hg2]; done) | (simp only [nat_nlt] <;> simp)), trivial⟩ rfl)))
   ·refine J_gd rfl rfl (R_move rfl) rfl (J_gd rfl rfl (R_eql rfl rfl) rfl (J_st (R_pickF rfl rfl) rfl (J_cutEnd ⟨rfl, rfl, congrArg (fun b => some (Value.bool b)) (show (k == 8) = (((k == 5) || (k == 6)) || (k == 8)) by first | (rw [hg1, hg2] <;> rfl) | (simp [hg1, hg2]; done) | (simp only [nat_nlt] <;> simp)), trivial⟩ rfl)))
 rintro _ rfl
 refine J_st (R_assign rfl) rfl (J_done ?_)
 refine S_ret (E_done1 rfl rfl E ?_)
 rfl

set_option maxHeartbeats 4000000 in
set_option maxRecDepth 20000 in
theorem c_StepOp (cg : List Value) (g : Graph) (vcs : Value) (cs : List Cell) (r : Record) (w : World) (hg : Dat.R w 0 w.heap.size cg g) (hcs : RdS w vcs cs) (hb : cs.length ≤ 4194304) : Ct Try.prog 7 [.agg cg.toArray, vcs, .agg (Enc.enc r).toArray] w (fun v w' => ∃ u0 u1, v = .tuple [u0, u1, .bool ((stepM g cs r).2.2)].toArray ∧ Own w' w.heap.size w'.heap.size 4 u0 (List.flatMap (Enc.enc (α := Cell)) ((stepM g cs r).1)) ∧ Own w' w.heap.size w'.heap.size 5 u1 (List.flatMap (Enc.enc (α := Record)) ((stepM g cs r).2.1)) ∧ SepL [u0, u1]) := by
 refine ct_of Try.func7 rfl Try.ntmps7 rfl ?_
 obtain ⟨o1, rfl, hd1⟩ := Graph.op hg
 refine S_sub [(0, .agg [o1, .int .i64 g.workers, .int .i64 g.cap].toArray), (1, vcs), (2, .agg (Enc.enc r).toArray)] ⟨rfl, rfl, rfl, trivial⟩ ?_
 have E : Ext w w := Ext.refl w
 refine S_seq ?_
 refine S_reg [false, false, true, true, true] rfl rfl ?_
 refine J_box rfl rfl (fun b1 w1 e1 s1 h1 => ?_)
 have g_b1 : w.heap.size ≤ b1 := by have := E.size; omega
 have y_b1 := h1.lt
 replace E := E.trans e1
 have z1 := e1.size
 refine J_box rfl rfl (fun b2 w2 e2 s2 h2 => ?_)
 have g_b2 : w.heap.size ≤ b2 := by have := E.size; omega
 have y_b2 := h2.lt
 replace E := E.trans e2; replace h1 := h1.ext e2
 have z2 := e2.size
 refine J_st (R_assign rfl) rfl (J_st (R_assign rfl) rfl (J_st (R_assign rfl) rfl (J_done ?_)))
 refine S_seq ?_
 refine S_seq ?_
 refine S_reg [true, false, true, true, true, false, true, true, true, true, true, true, false, true, true] rfl rfl ?_
 refine J_st (R_loadS st26 rfl h1.at rfl) rfl ?_
 refine J_call Try.call41 rfl (c_GraphOk [o1, .int .i64 g.workers, .int .i64 g.cap] g _ (Graph.mkR g (RdD.any (hd1.ext E)))) rfl (fun _ w3 e3 hv => ?_)
 subst hv
 replace E := E.trans e3; replace h1 := h1.ext e3; replace h2 := h2.ext e3
 have z3 := e3.size
 refine J_st (R_not rfl) rfl (J_st (R_move rfl) rfl ?_)
 refine J_cut 11 [(0, .agg [o1, .int .i64 g.workers, .int .i64 g.cap].toArray), (1, vcs), (2, .agg (Enc.enc r).toArray), (3, .pointer (some ⟨b1, 0, none⟩)), (5, .pointer (some ⟨b2, 0, none⟩)), (6, .slice none 0 0), (7, .slice none 0 0), (8, .bool false), (33, .bool (((!(graphOk g)) || (!(recordOk r))) || (!(isNodeM g r.op))))] (fun w' => Ext w w' ∧ w3.heap.size ≤ w'.heap.size ∧ Blk w' b1 ([o1, .int .i64 g.workers, .int .i64 g.cap]) ∧ Blk w' b2 (Enc.enc r)) ?_ ?_
 ·refine J_if (gd := 22) rfl rfl (fun hg1 => ?_) (fun hg1 => ?_)
  ·refine J_gdno rfl rfl rfl rfl ?_
   refine J_ungno rfl rfl rfl rfl ?_
   refine J_gdno rfl rfl rfl rfl (J_st (R_pickT rfl rfl) rfl (J_st (R_move rfl) rfl (J_gdno rfl rfl rfl rfl (J_gdno rfl rfl rfl rfl (J_gdno rfl rfl rfl rfl ?_)))))
   refine J_ungno rfl rfl rfl rfl ?_
   refine J_gdno rfl rfl rfl rfl (J_st (R_pickT rfl rfl) rfl (J_cutEnd ⟨rfl, rfl, rfl, rfl, rfl, rfl, rfl, rfl, congrArg (fun b => some (Value.bool b)) (show true = (((!(graphOk g)) || (!(recordOk r))) || (!(isNodeM g r.op))) by first | (rw [hg1] <;> rfl) | (simp [hg1]; done) | (simp only [nat_nlt] <;> simp)), trivial⟩ ⟨E, (by omega), h1, h2⟩))
  ·refine J_gd rfl rfl (R_loadS st31 rfl h2.at rfl) rfl ?_
   refine J_ung rfl rfl ?_
   refine J_call Try.call42 rfl (c_RecordOk r _ ) rfl (fun _ w5 e4 hv => ?_)
   subst hv
   replace E := E.trans e4; replace h1 := h1.ext e4; replace h2 := h2.ext e4
   have z4 := e4.size
   refine J_gd rfl rfl (R_not rfl) rfl (J_st (R_pickF rfl rfl) rfl (J_st (R_move rfl) rfl ?_))
   refine J_if (gd := 27) rfl rfl (fun hg2 => ?_) (fun hg2 => ?_)
   ·refine J_gdno rfl rfl rfl rfl (J_gdno rfl rfl rfl rfl (J_gdno rfl rfl rfl rfl ?_))
    refine J_ungno rfl rfl rfl rfl ?_
    refine J_gdno rfl rfl rfl rfl (J_st (R_pickT rfl rfl) rfl (J_cutEnd ⟨rfl, rfl, rfl, rfl, rfl, rfl, rfl, rfl, congrArg (fun b => some (Value.bool b)) (show true = (((!(graphOk g)) || (!(recordOk r))) || (!(isNodeM g r.op))) by first | (rw [hg1, hg2] <;> rfl) | (simp [hg1, hg2]; done) | (simp only [nat_nlt] <;> simp)), trivial⟩ ⟨E, (by omega), h1, h2⟩))
   ·refine J_gd rfl rfl (R_loadS st26 rfl h1.at rfl) rfl (J_gd rfl rfl (R_fieldAddr0 fl31_0 rfl) rfl (J_gd rfl rfl (R_load sc3 rfl (h2.one 0 rfl)) rfl ?_))
    refine J_ung rfl rfl ?_
    refine J_call Try.call43 rfl (c_isNode [o1, .int .i64 g.workers, .int .i64 g.cap] g r.op _ (Graph.mkR g (RdD.any (hd1.ext E)))) rfl (fun _ w6 e5 hv => ?_)
    subst hv
    replace E := E.trans e5; replace h1 := h1.ext e5; replace h2 := h2.ext e5
    have z5 := e5.size
    refine J_gd rfl rfl (R_not rfl) rfl (J_st (R_pickF rfl rfl) rfl (J_cutEnd ⟨rfl, rfl, rfl, rfl, rfl, rfl, rfl, rfl, congrArg (fun b => some (Value.bool b)) (show (!(isNodeM g r.op)) = (((!(graphOk g)) || (!(recordOk r))) || (!(isNodeM g r.op))) by first | (rw [hg1, hg2] <;> rfl) | (simp [hg1, hg2]; done) | (simp only [nat_nlt] <;> simp)), trivial⟩ ⟨E, (by omega), h1, h2⟩))
 clear E h1 h2
 rintro w4 ⟨E, z6, h1, h2⟩
 refine J_done ?_
 refine S_cond rfl (fun hc1 => ?_) (fun hc1 => ?_)
 ·refine S_seq ?_
  refine S_reg [true, false, true, true, true] rfl rfl ?_
  refine J_st (R_move rfl) rfl ?_
  refine J_call Try.call44 rfl (c_copyCells vcs cs _ (hcs.ext E) (by first | omega | (simp only [mkL_length]; omega) | (rw [mkL_length]; done) | (simp only [mkL_length]; done))) rfl (fun v1 w7 e6 ho1 => ?_)
  have g_ho1 : w.heap.size ≤ w4.heap.size := E.size
  replace E := E.trans e6; replace h1 := h1.ext e6; replace h2 := h2.ext e6
  have z7 := e6.size
  refine J_st (R_assign rfl) rfl (J_st (R_assign rfl) rfl (J_st (R_assign rfl) rfl (J_done ?_)))
  refine S_ret (E_doneN (l := [.tmp 6, .tmp 7, .tmp 8]) (vs := [v1, .slice none 0 0, .bool false]) rfl ⟨.tmp rfl, .tmp rfl, .tmp rfl, trivial⟩ rfl E ?_)
  rw [st_0 hc1]
  exact ⟨_, _, rfl, Own.fin ho1 (by omega) (by omega) (by first | rfl | (simp only [List.nil_append]; done)), Own.finNil rfl, ⟨⟨(Sep.nilR _), trivial⟩, ⟨trivial, trivial⟩⟩⟩
 ·have hq := st_of hc1
  have hop := isNode_of hq.2
  have hx : (g.nodes[Int.toNat r.op]'hop.2.2) = stNode g r := (getD_at hop.2.2).symm
  have hol : (g.nodes[Int.toNat r.op]'hop.2.2).outs.length ≤ 2 := hx ▸ outs_two (i := Int.toNat r.op) hq.1 (by omega)
  refine S_skip ?_
  refine S_seq ?_
  refine S_reg [true, true, true, true, true, true, false, false] rfl rfl ?_
  refine J_st (R_fieldAddr0 fl26_0 rfl) rfl (J_st (R_load sc24 rfl (h1.one 0 rfl)) rfl (J_st (R_fieldAddr0 fl31_0 rfl) rfl (J_st (R_load sc3 rfl (h2.one 0 rfl)) rfl ?_)))
  have hi1 : (Int.toNat r.op) < g.nodes.length := (by first | assumption | omega | (simp only [List.length_set]; first | assumption | omega) | (simp only [List.getElem_set_self, List.length_set]; first | assumption | omega) | (simp only [setW, setLk, List.length_set]; first | assumption | omega) | (simp; done))
  obtain ⟨_, hr1, ha1⟩ := RdD.get hd1 hi1
  obtain ⟨o2, rfl, hd2⟩ := Node.op hr1
  replace ha1 : At w (sblk o1) (soff o1 + (Int.toNat r.op) * 4) [.int .i64 ((g.nodes[(Int.toNat r.op)]'hi1).kind), .int .i64 ((g.nodes[(Int.toNat r.op)]'hi1).a), .int .i64 ((g.nodes[(Int.toNat r.op)]'hi1).b), o2] := ha1
  refine J_st (R_indexZ (i := (Int.toNat r.op)) sl24 rfl rfl (hd1.ext E).1 (by omega) hi1) rfl (J_st (R_loadS st42 rfl (ha1.ext E) rfl) rfl ?_)
  refine J_alloc st42 rfl (fun b3 w8 e7 s3 h3 => ?_)
  have g_b3 : w.heap.size ≤ b3 := by have := E.size; omega
  have y_b3 := h3.lt
  replace E := E.trans e7; replace h1 := h1.ext e7; replace h2 := h2.ext e7
  have z8 := e7.size
  refine J_storeS' (cs' := [.int .i64 ((g.nodes[(Int.toNat r.op)]'hi1).kind), .int .i64 ((g.nodes[(Int.toNat r.op)]'hi1).a), .int .i64 ((g.nodes[(Int.toNat r.op)]'hi1).b), o2]) st42 rfl rfl rfl (all_cons rfl (all_cons rfl (all_cons rfl (all_cons (RdD.one (hd2.ext E)) rfl)))) h3 (Nat.le_of_ble_eq_true rfl) rfl (fun w9 m1 h3' => ?_)
  replace h3 := h3'
  replace E := E.step m1 (fun g hg => by cases hg; omega); replace h1 := h1.mod m1 (fun g hg => by cases hg; omega); replace h2 := h2.mod m1 (fun g hg => by cases hg; omega)
  have z9 := m1.size
  refine J_done ?_
  refine S_seq ?_
  refine S_reg [true, true, true, true, true, false, true, true, true, true, true, true, true] rfl rfl ?_
  refine J_st (R_loadS st42 rfl h3.at rfl) rfl (J_st (R_fieldAddr0 fl31_2 rfl) rfl (J_st (R_load sc3 rfl (h2.one 3 rfl)) rfl (J_st (R_fieldAddr0 fl31_3 rfl) rfl (J_st (R_load sc3 rfl (h2.one 4 rfl)) rfl ?_))))
  refine J_call Try.call45 rfl (c_Changed [.int .i64 ((g.nodes[(Int.toNat r.op)]'hi1).kind), .int .i64 ((g.nodes[(Int.toNat r.op)]'hi1).a), .int .i64 ((g.nodes[(Int.toNat r.op)]'hi1).b), o2] (g.nodes[(Int.toNat r.op)]'hi1) r.key r.val _ (Node.mkR (g.nodes[(Int.toNat r.op)]'hi1) (RdD.any (hd2.ext E)))) rfl (fun _ w10 e8 hv => ?_)
  subst hv
  replace E := E.trans e8; replace h1 := h1.ext e8; replace h2 := h2.ext e8; replace h3 := h3.ext e8
  have z10 := e8.size
  refine J_st (R_move rfl) rfl (J_st (R_extract rfl rfl) rfl (J_st (R_extract rfl rfl) rfl (J_st (R_extract rfl rfl) rfl (J_st (R_assign rfl) rfl (J_st (R_assign rfl) rfl (J_st (R_assign rfl) rfl (J_done ?_)))))))
  refine S_seq ?_
  refine S_seq ?_
  refine S_reg [true, true, true, true, true, true, true] rfl rfl ?_
  refine J_st (R_move rfl) rfl (J_st (R_not rfl) rfl (J_st (R_move rfl) rfl ?_))
  refine J_cut 4 [(0, .agg [o1, .int .i64 g.workers, .int .i64 g.cap].toArray), (1, vcs), (2, .agg (Enc.enc r).toArray), (3, .pointer (some ⟨b1, 0, none⟩)), (5, .pointer (some ⟨b2, 0, none⟩)), (6, .slice none 0 0), (7, .slice none 0 0), (8, .bool false), (9, .pointer (some ⟨b3, 0, none⟩)), (10, .int .i64 ((changedM (g.nodes[(Int.toNat r.op)]'hi1) r.key r.val).1)), (11, .int .i64 ((changedM (g.nodes[(Int.toNat r.op)]'hi1) r.key r.val).2.1)), (12, .bool ((changedM (g.nodes[(Int.toNat r.op)]'hi1) r.key r.val).2.2)), (33, .bool (((!(graphOk g)) || (!(recordOk r))) || (!(isNodeM g r.op)))), (36, .pointer (some ⟨b1, 0, none⟩)), (37, o1), (38, .pointer (some ⟨b2, 0, none⟩)), (39, .int .i64 r.op), (40, .pointer (some ⟨sblk o1, soff o1 + (Int.toNat r.op) * 4, none⟩)), (41, .agg [.int .i64 ((g.nodes[(Int.toNat r.op)]'hi1).kind), .int .i64 ((g.nodes[(Int.toNat r.op)]'hi1).a), .int .i64 ((g.nodes[(Int.toNat r.op)]'hi1).b), o2].toArray), (42, .tuple [.int .i64 ((changedM (g.nodes[(Int.toNat r.op)]'hi1) r.key r.val).1), .int .i64 ((changedM (g.nodes[(Int.toNat r.op)]'hi1) r.key r.val).2.1), .bool ((changedM (g.nodes[(Int.toNat r.op)]'hi1) r.key r.val).2.2)].toArray), (43, .agg [.int .i64 ((g.nodes[(Int.toNat r.op)]'hi1).kind), .int .i64 ((g.nodes[(Int.toNat r.op)]'hi1).a), .int .i64 ((g.nodes[(Int.toNat r.op)]'hi1).b), o2].toArray), (44, .pointer (some ⟨b2, 3, none⟩)), (45, .int .i64 r.key), (46, .pointer (some ⟨b2, 4, none⟩)), (47, .int .i64 r.val), (48, .tuple [.int .i64 ((changedM (g.nodes[(Int.toNat r.op)]'hi1) r.key r.val).1), .int .i64 ((changedM (g.nodes[(Int.toNat r.op)]'hi1) r.key r.val).2.1), .bool ((changedM (g.nodes[(Int.toNat r.op)]'hi1) r.key r.val).2.2)].toArray), (49, .int .i64 ((changedM (g.nodes[(Int.toNat r.op)]'hi1) r.key r.val).1)), (50, .int .i64 ((changedM (g.nodes[(Int.toNat r.op)]'hi1) r.key r.val).2.1)), (51, .bool ((changedM (g.nodes[(Int.toNat r.op)]'hi1) r.key r.val).2.2)), (58, .bool ((!((changedM (g.nodes[(Int.toNat r.op)]'hi1) r.key r.val).2.2)) && (((g.nodes[(Int.toNat r.op)]'hi1).kind) != 8)))] (fun w' => w10 = w') ?_ ?_
  ·refine J_if (gd := 54) rfl rfl (fun hg3 => ?_) (fun hg3 => ?_)
   ·refine J_gd rfl rfl (R_fieldAddr0 fl42_0 rfl) rfl (J_gd rfl rfl (R_load sc3 rfl (h3.one 0 rfl)) rfl (J_gd rfl rfl (R_neq rfl rfl) rfl (J_st (R_pickT rfl rfl) rfl (J_cutEnd ⟨rfl, rfl, rfl, rfl, rfl, rfl, rfl, rfl, rfl, rfl, rfl, rfl, rfl, rfl, rfl, rfl, rfl, rfl, rfl, rfl, rfl, rfl, rfl, rfl, rfl, rfl, rfl, rfl, rfl, congrArg (fun b => some (Value.bool b)) (show (((g.nodes[(Int.toNat r.op)]'hi1).kind) != 8) = ((!((changedM (g.nodes[(Int.toNat r.op)]'hi1) r.key r.val).2.2)) && (((g.nodes[(Int.toNat r.op)]'hi1).kind) != 8)) by first | (rw [hg3] <;> rfl) | (simp [hg3]; done) | (simp only [nat_nlt] <;> simp)), trivial⟩ rfl))))
   ·refine J_gdno rfl rfl rfl rfl (J_gdno rfl rfl rfl rfl (J_gdno rfl rfl rfl rfl (J_st (R_pickF rfl rfl) rfl (J_cutEnd ⟨rfl, rfl, rfl, rfl, rfl, rfl, rfl, rfl, rfl, rfl, rfl, rfl, rfl, rfl, rfl, rfl, rfl, rfl, rfl, rfl, rfl, rfl, rfl, rfl, rfl, rfl, rfl, rfl, rfl, congrArg (fun b => some (Value.bool b)) (show false = ((!((changedM (g.nodes[(Int.toNat r.op)]'hi1) r.key r.val).2.2)) && (((g.nodes[(Int.toNat r.op)]'hi1).kind) != 8)) by first | (rw [hg3] <;> rfl) | (simp [hg3]; done) | (simp only [nat_nlt] <;> simp)), trivial⟩ rfl))))
  rintro _ rfl
  refine J_done ?_
  refine S_cond rfl (fun hc2 => ?_) (fun hc2 => ?_)
  ·refine S_seq ?_
   refine S_reg [true, false, true, true, true] rfl rfl ?_
   refine J_st (R_move rfl) rfl ?_
   refine J_call Try.call44 rfl (c_copyCells vcs cs _ (hcs.ext E) (by first | omega | (simp only [mkL_length]; omega) | (rw [mkL_length]; done) | (simp only [mkL_length]; done))) rfl (fun v2 w12 e9 ho2 => ?_)
   have g_ho2 : w.heap.size ≤ w10.heap.size := E.size
   replace E := E.trans e9; replace h1 := h1.ext e9; replace h2 := h2.ext e9; replace h3 := h3.ext e9
   have z11 := e9.size
   refine J_st (R_assign rfl) rfl (J_st (R_assign rfl) rfl (J_st (R_assign rfl) rfl (J_done ?_)))
   refine S_ret (E_doneN (l := [.tmp 6, .tmp 7, .tmp 8]) (vs := [v2, .slice none 0 0, .bool true]) rfl ⟨.tmp rfl, .tmp rfl, .tmp rfl, trivial⟩ rfl E ?_)
   rw [st_1 hc1 hx hc2]
   exact ⟨_, _, rfl, Own.fin ho2 (by omega) (by omega) (by first | rfl | (simp only [List.nil_append]; done)), Own.finNil rfl, ⟨⟨(Sep.nilR _), trivial⟩, ⟨trivial, trivial⟩⟩⟩
  ·refine S_skip ?_
   refine S_seq ?_
   refine S_reg [true, true, true, true, true, true, true, true, true, true, true, true, true, false, true, true, true, true, true] rfl rfl ?_
   refine J_st (R_fieldAddr0 fl42_0 rfl) rfl (J_st (R_load sc3 rfl (h3.one 0 rfl)) rfl (J_st (R_move rfl) rfl (J_st (R_fieldAddr0 fl31_0 rfl) rfl (J_st (R_load sc3 rfl (h2.one 0 rfl)) rfl (J_st (R_fieldAddr0 fl31_1 rfl) rfl (J_st (R_fieldAddr fl29_0 rfl) rfl (J_st (R_load sc3 rfl (h2.one 1 rfl)) rfl (J_st (R_fieldAddr0 fl31_2 rfl) rfl (J_st (R_load sc3 rfl (h2.one 3 rfl)) rfl (J_st (R_fieldAddr0 fl31_3 rfl) rfl (J_st (R_load sc3 rfl (h2.one 4 rfl)) rfl (J_st (R_build (⟨r.op, r.stamp.epoch, r.key, r.val⟩ : Cell) rfl (fun _ => by kernel_rfl)) rfl ?_))))))))))))
   refine J_call Try.call46 rfl (c_Recall ((g.nodes[(Int.toNat r.op)]'hi1).kind) vcs cs (⟨r.op, r.stamp.epoch, r.key, r.val⟩ : Cell) _ (hcs.ext E) (by first | omega | (simp only [mkL_length]; omega) | (rw [mkL_length]; done) | (simp only [mkL_length]; done))) rfl (fun _ w13 e10 ho3 => ?_)
   obtain ⟨v3, rfl, ho4⟩ := ho3
   have g_ho3 : w.heap.size ≤ w10.heap.size := E.size
   replace E := E.trans e10; replace h1 := h1.ext e10; replace h2 := h2.ext e10; replace h3 := h3.ext e10
   have z12 := e10.size
   refine J_st (R_move rfl) rfl (J_st (R_extract rfl rfl) rfl (J_st (R_extract rfl rfl) rfl (J_st (R_assign rfl) rfl (J_st (R_assign rfl) rfl (J_done ?_)))))
   refine S_seq ?_
   refine S_seq ?_
   refine S_reg [true, true] rfl rfl ?_
   refine J_st (R_move rfl) rfl (J_st (R_not rfl) rfl (J_done ?_))
   refine S_cond rfl (fun hc3 => ?_) (fun hc3 => ?_)
   ·refine S_seq ?_
    refine S_reg [true, true, true, true] rfl rfl ?_
    refine J_st (R_move rfl) rfl (J_st (R_assign rfl) rfl (J_st (R_assign rfl) rfl (J_st (R_assign rfl) rfl (J_done ?_))))
    refine S_ret (E_doneN (l := [.tmp 6, .tmp 7, .tmp 8]) (vs := [v3, .slice none 0 0, .bool true]) rfl ⟨.tmp rfl, .tmp rfl, .tmp rfl, trivial⟩ rfl E ?_)
    rw [st_2 hc1 hx hc2 hc3]
    exact ⟨_, _, rfl, Own.fin ho4 (by omega) (by omega) (by first | rfl | (simp only [List.nil_append]; done)), Own.finNil rfl, ⟨⟨(Sep.nilR _), trivial⟩, ⟨trivial, trivial⟩⟩⟩
   ·refine S_skip ?_
    refine S_seq ?_
    refine S_reg [true, true, false, false, true] rfl rfl ?_
    refine J_st (R_fieldAddr0 fl31_1 rfl) rfl (J_st (R_loadS st29 rfl (h2.part 1 [.int .i64 r.stamp.epoch, .int .i64 r.stamp.turn] rfl) rfl) rfl ?_)
    refine J_alloc st29 rfl (fun b4 w14 e11 s4 h4 => ?_)
    have g_b4 : w.heap.size ≤ b4 := by have := E.size; omega
    have y_b4 := h4.lt
    replace E := E.trans e11; replace h1 := h1.ext e11; replace h2 := h2.ext e11; replace h3 := h3.ext e11; replace ho4 := ho4.ext e11
    have z13 := e11.size
    refine J_storeS' (cs' := [.int .i64 r.stamp.epoch, .int .i64 r.stamp.turn]) st29 rfl rfl rfl rfl h4 (Nat.le_of_ble_eq_true rfl) rfl (fun w15 m2 h4' => ?_)
    replace h4 := h4'
    replace E := E.step m2 (fun g hg => by cases hg; omega); replace h1 := h1.mod m2 (fun g hg => by cases hg; omega); replace h2 := h2.mod m2 (fun g hg => by cases hg; omega); replace h3 := h3.mod m2 (fun g hg => by cases hg; omega); replace ho4 := ho4.mod m2 (fun g hg => by cases hg; omega)
    have z14 := m2.size
    refine J_st (R_assign rfl) rfl (J_done ?_)
    refine S_seq ?_
    refine S_seq ?_
    refine S_reg [true, true, true] rfl rfl ?_
    refine J_st (R_fieldAddr0 fl42_0 rfl) rfl (J_st (R_load sc3 rfl (h3.one 0 rfl)) rfl (J_st (R_eql rfl rfl) rfl (J_done ?_)))
    refine S_cond rfl (fun hc4 => ?_) (fun hc4 => ?_)
    ·have hstm := stamp_7 hx hc4
     refine S_reg [true, true, false, true, true, true, false, true] rfl rfl ?_
     refine J_st (R_fieldAddr0 fl31_1 rfl) rfl (J_st (R_loadS st29 rfl (h2.part 1 [.int .i64 r.stamp.epoch, .int .i64 r.stamp.turn] rfl) rfl) rfl ?_)
     refine J_call Try.call47 rfl (c_NextTurn r.stamp _ ) rfl (fun _ w16 e12 hv => ?_)
     subst hv
     replace E := E.trans e12; replace h1 := h1.ext e12; replace h2 := h2.ext e12; replace h3 := h3.ext e12; replace ho4 := ho4.ext e12; replace h4 := h4.ext e12
     have z15 := e12.size
     refine J_st (R_move rfl) rfl (J_st (R_extract rfl rfl) rfl (J_st (R_extract rfl rfl) rfl ?_))
     refine J_storeS' (cs' := [.int .i64 (((nextT r.stamp).1).epoch), .int .i64 (((nextT r.stamp).1).turn)]) st29 rfl rfl rfl rfl h4 (Nat.le_of_ble_eq_true rfl) rfl (fun w17 m3 h4' => ?_)
     replace h4 := h4'
     replace E := E.step m3 (fun g hg => by cases hg; omega); replace h1 := h1.mod m3 (fun g hg => by cases hg; omega); replace h2 := h2.mod m3 (fun g hg => by cases hg; omega); replace h3 := h3.mod m3 (fun g hg => by cases hg; omega); replace ho4 := ho4.mod m3 (fun g hg => by cases hg; omega)
     have z16 := m3.size
     refine J_st (R_assign rfl) rfl (J_done ?_)
     refine S_seq ?_
     refine S_reg [true] rfl rfl ?_
     refine J_st (R_assign rfl) rfl (J_done ?_)
     refine S_seq ?_
     refine S_seq ?_
     refine S_reg [true, true, true, true] rfl rfl ?_
     refine J_st (R_fieldAddr0 fl42_3 rfl) rfl (J_st (R_load sc40 rfl (h3.one 3 rfl)) rfl (J_st (R_len Try.underlying40 rfl (hd2.ext E).len) rfl (J_st (R_move rfl) rfl (J_done ?_))))
     refine S_block ?_
     refine S_loop (fun (xq : Nat × Value) => let ⟨k, vo⟩ := xq; [(6, .slice none 0 0), (7, .slice none 0 0), (8, .bool false), (10, .int .i64 ((changedM (g.nodes[(Int.toNat r.op)]'hi1) r.key r.val).1)), (11, .int .i64 ((changedM (g.nodes[(Int.toNat r.op)]'hi1) r.key r.val).2.1)), (13, v3), (14, .pointer (some ⟨b4, 0, none⟩)), (15, .bool ((nextT r.stamp).2)), (16, vo), (93, o2), (94, .int .i64 ((((g.nodes[(Int.toNat r.op)]'hi1).outs).length : Nat) : Int)), (95, .int .i64 ((k : Nat) : Int))]) (fun (xq : Nat × Value) w' => let ⟨k, vo⟩ := xq; Ext w w' ∧ w17.heap.size ≤ w'.heap.size ∧ Blk w' b1 ([o1, .int .i64 g.workers, .int .i64 g.cap]) ∧ Blk w' b2 (Enc.enc r) ∧ Blk w' b3 [.int .i64 ((g.nodes[(Int.toNat r.op)]'hi1).kind), .int .i64 ((g.nodes[(Int.toNat r.op)]'hi1).a), .int .i64 ((g.nodes[(Int.toNat r.op)]'hi1).b), o2] ∧ Own w' w10.heap.size w13.heap.size 4 v3 (List.flatMap (Enc.enc (α := Cell)) ((recallM ((g.nodes[(Int.toNat r.op)]'hi1).kind) cs (⟨r.op, r.stamp.epoch, r.key, r.val⟩ : Cell)).1)) ∧ Blk w' b4 [.int .i64 (((nextT r.stamp).1).epoch), .int .i64 (((nextT r.stamp).1).turn)] ∧ k ≤ (g.nodes[Int.toNat r.op]'hop.2.2).outs.length ∧ Own w' w17.heap.size w'.heap.size 5 vo (List.flatMap (Enc.enc (α := Record)) (stOut g r k))) (fun (xq : Nat × Value) => let ⟨k, vo⟩ := xq; (g.nodes[Int.toNat r.op]'hop.2.2).outs.length - k) (0, .slice none 0 0) ⟨rfl, rfl, rfl, rfl, rfl, rfl, rfl, rfl, rfl, rfl, rfl, rfl, trivial⟩ ⟨E, Nat.le_refl _, h1, h2, h3, ho4, h4, Nat.zero_le _, Own.fin (Own.nil w17 w17.heap.size w17.heap.size 5) (by omega) (by omega) out_zero.symm⟩ ?_
     clear E h1 h2 h3 ho4 h4
     rintro ⟨k, vo⟩ w18 ⟨E, z17, h1, h2, h3, ho4, h4, hk, hvo⟩
     refine S_sub [(6, .slice none 0 0), (7, .slice none 0 0), (8, .bool false), (10, .int .i64 ((changedM (g.nodes[(Int.toNat r.op)]'hi1) r.key r.val).1)), (11, .int .i64 ((changedM (g.nodes[(Int.toNat r.op)]'hi1) r.key r.val).2.1)), (13, v3), (14, .pointer (some ⟨b4, 0, none⟩)), (15, .bool ((nextT r.stamp).2)), (16, vo), (93, o2), (94, .int .i64 ((((g.nodes[(Int.toNat r.op)]'hi1).outs).length : Nat) : Int)), (95, .int .i64 ((k : Nat) : Int))] ⟨rfl, rfl, rfl, rfl, rfl, rfl, rfl, rfl, rfl, rfl, rfl, rfl, trivial⟩ ?_
     refine S_seq ?_
     refine S_reg [true] rfl rfl ?_
     refine J_st (R_lss rfl rfl) rfl (J_done ?_)
     refine S_seq ?_
     refine S_cond rfl (fun hc5 => ?_) (fun hc5 => ?_)
     ·have hc5n : k < ((g.nodes[(Int.toNat r.op)]'hi1).outs).length := by first | (have h := of_decide_eq_true hc5; omega) | (have h := hc5; simp at h; omega)
      refine S_skip ?_
      refine S_seq ?_
      refine S_block ?_
      refine S_seq ?_
      refine S_reg [true, true, true] rfl rfl ?_
      have hi2 : k < ((g.nodes[(Int.toNat r.op)]'hi1).outs).length := (by first | assumption | omega | (simp only [List.length_set]; first | assumption | omega) | (simp only [List.getElem_set_self, List.length_set]; first | assumption | omega) | (simp only [setW, setLk, List.length_set]; first | assumption | omega) | (simp; done))
      refine J_st (R_index (i := k) sl40 rfl rfl (hd2.rd.ext E) hi2) rfl (J_st (R_load sc3 rfl (((hd2.rd.ext E).get hi2).one 0 rfl)) rfl (J_st (R_assign rfl) rfl (J_done ?_)))
      refine S_seq ?_
      refine S_reg [true] rfl rfl ?_
      refine J_st (R_move rfl) rfl (J_done ?_)
      refine S_cond rfl (fun hc6 => ?_) (fun hc6 => ?_)
      ·refine S_reg [true, true, true, true, true, true, false, false, true] rfl rfl ?_
       refine J_st (R_move rfl) rfl (J_st (R_move rfl) rfl (J_st (R_loadS st29 rfl h4.at rfl) rfl (J_st (R_move rfl) rfl (J_st (R_move rfl) rfl (J_st (R_build (⟨(((g.nodes[(Int.toNat r.op)]'hi1).outs)[k]'hi2), ((nextT r.stamp).1), (changedM (g.nodes[(Int.toNat r.op)]'hi1) r.key r.val).1, (changedM (g.nodes[(Int.toNat r.op)]'hi1) r.key r.val).2.1⟩ : Record) rfl (fun _ => by kernel_rfl)) rfl ?_)))))
       refine J_buildSlice (vs := [.agg (Enc.enc (⟨(((g.nodes[(Int.toNat r.op)]'hi1).outs)[k]'hi2), ((nextT r.stamp).1), (changedM (g.nodes[(Int.toNat r.op)]'hi1) r.key r.val).1, (changedM (g.nodes[(Int.toNat r.op)]'hi1) r.key r.val).2.1⟩ : Record)).toArray]) (css := [[.int .i64 ((⟨(((g.nodes[(Int.toNat r.op)]'hi1).outs)[k]'hi2), ((nextT r.stamp).1), (changedM (g.nodes[(Int.toNat r.op)]'hi1) r.key r.val).1, (changedM (g.nodes[(Int.toNat r.op)]'hi1) r.key r.val).2.1⟩ : Record).op), .int .i64 (((⟨(((g.nodes[(Int.toNat r.op)]'hi1).outs)[k]'hi2), ((nextT r.stamp).1), (changedM (g.nodes[(Int.toNat r.op)]'hi1) r.key r.val).1, (changedM (g.nodes[(Int.toNat r.op)]'hi1) r.key r.val).2.1⟩ : Record).stamp).epoch), .int .i64 (((⟨(((g.nodes[(Int.toNat r.op)]'hi1).outs)[k]'hi2), ((nextT r.stamp).1), (changedM (g.nodes[(Int.toNat r.op)]'hi1) r.key r.val).1, (changedM (g.nodes[(Int.toNat r.op)]'hi1) r.key r.val).2.1⟩ : Record).stamp).turn), .int .i64 ((⟨(((g.nodes[(Int.toNat r.op)]'hi1).outs)[k]'hi2), ((nextT r.stamp).1), (changedM (g.nodes[(Int.toNat r.op)]'hi1) r.key r.val).1, (changedM (g.nodes[(Int.toNat r.op)]'hi1) r.key r.val).2.1⟩ : Record).key), .int .i64 ((⟨(((g.nodes[(Int.toNat r.op)]'hi1).outs)[k]'hi2), ((nextT r.stamp).1), (changedM (g.nodes[(Int.toNat r.op)]'hi1) r.key r.val).1, (changedM (g.nodes[(Int.toNat r.op)]'hi1) r.key r.val).2.1⟩ : Record).val)]]) sl34 rfl rfl ⟨⟨rfl, rfl⟩, trivial⟩ rfl rfl (fun b5 w19 e13 s5 h5 => ?_)
       replace h5 : Blk w19 b5 [.int .i64 ((⟨(((g.nodes[(Int.toNat r.op)]'hi1).outs)[k]'hi2), ((nextT r.stamp).1), (changedM (g.nodes[(Int.toNat r.op)]'hi1) r.key r.val).1, (changedM (g.nodes[(Int.toNat r.op)]'hi1) r.key r.val).2.1⟩ : Record).op), .int .i64 (((⟨(((g.nodes[(Int.toNat r.op)]'hi1).outs)[k]'hi2), ((nextT r.stamp).1), (changedM (g.nodes[(Int.toNat r.op)]'hi1) r.key r.val).1, (changedM (g.nodes[(Int.toNat r.op)]'hi1) r.key r.val).2.1⟩ : Record).stamp).epoch), .int .i64 (((⟨(((g.nodes[(Int.toNat r.op)]'hi1).outs)[k]'hi2), ((nextT r.stamp).1), (changedM (g.nodes[(Int.toNat r.op)]'hi1) r.key r.val).1, (changedM (g.nodes[(Int.toNat r.op)]'hi1) r.key r.val).2.1⟩ : Record).stamp).turn), .int .i64 ((⟨(((g.nodes[(Int.toNat r.op)]'hi1).outs)[k]'hi2), ((nextT r.stamp).1), (changedM (g.nodes[(Int.toNat r.op)]'hi1) r.key r.val).1, (changedM (g.nodes[(Int.toNat r.op)]'hi1) r.key r.val).2.1⟩ : Record).key), .int .i64 ((⟨(((g.nodes[(Int.toNat r.op)]'hi1).outs)[k]'hi2), ((nextT r.stamp).1), (changedM (g.nodes[(Int.toNat r.op)]'hi1) r.key r.val).1, (changedM (g.nodes[(Int.toNat r.op)]'hi1) r.key r.val).2.1⟩ : Record).val)] := h5
       have g_b5 : w.heap.size ≤ b5 := by have := E.size; omega
       have y_b5 := h5.lt
       replace E := E.trans e13; replace h1 := h1.ext e13; replace h2 := h2.ext e13; replace h3 := h3.ext e13; replace ho4 := ho4.ext e13; replace h4 := h4.ext e13; replace hvo := hvo.ext e13
       have z18 := e13.size
       refine J_append sl34 rfl rfl hvo (Src.ofBlk h5 rfl) rfl (by first | (simp only [sum_flat, List.length_nil, List.length_cons]; simp only [Enc.sz]; omega) | (have h := out_len g r k; rw [sum_flat]; simp only [show Enc.sz Record = 5 from rfl, List.length_cons, List.length_nil]; omega)) (by decide) (by omega) (by omega) rfl rfl (fun v4 w20 m4 ho5 => ?_)
       replace E := E.step m4 (fun g hg => by have := Own.blk hvo g hg; omega); replace h1 := h1.mod m4 (fun g hg => by have := Own.blk hvo g hg; omega); replace h2 := h2.mod m4 (fun g hg => by have := Own.blk hvo g hg; omega); replace h3 := h3.mod m4 (fun g hg => by have := Own.blk hvo g hg; omega); replace ho4 := ho4.mod m4 (fun g hg => by have := Own.blk hvo g hg; omega); replace h4 := h4.mod m4 (fun g hg => by have := Own.blk hvo g hg; omega)
       have z19 := m4.size
       refine J_st (R_assign rfl) rfl (J_done ?_)
       refine S_nil (E_inB ?_)
       refine S_reg [true, true] rfl rfl ?_
       refine J_st (R_add rfl rfl (add_one hc5n (hd2.ext E).1.1)) rfl (J_st (R_move rfl) rfl (J_done ?_))
       refine S_nil (E_again (k + 1, v4) (by dsimp only; omega) ⟨rfl, rfl, rfl, rfl, rfl, rfl, rfl, rfl, rfl, rfl, rfl, rfl, trivial⟩ ⟨E, (by omega), h1, h2, h3, ho4, h4, (by omega), Own.fin ho5 (Nat.le_refl _) (by omega) (out_step (by rw [hstm]) (by rw [hstm]; exact hc6) hx (by omega))⟩)
      ·refine S_skip ?_
       refine S_nil (E_inB ?_)
       refine S_reg [true, true] rfl rfl ?_
       refine J_st (R_add rfl rfl (add_one hc5n (hd2.ext E).1.1)) rfl (J_st (R_move rfl) rfl (J_done ?_))
       refine S_nil (E_again (k + 1, vo) (by dsimp only; omega) ⟨rfl, rfl, rfl, rfl, rfl, rfl, rfl, rfl, rfl, rfl, rfl, rfl, trivial⟩ ⟨E, (by omega), h1, h2, h3, ho4, h4, (by omega), Own.fin hvo (Nat.le_refl _) (by omega) (out_skip (by rw [hstm]; exact hc6))⟩)
     ·have hc5n : ¬ k < ((g.nodes[(Int.toNat r.op)]'hi1).outs).length := by first | (have h := of_decide_eq_false hc5; omega) | (have h := hc5; simp at h; omega)
      refine S_exit (E_lp_exit (E_inB_exit ?_))
      refine S_seq ?_
      refine S_reg [true, true, true, true, true] rfl rfl ?_
      refine J_st (R_move rfl) rfl (J_st (R_move rfl) rfl (J_st (R_assign rfl) rfl (J_st (R_assign rfl) rfl (J_st (R_assign rfl) rfl (J_done ?_)))))
      refine S_ret (E_doneN (l := [.tmp 6, .tmp 7, .tmp 8]) (vs := [v3, vo, .bool true]) rfl ⟨.tmp rfl, .tmp rfl, .tmp rfl, trivial⟩ rfl E ?_)
      rw [st_3 hc1 hx hc2 hc3]
      exact ⟨_, _, rfl, Own.fin ho4 (by omega) (by omega) (by first | rfl | (simp only [List.nil_append]; done)), Own.fin hvo (by omega) (by omega) (by rw [show (g.nodes[Int.toNat r.op]'hop.2.2).outs.length = k from by omega]), ⟨⟨(Own.sep ho4 hvo (by omega)), trivial⟩, ⟨trivial, trivial⟩⟩⟩
    ·have hstm := stamp_o hx hc4
     refine S_skip ?_
     refine S_seq ?_
     refine S_reg [true] rfl rfl ?_
     refine J_st (R_assign rfl) rfl (J_done ?_)
     refine S_seq ?_
     refine S_seq ?_
     refine S_reg [true, true, true, true] rfl rfl ?_
     refine J_st (R_fieldAddr0 fl42_3 rfl) rfl (J_st (R_load sc40 rfl (h3.one 3 rfl)) rfl (J_st (R_len Try.underlying40 rfl (hd2.ext E).len) rfl (J_st (R_move rfl) rfl (J_done ?_))))
     refine S_block ?_
     refine S_loop (fun (xq : Nat × Value) => let ⟨k, vo⟩ := xq; [(6, .slice none 0 0), (7, .slice none 0 0), (8, .bool false), (10, .int .i64 ((changedM (g.nodes[(Int.toNat r.op)]'hi1) r.key r.val).1)), (11, .int .i64 ((changedM (g.nodes[(Int.toNat r.op)]'hi1) r.key r.val).2.1)), (13, v3), (14, .pointer (some ⟨b4, 0, none⟩)), (15, .bool true), (16, vo), (93, o2), (94, .int .i64 ((((g.nodes[(Int.toNat r.op)]'hi1).outs).length : Nat) : Int)), (95, .int .i64 ((k : Nat) : Int))]) (fun (xq : Nat × Value) w' => let ⟨k, vo⟩ := xq; Ext w w' ∧ w15.heap.size ≤ w'.heap.size ∧ Blk w' b1 ([o1, .int .i64 g.workers, .int .i64 g.cap]) ∧ Blk w' b2 (Enc.enc r) ∧ Blk w' b3 [.int .i64 ((g.nodes[(Int.toNat r.op)]'hi1).kind), .int .i64 ((g.nodes[(Int.toNat r.op)]'hi1).a), .int .i64 ((g.nodes[(Int.toNat r.op)]'hi1).b), o2] ∧ Own w' w10.heap.size w13.heap.size 4 v3 (List.flatMap (Enc.enc (α := Cell)) ((recallM ((g.nodes[(Int.toNat r.op)]'hi1).kind) cs (⟨r.op, r.stamp.epoch, r.key, r.val⟩ : Cell)).1)) ∧ Blk w' b4 [.int .i64 r.stamp.epoch, .int .i64 r.stamp.turn] ∧ k ≤ (g.nodes[Int.toNat r.op]'hop.2.2).outs.length ∧ Own w' w15.heap.size w'.heap.size 5 vo (List.flatMap (Enc.enc (α := Record)) (stOut g r k))) (fun (xq : Nat × Value) => let ⟨k, vo⟩ := xq; (g.nodes[Int.toNat r.op]'hop.2.2).outs.length - k) (0, .slice none 0 0) ⟨rfl, rfl, rfl, rfl, rfl, rfl, rfl, rfl, rfl, rfl, rfl, rfl, trivial⟩ ⟨E, Nat.le_refl _, h1, h2, h3, ho4, h4, Nat.zero_le _, Own.fin (Own.nil w15 w15.heap.size w15.heap.size 5) (by omega) (by omega) out_zero.symm⟩ ?_
     clear E h1 h2 h3 ho4 h4
     rintro ⟨k, vo⟩ w21 ⟨E, z20, h1, h2, h3, ho4, h4, hk, hvo⟩
     refine S_sub [(6, .slice none 0 0), (7, .slice none 0 0), (8, .bool false), (10, .int .i64 ((changedM (g.nodes[(Int.toNat r.op)]'hi1) r.key r.val).1)), (11, .int .i64 ((changedM (g.nodes[(Int.toNat r.op)]'hi1) r.key r.val).2.1)), (13, v3), (14, .pointer (some ⟨b4, 0, none⟩)), (15, .bool true), (16, vo), (93, o2), (94, .int .i64 ((((g.nodes[(Int.toNat r.op)]'hi1).outs).length : Nat) : Int)), (95, .int .i64 ((k : Nat) : Int))] ⟨rfl, rfl, rfl, rfl, rfl, rfl, rfl, rfl, rfl, rfl, rfl, rfl, trivial⟩ ?_
     refine S_seq ?_
     refine S_reg [true] rfl rfl ?_
     refine J_st (R_lss rfl rfl) rfl (J_done ?_)
     refine S_seq ?_
     refine S_cond rfl (fun hc7 => ?_) (fun hc7 => ?_)
     ·have hc7n : k < ((g.nodes[(Int.toNat r.op)]'hi1).outs).length := by first | (have h := of_decide_eq_true hc7; omega) | (have h := hc7; simp at h; omega)
      refine S_skip ?_
      refine S_seq ?_
      refine S_block ?_
      refine S_seq ?_
      refine S_reg [true, true, true] rfl rfl ?_
      have hi3 : k < ((g.nodes[(Int.toNat r.op)]'hi1).outs).length := (by first | assumption | omega | (simp only [List.length_set]; first | assumption | omega) | (simp only [List.getElem_set_self, List.length_set]; first | assumption | omega) | (simp only [setW, setLk, List.length_set]; first | assumption | omega) | (simp; done))
      refine J_st (R_index (i := k) sl40 rfl rfl (hd2.rd.ext E) hi3) rfl (J_st (R_load sc3 rfl (((hd2.rd.ext E).get hi3).one 0 rfl)) rfl (J_st (R_assign rfl) rfl (J_done ?_)))
      refine S_seq ?_
      refine S_reg [true] rfl rfl ?_
      refine J_st (R_move rfl) rfl (J_done ?_)
      refine S_condT rfl ?_
      refine S_reg [true, true, true, true, true, true, false, false, true] rfl rfl ?_
      refine J_st (R_move rfl) rfl (J_st (R_move rfl) rfl (J_st (R_loadS st29 rfl h4.at rfl) rfl (J_st (R_move rfl) rfl (J_st (R_move rfl) rfl (J_st (R_build (⟨(((g.nodes[(Int.toNat r.op)]'hi1).outs)[k]'hi3), r.stamp, (changedM (g.nodes[(Int.toNat r.op)]'hi1) r.key r.val).1, (changedM (g.nodes[(Int.toNat r.op)]'hi1) r.key r.val).2.1⟩ : Record) rfl (fun _ => by kernel_rfl)) rfl ?_)))))
      refine J_buildSlice (vs := [.agg (Enc.enc (⟨(((g.nodes[(Int.toNat r.op)]'hi1).outs)[k]'hi3), r.stamp, (changedM (g.nodes[(Int.toNat r.op)]'hi1) r.key r.val).1, (changedM (g.nodes[(Int.toNat r.op)]'hi1) r.key r.val).2.1⟩ : Record)).toArray]) (css := [[.int .i64 ((⟨(((g.nodes[(Int.toNat r.op)]'hi1).outs)[k]'hi3), r.stamp, (changedM (g.nodes[(Int.toNat r.op)]'hi1) r.key r.val).1, (changedM (g.nodes[(Int.toNat r.op)]'hi1) r.key r.val).2.1⟩ : Record).op), .int .i64 (((⟨(((g.nodes[(Int.toNat r.op)]'hi1).outs)[k]'hi3), r.stamp, (changedM (g.nodes[(Int.toNat r.op)]'hi1) r.key r.val).1, (changedM (g.nodes[(Int.toNat r.op)]'hi1) r.key r.val).2.1⟩ : Record).stamp).epoch), .int .i64 (((⟨(((g.nodes[(Int.toNat r.op)]'hi1).outs)[k]'hi3), r.stamp, (changedM (g.nodes[(Int.toNat r.op)]'hi1) r.key r.val).1, (changedM (g.nodes[(Int.toNat r.op)]'hi1) r.key r.val).2.1⟩ : Record).stamp).turn), .int .i64 ((⟨(((g.nodes[(Int.toNat r.op)]'hi1).outs)[k]'hi3), r.stamp, (changedM (g.nodes[(Int.toNat r.op)]'hi1) r.key r.val).1, (changedM (g.nodes[(Int.toNat r.op)]'hi1) r.key r.val).2.1⟩ : Record).key), .int .i64 ((⟨(((g.nodes[(Int.toNat r.op)]'hi1).outs)[k]'hi3), r.stamp, (changedM (g.nodes[(Int.toNat r.op)]'hi1) r.key r.val).1, (changedM (g.nodes[(Int.toNat r.op)]'hi1) r.key r.val).2.1⟩ : Record).val)]]) sl34 rfl rfl ⟨⟨rfl, rfl⟩, trivial⟩ rfl rfl (fun b6 w22 e14 s6 h6 => ?_)
      replace h6 : Blk w22 b6 [.int .i64 ((⟨(((g.nodes[(Int.toNat r.op)]'hi1).outs)[k]'hi3), r.stamp, (changedM (g.nodes[(Int.toNat r.op)]'hi1) r.key r.val).1, (changedM (g.nodes[(Int.toNat r.op)]'hi1) r.key r.val).2.1⟩ : Record).op), .int .i64 (((⟨(((g.nodes[(Int.toNat r.op)]'hi1).outs)[k]'hi3), r.stamp, (changedM (g.nodes[(Int.toNat r.op)]'hi1) r.key r.val).1, (changedM (g.nodes[(Int.toNat r.op)]'hi1) r.key r.val).2.1⟩ : Record).stamp).epoch), .int .i64 (((⟨(((g.nodes[(Int.toNat r.op)]'hi1).outs)[k]'hi3), r.stamp, (changedM (g.nodes[(Int.toNat r.op)]'hi1) r.key r.val).1, (changedM (g.nodes[(Int.toNat r.op)]'hi1) r.key r.val).2.1⟩ : Record).stamp).turn), .int .i64 ((⟨(((g.nodes[(Int.toNat r.op)]'hi1).outs)[k]'hi3), r.stamp, (changedM (g.nodes[(Int.toNat r.op)]'hi1) r.key r.val).1, (changedM (g.nodes[(Int.toNat r.op)]'hi1) r.key r.val).2.1⟩ : Record).key), .int .i64 ((⟨(((g.nodes[(Int.toNat r.op)]'hi1).outs)[k]'hi3), r.stamp, (changedM (g.nodes[(Int.toNat r.op)]'hi1) r.key r.val).1, (changedM (g.nodes[(Int.toNat r.op)]'hi1) r.key r.val).2.1⟩ : Record).val)] := h6
      have g_b6 : w.heap.size ≤ b6 := by have := E.size; omega
      have y_b6 := h6.lt
      replace E := E.trans e14; replace h1 := h1.ext e14; replace h2 := h2.ext e14; replace h3 := h3.ext e14; replace ho4 := ho4.ext e14; replace h4 := h4.ext e14; replace hvo := hvo.ext e14
      have z21 := e14.size
      refine J_append sl34 rfl rfl hvo (Src.ofBlk h6 rfl) rfl (by first | (simp only [sum_flat, List.length_nil, List.length_cons]; simp only [Enc.sz]; omega) | (have h := out_len g r k; rw [sum_flat]; simp only [show Enc.sz Record = 5 from rfl, List.length_cons, List.length_nil]; omega)) (by decide) (by omega) (by omega) rfl rfl (fun v5 w23 m5 ho6 => ?_)
      replace E := E.step m5 (fun g hg => by have := Own.blk hvo g hg; omega); replace h1 := h1.mod m5 (fun g hg => by have := Own.blk hvo g hg; omega); replace h2 := h2.mod m5 (fun g hg => by have := Own.blk hvo g hg; omega); replace h3 := h3.mod m5 (fun g hg => by have := Own.blk hvo g hg; omega); replace ho4 := ho4.mod m5 (fun g hg => by have := Own.blk hvo g hg; omega); replace h4 := h4.mod m5 (fun g hg => by have := Own.blk hvo g hg; omega)
      have z22 := m5.size
      refine J_st (R_assign rfl) rfl (J_done ?_)
      refine S_nil (E_inB ?_)
      refine S_reg [true, true] rfl rfl ?_
      refine J_st (R_add rfl rfl (add_one hc7n (hd2.ext E).1.1)) rfl (J_st (R_move rfl) rfl (J_done ?_))
      refine S_nil (E_again (k + 1, v5) (by dsimp only; omega) ⟨rfl, rfl, rfl, rfl, rfl, rfl, rfl, rfl, rfl, rfl, rfl, rfl, trivial⟩ ⟨E, (by omega), h1, h2, h3, ho4, h4, (by omega), Own.fin ho6 (Nat.le_refl _) (by omega) (out_step (by rw [hstm]) (by rw [hstm]) hx (by omega))⟩)
     ·have hc7n : ¬ k < ((g.nodes[(Int.toNat r.op)]'hi1).outs).length := by first | (have h := of_decide_eq_false hc7; omega) | (have h := hc7; simp at h; omega)
      refine S_exit (E_lp_exit (E_inB_exit ?_))
      refine S_seq ?_
      refine S_reg [true, true, true, true, true] rfl rfl ?_
      refine J_st (R_move rfl) rfl (J_st (R_move rfl) rfl (J_st (R_assign rfl) rfl (J_st (R_assign rfl) rfl (J_st (R_assign rfl) rfl (J_done ?_)))))
      refine S_ret (E_doneN (l := [.tmp 6, .tmp 7, .tmp 8]) (vs := [v3, vo, .bool true]) rfl ⟨.tmp rfl, .tmp rfl, .tmp rfl, trivial⟩ rfl E ?_)
      rw [st_3 hc1 hx hc2 hc3]
      exact ⟨_, _, rfl, Own.fin ho4 (by omega) (by omega) (by first | rfl | (simp only [List.nil_append]; done)), Own.fin hvo (by omega) (by omega) (by rw [show (g.nodes[Int.toNat r.op]'hop.2.2).outs.length = k from by omega]), ⟨⟨(Own.sep ho4 hvo (by omega)), trivial⟩, ⟨trivial, trivial⟩⟩⟩

set_option maxHeartbeats 4000000 in
set_option maxRecDepth 20000 in
theorem s_StepOp (cg : List Value) (g : Graph) (vcs : Value) (cs : List Cell) (r : Record) (w : World) (hg : Dat.R w 0 w.heap.size cg g) (hcs : RdS w vcs cs) (hb : cs.length ≤ 4194304) (hcg : cntGraph g ≤ 1048576) : Ct Try.prog 8 [.agg cg.toArray, vcs, .agg (Enc.enc r).toArray] w (fun v w' => ∃ u0 u1, v = .tuple [u0, u1, .bool ((stepM g cs r).2.2)].toArray ∧ Own w' w.heap.size w'.heap.size 4 u0 (List.flatMap (Enc.enc (α := Cell)) ((stepM g cs r).1)) ∧ Own w' w.heap.size w'.heap.size 5 u1 (List.flatMap (Enc.enc (α := Record)) ((stepM g cs r).2.1)) ∧ SepL [u0, u1]) := by
 refine ct_of Try.func8 rfl Try.ntmps8 rfl ?_
 obtain ⟨o1, rfl, hd1⟩ := Graph.op hg
 refine S_sub [(0, .agg [o1, .int .i64 g.workers, .int .i64 g.cap].toArray), (1, vcs), (2, .agg (Enc.enc r).toArray)] ⟨rfl, rfl, rfl, trivial⟩ ?_
 have E : Ext w w := Ext.refl w
 refine S_seq ?_
 refine S_reg [false, false, true, true, true] rfl rfl ?_
 refine J_box rfl rfl (fun b1 w1 e1 s1 h1 => ?_)
 have g_b1 : w.heap.size ≤ b1 := by have := E.size; omega
 have y_b1 := h1.lt
 replace E := E.trans e1
 have z1 := e1.size
 refine J_box rfl rfl (fun b2 w2 e2 s2 h2 => ?_)
 have g_b2 : w.heap.size ≤ b2 := by have := E.size; omega
 have y_b2 := h2.lt
 replace E := E.trans e2; replace h1 := h1.ext e2
 have z2 := e2.size
 refine J_st (R_assign rfl) rfl (J_st (R_assign rfl) rfl (J_st (R_assign rfl) rfl (J_done ?_)))
 refine S_seq ?_
 refine S_reg [false, true, false, true] rfl rfl ?_
 refine J_buildSlice (vs := []) (css := []) sl27 rfl rfl trivial rfl rfl (fun b3 w3 e3 s3 h3 => ?_)
 replace h3 : Blk w3 b3 [] := h3
 have g_b3 : w.heap.size ≤ b3 := by have := E.size; omega
 have y_b3 := h3.lt
 replace E := E.trans e3; replace h1 := h1.ext e3; replace h2 := h2.ext e3
 have z3 := e3.size
 refine J_st (R_move rfl) rfl ?_
 refine J_append sl27 rfl rfl (Own.ofBlk (lo := b3) (hi := b3 + 1) (sz := 4) h3 (Nat.le_refl _) (Nat.lt_succ_self _) (by simp) (by simp [maxLen])) (RdS.src (hcs.ext E)) (flat_one _) (by first | (simp only [sum_flat, List.length_nil, List.length_cons]; simp only [Enc.sz]; omega) | (have h := out_len g r k; rw [sum_flat]; simp only [show Enc.sz Record = 5 from rfl, List.length_cons, List.length_nil]; omega)) (by decide) (by omega) (by omega) rfl rfl (fun v1 w4 m1 ho1 => ?_)
 replace E := E.step m1 (fun g hg => by have := Own.blk (Own.ofBlk (lo := b3) (hi := b3 + 1) (sz := 4) h3 (Nat.le_refl _) (Nat.lt_succ_self _) (by simp) (by simp [maxLen])) g hg; omega); replace h1 := h1.mod m1 (fun g hg => by have := Own.blk (Own.ofBlk (lo := b3) (hi := b3 + 1) (sz := 4) h3 (Nat.le_refl _) (Nat.lt_succ_self _) (by simp) (by simp [maxLen])) g hg; omega); replace h2 := h2.mod m1 (fun g hg => by have := Own.blk (Own.ofBlk (lo := b3) (hi := b3 + 1) (sz := 4) h3 (Nat.le_refl _) (Nat.lt_succ_self _) (by simp) (by simp [maxLen])) g hg; omega)
 have z4 := m1.size
 refine J_st (R_assign rfl) rfl (J_done ?_)
 refine S_seq ?_
 refine S_reg [false, true] rfl rfl ?_
 refine J_buildSlice (vs := []) (css := []) sl34 rfl rfl trivial rfl rfl (fun b4 w5 e4 s4 h4 => ?_)
 replace h4 : Blk w5 b4 [] := h4
 have g_b4 : w.heap.size ≤ b4 := by have := E.size; omega
 have y_b4 := h4.lt
 replace E := E.trans e4; replace h1 := h1.ext e4; replace h2 := h2.ext e4; replace ho1 := ho1.ext e4
 have z5 := e4.size
 refine J_st (R_assign rfl) rfl (J_done ?_)
 refine S_seq ?_
 refine S_reg [true, true, true, false, true, true, true, false, false, true] rfl rfl ?_
 refine J_st (R_loadS st26 rfl h1.at rfl) rfl (J_st (R_fieldAddr0 fl31_0 rfl) rfl (J_st (R_load sc3 rfl (h2.one 0 rfl)) rfl ?_))
 refine J_call Try.call48 rfl (s_NodeOf [o1, .int .i64 g.workers, .int .i64 g.cap] g r.op _ (Graph.mkR g (RdD.any (hd1.ext E))) (by first | omega | (simp only [mkL_length]; omega) | (rw [mkL_length]; done) | (simp only [mkL_length]; done))) rfl (fun _ w6 e5 ho2 => ?_)
 obtain ⟨_, rfl, ho3⟩ := ho2
 have g_ho2 : w.heap.size ≤ w5.heap.size := E.size
 replace E := E.trans e5; replace h1 := h1.ext e5; replace h2 := h2.ext e5; replace ho1 := ho1.ext e5; replace h4 := h4.ext e5
 have z6 := e5.size
 obtain ⟨o2, rfl, sp1, hw1⟩ := Node.opO ho3
 refine J_st (R_move rfl) rfl (J_st (R_extract rfl rfl) rfl (J_st (R_extract rfl rfl) rfl ?_))
 refine J_alloc st42 rfl (fun b5 w7 e6 s5 h5 => ?_)
 have g_b5 : w.heap.size ≤ b5 := by have := E.size; omega
 have y_b5 := h5.lt
 replace E := E.trans e6; replace h1 := h1.ext e6; replace h2 := h2.ext e6; replace ho1 := ho1.ext e6; replace h4 := h4.ext e6; replace hw1 := hw1.ext e6
 have z7 := e6.size
 refine J_storeS' (cs' := [.int .i64 (((nodeOf g r.op).1).kind), .int .i64 (((nodeOf g r.op).1).a), .int .i64 (((nodeOf g r.op).1).b), o2]) st42 rfl rfl rfl (all_cons rfl (all_cons rfl (all_cons rfl (all_cons hw1.one rfl)))) h5 (Nat.le_of_ble_eq_true rfl) rfl (fun w8 m2 h5' => ?_)
 replace h5 := h5'
 replace E := E.step m2 (fun g hg => by cases hg; omega); replace h1 := h1.mod m2 (fun g hg => by cases hg; omega); replace h2 := h2.mod m2 (fun g hg => by cases hg; omega); replace ho1 := ho1.mod m2 (fun g hg => by cases hg; omega); replace h4 := h4.mod m2 (fun g hg => by cases hg; omega); replace hw1 := hw1.mod m2 (fun g hg => by cases hg; omega)
 have z8 := m2.size
 refine J_st (R_assign rfl) rfl (J_done ?_)
 refine S_seq ?_
 refine S_seq ?_
 refine S_reg [true, true, true, true, false, true, true, true, true, false, true, true] rfl rfl ?_
 refine J_st (R_move rfl) rfl (J_st (R_not rfl) rfl (J_st (R_move rfl) rfl ?_))
 refine J_cut 9 [(0, .agg [o1, .int .i64 g.workers, .int .i64 g.cap].toArray), (1, vcs), (2, .agg (Enc.enc r).toArray), (3, .pointer (some ⟨b1, 0, none⟩)), (5, .pointer (some ⟨b2, 0, none⟩)), (6, .slice none 0 0), (7, .slice none 0 0), (8, .bool false), (9, v1), (10, .slice (some ⟨b4, 0, none⟩) 0 0), (11, .pointer (some ⟨b5, 0, none⟩)), (12, .bool ((nodeOf g r.op).2)), (22, .slice (some ⟨b3, 0, none⟩) 0 0), (23, vcs), (24, v1), (25, .slice (some ⟨b4, 0, none⟩) 0 0), (26, .tuple [.agg [.int .i64 (((nodeOf g r.op).1).kind), .int .i64 (((nodeOf g r.op).1).a), .int .i64 (((nodeOf g r.op).1).b), o2].toArray, .bool ((nodeOf g r.op).2)].toArray), (27, .agg [o1, .int .i64 g.workers, .int .i64 g.cap].toArray), (28, .pointer (some ⟨b2, 0, none⟩)), (29, .int .i64 r.op), (30, .tuple [.agg [.int .i64 (((nodeOf g r.op).1).kind), .int .i64 (((nodeOf g r.op).1).a), .int .i64 (((nodeOf g r.op).1).b), o2].toArray, .bool ((nodeOf g r.op).2)].toArray), (31, .agg [.int .i64 (((nodeOf g r.op).1).kind), .int .i64 (((nodeOf g r.op).1).a), .int .i64 (((nodeOf g r.op).1).b), o2].toArray), (32, .bool ((nodeOf g r.op).2)), (44, .bool (((!((nodeOf g r.op).2)) || (!(graphOk g))) || (!(recordOk r))))] (fun w' => Ext w w' ∧ w8.heap.size ≤ w'.heap.size ∧ Blk w' b1 ([o1, .int .i64 g.workers, .int .i64 g.cap]) ∧ Blk w' b2 (Enc.enc r) ∧ Own w' b3 w4.heap.size 4 v1 ([] ++ List.flatMap (Enc.enc (α := Cell)) cs) ∧ Blk w' b4 [] ∧ Own w' w5.heap.size w6.heap.size 1 o2 (List.flatMap (Enc.enc (α := Int)) (((nodeOf g r.op).1).outs)) ∧ Blk w' b5 [.int .i64 (((nodeOf g r.op).1).kind), .int .i64 (((nodeOf g r.op).1).a), .int .i64 (((nodeOf g r.op).1).b), o2]) ?_ ?_
 ·refine J_if (gd := 35) rfl rfl (fun hg1 => ?_) (fun hg1 => ?_)
  ·refine J_gdno rfl rfl rfl rfl ?_
   refine J_ungno rfl rfl rfl rfl ?_
   refine J_gdno rfl rfl rfl rfl (J_st (R_pickT rfl rfl) rfl (J_st (R_move rfl) rfl (J_gdno rfl rfl rfl rfl ?_)))
   refine J_ungno rfl rfl rfl rfl ?_
   refine J_gdno rfl rfl rfl rfl (J_st (R_pickT rfl rfl) rfl (J_cutEnd ⟨rfl, rfl, rfl, rfl, rfl, rfl, rfl, rfl, rfl, rfl, rfl, rfl, rfl, rfl, rfl, rfl, rfl, rfl, rfl, rfl, rfl, rfl, rfl, congrArg (fun b => some (Value.bool b)) (show true = (((!((nodeOf g r.op).2)) || (!(graphOk g))) || (!(recordOk r))) by first | (rw [hg1] <;> rfl) | (simp [hg1]; done) | (simp only [nat_nlt] <;> simp)), trivial⟩ ⟨E, (by omega), h1, h2, ho1, h4, hw1, h5⟩))
  ·refine J_gd rfl rfl (R_loadS st26 rfl h1.at rfl) rfl ?_
   refine J_ung rfl rfl ?_
   refine J_call Try.call33 rfl (s_GraphOk [o1, .int .i64 g.workers, .int .i64 g.cap] g _ (Graph.mkR g (RdD.any (hd1.ext E)))) rfl (fun _ w10 e7 hv => ?_)
   subst hv
   replace E := E.trans e7; replace h1 := h1.ext e7; replace h2 := h2.ext e7; replace ho1 := ho1.ext e7; replace h4 := h4.ext e7; replace hw1 := hw1.ext e7; replace h5 := h5.ext e7
   have z9 := e7.size
   refine J_gd rfl rfl (R_not rfl) rfl (J_st (R_pickF rfl rfl) rfl (J_st (R_move rfl) rfl ?_))
   refine J_if (gd := 40) rfl rfl (fun hg2 => ?_) (fun hg2 => ?_)
   ·refine J_gdno rfl rfl rfl rfl ?_
    refine J_ungno rfl rfl rfl rfl ?_
    refine J_gdno rfl rfl rfl rfl (J_st (R_pickT rfl rfl) rfl (J_cutEnd ⟨rfl, rfl, rfl, rfl, rfl, rfl, rfl, rfl, rfl, rfl, rfl, rfl, rfl, rfl, rfl, rfl, rfl, rfl, rfl, rfl, rfl, rfl, rfl, congrArg (fun b => some (Value.bool b)) (show true = (((!((nodeOf g r.op).2)) || (!(graphOk g))) || (!(recordOk r))) by first | (rw [hg1, hg2] <;> rfl) | (simp [hg1, hg2]; done) | (simp only [nat_nlt] <;> simp)), trivial⟩ ⟨E, (by omega), h1, h2, ho1, h4, hw1, h5⟩))
   ·refine J_gd rfl rfl (R_loadS st31 rfl h2.at rfl) rfl ?_
    refine J_ung rfl rfl ?_
    refine J_call Try.call13 rfl (s_RecordOk r _ ) rfl (fun _ w11 e8 hv => ?_)
    subst hv
    replace E := E.trans e8; replace h1 := h1.ext e8; replace h2 := h2.ext e8; replace ho1 := ho1.ext e8; replace h4 := h4.ext e8; replace hw1 := hw1.ext e8; replace h5 := h5.ext e8
    have z10 := e8.size
    refine J_gd rfl rfl (R_not rfl) rfl (J_st (R_pickF rfl rfl) rfl (J_cutEnd ⟨rfl, rfl, rfl, rfl, rfl, rfl, rfl, rfl, rfl, rfl, rfl, rfl, rfl, rfl, rfl, rfl, rfl, rfl, rfl, rfl, rfl, rfl, rfl, congrArg (fun b => some (Value.bool b)) (show (!(recordOk r)) = (((!((nodeOf g r.op).2)) || (!(graphOk g))) || (!(recordOk r))) by first | (rw [hg1, hg2] <;> rfl) | (simp [hg1, hg2]; done) | (simp only [nat_nlt] <;> simp)), trivial⟩ ⟨E, (by omega), h1, h2, ho1, h4, hw1, h5⟩))
 clear E h1 h2 ho1 h4 hw1 h5
 rintro w9 ⟨E, z11, h1, h2, ho1, h4, hw1, h5⟩
 refine J_done ?_
 refine S_cond rfl (fun hc1 => ?_) (fun hc1 => ?_)
 ·replace hc1 := st_spt hc1
  refine S_seq ?_
  refine S_reg [true, true, true, true, true] rfl rfl ?_
  refine J_st (R_move rfl) rfl (J_st (R_move rfl) rfl (J_st (R_assign rfl) rfl (J_st (R_assign rfl) rfl (J_st (R_assign rfl) rfl (J_done ?_)))))
  refine S_ret (E_doneN (l := [.tmp 6, .tmp 7, .tmp 8]) (vs := [v1, .slice (some ⟨b4, 0, none⟩) 0 0, .bool false]) rfl ⟨.tmp rfl, .tmp rfl, .tmp rfl, trivial⟩ rfl E ?_)
  rw [st_0 hc1]
  exact ⟨_, _, rfl, Own.fin ho1 (by omega) (by omega) (by first | rfl | (simp only [List.nil_append]; done)), Own.fin (Own.ofBlk (lo := b4) (hi := b4 + 1) (sz := 5) h4 (Nat.le_refl _) (Nat.lt_succ_self _) (by rfl) (by unfold maxLen; omega)) (by omega) (by omega) (by first | rfl | (simp only [List.nil_append]; done)), ⟨⟨(Own.sep ho1 (Own.ofBlk (lo := b4) (hi := b4 + 1) (sz := 5) h4 (Nat.le_refl _) (Nat.lt_succ_self _) (by rfl) (by unfold maxLen; omega)) (by omega)), trivial⟩, ⟨trivial, trivial⟩⟩⟩
 ·replace hc1 := st_spf hc1
  have hq := st_of hc1
  have hop := isNode_of hq.2
  have hx : ((nodeOf g r.op).1) = stNode g r := nodeOf_1 hq.2
  have hol : ((nodeOf g r.op).1).outs.length ≤ 2 := hx ▸ outs_two (i := Int.toNat r.op) hq.1 (by omega)
  refine S_skip ?_
  refine S_seq ?_
  refine S_reg [true, true, true, true, true, false, true, true, true, true, true, true, true] rfl rfl ?_
  refine J_st (R_loadS st42 rfl h5.at rfl) rfl (J_st (R_fieldAddr0 fl31_2 rfl) rfl (J_st (R_load sc3 rfl (h2.one 3 rfl)) rfl (J_st (R_fieldAddr0 fl31_3 rfl) rfl (J_st (R_load sc3 rfl (h2.one 4 rfl)) rfl ?_))))
  refine J_call Try.call49 rfl (s_Changed [.int .i64 (((nodeOf g r.op).1).kind), .int .i64 (((nodeOf g r.op).1).a), .int .i64 (((nodeOf g r.op).1).b), o2] ((nodeOf g r.op).1) r.key r.val _ (Node.mkR ((nodeOf g r.op).1) (RdD.any (Own.rdD hw1)))) rfl (fun _ w12 e9 hv => ?_)
  subst hv
  replace E := E.trans e9; replace h1 := h1.ext e9; replace h2 := h2.ext e9; replace ho1 := ho1.ext e9; replace h4 := h4.ext e9; replace hw1 := hw1.ext e9; replace h5 := h5.ext e9
  have z12 := e9.size
  refine J_st (R_move rfl) rfl (J_st (R_extract rfl rfl) rfl (J_st (R_extract rfl rfl) rfl (J_st (R_extract rfl rfl) rfl (J_st (R_assign rfl) rfl (J_st (R_assign rfl) rfl (J_st (R_assign rfl) rfl (J_done ?_)))))))
  refine S_seq ?_
  refine S_seq ?_
  refine S_reg [true, true, true, true, true, true, true] rfl rfl ?_
  refine J_st (R_move rfl) rfl (J_st (R_not rfl) rfl (J_st (R_move rfl) rfl ?_))
  refine J_cut 4 [(0, .agg [o1, .int .i64 g.workers, .int .i64 g.cap].toArray), (1, vcs), (2, .agg (Enc.enc r).toArray), (3, .pointer (some ⟨b1, 0, none⟩)), (5, .pointer (some ⟨b2, 0, none⟩)), (6, .slice none 0 0), (7, .slice none 0 0), (8, .bool false), (9, v1), (10, .slice (some ⟨b4, 0, none⟩) 0 0), (11, .pointer (some ⟨b5, 0, none⟩)), (12, .bool ((nodeOf g r.op).2)), (13, .int .i64 ((changedM ((nodeOf g r.op).1) r.key r.val).1)), (14, .int .i64 ((changedM ((nodeOf g r.op).1) r.key r.val).2.1)), (15, .bool ((changedM ((nodeOf g r.op).1) r.key r.val).2.2)), (22, .slice (some ⟨b3, 0, none⟩) 0 0), (23, vcs), (24, v1), (25, .slice (some ⟨b4, 0, none⟩) 0 0), (26, .tuple [.agg [.int .i64 (((nodeOf g r.op).1).kind), .int .i64 (((nodeOf g r.op).1).a), .int .i64 (((nodeOf g r.op).1).b), o2].toArray, .bool ((nodeOf g r.op).2)].toArray), (27, .agg [o1, .int .i64 g.workers, .int .i64 g.cap].toArray), (28, .pointer (some ⟨b2, 0, none⟩)), (29, .int .i64 r.op), (30, .tuple [.agg [.int .i64 (((nodeOf g r.op).1).kind), .int .i64 (((nodeOf g r.op).1).a), .int .i64 (((nodeOf g r.op).1).b), o2].toArray, .bool ((nodeOf g r.op).2)].toArray), (31, .agg [.int .i64 (((nodeOf g r.op).1).kind), .int .i64 (((nodeOf g r.op).1).a), .int .i64 (((nodeOf g r.op).1).b), o2].toArray), (32, .bool ((nodeOf g r.op).2)), (44, .bool (((!((nodeOf g r.op).2)) || (!(graphOk g))) || (!(recordOk r)))), (47, .tuple [.int .i64 ((changedM ((nodeOf g r.op).1) r.key r.val).1), .int .i64 ((changedM ((nodeOf g r.op).1) r.key r.val).2.1), .bool ((changedM ((nodeOf g r.op).1) r.key r.val).2.2)].toArray), (48, .agg [.int .i64 (((nodeOf g r.op).1).kind), .int .i64 (((nodeOf g r.op).1).a), .int .i64 (((nodeOf g r.op).1).b), o2].toArray), (49, .pointer (some ⟨b2, 3, none⟩)), (50, .int .i64 r.key), (51, .pointer (some ⟨b2, 4, none⟩)), (52, .int .i64 r.val), (53, .tuple [.int .i64 ((changedM ((nodeOf g r.op).1) r.key r.val).1), .int .i64 ((changedM ((nodeOf g r.op).1) r.key r.val).2.1), .bool ((changedM ((nodeOf g r.op).1) r.key r.val).2.2)].toArray), (54, .int .i64 ((changedM ((nodeOf g r.op).1) r.key r.val).1)), (55, .int .i64 ((changedM ((nodeOf g r.op).1) r.key r.val).2.1)), (56, .bool ((changedM ((nodeOf g r.op).1) r.key r.val).2.2)), (63, .bool ((!((changedM ((nodeOf g r.op).1) r.key r.val).2.2)) && ((((nodeOf g r.op).1).kind) != 8)))] (fun w' => w12 = w') ?_ ?_
  ·refine J_if (gd := 59) rfl rfl (fun hg3 => ?_) (fun hg3 => ?_)
   ·refine J_gd rfl rfl (R_fieldAddr0 fl42_0 rfl) rfl (J_gd rfl rfl (R_load sc3 rfl (h5.one 0 rfl)) rfl (J_gd rfl rfl (R_neq rfl rfl) rfl (J_st (R_pickT rfl rfl) rfl (J_cutEnd ⟨rfl, rfl, rfl, rfl, rfl, rfl, rfl, rfl, rfl, rfl, rfl, rfl, rfl, rfl, rfl, rfl, rfl, rfl, rfl, rfl, rfl, rfl, rfl, rfl, rfl, rfl, rfl, rfl, rfl, rfl, rfl, rfl, rfl, rfl, rfl, rfl, rfl, congrArg (fun b => some (Value.bool b)) (show ((((nodeOf g r.op).1).kind) != 8) = ((!((changedM ((nodeOf g r.op).1) r.key r.val).2.2)) && ((((nodeOf g r.op).1).kind) != 8)) by first | (rw [hg3] <;> rfl) | (simp [hg3]; done) | (simp only [nat_nlt] <;> simp)), trivial⟩ rfl))))
   ·refine J_gdno rfl rfl rfl rfl (J_gdno rfl rfl rfl rfl (J_gdno rfl rfl rfl rfl (J_st (R_pickF rfl rfl) rfl (J_cutEnd ⟨rfl, rfl, rfl, rfl, rfl, rfl, rfl, rfl, rfl, rfl, rfl, rfl, rfl, rfl, rfl, rfl, rfl, rfl, rfl, rfl, rfl, rfl, rfl, rfl, rfl, rfl, rfl, rfl, rfl, rfl, rfl, rfl, rfl, rfl, rfl, rfl, rfl, congrArg (fun b => some (Value.bool b)) (show false = ((!((changedM ((nodeOf g r.op).1) r.key r.val).2.2)) && ((((nodeOf g r.op).1).kind) != 8)) by first | (rw [hg3] <;> rfl) | (simp [hg3]; done) | (simp only [nat_nlt] <;> simp)), trivial⟩ rfl))))
  rintro _ rfl
  refine J_done ?_
  refine S_cond rfl (fun hc2 => ?_) (fun hc2 => ?_)
  ·refine S_seq ?_
   refine S_reg [true, true, true, true, true] rfl rfl ?_
   refine J_st (R_move rfl) rfl (J_st (R_move rfl) rfl (J_st (R_assign rfl) rfl (J_st (R_assign rfl) rfl (J_st (R_assign rfl) rfl (J_done ?_)))))
   refine S_ret (E_doneN (l := [.tmp 6, .tmp 7, .tmp 8]) (vs := [v1, .slice (some ⟨b4, 0, none⟩) 0 0, .bool true]) rfl ⟨.tmp rfl, .tmp rfl, .tmp rfl, trivial⟩ rfl E ?_)
   rw [st_1 hc1 hx hc2]
   exact ⟨_, _, rfl, Own.fin ho1 (by omega) (by omega) (by first | rfl | (simp only [List.nil_append]; done)), Own.fin (Own.ofBlk (lo := b4) (hi := b4 + 1) (sz := 5) h4 (Nat.le_refl _) (Nat.lt_succ_self _) (by rfl) (by unfold maxLen; omega)) (by omega) (by omega) (by first | rfl | (simp only [List.nil_append]; done)), ⟨⟨(Own.sep ho1 (Own.ofBlk (lo := b4) (hi := b4 + 1) (sz := 5) h4 (Nat.le_refl _) (Nat.lt_succ_self _) (by rfl) (by unfold maxLen; omega)) (by omega)), trivial⟩, ⟨trivial, trivial⟩⟩⟩
  ·refine S_skip ?_
   refine S_seq ?_
   refine S_seq ?_
   refine S_reg [true, true, false] rfl rfl ?_
   refine J_st (R_fieldAddr0 fl42_0 rfl) rfl (J_st (R_load sc3 rfl (h5.one 0 rfl)) rfl ?_)
   refine J_call Try.call50 rfl (s_Remembers (((nodeOf g r.op).1).kind) _ ) rfl (fun _ w14 e10 hv => ?_)
   subst hv
   replace E := E.trans e10; replace h1 := h1.ext e10; replace h2 := h2.ext e10; replace ho1 := ho1.ext e10; replace h4 := h4.ext e10; replace hw1 := hw1.ext e10; replace h5 := h5.ext e10
   have z13 := e10.size
   refine J_done ?_
   refine S_cond rfl (fun hc3 => ?_) (fun hc3 => ?_)
   ·refine S_seq ?_
    refine S_reg [true, true, true, true, true, true, true, true, true, true, true, true, true, false, true, true, true, true, true] rfl rfl ?_
    refine J_st (R_fieldAddr0 fl42_0 rfl) rfl (J_st (R_load sc3 rfl (h5.one 0 rfl)) rfl (J_st (R_move rfl) rfl (J_st (R_fieldAddr0 fl31_0 rfl) rfl (J_st (R_load sc3 rfl (h2.one 0 rfl)) rfl (J_st (R_fieldAddr0 fl31_1 rfl) rfl (J_st (R_fieldAddr fl29_0 rfl) rfl (J_st (R_load sc3 rfl (h2.one 1 rfl)) rfl (J_st (R_fieldAddr0 fl31_2 rfl) rfl (J_st (R_load sc3 rfl (h2.one 3 rfl)) rfl (J_st (R_fieldAddr0 fl31_3 rfl) rfl (J_st (R_load sc3 rfl (h2.one 4 rfl)) rfl (J_st (R_build (⟨r.op, r.stamp.epoch, r.key, r.val⟩ : Cell) rfl (fun _ => by kernel_rfl)) rfl ?_))))))))))))
    refine J_call Try.call51 rfl (s_Recall (((nodeOf g r.op).1).kind) vcs cs (⟨r.op, r.stamp.epoch, r.key, r.val⟩ : Cell) _ (hcs.ext E) (by first | omega | (simp only [mkL_length]; omega) | (rw [mkL_length]; done) | (simp only [mkL_length]; done))) rfl (fun _ w15 e11 ho4 => ?_)
    obtain ⟨v2, rfl, ho5⟩ := ho4
    have g_ho4 : w.heap.size ≤ w14.heap.size := E.size
    replace E := E.trans e11; replace h1 := h1.ext e11; replace h2 := h2.ext e11; replace ho1 := ho1.ext e11; replace h4 := h4.ext e11; replace hw1 := hw1.ext e11; replace h5 := h5.ext e11
    have z14 := e11.size
    refine J_st (R_move rfl) rfl (J_st (R_extract rfl rfl) rfl (J_st (R_extract rfl rfl) rfl (J_st (R_assign rfl) rfl (J_st (R_assign rfl) rfl (J_done ?_)))))
    refine S_seq ?_
    refine S_reg [true, true] rfl rfl ?_
    refine J_st (R_move rfl) rfl (J_st (R_assign rfl) rfl (J_done ?_))
    refine S_seq ?_
    refine S_reg [true, true] rfl rfl ?_
    refine J_st (R_move rfl) rfl (J_st (R_not rfl) rfl (J_done ?_))
    refine S_cond rfl (fun hc4 => ?_) (fun hc4 => ?_)
    ·refine S_seq ?_
     refine S_reg [true, true, true, true, true] rfl rfl ?_
     refine J_st (R_move rfl) rfl (J_st (R_move rfl) rfl (J_st (R_assign rfl) rfl (J_st (R_assign rfl) rfl (J_st (R_assign rfl) rfl (J_done ?_)))))
     refine S_ret (E_doneN (l := [.tmp 6, .tmp 7, .tmp 8]) (vs := [v2, .slice (some ⟨b4, 0, none⟩) 0 0, .bool true]) rfl ⟨.tmp rfl, .tmp rfl, .tmp rfl, trivial⟩ rfl E ?_)
     rw [st_2 hc1 hx hc2 hc4]
     exact ⟨_, _, rfl, Own.fin ho5 (by omega) (by omega) (by first | rfl | (simp only [List.nil_append]; done)), Own.fin (Own.ofBlk (lo := b4) (hi := b4 + 1) (sz := 5) h4 (Nat.le_refl _) (Nat.lt_succ_self _) (by rfl) (by unfold maxLen; omega)) (by omega) (by omega) (by first | rfl | (simp only [List.nil_append]; done)), ⟨⟨(Own.sep ho5 (Own.ofBlk (lo := b4) (hi := b4 + 1) (sz := 5) h4 (Nat.le_refl _) (Nat.lt_succ_self _) (by rfl) (by unfold maxLen; omega)) (by omega)), trivial⟩, ⟨trivial, trivial⟩⟩⟩
    ·refine S_skip ?_
     refine S_seq ?_
     refine S_reg [true, true, false, false] rfl rfl ?_
     refine J_st (R_fieldAddr0 fl31_1 rfl) rfl (J_st (R_loadS st29 rfl (h2.part 1 [.int .i64 r.stamp.epoch, .int .i64 r.stamp.turn] rfl) rfl) rfl ?_)
     refine J_alloc st29 rfl (fun b6 w16 e12 s6 h6 => ?_)
     have g_b6 : w.heap.size ≤ b6 := by have := E.size; omega
     have y_b6 := h6.lt
     replace E := E.trans e12; replace h1 := h1.ext e12; replace h2 := h2.ext e12; replace ho1 := ho1.ext e12; replace h4 := h4.ext e12; replace hw1 := hw1.ext e12; replace h5 := h5.ext e12; replace ho5 := ho5.ext e12
     have z15 := e12.size
     refine J_storeS' (cs' := [.int .i64 r.stamp.epoch, .int .i64 r.stamp.turn]) st29 rfl rfl rfl rfl h6 (Nat.le_of_ble_eq_true rfl) rfl (fun w17 m3 h6' => ?_)
     replace h6 := h6'
     replace E := E.step m3 (fun g hg => by cases hg; omega); replace h1 := h1.mod m3 (fun g hg => by cases hg; omega); replace h2 := h2.mod m3 (fun g hg => by cases hg; omega); replace ho1 := ho1.mod m3 (fun g hg => by cases hg; omega); replace h4 := h4.mod m3 (fun g hg => by cases hg; omega); replace hw1 := hw1.mod m3 (fun g hg => by cases hg; omega); replace h5 := h5.mod m3 (fun g hg => by cases hg; omega); replace ho5 := ho5.mod m3 (fun g hg => by cases hg; omega)
     have z16 := m3.size
     refine J_done ?_
     refine S_seq ?_
     refine S_seq ?_
     refine S_reg [true, true, true] rfl rfl ?_
     refine J_st (R_fieldAddr0 fl42_0 rfl) rfl (J_st (R_load sc3 rfl (h5.one 0 rfl)) rfl (J_st (R_eql rfl rfl) rfl (J_done ?_)))
     refine S_cond rfl (fun hc5 => ?_) (fun hc5 => ?_)
     ·have hstm := stamp_7 hx hc5
      refine S_seq ?_
      refine S_reg [true, false, true, true, true, false, false, true] rfl rfl ?_
      refine J_st (R_loadS st29 rfl h6.at rfl) rfl ?_
      refine J_call Try.call52 rfl (s_NextTurn r.stamp _ ) rfl (fun _ w18 e13 hv => ?_)
      subst hv
      replace E := E.trans e13; replace h1 := h1.ext e13; replace h2 := h2.ext e13; replace ho1 := ho1.ext e13; replace h4 := h4.ext e13; replace hw1 := hw1.ext e13; replace h5 := h5.ext e13; replace ho5 := ho5.ext e13; replace h6 := h6.ext e13
      have z17 := e13.size
      refine J_st (R_move rfl) rfl (J_st (R_extract rfl rfl) rfl (J_st (R_extract rfl rfl) rfl ?_))
      refine J_alloc st29 rfl (fun b7 w19 e14 s7 h7 => ?_)
      have g_b7 : w.heap.size ≤ b7 := by have := E.size; omega
      have y_b7 := h7.lt
      replace E := E.trans e14; replace h1 := h1.ext e14; replace h2 := h2.ext e14; replace ho1 := ho1.ext e14; replace h4 := h4.ext e14; replace hw1 := hw1.ext e14; replace h5 := h5.ext e14; replace ho5 := ho5.ext e14; replace h6 := h6.ext e14
      have z18 := e14.size
      refine J_storeS' (cs' := [.int .i64 (((nextT r.stamp).1).epoch), .int .i64 (((nextT r.stamp).1).turn)]) st29 rfl rfl rfl rfl h7 (Nat.le_of_ble_eq_true rfl) rfl (fun w20 m4 h7' => ?_)
      replace h7 := h7'
      replace E := E.step m4 (fun g hg => by cases hg; omega); replace h1 := h1.mod m4 (fun g hg => by cases hg; omega); replace h2 := h2.mod m4 (fun g hg => by cases hg; omega); replace ho1 := ho1.mod m4 (fun g hg => by cases hg; omega); replace h4 := h4.mod m4 (fun g hg => by cases hg; omega); replace hw1 := hw1.mod m4 (fun g hg => by cases hg; omega); replace h5 := h5.mod m4 (fun g hg => by cases hg; omega); replace ho5 := ho5.mod m4 (fun g hg => by cases hg; omega); replace h6 := h6.mod m4 (fun g hg => by cases hg; omega)
      have z19 := m4.size
      refine J_st (R_assign rfl) rfl (J_done ?_)
      refine S_seq ?_
      refine S_seq ?_
      refine S_reg [true, true] rfl rfl ?_
      refine J_st (R_move rfl) rfl (J_st (R_not rfl) rfl (J_done ?_))
      refine S_cond rfl (fun hc6 => ?_) (fun hc6 => ?_)
      ·refine S_seq ?_
       refine S_reg [true, true, true, true, true] rfl rfl ?_
       refine J_st (R_move rfl) rfl (J_st (R_move rfl) rfl (J_st (R_assign rfl) rfl (J_st (R_assign rfl) rfl (J_st (R_assign rfl) rfl (J_done ?_)))))
       refine S_ret (E_doneN (l := [.tmp 6, .tmp 7, .tmp 8]) (vs := [v2, .slice (some ⟨b4, 0, none⟩) 0 0, .bool true]) rfl ⟨.tmp rfl, .tmp rfl, .tmp rfl, trivial⟩ rfl E ?_)
       rw [st_3 hc1 hx hc2 hc4, out_no (by rw [hstm]; exact not_t hc6)]
       exact ⟨_, _, rfl, Own.fin ho5 (by omega) (by omega) (by first | rfl | (simp only [List.nil_append]; done)), Own.fin (Own.ofBlk (lo := b4) (hi := b4 + 1) (sz := 5) h4 (Nat.le_refl _) (Nat.lt_succ_self _) (by rfl) (by unfold maxLen; omega)) (by omega) (by omega) (by first | rfl | (simp only [List.nil_append]; done)), ⟨⟨(Own.sep ho5 (Own.ofBlk (lo := b4) (hi := b4 + 1) (sz := 5) h4 (Nat.le_refl _) (Nat.lt_succ_self _) (by rfl) (by unfold maxLen; omega)) (by omega)), trivial⟩, ⟨trivial, trivial⟩⟩⟩
      ·refine S_skip ?_
       refine S_reg [true, false] rfl rfl ?_
       refine J_st (R_loadS st29 rfl h7.at rfl) rfl ?_
       refine J_storeS' (cs' := [.int .i64 (((nextT r.stamp).1).epoch), .int .i64 (((nextT r.stamp).1).turn)]) st29 rfl rfl rfl rfl h6 (Nat.le_of_ble_eq_true rfl) rfl (fun w21 m5 h6' => ?_)
       replace h6 := h6'
       replace E := E.step m5 (fun g hg => by cases hg; omega); replace h1 := h1.mod m5 (fun g hg => by cases hg; omega); replace h2 := h2.mod m5 (fun g hg => by cases hg; omega); replace ho1 := ho1.mod m5 (fun g hg => by cases hg; omega); replace h4 := h4.mod m5 (fun g hg => by cases hg; omega); replace hw1 := hw1.mod m5 (fun g hg => by cases hg; omega); replace h5 := h5.mod m5 (fun g hg => by cases hg; omega); replace ho5 := ho5.mod m5 (fun g hg => by cases hg; omega); replace h7 := h7.mod m5 (fun g hg => by cases hg; omega)
       have z20 := m5.size
       refine J_done ?_
       refine S_seq ?_
       refine S_seq ?_
       refine S_reg [true] rfl rfl ?_
       refine J_st (R_assign rfl) rfl (J_done ?_)
       refine S_block ?_
       refine S_loop (fun (xq : Nat × Value) => let ⟨k, vo⟩ := xq; [(6, .slice none 0 0), (7, .slice none 0 0), (8, .bool false), (9, v2), (10, vo), (11, .pointer (some ⟨b5, 0, none⟩)), (13, .int .i64 ((changedM ((nodeOf g r.op).1) r.key r.val).1)), (14, .int .i64 ((changedM ((nodeOf g r.op).1) r.key r.val).2.1)), (18, .pointer (some ⟨b6, 0, none⟩)), (21, .int .i64 ((k : Nat) : Int))]) (fun (xq : Nat × Value) w' => let ⟨k, vo⟩ := xq; Ext w w' ∧ w21.heap.size ≤ w'.heap.size ∧ Blk w' b1 ([o1, .int .i64 g.workers, .int .i64 g.cap]) ∧ Blk w' b2 (Enc.enc r) ∧ Own w' b3 w4.heap.size 4 v1 ([] ++ List.flatMap (Enc.enc (α := Cell)) cs) ∧ Own w' w5.heap.size w6.heap.size 1 o2 (List.flatMap (Enc.enc (α := Int)) (((nodeOf g r.op).1).outs)) ∧ Blk w' b5 [.int .i64 (((nodeOf g r.op).1).kind), .int .i64 (((nodeOf g r.op).1).a), .int .i64 (((nodeOf g r.op).1).b), o2] ∧ Own w' w14.heap.size w15.heap.size 4 v2 (List.flatMap (Enc.enc (α := Cell)) ((recallM (((nodeOf g r.op).1).kind) cs (⟨r.op, r.stamp.epoch, r.key, r.val⟩ : Cell)).1)) ∧ Blk w' b6 [.int .i64 (((nextT r.stamp).1).epoch), .int .i64 (((nextT r.stamp).1).turn)] ∧ Blk w' b7 [.int .i64 (((nextT r.stamp).1).epoch), .int .i64 (((nextT r.stamp).1).turn)] ∧ k ≤ ((nodeOf g r.op).1).outs.length ∧ Own w' b4 w'.heap.size 5 vo (List.flatMap (Enc.enc (α := Record)) (stOut g r k)) ∧ (∀ g, Value.ownBlock vo = some g → g = b4 ∨ w21.heap.size ≤ g)) (fun (xq : Nat × Value) => let ⟨k, vo⟩ := xq; ((nodeOf g r.op).1).outs.length - k) (0, .slice (some ⟨b4, 0, none⟩) 0 0) ⟨rfl, rfl, rfl, rfl, rfl, rfl, rfl, rfl, rfl, rfl, trivial⟩ ⟨E, Nat.le_refl _, h1, h2, ho1, hw1, h5, ho5, h6, h7, Nat.zero_le _, Own.fin (Own.ofBlk (lo := b4) (hi := b4 + 1) (sz := 5) h4 (Nat.le_refl _) (Nat.lt_succ_self _) (by simp) (by simp [maxLen])) (by omega) (by omega) out_zero.symm, (fun g hg => .inl (by cases hg; rfl))⟩ ?_
       clear E h1 h2 ho1 h4 hw1 h5 ho5 h6 h7
       rintro ⟨k, vo⟩ w22 ⟨E, z21, h1, h2, ho1, hw1, h5, ho5, h6, h7, hk, hvo, hvn⟩
       refine S_sub [(6, .slice none 0 0), (7, .slice none 0 0), (8, .bool false), (9, v2), (10, vo), (11, .pointer (some ⟨b5, 0, none⟩)), (13, .int .i64 ((changedM ((nodeOf g r.op).1) r.key r.val).1)), (14, .int .i64 ((changedM ((nodeOf g r.op).1) r.key r.val).2.1)), (18, .pointer (some ⟨b6, 0, none⟩)), (21, .int .i64 ((k : Nat) : Int))] ⟨rfl, rfl, rfl, rfl, rfl, rfl, rfl, rfl, rfl, rfl, trivial⟩ ?_
       refine S_seq ?_
       refine S_seq ?_
       refine S_reg [true, true, true, true, true] rfl rfl ?_
       refine J_st (R_move rfl) rfl (J_st (R_fieldAddr0 fl42_3 rfl) rfl (J_st (R_load sc40 rfl (h5.one 3 rfl)) rfl (J_st (R_len Try.underlying40 rfl (Own.len (by decide) hw1)) rfl (J_st (R_lss rfl rfl) rfl (J_done ?_)))))
       refine S_cond rfl (fun hc7 => ?_) (fun hc7 => ?_)
       ·have hc7n : k < (((nodeOf g r.op).1).outs).length := by first | (have h := of_decide_eq_true hc7; omega) | (have h := hc7; simp at h; omega)
        refine S_skip ?_
        refine S_seq ?_
        refine S_block ?_
        refine S_regX mixed [11] [(0, true), (1, true), (2, true), (3, true), (4, true), (5, true), (6, true), (7, true), (8, true), (9, true), (10, false)] [(11, false), (12, true)] (by decide +kernel) rfl rfl (fun w23 e15 => ?_)
        replace E := E.trans e15; replace h1 := h1.ext e15; replace h2 := h2.ext e15; replace ho1 := ho1.ext e15; replace hw1 := hw1.ext e15; replace h5 := h5.ext e15; replace ho5 := ho5.ext e15; replace h6 := h6.ext e15; replace h7 := h7.ext e15; replace hvo := hvo.ext e15
        have z22 := e15.size
        refine J_st (R_move rfl) rfl (J_st (R_fieldAddr0 fl42_3 rfl) rfl (J_st (R_load sc40 rfl (h5.one 3 rfl)) rfl (J_st (R_move rfl) rfl ?_)))
        have hi1 : k < (((nodeOf g r.op).1).outs).length := (by first | assumption | omega | (simp only [List.length_set]; first | assumption | omega) | (simp only [List.getElem_set_self, List.length_set]; first | assumption | omega) | (simp only [setW, setLk, List.length_set]; first | assumption | omega) | (simp; done))
        refine J_st (R_index (i := k) sl40 rfl rfl (Own.rd (by decide) hw1) hi1) rfl (J_st (R_load sc3 rfl (((Own.rd (by decide) hw1).get hi1).one 0 rfl)) rfl (J_st (R_loadS st29 rfl h6.at rfl) rfl (J_st (R_move rfl) rfl (J_st (R_move rfl) rfl (J_st (R_build (⟨((((nodeOf g r.op).1).outs)[k]'hi1), ((nextT r.stamp).1), (changedM ((nodeOf g r.op).1) r.key r.val).1, (changedM ((nodeOf g r.op).1) r.key r.val).2.1⟩ : Record) rfl (fun _ => by kernel_rfl)) rfl ?_)))))
        refine J_buildSlice (vs := [.agg (Enc.enc (⟨((((nodeOf g r.op).1).outs)[k]'hi1), ((nextT r.stamp).1), (changedM ((nodeOf g r.op).1) r.key r.val).1, (changedM ((nodeOf g r.op).1) r.key r.val).2.1⟩ : Record)).toArray]) (css := [[.int .i64 ((⟨((((nodeOf g r.op).1).outs)[k]'hi1), ((nextT r.stamp).1), (changedM ((nodeOf g r.op).1) r.key r.val).1, (changedM ((nodeOf g r.op).1) r.key r.val).2.1⟩ : Record).op), .int .i64 (((⟨((((nodeOf g r.op).1).outs)[k]'hi1), ((nextT r.stamp).1), (changedM ((nodeOf g r.op).1) r.key r.val).1, (changedM ((nodeOf g r.op).1) r.key r.val).2.1⟩ : Record).stamp).epoch), .int .i64 (((⟨((((nodeOf g r.op).1).outs)[k]'hi1), ((nextT r.stamp).1), (changedM ((nodeOf g r.op).1) r.key r.val).1, (changedM ((nodeOf g r.op).1) r.key r.val).2.1⟩ : Record).stamp).turn), .int .i64 ((⟨((((nodeOf g r.op).1).outs)[k]'hi1), ((nextT r.stamp).1), (changedM ((nodeOf g r.op).1) r.key r.val).1, (changedM ((nodeOf g r.op).1) r.key r.val).2.1⟩ : Record).key), .int .i64 ((⟨((((nodeOf g r.op).1).outs)[k]'hi1), ((nextT r.stamp).1), (changedM ((nodeOf g r.op).1) r.key r.val).1, (changedM ((nodeOf g r.op).1) r.key r.val).2.1⟩ : Record).val)]]) sl34 rfl rfl ⟨⟨rfl, rfl⟩, trivial⟩ rfl rfl (fun b8 w24 e16 s8 h8 => ?_)
        replace h8 : Blk w24 b8 [.int .i64 ((⟨((((nodeOf g r.op).1).outs)[k]'hi1), ((nextT r.stamp).1), (changedM ((nodeOf g r.op).1) r.key r.val).1, (changedM ((nodeOf g r.op).1) r.key r.val).2.1⟩ : Record).op), .int .i64 (((⟨((((nodeOf g r.op).1).outs)[k]'hi1), ((nextT r.stamp).1), (changedM ((nodeOf g r.op).1) r.key r.val).1, (changedM ((nodeOf g r.op).1) r.key r.val).2.1⟩ : Record).stamp).epoch), .int .i64 (((⟨((((nodeOf g r.op).1).outs)[k]'hi1), ((nextT r.stamp).1), (changedM ((nodeOf g r.op).1) r.key r.val).1, (changedM ((nodeOf g r.op).1) r.key r.val).2.1⟩ : Record).stamp).turn), .int .i64 ((⟨((((nodeOf g r.op).1).outs)[k]'hi1), ((nextT r.stamp).1), (changedM ((nodeOf g r.op).1) r.key r.val).1, (changedM ((nodeOf g r.op).1) r.key r.val).2.1⟩ : Record).key), .int .i64 ((⟨((((nodeOf g r.op).1).outs)[k]'hi1), ((nextT r.stamp).1), (changedM ((nodeOf g r.op).1) r.key r.val).1, (changedM ((nodeOf g r.op).1) r.key r.val).2.1⟩ : Record).val)] := h8
        have g_b8 : w.heap.size ≤ b8 := by have := E.size; omega
        have y_b8 := h8.lt
        replace E := E.trans e16; replace h1 := h1.ext e16; replace h2 := h2.ext e16; replace ho1 := ho1.ext e16; replace hw1 := hw1.ext e16; replace h5 := h5.ext e16; replace ho5 := ho5.ext e16; replace h6 := h6.ext e16; replace h7 := h7.ext e16; replace hvo := hvo.ext e16
        have z23 := e16.size
        refine JX_tail ?_
        refine J2_X rfl ?_
        refine J_appendB sl34 rfl rfl hvo (Src.ofBlk h8 rfl) rfl (by first | (simp only [sum_flat, List.length_nil, List.length_cons]; simp only [Enc.sz]; omega) | (have h := out_len g r k; rw [sum_flat]; simp only [show Enc.sz Record = 5 from rfl, List.length_cons, List.length_nil]; omega)) (by decide) (by omega) (by omega) rfl rfl (fun v3 w25 m6 ho6 hb1 => ?_)
        have hn1 : ∀ g, Value.ownBlock v3 = some g → g = b4 ∨ w21.heap.size ≤ g := fun g hg => (hb1 g hg).elim (fun h => hvn g h) (fun h => by omega)
        replace E := E.step m6 (fun g hg => by have := Own.blk hvo g hg; have := hvn g hg; omega); replace h1 := h1.mod m6 (fun g hg => by have := Own.blk hvo g hg; have := hvn g hg; omega); replace h2 := h2.mod m6 (fun g hg => by have := Own.blk hvo g hg; have := hvn g hg; omega); replace ho1 := ho1.mod m6 (fun g hg => by have := Own.blk hvo g hg; have := hvn g hg; omega); replace hw1 := hw1.mod m6 (fun g hg => by have := Own.blk hvo g hg; have := hvn g hg; omega); replace h5 := h5.mod m6 (fun g hg => by have := Own.blk hvo g hg; have := hvn g hg; omega); replace ho5 := ho5.mod m6 (fun g hg => by have := Own.blk hvo g hg; have := hvn g hg; omega); replace h6 := h6.mod m6 (fun g hg => by have := Own.blk hvo g hg; have := hvn g hg; omega); replace h7 := h7.mod m6 (fun g hg => by have := Own.blk hvo g hg; have := hvn g hg; omega)
        have z24 := m6.size
        refine JX_go ?_
        refine J_st (R_assign rfl) rfl (J_done ?_)
        refine S_nil (E_inB ?_)
        refine S_reg [true, true, true] rfl rfl ?_
        refine J_st (R_move rfl) rfl (J_st (R_add rfl rfl (add_one hc7n (Own.rd (by decide) hw1).1)) rfl (J_st (R_assign rfl) rfl (J_done ?_)))
        refine S_nil (E_again (k + 1, v3) (by dsimp only; omega) ⟨rfl, rfl, rfl, rfl, rfl, rfl, rfl, rfl, rfl, rfl, trivial⟩ ⟨E, (by omega), h1, h2, ho1, hw1, h5, ho5, h6, h7, (by omega), Own.fin ho6 (Nat.le_refl _) (by omega) (out_step (by rw [hstm]) (by rw [hstm]; exact not_f hc6) hx (by omega)), hn1⟩)
       ·have hc7n : ¬ k < (((nodeOf g r.op).1).outs).length := by first | (have h := of_decide_eq_false hc7; omega) | (have h := hc7; simp at h; omega)
        refine S_exit (E_lp_exit (E_inB_exit ?_))
        refine S_seq ?_
        refine S_reg [true, true, true, true, true] rfl rfl ?_
        refine J_st (R_move rfl) rfl (J_st (R_move rfl) rfl (J_st (R_assign rfl) rfl (J_st (R_assign rfl) rfl (J_st (R_assign rfl) rfl (J_done ?_)))))
        refine S_ret (E_doneN (l := [.tmp 6, .tmp 7, .tmp 8]) (vs := [v2, vo, .bool true]) rfl ⟨.tmp rfl, .tmp rfl, .tmp rfl, trivial⟩ rfl E ?_)
        rw [st_3 hc1 hx hc2 hc4]
        exact ⟨_, _, rfl, Own.fin ho5 (by omega) (by omega) (by first | rfl | (simp only [List.nil_append]; done)), Own.fin hvo (by omega) (by omega) (by rw [show ((nodeOf g r.op).1).outs.length = k from by omega]), ⟨⟨(fun g hg he => by have := Own.blk ho5 g hg; have := Own.blk hvo g he; have := hvn g he; omega), trivial⟩, ⟨trivial, trivial⟩⟩⟩
     ·have hstm := stamp_o hx hc5
      refine S_skip ?_
      refine S_seq ?_
      refine S_seq ?_
      refine S_reg [true] rfl rfl ?_
      refine J_st (R_assign rfl) rfl (J_done ?_)
      refine S_block ?_
      refine S_loop (fun (xq : Nat × Value) => let ⟨k, vo⟩ := xq; [(6, .slice none 0 0), (7, .slice none 0 0), (8, .bool false), (9, v2), (10, vo), (11, .pointer (some ⟨b5, 0, none⟩)), (13, .int .i64 ((changedM ((nodeOf g r.op).1) r.key r.val).1)), (14, .int .i64 ((changedM ((nodeOf g r.op).1) r.key r.val).2.1)), (18, .pointer (some ⟨b6, 0, none⟩)), (21, .int .i64 ((k : Nat) : Int))]) (fun (xq : Nat × Value) w' => let ⟨k, vo⟩ := xq; Ext w w' ∧ w17.heap.size ≤ w'.heap.size ∧ Blk w' b1 ([o1, .int .i64 g.workers, .int .i64 g.cap]) ∧ Blk w' b2 (Enc.enc r) ∧ Own w' b3 w4.heap.size 4 v1 ([] ++ List.flatMap (Enc.enc (α := Cell)) cs) ∧ Own w' w5.heap.size w6.heap.size 1 o2 (List.flatMap (Enc.enc (α := Int)) (((nodeOf g r.op).1).outs)) ∧ Blk w' b5 [.int .i64 (((nodeOf g r.op).1).kind), .int .i64 (((nodeOf g r.op).1).a), .int .i64 (((nodeOf g r.op).1).b), o2] ∧ Own w' w14.heap.size w15.heap.size 4 v2 (List.flatMap (Enc.enc (α := Cell)) ((recallM (((nodeOf g r.op).1).kind) cs (⟨r.op, r.stamp.epoch, r.key, r.val⟩ : Cell)).1)) ∧ Blk w' b6 [.int .i64 r.stamp.epoch, .int .i64 r.stamp.turn] ∧ k ≤ ((nodeOf g r.op).1).outs.length ∧ Own w' b4 w'.heap.size 5 vo (List.flatMap (Enc.enc (α := Record)) (stOut g r k)) ∧ (∀ g, Value.ownBlock vo = some g → g = b4 ∨ w17.heap.size ≤ g)) (fun (xq : Nat × Value) => let ⟨k, vo⟩ := xq; ((nodeOf g r.op).1).outs.length - k) (0, .slice (some ⟨b4, 0, none⟩) 0 0) ⟨rfl, rfl, rfl, rfl, rfl, rfl, rfl, rfl, rfl, rfl, trivial⟩ ⟨E, Nat.le_refl _, h1, h2, ho1, hw1, h5, ho5, h6, Nat.zero_le _, Own.fin (Own.ofBlk (lo := b4) (hi := b4 + 1) (sz := 5) h4 (Nat.le_refl _) (Nat.lt_succ_self _) (by simp) (by simp [maxLen])) (by omega) (by omega) out_zero.symm, (fun g hg => .inl (by cases hg; rfl))⟩ ?_
      clear E h1 h2 ho1 h4 hw1 h5 ho5 h6
      rintro ⟨k, vo⟩ w26 ⟨E, z25, h1, h2, ho1, hw1, h5, ho5, h6, hk, hvo, hvn⟩
      refine S_sub [(6, .slice none 0 0), (7, .slice none 0 0), (8, .bool false), (9, v2), (10, vo), (11, .pointer (some ⟨b5, 0, none⟩)), (13, .int .i64 ((changedM ((nodeOf g r.op).1) r.key r.val).1)), (14, .int .i64 ((changedM ((nodeOf g r.op).1) r.key r.val).2.1)), (18, .pointer (some ⟨b6, 0, none⟩)), (21, .int .i64 ((k : Nat) : Int))] ⟨rfl, rfl, rfl, rfl, rfl, rfl, rfl, rfl, rfl, rfl, trivial⟩ ?_
      refine S_seq ?_
      refine S_seq ?_
      refine S_reg [true, true, true, true, true] rfl rfl ?_
      refine J_st (R_move rfl) rfl (J_st (R_fieldAddr0 fl42_3 rfl) rfl (J_st (R_load sc40 rfl (h5.one 3 rfl)) rfl (J_st (R_len Try.underlying40 rfl (Own.len (by decide) hw1)) rfl (J_st (R_lss rfl rfl) rfl (J_done ?_)))))
      refine S_cond rfl (fun hc8 => ?_) (fun hc8 => ?_)
      ·have hc8n : k < (((nodeOf g r.op).1).outs).length := by first | (have h := of_decide_eq_true hc8; omega) | (have h := hc8; simp at h; omega)
       refine S_skip ?_
       refine S_seq ?_
       refine S_block ?_
       refine S_regX mixed [11] [(0, true), (1, true), (2, true), (3, true), (4, true), (5, true), (6, true), (7, true), (8, true), (9, true), (10, false)] [(11, false), (12, true)] (by decide +kernel) rfl rfl (fun w27 e17 => ?_)
       replace E := E.trans e17; replace h1 := h1.ext e17; replace h2 := h2.ext e17; replace ho1 := ho1.ext e17; replace hw1 := hw1.ext e17; replace h5 := h5.ext e17; replace ho5 := ho5.ext e17; replace h6 := h6.ext e17; replace hvo := hvo.ext e17
       have z26 := e17.size
       refine J_st (R_move rfl) rfl (J_st (R_fieldAddr0 fl42_3 rfl) rfl (J_st (R_load sc40 rfl (h5.one 3 rfl)) rfl (J_st (R_move rfl) rfl ?_)))
       have hi2 : k < (((nodeOf g r.op).1).outs).length := (by first | assumption | omega | (simp only [List.length_set]; first | assumption | omega) | (simp only [List.getElem_set_self, List.length_set]; first | assumption | omega) | (simp only [setW, setLk, List.length_set]; first | assumption | omega) | (simp; done))
       refine J_st (R_index (i := k) sl40 rfl rfl (Own.rd (by decide) hw1) hi2) rfl (J_st (R_load sc3 rfl (((Own.rd (by decide) hw1).get hi2).one 0 rfl)) rfl (J_st (R_loadS st29 rfl h6.at rfl) rfl (J_st (R_move rfl) rfl (J_st (R_move rfl) rfl (J_st (R_build (⟨((((nodeOf g r.op).1).outs)[k]'hi2), r.stamp, (changedM ((nodeOf g r.op).1) r.key r.val).1, (changedM ((nodeOf g r.op).1) r.key r.val).2.1⟩ : Record) rfl (fun _ => by kernel_rfl)) rfl ?_)))))
       refine J_buildSlice (vs := [.agg (Enc.enc (⟨((((nodeOf g r.op).1).outs)[k]'hi2), r.stamp, (changedM ((nodeOf g r.op).1) r.key r.val).1, (changedM ((nodeOf g r.op).1) r.key r.val).2.1⟩ : Record)).toArray]) (css := [[.int .i64 ((⟨((((nodeOf g r.op).1).outs)[k]'hi2), r.stamp, (changedM ((nodeOf g r.op).1) r.key r.val).1, (changedM ((nodeOf g r.op).1) r.key r.val).2.1⟩ : Record).op), .int .i64 (((⟨((((nodeOf g r.op).1).outs)[k]'hi2), r.stamp, (changedM ((nodeOf g r.op).1) r.key r.val).1, (changedM ((nodeOf g r.op).1) r.key r.val).2.1⟩ : Record).stamp).epoch), .int .i64 (((⟨((((nodeOf g r.op).1).outs)[k]'hi2), r.stamp, (changedM ((nodeOf g r.op).1) r.key r.val).1, (changedM ((nodeOf g r.op).1) r.key r.val).2.1⟩ : Record).stamp).turn), .int .i64 ((⟨((((nodeOf g r.op).1).outs)[k]'hi2), r.stamp, (changedM ((nodeOf g r.op).1) r.key r.val).1, (changedM ((nodeOf g r.op).1) r.key r.val).2.1⟩ : Record).key), .int .i64 ((⟨((((nodeOf g r.op).1).outs)[k]'hi2), r.stamp, (changedM ((nodeOf g r.op).1) r.key r.val).1, (changedM ((nodeOf g r.op).1) r.key r.val).2.1⟩ : Record).val)]]) sl34 rfl rfl ⟨⟨rfl, rfl⟩, trivial⟩ rfl rfl (fun b9 w28 e18 s9 h9 => ?_)
       replace h9 : Blk w28 b9 [.int .i64 ((⟨((((nodeOf g r.op).1).outs)[k]'hi2), r.stamp, (changedM ((nodeOf g r.op).1) r.key r.val).1, (changedM ((nodeOf g r.op).1) r.key r.val).2.1⟩ : Record).op), .int .i64 (((⟨((((nodeOf g r.op).1).outs)[k]'hi2), r.stamp, (changedM ((nodeOf g r.op).1) r.key r.val).1, (changedM ((nodeOf g r.op).1) r.key r.val).2.1⟩ : Record).stamp).epoch), .int .i64 (((⟨((((nodeOf g r.op).1).outs)[k]'hi2), r.stamp, (changedM ((nodeOf g r.op).1) r.key r.val).1, (changedM ((nodeOf g r.op).1) r.key r.val).2.1⟩ : Record).stamp).turn), .int .i64 ((⟨((((nodeOf g r.op).1).outs)[k]'hi2), r.stamp, (changedM ((nodeOf g r.op).1) r.key r.val).1, (changedM ((nodeOf g r.op).1) r.key r.val).2.1⟩ : Record).key), .int .i64 ((⟨((((nodeOf g r.op).1).outs)[k]'hi2), r.stamp, (changedM ((nodeOf g r.op).1) r.key r.val).1, (changedM ((nodeOf g r.op).1) r.key r.val).2.1⟩ : Record).val)] := h9
       have g_b9 : w.heap.size ≤ b9 := by have := E.size; omega
       have y_b9 := h9.lt
       replace E := E.trans e18; replace h1 := h1.ext e18; replace h2 := h2.ext e18; replace ho1 := ho1.ext e18; replace hw1 := hw1.ext e18; replace h5 := h5.ext e18; replace ho5 := ho5.ext e18; replace h6 := h6.ext e18; replace hvo := hvo.ext e18
       have z27 := e18.size
       refine JX_tail ?_
       refine J2_X rfl ?_
       refine J_appendB sl34 rfl rfl hvo (Src.ofBlk h9 rfl) rfl (by first | (simp only [sum_flat, List.length_nil, List.length_cons]; simp only [Enc.sz]; omega) | (have h := out_len g r k; rw [sum_flat]; simp only [show Enc.sz Record = 5 from rfl, List.length_cons, List.length_nil]; omega)) (by decide) (by omega) (by omega) rfl rfl (fun v4 w29 m7 ho7 hb2 => ?_)
       have hn2 : ∀ g, Value.ownBlock v4 = some g → g = b4 ∨ w17.heap.size ≤ g := fun g hg => (hb2 g hg).elim (fun h => hvn g h) (fun h => by omega)
       replace E := E.step m7 (fun g hg => by have := Own.blk hvo g hg; have := hvn g hg; omega); replace h1 := h1.mod m7 (fun g hg => by have := Own.blk hvo g hg; have := hvn g hg; omega); replace h2 := h2.mod m7 (fun g hg => by have := Own.blk hvo g hg; have := hvn g hg; omega); replace ho1 := ho1.mod m7 (fun g hg => by have := Own.blk hvo g hg; have := hvn g hg; omega); replace hw1 := hw1.mod m7 (fun g hg => by have := Own.blk hvo g hg; have := hvn g hg; omega); replace h5 := h5.mod m7 (fun g hg => by have := Own.blk hvo g hg; have := hvn g hg; omega); replace ho5 := ho5.mod m7 (fun g hg => by have := Own.blk hvo g hg; have := hvn g hg; omega); replace h6 := h6.mod m7 (fun g hg => by have := Own.blk hvo g hg; have := hvn g hg; omega)
       have z28 := m7.size
       refine JX_go ?_
       refine J_st (R_assign rfl) rfl (J_done ?_)
       refine S_nil (E_inB ?_)
       refine S_reg [true, true, true] rfl rfl ?_
       refine J_st (R_move rfl) rfl (J_st (R_add rfl rfl (add_one hc8n (Own.rd (by decide) hw1).1)) rfl (J_st (R_assign rfl) rfl (J_done ?_)))
       refine S_nil (E_again (k + 1, v4) (by dsimp only; omega) ⟨rfl, rfl, rfl, rfl, rfl, rfl, rfl, rfl, rfl, rfl, trivial⟩ ⟨E, (by omega), h1, h2, ho1, hw1, h5, ho5, h6, (by omega), Own.fin ho7 (Nat.le_refl _) (by omega) (out_step (by rw [hstm]) (by rw [hstm]) hx (by omega)), hn2⟩)
      ·have hc8n : ¬ k < (((nodeOf g r.op).1).outs).length := by first | (have h := of_decide_eq_false hc8; omega) | (have h := hc8; simp at h; omega)
       refine S_exit (E_lp_exit (E_inB_exit ?_))
       refine S_seq ?_
       refine S_reg [true, true, true, true, true] rfl rfl ?_
       refine J_st (R_move rfl) rfl (J_st (R_move rfl) rfl (J_st (R_assign rfl) rfl (J_st (R_assign rfl) rfl (J_st (R_assign rfl) rfl (J_done ?_)))))
       refine S_ret (E_doneN (l := [.tmp 6, .tmp 7, .tmp 8]) (vs := [v2, vo, .bool true]) rfl ⟨.tmp rfl, .tmp rfl, .tmp rfl, trivial⟩ rfl E ?_)
       rw [st_3 hc1 hx hc2 hc4]
       exact ⟨_, _, rfl, Own.fin ho5 (by omega) (by omega) (by first | rfl | (simp only [List.nil_append]; done)), Own.fin hvo (by omega) (by omega) (by rw [show ((nodeOf g r.op).1).outs.length = k from by omega]), ⟨⟨(fun g hg he => by have := Own.blk ho5 g hg; have := Own.blk hvo g he; have := hvn g he; omega), trivial⟩, ⟨trivial, trivial⟩⟩⟩
   ·refine S_skip ?_
    refine S_seq ?_
    refine S_reg [true, true, false, false] rfl rfl ?_
    refine J_st (R_fieldAddr0 fl31_1 rfl) rfl (J_st (R_loadS st29 rfl (h2.part 1 [.int .i64 r.stamp.epoch, .int .i64 r.stamp.turn] rfl) rfl) rfl ?_)
    refine J_alloc st29 rfl (fun b10 w30 e19 s10 h10 => ?_)
    have g_b10 : w.heap.size ≤ b10 := by have := E.size; omega
    have y_b10 := h10.lt
    replace E := E.trans e19; replace h1 := h1.ext e19; replace h2 := h2.ext e19; replace ho1 := ho1.ext e19; replace h4 := h4.ext e19; replace hw1 := hw1.ext e19; replace h5 := h5.ext e19
    have z29 := e19.size
    refine J_storeS' (cs' := [.int .i64 r.stamp.epoch, .int .i64 r.stamp.turn]) st29 rfl rfl rfl rfl h10 (Nat.le_of_ble_eq_true rfl) rfl (fun w31 m8 h10' => ?_)
    replace h10 := h10'
    replace E := E.step m8 (fun g hg => by cases hg; omega); replace h1 := h1.mod m8 (fun g hg => by cases hg; omega); replace h2 := h2.mod m8 (fun g hg => by cases hg; omega); replace ho1 := ho1.mod m8 (fun g hg => by cases hg; omega); replace h4 := h4.mod m8 (fun g hg => by cases hg; omega); replace hw1 := hw1.mod m8 (fun g hg => by cases hg; omega); replace h5 := h5.mod m8 (fun g hg => by cases hg; omega)
    have z30 := m8.size
    refine J_done ?_
    refine S_seq ?_
    refine S_seq ?_
    refine S_reg [true, true, true] rfl rfl ?_
    refine J_st (R_fieldAddr0 fl42_0 rfl) rfl (J_st (R_load sc3 rfl (h5.one 0 rfl)) rfl (J_st (R_eql rfl rfl) rfl (J_done ?_)))
    refine S_cond rfl (fun hc9 => ?_) (fun hc9 => ?_)
    ·have hstm := stamp_7 hx hc9
     refine S_seq ?_
     refine S_reg [true, false, true, true, true, false, false, true] rfl rfl ?_
     refine J_st (R_loadS st29 rfl h10.at rfl) rfl ?_
     refine J_call Try.call52 rfl (s_NextTurn r.stamp _ ) rfl (fun _ w32 e20 hv => ?_)
     subst hv
     replace E := E.trans e20; replace h1 := h1.ext e20; replace h2 := h2.ext e20; replace ho1 := ho1.ext e20; replace h4 := h4.ext e20; replace hw1 := hw1.ext e20; replace h5 := h5.ext e20; replace h10 := h10.ext e20
     have z31 := e20.size
     refine J_st (R_move rfl) rfl (J_st (R_extract rfl rfl) rfl (J_st (R_extract rfl rfl) rfl ?_))
     refine J_alloc st29 rfl (fun b11 w33 e21 s11 h11 => ?_)
     have g_b11 : w.heap.size ≤ b11 := by have := E.size; omega
     have y_b11 := h11.lt
     replace E := E.trans e21; replace h1 := h1.ext e21; replace h2 := h2.ext e21; replace ho1 := ho1.ext e21; replace h4 := h4.ext e21; replace hw1 := hw1.ext e21; replace h5 := h5.ext e21; replace h10 := h10.ext e21
     have z32 := e21.size
     refine J_storeS' (cs' := [.int .i64 (((nextT r.stamp).1).epoch), .int .i64 (((nextT r.stamp).1).turn)]) st29 rfl rfl rfl rfl h11 (Nat.le_of_ble_eq_true rfl) rfl (fun w34 m9 h11' => ?_)
     replace h11 := h11'
     replace E := E.step m9 (fun g hg => by cases hg; omega); replace h1 := h1.mod m9 (fun g hg => by cases hg; omega); replace h2 := h2.mod m9 (fun g hg => by cases hg; omega); replace ho1 := ho1.mod m9 (fun g hg => by cases hg; omega); replace h4 := h4.mod m9 (fun g hg => by cases hg; omega); replace hw1 := hw1.mod m9 (fun g hg => by cases hg; omega); replace h5 := h5.mod m9 (fun g hg => by cases hg; omega); replace h10 := h10.mod m9 (fun g hg => by cases hg; omega)
     have z33 := m9.size
     refine J_st (R_assign rfl) rfl (J_done ?_)
     refine S_seq ?_
     refine S_seq ?_
     refine S_reg [true, true] rfl rfl ?_
     refine J_st (R_move rfl) rfl (J_st (R_not rfl) rfl (J_done ?_))
     refine S_cond rfl (fun hc10 => ?_) (fun hc10 => ?_)
     ·refine S_seq ?_
      refine S_reg [true, true, true, true, true] rfl rfl ?_
      refine J_st (R_move rfl) rfl (J_st (R_move rfl) rfl (J_st (R_assign rfl) rfl (J_st (R_assign rfl) rfl (J_st (R_assign rfl) rfl (J_done ?_)))))
      refine S_ret (E_doneN (l := [.tmp 6, .tmp 7, .tmp 8]) (vs := [v1, .slice (some ⟨b4, 0, none⟩) 0 0, .bool true]) rfl ⟨.tmp rfl, .tmp rfl, .tmp rfl, trivial⟩ rfl E ?_)
      rw [st_3 hc1 hx hc2 (by rw [rec_no hc3]; rfl), rec_no hc3, out_no (by rw [hstm]; exact not_t hc10)]
      exact ⟨_, _, rfl, Own.fin ho1 (by omega) (by omega) (by first | rfl | (simp only [List.nil_append]; done)), Own.fin (Own.ofBlk (lo := b4) (hi := b4 + 1) (sz := 5) h4 (Nat.le_refl _) (Nat.lt_succ_self _) (by rfl) (by unfold maxLen; omega)) (by omega) (by omega) (by first | rfl | (simp only [List.nil_append]; done)), ⟨⟨(Own.sep ho1 (Own.ofBlk (lo := b4) (hi := b4 + 1) (sz := 5) h4 (Nat.le_refl _) (Nat.lt_succ_self _) (by rfl) (by unfold maxLen; omega)) (by omega)), trivial⟩, ⟨trivial, trivial⟩⟩⟩
     ·refine S_skip ?_
      refine S_reg [true, false] rfl rfl ?_
      refine J_st (R_loadS st29 rfl h11.at rfl) rfl ?_
      refine J_storeS' (cs' := [.int .i64 (((nextT r.stamp).1).epoch), .int .i64 (((nextT r.stamp).1).turn)]) st29 rfl rfl rfl rfl h10 (Nat.le_of_ble_eq_true rfl) rfl (fun w35 m10 h10' => ?_)
      replace h10 := h10'
      replace E := E.step m10 (fun g hg => by cases hg; omega); replace h1 := h1.mod m10 (fun g hg => by cases hg; omega); replace h2 := h2.mod m10 (fun g hg => by cases hg; omega); replace ho1 := ho1.mod m10 (fun g hg => by cases hg; omega); replace h4 := h4.mod m10 (fun g hg => by cases hg; omega); replace hw1 := hw1.mod m10 (fun g hg => by cases hg; omega); replace h5 := h5.mod m10 (fun g hg => by cases hg; omega); replace h11 := h11.mod m10 (fun g hg => by cases hg; omega)
      have z34 := m10.size
      refine J_done ?_
      refine S_seq ?_
      refine S_seq ?_
      refine S_reg [true] rfl rfl ?_
      refine J_st (R_assign rfl) rfl (J_done ?_)
      refine S_block ?_
      refine S_loop (fun (xq : Nat × Value) => let ⟨k, vo⟩ := xq; [(6, .slice none 0 0), (7, .slice none 0 0), (8, .bool false), (9, v1), (10, vo), (11, .pointer (some ⟨b5, 0, none⟩)), (13, .int .i64 ((changedM ((nodeOf g r.op).1) r.key r.val).1)), (14, .int .i64 ((changedM ((nodeOf g r.op).1) r.key r.val).2.1)), (18, .pointer (some ⟨b10, 0, none⟩)), (21, .int .i64 ((k : Nat) : Int))]) (fun (xq : Nat × Value) w' => let ⟨k, vo⟩ := xq; Ext w w' ∧ w35.heap.size ≤ w'.heap.size ∧ Blk w' b1 ([o1, .int .i64 g.workers, .int .i64 g.cap]) ∧ Blk w' b2 (Enc.enc r) ∧ Own w' b3 w4.heap.size 4 v1 ([] ++ List.flatMap (Enc.enc (α := Cell)) cs) ∧ Own w' w5.heap.size w6.heap.size 1 o2 (List.flatMap (Enc.enc (α := Int)) (((nodeOf g r.op).1).outs)) ∧ Blk w' b5 [.int .i64 (((nodeOf g r.op).1).kind), .int .i64 (((nodeOf g r.op).1).a), .int .i64 (((nodeOf g r.op).1).b), o2] ∧ Blk w' b10 [.int .i64 (((nextT r.stamp).1).epoch), .int .i64 (((nextT r.stamp).1).turn)] ∧ Blk w' b11 [.int .i64 (((nextT r.stamp).1).epoch), .int .i64 (((nextT r.stamp).1).turn)] ∧ k ≤ ((nodeOf g r.op).1).outs.length ∧ Own w' b4 w'.heap.size 5 vo (List.flatMap (Enc.enc (α := Record)) (stOut g r k)) ∧ (∀ g, Value.ownBlock vo = some g → g = b4 ∨ w35.heap.size ≤ g)) (fun (xq : Nat × Value) => let ⟨k, vo⟩ := xq; ((nodeOf g r.op).1).outs.length - k) (0, .slice (some ⟨b4, 0, none⟩) 0 0) ⟨rfl, rfl, rfl, rfl, rfl, rfl, rfl, rfl, rfl, rfl, trivial⟩ ⟨E, Nat.le_refl _, h1, h2, ho1, hw1, h5, h10, h11, Nat.zero_le _, Own.fin (Own.ofBlk (lo := b4) (hi := b4 + 1) (sz := 5) h4 (Nat.le_refl _) (Nat.lt_succ_self _) (by simp) (by simp [maxLen])) (by omega) (by omega) out_zero.symm, (fun g hg => .inl (by cases hg; rfl))⟩ ?_
      clear E h1 h2 ho1 h4 hw1 h5 h10 h11
      rintro ⟨k, vo⟩ w36 ⟨E, z35, h1, h2, ho1, hw1, h5, h10, h11, hk, hvo, hvn⟩
      refine S_sub [(6, .slice none 0 0), (7, .slice none 0 0), (8, .bool false), (9, v1), (10, vo), (11, .pointer (some ⟨b5, 0, none⟩)), (13, .int .i64 ((changedM ((nodeOf g r.op).1) r.key r.val).1)), (14, .int .i64 ((changedM ((nodeOf g r.op).1) r.key r.val).2.1)), (18, .pointer (some ⟨b10, 0, none⟩)), (21, .int .i64 ((k : Nat) : Int))] ⟨rfl, rfl, rfl, rfl, rfl, rfl, rfl, rfl, rfl, rfl, trivial⟩ ?_
      refine S_seq ?_
      refine S_seq ?_
      refine S_reg [true, true, true, true, true] rfl rfl ?_
      refine J_st (R_move rfl) rfl (J_st (R_fieldAddr0 fl42_3 rfl) rfl (J_st (R_load sc40 rfl (h5.one 3 rfl)) rfl (J_st (R_len Try.underlying40 rfl (Own.len (by decide) hw1)) rfl (J_st (R_lss rfl rfl) rfl (J_done ?_)))))
      refine S_cond rfl (fun hc11 => ?_) (fun hc11 => ?_)
      ·have hc11n : k < (((nodeOf g r.op).1).outs).length := by first | (have h := of_decide_eq_true hc11; omega) | (have h := hc11; simp at h; omega)
       refine S_skip ?_
       refine S_seq ?_
       refine S_block ?_
       refine S_regX mixed [11] [(0, true), (1, true), (2, true), (3, true), (4, true), (5, true), (6, true), (7, true), (8, true), (9, true), (10, false)] [(11, false), (12, true)] (by decide +kernel) rfl rfl (fun w37 e22 => ?_)
       replace E := E.trans e22; replace h1 := h1.ext e22; replace h2 := h2.ext e22; replace ho1 := ho1.ext e22; replace hw1 := hw1.ext e22; replace h5 := h5.ext e22; replace h10 := h10.ext e22; replace h11 := h11.ext e22; replace hvo := hvo.ext e22
       have z36 := e22.size
       refine J_st (R_move rfl) rfl (J_st (R_fieldAddr0 fl42_3 rfl) rfl (J_st (R_load sc40 rfl (h5.one 3 rfl)) rfl (J_st (R_move rfl) rfl ?_)))
       have hi3 : k < (((nodeOf g r.op).1).outs).length := (by first | assumption | omega | (simp only [List.length_set]; first | assumption | omega) | (simp only [List.getElem_set_self, List.length_set]; first | assumption | omega) | (simp only [setW, setLk, List.length_set]; first | assumption | omega) | (simp; done))
       refine J_st (R_index (i := k) sl40 rfl rfl (Own.rd (by decide) hw1) hi3) rfl (J_st (R_load sc3 rfl (((Own.rd (by decide) hw1).get hi3).one 0 rfl)) rfl (J_st (R_loadS st29 rfl h10.at rfl) rfl (J_st (R_move rfl) rfl (J_st (R_move rfl) rfl (J_st (R_build (⟨((((nodeOf g r.op).1).outs)[k]'hi3), ((nextT r.stamp).1), (changedM ((nodeOf g r.op).1) r.key r.val).1, (changedM ((nodeOf g r.op).1) r.key r.val).2.1⟩ : Record) rfl (fun _ => by kernel_rfl)) rfl ?_)))))
       refine J_buildSlice (vs := [.agg (Enc.enc (⟨((((nodeOf g r.op).1).outs)[k]'hi3), ((nextT r.stamp).1), (changedM ((nodeOf g r.op).1) r.key r.val).1, (changedM ((nodeOf g r.op).1) r.key r.val).2.1⟩ : Record)).toArray]) (css := [[.int .i64 ((⟨((((nodeOf g r.op).1).outs)[k]'hi3), ((nextT r.stamp).1), (changedM ((nodeOf g r.op).1) r.key r.val).1, (changedM ((nodeOf g r.op).1) r.key r.val).2.1⟩ : Record).op), .int .i64 (((⟨((((nodeOf g r.op).1).outs)[k]'hi3), ((nextT r.stamp).1), (changedM ((nodeOf g r.op).1) r.key r.val).1, (changedM ((nodeOf g r.op).1) r.key r.val).2.1⟩ : Record).stamp).epoch), .int .i64 (((⟨((((nodeOf g r.op).1).outs)[k]'hi3), ((nextT r.stamp).1), (changedM ((nodeOf g r.op).1) r.key r.val).1, (changedM ((nodeOf g r.op).1) r.key r.val).2.1⟩ : Record).stamp).turn), .int .i64 ((⟨((((nodeOf g r.op).1).outs)[k]'hi3), ((nextT r.stamp).1), (changedM ((nodeOf g r.op).1) r.key r.val).1, (changedM ((nodeOf g r.op).1) r.key r.val).2.1⟩ : Record).key), .int .i64 ((⟨((((nodeOf g r.op).1).outs)[k]'hi3), ((nextT r.stamp).1), (changedM ((nodeOf g r.op).1) r.key r.val).1, (changedM ((nodeOf g r.op).1) r.key r.val).2.1⟩ : Record).val)]]) sl34 rfl rfl ⟨⟨rfl, rfl⟩, trivial⟩ rfl rfl (fun b12 w38 e23 s12 h12 => ?_)
       replace h12 : Blk w38 b12 [.int .i64 ((⟨((((nodeOf g r.op).1).outs)[k]'hi3), ((nextT r.stamp).1), (changedM ((nodeOf g r.op).1) r.key r.val).1, (changedM ((nodeOf g r.op).1) r.key r.val).2.1⟩ : Record).op), .int .i64 (((⟨((((nodeOf g r.op).1).outs)[k]'hi3), ((nextT r.stamp).1), (changedM ((nodeOf g r.op).1) r.key r.val).1, (changedM ((nodeOf g r.op).1) r.key r.val).2.1⟩ : Record).stamp).epoch), .int .i64 (((⟨((((nodeOf g r.op).1).outs)[k]'hi3), ((nextT r.stamp).1), (changedM ((nodeOf g r.op).1) r.key r.val).1, (changedM ((nodeOf g r.op).1) r.key r.val).2.1⟩ : Record).stamp).turn), .int .i64 ((⟨((((nodeOf g r.op).1).outs)[k]'hi3), ((nextT r.stamp).1), (changedM ((nodeOf g r.op).1) r.key r.val).1, (changedM ((nodeOf g r.op).1) r.key r.val).2.1⟩ : Record).key), .int .i64 ((⟨((((nodeOf g r.op).1).outs)[k]'hi3), ((nextT r.stamp).1), (changedM ((nodeOf g r.op).1) r.key r.val).1, (changedM ((nodeOf g r.op).1) r.key r.val).2.1⟩ : Record).val)] := h12
       have g_b12 : w.heap.size ≤ b12 := by have := E.size; omega
       have y_b12 := h12.lt
       replace E := E.trans e23; replace h1 := h1.ext e23; replace h2 := h2.ext e23; replace ho1 := ho1.ext e23; replace hw1 := hw1.ext e23; replace h5 := h5.ext e23; replace h10 := h10.ext e23; replace h11 := h11.ext e23; replace hvo := hvo.ext e23
       have z37 := e23.size
       refine JX_tail ?_
       refine J2_X rfl ?_
       refine J_appendB sl34 rfl rfl hvo (Src.ofBlk h12 rfl) rfl (by first | (simp only [sum_flat, List.length_nil, List.length_cons]; simp only [Enc.sz]; omega) | (have h := out_len g r k; rw [sum_flat]; simp only [show Enc.sz Record = 5 from rfl, List.length_cons, List.length_nil]; omega)) (by decide) (by omega) (by omega) rfl rfl (fun v5 w39 m11 ho8 hb3 => ?_)
       have hn3 : ∀ g, Value.ownBlock v5 = some g → g = b4 ∨ w35.heap.size ≤ g := fun g hg => (hb3 g hg).elim (fun h => hvn g h) (fun h => by omega)
       replace E := E.step m11 (fun g hg => by have := Own.blk hvo g hg; have := hvn g hg; omega); replace h1 := h1.mod m11 (fun g hg => by have := Own.blk hvo g hg; have := hvn g hg; omega); replace h2 := h2.mod m11 (fun g hg => by have := Own.blk hvo g hg; have := hvn g hg; omega); replace ho1 := ho1.mod m11 (fun g hg => by have := Own.blk hvo g hg; have := hvn g hg; omega); replace hw1 := hw1.mod m11 (fun g hg => by have := Own.blk hvo g hg; have := hvn g hg; omega); replace h5 := h5.mod m11 (fun g hg => by have := Own.blk hvo g hg; have := hvn g hg; omega); replace h10 := h10.mod m11 (fun g hg => by have := Own.blk hvo g hg; have := hvn g hg; omega); replace h11 := h11.mod m11 (fun g hg => by have := Own.blk hvo g hg; have := hvn g hg; omega)
       have z38 := m11.size
       refine JX_go ?_
       refine J_st (R_assign rfl) rfl (J_done ?_)
       refine S_nil (E_inB ?_)
       refine S_reg [true, true, true] rfl rfl ?_
       refine J_st (R_move rfl) rfl (J_st (R_add rfl rfl (add_one hc11n (Own.rd (by decide) hw1).1)) rfl (J_st (R_assign rfl) rfl (J_done ?_)))
       refine S_nil (E_again (k + 1, v5) (by dsimp only; omega) ⟨rfl, rfl, rfl, rfl, rfl, rfl, rfl, rfl, rfl, rfl, trivial⟩ ⟨E, (by omega), h1, h2, ho1, hw1, h5, h10, h11, (by omega), Own.fin ho8 (Nat.le_refl _) (by omega) (out_step (by rw [hstm]) (by rw [hstm]; exact not_f hc10) hx (by omega)), hn3⟩)
      ·have hc11n : ¬ k < (((nodeOf g r.op).1).outs).length := by first | (have h := of_decide_eq_false hc11; omega) | (have h := hc11; simp at h; omega)
       refine S_exit (E_lp_exit (E_inB_exit ?_))
       refine S_seq ?_
       refine S_reg [true, true, true, true, true] rfl rfl ?_
       refine J_st (R_move rfl) rfl (J_st (R_move rfl) rfl (J_st (R_assign rfl) rfl (J_st (R_assign rfl) rfl (J_st (R_assign rfl) rfl (J_done ?_)))))
       refine S_ret (E_doneN (l := [.tmp 6, .tmp 7, .tmp 8]) (vs := [v1, vo, .bool true]) rfl ⟨.tmp rfl, .tmp rfl, .tmp rfl, trivial⟩ rfl E ?_)
       rw [st_3 hc1 hx hc2 (by rw [rec_no hc3]; rfl), rec_no hc3]
       exact ⟨_, _, rfl, Own.fin ho1 (by omega) (by omega) (by first | rfl | (simp only [List.nil_append]; done)), Own.fin hvo (by omega) (by omega) (by rw [show ((nodeOf g r.op).1).outs.length = k from by omega]), ⟨⟨(fun g hg he => by have := Own.blk ho1 g hg; have := Own.blk hvo g he; have := hvn g he; omega), trivial⟩, ⟨trivial, trivial⟩⟩⟩
    ·have hstm := stamp_o hx hc9
     refine S_skip ?_
     refine S_seq ?_
     refine S_seq ?_
     refine S_reg [true] rfl rfl ?_
     refine J_st (R_assign rfl) rfl (J_done ?_)
     refine S_block ?_
     refine S_loop (fun (xq : Nat × Value) => let ⟨k, vo⟩ := xq; [(6, .slice none 0 0), (7, .slice none 0 0), (8, .bool false), (9, v1), (10, vo), (11, .pointer (some ⟨b5, 0, none⟩)), (13, .int .i64 ((changedM ((nodeOf g r.op).1) r.key r.val).1)), (14, .int .i64 ((changedM ((nodeOf g r.op).1) r.key r.val).2.1)), (18, .pointer (some ⟨b10, 0, none⟩)), (21, .int .i64 ((k : Nat) : Int))]) (fun (xq : Nat × Value) w' => let ⟨k, vo⟩ := xq; Ext w w' ∧ w31.heap.size ≤ w'.heap.size ∧ Blk w' b1 ([o1, .int .i64 g.workers, .int .i64 g.cap]) ∧ Blk w' b2 (Enc.enc r) ∧ Own w' b3 w4.heap.size 4 v1 ([] ++ List.flatMap (Enc.enc (α := Cell)) cs) ∧ Own w' w5.heap.size w6.heap.size 1 o2 (List.flatMap (Enc.enc (α := Int)) (((nodeOf g r.op).1).outs)) ∧ Blk w' b5 [.int .i64 (((nodeOf g r.op).1).kind), .int .i64 (((nodeOf g r.op).1).a), .int .i64 (((nodeOf g r.op).1).b), o2] ∧ Blk w' b10 [.int .i64 r.stamp.epoch, .int .i64 r.stamp.turn] ∧ k ≤ ((nodeOf g r.op).1).outs.length ∧ Own w' b4 w'.heap.size 5 vo (List.flatMap (Enc.enc (α := Record)) (stOut g r k)) ∧ (∀ g, Value.ownBlock vo = some g → g = b4 ∨ w31.heap.size ≤ g)) (fun (xq : Nat × Value) => let ⟨k, vo⟩ := xq; ((nodeOf g r.op).1).outs.length - k) (0, .slice (some ⟨b4, 0, none⟩) 0 0) ⟨rfl, rfl, rfl, rfl, rfl, rfl, rfl, rfl, rfl, rfl, trivial⟩ ⟨E, Nat.le_refl _, h1, h2, ho1, hw1, h5, h10, Nat.zero_le _, Own.fin (Own.ofBlk (lo := b4) (hi := b4 + 1) (sz := 5) h4 (Nat.le_refl _) (Nat.lt_succ_self _) (by simp) (by simp [maxLen])) (by omega) (by omega) out_zero.symm, (fun g hg => .inl (by cases hg; rfl))⟩ ?_
     clear E h1 h2 ho1 h4 hw1 h5 h10
     rintro ⟨k, vo⟩ w40 ⟨E, z39, h1, h2, ho1, hw1, h5, h10, hk, hvo, hvn⟩
     refine S_sub [(6, .slice none 0 0), (7, .slice none 0 0), (8, .bool false), (9, v1), (10, vo), (11, .pointer (some ⟨b5, 0, none⟩)), (13, .int .i64 ((changedM ((nodeOf g r.op).1) r.key r.val).1)), (14, .int .i64 ((changedM ((nodeOf g r.op).1) r.key r.val).2.1)), (18, .pointer (some ⟨b10, 0, none⟩)), (21, .int .i64 ((k : Nat) : Int))] ⟨rfl, rfl, rfl, rfl, rfl, rfl, rfl, rfl, rfl, rfl, trivial⟩ ?_
     refine S_seq ?_
     refine S_seq ?_
     refine S_reg [true, true, true, true, true] rfl rfl ?_
     refine J_st (R_move rfl) rfl (J_st (R_fieldAddr0 fl42_3 rfl) rfl (J_st (R_load sc40 rfl (h5.one 3 rfl)) rfl (J_st (R_len Try.underlying40 rfl (Own.len (by decide) hw1)) rfl (J_st (R_lss rfl rfl) rfl (J_done ?_)))))
     refine S_cond rfl (fun hc12 => ?_) (fun hc12 => ?_)
     ·have hc12n : k < (((nodeOf g r.op).1).outs).length := by first | (have h := of_decide_eq_true hc12; omega) | (have h := hc12; simp at h; omega)
      refine S_skip ?_
      refine S_seq ?_
      refine S_block ?_
      refine S_regX mixed [11] [(0, true), (1, true), (2, true), (3, true), (4, true), (5, true), (6, true), (7, true), (8, true), (9, true), (10, false)] [(11, false), (12, true)] (by decide +kernel) rfl rfl (fun w41 e24 => ?_)
      replace E := E.trans e24; replace h1 := h1.ext e24; replace h2 := h2.ext e24; replace ho1 := ho1.ext e24; replace hw1 := hw1.ext e24; replace h5 := h5.ext e24; replace h10 := h10.ext e24; replace hvo := hvo.ext e24
      have z40 := e24.size
      refine J_st (R_move rfl) rfl (J_st (R_fieldAddr0 fl42_3 rfl) rfl (J_st (R_load sc40 rfl (h5.one 3 rfl)) rfl (J_st (R_move rfl) rfl ?_)))
      have hi4 : k < (((nodeOf g r.op).1).outs).length := (by first | assumption | omega | (simp only [List.length_set]; first | assumption | omega) | (simp only [List.getElem_set_self, List.length_set]; first | assumption | omega) | (simp only [setW, setLk, List.length_set]; first | assumption | omega) | (simp; done))
      refine J_st (R_index (i := k) sl40 rfl rfl (Own.rd (by decide) hw1) hi4) rfl (J_st (R_load sc3 rfl (((Own.rd (by decide) hw1).get hi4).one 0 rfl)) rfl (J_st (R_loadS st29 rfl h10.at rfl) rfl (J_st (R_move rfl) rfl (J_st (R_move rfl) rfl (J_st (R_build (⟨((((nodeOf g r.op).1).outs)[k]'hi4), r.stamp, (changedM ((nodeOf g r.op).1) r.key r.val).1, (changedM ((nodeOf g r.op).1) r.key r.val).2.1⟩ : Record) rfl (fun _ => by kernel_rfl)) rfl ?_)))))
      refine J_buildSlice (vs := [.agg (Enc.enc (⟨((((nodeOf g r.op).1).outs)[k]'hi4), r.stamp, (changedM ((nodeOf g r.op).1) r.key r.val).1, (changedM ((nodeOf g r.op).1) r.key r.val).2.1⟩ : Record)).toArray]) (css := [[.int .i64 ((⟨((((nodeOf g r.op).1).outs)[k]'hi4), r.stamp, (changedM ((nodeOf g r.op).1) r.key r.val).1, (changedM ((nodeOf g r.op).1) r.key r.val).2.1⟩ : Record).op), .int .i64 (((⟨((((nodeOf g r.op).1).outs)[k]'hi4), r.stamp, (changedM ((nodeOf g r.op).1) r.key r.val).1, (changedM ((nodeOf g r.op).1) r.key r.val).2.1⟩ : Record).stamp).epoch), .int .i64 (((⟨((((nodeOf g r.op).1).outs)[k]'hi4), r.stamp, (changedM ((nodeOf g r.op).1) r.key r.val).1, (changedM ((nodeOf g r.op).1) r.key r.val).2.1⟩ : Record).stamp).turn), .int .i64 ((⟨((((nodeOf g r.op).1).outs)[k]'hi4), r.stamp, (changedM ((nodeOf g r.op).1) r.key r.val).1, (changedM ((nodeOf g r.op).1) r.key r.val).2.1⟩ : Record).key), .int .i64 ((⟨((((nodeOf g r.op).1).outs)[k]'hi4), r.stamp, (changedM ((nodeOf g r.op).1) r.key r.val).1, (changedM ((nodeOf g r.op).1) r.key r.val).2.1⟩ : Record).val)]]) sl34 rfl rfl ⟨⟨rfl, rfl⟩, trivial⟩ rfl rfl (fun b13 w42 e25 s13 h13 => ?_)
      replace h13 : Blk w42 b13 [.int .i64 ((⟨((((nodeOf g r.op).1).outs)[k]'hi4), r.stamp, (changedM ((nodeOf g r.op).1) r.key r.val).1, (changedM ((nodeOf g r.op).1) r.key r.val).2.1⟩ : Record).op), .int .i64 (((⟨((((nodeOf g r.op).1).outs)[k]'hi4), r.stamp, (changedM ((nodeOf g r.op).1) r.key r.val).1, (changedM ((nodeOf g r.op).1) r.key r.val).2.1⟩ : Record).stamp).epoch), .int .i64 (((⟨((((nodeOf g r.op).1).outs)[k]'hi4), r.stamp, (changedM ((nodeOf g r.op).1) r.key r.val).1, (changedM ((nodeOf g r.op).1) r.key r.val).2.1⟩ : Record).stamp).turn), .int .i64 ((⟨((((nodeOf g r.op).1).outs)[k]'hi4), r.stamp, (changedM ((nodeOf g r.op).1) r.key r.val).1, (changedM ((nodeOf g r.op).1) r.key r.val).2.1⟩ : Record).key), .int .i64 ((⟨((((nodeOf g r.op).1).outs)[k]'hi4), r.stamp, (changedM ((nodeOf g r.op).1) r.key r.val).1, (changedM ((nodeOf g r.op).1) r.key r.val).2.1⟩ : Record).val)] := h13
      have g_b13 : w.heap.size ≤ b13 := by have := E.size; omega
      have y_b13 := h13.lt
      replace E := E.trans e25; replace h1 := h1.ext e25; replace h2 := h2.ext e25; replace ho1 := ho1.ext e25; replace hw1 := hw1.ext e25; replace h5 := h5.ext e25; replace h10 := h10.ext e25; replace hvo := hvo.ext e25
      have z41 := e25.size
      refine JX_tail ?_
      refine J2_X rfl ?_
      refine J_appendB sl34 rfl rfl hvo (Src.ofBlk h13 rfl) rfl (by first | (simp only [sum_flat, List.length_nil, List.length_cons]; simp only [Enc.sz]; omega) | (have h := out_len g r k; rw [sum_flat]; simp only [show Enc.sz Record = 5 from rfl, List.length_cons, List.length_nil]; omega)) (by decide) (by omega) (by omega) rfl rfl (fun v6 w43 m12 ho9 hb4 => ?_)
      have hn4 : ∀ g, Value.ownBlock v6 = some g → g = b4 ∨ w31.heap.size ≤ g := fun g hg => (hb4 g hg).elim (fun h => hvn g h) (fun h => by omega)
      replace E := E.step m12 (fun g hg => by have := Own.blk hvo g hg; have := hvn g hg; omega); replace h1 := h1.mod m12 (fun g hg => by have := Own.blk hvo g hg; have := hvn g hg; omega); replace h2 := h2.mod m12 (fun g hg => by have := Own.blk hvo g hg; have := hvn g hg; omega); replace ho1 := ho1.mod m12 (fun g hg => by have := Own.blk hvo g hg; have := hvn g hg; omega); replace hw1 := hw1.mod m12 (fun g hg => by have := Own.blk hvo g hg; have := hvn g hg; omega); replace h5 := h5.mod m12 (fun g hg => by have := Own.blk hvo g hg; have := hvn g hg; omega); replace h10 := h10.mod m12 (fun g hg => by have := Own.blk hvo g hg; have := hvn g hg; omega)
      have z42 := m12.size
      refine JX_go ?_
      refine J_st (R_assign rfl) rfl (J_done ?_)
      refine S_nil (E_inB ?_)
      refine S_reg [true, true, true] rfl rfl ?_
      refine J_st (R_move rfl) rfl (J_st (R_add rfl rfl (add_one hc12n (Own.rd (by decide) hw1).1)) rfl (J_st (R_assign rfl) rfl (J_done ?_)))
      refine S_nil (E_again (k + 1, v6) (by dsimp only; omega) ⟨rfl, rfl, rfl, rfl, rfl, rfl, rfl, rfl, rfl, rfl, trivial⟩ ⟨E, (by omega), h1, h2, ho1, hw1, h5, h10, (by omega), Own.fin ho9 (Nat.le_refl _) (by omega) (out_step (by rw [hstm]) (by rw [hstm]) hx (by omega)), hn4⟩)
     ·have hc12n : ¬ k < (((nodeOf g r.op).1).outs).length := by first | (have h := of_decide_eq_false hc12; omega) | (have h := hc12; simp at h; omega)
      refine S_exit (E_lp_exit (E_inB_exit ?_))
      refine S_seq ?_
      refine S_reg [true, true, true, true, true] rfl rfl ?_
      refine J_st (R_move rfl) rfl (J_st (R_move rfl) rfl (J_st (R_assign rfl) rfl (J_st (R_assign rfl) rfl (J_st (R_assign rfl) rfl (J_done ?_)))))
      refine S_ret (E_doneN (l := [.tmp 6, .tmp 7, .tmp 8]) (vs := [v1, vo, .bool true]) rfl ⟨.tmp rfl, .tmp rfl, .tmp rfl, trivial⟩ rfl E ?_)
      rw [st_3 hc1 hx hc2 (by rw [rec_no hc3]; rfl), rec_no hc3]
      exact ⟨_, _, rfl, Own.fin ho1 (by omega) (by omega) (by first | rfl | (simp only [List.nil_append]; done)), Own.fin hvo (by omega) (by omega) (by rw [show ((nodeOf g r.op).1).outs.length = k from by omega]), ⟨⟨(fun g hg he => by have := Own.blk ho1 g hg; have := Own.blk hvo g he; have := hvn g he; omega), trivial⟩, ⟨trivial, trivial⟩⟩⟩

set_option maxRecDepth 20000 in
theorem c_Brought (n : Int) (a : Int) (b : Int) (w : World)  : Ct Try.prog 58 [.int .i64 n, .int .i64 a, .int .i64 b] w (fun v _ => v = .int .i64 (brM n a b)) := by
 refine ct_of Try.func58 rfl Try.ntmps58 rfl ?_
 refine S_sub [(0, .int .i64 n), (1, .int .i64 a), (2, .int .i64 b)] ⟨rfl, rfl, rfl, trivial⟩ ?_
 have E : Ext w w := Ext.refl w
 refine S_seq ?_
 refine S_reg [true] rfl rfl ?_
 refine J_st (R_assign rfl) rfl (J_done ?_)
 refine S_seq ?_
 refine S_seq ?_
 refine S_reg [true, true, true, true, true, true, true, true] rfl rfl ?_
 refine J_st (R_move rfl) rfl (J_st (R_move rfl) rfl (J_st (R_lss rfl rfl) rfl (J_st (R_move rfl) rfl ?_)))
 refine J_cut 4 [(0, .int .i64 n), (1, .int .i64 a), (2, .int .i64 b), (6, .int .i64 0), (14, .bool ((decide (b < a)) || (decide (n < a))))] (fun w' => w = w') ?_ ?_
 ·refine J_if (gd := 10) rfl rfl (fun hg1 => ?_) (fun hg1 => ?_)
  ·refine J_gdno rfl rfl rfl rfl (J_gdno rfl rfl rfl rfl (J_gdno rfl rfl rfl rfl (J_st (R_pickT rfl rfl) rfl (J_cutEnd ⟨rfl, rfl, rfl, rfl, congrArg (fun b => some (Value.bool b)) (show true = ((decide (b < a)) || (decide (n < a))) by first | (rw [hg1] <;> rfl) | (simp [hg1]; done) | (simp only [nat_nlt] <;> simp)), trivial⟩ rfl))))
  ·refine J_gd rfl rfl (R_move rfl) rfl (J_gd rfl rfl (R_move rfl) rfl (J_gd rfl rfl (R_lss rfl rfl) rfl (J_st (R_pickF rfl rfl) rfl (J_cutEnd ⟨rfl, rfl, rfl, rfl, congrArg (fun b => some (Value.bool b)) (show (decide (n < a)) = ((decide (b < a)) || (decide (n < a))) by first | (rw [hg1] <;> rfl) | (simp [hg1]; done) | (simp only [nat_nlt] <;> simp)), trivial⟩ rfl))))
 rintro _ rfl
 refine J_done ?_
 refine S_cond rfl (fun hc1 => ?_) (fun hc1 => ?_)
 ·refine S_seq ?_
  refine S_reg [true, true] rfl rfl ?_
  refine J_st (R_move rfl) rfl (J_st (R_assign rfl) rfl (J_done ?_))
  refine S_ret (E_done1 rfl rfl E ?_)
  rw [brM, if_pos hc1]
 ·refine S_skip ?_
  refine S_seq ?_
  refine S_reg [true, true, true, true] rfl rfl ?_
  refine J_st (R_move rfl) rfl (J_st (R_move rfl) rfl (J_st (R_min rfl rfl) rfl (J_st (R_assign rfl) rfl (J_done ?_))))
  refine S_ret (E_done1 rfl rfl E ?_)
  rw [brM, if_neg (nof hc1)]

set_option maxRecDepth 20000 in
theorem s_Brought (n : Int) (a : Int) (b : Int) (w : World)  : Ct Try.prog 59 [.int .i64 n, .int .i64 a, .int .i64 b] w (fun v _ => v = .int .i64 (brM n a b)) := by
 refine ct_of Try.func59 rfl Try.ntmps59 rfl ?_
 refine S_sub [(0, .int .i64 n), (1, .int .i64 a), (2, .int .i64 b)] ⟨rfl, rfl, rfl, trivial⟩ ?_
 have E : Ext w w := Ext.refl w
 refine S_seq ?_
 refine S_reg [true] rfl rfl ?_
 refine J_st (R_assign rfl) rfl (J_done ?_)
 refine S_seq ?_
 refine S_seq ?_
 refine S_reg [true, true, true, true, true, true, true, true] rfl rfl ?_
 refine J_st (R_move rfl) rfl (J_st (R_move rfl) rfl (J_st (R_lss rfl rfl) rfl (J_st (R_move rfl) rfl ?_)))
 refine J_cut 4 [(0, .int .i64 n), (1, .int .i64 a), (2, .int .i64 b), (6, .int .i64 0), (14, .bool ((decide (b < a)) || (decide (n < a))))] (fun w' => w = w') ?_ ?_
 ·refine J_if (gd := 10) rfl rfl (fun hg1 => ?_) (fun hg1 => ?_)
  ·refine J_gdno rfl rfl rfl rfl (J_gdno rfl rfl rfl rfl (J_gdno rfl rfl rfl rfl (J_st (R_pickT rfl rfl) rfl (J_cutEnd ⟨rfl, rfl, rfl, rfl, congrArg (fun b => some (Value.bool b)) (show true = ((decide (b < a)) || (decide (n < a))) by first | (rw [hg1] <;> rfl) | (simp [hg1]; done) | (simp only [nat_nlt] <;> simp)), trivial⟩ rfl))))
  ·refine J_gd rfl rfl (R_move rfl) rfl (J_gd rfl rfl (R_move rfl) rfl (J_gd rfl rfl (R_lss rfl rfl) rfl (J_st (R_pickF rfl rfl) rfl (J_cutEnd ⟨rfl, rfl, rfl, rfl, congrArg (fun b => some (Value.bool b)) (show (decide (n < a)) = ((decide (b < a)) || (decide (n < a))) by first | (rw [hg1] <;> rfl) | (simp [hg1]; done) | (simp only [nat_nlt] <;> simp)), trivial⟩ rfl))))
 rintro _ rfl
 refine J_done ?_
 refine S_cond rfl (fun hc1 => ?_) (fun hc1 => ?_)
 ·refine S_seq ?_
  refine S_reg [true, true] rfl rfl ?_
  refine J_st (R_move rfl) rfl (J_st (R_assign rfl) rfl (J_done ?_))
  refine S_ret (E_done1 rfl rfl E ?_)
  rw [brM, if_pos hc1]
 ·refine S_skip ?_
  refine S_seq ?_
  refine S_seq ?_
  refine S_reg [true, true, true] rfl rfl ?_
  refine J_st (R_move rfl) rfl (J_st (R_move rfl) rfl (J_st (R_gtr rfl rfl) rfl (J_done ?_)))
  refine S_cond rfl (fun hc2 => ?_) (fun hc2 => ?_)
  ·refine S_seq ?_
   refine S_reg [true, true] rfl rfl ?_
   refine J_st (R_move rfl) rfl (J_st (R_assign rfl) rfl (J_done ?_))
   refine S_ret (E_done1 rfl rfl E ?_)
   rw [brM, if_neg (nof hc1), if_pos (of_decide_eq_true hc2)]
  ·refine S_skip ?_
   refine S_seq ?_
   refine S_reg [true, true] rfl rfl ?_
   refine J_st (R_move rfl) rfl (J_st (R_assign rfl) rfl (J_done ?_))
   refine S_ret (E_done1 rfl rfl E ?_)
   rw [brM, if_neg (nof hc1), if_neg (of_decide_eq_false hc2)]

end Go.Proofs.Ytckahblgeepfjaa
