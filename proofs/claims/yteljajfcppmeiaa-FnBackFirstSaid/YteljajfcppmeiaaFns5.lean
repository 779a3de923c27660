/- What the functions that the laws call come to: a contract each; no condition. -/
import Derived.Test.YteljajfcppmeiaaFns4
namespace Go.Proofs.Yteljajfcppmeiaa
open Go Go.Proofs.Yteljajfcppmeiaa.X Go.Proofs
set_option maxHeartbeats 4000000 in
set_option maxRecDepth 20000 in
theorem s_l12Any (lo : Nat) (vb : Value) (bs : List Byt) (og : Value) (g : Graph) (w : World) (hcu : CurO w lo vb bs) (hbs : RdD w 0 lo vb bs) (hg : Stab w lo (fun w' => RdD w' 0 w'.heap.size og g.nodes)) (hcg : cntGraph g ≤ 1048576) : CtR Try.prog 24 [.pointer (some ⟨lo, 0, none⟩), .agg [og, .int .i64 g.workers, .int .i64 g.cap].toArray] w lo (lo + 1) (fun v w' => ∃ (dr0 : Worker), cntWorker dr0 ≤ 200 ∧ CurO w' lo vb bs ∧ ∃ cs, v = .agg cs.toArray ∧ Dat.R w' w.heap.size w'.heap.size cs dr0) := by
 have y_lo := CurO.lt hcu
 refine ctR_of Try.func24 rfl Try.ntmps24 rfl ?_
 refine S_sub [(0, .pointer (some ⟨lo, 0, none⟩)), (1, .agg [og, .int .i64 g.workers, .int .i64 g.cap].toArray)] ⟨rfl, rfl, trivial⟩ ?_
 have E : ModR w w lo (lo + 1) := ModR.refl w lo (lo + 1)
 refine S_seq ?_
 refine S_reg [false, false] rfl rfl ?_
 refine J_box rfl rfl (fun b1 w1 e1 s1 h1 => ?_)
 have g_b1 : w.heap.size ≤ b1 := by have := E.size; omega
 have y_b1 := h1.lt
 replace E := E.ext e1; replace hcu := hcu.ext e1
 have z1 := e1.size
 refine J_alloc st33 rfl (fun b2 w2 e2 s2 h2 => ?_)
 have g_b2 : w.heap.size ≤ b2 := by have := E.size; omega
 have y_b2 := h2.lt
 replace E := E.ext e2; replace hcu := hcu.ext e2; replace h1 := h1.ext e2
 have z2 := e2.size
 refine J_done ?_
 refine S_seq ?_
 refine S_reg [true, true, false, false, false] rfl rfl ?_
 refine J_st (R_move rfl) rfl (J_st (R_loadS st26 rfl h1.at rfl) rfl ?_)
 refine J_callR Try.call34 rfl rfl (s_l12Worker lo vb bs og g _ hcu (RdD.modR hbs E (.inl (Nat.le_refl _))) (Stab.on hg E) hcg) rfl (fun _ w3 e3 ho1 => ?_)
 obtain ⟨dx1, q1, q2, hcu', ho1⟩ := ho1
 replace hcu := hcu'
 obtain ⟨_, rfl, ho1⟩ := ho1
 have g_ho1 : w.heap.size ≤ w2.heap.size := E.size
 replace E := E.trans e3 (by omega) (by omega); replace h1 := h1.modR e3 (by omega); replace h2 := h2.modR e3 (by omega)
 have z3 := e3.size
 obtain ⟨o1, o2, o3, o4, o5, o6, o7, o8, rfl, sp1, hw1, hw2, hw3, hw4, hw5, hw6, hw7, hw8⟩ := Worker.opO ho1
 refine J_alloc st33 rfl (fun b3 w4 e4 s3 h3 => ?_)
 have g_b3 : w.heap.size ≤ b3 := by have := E.size; omega
 have y_b3 := h3.lt
 replace E := E.ext e4; replace hcu := hcu.ext e4; replace h1 := h1.ext e4; replace h2 := h2.ext e4; replace hw1 := hw1.ext e4; replace hw2 := hw2.ext e4; replace hw3 := hw3.ext e4; replace hw4 := hw4.ext e4; replace hw5 := hw5.ext e4; replace hw6 := hw6.ext e4; replace hw7 := hw7.ext e4; replace hw8 := hw8.ext e4
 have z4 := e4.size
 refine J_storeS' (cs' := [o1, o2, o3, o4, o5, o6, o7, o8]) st33 rfl rfl rfl (all_cons hw1.one (all_cons hw2.one (all_cons hw3.one (all_cons hw4.one (all_cons hw5.one (all_cons hw6.one (all_cons hw7.one (all_cons hw8.one rfl)))))))) h3 (Nat.le_of_ble_eq_true rfl) rfl (fun w5 m1 h3' => ?_)
 replace h3 := h3'
 replace E := E.mod m1 (fun g hg => by cases hg; omega); replace hcu := hcu.mod m1 (fun g hg => by cases hg; omega); replace h1 := h1.mod m1 (fun g hg => by cases hg; omega); replace h2 := h2.mod m1 (fun g hg => by cases hg; omega); replace hw1 := hw1.mod m1 (fun g hg => by cases hg; omega); replace hw2 := hw2.mod m1 (fun g hg => by cases hg; omega); replace hw3 := hw3.mod m1 (fun g hg => by cases hg; omega); replace hw4 := hw4.mod m1 (fun g hg => by cases hg; omega); replace hw5 := hw5.mod m1 (fun g hg => by cases hg; omega); replace hw6 := hw6.mod m1 (fun g hg => by cases hg; omega); replace hw7 := hw7.mod m1 (fun g hg => by cases hg; omega); replace hw8 := hw8.mod m1 (fun g hg => by cases hg; omega)
 have z5 := m1.size
 refine J_done ?_
 refine S_seq ?_
 refine S_seq ?_
 refine S_reg [true, false] rfl rfl ?_
 refine J_st (R_move rfl) rfl ?_
 refine J_callR Try.call16 rfl rfl (s_l01Below lo vb bs 16 _ hcu (RdD.modR hbs E (.inl (Nat.le_refl _)))) rfl (fun _ w6 e5 hv => ?_)
 obtain ⟨dx2, q3, q4, hcu', hv⟩ := hv
 replace hcu := hcu'
 subst hv
 replace E := E.trans e5 (by omega) (by omega); replace h1 := h1.modR e5 (by omega); replace h2 := h2.modR e5 (by omega); replace hw1 := hw1.modR e5 (by omega); replace hw2 := hw2.modR e5 (by omega); replace hw3 := hw3.modR e5 (by omega); replace hw4 := hw4.modR e5 (by omega); replace hw5 := hw5.modR e5 (by omega); replace hw6 := hw6.modR e5 (by omega); replace hw7 := hw7.modR e5 (by omega); replace hw8 := hw8.modR e5 (by omega); replace h3 := h3.modR e5 (by omega)
 have z6 := e5.size
 refine J_done ?_
 refine S_block ?_
 refine S_seq ?_
 refine S_reg [true, true] rfl rfl ?_
 refine J_st (R_eql rfl rfl) rfl (J_st (R_assign rfl) rfl (J_done ?_))
 refine S_cond rfl (fun hc1 => ?_) (fun hc1 => ?_)
 ·have hc1n : dx2 = 0 := by first | (have h := of_decide_eq_true hc1; omega) | (have h := hc1; simp at h; omega)
  refine S_regW mixed [0, 2, 6] [(0, true), (1, true), (2, true), (3, false), (4, false), (5, false), (6, true)] [(7, false)] (by decide +kernel) rfl rfl (fun w' => ModR w w' lo (lo + 1) ∧ w6.heap.size ≤ w'.heap.size ∧ CurO w' lo vb bs ∧ Blk w' b1 ([og, .int .i64 g.workers, .int .i64 g.cap]) ∧ Blk w' b2 [.slice none 0 0, .slice none 0 0, .slice none 0 0, .slice none 0 0, .slice none 0 0, .slice none 0 0, .slice none 0 0, .slice none 0 0] ∧ Own w' w2.heap.size w3.heap.size 5 o2 (List.flatMap (Enc.enc (α := Record)) dx1.staged) ∧ Own w' w2.heap.size w3.heap.size 5 o3 (List.flatMap (Enc.enc (α := Record)) dx1.inputs) ∧ Own w' w2.heap.size w3.heap.size 4 o4 (List.flatMap (Enc.enc (α := Cell)) dx1.cells) ∧ Own w' w2.heap.size w3.heap.size 1 o5 (List.flatMap (Enc.enc (α := Int)) dx1.sums) ∧ Own w' w2.heap.size w3.heap.size 1 o6 (List.flatMap (Enc.enc (α := Bool)) dx1.black) ∧ Own w' w2.heap.size w3.heap.size 1 o7 (List.flatMap (Enc.enc (α := Bool)) dx1.caps) ∧ Own w' w2.heap.size w3.heap.size 2 o8 (List.flatMap (Enc.enc (α := Done)) dx1.dones) ∧ Blk w' b3 [o1, o2, o3, o4, o5, o6, o7, o8]) (fun w7 e6 => ?_)
  replace E := E.ext e6; replace hcu := hcu.ext e6; replace h1 := h1.ext e6; replace h2 := h2.ext e6; replace hw1 := hw1.ext e6; replace hw2 := hw2.ext e6; replace hw3 := hw3.ext e6; replace hw4 := hw4.ext e6; replace hw5 := hw5.ext e6; replace hw6 := hw6.ext e6; replace hw7 := hw7.ext e6; replace hw8 := hw8.ext e6; replace h3 := h3.ext e6
  have z7 := e6.size
  refine ⟨⟨E, (by omega), hcu, h1, h2, hw2, hw3, hw4, hw5, hw6, hw7, hw8, h3⟩, ?_⟩
  refine JC_pu rfl (fun wX => R_fieldAddr0 fl33_0 rfl) rfl ?_
  refine JC_st rfl (fun wX hX => by obtain ⟨E, zX, hcu, h1, h2, hw2, hw3, hw4, hw5, hw6, hw7, hw8, h3⟩ := hX; exact R_load sc27 rfl (h3.one 0 rfl)) rfl ?_
  refine JC_pu rfl (fun wX => R_move rfl) rfl ?_
  refine JC_un rfl ?_
  refine J_callR Try.call35 rfl rfl (s_l05Any lo vb bs _ hcu (RdD.modR hbs E (.inl (Nat.le_refl _)))) rfl (fun _ w8 e7 hv => ?_)
  obtain ⟨dx3, hcu', hv⟩ := hv
  replace hcu := hcu'
  subst hv
  replace E := E.trans e7 (by omega) (by omega); replace h1 := h1.modR e7 (by omega); replace h2 := h2.modR e7 (by omega); replace hw1 := hw1.modR e7 (by omega); replace hw2 := hw2.modR e7 (by omega); replace hw3 := hw3.modR e7 (by omega); replace hw4 := hw4.modR e7 (by omega); replace hw5 := hw5.modR e7 (by omega); replace hw6 := hw6.modR e7 (by omega); replace hw7 := hw7.modR e7 (by omega); replace hw8 := hw8.modR e7 (by omega); replace h3 := h3.modR e7 (by omega)
  have z8 := e7.size
  refine JC_next ⟨E, (by omega), hcu, h1, h2, hw2, hw3, hw4, hw5, hw6, hw7, hw8, h3⟩ ?_
  refine JC_un rfl ?_
  refine J_buildSlice (vs := [.agg (Enc.enc dx3).toArray]) (css := [[.int .i64 dx3.op, .int .i64 dx3.stamp.epoch, .int .i64 dx3.stamp.turn, .int .i64 dx3.key, .int .i64 dx3.val]]) sl27 rfl rfl ⟨⟨rfl, rfl⟩, trivial⟩ rfl rfl (fun b4 w9 e8 s4 h4 => ?_)
  replace h4 : Blk w9 b4 [.int .i64 dx3.op, .int .i64 dx3.stamp.epoch, .int .i64 dx3.stamp.turn, .int .i64 dx3.key, .int .i64 dx3.val] := h4
  have g_b4 : w.heap.size ≤ b4 := by have := E.size; omega
  have y_b4 := h4.lt
  replace E := E.ext e8; replace hcu := hcu.ext e8; replace h1 := h1.ext e8; replace h2 := h2.ext e8; replace hw1 := hw1.ext e8; replace hw2 := hw2.ext e8; replace hw3 := hw3.ext e8; replace hw4 := hw4.ext e8; replace hw5 := hw5.ext e8; replace hw6 := hw6.ext e8; replace hw7 := hw7.ext e8; replace hw8 := hw8.ext e8; replace h3 := h3.ext e8
  have z9 := e8.size
  refine JC_next ⟨E, (by omega), hcu, h1, h2, hw2, hw3, hw4, hw5, hw6, hw7, hw8, h3⟩ ?_
  refine JC_un rfl ?_
  refine J_appendB sl27 rfl rfl hw1 (Src.ofBlk h4 rfl) rfl (by unfold cntWorker at q1; simp only [sum_flat, List.length_cons, List.length_nil]; simp only [Enc.sz]; omega) (by decide) (by omega) (by omega) rfl rfl (fun v1 w10 m2 ho2 hb1 => ?_)
  have hn1 : ∀ g, Value.ownBlock v1 = some g → g < w3.heap.size ∨ w9.heap.size ≤ g := fun g hg => (hb1 g hg).elim (fun h => .inl (by have := Own.blk hw1 g h; omega)) (fun h => .inr h)
  have sq1 := sp1
  replace sp1 := SepL.set hb1 0 rfl sp1 ⟨(Own.lt hw1), (Own.lt hw2), (Own.lt hw3), (Own.lt hw4), (Own.lt hw5), (Own.lt hw6), (Own.lt hw7), (Own.lt hw8), trivial⟩
  replace sp1 : SepL [v1, o2, o3, o4, o5, o6, o7, o8] := sp1
  replace E := E.mod m2 (fun g hg => by have := Own.blk hw1 g hg; omega); replace hcu := hcu.mod m2 (fun g hg => by have := Own.blk hw1 g hg; omega); replace h1 := h1.mod m2 (fun g hg => by have := Own.blk hw1 g hg; omega); replace h2 := h2.mod m2 (fun g hg => by have := Own.blk hw1 g hg; omega); replace hw2 := Own.modS hw2 m2 sq1.1.1; replace hw3 := Own.modS hw3 m2 sq1.1.2.1; replace hw4 := Own.modS hw4 m2 sq1.1.2.2.1; replace hw5 := Own.modS hw5 m2 sq1.1.2.2.2.1; replace hw6 := Own.modS hw6 m2 sq1.1.2.2.2.2.1; replace hw7 := Own.modS hw7 m2 sq1.1.2.2.2.2.2.1; replace hw8 := Own.modS hw8 m2 sq1.1.2.2.2.2.2.2.1; replace h3 := h3.mod m2 (fun g hg => by have := Own.blk hw1 g hg; omega)
  have z10 := m2.size
  replace ho2 : Own w10 w2.heap.size w10.heap.size 5 v1 (List.flatMap (Enc.enc (α := Record)) (dx1.queue ++ [dx3])) := by rw [List.flatMap_append]; exact ho2
  refine JC_next ⟨E, (by omega), hcu, h1, h2, hw2, hw3, hw4, hw5, hw6, hw7, hw8, h3⟩ ?_
  refine JC_pu rfl (fun wX => R_fieldAddr0 fl33_0 rfl) rfl ?_
  refine JC_end ?_
  refine J_store' (cs' := [v1, o2, o3, o4, o5, o6, o7, o8]) sc27 rfl rfl ho2.one h3 (Nat.le_of_ble_eq_true rfl) rfl (fun w11 m3 h3' => ?_)
  replace h3 := h3'
  replace E := E.mod m3 (fun g hg => by cases hg; omega); replace hcu := hcu.mod m3 (fun g hg => by cases hg; omega); replace h1 := h1.mod m3 (fun g hg => by cases hg; omega); replace h2 := h2.mod m3 (fun g hg => by cases hg; omega); replace hw2 := hw2.mod m3 (fun g hg => by cases hg; omega); replace hw3 := hw3.mod m3 (fun g hg => by cases hg; omega); replace hw4 := hw4.mod m3 (fun g hg => by cases hg; omega); replace hw5 := hw5.mod m3 (fun g hg => by cases hg; omega); replace hw6 := hw6.mod m3 (fun g hg => by cases hg; omega); replace hw7 := hw7.mod m3 (fun g hg => by cases hg; omega); replace hw8 := hw8.mod m3 (fun g hg => by cases hg; omega); replace ho2 := Own.modN ho2 m3 (fun g hg hv => by have hN := hn1 g hv; have hB := Own.blk ho2 g hv; cases hg; omega)
  have z11 := m3.size
  refine J_done ?_
  refine S_nil (E_inB ?_)
  refine S_seq ?_
  refine S_reg [true, false] rfl rfl ?_
  refine J_st (R_loadS st33 rfl h3.at rfl) rfl ?_
  refine J_storeS' (cs' := [v1, o2, o3, o4, o5, o6, o7, o8]) st33 rfl rfl rfl (all_cons ho2.one (all_cons hw2.one (all_cons hw3.one (all_cons hw4.one (all_cons hw5.one (all_cons hw6.one (all_cons hw7.one (all_cons hw8.one rfl)))))))) h2 (Nat.le_of_ble_eq_true rfl) rfl (fun w12 m4 h2' => ?_)
  replace h2 := h2'
  replace E := E.mod m4 (fun g hg => by cases hg; omega); replace hcu := hcu.mod m4 (fun g hg => by cases hg; omega); replace h1 := h1.mod m4 (fun g hg => by cases hg; omega); replace hw2 := hw2.mod m4 (fun g hg => by cases hg; omega); replace hw3 := hw3.mod m4 (fun g hg => by cases hg; omega); replace hw4 := hw4.mod m4 (fun g hg => by cases hg; omega); replace hw5 := hw5.mod m4 (fun g hg => by cases hg; omega); replace hw6 := hw6.mod m4 (fun g hg => by cases hg; omega); replace hw7 := hw7.mod m4 (fun g hg => by cases hg; omega); replace hw8 := hw8.mod m4 (fun g hg => by cases hg; omega); replace h3 := h3.mod m4 (fun g hg => by cases hg; omega); replace ho2 := Own.modN ho2 m4 (fun g hg hv => by have hN := hn1 g hv; have hB := Own.blk ho2 g hv; cases hg; omega)
  have z12 := m4.size
  refine J_done ?_
  refine S_ret (E_doneC rfl rfl (run_loadVar_st st33 h2.at rfl) E ?_)
  exact ⟨(⟨dx1.queue ++ [dx3], dx1.staged, dx1.inputs, dx1.cells, dx1.sums, dx1.black, dx1.caps, dx1.dones⟩ : Worker), (by first | omega | (simp only [cntWorker, List.length_append, List.length_cons, List.length_nil, List.length_take, List.length_set] at *; omega)), hcu, ⟨_, rfl, Worker.mkR (⟨dx1.queue ++ [dx3], dx1.staged, dx1.inputs, dx1.cells, dx1.sums, dx1.black, dx1.caps, dx1.dones⟩ : Worker) (RdD.widen (Own.rdD ho2) (by have := E.size; omega) (by omega)) (RdD.widen (Own.rdD hw2) (by have := E.size; omega) (by omega)) (RdD.widen (Own.rdD hw3) (by have := E.size; omega) (by omega)) (RdD.widen (Own.rdD hw4) (by have := E.size; omega) (by omega)) (RdD.widen (Own.rdD hw5) (by have := E.size; omega) (by omega)) (RdD.widen (Own.rdD hw6) (by have := E.size; omega) (by omega)) (RdD.widen (Own.rdD hw7) (by have := E.size; omega) (by omega)) (RdD.widen (Own.rdD hw8) (by have := E.size; omega) (by omega))⟩⟩
 ·have hc1n : ¬ dx2 = 0 := by first | (have h := of_decide_eq_false hc1; omega) | (have h := hc1; simp at h; omega)
  refine S_seq ?_
  refine S_reg [true, true] rfl rfl ?_
  refine J_st (R_eql rfl rfl) rfl (J_st (R_assign rfl) rfl (J_done ?_))
  refine S_cond rfl (fun hc2 => ?_) (fun hc2 => ?_)
  ·have hc2n : dx2 = 1 := by first | (have h := of_decide_eq_true hc2; omega) | (have h := hc2; simp at h; omega)
   refine S_regW mixed [0, 2, 6] [(0, true), (1, true), (2, true), (3, false), (4, false), (5, false), (6, true)] [(7, false)] (by decide +kernel) rfl rfl (fun w' => ModR w w' lo (lo + 1) ∧ w6.heap.size ≤ w'.heap.size ∧ CurO w' lo vb bs ∧ Blk w' b1 ([og, .int .i64 g.workers, .int .i64 g.cap]) ∧ Blk w' b2 [.slice none 0 0, .slice none 0 0, .slice none 0 0, .slice none 0 0, .slice none 0 0, .slice none 0 0, .slice none 0 0, .slice none 0 0] ∧ Own w' w2.heap.size w3.heap.size 5 o1 (List.flatMap (Enc.enc (α := Record)) dx1.queue) ∧ Own w' w2.heap.size w3.heap.size 5 o2 (List.flatMap (Enc.enc (α := Record)) dx1.staged) ∧ Own w' w2.heap.size w3.heap.size 4 o4 (List.flatMap (Enc.enc (α := Cell)) dx1.cells) ∧ Own w' w2.heap.size w3.heap.size 1 o5 (List.flatMap (Enc.enc (α := Int)) dx1.sums) ∧ Own w' w2.heap.size w3.heap.size 1 o6 (List.flatMap (Enc.enc (α := Bool)) dx1.black) ∧ Own w' w2.heap.size w3.heap.size 1 o7 (List.flatMap (Enc.enc (α := Bool)) dx1.caps) ∧ Own w' w2.heap.size w3.heap.size 2 o8 (List.flatMap (Enc.enc (α := Done)) dx1.dones) ∧ Blk w' b3 [o1, o2, o3, o4, o5, o6, o7, o8]) (fun w13 e9 => ?_)
   replace E := E.ext e9; replace hcu := hcu.ext e9; replace h1 := h1.ext e9; replace h2 := h2.ext e9; replace hw1 := hw1.ext e9; replace hw2 := hw2.ext e9; replace hw3 := hw3.ext e9; replace hw4 := hw4.ext e9; replace hw5 := hw5.ext e9; replace hw6 := hw6.ext e9; replace hw7 := hw7.ext e9; replace hw8 := hw8.ext e9; replace h3 := h3.ext e9
   have z13 := e9.size
   refine ⟨⟨E, (by omega), hcu, h1, h2, hw1, hw2, hw4, hw5, hw6, hw7, hw8, h3⟩, ?_⟩
   refine JC_pu rfl (fun wX => R_fieldAddr0 fl33_2 rfl) rfl ?_
   refine JC_st rfl (fun wX hX => by obtain ⟨E, zX, hcu, h1, h2, hw1, hw2, hw4, hw5, hw6, hw7, hw8, h3⟩ := hX; exact R_load sc27 rfl (h3.one 2 rfl)) rfl ?_
   refine JC_pu rfl (fun wX => R_move rfl) rfl ?_
   refine JC_un rfl ?_
   refine J_callR Try.call36 rfl rfl (s_l05Record lo vb bs _ hcu (RdD.modR hbs E (.inl (Nat.le_refl _)))) rfl (fun _ w14 e10 hv => ?_)
   obtain ⟨dx4, hcu', hv⟩ := hv
   replace hcu := hcu'
   subst hv
   replace E := E.trans e10 (by omega) (by omega); replace h1 := h1.modR e10 (by omega); replace h2 := h2.modR e10 (by omega); replace hw1 := hw1.modR e10 (by omega); replace hw2 := hw2.modR e10 (by omega); replace hw3 := hw3.modR e10 (by omega); replace hw4 := hw4.modR e10 (by omega); replace hw5 := hw5.modR e10 (by omega); replace hw6 := hw6.modR e10 (by omega); replace hw7 := hw7.modR e10 (by omega); replace hw8 := hw8.modR e10 (by omega); replace h3 := h3.modR e10 (by omega)
   have z14 := e10.size
   refine JC_next ⟨E, (by omega), hcu, h1, h2, hw1, hw2, hw4, hw5, hw6, hw7, hw8, h3⟩ ?_
   refine JC_un rfl ?_
   refine J_buildSlice (vs := [.agg (Enc.enc dx4).toArray]) (css := [[.int .i64 dx4.op, .int .i64 dx4.stamp.epoch, .int .i64 dx4.stamp.turn, .int .i64 dx4.key, .int .i64 dx4.val]]) sl27 rfl rfl ⟨⟨rfl, rfl⟩, trivial⟩ rfl rfl (fun b5 w15 e11 s5 h5 => ?_)
   replace h5 : Blk w15 b5 [.int .i64 dx4.op, .int .i64 dx4.stamp.epoch, .int .i64 dx4.stamp.turn, .int .i64 dx4.key, .int .i64 dx4.val] := h5
   have g_b5 : w.heap.size ≤ b5 := by have := E.size; omega
   have y_b5 := h5.lt
   replace E := E.ext e11; replace hcu := hcu.ext e11; replace h1 := h1.ext e11; replace h2 := h2.ext e11; replace hw1 := hw1.ext e11; replace hw2 := hw2.ext e11; replace hw3 := hw3.ext e11; replace hw4 := hw4.ext e11; replace hw5 := hw5.ext e11; replace hw6 := hw6.ext e11; replace hw7 := hw7.ext e11; replace hw8 := hw8.ext e11; replace h3 := h3.ext e11
   have z15 := e11.size
   refine JC_next ⟨E, (by omega), hcu, h1, h2, hw1, hw2, hw4, hw5, hw6, hw7, hw8, h3⟩ ?_
   refine JC_un rfl ?_
   refine J_appendB sl27 rfl rfl hw3 (Src.ofBlk h5 rfl) rfl (by unfold cntWorker at q1; simp only [sum_flat, List.length_cons, List.length_nil]; simp only [Enc.sz]; omega) (by decide) (by omega) (by omega) rfl rfl (fun v2 w16 m5 ho3 hb2 => ?_)
   have hn2 : ∀ g, Value.ownBlock v2 = some g → g < w3.heap.size ∨ w15.heap.size ≤ g := fun g hg => (hb2 g hg).elim (fun h => .inl (by have := Own.blk hw3 g h; omega)) (fun h => .inr h)
   have sq2 := sp1
   replace sp1 := SepL.set hb2 2 rfl sp1 ⟨(Own.lt hw1), (Own.lt hw2), (Own.lt hw3), (Own.lt hw4), (Own.lt hw5), (Own.lt hw6), (Own.lt hw7), (Own.lt hw8), trivial⟩
   replace sp1 : SepL [o1, o2, v2, o4, o5, o6, o7, o8] := sp1
   replace E := E.mod m5 (fun g hg => by have := Own.blk hw3 g hg; omega); replace hcu := hcu.mod m5 (fun g hg => by have := Own.blk hw3 g hg; omega); replace h1 := h1.mod m5 (fun g hg => by have := Own.blk hw3 g hg; omega); replace h2 := h2.mod m5 (fun g hg => by have := Own.blk hw3 g hg; omega); replace hw1 := Own.modS hw1 m5 (sq2.1.2.1).symm; replace hw2 := Own.modS hw2 m5 (sq2.2.1.1).symm; replace hw4 := Own.modS hw4 m5 sq2.2.2.1.1; replace hw5 := Own.modS hw5 m5 sq2.2.2.1.2.1; replace hw6 := Own.modS hw6 m5 sq2.2.2.1.2.2.1; replace hw7 := Own.modS hw7 m5 sq2.2.2.1.2.2.2.1; replace hw8 := Own.modS hw8 m5 sq2.2.2.1.2.2.2.2.1; replace h3 := h3.mod m5 (fun g hg => by have := Own.blk hw3 g hg; omega)
   have z16 := m5.size
   replace ho3 : Own w16 w2.heap.size w16.heap.size 5 v2 (List.flatMap (Enc.enc (α := Record)) (dx1.inputs ++ [dx4])) := by rw [List.flatMap_append]; exact ho3
   refine JC_next ⟨E, (by omega), hcu, h1, h2, hw1, hw2, hw4, hw5, hw6, hw7, hw8, h3⟩ ?_
   refine JC_pu rfl (fun wX => R_fieldAddr0 fl33_2 rfl) rfl ?_
   refine JC_end ?_
   refine J_store' (cs' := [o1, o2, v2, o4, o5, o6, o7, o8]) sc27 rfl rfl ho3.one h3 (Nat.le_of_ble_eq_true rfl) rfl (fun w17 m6 h3' => ?_)
   replace h3 := h3'
   replace E := E.mod m6 (fun g hg => by cases hg; omega); replace hcu := hcu.mod m6 (fun g hg => by cases hg; omega); replace h1 := h1.mod m6 (fun g hg => by cases hg; omega); replace h2 := h2.mod m6 (fun g hg => by cases hg; omega); replace hw1 := hw1.mod m6 (fun g hg => by cases hg; omega); replace hw2 := hw2.mod m6 (fun g hg => by cases hg; omega); replace hw4 := hw4.mod m6 (fun g hg => by cases hg; omega); replace hw5 := hw5.mod m6 (fun g hg => by cases hg; omega); replace hw6 := hw6.mod m6 (fun g hg => by cases hg; omega); replace hw7 := hw7.mod m6 (fun g hg => by cases hg; omega); replace hw8 := hw8.mod m6 (fun g hg => by cases hg; omega); replace ho3 := Own.modN ho3 m6 (fun g hg hv => by have hN := hn2 g hv; have hB := Own.blk ho3 g hv; cases hg; omega)
   have z17 := m6.size
   refine J_done ?_
   refine S_nil (E_inB ?_)
   refine S_seq ?_
   refine S_reg [true, false] rfl rfl ?_
   refine J_st (R_loadS st33 rfl h3.at rfl) rfl ?_
   refine J_storeS' (cs' := [o1, o2, v2, o4, o5, o6, o7, o8]) st33 rfl rfl rfl (all_cons hw1.one (all_cons hw2.one (all_cons ho3.one (all_cons hw4.one (all_cons hw5.one (all_cons hw6.one (all_cons hw7.one (all_cons hw8.one rfl)))))))) h2 (Nat.le_of_ble_eq_true rfl) rfl (fun w18 m7 h2' => ?_)
   replace h2 := h2'
   replace E := E.mod m7 (fun g hg => by cases hg; omega); replace hcu := hcu.mod m7 (fun g hg => by cases hg; omega); replace h1 := h1.mod m7 (fun g hg => by cases hg; omega); replace hw1 := hw1.mod m7 (fun g hg => by cases hg; omega); replace hw2 := hw2.mod m7 (fun g hg => by cases hg; omega); replace hw4 := hw4.mod m7 (fun g hg => by cases hg; omega); replace hw5 := hw5.mod m7 (fun g hg => by cases hg; omega); replace hw6 := hw6.mod m7 (fun g hg => by cases hg; omega); replace hw7 := hw7.mod m7 (fun g hg => by cases hg; omega); replace hw8 := hw8.mod m7 (fun g hg => by cases hg; omega); replace h3 := h3.mod m7 (fun g hg => by cases hg; omega); replace ho3 := Own.modN ho3 m7 (fun g hg hv => by have hN := hn2 g hv; have hB := Own.blk ho3 g hv; cases hg; omega)
   have z18 := m7.size
   refine J_done ?_
   refine S_ret (E_doneC rfl rfl (run_loadVar_st st33 h2.at rfl) E ?_)
   exact ⟨(⟨dx1.queue, dx1.staged, dx1.inputs ++ [dx4], dx1.cells, dx1.sums, dx1.black, dx1.caps, dx1.dones⟩ : Worker), (by first | omega | (simp only [cntWorker, List.length_append, List.length_cons, List.length_nil, List.length_take, List.length_set] at *; omega)), hcu, ⟨_, rfl, Worker.mkR (⟨dx1.queue, dx1.staged, dx1.inputs ++ [dx4], dx1.cells, dx1.sums, dx1.black, dx1.caps, dx1.dones⟩ : Worker) (RdD.widen (Own.rdD hw1) (by have := E.size; omega) (by omega)) (RdD.widen (Own.rdD hw2) (by have := E.size; omega) (by omega)) (RdD.widen (Own.rdD ho3) (by have := E.size; omega) (by omega)) (RdD.widen (Own.rdD hw4) (by have := E.size; omega) (by omega)) (RdD.widen (Own.rdD hw5) (by have := E.size; omega) (by omega)) (RdD.widen (Own.rdD hw6) (by have := E.size; omega) (by omega)) (RdD.widen (Own.rdD hw7) (by have := E.size; omega) (by omega)) (RdD.widen (Own.rdD hw8) (by have := E.size; omega) (by omega))⟩⟩
  ·have hc2n : ¬ dx2 = 1 := by first | (have h := of_decide_eq_false hc2; omega) | (have h := hc2; simp at h; omega)
   refine S_seq ?_
   refine S_reg [true, true] rfl rfl ?_
   refine J_st (R_eql rfl rfl) rfl (J_st (R_assign rfl) rfl (J_done ?_))
   refine S_cond rfl (fun hc3 => ?_) (fun hc3 => ?_)
   ·have hc3n : dx2 = 2 := by first | (have h := of_decide_eq_true hc3; omega) | (have h := hc3; simp at h; omega)
    refine S_regW mixed [0, 2, 5] [(0, true), (1, true), (2, true), (3, false), (4, true), (5, true)] [(6, false)] (by decide +kernel) rfl rfl (fun w' => ModR w w' lo (lo + 1) ∧ w6.heap.size ≤ w'.heap.size ∧ CurO w' lo vb bs ∧ Blk w' b1 ([og, .int .i64 g.workers, .int .i64 g.cap]) ∧ Blk w' b2 [.slice none 0 0, .slice none 0 0, .slice none 0 0, .slice none 0 0, .slice none 0 0, .slice none 0 0, .slice none 0 0, .slice none 0 0] ∧ Own w' w2.heap.size w3.heap.size 5 o1 (List.flatMap (Enc.enc (α := Record)) dx1.queue) ∧ Own w' w2.heap.size w3.heap.size 5 o2 (List.flatMap (Enc.enc (α := Record)) dx1.staged) ∧ Own w' w2.heap.size w3.heap.size 5 o3 (List.flatMap (Enc.enc (α := Record)) dx1.inputs) ∧ Own w' w2.heap.size w3.heap.size 4 o4 (List.flatMap (Enc.enc (α := Cell)) dx1.cells) ∧ Own w' w2.heap.size w3.heap.size 1 o5 (List.flatMap (Enc.enc (α := Int)) dx1.sums) ∧ Own w' w2.heap.size w3.heap.size 1 o6 (List.flatMap (Enc.enc (α := Bool)) dx1.black) ∧ Own w' w2.heap.size w3.heap.size 1 o7 (List.flatMap (Enc.enc (α := Bool)) dx1.caps) ∧ Own w' w2.heap.size w3.heap.size 2 o8 (List.flatMap (Enc.enc (α := Done)) dx1.dones) ∧ Blk w' b3 [o1, o2, o3, o4, o5, o6, o7, o8]) (fun w19 e12 => ?_)
    replace E := E.ext e12; replace hcu := hcu.ext e12; replace h1 := h1.ext e12; replace h2 := h2.ext e12; replace hw1 := hw1.ext e12; replace hw2 := hw2.ext e12; replace hw3 := hw3.ext e12; replace hw4 := hw4.ext e12; replace hw5 := hw5.ext e12; replace hw6 := hw6.ext e12; replace hw7 := hw7.ext e12; replace hw8 := hw8.ext e12; replace h3 := h3.ext e12
    have z19 := e12.size
    refine ⟨⟨E, (by omega), hcu, h1, h2, hw1, hw2, hw3, hw4, hw5, hw6, hw7, hw8, h3⟩, ?_⟩
    refine JC_pu rfl (fun wX => R_fieldAddr0 fl33_4 rfl) rfl ?_
    refine JC_st rfl (fun wX hX => by obtain ⟨E, zX, hcu, h1, h2, hw1, hw2, hw3, hw4, hw5, hw6, hw7, hw8, h3⟩ := hX; exact R_load sc29 rfl (h3.one 4 rfl)) rfl ?_
    refine JC_pu rfl (fun wX => R_move rfl) rfl ?_
    refine JC_un rfl ?_
    refine J_callR Try.call16 rfl rfl (s_l01Below lo vb bs 4 _ hcu (RdD.modR hbs E (.inl (Nat.le_refl _)))) rfl (fun _ w20 e13 hv => ?_)
    obtain ⟨dx5, q5, q6, hcu', hv⟩ := hv
    replace hcu := hcu'
    subst hv
    replace E := E.trans e13 (by omega) (by omega); replace h1 := h1.modR e13 (by omega); replace h2 := h2.modR e13 (by omega); replace hw1 := hw1.modR e13 (by omega); replace hw2 := hw2.modR e13 (by omega); replace hw3 := hw3.modR e13 (by omega); replace hw4 := hw4.modR e13 (by omega); replace hw5 := hw5.modR e13 (by omega); replace hw6 := hw6.modR e13 (by omega); replace hw7 := hw7.modR e13 (by omega); replace hw8 := hw8.modR e13 (by omega); replace h3 := h3.modR e13 (by omega)
    have z20 := e13.size
    refine JC_next ⟨E, (by omega), hcu, h1, h2, hw1, hw2, hw3, hw4, hw5, hw6, hw7, hw8, h3⟩ ?_
    have hk1 : dx5 ≤ dx1.sums.length := by first | assumption | omega
    have hs1 : RdD (α := Int) w20 w2.heap.size w3.heap.size (slTo o5 dx5) (List.take dx5 dx1.sums) := RdB.slTo (Own.rdD hw5) hk1
    refine JC_st rfl (fun wX hX => by obtain ⟨E, zX, hcu, h1, h2, hw1, hw2, hw3, hw4, hw5, hw6, hw7, hw8, h3⟩ := hX; exact R_sliceTo sl29 rfl rfl (RdL.room (Own.rdD hw5).1) hk1) rfl ?_
    refine JC_pu rfl (fun wX => R_fieldAddr0 fl33_4 rfl) rfl ?_
    refine JC_end ?_
    refine J_store' (cs' := [o1, o2, o3, o4, slTo o5 dx5, o6, o7, o8]) sc29 rfl rfl (RdD.one hs1) h3 (Nat.le_of_ble_eq_true rfl) rfl (fun w21 m8 h3' => ?_)
    replace h3 := h3'
    replace E := E.mod m8 (fun g hg => by cases hg; omega); replace hcu := hcu.mod m8 (fun g hg => by cases hg; omega); replace h1 := h1.mod m8 (fun g hg => by cases hg; omega); replace h2 := h2.mod m8 (fun g hg => by cases hg; omega); replace hw1 := hw1.mod m8 (fun g hg => by cases hg; omega); replace hw2 := hw2.mod m8 (fun g hg => by cases hg; omega); replace hw3 := hw3.mod m8 (fun g hg => by cases hg; omega); replace hw4 := hw4.mod m8 (fun g hg => by cases hg; omega); replace hw5 := hw5.mod m8 (fun g hg => by cases hg; omega); replace hw6 := hw6.mod m8 (fun g hg => by cases hg; omega); replace hw7 := hw7.mod m8 (fun g hg => by cases hg; omega); replace hw8 := hw8.mod m8 (fun g hg => by cases hg; omega); replace hs1 := hs1.mod m8 (fun g hg => by cases hg; omega)
    have z21 := m8.size
    refine J_done ?_
    refine S_nil (E_inB ?_)
    refine S_seq ?_
    refine S_reg [true, false] rfl rfl ?_
    refine J_st (R_loadS st33 rfl h3.at rfl) rfl ?_
    refine J_storeS' (cs' := [o1, o2, o3, o4, slTo o5 dx5, o6, o7, o8]) st33 rfl rfl rfl (all_cons hw1.one (all_cons hw2.one (all_cons hw3.one (all_cons hw4.one (all_cons (RdD.one hs1) (all_cons hw6.one (all_cons hw7.one (all_cons hw8.one rfl)))))))) h2 (Nat.le_of_ble_eq_true rfl) rfl (fun w22 m9 h2' => ?_)
    replace h2 := h2'
    replace E := E.mod m9 (fun g hg => by cases hg; omega); replace hcu := hcu.mod m9 (fun g hg => by cases hg; omega); replace h1 := h1.mod m9 (fun g hg => by cases hg; omega); replace hw1 := hw1.mod m9 (fun g hg => by cases hg; omega); replace hw2 := hw2.mod m9 (fun g hg => by cases hg; omega); replace hw3 := hw3.mod m9 (fun g hg => by cases hg; omega); replace hw4 := hw4.mod m9 (fun g hg => by cases hg; omega); replace hw5 := hw5.mod m9 (fun g hg => by cases hg; omega); replace hw6 := hw6.mod m9 (fun g hg => by cases hg; omega); replace hw7 := hw7.mod m9 (fun g hg => by cases hg; omega); replace hw8 := hw8.mod m9 (fun g hg => by cases hg; omega); replace h3 := h3.mod m9 (fun g hg => by cases hg; omega); replace hs1 := hs1.mod m9 (fun g hg => by cases hg; omega)
    have z22 := m9.size
    refine J_done ?_
    refine S_ret (E_doneC rfl rfl (run_loadVar_st st33 h2.at rfl) E ?_)
    exact ⟨(⟨dx1.queue, dx1.staged, dx1.inputs, dx1.cells, List.take dx5 dx1.sums, dx1.black, dx1.caps, dx1.dones⟩ : Worker), (by first | omega | (simp only [cntWorker, List.length_append, List.length_cons, List.length_nil, List.length_take, List.length_set] at *; omega)), hcu, ⟨_, rfl, Worker.mkR (⟨dx1.queue, dx1.staged, dx1.inputs, dx1.cells, List.take dx5 dx1.sums, dx1.black, dx1.caps, dx1.dones⟩ : Worker) (RdD.widen (Own.rdD hw1) (by have := E.size; omega) (by omega)) (RdD.widen (Own.rdD hw2) (by have := E.size; omega) (by omega)) (RdD.widen (Own.rdD hw3) (by have := E.size; omega) (by omega)) (RdD.widen (Own.rdD hw4) (by have := E.size; omega) (by omega)) (RdD.widen hs1 (by have := E.size; omega) (by omega)) (RdD.widen (Own.rdD hw6) (by have := E.size; omega) (by omega)) (RdD.widen (Own.rdD hw7) (by have := E.size; omega) (by omega)) (RdD.widen (Own.rdD hw8) (by have := E.size; omega) (by omega))⟩⟩
   ·have hc3n : ¬ dx2 = 2 := by first | (have h := of_decide_eq_false hc3; omega) | (have h := hc3; simp at h; omega)
    refine S_seq ?_
    refine S_reg [true, true] rfl rfl ?_
    refine J_st (R_eql rfl rfl) rfl (J_st (R_assign rfl) rfl (J_done ?_))
    refine S_cond rfl (fun hc4 => ?_) (fun hc4 => ?_)
    ·have hc4n : dx2 = 3 := by first | (have h := of_decide_eq_true hc4; omega) | (have h := hc4; simp at h; omega)
     refine S_regW mixed [0, 2] [(0, true), (1, true), (2, true), (3, false), (4, false), (5, true)] [(6, false)] (by decide +kernel) rfl rfl (fun w' => ModR w w' lo (lo + 1) ∧ w6.heap.size ≤ w'.heap.size ∧ CurO w' lo vb bs ∧ Blk w' b1 ([og, .int .i64 g.workers, .int .i64 g.cap]) ∧ Blk w' b2 [.slice none 0 0, .slice none 0 0, .slice none 0 0, .slice none 0 0, .slice none 0 0, .slice none 0 0, .slice none 0 0, .slice none 0 0] ∧ Own w' w2.heap.size w3.heap.size 5 o1 (List.flatMap (Enc.enc (α := Record)) dx1.queue) ∧ Own w' w2.heap.size w3.heap.size 5 o2 (List.flatMap (Enc.enc (α := Record)) dx1.staged) ∧ Own w' w2.heap.size w3.heap.size 5 o3 (List.flatMap (Enc.enc (α := Record)) dx1.inputs) ∧ Own w' w2.heap.size w3.heap.size 4 o4 (List.flatMap (Enc.enc (α := Cell)) dx1.cells) ∧ Own w' w2.heap.size w3.heap.size 1 o5 (List.flatMap (Enc.enc (α := Int)) dx1.sums) ∧ Own w' w2.heap.size w3.heap.size 1 o6 (List.flatMap (Enc.enc (α := Bool)) dx1.black) ∧ Own w' w2.heap.size w3.heap.size 1 o7 (List.flatMap (Enc.enc (α := Bool)) dx1.caps) ∧ Own w' w2.heap.size w3.heap.size 2 o8 (List.flatMap (Enc.enc (α := Done)) dx1.dones) ∧ Blk w' b3 [o1, o2, o3, o4, o5, o6, o7, o8]) (fun w23 e14 => ?_)
     replace E := E.ext e14; replace hcu := hcu.ext e14; replace h1 := h1.ext e14; replace h2 := h2.ext e14; replace hw1 := hw1.ext e14; replace hw2 := hw2.ext e14; replace hw3 := hw3.ext e14; replace hw4 := hw4.ext e14; replace hw5 := hw5.ext e14; replace hw6 := hw6.ext e14; replace hw7 := hw7.ext e14; replace hw8 := hw8.ext e14; replace h3 := h3.ext e14
     have z23 := e14.size
     refine ⟨⟨E, (by omega), hcu, h1, h2, hw1, hw2, hw3, hw4, hw5, hw6, hw7, hw8, h3⟩, ?_⟩
     refine JC_pu rfl (fun wX => R_fieldAddr0 fl33_4 rfl) rfl ?_
     refine JC_st rfl (fun wX hX => by obtain ⟨E, zX, hcu, h1, h2, hw1, hw2, hw3, hw4, hw5, hw6, hw7, hw8, h3⟩ := hX; exact R_load sc29 rfl (h3.one 4 rfl)) rfl ?_
     refine JC_pu rfl (fun wX => R_move rfl) rfl ?_
     refine JC_un rfl ?_
     refine J_buildSlice (vs := [.int .i64 1000000, .int .i64 1000001, .int .i64 (-1000001)]) (css := [[.int .i64 1000000], [.int .i64 1000001], [.int .i64 (-1000001)]]) sl29 rfl rfl ⟨⟨rfl, rfl⟩, ⟨rfl, rfl⟩, ⟨rfl, rfl⟩, trivial⟩ rfl rfl (fun b6 w24 e15 s6 h6 => ?_)
     replace h6 : Blk w24 b6 [.int .i64 1000000, .int .i64 1000001, .int .i64 (-1000001)] := h6
     have g_b6 : w.heap.size ≤ b6 := by have := E.size; omega
     have y_b6 := h6.lt
     replace E := E.ext e15; replace hcu := hcu.ext e15; replace h1 := h1.ext e15; replace h2 := h2.ext e15; replace hw1 := hw1.ext e15; replace hw2 := hw2.ext e15; replace hw3 := hw3.ext e15; replace hw4 := hw4.ext e15; replace hw5 := hw5.ext e15; replace hw6 := hw6.ext e15; replace hw7 := hw7.ext e15; replace hw8 := hw8.ext e15; replace h3 := h3.ext e15
     have z24 := e15.size
     refine JC_next ⟨E, (by omega), hcu, h1, h2, hw1, hw2, hw3, hw4, hw5, hw6, hw7, hw8, h3⟩ ?_
     refine JC_un rfl ?_
     refine J_callR Try.call37 rfl rfl (s_l01PickInt lo vb bs (.slice (some ⟨b6, 0, none⟩) 3 3) [1000000, 1000001, (-1000001)] _ hcu (RdD.modR hbs E (.inl (Nat.le_refl _))) (fun wX eX => (Blk.rd (α := Int) (xs := [1000000, 1000001, (-1000001)]) (by decide) (Blk.modR h6 eX (by omega)) rfl (by simp [maxLen]))) (by decide)) rfl (fun _ w25 e16 hv => ?_)
     obtain ⟨dx6, q7, hcu', hv⟩ := hv
     replace hcu := hcu'
     subst hv
     replace E := E.trans e16 (by omega) (by omega); replace h1 := h1.modR e16 (by omega); replace h2 := h2.modR e16 (by omega); replace hw1 := hw1.modR e16 (by omega); replace hw2 := hw2.modR e16 (by omega); replace hw3 := hw3.modR e16 (by omega); replace hw4 := hw4.modR e16 (by omega); replace hw5 := hw5.modR e16 (by omega); replace hw6 := hw6.modR e16 (by omega); replace hw7 := hw7.modR e16 (by omega); replace hw8 := hw8.modR e16 (by omega); replace h3 := h3.modR e16 (by omega); replace h6 := h6.modR e16 (by omega)
     have z25 := e16.size
     refine JC_next ⟨E, (by omega), hcu, h1, h2, hw1, hw2, hw3, hw4, hw5, hw6, hw7, hw8, h3⟩ ?_
     have hi1 : 0 < dx1.sums.length := (by first | assumption | omega | (simp only [List.length_set]; first | assumption | omega) | (simp only [List.getElem_set_self, List.length_set]; first | assumption | omega) | (simp only [setW, setLk, List.length_set]; first | assumption | omega) | (simp; done))
     refine JC_st rfl (fun wX hX => by obtain ⟨E, zX, hcu, h1, h2, hw1, hw2, hw3, hw4, hw5, hw6, hw7, hw8, h3⟩ := hX; exact R_index (i := 0) sl29 rfl rfl (Own.rd (by decide) hw5) hi1) rfl ?_
     refine JC_end ?_
     refine J_storeSet (α := Int) (i := 0) (f := 0) dx6 sc3 rfl rfl rfl rfl hw5 hi1 (by decide) rfl (fun w26 m10 hw5' => ?_)
     have hq := Own.blk hw5
     replace hw5 := hw5'
     replace E := E.mod m10 (fun g hg => by have := hq g hg; omega); replace hcu := hcu.mod m10 (fun g hg => by have := hq g hg; omega); replace h1 := h1.mod m10 (fun g hg => by have := hq g hg; omega); replace h2 := h2.mod m10 (fun g hg => by have := hq g hg; omega); replace hw1 := Own.modS hw1 m10 (sp1.1.2.2.2.1).symm; replace hw2 := Own.modS hw2 m10 (sp1.2.1.2.2.1).symm; replace hw3 := Own.modS hw3 m10 (sp1.2.2.1.2.1).symm; replace hw4 := Own.modS hw4 m10 (sp1.2.2.2.1.1).symm; replace hw6 := Own.modS hw6 m10 sp1.2.2.2.2.1.1; replace hw7 := Own.modS hw7 m10 sp1.2.2.2.2.1.2.1; replace hw8 := Own.modS hw8 m10 sp1.2.2.2.2.1.2.2.1; replace h3 := h3.mod m10 (fun g hg => by have := hq g hg; omega); replace h6 := h6.mod m10 (fun g hg => by have := hq g hg; omega)
     have z26 := m10.size
     clear hq
     refine J_done ?_
     refine S_nil (E_inB ?_)
     refine S_seq ?_
     refine S_reg [true, false] rfl rfl ?_
     refine J_st (R_loadS st33 rfl h3.at rfl) rfl ?_
     refine J_storeS' (cs' := [o1, o2, o3, o4, o5, o6, o7, o8]) st33 rfl rfl rfl (all_cons hw1.one (all_cons hw2.one (all_cons hw3.one (all_cons hw4.one (all_cons hw5.one (all_cons hw6.one (all_cons hw7.one (all_cons hw8.one rfl)))))))) h2 (Nat.le_of_ble_eq_true rfl) rfl (fun w27 m11 h2' => ?_)
     replace h2 := h2'
     replace E := E.mod m11 (fun g hg => by cases hg; omega); replace hcu := hcu.mod m11 (fun g hg => by cases hg; omega); replace h1 := h1.mod m11 (fun g hg => by cases hg; omega); replace hw1 := hw1.mod m11 (fun g hg => by cases hg; omega); replace hw2 := hw2.mod m11 (fun g hg => by cases hg; omega); replace hw3 := hw3.mod m11 (fun g hg => by cases hg; omega); replace hw4 := hw4.mod m11 (fun g hg => by cases hg; omega); replace hw6 := hw6.mod m11 (fun g hg => by cases hg; omega); replace hw7 := hw7.mod m11 (fun g hg => by cases hg; omega); replace hw8 := hw8.mod m11 (fun g hg => by cases hg; omega); replace h3 := h3.mod m11 (fun g hg => by cases hg; omega); replace h6 := h6.mod m11 (fun g hg => by cases hg; omega); replace hw5 := hw5.mod m11 (fun g hg => by cases hg; omega)
     have z27 := m11.size
     refine J_done ?_
     refine S_ret (E_doneC rfl rfl (run_loadVar_st st33 h2.at rfl) E ?_)
     exact ⟨(⟨dx1.queue, dx1.staged, dx1.inputs, dx1.cells, List.set dx1.sums 0 dx6, dx1.black, dx1.caps, dx1.dones⟩ : Worker), (by first | omega | (simp only [cntWorker, List.length_append, List.length_cons, List.length_nil, List.length_take, List.length_set] at *; omega)), hcu, ⟨_, rfl, Worker.mkR (⟨dx1.queue, dx1.staged, dx1.inputs, dx1.cells, List.set dx1.sums 0 dx6, dx1.black, dx1.caps, dx1.dones⟩ : Worker) (RdD.widen (Own.rdD hw1) (by have := E.size; omega) (by omega)) (RdD.widen (Own.rdD hw2) (by have := E.size; omega) (by omega)) (RdD.widen (Own.rdD hw3) (by have := E.size; omega) (by omega)) (RdD.widen (Own.rdD hw4) (by have := E.size; omega) (by omega)) (RdD.widen (Own.rdD hw5) (by have := E.size; omega) (by omega)) (RdD.widen (Own.rdD hw6) (by have := E.size; omega) (by omega)) (RdD.widen (Own.rdD hw7) (by have := E.size; omega) (by omega)) (RdD.widen (Own.rdD hw8) (by have := E.size; omega) (by omega))⟩⟩
    ·have hc4n : ¬ dx2 = 3 := by first | (have h := of_decide_eq_false hc4; omega) | (have h := hc4; simp at h; omega)
     refine S_seq ?_
     refine S_reg [true, true] rfl rfl ?_
     refine J_st (R_eql rfl rfl) rfl (J_st (R_assign rfl) rfl (J_done ?_))
     refine S_cond rfl (fun hc5 => ?_) (fun hc5 => ?_)
     ·have hc5n : dx2 = 4 := by first | (have h := of_decide_eq_true hc5; omega) | (have h := hc5; simp at h; omega)
      refine S_regW mixed [0, 2, 4, 5, 8] [(0, true), (1, true), (2, true), (3, false), (4, true), (5, true), (6, false), (7, false), (8, true)] [(9, false)] (by decide +kernel) rfl rfl (fun w' => ModR w w' lo (lo + 1) ∧ w6.heap.size ≤ w'.heap.size ∧ CurO w' lo vb bs ∧ Blk w' b1 ([og, .int .i64 g.workers, .int .i64 g.cap]) ∧ Blk w' b2 [.slice none 0 0, .slice none 0 0, .slice none 0 0, .slice none 0 0, .slice none 0 0, .slice none 0 0, .slice none 0 0, .slice none 0 0] ∧ Own w' w2.heap.size w3.heap.size 5 o1 (List.flatMap (Enc.enc (α := Record)) dx1.queue) ∧ Own w' w2.heap.size w3.heap.size 5 o2 (List.flatMap (Enc.enc (α := Record)) dx1.staged) ∧ Own w' w2.heap.size w3.heap.size 5 o3 (List.flatMap (Enc.enc (α := Record)) dx1.inputs) ∧ Own w' w2.heap.size w3.heap.size 4 o4 (List.flatMap (Enc.enc (α := Cell)) dx1.cells) ∧ Own w' w2.heap.size w3.heap.size 1 o5 (List.flatMap (Enc.enc (α := Int)) dx1.sums) ∧ Own w' w2.heap.size w3.heap.size 1 o6 (List.flatMap (Enc.enc (α := Bool)) dx1.black) ∧ Own w' w2.heap.size w3.heap.size 1 o7 (List.flatMap (Enc.enc (α := Bool)) dx1.caps) ∧ Blk w' b3 [o1, o2, o3, o4, o5, o6, o7, o8]) (fun w28 e17 => ?_)
      replace E := E.ext e17; replace hcu := hcu.ext e17; replace h1 := h1.ext e17; replace h2 := h2.ext e17; replace hw1 := hw1.ext e17; replace hw2 := hw2.ext e17; replace hw3 := hw3.ext e17; replace hw4 := hw4.ext e17; replace hw5 := hw5.ext e17; replace hw6 := hw6.ext e17; replace hw7 := hw7.ext e17; replace hw8 := hw8.ext e17; replace h3 := h3.ext e17
      have z28 := e17.size
      refine ⟨⟨E, (by omega), hcu, h1, h2, hw1, hw2, hw3, hw4, hw5, hw6, hw7, h3⟩, ?_⟩
      refine JC_pu rfl (fun wX => R_fieldAddr0 fl33_7 rfl) rfl ?_
      refine JC_st rfl (fun wX hX => by obtain ⟨E, zX, hcu, h1, h2, hw1, hw2, hw3, hw4, hw5, hw6, hw7, h3⟩ := hX; exact R_load sc31 rfl (h3.one 7 rfl)) rfl ?_
      refine JC_pu rfl (fun wX => R_move rfl) rfl ?_
      refine JC_un rfl ?_
      refine J_callR Try.call16 rfl rfl (s_l01Below lo vb bs 6 _ hcu (RdD.modR hbs E (.inl (Nat.le_refl _)))) rfl (fun _ w29 e18 hv => ?_)
      obtain ⟨dx7, q8, q9, hcu', hv⟩ := hv
      replace hcu := hcu'
      subst hv
      replace E := E.trans e18 (by omega) (by omega); replace h1 := h1.modR e18 (by omega); replace h2 := h2.modR e18 (by omega); replace hw1 := hw1.modR e18 (by omega); replace hw2 := hw2.modR e18 (by omega); replace hw3 := hw3.modR e18 (by omega); replace hw4 := hw4.modR e18 (by omega); replace hw5 := hw5.modR e18 (by omega); replace hw6 := hw6.modR e18 (by omega); replace hw7 := hw7.modR e18 (by omega); replace hw8 := hw8.modR e18 (by omega); replace h3 := h3.modR e18 (by omega)
      have z29 := e18.size
      refine JC_next ⟨E, (by omega), hcu, h1, h2, hw1, hw2, hw3, hw4, hw5, hw6, hw7, h3⟩ ?_
      refine JC_pu rfl (fun wX => R_sub rfl rfl rfl) rfl ?_
      refine JC_pu rfl (fun wX => R_build (⟨IntKind.i64.wrap (((dx7 : Nat) : Int) - 1), false⟩ : Done) rfl (fun _ => by kernel_rfl)) rfl ?_
      refine JC_un rfl ?_
      refine J_buildSlice (vs := [.agg (Enc.enc (⟨IntKind.i64.wrap (((dx7 : Nat) : Int) - 1), false⟩ : Done)).toArray]) (css := [[.int .i64 ((⟨IntKind.i64.wrap (((dx7 : Nat) : Int) - 1), false⟩ : Done).epoch), .bool ((⟨IntKind.i64.wrap (((dx7 : Nat) : Int) - 1), false⟩ : Done).capped)]]) sl31 rfl rfl ⟨⟨rfl, rfl⟩, trivial⟩ rfl rfl (fun b7 w30 e19 s7 h7 => ?_)
      replace h7 : Blk w30 b7 [.int .i64 ((⟨IntKind.i64.wrap (((dx7 : Nat) : Int) - 1), false⟩ : Done).epoch), .bool ((⟨IntKind.i64.wrap (((dx7 : Nat) : Int) - 1), false⟩ : Done).capped)] := h7
      have g_b7 : w.heap.size ≤ b7 := by have := E.size; omega
      have y_b7 := h7.lt
      replace E := E.ext e19; replace hcu := hcu.ext e19; replace h1 := h1.ext e19; replace h2 := h2.ext e19; replace hw1 := hw1.ext e19; replace hw2 := hw2.ext e19; replace hw3 := hw3.ext e19; replace hw4 := hw4.ext e19; replace hw5 := hw5.ext e19; replace hw6 := hw6.ext e19; replace hw7 := hw7.ext e19; replace hw8 := hw8.ext e19; replace h3 := h3.ext e19
      have z30 := e19.size
      refine JC_next ⟨E, (by omega), hcu, h1, h2, hw1, hw2, hw3, hw4, hw5, hw6, hw7, h3⟩ ?_
      refine JC_un rfl ?_
      refine J_appendB sl31 rfl rfl hw8 (Src.ofBlk h7 rfl) rfl (by unfold cntWorker at q1; simp only [sum_flat, List.length_cons, List.length_nil]; simp only [Enc.sz]; omega) (by decide) (by omega) (by omega) rfl rfl (fun v3 w31 m12 ho4 hb3 => ?_)
      have hn3 : ∀ g, Value.ownBlock v3 = some g → g < w3.heap.size ∨ w30.heap.size ≤ g := fun g hg => (hb3 g hg).elim (fun h => .inl (by have := Own.blk hw8 g h; omega)) (fun h => .inr h)
      have sq3 := sp1
      replace sp1 := SepL.set hb3 7 rfl sp1 ⟨(Own.lt hw1), (Own.lt hw2), (Own.lt hw3), (Own.lt hw4), (Own.lt hw5), (Own.lt hw6), (Own.lt hw7), (Own.lt hw8), trivial⟩
      replace sp1 : SepL [o1, o2, o3, o4, o5, o6, o7, v3] := sp1
      replace E := E.mod m12 (fun g hg => by have := Own.blk hw8 g hg; omega); replace hcu := hcu.mod m12 (fun g hg => by have := Own.blk hw8 g hg; omega); replace h1 := h1.mod m12 (fun g hg => by have := Own.blk hw8 g hg; omega); replace h2 := h2.mod m12 (fun g hg => by have := Own.blk hw8 g hg; omega); replace hw1 := Own.modS hw1 m12 (sq3.1.2.2.2.2.2.2.1).symm; replace hw2 := Own.modS hw2 m12 (sq3.2.1.2.2.2.2.2.1).symm; replace hw3 := Own.modS hw3 m12 (sq3.2.2.1.2.2.2.2.1).symm; replace hw4 := Own.modS hw4 m12 (sq3.2.2.2.1.2.2.2.1).symm; replace hw5 := Own.modS hw5 m12 (sq3.2.2.2.2.1.2.2.1).symm; replace hw6 := Own.modS hw6 m12 (sq3.2.2.2.2.2.1.2.1).symm; replace hw7 := Own.modS hw7 m12 (sq3.2.2.2.2.2.2.1.1).symm; replace h3 := h3.mod m12 (fun g hg => by have := Own.blk hw8 g hg; omega)
      have z31 := m12.size
      replace ho4 : Own w31 w2.heap.size w31.heap.size 2 v3 (List.flatMap (Enc.enc (α := Done)) (dx1.dones ++ [(⟨IntKind.i64.wrap (((dx7 : Nat) : Int) - 1), false⟩ : Done)])) := by rw [List.flatMap_append]; exact ho4
      refine JC_next ⟨E, (by omega), hcu, h1, h2, hw1, hw2, hw3, hw4, hw5, hw6, hw7, h3⟩ ?_
      refine JC_pu rfl (fun wX => R_fieldAddr0 fl33_7 rfl) rfl ?_
      refine JC_end ?_
      refine J_store' (cs' := [o1, o2, o3, o4, o5, o6, o7, v3]) sc31 rfl rfl ho4.one h3 (Nat.le_of_ble_eq_true rfl) rfl (fun w32 m13 h3' => ?_)
      replace h3 := h3'
      replace E := E.mod m13 (fun g hg => by cases hg; omega); replace hcu := hcu.mod m13 (fun g hg => by cases hg; omega); replace h1 := h1.mod m13 (fun g hg => by cases hg; omega); replace h2 := h2.mod m13 (fun g hg => by cases hg; omega); replace hw1 := hw1.mod m13 (fun g hg => by cases hg; omega); replace hw2 := hw2.mod m13 (fun g hg => by cases hg; omega); replace hw3 := hw3.mod m13 (fun g hg => by cases hg; omega); replace hw4 := hw4.mod m13 (fun g hg => by cases hg; omega); replace hw5 := hw5.mod m13 (fun g hg => by cases hg; omega); replace hw6 := hw6.mod m13 (fun g hg => by cases hg; omega); replace hw7 := hw7.mod m13 (fun g hg => by cases hg; omega); replace ho4 := Own.modN ho4 m13 (fun g hg hv => by have hN := hn3 g hv; have hB := Own.blk ho4 g hv; cases hg; omega)
      have z32 := m13.size
      refine J_done ?_
      refine S_nil (E_inB ?_)
      refine S_seq ?_
      refine S_reg [true, false] rfl rfl ?_
      refine J_st (R_loadS st33 rfl h3.at rfl) rfl ?_
      refine J_storeS' (cs' := [o1, o2, o3, o4, o5, o6, o7, v3]) st33 rfl rfl rfl (all_cons hw1.one (all_cons hw2.one (all_cons hw3.one (all_cons hw4.one (all_cons hw5.one (all_cons hw6.one (all_cons hw7.one (all_cons ho4.one rfl)))))))) h2 (Nat.le_of_ble_eq_true rfl) rfl (fun w33 m14 h2' => ?_)
      replace h2 := h2'
      replace E := E.mod m14 (fun g hg => by cases hg; omega); replace hcu := hcu.mod m14 (fun g hg => by cases hg; omega); replace h1 := h1.mod m14 (fun g hg => by cases hg; omega); replace hw1 := hw1.mod m14 (fun g hg => by cases hg; omega); replace hw2 := hw2.mod m14 (fun g hg => by cases hg; omega); replace hw3 := hw3.mod m14 (fun g hg => by cases hg; omega); replace hw4 := hw4.mod m14 (fun g hg => by cases hg; omega); replace hw5 := hw5.mod m14 (fun g hg => by cases hg; omega); replace hw6 := hw6.mod m14 (fun g hg => by cases hg; omega); replace hw7 := hw7.mod m14 (fun g hg => by cases hg; omega); replace h3 := h3.mod m14 (fun g hg => by cases hg; omega); replace ho4 := Own.modN ho4 m14 (fun g hg hv => by have hN := hn3 g hv; have hB := Own.blk ho4 g hv; cases hg; omega)
      have z33 := m14.size
      refine J_done ?_
      refine S_ret (E_doneC rfl rfl (run_loadVar_st st33 h2.at rfl) E ?_)
      exact ⟨(⟨dx1.queue, dx1.staged, dx1.inputs, dx1.cells, dx1.sums, dx1.black, dx1.caps, dx1.dones ++ [(⟨IntKind.i64.wrap (((dx7 : Nat) : Int) - 1), false⟩ : Done)]⟩ : Worker), (by first | omega | (simp only [cntWorker, List.length_append, List.length_cons, List.length_nil, List.length_take, List.length_set] at *; omega)), hcu, ⟨_, rfl, Worker.mkR (⟨dx1.queue, dx1.staged, dx1.inputs, dx1.cells, dx1.sums, dx1.black, dx1.caps, dx1.dones ++ [(⟨IntKind.i64.wrap (((dx7 : Nat) : Int) - 1), false⟩ : Done)]⟩ : Worker) (RdD.widen (Own.rdD hw1) (by have := E.size; omega) (by omega)) (RdD.widen (Own.rdD hw2) (by have := E.size; omega) (by omega)) (RdD.widen (Own.rdD hw3) (by have := E.size; omega) (by omega)) (RdD.widen (Own.rdD hw4) (by have := E.size; omega) (by omega)) (RdD.widen (Own.rdD hw5) (by have := E.size; omega) (by omega)) (RdD.widen (Own.rdD hw6) (by have := E.size; omega) (by omega)) (RdD.widen (Own.rdD hw7) (by have := E.size; omega) (by omega)) (RdD.widen (Own.rdD ho4) (by have := E.size; omega) (by omega))⟩⟩
     ·have hc5n : ¬ dx2 = 4 := by first | (have h := of_decide_eq_false hc5; omega) | (have h := hc5; simp at h; omega)
      refine S_seq ?_
      refine S_reg [true, true] rfl rfl ?_
      refine J_st (R_eql rfl rfl) rfl (J_st (R_assign rfl) rfl (J_done ?_))
      refine S_cond rfl (fun hc6 => ?_) (fun hc6 => ?_)
      ·have hc6n : dx2 = 5 := by first | (have h := of_decide_eq_true hc6; omega) | (have h := hc6; simp at h; omega)
       refine S_reg [true, true, false, true, false, true, false] rfl rfl ?_
       refine J_st (R_build (⟨1, false⟩ : Done) rfl (fun _ => by kernel_rfl)) rfl (J_st (R_move rfl) rfl ?_)
       refine J_callR Try.call16 rfl rfl (s_l01Below lo vb bs 2 _ hcu (RdD.modR hbs E (.inl (Nat.le_refl _)))) rfl (fun _ w34 e20 hv => ?_)
       obtain ⟨dx8, q10, q11, hcu', hv⟩ := hv
       replace hcu := hcu'
       subst hv
       replace E := E.trans e20 (by omega) (by omega); replace h1 := h1.modR e20 (by omega); replace h2 := h2.modR e20 (by omega); replace hw1 := hw1.modR e20 (by omega); replace hw2 := hw2.modR e20 (by omega); replace hw3 := hw3.modR e20 (by omega); replace hw4 := hw4.modR e20 (by omega); replace hw5 := hw5.modR e20 (by omega); replace hw6 := hw6.modR e20 (by omega); replace hw7 := hw7.modR e20 (by omega); replace hw8 := hw8.modR e20 (by omega); replace h3 := h3.modR e20 (by omega)
       have z34 := e20.size
       refine J_st (R_build (⟨((dx8 : Nat) : Int), true⟩ : Done) rfl (fun _ => by kernel_rfl)) rfl ?_
       refine J_buildSlice (vs := [.agg (Enc.enc (⟨1, false⟩ : Done)).toArray, .agg (Enc.enc (⟨((dx8 : Nat) : Int), true⟩ : Done)).toArray]) (css := [[.int .i64 ((⟨1, false⟩ : Done).epoch), .bool ((⟨1, false⟩ : Done).capped)], [.int .i64 ((⟨((dx8 : Nat) : Int), true⟩ : Done).epoch), .bool ((⟨((dx8 : Nat) : Int), true⟩ : Done).capped)]]) sl31 rfl rfl ⟨⟨rfl, rfl⟩, ⟨rfl, rfl⟩, trivial⟩ rfl rfl (fun b8 w35 e21 s8 h8 => ?_)
       replace h8 : Blk w35 b8 [.int .i64 ((⟨1, false⟩ : Done).epoch), .bool ((⟨1, false⟩ : Done).capped), .int .i64 ((⟨((dx8 : Nat) : Int), true⟩ : Done).epoch), .bool ((⟨((dx8 : Nat) : Int), true⟩ : Done).capped)] := h8
       have g_b8 : w.heap.size ≤ b8 := by have := E.size; omega
       have y_b8 := h8.lt
       replace E := E.ext e21; replace hcu := hcu.ext e21; replace h1 := h1.ext e21; replace h2 := h2.ext e21; replace hw1 := hw1.ext e21; replace hw2 := hw2.ext e21; replace hw3 := hw3.ext e21; replace hw4 := hw4.ext e21; replace hw5 := hw5.ext e21; replace hw6 := hw6.ext e21; replace hw7 := hw7.ext e21; replace hw8 := hw8.ext e21; replace h3 := h3.ext e21
       have z35 := e21.size
       refine J_st (R_fieldAddr0 fl33_7 rfl) rfl ?_
       refine J_store' (cs' := [o1, o2, o3, o4, o5, o6, o7, .slice (some ⟨b8, 0, none⟩) 2 2]) sc31 rfl rfl rfl h3 (Nat.le_of_ble_eq_true rfl) rfl (fun w36 m15 h3' => ?_)
       replace h3 := h3'
       replace E := E.mod m15 (fun g hg => by cases hg; omega); replace hcu := hcu.mod m15 (fun g hg => by cases hg; omega); replace h1 := h1.mod m15 (fun g hg => by cases hg; omega); replace h2 := h2.mod m15 (fun g hg => by cases hg; omega); replace hw1 := hw1.mod m15 (fun g hg => by cases hg; omega); replace hw2 := hw2.mod m15 (fun g hg => by cases hg; omega); replace hw3 := hw3.mod m15 (fun g hg => by cases hg; omega); replace hw4 := hw4.mod m15 (fun g hg => by cases hg; omega); replace hw5 := hw5.mod m15 (fun g hg => by cases hg; omega); replace hw6 := hw6.mod m15 (fun g hg => by cases hg; omega); replace hw7 := hw7.mod m15 (fun g hg => by cases hg; omega); replace hw8 := hw8.mod m15 (fun g hg => by cases hg; omega); replace h8 := h8.mod m15 (fun g hg => by cases hg; omega)
       have z36 := m15.size
       refine J_done ?_
       refine S_nil (E_inB ?_)
       refine S_seq ?_
       refine S_reg [true, false] rfl rfl ?_
       refine J_st (R_loadS st33 rfl h3.at rfl) rfl ?_
       refine J_storeS' (cs' := [o1, o2, o3, o4, o5, o6, o7, .slice (some ⟨b8, 0, none⟩) 2 2]) st33 rfl rfl rfl (all_cons hw1.one (all_cons hw2.one (all_cons hw3.one (all_cons hw4.one (all_cons hw5.one (all_cons hw6.one (all_cons hw7.one (all_cons rfl rfl)))))))) h2 (Nat.le_of_ble_eq_true rfl) rfl (fun w37 m16 h2' => ?_)
       replace h2 := h2'
       replace E := E.mod m16 (fun g hg => by cases hg; omega); replace hcu := hcu.mod m16 (fun g hg => by cases hg; omega); replace h1 := h1.mod m16 (fun g hg => by cases hg; omega); replace hw1 := hw1.mod m16 (fun g hg => by cases hg; omega); replace hw2 := hw2.mod m16 (fun g hg => by cases hg; omega); replace hw3 := hw3.mod m16 (fun g hg => by cases hg; omega); replace hw4 := hw4.mod m16 (fun g hg => by cases hg; omega); replace hw5 := hw5.mod m16 (fun g hg => by cases hg; omega); replace hw6 := hw6.mod m16 (fun g hg => by cases hg; omega); replace hw7 := hw7.mod m16 (fun g hg => by cases hg; omega); replace hw8 := hw8.mod m16 (fun g hg => by cases hg; omega); replace h3 := h3.mod m16 (fun g hg => by cases hg; omega); replace h8 := h8.mod m16 (fun g hg => by cases hg; omega)
       have z37 := m16.size
       refine J_done ?_
       refine S_ret (E_doneC rfl rfl (run_loadVar_st st33 h2.at rfl) E ?_)
       exact ⟨(⟨dx1.queue, dx1.staged, dx1.inputs, dx1.cells, dx1.sums, dx1.black, dx1.caps, [(⟨1, false⟩ : Done), (⟨((dx8 : Nat) : Int), true⟩ : Done)]⟩ : Worker), (by first | omega | (simp only [cntWorker, List.length_append, List.length_cons, List.length_nil, List.length_take, List.length_set] at *; omega)), hcu, ⟨_, rfl, Worker.mkR (⟨dx1.queue, dx1.staged, dx1.inputs, dx1.cells, dx1.sums, dx1.black, dx1.caps, [(⟨1, false⟩ : Done), (⟨((dx8 : Nat) : Int), true⟩ : Done)]⟩ : Worker) (RdD.widen (Own.rdD hw1) (by have := E.size; omega) (by omega)) (RdD.widen (Own.rdD hw2) (by have := E.size; omega) (by omega)) (RdD.widen (Own.rdD hw3) (by have := E.size; omega) (by omega)) (RdD.widen (Own.rdD hw4) (by have := E.size; omega) (by omega)) (RdD.widen (Own.rdD hw5) (by have := E.size; omega) (by omega)) (RdD.widen (Own.rdD hw6) (by have := E.size; omega) (by omega)) (RdD.widen (Own.rdD hw7) (by have := E.size; omega) (by omega)) (RdD.widen (Own.rdD (Own.ofBlk (lo := b8) (hi := b8 + 1) (sz := 2) h8 (Nat.le_refl _) (Nat.lt_succ_self _) (by rfl) (by unfold maxLen; omega))) (by have := E.size; omega) (by omega))⟩⟩
      ·have hc6n : ¬ dx2 = 5 := by first | (have h := of_decide_eq_false hc6; omega) | (have h := hc6; simp at h; omega)
       refine S_seq ?_
       refine S_reg [true, true] rfl rfl ?_
       refine J_st (R_eql rfl rfl) rfl (J_st (R_assign rfl) rfl (J_done ?_))
       refine S_cond rfl (fun hc7 => ?_) (fun hc7 => ?_)
       ·have hc7n : dx2 = 6 := by first | (have h := of_decide_eq_true hc7; omega) | (have h := hc7; simp at h; omega)
        refine S_reg [true, true, false, false, true, false] rfl rfl ?_
        refine J_st (R_fieldAddr0 fl33_5 rfl) rfl (J_st (R_load sc30 rfl (h3.one 5 rfl)) rfl ?_)
        refine J_buildSlice (vs := [.bool true]) (css := [[.bool true]]) sl30 rfl rfl ⟨⟨rfl, rfl⟩, trivial⟩ rfl rfl (fun b9 w38 e22 s9 h9 => ?_)
        replace h9 : Blk w38 b9 [.bool true] := h9
        have g_b9 : w.heap.size ≤ b9 := by have := E.size; omega
        have y_b9 := h9.lt
        replace E := E.ext e22; replace hcu := hcu.ext e22; replace h1 := h1.ext e22; replace h2 := h2.ext e22; replace hw1 := hw1.ext e22; replace hw2 := hw2.ext e22; replace hw3 := hw3.ext e22; replace hw4 := hw4.ext e22; replace hw5 := hw5.ext e22; replace hw6 := hw6.ext e22; replace hw7 := hw7.ext e22; replace hw8 := hw8.ext e22; replace h3 := h3.ext e22
        have z38 := e22.size
        refine J_appendB sl30 rfl rfl hw6 (Src.ofBlk h9 rfl) rfl (by unfold cntWorker at q1; simp only [sum_flat, List.length_cons, List.length_nil]; simp only [Enc.sz]; omega) (by decide) (by omega) (by omega) rfl rfl (fun v4 w39 m17 ho5 hb4 => ?_)
        have hn4 : ∀ g, Value.ownBlock v4 = some g → g < w3.heap.size ∨ w38.heap.size ≤ g := fun g hg => (hb4 g hg).elim (fun h => .inl (by have := Own.blk hw6 g h; omega)) (fun h => .inr h)
        have sq4 := sp1
        replace sp1 := SepL.set hb4 5 rfl sp1 ⟨(Own.lt hw1), (Own.lt hw2), (Own.lt hw3), (Own.lt hw4), (Own.lt hw5), (Own.lt hw6), (Own.lt hw7), (Own.lt hw8), trivial⟩
        replace sp1 : SepL [o1, o2, o3, o4, o5, v4, o7, o8] := sp1
        replace E := E.mod m17 (fun g hg => by have := Own.blk hw6 g hg; omega); replace hcu := hcu.mod m17 (fun g hg => by have := Own.blk hw6 g hg; omega); replace h1 := h1.mod m17 (fun g hg => by have := Own.blk hw6 g hg; omega); replace h2 := h2.mod m17 (fun g hg => by have := Own.blk hw6 g hg; omega); replace hw1 := Own.modS hw1 m17 (sq4.1.2.2.2.2.1).symm; replace hw2 := Own.modS hw2 m17 (sq4.2.1.2.2.2.1).symm; replace hw3 := Own.modS hw3 m17 (sq4.2.2.1.2.2.1).symm; replace hw4 := Own.modS hw4 m17 (sq4.2.2.2.1.2.1).symm; replace hw5 := Own.modS hw5 m17 (sq4.2.2.2.2.1.1).symm; replace hw7 := Own.modS hw7 m17 sq4.2.2.2.2.2.1.1; replace hw8 := Own.modS hw8 m17 sq4.2.2.2.2.2.1.2.1; replace h3 := h3.mod m17 (fun g hg => by have := Own.blk hw6 g hg; omega)
        have z39 := m17.size
        replace ho5 : Own w39 w2.heap.size w39.heap.size 1 v4 (List.flatMap (Enc.enc (α := Bool)) (dx1.black ++ [true])) := by rw [List.flatMap_append]; exact ho5
        refine J_st (R_fieldAddr0 fl33_5 rfl) rfl ?_
        refine J_store' (cs' := [o1, o2, o3, o4, o5, v4, o7, o8]) sc30 rfl rfl ho5.one h3 (Nat.le_of_ble_eq_true rfl) rfl (fun w40 m18 h3' => ?_)
        replace h3 := h3'
        replace E := E.mod m18 (fun g hg => by cases hg; omega); replace hcu := hcu.mod m18 (fun g hg => by cases hg; omega); replace h1 := h1.mod m18 (fun g hg => by cases hg; omega); replace h2 := h2.mod m18 (fun g hg => by cases hg; omega); replace hw1 := hw1.mod m18 (fun g hg => by cases hg; omega); replace hw2 := hw2.mod m18 (fun g hg => by cases hg; omega); replace hw3 := hw3.mod m18 (fun g hg => by cases hg; omega); replace hw4 := hw4.mod m18 (fun g hg => by cases hg; omega); replace hw5 := hw5.mod m18 (fun g hg => by cases hg; omega); replace hw7 := hw7.mod m18 (fun g hg => by cases hg; omega); replace hw8 := hw8.mod m18 (fun g hg => by cases hg; omega); replace ho5 := Own.modN ho5 m18 (fun g hg hv => by have hN := hn4 g hv; have hB := Own.blk ho5 g hv; cases hg; omega)
        have z40 := m18.size
        refine J_done ?_
        refine S_nil (E_inB ?_)
        refine S_seq ?_
        refine S_reg [true, false] rfl rfl ?_
        refine J_st (R_loadS st33 rfl h3.at rfl) rfl ?_
        refine J_storeS' (cs' := [o1, o2, o3, o4, o5, v4, o7, o8]) st33 rfl rfl rfl (all_cons hw1.one (all_cons hw2.one (all_cons hw3.one (all_cons hw4.one (all_cons hw5.one (all_cons ho5.one (all_cons hw7.one (all_cons hw8.one rfl)))))))) h2 (Nat.le_of_ble_eq_true rfl) rfl (fun w41 m19 h2' => ?_)
        replace h2 := h2'
        replace E := E.mod m19 (fun g hg => by cases hg; omega); replace hcu := hcu.mod m19 (fun g hg => by cases hg; omega); replace h1 := h1.mod m19 (fun g hg => by cases hg; omega); replace hw1 := hw1.mod m19 (fun g hg => by cases hg; omega); replace hw2 := hw2.mod m19 (fun g hg => by cases hg; omega); replace hw3 := hw3.mod m19 (fun g hg => by cases hg; omega); replace hw4 := hw4.mod m19 (fun g hg => by cases hg; omega); replace hw5 := hw5.mod m19 (fun g hg => by cases hg; omega); replace hw7 := hw7.mod m19 (fun g hg => by cases hg; omega); replace hw8 := hw8.mod m19 (fun g hg => by cases hg; omega); replace h3 := h3.mod m19 (fun g hg => by cases hg; omega); replace ho5 := Own.modN ho5 m19 (fun g hg hv => by have hN := hn4 g hv; have hB := Own.blk ho5 g hv; cases hg; omega)
        have z41 := m19.size
        refine J_done ?_
        refine S_ret (E_doneC rfl rfl (run_loadVar_st st33 h2.at rfl) E ?_)
        exact ⟨(⟨dx1.queue, dx1.staged, dx1.inputs, dx1.cells, dx1.sums, dx1.black ++ [true], dx1.caps, dx1.dones⟩ : Worker), (by first | omega | (simp only [cntWorker, List.length_append, List.length_cons, List.length_nil, List.length_take, List.length_set] at *; omega)), hcu, ⟨_, rfl, Worker.mkR (⟨dx1.queue, dx1.staged, dx1.inputs, dx1.cells, dx1.sums, dx1.black ++ [true], dx1.caps, dx1.dones⟩ : Worker) (RdD.widen (Own.rdD hw1) (by have := E.size; omega) (by omega)) (RdD.widen (Own.rdD hw2) (by have := E.size; omega) (by omega)) (RdD.widen (Own.rdD hw3) (by have := E.size; omega) (by omega)) (RdD.widen (Own.rdD hw4) (by have := E.size; omega) (by omega)) (RdD.widen (Own.rdD hw5) (by have := E.size; omega) (by omega)) (RdD.widen (Own.rdD ho5) (by have := E.size; omega) (by omega)) (RdD.widen (Own.rdD hw7) (by have := E.size; omega) (by omega)) (RdD.widen (Own.rdD hw8) (by have := E.size; omega) (by omega))⟩⟩
       ·have hc7n : ¬ dx2 = 6 := by first | (have h := of_decide_eq_false hc7; omega) | (have h := hc7; simp at h; omega)
        refine S_seq ?_
        refine S_reg [true, true] rfl rfl ?_
        refine J_st (R_eql rfl rfl) rfl (J_st (R_assign rfl) rfl (J_done ?_))
        refine S_cond rfl (fun hc8 => ?_) (fun hc8 => ?_)
        ·have hc8n : dx2 = 7 := by first | (have h := of_decide_eq_true hc8; omega) | (have h := hc8; simp at h; omega)
         refine S_reg [true, true, true, false, false, true, false] rfl rfl ?_
         refine J_st (R_fieldAddr0 fl33_3 rfl) rfl (J_st (R_load sc28 rfl (h3.one 3 rfl)) rfl (J_st (R_build (⟨0, 0, 0, 0⟩ : Cell) rfl (fun _ => by kernel_rfl)) rfl ?_))
         refine J_buildSlice (vs := [.agg (Enc.enc (⟨0, 0, 0, 0⟩ : Cell)).toArray]) (css := [[.int .i64 ((⟨0, 0, 0, 0⟩ : Cell).op), .int .i64 ((⟨0, 0, 0, 0⟩ : Cell).epoch), .int .i64 ((⟨0, 0, 0, 0⟩ : Cell).key), .int .i64 ((⟨0, 0, 0, 0⟩ : Cell).val)]]) sl28 rfl rfl ⟨⟨rfl, rfl⟩, trivial⟩ rfl rfl (fun b10 w42 e23 s10 h10 => ?_)
         replace h10 : Blk w42 b10 [.int .i64 ((⟨0, 0, 0, 0⟩ : Cell).op), .int .i64 ((⟨0, 0, 0, 0⟩ : Cell).epoch), .int .i64 ((⟨0, 0, 0, 0⟩ : Cell).key), .int .i64 ((⟨0, 0, 0, 0⟩ : Cell).val)] := h10
         have g_b10 : w.heap.size ≤ b10 := by have := E.size; omega
         have y_b10 := h10.lt
         replace E := E.ext e23; replace hcu := hcu.ext e23; replace h1 := h1.ext e23; replace h2 := h2.ext e23; replace hw1 := hw1.ext e23; replace hw2 := hw2.ext e23; replace hw3 := hw3.ext e23; replace hw4 := hw4.ext e23; replace hw5 := hw5.ext e23; replace hw6 := hw6.ext e23; replace hw7 := hw7.ext e23; replace hw8 := hw8.ext e23; replace h3 := h3.ext e23
         have z42 := e23.size
         refine J_appendB sl28 rfl rfl hw4 (Src.ofBlk h10 rfl) rfl (by unfold cntWorker at q1; simp only [sum_flat, List.length_cons, List.length_nil]; simp only [Enc.sz]; omega) (by decide) (by omega) (by omega) rfl rfl (fun v5 w43 m20 ho6 hb5 => ?_)
         have hn5 : ∀ g, Value.ownBlock v5 = some g → g < w3.heap.size ∨ w42.heap.size ≤ g := fun g hg => (hb5 g hg).elim (fun h => .inl (by have := Own.blk hw4 g h; omega)) (fun h => .inr h)
         have sq5 := sp1
         replace sp1 := SepL.set hb5 3 rfl sp1 ⟨(Own.lt hw1), (Own.lt hw2), (Own.lt hw3), (Own.lt hw4), (Own.lt hw5), (Own.lt hw6), (Own.lt hw7), (Own.lt hw8), trivial⟩
         replace sp1 : SepL [o1, o2, o3, v5, o5, o6, o7, o8] := sp1
         replace E := E.mod m20 (fun g hg => by have := Own.blk hw4 g hg; omega); replace hcu := hcu.mod m20 (fun g hg => by have := Own.blk hw4 g hg; omega); replace h1 := h1.mod m20 (fun g hg => by have := Own.blk hw4 g hg; omega); replace h2 := h2.mod m20 (fun g hg => by have := Own.blk hw4 g hg; omega); replace hw1 := Own.modS hw1 m20 (sq5.1.2.2.1).symm; replace hw2 := Own.modS hw2 m20 (sq5.2.1.2.1).symm; replace hw3 := Own.modS hw3 m20 (sq5.2.2.1.1).symm; replace hw5 := Own.modS hw5 m20 sq5.2.2.2.1.1; replace hw6 := Own.modS hw6 m20 sq5.2.2.2.1.2.1; replace hw7 := Own.modS hw7 m20 sq5.2.2.2.1.2.2.1; replace hw8 := Own.modS hw8 m20 sq5.2.2.2.1.2.2.2.1; replace h3 := h3.mod m20 (fun g hg => by have := Own.blk hw4 g hg; omega)
         have z43 := m20.size
         replace ho6 : Own w43 w2.heap.size w43.heap.size 4 v5 (List.flatMap (Enc.enc (α := Cell)) (dx1.cells ++ [(⟨0, 0, 0, 0⟩ : Cell)])) := by rw [List.flatMap_append]; exact ho6
         refine J_st (R_fieldAddr0 fl33_3 rfl) rfl ?_
         refine J_store' (cs' := [o1, o2, o3, v5, o5, o6, o7, o8]) sc28 rfl rfl ho6.one h3 (Nat.le_of_ble_eq_true rfl) rfl (fun w44 m21 h3' => ?_)
         replace h3 := h3'
         replace E := E.mod m21 (fun g hg => by cases hg; omega); replace hcu := hcu.mod m21 (fun g hg => by cases hg; omega); replace h1 := h1.mod m21 (fun g hg => by cases hg; omega); replace h2 := h2.mod m21 (fun g hg => by cases hg; omega); replace hw1 := hw1.mod m21 (fun g hg => by cases hg; omega); replace hw2 := hw2.mod m21 (fun g hg => by cases hg; omega); replace hw3 := hw3.mod m21 (fun g hg => by cases hg; omega); replace hw5 := hw5.mod m21 (fun g hg => by cases hg; omega); replace hw6 := hw6.mod m21 (fun g hg => by cases hg; omega); replace hw7 := hw7.mod m21 (fun g hg => by cases hg; omega); replace hw8 := hw8.mod m21 (fun g hg => by cases hg; omega); replace ho6 := Own.modN ho6 m21 (fun g hg hv => by have hN := hn5 g hv; have hB := Own.blk ho6 g hv; cases hg; omega)
         have z44 := m21.size
         refine J_done ?_
         refine S_nil (E_inB ?_)
         refine S_seq ?_
         refine S_reg [true, false] rfl rfl ?_
         refine J_st (R_loadS st33 rfl h3.at rfl) rfl ?_
         refine J_storeS' (cs' := [o1, o2, o3, v5, o5, o6, o7, o8]) st33 rfl rfl rfl (all_cons hw1.one (all_cons hw2.one (all_cons hw3.one (all_cons ho6.one (all_cons hw5.one (all_cons hw6.one (all_cons hw7.one (all_cons hw8.one rfl)))))))) h2 (Nat.le_of_ble_eq_true rfl) rfl (fun w45 m22 h2' => ?_)
         replace h2 := h2'
         replace E := E.mod m22 (fun g hg => by cases hg; omega); replace hcu := hcu.mod m22 (fun g hg => by cases hg; omega); replace h1 := h1.mod m22 (fun g hg => by cases hg; omega); replace hw1 := hw1.mod m22 (fun g hg => by cases hg; omega); replace hw2 := hw2.mod m22 (fun g hg => by cases hg; omega); replace hw3 := hw3.mod m22 (fun g hg => by cases hg; omega); replace hw5 := hw5.mod m22 (fun g hg => by cases hg; omega); replace hw6 := hw6.mod m22 (fun g hg => by cases hg; omega); replace hw7 := hw7.mod m22 (fun g hg => by cases hg; omega); replace hw8 := hw8.mod m22 (fun g hg => by cases hg; omega); replace h3 := h3.mod m22 (fun g hg => by cases hg; omega); replace ho6 := Own.modN ho6 m22 (fun g hg hv => by have hN := hn5 g hv; have hB := Own.blk ho6 g hv; cases hg; omega)
         have z45 := m22.size
         refine J_done ?_
         refine S_ret (E_doneC rfl rfl (run_loadVar_st st33 h2.at rfl) E ?_)
         exact ⟨(⟨dx1.queue, dx1.staged, dx1.inputs, dx1.cells ++ [(⟨0, 0, 0, 0⟩ : Cell)], dx1.sums, dx1.black, dx1.caps, dx1.dones⟩ : Worker), (by first | omega | (simp only [cntWorker, List.length_append, List.length_cons, List.length_nil, List.length_take, List.length_set] at *; omega)), hcu, ⟨_, rfl, Worker.mkR (⟨dx1.queue, dx1.staged, dx1.inputs, dx1.cells ++ [(⟨0, 0, 0, 0⟩ : Cell)], dx1.sums, dx1.black, dx1.caps, dx1.dones⟩ : Worker) (RdD.widen (Own.rdD hw1) (by have := E.size; omega) (by omega)) (RdD.widen (Own.rdD hw2) (by have := E.size; omega) (by omega)) (RdD.widen (Own.rdD hw3) (by have := E.size; omega) (by omega)) (RdD.widen (Own.rdD ho6) (by have := E.size; omega) (by omega)) (RdD.widen (Own.rdD hw5) (by have := E.size; omega) (by omega)) (RdD.widen (Own.rdD hw6) (by have := E.size; omega) (by omega)) (RdD.widen (Own.rdD hw7) (by have := E.size; omega) (by omega)) (RdD.widen (Own.rdD hw8) (by have := E.size; omega) (by omega))⟩⟩
        ·have hc8n : ¬ dx2 = 7 := by first | (have h := of_decide_eq_false hc8; omega) | (have h := hc8; simp at h; omega)
         refine S_skip ?_
         refine S_nil (E_inB ?_)
         refine S_seq ?_
         refine S_reg [true, false] rfl rfl ?_
         refine J_st (R_loadS st33 rfl h3.at rfl) rfl ?_
         refine J_storeS' (cs' := [o1, o2, o3, o4, o5, o6, o7, o8]) st33 rfl rfl rfl (all_cons hw1.one (all_cons hw2.one (all_cons hw3.one (all_cons hw4.one (all_cons hw5.one (all_cons hw6.one (all_cons hw7.one (all_cons hw8.one rfl)))))))) h2 (Nat.le_of_ble_eq_true rfl) rfl (fun w46 m23 h2' => ?_)
         replace h2 := h2'
         replace E := E.mod m23 (fun g hg => by cases hg; omega); replace hcu := hcu.mod m23 (fun g hg => by cases hg; omega); replace h1 := h1.mod m23 (fun g hg => by cases hg; omega); replace hw1 := hw1.mod m23 (fun g hg => by cases hg; omega); replace hw2 := hw2.mod m23 (fun g hg => by cases hg; omega); replace hw3 := hw3.mod m23 (fun g hg => by cases hg; omega); replace hw4 := hw4.mod m23 (fun g hg => by cases hg; omega); replace hw5 := hw5.mod m23 (fun g hg => by cases hg; omega); replace hw6 := hw6.mod m23 (fun g hg => by cases hg; omega); replace hw7 := hw7.mod m23 (fun g hg => by cases hg; omega); replace hw8 := hw8.mod m23 (fun g hg => by cases hg; omega); replace h3 := h3.mod m23 (fun g hg => by cases hg; omega)
         have z46 := m23.size
         refine J_done ?_
         refine S_ret (E_doneC rfl rfl (run_loadVar_st st33 h2.at rfl) E ?_)
         exact ⟨dx1, (by first | omega | (simp only [cntWorker, List.length_append, List.length_cons, List.length_nil, List.length_take, List.length_set] at *; omega)), hcu, ⟨_, rfl, Worker.mkR dx1 (RdD.widen (Own.rdD hw1) (by have := E.size; omega) (by omega)) (RdD.widen (Own.rdD hw2) (by have := E.size; omega) (by omega)) (RdD.widen (Own.rdD hw3) (by have := E.size; omega) (by omega)) (RdD.widen (Own.rdD hw4) (by have := E.size; omega) (by omega)) (RdD.widen (Own.rdD hw5) (by have := E.size; omega) (by omega)) (RdD.widen (Own.rdD hw6) (by have := E.size; omega) (by omega)) (RdD.widen (Own.rdD hw7) (by have := E.size; omega) (by omega)) (RdD.widen (Own.rdD hw8) (by have := E.size; omega) (by omega))⟩⟩

set_option maxRecDepth 20000 in
theorem s_l12Case (vcode : Value) (code : List Byt) (w : World) (hcode : RdS w vcode code) : Ct Try.prog 11 [vcode] w (fun v w' => ∃ (dr0 : Graph) (dr1 : Worker), smG dr0 ∧ cntWorker dr1 ≤ 200 ∧ ∃ c0 c1, v = .tuple [.agg c0.toArray, .agg c1.toArray].toArray ∧ Dat.R w' w.heap.size w'.heap.size c0 dr0 ∧ Dat.R w' w.heap.size w'.heap.size c1 dr1) := by
 refine ct_of Try.func11 rfl Try.ntmps11 rfl ?_
 refine S_sub [(0, vcode)] ⟨rfl, trivial⟩ ?_
 have E : Ext w w := Ext.refl w
 refine S_seq ?_
 refine S_reg [false, false] rfl rfl ?_
 refine J_alloc st26 rfl (fun b1 w1 e1 s1 h1 => ?_)
 have g_b1 : w.heap.size ≤ b1 := by have := E.size; omega
 have y_b1 := h1.lt
 replace E := E.trans e1
 have z1 := e1.size
 refine J_alloc st33 rfl (fun b2 w2 e2 s2 h2 => ?_)
 have g_b2 : w.heap.size ≤ b2 := by have := E.size; omega
 have y_b2 := h2.lt
 replace E := E.trans e2; replace h1 := h1.ext e2
 have z2 := e2.size
 refine J_done ?_
 refine S_seq ?_
 refine S_reg [true, false, true] rfl rfl ?_
 refine J_st (R_move rfl) rfl ?_
 refine J_call Try.call15 rfl (s_l01New vcode code _ (hcode.ext E)) rfl (fun _ w3 e3 hcu1 => ?_)
 obtain ⟨bc1, rfl, ybc1, hcu1⟩ := hcu1
 have g_bc1 : w.heap.size ≤ bc1 := Nat.le_trans E.size ybc1
 have y_bc1 := CurO.lt hcu1
 replace E := E.trans e3; replace h1 := h1.ext e3; replace h2 := h2.ext e3
 have z3 := e3.size
 refine J_st (R_assign rfl) rfl (J_done ?_)
 refine S_seq ?_
 refine S_reg [true, false, false, false] rfl rfl ?_
 refine J_st (R_move rfl) rfl ?_
 refine J_callR Try.call23 rfl rfl (s_l08Graph bc1 vcode code _ hcu1 (RdD.widen (RdD.ext (RdS.rdD hcode) E) (Nat.le_refl _) (by omega))) rfl (fun _ w4 e4 ho1 => ?_)
 obtain ⟨dx1, q1, q2, q3, hcu1', ho1⟩ := ho1
 replace hcu1 := hcu1'
 obtain ⟨o1, rfl, ho1⟩ := ho1
 have g_ho1 : w.heap.size ≤ w3.heap.size := E.size
 replace E := E.stepR e4 (by omega); replace h1 := h1.modR e4 (by omega); replace h2 := h2.modR e4 (by omega)
 have z4 := e4.size
 refine J_alloc st26 rfl (fun b3 w5 e5 s3 h3 => ?_)
 have g_b3 : w.heap.size ≤ b3 := by have := E.size; omega
 have y_b3 := h3.lt
 replace E := E.trans e5; replace h1 := h1.ext e5; replace h2 := h2.ext e5; replace hcu1 := hcu1.ext e5; replace ho1 := ho1.ext e5
 have z5 := e5.size
 refine J_storeS' (cs' := [o1, .int .i64 dx1.workers, .int .i64 dx1.cap]) st26 rfl rfl rfl (all_cons (RdD.one (OwS.rd ho1)) (all_cons rfl (all_cons rfl rfl))) h3 (Nat.le_of_ble_eq_true rfl) rfl (fun w6 m1 h3' => ?_)
 replace h3 := h3'
 replace E := E.step m1 (fun g hg => by cases hg; omega); replace h1 := h1.mod m1 (fun g hg => by cases hg; omega); replace h2 := h2.mod m1 (fun g hg => by cases hg; omega); replace hcu1 := hcu1.mod m1 (fun g hg => by cases hg; omega); replace ho1 := ho1.mod m1 (fun g hg => by cases hg; omega)
 have z6 := m1.size
 refine J_done ?_
 refine S_seq ?_
 refine S_regW mixed [1] [(0, true), (1, true), (2, true), (3, false)] [(4, false), (5, false)] (by decide +kernel) rfl rfl (fun w' => Ext w w' ∧ w6.heap.size ≤ w'.heap.size ∧ Blk w' b1 [.slice none 0 0, .int .i64 0, .int .i64 0] ∧ Blk w' b2 [.slice none 0 0, .slice none 0 0, .slice none 0 0, .slice none 0 0, .slice none 0 0, .slice none 0 0, .slice none 0 0, .slice none 0 0] ∧ CurO w' bc1 vcode code ∧ OwS w' w3.heap.size w4.heap.size o1 dx1.nodes ∧ Blk w' b3 [o1, .int .i64 dx1.workers, .int .i64 dx1.cap]) (fun w7 e6 => ?_)
 replace E := E.trans e6; replace h1 := h1.ext e6; replace h2 := h2.ext e6; replace hcu1 := hcu1.ext e6; replace ho1 := ho1.ext e6; replace h3 := h3.ext e6
 have z7 := e6.size
 refine ⟨⟨E, (by omega), h1, h2, hcu1, ho1, h3⟩, ?_⟩
 refine JC_st rfl (fun wX hX => by obtain ⟨E, zX, h1, h2, hcu1, ho1, h3⟩ := hX; exact R_loadS st26 rfl h3.at rfl) rfl ?_
 refine JC_pu rfl (fun wX => R_move rfl) rfl ?_
 refine JC_st rfl (fun wX hX => by obtain ⟨E, zX, h1, h2, hcu1, ho1, h3⟩ := hX; exact R_loadS st26 rfl h3.at rfl) rfl ?_
 refine JC_un rfl ?_
 refine J_callR Try.call24 rfl rfl (s_l12Any bc1 vcode code o1 dx1 _ hcu1 (RdD.widen (RdD.ext (RdS.rdD hcode) E) (Nat.le_refl _) (by omega)) (fun wX eX => RdD.any (OwS.rd (OwS.modR ho1 eX (by omega)))) (smG_cnt (by assumption))) rfl (fun v1 w8 e7 ho2 => ?_)
 obtain ⟨dx2, q4, hcu1', ho2⟩ := ho2
 replace hcu1 := hcu1'
 obtain ⟨_, rfl, ho2⟩ := ho2
 obtain ⟨o2, o3, o4, o5, o6, o7, o8, o9, rfl, hd1, hd2, hd3, hd4, hd5, hd6, hd7, hd8⟩ := Worker.op ho2
 replace E := E.stepR e7 (by omega); replace h1 := h1.modR e7 (by omega); replace h2 := h2.modR e7 (by omega); replace ho1 := ho1.modR e7 (by omega); replace h3 := h3.modR e7 (by omega)
 have z8 := e7.size
 refine JC_next ⟨E, (by omega), h1, h2, hcu1, ho1, h3⟩ ?_
 refine JC_end ?_
 refine J_storeS' (cs' := [o1, .int .i64 dx1.workers, .int .i64 dx1.cap]) st26 rfl rfl rfl (all_cons (RdD.one (OwS.rd ho1)) (all_cons rfl (all_cons rfl rfl))) h1 (Nat.le_of_ble_eq_true rfl) rfl (fun w9 m2 h1' => ?_)
 replace h1 := h1'
 replace E := E.step m2 (fun g hg => by cases hg; omega); replace h2 := h2.mod m2 (fun g hg => by cases hg; omega); replace hcu1 := hcu1.mod m2 (fun g hg => by cases hg; omega); replace ho1 := ho1.mod m2 (fun g hg => by cases hg; omega); replace h3 := h3.mod m2 (fun g hg => by cases hg; omega); replace hd1 := hd1.mod m2 (fun g hg => by cases hg; omega); replace hd2 := hd2.mod m2 (fun g hg => by cases hg; omega); replace hd3 := hd3.mod m2 (fun g hg => by cases hg; omega); replace hd4 := hd4.mod m2 (fun g hg => by cases hg; omega); replace hd5 := hd5.mod m2 (fun g hg => by cases hg; omega); replace hd6 := hd6.mod m2 (fun g hg => by cases hg; omega); replace hd7 := hd7.mod m2 (fun g hg => by cases hg; omega); replace hd8 := hd8.mod m2 (fun g hg => by cases hg; omega)
 have z9 := m2.size
 refine J_storeS' (cs' := [o2, o3, o4, o5, o6, o7, o8, o9]) st33 rfl rfl rfl (all_cons (RdD.one hd1) (all_cons (RdD.one hd2) (all_cons (RdD.one hd3) (all_cons (RdD.one hd4) (all_cons (RdD.one hd5) (all_cons (RdD.one hd6) (all_cons (RdD.one hd7) (all_cons (RdD.one hd8) rfl)))))))) h2 (Nat.le_of_ble_eq_true rfl) rfl (fun w10 m3 h2' => ?_)
 replace h2 := h2'
 replace E := E.step m3 (fun g hg => by cases hg; omega); replace h1 := h1.mod m3 (fun g hg => by cases hg; omega); replace hcu1 := hcu1.mod m3 (fun g hg => by cases hg; omega); replace ho1 := ho1.mod m3 (fun g hg => by cases hg; omega); replace h3 := h3.mod m3 (fun g hg => by cases hg; omega); replace hd1 := hd1.mod m3 (fun g hg => by cases hg; omega); replace hd2 := hd2.mod m3 (fun g hg => by cases hg; omega); replace hd3 := hd3.mod m3 (fun g hg => by cases hg; omega); replace hd4 := hd4.mod m3 (fun g hg => by cases hg; omega); replace hd5 := hd5.mod m3 (fun g hg => by cases hg; omega); replace hd6 := hd6.mod m3 (fun g hg => by cases hg; omega); replace hd7 := hd7.mod m3 (fun g hg => by cases hg; omega); replace hd8 := hd8.mod m3 (fun g hg => by cases hg; omega)
 have z10 := m3.size
 refine J_done ?_
 refine S_ret (E_doneN (l := [.cell 2 26, .cell 3 33]) (vs := [.agg [o1, .int .i64 dx1.workers, .int .i64 dx1.cap].toArray, .agg [o2, o3, o4, o5, o6, o7, o8, o9].toArray]) rfl ⟨.cell rfl (run_loadVar_st st26 h1.at rfl), .cell rfl (run_loadVar_st st33 h2.at rfl), trivial⟩ rfl E ?_)
 exact ⟨dx1, dx2, (by assumption), (by assumption), ⟨_, _, rfl, (Graph.mkR _ (RdD.widen (OwS.rd ho1) (by have := E.size; omega) (by omega))), (Worker.mkR _ (RdD.widen hd1 (by have := E.size; omega) (by omega)) (RdD.widen hd2 (by have := E.size; omega) (by omega)) (RdD.widen hd3 (by have := E.size; omega) (by omega)) (RdD.widen hd4 (by have := E.size; omega) (by omega)) (RdD.widen hd5 (by have := E.size; omega) (by omega)) (RdD.widen hd6 (by have := E.size; omega) (by omega)) (RdD.widen hd7 (by have := E.size; omega) (by omega)) (RdD.widen hd8 (by have := E.size; omega) (by omega)))⟩⟩

set_option maxRecDepth 20000 in
theorem s_DrawTakeInput (vcode : Value) (code : List Byt) (w : World) (hcode : RdS w vcode code) : Ct Try.prog 5 [vcode] w (fun v w' => ∃ (dr0 : Graph) (dr1 : Worker), smG dr0 ∧ cntWorker dr1 ≤ 200 ∧ ∃ c0 c1, v = .tuple [.agg c0.toArray, .agg c1.toArray].toArray ∧ Dat.R w' w.heap.size w'.heap.size c0 dr0 ∧ Dat.R w' w.heap.size w'.heap.size c1 dr1) := by
 refine ct_of Try.func5 rfl Try.ntmps5 rfl ?_
 refine S_sub [(0, vcode)] ⟨rfl, trivial⟩ ?_
 have E : Ext w w := Ext.refl w
 refine S_seq ?_
 refine S_reg [false, false] rfl rfl ?_
 refine J_alloc st26 rfl (fun b1 w1 e1 s1 h1 => ?_)
 have g_b1 : w.heap.size ≤ b1 := by have := E.size; omega
 have y_b1 := h1.lt
 replace E := E.trans e1
 have z1 := e1.size
 refine J_alloc st33 rfl (fun b2 w2 e2 s2 h2 => ?_)
 have g_b2 : w.heap.size ≤ b2 := by have := E.size; omega
 have y_b2 := h2.lt
 replace E := E.trans e2; replace h1 := h1.ext e2
 have z2 := e2.size
 refine J_done ?_
 refine S_seq ?_
 refine S_reg [true, false, true, true, false, false] rfl rfl ?_
 refine J_st (R_move rfl) rfl ?_
 refine J_call Try.call11 rfl (s_l12Case vcode code _ (hcode.ext E)) rfl (fun _ w3 e3 ho1 => ?_)
 obtain ⟨dx1, dx2, q1, q2, ho1⟩ := ho1
 obtain ⟨_, _, rfl, ho2, ho3⟩ := ho1
 have g_ho1 : w.heap.size ≤ w2.heap.size := E.size
 replace E := E.trans e3; replace h1 := h1.ext e3; replace h2 := h2.ext e3
 have z3 := e3.size
 obtain ⟨o1, rfl, hd1⟩ := Graph.op ho2
 obtain ⟨o2, o3, o4, o5, o6, o7, o8, o9, rfl, hd2, hd3, hd4, hd5, hd6, hd7, hd8, hd9⟩ := Worker.op ho3
 refine J_st (R_extract rfl rfl) rfl (J_st (R_extract rfl rfl) rfl ?_)
 refine J_storeS' (cs' := [o1, .int .i64 dx1.workers, .int .i64 dx1.cap]) st26 rfl rfl rfl (all_cons (RdD.one hd1) (all_cons rfl (all_cons rfl rfl))) h1 (Nat.le_of_ble_eq_true rfl) rfl (fun w4 m1 h1' => ?_)
 replace h1 := h1'
 replace E := E.step m1 (fun g hg => by cases hg; omega); replace h2 := h2.mod m1 (fun g hg => by cases hg; omega); replace hd1 := hd1.mod m1 (fun g hg => by cases hg; omega); replace hd2 := hd2.mod m1 (fun g hg => by cases hg; omega); replace hd3 := hd3.mod m1 (fun g hg => by cases hg; omega); replace hd4 := hd4.mod m1 (fun g hg => by cases hg; omega); replace hd5 := hd5.mod m1 (fun g hg => by cases hg; omega); replace hd6 := hd6.mod m1 (fun g hg => by cases hg; omega); replace hd7 := hd7.mod m1 (fun g hg => by cases hg; omega); replace hd8 := hd8.mod m1 (fun g hg => by cases hg; omega); replace hd9 := hd9.mod m1 (fun g hg => by cases hg; omega)
 have z4 := m1.size
 refine J_storeS' (cs' := [o2, o3, o4, o5, o6, o7, o8, o9]) st33 rfl rfl rfl (all_cons (RdD.one hd2) (all_cons (RdD.one hd3) (all_cons (RdD.one hd4) (all_cons (RdD.one hd5) (all_cons (RdD.one hd6) (all_cons (RdD.one hd7) (all_cons (RdD.one hd8) (all_cons (RdD.one hd9) rfl)))))))) h2 (Nat.le_of_ble_eq_true rfl) rfl (fun w5 m2 h2' => ?_)
 replace h2 := h2'
 replace E := E.step m2 (fun g hg => by cases hg; omega); replace h1 := h1.mod m2 (fun g hg => by cases hg; omega); replace hd1 := hd1.mod m2 (fun g hg => by cases hg; omega); replace hd2 := hd2.mod m2 (fun g hg => by cases hg; omega); replace hd3 := hd3.mod m2 (fun g hg => by cases hg; omega); replace hd4 := hd4.mod m2 (fun g hg => by cases hg; omega); replace hd5 := hd5.mod m2 (fun g hg => by cases hg; omega); replace hd6 := hd6.mod m2 (fun g hg => by cases hg; omega); replace hd7 := hd7.mod m2 (fun g hg => by cases hg; omega); replace hd8 := hd8.mod m2 (fun g hg => by cases hg; omega); replace hd9 := hd9.mod m2 (fun g hg => by cases hg; omega)
 have z5 := m2.size
 refine J_done ?_
 refine S_ret (E_doneN (l := [.cell 2 26, .cell 3 33]) (vs := [.agg [o1, .int .i64 dx1.workers, .int .i64 dx1.cap].toArray, .agg [o2, o3, o4, o5, o6, o7, o8, o9].toArray]) rfl ⟨.cell rfl (run_loadVar_st st26 h1.at rfl), .cell rfl (run_loadVar_st st33 h2.at rfl), trivial⟩ rfl E ?_)
 exact ⟨dx1, dx2, (by assumption), (by assumption), ⟨_, _, rfl, (Graph.mkR _ (RdD.widen hd1 (by have := E.size; omega) (by omega))), (Worker.mkR _ (RdD.widen hd2 (by have := E.size; omega) (by omega)) (RdD.widen hd3 (by have := E.size; omega) (by omega)) (RdD.widen hd4 (by have := E.size; omega) (by omega)) (RdD.widen hd5 (by have := E.size; omega) (by omega)) (RdD.widen hd6 (by have := E.size; omega) (by omega)) (RdD.widen hd7 (by have := E.size; omega) (by omega)) (RdD.widen hd8 (by have := E.size; omega) (by omega)) (RdD.widen hd9 (by have := E.size; omega) (by omega)))⟩⟩

set_option maxRecDepth 20000 in
theorem s_DrawPlaces (vcode : Value) (code : List Byt) (w : World) (hcode : RdS w vcode code) : Ct Try.prog 7 [vcode] w (fun v w' => ∃ (dr0 : List Int), dr0.length = 12 ∧ (∀ y ∈ dr0, 0 ≤ y ∧ y < 10000) ∧ Own w' w.heap.size w'.heap.size 1 v (List.flatMap (Enc.enc (α := Int)) dr0)) := by
 refine ct_of Try.func7 rfl Try.ntmps7 rfl ?_
 refine S_sub [(0, vcode)] ⟨rfl, trivial⟩ ?_
 have E : Ext w w := Ext.refl w
 refine S_seq ?_
 refine S_reg [true] rfl rfl ?_
 refine J_st (R_assign rfl) rfl (J_done ?_)
 refine S_seq ?_
 refine S_reg [true, false, true] rfl rfl ?_
 refine J_st (R_move rfl) rfl ?_
 refine J_call Try.call15 rfl (s_l01New vcode code _ (hcode.ext E)) rfl (fun _ w1 e1 hcu1 => ?_)
 obtain ⟨bc1, rfl, ybc1, hcu1⟩ := hcu1
 have g_bc1 : w.heap.size ≤ bc1 := Nat.le_trans E.size ybc1
 have y_bc1 := CurO.lt hcu1
 replace E := E.trans e1
 have z1 := e1.size
 refine J_st (R_assign rfl) rfl (J_done ?_)
 refine S_seq ?_
 refine S_reg [false, true] rfl rfl ?_
 refine J_buildSlice (vs := []) (css := []) sl29 rfl rfl trivial rfl rfl (fun b1 w2 e2 s1 h1 => ?_)
 replace h1 : Blk w2 b1 [] := h1
 have g_b1 : w.heap.size ≤ b1 := by have := E.size; omega
 have y_b1 := h1.lt
 replace E := E.trans e2; replace hcu1 := hcu1.ext e2
 have z2 := e2.size
 refine J_st (R_assign rfl) rfl (J_done ?_)
 refine S_seq ?_
 refine S_seq ?_
 refine S_reg [true] rfl rfl ?_
 refine J_st (R_assign rfl) rfl (J_done ?_)
 refine S_block ?_
 refine S_loop (fun (xq : Nat × Value × List Int) => let ⟨k, vo, ls⟩ := xq; [(2, .slice none 0 0), (3, .pointer (some ⟨bc1, 0, none⟩)), (4, vo), (5, .int .i64 ((k : Nat) : Int))]) (fun (xq : Nat × Value × List Int) w' => let ⟨k, vo, ls⟩ := xq; Ext w w' ∧ w2.heap.size ≤ w'.heap.size ∧ CurO w' bc1 vcode code ∧ k ≤ 12 ∧ ls.length = k ∧ (∀ y ∈ ls, 0 ≤ y ∧ y < 10000) ∧ Own w' b1 w'.heap.size 1 vo (List.flatMap (Enc.enc (α := Int)) ls)) (fun (xq : Nat × Value × List Int) => let ⟨k, vo, ls⟩ := xq; 12 - k) (0, .slice (some ⟨b1, 0, none⟩) 0 0, []) ⟨rfl, rfl, rfl, rfl, trivial⟩ ⟨E, Nat.le_refl _, hcu1, Nat.zero_le _, rfl, (fun y hy => by cases hy), Own.fin (Own.ofBlk (lo := b1) (hi := b1 + 1) (sz := 1) h1 (Nat.le_refl _) (Nat.lt_succ_self _) (by simp) (by simp [maxLen])) (by omega) (by omega) rfl⟩ ?_
 clear E hcu1 h1
 rintro ⟨k, vo, ls⟩ w3 ⟨E, z3, hcu1, hk, hls, hlr, ho⟩
 refine S_sub [(2, .slice none 0 0), (3, .pointer (some ⟨bc1, 0, none⟩)), (4, vo), (5, .int .i64 ((k : Nat) : Int))] ⟨rfl, rfl, rfl, rfl, trivial⟩ ?_
 refine S_seq ?_
 refine S_seq ?_
 refine S_reg [true, true] rfl rfl ?_
 refine J_st (R_move rfl) rfl (J_st (R_lss rfl rfl) rfl (J_done ?_))
 refine S_cond rfl (fun hc1 => ?_) (fun hc1 => ?_)
 ·have hc1n : k < 12 := by first | (have h := of_decide_eq_true hc1; omega) | (have h := hc1; simp at h; omega)
  refine S_skip ?_
  refine S_seq ?_
  refine S_block ?_
  refine S_reg [true, true, false, false, false, true] rfl rfl ?_
  refine J_st (R_move rfl) rfl (J_st (R_move rfl) rfl ?_)
  refine J_callR Try.call16 rfl rfl (s_l01Below bc1 vcode code 10000 _ hcu1 (RdD.widen (RdD.ext (RdS.rdD hcode) E) (Nat.le_refl _) (by omega))) rfl (fun _ w4 e3 hv => ?_)
  obtain ⟨dx1, q1, q2, hcu1', hv⟩ := hv
  replace hcu1 := hcu1'
  subst hv
  replace E := E.stepR e3 (by omega); replace ho := ho.modR e3 (by omega)
  have z4 := e3.size
  refine J_buildSlice (vs := [.int .i64 ((dx1 : Nat) : Int)]) (css := [[.int .i64 ((dx1 : Nat) : Int)]]) sl29 rfl rfl ⟨⟨rfl, rfl⟩, trivial⟩ rfl rfl (fun b2 w5 e4 s2 h2 => ?_)
  replace h2 : Blk w5 b2 [.int .i64 ((dx1 : Nat) : Int)] := h2
  have g_b2 : w.heap.size ≤ b2 := by have := E.size; omega
  have y_b2 := h2.lt
  replace E := E.trans e4; replace hcu1 := hcu1.ext e4; replace ho := ho.ext e4
  have z5 := e4.size
  refine J_append sl29 rfl rfl ho (Src.ofBlk h2 rfl) rfl (by simp only [sum_flat, List.length_cons, List.length_nil]; simp only [Enc.sz]; omega) (by decide) (by omega) (by omega) rfl rfl (fun v1 w6 m1 ho1 => ?_)
  replace E := E.step m1 (fun g hg => by have := Own.blk ho g hg; omega); replace hcu1 := hcu1.mod m1 (fun g hg => by have := Own.blk ho g hg; omega)
  have z6 := m1.size
  refine J_st (R_assign rfl) rfl (J_done ?_)
  refine S_nil (E_inB ?_)
  refine S_reg [true, true, true] rfl rfl ?_
  refine J_st (R_move rfl) rfl (J_st (R_add rfl rfl (add_nat (by unfold maxLen; omega))) rfl (J_st (R_assign rfl) rfl (J_done ?_)))
  refine S_nil (E_again (k + 1, v1, (ls ++ [((dx1 : Nat) : Int)])) (by simp; omega) ⟨rfl, rfl, rfl, rfl, trivial⟩ ⟨E, (by omega), hcu1, (by omega), (by simp; omega), (fun y hy => (List.mem_append.1 hy).elim (hlr y) (fun h => by simp at h; subst h; omega)), Own.fin ho1 (by omega) (by omega) (by simp [Enc.enc])⟩)
 ·have hc1n : ¬ k < 12 := by first | (have h := of_decide_eq_false hc1; omega) | (have h := hc1; simp at h; omega)
  refine S_exit (E_lp_exit (E_inB_exit ?_))
  refine S_seq ?_
  refine S_reg [true, true] rfl rfl ?_
  refine J_st (R_move rfl) rfl (J_st (R_assign rfl) rfl (J_done ?_))
  refine S_ret (E_done1 rfl rfl E ?_)
  exact ⟨ls, (by omega), (by assumption), Own.fin ho (by have := E.size; omega) (by omega) (by first | (simp [*]; done) | (simp [*]; rfl))⟩

set_option maxRecDepth 20000 in
theorem l_sameBools (vxs : Value) (xs : List Bool) (vys : Value) (ys : List Bool) (w : World) (hxs : RdS w vxs xs) (hys : RdS w vys ys) : Ct Try.prog 21 [vxs, vys] w (fun v _ => v = .bool (decide (xs = ys))) := by
 refine ct_of Try.func21 rfl Try.ntmps21 rfl ?_
 refine S_sub [(0, vxs), (1, vys)] ⟨rfl, rfl, trivial⟩ ?_
 have E : Ext w w := Ext.refl w
 refine S_seq ?_
 refine S_reg [true] rfl rfl ?_
 refine J_st (R_assign rfl) rfl (J_done ?_)
 refine S_seq ?_
 refine S_seq ?_
 refine S_reg [true, true, true, true, true] rfl rfl ?_
 refine J_st (R_move rfl) rfl (J_st (R_len Try.underlying30 rfl (hxs.ext E).len) rfl (J_st (R_move rfl) rfl (J_st (R_len Try.underlying30 rfl (hys.ext E).len) rfl (J_st (R_neq rfl rfl) rfl (J_done ?_)))))
 refine S_cond rfl (fun hc1 => ?_) (fun hc1 => ?_)
 ·have hc1n : ¬ xs.length = ys.length := by first | (have h := of_decide_eq_true hc1; omega) | (have h := hc1; simp at h; omega)
  refine S_seq ?_
  refine S_reg [true] rfl rfl ?_
  refine J_st (R_assign rfl) rfl (J_done ?_)
  refine S_ret (E_done1 rfl rfl E ?_)
  simp [eq_len hc1n]
 ·have hc1n : xs.length = ys.length := by first | (have h := of_decide_eq_false hc1; omega) | (have h := hc1; simp at h; omega)
  refine S_skip ?_
  refine S_seq ?_
  refine S_seq ?_
  refine S_reg [true] rfl rfl ?_
  refine J_st (R_assign rfl) rfl (J_done ?_)
  refine S_block ?_
  refine S_loop (fun (k : Nat) => [(0, vxs), (1, vys), (4, .bool false), (5, .int .i64 ((k : Nat) : Int))]) (fun (k : Nat) w' => Ext w w' ∧ w.heap.size ≤ w'.heap.size ∧ k ≤ xs.length ∧ xs.take k = ys.take k) (fun (k : Nat) => xs.length - k) 0 ⟨rfl, rfl, rfl, rfl, trivial⟩ ⟨E, Nat.le_refl _, Nat.zero_le _, rfl⟩ ?_
  clear E
  rintro k w1 ⟨E, z1, hk, hp⟩
  refine S_seq ?_
  refine S_seq ?_
  refine S_reg [true, true, true, true] rfl rfl ?_
  refine J_st (R_move rfl) rfl (J_st (R_move rfl) rfl (J_st (R_len Try.underlying30 rfl (hxs.ext E).len) rfl (J_st (R_lss rfl rfl) rfl (J_done ?_))))
  refine S_cond rfl (fun hc2 => ?_) (fun hc2 => ?_)
  ·have hc2n : k < xs.length := by first | (have h := of_decide_eq_true hc2; omega) | (have h := hc2; simp at h; omega)
   refine S_skip ?_
   refine S_seq ?_
   refine S_block ?_
   refine S_seq ?_
   refine S_regD mixed [(0, true), (1, true), (2, true), (3, true), (4, true), (5, true), (6, true), (7, true), (8, true)] (by decide +kernel) rfl (fun w2 e1 => ?_)
   replace E := E.trans e1
   have z2 := e1.size
   refine J_st (R_move rfl) rfl (J_st (R_move rfl) rfl ?_)
   have hi1 : k < xs.length := (by first | assumption | omega | (simp only [List.length_set]; first | assumption | omega) | (simp only [List.getElem_set_self, List.length_set]; first | assumption | omega) | (simp only [setW, setLk, List.length_set]; first | assumption | omega) | (simp; done))
   refine J_st (R_index (i := k) sl30 rfl rfl (hxs.ext E) hi1) rfl (J_st (R_load sc4 rfl (((hxs.ext E).get hi1).one 0 rfl)) rfl (J_st (R_move rfl) rfl (J_st (R_move rfl) rfl ?_)))
   have hi2 : k < ys.length := (by first | assumption | omega | (simp only [List.length_set]; first | assumption | omega) | (simp only [List.getElem_set_self, List.length_set]; first | assumption | omega) | (simp only [setW, setLk, List.length_set]; first | assumption | omega) | (simp; done))
   refine J_st (R_index (i := k) sl30 rfl rfl (hys.ext E) hi2) rfl (J_st (R_load sc4 rfl (((hys.ext E).get hi2).one 0 rfl)) rfl (J_st (R_neqB (Try.underlying4) rfl rfl) rfl (J_done ?_)))
   refine S_cond rfl (fun hc3 => ?_) (fun hc3 => ?_)
   ·refine S_seq ?_
    refine S_reg [true] rfl rfl ?_
    refine J_st (R_assign rfl) rfl (J_done ?_)
    refine S_ret (E_inB_ret (E_lp_ret (E_inB_ret (E_done1 rfl rfl E ?_))))
    exact eqS_no (by omega) (by omega) (by simpa using hc3)
   ·refine S_skip ?_
    refine S_nil (E_inB ?_)
    refine S_reg [true, true, true] rfl rfl ?_
    refine J_st (R_move rfl) rfl (J_st (R_add rfl rfl (add_one hc2n hxs.1)) rfl (J_st (R_assign rfl) rfl (J_done ?_)))
    refine S_nil (E_again (k + 1) (by omega) ⟨rfl, rfl, rfl, rfl, trivial⟩ ⟨E, (by omega), (by omega), eqS_step hp (by assumption) (by omega) (by simpa using hc3)⟩)
  ·have hc2n : ¬ k < xs.length := by first | (have h := of_decide_eq_false hc2; omega) | (have h := hc2; simp at h; omega)
   refine S_exit (E_lp_exit (E_inB_exit ?_))
   refine S_seq ?_
   refine S_reg [true] rfl rfl ?_
   refine J_st (R_assign rfl) rfl (J_done ?_)
   refine S_ret (E_done1 rfl rfl E ?_)
   exact eqS_yes hp hc1n (by omega)

set_option maxRecDepth 20000 in
theorem l_sameDones (vxs : Value) (xs : List Done) (vys : Value) (ys : List Done) (w : World) (hxs : RdS w vxs xs) (hys : RdS w vys ys) : Ct Try.prog 22 [vxs, vys] w (fun v _ => v = .bool (decide (xs = ys))) := by
 refine ct_of Try.func22 rfl Try.ntmps22 rfl ?_
 refine S_sub [(0, vxs), (1, vys)] ⟨rfl, rfl, trivial⟩ ?_
 have E : Ext w w := Ext.refl w
 refine S_seq ?_
 refine S_reg [true] rfl rfl ?_
 refine J_st (R_assign rfl) rfl (J_done ?_)
 refine S_seq ?_
 refine S_seq ?_
 refine S_reg [true, true, true, true, true] rfl rfl ?_
 refine J_st (R_move rfl) rfl (J_st (R_len Try.underlying31 rfl (hxs.ext E).len) rfl (J_st (R_move rfl) rfl (J_st (R_len Try.underlying31 rfl (hys.ext E).len) rfl (J_st (R_neq rfl rfl) rfl (J_done ?_)))))
 refine S_cond rfl (fun hc1 => ?_) (fun hc1 => ?_)
 ·have hc1n : ¬ xs.length = ys.length := by first | (have h := of_decide_eq_true hc1; omega) | (have h := hc1; simp at h; omega)
  refine S_seq ?_
  refine S_reg [true] rfl rfl ?_
  refine J_st (R_assign rfl) rfl (J_done ?_)
  refine S_ret (E_done1 rfl rfl E ?_)
  simp [eq_len hc1n]
 ·have hc1n : xs.length = ys.length := by first | (have h := of_decide_eq_false hc1; omega) | (have h := hc1; simp at h; omega)
  refine S_skip ?_
  refine S_seq ?_
  refine S_seq ?_
  refine S_reg [true] rfl rfl ?_
  refine J_st (R_assign rfl) rfl (J_done ?_)
  refine S_block ?_
  refine S_loop (fun (k : Nat) => [(0, vxs), (1, vys), (4, .bool false), (5, .int .i64 ((k : Nat) : Int))]) (fun (k : Nat) w' => Ext w w' ∧ w.heap.size ≤ w'.heap.size ∧ k ≤ xs.length ∧ xs.take k = ys.take k) (fun (k : Nat) => xs.length - k) 0 ⟨rfl, rfl, rfl, rfl, trivial⟩ ⟨E, Nat.le_refl _, Nat.zero_le _, rfl⟩ ?_
  clear E
  rintro k w1 ⟨E, z1, hk, hp⟩
  refine S_seq ?_
  refine S_seq ?_
  refine S_reg [true, true, true, true] rfl rfl ?_
  refine J_st (R_move rfl) rfl (J_st (R_move rfl) rfl (J_st (R_len Try.underlying31 rfl (hxs.ext E).len) rfl (J_st (R_lss rfl rfl) rfl (J_done ?_))))
  refine S_cond rfl (fun hc2 => ?_) (fun hc2 => ?_)
  ·have hc2n : k < xs.length := by first | (have h := of_decide_eq_true hc2; omega) | (have h := hc2; simp at h; omega)
   refine S_skip ?_
   refine S_seq ?_
   refine S_block ?_
   refine S_seq ?_
   refine S_regD mixed [(0, true), (1, true), (2, true), (3, true), (4, true), (5, true), (6, true), (7, true), (8, true)] (by decide +kernel) rfl (fun w2 e1 => ?_)
   replace E := E.trans e1
   have z2 := e1.size
   refine J_st (R_move rfl) rfl (J_st (R_move rfl) rfl ?_)
   have hi1 : k < xs.length := (by first | assumption | omega | (simp only [List.length_set]; first | assumption | omega) | (simp only [List.getElem_set_self, List.length_set]; first | assumption | omega) | (simp only [setW, setLk, List.length_set]; first | assumption | omega) | (simp; done))
   refine J_st (R_index (i := k) sl31 rfl rfl (hxs.ext E) hi1) rfl (J_st (R_loadS st68 rfl ((hxs.ext E).get hi1) rfl) rfl (J_st (R_move rfl) rfl (J_st (R_move rfl) rfl ?_)))
   have hi2 : k < ys.length := (by first | assumption | omega | (simp only [List.length_set]; first | assumption | omega) | (simp only [List.getElem_set_self, List.length_set]; first | assumption | omega) | (simp only [setW, setLk, List.length_set]; first | assumption | omega) | (simp; done))
   refine J_st (R_index (i := k) sl31 rfl rfl (hys.ext E) hi2) rfl (J_st (R_loadS st68 rfl ((hys.ext E).get hi2) rfl) rfl (J_st (R_neqS (ne68 (xs[k]'hi1) (ys[k]'hi2)) eqg68 rfl rfl) rfl (J_done ?_)))
   refine S_cond rfl (fun hc3 => ?_) (fun hc3 => ?_)
   ·refine S_seq ?_
    refine S_reg [true] rfl rfl ?_
    refine J_st (R_assign rfl) rfl (J_done ?_)
    refine S_ret (E_inB_ret (E_lp_ret (E_inB_ret (E_done1 rfl rfl E ?_))))
    exact eqS_no (by omega) (by omega) (by simpa using hc3)
   ·refine S_skip ?_
    refine S_nil (E_inB ?_)
    refine S_reg [true, true, true] rfl rfl ?_
    refine J_st (R_move rfl) rfl (J_st (R_add rfl rfl (add_one hc2n hxs.1)) rfl (J_st (R_assign rfl) rfl (J_done ?_)))
    refine S_nil (E_again (k + 1) (by omega) ⟨rfl, rfl, rfl, rfl, trivial⟩ ⟨E, (by omega), (by omega), eqS_step hp (by assumption) (by omega) (by simpa using hc3)⟩)
  ·have hc2n : ¬ k < xs.length := by first | (have h := of_decide_eq_false hc2; omega) | (have h := hc2; simp at h; omega)
   refine S_exit (E_lp_exit (E_inB_exit ?_))
   refine S_seq ?_
   refine S_reg [true] rfl rfl ?_
   refine J_st (R_assign rfl) rfl (J_done ?_)
   refine S_ret (E_done1 rfl rfl E ?_)
   exact eqS_yes hp hc1n (by omega)

set_option maxHeartbeats 4000000 in
set_option maxRecDepth 20000 in
theorem l_sameWorker (cx : List Value) (x : Worker) (cy : List Value) (y : Worker) (w : World) (hx : Dat.R w 0 w.heap.size cx x) (hy : Dat.R w 0 w.heap.size cy y) : Ct Try.prog 10 [.agg cx.toArray, .agg cy.toArray] w (fun v _ => v = .bool (decide (x = y))) := by
 refine ct_of Try.func10 rfl Try.ntmps10 rfl ?_
 obtain ⟨o1, o2, o3, o4, o5, o6, o7, o8, rfl, hd1, hd2, hd3, hd4, hd5, hd6, hd7, hd8⟩ := Worker.op hx
 obtain ⟨o9, o10, o11, o12, o13, o14, o15, o16, rfl, hd9, hd10, hd11, hd12, hd13, hd14, hd15, hd16⟩ := Worker.op hy
 refine S_sub [(0, .agg [o1, o2, o3, o4, o5, o6, o7, o8].toArray), (1, .agg [o9, o10, o11, o12, o13, o14, o15, o16].toArray)] ⟨rfl, rfl, trivial⟩ ?_
 have E : Ext w w := Ext.refl w
 refine S_seq ?_
 refine S_reg [false, false, true] rfl rfl ?_
 refine J_box rfl rfl (fun b1 w1 e1 s1 h1 => ?_)
 have g_b1 : w.heap.size ≤ b1 := by have := E.size; omega
 have y_b1 := h1.lt
 replace E := E.trans e1
 have z1 := e1.size
 refine J_box rfl rfl (fun b2 w2 e2 s2 h2 => ?_)
 have g_b2 : w.heap.size ≤ b2 := by have := E.size; omega
 have y_b2 := h2.lt
 replace E := E.trans e2; replace h1 := h1.ext e2
 have z2 := e2.size
 refine J_st (R_assign rfl) rfl (J_done ?_)
 refine S_seq ?_
 refine S_reg [true, true, true, true, false, true, true, true, true, true, false, true, true, true, true, true, true, false, true, true, true, true, true, true, false, true, true, true, true, true, true, false, true, true, true, true, true, true, false, true, true, true, true, true, true, false, true, true, true, true, true, true, false, true, true] rfl rfl ?_
 refine J_st (R_fieldAddr0 fl33_0 rfl) rfl (J_st (R_load sc27 rfl (h1.one 0 rfl)) rfl (J_st (R_fieldAddr0 fl33_0 rfl) rfl (J_st (R_load sc27 rfl (h2.one 0 rfl)) rfl ?_)))
 refine J_call Try.call18 rfl (l_sameRecords o1 x.queue o9 y.queue _ (hd1.rd.ext E) (hd9.rd.ext E)) rfl (fun _ w3 e3 hv => ?_)
 subst hv
 replace E := E.trans e3; replace h1 := h1.ext e3; replace h2 := h2.ext e3
 have z3 := e3.size
 refine J_st (R_move rfl) rfl ?_
 refine J_cut 48 [(0, .agg [o1, o2, o3, o4, o5, o6, o7, o8].toArray), (1, .agg [o9, o10, o11, o12, o13, o14, o15, o16].toArray), (2, .pointer (some ⟨b1, 0, none⟩)), (3, .pointer (some ⟨b2, 0, none⟩)), (4, .bool false), (58, .bool ((((((((decide (x.queue = y.queue)) && (decide (x.staged = y.staged))) && (decide (x.inputs = y.inputs))) && (decide (x.cells = y.cells))) && (decide (x.sums = y.sums))) && (decide (x.black = y.black))) && (decide (x.caps = y.caps))) && (decide (x.dones = y.dones))))] (fun w' => Ext w w' ∧ w3.heap.size ≤ w'.heap.size ∧ Blk w' b1 ([o1, o2, o3, o4, o5, o6, o7, o8]) ∧ Blk w' b2 ([o9, o10, o11, o12, o13, o14, o15, o16])) ?_ ?_
 ·refine J_if (gd := 10) rfl rfl (fun hg1 => ?_) (fun hg1 => ?_)
  ·refine J_gd rfl rfl (R_fieldAddr0 fl33_1 rfl) rfl (J_gd rfl rfl (R_load sc27 rfl (h1.one 1 rfl)) rfl (J_gd rfl rfl (R_fieldAddr0 fl33_1 rfl) rfl (J_gd rfl rfl (R_load sc27 rfl (h2.one 1 rfl)) rfl ?_)))
   refine J_ung rfl rfl ?_
   refine J_call Try.call18 rfl (l_sameRecords o2 x.staged o10 y.staged _ (hd2.rd.ext E) (hd10.rd.ext E)) rfl (fun _ w5 e4 hv => ?_)
   subst hv
   replace E := E.trans e4; replace h1 := h1.ext e4; replace h2 := h2.ext e4
   have z4 := e4.size
   refine J_st (R_pickT rfl rfl) rfl (J_st (R_move rfl) rfl ?_)
   refine J_if (gd := 17) rfl rfl (fun hg2 => ?_) (fun hg2 => ?_)
   ·refine J_gd rfl rfl (R_fieldAddr0 fl33_2 rfl) rfl (J_gd rfl rfl (R_load sc27 rfl (h1.one 2 rfl)) rfl (J_gd rfl rfl (R_fieldAddr0 fl33_2 rfl) rfl (J_gd rfl rfl (R_load sc27 rfl (h2.one 2 rfl)) rfl ?_)))
    refine J_ung rfl rfl ?_
    refine J_call Try.call18 rfl (l_sameRecords o3 x.inputs o11 y.inputs _ (hd3.rd.ext E) (hd11.rd.ext E)) rfl (fun _ w6 e5 hv => ?_)
    subst hv
    replace E := E.trans e5; replace h1 := h1.ext e5; replace h2 := h2.ext e5
    have z5 := e5.size
    refine J_st (R_pickT rfl rfl) rfl (J_st (R_move rfl) rfl ?_)
    refine J_if (gd := 24) rfl rfl (fun hg3 => ?_) (fun hg3 => ?_)
    ·refine J_gd rfl rfl (R_fieldAddr0 fl33_3 rfl) rfl (J_gd rfl rfl (R_load sc28 rfl (h1.one 3 rfl)) rfl (J_gd rfl rfl (R_fieldAddr0 fl33_3 rfl) rfl (J_gd rfl rfl (R_load sc28 rfl (h2.one 3 rfl)) rfl ?_)))
     refine J_ung rfl rfl ?_
     refine J_call Try.call19 rfl (l_sameCells o4 x.cells o12 y.cells _ (hd4.rd.ext E) (hd12.rd.ext E)) rfl (fun _ w7 e6 hv => ?_)
     subst hv
     replace E := E.trans e6; replace h1 := h1.ext e6; replace h2 := h2.ext e6
     have z6 := e6.size
     refine J_st (R_pickT rfl rfl) rfl (J_st (R_move rfl) rfl ?_)
     refine J_if (gd := 31) rfl rfl (fun hg4 => ?_) (fun hg4 => ?_)
     ·refine J_gd rfl rfl (R_fieldAddr0 fl33_4 rfl) rfl (J_gd rfl rfl (R_load sc29 rfl (h1.one 4 rfl)) rfl (J_gd rfl rfl (R_fieldAddr0 fl33_4 rfl) rfl (J_gd rfl rfl (R_load sc29 rfl (h2.one 4 rfl)) rfl ?_)))
      refine J_ung rfl rfl ?_
      refine J_call Try.call20 rfl (l_sameInts o5 x.sums o13 y.sums _ (hd5.rd.ext E) (hd13.rd.ext E)) rfl (fun _ w8 e7 hv => ?_)
      subst hv
      replace E := E.trans e7; replace h1 := h1.ext e7; replace h2 := h2.ext e7
      have z7 := e7.size
      refine J_st (R_pickT rfl rfl) rfl (J_st (R_move rfl) rfl ?_)
      refine J_if (gd := 38) rfl rfl (fun hg5 => ?_) (fun hg5 => ?_)
      ·refine J_gd rfl rfl (R_fieldAddr0 fl33_5 rfl) rfl (J_gd rfl rfl (R_load sc30 rfl (h1.one 5 rfl)) rfl (J_gd rfl rfl (R_fieldAddr0 fl33_5 rfl) rfl (J_gd rfl rfl (R_load sc30 rfl (h2.one 5 rfl)) rfl ?_)))
       refine J_ung rfl rfl ?_
       refine J_call Try.call21 rfl (l_sameBools o6 x.black o14 y.black _ (hd6.rd.ext E) (hd14.rd.ext E)) rfl (fun _ w9 e8 hv => ?_)
       subst hv
       replace E := E.trans e8; replace h1 := h1.ext e8; replace h2 := h2.ext e8
       have z8 := e8.size
       refine J_st (R_pickT rfl rfl) rfl (J_st (R_move rfl) rfl ?_)
       refine J_if (gd := 45) rfl rfl (fun hg6 => ?_) (fun hg6 => ?_)
       ·refine J_gd rfl rfl (R_fieldAddr0 fl33_6 rfl) rfl (J_gd rfl rfl (R_load sc30 rfl (h1.one 6 rfl)) rfl (J_gd rfl rfl (R_fieldAddr0 fl33_6 rfl) rfl (J_gd rfl rfl (R_load sc30 rfl (h2.one 6 rfl)) rfl ?_)))
        refine J_ung rfl rfl ?_
        refine J_call Try.call21 rfl (l_sameBools o7 x.caps o15 y.caps _ (hd7.rd.ext E) (hd15.rd.ext E)) rfl (fun _ w10 e9 hv => ?_)
        subst hv
        replace E := E.trans e9; replace h1 := h1.ext e9; replace h2 := h2.ext e9
        have z9 := e9.size
        refine J_st (R_pickT rfl rfl) rfl (J_st (R_move rfl) rfl ?_)
        refine J_if (gd := 52) rfl rfl (fun hg7 => ?_) (fun hg7 => ?_)
        ·refine J_gd rfl rfl (R_fieldAddr0 fl33_7 rfl) rfl (J_gd rfl rfl (R_load sc31 rfl (h1.one 7 rfl)) rfl (J_gd rfl rfl (R_fieldAddr0 fl33_7 rfl) rfl (J_gd rfl rfl (R_load sc31 rfl (h2.one 7 rfl)) rfl ?_)))
         refine J_ung rfl rfl ?_
         refine J_call Try.call22 rfl (l_sameDones o8 x.dones o16 y.dones _ (hd8.rd.ext E) (hd16.rd.ext E)) rfl (fun _ w11 e10 hv => ?_)
         subst hv
         replace E := E.trans e10; replace h1 := h1.ext e10; replace h2 := h2.ext e10
         have z10 := e10.size
         refine J_st (R_pickT rfl rfl) rfl (J_cutEnd ⟨rfl, rfl, rfl, rfl, rfl, congrArg (fun b => some (Value.bool b)) (show (decide (x.dones = y.dones)) = ((((((((decide (x.queue = y.queue)) && (decide (x.staged = y.staged))) && (decide (x.inputs = y.inputs))) && (decide (x.cells = y.cells))) && (decide (x.sums = y.sums))) && (decide (x.black = y.black))) && (decide (x.caps = y.caps))) && (decide (x.dones = y.dones))) by first | (rw [hg1, hg2, hg3, hg4, hg5, hg6, hg7] <;> rfl) | (simp [hg1, hg2, hg3, hg4, hg5, hg6, hg7]; done) | (simp only [nat_nlt] <;> simp)), trivial⟩ ⟨E, (by omega), h1, h2⟩)
        ·refine J_gdno rfl rfl rfl rfl (J_gdno rfl rfl rfl rfl (J_gdno rfl rfl rfl rfl (J_gdno rfl rfl rfl rfl ?_)))
         refine J_ungno rfl rfl rfl rfl ?_
         refine J_st (R_pickF rfl rfl) rfl (J_cutEnd ⟨rfl, rfl, rfl, rfl, rfl, congrArg (fun b => some (Value.bool b)) (show false = ((((((((decide (x.queue = y.queue)) && (decide (x.staged = y.staged))) && (decide (x.inputs = y.inputs))) && (decide (x.cells = y.cells))) && (decide (x.sums = y.sums))) && (decide (x.black = y.black))) && (decide (x.caps = y.caps))) && (decide (x.dones = y.dones))) by first | (rw [hg1, hg2, hg3, hg4, hg5, hg6, hg7] <;> rfl) | (simp [hg1, hg2, hg3, hg4, hg5, hg6, hg7]; done) | (simp only [nat_nlt] <;> simp)), trivial⟩ ⟨E, (by omega), h1, h2⟩)
       ·refine J_gdno rfl rfl rfl rfl (J_gdno rfl rfl rfl rfl (J_gdno rfl rfl rfl rfl (J_gdno rfl rfl rfl rfl ?_)))
        refine J_ungno rfl rfl rfl rfl ?_
        refine J_st (R_pickF rfl rfl) rfl (J_st (R_move rfl) rfl (J_gdno rfl rfl rfl rfl (J_gdno rfl rfl rfl rfl (J_gdno rfl rfl rfl rfl (J_gdno rfl rfl rfl rfl ?_)))))
        refine J_ungno rfl rfl rfl rfl ?_
        refine J_st (R_pickF rfl rfl) rfl (J_cutEnd ⟨rfl, rfl, rfl, rfl, rfl, congrArg (fun b => some (Value.bool b)) (show false = ((((((((decide (x.queue = y.queue)) && (decide (x.staged = y.staged))) && (decide (x.inputs = y.inputs))) && (decide (x.cells = y.cells))) && (decide (x.sums = y.sums))) && (decide (x.black = y.black))) && (decide (x.caps = y.caps))) && (decide (x.dones = y.dones))) by first | (rw [hg1, hg2, hg3, hg4, hg5, hg6] <;> rfl) | (simp [hg1, hg2, hg3, hg4, hg5, hg6]; done) | (simp only [nat_nlt] <;> simp)), trivial⟩ ⟨E, (by omega), h1, h2⟩)
      ·refine J_gdno rfl rfl rfl rfl (J_gdno rfl rfl rfl rfl (J_gdno rfl rfl rfl rfl (J_gdno rfl rfl rfl rfl ?_)))
       refine J_ungno rfl rfl rfl rfl ?_
       refine J_st (R_pickF rfl rfl) rfl (J_st (R_move rfl) rfl (J_gdno rfl rfl rfl rfl (J_gdno rfl rfl rfl rfl (J_gdno rfl rfl rfl rfl (J_gdno rfl rfl rfl rfl ?_)))))
       refine J_ungno rfl rfl rfl rfl ?_
       refine J_st (R_pickF rfl rfl) rfl (J_st (R_move rfl) rfl (J_gdno rfl rfl rfl rfl (J_gdno rfl rfl rfl rfl (J_gdno rfl rfl rfl rfl (J_gdno rfl rfl rfl rfl ?_)))))
       refine J_ungno rfl rfl rfl rfl ?_
       refine J_st (R_pickF rfl rfl) rfl (J_cutEnd ⟨rfl, rfl, rfl, rfl, rfl, congrArg (fun b => some (Value.bool b)) (show false = ((((((((decide (x.queue = y.queue)) && (decide (x.staged = y.staged))) && (decide (x.inputs = y.inputs))) && (decide (x.cells = y.cells))) && (decide (x.sums = y.sums))) && (decide (x.black = y.black))) && (decide (x.caps = y.caps))) && (decide (x.dones = y.dones))) by first | (rw [hg1, hg2, hg3, hg4, hg5] <;> rfl) | (simp [hg1, hg2, hg3, hg4, hg5]; done) | (simp only [nat_nlt] <;> simp)), trivial⟩ ⟨E, (by omega), h1, h2⟩)
     ·refine J_gdno rfl rfl rfl rfl (J_gdno rfl rfl rfl rfl (J_gdno rfl rfl rfl rfl (J_gdno rfl rfl rfl rfl ?_)))
      refine J_ungno rfl rfl rfl rfl ?_
      refine J_st (R_pickF rfl rfl) rfl (J_st (R_move rfl) rfl (J_gdno rfl rfl rfl rfl (J_gdno rfl rfl rfl rfl (J_gdno rfl rfl rfl rfl (J_gdno rfl rfl rfl rfl ?_)))))
      refine J_ungno rfl rfl rfl rfl ?_
      refine J_st (R_pickF rfl rfl) rfl (J_st (R_move rfl) rfl (J_gdno rfl rfl rfl rfl (J_gdno rfl rfl rfl rfl (J_gdno rfl rfl rfl rfl (J_gdno rfl rfl rfl rfl ?_)))))
      refine J_ungno rfl rfl rfl rfl ?_
      refine J_st (R_pickF rfl rfl) rfl (J_st (R_move rfl) rfl (J_gdno rfl rfl rfl rfl (J_gdno rfl rfl rfl rfl (J_gdno rfl rfl rfl rfl (J_gdno rfl rfl rfl rfl ?_)))))
      refine J_ungno rfl rfl rfl rfl ?_
      refine J_st (R_pickF rfl rfl) rfl (J_cutEnd ⟨rfl, rfl, rfl, rfl, rfl, congrArg (fun b => some (Value.bool b)) (show false = ((((((((decide (x.queue = y.queue)) && (decide (x.staged = y.staged))) && (decide (x.inputs = y.inputs))) && (decide (x.cells = y.cells))) && (decide (x.sums = y.sums))) && (decide (x.black = y.black))) && (decide (x.caps = y.caps))) && (decide (x.dones = y.dones))) by first | (rw [hg1, hg2, hg3, hg4] <;> rfl) | (simp [hg1, hg2, hg3, hg4]; done) | (simp only [nat_nlt] <;> simp)), trivial⟩ ⟨E, (by omega), h1, h2⟩)
    ·refine J_gdno rfl rfl rfl rfl (J_gdno rfl rfl rfl rfl (J_gdno rfl rfl rfl rfl (J_gdno rfl rfl rfl rfl ?_)))
     refine J_ungno rfl rfl rfl rfl ?_
     refine J_st (R_pickF rfl rfl) rfl (J_st (R_move rfl) rfl (J_gdno rfl rfl rfl rfl (J_gdno rfl rfl rfl rfl (J_gdno rfl rfl rfl rfl (J_gdno rfl rfl rfl rfl ?_)))))
     refine J_ungno rfl rfl rfl rfl ?_
     refine J_st (R_pickF rfl rfl) rfl (J_st (R_move rfl) rfl (J_gdno rfl rfl rfl rfl (J_gdno rfl rfl rfl rfl (J_gdno rfl rfl rfl rfl (J_gdno rfl rfl rfl rfl ?_)))))
     refine J_ungno rfl rfl rfl rfl ?_
     refine J_st (R_pickF rfl rfl) rfl (J_st (R_move rfl) rfl (J_gdno rfl rfl rfl rfl (J_gdno rfl rfl rfl rfl (J_gdno rfl rfl rfl rfl (J_gdno rfl rfl rfl rfl ?_)))))
     refine J_ungno rfl rfl rfl rfl ?_
     refine J_st (R_pickF rfl rfl) rfl (J_st (R_move rfl) rfl (J_gdno rfl rfl rfl rfl (J_gdno rfl rfl rfl rfl (J_gdno rfl rfl rfl rfl (J_gdno rfl rfl rfl rfl ?_)))))
     refine J_ungno rfl rfl rfl rfl ?_
     refine J_st (R_pickF rfl rfl) rfl (J_cutEnd ⟨rfl, rfl, rfl, rfl, rfl, congrArg (fun b => some (Value.bool b)) (show false = ((((((((decide (x.queue = y.queue)) && (decide (x.staged = y.staged))) && (decide (x.inputs = y.inputs))) && (decide (x.cells = y.cells))) && (decide (x.sums = y.sums))) && (decide (x.black = y.black))) && (decide (x.caps = y.caps))) && (decide (x.dones = y.dones))) by first | (rw [hg1, hg2, hg3] <;> rfl) | (simp [hg1, hg2, hg3]; done) | (simp only [nat_nlt] <;> simp)), trivial⟩ ⟨E, (by omega), h1, h2⟩)
   ·refine J_gdno rfl rfl rfl rfl (J_gdno rfl rfl rfl rfl (J_gdno rfl rfl rfl rfl (J_gdno rfl rfl rfl rfl ?_)))
    refine J_ungno rfl rfl rfl rfl ?_
    refine J_st (R_pickF rfl rfl) rfl (J_st (R_move rfl) rfl (J_gdno rfl rfl rfl rfl (J_gdno rfl rfl rfl rfl (J_gdno rfl rfl rfl rfl (J_gdno rfl rfl rfl rfl ?_)))))
    refine J_ungno rfl rfl rfl rfl ?_
    refine J_st (R_pickF rfl rfl) rfl (J_st (R_move rfl) rfl (J_gdno rfl rfl rfl rfl (J_gdno rfl rfl rfl rfl (J_gdno rfl rfl rfl rfl (J_gdno rfl rfl rfl rfl ?_)))))
    refine J_ungno rfl rfl rfl rfl ?_
    refine J_st (R_pickF rfl rfl) rfl (J_st (R_move rfl) rfl (J_gdno rfl rfl rfl rfl (J_gdno rfl rfl rfl rfl (J_gdno rfl rfl rfl rfl (J_gdno rfl rfl rfl rfl ?_)))))
    refine J_ungno rfl rfl rfl rfl ?_
    refine J_st (R_pickF rfl rfl) rfl (J_st (R_move rfl) rfl (J_gdno rfl rfl rfl rfl (J_gdno rfl rfl rfl rfl (J_gdno rfl rfl rfl rfl (J_gdno rfl rfl rfl rfl ?_)))))
    refine J_ungno rfl rfl rfl rfl ?_
    refine J_st (R_pickF rfl rfl) rfl (J_st (R_move rfl) rfl (J_gdno rfl rfl rfl rfl (J_gdno rfl rfl rfl rfl (J_gdno rfl rfl rfl rfl (J_gdno rfl rfl rfl rfl ?_)))))
    refine J_ungno rfl rfl rfl rfl ?_
    refine J_st (R_pickF rfl rfl) rfl (J_cutEnd ⟨rfl, rfl, rfl, rfl, rfl, congrArg (fun b => some (Value.bool b)) (show false = ((((((((decide (x.queue = y.queue)) && (decide (x.staged = y.staged))) && (decide (x.inputs = y.inputs))) && (decide (x.cells = y.cells))) && (decide (x.sums = y.sums))) && (decide (x.black = y.black))) && (decide (x.caps = y.caps))) && (decide (x.dones = y.dones))) by first | (rw [hg1, hg2] <;> rfl) | (simp [hg1, hg2]; done) | (simp only [nat_nlt] <;> simp)), trivial⟩ ⟨E, (by omega), h1, h2⟩)
  ·refine J_gdno rfl rfl rfl rfl (J_gdno rfl rfl rfl rfl (J_gdno rfl rfl rfl rfl (J_gdno rfl rfl rfl rfl ?_)))
   refine J_ungno rfl rfl rfl rfl ?_
   refine J_st (R_pickF rfl rfl) rfl (J_st (R_move rfl) rfl (J_gdno rfl rfl rfl rfl (J_gdno rfl rfl rfl rfl (J_gdno rfl rfl rfl rfl (J_gdno rfl rfl rfl rfl ?_)))))
   refine J_ungno rfl rfl rfl rfl ?_
   refine J_st (R_pickF rfl rfl) rfl (J_st (R_move rfl) rfl (J_gdno rfl rfl rfl rfl (J_gdno rfl rfl rfl rfl (J_gdno rfl rfl rfl rfl (J_gdno rfl rfl rfl rfl ?_)))))
   refine J_ungno rfl rfl rfl rfl ?_
   refine J_st (R_pickF rfl rfl) rfl (J_st (R_move rfl) rfl (J_gdno rfl rfl rfl rfl (J_gdno rfl rfl rfl rfl (J_gdno rfl rfl rfl rfl (J_gdno rfl rfl rfl rfl ?_)))))
   refine J_ungno rfl rfl rfl rfl ?_
   refine J_st (R_pickF rfl rfl) rfl (J_st (R_move rfl) rfl (J_gdno rfl rfl rfl rfl (J_gdno rfl rfl rfl rfl (J_gdno rfl rfl rfl rfl (J_gdno rfl rfl rfl rfl ?_)))))
   refine J_ungno rfl rfl rfl rfl ?_
   refine J_st (R_pickF rfl rfl) rfl (J_st (R_move rfl) rfl (J_gdno rfl rfl rfl rfl (J_gdno rfl rfl rfl rfl (J_gdno rfl rfl rfl rfl (J_gdno rfl rfl rfl rfl ?_)))))
   refine J_ungno rfl rfl rfl rfl ?_
   refine J_st (R_pickF rfl rfl) rfl (J_st (R_move rfl) rfl (J_gdno rfl rfl rfl rfl (J_gdno rfl rfl rfl rfl (J_gdno rfl rfl rfl rfl (J_gdno rfl rfl rfl rfl ?_)))))
   refine J_ungno rfl rfl rfl rfl ?_
   refine J_st (R_pickF rfl rfl) rfl (J_cutEnd ⟨rfl, rfl, rfl, rfl, rfl, congrArg (fun b => some (Value.bool b)) (show false = ((((((((decide (x.queue = y.queue)) && (decide (x.staged = y.staged))) && (decide (x.inputs = y.inputs))) && (decide (x.cells = y.cells))) && (decide (x.sums = y.sums))) && (decide (x.black = y.black))) && (decide (x.caps = y.caps))) && (decide (x.dones = y.dones))) by first | (rw [hg1] <;> rfl) | (simp [hg1]; done) | (simp only [nat_nlt] <;> simp)), trivial⟩ ⟨E, (by omega), h1, h2⟩)
 clear E h1 h2
 rintro w4 ⟨E, z11, h1, h2⟩
 refine J_st (R_assign rfl) rfl (J_done ?_)
 refine S_ret (E_done1 rfl rfl E ?_)
 refine congrArg Value.bool (Bool.eq_iff_iff.2 ?_); cases x; cases y; simp [and_assoc]

set_option maxHeartbeats 4000000 in
set_option maxRecDepth 20000 in
theorem l_FnBackFirst (vcode : Value) (code : List Byt) (w : World) (hcode : RdS w vcode code) (kcode : ∀ y ∈ code, True) : Ct Try.prog 3 [vcode] w (fun v _ => v = .bool true) := by
 refine ct_of Try.func3 rfl Try.ntmps3 rfl ?_
 refine S_sub [(0, vcode)] ⟨rfl, trivial⟩ ?_
 have E : Ext w w := Ext.refl w
 refine S_seq ?_
 refine S_reg [true] rfl rfl ?_
 refine J_st (R_assign rfl) rfl (J_done ?_)
 refine S_seq ?_
 refine S_seq ?_
 refine S_reg [true, false] rfl rfl ?_
 refine J_st (R_move rfl) rfl ?_
 refine J_call Try.call4 rfl (l_big vcode code _ (hcode.ext E)) rfl (fun _ w1 e1 hv => ?_)
 subst hv
 replace E := E.trans e1
 have z1 := e1.size
 refine J_done ?_
 refine S_cond rfl (fun hc1 => ?_) (fun hc1 => ?_)
 ·refine S_seq ?_
  refine S_reg [true] rfl rfl ?_
  refine J_st (R_assign rfl) rfl (J_done ?_)
  refine S_ret (E_done1 rfl rfl E ?_)
  rfl
 ·refine S_skip ?_
  refine S_seq ?_
  refine S_reg [true, false, true, true, true, false, false, false, false] rfl rfl ?_
  refine J_st (R_move rfl) rfl ?_
  refine J_call Try.call5 rfl (s_DrawTakeInput vcode code _ (hcode.ext E)) rfl (fun _ w2 e2 ho1 => ?_)
  obtain ⟨dx1, dx2, q1, q2, ho1⟩ := ho1
  obtain ⟨_, _, rfl, ho2, ho3⟩ := ho1
  have g_ho1 : w.heap.size ≤ w1.heap.size := E.size
  replace E := E.trans e2
  have z2 := e2.size
  have hD1 := ho2
  obtain ⟨o1, rfl, _⟩ := Graph.op hD1
  clear ho2
  have hD2 := ho3
  obtain ⟨o2, o3, o4, o5, o6, o7, o8, o9, rfl, _, _, _, _, _, _, _, _⟩ := Worker.op hD2
  clear ho3
  refine J_st (R_move rfl) rfl (J_st (R_extract rfl rfl) rfl (J_st (R_extract rfl rfl) rfl ?_))
  refine J_alloc st26 rfl (fun b1 w3 e3 s1 h1 => ?_)
  have g_b1 : w.heap.size ≤ b1 := by have := E.size; omega
  have y_b1 := h1.lt
  replace E := E.trans e3; replace hD1 := hD1.ext e3; replace hD2 := hD2.ext e3
  have z3 := e3.size
  refine J_alloc st33 rfl (fun b2 w4 e4 s2 h2 => ?_)
  have g_b2 : w.heap.size ≤ b2 := by have := E.size; omega
  have y_b2 := h2.lt
  replace E := E.trans e4; replace hD1 := hD1.ext e4; replace hD2 := hD2.ext e4; replace h1 := h1.ext e4
  have z4 := e4.size
  refine J_storeS' (cs' := [o1, .int .i64 dx1.workers, .int .i64 dx1.cap]) st26 rfl rfl rfl (all_cons (RdD.one (Graph.opD hD1)) (all_cons rfl (all_cons rfl rfl))) h1 (Nat.le_of_ble_eq_true rfl) rfl (fun w5 m1 h1' => ?_)
  replace h1 := h1'
  replace E := E.step m1 (fun g hg => by cases hg; omega); replace hD1 := hD1.mod m1 (fun g hg => by cases hg; omega); replace hD2 := hD2.mod m1 (fun g hg => by cases hg; omega); replace h2 := h2.mod m1 (fun g hg => by cases hg; omega)
  have z5 := m1.size
  refine J_storeS' (cs' := [o2, o3, o4, o5, o6, o7, o8, o9]) st33 rfl rfl rfl (all_cons (RdD.one (Worker.opD hD2).1) (all_cons (RdD.one (Worker.opD hD2).2.1) (all_cons (RdD.one (Worker.opD hD2).2.2.1) (all_cons (RdD.one (Worker.opD hD2).2.2.2.1) (all_cons (RdD.one (Worker.opD hD2).2.2.2.2.1) (all_cons (RdD.one (Worker.opD hD2).2.2.2.2.2.1) (all_cons (RdD.one (Worker.opD hD2).2.2.2.2.2.2.1) (all_cons (RdD.one (Worker.opD hD2).2.2.2.2.2.2.2) rfl)))))))) h2 (Nat.le_of_ble_eq_true rfl) rfl (fun w6 m2 h2' => ?_)
  replace h2 := h2'
  replace E := E.step m2 (fun g hg => by cases hg; omega); replace hD1 := hD1.mod m2 (fun g hg => by cases hg; omega); replace hD2 := hD2.mod m2 (fun g hg => by cases hg; omega); replace h1 := h1.mod m2 (fun g hg => by cases hg; omega)
  have z6 := m2.size
  refine J_done ?_
  refine S_seq ?_
  refine S_reg [true, true, false, true, true, true, false, false, true] rfl rfl ?_
  refine J_st (R_loadS st26 rfl h1.at rfl) rfl (J_st (R_loadS st33 rfl h2.at rfl) rfl ?_)
  refine J_call Try.call6 rfl (c_TakeInput [o1, .int .i64 dx1.workers, .int .i64 dx1.cap] dx1 [o2, o3, o4, o5, o6, o7, o8, o9] dx2 _ (Dat.R.any hD1) (Dat.R.any hD2) (by omega)) rfl (fun _ w7 e5 ho4 => ?_)
  obtain ⟨_, rfl, ho5⟩ := ho4
  have g_ho4 : w.heap.size ≤ w6.heap.size := E.size
  replace E := E.trans e5; replace hD1 := hD1.ext e5; replace hD2 := hD2.ext e5; replace h1 := h1.ext e5; replace h2 := h2.ext e5
  have z7 := e5.size
  have hD3 := Own1.rd ho5
  obtain ⟨o10, o11, o12, o13, o14, o15, o16, o17, rfl, _, _, _, _, _, _, _, _⟩ := Worker.op hD3
  clear ho5
  refine J_st (R_move rfl) rfl (J_st (R_extract rfl rfl) rfl (J_st (R_extract rfl rfl) rfl ?_))
  refine J_alloc st33 rfl (fun b3 w8 e6 s3 h3 => ?_)
  have g_b3 : w.heap.size ≤ b3 := by have := E.size; omega
  have y_b3 := h3.lt
  replace E := E.trans e6; replace hD1 := hD1.ext e6; replace hD2 := hD2.ext e6; replace h1 := h1.ext e6; replace h2 := h2.ext e6; replace hD3 := hD3.ext e6
  have z8 := e6.size
  refine J_storeS' (cs' := [o10, o11, o12, o13, o14, o15, o16, o17]) st33 rfl rfl rfl (all_cons (RdD.one (Worker.opD hD3).1) (all_cons (RdD.one (Worker.opD hD3).2.1) (all_cons (RdD.one (Worker.opD hD3).2.2.1) (all_cons (RdD.one (Worker.opD hD3).2.2.2.1) (all_cons (RdD.one (Worker.opD hD3).2.2.2.2.1) (all_cons (RdD.one (Worker.opD hD3).2.2.2.2.2.1) (all_cons (RdD.one (Worker.opD hD3).2.2.2.2.2.2.1) (all_cons (RdD.one (Worker.opD hD3).2.2.2.2.2.2.2) rfl)))))))) h3 (Nat.le_of_ble_eq_true rfl) rfl (fun w9 m3 h3' => ?_)
  replace h3 := h3'
  replace E := E.step m3 (fun g hg => by cases hg; omega); replace hD1 := hD1.mod m3 (fun g hg => by cases hg; omega); replace hD2 := hD2.mod m3 (fun g hg => by cases hg; omega); replace h1 := h1.mod m3 (fun g hg => by cases hg; omega); replace h2 := h2.mod m3 (fun g hg => by cases hg; omega); replace hD3 := hD3.mod m3 (fun g hg => by cases hg; omega)
  have z9 := m3.size
  refine J_st (R_assign rfl) rfl (J_done ?_)
  refine S_seq ?_
  refine S_sub [(0, vcode), (2, .bool false), (4, .pointer (some ⟨b2, 0, none⟩)), (5, .pointer (some ⟨b3, 0, none⟩)), (6, .bool ((takeM dx1 dx2).2))] ⟨rfl, rfl, rfl, rfl, rfl, trivial⟩ ?_
  refine S_reg [true, false, true] rfl rfl ?_
  refine J_st (R_move rfl) rfl ?_
  refine J_call Try.call7 rfl (s_DrawPlaces vcode code _ (hcode.ext E)) rfl (fun v1 w10 e7 ho6 => ?_)
  obtain ⟨dx3, q3, q4, ho6⟩ := ho6
  have g_ho6 : w.heap.size ≤ w9.heap.size := E.size
  replace E := E.trans e7; replace hD1 := hD1.ext e7; replace hD2 := hD2.ext e7; replace h1 := h1.ext e7; replace h2 := h2.ext e7; replace hD3 := hD3.ext e7; replace h3 := h3.ext e7
  have z10 := e7.size
  refine J_st (R_assign rfl) rfl (J_done ?_)
  refine S_seq ?_
  refine S_reg [true, true, true, true, true, false, false, false, false] rfl rfl ?_
  refine J_st (R_move rfl) rfl ?_
  have hi1 : 0 < dx3.length := (by first | assumption | omega | (simp only [List.length_set]; first | assumption | omega) | (simp only [List.getElem_set_self, List.length_set]; first | assumption | omega) | (simp only [setW, setLk, List.length_set]; first | assumption | omega) | (simp; done))
  refine J_st (R_index (i := 0) sl29 rfl rfl (Own.rd (by decide) ho6) hi1) rfl (J_st (R_load sc3 rfl (((Own.rd (by decide) ho6).get hi1).one 0 rfl)) rfl (J_st (R_rem rfl rfl (by decide) rfl) rfl (J_st (R_build (⟨0, (⟨0, 0⟩ : Stamp), Int.tmod (dx3[0]'hi1) 100, 0⟩ : Record) rfl (fun _ => by kernel_rfl)) rfl ?_)))
  refine J_buildSlice (vs := [.agg (Enc.enc (⟨0, (⟨0, 0⟩ : Stamp), Int.tmod (dx3[0]'hi1) 100, 0⟩ : Record)).toArray]) (css := [[.int .i64 ((⟨0, (⟨0, 0⟩ : Stamp), Int.tmod (dx3[0]'hi1) 100, 0⟩ : Record).op), .int .i64 (((⟨0, (⟨0, 0⟩ : Stamp), Int.tmod (dx3[0]'hi1) 100, 0⟩ : Record).stamp).epoch), .int .i64 (((⟨0, (⟨0, 0⟩ : Stamp), Int.tmod (dx3[0]'hi1) 100, 0⟩ : Record).stamp).turn), .int .i64 ((⟨0, (⟨0, 0⟩ : Stamp), Int.tmod (dx3[0]'hi1) 100, 0⟩ : Record).key), .int .i64 ((⟨0, (⟨0, 0⟩ : Stamp), Int.tmod (dx3[0]'hi1) 100, 0⟩ : Record).val)]]) sl27 rfl rfl ⟨⟨rfl, rfl⟩, trivial⟩ rfl rfl (fun b4 w11 e8 s4 h4 => ?_)
  replace h4 : Blk w11 b4 [.int .i64 ((⟨0, (⟨0, 0⟩ : Stamp), Int.tmod (dx3[0]'hi1) 100, 0⟩ : Record).op), .int .i64 (((⟨0, (⟨0, 0⟩ : Stamp), Int.tmod (dx3[0]'hi1) 100, 0⟩ : Record).stamp).epoch), .int .i64 (((⟨0, (⟨0, 0⟩ : Stamp), Int.tmod (dx3[0]'hi1) 100, 0⟩ : Record).stamp).turn), .int .i64 ((⟨0, (⟨0, 0⟩ : Stamp), Int.tmod (dx3[0]'hi1) 100, 0⟩ : Record).key), .int .i64 ((⟨0, (⟨0, 0⟩ : Stamp), Int.tmod (dx3[0]'hi1) 100, 0⟩ : Record).val)] := h4
  have g_b4 : w.heap.size ≤ b4 := by have := E.size; omega
  have y_b4 := h4.lt
  replace E := E.trans e8; replace hD1 := hD1.ext e8; replace hD2 := hD2.ext e8; replace h1 := h1.ext e8; replace h2 := h2.ext e8; replace hD3 := hD3.ext e8; replace h3 := h3.ext e8; replace ho6 := ho6.ext e8
  have z11 := e8.size
  refine J_call Try.call8 rfl (s_WorkerNew (.slice (some ⟨b4, 0, none⟩) 1 1) [(⟨0, (⟨0, 0⟩ : Stamp), Int.tmod (dx3[0]'hi1) 100, 0⟩ : Record)] _ (Blk.rd (α := Record) (xs := [(⟨0, (⟨0, 0⟩ : Stamp), Int.tmod (dx3[0]'hi1) 100, 0⟩ : Record)]) (by decide) h4 rfl (by simp [maxLen])) (by simp)) rfl (fun _ w12 e9 ho7 => ?_)
  obtain ⟨_, rfl, ho7⟩ := ho7
  have g_ho7 : w.heap.size ≤ w11.heap.size := E.size
  replace E := E.trans e9; replace hD1 := hD1.ext e9; replace hD2 := hD2.ext e9; replace h1 := h1.ext e9; replace h2 := h2.ext e9; replace hD3 := hD3.ext e9; replace h3 := h3.ext e9; replace ho6 := ho6.ext e9; replace h4 := h4.ext e9
  have z12 := e9.size
  have hD4 := Own1.rd ho7
  obtain ⟨o18, o19, o20, o21, o22, o23, o24, o25, rfl, _, _, _, _, _, _, _, _⟩ := Worker.op hD4
  clear ho7
  refine J_alloc st33 rfl (fun b5 w13 e10 s5 h5 => ?_)
  have g_b5 : w.heap.size ≤ b5 := by have := E.size; omega
  have y_b5 := h5.lt
  replace E := E.trans e10; replace hD1 := hD1.ext e10; replace hD2 := hD2.ext e10; replace h1 := h1.ext e10; replace h2 := h2.ext e10; replace hD3 := hD3.ext e10; replace h3 := h3.ext e10; replace ho6 := ho6.ext e10; replace h4 := h4.ext e10; replace hD4 := hD4.ext e10
  have z13 := e10.size
  refine J_storeS' (cs' := [o18, o19, o20, o21, o22, o23, o24, o25]) st33 rfl rfl rfl (all_cons (RdD.one (Worker.opD hD4).1) (all_cons (RdD.one (Worker.opD hD4).2.1) (all_cons (RdD.one (Worker.opD hD4).2.2.1) (all_cons (RdD.one (Worker.opD hD4).2.2.2.1) (all_cons (RdD.one (Worker.opD hD4).2.2.2.2.1) (all_cons (RdD.one (Worker.opD hD4).2.2.2.2.2.1) (all_cons (RdD.one (Worker.opD hD4).2.2.2.2.2.2.1) (all_cons (RdD.one (Worker.opD hD4).2.2.2.2.2.2.2) rfl)))))))) h5 (Nat.le_of_ble_eq_true rfl) rfl (fun w14 m4 h5' => ?_)
  replace h5 := h5'
  replace E := E.step m4 (fun g hg => by cases hg; omega); replace hD1 := hD1.mod m4 (fun g hg => by cases hg; omega); replace hD2 := hD2.mod m4 (fun g hg => by cases hg; omega); replace h1 := h1.mod m4 (fun g hg => by cases hg; omega); replace h2 := h2.mod m4 (fun g hg => by cases hg; omega); replace hD3 := hD3.mod m4 (fun g hg => by cases hg; omega); replace h3 := h3.mod m4 (fun g hg => by cases hg; omega); replace ho6 := ho6.mod m4 (fun g hg => by cases hg; omega); replace h4 := h4.mod m4 (fun g hg => by cases hg; omega); replace hD4 := hD4.mod m4 (fun g hg => by cases hg; omega)
  have z14 := m4.size
  refine J_done ?_
  refine S_seq ?_
  refine S_reg [true, false, true, true, false, true, true, true, false, false, true] rfl rfl ?_
  have hbl1 : ∀ w, (Instr.build 45 ([(0, .int .i64 1)]).toArray).run Try.prog w = .ok (.agg [.int .i64 1, .int .i64 0, .int .i64 0, .slice none 0 0].toArray) w := by clear E; intro w; kernel_rfl
  refine J_st (R_buildC [.int .i64 1, .int .i64 0, .int .i64 0, .slice none 0 0] rfl hbl1) rfl ?_
  refine J_buildSlice (vs := [.agg [.int .i64 1, .int .i64 0, .int .i64 0, .slice none 0 0].toArray]) (css := [[.int .i64 1, .int .i64 0, .int .i64 0, .slice none 0 0]]) sl24 rfl rfl ⟨⟨rfl, rfl⟩, trivial⟩ rfl rfl (fun b6 w15 e11 s6 h6 => ?_)
  replace h6 : Blk w15 b6 [.int .i64 1, .int .i64 0, .int .i64 0, .slice none 0 0] := h6
  have g_b6 : w.heap.size ≤ b6 := by have := E.size; omega
  have y_b6 := h6.lt
  replace E := E.trans e11; replace hD1 := hD1.ext e11; replace hD2 := hD2.ext e11; replace h1 := h1.ext e11; replace h2 := h2.ext e11; replace hD3 := hD3.ext e11; replace h3 := h3.ext e11; replace ho6 := ho6.ext e11; replace h4 := h4.ext e11; replace hD4 := hD4.ext e11; replace h5 := h5.ext e11
  have z15 := e11.size
  have hbl2 : ∀ w, (Instr.build 26 ([(0, .slice (some ⟨b6, 0, none⟩) 1 1), (1, .int .i64 1), (2, .int .i64 1)]).toArray).run Try.prog w = .ok (.agg [.slice (some ⟨b6, 0, none⟩) 1 1, .int .i64 1, .int .i64 1].toArray) w := by clear E; intro w; kernel_rfl
  refine J_st (R_buildC [.slice (some ⟨b6, 0, none⟩) 1 1, .int .i64 1, .int .i64 1] rfl hbl2) rfl (J_st (R_loadS st33 rfl h5.at rfl) rfl ?_)
  have hF1 : OwF w15 b6 w15.heap.size (.slice (some ⟨b6, 0, none⟩) 1 1) [(⟨1, 0, 0, []⟩ : Node)] [b6] := OwF.lit (css := [[.int .i64 1, .int .i64 0, .int .i64 0, .slice none 0 0]]) h6 ⟨(Node.mkO (⟨1, 0, 0, []⟩ : Node) ⟨trivial, trivial⟩ (Own.nil _ _ _ _)), trivial⟩ (by omega) (by omega) (show List.Nodup [b6] from by first | (simp; done) | (simp; omega)) rfl (by simp [maxLen])
  refine J_call Try.call6 rfl (c_TakeInput [.slice (some ⟨b6, 0, none⟩) 1 1, .int .i64 1, .int .i64 1] (⟨[(⟨1, 0, 0, []⟩ : Node)], 1, 1⟩ : Graph) [o18, o19, o20, o21, o22, o23, o24, o25] (workerNew [(⟨0, (⟨0, 0⟩ : Stamp), Int.tmod (dx3[0]'hi1) 100, 0⟩ : Record)]) _ (Graph.mkR (⟨[(⟨1, 0, 0, []⟩ : Node)], 1, 1⟩ : Graph) (RdD.any (OwF.rd hF1))) (Dat.R.any hD4) (by rw [cnt_new]; exact Nat.le_of_ble_eq_true rfl)) rfl (fun _ w16 e12 ho8 => ?_)
  obtain ⟨_, rfl, ho9⟩ := ho8
  have g_ho8 : w.heap.size ≤ w15.heap.size := E.size
  replace E := E.trans e12; replace hD1 := hD1.ext e12; replace hD2 := hD2.ext e12; replace h1 := h1.ext e12; replace h2 := h2.ext e12; replace hD3 := hD3.ext e12; replace h3 := h3.ext e12; replace ho6 := ho6.ext e12; replace h4 := h4.ext e12; replace hD4 := hD4.ext e12; replace h5 := h5.ext e12; replace h6 := h6.ext e12
  have z16 := e12.size
  have hD5 := Own1.rd ho9
  obtain ⟨o26, o27, o28, o29, o30, o31, o32, o33, rfl, _, _, _, _, _, _, _, _⟩ := Worker.op hD5
  clear ho9
  refine J_st (R_move rfl) rfl (J_st (R_extract rfl rfl) rfl (J_st (R_extract rfl rfl) rfl ?_))
  refine J_alloc st33 rfl (fun b7 w17 e13 s7 h7 => ?_)
  have g_b7 : w.heap.size ≤ b7 := by have := E.size; omega
  have y_b7 := h7.lt
  replace E := E.trans e13; replace hD1 := hD1.ext e13; replace hD2 := hD2.ext e13; replace h1 := h1.ext e13; replace h2 := h2.ext e13; replace hD3 := hD3.ext e13; replace h3 := h3.ext e13; replace ho6 := ho6.ext e13; replace h4 := h4.ext e13; replace hD4 := hD4.ext e13; replace h5 := h5.ext e13; replace h6 := h6.ext e13; replace hD5 := hD5.ext e13
  have z17 := e13.size
  refine J_storeS' (cs' := [o26, o27, o28, o29, o30, o31, o32, o33]) st33 rfl rfl rfl (all_cons (RdD.one (Worker.opD hD5).1) (all_cons (RdD.one (Worker.opD hD5).2.1) (all_cons (RdD.one (Worker.opD hD5).2.2.1) (all_cons (RdD.one (Worker.opD hD5).2.2.2.1) (all_cons (RdD.one (Worker.opD hD5).2.2.2.2.1) (all_cons (RdD.one (Worker.opD hD5).2.2.2.2.2.1) (all_cons (RdD.one (Worker.opD hD5).2.2.2.2.2.2.1) (all_cons (RdD.one (Worker.opD hD5).2.2.2.2.2.2.2) rfl)))))))) h7 (Nat.le_of_ble_eq_true rfl) rfl (fun w18 m5 h7' => ?_)
  replace h7 := h7'
  replace E := E.step m5 (fun g hg => by cases hg; omega); replace hD1 := hD1.mod m5 (fun g hg => by cases hg; omega); replace hD2 := hD2.mod m5 (fun g hg => by cases hg; omega); replace h1 := h1.mod m5 (fun g hg => by cases hg; omega); replace h2 := h2.mod m5 (fun g hg => by cases hg; omega); replace hD3 := hD3.mod m5 (fun g hg => by cases hg; omega); replace h3 := h3.mod m5 (fun g hg => by cases hg; omega); replace ho6 := ho6.mod m5 (fun g hg => by cases hg; omega); replace h4 := h4.mod m5 (fun g hg => by cases hg; omega); replace hD4 := hD4.mod m5 (fun g hg => by cases hg; omega); replace h5 := h5.mod m5 (fun g hg => by cases hg; omega); replace h6 := h6.mod m5 (fun g hg => by cases hg; omega); replace hD5 := hD5.mod m5 (fun g hg => by cases hg; omega)
  have z18 := m5.size
  refine J_st (R_assign rfl) rfl (J_done ?_)
  refine S_seq ?_
  refine S_sub [(2, .bool false), (4, .pointer (some ⟨b2, 0, none⟩)), (5, .pointer (some ⟨b3, 0, none⟩)), (6, .bool ((takeM dx1 dx2).2)), (7, v1), (8, .pointer (some ⟨b5, 0, none⟩)), (9, .pointer (some ⟨b7, 0, none⟩)), (10, .bool ((takeM (⟨[(⟨1, 0, 0, []⟩ : Node)], 1, 1⟩ : Graph) (workerNew [(⟨0, (⟨0, 0⟩ : Stamp), Int.tmod (dx3[0]'hi1) 100, 0⟩ : Record)])).2))] ⟨rfl, rfl, rfl, rfl, rfl, rfl, rfl, rfl, trivial⟩ ?_
  refine S_reg [true, false, true, true, true, false, false, true, true, true, false, false, true] rfl rfl ?_
  have hbl3 : ∀ w, (Instr.build 45 ([(0, .int .i64 1)]).toArray).run Try.prog w = .ok (.agg [.int .i64 1, .int .i64 0, .int .i64 0, .slice none 0 0].toArray) w := by clear E; intro w; kernel_rfl
  refine J_st (R_buildC [.int .i64 1, .int .i64 0, .int .i64 0, .slice none 0 0] rfl hbl3) rfl ?_
  refine J_buildSlice (vs := [.agg [.int .i64 1, .int .i64 0, .int .i64 0, .slice none 0 0].toArray]) (css := [[.int .i64 1, .int .i64 0, .int .i64 0, .slice none 0 0]]) sl24 rfl rfl ⟨⟨rfl, rfl⟩, trivial⟩ rfl rfl (fun b8 w19 e14 s8 h8 => ?_)
  replace h8 : Blk w19 b8 [.int .i64 1, .int .i64 0, .int .i64 0, .slice none 0 0] := h8
  have g_b8 : w.heap.size ≤ b8 := by have := E.size; omega
  have y_b8 := h8.lt
  replace E := E.trans e14; replace hD1 := hD1.ext e14; replace hD2 := hD2.ext e14; replace h1 := h1.ext e14; replace h2 := h2.ext e14; replace hD3 := hD3.ext e14; replace h3 := h3.ext e14; replace ho6 := ho6.ext e14; replace h4 := h4.ext e14; replace hD4 := hD4.ext e14; replace h5 := h5.ext e14; replace h6 := h6.ext e14; replace hD5 := hD5.ext e14; replace h7 := h7.ext e14
  have z19 := e14.size
  have hbl4 : ∀ w, (Instr.build 26 ([(0, .slice (some ⟨b8, 0, none⟩) 1 1), (1, .int .i64 1), (2, .int .i64 1)]).toArray).run Try.prog w = .ok (.agg [.slice (some ⟨b8, 0, none⟩) 1 1, .int .i64 1, .int .i64 1].toArray) w := by clear E; intro w; kernel_rfl
  refine J_st (R_buildC [.slice (some ⟨b8, 0, none⟩) 1 1, .int .i64 1, .int .i64 1] rfl hbl4) rfl (J_st (R_loadS st33 rfl h5.at rfl) rfl (J_st (R_build (⟨0, (⟨0, 0⟩ : Stamp), 0, 0⟩ : Record) rfl (fun _ => by kernel_rfl)) rfl ?_))
  refine J_call Try.call9 rfl (s_Kept [o18, o19, o20, o21, o22, o23, o24, o25] (workerNew [(⟨0, (⟨0, 0⟩ : Stamp), Int.tmod (dx3[0]'hi1) 100, 0⟩ : Record)]) (⟨0, (⟨0, 0⟩ : Stamp), 0, 0⟩ : Record) _ (Dat.R.any hD4) (by rw [cnt_new]; simp)) rfl (fun _ w20 e15 ho10 => ?_)
  obtain ⟨_, rfl, ho10⟩ := ho10
  have g_ho10 : w.heap.size ≤ w19.heap.size := E.size
  replace E := E.trans e15; replace hD1 := hD1.ext e15; replace hD2 := hD2.ext e15; replace h1 := h1.ext e15; replace h2 := h2.ext e15; replace hD3 := hD3.ext e15; replace h3 := h3.ext e15; replace ho6 := ho6.ext e15; replace h4 := h4.ext e15; replace hD4 := hD4.ext e15; replace h5 := h5.ext e15; replace h6 := h6.ext e15; replace hD5 := hD5.ext e15; replace h7 := h7.ext e15; replace h8 := h8.ext e15
  have z20 := e15.size
  have hD6 := Own1.rd ho10
  obtain ⟨o34, o35, o36, o37, o38, o39, o40, o41, rfl, _, _, _, _, _, _, _, _⟩ := Worker.op hD6
  clear ho10
  have hF2 : OwF w20 b8 w20.heap.size (.slice (some ⟨b8, 0, none⟩) 1 1) [(⟨1, 0, 0, []⟩ : Node)] [b8] := OwF.lit (css := [[.int .i64 1, .int .i64 0, .int .i64 0, .slice none 0 0]]) h8 ⟨(Node.mkO (⟨1, 0, 0, []⟩ : Node) ⟨trivial, trivial⟩ (Own.nil _ _ _ _)), trivial⟩ (by omega) (by omega) (show List.Nodup [b8] from by first | (simp; done) | (simp; omega)) rfl (by simp [maxLen])
  refine J_call Try.call6 rfl (c_TakeInput [.slice (some ⟨b8, 0, none⟩) 1 1, .int .i64 1, .int .i64 1] (⟨[(⟨1, 0, 0, []⟩ : Node)], 1, 1⟩ : Graph) [o34, o35, o36, o37, o38, o39, o40, o41] (keptW (workerNew [(⟨0, (⟨0, 0⟩ : Stamp), Int.tmod (dx3[0]'hi1) 100, 0⟩ : Record)]) (⟨0, (⟨0, 0⟩ : Stamp), 0, 0⟩ : Record)) _ (Graph.mkR (⟨[(⟨1, 0, 0, []⟩ : Node)], 1, 1⟩ : Graph) (RdD.any (OwF.rd hF2))) (Dat.R.any hD6) (by rw [cnt_kept, cnt_new]; exact Nat.le_of_ble_eq_true rfl)) rfl (fun _ w21 e16 ho11 => ?_)
  obtain ⟨_, rfl, ho12⟩ := ho11
  have g_ho11 : w.heap.size ≤ w20.heap.size := E.size
  replace E := E.trans e16; replace hD1 := hD1.ext e16; replace hD2 := hD2.ext e16; replace h1 := h1.ext e16; replace h2 := h2.ext e16; replace hD3 := hD3.ext e16; replace h3 := h3.ext e16; replace ho6 := ho6.ext e16; replace h4 := h4.ext e16; replace hD4 := hD4.ext e16; replace h5 := h5.ext e16; replace h6 := h6.ext e16; replace hD5 := hD5.ext e16; replace h7 := h7.ext e16; replace h8 := h8.ext e16; replace hD6 := hD6.ext e16
  have z21 := e16.size
  have hD7 := Own1.rd ho12
  obtain ⟨o42, o43, o44, o45, o46, o47, o48, o49, rfl, _, _, _, _, _, _, _, _⟩ := Worker.op hD7
  clear ho12
  refine J_st (R_move rfl) rfl (J_st (R_extract rfl rfl) rfl (J_st (R_extract rfl rfl) rfl ?_))
  refine J_alloc st33 rfl (fun b9 w22 e17 s9 h9 => ?_)
  have g_b9 : w.heap.size ≤ b9 := by have := E.size; omega
  have y_b9 := h9.lt
  replace E := E.trans e17; replace hD1 := hD1.ext e17; replace hD2 := hD2.ext e17; replace h1 := h1.ext e17; replace h2 := h2.ext e17; replace hD3 := hD3.ext e17; replace h3 := h3.ext e17; replace ho6 := ho6.ext e17; replace h4 := h4.ext e17; replace hD4 := hD4.ext e17; replace h5 := h5.ext e17; replace h6 := h6.ext e17; replace hD5 := hD5.ext e17; replace h7 := h7.ext e17; replace h8 := h8.ext e17; replace hD6 := hD6.ext e17; replace hD7 := hD7.ext e17
  have z22 := e17.size
  refine J_storeS' (cs' := [o42, o43, o44, o45, o46, o47, o48, o49]) st33 rfl rfl rfl (all_cons (RdD.one (Worker.opD hD7).1) (all_cons (RdD.one (Worker.opD hD7).2.1) (all_cons (RdD.one (Worker.opD hD7).2.2.1) (all_cons (RdD.one (Worker.opD hD7).2.2.2.1) (all_cons (RdD.one (Worker.opD hD7).2.2.2.2.1) (all_cons (RdD.one (Worker.opD hD7).2.2.2.2.2.1) (all_cons (RdD.one (Worker.opD hD7).2.2.2.2.2.2.1) (all_cons (RdD.one (Worker.opD hD7).2.2.2.2.2.2.2) rfl)))))))) h9 (Nat.le_of_ble_eq_true rfl) rfl (fun w23 m6 h9' => ?_)
  replace h9 := h9'
  replace E := E.step m6 (fun g hg => by cases hg; omega); replace hD1 := hD1.mod m6 (fun g hg => by cases hg; omega); replace hD2 := hD2.mod m6 (fun g hg => by cases hg; omega); replace h1 := h1.mod m6 (fun g hg => by cases hg; omega); replace h2 := h2.mod m6 (fun g hg => by cases hg; omega); replace hD3 := hD3.mod m6 (fun g hg => by cases hg; omega); replace h3 := h3.mod m6 (fun g hg => by cases hg; omega); replace ho6 := ho6.mod m6 (fun g hg => by cases hg; omega); replace h4 := h4.mod m6 (fun g hg => by cases hg; omega); replace hD4 := hD4.mod m6 (fun g hg => by cases hg; omega); replace h5 := h5.mod m6 (fun g hg => by cases hg; omega); replace h6 := h6.mod m6 (fun g hg => by cases hg; omega); replace hD5 := hD5.mod m6 (fun g hg => by cases hg; omega); replace h7 := h7.mod m6 (fun g hg => by cases hg; omega); replace h8 := h8.mod m6 (fun g hg => by cases hg; omega); replace hD6 := hD6.mod m6 (fun g hg => by cases hg; omega); replace hD7 := hD7.mod m6 (fun g hg => by cases hg; omega)
  have z23 := m6.size
  refine J_st (R_assign rfl) rfl (J_done ?_)
  refine S_seq ?_
  clear hD1 h1 h4 hD4 h5 h6 h8 hD6 hD7 h9
  have hpn : 0 < dx3.length := by omega
  have hpk : 0 ≤ Int.tmod (dx3[0]'hpn) 100 ∧ Int.tmod (dx3[0]'hpn) 100 ≤ 99 := by have h := (by assumption : ∀ y ∈ dx3, 0 ≤ y ∧ y < 10000) _ (List.getElem_mem hpn); rw [Int.tmod_eq_emod_of_nonneg h.1]; omega
  have hty := take_one hpk
  have htl : (takeM oneG (workerNew [⟨0, ⟨0, 0⟩, Int.tmod (dx3[0]'hpn) 100, 0⟩])).1.queue.length = 1 := by rw [hty]; rfl
  unfold oneG at htl
  refine S_regD mixed [(0, true), (1, true), (2, true), (3, true), (4, true), (5, true), (6, true), (7, true), (8, true), (9, true), (10, true), (11, true), (12, true), (13, true), (14, true), (15, true), (16, true), (17, true), (18, true), (19, false), (20, true), (21, true), (22, true), (23, true), (24, true), (25, true), (26, true), (27, true), (28, true), (29, true), (30, true), (31, true), (32, true), (33, true), (34, true), (35, true), (36, true), (37, true), (38, true), (39, true), (40, true), (41, true), (42, true), (43, true), (44, true), (45, true), (46, true), (47, true)] (by decide +kernel) rfl (fun w24 e18 => ?_)
  replace E := E.trans e18; replace hD2 := hD2.ext e18; replace h2 := h2.ext e18; replace hD3 := hD3.ext e18; replace h3 := h3.ext e18; replace ho6 := ho6.ext e18; replace hD5 := hD5.ext e18; replace h7 := h7.ext e18
  have z24 := e18.size
  refine J_st (R_move rfl) rfl (J_st (R_not rfl) rfl (J_st (R_move rfl) rfl ?_))
  refine J_cut 44 [(2, .bool false), (4, .pointer (some ⟨b2, 0, none⟩)), (5, .pointer (some ⟨b3, 0, none⟩)), (6, .bool ((takeM dx1 dx2).2)), (7, v1), (8, .pointer (some ⟨b5, 0, none⟩)), (9, .pointer (some ⟨b7, 0, none⟩)), (10, .bool ((takeM (⟨[(⟨1, 0, 0, []⟩ : Node)], 1, 1⟩ : Graph) (workerNew [(⟨0, (⟨0, 0⟩ : Stamp), Int.tmod (dx3[0]'hi1) 100, 0⟩ : Record)])).2)), (11, .pointer (some ⟨b9, 0, none⟩)), (12, .bool ((takeM (⟨[(⟨1, 0, 0, []⟩ : Node)], 1, 1⟩ : Graph) (keptW (workerNew [(⟨0, (⟨0, 0⟩ : Stamp), Int.tmod (dx3[0]'hi1) 100, 0⟩ : Record)]) (⟨0, (⟨0, 0⟩ : Stamp), 0, 0⟩ : Record))).2)), (43, .tuple [.agg [o42, o43, o44, o45, o46, o47, o48, o49].toArray, .bool ((takeM (⟨[(⟨1, 0, 0, []⟩ : Node)], 1, 1⟩ : Graph) (keptW (workerNew [(⟨0, (⟨0, 0⟩ : Stamp), Int.tmod (dx3[0]'hi1) 100, 0⟩ : Record)]) (⟨0, (⟨0, 0⟩ : Stamp), 0, 0⟩ : Record))).2)].toArray), (44, .agg [.int .i64 1, .int .i64 0, .int .i64 0, .slice none 0 0].toArray), (45, .slice (some ⟨b8, 0, none⟩) 1 1), (46, .agg [.slice (some ⟨b8, 0, none⟩) 1 1, .int .i64 1, .int .i64 1].toArray), (47, .agg [o18, o19, o20, o21, o22, o23, o24, o25].toArray), (48, .agg (Enc.enc (⟨0, (⟨0, 0⟩ : Stamp), 0, 0⟩ : Record)).toArray), (49, .agg [o34, o35, o36, o37, o38, o39, o40, o41].toArray), (50, .tuple [.agg [o42, o43, o44, o45, o46, o47, o48, o49].toArray, .bool ((takeM (⟨[(⟨1, 0, 0, []⟩ : Node)], 1, 1⟩ : Graph) (keptW (workerNew [(⟨0, (⟨0, 0⟩ : Stamp), Int.tmod (dx3[0]'hi1) 100, 0⟩ : Record)]) (⟨0, (⟨0, 0⟩ : Stamp), 0, 0⟩ : Record))).2)].toArray), (51, .agg [o42, o43, o44, o45, o46, o47, o48, o49].toArray), (52, .bool ((takeM (⟨[(⟨1, 0, 0, []⟩ : Node)], 1, 1⟩ : Graph) (keptW (workerNew [(⟨0, (⟨0, 0⟩ : Stamp), Int.tmod (dx3[0]'hi1) 100, 0⟩ : Record)]) (⟨0, (⟨0, 0⟩ : Stamp), 0, 0⟩ : Record))).2)), (99, .bool (((((((!((takeM dx1 dx2).2)) || ((((dx2.queue.length : Nat) : Int) == 0) && (((dx2.staged.length : Nat) : Int) == 0))) && (((takeM dx1 dx2).2) || (decide (((takeM dx1 dx2).1) = dx2)))) && ((takeM (⟨[(⟨1, 0, 0, []⟩ : Node)], 1, 1⟩ : Graph) (workerNew [(⟨0, (⟨0, 0⟩ : Stamp), Int.tmod (dx3[0]'hi1) 100, 0⟩ : Record)])).2)) && ((((((takeM (⟨[(⟨1, 0, 0, []⟩ : Node)], 1, 1⟩ : Graph) (workerNew [(⟨0, (⟨0, 0⟩ : Stamp), Int.tmod (dx3[0]'hi1) 100, 0⟩ : Record)])).1).queue).length : Nat) : Int) == 1)) && (((List.getD (((takeM (⟨[(⟨1, 0, 0, []⟩ : Node)], 1, 1⟩ : Graph) (workerNew [(⟨0, (⟨0, 0⟩ : Stamp), Int.tmod (dx3[0]'hi1) 100, 0⟩ : Record)])).1).queue) 0 default).key) == (Int.tmod (List.getD dx3 0 default) 100))) && (!((takeM (⟨[(⟨1, 0, 0, []⟩ : Node)], 1, 1⟩ : Graph) (keptW (workerNew [(⟨0, (⟨0, 0⟩ : Stamp), Int.tmod (dx3[0]'hi1) 100, 0⟩ : Record)]) (⟨0, (⟨0, 0⟩ : Stamp), 0, 0⟩ : Record))).2))))] (fun w' => Ext w w' ∧ w24.heap.size ≤ w'.heap.size ∧ Dat.R w' w1.heap.size w2.heap.size [o2, o3, o4, o5, o6, o7, o8, o9] dx2 ∧ Blk w' b2 [o2, o3, o4, o5, o6, o7, o8, o9] ∧ Dat.R w' w6.heap.size w7.heap.size [o10, o11, o12, o13, o14, o15, o16, o17] ((takeM dx1 dx2).1) ∧ Blk w' b3 [o10, o11, o12, o13, o14, o15, o16, o17] ∧ Own w' w9.heap.size w10.heap.size 1 v1 (List.flatMap (Enc.enc (α := Int)) dx3) ∧ Dat.R w' w15.heap.size w16.heap.size [o26, o27, o28, o29, o30, o31, o32, o33] ((takeM (⟨[(⟨1, 0, 0, []⟩ : Node)], 1, 1⟩ : Graph) (workerNew [(⟨0, (⟨0, 0⟩ : Stamp), Int.tmod (dx3[0]'hi1) 100, 0⟩ : Record)])).1) ∧ Blk w' b7 [o26, o27, o28, o29, o30, o31, o32, o33]) ?_ ?_
  ·refine J_if (gd := 55) rfl rfl (fun hg1 => ?_) (fun hg1 => ?_)
   ·refine J_gdno rfl rfl rfl rfl (J_gdno rfl rfl rfl rfl (J_gdno rfl rfl rfl rfl (J_gdno rfl rfl rfl rfl (J_gdno rfl rfl rfl rfl (J_gdx rfl rfl rfl (J_gdx rfl rfl rfl (J_gdx rfl rfl rfl (J_gdx rfl rfl rfl (J_gdno rfl rfl rfl rfl (J_st (R_pickT rfl rfl) rfl (J_st (R_move rfl) rfl (J_gd rfl rfl (R_move rfl) rfl (J_gd rfl rfl (R_move rfl) rfl ?_)))))))))))))
    refine J_if (gd := 69) rfl rfl (fun hg2 => ?_) (fun hg2 => ?_)
    ·refine J_gdno rfl rfl rfl rfl (J_gdno rfl rfl rfl rfl ?_)
     refine J_ungno rfl rfl rfl rfl ?_
     refine J_gd rfl rfl (R_pickT rfl rfl) rfl (J_st (R_pickT rfl rfl) rfl (J_st (R_move rfl) rfl (J_gd rfl rfl (R_move rfl) rfl (J_st (R_pickT rfl rfl) rfl (J_st (R_move rfl) rfl ?_)))))
     refine J_if (gd := 78) rfl rfl (fun hg3 => ?_) (fun hg3 => ?_)
     ·refine J_gd rfl rfl (R_fieldAddr0 fl33_0 rfl) rfl (J_gd rfl rfl (R_load sc27 rfl (h7.one 0 rfl)) rfl (J_gd rfl rfl (R_len Try.underlying27 rfl (Worker.opD hD5).1.len) rfl (J_gd rfl rfl (R_eql rfl rfl) rfl (J_st (R_pickT rfl rfl) rfl (J_st (R_move rfl) rfl ?_)))))
      refine J_if (gd := 84) rfl rfl (fun hg4 => ?_) (fun hg4 => ?_)
      ·have hg4n : (((takeM (⟨[(⟨1, 0, 0, []⟩ : Node)], 1, 1⟩ : Graph) (workerNew [(⟨0, (⟨0, 0⟩ : Stamp), Int.tmod (dx3[0]'hi1) 100, 0⟩ : Record)])).1).queue).length = 1 := by first | (have h := of_decide_eq_true hg4; omega) | (have h := hg4; simp at h; omega)
       refine J_gd rfl rfl (R_fieldAddr0 fl33_0 rfl) rfl (J_gd rfl rfl (R_load sc27 rfl (h7.one 0 rfl)) rfl (J_gd rfl rfl (R_index (i := 0) sl27 rfl rfl (Worker.opD hD5).1.rd (by first | assumption | omega | (simp only [List.length_set]; first | assumption | omega) | (simp only [List.getElem_set_self, List.length_set]; first | assumption | omega) | (simp only [setW, setLk, List.length_set]; first | assumption | omega) | (simp; done))) rfl (J_gd rfl rfl (R_fieldAddr fl43_2 rfl) rfl (J_gd rfl rfl (R_load sc3 rfl ((RdS.getD (Worker.opD hD5).1.rd (i := 0) (by first | assumption | omega | (simp only [List.length_set]; first | assumption | omega) | (simp only [List.getElem_set_self, List.length_set]; first | assumption | omega) | (simp only [setW, setLk, List.length_set]; first | assumption | omega) | (simp; done))).one 3 rfl)) rfl (J_gd rfl rfl (R_move rfl) rfl ?_)))))
       have hi2 : 0 < dx3.length := (by first | assumption | omega | (simp only [List.length_set]; first | assumption | omega) | (simp only [List.getElem_set_self, List.length_set]; first | assumption | omega) | (simp only [setW, setLk, List.length_set]; first | assumption | omega) | (simp; done))
       refine J_gd rfl rfl (R_index (i := 0) sl29 rfl rfl (Own.rd (by decide) ho6) hi2) rfl (J_gd rfl rfl (R_load sc3 rfl ((RdS.getD (Own.rd (by decide) ho6) (i := 0) hi2).one 0 rfl)) rfl (J_gd rfl rfl (R_rem rfl rfl (by decide) rfl) rfl (J_gd rfl rfl (R_eql rfl rfl) rfl (J_st (R_pickT rfl rfl) rfl (J_st (R_move rfl) rfl ?_)))))
       refine J_if (gd := 96) rfl rfl (fun hg5 => ?_) (fun hg5 => ?_)
       ·refine J_gd rfl rfl (R_move rfl) rfl (J_gd rfl rfl (R_not rfl) rfl (J_st (R_pickT rfl rfl) rfl (J_cutEnd ⟨rfl, rfl, rfl, rfl, rfl, rfl, rfl, rfl, rfl, rfl, rfl, rfl, rfl, rfl, rfl, rfl, rfl, rfl, rfl, rfl, congrArg (fun b => some (Value.bool b)) (show (!((takeM (⟨[(⟨1, 0, 0, []⟩ : Node)], 1, 1⟩ : Graph) (keptW (workerNew [(⟨0, (⟨0, 0⟩ : Stamp), Int.tmod (dx3[0]'hi1) 100, 0⟩ : Record)]) (⟨0, (⟨0, 0⟩ : Stamp), 0, 0⟩ : Record))).2)) = (((((((!((takeM dx1 dx2).2)) || ((((dx2.queue.length : Nat) : Int) == 0) && (((dx2.staged.length : Nat) : Int) == 0))) && (((takeM dx1 dx2).2) || (decide (((takeM dx1 dx2).1) = dx2)))) && ((takeM (⟨[(⟨1, 0, 0, []⟩ : Node)], 1, 1⟩ : Graph) (workerNew [(⟨0, (⟨0, 0⟩ : Stamp), Int.tmod (dx3[0]'hi1) 100, 0⟩ : Record)])).2)) && ((((((takeM (⟨[(⟨1, 0, 0, []⟩ : Node)], 1, 1⟩ : Graph) (workerNew [(⟨0, (⟨0, 0⟩ : Stamp), Int.tmod (dx3[0]'hi1) 100, 0⟩ : Record)])).1).queue).length : Nat) : Int) == 1)) && (((List.getD (((takeM (⟨[(⟨1, 0, 0, []⟩ : Node)], 1, 1⟩ : Graph) (workerNew [(⟨0, (⟨0, 0⟩ : Stamp), Int.tmod (dx3[0]'hi1) 100, 0⟩ : Record)])).1).queue) 0 default).key) == (Int.tmod (List.getD dx3 0 default) 100))) && (!((takeM (⟨[(⟨1, 0, 0, []⟩ : Node)], 1, 1⟩ : Graph) (keptW (workerNew [(⟨0, (⟨0, 0⟩ : Stamp), Int.tmod (dx3[0]'hi1) 100, 0⟩ : Record)]) (⟨0, (⟨0, 0⟩ : Stamp), 0, 0⟩ : Record))).2))) by first | (rw [hg1, hg2, hg3, hg4, hg5] <;> rfl) | (simp [hg1, hg2, hg3, hg4, hg5]; done) | (simp only [nat_nlt] <;> simp)), trivial⟩ ⟨E, (by omega), hD2, h2, hD3, h3, ho6, hD5, h7⟩)))
       ·refine J_gdno rfl rfl rfl rfl (J_gdno rfl rfl rfl rfl (J_st (R_pickF rfl rfl) rfl (J_cutEnd ⟨rfl, rfl, rfl, rfl, rfl, rfl, rfl, rfl, rfl, rfl, rfl, rfl, rfl, rfl, rfl, rfl, rfl, rfl, rfl, rfl, congrArg (fun b => some (Value.bool b)) (show false = (((((((!((takeM dx1 dx2).2)) || ((((dx2.queue.length : Nat) : Int) == 0) && (((dx2.staged.length : Nat) : Int) == 0))) && (((takeM dx1 dx2).2) || (decide (((takeM dx1 dx2).1) = dx2)))) && ((takeM (⟨[(⟨1, 0, 0, []⟩ : Node)], 1, 1⟩ : Graph) (workerNew [(⟨0, (⟨0, 0⟩ : Stamp), Int.tmod (dx3[0]'hi1) 100, 0⟩ : Record)])).2)) && ((((((takeM (⟨[(⟨1, 0, 0, []⟩ : Node)], 1, 1⟩ : Graph) (workerNew [(⟨0, (⟨0, 0⟩ : Stamp), Int.tmod (dx3[0]'hi1) 100, 0⟩ : Record)])).1).queue).length : Nat) : Int) == 1)) && (((List.getD (((takeM (⟨[(⟨1, 0, 0, []⟩ : Node)], 1, 1⟩ : Graph) (workerNew [(⟨0, (⟨0, 0⟩ : Stamp), Int.tmod (dx3[0]'hi1) 100, 0⟩ : Record)])).1).queue) 0 default).key) == (Int.tmod (List.getD dx3 0 default) 100))) && (!((takeM (⟨[(⟨1, 0, 0, []⟩ : Node)], 1, 1⟩ : Graph) (keptW (workerNew [(⟨0, (⟨0, 0⟩ : Stamp), Int.tmod (dx3[0]'hi1) 100, 0⟩ : Record)]) (⟨0, (⟨0, 0⟩ : Stamp), 0, 0⟩ : Record))).2))) by first | (rw [hg1, hg2, hg3, hg4, hg5] <;> rfl) | (simp [hg1, hg2, hg3, hg4, hg5]; done) | (simp only [nat_nlt] <;> simp)), trivial⟩ ⟨E, (by omega), hD2, h2, hD3, h3, ho6, hD5, h7⟩)))
      ·have hg4n : ¬ (((takeM (⟨[(⟨1, 0, 0, []⟩ : Node)], 1, 1⟩ : Graph) (workerNew [(⟨0, (⟨0, 0⟩ : Stamp), Int.tmod (dx3[0]'hi1) 100, 0⟩ : Record)])).1).queue).length = 1 := by first | (have h := of_decide_eq_false hg4; omega) | (have h := hg4; simp at h; omega)
       refine J_gdno rfl rfl rfl rfl (J_gdno rfl rfl rfl rfl (J_gdno rfl rfl rfl rfl (J_gdno rfl rfl rfl rfl (J_gdno rfl rfl rfl rfl (J_gdno rfl rfl rfl rfl (J_gdno rfl rfl rfl rfl (J_gdno rfl rfl rfl rfl (J_gdno rfl rfl rfl rfl (J_gdno rfl rfl rfl rfl (J_st (R_pickF rfl rfl) rfl (J_st (R_move rfl) rfl (J_gdno rfl rfl rfl rfl (J_gdno rfl rfl rfl rfl (J_st (R_pickF rfl rfl) rfl (J_cutEnd ⟨rfl, rfl, rfl, rfl, rfl, rfl, rfl, rfl, rfl, rfl, rfl, rfl, rfl, rfl, rfl, rfl, rfl, rfl, rfl, rfl, congrArg (fun b => some (Value.bool b)) (show false = (((((((!((takeM dx1 dx2).2)) || ((((dx2.queue.length : Nat) : Int) == 0) && (((dx2.staged.length : Nat) : Int) == 0))) && (((takeM dx1 dx2).2) || (decide (((takeM dx1 dx2).1) = dx2)))) && ((takeM (⟨[(⟨1, 0, 0, []⟩ : Node)], 1, 1⟩ : Graph) (workerNew [(⟨0, (⟨0, 0⟩ : Stamp), Int.tmod (dx3[0]'hi1) 100, 0⟩ : Record)])).2)) && ((((((takeM (⟨[(⟨1, 0, 0, []⟩ : Node)], 1, 1⟩ : Graph) (workerNew [(⟨0, (⟨0, 0⟩ : Stamp), Int.tmod (dx3[0]'hi1) 100, 0⟩ : Record)])).1).queue).length : Nat) : Int) == 1)) && (((List.getD (((takeM (⟨[(⟨1, 0, 0, []⟩ : Node)], 1, 1⟩ : Graph) (workerNew [(⟨0, (⟨0, 0⟩ : Stamp), Int.tmod (dx3[0]'hi1) 100, 0⟩ : Record)])).1).queue) 0 default).key) == (Int.tmod (List.getD dx3 0 default) 100))) && (!((takeM (⟨[(⟨1, 0, 0, []⟩ : Node)], 1, 1⟩ : Graph) (keptW (workerNew [(⟨0, (⟨0, 0⟩ : Stamp), Int.tmod (dx3[0]'hi1) 100, 0⟩ : Record)]) (⟨0, (⟨0, 0⟩ : Stamp), 0, 0⟩ : Record))).2))) by first | (rw [hg1, hg2, hg3, hg4] <;> rfl) | (simp [hg1, hg2, hg3, hg4]; done) | (simp only [nat_nlt] <;> simp)), trivial⟩ ⟨E, (by omega), hD2, h2, hD3, h3, ho6, hD5, h7⟩)))))))))))))))
     ·refine J_gdno rfl rfl rfl rfl (J_gdno rfl rfl rfl rfl (J_gdno rfl rfl rfl rfl (J_gdno rfl rfl rfl rfl (J_st (R_pickF rfl rfl) rfl (J_st (R_move rfl) rfl (J_gdno rfl rfl rfl rfl (J_gdno rfl rfl rfl rfl (J_gdno rfl rfl rfl rfl (J_gdno rfl rfl rfl rfl (J_gdno rfl rfl rfl rfl (J_gdno rfl rfl rfl rfl (J_gdno rfl rfl rfl rfl (J_gdno rfl rfl rfl rfl (J_gdno rfl rfl rfl rfl (J_gdno rfl rfl rfl rfl (J_st (R_pickF rfl rfl) rfl (J_st (R_move rfl) rfl (J_gdno rfl rfl rfl rfl (J_gdno rfl rfl rfl rfl (J_st (R_pickF rfl rfl) rfl (J_cutEnd ⟨rfl, rfl, rfl, rfl, rfl, rfl, rfl, rfl, rfl, rfl, rfl, rfl, rfl, rfl, rfl, rfl, rfl, rfl, rfl, rfl, congrArg (fun b => some (Value.bool b)) (show false = (((((((!((takeM dx1 dx2).2)) || ((((dx2.queue.length : Nat) : Int) == 0) && (((dx2.staged.length : Nat) : Int) == 0))) && (((takeM dx1 dx2).2) || (decide (((takeM dx1 dx2).1) = dx2)))) && ((takeM (⟨[(⟨1, 0, 0, []⟩ : Node)], 1, 1⟩ : Graph) (workerNew [(⟨0, (⟨0, 0⟩ : Stamp), Int.tmod (dx3[0]'hi1) 100, 0⟩ : Record)])).2)) && ((((((takeM (⟨[(⟨1, 0, 0, []⟩ : Node)], 1, 1⟩ : Graph) (workerNew [(⟨0, (⟨0, 0⟩ : Stamp), Int.tmod (dx3[0]'hi1) 100, 0⟩ : Record)])).1).queue).length : Nat) : Int) == 1)) && (((List.getD (((takeM (⟨[(⟨1, 0, 0, []⟩ : Node)], 1, 1⟩ : Graph) (workerNew [(⟨0, (⟨0, 0⟩ : Stamp), Int.tmod (dx3[0]'hi1) 100, 0⟩ : Record)])).1).queue) 0 default).key) == (Int.tmod (List.getD dx3 0 default) 100))) && (!((takeM (⟨[(⟨1, 0, 0, []⟩ : Node)], 1, 1⟩ : Graph) (keptW (workerNew [(⟨0, (⟨0, 0⟩ : Stamp), Int.tmod (dx3[0]'hi1) 100, 0⟩ : Record)]) (⟨0, (⟨0, 0⟩ : Stamp), 0, 0⟩ : Record))).2))) by first | (rw [hg1, hg2, hg3] <;> rfl) | (simp [hg1, hg2, hg3]; done) | (simp only [nat_nlt] <;> simp)), trivial⟩ ⟨E, (by omega), hD2, h2, hD3, h3, ho6, hD5, h7⟩)))))))))))))))))))))
    ·refine J_gd rfl rfl (R_loadS st33 rfl h3.at rfl) rfl (J_gd rfl rfl (R_loadS st33 rfl h2.at rfl) rfl ?_)
     refine J_ung rfl rfl ?_
     refine J_call Try.call10 rfl (l_sameWorker [o10, o11, o12, o13, o14, o15, o16, o17] ((takeM dx1 dx2).1) [o2, o3, o4, o5, o6, o7, o8, o9] dx2 _ (Dat.R.any hD3) (Dat.R.any hD2)) rfl (fun _ w26 e19 hv => ?_)
     subst hv
     replace E := E.trans e19; replace hD2 := hD2.ext e19; replace h2 := h2.ext e19; replace hD3 := hD3.ext e19; replace h3 := h3.ext e19; replace ho6 := ho6.ext e19; replace hD5 := hD5.ext e19; replace h7 := h7.ext e19
     have z25 := e19.size
     refine J_gd rfl rfl (R_pickF rfl rfl) rfl (J_st (R_pickT rfl rfl) rfl (J_st (R_move rfl) rfl ?_))
     refine J_if (gd := 75) rfl rfl (fun hg6 => ?_) (fun hg6 => ?_)
     ·refine J_gd rfl rfl (R_move rfl) rfl (J_st (R_pickT rfl rfl) rfl (J_st (R_move rfl) rfl ?_))
      refine J_if (gd := 78) rfl rfl (fun hg7 => ?_) (fun hg7 => ?_)
      ·refine J_gd rfl rfl (R_fieldAddr0 fl33_0 rfl) rfl (J_gd rfl rfl (R_load sc27 rfl (h7.one 0 rfl)) rfl (J_gd rfl rfl (R_len Try.underlying27 rfl (Worker.opD hD5).1.len) rfl (J_gd rfl rfl (R_eql rfl rfl) rfl (J_st (R_pickT rfl rfl) rfl (J_st (R_move rfl) rfl ?_)))))
       refine J_if (gd := 84) rfl rfl (fun hg8 => ?_) (fun hg8 => ?_)
       ·have hg8n : (((takeM (⟨[(⟨1, 0, 0, []⟩ : Node)], 1, 1⟩ : Graph) (workerNew [(⟨0, (⟨0, 0⟩ : Stamp), Int.tmod (dx3[0]'hi1) 100, 0⟩ : Record)])).1).queue).length = 1 := by first | (have h := of_decide_eq_true hg8; omega) | (have h := hg8; simp at h; omega)
        refine J_gd rfl rfl (R_fieldAddr0 fl33_0 rfl) rfl (J_gd rfl rfl (R_load sc27 rfl (h7.one 0 rfl)) rfl (J_gd rfl rfl (R_index (i := 0) sl27 rfl rfl (Worker.opD hD5).1.rd (by first | assumption | omega | (simp only [List.length_set]; first | assumption | omega) | (simp only [List.getElem_set_self, List.length_set]; first | assumption | omega) | (simp only [setW, setLk, List.length_set]; first | assumption | omega) | (simp; done))) rfl (J_gd rfl rfl (R_fieldAddr fl43_2 rfl) rfl (J_gd rfl rfl (R_load sc3 rfl ((RdS.getD (Worker.opD hD5).1.rd (i := 0) (by first | assumption | omega | (simp only [List.length_set]; first | assumption | omega) | (simp only [List.getElem_set_self, List.length_set]; first | assumption | omega) | (simp only [setW, setLk, List.length_set]; first | assumption | omega) | (simp; done))).one 3 rfl)) rfl (J_gd rfl rfl (R_move rfl) rfl ?_)))))
        have hi3 : 0 < dx3.length := (by first | assumption | omega | (simp only [List.length_set]; first | assumption | omega) | (simp only [List.getElem_set_self, List.length_set]; first | assumption | omega) | (simp only [setW, setLk, List.length_set]; first | assumption | omega) | (simp; done))
        refine J_gd rfl rfl (R_index (i := 0) sl29 rfl rfl (Own.rd (by decide) ho6) hi3) rfl (J_gd rfl rfl (R_load sc3 rfl ((RdS.getD (Own.rd (by decide) ho6) (i := 0) hi3).one 0 rfl)) rfl (J_gd rfl rfl (R_rem rfl rfl (by decide) rfl) rfl (J_gd rfl rfl (R_eql rfl rfl) rfl (J_st (R_pickT rfl rfl) rfl (J_st (R_move rfl) rfl ?_)))))
        refine J_if (gd := 96) rfl rfl (fun hg9 => ?_) (fun hg9 => ?_)
        ·refine J_gd rfl rfl (R_move rfl) rfl (J_gd rfl rfl (R_not rfl) rfl (J_st (R_pickT rfl rfl) rfl (J_cutEnd ⟨rfl, rfl, rfl, rfl, rfl, rfl, rfl, rfl, rfl, rfl, rfl, rfl, rfl, rfl, rfl, rfl, rfl, rfl, rfl, rfl, congrArg (fun b => some (Value.bool b)) (show (!((takeM (⟨[(⟨1, 0, 0, []⟩ : Node)], 1, 1⟩ : Graph) (keptW (workerNew [(⟨0, (⟨0, 0⟩ : Stamp), Int.tmod (dx3[0]'hi1) 100, 0⟩ : Record)]) (⟨0, (⟨0, 0⟩ : Stamp), 0, 0⟩ : Record))).2)) = (((((((!((takeM dx1 dx2).2)) || ((((dx2.queue.length : Nat) : Int) == 0) && (((dx2.staged.length : Nat) : Int) == 0))) && (((takeM dx1 dx2).2) || (decide (((takeM dx1 dx2).1) = dx2)))) && ((takeM (⟨[(⟨1, 0, 0, []⟩ : Node)], 1, 1⟩ : Graph) (workerNew [(⟨0, (⟨0, 0⟩ : Stamp), Int.tmod (dx3[0]'hi1) 100, 0⟩ : Record)])).2)) && ((((((takeM (⟨[(⟨1, 0, 0, []⟩ : Node)], 1, 1⟩ : Graph) (workerNew [(⟨0, (⟨0, 0⟩ : Stamp), Int.tmod (dx3[0]'hi1) 100, 0⟩ : Record)])).1).queue).length : Nat) : Int) == 1)) && (((List.getD (((takeM (⟨[(⟨1, 0, 0, []⟩ : Node)], 1, 1⟩ : Graph) (workerNew [(⟨0, (⟨0, 0⟩ : Stamp), Int.tmod (dx3[0]'hi1) 100, 0⟩ : Record)])).1).queue) 0 default).key) == (Int.tmod (List.getD dx3 0 default) 100))) && (!((takeM (⟨[(⟨1, 0, 0, []⟩ : Node)], 1, 1⟩ : Graph) (keptW (workerNew [(⟨0, (⟨0, 0⟩ : Stamp), Int.tmod (dx3[0]'hi1) 100, 0⟩ : Record)]) (⟨0, (⟨0, 0⟩ : Stamp), 0, 0⟩ : Record))).2))) by first | (rw [hg1, hg2, hg6, hg7, hg8, hg9] <;> rfl) | (simp [hg1, hg2, hg6, hg7, hg8, hg9]; done) | (simp only [nat_nlt] <;> simp)), trivial⟩ ⟨E, (by omega), hD2, h2, hD3, h3, ho6, hD5, h7⟩)))
        ·refine J_gdno rfl rfl rfl rfl (J_gdno rfl rfl rfl rfl (J_st (R_pickF rfl rfl) rfl (J_cutEnd ⟨rfl, rfl, rfl, rfl, rfl, rfl, rfl, rfl, rfl, rfl, rfl, rfl, rfl, rfl, rfl, rfl, rfl, rfl, rfl, rfl, congrArg (fun b => some (Value.bool b)) (show false = (((((((!((takeM dx1 dx2).2)) || ((((dx2.queue.length : Nat) : Int) == 0) && (((dx2.staged.length : Nat) : Int) == 0))) && (((takeM dx1 dx2).2) || (decide (((takeM dx1 dx2).1) = dx2)))) && ((takeM (⟨[(⟨1, 0, 0, []⟩ : Node)], 1, 1⟩ : Graph) (workerNew [(⟨0, (⟨0, 0⟩ : Stamp), Int.tmod (dx3[0]'hi1) 100, 0⟩ : Record)])).2)) && ((((((takeM (⟨[(⟨1, 0, 0, []⟩ : Node)], 1, 1⟩ : Graph) (workerNew [(⟨0, (⟨0, 0⟩ : Stamp), Int.tmod (dx3[0]'hi1) 100, 0⟩ : Record)])).1).queue).length : Nat) : Int) == 1)) && (((List.getD (((takeM (⟨[(⟨1, 0, 0, []⟩ : Node)], 1, 1⟩ : Graph) (workerNew [(⟨0, (⟨0, 0⟩ : Stamp), Int.tmod (dx3[0]'hi1) 100, 0⟩ : Record)])).1).queue) 0 default).key) == (Int.tmod (List.getD dx3 0 default) 100))) && (!((takeM (⟨[(⟨1, 0, 0, []⟩ : Node)], 1, 1⟩ : Graph) (keptW (workerNew [(⟨0, (⟨0, 0⟩ : Stamp), Int.tmod (dx3[0]'hi1) 100, 0⟩ : Record)]) (⟨0, (⟨0, 0⟩ : Stamp), 0, 0⟩ : Record))).2))) by first | (rw [hg1, hg2, hg6, hg7, hg8, hg9] <;> rfl) | (simp [hg1, hg2, hg6, hg7, hg8, hg9]; done) | (simp only [nat_nlt] <;> simp)), trivial⟩ ⟨E, (by omega), hD2, h2, hD3, h3, ho6, hD5, h7⟩)))
       ·have hg8n : ¬ (((takeM (⟨[(⟨1, 0, 0, []⟩ : Node)], 1, 1⟩ : Graph) (workerNew [(⟨0, (⟨0, 0⟩ : Stamp), Int.tmod (dx3[0]'hi1) 100, 0⟩ : Record)])).1).queue).length = 1 := by first | (have h := of_decide_eq_false hg8; omega) | (have h := hg8; simp at h; omega)
        refine J_gdno rfl rfl rfl rfl (J_gdno rfl rfl rfl rfl (J_gdno rfl rfl rfl rfl (J_gdno rfl rfl rfl rfl (J_gdno rfl rfl rfl rfl (J_gdno rfl rfl rfl rfl (J_gdno rfl rfl rfl rfl (J_gdno rfl rfl rfl rfl (J_gdno rfl rfl rfl rfl (J_gdno rfl rfl rfl rfl (J_st (R_pickF rfl rfl) rfl (J_st (R_move rfl) rfl (J_gdno rfl rfl rfl rfl (J_gdno rfl rfl rfl rfl (J_st (R_pickF rfl rfl) rfl (J_cutEnd ⟨rfl, rfl, rfl, rfl, rfl, rfl, rfl, rfl, rfl, rfl, rfl, rfl, rfl, rfl, rfl, rfl, rfl, rfl, rfl, rfl, congrArg (fun b => some (Value.bool b)) (show false = (((((((!((takeM dx1 dx2).2)) || ((((dx2.queue.length : Nat) : Int) == 0) && (((dx2.staged.length : Nat) : Int) == 0))) && (((takeM dx1 dx2).2) || (decide (((takeM dx1 dx2).1) = dx2)))) && ((takeM (⟨[(⟨1, 0, 0, []⟩ : Node)], 1, 1⟩ : Graph) (workerNew [(⟨0, (⟨0, 0⟩ : Stamp), Int.tmod (dx3[0]'hi1) 100, 0⟩ : Record)])).2)) && ((((((takeM (⟨[(⟨1, 0, 0, []⟩ : Node)], 1, 1⟩ : Graph) (workerNew [(⟨0, (⟨0, 0⟩ : Stamp), Int.tmod (dx3[0]'hi1) 100, 0⟩ : Record)])).1).queue).length : Nat) : Int) == 1)) && (((List.getD (((takeM (⟨[(⟨1, 0, 0, []⟩ : Node)], 1, 1⟩ : Graph) (workerNew [(⟨0, (⟨0, 0⟩ : Stamp), Int.tmod (dx3[0]'hi1) 100, 0⟩ : Record)])).1).queue) 0 default).key) == (Int.tmod (List.getD dx3 0 default) 100))) && (!((takeM (⟨[(⟨1, 0, 0, []⟩ : Node)], 1, 1⟩ : Graph) (keptW (workerNew [(⟨0, (⟨0, 0⟩ : Stamp), Int.tmod (dx3[0]'hi1) 100, 0⟩ : Record)]) (⟨0, (⟨0, 0⟩ : Stamp), 0, 0⟩ : Record))).2))) by first | (rw [hg1, hg2, hg6, hg7, hg8] <;> rfl) | (simp [hg1, hg2, hg6, hg7, hg8]; done) | (simp only [nat_nlt] <;> simp)), trivial⟩ ⟨E, (by omega), hD2, h2, hD3, h3, ho6, hD5, h7⟩)))))))))))))))
      ·refine J_gdno rfl rfl rfl rfl (J_gdno rfl rfl rfl rfl (J_gdno rfl rfl rfl rfl (J_gdno rfl rfl rfl rfl (J_st (R_pickF rfl rfl) rfl (J_st (R_move rfl) rfl (J_gdno rfl rfl rfl rfl (J_gdno rfl rfl rfl rfl (J_gdno rfl rfl rfl rfl (J_gdno rfl rfl rfl rfl (J_gdno rfl rfl rfl rfl (J_gdno rfl rfl rfl rfl (J_gdno rfl rfl rfl rfl (J_gdno rfl rfl rfl rfl (J_gdno rfl rfl rfl rfl (J_gdno rfl rfl rfl rfl (J_st (R_pickF rfl rfl) rfl (J_st (R_move rfl) rfl (J_gdno rfl rfl rfl rfl (J_gdno rfl rfl rfl rfl (J_st (R_pickF rfl rfl) rfl (J_cutEnd ⟨rfl, rfl, rfl, rfl, rfl, rfl, rfl, rfl, rfl, rfl, rfl, rfl, rfl, rfl, rfl, rfl, rfl, rfl, rfl, rfl, congrArg (fun b => some (Value.bool b)) (show false = (((((((!((takeM dx1 dx2).2)) || ((((dx2.queue.length : Nat) : Int) == 0) && (((dx2.staged.length : Nat) : Int) == 0))) && (((takeM dx1 dx2).2) || (decide (((takeM dx1 dx2).1) = dx2)))) && ((takeM (⟨[(⟨1, 0, 0, []⟩ : Node)], 1, 1⟩ : Graph) (workerNew [(⟨0, (⟨0, 0⟩ : Stamp), Int.tmod (dx3[0]'hi1) 100, 0⟩ : Record)])).2)) && ((((((takeM (⟨[(⟨1, 0, 0, []⟩ : Node)], 1, 1⟩ : Graph) (workerNew [(⟨0, (⟨0, 0⟩ : Stamp), Int.tmod (dx3[0]'hi1) 100, 0⟩ : Record)])).1).queue).length : Nat) : Int) == 1)) && (((List.getD (((takeM (⟨[(⟨1, 0, 0, []⟩ : Node)], 1, 1⟩ : Graph) (workerNew [(⟨0, (⟨0, 0⟩ : Stamp), Int.tmod (dx3[0]'hi1) 100, 0⟩ : Record)])).1).queue) 0 default).key) == (Int.tmod (List.getD dx3 0 default) 100))) && (!((takeM (⟨[(⟨1, 0, 0, []⟩ : Node)], 1, 1⟩ : Graph) (keptW (workerNew [(⟨0, (⟨0, 0⟩ : Stamp), Int.tmod (dx3[0]'hi1) 100, 0⟩ : Record)]) (⟨0, (⟨0, 0⟩ : Stamp), 0, 0⟩ : Record))).2))) by first | (rw [hg1, hg2, hg6, hg7] <;> rfl) | (simp [hg1, hg2, hg6, hg7]; done) | (simp only [nat_nlt] <;> simp)), trivial⟩ ⟨E, (by omega), hD2, h2, hD3, h3, ho6, hD5, h7⟩)))))))))))))))))))))
     ·refine J_gdno rfl rfl rfl rfl (J_st (R_pickF rfl rfl) rfl (J_st (R_move rfl) rfl (J_gdno rfl rfl rfl rfl (J_gdno rfl rfl rfl rfl (J_gdno rfl rfl rfl rfl (J_gdno rfl rfl rfl rfl (J_st (R_pickF rfl rfl) rfl (J_st (R_move rfl) rfl (J_gdno rfl rfl rfl rfl (J_gdno rfl rfl rfl rfl (J_gdno rfl rfl rfl rfl (J_gdno rfl rfl rfl rfl (J_gdno rfl rfl rfl rfl (J_gdno rfl rfl rfl rfl (J_gdno rfl rfl rfl rfl (J_gdno rfl rfl rfl rfl (J_gdno rfl rfl rfl rfl (J_gdno rfl rfl rfl rfl (J_st (R_pickF rfl rfl) rfl (J_st (R_move rfl) rfl (J_gdno rfl rfl rfl rfl (J_gdno rfl rfl rfl rfl (J_st (R_pickF rfl rfl) rfl (J_cutEnd ⟨rfl, rfl, rfl, rfl, rfl, rfl, rfl, rfl, rfl, rfl, rfl, rfl, rfl, rfl, rfl, rfl, rfl, rfl, rfl, rfl, congrArg (fun b => some (Value.bool b)) (show false = (((((((!((takeM dx1 dx2).2)) || ((((dx2.queue.length : Nat) : Int) == 0) && (((dx2.staged.length : Nat) : Int) == 0))) && (((takeM dx1 dx2).2) || (decide (((takeM dx1 dx2).1) = dx2)))) && ((takeM (⟨[(⟨1, 0, 0, []⟩ : Node)], 1, 1⟩ : Graph) (workerNew [(⟨0, (⟨0, 0⟩ : Stamp), Int.tmod (dx3[0]'hi1) 100, 0⟩ : Record)])).2)) && ((((((takeM (⟨[(⟨1, 0, 0, []⟩ : Node)], 1, 1⟩ : Graph) (workerNew [(⟨0, (⟨0, 0⟩ : Stamp), Int.tmod (dx3[0]'hi1) 100, 0⟩ : Record)])).1).queue).length : Nat) : Int) == 1)) && (((List.getD (((takeM (⟨[(⟨1, 0, 0, []⟩ : Node)], 1, 1⟩ : Graph) (workerNew [(⟨0, (⟨0, 0⟩ : Stamp), Int.tmod (dx3[0]'hi1) 100, 0⟩ : Record)])).1).queue) 0 default).key) == (Int.tmod (List.getD dx3 0 default) 100))) && (!((takeM (⟨[(⟨1, 0, 0, []⟩ : Node)], 1, 1⟩ : Graph) (keptW (workerNew [(⟨0, (⟨0, 0⟩ : Stamp), Int.tmod (dx3[0]'hi1) 100, 0⟩ : Record)]) (⟨0, (⟨0, 0⟩ : Stamp), 0, 0⟩ : Record))).2))) by first | (rw [hg1, hg2, hg6] <;> rfl) | (simp [hg1, hg2, hg6]; done) | (simp only [nat_nlt] <;> simp)), trivial⟩ ⟨E, (by omega), hD2, h2, hD3, h3, ho6, hD5, h7⟩))))))))))))))))))))))))
   ·refine J_gd rfl rfl (R_fieldAddr0 fl33_0 rfl) rfl (J_gd rfl rfl (R_load sc27 rfl (h2.one 0 rfl)) rfl (J_gd rfl rfl (R_len Try.underlying27 rfl (Worker.opD hD2).1.len) rfl (J_gd rfl rfl (R_eql rfl rfl) rfl (J_gd rfl rfl (R_move rfl) rfl ?_))))
    refine J_if (gd := 60) rfl rfl (fun hg10 => ?_) (fun hg10 => ?_)
    ·have hg10n : dx2.queue.length = 0 := by first | (have h := of_decide_eq_true hg10; omega) | (have h := hg10; simp at h; omega)
     refine J_gd rfl rfl (R_fieldAddr0 fl33_1 rfl) rfl (J_gd rfl rfl (R_load sc27 rfl (h2.one 1 rfl)) rfl (J_gd rfl rfl (R_len Try.underlying27 rfl (Worker.opD hD2).2.1.len) rfl (J_gd rfl rfl (R_eql rfl rfl) rfl (J_gd rfl rfl (R_pickT rfl rfl) rfl (J_st (R_pickF rfl rfl) rfl (J_st (R_move rfl) rfl ?_))))))
     refine J_if (gd := 67) rfl rfl (fun hg11 => ?_) (fun hg11 => ?_)
     ·have hg11n : dx2.staged.length = 0 := by first | (have h := of_decide_eq_true hg11; omega) | (have h := hg11; simp at h; omega)
      refine J_gd rfl rfl (R_move rfl) rfl (J_gd rfl rfl (R_move rfl) rfl ?_)
      refine J_if (gd := 69) rfl rfl (fun hg12 => ?_) (fun hg12 => ?_)
      ·refine J_gdno rfl rfl rfl rfl (J_gdno rfl rfl rfl rfl ?_)
       refine J_ungno rfl rfl rfl rfl ?_
       refine J_gd rfl rfl (R_pickT rfl rfl) rfl (J_st (R_pickT rfl rfl) rfl (J_st (R_move rfl) rfl (J_gd rfl rfl (R_move rfl) rfl (J_st (R_pickT rfl rfl) rfl (J_st (R_move rfl) rfl ?_)))))
       refine J_if (gd := 78) rfl rfl (fun hg13 => ?_) (fun hg13 => ?_)
       ·refine J_gd rfl rfl (R_fieldAddr0 fl33_0 rfl) rfl (J_gd rfl rfl (R_load sc27 rfl (h7.one 0 rfl)) rfl (J_gd rfl rfl (R_len Try.underlying27 rfl (Worker.opD hD5).1.len) rfl (J_gd rfl rfl (R_eql rfl rfl) rfl (J_st (R_pickT rfl rfl) rfl (J_st (R_move rfl) rfl ?_)))))
        refine J_if (gd := 84) rfl rfl (fun hg14 => ?_) (fun hg14 => ?_)
        ·have hg14n : (((takeM (⟨[(⟨1, 0, 0, []⟩ : Node)], 1, 1⟩ : Graph) (workerNew [(⟨0, (⟨0, 0⟩ : Stamp), Int.tmod (dx3[0]'hi1) 100, 0⟩ : Record)])).1).queue).length = 1 := by first | (have h := of_decide_eq_true hg14; omega) | (have h := hg14; simp at h; omega)
         refine J_gd rfl rfl (R_fieldAddr0 fl33_0 rfl) rfl (J_gd rfl rfl (R_load sc27 rfl (h7.one 0 rfl)) rfl (J_gd rfl rfl (R_index (i := 0) sl27 rfl rfl (Worker.opD hD5).1.rd (by first | assumption | omega | (simp only [List.length_set]; first | assumption | omega) | (simp only [List.getElem_set_self, List.length_set]; first | assumption | omega) | (simp only [setW, setLk, List.length_set]; first | assumption | omega) | (simp; done))) rfl (J_gd rfl rfl (R_fieldAddr fl43_2 rfl) rfl (J_gd rfl rfl (R_load sc3 rfl ((RdS.getD (Worker.opD hD5).1.rd (i := 0) (by first | assumption | omega | (simp only [List.length_set]; first | assumption | omega) | (simp only [List.getElem_set_self, List.length_set]; first | assumption | omega) | (simp only [setW, setLk, List.length_set]; first | assumption | omega) | (simp; done))).one 3 rfl)) rfl (J_gd rfl rfl (R_move rfl) rfl ?_)))))
         have hi4 : 0 < dx3.length := (by first | assumption | omega | (simp only [List.length_set]; first | assumption | omega) | (simp only [List.getElem_set_self, List.length_set]; first | assumption | omega) | (simp only [setW, setLk, List.length_set]; first | assumption | omega) | (simp; done))
         refine J_gd rfl rfl (R_index (i := 0) sl29 rfl rfl (Own.rd (by decide) ho6) hi4) rfl (J_gd rfl rfl (R_load sc3 rfl ((RdS.getD (Own.rd (by decide) ho6) (i := 0) hi4).one 0 rfl)) rfl (J_gd rfl rfl (R_rem rfl rfl (by decide) rfl) rfl (J_gd rfl rfl (R_eql rfl rfl) rfl (J_st (R_pickT rfl rfl) rfl (J_st (R_move rfl) rfl ?_)))))
         refine J_if (gd := 96) rfl rfl (fun hg15 => ?_) (fun hg15 => ?_)
         ·refine J_gd rfl rfl (R_move rfl) rfl (J_gd rfl rfl (R_not rfl) rfl (J_st (R_pickT rfl rfl) rfl (J_cutEnd ⟨rfl, rfl, rfl, rfl, rfl, rfl, rfl, rfl, rfl, rfl, rfl, rfl, rfl, rfl, rfl, rfl, rfl, rfl, rfl, rfl, congrArg (fun b => some (Value.bool b)) (show (!((takeM (⟨[(⟨1, 0, 0, []⟩ : Node)], 1, 1⟩ : Graph) (keptW (workerNew [(⟨0, (⟨0, 0⟩ : Stamp), Int.tmod (dx3[0]'hi1) 100, 0⟩ : Record)]) (⟨0, (⟨0, 0⟩ : Stamp), 0, 0⟩ : Record))).2)) = (((((((!((takeM dx1 dx2).2)) || ((((dx2.queue.length : Nat) : Int) == 0) && (((dx2.staged.length : Nat) : Int) == 0))) && (((takeM dx1 dx2).2) || (decide (((takeM dx1 dx2).1) = dx2)))) && ((takeM (⟨[(⟨1, 0, 0, []⟩ : Node)], 1, 1⟩ : Graph) (workerNew [(⟨0, (⟨0, 0⟩ : Stamp), Int.tmod (dx3[0]'hi1) 100, 0⟩ : Record)])).2)) && ((((((takeM (⟨[(⟨1, 0, 0, []⟩ : Node)], 1, 1⟩ : Graph) (workerNew [(⟨0, (⟨0, 0⟩ : Stamp), Int.tmod (dx3[0]'hi1) 100, 0⟩ : Record)])).1).queue).length : Nat) : Int) == 1)) && (((List.getD (((takeM (⟨[(⟨1, 0, 0, []⟩ : Node)], 1, 1⟩ : Graph) (workerNew [(⟨0, (⟨0, 0⟩ : Stamp), Int.tmod (dx3[0]'hi1) 100, 0⟩ : Record)])).1).queue) 0 default).key) == (Int.tmod (List.getD dx3 0 default) 100))) && (!((takeM (⟨[(⟨1, 0, 0, []⟩ : Node)], 1, 1⟩ : Graph) (keptW (workerNew [(⟨0, (⟨0, 0⟩ : Stamp), Int.tmod (dx3[0]'hi1) 100, 0⟩ : Record)]) (⟨0, (⟨0, 0⟩ : Stamp), 0, 0⟩ : Record))).2))) by first | (rw [hg1, hg10, hg11, hg12, hg13, hg14, hg15] <;> rfl) | (simp [hg1, hg10, hg11, hg12, hg13, hg14, hg15]; done) | (simp only [nat_nlt] <;> simp)), trivial⟩ ⟨E, (by omega), hD2, h2, hD3, h3, ho6, hD5, h7⟩)))
         ·refine J_gdno rfl rfl rfl rfl (J_gdno rfl rfl rfl rfl (J_st (R_pickF rfl rfl) rfl (J_cutEnd ⟨rfl, rfl, rfl, rfl, rfl, rfl, rfl, rfl, rfl, rfl, rfl, rfl, rfl, rfl, rfl, rfl, rfl, rfl, rfl, rfl, congrArg (fun b => some (Value.bool b)) (show false = (((((((!((takeM dx1 dx2).2)) || ((((dx2.queue.length : Nat) : Int) == 0) && (((dx2.staged.length : Nat) : Int) == 0))) && (((takeM dx1 dx2).2) || (decide (((takeM dx1 dx2).1) = dx2)))) && ((takeM (⟨[(⟨1, 0, 0, []⟩ : Node)], 1, 1⟩ : Graph) (workerNew [(⟨0, (⟨0, 0⟩ : Stamp), Int.tmod (dx3[0]'hi1) 100, 0⟩ : Record)])).2)) && ((((((takeM (⟨[(⟨1, 0, 0, []⟩ : Node)], 1, 1⟩ : Graph) (workerNew [(⟨0, (⟨0, 0⟩ : Stamp), Int.tmod (dx3[0]'hi1) 100, 0⟩ : Record)])).1).queue).length : Nat) : Int) == 1)) && (((List.getD (((takeM (⟨[(⟨1, 0, 0, []⟩ : Node)], 1, 1⟩ : Graph) (workerNew [(⟨0, (⟨0, 0⟩ : Stamp), Int.tmod (dx3[0]'hi1) 100, 0⟩ : Record)])).1).queue) 0 default).key) == (Int.tmod (List.getD dx3 0 default) 100))) && (!((takeM (⟨[(⟨1, 0, 0, []⟩ : Node)], 1, 1⟩ : Graph) (keptW (workerNew [(⟨0, (⟨0, 0⟩ : Stamp), Int.tmod (dx3[0]'hi1) 100, 0⟩ : Record)]) (⟨0, (⟨0, 0⟩ : Stamp), 0, 0⟩ : Record))).2))) by first | (rw [hg1, hg10, hg11, hg12, hg13, hg14, hg15] <;> rfl) | (simp [hg1, hg10, hg11, hg12, hg13, hg14, hg15]; done) | (simp only [nat_nlt] <;> simp)), trivial⟩ ⟨E, (by omega), hD2, h2, hD3, h3, ho6, hD5, h7⟩)))
        ·have hg14n : ¬ (((takeM (⟨[(⟨1, 0, 0, []⟩ : Node)], 1, 1⟩ : Graph) (workerNew [(⟨0, (⟨0, 0⟩ : Stamp), Int.tmod (dx3[0]'hi1) 100, 0⟩ : Record)])).1).queue).length = 1 := by first | (have h := of_decide_eq_false hg14; omega) | (have h := hg14; simp at h; omega)
         refine J_gdno rfl rfl rfl rfl (J_gdno rfl rfl rfl rfl (J_gdno rfl rfl rfl rfl (J_gdno rfl rfl rfl rfl (J_gdno rfl rfl rfl rfl (J_gdno rfl rfl rfl rfl (J_gdno rfl rfl rfl rfl (J_gdno rfl rfl rfl rfl (J_gdno rfl rfl rfl rfl (J_gdno rfl rfl rfl rfl (J_st (R_pickF rfl rfl) rfl (J_st (R_move rfl) rfl (J_gdno rfl rfl rfl rfl (J_gdno rfl rfl rfl rfl (J_st (R_pickF rfl rfl) rfl (J_cutEnd ⟨rfl, rfl, rfl, rfl, rfl, rfl, rfl, rfl, rfl, rfl, rfl, rfl, rfl, rfl, rfl, rfl, rfl, rfl, rfl, rfl, congrArg (fun b => some (Value.bool b)) (show false = (((((((!((takeM dx1 dx2).2)) || ((((dx2.queue.length : Nat) : Int) == 0) && (((dx2.staged.length : Nat) : Int) == 0))) && (((takeM dx1 dx2).2) || (decide (((takeM dx1 dx2).1) = dx2)))) && ((takeM (⟨[(⟨1, 0, 0, []⟩ : Node)], 1, 1⟩ : Graph) (workerNew [(⟨0, (⟨0, 0⟩ : Stamp), Int.tmod (dx3[0]'hi1) 100, 0⟩ : Record)])).2)) && ((((((takeM (⟨[(⟨1, 0, 0, []⟩ : Node)], 1, 1⟩ : Graph) (workerNew [(⟨0, (⟨0, 0⟩ : Stamp), Int.tmod (dx3[0]'hi1) 100, 0⟩ : Record)])).1).queue).length : Nat) : Int) == 1)) && (((List.getD (((takeM (⟨[(⟨1, 0, 0, []⟩ : Node)], 1, 1⟩ : Graph) (workerNew [(⟨0, (⟨0, 0⟩ : Stamp), Int.tmod (dx3[0]'hi1) 100, 0⟩ : Record)])).1).queue) 0 default).key) == (Int.tmod (List.getD dx3 0 default) 100))) && (!((takeM (⟨[(⟨1, 0, 0, []⟩ : Node)], 1, 1⟩ : Graph) (keptW (workerNew [(⟨0, (⟨0, 0⟩ : Stamp), Int.tmod (dx3[0]'hi1) 100, 0⟩ : Record)]) (⟨0, (⟨0, 0⟩ : Stamp), 0, 0⟩ : Record))).2))) by first | (rw [hg1, hg10, hg11, hg12, hg13, hg14] <;> rfl) | (simp [hg1, hg10, hg11, hg12, hg13, hg14]; done) | (simp only [nat_nlt] <;> simp)), trivial⟩ ⟨E, (by omega), hD2, h2, hD3, h3, ho6, hD5, h7⟩)))))))))))))))
       ·refine J_gdno rfl rfl rfl rfl (J_gdno rfl rfl rfl rfl (J_gdno rfl rfl rfl rfl (J_gdno rfl rfl rfl rfl (J_st (R_pickF rfl rfl) rfl (J_st (R_move rfl) rfl (J_gdno rfl rfl rfl rfl (J_gdno rfl rfl rfl rfl (J_gdno rfl rfl rfl rfl (J_gdno rfl rfl rfl rfl (J_gdno rfl rfl rfl rfl (J_gdno rfl rfl rfl rfl (J_gdno rfl rfl rfl rfl (J_gdno rfl rfl rfl rfl (J_gdno rfl rfl rfl rfl (J_gdno rfl rfl rfl rfl (J_st (R_pickF rfl rfl) rfl (J_st (R_move rfl) rfl (J_gdno rfl rfl rfl rfl (J_gdno rfl rfl rfl rfl (J_st (R_pickF rfl rfl) rfl (J_cutEnd ⟨rfl, rfl, rfl, rfl, rfl, rfl, rfl, rfl, rfl, rfl, rfl, rfl, rfl, rfl, rfl, rfl, rfl, rfl, rfl, rfl, congrArg (fun b => some (Value.bool b)) (show false = (((((((!((takeM dx1 dx2).2)) || ((((dx2.queue.length : Nat) : Int) == 0) && (((dx2.staged.length : Nat) : Int) == 0))) && (((takeM dx1 dx2).2) || (decide (((takeM dx1 dx2).1) = dx2)))) && ((takeM (⟨[(⟨1, 0, 0, []⟩ : Node)], 1, 1⟩ : Graph) (workerNew [(⟨0, (⟨0, 0⟩ : Stamp), Int.tmod (dx3[0]'hi1) 100, 0⟩ : Record)])).2)) && ((((((takeM (⟨[(⟨1, 0, 0, []⟩ : Node)], 1, 1⟩ : Graph) (workerNew [(⟨0, (⟨0, 0⟩ : Stamp), Int.tmod (dx3[0]'hi1) 100, 0⟩ : Record)])).1).queue).length : Nat) : Int) == 1)) && (((List.getD (((takeM (⟨[(⟨1, 0, 0, []⟩ : Node)], 1, 1⟩ : Graph) (workerNew [(⟨0, (⟨0, 0⟩ : Stamp), Int.tmod (dx3[0]'hi1) 100, 0⟩ : Record)])).1).queue) 0 default).key) == (Int.tmod (List.getD dx3 0 default) 100))) && (!((takeM (⟨[(⟨1, 0, 0, []⟩ : Node)], 1, 1⟩ : Graph) (keptW (workerNew [(⟨0, (⟨0, 0⟩ : Stamp), Int.tmod (dx3[0]'hi1) 100, 0⟩ : Record)]) (⟨0, (⟨0, 0⟩ : Stamp), 0, 0⟩ : Record))).2))) by first | (rw [hg1, hg10, hg11, hg12, hg13] <;> rfl) | (simp [hg1, hg10, hg11, hg12, hg13]; done) | (simp only [nat_nlt] <;> simp)), trivial⟩ ⟨E, (by omega), hD2, h2, hD3, h3, ho6, hD5, h7⟩)))))))))))))))))))))
      ·refine J_gd rfl rfl (R_loadS st33 rfl h3.at rfl) rfl (J_gd rfl rfl (R_loadS st33 rfl h2.at rfl) rfl ?_)
       refine J_ung rfl rfl ?_
       refine J_call Try.call10 rfl (l_sameWorker [o10, o11, o12, o13, o14, o15, o16, o17] ((takeM dx1 dx2).1) [o2, o3, o4, o5, o6, o7, o8, o9] dx2 _ (Dat.R.any hD3) (Dat.R.any hD2)) rfl (fun _ w27 e20 hv => ?_)
       subst hv
       replace E := E.trans e20; replace hD2 := hD2.ext e20; replace h2 := h2.ext e20; replace hD3 := hD3.ext e20; replace h3 := h3.ext e20; replace ho6 := ho6.ext e20; replace hD5 := hD5.ext e20; replace h7 := h7.ext e20
       have z26 := e20.size
       refine J_gd rfl rfl (R_pickF rfl rfl) rfl (J_st (R_pickT rfl rfl) rfl (J_st (R_move rfl) rfl ?_))
       refine J_if (gd := 75) rfl rfl (fun hg16 => ?_) (fun hg16 => ?_)
       ·refine J_gd rfl rfl (R_move rfl) rfl (J_st (R_pickT rfl rfl) rfl (J_st (R_move rfl) rfl ?_))
        refine J_if (gd := 78) rfl rfl (fun hg17 => ?_) (fun hg17 => ?_)
        ·refine J_gd rfl rfl (R_fieldAddr0 fl33_0 rfl) rfl (J_gd rfl rfl (R_load sc27 rfl (h7.one 0 rfl)) rfl (J_gd rfl rfl (R_len Try.underlying27 rfl (Worker.opD hD5).1.len) rfl (J_gd rfl rfl (R_eql rfl rfl) rfl (J_st (R_pickT rfl rfl) rfl (J_st (R_move rfl) rfl ?_)))))
         refine J_if (gd := 84) rfl rfl (fun hg18 => ?_) (fun hg18 => ?_)
         ·have hg18n : (((takeM (⟨[(⟨1, 0, 0, []⟩ : Node)], 1, 1⟩ : Graph) (workerNew [(⟨0, (⟨0, 0⟩ : Stamp), Int.tmod (dx3[0]'hi1) 100, 0⟩ : Record)])).1).queue).length = 1 := by first | (have h := of_decide_eq_true hg18; omega) | (have h := hg18; simp at h; omega)
          refine J_gd rfl rfl (R_fieldAddr0 fl33_0 rfl) rfl (J_gd rfl rfl (R_load sc27 rfl (h7.one 0 rfl)) rfl (J_gd rfl rfl (R_index (i := 0) sl27 rfl rfl (Worker.opD hD5).1.rd (by first | assumption | omega | (simp only [List.length_set]; first | assumption | omega) | (simp only [List.getElem_set_self, List.length_set]; first | assumption | omega) | (simp only [setW, setLk, List.length_set]; first | assumption | omega) | (simp; done))) rfl (J_gd rfl rfl (R_fieldAddr fl43_2 rfl) rfl (J_gd rfl rfl (R_load sc3 rfl ((RdS.getD (Worker.opD hD5).1.rd (i := 0) (by first | assumption | omega | (simp only [List.length_set]; first | assumption | omega) | (simp only [List.getElem_set_self, List.length_set]; first | assumption | omega) | (simp only [setW, setLk, List.length_set]; first | assumption | omega) | (simp; done))).one 3 rfl)) rfl (J_gd rfl rfl (R_move rfl) rfl ?_)))))
          have hi5 : 0 < dx3.length := (by first | assumption | omega | (simp only [List.length_set]; first | assumption | omega) | (simp only [List.getElem_set_self, List.length_set]; first | assumption | omega) | (simp only [setW, setLk, List.length_set]; first | assumption | omega) | (simp; done))
          refine J_gd rfl rfl (R_index (i := 0) sl29 rfl rfl (Own.rd (by decide) ho6) hi5) rfl (J_gd rfl rfl (R_load sc3 rfl ((RdS.getD (Own.rd (by decide) ho6) (i := 0) hi5).one 0 rfl)) rfl (J_gd rfl rfl (R_rem rfl rfl (by decide) rfl) rfl (J_gd rfl rfl (R_eql rfl rfl) rfl (J_st (R_pickT rfl rfl) rfl (J_st (R_move rfl) rfl ?_)))))
          refine J_if (gd := 96) rfl rfl (fun hg19 => ?_) (fun hg19 => ?_)
          ·refine J_gd rfl rfl (R_move rfl) rfl (J_gd rfl rfl (R_not rfl) rfl (J_st (R_pickT rfl rfl) rfl (J_cutEnd ⟨rfl, rfl, rfl, rfl, rfl, rfl, rfl, rfl, rfl, rfl, rfl, rfl, rfl, rfl, rfl, rfl, rfl, rfl, rfl, rfl, congrArg (fun b => some (Value.bool b)) (show (!((takeM (⟨[(⟨1, 0, 0, []⟩ : Node)], 1, 1⟩ : Graph) (keptW (workerNew [(⟨0, (⟨0, 0⟩ : Stamp), Int.tmod (dx3[0]'hi1) 100, 0⟩ : Record)]) (⟨0, (⟨0, 0⟩ : Stamp), 0, 0⟩ : Record))).2)) = (((((((!((takeM dx1 dx2).2)) || ((((dx2.queue.length : Nat) : Int) == 0) && (((dx2.staged.length : Nat) : Int) == 0))) && (((takeM dx1 dx2).2) || (decide (((takeM dx1 dx2).1) = dx2)))) && ((takeM (⟨[(⟨1, 0, 0, []⟩ : Node)], 1, 1⟩ : Graph) (workerNew [(⟨0, (⟨0, 0⟩ : Stamp), Int.tmod (dx3[0]'hi1) 100, 0⟩ : Record)])).2)) && ((((((takeM (⟨[(⟨1, 0, 0, []⟩ : Node)], 1, 1⟩ : Graph) (workerNew [(⟨0, (⟨0, 0⟩ : Stamp), Int.tmod (dx3[0]'hi1) 100, 0⟩ : Record)])).1).queue).length : Nat) : Int) == 1)) && (((List.getD (((takeM (⟨[(⟨1, 0, 0, []⟩ : Node)], 1, 1⟩ : Graph) (workerNew [(⟨0, (⟨0, 0⟩ : Stamp), Int.tmod (dx3[0]'hi1) 100, 0⟩ : Record)])).1).queue) 0 default).key) == (Int.tmod (List.getD dx3 0 default) 100))) && (!((takeM (⟨[(⟨1, 0, 0, []⟩ : Node)], 1, 1⟩ : Graph) (keptW (workerNew [(⟨0, (⟨0, 0⟩ : Stamp), Int.tmod (dx3[0]'hi1) 100, 0⟩ : Record)]) (⟨0, (⟨0, 0⟩ : Stamp), 0, 0⟩ : Record))).2))) by first | (rw [hg1, hg10, hg11, hg12, hg16, hg17, hg18, hg19] <;> rfl) | (simp [hg1, hg10, hg11, hg12, hg16, hg17, hg18, hg19]; done) | (simp only [nat_nlt] <;> simp)), trivial⟩ ⟨E, (by omega), hD2, h2, hD3, h3, ho6, hD5, h7⟩)))
          ·refine J_gdno rfl rfl rfl rfl (J_gdno rfl rfl rfl rfl (J_st (R_pickF rfl rfl) rfl (J_cutEnd ⟨rfl, rfl, rfl, rfl, rfl, rfl, rfl, rfl, rfl, rfl, rfl, rfl, rfl, rfl, rfl, rfl, rfl, rfl, rfl, rfl, congrArg (fun b => some (Value.bool b)) (show false = (((((((!((takeM dx1 dx2).2)) || ((((dx2.queue.length : Nat) : Int) == 0) && (((dx2.staged.length : Nat) : Int) == 0))) && (((takeM dx1 dx2).2) || (decide (((takeM dx1 dx2).1) = dx2)))) && ((takeM (⟨[(⟨1, 0, 0, []⟩ : Node)], 1, 1⟩ : Graph) (workerNew [(⟨0, (⟨0, 0⟩ : Stamp), Int.tmod (dx3[0]'hi1) 100, 0⟩ : Record)])).2)) && ((((((takeM (⟨[(⟨1, 0, 0, []⟩ : Node)], 1, 1⟩ : Graph) (workerNew [(⟨0, (⟨0, 0⟩ : Stamp), Int.tmod (dx3[0]'hi1) 100, 0⟩ : Record)])).1).queue).length : Nat) : Int) == 1)) && (((List.getD (((takeM (⟨[(⟨1, 0, 0, []⟩ : Node)], 1, 1⟩ : Graph) (workerNew [(⟨0, (⟨0, 0⟩ : Stamp), Int.tmod (dx3[0]'hi1) 100, 0⟩ : Record)])).1).queue) 0 default).key) == (Int.tmod (List.getD dx3 0 default) 100))) && (!((takeM (⟨[(⟨1, 0, 0, []⟩ : Node)], 1, 1⟩ : Graph) (keptW (workerNew [(⟨0, (⟨0, 0⟩ : Stamp), Int.tmod (dx3[0]'hi1) 100, 0⟩ : Record)]) (⟨0, (⟨0, 0⟩ : Stamp), 0, 0⟩ : Record))).2))) by first | (rw [hg1, hg10, hg11, hg12, hg16, hg17, hg18, hg19] <;> rfl) | (simp [hg1, hg10, hg11, hg12, hg16, hg17, hg18, hg19]; done) | (simp only [nat_nlt] <;> simp)), trivial⟩ ⟨E, (by omega), hD2, h2, hD3, h3, ho6, hD5, h7⟩)))
         ·have hg18n : ¬ (((takeM (⟨[(⟨1, 0, 0, []⟩ : Node)], 1, 1⟩ : Graph) (workerNew [(⟨0, (⟨0, 0⟩ : Stamp), Int.tmod (dx3[0]'hi1) 100, 0⟩ : Record)])).1).queue).length = 1 := by first | (have h := of_decide_eq_false hg18; omega) | (have h := hg18; simp at h; omega)
          refine J_gdno rfl rfl rfl rfl (J_gdno rfl rfl rfl rfl (J_gdno rfl rfl rfl rfl (J_gdno rfl rfl rfl rfl (J_gdno rfl rfl rfl rfl (J_gdno rfl rfl rfl rfl (J_gdno rfl rfl rfl rfl (J_gdno rfl rfl rfl rfl (J_gdno rfl rfl rfl rfl (J_gdno rfl rfl rfl rfl (J_st (R_pickF rfl rfl) rfl (J_st (R_move rfl) rfl (J_gdno rfl rfl rfl rfl (J_gdno rfl rfl rfl rfl (J_st (R_pickF rfl rfl) rfl (J_cutEnd ⟨rfl, rfl, rfl, rfl, rfl, rfl, rfl, rfl, rfl, rfl, rfl, rfl, rfl, rfl, rfl, rfl, rfl, rfl, rfl, rfl, congrArg (fun b => some (Value.bool b)) (show false = (((((((!((takeM dx1 dx2).2)) || ((((dx2.queue.length : Nat) : Int) == 0) && (((dx2.staged.length : Nat) : Int) == 0))) && (((takeM dx1 dx2).2) || (decide (((takeM dx1 dx2).1) = dx2)))) && ((takeM (⟨[(⟨1, 0, 0, []⟩ : Node)], 1, 1⟩ : Graph) (workerNew [(⟨0, (⟨0, 0⟩ : Stamp), Int.tmod (dx3[0]'hi1) 100, 0⟩ : Record)])).2)) && ((((((takeM (⟨[(⟨1, 0, 0, []⟩ : Node)], 1, 1⟩ : Graph) (workerNew [(⟨0, (⟨0, 0⟩ : Stamp), Int.tmod (dx3[0]'hi1) 100, 0⟩ : Record)])).1).queue).length : Nat) : Int) == 1)) && (((List.getD (((takeM (⟨[(⟨1, 0, 0, []⟩ : Node)], 1, 1⟩ : Graph) (workerNew [(⟨0, (⟨0, 0⟩ : Stamp), Int.tmod (dx3[0]'hi1) 100, 0⟩ : Record)])).1).queue) 0 default).key) == (Int.tmod (List.getD dx3 0 default) 100))) && (!((takeM (⟨[(⟨1, 0, 0, []⟩ : Node)], 1, 1⟩ : Graph) (keptW (workerNew [(⟨0, (⟨0, 0⟩ : Stamp), Int.tmod (dx3[0]'hi1) 100, 0⟩ : Record)]) (⟨0, (⟨0, 0⟩ : Stamp), 0, 0⟩ : Record))).2))) by first | (rw [hg1, hg10, hg11, hg12, hg16, hg17, hg18] <;> rfl) | (simp [hg1, hg10, hg11, hg12, hg16, hg17, hg18]; done) | (simp only [nat_nlt] <;> simp)), trivial⟩ ⟨E, (by omega), hD2, h2, hD3, h3, ho6, hD5, h7⟩)))))))))))))))
        ·refine J_gdno rfl rfl rfl rfl (J_gdno rfl rfl rfl rfl (J_gdno rfl rfl rfl rfl (J_gdno rfl rfl rfl rfl (J_st (R_pickF rfl rfl) rfl (J_st (R_move rfl) rfl (J_gdno rfl rfl rfl rfl (J_gdno rfl rfl rfl rfl (J_gdno rfl rfl rfl rfl (J_gdno rfl rfl rfl rfl (J_gdno rfl rfl rfl rfl (J_gdno rfl rfl rfl rfl (J_gdno rfl rfl rfl rfl (J_gdno rfl rfl rfl rfl (J_gdno rfl rfl rfl rfl (J_gdno rfl rfl rfl rfl (J_st (R_pickF rfl rfl) rfl (J_st (R_move rfl) rfl (J_gdno rfl rfl rfl rfl (J_gdno rfl rfl rfl rfl (J_st (R_pickF rfl rfl) rfl (J_cutEnd ⟨rfl, rfl, rfl, rfl, rfl, rfl, rfl, rfl, rfl, rfl, rfl, rfl, rfl, rfl, rfl, rfl, rfl, rfl, rfl, rfl, congrArg (fun b => some (Value.bool b)) (show false = (((((((!((takeM dx1 dx2).2)) || ((((dx2.queue.length : Nat) : Int) == 0) && (((dx2.staged.length : Nat) : Int) == 0))) && (((takeM dx1 dx2).2) || (decide (((takeM dx1 dx2).1) = dx2)))) && ((takeM (⟨[(⟨1, 0, 0, []⟩ : Node)], 1, 1⟩ : Graph) (workerNew [(⟨0, (⟨0, 0⟩ : Stamp), Int.tmod (dx3[0]'hi1) 100, 0⟩ : Record)])).2)) && ((((((takeM (⟨[(⟨1, 0, 0, []⟩ : Node)], 1, 1⟩ : Graph) (workerNew [(⟨0, (⟨0, 0⟩ : Stamp), Int.tmod (dx3[0]'hi1) 100, 0⟩ : Record)])).1).queue).length : Nat) : Int) == 1)) && (((List.getD (((takeM (⟨[(⟨1, 0, 0, []⟩ : Node)], 1, 1⟩ : Graph) (workerNew [(⟨0, (⟨0, 0⟩ : Stamp), Int.tmod (dx3[0]'hi1) 100, 0⟩ : Record)])).1).queue) 0 default).key) == (Int.tmod (List.getD dx3 0 default) 100))) && (!((takeM (⟨[(⟨1, 0, 0, []⟩ : Node)], 1, 1⟩ : Graph) (keptW (workerNew [(⟨0, (⟨0, 0⟩ : Stamp), Int.tmod (dx3[0]'hi1) 100, 0⟩ : Record)]) (⟨0, (⟨0, 0⟩ : Stamp), 0, 0⟩ : Record))).2))) by first | (rw [hg1, hg10, hg11, hg12, hg16, hg17] <;> rfl) | (simp [hg1, hg10, hg11, hg12, hg16, hg17]; done) | (simp only [nat_nlt] <;> simp)), trivial⟩ ⟨E, (by omega), hD2, h2, hD3, h3, ho6, hD5, h7⟩)))))))))))))))))))))
       ·refine J_gdno rfl rfl rfl rfl (J_st (R_pickF rfl rfl) rfl (J_st (R_move rfl) rfl (J_gdno rfl rfl rfl rfl (J_gdno rfl rfl rfl rfl (J_gdno rfl rfl rfl rfl (J_gdno rfl rfl rfl rfl (J_st (R_pickF rfl rfl) rfl (J_st (R_move rfl) rfl (J_gdno rfl rfl rfl rfl (J_gdno rfl rfl rfl rfl (J_gdno rfl rfl rfl rfl (J_gdno rfl rfl rfl rfl (J_gdno rfl rfl rfl rfl (J_gdno rfl rfl rfl rfl (J_gdno rfl rfl rfl rfl (J_gdno rfl rfl rfl rfl (J_gdno rfl rfl rfl rfl (J_gdno rfl rfl rfl rfl (J_st (R_pickF rfl rfl) rfl (J_st (R_move rfl) rfl (J_gdno rfl rfl rfl rfl (J_gdno rfl rfl rfl rfl (J_st (R_pickF rfl rfl) rfl (J_cutEnd ⟨rfl, rfl, rfl, rfl, rfl, rfl, rfl, rfl, rfl, rfl, rfl, rfl, rfl, rfl, rfl, rfl, rfl, rfl, rfl, rfl, congrArg (fun b => some (Value.bool b)) (show false = (((((((!((takeM dx1 dx2).2)) || ((((dx2.queue.length : Nat) : Int) == 0) && (((dx2.staged.length : Nat) : Int) == 0))) && (((takeM dx1 dx2).2) || (decide (((takeM dx1 dx2).1) = dx2)))) && ((takeM (⟨[(⟨1, 0, 0, []⟩ : Node)], 1, 1⟩ : Graph) (workerNew [(⟨0, (⟨0, 0⟩ : Stamp), Int.tmod (dx3[0]'hi1) 100, 0⟩ : Record)])).2)) && ((((((takeM (⟨[(⟨1, 0, 0, []⟩ : Node)], 1, 1⟩ : Graph) (workerNew [(⟨0, (⟨0, 0⟩ : Stamp), Int.tmod (dx3[0]'hi1) 100, 0⟩ : Record)])).1).queue).length : Nat) : Int) == 1)) && (((List.getD (((takeM (⟨[(⟨1, 0, 0, []⟩ : Node)], 1, 1⟩ : Graph) (workerNew [(⟨0, (⟨0, 0⟩ : Stamp), Int.tmod (dx3[0]'hi1) 100, 0⟩ : Record)])).1).queue) 0 default).key) == (Int.tmod (List.getD dx3 0 default) 100))) && (!((takeM (⟨[(⟨1, 0, 0, []⟩ : Node)], 1, 1⟩ : Graph) (keptW (workerNew [(⟨0, (⟨0, 0⟩ : Stamp), Int.tmod (dx3[0]'hi1) 100, 0⟩ : Record)]) (⟨0, (⟨0, 0⟩ : Stamp), 0, 0⟩ : Record))).2))) by first | (rw [hg1, hg10, hg11, hg12, hg16] <;> rfl) | (simp [hg1, hg10, hg11, hg12, hg16]; done) | (simp only [nat_nlt] <;> simp)), trivial⟩ ⟨E, (by omega), hD2, h2, hD3, h3, ho6, hD5, h7⟩))))))))))))))))))))))))
     ·have hg11n : ¬ dx2.staged.length = 0 := by first | (have h := of_decide_eq_false hg11; omega) | (have h := hg11; simp at h; omega)
      refine J_gdno rfl rfl rfl rfl (J_gdno rfl rfl rfl rfl (J_gdx rfl rfl rfl (J_gdx rfl rfl rfl ?_)))
      refine J_ungx rfl rfl rfl ?_
      refine J_gdno rfl rfl rfl rfl (J_st (R_pickF rfl rfl) rfl (J_st (R_move rfl) rfl (J_gdno rfl rfl rfl rfl (J_st (R_pickF rfl rfl) rfl (J_st (R_move rfl) rfl (J_gdno rfl rfl rfl rfl (J_gdno rfl rfl rfl rfl (J_gdno rfl rfl rfl rfl (J_gdno rfl rfl rfl rfl (J_st (R_pickF rfl rfl) rfl (J_st (R_move rfl) rfl (J_gdno rfl rfl rfl rfl (J_gdno rfl rfl rfl rfl (J_gdno rfl rfl rfl rfl (J_gdno rfl rfl rfl rfl (J_gdno rfl rfl rfl rfl (J_gdno rfl rfl rfl rfl (J_gdno rfl rfl rfl rfl (J_gdno rfl rfl rfl rfl (J_gdno rfl rfl rfl rfl (J_gdno rfl rfl rfl rfl (J_st (R_pickF rfl rfl) rfl (J_st (R_move rfl) rfl (J_gdno rfl rfl rfl rfl (J_gdno rfl rfl rfl rfl (J_st (R_pickF rfl rfl) rfl (J_cutEnd ⟨rfl, rfl, rfl, rfl, rfl, rfl, rfl, rfl, rfl, rfl, rfl, rfl, rfl, rfl, rfl, rfl, rfl, rfl, rfl, rfl, congrArg (fun b => some (Value.bool b)) (show false = (((((((!((takeM dx1 dx2).2)) || ((((dx2.queue.length : Nat) : Int) == 0) && (((dx2.staged.length : Nat) : Int) == 0))) && (((takeM dx1 dx2).2) || (decide (((takeM dx1 dx2).1) = dx2)))) && ((takeM (⟨[(⟨1, 0, 0, []⟩ : Node)], 1, 1⟩ : Graph) (workerNew [(⟨0, (⟨0, 0⟩ : Stamp), Int.tmod (dx3[0]'hi1) 100, 0⟩ : Record)])).2)) && ((((((takeM (⟨[(⟨1, 0, 0, []⟩ : Node)], 1, 1⟩ : Graph) (workerNew [(⟨0, (⟨0, 0⟩ : Stamp), Int.tmod (dx3[0]'hi1) 100, 0⟩ : Record)])).1).queue).length : Nat) : Int) == 1)) && (((List.getD (((takeM (⟨[(⟨1, 0, 0, []⟩ : Node)], 1, 1⟩ : Graph) (workerNew [(⟨0, (⟨0, 0⟩ : Stamp), Int.tmod (dx3[0]'hi1) 100, 0⟩ : Record)])).1).queue) 0 default).key) == (Int.tmod (List.getD dx3 0 default) 100))) && (!((takeM (⟨[(⟨1, 0, 0, []⟩ : Node)], 1, 1⟩ : Graph) (keptW (workerNew [(⟨0, (⟨0, 0⟩ : Stamp), Int.tmod (dx3[0]'hi1) 100, 0⟩ : Record)]) (⟨0, (⟨0, 0⟩ : Stamp), 0, 0⟩ : Record))).2))) by first | (rw [hg1, hg10, hg11] <;> rfl) | (simp [hg1, hg10, hg11]; done) | (simp only [nat_nlt] <;> simp)), trivial⟩ ⟨E, (by omega), hD2, h2, hD3, h3, ho6, hD5, h7⟩)))))))))))))))))))))))))))
    ·have hg10n : ¬ dx2.queue.length = 0 := by first | (have h := of_decide_eq_false hg10; omega) | (have h := hg10; simp at h; omega)
     refine J_gdno rfl rfl rfl rfl (J_gdno rfl rfl rfl rfl (J_gdno rfl rfl rfl rfl (J_gdno rfl rfl rfl rfl (J_gd rfl rfl (R_pickF rfl rfl) rfl (J_st (R_pickF rfl rfl) rfl (J_st (R_move rfl) rfl (J_gdno rfl rfl rfl rfl (J_gdno rfl rfl rfl rfl (J_gdx rfl rfl rfl (J_gdx rfl rfl rfl ?_))))))))))
     refine J_ungx rfl rfl rfl ?_
     refine J_gdno rfl rfl rfl rfl (J_st (R_pickF rfl rfl) rfl (J_st (R_move rfl) rfl (J_gdno rfl rfl rfl rfl (J_st (R_pickF rfl rfl) rfl (J_st (R_move rfl) rfl (J_gdno rfl rfl rfl rfl (J_gdno rfl rfl rfl rfl (J_gdno rfl rfl rfl rfl (J_gdno rfl rfl rfl rfl (J_st (R_pickF rfl rfl) rfl (J_st (R_move rfl) rfl (J_gdno rfl rfl rfl rfl (J_gdno rfl rfl rfl rfl (J_gdno rfl rfl rfl rfl (J_gdno rfl rfl rfl rfl (J_gdno rfl rfl rfl rfl (J_gdno rfl rfl rfl rfl (J_gdno rfl rfl rfl rfl (J_gdno rfl rfl rfl rfl (J_gdno rfl rfl rfl rfl (J_gdno rfl rfl rfl rfl (J_st (R_pickF rfl rfl) rfl (J_st (R_move rfl) rfl (J_gdno rfl rfl rfl rfl (J_gdno rfl rfl rfl rfl (J_st (R_pickF rfl rfl) rfl (J_cutEnd ⟨rfl, rfl, rfl, rfl, rfl, rfl, rfl, rfl, rfl, rfl, rfl, rfl, rfl, rfl, rfl, rfl, rfl, rfl, rfl, rfl, congrArg (fun b => some (Value.bool b)) (show false = (((((((!((takeM dx1 dx2).2)) || ((((dx2.queue.length : Nat) : Int) == 0) && (((dx2.staged.length : Nat) : Int) == 0))) && (((takeM dx1 dx2).2) || (decide (((takeM dx1 dx2).1) = dx2)))) && ((takeM (⟨[(⟨1, 0, 0, []⟩ : Node)], 1, 1⟩ : Graph) (workerNew [(⟨0, (⟨0, 0⟩ : Stamp), Int.tmod (dx3[0]'hi1) 100, 0⟩ : Record)])).2)) && ((((((takeM (⟨[(⟨1, 0, 0, []⟩ : Node)], 1, 1⟩ : Graph) (workerNew [(⟨0, (⟨0, 0⟩ : Stamp), Int.tmod (dx3[0]'hi1) 100, 0⟩ : Record)])).1).queue).length : Nat) : Int) == 1)) && (((List.getD (((takeM (⟨[(⟨1, 0, 0, []⟩ : Node)], 1, 1⟩ : Graph) (workerNew [(⟨0, (⟨0, 0⟩ : Stamp), Int.tmod (dx3[0]'hi1) 100, 0⟩ : Record)])).1).queue) 0 default).key) == (Int.tmod (List.getD dx3 0 default) 100))) && (!((takeM (⟨[(⟨1, 0, 0, []⟩ : Node)], 1, 1⟩ : Graph) (keptW (workerNew [(⟨0, (⟨0, 0⟩ : Stamp), Int.tmod (dx3[0]'hi1) 100, 0⟩ : Record)]) (⟨0, (⟨0, 0⟩ : Stamp), 0, 0⟩ : Record))).2))) by first | (rw [hg1, hg10] <;> rfl) | (simp [hg1, hg10]; done) | (simp only [nat_nlt] <;> simp)), trivial⟩ ⟨E, (by omega), hD2, h2, hD3, h3, ho6, hD5, h7⟩)))))))))))))))))))))))))))
  clear E hD2 h2 hD3 h3 ho6 hD5 h7
  rintro w25 ⟨E, z27, hD2, h2, hD3, h3, ho6, hD5, h7⟩
  refine J_st (R_assign rfl) rfl (J_done ?_)
  refine S_ret (E_done1 rfl rfl E ?_)
  exact congrArg Value.bool (back_fin dx1 dx2 hpk (by rw [getD_at hpn]))

end Go.Proofs.Yteljajfcppmeiaa
