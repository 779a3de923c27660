/- What the functions that the laws call come to: a contract each; no condition. -/
import Derived.Test.YtckahblgeepfjaaFns3
namespace Go.Proofs.Ytckahblgeepfjaa
open Go Go.Proofs.Ytckahblgeepfjaa.X Go.Proofs
set_option maxHeartbeats 4000000 in
set_option maxRecDepth 20000 in
theorem s_l08Any (lo : Nat) (vb : Value) (bs : List Byt) (w : World) (hcu : CurO w lo vb bs) (hbs : RdD w 0 lo vb bs) : CtR Try.prog 37 [.pointer (some ⟨lo, 0, none⟩)] w lo (lo + 1) (fun v w' => ∃ (dr0 : Graph), smG dr0 ∧ CurO w' lo vb bs ∧ ∃ cs, v = .agg cs.toArray ∧ Dat.R w' w.heap.size w'.heap.size cs dr0) := by
 have y_lo := CurO.lt hcu
 refine ctR_of Try.func37 rfl Try.ntmps37 rfl ?_
 refine S_sub [(0, .pointer (some ⟨lo, 0, none⟩))] ⟨rfl, trivial⟩ ?_
 have E : ModR w w lo (lo + 1) := ModR.refl w lo (lo + 1)
 refine S_seq ?_
 refine S_reg [false] rfl rfl ?_
 refine J_alloc st26 rfl (fun b1 w1 e1 s1 h1 => ?_)
 have g_b1 : w.heap.size ≤ b1 := by have := E.size; omega
 have y_b1 := h1.lt
 replace E := E.ext e1; replace hcu := hcu.ext e1
 have z1 := e1.size
 refine J_done ?_
 refine S_seq ?_
 refine S_reg [true, false, false, false] rfl rfl ?_
 refine J_st (R_move rfl) rfl ?_
 refine J_callR Try.call35 rfl rfl (s_l08Graph lo vb bs _ hcu (RdD.modR hbs E (.inl (Nat.le_refl _)))) rfl (fun _ w2 e2 ho1 => ?_)
 obtain ⟨dx1, q1, q2, q3, hcu', ho1⟩ := ho1
 replace hcu := hcu'
 obtain ⟨o1, rfl, ho1⟩ := ho1
 have g_ho1 : w.heap.size ≤ w1.heap.size := E.size
 replace E := E.trans e2 (by omega) (by omega); replace h1 := h1.modR e2 (by omega)
 have z2 := e2.size
 refine J_alloc st26 rfl (fun b2 w3 e3 s2 h2 => ?_)
 have g_b2 : w.heap.size ≤ b2 := by have := E.size; omega
 have y_b2 := h2.lt
 replace E := E.ext e3; replace hcu := hcu.ext e3; replace h1 := h1.ext e3; replace ho1 := ho1.ext e3
 have z3 := e3.size
 refine J_storeS' (cs' := [o1, .int .i64 dx1.workers, .int .i64 dx1.cap]) st26 rfl rfl rfl (all_cons (RdD.one (OwS.rd ho1)) (all_cons rfl (all_cons rfl rfl))) h2 (Nat.le_of_ble_eq_true rfl) rfl (fun w4 m1 h2' => ?_)
 replace h2 := h2'
 replace E := E.mod m1 (fun g hg => by cases hg; omega); replace hcu := hcu.mod m1 (fun g hg => by cases hg; omega); replace h1 := h1.mod m1 (fun g hg => by cases hg; omega); replace ho1 := ho1.mod m1 (fun g hg => by cases hg; omega)
 have z4 := m1.size
 refine J_done ?_
 refine S_seq ?_
 obtain ⟨f1, hF1⟩ := OwS.owf ho1
 have sp1 : DjL [f1, [b2]] := ⟨⟨(show Dj f1 [b2] from fun x hx hc => by have := OwF.in2 hF1 x hx; simp at hc; omega), trivial⟩, trivial, trivial⟩
 refine S_reg [true, true, true, true, false, true] rfl rfl ?_
 refine J_st (R_move rfl) rfl (J_st (R_fieldAddr0 fl26_0 rfl) rfl (J_st (R_load sc24 rfl (h2.one 0 rfl)) rfl (J_st (R_len Try.underlying24 rfl (OwF.rd hF1).len) rfl ?_)))
 refine J_callR Try.call55 rfl rfl (s_l01Below lo vb bs ((dx1.nodes.length : Nat) : Int) _ hcu (RdD.modR hbs E (.inl (Nat.le_refl _)))) rfl (fun _ w5 e4 hv => ?_)
 obtain ⟨dx2, q4, q5, hcu', hv⟩ := hv
 replace hcu := hcu'
 subst hv
 replace E := E.trans e4 (by omega) (by omega); replace h1 := h1.modR e4 (by omega); replace h2 := h2.modR e4 (by omega); replace hF1 := hF1.modR e4 (by omega)
 have z5 := e4.size
 refine J_st (R_assign rfl) rfl (J_done ?_)
 refine S_seq ?_
 refine S_seq ?_
 refine S_reg [true, false] rfl rfl ?_
 refine J_st (R_move rfl) rfl ?_
 refine J_callR Try.call55 rfl rfl (s_l01Below lo vb bs 12 _ hcu (RdD.modR hbs E (.inl (Nat.le_refl _)))) rfl (fun _ w6 e5 hv => ?_)
 obtain ⟨dx3, q6, q7, hcu', hv⟩ := hv
 replace hcu := hcu'
 subst hv
 replace E := E.trans e5 (by omega) (by omega); replace h1 := h1.modR e5 (by omega); replace h2 := h2.modR e5 (by omega); replace hF1 := hF1.modR e5 (by omega)
 have z6 := e5.size
 refine J_done ?_
 refine S_block ?_
 refine S_seq ?_
 refine S_reg [true, true] rfl rfl ?_
 refine J_st (R_eql rfl rfl) rfl (J_st (R_assign rfl) rfl (J_done ?_))
 refine S_cond rfl (fun hc1 => ?_) (fun hc1 => ?_)
 ·have hc1n : dx3 = 0 := by first | (have h := of_decide_eq_true hc1; omega) | (have h := hc1; simp at h; omega)
  have hi1 : dx2 < dx1.nodes.length := (by first | assumption | omega | (simp only [List.length_set]; first | assumption | omega) | (simp only [List.getElem_set_self, List.length_set]; first | assumption | omega) | (simp only [setW, setLk, List.length_set]; first | assumption | omega) | (simp; done))
  have hK1 : OwK w6 f1 w6 w1.heap.size w2.heap.size o1 (dx1.nodes.take dx2 ++ dx1.nodes[dx2] :: dx1.nodes.drop (dx2 + 1)) := ⟨by rw [← self_split hi1]; exact hF1, Kq.refl _ _⟩
  have hfl1 := OwF.in2 hF1
  obtain ⟨_, ho2, hrow1⟩ := OwK.focus hK1
  obtain ⟨o2, rfl, sp2, hw1⟩ := Node.opO ho2
  clear hK1 hF1
  have hl1 : (dx1.nodes.take dx2).length = dx2 := by first | (simp; done) | (simp; omega)
  have hn1 : dx2 + 1 + (dx1.nodes.drop (dx2 + 1)).length = dx1.nodes.length := by first | (simp; done) | (simp; omega)
  replace hrow1 : RowR f1 w6 w1.heap.size w2.heap.size o1 (dx1.nodes.take dx2) [.int .i64 ((dx1.nodes[dx2]'hi1).kind), .int .i64 ((dx1.nodes[dx2]'hi1).a), .int .i64 ((dx1.nodes[dx2]'hi1).b), o2] (dx1.nodes.drop (dx2 + 1)) := hrow1
  refine S_regW mixed [0, 2, 3] [(0, true), (1, true), (2, true), (3, true), (4, false), (5, true)] [(6, false)] (by decide +kernel) rfl rfl (fun w' => ModR w w' lo (lo + 1) ∧ w6.heap.size ≤ w'.heap.size ∧ CurO w' lo vb bs ∧ Blk w' b1 [.slice none 0 0, .int .i64 0, .int .i64 0] ∧ Blk w' b2 [o1, .int .i64 dx1.workers, .int .i64 dx1.cap] ∧ Own w' w1.heap.size w2.heap.size 1 o2 (List.flatMap (Enc.enc (α := Int)) ((dx1.nodes[dx2]'hi1).outs)) ∧ RowR f1 w' w1.heap.size w2.heap.size o1 (dx1.nodes.take dx2) [.int .i64 ((dx1.nodes[dx2]'hi1).kind), .int .i64 ((dx1.nodes[dx2]'hi1).a), .int .i64 ((dx1.nodes[dx2]'hi1).b), o2] (dx1.nodes.drop (dx2 + 1))) (fun w7 e6 => ?_)
  replace E := E.ext e6; replace hcu := hcu.ext e6; replace h1 := h1.ext e6; replace h2 := h2.ext e6; replace hw1 := hw1.ext e6; replace hrow1 := hrow1.ext e6
  have z7 := e6.size
  refine ⟨⟨E, (by omega), hcu, h1, h2, hw1, hrow1⟩, ?_⟩
  refine JC_pu rfl (fun wX => R_fieldAddr0 fl26_0 rfl) rfl ?_
  refine JC_st rfl (fun wX hX => by obtain ⟨E, zX, hcu, h1, h2, hw1, hrow1⟩ := hX; exact R_load sc24 rfl (h2.one 0 rfl)) rfl ?_
  refine JC_pu rfl (fun wX => R_move rfl) rfl ?_
  refine JC_pu rfl (fun wX => R_move rfl) rfl ?_
  refine JC_un rfl ?_
  refine J_callR Try.call70 rfl rfl (s_l07Any lo vb bs _ hcu (RdD.modR hbs E (.inl (Nat.le_refl _)))) rfl (fun _ w8 e7 ho3 => ?_)
  obtain ⟨dx4, q8, hcu', ho3⟩ := ho3
  replace hcu := hcu'
  obtain ⟨_, rfl, ho3⟩ := ho3
  have g_ho3 : w.heap.size ≤ w7.heap.size := E.size
  replace E := E.trans e7 (by omega) (by omega); replace h1 := h1.modR e7 (by omega); replace h2 := h2.modR e7 (by omega); replace hw1 := hw1.modR e7 (by omega); replace hrow1 := hrow1.modR e7 (fun b hb => by have := hfl1 b hb; omega)
  have z8 := e7.size
  obtain ⟨o3, rfl, sp3, hw2⟩ := Node.opO ho3
  refine JC_next ⟨E, (by omega), hcu, h1, h2, hw1, hrow1⟩ ?_
  refine JC_st rfl (fun wX hX => by obtain ⟨E, zX, hcu, h1, h2, hw1, hrow1⟩ := hX; exact R_index (i := dx2) sl24 rfl rfl (RowK.same1 hrow1 hl1 hn1) (by first | (simp; done) | (simp; omega))) rfl ?_
  refine JC_end ?_
  refine J_storeEx rfl rfl (RowK.setN (N := w6.heap.size) (lo2 := w1.heap.size) (hi2 := w8.heap.size) (cs' := [.int .i64 dx4.kind, .int .i64 dx4.a, .int .i64 dx4.b, o3]) st42 hrow1 hl1 (Node.mkO dx4 sp3 (Own.widen hw2 (by omega) (by omega))) ⟨(fun _ h => absurd h List.not_mem_nil), (fun _ h => absurd h List.not_mem_nil), (fun _ h => absurd h List.not_mem_nil), (fun b hb => .inr (by have := Own.in2 hw2 b hb; omega)), trivial⟩ (fun b hb => by have := hfl1 b hb; omega) (by omega) (by omega)) (fun w9 m2 hR => ?_)
  obtain ⟨f2, hF1, hin1⟩ := hR
  have kq1 := Mod.kq (l := f1) m2 (RowK.v_mem hrow1)
  have hqb := RowK.blk hrow1
  replace E := E.mod m2 (fun g hg => by have := hqb g hg; omega); replace hcu := hcu.mod m2 (fun g hg => by have := hqb g hg; omega); replace h1 := h1.mod m2 (fun g hg => by have := hqb g hg; omega); replace h2 := Blk.kp h2 (Kq.kp kq1 (sp1.1.1).symm)
  have z9 := m2.size
  clear hqb hrow1
  have nh1 : b1 ∉ f2 := fun hx => (hin1 b1 hx).elim (fun h => by have := hfl1 b1 h; omega) (fun h => by omega)
  replace sp1 := DjL.set (N := w6.heap.size) hin1 0 rfl sp1 ⟨(fun b hb => by have := hfl1 b hb; omega), (fun b hb => by simp at hb; omega), trivial⟩
  replace sp1 : DjL [f2, [b2]] := sp1
  rw [← set_split hi1] at hF1
  clear hfl1
  refine J_done ?_
  refine S_nil (E_inB ?_)
  refine S_seq ?_
  refine S_reg [true, false] rfl rfl ?_
  refine J_st (R_loadS st26 rfl h2.at rfl) rfl ?_
  refine J_storeS' (cs' := [o1, .int .i64 dx1.workers, .int .i64 dx1.cap]) st26 rfl rfl rfl (all_cons (RdD.one (OwF.rd hF1)) (all_cons rfl (all_cons rfl rfl))) h1 (Nat.le_of_ble_eq_true rfl) rfl (fun w10 m3 h1' => ?_)
  replace h1 := h1'
  replace E := E.mod m3 (fun g hg => by cases hg; omega); replace hcu := hcu.mod m3 (fun g hg => by cases hg; omega); replace h2 := h2.mod m3 (fun g hg => by cases hg; omega); replace hF1 := hF1.mod m3 (fun g hg => by cases hg; omega)
  have z10 := m3.size
  refine J_done ?_
  refine S_ret (E_doneC rfl rfl (run_loadVar_st st26 h1.at rfl) E ?_)
  exact ⟨(⟨List.set dx1.nodes dx2 dx4, dx1.workers, dx1.cap⟩ : Graph), (by first | exact ⟨hl9, hns⟩ | exact smG_any q1 | exact smG_take q1 | exact smG_set q1 (by assumption) | exact smG_set1 q1 q3 | exact smG_any (by assumption) | assumption), hcu, ⟨_, rfl, Graph.mkR (⟨List.set dx1.nodes dx2 dx4, dx1.workers, dx1.cap⟩ : Graph) (RdD.widen (OwF.rd hF1) (by have := E.size; omega) (by omega))⟩⟩
 ·have hc1n : ¬ dx3 = 0 := by first | (have h := of_decide_eq_false hc1; omega) | (have h := hc1; simp at h; omega)
  refine S_seq ?_
  refine S_reg [true, true] rfl rfl ?_
  refine J_st (R_eql rfl rfl) rfl (J_st (R_assign rfl) rfl (J_done ?_))
  refine S_cond rfl (fun hc2 => ?_) (fun hc2 => ?_)
  ·have hc2n : dx3 = 1 := by first | (have h := of_decide_eq_true hc2; omega) | (have h := hc2; simp at h; omega)
   refine S_reg [true, false, false, true, false] rfl rfl ?_
   refine J_st (R_move rfl) rfl ?_
   refine J_buildSlice (vs := [.int .i64 0, .int .i64 4, .int .i64 5, .int .i64 (-1)]) (css := [[.int .i64 0], [.int .i64 4], [.int .i64 5], [.int .i64 (-1)]]) sl40 rfl rfl ⟨⟨rfl, rfl⟩, ⟨rfl, rfl⟩, ⟨rfl, rfl⟩, ⟨rfl, rfl⟩, trivial⟩ rfl rfl (fun b3 w11 e8 s3 h3 => ?_)
   replace h3 : Blk w11 b3 [.int .i64 0, .int .i64 4, .int .i64 5, .int .i64 (-1)] := h3
   have g_b3 : w.heap.size ≤ b3 := by have := E.size; omega
   have y_b3 := h3.lt
   replace E := E.ext e8; replace hcu := hcu.ext e8; replace h1 := h1.ext e8; replace h2 := h2.ext e8; replace hF1 := hF1.ext e8
   have z11 := e8.size
   refine J_callR Try.call56 rfl rfl (s_l01PickInt lo vb bs (.slice (some ⟨b3, 0, none⟩) 4 4) [0, 4, 5, (-1)] _ hcu (RdD.modR hbs E (.inl (Nat.le_refl _))) (fun wX eX => (Blk.rd (α := Int) (xs := [0, 4, 5, (-1)]) (by decide) (Blk.modR h3 eX (by omega)) rfl (by simp [maxLen]))) (by decide)) rfl (fun _ w12 e9 hv => ?_)
   obtain ⟨dx5, q9, hcu', hv⟩ := hv
   replace hcu := hcu'
   subst hv
   replace E := E.trans e9 (by omega) (by omega); replace h1 := h1.modR e9 (by omega); replace h2 := h2.modR e9 (by omega); replace hF1 := hF1.modR e9 (by omega); replace h3 := h3.modR e9 (by omega)
   have z12 := e9.size
   refine J_st (R_fieldAddr0 fl26_1 rfl) rfl ?_
   refine J_store' (cs' := [o1, .int .i64 dx5, .int .i64 dx1.cap]) sc3 rfl rfl rfl h2 (Nat.le_of_ble_eq_true rfl) rfl (fun w13 m4 h2' => ?_)
   replace h2 := h2'
   have kq2 := Mod.kq (l := [b2]) m4 (fun g hg => by cases hg; simp)
   replace E := E.mod m4 (fun g hg => by cases hg; omega); replace hcu := hcu.mod m4 (fun g hg => by cases hg; omega); replace h1 := h1.mod m4 (fun g hg => by cases hg; omega); replace hF1 := OwF.kp hF1 (Kq.kp kq2 sp1.1.1); replace h3 := h3.mod m4 (fun g hg => by cases hg; omega)
   have z13 := m4.size
   refine J_done ?_
   refine S_nil (E_inB ?_)
   refine S_seq ?_
   refine S_reg [true, false] rfl rfl ?_
   refine J_st (R_loadS st26 rfl h2.at rfl) rfl ?_
   refine J_storeS' (cs' := [o1, .int .i64 dx5, .int .i64 dx1.cap]) st26 rfl rfl rfl (all_cons (RdD.one (OwF.rd hF1)) (all_cons rfl (all_cons rfl rfl))) h1 (Nat.le_of_ble_eq_true rfl) rfl (fun w14 m5 h1' => ?_)
   replace h1 := h1'
   replace E := E.mod m5 (fun g hg => by cases hg; omega); replace hcu := hcu.mod m5 (fun g hg => by cases hg; omega); replace h2 := h2.mod m5 (fun g hg => by cases hg; omega); replace hF1 := hF1.mod m5 (fun g hg => by cases hg; omega); replace h3 := h3.mod m5 (fun g hg => by cases hg; omega)
   have z14 := m5.size
   refine J_done ?_
   refine S_ret (E_doneC rfl rfl (run_loadVar_st st26 h1.at rfl) E ?_)
   exact ⟨(⟨dx1.nodes, dx5, dx1.cap⟩ : Graph), (by first | exact ⟨hl9, hns⟩ | exact smG_any q1 | exact smG_take q1 | exact smG_set q1 (by assumption) | exact smG_set1 q1 q3 | exact smG_any (by assumption) | assumption), hcu, ⟨_, rfl, Graph.mkR (⟨dx1.nodes, dx5, dx1.cap⟩ : Graph) (RdD.widen (OwF.rd hF1) (by have := E.size; omega) (by omega))⟩⟩
  ·have hc2n : ¬ dx3 = 1 := by first | (have h := of_decide_eq_false hc2; omega) | (have h := hc2; simp at h; omega)
   refine S_seq ?_
   refine S_reg [true, true] rfl rfl ?_
   refine J_st (R_eql rfl rfl) rfl (J_st (R_assign rfl) rfl (J_done ?_))
   refine S_cond rfl (fun hc3 => ?_) (fun hc3 => ?_)
   ·have hc3n : dx3 = 2 := by first | (have h := of_decide_eq_true hc3; omega) | (have h := hc3; simp at h; omega)
    refine S_reg [true, false, false, true, false] rfl rfl ?_
    refine J_st (R_move rfl) rfl ?_
    refine J_buildSlice (vs := [.int .i64 0, .int .i64 4, .int .i64 5, .int .i64 (-1)]) (css := [[.int .i64 0], [.int .i64 4], [.int .i64 5], [.int .i64 (-1)]]) sl40 rfl rfl ⟨⟨rfl, rfl⟩, ⟨rfl, rfl⟩, ⟨rfl, rfl⟩, ⟨rfl, rfl⟩, trivial⟩ rfl rfl (fun b4 w15 e10 s4 h4 => ?_)
    replace h4 : Blk w15 b4 [.int .i64 0, .int .i64 4, .int .i64 5, .int .i64 (-1)] := h4
    have g_b4 : w.heap.size ≤ b4 := by have := E.size; omega
    have y_b4 := h4.lt
    replace E := E.ext e10; replace hcu := hcu.ext e10; replace h1 := h1.ext e10; replace h2 := h2.ext e10; replace hF1 := hF1.ext e10
    have z15 := e10.size
    refine J_callR Try.call56 rfl rfl (s_l01PickInt lo vb bs (.slice (some ⟨b4, 0, none⟩) 4 4) [0, 4, 5, (-1)] _ hcu (RdD.modR hbs E (.inl (Nat.le_refl _))) (fun wX eX => (Blk.rd (α := Int) (xs := [0, 4, 5, (-1)]) (by decide) (Blk.modR h4 eX (by omega)) rfl (by simp [maxLen]))) (by decide)) rfl (fun _ w16 e11 hv => ?_)
    obtain ⟨dx6, q10, hcu', hv⟩ := hv
    replace hcu := hcu'
    subst hv
    replace E := E.trans e11 (by omega) (by omega); replace h1 := h1.modR e11 (by omega); replace h2 := h2.modR e11 (by omega); replace hF1 := hF1.modR e11 (by omega); replace h4 := h4.modR e11 (by omega)
    have z16 := e11.size
    refine J_st (R_fieldAddr0 fl26_2 rfl) rfl ?_
    refine J_store' (cs' := [o1, .int .i64 dx1.workers, .int .i64 dx6]) sc3 rfl rfl rfl h2 (Nat.le_of_ble_eq_true rfl) rfl (fun w17 m6 h2' => ?_)
    replace h2 := h2'
    have kq3 := Mod.kq (l := [b2]) m6 (fun g hg => by cases hg; simp)
    replace E := E.mod m6 (fun g hg => by cases hg; omega); replace hcu := hcu.mod m6 (fun g hg => by cases hg; omega); replace h1 := h1.mod m6 (fun g hg => by cases hg; omega); replace hF1 := OwF.kp hF1 (Kq.kp kq3 sp1.1.1); replace h4 := h4.mod m6 (fun g hg => by cases hg; omega)
    have z17 := m6.size
    refine J_done ?_
    refine S_nil (E_inB ?_)
    refine S_seq ?_
    refine S_reg [true, false] rfl rfl ?_
    refine J_st (R_loadS st26 rfl h2.at rfl) rfl ?_
    refine J_storeS' (cs' := [o1, .int .i64 dx1.workers, .int .i64 dx6]) st26 rfl rfl rfl (all_cons (RdD.one (OwF.rd hF1)) (all_cons rfl (all_cons rfl rfl))) h1 (Nat.le_of_ble_eq_true rfl) rfl (fun w18 m7 h1' => ?_)
    replace h1 := h1'
    replace E := E.mod m7 (fun g hg => by cases hg; omega); replace hcu := hcu.mod m7 (fun g hg => by cases hg; omega); replace h2 := h2.mod m7 (fun g hg => by cases hg; omega); replace hF1 := hF1.mod m7 (fun g hg => by cases hg; omega); replace h4 := h4.mod m7 (fun g hg => by cases hg; omega)
    have z18 := m7.size
    refine J_done ?_
    refine S_ret (E_doneC rfl rfl (run_loadVar_st st26 h1.at rfl) E ?_)
    exact ⟨(⟨dx1.nodes, dx1.workers, dx6⟩ : Graph), (by first | exact ⟨hl9, hns⟩ | exact smG_any q1 | exact smG_take q1 | exact smG_set q1 (by assumption) | exact smG_set1 q1 q3 | exact smG_any (by assumption) | assumption), hcu, ⟨_, rfl, Graph.mkR (⟨dx1.nodes, dx1.workers, dx6⟩ : Graph) (RdD.widen (OwF.rd hF1) (by have := E.size; omega) (by omega))⟩⟩
   ·have hc3n : ¬ dx3 = 2 := by first | (have h := of_decide_eq_false hc3; omega) | (have h := hc3; simp at h; omega)
    refine S_seq ?_
    refine S_reg [true, true] rfl rfl ?_
    refine J_st (R_eql rfl rfl) rfl (J_st (R_assign rfl) rfl (J_done ?_))
    refine S_cond rfl (fun hc4 => ?_) (fun hc4 => ?_)
    ·have hc4n : dx3 = 3 := by first | (have h := of_decide_eq_true hc4; omega) | (have h := hc4; simp at h; omega)
     have hi2 : dx2 < dx1.nodes.length := (by first | assumption | omega | (simp only [List.length_set]; first | assumption | omega) | (simp only [List.getElem_set_self, List.length_set]; first | assumption | omega) | (simp only [setW, setLk, List.length_set]; first | assumption | omega) | (simp; done))
     have hK2 : OwK w6 f1 w6 w1.heap.size w2.heap.size o1 (dx1.nodes.take dx2 ++ dx1.nodes[dx2] :: dx1.nodes.drop (dx2 + 1)) := ⟨by rw [← self_split hi2]; exact hF1, Kq.refl _ _⟩
     have hfl2 := OwF.in2 hF1
     obtain ⟨_, ho4, hrow2⟩ := OwK.focus hK2
     obtain ⟨o4, rfl, sp4, hw3⟩ := Node.opO ho4
     clear hK2 hF1
     have hl2 : (dx1.nodes.take dx2).length = dx2 := by first | (simp; done) | (simp; omega)
     have hn2 : dx2 + 1 + (dx1.nodes.drop (dx2 + 1)).length = dx1.nodes.length := by first | (simp; done) | (simp; omega)
     replace hrow2 : RowR f1 w6 w1.heap.size w2.heap.size o1 (dx1.nodes.take dx2) [.int .i64 ((dx1.nodes[dx2]'hi2).kind), .int .i64 ((dx1.nodes[dx2]'hi2).a), .int .i64 ((dx1.nodes[dx2]'hi2).b), o4] (dx1.nodes.drop (dx2 + 1)) := hrow2
     refine S_regW mixed [0, 2, 3, 5, 7, 9, 11, 15] [(0, true), (1, true), (2, true), (3, true), (4, true), (5, true), (6, true), (7, true), (8, true), (9, true), (10, false), (11, true), (12, false), (13, false), (14, true), (15, true)] [(16, false)] (by decide +kernel) rfl rfl (fun w' => ModR w w' lo (lo + 1) ∧ w6.heap.size ≤ w'.heap.size ∧ CurO w' lo vb bs ∧ Blk w' b1 [.slice none 0 0, .int .i64 0, .int .i64 0] ∧ Blk w' b2 [o1, .int .i64 dx1.workers, .int .i64 dx1.cap] ∧ RowR f1 w' w1.heap.size w2.heap.size o1 (dx1.nodes.take dx2) [.int .i64 ((dx1.nodes[dx2]'hi2).kind), .int .i64 ((dx1.nodes[dx2]'hi2).a), .int .i64 ((dx1.nodes[dx2]'hi2).b), o4] (dx1.nodes.drop (dx2 + 1))) (fun w19 e12 => ?_)
     replace E := E.ext e12; replace hcu := hcu.ext e12; replace h1 := h1.ext e12; replace h2 := h2.ext e12; replace hw3 := hw3.ext e12; replace hrow2 := hrow2.ext e12
     have z19 := e12.size
     refine ⟨⟨E, (by omega), hcu, h1, h2, hrow2⟩, ?_⟩
     refine JC_pu rfl (fun wX => R_fieldAddr0 fl26_0 rfl) rfl ?_
     refine JC_st rfl (fun wX hX => by obtain ⟨E, zX, hcu, h1, h2, hrow2⟩ := hX; exact R_load sc24 rfl (h2.one 0 rfl)) rfl ?_
     refine JC_pu rfl (fun wX => R_move rfl) rfl ?_
     refine JC_pu rfl (fun wX => R_fieldAddr0 fl26_0 rfl) rfl ?_
     refine JC_st rfl (fun wX hX => by obtain ⟨E, zX, hcu, h1, h2, hrow2⟩ := hX; exact R_load sc24 rfl (h2.one 0 rfl)) rfl ?_
     refine JC_pu rfl (fun wX => R_move rfl) rfl ?_
     refine JC_st rfl (fun wX hX => by obtain ⟨E, zX, hcu, h1, h2, hrow2⟩ := hX; exact R_index (i := dx2) sl24 rfl rfl (RowK.same1 hrow2 hl2 hn2) (by first | (simp; done) | (simp; omega))) rfl ?_
     refine JC_pu rfl (fun wX => R_fieldAddr fl42_3 rfl) rfl ?_
     refine JC_st rfl (fun wX hX => by obtain ⟨E, zX, hcu, h1, h2, hrow2⟩ := hX; exact R_load sc40 rfl ((RowK.at hrow2 hl2).one 3 rfl)) rfl ?_
     refine JC_pu rfl (fun wX => R_move rfl) rfl ?_
     refine JC_un rfl ?_
     refine J_callR Try.call55 rfl rfl (s_l01Below lo vb bs 9 _ hcu (RdD.modR hbs E (.inl (Nat.le_refl _)))) rfl (fun _ w20 e13 hv => ?_)
     obtain ⟨dx7, q11, q12, hcu', hv⟩ := hv
     replace hcu := hcu'
     subst hv
     replace E := E.trans e13 (by omega) (by omega); replace h1 := h1.modR e13 (by omega); replace h2 := h2.modR e13 (by omega); replace hw3 := hw3.modR e13 (by omega); replace hrow2 := hrow2.modR e13 (fun b hb => by have := hfl2 b hb; omega)
     have z20 := e13.size
     refine JC_next ⟨E, (by omega), hcu, h1, h2, hrow2⟩ ?_
     refine JC_pu rfl (fun wX => R_sub rfl rfl rfl) rfl ?_
     refine JC_un rfl ?_
     refine J_buildSlice (vs := [.int .i64 (IntKind.i64.wrap (((dx7 : Nat) : Int) - 1))]) (css := [[.int .i64 (IntKind.i64.wrap (((dx7 : Nat) : Int) - 1))]]) sl40 rfl rfl ⟨⟨rfl, rfl⟩, trivial⟩ rfl rfl (fun b5 w21 e14 s5 h5 => ?_)
     replace h5 : Blk w21 b5 [.int .i64 (IntKind.i64.wrap (((dx7 : Nat) : Int) - 1))] := h5
     have g_b5 : w.heap.size ≤ b5 := by have := E.size; omega
     have y_b5 := h5.lt
     replace E := E.ext e14; replace hcu := hcu.ext e14; replace h1 := h1.ext e14; replace h2 := h2.ext e14; replace hw3 := hw3.ext e14; replace hrow2 := hrow2.ext e14
     have z21 := e14.size
     refine JC_next ⟨E, (by omega), hcu, h1, h2, hrow2⟩ ?_
     refine JC_un rfl ?_
     refine J_appendB sl40 rfl rfl hw3 (Src.ofBlk h5 rfl) rfl (by have hlt : dx2 < dx1.nodes.length := (by omega); have := q3 _ (List.getElem_mem hlt); simp only [sum_flat, List.length_cons, List.length_nil]; simp only [Enc.sz]; omega) (by decide) (by omega) (by omega) rfl rfl (fun v1 w22 m8 ho5 hb1 => ?_)
     have hn3 : ∀ g, Value.ownBlock v1 = some g → g < w2.heap.size ∨ w21.heap.size ≤ g := fun g hg => (hb1 g hg).elim (fun h => .inl (by have := Own.blk hw3 g h; omega)) (fun h => .inr h)
     have sq1 := sp4
     replace sp4 := SepL.set hb1 0 rfl sp4 ⟨(Own.lt hw3), trivial⟩
     replace sp4 : SepL [v1] := sp4
     have kq4 := Mod.kq (l := f1) m8 (RowK.fpr_mem hrow2 (by simp))
     replace E := E.mod m8 (fun g hg => by have := Own.blk hw3 g hg; omega); replace hcu := hcu.mod m8 (fun g hg => by have := Own.blk hw3 g hg; omega); replace h1 := h1.mod m8 (fun g hg => by have := Own.blk hw3 g hg; omega); replace h2 := Blk.kp h2 (Kq.kp kq4 (sp1.1.1).symm); replace hrow2 := RowR.modS hrow2 m8 (by simp)
     have z22 := m8.size
     replace ho5 : Own w22 w1.heap.size w22.heap.size 1 v1 (List.flatMap (Enc.enc (α := Int)) (((dx1.nodes[dx2]'hi2).outs) ++ [IntKind.i64.wrap (((dx7 : Nat) : Int) - 1)])) := by rw [List.flatMap_append]; exact ho5
     refine JC_next ⟨E, (by omega), hcu, h1, h2, hrow2⟩ ?_
     refine JC_st rfl (fun wX hX => by obtain ⟨E, zX, hcu, h1, h2, hrow2⟩ := hX; exact R_index (i := dx2) sl24 rfl rfl (RowK.same1 hrow2 hl2 hn2) (by first | (simp; done) | (simp; omega))) rfl ?_
     refine JC_pu rfl (fun wX => R_fieldAddr fl42_3 rfl) rfl ?_
     refine JC_end ?_
     refine J_storeEx rfl rfl (RowK.setFN (N := w6.heap.size) (lo2 := w1.heap.size) (hi2 := w22.heap.size) (cs' := [.int .i64 ((dx1.nodes[dx2]'hi2).kind), .int .i64 ((dx1.nodes[dx2]'hi2).a), .int .i64 ((dx1.nodes[dx2]'hi2).b), v1]) (k := 3) sc40 hrow2 hl2 (by decide) ho5.one rfl (Node.mkO (⟨(dx1.nodes[dx2]'hi2).kind, (dx1.nodes[dx2]'hi2).a, (dx1.nodes[dx2]'hi2).b, ((dx1.nodes[dx2]'hi2).outs) ++ [IntKind.i64.wrap (((dx7 : Nat) : Int) - 1)]⟩ : Node) sp4 (Own.widen ho5 (by omega) (by omega))) ⟨(fun _ h => absurd h List.not_mem_nil), (fun _ h => absurd h List.not_mem_nil), (fun _ h => absurd h List.not_mem_nil), (fun b hb => (hb1 b (mem_blks.1 hb)).elim (fun h => .inl (fpr_mem (by simp) b (mem_blks.2 h))) (fun h => .inr (by omega))), trivial⟩ (fun b hb => by have := hfl2 b hb; omega) (by omega) (by omega)) (fun w23 m9 hR => ?_)
     obtain ⟨f3, hF1, hin2⟩ := hR
     have kq5 := Mod.kq (l := f1) m9 (RowK.v_mem hrow2)
     have hqb := RowK.blk hrow2
     replace E := E.mod m9 (fun g hg => by have := hqb g hg; omega); replace hcu := hcu.mod m9 (fun g hg => by have := hqb g hg; omega); replace h1 := h1.mod m9 (fun g hg => by have := hqb g hg; omega); replace h2 := Blk.kp h2 (Kq.kp kq5 (sp1.1.1).symm)
     have z23 := m9.size
     clear hqb hrow2
     have nh2 : b1 ∉ f3 := fun hx => (hin2 b1 hx).elim (fun h => by have := hfl2 b1 h; omega) (fun h => by omega)
     replace sp1 := DjL.set (N := w6.heap.size) hin2 0 rfl sp1 ⟨(fun b hb => by have := hfl2 b hb; omega), (fun b hb => by simp at hb; omega), trivial⟩
     replace sp1 : DjL [f3, [b2]] := sp1
     rw [← set_split hi2] at hF1
     clear hfl2
     refine J_done ?_
     refine S_nil (E_inB ?_)
     refine S_seq ?_
     refine S_reg [true, false] rfl rfl ?_
     refine J_st (R_loadS st26 rfl h2.at rfl) rfl ?_
     refine J_storeS' (cs' := [o1, .int .i64 dx1.workers, .int .i64 dx1.cap]) st26 rfl rfl rfl (all_cons (RdD.one (OwF.rd hF1)) (all_cons rfl (all_cons rfl rfl))) h1 (Nat.le_of_ble_eq_true rfl) rfl (fun w24 m10 h1' => ?_)
     replace h1 := h1'
     replace E := E.mod m10 (fun g hg => by cases hg; omega); replace hcu := hcu.mod m10 (fun g hg => by cases hg; omega); replace h2 := h2.mod m10 (fun g hg => by cases hg; omega); replace hF1 := hF1.mod m10 (fun g hg => by cases hg; omega)
     have z24 := m10.size
     refine J_done ?_
     refine S_ret (E_doneC rfl rfl (run_loadVar_st st26 h1.at rfl) E ?_)
     exact ⟨(⟨List.set dx1.nodes dx2 (⟨(dx1.nodes[dx2]'hi2).kind, (dx1.nodes[dx2]'hi2).a, (dx1.nodes[dx2]'hi2).b, ((dx1.nodes[dx2]'hi2).outs) ++ [IntKind.i64.wrap (((dx7 : Nat) : Int) - 1)]⟩ : Node), dx1.workers, dx1.cap⟩ : Graph), (by first | exact ⟨hl9, hns⟩ | exact smG_any q1 | exact smG_take q1 | exact smG_set q1 (by assumption) | exact smG_set1 q1 q3 | exact smG_any (by assumption) | assumption), hcu, ⟨_, rfl, Graph.mkR (⟨List.set dx1.nodes dx2 (⟨(dx1.nodes[dx2]'hi2).kind, (dx1.nodes[dx2]'hi2).a, (dx1.nodes[dx2]'hi2).b, ((dx1.nodes[dx2]'hi2).outs) ++ [IntKind.i64.wrap (((dx7 : Nat) : Int) - 1)]⟩ : Node), dx1.workers, dx1.cap⟩ : Graph) (RdD.widen (OwF.rd hF1) (by have := E.size; omega) (by omega))⟩⟩
    ·have hc4n : ¬ dx3 = 3 := by first | (have h := of_decide_eq_false hc4; omega) | (have h := hc4; simp at h; omega)
     refine S_seq ?_
     refine S_reg [true, true] rfl rfl ?_
     refine J_st (R_eql rfl rfl) rfl (J_st (R_assign rfl) rfl (J_done ?_))
     refine S_cond rfl (fun hc5 => ?_) (fun hc5 => ?_)
     ·have hc5n : dx3 = 4 := by first | (have h := of_decide_eq_true hc5; omega) | (have h := hc5; simp at h; omega)
      refine S_block ?_
      refine S_loop (fun (xq : Value × List Node × List Nat) => let ⟨vN, ns, fN⟩ := xq; [(0, .pointer (some ⟨lo, 0, none⟩)), (2, .pointer (some ⟨b1, 0, none⟩)), (3, .pointer (some ⟨b2, 0, none⟩)), (8, .pointer (some ⟨b2, 0, none⟩))]) (fun (xq : Value × List Node × List Nat) w' => let ⟨vN, ns, fN⟩ := xq; ModR w w' lo (lo + 1) ∧ w6.heap.size ≤ w'.heap.size ∧ CurO w' lo vb bs ∧ Blk w' b1 [.slice none 0 0, .int .i64 0, .int .i64 0] ∧ ns.length ≤ 9 ∧ (∀ y ∈ ns, y.outs.length ≤ 3) ∧ OwF w' w1.heap.size w'.heap.size vN ns fN ∧ DjL [fN, [b2]] ∧ Blk w' b2 [vN, .int .i64 dx1.workers, .int .i64 dx1.cap]) (fun (xq : Value × List Node × List Nat) => let ⟨vN, ns, fN⟩ := xq; 9 - ns.length) (o1, dx1.nodes, f1) ⟨rfl, rfl, rfl, rfl, trivial⟩ ⟨E, Nat.le_refl _, hcu, h1, (by have := q1.1; omega), q1.2, OwF.widen hF1 (by omega) (by omega), sp1, h2⟩ ?_
      clear E hcu h1 h2 hF1
      rintro ⟨vN, ns, fN⟩ w25 ⟨E, z25, hcu, h1, hl9, hns, oN, gN, h2⟩
      refine S_sub [(0, .pointer (some ⟨lo, 0, none⟩)), (2, .pointer (some ⟨b1, 0, none⟩)), (3, .pointer (some ⟨b2, 0, none⟩)), (8, .pointer (some ⟨b2, 0, none⟩))] ⟨rfl, rfl, rfl, rfl, trivial⟩ ?_
      refine S_seq ?_
      refine S_seq ?_
      refine S_regW mixed [0, 3, 5, 6] [(0, true), (1, true), (2, true), (3, true), (4, false), (5, true), (6, true)] [] (by decide +kernel) rfl rfl (fun w' => ModR w w' lo (lo + 1) ∧ w25.heap.size ≤ w'.heap.size ∧ CurO w' lo vb bs ∧ Blk w' b1 [.slice none 0 0, .int .i64 0, .int .i64 0] ∧ OwF w' w1.heap.size w25.heap.size vN ns fN ∧ Blk w' b2 [vN, .int .i64 dx1.workers, .int .i64 dx1.cap]) (fun w26 e15 => ?_)
      replace E := E.ext e15; replace hcu := hcu.ext e15; replace h1 := h1.ext e15; replace oN := oN.ext e15; replace h2 := h2.ext e15
      have z26 := e15.size
      refine ⟨⟨E, (by omega), hcu, h1, oN, h2⟩, ?_⟩
      refine JC_pu rfl (fun wX => R_fieldAddr0 fl26_0 rfl) rfl ?_
      refine JC_st rfl (fun wX hX => by obtain ⟨E, zX, hcu, h1, oN, h2⟩ := hX; exact R_load sc24 rfl (h2.one 0 rfl)) rfl ?_
      refine JC_st rfl (fun wX hX => by obtain ⟨E, zX, hcu, h1, oN, h2⟩ := hX; exact R_len Try.underlying24 rfl (OwF.rd oN).len) rfl ?_
      refine JC_pu rfl (fun wX => R_move rfl) rfl ?_
      refine JC_un rfl ?_
      refine J_callR Try.call55 rfl rfl (s_l01Below lo vb bs 2 _ hcu (RdD.modR hbs E (.inl (Nat.le_refl _)))) rfl (fun _ w27 e16 hv => ?_)
      obtain ⟨dx8, q13, q14, hcu', hv⟩ := hv
      replace hcu := hcu'
      subst hv
      replace E := E.trans e16 (by omega) (by omega); replace h1 := h1.modR e16 (by omega); replace oN := oN.modR e16 (by omega); replace h2 := h2.modR e16 (by omega)
      have z27 := e16.size
      refine JC_next ⟨E, (by omega), hcu, h1, oN, h2⟩ ?_
      refine JC_pu rfl (fun wX => R_add rfl rfl rfl) rfl ?_
      refine JC_pu rfl (fun wX => R_lss rfl rfl) rfl ?_
      refine JC_end ?_
      refine J_done ?_
      refine S_cond rfl (fun hc6 => ?_) (fun hc6 => ?_)
      ·have hl8 : ns.length < 9 := by have h := of_decide_eq_true hc6; rw [wrap_in (by omega) (by omega)] at h; omega
       refine S_skip ?_
       refine S_block ?_
       refine S_reg [true, true, true, false, false, true, false] rfl rfl ?_
       refine J_st (R_fieldAddr0 fl26_0 rfl) rfl (J_st (R_load sc24 rfl (h2.one 0 rfl)) rfl ?_)
       have hbl1 : ∀ w, (Instr.build 42 ([(0, .int .i64 8)]).toArray).run Try.prog w = .ok (.agg [.int .i64 8, .int .i64 0, .int .i64 0, .slice none 0 0].toArray) w := by clear E; intro w; kernel_rfl
       refine J_st (R_buildC [.int .i64 8, .int .i64 0, .int .i64 0, .slice none 0 0] rfl hbl1) rfl ?_
       refine J_buildSlice (vs := [.agg [.int .i64 8, .int .i64 0, .int .i64 0, .slice none 0 0].toArray]) (css := [[.int .i64 8, .int .i64 0, .int .i64 0, .slice none 0 0]]) sl24 rfl rfl ⟨⟨rfl, rfl⟩, trivial⟩ rfl rfl (fun b6 w28 e17 s6 h6 => ?_)
       replace h6 : Blk w28 b6 [.int .i64 8, .int .i64 0, .int .i64 0, .slice none 0 0] := h6
       have g_b6 : w.heap.size ≤ b6 := by have := E.size; omega
       have y_b6 := h6.lt
       replace E := E.ext e17; replace hcu := hcu.ext e17; replace h1 := h1.ext e17; replace oN := oN.ext e17; replace h2 := h2.ext e17
       have z28 := e17.size
       have hy1 : Own1.O (α := Node) w28 w28.heap.size w28.heap.size [.int .i64 8, .int .i64 0, .int .i64 0, .slice none 0 0] (⟨8, 0, 0, []⟩ : Node) := Node.mkO (⟨8, 0, 0, []⟩ : Node) ⟨trivial, trivial⟩ (Own.nil _ _ _ _)
       refine J_appendF (lo := w1.heap.size) (hi := w25.heap.size) (lo2 := w28.heap.size) (hi2 := w28.heap.size) sl24 rfl rfl oN (Src.ofBlk h6 rfl) hy1 (fun b hb hc => by have := OwF.in2 oN b hb; have := Own1.inn hy1 b hc; omega) (by simp only [List.length_append, List.length_cons, List.length_nil, List.length_set, show Dat.sz Node = 4 from rfl]; omega) (by decide) (by omega) (by omega) (by omega) (by omega) (by omega) rfl rfl (fun v2 w29 f4 m11 ho6 hin3 => ?_)
       have hqb := OwS.inn (OwF.ows oN)
       have kq6 := Mod.kq (l := fN) m11 (OwF.v_mem oN)
       replace E := E.mod m11 (fun g hg => by have := hqb g hg; omega); replace hcu := hcu.mod m11 (fun g hg => by have := hqb g hg; omega); replace h1 := h1.mod m11 (fun g hg => by have := hqb g hg; omega); replace h2 := Blk.kp h2 (Kq.kp kq6 (gN.1.1).symm)
       have z29 := m11.size
       replace gN := DjL.set (N := w28.heap.size) hin3 0 rfl gN ⟨(fun b hb => by have := OwF.in2 oN b hb; omega), (fun b hb => by simp at hb; omega), trivial⟩
       replace gN : DjL [f4, [b2]] := gN
       clear hqb hy1 kq6 oN
       refine J_st (R_fieldAddr0 fl26_0 rfl) rfl ?_
       refine J_store' (cs' := [v2, .int .i64 dx1.workers, .int .i64 dx1.cap]) sc24 rfl rfl (RdD.one (OwF.rd ho6)) h2 (Nat.le_of_ble_eq_true rfl) rfl (fun w30 m12 h2' => ?_)
       replace h2 := h2'
       have kq7 := Mod.kq (l := [b2]) m12 (fun g hg => by cases hg; simp)
       replace E := E.mod m12 (fun g hg => by cases hg; omega); replace hcu := hcu.mod m12 (fun g hg => by cases hg; omega); replace h1 := h1.mod m12 (fun g hg => by cases hg; omega); replace ho6 := OwF.kp ho6 (Kq.kp kq7 gN.1.1)
       have z30 := m12.size
       refine J_done ?_
       refine S_nil (E_inB ?_)
       refine S_nil (E_again (v2, ns ++ [(⟨8, 0, 0, []⟩ : Node)], f4) (by simp; omega) ⟨rfl, rfl, rfl, rfl, trivial⟩ ⟨E, (by omega), hcu, h1, (by simp; omega), (fun y hy => (List.mem_append.1 hy).elim (hns y) (fun h => by simp at h; subst h; simp)), OwF.widen ho6 (by omega) (by omega), gN, h2⟩)
      ·refine S_exit (E_lp_exit (E_inB_exit ?_))
       refine S_nil (E_inB ?_)
       refine S_seq ?_
       refine S_reg [true, false] rfl rfl ?_
       refine J_st (R_loadS st26 rfl h2.at rfl) rfl ?_
       refine J_storeS' (cs' := [vN, .int .i64 dx1.workers, .int .i64 dx1.cap]) st26 rfl rfl rfl (all_cons (RdD.one (OwF.rd oN)) (all_cons rfl (all_cons rfl rfl))) h1 (Nat.le_of_ble_eq_true rfl) rfl (fun w31 m13 h1' => ?_)
       replace h1 := h1'
       replace E := E.mod m13 (fun g hg => by cases hg; omega); replace hcu := hcu.mod m13 (fun g hg => by cases hg; omega); replace oN := oN.mod m13 (fun g hg => by cases hg; omega); replace h2 := h2.mod m13 (fun g hg => by cases hg; omega)
       have z31 := m13.size
       refine J_done ?_
       refine S_ret (E_doneC rfl rfl (run_loadVar_st st26 h1.at rfl) E ?_)
       exact ⟨(⟨ns, dx1.workers, dx1.cap⟩ : Graph), (by first | exact ⟨hl9, hns⟩ | exact smG_any q1 | exact smG_take q1 | exact smG_set q1 (by assumption) | exact smG_set1 q1 q3 | exact smG_any (by assumption) | assumption), hcu, ⟨_, rfl, Graph.mkR (⟨ns, dx1.workers, dx1.cap⟩ : Graph) (RdD.widen (OwF.rd oN) (by have := E.size; omega) (by omega))⟩⟩
     ·have hc5n : ¬ dx3 = 4 := by first | (have h := of_decide_eq_false hc5; omega) | (have h := hc5; simp at h; omega)
      refine S_seq ?_
      refine S_reg [true, true] rfl rfl ?_
      refine J_st (R_eql rfl rfl) rfl (J_st (R_assign rfl) rfl (J_done ?_))
      refine S_cond rfl (fun hc7 => ?_) (fun hc7 => ?_)
      ·have hc7n : dx3 = 5 := by first | (have h := of_decide_eq_true hc7; omega) | (have h := hc7; simp at h; omega)
       refine S_reg [true, true, true, true, true, false] rfl rfl ?_
       refine J_st (R_fieldAddr0 fl26_0 rfl) rfl (J_st (R_load sc24 rfl (h2.one 0 rfl)) rfl (J_st (R_move rfl) rfl ?_))
       have hk1 : dx2 ≤ dx1.nodes.length := by first | assumption | omega
       have hs1 : RdD (α := Node) w6 w1.heap.size w2.heap.size (slTo o1 dx2) (List.take dx2 dx1.nodes) := RdB.slTo (OwF.rd hF1) hk1
       refine J_st (R_sliceTo sl24 rfl rfl (RdL.room (OwF.rd hF1).1) hk1) rfl (J_st (R_fieldAddr0 fl26_0 rfl) rfl ?_)
       refine J_store' (cs' := [slTo o1 dx2, .int .i64 dx1.workers, .int .i64 dx1.cap]) sc24 rfl rfl (RdD.one hs1) h2 (Nat.le_of_ble_eq_true rfl) rfl (fun w32 m14 h2' => ?_)
       replace h2 := h2'
       have kq8 := Mod.kq (l := [b2]) m14 (fun g hg => by cases hg; simp)
       replace E := E.mod m14 (fun g hg => by cases hg; omega); replace hcu := hcu.mod m14 (fun g hg => by cases hg; omega); replace h1 := h1.mod m14 (fun g hg => by cases hg; omega); replace hF1 := OwF.kp hF1 (Kq.kp kq8 sp1.1.1); replace hs1 := hs1.mod m14 (fun g hg => by cases hg; omega)
       have z32 := m14.size
       refine J_done ?_
       refine S_nil (E_inB ?_)
       refine S_seq ?_
       refine S_reg [true, false] rfl rfl ?_
       refine J_st (R_loadS st26 rfl h2.at rfl) rfl ?_
       refine J_storeS' (cs' := [slTo o1 dx2, .int .i64 dx1.workers, .int .i64 dx1.cap]) st26 rfl rfl rfl (all_cons (RdD.one hs1) (all_cons rfl (all_cons rfl rfl))) h1 (Nat.le_of_ble_eq_true rfl) rfl (fun w33 m15 h1' => ?_)
       replace h1 := h1'
       replace E := E.mod m15 (fun g hg => by cases hg; omega); replace hcu := hcu.mod m15 (fun g hg => by cases hg; omega); replace h2 := h2.mod m15 (fun g hg => by cases hg; omega); replace hF1 := hF1.mod m15 (fun g hg => by cases hg; omega); replace hs1 := hs1.mod m15 (fun g hg => by cases hg; omega)
       have z33 := m15.size
       refine J_done ?_
       refine S_ret (E_doneC rfl rfl (run_loadVar_st st26 h1.at rfl) E ?_)
       exact ⟨(⟨List.take dx2 dx1.nodes, dx1.workers, dx1.cap⟩ : Graph), (by first | exact ⟨hl9, hns⟩ | exact smG_any q1 | exact smG_take q1 | exact smG_set q1 (by assumption) | exact smG_set1 q1 q3 | exact smG_any (by assumption) | assumption), hcu, ⟨_, rfl, Graph.mkR (⟨List.take dx2 dx1.nodes, dx1.workers, dx1.cap⟩ : Graph) (RdD.widen hs1 (by have := E.size; omega) (by omega))⟩⟩
      ·have hc7n : ¬ dx3 = 5 := by first | (have h := of_decide_eq_false hc7; omega) | (have h := hc7; simp at h; omega)
       refine S_skip ?_
       refine S_nil (E_inB ?_)
       refine S_seq ?_
       refine S_reg [true, false] rfl rfl ?_
       refine J_st (R_loadS st26 rfl h2.at rfl) rfl ?_
       refine J_storeS' (cs' := [o1, .int .i64 dx1.workers, .int .i64 dx1.cap]) st26 rfl rfl rfl (all_cons (RdD.one (OwF.rd hF1)) (all_cons rfl (all_cons rfl rfl))) h1 (Nat.le_of_ble_eq_true rfl) rfl (fun w34 m16 h1' => ?_)
       replace h1 := h1'
       replace E := E.mod m16 (fun g hg => by cases hg; omega); replace hcu := hcu.mod m16 (fun g hg => by cases hg; omega); replace h2 := h2.mod m16 (fun g hg => by cases hg; omega); replace hF1 := hF1.mod m16 (fun g hg => by cases hg; omega)
       have z34 := m16.size
       refine J_done ?_
       refine S_ret (E_doneC rfl rfl (run_loadVar_st st26 h1.at rfl) E ?_)
       exact ⟨dx1, (by first | exact ⟨hl9, hns⟩ | exact smG_any q1 | exact smG_take q1 | exact smG_set q1 (by assumption) | exact smG_set1 q1 q3 | exact smG_any (by assumption) | assumption), hcu, ⟨_, rfl, Graph.mkR dx1 (RdD.widen (OwF.rd hF1) (by have := E.size; omega) (by omega))⟩⟩

set_option maxHeartbeats 4000000 in
set_option maxRecDepth 20000 in
theorem s_l11Cell (lo : Nat) (vb : Value) (bs : List Byt) (og : Value) (g : Graph) (w : World) (hcu : CurO w lo vb bs) (hbs : RdD w 0 lo vb bs) (hg : Stab w lo (fun w' => RdD w' 0 w'.heap.size og g.nodes)) : CtR Try.prog 63 [.pointer (some ⟨lo, 0, none⟩), .agg [og, .int .i64 g.workers, .int .i64 g.cap].toArray] w lo (lo + 1) (fun v w' => ∃ (dr0 : Cell), (0 ≤ dr0.epoch ∧ dr0.epoch ≤ 1) ∧ (0 ≤ dr0.key ∧ dr0.key ≤ 5) ∧ (0 ≤ dr0.val ∧ dr0.val ≤ 8) ∧ CurO w' lo vb bs ∧ v = .agg (Enc.enc dr0).toArray) := by
 have y_lo := CurO.lt hcu
 refine ctR_of Try.func63 rfl Try.ntmps63 rfl ?_
 refine S_sub [(0, .pointer (some ⟨lo, 0, none⟩)), (1, .agg [og, .int .i64 g.workers, .int .i64 g.cap].toArray)] ⟨rfl, rfl, trivial⟩ ?_
 have E : ModR w w lo (lo + 1) := ModR.refl w lo (lo + 1)
 refine S_seq ?_
 refine S_reg [false, false] rfl rfl ?_
 refine J_box rfl rfl (fun b1 w1 e1 s1 h1 => ?_)
 have g_b1 : w.heap.size ≤ b1 := by have := E.size; omega
 have y_b1 := h1.lt
 replace E := E.ext e1; replace hcu := hcu.ext e1
 have z1 := e1.size
 refine J_alloc st56 rfl (fun b2 w2 e2 s2 h2 => ?_)
 have g_b2 : w.heap.size ≤ b2 := by have := E.size; omega
 have y_b2 := h2.lt
 replace E := E.ext e2; replace hcu := hcu.ext e2; replace h1 := h1.ext e2
 have z2 := e2.size
 refine J_done ?_
 refine S_seq ?_
 refine S_reg [true, false, true, false, true, false, true, false, false] rfl rfl ?_
 refine J_st (R_move rfl) rfl ?_
 refine J_callR Try.call55 rfl rfl (s_l01Below lo vb bs 2 _ hcu (RdD.modR hbs E (.inl (Nat.le_refl _)))) rfl (fun _ w3 e3 hv => ?_)
 obtain ⟨dx1, q1, q2, hcu', hv⟩ := hv
 replace hcu := hcu'
 subst hv
 replace E := E.trans e3 (by omega) (by omega); replace h1 := h1.modR e3 (by omega); replace h2 := h2.modR e3 (by omega)
 have z3 := e3.size
 refine J_st (R_move rfl) rfl ?_
 refine J_callR Try.call55 rfl rfl (s_l01Below lo vb bs 6 _ hcu (RdD.modR hbs E (.inl (Nat.le_refl _)))) rfl (fun _ w4 e4 hv => ?_)
 obtain ⟨dx2, q3, q4, hcu', hv⟩ := hv
 replace hcu := hcu'
 subst hv
 replace E := E.trans e4 (by omega) (by omega); replace h1 := h1.modR e4 (by omega); replace h2 := h2.modR e4 (by omega)
 have z4 := e4.size
 refine J_st (R_move rfl) rfl ?_
 refine J_callR Try.call55 rfl rfl (s_l01Below lo vb bs 9 _ hcu (RdD.modR hbs E (.inl (Nat.le_refl _)))) rfl (fun _ w5 e5 hv => ?_)
 obtain ⟨dx3, q5, q6, hcu', hv⟩ := hv
 replace hcu := hcu'
 subst hv
 replace E := E.trans e5 (by omega) (by omega); replace h1 := h1.modR e5 (by omega); replace h2 := h2.modR e5 (by omega)
 have z5 := e5.size
 refine J_st (R_build (⟨0, ((dx1 : Nat) : Int), ((dx2 : Nat) : Int), ((dx3 : Nat) : Int)⟩ : Cell) rfl (fun _ => by kernel_rfl)) rfl ?_
 refine J_alloc st56 rfl (fun b3 w6 e6 s3 h3 => ?_)
 have g_b3 : w.heap.size ≤ b3 := by have := E.size; omega
 have y_b3 := h3.lt
 replace E := E.ext e6; replace hcu := hcu.ext e6; replace h1 := h1.ext e6; replace h2 := h2.ext e6
 have z6 := e6.size
 refine J_storeS' (cs' := [.int .i64 ((⟨0, ((dx1 : Nat) : Int), ((dx2 : Nat) : Int), ((dx3 : Nat) : Int)⟩ : Cell).op), .int .i64 ((⟨0, ((dx1 : Nat) : Int), ((dx2 : Nat) : Int), ((dx3 : Nat) : Int)⟩ : Cell).epoch), .int .i64 ((⟨0, ((dx1 : Nat) : Int), ((dx2 : Nat) : Int), ((dx3 : Nat) : Int)⟩ : Cell).key), .int .i64 ((⟨0, ((dx1 : Nat) : Int), ((dx2 : Nat) : Int), ((dx3 : Nat) : Int)⟩ : Cell).val)]) st56 rfl rfl rfl rfl h3 (Nat.le_of_ble_eq_true rfl) rfl (fun w7 m1 h3' => ?_)
 replace h3 := h3'
 replace E := E.mod m1 (fun g hg => by cases hg; omega); replace hcu := hcu.mod m1 (fun g hg => by cases hg; omega); replace h1 := h1.mod m1 (fun g hg => by cases hg; omega); replace h2 := h2.mod m1 (fun g hg => by cases hg; omega)
 have z7 := m1.size
 refine J_done ?_
 refine S_seq ?_
 refine S_seq ?_
 refine S_reg [true, true, true, true] rfl rfl ?_
 refine J_st (R_fieldAddr0 fl26_0 rfl) rfl (J_st (R_load sc24 rfl (h1.one 0 rfl)) rfl (J_st (R_len Try.underlying24 rfl (hg _ E).len) rfl (J_st (R_gtr rfl rfl) rfl (J_done ?_))))
 refine S_cond rfl (fun hc1 => ?_) (fun hc1 => ?_)
 ·have hc1n : g.nodes.length > 0 := by first | (have h := of_decide_eq_true hc1; omega) | (have h := hc1; simp at h; omega)
  refine S_reg [true, true, true, true, false, true, false] rfl rfl ?_
  refine J_st (R_move rfl) rfl (J_st (R_fieldAddr0 fl26_0 rfl) rfl (J_st (R_load sc24 rfl (h1.one 0 rfl)) rfl (J_st (R_len Try.underlying24 rfl (hg _ E).len) rfl ?_)))
  refine J_callR Try.call55 rfl rfl (s_l01Below lo vb bs ((g.nodes.length : Nat) : Int) _ hcu (RdD.modR hbs E (.inl (Nat.le_refl _)))) rfl (fun _ w8 e7 hv => ?_)
  obtain ⟨dx4, q7, q8, hcu', hv⟩ := hv
  replace hcu := hcu'
  subst hv
  replace E := E.trans e7 (by omega) (by omega); replace h1 := h1.modR e7 (by omega); replace h2 := h2.modR e7 (by omega); replace h3 := h3.modR e7 (by omega)
  have z8 := e7.size
  refine J_st (R_fieldAddr0 fl56_0 rfl) rfl ?_
  refine J_store' (cs' := [.int .i64 ((dx4 : Nat) : Int), .int .i64 ((⟨0, ((dx1 : Nat) : Int), ((dx2 : Nat) : Int), ((dx3 : Nat) : Int)⟩ : Cell).epoch), .int .i64 ((⟨0, ((dx1 : Nat) : Int), ((dx2 : Nat) : Int), ((dx3 : Nat) : Int)⟩ : Cell).key), .int .i64 ((⟨0, ((dx1 : Nat) : Int), ((dx2 : Nat) : Int), ((dx3 : Nat) : Int)⟩ : Cell).val)]) sc3 rfl rfl rfl h3 (Nat.le_of_ble_eq_true rfl) rfl (fun w9 m2 h3' => ?_)
  replace h3 := h3'
  replace E := E.mod m2 (fun g hg => by cases hg; omega); replace hcu := hcu.mod m2 (fun g hg => by cases hg; omega); replace h1 := h1.mod m2 (fun g hg => by cases hg; omega); replace h2 := h2.mod m2 (fun g hg => by cases hg; omega)
  have z9 := m2.size
  refine J_done ?_
  refine S_seq ?_
  refine S_seq ?_
  refine S_reg [true, false] rfl rfl ?_
  refine J_st (R_move rfl) rfl ?_
  refine J_callR Try.call36 rfl rfl (s_l01Once lo vb bs 12 _ hcu (RdD.modR hbs E (.inl (Nat.le_refl _)))) rfl (fun _ w10 e8 hv => ?_)
  obtain ⟨dx5, hcu', hv⟩ := hv
  replace hcu := hcu'
  subst hv
  replace E := E.trans e8 (by omega) (by omega); replace h1 := h1.modR e8 (by omega); replace h2 := h2.modR e8 (by omega); replace h3 := h3.modR e8 (by omega)
  have z10 := e8.size
  refine J_done ?_
  refine S_cond rfl (fun hc2 => ?_) (fun hc2 => ?_)
  ·refine S_reg [true, false, false, true, false] rfl rfl ?_
   refine J_st (R_move rfl) rfl ?_
   refine J_buildSlice (vs := [.int .i64 (-1), .int .i64 7, .int .i64 8]) (css := [[.int .i64 (-1)], [.int .i64 7], [.int .i64 8]]) sl40 rfl rfl ⟨⟨rfl, rfl⟩, ⟨rfl, rfl⟩, ⟨rfl, rfl⟩, trivial⟩ rfl rfl (fun b4 w11 e9 s4 h4 => ?_)
   replace h4 : Blk w11 b4 [.int .i64 (-1), .int .i64 7, .int .i64 8] := h4
   have g_b4 : w.heap.size ≤ b4 := by have := E.size; omega
   have y_b4 := h4.lt
   replace E := E.ext e9; replace hcu := hcu.ext e9; replace h1 := h1.ext e9; replace h2 := h2.ext e9; replace h3 := h3.ext e9
   have z11 := e9.size
   refine J_callR Try.call56 rfl rfl (s_l01PickInt lo vb bs (.slice (some ⟨b4, 0, none⟩) 3 3) [(-1), 7, 8] _ hcu (RdD.modR hbs E (.inl (Nat.le_refl _))) (fun wX eX => (Blk.rd (α := Int) (xs := [(-1), 7, 8]) (by decide) (Blk.modR h4 eX (by omega)) rfl (by simp [maxLen]))) (by decide)) rfl (fun _ w12 e10 hv => ?_)
   obtain ⟨dx6, q9, hcu', hv⟩ := hv
   replace hcu := hcu'
   subst hv
   replace E := E.trans e10 (by omega) (by omega); replace h1 := h1.modR e10 (by omega); replace h2 := h2.modR e10 (by omega); replace h3 := h3.modR e10 (by omega); replace h4 := h4.modR e10 (by omega)
   have z12 := e10.size
   refine J_st (R_fieldAddr0 fl56_0 rfl) rfl ?_
   refine J_store' (cs' := [.int .i64 dx6, .int .i64 ((⟨0, ((dx1 : Nat) : Int), ((dx2 : Nat) : Int), ((dx3 : Nat) : Int)⟩ : Cell).epoch), .int .i64 ((⟨0, ((dx1 : Nat) : Int), ((dx2 : Nat) : Int), ((dx3 : Nat) : Int)⟩ : Cell).key), .int .i64 ((⟨0, ((dx1 : Nat) : Int), ((dx2 : Nat) : Int), ((dx3 : Nat) : Int)⟩ : Cell).val)]) sc3 rfl rfl rfl h3 (Nat.le_of_ble_eq_true rfl) rfl (fun w13 m3 h3' => ?_)
   replace h3 := h3'
   replace E := E.mod m3 (fun g hg => by cases hg; omega); replace hcu := hcu.mod m3 (fun g hg => by cases hg; omega); replace h1 := h1.mod m3 (fun g hg => by cases hg; omega); replace h2 := h2.mod m3 (fun g hg => by cases hg; omega); replace h4 := h4.mod m3 (fun g hg => by cases hg; omega)
   have z13 := m3.size
   refine J_done ?_
   refine S_seq ?_
   refine S_reg [true, false] rfl rfl ?_
   refine J_st (R_loadS st56 rfl h3.at rfl) rfl ?_
   refine J_storeS' (cs' := [.int .i64 ((⟨dx6, (⟨0, ((dx1 : Nat) : Int), ((dx2 : Nat) : Int), ((dx3 : Nat) : Int)⟩ : Cell).epoch, (⟨0, ((dx1 : Nat) : Int), ((dx2 : Nat) : Int), ((dx3 : Nat) : Int)⟩ : Cell).key, (⟨0, ((dx1 : Nat) : Int), ((dx2 : Nat) : Int), ((dx3 : Nat) : Int)⟩ : Cell).val⟩ : Cell).op), .int .i64 ((⟨dx6, (⟨0, ((dx1 : Nat) : Int), ((dx2 : Nat) : Int), ((dx3 : Nat) : Int)⟩ : Cell).epoch, (⟨0, ((dx1 : Nat) : Int), ((dx2 : Nat) : Int), ((dx3 : Nat) : Int)⟩ : Cell).key, (⟨0, ((dx1 : Nat) : Int), ((dx2 : Nat) : Int), ((dx3 : Nat) : Int)⟩ : Cell).val⟩ : Cell).epoch), .int .i64 ((⟨dx6, (⟨0, ((dx1 : Nat) : Int), ((dx2 : Nat) : Int), ((dx3 : Nat) : Int)⟩ : Cell).epoch, (⟨0, ((dx1 : Nat) : Int), ((dx2 : Nat) : Int), ((dx3 : Nat) : Int)⟩ : Cell).key, (⟨0, ((dx1 : Nat) : Int), ((dx2 : Nat) : Int), ((dx3 : Nat) : Int)⟩ : Cell).val⟩ : Cell).key), .int .i64 ((⟨dx6, (⟨0, ((dx1 : Nat) : Int), ((dx2 : Nat) : Int), ((dx3 : Nat) : Int)⟩ : Cell).epoch, (⟨0, ((dx1 : Nat) : Int), ((dx2 : Nat) : Int), ((dx3 : Nat) : Int)⟩ : Cell).key, (⟨0, ((dx1 : Nat) : Int), ((dx2 : Nat) : Int), ((dx3 : Nat) : Int)⟩ : Cell).val⟩ : Cell).val)]) st56 rfl rfl rfl rfl h2 (Nat.le_of_ble_eq_true rfl) rfl (fun w14 m4 h2' => ?_)
   replace h2 := h2'
   replace E := E.mod m4 (fun g hg => by cases hg; omega); replace hcu := hcu.mod m4 (fun g hg => by cases hg; omega); replace h1 := h1.mod m4 (fun g hg => by cases hg; omega); replace h3 := h3.mod m4 (fun g hg => by cases hg; omega); replace h4 := h4.mod m4 (fun g hg => by cases hg; omega)
   have z14 := m4.size
   refine J_done ?_
   refine S_ret (E_doneC rfl rfl (run_loadVar_st st56 h2.at rfl) E ?_)
   exact ⟨(⟨dx6, (⟨0, ((dx1 : Nat) : Int), ((dx2 : Nat) : Int), ((dx3 : Nat) : Int)⟩ : Cell).epoch, (⟨0, ((dx1 : Nat) : Int), ((dx2 : Nat) : Int), ((dx3 : Nat) : Int)⟩ : Cell).key, (⟨0, ((dx1 : Nat) : Int), ((dx2 : Nat) : Int), ((dx3 : Nat) : Int)⟩ : Cell).val⟩ : Cell), (by dsimp; omega), (by dsimp; omega), (by dsimp; omega), hcu, rfl⟩
  ·refine S_skip ?_
   refine S_seq ?_
   refine S_reg [true, false] rfl rfl ?_
   refine J_st (R_loadS st56 rfl h3.at rfl) rfl ?_
   refine J_storeS' (cs' := [.int .i64 ((⟨((dx4 : Nat) : Int), (⟨0, ((dx1 : Nat) : Int), ((dx2 : Nat) : Int), ((dx3 : Nat) : Int)⟩ : Cell).epoch, (⟨0, ((dx1 : Nat) : Int), ((dx2 : Nat) : Int), ((dx3 : Nat) : Int)⟩ : Cell).key, (⟨0, ((dx1 : Nat) : Int), ((dx2 : Nat) : Int), ((dx3 : Nat) : Int)⟩ : Cell).val⟩ : Cell).op), .int .i64 ((⟨((dx4 : Nat) : Int), (⟨0, ((dx1 : Nat) : Int), ((dx2 : Nat) : Int), ((dx3 : Nat) : Int)⟩ : Cell).epoch, (⟨0, ((dx1 : Nat) : Int), ((dx2 : Nat) : Int), ((dx3 : Nat) : Int)⟩ : Cell).key, (⟨0, ((dx1 : Nat) : Int), ((dx2 : Nat) : Int), ((dx3 : Nat) : Int)⟩ : Cell).val⟩ : Cell).epoch), .int .i64 ((⟨((dx4 : Nat) : Int), (⟨0, ((dx1 : Nat) : Int), ((dx2 : Nat) : Int), ((dx3 : Nat) : Int)⟩ : Cell).epoch, (⟨0, ((dx1 : Nat) : Int), ((dx2 : Nat) : Int), ((dx3 : Nat) : Int)⟩ : Cell).key, (⟨0, ((dx1 : Nat) : Int), ((dx2 : Nat) : Int), ((dx3 : Nat) : Int)⟩ : Cell).val⟩ : Cell).key), .int .i64 ((⟨((dx4 : Nat) : Int), (⟨0, ((dx1 : Nat) : Int), ((dx2 : Nat) : Int), ((dx3 : Nat) : Int)⟩ : Cell).epoch, (⟨0, ((dx1 : Nat) : Int), ((dx2 : Nat) : Int), ((dx3 : Nat) : Int)⟩ : Cell).key, (⟨0, ((dx1 : Nat) : Int), ((dx2 : Nat) : Int), ((dx3 : Nat) : Int)⟩ : Cell).val⟩ : Cell).val)]) st56 rfl rfl rfl rfl h2 (Nat.le_of_ble_eq_true rfl) rfl (fun w15 m5 h2' => ?_)
   replace h2 := h2'
   replace E := E.mod m5 (fun g hg => by cases hg; omega); replace hcu := hcu.mod m5 (fun g hg => by cases hg; omega); replace h1 := h1.mod m5 (fun g hg => by cases hg; omega); replace h3 := h3.mod m5 (fun g hg => by cases hg; omega)
   have z15 := m5.size
   refine J_done ?_
   refine S_ret (E_doneC rfl rfl (run_loadVar_st st56 h2.at rfl) E ?_)
   exact ⟨(⟨((dx4 : Nat) : Int), (⟨0, ((dx1 : Nat) : Int), ((dx2 : Nat) : Int), ((dx3 : Nat) : Int)⟩ : Cell).epoch, (⟨0, ((dx1 : Nat) : Int), ((dx2 : Nat) : Int), ((dx3 : Nat) : Int)⟩ : Cell).key, (⟨0, ((dx1 : Nat) : Int), ((dx2 : Nat) : Int), ((dx3 : Nat) : Int)⟩ : Cell).val⟩ : Cell), (by dsimp; omega), (by dsimp; omega), (by dsimp; omega), hcu, rfl⟩
 ·have hc1n : ¬ g.nodes.length > 0 := by first | (have h := of_decide_eq_false hc1; omega) | (have h := hc1; simp at h; omega)
  refine S_skip ?_
  refine S_seq ?_
  refine S_seq ?_
  refine S_reg [true, false] rfl rfl ?_
  refine J_st (R_move rfl) rfl ?_
  refine J_callR Try.call36 rfl rfl (s_l01Once lo vb bs 12 _ hcu (RdD.modR hbs E (.inl (Nat.le_refl _)))) rfl (fun _ w16 e11 hv => ?_)
  obtain ⟨dx7, hcu', hv⟩ := hv
  replace hcu := hcu'
  subst hv
  replace E := E.trans e11 (by omega) (by omega); replace h1 := h1.modR e11 (by omega); replace h2 := h2.modR e11 (by omega); replace h3 := h3.modR e11 (by omega)
  have z16 := e11.size
  refine J_done ?_
  refine S_cond rfl (fun hc3 => ?_) (fun hc3 => ?_)
  ·refine S_reg [true, false, false, true, false] rfl rfl ?_
   refine J_st (R_move rfl) rfl ?_
   refine J_buildSlice (vs := [.int .i64 (-1), .int .i64 7, .int .i64 8]) (css := [[.int .i64 (-1)], [.int .i64 7], [.int .i64 8]]) sl40 rfl rfl ⟨⟨rfl, rfl⟩, ⟨rfl, rfl⟩, ⟨rfl, rfl⟩, trivial⟩ rfl rfl (fun b5 w17 e12 s5 h5 => ?_)
   replace h5 : Blk w17 b5 [.int .i64 (-1), .int .i64 7, .int .i64 8] := h5
   have g_b5 : w.heap.size ≤ b5 := by have := E.size; omega
   have y_b5 := h5.lt
   replace E := E.ext e12; replace hcu := hcu.ext e12; replace h1 := h1.ext e12; replace h2 := h2.ext e12; replace h3 := h3.ext e12
   have z17 := e12.size
   refine J_callR Try.call56 rfl rfl (s_l01PickInt lo vb bs (.slice (some ⟨b5, 0, none⟩) 3 3) [(-1), 7, 8] _ hcu (RdD.modR hbs E (.inl (Nat.le_refl _))) (fun wX eX => (Blk.rd (α := Int) (xs := [(-1), 7, 8]) (by decide) (Blk.modR h5 eX (by omega)) rfl (by simp [maxLen]))) (by decide)) rfl (fun _ w18 e13 hv => ?_)
   obtain ⟨dx8, q10, hcu', hv⟩ := hv
   replace hcu := hcu'
   subst hv
   replace E := E.trans e13 (by omega) (by omega); replace h1 := h1.modR e13 (by omega); replace h2 := h2.modR e13 (by omega); replace h3 := h3.modR e13 (by omega); replace h5 := h5.modR e13 (by omega)
   have z18 := e13.size
   refine J_st (R_fieldAddr0 fl56_0 rfl) rfl ?_
   refine J_store' (cs' := [.int .i64 dx8, .int .i64 ((⟨0, ((dx1 : Nat) : Int), ((dx2 : Nat) : Int), ((dx3 : Nat) : Int)⟩ : Cell).epoch), .int .i64 ((⟨0, ((dx1 : Nat) : Int), ((dx2 : Nat) : Int), ((dx3 : Nat) : Int)⟩ : Cell).key), .int .i64 ((⟨0, ((dx1 : Nat) : Int), ((dx2 : Nat) : Int), ((dx3 : Nat) : Int)⟩ : Cell).val)]) sc3 rfl rfl rfl h3 (Nat.le_of_ble_eq_true rfl) rfl (fun w19 m6 h3' => ?_)
   replace h3 := h3'
   replace E := E.mod m6 (fun g hg => by cases hg; omega); replace hcu := hcu.mod m6 (fun g hg => by cases hg; omega); replace h1 := h1.mod m6 (fun g hg => by cases hg; omega); replace h2 := h2.mod m6 (fun g hg => by cases hg; omega); replace h5 := h5.mod m6 (fun g hg => by cases hg; omega)
   have z19 := m6.size
   refine J_done ?_
   refine S_seq ?_
   refine S_reg [true, false] rfl rfl ?_
   refine J_st (R_loadS st56 rfl h3.at rfl) rfl ?_
   refine J_storeS' (cs' := [.int .i64 ((⟨dx8, (⟨0, ((dx1 : Nat) : Int), ((dx2 : Nat) : Int), ((dx3 : Nat) : Int)⟩ : Cell).epoch, (⟨0, ((dx1 : Nat) : Int), ((dx2 : Nat) : Int), ((dx3 : Nat) : Int)⟩ : Cell).key, (⟨0, ((dx1 : Nat) : Int), ((dx2 : Nat) : Int), ((dx3 : Nat) : Int)⟩ : Cell).val⟩ : Cell).op), .int .i64 ((⟨dx8, (⟨0, ((dx1 : Nat) : Int), ((dx2 : Nat) : Int), ((dx3 : Nat) : Int)⟩ : Cell).epoch, (⟨0, ((dx1 : Nat) : Int), ((dx2 : Nat) : Int), ((dx3 : Nat) : Int)⟩ : Cell).key, (⟨0, ((dx1 : Nat) : Int), ((dx2 : Nat) : Int), ((dx3 : Nat) : Int)⟩ : Cell).val⟩ : Cell).epoch), .int .i64 ((⟨dx8, (⟨0, ((dx1 : Nat) : Int), ((dx2 : Nat) : Int), ((dx3 : Nat) : Int)⟩ : Cell).epoch, (⟨0, ((dx1 : Nat) : Int), ((dx2 : Nat) : Int), ((dx3 : Nat) : Int)⟩ : Cell).key, (⟨0, ((dx1 : Nat) : Int), ((dx2 : Nat) : Int), ((dx3 : Nat) : Int)⟩ : Cell).val⟩ : Cell).key), .int .i64 ((⟨dx8, (⟨0, ((dx1 : Nat) : Int), ((dx2 : Nat) : Int), ((dx3 : Nat) : Int)⟩ : Cell).epoch, (⟨0, ((dx1 : Nat) : Int), ((dx2 : Nat) : Int), ((dx3 : Nat) : Int)⟩ : Cell).key, (⟨0, ((dx1 : Nat) : Int), ((dx2 : Nat) : Int), ((dx3 : Nat) : Int)⟩ : Cell).val⟩ : Cell).val)]) st56 rfl rfl rfl rfl h2 (Nat.le_of_ble_eq_true rfl) rfl (fun w20 m7 h2' => ?_)
   replace h2 := h2'
   replace E := E.mod m7 (fun g hg => by cases hg; omega); replace hcu := hcu.mod m7 (fun g hg => by cases hg; omega); replace h1 := h1.mod m7 (fun g hg => by cases hg; omega); replace h3 := h3.mod m7 (fun g hg => by cases hg; omega); replace h5 := h5.mod m7 (fun g hg => by cases hg; omega)
   have z20 := m7.size
   refine J_done ?_
   refine S_ret (E_doneC rfl rfl (run_loadVar_st st56 h2.at rfl) E ?_)
   exact ⟨(⟨dx8, (⟨0, ((dx1 : Nat) : Int), ((dx2 : Nat) : Int), ((dx3 : Nat) : Int)⟩ : Cell).epoch, (⟨0, ((dx1 : Nat) : Int), ((dx2 : Nat) : Int), ((dx3 : Nat) : Int)⟩ : Cell).key, (⟨0, ((dx1 : Nat) : Int), ((dx2 : Nat) : Int), ((dx3 : Nat) : Int)⟩ : Cell).val⟩ : Cell), (by dsimp; omega), (by dsimp; omega), (by dsimp; omega), hcu, rfl⟩
  ·refine S_skip ?_
   refine S_seq ?_
   refine S_reg [true, false] rfl rfl ?_
   refine J_st (R_loadS st56 rfl h3.at rfl) rfl ?_
   refine J_storeS' (cs' := [.int .i64 ((⟨0, ((dx1 : Nat) : Int), ((dx2 : Nat) : Int), ((dx3 : Nat) : Int)⟩ : Cell).op), .int .i64 ((⟨0, ((dx1 : Nat) : Int), ((dx2 : Nat) : Int), ((dx3 : Nat) : Int)⟩ : Cell).epoch), .int .i64 ((⟨0, ((dx1 : Nat) : Int), ((dx2 : Nat) : Int), ((dx3 : Nat) : Int)⟩ : Cell).key), .int .i64 ((⟨0, ((dx1 : Nat) : Int), ((dx2 : Nat) : Int), ((dx3 : Nat) : Int)⟩ : Cell).val)]) st56 rfl rfl rfl rfl h2 (Nat.le_of_ble_eq_true rfl) rfl (fun w21 m8 h2' => ?_)
   replace h2 := h2'
   replace E := E.mod m8 (fun g hg => by cases hg; omega); replace hcu := hcu.mod m8 (fun g hg => by cases hg; omega); replace h1 := h1.mod m8 (fun g hg => by cases hg; omega); replace h3 := h3.mod m8 (fun g hg => by cases hg; omega)
   have z21 := m8.size
   refine J_done ?_
   refine S_ret (E_doneC rfl rfl (run_loadVar_st st56 h2.at rfl) E ?_)
   exact ⟨(⟨0, ((dx1 : Nat) : Int), ((dx2 : Nat) : Int), ((dx3 : Nat) : Int)⟩ : Cell), (by dsimp; omega), (by dsimp; omega), (by dsimp; omega), hcu, rfl⟩

set_option maxHeartbeats 4000000 in
set_option maxRecDepth 20000 in
theorem s_DrawImprove (vcode : Value) (code : List Byt) (w : World) (hcode : RdS w vcode code) : Ct Try.prog 24 [vcode] w (fun v w' => ∃ (dr0 : Graph) (dr1 : List Cell) (dr2 : Cell), smG dr0 ∧ dr1.length ≤ 10 ∧ (0 ≤ dr2.epoch ∧ dr2.epoch ≤ 1) ∧ (0 ≤ dr2.key ∧ dr2.key ≤ 5) ∧ (0 ≤ dr2.val ∧ dr2.val ≤ 8) ∧ ∃ c0 u1, v = .tuple [.agg c0.toArray, u1, .agg (Enc.enc dr2).toArray].toArray ∧ Dat.R w' w.heap.size w'.heap.size c0 dr0 ∧ Own w' w.heap.size w'.heap.size 4 u1 (List.flatMap (Enc.enc (α := Cell)) dr1)) := by
 refine ct_of Try.func24 rfl Try.ntmps24 rfl ?_
 refine S_sub [(0, vcode)] ⟨rfl, trivial⟩ ?_
 have E : Ext w w := Ext.refl w
 refine S_seq ?_
 refine S_reg [false, true, false] rfl rfl ?_
 refine J_alloc st26 rfl (fun b1 w1 e1 s1 h1 => ?_)
 have g_b1 : w.heap.size ≤ b1 := by have := E.size; omega
 have y_b1 := h1.lt
 replace E := E.trans e1
 have z1 := e1.size
 refine J_st (R_assign rfl) rfl ?_
 refine J_alloc st56 rfl (fun b2 w2 e2 s2 h2 => ?_)
 have g_b2 : w.heap.size ≤ b2 := by have := E.size; omega
 have y_b2 := h2.lt
 replace E := E.trans e2; replace h1 := h1.ext e2
 have z2 := e2.size
 refine J_done ?_
 refine S_seq ?_
 refine S_reg [true, false, true] rfl rfl ?_
 refine J_st (R_move rfl) rfl ?_
 refine J_call Try.call34 rfl (s_l01New vcode code _ (hcode.ext E)) rfl (fun _ w3 e3 hcu1 => ?_)
 obtain ⟨bc1, rfl, ybc1, hcu1⟩ := hcu1
 have g_bc1 : w.heap.size ≤ bc1 := Nat.le_trans E.size ybc1
 have y_bc1 := CurO.lt hcu1
 replace E := E.trans e3; replace h1 := h1.ext e3; replace h2 := h2.ext e3
 have z3 := e3.size
 refine J_st (R_assign rfl) rfl (J_done ?_)
 refine S_seq ?_
 refine S_reg [true, false, false, false] rfl rfl ?_
 refine J_st (R_move rfl) rfl ?_
 refine J_callR Try.call35 rfl rfl (s_l08Graph bc1 vcode code _ hcu1 (RdD.widen (RdD.ext (RdS.rdD hcode) E) (Nat.le_refl _) (by omega))) rfl (fun _ w4 e4 ho1 => ?_)
 obtain ⟨dx1, q1, q2, q3, hcu1', ho1⟩ := ho1
 replace hcu1 := hcu1'
 obtain ⟨o1, rfl, ho1⟩ := ho1
 have g_ho1 : w.heap.size ≤ w3.heap.size := E.size
 replace E := E.stepR e4 (by omega); replace h1 := h1.modR e4 (by omega); replace h2 := h2.modR e4 (by omega)
 have z4 := e4.size
 refine J_alloc st26 rfl (fun b3 w5 e5 s3 h3 => ?_)
 have g_b3 : w.heap.size ≤ b3 := by have := E.size; omega
 have y_b3 := h3.lt
 replace E := E.trans e5; replace h1 := h1.ext e5; replace h2 := h2.ext e5; replace hcu1 := hcu1.ext e5; replace ho1 := ho1.ext e5
 have z5 := e5.size
 refine J_storeS' (cs' := [o1, .int .i64 dx1.workers, .int .i64 dx1.cap]) st26 rfl rfl rfl (all_cons (RdD.one (OwS.rd ho1)) (all_cons rfl (all_cons rfl rfl))) h3 (Nat.le_of_ble_eq_true rfl) rfl (fun w6 m1 h3' => ?_)
 replace h3 := h3'
 replace E := E.step m1 (fun g hg => by cases hg; omega); replace h1 := h1.mod m1 (fun g hg => by cases hg; omega); replace h2 := h2.mod m1 (fun g hg => by cases hg; omega); replace hcu1 := hcu1.mod m1 (fun g hg => by cases hg; omega); replace ho1 := ho1.mod m1 (fun g hg => by cases hg; omega)
 have z6 := m1.size
 refine J_done ?_
 refine S_seq ?_
 refine S_seq ?_
 refine S_reg [true, false] rfl rfl ?_
 refine J_st (R_move rfl) rfl ?_
 refine J_callR Try.call36 rfl rfl (s_l01Once bc1 vcode code 10 _ hcu1 (RdD.widen (RdD.ext (RdS.rdD hcode) E) (Nat.le_refl _) (by omega))) rfl (fun _ w7 e6 hv => ?_)
 obtain ⟨dx2, hcu1', hv⟩ := hv
 replace hcu1 := hcu1'
 subst hv
 replace E := E.stepR e6 (by omega); replace h1 := h1.modR e6 (by omega); replace h2 := h2.modR e6 (by omega); replace ho1 := ho1.modR e6 (by omega); replace h3 := h3.modR e6 (by omega)
 have z7 := e6.size
 refine J_done ?_
 refine S_cond rfl (fun hc1 => ?_) (fun hc1 => ?_)
 ·refine S_reg [true, false, false] rfl rfl ?_
  refine J_st (R_move rfl) rfl ?_
  refine J_callR Try.call37 rfl rfl (s_l08Any bc1 vcode code _ hcu1 (RdD.widen (RdD.ext (RdS.rdD hcode) E) (Nat.le_refl _) (by omega))) rfl (fun v1 w8 e7 ho2 => ?_)
  obtain ⟨dx3, q4, hcu1', ho2⟩ := ho2
  replace hcu1 := hcu1'
  obtain ⟨_, rfl, ho2⟩ := ho2
  obtain ⟨o2, rfl, hd1⟩ := Graph.op ho2
  replace E := E.stepR e7 (by omega); replace h1 := h1.modR e7 (by omega); replace h2 := h2.modR e7 (by omega); replace ho1 := ho1.modR e7 (by omega); replace h3 := h3.modR e7 (by omega)
  have z8 := e7.size
  refine J_storeS' (cs' := [o2, .int .i64 dx3.workers, .int .i64 dx3.cap]) st26 rfl rfl rfl (all_cons (RdD.one hd1) (all_cons rfl (all_cons rfl rfl))) h3 (Nat.le_of_ble_eq_true rfl) rfl (fun w9 m2 h3' => ?_)
  replace h3 := h3'
  replace E := E.step m2 (fun g hg => by cases hg; omega); replace h1 := h1.mod m2 (fun g hg => by cases hg; omega); replace h2 := h2.mod m2 (fun g hg => by cases hg; omega); replace hcu1 := hcu1.mod m2 (fun g hg => by cases hg; omega); replace ho1 := ho1.mod m2 (fun g hg => by cases hg; omega); replace hd1 := hd1.mod m2 (fun g hg => by cases hg; omega)
  have z9 := m2.size
  refine J_done ?_
  refine S_seq ?_
  refine S_reg [false, true] rfl rfl ?_
  refine J_buildSlice (vs := []) (css := []) sl27 rfl rfl trivial rfl rfl (fun b4 w10 e8 s4 h4 => ?_)
  replace h4 : Blk w10 b4 [] := h4
  have g_b4 : w.heap.size ≤ b4 := by have := E.size; omega
  have y_b4 := h4.lt
  replace E := E.trans e8; replace h1 := h1.ext e8; replace h2 := h2.ext e8; replace hcu1 := hcu1.ext e8; replace ho1 := ho1.ext e8; replace h3 := h3.ext e8; replace hd1 := hd1.ext e8
  have z10 := e8.size
  refine J_st (R_assign rfl) rfl (J_done ?_)
  refine S_seq ?_
  refine S_seq ?_
  refine S_reg [true] rfl rfl ?_
  refine J_st (R_assign rfl) rfl (J_done ?_)
  refine S_block ?_
  refine S_loop (fun (xq : Nat × Value × List Cell) => let ⟨k, vo, ls⟩ := xq; [(2, .pointer (some ⟨b1, 0, none⟩)), (3, .slice none 0 0), (4, .pointer (some ⟨b2, 0, none⟩)), (5, .pointer (some ⟨bc1, 0, none⟩)), (6, .pointer (some ⟨b3, 0, none⟩)), (7, vo), (8, .int .i64 ((k : Nat) : Int))]) (fun (xq : Nat × Value × List Cell) w' => let ⟨k, vo, ls⟩ := xq; Ext w w' ∧ w10.heap.size ≤ w'.heap.size ∧ Blk w' b1 [.slice none 0 0, .int .i64 0, .int .i64 0] ∧ Blk w' b2 [.int .i64 0, .int .i64 0, .int .i64 0, .int .i64 0] ∧ CurO w' bc1 vcode code ∧ OwS w' w3.heap.size w4.heap.size o1 dx1.nodes ∧ Blk w' b3 [o2, .int .i64 dx3.workers, .int .i64 dx3.cap] ∧ RdD w' w7.heap.size w8.heap.size o2 dx3.nodes ∧ k ≤ 6 ∧ ls.length ≤ k ∧ Own w' b4 w'.heap.size 4 vo (List.flatMap (Enc.enc (α := Cell)) ls)) (fun (xq : Nat × Value × List Cell) => let ⟨k, vo, ls⟩ := xq; 6 - k) (0, .slice (some ⟨b4, 0, none⟩) 0 0, []) ⟨rfl, rfl, rfl, rfl, rfl, rfl, rfl, trivial⟩ ⟨E, Nat.le_refl _, h1, h2, hcu1, ho1, h3, hd1, Nat.zero_le _, Nat.le_refl _, Own.fin (Own.ofBlk (lo := b4) (hi := b4 + 1) (sz := 4) h4 (Nat.le_refl _) (Nat.lt_succ_self _) (by simp) (by simp [maxLen])) (by omega) (by omega) rfl⟩ ?_
  clear E h1 h2 hcu1 ho1 h3 hd1 h4
  rintro ⟨k, vo, ls⟩ w11 ⟨E, z11, h1, h2, hcu1, ho1, h3, hd1, hk, hls, ho⟩
  refine S_sub [(2, .pointer (some ⟨b1, 0, none⟩)), (3, .slice none 0 0), (4, .pointer (some ⟨b2, 0, none⟩)), (5, .pointer (some ⟨bc1, 0, none⟩)), (6, .pointer (some ⟨b3, 0, none⟩)), (7, vo), (8, .int .i64 ((k : Nat) : Int))] ⟨rfl, rfl, rfl, rfl, rfl, rfl, rfl, trivial⟩ ?_
  refine S_seq ?_
  refine S_seq ?_
  refine S_reg [true, true, false, true] rfl rfl ?_
  refine J_st (R_move rfl) rfl (J_st (R_move rfl) rfl ?_)
  refine J_callR Try.call55 rfl rfl (s_l01Below bc1 vcode code 6 _ hcu1 (RdD.widen (RdD.ext (RdS.rdD hcode) E) (Nat.le_refl _) (by omega))) rfl (fun _ w12 e9 hv => ?_)
  obtain ⟨dx4, q5, q6, hcu1', hv⟩ := hv
  replace hcu1 := hcu1'
  subst hv
  replace E := E.stepR e9 (by omega); replace h1 := h1.modR e9 (by omega); replace h2 := h2.modR e9 (by omega); replace ho1 := ho1.modR e9 (by omega); replace h3 := h3.modR e9 (by omega); replace hd1 := hd1.modR e9 (by omega); replace ho := ho.modR e9 (by omega)
  have z12 := e9.size
  refine J_st (R_lss rfl rfl) rfl (J_done ?_)
  refine S_cond rfl (fun hc2 => ?_) (fun hc2 => ?_)
  ·have hc2n : k < dx4 := by first | (have h := of_decide_eq_true hc2; omega) | (have h := hc2; simp at h; omega)
   refine S_skip ?_
   refine S_seq ?_
   refine S_block ?_
   refine S_regW mixed [1, 2, 6, 7, 8, 9] [(0, true), (1, true), (2, true), (3, true), (4, false), (5, false), (6, true), (7, true), (8, true), (9, true)] [] (by decide +kernel) rfl rfl (fun w' => Ext w w' ∧ w12.heap.size ≤ w'.heap.size ∧ Blk w' b1 [.slice none 0 0, .int .i64 0, .int .i64 0] ∧ Blk w' b2 [.int .i64 0, .int .i64 0, .int .i64 0, .int .i64 0] ∧ CurO w' bc1 vcode code ∧ OwS w' w3.heap.size w4.heap.size o1 dx1.nodes ∧ Blk w' b3 [o2, .int .i64 dx3.workers, .int .i64 dx3.cap] ∧ RdD w' w7.heap.size w8.heap.size o2 dx3.nodes ∧ Own w' b4 w11.heap.size 4 vo (List.flatMap (Enc.enc (α := Cell)) ls)) (fun w13 e10 => ?_)
   replace E := E.trans e10; replace h1 := h1.ext e10; replace h2 := h2.ext e10; replace hcu1 := hcu1.ext e10; replace ho1 := ho1.ext e10; replace h3 := h3.ext e10; replace hd1 := hd1.ext e10; replace ho := ho.ext e10
   have z13 := e10.size
   refine ⟨⟨E, (by omega), h1, h2, hcu1, ho1, h3, hd1, ho⟩, ?_⟩
   refine JC_st rfl (fun wX hX => by obtain ⟨E, zX, h1, h2, hcu1, ho1, h3, hd1, ho⟩ := hX; exact R_loadS st26 rfl h3.at rfl) rfl ?_
   refine JC_pu rfl (fun wX => R_move rfl) rfl ?_
   refine JC_pu rfl (fun wX => R_move rfl) rfl ?_
   refine JC_st rfl (fun wX hX => by obtain ⟨E, zX, h1, h2, hcu1, ho1, h3, hd1, ho⟩ := hX; exact R_loadS st26 rfl h3.at rfl) rfl ?_
   refine JC_un rfl ?_
   refine J_callR Try.call63 rfl rfl (s_l11Cell bc1 vcode code o2 dx3 _ hcu1 (RdD.widen (RdD.ext (RdS.rdD hcode) E) (Nat.le_refl _) (by omega)) (fun wX eX => RdD.any (RdD.modR hd1 eX (by omega)))) rfl (fun _ w14 e11 hv => ?_)
   obtain ⟨dx5, q7, q8, q9, hcu1', hv⟩ := hv
   replace hcu1 := hcu1'
   subst hv
   replace E := E.stepR e11 (by omega); replace h1 := h1.modR e11 (by omega); replace h2 := h2.modR e11 (by omega); replace ho1 := ho1.modR e11 (by omega); replace h3 := h3.modR e11 (by omega); replace hd1 := hd1.modR e11 (by omega); replace ho := ho.modR e11 (by omega)
   have z14 := e11.size
   refine JC_next ⟨E, (by omega), h1, h2, hcu1, ho1, h3, hd1, ho⟩ ?_
   refine JC_un rfl ?_
   refine J_call Try.call26 rfl (s_Improve [o2, .int .i64 dx3.workers, .int .i64 dx3.cap] dx3 vo ls dx5 _ (Graph.mkR dx3 (RdD.any hd1)) (Own.rd (by decide) ho) (by omega) (smG_cnt (by assumption))) rfl (fun _ w15 e12 ho3 => ?_)
   obtain ⟨v2, v3, rfl, ho4, ho5, sp1⟩ := ho3
   have g_ho3 : w.heap.size ≤ w14.heap.size := E.size
   replace E := E.trans e12; replace h1 := h1.ext e12; replace h2 := h2.ext e12; replace hcu1 := hcu1.ext e12; replace ho1 := ho1.ext e12; replace h3 := h3.ext e12; replace hd1 := hd1.ext e12; replace ho := ho.ext e12
   have z15 := e12.size
   refine JC_next ⟨E, (by omega), h1, h2, hcu1, ho1, h3, hd1, ho⟩ ?_
   refine JC_pu rfl (fun wX => R_move rfl) rfl ?_
   refine JC_pu rfl (fun wX => R_extract rfl rfl) rfl ?_
   refine JC_pu rfl (fun wX => R_extract rfl rfl) rfl ?_
   refine JC_pu rfl (fun wX => R_assign rfl) rfl ?_
   refine JC_end ?_
   refine J_done ?_
   refine S_nil (E_inB ?_)
   refine S_reg [true, true, true] rfl rfl ?_
   refine J_st (R_move rfl) rfl (J_st (R_add rfl rfl (add_nat (by unfold maxLen; omega))) rfl (J_st (R_assign rfl) rfl (J_done ?_)))
   refine S_nil (E_again (k + 1, v2, ((improveM dx3 ls dx5).1)) (by simp; omega) ⟨rfl, rfl, rfl, rfl, rfl, rfl, rfl, trivial⟩ ⟨E, (by omega), h1, h2, hcu1, ho1, h3, hd1, (by omega), (Nat.le_trans improve_len1 (by omega)), Own.fin ho4 (by omega) (by omega) (by first | (simp [*]; done) | (simp [Enc.enc]; done))⟩)
  ·have hc2n : ¬ k < dx4 := by first | (have h := of_decide_eq_false hc2; omega) | (have h := hc2; simp at h; omega)
   refine S_exit (E_lp_exit (E_inB_exit ?_))
   refine S_seq ?_
   refine S_regW mixed [1, 2, 6] [(0, true), (1, true), (2, true), (3, true), (4, false)] [(5, false), (6, true), (7, false)] (by decide +kernel) rfl rfl (fun w' => Ext w w' ∧ w12.heap.size ≤ w'.heap.size ∧ Blk w' b1 [.slice none 0 0, .int .i64 0, .int .i64 0] ∧ Blk w' b2 [.int .i64 0, .int .i64 0, .int .i64 0, .int .i64 0] ∧ CurO w' bc1 vcode code ∧ OwS w' w3.heap.size w4.heap.size o1 dx1.nodes ∧ Blk w' b3 [o2, .int .i64 dx3.workers, .int .i64 dx3.cap] ∧ RdD w' w7.heap.size w8.heap.size o2 dx3.nodes ∧ Own w' b4 w11.heap.size 4 vo (List.flatMap (Enc.enc (α := Cell)) ls)) (fun w16 e13 => ?_)
   replace E := E.trans e13; replace h1 := h1.ext e13; replace h2 := h2.ext e13; replace hcu1 := hcu1.ext e13; replace ho1 := ho1.ext e13; replace h3 := h3.ext e13; replace hd1 := hd1.ext e13; replace ho := ho.ext e13
   have z16 := e13.size
   refine ⟨⟨E, (by omega), h1, h2, hcu1, ho1, h3, hd1, ho⟩, ?_⟩
   refine JC_st rfl (fun wX hX => by obtain ⟨E, zX, h1, h2, hcu1, ho1, h3, hd1, ho⟩ := hX; exact R_loadS st26 rfl h3.at rfl) rfl ?_
   refine JC_pu rfl (fun wX => R_move rfl) rfl ?_
   refine JC_pu rfl (fun wX => R_move rfl) rfl ?_
   refine JC_st rfl (fun wX hX => by obtain ⟨E, zX, h1, h2, hcu1, ho1, h3, hd1, ho⟩ := hX; exact R_loadS st26 rfl h3.at rfl) rfl ?_
   refine JC_un rfl ?_
   refine J_callR Try.call63 rfl rfl (s_l11Cell bc1 vcode code o2 dx3 _ hcu1 (RdD.widen (RdD.ext (RdS.rdD hcode) E) (Nat.le_refl _) (by omega)) (fun wX eX => RdD.any (RdD.modR hd1 eX (by omega)))) rfl (fun _ w17 e14 hv => ?_)
   obtain ⟨dx6, q10, q11, q12, hcu1', hv⟩ := hv
   replace hcu1 := hcu1'
   subst hv
   replace E := E.stepR e14 (by omega); replace h1 := h1.modR e14 (by omega); replace h2 := h2.modR e14 (by omega); replace ho1 := ho1.modR e14 (by omega); replace h3 := h3.modR e14 (by omega); replace hd1 := hd1.modR e14 (by omega); replace ho := ho.modR e14 (by omega)
   have z17 := e14.size
   refine JC_next ⟨E, (by omega), h1, h2, hcu1, ho1, h3, hd1, ho⟩ ?_
   refine JC_end ?_
   refine J_storeS' (cs' := [o2, .int .i64 dx3.workers, .int .i64 dx3.cap]) st26 rfl rfl rfl (all_cons (RdD.one hd1) (all_cons rfl (all_cons rfl rfl))) h1 (Nat.le_of_ble_eq_true rfl) rfl (fun w18 m3 h1' => ?_)
   replace h1 := h1'
   replace E := E.step m3 (fun g hg => by cases hg; omega); replace h2 := h2.mod m3 (fun g hg => by cases hg; omega); replace hcu1 := hcu1.mod m3 (fun g hg => by cases hg; omega); replace ho1 := ho1.mod m3 (fun g hg => by cases hg; omega); replace h3 := h3.mod m3 (fun g hg => by cases hg; omega); replace hd1 := hd1.mod m3 (fun g hg => by cases hg; omega); replace ho := ho.mod m3 (fun g hg => by cases hg; omega)
   have z18 := m3.size
   refine J_st (R_assign rfl) rfl ?_
   refine J_storeS' (cs' := [.int .i64 dx6.op, .int .i64 dx6.epoch, .int .i64 dx6.key, .int .i64 dx6.val]) st56 rfl rfl rfl rfl h2 (Nat.le_of_ble_eq_true rfl) rfl (fun w19 m4 h2' => ?_)
   replace h2 := h2'
   replace E := E.step m4 (fun g hg => by cases hg; omega); replace h1 := h1.mod m4 (fun g hg => by cases hg; omega); replace hcu1 := hcu1.mod m4 (fun g hg => by cases hg; omega); replace ho1 := ho1.mod m4 (fun g hg => by cases hg; omega); replace h3 := h3.mod m4 (fun g hg => by cases hg; omega); replace hd1 := hd1.mod m4 (fun g hg => by cases hg; omega); replace ho := ho.mod m4 (fun g hg => by cases hg; omega)
   have z19 := m4.size
   refine J_done ?_
   refine S_ret (E_doneN (l := [.cell 2 26, .tmp 3, .cell 4 56]) (vs := [.agg [o2, .int .i64 dx3.workers, .int .i64 dx3.cap].toArray, vo, .agg (Enc.enc dx6).toArray]) rfl ⟨.cell rfl (run_loadVar_st st26 h1.at rfl), .tmp rfl, .cell rfl (run_loadVar_st st56 h2.at rfl), trivial⟩ rfl E ?_)
   exact ⟨dx3, ls, dx6, (by assumption), (by omega), (by assumption), (by assumption), (by assumption), ⟨_, _, rfl, (Graph.mkR _ (RdD.widen hd1 (by have := E.size; omega) (by omega))), (Own.fin ho (by have := E.size; omega) (by omega) (by first | (simp [*]; done) | (simp [*]; rfl)))⟩⟩
 ·refine S_skip ?_
  refine S_seq ?_
  refine S_reg [false, true] rfl rfl ?_
  refine J_buildSlice (vs := []) (css := []) sl27 rfl rfl trivial rfl rfl (fun b5 w20 e15 s5 h5 => ?_)
  replace h5 : Blk w20 b5 [] := h5
  have g_b5 : w.heap.size ≤ b5 := by have := E.size; omega
  have y_b5 := h5.lt
  replace E := E.trans e15; replace h1 := h1.ext e15; replace h2 := h2.ext e15; replace hcu1 := hcu1.ext e15; replace ho1 := ho1.ext e15; replace h3 := h3.ext e15
  have z20 := e15.size
  refine J_st (R_assign rfl) rfl (J_done ?_)
  refine S_seq ?_
  refine S_seq ?_
  refine S_reg [true] rfl rfl ?_
  refine J_st (R_assign rfl) rfl (J_done ?_)
  refine S_block ?_
  refine S_loop (fun (xq : Nat × Value × List Cell) => let ⟨k, vo, ls⟩ := xq; [(2, .pointer (some ⟨b1, 0, none⟩)), (3, .slice none 0 0), (4, .pointer (some ⟨b2, 0, none⟩)), (5, .pointer (some ⟨bc1, 0, none⟩)), (6, .pointer (some ⟨b3, 0, none⟩)), (7, vo), (8, .int .i64 ((k : Nat) : Int))]) (fun (xq : Nat × Value × List Cell) w' => let ⟨k, vo, ls⟩ := xq; Ext w w' ∧ w20.heap.size ≤ w'.heap.size ∧ Blk w' b1 [.slice none 0 0, .int .i64 0, .int .i64 0] ∧ Blk w' b2 [.int .i64 0, .int .i64 0, .int .i64 0, .int .i64 0] ∧ CurO w' bc1 vcode code ∧ OwS w' w3.heap.size w4.heap.size o1 dx1.nodes ∧ Blk w' b3 [o1, .int .i64 dx1.workers, .int .i64 dx1.cap] ∧ k ≤ 6 ∧ ls.length ≤ k ∧ Own w' b5 w'.heap.size 4 vo (List.flatMap (Enc.enc (α := Cell)) ls)) (fun (xq : Nat × Value × List Cell) => let ⟨k, vo, ls⟩ := xq; 6 - k) (0, .slice (some ⟨b5, 0, none⟩) 0 0, []) ⟨rfl, rfl, rfl, rfl, rfl, rfl, rfl, trivial⟩ ⟨E, Nat.le_refl _, h1, h2, hcu1, ho1, h3, Nat.zero_le _, Nat.le_refl _, Own.fin (Own.ofBlk (lo := b5) (hi := b5 + 1) (sz := 4) h5 (Nat.le_refl _) (Nat.lt_succ_self _) (by simp) (by simp [maxLen])) (by omega) (by omega) rfl⟩ ?_
  clear E h1 h2 hcu1 ho1 h3 h5
  rintro ⟨k, vo, ls⟩ w21 ⟨E, z21, h1, h2, hcu1, ho1, h3, hk, hls, ho⟩
  refine S_sub [(2, .pointer (some ⟨b1, 0, none⟩)), (3, .slice none 0 0), (4, .pointer (some ⟨b2, 0, none⟩)), (5, .pointer (some ⟨bc1, 0, none⟩)), (6, .pointer (some ⟨b3, 0, none⟩)), (7, vo), (8, .int .i64 ((k : Nat) : Int))] ⟨rfl, rfl, rfl, rfl, rfl, rfl, rfl, trivial⟩ ?_
  refine S_seq ?_
  refine S_seq ?_
  refine S_reg [true, true, false, true] rfl rfl ?_
  refine J_st (R_move rfl) rfl (J_st (R_move rfl) rfl ?_)
  refine J_callR Try.call55 rfl rfl (s_l01Below bc1 vcode code 6 _ hcu1 (RdD.widen (RdD.ext (RdS.rdD hcode) E) (Nat.le_refl _) (by omega))) rfl (fun _ w22 e16 hv => ?_)
  obtain ⟨dx7, q13, q14, hcu1', hv⟩ := hv
  replace hcu1 := hcu1'
  subst hv
  replace E := E.stepR e16 (by omega); replace h1 := h1.modR e16 (by omega); replace h2 := h2.modR e16 (by omega); replace ho1 := ho1.modR e16 (by omega); replace h3 := h3.modR e16 (by omega); replace ho := ho.modR e16 (by omega)
  have z22 := e16.size
  refine J_st (R_lss rfl rfl) rfl (J_done ?_)
  refine S_cond rfl (fun hc3 => ?_) (fun hc3 => ?_)
  ·have hc3n : k < dx7 := by first | (have h := of_decide_eq_true hc3; omega) | (have h := hc3; simp at h; omega)
   refine S_skip ?_
   refine S_seq ?_
   refine S_block ?_
   refine S_regW mixed [1, 2, 6, 7, 8, 9] [(0, true), (1, true), (2, true), (3, true), (4, false), (5, false), (6, true), (7, true), (8, true), (9, true)] [] (by decide +kernel) rfl rfl (fun w' => Ext w w' ∧ w22.heap.size ≤ w'.heap.size ∧ Blk w' b1 [.slice none 0 0, .int .i64 0, .int .i64 0] ∧ Blk w' b2 [.int .i64 0, .int .i64 0, .int .i64 0, .int .i64 0] ∧ CurO w' bc1 vcode code ∧ OwS w' w3.heap.size w4.heap.size o1 dx1.nodes ∧ Blk w' b3 [o1, .int .i64 dx1.workers, .int .i64 dx1.cap] ∧ Own w' b5 w21.heap.size 4 vo (List.flatMap (Enc.enc (α := Cell)) ls)) (fun w23 e17 => ?_)
   replace E := E.trans e17; replace h1 := h1.ext e17; replace h2 := h2.ext e17; replace hcu1 := hcu1.ext e17; replace ho1 := ho1.ext e17; replace h3 := h3.ext e17; replace ho := ho.ext e17
   have z23 := e17.size
   refine ⟨⟨E, (by omega), h1, h2, hcu1, ho1, h3, ho⟩, ?_⟩
   refine JC_st rfl (fun wX hX => by obtain ⟨E, zX, h1, h2, hcu1, ho1, h3, ho⟩ := hX; exact R_loadS st26 rfl h3.at rfl) rfl ?_
   refine JC_pu rfl (fun wX => R_move rfl) rfl ?_
   refine JC_pu rfl (fun wX => R_move rfl) rfl ?_
   refine JC_st rfl (fun wX hX => by obtain ⟨E, zX, h1, h2, hcu1, ho1, h3, ho⟩ := hX; exact R_loadS st26 rfl h3.at rfl) rfl ?_
   refine JC_un rfl ?_
   refine J_callR Try.call63 rfl rfl (s_l11Cell bc1 vcode code o1 dx1 _ hcu1 (RdD.widen (RdD.ext (RdS.rdD hcode) E) (Nat.le_refl _) (by omega)) (fun wX eX => RdD.any (OwS.rd (OwS.modR ho1 eX (by omega))))) rfl (fun _ w24 e18 hv => ?_)
   obtain ⟨dx8, q15, q16, q17, hcu1', hv⟩ := hv
   replace hcu1 := hcu1'
   subst hv
   replace E := E.stepR e18 (by omega); replace h1 := h1.modR e18 (by omega); replace h2 := h2.modR e18 (by omega); replace ho1 := ho1.modR e18 (by omega); replace h3 := h3.modR e18 (by omega); replace ho := ho.modR e18 (by omega)
   have z24 := e18.size
   refine JC_next ⟨E, (by omega), h1, h2, hcu1, ho1, h3, ho⟩ ?_
   refine JC_un rfl ?_
   refine J_call Try.call26 rfl (s_Improve [o1, .int .i64 dx1.workers, .int .i64 dx1.cap] dx1 vo ls dx8 _ (Graph.mkR dx1 (RdD.any (OwS.rd ho1))) (Own.rd (by decide) ho) (by omega) (smG_cnt (by assumption))) rfl (fun _ w25 e19 ho6 => ?_)
   obtain ⟨v4, v5, rfl, ho7, ho8, sp2⟩ := ho6
   have g_ho6 : w.heap.size ≤ w24.heap.size := E.size
   replace E := E.trans e19; replace h1 := h1.ext e19; replace h2 := h2.ext e19; replace hcu1 := hcu1.ext e19; replace ho1 := ho1.ext e19; replace h3 := h3.ext e19; replace ho := ho.ext e19
   have z25 := e19.size
   refine JC_next ⟨E, (by omega), h1, h2, hcu1, ho1, h3, ho⟩ ?_
   refine JC_pu rfl (fun wX => R_move rfl) rfl ?_
   refine JC_pu rfl (fun wX => R_extract rfl rfl) rfl ?_
   refine JC_pu rfl (fun wX => R_extract rfl rfl) rfl ?_
   refine JC_pu rfl (fun wX => R_assign rfl) rfl ?_
   refine JC_end ?_
   refine J_done ?_
   refine S_nil (E_inB ?_)
   refine S_reg [true, true, true] rfl rfl ?_
   refine J_st (R_move rfl) rfl (J_st (R_add rfl rfl (add_nat (by unfold maxLen; omega))) rfl (J_st (R_assign rfl) rfl (J_done ?_)))
   refine S_nil (E_again (k + 1, v4, ((improveM dx1 ls dx8).1)) (by simp; omega) ⟨rfl, rfl, rfl, rfl, rfl, rfl, rfl, trivial⟩ ⟨E, (by omega), h1, h2, hcu1, ho1, h3, (by omega), (Nat.le_trans improve_len1 (by omega)), Own.fin ho7 (by omega) (by omega) (by first | (simp [*]; done) | (simp [Enc.enc]; done))⟩)
  ·have hc3n : ¬ k < dx7 := by first | (have h := of_decide_eq_false hc3; omega) | (have h := hc3; simp at h; omega)
   refine S_exit (E_lp_exit (E_inB_exit ?_))
   refine S_seq ?_
   refine S_regW mixed [1, 2, 6] [(0, true), (1, true), (2, true), (3, true), (4, false)] [(5, false), (6, true), (7, false)] (by decide +kernel) rfl rfl (fun w' => Ext w w' ∧ w22.heap.size ≤ w'.heap.size ∧ Blk w' b1 [.slice none 0 0, .int .i64 0, .int .i64 0] ∧ Blk w' b2 [.int .i64 0, .int .i64 0, .int .i64 0, .int .i64 0] ∧ CurO w' bc1 vcode code ∧ OwS w' w3.heap.size w4.heap.size o1 dx1.nodes ∧ Blk w' b3 [o1, .int .i64 dx1.workers, .int .i64 dx1.cap] ∧ Own w' b5 w21.heap.size 4 vo (List.flatMap (Enc.enc (α := Cell)) ls)) (fun w26 e20 => ?_)
   replace E := E.trans e20; replace h1 := h1.ext e20; replace h2 := h2.ext e20; replace hcu1 := hcu1.ext e20; replace ho1 := ho1.ext e20; replace h3 := h3.ext e20; replace ho := ho.ext e20
   have z26 := e20.size
   refine ⟨⟨E, (by omega), h1, h2, hcu1, ho1, h3, ho⟩, ?_⟩
   refine JC_st rfl (fun wX hX => by obtain ⟨E, zX, h1, h2, hcu1, ho1, h3, ho⟩ := hX; exact R_loadS st26 rfl h3.at rfl) rfl ?_
   refine JC_pu rfl (fun wX => R_move rfl) rfl ?_
   refine JC_pu rfl (fun wX => R_move rfl) rfl ?_
   refine JC_st rfl (fun wX hX => by obtain ⟨E, zX, h1, h2, hcu1, ho1, h3, ho⟩ := hX; exact R_loadS st26 rfl h3.at rfl) rfl ?_
   refine JC_un rfl ?_
   refine J_callR Try.call63 rfl rfl (s_l11Cell bc1 vcode code o1 dx1 _ hcu1 (RdD.widen (RdD.ext (RdS.rdD hcode) E) (Nat.le_refl _) (by omega)) (fun wX eX => RdD.any (OwS.rd (OwS.modR ho1 eX (by omega))))) rfl (fun _ w27 e21 hv => ?_)
   obtain ⟨dx9, q18, q19, q20, hcu1', hv⟩ := hv
   replace hcu1 := hcu1'
   subst hv
   replace E := E.stepR e21 (by omega); replace h1 := h1.modR e21 (by omega); replace h2 := h2.modR e21 (by omega); replace ho1 := ho1.modR e21 (by omega); replace h3 := h3.modR e21 (by omega); replace ho := ho.modR e21 (by omega)
   have z27 := e21.size
   refine JC_next ⟨E, (by omega), h1, h2, hcu1, ho1, h3, ho⟩ ?_
   refine JC_end ?_
   refine J_storeS' (cs' := [o1, .int .i64 dx1.workers, .int .i64 dx1.cap]) st26 rfl rfl rfl (all_cons (RdD.one (OwS.rd ho1)) (all_cons rfl (all_cons rfl rfl))) h1 (Nat.le_of_ble_eq_true rfl) rfl (fun w28 m5 h1' => ?_)
   replace h1 := h1'
   replace E := E.step m5 (fun g hg => by cases hg; omega); replace h2 := h2.mod m5 (fun g hg => by cases hg; omega); replace hcu1 := hcu1.mod m5 (fun g hg => by cases hg; omega); replace ho1 := ho1.mod m5 (fun g hg => by cases hg; omega); replace h3 := h3.mod m5 (fun g hg => by cases hg; omega); replace ho := ho.mod m5 (fun g hg => by cases hg; omega)
   have z28 := m5.size
   refine J_st (R_assign rfl) rfl ?_
   refine J_storeS' (cs' := [.int .i64 dx9.op, .int .i64 dx9.epoch, .int .i64 dx9.key, .int .i64 dx9.val]) st56 rfl rfl rfl rfl h2 (Nat.le_of_ble_eq_true rfl) rfl (fun w29 m6 h2' => ?_)
   replace h2 := h2'
   replace E := E.step m6 (fun g hg => by cases hg; omega); replace h1 := h1.mod m6 (fun g hg => by cases hg; omega); replace hcu1 := hcu1.mod m6 (fun g hg => by cases hg; omega); replace ho1 := ho1.mod m6 (fun g hg => by cases hg; omega); replace h3 := h3.mod m6 (fun g hg => by cases hg; omega); replace ho := ho.mod m6 (fun g hg => by cases hg; omega)
   have z29 := m6.size
   refine J_done ?_
   refine S_ret (E_doneN (l := [.cell 2 26, .tmp 3, .cell 4 56]) (vs := [.agg [o1, .int .i64 dx1.workers, .int .i64 dx1.cap].toArray, vo, .agg (Enc.enc dx9).toArray]) rfl ⟨.cell rfl (run_loadVar_st st26 h1.at rfl), .tmp rfl, .cell rfl (run_loadVar_st st56 h2.at rfl), trivial⟩ rfl E ?_)
   exact ⟨dx1, ls, dx9, (by assumption), (by omega), (by assumption), (by assumption), (by assumption), ⟨_, _, rfl, (Graph.mkR _ (RdD.widen (OwS.rd ho1) (by have := E.size; omega) (by omega))), (Own.fin ho (by have := E.size; omega) (by omega) (by first | (simp [*]; done) | (simp [*]; rfl)))⟩⟩

set_option maxRecDepth 20000 in
theorem s_l02Stamp (lo : Nat) (vb : Value) (bs : List Byt) (w : World) (hcu : CurO w lo vb bs) (hbs : RdD w 0 lo vb bs) : CtR Try.prog 87 [.pointer (some ⟨lo, 0, none⟩)] w lo (lo + 1) (fun v w' => ∃ (dr0 : Stamp), CurO w' lo vb bs ∧ v = .agg (Enc.enc dr0).toArray) := by
 have y_lo := CurO.lt hcu
 refine ctR_of Try.func87 rfl Try.ntmps87 rfl ?_
 refine S_sub [(0, .pointer (some ⟨lo, 0, none⟩))] ⟨rfl, trivial⟩ ?_
 have E : ModR w w lo (lo + 1) := ModR.refl w lo (lo + 1)
 refine S_seq ?_
 refine S_reg [false] rfl rfl ?_
 refine J_alloc st29 rfl (fun b1 w1 e1 s1 h1 => ?_)
 have g_b1 : w.heap.size ≤ b1 := by have := E.size; omega
 have y_b1 := h1.lt
 replace E := E.ext e1; replace hcu := hcu.ext e1
 have z1 := e1.size
 refine J_done ?_
 refine S_seq ?_
 refine S_reg [true, false, true, false, true, false] rfl rfl ?_
 refine J_st (R_move rfl) rfl ?_
 refine J_callR Try.call55 rfl rfl (s_l01Below lo vb bs 4 _ hcu (RdD.modR hbs E (.inl (Nat.le_refl _)))) rfl (fun _ w2 e2 hv => ?_)
 obtain ⟨dx1, q1, q2, hcu', hv⟩ := hv
 replace hcu := hcu'
 subst hv
 replace E := E.trans e2 (by omega) (by omega); replace h1 := h1.modR e2 (by omega)
 have z2 := e2.size
 refine J_st (R_move rfl) rfl ?_
 refine J_callR Try.call55 rfl rfl (s_l01Below lo vb bs 5 _ hcu (RdD.modR hbs E (.inl (Nat.le_refl _)))) rfl (fun _ w3 e3 hv => ?_)
 obtain ⟨dx2, q3, q4, hcu', hv⟩ := hv
 replace hcu := hcu'
 subst hv
 replace E := E.trans e3 (by omega) (by omega); replace h1 := h1.modR e3 (by omega)
 have z3 := e3.size
 refine J_st (R_build (⟨((dx1 : Nat) : Int), ((dx2 : Nat) : Int)⟩ : Stamp) rfl (fun _ => by kernel_rfl)) rfl ?_
 refine J_storeS' (cs' := [.int .i64 ((⟨((dx1 : Nat) : Int), ((dx2 : Nat) : Int)⟩ : Stamp).epoch), .int .i64 ((⟨((dx1 : Nat) : Int), ((dx2 : Nat) : Int)⟩ : Stamp).turn)]) st29 rfl rfl rfl rfl h1 (Nat.le_of_ble_eq_true rfl) rfl (fun w4 m1 h1' => ?_)
 replace h1 := h1'
 replace E := E.mod m1 (fun g hg => by cases hg; omega); replace hcu := hcu.mod m1 (fun g hg => by cases hg; omega)
 have z4 := m1.size
 refine J_done ?_
 refine S_ret (E_doneC rfl rfl (run_loadVar_st st29 h1.at rfl) E ?_)
 exact ⟨(⟨((dx1 : Nat) : Int), ((dx2 : Nat) : Int)⟩ : Stamp), hcu, rfl⟩

set_option maxHeartbeats 4000000 in
set_option maxRecDepth 20000 in
theorem s_l02Any (lo : Nat) (vb : Value) (bs : List Byt) (w : World) (hcu : CurO w lo vb bs) (hbs : RdD w 0 lo vb bs) : CtR Try.prog 72 [.pointer (some ⟨lo, 0, none⟩)] w lo (lo + 1) (fun v w' => ∃ (dr0 : Stamp), CurO w' lo vb bs ∧ v = .agg (Enc.enc dr0).toArray) := by
 have y_lo := CurO.lt hcu
 refine ctR_of Try.func72 rfl Try.ntmps72 rfl ?_
 refine S_sub [(0, .pointer (some ⟨lo, 0, none⟩))] ⟨rfl, trivial⟩ ?_
 have E : ModR w w lo (lo + 1) := ModR.refl w lo (lo + 1)
 refine S_seq ?_
 refine S_reg [false] rfl rfl ?_
 refine J_alloc st29 rfl (fun b1 w1 e1 s1 h1 => ?_)
 have g_b1 : w.heap.size ≤ b1 := by have := E.size; omega
 have y_b1 := h1.lt
 replace E := E.ext e1; replace hcu := hcu.ext e1
 have z1 := e1.size
 refine J_done ?_
 refine S_seq ?_
 refine S_reg [true, false, false, false] rfl rfl ?_
 refine J_st (R_move rfl) rfl ?_
 refine J_callR Try.call87 rfl rfl (s_l02Stamp lo vb bs _ hcu (RdD.modR hbs E (.inl (Nat.le_refl _)))) rfl (fun _ w2 e2 hv => ?_)
 obtain ⟨dx1, hcu', hv⟩ := hv
 replace hcu := hcu'
 subst hv
 replace E := E.trans e2 (by omega) (by omega); replace h1 := h1.modR e2 (by omega)
 have z2 := e2.size
 refine J_alloc st29 rfl (fun b2 w3 e3 s2 h2 => ?_)
 have g_b2 : w.heap.size ≤ b2 := by have := E.size; omega
 have y_b2 := h2.lt
 replace E := E.ext e3; replace hcu := hcu.ext e3; replace h1 := h1.ext e3
 have z3 := e3.size
 refine J_storeS' (cs' := [.int .i64 dx1.epoch, .int .i64 dx1.turn]) st29 rfl rfl rfl rfl h2 (Nat.le_of_ble_eq_true rfl) rfl (fun w4 m1 h2' => ?_)
 replace h2 := h2'
 replace E := E.mod m1 (fun g hg => by cases hg; omega); replace hcu := hcu.mod m1 (fun g hg => by cases hg; omega); replace h1 := h1.mod m1 (fun g hg => by cases hg; omega)
 have z4 := m1.size
 refine J_done ?_
 refine S_seq ?_
 refine S_seq ?_
 refine S_reg [true, false] rfl rfl ?_
 refine J_st (R_move rfl) rfl ?_
 refine J_callR Try.call55 rfl rfl (s_l01Below lo vb bs 10 _ hcu (RdD.modR hbs E (.inl (Nat.le_refl _)))) rfl (fun _ w5 e4 hv => ?_)
 obtain ⟨dx2, q1, q2, hcu', hv⟩ := hv
 replace hcu := hcu'
 subst hv
 replace E := E.trans e4 (by omega) (by omega); replace h1 := h1.modR e4 (by omega); replace h2 := h2.modR e4 (by omega)
 have z5 := e4.size
 refine J_done ?_
 refine S_block ?_
 refine S_seq ?_
 refine S_reg [true, true] rfl rfl ?_
 refine J_st (R_eql rfl rfl) rfl (J_st (R_assign rfl) rfl (J_done ?_))
 refine S_cond rfl (fun hc1 => ?_) (fun hc1 => ?_)
 ·have hc1n : dx2 = 0 := by first | (have h := of_decide_eq_true hc1; omega) | (have h := hc1; simp at h; omega)
  refine S_reg [true, false, false, true, false] rfl rfl ?_
  refine J_st (R_move rfl) rfl ?_
  refine J_buildSlice (vs := [.int .i64 (-1), .int .i64 3, .int .i64 4, .int .i64 9223372036854775807]) (css := [[.int .i64 (-1)], [.int .i64 3], [.int .i64 4], [.int .i64 9223372036854775807]]) sl40 rfl rfl ⟨⟨rfl, rfl⟩, ⟨rfl, rfl⟩, ⟨rfl, rfl⟩, ⟨rfl, rfl⟩, trivial⟩ rfl rfl (fun b3 w6 e5 s3 h3 => ?_)
  replace h3 : Blk w6 b3 [.int .i64 (-1), .int .i64 3, .int .i64 4, .int .i64 9223372036854775807] := h3
  have g_b3 : w.heap.size ≤ b3 := by have := E.size; omega
  have y_b3 := h3.lt
  replace E := E.ext e5; replace hcu := hcu.ext e5; replace h1 := h1.ext e5; replace h2 := h2.ext e5
  have z6 := e5.size
  refine J_callR Try.call56 rfl rfl (s_l01PickInt lo vb bs (.slice (some ⟨b3, 0, none⟩) 4 4) [(-1), 3, 4, 9223372036854775807] _ hcu (RdD.modR hbs E (.inl (Nat.le_refl _))) (fun wX eX => (Blk.rd (α := Int) (xs := [(-1), 3, 4, 9223372036854775807]) (by decide) (Blk.modR h3 eX (by omega)) rfl (by simp [maxLen]))) (by decide)) rfl (fun _ w7 e6 hv => ?_)
  obtain ⟨dx3, q3, hcu', hv⟩ := hv
  replace hcu := hcu'
  subst hv
  replace E := E.trans e6 (by omega) (by omega); replace h1 := h1.modR e6 (by omega); replace h2 := h2.modR e6 (by omega); replace h3 := h3.modR e6 (by omega)
  have z7 := e6.size
  refine J_st (R_fieldAddr0 fl29_0 rfl) rfl ?_
  refine J_store' (cs' := [.int .i64 dx3, .int .i64 dx1.turn]) sc3 rfl rfl rfl h2 (Nat.le_of_ble_eq_true rfl) rfl (fun w8 m2 h2' => ?_)
  replace h2 := h2'
  replace E := E.mod m2 (fun g hg => by cases hg; omega); replace hcu := hcu.mod m2 (fun g hg => by cases hg; omega); replace h1 := h1.mod m2 (fun g hg => by cases hg; omega); replace h3 := h3.mod m2 (fun g hg => by cases hg; omega)
  have z8 := m2.size
  refine J_done ?_
  refine S_nil (E_inB ?_)
  refine S_seq ?_
  refine S_reg [true, false] rfl rfl ?_
  refine J_st (R_loadS st29 rfl h2.at rfl) rfl ?_
  refine J_storeS' (cs' := [.int .i64 ((⟨dx3, dx1.turn⟩ : Stamp).epoch), .int .i64 ((⟨dx3, dx1.turn⟩ : Stamp).turn)]) st29 rfl rfl rfl rfl h1 (Nat.le_of_ble_eq_true rfl) rfl (fun w9 m3 h1' => ?_)
  replace h1 := h1'
  replace E := E.mod m3 (fun g hg => by cases hg; omega); replace hcu := hcu.mod m3 (fun g hg => by cases hg; omega); replace h2 := h2.mod m3 (fun g hg => by cases hg; omega); replace h3 := h3.mod m3 (fun g hg => by cases hg; omega)
  have z9 := m3.size
  refine J_done ?_
  refine S_ret (E_doneC rfl rfl (run_loadVar_st st29 h1.at rfl) E ?_)
  exact ⟨(⟨dx3, dx1.turn⟩ : Stamp), hcu, rfl⟩
 ·have hc1n : ¬ dx2 = 0 := by first | (have h := of_decide_eq_false hc1; omega) | (have h := hc1; simp at h; omega)
  refine S_seq ?_
  refine S_reg [true, true] rfl rfl ?_
  refine J_st (R_eql rfl rfl) rfl (J_st (R_assign rfl) rfl (J_done ?_))
  refine S_cond rfl (fun hc2 => ?_) (fun hc2 => ?_)
  ·have hc2n : dx2 = 1 := by first | (have h := of_decide_eq_true hc2; omega) | (have h := hc2; simp at h; omega)
   refine S_reg [true, false, false, true, false] rfl rfl ?_
   refine J_st (R_move rfl) rfl ?_
   refine J_buildSlice (vs := [.int .i64 (-1), .int .i64 5, .int .i64 6, .int .i64 7, .int .i64 (-9223372036854775808)]) (css := [[.int .i64 (-1)], [.int .i64 5], [.int .i64 6], [.int .i64 7], [.int .i64 (-9223372036854775808)]]) sl40 rfl rfl ⟨⟨rfl, rfl⟩, ⟨rfl, rfl⟩, ⟨rfl, rfl⟩, ⟨rfl, rfl⟩, ⟨rfl, rfl⟩, trivial⟩ rfl rfl (fun b4 w10 e7 s4 h4 => ?_)
   replace h4 : Blk w10 b4 [.int .i64 (-1), .int .i64 5, .int .i64 6, .int .i64 7, .int .i64 (-9223372036854775808)] := h4
   have g_b4 : w.heap.size ≤ b4 := by have := E.size; omega
   have y_b4 := h4.lt
   replace E := E.ext e7; replace hcu := hcu.ext e7; replace h1 := h1.ext e7; replace h2 := h2.ext e7
   have z10 := e7.size
   refine J_callR Try.call56 rfl rfl (s_l01PickInt lo vb bs (.slice (some ⟨b4, 0, none⟩) 5 5) [(-1), 5, 6, 7, (-9223372036854775808)] _ hcu (RdD.modR hbs E (.inl (Nat.le_refl _))) (fun wX eX => (Blk.rd (α := Int) (xs := [(-1), 5, 6, 7, (-9223372036854775808)]) (by decide) (Blk.modR h4 eX (by omega)) rfl (by simp [maxLen]))) (by decide)) rfl (fun _ w11 e8 hv => ?_)
   obtain ⟨dx4, q4, hcu', hv⟩ := hv
   replace hcu := hcu'
   subst hv
   replace E := E.trans e8 (by omega) (by omega); replace h1 := h1.modR e8 (by omega); replace h2 := h2.modR e8 (by omega); replace h4 := h4.modR e8 (by omega)
   have z11 := e8.size
   refine J_st (R_fieldAddr0 fl29_1 rfl) rfl ?_
   refine J_store' (cs' := [.int .i64 dx1.epoch, .int .i64 dx4]) sc3 rfl rfl rfl h2 (Nat.le_of_ble_eq_true rfl) rfl (fun w12 m4 h2' => ?_)
   replace h2 := h2'
   replace E := E.mod m4 (fun g hg => by cases hg; omega); replace hcu := hcu.mod m4 (fun g hg => by cases hg; omega); replace h1 := h1.mod m4 (fun g hg => by cases hg; omega); replace h4 := h4.mod m4 (fun g hg => by cases hg; omega)
   have z12 := m4.size
   refine J_done ?_
   refine S_nil (E_inB ?_)
   refine S_seq ?_
   refine S_reg [true, false] rfl rfl ?_
   refine J_st (R_loadS st29 rfl h2.at rfl) rfl ?_
   refine J_storeS' (cs' := [.int .i64 ((⟨dx1.epoch, dx4⟩ : Stamp).epoch), .int .i64 ((⟨dx1.epoch, dx4⟩ : Stamp).turn)]) st29 rfl rfl rfl rfl h1 (Nat.le_of_ble_eq_true rfl) rfl (fun w13 m5 h1' => ?_)
   replace h1 := h1'
   replace E := E.mod m5 (fun g hg => by cases hg; omega); replace hcu := hcu.mod m5 (fun g hg => by cases hg; omega); replace h2 := h2.mod m5 (fun g hg => by cases hg; omega); replace h4 := h4.mod m5 (fun g hg => by cases hg; omega)
   have z13 := m5.size
   refine J_done ?_
   refine S_ret (E_doneC rfl rfl (run_loadVar_st st29 h1.at rfl) E ?_)
   exact ⟨(⟨dx1.epoch, dx4⟩ : Stamp), hcu, rfl⟩
  ·have hc2n : ¬ dx2 = 1 := by first | (have h := of_decide_eq_false hc2; omega) | (have h := hc2; simp at h; omega)
   refine S_skip ?_
   refine S_nil (E_inB ?_)
   refine S_seq ?_
   refine S_reg [true, false] rfl rfl ?_
   refine J_st (R_loadS st29 rfl h2.at rfl) rfl ?_
   refine J_storeS' (cs' := [.int .i64 dx1.epoch, .int .i64 dx1.turn]) st29 rfl rfl rfl rfl h1 (Nat.le_of_ble_eq_true rfl) rfl (fun w14 m6 h1' => ?_)
   replace h1 := h1'
   replace E := E.mod m6 (fun g hg => by cases hg; omega); replace hcu := hcu.mod m6 (fun g hg => by cases hg; omega); replace h2 := h2.mod m6 (fun g hg => by cases hg; omega)
   have z14 := m6.size
   refine J_done ?_
   refine S_ret (E_doneC rfl rfl (run_loadVar_st st29 h1.at rfl) E ?_)
   exact ⟨dx1, hcu, rfl⟩

set_option maxRecDepth 20000 in
theorem s_l05Record (lo : Nat) (vb : Value) (bs : List Byt) (w : World) (hcu : CurO w lo vb bs) (hbs : RdD w 0 lo vb bs) : CtR Try.prog 71 [.pointer (some ⟨lo, 0, none⟩)] w lo (lo + 1) (fun v w' => ∃ (dr0 : Record), CurO w' lo vb bs ∧ v = .agg (Enc.enc dr0).toArray) := by
 have y_lo := CurO.lt hcu
 refine ctR_of Try.func71 rfl Try.ntmps71 rfl ?_
 refine S_sub [(0, .pointer (some ⟨lo, 0, none⟩))] ⟨rfl, trivial⟩ ?_
 have E : ModR w w lo (lo + 1) := ModR.refl w lo (lo + 1)
 refine S_seq ?_
 refine S_reg [false] rfl rfl ?_
 refine J_alloc st31 rfl (fun b1 w1 e1 s1 h1 => ?_)
 have g_b1 : w.heap.size ≤ b1 := by have := E.size; omega
 have y_b1 := h1.lt
 replace E := E.ext e1; replace hcu := hcu.ext e1
 have z1 := e1.size
 refine J_done ?_
 refine S_seq ?_
 refine S_reg [true, false, true, false, true, false, true, false, true, false] rfl rfl ?_
 refine J_st (R_move rfl) rfl ?_
 refine J_callR Try.call55 rfl rfl (s_l01Below lo vb bs 5 _ hcu (RdD.modR hbs E (.inl (Nat.le_refl _)))) rfl (fun _ w2 e2 hv => ?_)
 obtain ⟨dx1, q1, q2, hcu', hv⟩ := hv
 replace hcu := hcu'
 subst hv
 replace E := E.trans e2 (by omega) (by omega); replace h1 := h1.modR e2 (by omega)
 have z2 := e2.size
 refine J_st (R_move rfl) rfl ?_
 refine J_callR Try.call87 rfl rfl (s_l02Stamp lo vb bs _ hcu (RdD.modR hbs E (.inl (Nat.le_refl _)))) rfl (fun _ w3 e3 hv => ?_)
 obtain ⟨dx2, hcu', hv⟩ := hv
 replace hcu := hcu'
 subst hv
 replace E := E.trans e3 (by omega) (by omega); replace h1 := h1.modR e3 (by omega)
 have z3 := e3.size
 refine J_st (R_move rfl) rfl ?_
 refine J_callR Try.call55 rfl rfl (s_l01Below lo vb bs 12 _ hcu (RdD.modR hbs E (.inl (Nat.le_refl _)))) rfl (fun _ w4 e4 hv => ?_)
 obtain ⟨dx3, q3, q4, hcu', hv⟩ := hv
 replace hcu := hcu'
 subst hv
 replace E := E.trans e4 (by omega) (by omega); replace h1 := h1.modR e4 (by omega)
 have z4 := e4.size
 refine J_st (R_move rfl) rfl ?_
 refine J_callR Try.call55 rfl rfl (s_l01Below lo vb bs 40 _ hcu (RdD.modR hbs E (.inl (Nat.le_refl _)))) rfl (fun _ w5 e5 hv => ?_)
 obtain ⟨dx4, q5, q6, hcu', hv⟩ := hv
 replace hcu := hcu'
 subst hv
 replace E := E.trans e5 (by omega) (by omega); replace h1 := h1.modR e5 (by omega)
 have z5 := e5.size
 refine J_st (R_build (⟨((dx1 : Nat) : Int), dx2, ((dx3 : Nat) : Int), ((dx4 : Nat) : Int)⟩ : Record) rfl (fun _ => by kernel_rfl)) rfl ?_
 refine J_storeS' (cs' := [.int .i64 ((⟨((dx1 : Nat) : Int), dx2, ((dx3 : Nat) : Int), ((dx4 : Nat) : Int)⟩ : Record).op), .int .i64 (((⟨((dx1 : Nat) : Int), dx2, ((dx3 : Nat) : Int), ((dx4 : Nat) : Int)⟩ : Record).stamp).epoch), .int .i64 (((⟨((dx1 : Nat) : Int), dx2, ((dx3 : Nat) : Int), ((dx4 : Nat) : Int)⟩ : Record).stamp).turn), .int .i64 ((⟨((dx1 : Nat) : Int), dx2, ((dx3 : Nat) : Int), ((dx4 : Nat) : Int)⟩ : Record).key), .int .i64 ((⟨((dx1 : Nat) : Int), dx2, ((dx3 : Nat) : Int), ((dx4 : Nat) : Int)⟩ : Record).val)]) st31 rfl rfl rfl rfl h1 (Nat.le_of_ble_eq_true rfl) rfl (fun w6 m1 h1' => ?_)
 replace h1 := h1'
 replace E := E.mod m1 (fun g hg => by cases hg; omega); replace hcu := hcu.mod m1 (fun g hg => by cases hg; omega)
 have z6 := m1.size
 refine J_done ?_
 refine S_ret (E_doneC rfl rfl (run_loadVar_st st31 h1.at rfl) E ?_)
 exact ⟨(⟨((dx1 : Nat) : Int), dx2, ((dx3 : Nat) : Int), ((dx4 : Nat) : Int)⟩ : Record), hcu, rfl⟩

set_option maxHeartbeats 4000000 in
set_option maxRecDepth 20000 in
theorem s_l05Any (lo : Nat) (vb : Value) (bs : List Byt) (w : World) (hcu : CurO w lo vb bs) (hbs : RdD w 0 lo vb bs) : CtR Try.prog 39 [.pointer (some ⟨lo, 0, none⟩)] w lo (lo + 1) (fun v w' => ∃ (dr0 : Record), CurO w' lo vb bs ∧ v = .agg (Enc.enc dr0).toArray) := by
 have y_lo := CurO.lt hcu
 refine ctR_of Try.func39 rfl Try.ntmps39 rfl ?_
 refine S_sub [(0, .pointer (some ⟨lo, 0, none⟩))] ⟨rfl, trivial⟩ ?_
 have E : ModR w w lo (lo + 1) := ModR.refl w lo (lo + 1)
 refine S_seq ?_
 refine S_reg [false] rfl rfl ?_
 refine J_alloc st31 rfl (fun b1 w1 e1 s1 h1 => ?_)
 have g_b1 : w.heap.size ≤ b1 := by have := E.size; omega
 have y_b1 := h1.lt
 replace E := E.ext e1; replace hcu := hcu.ext e1
 have z1 := e1.size
 refine J_done ?_
 refine S_seq ?_
 refine S_reg [true, false, false, false] rfl rfl ?_
 refine J_st (R_move rfl) rfl ?_
 refine J_callR Try.call71 rfl rfl (s_l05Record lo vb bs _ hcu (RdD.modR hbs E (.inl (Nat.le_refl _)))) rfl (fun _ w2 e2 hv => ?_)
 obtain ⟨dx1, hcu', hv⟩ := hv
 replace hcu := hcu'
 subst hv
 replace E := E.trans e2 (by omega) (by omega); replace h1 := h1.modR e2 (by omega)
 have z2 := e2.size
 refine J_alloc st31 rfl (fun b2 w3 e3 s2 h2 => ?_)
 have g_b2 : w.heap.size ≤ b2 := by have := E.size; omega
 have y_b2 := h2.lt
 replace E := E.ext e3; replace hcu := hcu.ext e3; replace h1 := h1.ext e3
 have z3 := e3.size
 refine J_storeS' (cs' := [.int .i64 dx1.op, .int .i64 dx1.stamp.epoch, .int .i64 dx1.stamp.turn, .int .i64 dx1.key, .int .i64 dx1.val]) st31 rfl rfl rfl rfl h2 (Nat.le_of_ble_eq_true rfl) rfl (fun w4 m1 h2' => ?_)
 replace h2 := h2'
 replace E := E.mod m1 (fun g hg => by cases hg; omega); replace hcu := hcu.mod m1 (fun g hg => by cases hg; omega); replace h1 := h1.mod m1 (fun g hg => by cases hg; omega)
 have z4 := m1.size
 refine J_done ?_
 refine S_seq ?_
 refine S_seq ?_
 refine S_reg [true, false] rfl rfl ?_
 refine J_st (R_move rfl) rfl ?_
 refine J_callR Try.call55 rfl rfl (s_l01Below lo vb bs 12 _ hcu (RdD.modR hbs E (.inl (Nat.le_refl _)))) rfl (fun _ w5 e4 hv => ?_)
 obtain ⟨dx2, q1, q2, hcu', hv⟩ := hv
 replace hcu := hcu'
 subst hv
 replace E := E.trans e4 (by omega) (by omega); replace h1 := h1.modR e4 (by omega); replace h2 := h2.modR e4 (by omega)
 have z5 := e4.size
 refine J_done ?_
 refine S_block ?_
 refine S_seq ?_
 refine S_reg [true, true] rfl rfl ?_
 refine J_st (R_eql rfl rfl) rfl (J_st (R_assign rfl) rfl (J_done ?_))
 refine S_cond rfl (fun hc1 => ?_) (fun hc1 => ?_)
 ·have hc1n : dx2 = 0 := by first | (have h := of_decide_eq_true hc1; omega) | (have h := hc1; simp at h; omega)
  refine S_reg [true, false, false, true, false] rfl rfl ?_
  refine J_st (R_move rfl) rfl ?_
  refine J_buildSlice (vs := [.int .i64 (-1), .int .i64 7, .int .i64 8]) (css := [[.int .i64 (-1)], [.int .i64 7], [.int .i64 8]]) sl40 rfl rfl ⟨⟨rfl, rfl⟩, ⟨rfl, rfl⟩, ⟨rfl, rfl⟩, trivial⟩ rfl rfl (fun b3 w6 e5 s3 h3 => ?_)
  replace h3 : Blk w6 b3 [.int .i64 (-1), .int .i64 7, .int .i64 8] := h3
  have g_b3 : w.heap.size ≤ b3 := by have := E.size; omega
  have y_b3 := h3.lt
  replace E := E.ext e5; replace hcu := hcu.ext e5; replace h1 := h1.ext e5; replace h2 := h2.ext e5
  have z6 := e5.size
  refine J_callR Try.call56 rfl rfl (s_l01PickInt lo vb bs (.slice (some ⟨b3, 0, none⟩) 3 3) [(-1), 7, 8] _ hcu (RdD.modR hbs E (.inl (Nat.le_refl _))) (fun wX eX => (Blk.rd (α := Int) (xs := [(-1), 7, 8]) (by decide) (Blk.modR h3 eX (by omega)) rfl (by simp [maxLen]))) (by decide)) rfl (fun _ w7 e6 hv => ?_)
  obtain ⟨dx3, q3, hcu', hv⟩ := hv
  replace hcu := hcu'
  subst hv
  replace E := E.trans e6 (by omega) (by omega); replace h1 := h1.modR e6 (by omega); replace h2 := h2.modR e6 (by omega); replace h3 := h3.modR e6 (by omega)
  have z7 := e6.size
  refine J_st (R_fieldAddr0 fl31_0 rfl) rfl ?_
  refine J_store' (cs' := [.int .i64 dx3, .int .i64 dx1.stamp.epoch, .int .i64 dx1.stamp.turn, .int .i64 dx1.key, .int .i64 dx1.val]) sc3 rfl rfl rfl h2 (Nat.le_of_ble_eq_true rfl) rfl (fun w8 m2 h2' => ?_)
  replace h2 := h2'
  replace E := E.mod m2 (fun g hg => by cases hg; omega); replace hcu := hcu.mod m2 (fun g hg => by cases hg; omega); replace h1 := h1.mod m2 (fun g hg => by cases hg; omega); replace h3 := h3.mod m2 (fun g hg => by cases hg; omega)
  have z8 := m2.size
  refine J_done ?_
  refine S_nil (E_inB ?_)
  refine S_seq ?_
  refine S_reg [true, false] rfl rfl ?_
  refine J_st (R_loadS st31 rfl h2.at rfl) rfl ?_
  refine J_storeS' (cs' := [.int .i64 ((⟨dx3, dx1.stamp, dx1.key, dx1.val⟩ : Record).op), .int .i64 (((⟨dx3, dx1.stamp, dx1.key, dx1.val⟩ : Record).stamp).epoch), .int .i64 (((⟨dx3, dx1.stamp, dx1.key, dx1.val⟩ : Record).stamp).turn), .int .i64 ((⟨dx3, dx1.stamp, dx1.key, dx1.val⟩ : Record).key), .int .i64 ((⟨dx3, dx1.stamp, dx1.key, dx1.val⟩ : Record).val)]) st31 rfl rfl rfl rfl h1 (Nat.le_of_ble_eq_true rfl) rfl (fun w9 m3 h1' => ?_)
  replace h1 := h1'
  replace E := E.mod m3 (fun g hg => by cases hg; omega); replace hcu := hcu.mod m3 (fun g hg => by cases hg; omega); replace h2 := h2.mod m3 (fun g hg => by cases hg; omega); replace h3 := h3.mod m3 (fun g hg => by cases hg; omega)
  have z9 := m3.size
  refine J_done ?_
  refine S_ret (E_doneC rfl rfl (run_loadVar_st st31 h1.at rfl) E ?_)
  exact ⟨(⟨dx3, dx1.stamp, dx1.key, dx1.val⟩ : Record), hcu, rfl⟩
 ·have hc1n : ¬ dx2 = 0 := by first | (have h := of_decide_eq_false hc1; omega) | (have h := hc1; simp at h; omega)
  refine S_seq ?_
  refine S_reg [true, true] rfl rfl ?_
  refine J_st (R_eql rfl rfl) rfl (J_st (R_assign rfl) rfl (J_done ?_))
  refine S_cond rfl (fun hc2 => ?_) (fun hc2 => ?_)
  ·have hc2n : dx2 = 1 := by first | (have h := of_decide_eq_true hc2; omega) | (have h := hc2; simp at h; omega)
   refine S_reg [true, false, true, false] rfl rfl ?_
   refine J_st (R_move rfl) rfl ?_
   refine J_callR Try.call72 rfl rfl (s_l02Any lo vb bs _ hcu (RdD.modR hbs E (.inl (Nat.le_refl _)))) rfl (fun _ w10 e7 hv => ?_)
   obtain ⟨dx4, hcu', hv⟩ := hv
   replace hcu := hcu'
   subst hv
   replace E := E.trans e7 (by omega) (by omega); replace h1 := h1.modR e7 (by omega); replace h2 := h2.modR e7 (by omega)
   have z10 := e7.size
   refine J_st (R_fieldAddr0 fl31_1 rfl) rfl ?_
   refine J_storeS' (cs' := [.int .i64 dx1.op, .int .i64 dx4.epoch, .int .i64 dx4.turn, .int .i64 dx1.key, .int .i64 dx1.val]) st29 rfl rfl rfl rfl h2 (Nat.le_of_ble_eq_true rfl) rfl (fun w11 m4 h2' => ?_)
   replace h2 := h2'
   replace E := E.mod m4 (fun g hg => by cases hg; omega); replace hcu := hcu.mod m4 (fun g hg => by cases hg; omega); replace h1 := h1.mod m4 (fun g hg => by cases hg; omega)
   have z11 := m4.size
   refine J_done ?_
   refine S_nil (E_inB ?_)
   refine S_seq ?_
   refine S_reg [true, false] rfl rfl ?_
   refine J_st (R_loadS st31 rfl h2.at rfl) rfl ?_
   refine J_storeS' (cs' := [.int .i64 ((⟨dx1.op, dx4, dx1.key, dx1.val⟩ : Record).op), .int .i64 (((⟨dx1.op, dx4, dx1.key, dx1.val⟩ : Record).stamp).epoch), .int .i64 (((⟨dx1.op, dx4, dx1.key, dx1.val⟩ : Record).stamp).turn), .int .i64 ((⟨dx1.op, dx4, dx1.key, dx1.val⟩ : Record).key), .int .i64 ((⟨dx1.op, dx4, dx1.key, dx1.val⟩ : Record).val)]) st31 rfl rfl rfl rfl h1 (Nat.le_of_ble_eq_true rfl) rfl (fun w12 m5 h1' => ?_)
   replace h1 := h1'
   replace E := E.mod m5 (fun g hg => by cases hg; omega); replace hcu := hcu.mod m5 (fun g hg => by cases hg; omega); replace h2 := h2.mod m5 (fun g hg => by cases hg; omega)
   have z12 := m5.size
   refine J_done ?_
   refine S_ret (E_doneC rfl rfl (run_loadVar_st st31 h1.at rfl) E ?_)
   exact ⟨(⟨dx1.op, dx4, dx1.key, dx1.val⟩ : Record), hcu, rfl⟩
  ·have hc2n : ¬ dx2 = 1 := by first | (have h := of_decide_eq_false hc2; omega) | (have h := hc2; simp at h; omega)
   refine S_seq ?_
   refine S_reg [true, true] rfl rfl ?_
   refine J_st (R_eql rfl rfl) rfl (J_st (R_assign rfl) rfl (J_done ?_))
   refine S_cond rfl (fun hc3 => ?_) (fun hc3 => ?_)
   ·have hc3n : dx2 = 2 := by first | (have h := of_decide_eq_true hc3; omega) | (have h := hc3; simp at h; omega)
    refine S_reg [true, false, false, true, false] rfl rfl ?_
    refine J_st (R_move rfl) rfl ?_
    refine J_buildSlice (vs := [.int .i64 (-1), .int .i64 99, .int .i64 100, .int .i64 (-9223372036854775808)]) (css := [[.int .i64 (-1)], [.int .i64 99], [.int .i64 100], [.int .i64 (-9223372036854775808)]]) sl40 rfl rfl ⟨⟨rfl, rfl⟩, ⟨rfl, rfl⟩, ⟨rfl, rfl⟩, ⟨rfl, rfl⟩, trivial⟩ rfl rfl (fun b4 w13 e8 s4 h4 => ?_)
    replace h4 : Blk w13 b4 [.int .i64 (-1), .int .i64 99, .int .i64 100, .int .i64 (-9223372036854775808)] := h4
    have g_b4 : w.heap.size ≤ b4 := by have := E.size; omega
    have y_b4 := h4.lt
    replace E := E.ext e8; replace hcu := hcu.ext e8; replace h1 := h1.ext e8; replace h2 := h2.ext e8
    have z13 := e8.size
    refine J_callR Try.call56 rfl rfl (s_l01PickInt lo vb bs (.slice (some ⟨b4, 0, none⟩) 4 4) [(-1), 99, 100, (-9223372036854775808)] _ hcu (RdD.modR hbs E (.inl (Nat.le_refl _))) (fun wX eX => (Blk.rd (α := Int) (xs := [(-1), 99, 100, (-9223372036854775808)]) (by decide) (Blk.modR h4 eX (by omega)) rfl (by simp [maxLen]))) (by decide)) rfl (fun _ w14 e9 hv => ?_)
    obtain ⟨dx5, q4, hcu', hv⟩ := hv
    replace hcu := hcu'
    subst hv
    replace E := E.trans e9 (by omega) (by omega); replace h1 := h1.modR e9 (by omega); replace h2 := h2.modR e9 (by omega); replace h4 := h4.modR e9 (by omega)
    have z14 := e9.size
    refine J_st (R_fieldAddr0 fl31_2 rfl) rfl ?_
    refine J_store' (cs' := [.int .i64 dx1.op, .int .i64 dx1.stamp.epoch, .int .i64 dx1.stamp.turn, .int .i64 dx5, .int .i64 dx1.val]) sc3 rfl rfl rfl h2 (Nat.le_of_ble_eq_true rfl) rfl (fun w15 m6 h2' => ?_)
    replace h2 := h2'
    replace E := E.mod m6 (fun g hg => by cases hg; omega); replace hcu := hcu.mod m6 (fun g hg => by cases hg; omega); replace h1 := h1.mod m6 (fun g hg => by cases hg; omega); replace h4 := h4.mod m6 (fun g hg => by cases hg; omega)
    have z15 := m6.size
    refine J_done ?_
    refine S_nil (E_inB ?_)
    refine S_seq ?_
    refine S_reg [true, false] rfl rfl ?_
    refine J_st (R_loadS st31 rfl h2.at rfl) rfl ?_
    refine J_storeS' (cs' := [.int .i64 ((⟨dx1.op, dx1.stamp, dx5, dx1.val⟩ : Record).op), .int .i64 (((⟨dx1.op, dx1.stamp, dx5, dx1.val⟩ : Record).stamp).epoch), .int .i64 (((⟨dx1.op, dx1.stamp, dx5, dx1.val⟩ : Record).stamp).turn), .int .i64 ((⟨dx1.op, dx1.stamp, dx5, dx1.val⟩ : Record).key), .int .i64 ((⟨dx1.op, dx1.stamp, dx5, dx1.val⟩ : Record).val)]) st31 rfl rfl rfl rfl h1 (Nat.le_of_ble_eq_true rfl) rfl (fun w16 m7 h1' => ?_)
    replace h1 := h1'
    replace E := E.mod m7 (fun g hg => by cases hg; omega); replace hcu := hcu.mod m7 (fun g hg => by cases hg; omega); replace h2 := h2.mod m7 (fun g hg => by cases hg; omega); replace h4 := h4.mod m7 (fun g hg => by cases hg; omega)
    have z16 := m7.size
    refine J_done ?_
    refine S_ret (E_doneC rfl rfl (run_loadVar_st st31 h1.at rfl) E ?_)
    exact ⟨(⟨dx1.op, dx1.stamp, dx5, dx1.val⟩ : Record), hcu, rfl⟩
   ·have hc3n : ¬ dx2 = 2 := by first | (have h := of_decide_eq_false hc3; omega) | (have h := hc3; simp at h; omega)
    refine S_seq ?_
    refine S_reg [true, true] rfl rfl ?_
    refine J_st (R_eql rfl rfl) rfl (J_st (R_assign rfl) rfl (J_done ?_))
    refine S_cond rfl (fun hc4 => ?_) (fun hc4 => ?_)
    ·have hc4n : dx2 = 3 := by first | (have h := of_decide_eq_true hc4; omega) | (have h := hc4; simp at h; omega)
     refine S_reg [true, false, false, true, false] rfl rfl ?_
     refine J_st (R_move rfl) rfl ?_
     refine J_buildSlice (vs := [.int .i64 (-1), .int .i64 999, .int .i64 1000, .int .i64 9223372036854775807]) (css := [[.int .i64 (-1)], [.int .i64 999], [.int .i64 1000], [.int .i64 9223372036854775807]]) sl40 rfl rfl ⟨⟨rfl, rfl⟩, ⟨rfl, rfl⟩, ⟨rfl, rfl⟩, ⟨rfl, rfl⟩, trivial⟩ rfl rfl (fun b5 w17 e10 s5 h5 => ?_)
     replace h5 : Blk w17 b5 [.int .i64 (-1), .int .i64 999, .int .i64 1000, .int .i64 9223372036854775807] := h5
     have g_b5 : w.heap.size ≤ b5 := by have := E.size; omega
     have y_b5 := h5.lt
     replace E := E.ext e10; replace hcu := hcu.ext e10; replace h1 := h1.ext e10; replace h2 := h2.ext e10
     have z17 := e10.size
     refine J_callR Try.call56 rfl rfl (s_l01PickInt lo vb bs (.slice (some ⟨b5, 0, none⟩) 4 4) [(-1), 999, 1000, 9223372036854775807] _ hcu (RdD.modR hbs E (.inl (Nat.le_refl _))) (fun wX eX => (Blk.rd (α := Int) (xs := [(-1), 999, 1000, 9223372036854775807]) (by decide) (Blk.modR h5 eX (by omega)) rfl (by simp [maxLen]))) (by decide)) rfl (fun _ w18 e11 hv => ?_)
     obtain ⟨dx6, q5, hcu', hv⟩ := hv
     replace hcu := hcu'
     subst hv
     replace E := E.trans e11 (by omega) (by omega); replace h1 := h1.modR e11 (by omega); replace h2 := h2.modR e11 (by omega); replace h5 := h5.modR e11 (by omega)
     have z18 := e11.size
     refine J_st (R_fieldAddr0 fl31_3 rfl) rfl ?_
     refine J_store' (cs' := [.int .i64 dx1.op, .int .i64 dx1.stamp.epoch, .int .i64 dx1.stamp.turn, .int .i64 dx1.key, .int .i64 dx6]) sc3 rfl rfl rfl h2 (Nat.le_of_ble_eq_true rfl) rfl (fun w19 m8 h2' => ?_)
     replace h2 := h2'
     replace E := E.mod m8 (fun g hg => by cases hg; omega); replace hcu := hcu.mod m8 (fun g hg => by cases hg; omega); replace h1 := h1.mod m8 (fun g hg => by cases hg; omega); replace h5 := h5.mod m8 (fun g hg => by cases hg; omega)
     have z19 := m8.size
     refine J_done ?_
     refine S_nil (E_inB ?_)
     refine S_seq ?_
     refine S_reg [true, false] rfl rfl ?_
     refine J_st (R_loadS st31 rfl h2.at rfl) rfl ?_
     refine J_storeS' (cs' := [.int .i64 ((⟨dx1.op, dx1.stamp, dx1.key, dx6⟩ : Record).op), .int .i64 (((⟨dx1.op, dx1.stamp, dx1.key, dx6⟩ : Record).stamp).epoch), .int .i64 (((⟨dx1.op, dx1.stamp, dx1.key, dx6⟩ : Record).stamp).turn), .int .i64 ((⟨dx1.op, dx1.stamp, dx1.key, dx6⟩ : Record).key), .int .i64 ((⟨dx1.op, dx1.stamp, dx1.key, dx6⟩ : Record).val)]) st31 rfl rfl rfl rfl h1 (Nat.le_of_ble_eq_true rfl) rfl (fun w20 m9 h1' => ?_)
     replace h1 := h1'
     replace E := E.mod m9 (fun g hg => by cases hg; omega); replace hcu := hcu.mod m9 (fun g hg => by cases hg; omega); replace h2 := h2.mod m9 (fun g hg => by cases hg; omega); replace h5 := h5.mod m9 (fun g hg => by cases hg; omega)
     have z20 := m9.size
     refine J_done ?_
     refine S_ret (E_doneC rfl rfl (run_loadVar_st st31 h1.at rfl) E ?_)
     exact ⟨(⟨dx1.op, dx1.stamp, dx1.key, dx6⟩ : Record), hcu, rfl⟩
    ·have hc4n : ¬ dx2 = 3 := by first | (have h := of_decide_eq_false hc4; omega) | (have h := hc4; simp at h; omega)
     refine S_skip ?_
     refine S_nil (E_inB ?_)
     refine S_seq ?_
     refine S_reg [true, false] rfl rfl ?_
     refine J_st (R_loadS st31 rfl h2.at rfl) rfl ?_
     refine J_storeS' (cs' := [.int .i64 dx1.op, .int .i64 dx1.stamp.epoch, .int .i64 dx1.stamp.turn, .int .i64 dx1.key, .int .i64 dx1.val]) st31 rfl rfl rfl rfl h1 (Nat.le_of_ble_eq_true rfl) rfl (fun w21 m10 h1' => ?_)
     replace h1 := h1'
     replace E := E.mod m10 (fun g hg => by cases hg; omega); replace hcu := hcu.mod m10 (fun g hg => by cases hg; omega); replace h2 := h2.mod m10 (fun g hg => by cases hg; omega)
     have z21 := m10.size
     refine J_done ?_
     refine S_ret (E_doneC rfl rfl (run_loadVar_st st31 h1.at rfl) E ?_)
     exact ⟨dx1, hcu, rfl⟩

set_option maxRecDepth 20000 in
theorem s_l11Inputs (lo : Nat) (vb : Value) (bs : List Byt) (w : World) (hcu : CurO w lo vb bs) (hbs : RdD w 0 lo vb bs) : CtR Try.prog 81 [.pointer (some ⟨lo, 0, none⟩)] w lo (lo + 1) (fun v w' => ∃ (dr0 : List Record), dr0.length ≤ 10 ∧ CurO w' lo vb bs ∧ Own w' w.heap.size w'.heap.size 5 v (List.flatMap (Enc.enc (α := Record)) dr0)) := by
 have y_lo := CurO.lt hcu
 refine ctR_of Try.func81 rfl Try.ntmps81 rfl ?_
 refine S_sub [(0, .pointer (some ⟨lo, 0, none⟩))] ⟨rfl, trivial⟩ ?_
 have E : ModR w w lo (lo + 1) := ModR.refl w lo (lo + 1)
 refine S_seq ?_
 refine S_reg [true] rfl rfl ?_
 refine J_st (R_assign rfl) rfl (J_done ?_)
 refine S_seq ?_
 refine S_reg [false, true] rfl rfl ?_
 refine J_buildSlice (vs := []) (css := []) sl34 rfl rfl trivial rfl rfl (fun b1 w1 e1 s1 h1 => ?_)
 replace h1 : Blk w1 b1 [] := h1
 have g_b1 : w.heap.size ≤ b1 := by have := E.size; omega
 have y_b1 := h1.lt
 replace E := E.ext e1; replace hcu := hcu.ext e1
 have z1 := e1.size
 refine J_st (R_assign rfl) rfl (J_done ?_)
 refine S_seq ?_
 refine S_reg [true] rfl rfl ?_
 refine J_st (R_assign rfl) rfl (J_done ?_)
 refine S_seq ?_
 refine S_seq ?_
 refine S_reg [true] rfl rfl ?_
 refine J_st (R_assign rfl) rfl (J_done ?_)
 refine S_block ?_
 refine S_loop (fun (xq : Nat × Value × List Record × Int) => let ⟨k, vo, ls, ep⟩ := xq; [(0, .pointer (some ⟨lo, 0, none⟩)), (2, .slice none 0 0), (3, vo), (4, .int .i64 ep), (5, .int .i64 ((k : Nat) : Int))]) (fun (xq : Nat × Value × List Record × Int) w' => let ⟨k, vo, ls, ep⟩ := xq; ModR w w' lo (lo + 1) ∧ w1.heap.size ≤ w'.heap.size ∧ CurO w' lo vb bs ∧ k ≤ 6 ∧ ls.length ≤ k ∧ Own w' w.heap.size w'.heap.size 5 vo (List.flatMap (Enc.enc (α := Record)) ls)) (fun (xq : Nat × Value × List Record × Int) => let ⟨k, vo, ls, ep⟩ := xq; 6 - k) (0, .slice (some ⟨b1, 0, none⟩) 0 0, [], 0) ⟨rfl, rfl, rfl, rfl, rfl, trivial⟩ ⟨E, Nat.le_refl _, hcu, Nat.zero_le _, Nat.le_refl _, Own.fin (Own.ofBlk (lo := b1) (hi := b1 + 1) (sz := 5) h1 (Nat.le_refl _) (Nat.lt_succ_self _) (by simp) (by simp [maxLen])) (by omega) (by omega) rfl⟩ ?_
 clear E hcu h1
 rintro ⟨k, vo, ls, ep⟩ w2 ⟨E, z2, hcu, hk, hls, ho⟩
 refine S_sub [(0, .pointer (some ⟨lo, 0, none⟩)), (2, .slice none 0 0), (3, vo), (4, .int .i64 ep), (5, .int .i64 ((k : Nat) : Int))] ⟨rfl, rfl, rfl, rfl, rfl, trivial⟩ ?_
 refine S_seq ?_
 refine S_seq ?_
 refine S_reg [true, true, false, true] rfl rfl ?_
 refine J_st (R_move rfl) rfl (J_st (R_move rfl) rfl ?_)
 refine J_callR Try.call55 rfl rfl (s_l01Below lo vb bs 6 _ hcu (RdD.modR hbs E (.inl (Nat.le_refl _)))) rfl (fun _ w3 e2 hv => ?_)
 obtain ⟨dx1, q1, q2, hcu', hv⟩ := hv
 replace hcu := hcu'
 subst hv
 replace E := E.trans e2 (by omega) (by omega); replace ho := ho.modR e2 (by omega)
 have z3 := e2.size
 refine J_st (R_lss rfl rfl) rfl (J_done ?_)
 refine S_cond rfl (fun hc1 => ?_) (fun hc1 => ?_)
 ·have hc1n : k < dx1 := by first | (have h := of_decide_eq_true hc1; omega) | (have h := hc1; simp at h; omega)
  refine S_skip ?_
  refine S_seq ?_
  refine S_block ?_
  refine S_seq ?_
  refine S_reg [true, true, false, true, false, true] rfl rfl ?_
  refine J_st (R_move rfl) rfl (J_st (R_move rfl) rfl ?_)
  refine J_callR Try.call55 rfl rfl (s_l01Below lo vb bs 2 _ hcu (RdD.modR hbs E (.inl (Nat.le_refl _)))) rfl (fun _ w4 e3 hv => ?_)
  obtain ⟨dx2, q3, q4, hcu', hv⟩ := hv
  replace hcu := hcu'
  subst hv
  replace E := E.trans e3 (by omega) (by omega); replace ho := ho.modR e3 (by omega)
  have z4 := e3.size
  refine J_st (R_add rfl rfl rfl) rfl ?_
  refine J_call Try.call59 rfl (s_Brought (IntKind.i64.wrap (ep + ((dx2 : Nat) : Int))) 0 2 _ ) rfl (fun _ w5 e4 hv => ?_)
  subst hv
  replace E := E.ext e4; replace hcu := hcu.ext e4; replace ho := ho.ext e4
  have z5 := e4.size
  refine J_st (R_assign rfl) rfl (J_done ?_)
  refine S_reg [true, true, true, true, false, true, false, true, false, false, true] rfl rfl ?_
  refine J_st (R_move rfl) rfl (J_st (R_move rfl) rfl (J_st (R_build (⟨brM (IntKind.i64.wrap (ep + ((dx2 : Nat) : Int))) 0 2, 0⟩ : Stamp) rfl (fun _ => by kernel_rfl)) rfl (J_st (R_move rfl) rfl ?_)))
  refine J_callR Try.call55 rfl rfl (s_l01Below lo vb bs 12 _ hcu (RdD.modR hbs E (.inl (Nat.le_refl _)))) rfl (fun _ w6 e5 hv => ?_)
  obtain ⟨dx3, q5, q6, hcu', hv⟩ := hv
  replace hcu := hcu'
  subst hv
  replace E := E.trans e5 (by omega) (by omega); replace ho := ho.modR e5 (by omega)
  have z6 := e5.size
  refine J_st (R_move rfl) rfl ?_
  refine J_callR Try.call55 rfl rfl (s_l01Below lo vb bs 40 _ hcu (RdD.modR hbs E (.inl (Nat.le_refl _)))) rfl (fun _ w7 e6 hv => ?_)
  obtain ⟨dx4, q7, q8, hcu', hv⟩ := hv
  replace hcu := hcu'
  subst hv
  replace E := E.trans e6 (by omega) (by omega); replace ho := ho.modR e6 (by omega)
  have z7 := e6.size
  refine J_st (R_build (⟨0, (⟨brM (IntKind.i64.wrap (ep + ((dx2 : Nat) : Int))) 0 2, 0⟩ : Stamp), ((dx3 : Nat) : Int), ((dx4 : Nat) : Int)⟩ : Record) rfl (fun _ => by kernel_rfl)) rfl ?_
  refine J_buildSlice (vs := [.agg (Enc.enc (⟨0, (⟨brM (IntKind.i64.wrap (ep + ((dx2 : Nat) : Int))) 0 2, 0⟩ : Stamp), ((dx3 : Nat) : Int), ((dx4 : Nat) : Int)⟩ : Record)).toArray]) (css := [[.int .i64 ((⟨0, (⟨brM (IntKind.i64.wrap (ep + ((dx2 : Nat) : Int))) 0 2, 0⟩ : Stamp), ((dx3 : Nat) : Int), ((dx4 : Nat) : Int)⟩ : Record).op), .int .i64 (((⟨0, (⟨brM (IntKind.i64.wrap (ep + ((dx2 : Nat) : Int))) 0 2, 0⟩ : Stamp), ((dx3 : Nat) : Int), ((dx4 : Nat) : Int)⟩ : Record).stamp).epoch), .int .i64 (((⟨0, (⟨brM (IntKind.i64.wrap (ep + ((dx2 : Nat) : Int))) 0 2, 0⟩ : Stamp), ((dx3 : Nat) : Int), ((dx4 : Nat) : Int)⟩ : Record).stamp).turn), .int .i64 ((⟨0, (⟨brM (IntKind.i64.wrap (ep + ((dx2 : Nat) : Int))) 0 2, 0⟩ : Stamp), ((dx3 : Nat) : Int), ((dx4 : Nat) : Int)⟩ : Record).key), .int .i64 ((⟨0, (⟨brM (IntKind.i64.wrap (ep + ((dx2 : Nat) : Int))) 0 2, 0⟩ : Stamp), ((dx3 : Nat) : Int), ((dx4 : Nat) : Int)⟩ : Record).val)]]) sl34 rfl rfl ⟨⟨rfl, rfl⟩, trivial⟩ rfl rfl (fun b2 w8 e7 s2 h2 => ?_)
  replace h2 : Blk w8 b2 [.int .i64 ((⟨0, (⟨brM (IntKind.i64.wrap (ep + ((dx2 : Nat) : Int))) 0 2, 0⟩ : Stamp), ((dx3 : Nat) : Int), ((dx4 : Nat) : Int)⟩ : Record).op), .int .i64 (((⟨0, (⟨brM (IntKind.i64.wrap (ep + ((dx2 : Nat) : Int))) 0 2, 0⟩ : Stamp), ((dx3 : Nat) : Int), ((dx4 : Nat) : Int)⟩ : Record).stamp).epoch), .int .i64 (((⟨0, (⟨brM (IntKind.i64.wrap (ep + ((dx2 : Nat) : Int))) 0 2, 0⟩ : Stamp), ((dx3 : Nat) : Int), ((dx4 : Nat) : Int)⟩ : Record).stamp).turn), .int .i64 ((⟨0, (⟨brM (IntKind.i64.wrap (ep + ((dx2 : Nat) : Int))) 0 2, 0⟩ : Stamp), ((dx3 : Nat) : Int), ((dx4 : Nat) : Int)⟩ : Record).key), .int .i64 ((⟨0, (⟨brM (IntKind.i64.wrap (ep + ((dx2 : Nat) : Int))) 0 2, 0⟩ : Stamp), ((dx3 : Nat) : Int), ((dx4 : Nat) : Int)⟩ : Record).val)] := h2
  have g_b2 : w.heap.size ≤ b2 := by have := E.size; omega
  have y_b2 := h2.lt
  replace E := E.ext e7; replace hcu := hcu.ext e7; replace ho := ho.ext e7
  have z8 := e7.size
  refine J_append sl34 rfl rfl ho (Src.ofBlk h2 rfl) rfl (by simp only [sum_flat, List.length_cons, List.length_nil]; simp only [Enc.sz]; omega) (by decide) (by omega) (by omega) rfl rfl (fun v1 w9 m1 ho1 => ?_)
  replace E := E.mod m1 (fun g hg => by have := Own.blk ho g hg; omega); replace hcu := hcu.mod m1 (fun g hg => by have := Own.blk ho g hg; omega)
  have z9 := m1.size
  refine J_st (R_assign rfl) rfl (J_done ?_)
  refine S_nil (E_inB ?_)
  refine S_reg [true, true, true] rfl rfl ?_
  refine J_st (R_move rfl) rfl (J_st (R_add rfl rfl (add_nat (by unfold maxLen; omega))) rfl (J_st (R_assign rfl) rfl (J_done ?_)))
  refine S_nil (E_again (k + 1, v1, (ls ++ [(⟨0, (⟨brM (IntKind.i64.wrap (ep + ((dx2 : Nat) : Int))) 0 2, 0⟩ : Stamp), ((dx3 : Nat) : Int), ((dx4 : Nat) : Int)⟩ : Record)]), (brM (IntKind.i64.wrap (ep + ((dx2 : Nat) : Int))) 0 2)) (by simp; omega) ⟨rfl, rfl, rfl, rfl, rfl, trivial⟩ ⟨E, (by omega), hcu, (by omega), (by simp; omega), Own.fin ho1 (by omega) (by omega) (by first | (simp [*]; done) | (simp [Enc.enc]; done))⟩)
 ·have hc1n : ¬ k < dx1 := by first | (have h := of_decide_eq_false hc1; omega) | (have h := hc1; simp at h; omega)
  refine S_exit (E_lp_exit (E_inB_exit ?_))
  refine S_seq ?_
  refine S_reg [true, true] rfl rfl ?_
  refine J_st (R_move rfl) rfl (J_st (R_assign rfl) rfl (J_done ?_))
  refine S_ret (E_done1 rfl rfl E ?_)
  exact ⟨ls, (by omega), hcu, Own.fin ho (by have := E.size; omega) (by omega) (by first | (simp [*]; done) | (simp [*]; rfl))⟩

set_option maxHeartbeats 4000000 in
set_option maxRecDepth 20000 in
theorem s_l11Case (vcode : Value) (code : List Byt) (w : World) (hcode : RdS w vcode code) : Ct Try.prog 60 [vcode] w (fun v w' => ∃ (dr0 : Graph) (dr1 : Int) (dr2 : List Record), smG dr0 ∧ dr2.length ≤ 20 ∧ ∃ c0 u2, v = .tuple [.agg c0.toArray, .int .i64 dr1, u2].toArray ∧ Dat.R w' w.heap.size w'.heap.size c0 dr0 ∧ Own w' w.heap.size w'.heap.size 5 u2 (List.flatMap (Enc.enc (α := Record)) dr2)) := by
 refine ct_of Try.func60 rfl Try.ntmps60 rfl ?_
 refine S_sub [(0, vcode)] ⟨rfl, trivial⟩ ?_
 have E : Ext w w := Ext.refl w
 refine S_seq ?_
 refine S_reg [false, true, true] rfl rfl ?_
 refine J_alloc st26 rfl (fun b1 w1 e1 s1 h1 => ?_)
 have g_b1 : w.heap.size ≤ b1 := by have := E.size; omega
 have y_b1 := h1.lt
 replace E := E.trans e1
 have z1 := e1.size
 refine J_st (R_assign rfl) rfl (J_st (R_assign rfl) rfl (J_done ?_))
 refine S_seq ?_
 refine S_reg [true, false, true] rfl rfl ?_
 refine J_st (R_move rfl) rfl ?_
 refine J_call Try.call34 rfl (s_l01New vcode code _ (hcode.ext E)) rfl (fun _ w2 e2 hcu1 => ?_)
 obtain ⟨bc1, rfl, ybc1, hcu1⟩ := hcu1
 have g_bc1 : w.heap.size ≤ bc1 := Nat.le_trans E.size ybc1
 have y_bc1 := CurO.lt hcu1
 replace E := E.trans e2; replace h1 := h1.ext e2
 have z2 := e2.size
 refine J_st (R_assign rfl) rfl (J_done ?_)
 refine S_seq ?_
 refine S_reg [true, false, false, false] rfl rfl ?_
 refine J_st (R_move rfl) rfl ?_
 refine J_callR Try.call35 rfl rfl (s_l08Graph bc1 vcode code _ hcu1 (RdD.widen (RdD.ext (RdS.rdD hcode) E) (Nat.le_refl _) (by omega))) rfl (fun _ w3 e3 ho1 => ?_)
 obtain ⟨dx1, q1, q2, q3, hcu1', ho1⟩ := ho1
 replace hcu1 := hcu1'
 obtain ⟨o1, rfl, ho1⟩ := ho1
 have g_ho1 : w.heap.size ≤ w2.heap.size := E.size
 replace E := E.stepR e3 (by omega); replace h1 := h1.modR e3 (by omega)
 have z3 := e3.size
 refine J_alloc st26 rfl (fun b2 w4 e4 s2 h2 => ?_)
 have g_b2 : w.heap.size ≤ b2 := by have := E.size; omega
 have y_b2 := h2.lt
 replace E := E.trans e4; replace h1 := h1.ext e4; replace hcu1 := hcu1.ext e4; replace ho1 := ho1.ext e4
 have z4 := e4.size
 refine J_storeS' (cs' := [o1, .int .i64 dx1.workers, .int .i64 dx1.cap]) st26 rfl rfl rfl (all_cons (RdD.one (OwS.rd ho1)) (all_cons rfl (all_cons rfl rfl))) h2 (Nat.le_of_ble_eq_true rfl) rfl (fun w5 m1 h2' => ?_)
 replace h2 := h2'
 replace E := E.step m1 (fun g hg => by cases hg; omega); replace h1 := h1.mod m1 (fun g hg => by cases hg; omega); replace hcu1 := hcu1.mod m1 (fun g hg => by cases hg; omega); replace ho1 := ho1.mod m1 (fun g hg => by cases hg; omega)
 have z5 := m1.size
 refine J_done ?_
 refine S_seq ?_
 refine S_seq ?_
 refine S_reg [true, false] rfl rfl ?_
 refine J_st (R_move rfl) rfl ?_
 refine J_callR Try.call36 rfl rfl (s_l01Once bc1 vcode code 10 _ hcu1 (RdD.widen (RdD.ext (RdS.rdD hcode) E) (Nat.le_refl _) (by omega))) rfl (fun _ w6 e5 hv => ?_)
 obtain ⟨dx2, hcu1', hv⟩ := hv
 replace hcu1 := hcu1'
 subst hv
 replace E := E.stepR e5 (by omega); replace h1 := h1.modR e5 (by omega); replace ho1 := ho1.modR e5 (by omega); replace h2 := h2.modR e5 (by omega)
 have z6 := e5.size
 refine J_done ?_
 refine S_cond rfl (fun hc1 => ?_) (fun hc1 => ?_)
 ·refine S_reg [true, false, false] rfl rfl ?_
  refine J_st (R_move rfl) rfl ?_
  refine J_callR Try.call37 rfl rfl (s_l08Any bc1 vcode code _ hcu1 (RdD.widen (RdD.ext (RdS.rdD hcode) E) (Nat.le_refl _) (by omega))) rfl (fun v1 w7 e6 ho2 => ?_)
  obtain ⟨dx3, q4, hcu1', ho2⟩ := ho2
  replace hcu1 := hcu1'
  obtain ⟨_, rfl, ho2⟩ := ho2
  obtain ⟨o2, rfl, hd1⟩ := Graph.op ho2
  replace E := E.stepR e6 (by omega); replace h1 := h1.modR e6 (by omega); replace ho1 := ho1.modR e6 (by omega); replace h2 := h2.modR e6 (by omega)
  have z7 := e6.size
  refine J_storeS' (cs' := [o2, .int .i64 dx3.workers, .int .i64 dx3.cap]) st26 rfl rfl rfl (all_cons (RdD.one hd1) (all_cons rfl (all_cons rfl rfl))) h2 (Nat.le_of_ble_eq_true rfl) rfl (fun w8 m2 h2' => ?_)
  replace h2 := h2'
  replace E := E.step m2 (fun g hg => by cases hg; omega); replace h1 := h1.mod m2 (fun g hg => by cases hg; omega); replace hcu1 := hcu1.mod m2 (fun g hg => by cases hg; omega); replace ho1 := ho1.mod m2 (fun g hg => by cases hg; omega); replace hd1 := hd1.mod m2 (fun g hg => by cases hg; omega)
  have z8 := m2.size
  refine J_done ?_
  refine S_seq ?_
  refine S_reg [true, false, true] rfl rfl ?_
  refine J_st (R_move rfl) rfl ?_
  refine J_callR Try.call81 rfl rfl (s_l11Inputs bc1 vcode code _ hcu1 (RdD.widen (RdD.ext (RdS.rdD hcode) E) (Nat.le_refl _) (by omega))) rfl (fun v2 w9 e7 ho3 => ?_)
  obtain ⟨dx4, q5, hcu1', ho3⟩ := ho3
  replace hcu1 := hcu1'
  have g_ho3 : w.heap.size ≤ w8.heap.size := E.size
  replace E := E.stepR e7 (by omega); replace h1 := h1.modR e7 (by omega); replace ho1 := ho1.modR e7 (by omega); replace h2 := h2.modR e7 (by omega); replace hd1 := hd1.modR e7 (by omega)
  have z9 := e7.size
  refine J_st (R_assign rfl) rfl (J_done ?_)
  refine S_seq ?_
  refine S_seq ?_
  refine S_reg [true, false] rfl rfl ?_
  refine J_st (R_move rfl) rfl ?_
  refine J_callR Try.call36 rfl rfl (s_l01Once bc1 vcode code 6 _ hcu1 (RdD.widen (RdD.ext (RdS.rdD hcode) E) (Nat.le_refl _) (by omega))) rfl (fun _ w10 e8 hv => ?_)
  obtain ⟨dx5, hcu1', hv⟩ := hv
  replace hcu1 := hcu1'
  subst hv
  replace E := E.stepR e8 (by omega); replace h1 := h1.modR e8 (by omega); replace ho1 := ho1.modR e8 (by omega); replace h2 := h2.modR e8 (by omega); replace hd1 := hd1.modR e8 (by omega); replace ho3 := ho3.modR e8 (by omega)
  have z10 := e8.size
  refine J_done ?_
  refine S_cond rfl (fun hc2 => ?_) (fun hc2 => ?_)
  ·refine S_reg [true, true, false, false, false, true] rfl rfl ?_
   refine J_st (R_move rfl) rfl (J_st (R_move rfl) rfl ?_)
   refine J_callR Try.call39 rfl rfl (s_l05Any bc1 vcode code _ hcu1 (RdD.widen (RdD.ext (RdS.rdD hcode) E) (Nat.le_refl _) (by omega))) rfl (fun _ w11 e9 hv => ?_)
   obtain ⟨dx6, hcu1', hv⟩ := hv
   replace hcu1 := hcu1'
   subst hv
   replace E := E.stepR e9 (by omega); replace h1 := h1.modR e9 (by omega); replace ho1 := ho1.modR e9 (by omega); replace h2 := h2.modR e9 (by omega); replace hd1 := hd1.modR e9 (by omega); replace ho3 := ho3.modR e9 (by omega)
   have z11 := e9.size
   refine J_buildSlice (vs := [.agg (Enc.enc dx6).toArray]) (css := [[.int .i64 dx6.op, .int .i64 dx6.stamp.epoch, .int .i64 dx6.stamp.turn, .int .i64 dx6.key, .int .i64 dx6.val]]) sl34 rfl rfl ⟨⟨rfl, rfl⟩, trivial⟩ rfl rfl (fun b3 w12 e10 s3 h3 => ?_)
   replace h3 : Blk w12 b3 [.int .i64 dx6.op, .int .i64 dx6.stamp.epoch, .int .i64 dx6.stamp.turn, .int .i64 dx6.key, .int .i64 dx6.val] := h3
   have g_b3 : w.heap.size ≤ b3 := by have := E.size; omega
   have y_b3 := h3.lt
   replace E := E.trans e10; replace h1 := h1.ext e10; replace hcu1 := hcu1.ext e10; replace ho1 := ho1.ext e10; replace h2 := h2.ext e10; replace hd1 := hd1.ext e10; replace ho3 := ho3.ext e10
   have z12 := e10.size
   refine J_append sl34 rfl rfl ho3 (Src.ofBlk h3 rfl) rfl (by simp only [sum_flat, List.length_cons, List.length_nil]; simp only [Enc.sz]; omega) (by decide) (by omega) (by omega) rfl rfl (fun v3 w13 m3 ho4 => ?_)
   replace E := E.step m3 (fun g hg => by have := Own.blk ho3 g hg; omega); replace h1 := h1.mod m3 (fun g hg => by have := Own.blk ho3 g hg; omega); replace hcu1 := hcu1.mod m3 (fun g hg => by have := Own.blk ho3 g hg; omega); replace ho1 := ho1.mod m3 (fun g hg => by have := Own.blk ho3 g hg; omega); replace h2 := h2.mod m3 (fun g hg => by have := Own.blk ho3 g hg; omega); replace hd1 := hd1.mod m3 (fun g hg => by have := Own.blk ho3 g hg; omega)
   have z13 := m3.size
   refine J_st (R_assign rfl) rfl (J_done ?_)
   refine S_seq ?_
   refine S_regW mixed [1, 3, 4, 6, 7] [(0, true), (1, true), (4, true), (2, false), (3, true)] [(5, false), (6, true), (7, true)] (by decide +kernel) rfl rfl (fun w' => Ext w w' ∧ w13.heap.size ≤ w'.heap.size ∧ Blk w' b1 [.slice none 0 0, .int .i64 0, .int .i64 0] ∧ CurO w' bc1 vcode code ∧ OwS w' w2.heap.size w3.heap.size o1 dx1.nodes ∧ Blk w' b2 [o2, .int .i64 dx3.workers, .int .i64 dx3.cap] ∧ RdD w' w6.heap.size w7.heap.size o2 dx3.nodes ∧ Own w' w8.heap.size w13.heap.size 5 v3 (List.flatMap (Enc.enc (α := Record)) dx4 ++ [.int .i64 dx6.op, .int .i64 dx6.stamp.epoch, .int .i64 dx6.stamp.turn, .int .i64 dx6.key, .int .i64 dx6.val])) (fun w14 e11 => ?_)
   replace E := E.trans e11; replace h1 := h1.ext e11; replace hcu1 := hcu1.ext e11; replace ho1 := ho1.ext e11; replace h2 := h2.ext e11; replace hd1 := hd1.ext e11; replace ho4 := ho4.ext e11
   have z14 := e11.size
   refine ⟨⟨E, (by omega), h1, hcu1, ho1, h2, hd1, ho4⟩, ?_⟩
   refine JC_st rfl (fun wX hX => by obtain ⟨E, zX, h1, hcu1, ho1, h2, hd1, ho4⟩ := hX; exact R_loadS st26 rfl h2.at rfl) rfl ?_
   refine JC_pu rfl (fun wX => R_move rfl) rfl ?_
   refine JC_pu rfl (fun wX => R_move rfl) rfl ?_
   refine JC_un rfl ?_
   refine J_callR Try.call55 rfl rfl (s_l01Below bc1 vcode code 5 _ hcu1 (RdD.widen (RdD.ext (RdS.rdD hcode) E) (Nat.le_refl _) (by omega))) rfl (fun _ w15 e12 hv => ?_)
   obtain ⟨dx7, q6, q7, hcu1', hv⟩ := hv
   replace hcu1 := hcu1'
   subst hv
   replace E := E.stepR e12 (by omega); replace h1 := h1.modR e12 (by omega); replace ho1 := ho1.modR e12 (by omega); replace h2 := h2.modR e12 (by omega); replace hd1 := hd1.modR e12 (by omega); replace ho4 := ho4.modR e12 (by omega)
   have z15 := e12.size
   refine JC_next ⟨E, (by omega), h1, hcu1, ho1, h2, hd1, ho4⟩ ?_
   refine JC_pu rfl (fun wX => R_sub rfl rfl rfl) rfl ?_
   refine JC_end ?_
   refine J_storeS' (cs' := [o2, .int .i64 dx3.workers, .int .i64 dx3.cap]) st26 rfl rfl rfl (all_cons (RdD.one hd1) (all_cons rfl (all_cons rfl rfl))) h1 (Nat.le_of_ble_eq_true rfl) rfl (fun w16 m4 h1' => ?_)
   replace h1 := h1'
   replace E := E.step m4 (fun g hg => by cases hg; omega); replace hcu1 := hcu1.mod m4 (fun g hg => by cases hg; omega); replace ho1 := ho1.mod m4 (fun g hg => by cases hg; omega); replace h2 := h2.mod m4 (fun g hg => by cases hg; omega); replace hd1 := hd1.mod m4 (fun g hg => by cases hg; omega); replace ho4 := ho4.mod m4 (fun g hg => by cases hg; omega)
   have z16 := m4.size
   refine J_st (R_assign rfl) rfl (J_st (R_assign rfl) rfl (J_done ?_))
   refine S_ret (E_doneN (l := [.cell 2 26, .tmp 3, .tmp 4]) (vs := [.agg [o2, .int .i64 dx3.workers, .int .i64 dx3.cap].toArray, .int .i64 (IntKind.i64.wrap (((dx7 : Nat) : Int) - 1)), v3]) rfl ⟨.cell rfl (run_loadVar_st st26 h1.at rfl), .tmp rfl, .tmp rfl, trivial⟩ rfl E ?_)
   exact ⟨dx3, (IntKind.i64.wrap (((dx7 : Nat) : Int) - 1)), (dx4 ++ [dx6]), (by assumption), (by first | omega | (simp; omega)), ⟨_, _, rfl, (Graph.mkR _ (RdD.widen hd1 (by have := E.size; omega) (by omega))), (Own.fin ho4 (by have := E.size; omega) (by omega) (by first | (simp [*]; done) | (simp [*]; rfl)))⟩⟩
  ·refine S_skip ?_
   refine S_seq ?_
   refine S_regW mixed [1, 3, 4, 6, 7] [(0, true), (1, true), (4, true), (2, false), (3, true)] [(5, false), (6, true), (7, true)] (by decide +kernel) rfl rfl (fun w' => Ext w w' ∧ w10.heap.size ≤ w'.heap.size ∧ Blk w' b1 [.slice none 0 0, .int .i64 0, .int .i64 0] ∧ CurO w' bc1 vcode code ∧ OwS w' w2.heap.size w3.heap.size o1 dx1.nodes ∧ Blk w' b2 [o2, .int .i64 dx3.workers, .int .i64 dx3.cap] ∧ RdD w' w6.heap.size w7.heap.size o2 dx3.nodes ∧ Own w' w8.heap.size w9.heap.size 5 v2 (List.flatMap (Enc.enc (α := Record)) dx4)) (fun w17 e13 => ?_)
   replace E := E.trans e13; replace h1 := h1.ext e13; replace hcu1 := hcu1.ext e13; replace ho1 := ho1.ext e13; replace h2 := h2.ext e13; replace hd1 := hd1.ext e13; replace ho3 := ho3.ext e13
   have z17 := e13.size
   refine ⟨⟨E, (by omega), h1, hcu1, ho1, h2, hd1, ho3⟩, ?_⟩
   refine JC_st rfl (fun wX hX => by obtain ⟨E, zX, h1, hcu1, ho1, h2, hd1, ho3⟩ := hX; exact R_loadS st26 rfl h2.at rfl) rfl ?_
   refine JC_pu rfl (fun wX => R_move rfl) rfl ?_
   refine JC_pu rfl (fun wX => R_move rfl) rfl ?_
   refine JC_un rfl ?_
   refine J_callR Try.call55 rfl rfl (s_l01Below bc1 vcode code 5 _ hcu1 (RdD.widen (RdD.ext (RdS.rdD hcode) E) (Nat.le_refl _) (by omega))) rfl (fun _ w18 e14 hv => ?_)
   obtain ⟨dx8, q8, q9, hcu1', hv⟩ := hv
   replace hcu1 := hcu1'
   subst hv
   replace E := E.stepR e14 (by omega); replace h1 := h1.modR e14 (by omega); replace ho1 := ho1.modR e14 (by omega); replace h2 := h2.modR e14 (by omega); replace hd1 := hd1.modR e14 (by omega); replace ho3 := ho3.modR e14 (by omega)
   have z18 := e14.size
   refine JC_next ⟨E, (by omega), h1, hcu1, ho1, h2, hd1, ho3⟩ ?_
   refine JC_pu rfl (fun wX => R_sub rfl rfl rfl) rfl ?_
   refine JC_end ?_
   refine J_storeS' (cs' := [o2, .int .i64 dx3.workers, .int .i64 dx3.cap]) st26 rfl rfl rfl (all_cons (RdD.one hd1) (all_cons rfl (all_cons rfl rfl))) h1 (Nat.le_of_ble_eq_true rfl) rfl (fun w19 m5 h1' => ?_)
   replace h1 := h1'
   replace E := E.step m5 (fun g hg => by cases hg; omega); replace hcu1 := hcu1.mod m5 (fun g hg => by cases hg; omega); replace ho1 := ho1.mod m5 (fun g hg => by cases hg; omega); replace h2 := h2.mod m5 (fun g hg => by cases hg; omega); replace hd1 := hd1.mod m5 (fun g hg => by cases hg; omega); replace ho3 := ho3.mod m5 (fun g hg => by cases hg; omega)
   have z19 := m5.size
   refine J_st (R_assign rfl) rfl (J_st (R_assign rfl) rfl (J_done ?_))
   refine S_ret (E_doneN (l := [.cell 2 26, .tmp 3, .tmp 4]) (vs := [.agg [o2, .int .i64 dx3.workers, .int .i64 dx3.cap].toArray, .int .i64 (IntKind.i64.wrap (((dx8 : Nat) : Int) - 1)), v2]) rfl ⟨.cell rfl (run_loadVar_st st26 h1.at rfl), .tmp rfl, .tmp rfl, trivial⟩ rfl E ?_)
   exact ⟨dx3, (IntKind.i64.wrap (((dx8 : Nat) : Int) - 1)), dx4, (by assumption), (by first | omega | (simp; omega)), ⟨_, _, rfl, (Graph.mkR _ (RdD.widen hd1 (by have := E.size; omega) (by omega))), (Own.fin ho3 (by have := E.size; omega) (by omega) (by first | (simp [*]; done) | (simp [*]; rfl)))⟩⟩
 ·refine S_skip ?_
  refine S_seq ?_
  refine S_reg [true, false, true] rfl rfl ?_
  refine J_st (R_move rfl) rfl ?_
  refine J_callR Try.call81 rfl rfl (s_l11Inputs bc1 vcode code _ hcu1 (RdD.widen (RdD.ext (RdS.rdD hcode) E) (Nat.le_refl _) (by omega))) rfl (fun v4 w20 e15 ho5 => ?_)
  obtain ⟨dx9, q10, hcu1', ho5⟩ := ho5
  replace hcu1 := hcu1'
  have g_ho5 : w.heap.size ≤ w6.heap.size := E.size
  replace E := E.stepR e15 (by omega); replace h1 := h1.modR e15 (by omega); replace ho1 := ho1.modR e15 (by omega); replace h2 := h2.modR e15 (by omega)
  have z20 := e15.size
  refine J_st (R_assign rfl) rfl (J_done ?_)
  refine S_seq ?_
  refine S_seq ?_
  refine S_reg [true, false] rfl rfl ?_
  refine J_st (R_move rfl) rfl ?_
  refine J_callR Try.call36 rfl rfl (s_l01Once bc1 vcode code 6 _ hcu1 (RdD.widen (RdD.ext (RdS.rdD hcode) E) (Nat.le_refl _) (by omega))) rfl (fun _ w21 e16 hv => ?_)
  obtain ⟨dx10, hcu1', hv⟩ := hv
  replace hcu1 := hcu1'
  subst hv
  replace E := E.stepR e16 (by omega); replace h1 := h1.modR e16 (by omega); replace ho1 := ho1.modR e16 (by omega); replace h2 := h2.modR e16 (by omega); replace ho5 := ho5.modR e16 (by omega)
  have z21 := e16.size
  refine J_done ?_
  refine S_cond rfl (fun hc3 => ?_) (fun hc3 => ?_)
  ·refine S_reg [true, true, false, false, false, true] rfl rfl ?_
   refine J_st (R_move rfl) rfl (J_st (R_move rfl) rfl ?_)
   refine J_callR Try.call39 rfl rfl (s_l05Any bc1 vcode code _ hcu1 (RdD.widen (RdD.ext (RdS.rdD hcode) E) (Nat.le_refl _) (by omega))) rfl (fun _ w22 e17 hv => ?_)
   obtain ⟨dx11, hcu1', hv⟩ := hv
   replace hcu1 := hcu1'
   subst hv
   replace E := E.stepR e17 (by omega); replace h1 := h1.modR e17 (by omega); replace ho1 := ho1.modR e17 (by omega); replace h2 := h2.modR e17 (by omega); replace ho5 := ho5.modR e17 (by omega)
   have z22 := e17.size
   refine J_buildSlice (vs := [.agg (Enc.enc dx11).toArray]) (css := [[.int .i64 dx11.op, .int .i64 dx11.stamp.epoch, .int .i64 dx11.stamp.turn, .int .i64 dx11.key, .int .i64 dx11.val]]) sl34 rfl rfl ⟨⟨rfl, rfl⟩, trivial⟩ rfl rfl (fun b4 w23 e18 s4 h4 => ?_)
   replace h4 : Blk w23 b4 [.int .i64 dx11.op, .int .i64 dx11.stamp.epoch, .int .i64 dx11.stamp.turn, .int .i64 dx11.key, .int .i64 dx11.val] := h4
   have g_b4 : w.heap.size ≤ b4 := by have := E.size; omega
   have y_b4 := h4.lt
   replace E := E.trans e18; replace h1 := h1.ext e18; replace hcu1 := hcu1.ext e18; replace ho1 := ho1.ext e18; replace h2 := h2.ext e18; replace ho5 := ho5.ext e18
   have z23 := e18.size
   refine J_append sl34 rfl rfl ho5 (Src.ofBlk h4 rfl) rfl (by simp only [sum_flat, List.length_cons, List.length_nil]; simp only [Enc.sz]; omega) (by decide) (by omega) (by omega) rfl rfl (fun v5 w24 m6 ho6 => ?_)
   replace E := E.step m6 (fun g hg => by have := Own.blk ho5 g hg; omega); replace h1 := h1.mod m6 (fun g hg => by have := Own.blk ho5 g hg; omega); replace hcu1 := hcu1.mod m6 (fun g hg => by have := Own.blk ho5 g hg; omega); replace ho1 := ho1.mod m6 (fun g hg => by have := Own.blk ho5 g hg; omega); replace h2 := h2.mod m6 (fun g hg => by have := Own.blk ho5 g hg; omega)
   have z24 := m6.size
   refine J_st (R_assign rfl) rfl (J_done ?_)
   refine S_seq ?_
   refine S_regW mixed [1, 3, 4, 6, 7] [(0, true), (1, true), (4, true), (2, false), (3, true)] [(5, false), (6, true), (7, true)] (by decide +kernel) rfl rfl (fun w' => Ext w w' ∧ w24.heap.size ≤ w'.heap.size ∧ Blk w' b1 [.slice none 0 0, .int .i64 0, .int .i64 0] ∧ CurO w' bc1 vcode code ∧ OwS w' w2.heap.size w3.heap.size o1 dx1.nodes ∧ Blk w' b2 [o1, .int .i64 dx1.workers, .int .i64 dx1.cap] ∧ Own w' w6.heap.size w24.heap.size 5 v5 (List.flatMap (Enc.enc (α := Record)) dx9 ++ [.int .i64 dx11.op, .int .i64 dx11.stamp.epoch, .int .i64 dx11.stamp.turn, .int .i64 dx11.key, .int .i64 dx11.val])) (fun w25 e19 => ?_)
   replace E := E.trans e19; replace h1 := h1.ext e19; replace hcu1 := hcu1.ext e19; replace ho1 := ho1.ext e19; replace h2 := h2.ext e19; replace ho6 := ho6.ext e19
   have z25 := e19.size
   refine ⟨⟨E, (by omega), h1, hcu1, ho1, h2, ho6⟩, ?_⟩
   refine JC_st rfl (fun wX hX => by obtain ⟨E, zX, h1, hcu1, ho1, h2, ho6⟩ := hX; exact R_loadS st26 rfl h2.at rfl) rfl ?_
   refine JC_pu rfl (fun wX => R_move rfl) rfl ?_
   refine JC_pu rfl (fun wX => R_move rfl) rfl ?_
   refine JC_un rfl ?_
   refine J_callR Try.call55 rfl rfl (s_l01Below bc1 vcode code 5 _ hcu1 (RdD.widen (RdD.ext (RdS.rdD hcode) E) (Nat.le_refl _) (by omega))) rfl (fun _ w26 e20 hv => ?_)
   obtain ⟨dx12, q11, q12, hcu1', hv⟩ := hv
   replace hcu1 := hcu1'
   subst hv
   replace E := E.stepR e20 (by omega); replace h1 := h1.modR e20 (by omega); replace ho1 := ho1.modR e20 (by omega); replace h2 := h2.modR e20 (by omega); replace ho6 := ho6.modR e20 (by omega)
   have z26 := e20.size
   refine JC_next ⟨E, (by omega), h1, hcu1, ho1, h2, ho6⟩ ?_
   refine JC_pu rfl (fun wX => R_sub rfl rfl rfl) rfl ?_
   refine JC_end ?_
   refine J_storeS' (cs' := [o1, .int .i64 dx1.workers, .int .i64 dx1.cap]) st26 rfl rfl rfl (all_cons (RdD.one (OwS.rd ho1)) (all_cons rfl (all_cons rfl rfl))) h1 (Nat.le_of_ble_eq_true rfl) rfl (fun w27 m7 h1' => ?_)
   replace h1 := h1'
   replace E := E.step m7 (fun g hg => by cases hg; omega); replace hcu1 := hcu1.mod m7 (fun g hg => by cases hg; omega); replace ho1 := ho1.mod m7 (fun g hg => by cases hg; omega); replace h2 := h2.mod m7 (fun g hg => by cases hg; omega); replace ho6 := ho6.mod m7 (fun g hg => by cases hg; omega)
   have z27 := m7.size
   refine J_st (R_assign rfl) rfl (J_st (R_assign rfl) rfl (J_done ?_))
   refine S_ret (E_doneN (l := [.cell 2 26, .tmp 3, .tmp 4]) (vs := [.agg [o1, .int .i64 dx1.workers, .int .i64 dx1.cap].toArray, .int .i64 (IntKind.i64.wrap (((dx12 : Nat) : Int) - 1)), v5]) rfl ⟨.cell rfl (run_loadVar_st st26 h1.at rfl), .tmp rfl, .tmp rfl, trivial⟩ rfl E ?_)
   exact ⟨dx1, (IntKind.i64.wrap (((dx12 : Nat) : Int) - 1)), (dx9 ++ [dx11]), (by assumption), (by first | omega | (simp; omega)), ⟨_, _, rfl, (Graph.mkR _ (RdD.widen (OwS.rd ho1) (by have := E.size; omega) (by omega))), (Own.fin ho6 (by have := E.size; omega) (by omega) (by first | (simp [*]; done) | (simp [*]; rfl)))⟩⟩
  ·refine S_skip ?_
   refine S_seq ?_
   refine S_regW mixed [1, 3, 4, 6, 7] [(0, true), (1, true), (4, true), (2, false), (3, true)] [(5, false), (6, true), (7, true)] (by decide +kernel) rfl rfl (fun w' => Ext w w' ∧ w21.heap.size ≤ w'.heap.size ∧ Blk w' b1 [.slice none 0 0, .int .i64 0, .int .i64 0] ∧ CurO w' bc1 vcode code ∧ OwS w' w2.heap.size w3.heap.size o1 dx1.nodes ∧ Blk w' b2 [o1, .int .i64 dx1.workers, .int .i64 dx1.cap] ∧ Own w' w6.heap.size w20.heap.size 5 v4 (List.flatMap (Enc.enc (α := Record)) dx9)) (fun w28 e21 => ?_)
   replace E := E.trans e21; replace h1 := h1.ext e21; replace hcu1 := hcu1.ext e21; replace ho1 := ho1.ext e21; replace h2 := h2.ext e21; replace ho5 := ho5.ext e21
   have z28 := e21.size
   refine ⟨⟨E, (by omega), h1, hcu1, ho1, h2, ho5⟩, ?_⟩
   refine JC_st rfl (fun wX hX => by obtain ⟨E, zX, h1, hcu1, ho1, h2, ho5⟩ := hX; exact R_loadS st26 rfl h2.at rfl) rfl ?_
   refine JC_pu rfl (fun wX => R_move rfl) rfl ?_
   refine JC_pu rfl (fun wX => R_move rfl) rfl ?_
   refine JC_un rfl ?_
   refine J_callR Try.call55 rfl rfl (s_l01Below bc1 vcode code 5 _ hcu1 (RdD.widen (RdD.ext (RdS.rdD hcode) E) (Nat.le_refl _) (by omega))) rfl (fun _ w29 e22 hv => ?_)
   obtain ⟨dx13, q13, q14, hcu1', hv⟩ := hv
   replace hcu1 := hcu1'
   subst hv
   replace E := E.stepR e22 (by omega); replace h1 := h1.modR e22 (by omega); replace ho1 := ho1.modR e22 (by omega); replace h2 := h2.modR e22 (by omega); replace ho5 := ho5.modR e22 (by omega)
   have z29 := e22.size
   refine JC_next ⟨E, (by omega), h1, hcu1, ho1, h2, ho5⟩ ?_
   refine JC_pu rfl (fun wX => R_sub rfl rfl rfl) rfl ?_
   refine JC_end ?_
   refine J_storeS' (cs' := [o1, .int .i64 dx1.workers, .int .i64 dx1.cap]) st26 rfl rfl rfl (all_cons (RdD.one (OwS.rd ho1)) (all_cons rfl (all_cons rfl rfl))) h1 (Nat.le_of_ble_eq_true rfl) rfl (fun w30 m8 h1' => ?_)
   replace h1 := h1'
   replace E := E.step m8 (fun g hg => by cases hg; omega); replace hcu1 := hcu1.mod m8 (fun g hg => by cases hg; omega); replace ho1 := ho1.mod m8 (fun g hg => by cases hg; omega); replace h2 := h2.mod m8 (fun g hg => by cases hg; omega); replace ho5 := ho5.mod m8 (fun g hg => by cases hg; omega)
   have z30 := m8.size
   refine J_st (R_assign rfl) rfl (J_st (R_assign rfl) rfl (J_done ?_))
   refine S_ret (E_doneN (l := [.cell 2 26, .tmp 3, .tmp 4]) (vs := [.agg [o1, .int .i64 dx1.workers, .int .i64 dx1.cap].toArray, .int .i64 (IntKind.i64.wrap (((dx13 : Nat) : Int) - 1)), v4]) rfl ⟨.cell rfl (run_loadVar_st st26 h1.at rfl), .tmp rfl, .tmp rfl, trivial⟩ rfl E ?_)
   exact ⟨dx1, (IntKind.i64.wrap (((dx13 : Nat) : Int) - 1)), dx9, (by assumption), (by first | omega | (simp; omega)), ⟨_, _, rfl, (Graph.mkR _ (RdD.widen (OwS.rd ho1) (by have := E.size; omega) (by omega))), (Own.fin ho5 (by have := E.size; omega) (by omega) (by first | (simp [*]; done) | (simp [*]; rfl)))⟩⟩

set_option maxRecDepth 20000 in
theorem s_DrawFixpoint (vcode : Value) (code : List Byt) (w : World) (hcode : RdS w vcode code) : Ct Try.prog 17 [vcode] w (fun v w' => ∃ (dr0 : Graph) (dr1 : Int) (dr2 : List Record), smG dr0 ∧ dr2.length ≤ 20 ∧ ∃ c0 u2, v = .tuple [.agg c0.toArray, .int .i64 dr1, u2].toArray ∧ Dat.R w' w.heap.size w'.heap.size c0 dr0 ∧ Own w' w.heap.size w'.heap.size 5 u2 (List.flatMap (Enc.enc (α := Record)) dr2)) := by
 refine ct_of Try.func17 rfl Try.ntmps17 rfl ?_
 refine S_sub [(0, vcode)] ⟨rfl, trivial⟩ ?_
 have E : Ext w w := Ext.refl w
 refine S_seq ?_
 refine S_reg [false, true, true] rfl rfl ?_
 refine J_alloc st26 rfl (fun b1 w1 e1 s1 h1 => ?_)
 have g_b1 : w.heap.size ≤ b1 := by have := E.size; omega
 have y_b1 := h1.lt
 replace E := E.trans e1
 have z1 := e1.size
 refine J_st (R_assign rfl) rfl (J_st (R_assign rfl) rfl (J_done ?_))
 refine S_seq ?_
 refine S_reg [true, false, true, true, true, false, true, true] rfl rfl ?_
 refine J_st (R_move rfl) rfl ?_
 refine J_call Try.call60 rfl (s_l11Case vcode code _ (hcode.ext E)) rfl (fun _ w2 e2 ho1 => ?_)
 obtain ⟨dx1, dx2, dx3, q1, q2, ho1⟩ := ho1
 obtain ⟨_, v1, rfl, ho2, ho3⟩ := ho1
 have g_ho1 : w.heap.size ≤ w1.heap.size := E.size
 replace E := E.trans e2; replace h1 := h1.ext e2
 have z2 := e2.size
 obtain ⟨o1, rfl, hd1⟩ := Graph.op ho2
 refine J_st (R_extract rfl rfl) rfl (J_st (R_extract rfl rfl) rfl (J_st (R_extract rfl rfl) rfl ?_))
 refine J_storeS' (cs' := [o1, .int .i64 dx1.workers, .int .i64 dx1.cap]) st26 rfl rfl rfl (all_cons (RdD.one hd1) (all_cons rfl (all_cons rfl rfl))) h1 (Nat.le_of_ble_eq_true rfl) rfl (fun w3 m1 h1' => ?_)
 replace h1 := h1'
 replace E := E.step m1 (fun g hg => by cases hg; omega); replace hd1 := hd1.mod m1 (fun g hg => by cases hg; omega); replace ho3 := ho3.mod m1 (fun g hg => by cases hg; omega)
 have z3 := m1.size
 refine J_st (R_assign rfl) rfl (J_st (R_assign rfl) rfl (J_done ?_))
 refine S_ret (E_doneN (l := [.cell 2 26, .tmp 3, .tmp 4]) (vs := [.agg [o1, .int .i64 dx1.workers, .int .i64 dx1.cap].toArray, .int .i64 dx2, v1]) rfl ⟨.cell rfl (run_loadVar_st st26 h1.at rfl), .tmp rfl, .tmp rfl, trivial⟩ rfl E ?_)
 exact ⟨dx1, dx2, dx3, (by assumption), (by assumption), ⟨_, _, rfl, (Graph.mkR _ (RdD.widen hd1 (by have := E.size; omega) (by omega))), (Own.fin ho3 (by have := E.size; omega) (by omega) (by first | (simp [*]; done) | (simp [*]; rfl)))⟩⟩

set_option maxRecDepth 20000 in
theorem s_DrawIsClosed (vcode : Value) (code : List Byt) (w : World) (hcode : RdS w vcode code) : Ct Try.prog 22 [vcode] w (fun v w' => ∃ (dr0 : Graph) (dr1 : List Cell), smG dr0 ∧ dr1.length ≤ 3200000 ∧ ∃ c0 u1, v = .tuple [.agg c0.toArray, u1].toArray ∧ Dat.R w' w.heap.size w'.heap.size c0 dr0 ∧ Own w' w.heap.size w'.heap.size 4 u1 (List.flatMap (Enc.enc (α := Cell)) dr1)) := by
 have hfl := @fix_len
 refine ct_of Try.func22 rfl Try.ntmps22 rfl ?_
 refine S_sub [(0, vcode)] ⟨rfl, trivial⟩ ?_
 have E : Ext w w := Ext.refl w
 refine S_seq ?_
 refine S_reg [false, true] rfl rfl ?_
 refine J_alloc st26 rfl (fun b1 w1 e1 s1 h1 => ?_)
 have g_b1 : w.heap.size ≤ b1 := by have := E.size; omega
 have y_b1 := h1.lt
 replace E := E.trans e1
 have z1 := e1.size
 refine J_st (R_assign rfl) rfl (J_done ?_)
 refine S_seq ?_
 refine S_reg [true, false, true] rfl rfl ?_
 refine J_st (R_move rfl) rfl ?_
 refine J_call Try.call34 rfl (s_l01New vcode code _ (hcode.ext E)) rfl (fun _ w2 e2 hcu1 => ?_)
 obtain ⟨bc1, rfl, ybc1, hcu1⟩ := hcu1
 have g_bc1 : w.heap.size ≤ bc1 := Nat.le_trans E.size ybc1
 have y_bc1 := CurO.lt hcu1
 replace E := E.trans e2; replace h1 := h1.ext e2
 have z2 := e2.size
 refine J_st (R_assign rfl) rfl (J_done ?_)
 refine S_seq ?_
 refine S_reg [true, false, true, true, true, true, false, false, true, true] rfl rfl ?_
 refine J_st (R_move rfl) rfl ?_
 refine J_call Try.call60 rfl (s_l11Case vcode code _ (hcode.ext E)) rfl (fun _ w3 e3 ho1 => ?_)
 obtain ⟨dx1, dx2, dx3, q1, q2, ho1⟩ := ho1
 obtain ⟨_, v1, rfl, ho2, ho3⟩ := ho1
 have g_ho1 : w.heap.size ≤ w2.heap.size := E.size
 replace E := E.trans e3; replace h1 := h1.ext e3; replace hcu1 := hcu1.ext e3
 have z3 := e3.size
 obtain ⟨o1, rfl, hd1⟩ := Graph.op ho2
 refine J_st (R_move rfl) rfl (J_st (R_extract rfl rfl) rfl (J_st (R_extract rfl rfl) rfl (J_st (R_extract rfl rfl) rfl ?_)))
 refine J_alloc st26 rfl (fun b2 w4 e4 s2 h2 => ?_)
 have g_b2 : w.heap.size ≤ b2 := by have := E.size; omega
 have y_b2 := h2.lt
 replace E := E.trans e4; replace h1 := h1.ext e4; replace hcu1 := hcu1.ext e4; replace hd1 := hd1.ext e4; replace ho3 := ho3.ext e4
 have z4 := e4.size
 refine J_storeS' (cs' := [o1, .int .i64 dx1.workers, .int .i64 dx1.cap]) st26 rfl rfl rfl (all_cons (RdD.one hd1) (all_cons rfl (all_cons rfl rfl))) h2 (Nat.le_of_ble_eq_true rfl) rfl (fun w5 m1 h2' => ?_)
 replace h2 := h2'
 replace E := E.step m1 (fun g hg => by cases hg; omega); replace h1 := h1.mod m1 (fun g hg => by cases hg; omega); replace hcu1 := hcu1.mod m1 (fun g hg => by cases hg; omega); replace hd1 := hd1.mod m1 (fun g hg => by cases hg; omega); replace ho3 := ho3.mod m1 (fun g hg => by cases hg; omega)
 have z5 := m1.size
 refine J_st (R_assign rfl) rfl (J_st (R_assign rfl) rfl (J_done ?_))
 refine S_seq ?_
 refine S_reg [true, true, true, false, true] rfl rfl ?_
 refine J_st (R_loadS st26 rfl h2.at rfl) rfl (J_st (R_move rfl) rfl (J_st (R_move rfl) rfl ?_))
 refine J_call Try.call19 rfl (s_Fixpoint [o1, .int .i64 dx1.workers, .int .i64 dx1.cap] dx1 dx2 v1 dx3 _ (Graph.mkR dx1 (RdD.any hd1)) (Own.rd (by decide) ho3) (by omega) (smG_cnt (by assumption))) rfl (fun v2 w6 e5 ho4 => ?_)
 have g_ho4 : w.heap.size ≤ w5.heap.size := E.size
 replace E := E.trans e5; replace h1 := h1.ext e5; replace hcu1 := hcu1.ext e5; replace hd1 := hd1.ext e5; replace ho3 := ho3.ext e5; replace h2 := h2.ext e5
 have z6 := e5.size
 refine J_st (R_assign rfl) rfl (J_done ?_)
 refine S_seq ?_
 refine S_seq ?_
 refine S_reg [true, true, true, true, true, false, true] rfl rfl ?_
 refine J_st (R_move rfl) rfl (J_st (R_len Try.underlying27 rfl (Own.len (by decide) ho4)) rfl (J_st (R_gtr rfl rfl) rfl (J_st (R_move rfl) rfl ?_)))
 refine J_cutB 3 (fun bq1 => [(0, vcode), (2, .pointer (some ⟨b1, 0, none⟩)), (3, .slice none 0 0), (4, .pointer (some ⟨bc1, 0, none⟩)), (5, .pointer (some ⟨b2, 0, none⟩)), (6, .int .i64 dx2), (7, v1), (8, v2), (9, vcode), (10, .pointer (some ⟨bc1, 0, none⟩)), (11, .tuple [.agg [o1, .int .i64 dx1.workers, .int .i64 dx1.cap].toArray, .int .i64 dx2, v1].toArray), (12, vcode), (13, .tuple [.agg [o1, .int .i64 dx1.workers, .int .i64 dx1.cap].toArray, .int .i64 dx2, v1].toArray), (14, .agg [o1, .int .i64 dx1.workers, .int .i64 dx1.cap].toArray), (15, .int .i64 dx2), (16, v1), (17, .agg [o1, .int .i64 dx1.workers, .int .i64 dx1.cap].toArray), (18, .int .i64 dx2), (19, v1), (20, v2), (27, .bool bq1)]) (fun bq1 w' => (bq1 = true → (decide (1 < (((fixM dx1 dx2 dx3).length : Nat) : Int))) = true) ∧ Ext w w' ∧ w6.heap.size ≤ w'.heap.size ∧ Blk w' b1 [.slice none 0 0, .int .i64 0, .int .i64 0] ∧ CurO w' bc1 vcode code ∧ RdD w' w2.heap.size w3.heap.size o1 dx1.nodes ∧ Own w' w2.heap.size w3.heap.size 5 v1 (List.flatMap (Enc.enc (α := Record)) dx3) ∧ Blk w' b2 [o1, .int .i64 dx1.workers, .int .i64 dx1.cap] ∧ Own w' w5.heap.size w6.heap.size 4 v2 (List.flatMap (Enc.enc (α := Cell)) (fixM dx1 dx2 dx3))) ?_ ?_
 ·refine J_if (gd := 24) rfl rfl (fun hg1 => ?_) (fun hg1 => ?_)
  ·have hg1n : (fixM dx1 dx2 dx3).length > 1 := by first | (have h := of_decide_eq_true hg1; omega) | (have h := hg1; simp at h; omega)
   refine J_gd rfl rfl (R_move rfl) rfl ?_
   refine J_ung rfl rfl ?_
   refine J_callR Try.call36 rfl rfl (s_l01Once bc1 vcode code 2 _ hcu1 (RdD.widen (RdD.ext (RdS.rdD hcode) E) (Nat.le_refl _) (by omega))) rfl (fun _ w8 e6 hv => ?_)
   obtain ⟨dx4, hcu1', hv⟩ := hv
   replace hcu1 := hcu1'
   subst hv
   replace E := E.stepR e6 (by omega); replace h1 := h1.modR e6 (by omega); replace hd1 := hd1.modR e6 (by omega); replace ho3 := ho3.modR e6 (by omega); replace h2 := h2.modR e6 (by omega); replace ho4 := ho4.modR e6 (by omega)
   have z7 := e6.size
   refine J_st (R_pickT rfl rfl) rfl (J_cutBEnd dx4 ⟨rfl, rfl, rfl, rfl, rfl, rfl, rfl, rfl, rfl, rfl, rfl, rfl, rfl, rfl, rfl, rfl, rfl, rfl, rfl, rfl, rfl, trivial⟩ ⟨(fun _ => hg1), E, (by omega), h1, hcu1, hd1, ho3, h2, ho4⟩)
  ·have hg1n : ¬ (fixM dx1 dx2 dx3).length > 1 := by first | (have h := of_decide_eq_false hg1; omega) | (have h := hg1; simp at h; omega)
   refine J_gdno rfl rfl rfl rfl ?_
   refine J_ungno rfl rfl rfl rfl ?_
   refine J_st (R_pickF rfl rfl) rfl (J_cutBEnd false ⟨rfl, rfl, rfl, rfl, rfl, rfl, rfl, rfl, rfl, rfl, rfl, rfl, rfl, rfl, rfl, rfl, rfl, rfl, rfl, rfl, rfl, trivial⟩ ⟨(fun h => by cases h), E, (by omega), h1, hcu1, hd1, ho3, h2, ho4⟩)
 clear E h1 hcu1 hd1 ho3 h2 ho4
 rintro bq1 w7 ⟨hbq1, E, z8, h1, hcu1, hd1, ho3, h2, ho4⟩
 refine J_done ?_
 refine S_cond rfl (fun hc1 => ?_) (fun hc1 => ?_)
 ·have hc1i := hbq1 hc1
  have hc1in : (fixM dx1 dx2 dx3).length > 1 := by first | (have h := of_decide_eq_true hc1i; omega) | (have h := hc1i; simp at h; omega)
  refine S_reg [true, true, true] rfl rfl ?_
  refine J_st (R_move rfl) rfl ?_
  have hk1 : 1 ≤ (fixM dx1 dx2 dx3).length := by first | assumption | omega
  have hs1 := Own.slFromE (α := Cell) ho4 hk1
  replace hs1 : Own w7 w5.heap.size w6.heap.size 4 (slFrom v2 1 4) (List.flatMap (Enc.enc (α := Cell)) (List.drop 1 (fixM dx1 dx2 dx3))) := hs1
  refine J_st (R_sliceFrom sl27 rfl rfl (Own.roomE (α := Cell) ho4) hk1) rfl (J_st (R_assign rfl) rfl (J_done ?_))
  refine S_seq ?_
  refine S_reg [true, true, false, true] rfl rfl ?_
  refine J_st (R_loadS st26 rfl h2.at rfl) rfl (J_st (R_move rfl) rfl ?_)
  refine J_storeS' (cs' := [o1, .int .i64 dx1.workers, .int .i64 dx1.cap]) st26 rfl rfl rfl (all_cons (RdD.one hd1) (all_cons rfl (all_cons rfl rfl))) h1 (Nat.le_of_ble_eq_true rfl) rfl (fun w9 m2 h1' => ?_)
  replace h1 := h1'
  replace E := E.step m2 (fun g hg => by cases hg; omega); replace hcu1 := hcu1.mod m2 (fun g hg => by cases hg; omega); replace hd1 := hd1.mod m2 (fun g hg => by cases hg; omega); replace ho3 := ho3.mod m2 (fun g hg => by cases hg; omega); replace h2 := h2.mod m2 (fun g hg => by cases hg; omega); replace hs1 := hs1.mod m2 (fun g hg => by cases hg; omega)
  have z9 := m2.size
  refine J_st (R_assign rfl) rfl (J_done ?_)
  refine S_ret (E_doneN (l := [.cell 2 26, .tmp 3]) (vs := [.agg [o1, .int .i64 dx1.workers, .int .i64 dx1.cap].toArray, slFrom v2 1 4]) rfl ⟨.cell rfl (run_loadVar_st st26 h1.at rfl), .tmp rfl, trivial⟩ rfl E ?_)
  exact ⟨dx1, (List.drop 1 (fixM dx1 dx2 dx3)), (by assumption), (by first | exact fix_len _ _ _ | (simp only [List.length_drop]; have := fix_len dx1 dx2 dx3; omega)), ⟨_, _, rfl, (Graph.mkR _ (RdD.widen hd1 (by have := E.size; omega) (by omega))), (Own.fin hs1 (by have := E.size; omega) (by omega) (by first | (simp [*]; done) | (simp [*]; rfl)))⟩⟩
 ·refine S_skip ?_
  refine S_seq ?_
  refine S_reg [true, true, false, true] rfl rfl ?_
  refine J_st (R_loadS st26 rfl h2.at rfl) rfl (J_st (R_move rfl) rfl ?_)
  refine J_storeS' (cs' := [o1, .int .i64 dx1.workers, .int .i64 dx1.cap]) st26 rfl rfl rfl (all_cons (RdD.one hd1) (all_cons rfl (all_cons rfl rfl))) h1 (Nat.le_of_ble_eq_true rfl) rfl (fun w10 m3 h1' => ?_)
  replace h1 := h1'
  replace E := E.step m3 (fun g hg => by cases hg; omega); replace hcu1 := hcu1.mod m3 (fun g hg => by cases hg; omega); replace hd1 := hd1.mod m3 (fun g hg => by cases hg; omega); replace ho3 := ho3.mod m3 (fun g hg => by cases hg; omega); replace h2 := h2.mod m3 (fun g hg => by cases hg; omega); replace ho4 := ho4.mod m3 (fun g hg => by cases hg; omega)
  have z10 := m3.size
  refine J_st (R_assign rfl) rfl (J_done ?_)
  refine S_ret (E_doneN (l := [.cell 2 26, .tmp 3]) (vs := [.agg [o1, .int .i64 dx1.workers, .int .i64 dx1.cap].toArray, v2]) rfl ⟨.cell rfl (run_loadVar_st st26 h1.at rfl), .tmp rfl, trivial⟩ rfl E ?_)
  exact ⟨dx1, (fixM dx1 dx2 dx3), (by assumption), (by first | exact fix_len _ _ _ | (simp only [List.length_drop]; have := fix_len dx1 dx2 dx3; omega)), ⟨_, _, rfl, (Graph.mkR _ (RdD.widen hd1 (by have := E.size; omega) (by omega))), (Own.fin ho4 (by have := E.size; omega) (by omega) (by first | (simp [*]; done) | (simp [*]; rfl)))⟩⟩

set_option maxRecDepth 20000 in
theorem s_DrawNoWorse (vcode : Value) (code : List Byt) (w : World) (hcode : RdS w vcode code) : Ct Try.prog 23 [vcode] w (fun v w' => ∃ (dr0 : List Cell) (dr1 : List Cell), dr0.length ≤ 100 ∧ dr1.length ≤ 100 ∧ ∃ u0 u1, v = .tuple [u0, u1].toArray ∧ Own w' w.heap.size w'.heap.size 4 u0 (List.flatMap (Enc.enc (α := Cell)) dr0) ∧ Own w' w.heap.size w'.heap.size 4 u1 (List.flatMap (Enc.enc (α := Cell)) dr1) ∧ SepL [u0, u1]) := by
 refine ct_of Try.func23 rfl Try.ntmps23 rfl ?_
 refine S_sub [(0, vcode)] ⟨rfl, trivial⟩ ?_
 have E : Ext w w := Ext.refl w
 refine S_seq ?_
 refine S_reg [true, true] rfl rfl ?_
 refine J_st (R_assign rfl) rfl (J_st (R_assign rfl) rfl (J_done ?_))
 refine S_seq ?_
 refine S_reg [true, false, true] rfl rfl ?_
 refine J_st (R_move rfl) rfl ?_
 refine J_call Try.call34 rfl (s_l01New vcode code _ (hcode.ext E)) rfl (fun _ w1 e1 hcu1 => ?_)
 obtain ⟨bc1, rfl, ybc1, hcu1⟩ := hcu1
 have g_bc1 : w.heap.size ≤ bc1 := Nat.le_trans E.size ybc1
 have y_bc1 := CurO.lt hcu1
 replace E := E.trans e1
 have z1 := e1.size
 refine J_st (R_assign rfl) rfl (J_done ?_)
 refine S_seq ?_
 refine S_reg [true, false, true] rfl rfl ?_
 refine J_st (R_move rfl) rfl ?_
 refine J_callR Try.call62 rfl rfl (s_l09Cells bc1 vcode code _ hcu1 (RdD.widen (RdD.ext (RdS.rdD hcode) E) (Nat.le_refl _) (by omega))) rfl (fun v1 w2 e2 ho1 => ?_)
 obtain ⟨dx1, q1, hcu1', ho1⟩ := ho1
 replace hcu1 := hcu1'
 have g_ho1 : w.heap.size ≤ w1.heap.size := E.size
 replace E := E.stepR e2 (by omega)
 have z2 := e2.size
 refine J_st (R_assign rfl) rfl (J_done ?_)
 refine S_seq ?_
 refine S_seq ?_
 refine S_reg [true, false] rfl rfl ?_
 refine J_st (R_move rfl) rfl ?_
 refine J_callR Try.call36 rfl rfl (s_l01Once bc1 vcode code 3 _ hcu1 (RdD.widen (RdD.ext (RdS.rdD hcode) E) (Nat.le_refl _) (by omega))) rfl (fun _ w3 e3 hv => ?_)
 obtain ⟨dx2, hcu1', hv⟩ := hv
 replace hcu1 := hcu1'
 subst hv
 replace E := E.stepR e3 (by omega); replace ho1 := ho1.modR e3 (by omega)
 have z3 := e3.size
 refine J_done ?_
 refine S_cond rfl (fun hc1 => ?_) (fun hc1 => ?_)
 ·refine S_seq ?_
  refine S_reg [true, false, true, false, true, true] rfl rfl ?_
  refine J_st (R_move rfl) rfl ?_
  refine J_buildSlice (vs := []) (css := []) sl27 rfl rfl trivial rfl rfl (fun b1 w4 e4 s1 h1 => ?_)
  replace h1 : Blk w4 b1 [] := h1
  have g_b1 : w.heap.size ≤ b1 := by have := E.size; omega
  have y_b1 := h1.lt
  replace E := E.trans e4; replace hcu1 := hcu1.ext e4; replace ho1 := ho1.ext e4
  have z4 := e4.size
  refine J_st (R_move rfl) rfl ?_
  refine J_append sl27 rfl rfl (Own.ofBlk (lo := b1) (hi := b1 + 1) (sz := 4) h1 (Nat.le_refl _) (Nat.lt_succ_self _) (by simp) (by simp [maxLen])) (Own.src ho1) (flat_one _) (by simp only [sum_flat, List.length_nil]; simp only [Enc.sz]; omega) (by decide) (by omega) (by omega) rfl rfl (fun v2 w5 m1 ho2 => ?_)
  replace E := E.step m1 (fun g hg => by have := Own.blk (Own.ofBlk (lo := b1) (hi := b1 + 1) (sz := 4) h1 (Nat.le_refl _) (Nat.lt_succ_self _) (by simp) (by simp [maxLen])) g hg; omega); replace hcu1 := hcu1.mod m1 (fun g hg => by have := Own.blk (Own.ofBlk (lo := b1) (hi := b1 + 1) (sz := 4) h1 (Nat.le_refl _) (Nat.lt_succ_self _) (by simp) (by simp [maxLen])) g hg; omega); replace ho1 := ho1.mod m1 (fun g hg => by have := Own.blk (Own.ofBlk (lo := b1) (hi := b1 + 1) (sz := 4) h1 (Nat.le_refl _) (Nat.lt_succ_self _) (by simp) (by simp [maxLen])) g hg; omega)
  have z5 := m1.size
  refine J_st (R_assign rfl) rfl (J_st (R_assign rfl) rfl (J_done ?_))
  refine S_ret (E_doneN (l := [.tmp 2, .tmp 3]) (vs := [v1, v2]) rfl ⟨.tmp rfl, .tmp rfl, trivial⟩ rfl E ?_)
  exact ⟨dx1, ([] ++ dx1), (by assumption), (by assumption), ⟨_, _, rfl, (Own.fin ho1 (by have := E.size; omega) (by omega) (by first | (simp [*]; done) | (simp [*]; rfl))), (Own.fin ho2 (by have := E.size; omega) (by omega) (by first | (simp [*]; done) | (simp [*]; rfl))), ⟨⟨(Own.sep ho1 ho2 (by omega)), trivial⟩, ⟨trivial, trivial⟩⟩⟩⟩
 ·refine S_skip ?_
  refine S_seq ?_
  refine S_reg [true, true, false, true, true] rfl rfl ?_
  refine J_st (R_move rfl) rfl (J_st (R_move rfl) rfl ?_)
  refine J_callR Try.call62 rfl rfl (s_l09Cells bc1 vcode code _ hcu1 (RdD.widen (RdD.ext (RdS.rdD hcode) E) (Nat.le_refl _) (by omega))) rfl (fun v3 w6 e5 ho3 => ?_)
  obtain ⟨dx3, q2, hcu1', ho3⟩ := ho3
  replace hcu1 := hcu1'
  have g_ho3 : w.heap.size ≤ w3.heap.size := E.size
  replace E := E.stepR e5 (by omega); replace ho1 := ho1.modR e5 (by omega)
  have z6 := e5.size
  refine J_st (R_assign rfl) rfl (J_st (R_assign rfl) rfl (J_done ?_))
  refine S_ret (E_doneN (l := [.tmp 2, .tmp 3]) (vs := [v1, v3]) rfl ⟨.tmp rfl, .tmp rfl, trivial⟩ rfl E ?_)
  exact ⟨dx1, dx3, (by assumption), (by assumption), ⟨_, _, rfl, (Own.fin ho1 (by have := E.size; omega) (by omega) (by first | (simp [*]; done) | (simp [*]; rfl))), (Own.fin ho3 (by have := E.size; omega) (by omega) (by first | (simp [*]; done) | (simp [*]; rfl))), ⟨⟨(Own.sep ho1 ho3 (by omega)), trivial⟩, ⟨trivial, trivial⟩⟩⟩⟩

end Go.Proofs.Ytckahblgeepfjaa
