/- What the functions that the laws call come to: a contract each; no condition. -/
import Derived.Test.YtdmngeljbhlgmaaFns2
namespace Go.Proofs.Ytdmngeljbhlgmaa
open Go Go.Proofs.Ytdmngeljbhlgmaa.X Go.Proofs
set_option maxHeartbeats 4000000 in
set_option maxRecDepth 20000 in
theorem s_l08Any (lo : Nat) (vb : Value) (bs : List Byt) (w : World) (hcu : CurO w lo vb bs) (hbs : RdD w 0 lo vb bs) : CtR Try.prog 47 [.pointer (some ⟨lo, 0, none⟩)] w lo (lo + 1) (fun v w' => ∃ (dr0 : Graph), smG dr0 ∧ CurO w' lo vb bs ∧ ∃ cs, v = .agg cs.toArray ∧ Dat.R w' w.heap.size w'.heap.size cs dr0) := by
  have y_lo := CurO.lt hcu
  refine ctR_of Try.func47 rfl Try.ntmps47 rfl ?_
  refine S_sub [(0, .pointer (some ⟨lo, 0, none⟩))] ⟨rfl, trivial⟩ ?_
  have E : ModR w w lo (lo + 1) := ModR.refl w lo (lo + 1)
  refine S_seq ?_
  refine S_reg [false] rfl rfl ?_
  refine J_alloc st26 rfl (fun b1 w1 e1 s1 h1 => ?_)
  have g_b1 : w.heap.size ≤ b1 := by have := E.size; omega
  have y_b1 := h1.lt
  replace E := E.ext e1; replace hcu := hcu.ext e1
  have z1 := e1.size
  refine J_done ?_
  refine S_seq ?_
  refine S_reg [true, false, false, false] rfl rfl ?_
  refine J_st (R_move rfl) rfl ?_
  refine J_callR Try.call75 rfl rfl (s_l08Graph lo vb bs _ hcu (RdD.modR hbs E (.inl (Nat.le_refl _)))) rfl (fun _ w2 e2 ho1 => ?_)
  obtain ⟨dx1, q1, q2, q3, hcu', ho1⟩ := ho1
  replace hcu := hcu'
  obtain ⟨o1, rfl, ho1⟩ := ho1
  have g_ho1 : w.heap.size ≤ w1.heap.size := E.size
  replace E := E.trans e2 (by omega) (by omega); replace h1 := h1.modR e2 (by omega)
  have z2 := e2.size
  refine J_alloc st26 rfl (fun b2 w3 e3 s2 h2 => ?_)
  have g_b2 : w.heap.size ≤ b2 := by have := E.size; omega
  have y_b2 := h2.lt
  replace E := E.ext e3; replace hcu := hcu.ext e3; replace h1 := h1.ext e3; replace ho1 := ho1.ext e3
  have z3 := e3.size
  refine J_storeS' (cs' := [o1, .int .i64 dx1.workers, .int .i64 dx1.cap]) st26 rfl rfl rfl (all_cons (RdD.one (OwS.rd ho1)) (all_cons rfl (all_cons rfl rfl))) h2 (Nat.le_of_ble_eq_true rfl) rfl (fun w4 m1 h2' => ?_)
  replace h2 := h2'
  replace E := E.mod m1 (fun g hg => by cases hg; omega); replace hcu := hcu.mod m1 (fun g hg => by cases hg; omega); replace h1 := h1.mod m1 (fun g hg => by cases hg; omega); replace ho1 := ho1.mod m1 (fun g hg => by cases hg; omega)
  have z4 := m1.size
  refine J_done ?_
  refine S_seq ?_
  obtain ⟨f1, hF1⟩ := OwS.owf ho1
  have sp1 : DjL [f1, [b2]] := ⟨⟨(show Dj f1 [b2] from fun x hx hc => by have := OwF.in2 hF1 x hx; simp at hc; omega), trivial⟩, trivial, trivial⟩
  refine S_reg [true, true, true, true, false, true] rfl rfl ?_
  refine J_st (R_move rfl) rfl (J_st (R_fieldAddr0 fl26_0 rfl) rfl (J_st (R_load sc24 rfl (h2.one 0 rfl)) rfl (J_st (R_len Try.underlying24 rfl (OwF.rd hF1).len) rfl ?_)))
  refine J_callR Try.call53 rfl rfl (s_l01Below lo vb bs ((dx1.nodes.length : Nat) : Int) _ hcu (RdD.modR hbs E (.inl (Nat.le_refl _)))) rfl (fun _ w5 e4 hv => ?_)
  obtain ⟨dx2, q4, q5, hcu', hv⟩ := hv
  replace hcu := hcu'
  subst hv
  replace E := E.trans e4 (by omega) (by omega); replace h1 := h1.modR e4 (by omega); replace h2 := h2.modR e4 (by omega); replace hF1 := hF1.modR e4 (by omega)
  have z5 := e4.size
  refine J_st (R_assign rfl) rfl (J_done ?_)
  refine S_seq ?_
  refine S_seq ?_
  refine S_reg [true, false] rfl rfl ?_
  refine J_st (R_move rfl) rfl ?_
  refine J_callR Try.call53 rfl rfl (s_l01Below lo vb bs 12 _ hcu (RdD.modR hbs E (.inl (Nat.le_refl _)))) rfl (fun _ w6 e5 hv => ?_)
  obtain ⟨dx3, q6, q7, hcu', hv⟩ := hv
  replace hcu := hcu'
  subst hv
  replace E := E.trans e5 (by omega) (by omega); replace h1 := h1.modR e5 (by omega); replace h2 := h2.modR e5 (by omega); replace hF1 := hF1.modR e5 (by omega)
  have z6 := e5.size
  refine J_done ?_
  refine S_block ?_
  refine S_seq ?_
  refine S_reg [true, true] rfl rfl ?_
  refine J_st (R_eql rfl rfl) rfl (J_st (R_assign rfl) rfl (J_done ?_))
  refine S_cond rfl (fun hc1 => ?_) (fun hc1 => ?_)
  · have hc1n : dx3 = 0 := by first | (have h := of_decide_eq_true hc1; omega) | (have h := hc1; simp at h; omega)
    have hi1 : dx2 < dx1.nodes.length := (by first | assumption | omega | (simp only [List.length_set]; first | assumption | omega) | (simp only [List.getElem_set_self, List.length_set]; first | assumption | omega) | (simp only [setW, setLk, List.length_set]; first | assumption | omega) | (simp; done))
    have hK1 : OwK w6 f1 w6 w1.heap.size w2.heap.size o1 (dx1.nodes.take dx2 ++ dx1.nodes[dx2] :: dx1.nodes.drop (dx2 + 1)) := ⟨by rw [← self_split hi1]; exact hF1, Kq.refl _ _⟩
    have hfl1 := OwF.in2 hF1
    obtain ⟨_, ho2, hrow1⟩ := OwK.focus hK1
    obtain ⟨o2, rfl, sp2, hw1⟩ := Node.opO ho2
    clear hK1 hF1
    have hl1 : (dx1.nodes.take dx2).length = dx2 := by first | (simp; done) | (simp; omega)
    have hn1 : dx2 + 1 + (dx1.nodes.drop (dx2 + 1)).length = dx1.nodes.length := by first | (simp; done) | (simp; omega)
    replace hrow1 : RowR f1 w6 w1.heap.size w2.heap.size o1 (dx1.nodes.take dx2) [.int .i64 ((dx1.nodes[dx2]'hi1).kind), .int .i64 ((dx1.nodes[dx2]'hi1).a), .int .i64 ((dx1.nodes[dx2]'hi1).b), o2] (dx1.nodes.drop (dx2 + 1)) := hrow1
    refine S_regW mixed [(0, true), (1, true), (2, true), (3, true), (4, false), (5, true)] [(6, false)] (by decide +kernel) rfl rfl (fun w' => ModR w w' lo (lo + 1) ∧ w6.heap.size ≤ w'.heap.size ∧ CurO w' lo vb bs ∧ Blk w' b1 [.slice none 0 0, .int .i64 0, .int .i64 0] ∧ Blk w' b2 [o1, .int .i64 dx1.workers, .int .i64 dx1.cap] ∧ Own w' w1.heap.size w2.heap.size 1 o2 (List.flatMap (Enc.enc (α := Int)) ((dx1.nodes[dx2]'hi1).outs)) ∧ RowR f1 w' w1.heap.size w2.heap.size o1 (dx1.nodes.take dx2) [.int .i64 ((dx1.nodes[dx2]'hi1).kind), .int .i64 ((dx1.nodes[dx2]'hi1).a), .int .i64 ((dx1.nodes[dx2]'hi1).b), o2] (dx1.nodes.drop (dx2 + 1))) (fun w7 e6 => ?_)
    replace E := E.ext e6; replace hcu := hcu.ext e6; replace h1 := h1.ext e6; replace h2 := h2.ext e6; replace hw1 := hw1.ext e6; replace hrow1 := hrow1.ext e6
    have z7 := e6.size
    refine ⟨⟨E, (by omega), hcu, h1, h2, hw1, hrow1⟩, ?_⟩
    refine JC_st rfl (fun wX hX => by obtain ⟨E, zX, hcu, h1, h2, hw1, hrow1⟩ := hX; exact R_fieldAddr0 fl26_0 rfl) rfl ?_
    refine JC_st rfl (fun wX hX => by obtain ⟨E, zX, hcu, h1, h2, hw1, hrow1⟩ := hX; exact R_load sc24 rfl (h2.one 0 rfl)) rfl ?_
    refine JC_st rfl (fun wX hX => by obtain ⟨E, zX, hcu, h1, h2, hw1, hrow1⟩ := hX; exact R_move rfl) rfl ?_
    refine JC_st rfl (fun wX hX => by obtain ⟨E, zX, hcu, h1, h2, hw1, hrow1⟩ := hX; exact R_move rfl) rfl ?_
    refine JC_un rfl ?_
    refine J_callR Try.call80 rfl rfl (s_l07Any lo vb bs _ hcu (RdD.modR hbs E (.inl (Nat.le_refl _)))) rfl (fun _ w8 e7 ho3 => ?_)
    obtain ⟨dx4, q8, hcu', ho3⟩ := ho3
    replace hcu := hcu'
    obtain ⟨_, rfl, ho3⟩ := ho3
    have g_ho3 : w.heap.size ≤ w7.heap.size := E.size
    replace E := E.trans e7 (by omega) (by omega); replace h1 := h1.modR e7 (by omega); replace h2 := h2.modR e7 (by omega); replace hw1 := hw1.modR e7 (by omega); replace hrow1 := hrow1.modR e7 (fun b hb => by have := hfl1 b hb; omega)
    have z8 := e7.size
    obtain ⟨o3, rfl, sp3, hw2⟩ := Node.opO ho3
    refine JC_next ⟨E, (by omega), hcu, h1, h2, hw1, hrow1⟩ ?_
    refine JC_st rfl (fun wX hX => by obtain ⟨E, zX, hcu, h1, h2, hw1, hrow1⟩ := hX; exact R_index (i := dx2) sl24 rfl rfl (RowK.same1 hrow1 hl1 hn1) (by first | (simp; done) | (simp; omega))) rfl ?_
    refine JC_end ?_
    refine J_storeEx rfl rfl (RowK.setN (N := w6.heap.size) (lo2 := w1.heap.size) (hi2 := w8.heap.size) (cs' := [.int .i64 dx4.kind, .int .i64 dx4.a, .int .i64 dx4.b, o3]) st37 hrow1 hl1 (Node.mkO dx4 sp3 (Own.widen hw2 (by omega) (by omega))) ⟨(fun _ h => absurd h List.not_mem_nil), (fun _ h => absurd h List.not_mem_nil), (fun _ h => absurd h List.not_mem_nil), (fun b hb => .inr (by have := Own.in2 hw2 b hb; omega)), trivial⟩ (fun b hb => by have := hfl1 b hb; omega) (by omega) (by omega)) (fun w9 m2 hR => ?_)
    obtain ⟨f2, hF1, hin1⟩ := hR
    have kq1 := Mod.kq (l := f1) m2 (RowK.v_mem hrow1)
    have hqb := RowK.blk hrow1
    replace E := E.mod m2 (fun g hg => by have := hqb g hg; omega); replace hcu := hcu.mod m2 (fun g hg => by have := hqb g hg; omega); replace h1 := h1.mod m2 (fun g hg => by have := hqb g hg; omega); replace h2 := Blk.kp h2 (Kq.kp kq1 (sp1.1.1).symm)
    have z9 := m2.size
    clear hqb hrow1
    have nh1 : b1 ∉ f2 := fun hx => (hin1 b1 hx).elim (fun h => by have := hfl1 b1 h; omega) (fun h => by omega)
    replace sp1 := DjL.set (N := w6.heap.size) hin1 0 rfl sp1 ⟨(fun b hb => by have := hfl1 b hb; omega), (fun b hb => by simp at hb; omega), trivial⟩
    replace sp1 : DjL [f2, [b2]] := sp1
    rw [← set_split hi1] at hF1
    clear hfl1
    refine J_done ?_
    refine S_nil (E_inB ?_)
    refine S_seq ?_
    refine S_reg [true, false] rfl rfl ?_
    refine J_st (R_loadS st26 rfl h2.at rfl) rfl ?_
    refine J_storeS' (cs' := [o1, .int .i64 dx1.workers, .int .i64 dx1.cap]) st26 rfl rfl rfl (all_cons (RdD.one (OwF.rd hF1)) (all_cons rfl (all_cons rfl rfl))) h1 (Nat.le_of_ble_eq_true rfl) rfl (fun w10 m3 h1' => ?_)
    replace h1 := h1'
    replace E := E.mod m3 (fun g hg => by cases hg; omega); replace hcu := hcu.mod m3 (fun g hg => by cases hg; omega); replace h2 := h2.mod m3 (fun g hg => by cases hg; omega); replace hF1 := hF1.mod m3 (fun g hg => by cases hg; omega)
    have z10 := m3.size
    refine J_done ?_
    refine S_ret (E_doneC rfl rfl (run_loadVar_st st26 h1.at rfl) E ?_)
    exact ⟨(⟨List.set dx1.nodes dx2 dx4, dx1.workers, dx1.cap⟩ : Graph), (by first | exact ⟨hl9, hns⟩ | exact smG_any q1 | exact smG_take q1 | exact smG_set q1 (by assumption) | exact smG_set1 q1 q3 | exact smG_any (by assumption) | assumption), hcu, ⟨_, rfl, Graph.mkR (⟨List.set dx1.nodes dx2 dx4, dx1.workers, dx1.cap⟩ : Graph) (RdD.widen (OwF.rd hF1) (by have := E.size; omega) (by omega))⟩⟩
  · have hc1n : ¬ dx3 = 0 := by first | (have h := of_decide_eq_false hc1; omega) | (have h := hc1; simp at h; omega)
    refine S_seq ?_
    refine S_reg [true, true] rfl rfl ?_
    refine J_st (R_eql rfl rfl) rfl (J_st (R_assign rfl) rfl (J_done ?_))
    refine S_cond rfl (fun hc2 => ?_) (fun hc2 => ?_)
    · have hc2n : dx3 = 1 := by first | (have h := of_decide_eq_true hc2; omega) | (have h := hc2; simp at h; omega)
      refine S_reg [true, false, false, true, false] rfl rfl ?_
      refine J_st (R_move rfl) rfl ?_
      refine J_buildSlice (vs := [.int .i64 0, .int .i64 4, .int .i64 5, .int .i64 (-1)]) (css := [[.int .i64 0], [.int .i64 4], [.int .i64 5], [.int .i64 (-1)]]) sl30 rfl rfl ⟨⟨rfl, rfl⟩, ⟨rfl, rfl⟩, ⟨rfl, rfl⟩, ⟨rfl, rfl⟩, trivial⟩ rfl rfl (fun b3 w11 e8 s3 h3 => ?_)
      replace h3 : Blk w11 b3 [.int .i64 0, .int .i64 4, .int .i64 5, .int .i64 (-1)] := h3
      have g_b3 : w.heap.size ≤ b3 := by have := E.size; omega
      have y_b3 := h3.lt
      replace E := E.ext e8; replace hcu := hcu.ext e8; replace h1 := h1.ext e8; replace h2 := h2.ext e8; replace hF1 := hF1.ext e8
      have z11 := e8.size
      refine J_callR Try.call54 rfl rfl (s_l01PickInt lo vb bs (.slice (some ⟨b3, 0, none⟩) 4 4) [0, 4, 5, (-1)] _ hcu (RdD.modR hbs E (.inl (Nat.le_refl _))) (fun wX eX => (Blk.rd (α := Int) (xs := [0, 4, 5, (-1)]) (by decide) (Blk.modR h3 eX (by omega)) rfl (by simp [maxLen]))) (by decide)) rfl (fun _ w12 e9 hv => ?_)
      obtain ⟨dx5, q9, hcu', hv⟩ := hv
      replace hcu := hcu'
      subst hv
      replace E := E.trans e9 (by omega) (by omega); replace h1 := h1.modR e9 (by omega); replace h2 := h2.modR e9 (by omega); replace hF1 := hF1.modR e9 (by omega); replace h3 := h3.modR e9 (by omega)
      have z12 := e9.size
      refine J_st (R_fieldAddr0 fl26_1 rfl) rfl ?_
      refine J_store' (cs' := [o1, .int .i64 dx5, .int .i64 dx1.cap]) sc3 rfl rfl rfl h2 (Nat.le_of_ble_eq_true rfl) rfl (fun w13 m4 h2' => ?_)
      replace h2 := h2'
      have kq2 := Mod.kq (l := [b2]) m4 (fun g hg => by cases hg; simp)
      replace E := E.mod m4 (fun g hg => by cases hg; omega); replace hcu := hcu.mod m4 (fun g hg => by cases hg; omega); replace h1 := h1.mod m4 (fun g hg => by cases hg; omega); replace hF1 := OwF.kp hF1 (Kq.kp kq2 sp1.1.1); replace h3 := h3.mod m4 (fun g hg => by cases hg; omega)
      have z13 := m4.size
      refine J_done ?_
      refine S_nil (E_inB ?_)
      refine S_seq ?_
      refine S_reg [true, false] rfl rfl ?_
      refine J_st (R_loadS st26 rfl h2.at rfl) rfl ?_
      refine J_storeS' (cs' := [o1, .int .i64 dx5, .int .i64 dx1.cap]) st26 rfl rfl rfl (all_cons (RdD.one (OwF.rd hF1)) (all_cons rfl (all_cons rfl rfl))) h1 (Nat.le_of_ble_eq_true rfl) rfl (fun w14 m5 h1' => ?_)
      replace h1 := h1'
      replace E := E.mod m5 (fun g hg => by cases hg; omega); replace hcu := hcu.mod m5 (fun g hg => by cases hg; omega); replace h2 := h2.mod m5 (fun g hg => by cases hg; omega); replace hF1 := hF1.mod m5 (fun g hg => by cases hg; omega); replace h3 := h3.mod m5 (fun g hg => by cases hg; omega)
      have z14 := m5.size
      refine J_done ?_
      refine S_ret (E_doneC rfl rfl (run_loadVar_st st26 h1.at rfl) E ?_)
      exact ⟨(⟨dx1.nodes, dx5, dx1.cap⟩ : Graph), (by first | exact ⟨hl9, hns⟩ | exact smG_any q1 | exact smG_take q1 | exact smG_set q1 (by assumption) | exact smG_set1 q1 q3 | exact smG_any (by assumption) | assumption), hcu, ⟨_, rfl, Graph.mkR (⟨dx1.nodes, dx5, dx1.cap⟩ : Graph) (RdD.widen (OwF.rd hF1) (by have := E.size; omega) (by omega))⟩⟩
    · have hc2n : ¬ dx3 = 1 := by first | (have h := of_decide_eq_false hc2; omega) | (have h := hc2; simp at h; omega)
      refine S_seq ?_
      refine S_reg [true, true] rfl rfl ?_
      refine J_st (R_eql rfl rfl) rfl (J_st (R_assign rfl) rfl (J_done ?_))
      refine S_cond rfl (fun hc3 => ?_) (fun hc3 => ?_)
      · have hc3n : dx3 = 2 := by first | (have h := of_decide_eq_true hc3; omega) | (have h := hc3; simp at h; omega)
        refine S_reg [true, false, false, true, false] rfl rfl ?_
        refine J_st (R_move rfl) rfl ?_
        refine J_buildSlice (vs := [.int .i64 0, .int .i64 4, .int .i64 5, .int .i64 (-1)]) (css := [[.int .i64 0], [.int .i64 4], [.int .i64 5], [.int .i64 (-1)]]) sl30 rfl rfl ⟨⟨rfl, rfl⟩, ⟨rfl, rfl⟩, ⟨rfl, rfl⟩, ⟨rfl, rfl⟩, trivial⟩ rfl rfl (fun b4 w15 e10 s4 h4 => ?_)
        replace h4 : Blk w15 b4 [.int .i64 0, .int .i64 4, .int .i64 5, .int .i64 (-1)] := h4
        have g_b4 : w.heap.size ≤ b4 := by have := E.size; omega
        have y_b4 := h4.lt
        replace E := E.ext e10; replace hcu := hcu.ext e10; replace h1 := h1.ext e10; replace h2 := h2.ext e10; replace hF1 := hF1.ext e10
        have z15 := e10.size
        refine J_callR Try.call54 rfl rfl (s_l01PickInt lo vb bs (.slice (some ⟨b4, 0, none⟩) 4 4) [0, 4, 5, (-1)] _ hcu (RdD.modR hbs E (.inl (Nat.le_refl _))) (fun wX eX => (Blk.rd (α := Int) (xs := [0, 4, 5, (-1)]) (by decide) (Blk.modR h4 eX (by omega)) rfl (by simp [maxLen]))) (by decide)) rfl (fun _ w16 e11 hv => ?_)
        obtain ⟨dx6, q10, hcu', hv⟩ := hv
        replace hcu := hcu'
        subst hv
        replace E := E.trans e11 (by omega) (by omega); replace h1 := h1.modR e11 (by omega); replace h2 := h2.modR e11 (by omega); replace hF1 := hF1.modR e11 (by omega); replace h4 := h4.modR e11 (by omega)
        have z16 := e11.size
        refine J_st (R_fieldAddr0 fl26_2 rfl) rfl ?_
        refine J_store' (cs' := [o1, .int .i64 dx1.workers, .int .i64 dx6]) sc3 rfl rfl rfl h2 (Nat.le_of_ble_eq_true rfl) rfl (fun w17 m6 h2' => ?_)
        replace h2 := h2'
        have kq3 := Mod.kq (l := [b2]) m6 (fun g hg => by cases hg; simp)
        replace E := E.mod m6 (fun g hg => by cases hg; omega); replace hcu := hcu.mod m6 (fun g hg => by cases hg; omega); replace h1 := h1.mod m6 (fun g hg => by cases hg; omega); replace hF1 := OwF.kp hF1 (Kq.kp kq3 sp1.1.1); replace h4 := h4.mod m6 (fun g hg => by cases hg; omega)
        have z17 := m6.size
        refine J_done ?_
        refine S_nil (E_inB ?_)
        refine S_seq ?_
        refine S_reg [true, false] rfl rfl ?_
        refine J_st (R_loadS st26 rfl h2.at rfl) rfl ?_
        refine J_storeS' (cs' := [o1, .int .i64 dx1.workers, .int .i64 dx6]) st26 rfl rfl rfl (all_cons (RdD.one (OwF.rd hF1)) (all_cons rfl (all_cons rfl rfl))) h1 (Nat.le_of_ble_eq_true rfl) rfl (fun w18 m7 h1' => ?_)
        replace h1 := h1'
        replace E := E.mod m7 (fun g hg => by cases hg; omega); replace hcu := hcu.mod m7 (fun g hg => by cases hg; omega); replace h2 := h2.mod m7 (fun g hg => by cases hg; omega); replace hF1 := hF1.mod m7 (fun g hg => by cases hg; omega); replace h4 := h4.mod m7 (fun g hg => by cases hg; omega)
        have z18 := m7.size
        refine J_done ?_
        refine S_ret (E_doneC rfl rfl (run_loadVar_st st26 h1.at rfl) E ?_)
        exact ⟨(⟨dx1.nodes, dx1.workers, dx6⟩ : Graph), (by first | exact ⟨hl9, hns⟩ | exact smG_any q1 | exact smG_take q1 | exact smG_set q1 (by assumption) | exact smG_set1 q1 q3 | exact smG_any (by assumption) | assumption), hcu, ⟨_, rfl, Graph.mkR (⟨dx1.nodes, dx1.workers, dx6⟩ : Graph) (RdD.widen (OwF.rd hF1) (by have := E.size; omega) (by omega))⟩⟩
      · have hc3n : ¬ dx3 = 2 := by first | (have h := of_decide_eq_false hc3; omega) | (have h := hc3; simp at h; omega)
        refine S_seq ?_
        refine S_reg [true, true] rfl rfl ?_
        refine J_st (R_eql rfl rfl) rfl (J_st (R_assign rfl) rfl (J_done ?_))
        refine S_cond rfl (fun hc4 => ?_) (fun hc4 => ?_)
        · have hc4n : dx3 = 3 := by first | (have h := of_decide_eq_true hc4; omega) | (have h := hc4; simp at h; omega)
          have hi2 : dx2 < dx1.nodes.length := (by first | assumption | omega | (simp only [List.length_set]; first | assumption | omega) | (simp only [List.getElem_set_self, List.length_set]; first | assumption | omega) | (simp only [setW, setLk, List.length_set]; first | assumption | omega) | (simp; done))
          have hK2 : OwK w6 f1 w6 w1.heap.size w2.heap.size o1 (dx1.nodes.take dx2 ++ dx1.nodes[dx2] :: dx1.nodes.drop (dx2 + 1)) := ⟨by rw [← self_split hi2]; exact hF1, Kq.refl _ _⟩
          have hfl2 := OwF.in2 hF1
          obtain ⟨_, ho4, hrow2⟩ := OwK.focus hK2
          obtain ⟨o4, rfl, sp4, hw3⟩ := Node.opO ho4
          clear hK2 hF1
          have hl2 : (dx1.nodes.take dx2).length = dx2 := by first | (simp; done) | (simp; omega)
          have hn2 : dx2 + 1 + (dx1.nodes.drop (dx2 + 1)).length = dx1.nodes.length := by first | (simp; done) | (simp; omega)
          replace hrow2 : RowR f1 w6 w1.heap.size w2.heap.size o1 (dx1.nodes.take dx2) [.int .i64 ((dx1.nodes[dx2]'hi2).kind), .int .i64 ((dx1.nodes[dx2]'hi2).a), .int .i64 ((dx1.nodes[dx2]'hi2).b), o4] (dx1.nodes.drop (dx2 + 1)) := hrow2
          refine S_regW mixed [(0, true), (1, true), (2, true), (3, true), (4, true), (5, true), (6, true), (7, true), (8, true), (9, true), (10, false), (11, true), (12, false), (13, false), (14, true), (15, true)] [(16, false)] (by decide +kernel) rfl rfl (fun w' => ModR w w' lo (lo + 1) ∧ w6.heap.size ≤ w'.heap.size ∧ CurO w' lo vb bs ∧ Blk w' b1 [.slice none 0 0, .int .i64 0, .int .i64 0] ∧ Blk w' b2 [o1, .int .i64 dx1.workers, .int .i64 dx1.cap] ∧ RowR f1 w' w1.heap.size w2.heap.size o1 (dx1.nodes.take dx2) [.int .i64 ((dx1.nodes[dx2]'hi2).kind), .int .i64 ((dx1.nodes[dx2]'hi2).a), .int .i64 ((dx1.nodes[dx2]'hi2).b), o4] (dx1.nodes.drop (dx2 + 1))) (fun w19 e12 => ?_)
          replace E := E.ext e12; replace hcu := hcu.ext e12; replace h1 := h1.ext e12; replace h2 := h2.ext e12; replace hw3 := hw3.ext e12; replace hrow2 := hrow2.ext e12
          have z19 := e12.size
          refine ⟨⟨E, (by omega), hcu, h1, h2, hrow2⟩, ?_⟩
          refine JC_st rfl (fun wX hX => by obtain ⟨E, zX, hcu, h1, h2, hrow2⟩ := hX; exact R_fieldAddr0 fl26_0 rfl) rfl ?_
          refine JC_st rfl (fun wX hX => by obtain ⟨E, zX, hcu, h1, h2, hrow2⟩ := hX; exact R_load sc24 rfl (h2.one 0 rfl)) rfl ?_
          refine JC_st rfl (fun wX hX => by obtain ⟨E, zX, hcu, h1, h2, hrow2⟩ := hX; exact R_move rfl) rfl ?_
          refine JC_st rfl (fun wX hX => by obtain ⟨E, zX, hcu, h1, h2, hrow2⟩ := hX; exact R_fieldAddr0 fl26_0 rfl) rfl ?_
          refine JC_st rfl (fun wX hX => by obtain ⟨E, zX, hcu, h1, h2, hrow2⟩ := hX; exact R_load sc24 rfl (h2.one 0 rfl)) rfl ?_
          refine JC_st rfl (fun wX hX => by obtain ⟨E, zX, hcu, h1, h2, hrow2⟩ := hX; exact R_move rfl) rfl ?_
          refine JC_st rfl (fun wX hX => by obtain ⟨E, zX, hcu, h1, h2, hrow2⟩ := hX; exact R_index (i := dx2) sl24 rfl rfl (RowK.same1 hrow2 hl2 hn2) (by first | (simp; done) | (simp; omega))) rfl ?_
          refine JC_st rfl (fun wX hX => by obtain ⟨E, zX, hcu, h1, h2, hrow2⟩ := hX; exact R_fieldAddr fl37_3 rfl) rfl ?_
          refine JC_st rfl (fun wX hX => by obtain ⟨E, zX, hcu, h1, h2, hrow2⟩ := hX; exact R_load sc30 rfl ((RowK.at hrow2 hl2).one 3 rfl)) rfl ?_
          refine JC_st rfl (fun wX hX => by obtain ⟨E, zX, hcu, h1, h2, hrow2⟩ := hX; exact R_move rfl) rfl ?_
          refine JC_un rfl ?_
          refine J_callR Try.call53 rfl rfl (s_l01Below lo vb bs 9 _ hcu (RdD.modR hbs E (.inl (Nat.le_refl _)))) rfl (fun _ w20 e13 hv => ?_)
          obtain ⟨dx7, q11, q12, hcu', hv⟩ := hv
          replace hcu := hcu'
          subst hv
          replace E := E.trans e13 (by omega) (by omega); replace h1 := h1.modR e13 (by omega); replace h2 := h2.modR e13 (by omega); replace hw3 := hw3.modR e13 (by omega); replace hrow2 := hrow2.modR e13 (fun b hb => by have := hfl2 b hb; omega)
          have z20 := e13.size
          refine JC_next ⟨E, (by omega), hcu, h1, h2, hrow2⟩ ?_
          refine JC_st rfl (fun wX hX => by obtain ⟨E, zX, hcu, h1, h2, hrow2⟩ := hX; exact R_sub rfl rfl rfl) rfl ?_
          refine JC_un rfl ?_
          refine J_buildSlice (vs := [.int .i64 (IntKind.i64.wrap (((dx7 : Nat) : Int) - 1))]) (css := [[.int .i64 (IntKind.i64.wrap (((dx7 : Nat) : Int) - 1))]]) sl30 rfl rfl ⟨⟨rfl, rfl⟩, trivial⟩ rfl rfl (fun b5 w21 e14 s5 h5 => ?_)
          replace h5 : Blk w21 b5 [.int .i64 (IntKind.i64.wrap (((dx7 : Nat) : Int) - 1))] := h5
          have g_b5 : w.heap.size ≤ b5 := by have := E.size; omega
          have y_b5 := h5.lt
          replace E := E.ext e14; replace hcu := hcu.ext e14; replace h1 := h1.ext e14; replace h2 := h2.ext e14; replace hw3 := hw3.ext e14; replace hrow2 := hrow2.ext e14
          have z21 := e14.size
          refine JC_next ⟨E, (by omega), hcu, h1, h2, hrow2⟩ ?_
          refine JC_un rfl ?_
          refine J_appendB sl30 rfl rfl hw3 (Src.ofBlk h5 rfl) rfl (by have hlt : dx2 < dx1.nodes.length := (by omega); have := q3 _ (List.getElem_mem hlt); simp only [sum_flat, List.length_cons, List.length_nil]; simp only [Enc.sz]; omega) (by decide) (by omega) (by omega) rfl rfl (fun v1 w22 m8 ho5 hb1 => ?_)
          have hn3 : ∀ g, Value.ownBlock v1 = some g → g < w2.heap.size ∨ w21.heap.size ≤ g := fun g hg => (hb1 g hg).elim (fun h => .inl (by have := Own.blk hw3 g h; omega)) (fun h => .inr h)
          have sq1 := sp4
          replace sp4 := SepL.set hb1 0 rfl sp4 ⟨(Own.lt hw3), trivial⟩
          replace sp4 : SepL [v1] := sp4
          have kq4 := Mod.kq (l := f1) m8 (RowK.fpr_mem hrow2 (by simp))
          replace E := E.mod m8 (fun g hg => by have := Own.blk hw3 g hg; omega); replace hcu := hcu.mod m8 (fun g hg => by have := Own.blk hw3 g hg; omega); replace h1 := h1.mod m8 (fun g hg => by have := Own.blk hw3 g hg; omega); replace h2 := Blk.kp h2 (Kq.kp kq4 (sp1.1.1).symm); replace hrow2 := RowR.modS hrow2 m8 (by simp)
          have z22 := m8.size
          replace ho5 : Own w22 w1.heap.size w22.heap.size 1 v1 (List.flatMap (Enc.enc (α := Int)) (((dx1.nodes[dx2]'hi2).outs) ++ [IntKind.i64.wrap (((dx7 : Nat) : Int) - 1)])) := by rw [List.flatMap_append]; exact ho5
          refine JC_next ⟨E, (by omega), hcu, h1, h2, hrow2⟩ ?_
          refine JC_st rfl (fun wX hX => by obtain ⟨E, zX, hcu, h1, h2, hrow2⟩ := hX; exact R_index (i := dx2) sl24 rfl rfl (RowK.same1 hrow2 hl2 hn2) (by first | (simp; done) | (simp; omega))) rfl ?_
          refine JC_st rfl (fun wX hX => by obtain ⟨E, zX, hcu, h1, h2, hrow2⟩ := hX; exact R_fieldAddr fl37_3 rfl) rfl ?_
          refine JC_end ?_
          refine J_storeEx rfl rfl (RowK.setFN (N := w6.heap.size) (lo2 := w1.heap.size) (hi2 := w22.heap.size) (cs' := [.int .i64 ((dx1.nodes[dx2]'hi2).kind), .int .i64 ((dx1.nodes[dx2]'hi2).a), .int .i64 ((dx1.nodes[dx2]'hi2).b), v1]) (k := 3) sc30 hrow2 hl2 (by decide) ho5.one rfl (Node.mkO (⟨(dx1.nodes[dx2]'hi2).kind, (dx1.nodes[dx2]'hi2).a, (dx1.nodes[dx2]'hi2).b, ((dx1.nodes[dx2]'hi2).outs) ++ [IntKind.i64.wrap (((dx7 : Nat) : Int) - 1)]⟩ : Node) sp4 (Own.widen ho5 (by omega) (by omega))) ⟨(fun _ h => absurd h List.not_mem_nil), (fun _ h => absurd h List.not_mem_nil), (fun _ h => absurd h List.not_mem_nil), (fun b hb => (hb1 b (mem_blks.1 hb)).elim (fun h => .inl (fpr_mem (by simp) b (mem_blks.2 h))) (fun h => .inr (by omega))), trivial⟩ (fun b hb => by have := hfl2 b hb; omega) (by omega) (by omega)) (fun w23 m9 hR => ?_)
          obtain ⟨f3, hF1, hin2⟩ := hR
          have kq5 := Mod.kq (l := f1) m9 (RowK.v_mem hrow2)
          have hqb := RowK.blk hrow2
          replace E := E.mod m9 (fun g hg => by have := hqb g hg; omega); replace hcu := hcu.mod m9 (fun g hg => by have := hqb g hg; omega); replace h1 := h1.mod m9 (fun g hg => by have := hqb g hg; omega); replace h2 := Blk.kp h2 (Kq.kp kq5 (sp1.1.1).symm)
          have z23 := m9.size
          clear hqb hrow2
          have nh2 : b1 ∉ f3 := fun hx => (hin2 b1 hx).elim (fun h => by have := hfl2 b1 h; omega) (fun h => by omega)
          replace sp1 := DjL.set (N := w6.heap.size) hin2 0 rfl sp1 ⟨(fun b hb => by have := hfl2 b hb; omega), (fun b hb => by simp at hb; omega), trivial⟩
          replace sp1 : DjL [f3, [b2]] := sp1
          rw [← set_split hi2] at hF1
          clear hfl2
          refine J_done ?_
          refine S_nil (E_inB ?_)
          refine S_seq ?_
          refine S_reg [true, false] rfl rfl ?_
          refine J_st (R_loadS st26 rfl h2.at rfl) rfl ?_
          refine J_storeS' (cs' := [o1, .int .i64 dx1.workers, .int .i64 dx1.cap]) st26 rfl rfl rfl (all_cons (RdD.one (OwF.rd hF1)) (all_cons rfl (all_cons rfl rfl))) h1 (Nat.le_of_ble_eq_true rfl) rfl (fun w24 m10 h1' => ?_)
          replace h1 := h1'
          replace E := E.mod m10 (fun g hg => by cases hg; omega); replace hcu := hcu.mod m10 (fun g hg => by cases hg; omega); replace h2 := h2.mod m10 (fun g hg => by cases hg; omega); replace hF1 := hF1.mod m10 (fun g hg => by cases hg; omega)
          have z24 := m10.size
          refine J_done ?_
          refine S_ret (E_doneC rfl rfl (run_loadVar_st st26 h1.at rfl) E ?_)
          exact ⟨(⟨List.set dx1.nodes dx2 (⟨(dx1.nodes[dx2]'hi2).kind, (dx1.nodes[dx2]'hi2).a, (dx1.nodes[dx2]'hi2).b, ((dx1.nodes[dx2]'hi2).outs) ++ [IntKind.i64.wrap (((dx7 : Nat) : Int) - 1)]⟩ : Node), dx1.workers, dx1.cap⟩ : Graph), (by first | exact ⟨hl9, hns⟩ | exact smG_any q1 | exact smG_take q1 | exact smG_set q1 (by assumption) | exact smG_set1 q1 q3 | exact smG_any (by assumption) | assumption), hcu, ⟨_, rfl, Graph.mkR (⟨List.set dx1.nodes dx2 (⟨(dx1.nodes[dx2]'hi2).kind, (dx1.nodes[dx2]'hi2).a, (dx1.nodes[dx2]'hi2).b, ((dx1.nodes[dx2]'hi2).outs) ++ [IntKind.i64.wrap (((dx7 : Nat) : Int) - 1)]⟩ : Node), dx1.workers, dx1.cap⟩ : Graph) (RdD.widen (OwF.rd hF1) (by have := E.size; omega) (by omega))⟩⟩
        · have hc4n : ¬ dx3 = 3 := by first | (have h := of_decide_eq_false hc4; omega) | (have h := hc4; simp at h; omega)
          refine S_seq ?_
          refine S_reg [true, true] rfl rfl ?_
          refine J_st (R_eql rfl rfl) rfl (J_st (R_assign rfl) rfl (J_done ?_))
          refine S_cond rfl (fun hc5 => ?_) (fun hc5 => ?_)
          · have hc5n : dx3 = 4 := by first | (have h := of_decide_eq_true hc5; omega) | (have h := hc5; simp at h; omega)
            refine S_block ?_
            refine S_loop (fun (xq : Value × List Node × List Nat) => let ⟨vN, ns, fN⟩ := xq; [(0, .pointer (some ⟨lo, 0, none⟩)), (2, .pointer (some ⟨b1, 0, none⟩)), (3, .pointer (some ⟨b2, 0, none⟩)), (8, .pointer (some ⟨b2, 0, none⟩))]) (fun (xq : Value × List Node × List Nat) w' => let ⟨vN, ns, fN⟩ := xq; ModR w w' lo (lo + 1) ∧ w6.heap.size ≤ w'.heap.size ∧ CurO w' lo vb bs ∧ Blk w' b1 [.slice none 0 0, .int .i64 0, .int .i64 0] ∧ ns.length ≤ 9 ∧ (∀ y ∈ ns, y.outs.length ≤ 3) ∧ OwF w' w1.heap.size w'.heap.size vN ns fN ∧ DjL [fN, [b2]] ∧ Blk w' b2 [vN, .int .i64 dx1.workers, .int .i64 dx1.cap]) (fun (xq : Value × List Node × List Nat) => let ⟨vN, ns, fN⟩ := xq; 9 - ns.length) (o1, dx1.nodes, f1) ⟨rfl, rfl, rfl, rfl, trivial⟩ ⟨E, Nat.le_refl _, hcu, h1, (by have := q1.1; omega), q1.2, OwF.widen hF1 (by omega) (by omega), sp1, h2⟩ ?_
            clear E hcu h1 h2 hF1
            rintro ⟨vN, ns, fN⟩ w25 ⟨E, z25, hcu, h1, hl9, hns, oN, gN, h2⟩
            refine S_sub [(0, .pointer (some ⟨lo, 0, none⟩)), (2, .pointer (some ⟨b1, 0, none⟩)), (3, .pointer (some ⟨b2, 0, none⟩)), (8, .pointer (some ⟨b2, 0, none⟩))] ⟨rfl, rfl, rfl, rfl, trivial⟩ ?_
            refine S_seq ?_
            refine S_seq ?_
            refine S_regW mixed [(0, true), (1, true), (2, true), (3, true), (4, false), (5, true), (6, true)] [] (by decide +kernel) rfl rfl (fun w' => ModR w w' lo (lo + 1) ∧ w25.heap.size ≤ w'.heap.size ∧ CurO w' lo vb bs ∧ Blk w' b1 [.slice none 0 0, .int .i64 0, .int .i64 0] ∧ OwF w' w1.heap.size w25.heap.size vN ns fN ∧ Blk w' b2 [vN, .int .i64 dx1.workers, .int .i64 dx1.cap]) (fun w26 e15 => ?_)
            replace E := E.ext e15; replace hcu := hcu.ext e15; replace h1 := h1.ext e15; replace oN := oN.ext e15; replace h2 := h2.ext e15
            have z26 := e15.size
            refine ⟨⟨E, (by omega), hcu, h1, oN, h2⟩, ?_⟩
            refine JC_st rfl (fun wX hX => by obtain ⟨E, zX, hcu, h1, oN, h2⟩ := hX; exact R_fieldAddr0 fl26_0 rfl) rfl ?_
            refine JC_st rfl (fun wX hX => by obtain ⟨E, zX, hcu, h1, oN, h2⟩ := hX; exact R_load sc24 rfl (h2.one 0 rfl)) rfl ?_
            refine JC_st rfl (fun wX hX => by obtain ⟨E, zX, hcu, h1, oN, h2⟩ := hX; exact R_len Try.underlying24 rfl (OwF.rd oN).len) rfl ?_
            refine JC_st rfl (fun wX hX => by obtain ⟨E, zX, hcu, h1, oN, h2⟩ := hX; exact R_move rfl) rfl ?_
            refine JC_un rfl ?_
            refine J_callR Try.call53 rfl rfl (s_l01Below lo vb bs 2 _ hcu (RdD.modR hbs E (.inl (Nat.le_refl _)))) rfl (fun _ w27 e16 hv => ?_)
            obtain ⟨dx8, q13, q14, hcu', hv⟩ := hv
            replace hcu := hcu'
            subst hv
            replace E := E.trans e16 (by omega) (by omega); replace h1 := h1.modR e16 (by omega); replace oN := oN.modR e16 (by omega); replace h2 := h2.modR e16 (by omega)
            have z27 := e16.size
            refine JC_next ⟨E, (by omega), hcu, h1, oN, h2⟩ ?_
            refine JC_st rfl (fun wX hX => by obtain ⟨E, zX, hcu, h1, oN, h2⟩ := hX; exact R_add rfl rfl rfl) rfl ?_
            refine JC_st rfl (fun wX hX => by obtain ⟨E, zX, hcu, h1, oN, h2⟩ := hX; exact R_lss rfl rfl) rfl ?_
            refine JC_end ?_
            refine J_done ?_
            refine S_cond rfl (fun hc6 => ?_) (fun hc6 => ?_)
            · have hl8 : ns.length < 9 := by have h := of_decide_eq_true hc6; rw [wrap_in (by omega) (by omega)] at h; omega
              refine S_skip ?_
              refine S_block ?_
              refine S_reg [true, true, true, false, false, true, false] rfl rfl ?_
              refine J_st (R_fieldAddr0 fl26_0 rfl) rfl (J_st (R_load sc24 rfl (h2.one 0 rfl)) rfl ?_)
              have hbl1 : ∀ w, (Instr.build 37 ([(0, .int .i64 8)]).toArray).run Try.prog w = .ok (.agg [.int .i64 8, .int .i64 0, .int .i64 0, .slice none 0 0].toArray) w := by clear E; intro w; kernel_rfl
              refine J_st (R_buildC [.int .i64 8, .int .i64 0, .int .i64 0, .slice none 0 0] rfl hbl1) rfl ?_
              refine J_buildSlice (vs := [.agg [.int .i64 8, .int .i64 0, .int .i64 0, .slice none 0 0].toArray]) (css := [[.int .i64 8, .int .i64 0, .int .i64 0, .slice none 0 0]]) sl24 rfl rfl ⟨⟨rfl, rfl⟩, trivial⟩ rfl rfl (fun b6 w28 e17 s6 h6 => ?_)
              replace h6 : Blk w28 b6 [.int .i64 8, .int .i64 0, .int .i64 0, .slice none 0 0] := h6
              have g_b6 : w.heap.size ≤ b6 := by have := E.size; omega
              have y_b6 := h6.lt
              replace E := E.ext e17; replace hcu := hcu.ext e17; replace h1 := h1.ext e17; replace oN := oN.ext e17; replace h2 := h2.ext e17
              have z28 := e17.size
              have hy1 : Own1.O (α := Node) w28 w28.heap.size w28.heap.size [.int .i64 8, .int .i64 0, .int .i64 0, .slice none 0 0] (⟨8, 0, 0, []⟩ : Node) := Node.mkO (⟨8, 0, 0, []⟩ : Node) ⟨trivial, trivial⟩ (Own.nil _ _ _ _)
              refine J_appendF (lo := w1.heap.size) (hi := w25.heap.size) (lo2 := w28.heap.size) (hi2 := w28.heap.size) sl24 rfl rfl oN (Src.ofBlk h6 rfl) hy1 (fun b hb hc => by have := OwF.in2 oN b hb; have := Own1.inn hy1 b hc; omega) (by simp only [List.length_append, List.length_cons, List.length_nil, List.length_set, show Dat.sz Node = 4 from rfl]; omega) (by decide) (by omega) (by omega) (by omega) (by omega) (by omega) rfl rfl (fun v2 w29 f4 m11 ho6 hin3 => ?_)
              have hqb := OwS.inn (OwF.ows oN)
              have kq6 := Mod.kq (l := fN) m11 (OwF.v_mem oN)
              replace E := E.mod m11 (fun g hg => by have := hqb g hg; omega); replace hcu := hcu.mod m11 (fun g hg => by have := hqb g hg; omega); replace h1 := h1.mod m11 (fun g hg => by have := hqb g hg; omega); replace h2 := Blk.kp h2 (Kq.kp kq6 (gN.1.1).symm)
              have z29 := m11.size
              replace gN := DjL.set (N := w28.heap.size) hin3 0 rfl gN ⟨(fun b hb => by have := OwF.in2 oN b hb; omega), (fun b hb => by simp at hb; omega), trivial⟩
              replace gN : DjL [f4, [b2]] := gN
              clear hqb hy1 kq6 oN
              refine J_st (R_fieldAddr0 fl26_0 rfl) rfl ?_
              refine J_store' (cs' := [v2, .int .i64 dx1.workers, .int .i64 dx1.cap]) sc24 rfl rfl (RdD.one (OwF.rd ho6)) h2 (Nat.le_of_ble_eq_true rfl) rfl (fun w30 m12 h2' => ?_)
              replace h2 := h2'
              have kq7 := Mod.kq (l := [b2]) m12 (fun g hg => by cases hg; simp)
              replace E := E.mod m12 (fun g hg => by cases hg; omega); replace hcu := hcu.mod m12 (fun g hg => by cases hg; omega); replace h1 := h1.mod m12 (fun g hg => by cases hg; omega); replace ho6 := OwF.kp ho6 (Kq.kp kq7 gN.1.1)
              have z30 := m12.size
              refine J_done ?_
              refine S_nil (E_inB ?_)
              refine S_nil (E_again (v2, ns ++ [(⟨8, 0, 0, []⟩ : Node)], f4) (by simp; omega) ⟨rfl, rfl, rfl, rfl, trivial⟩ ⟨E, (by omega), hcu, h1, (by simp; omega), (fun y hy => (List.mem_append.1 hy).elim (hns y) (fun h => by simp at h; subst h; simp)), OwF.widen ho6 (by omega) (by omega), gN, h2⟩)
            · refine S_exit (E_lp_exit (E_inB_exit ?_))
              refine S_nil (E_inB ?_)
              refine S_seq ?_
              refine S_reg [true, false] rfl rfl ?_
              refine J_st (R_loadS st26 rfl h2.at rfl) rfl ?_
              refine J_storeS' (cs' := [vN, .int .i64 dx1.workers, .int .i64 dx1.cap]) st26 rfl rfl rfl (all_cons (RdD.one (OwF.rd oN)) (all_cons rfl (all_cons rfl rfl))) h1 (Nat.le_of_ble_eq_true rfl) rfl (fun w31 m13 h1' => ?_)
              replace h1 := h1'
              replace E := E.mod m13 (fun g hg => by cases hg; omega); replace hcu := hcu.mod m13 (fun g hg => by cases hg; omega); replace oN := oN.mod m13 (fun g hg => by cases hg; omega); replace h2 := h2.mod m13 (fun g hg => by cases hg; omega)
              have z31 := m13.size
              refine J_done ?_
              refine S_ret (E_doneC rfl rfl (run_loadVar_st st26 h1.at rfl) E ?_)
              exact ⟨(⟨ns, dx1.workers, dx1.cap⟩ : Graph), (by first | exact ⟨hl9, hns⟩ | exact smG_any q1 | exact smG_take q1 | exact smG_set q1 (by assumption) | exact smG_set1 q1 q3 | exact smG_any (by assumption) | assumption), hcu, ⟨_, rfl, Graph.mkR (⟨ns, dx1.workers, dx1.cap⟩ : Graph) (RdD.widen (OwF.rd oN) (by have := E.size; omega) (by omega))⟩⟩
          · have hc5n : ¬ dx3 = 4 := by first | (have h := of_decide_eq_false hc5; omega) | (have h := hc5; simp at h; omega)
            refine S_seq ?_
            refine S_reg [true, true] rfl rfl ?_
            refine J_st (R_eql rfl rfl) rfl (J_st (R_assign rfl) rfl (J_done ?_))
            refine S_cond rfl (fun hc7 => ?_) (fun hc7 => ?_)
            · have hc7n : dx3 = 5 := by first | (have h := of_decide_eq_true hc7; omega) | (have h := hc7; simp at h; omega)
              refine S_reg [true, true, true, true, true, false] rfl rfl ?_
              refine J_st (R_fieldAddr0 fl26_0 rfl) rfl (J_st (R_load sc24 rfl (h2.one 0 rfl)) rfl (J_st (R_move rfl) rfl ?_))
              have hk1 : dx2 ≤ dx1.nodes.length := by first | assumption | omega
              have hs1 : RdD (α := Node) w6 w1.heap.size w2.heap.size (slTo o1 dx2) (List.take dx2 dx1.nodes) := RdB.slTo (OwF.rd hF1) hk1
              refine J_st (R_sliceTo sl24 rfl rfl (RdL.room (OwF.rd hF1).1) hk1) rfl (J_st (R_fieldAddr0 fl26_0 rfl) rfl ?_)
              refine J_store' (cs' := [slTo o1 dx2, .int .i64 dx1.workers, .int .i64 dx1.cap]) sc24 rfl rfl (RdD.one hs1) h2 (Nat.le_of_ble_eq_true rfl) rfl (fun w32 m14 h2' => ?_)
              replace h2 := h2'
              have kq8 := Mod.kq (l := [b2]) m14 (fun g hg => by cases hg; simp)
              replace E := E.mod m14 (fun g hg => by cases hg; omega); replace hcu := hcu.mod m14 (fun g hg => by cases hg; omega); replace h1 := h1.mod m14 (fun g hg => by cases hg; omega); replace hF1 := OwF.kp hF1 (Kq.kp kq8 sp1.1.1); replace hs1 := hs1.mod m14 (fun g hg => by cases hg; omega)
              have z32 := m14.size
              refine J_done ?_
              refine S_nil (E_inB ?_)
              refine S_seq ?_
              refine S_reg [true, false] rfl rfl ?_
              refine J_st (R_loadS st26 rfl h2.at rfl) rfl ?_
              refine J_storeS' (cs' := [slTo o1 dx2, .int .i64 dx1.workers, .int .i64 dx1.cap]) st26 rfl rfl rfl (all_cons (RdD.one hs1) (all_cons rfl (all_cons rfl rfl))) h1 (Nat.le_of_ble_eq_true rfl) rfl (fun w33 m15 h1' => ?_)
              replace h1 := h1'
              replace E := E.mod m15 (fun g hg => by cases hg; omega); replace hcu := hcu.mod m15 (fun g hg => by cases hg; omega); replace h2 := h2.mod m15 (fun g hg => by cases hg; omega); replace hF1 := hF1.mod m15 (fun g hg => by cases hg; omega); replace hs1 := hs1.mod m15 (fun g hg => by cases hg; omega)
              have z33 := m15.size
              refine J_done ?_
              refine S_ret (E_doneC rfl rfl (run_loadVar_st st26 h1.at rfl) E ?_)
              exact ⟨(⟨List.take dx2 dx1.nodes, dx1.workers, dx1.cap⟩ : Graph), (by first | exact ⟨hl9, hns⟩ | exact smG_any q1 | exact smG_take q1 | exact smG_set q1 (by assumption) | exact smG_set1 q1 q3 | exact smG_any (by assumption) | assumption), hcu, ⟨_, rfl, Graph.mkR (⟨List.take dx2 dx1.nodes, dx1.workers, dx1.cap⟩ : Graph) (RdD.widen hs1 (by have := E.size; omega) (by omega))⟩⟩
            · have hc7n : ¬ dx3 = 5 := by first | (have h := of_decide_eq_false hc7; omega) | (have h := hc7; simp at h; omega)
              refine S_skip ?_
              refine S_nil (E_inB ?_)
              refine S_seq ?_
              refine S_reg [true, false] rfl rfl ?_
              refine J_st (R_loadS st26 rfl h2.at rfl) rfl ?_
              refine J_storeS' (cs' := [o1, .int .i64 dx1.workers, .int .i64 dx1.cap]) st26 rfl rfl rfl (all_cons (RdD.one (OwF.rd hF1)) (all_cons rfl (all_cons rfl rfl))) h1 (Nat.le_of_ble_eq_true rfl) rfl (fun w34 m16 h1' => ?_)
              replace h1 := h1'
              replace E := E.mod m16 (fun g hg => by cases hg; omega); replace hcu := hcu.mod m16 (fun g hg => by cases hg; omega); replace h2 := h2.mod m16 (fun g hg => by cases hg; omega); replace hF1 := hF1.mod m16 (fun g hg => by cases hg; omega)
              have z34 := m16.size
              refine J_done ?_
              refine S_ret (E_doneC rfl rfl (run_loadVar_st st26 h1.at rfl) E ?_)
              exact ⟨dx1, (by first | exact ⟨hl9, hns⟩ | exact smG_any q1 | exact smG_take q1 | exact smG_set q1 (by assumption) | exact smG_set1 q1 q3 | exact smG_any (by assumption) | assumption), hcu, ⟨_, rfl, Graph.mkR dx1 (RdD.widen (OwF.rd hF1) (by have := E.size; omega) (by omega))⟩⟩

set_option maxRecDepth 20000 in
theorem s_DrawGraphOk (vcode : Value) (code : List Byt) (w : World) (hcode : RdS w vcode code) : Ct Try.prog 7 [vcode] w (fun v w' => ∃ (dr0 : Graph), smG dr0 ∧ ∃ cs, v = .agg cs.toArray ∧ Dat.R w' w.heap.size w'.heap.size cs dr0) := by
  refine ct_of Try.func7 rfl Try.ntmps7 rfl ?_
  refine S_sub [(0, vcode)] ⟨rfl, trivial⟩ ?_
  have E : Ext w w := Ext.refl w
  refine S_seq ?_
  refine S_reg [false] rfl rfl ?_
  refine J_alloc st26 rfl (fun b1 w1 e1 s1 h1 => ?_)
  have g_b1 : w.heap.size ≤ b1 := by have := E.size; omega
  have y_b1 := h1.lt
  replace E := E.trans e1
  have z1 := e1.size
  refine J_done ?_
  refine S_seq ?_
  refine S_reg [true, false, false, false] rfl rfl ?_
  refine J_st (R_move rfl) rfl ?_
  refine J_call Try.call48 rfl (s_l01New vcode code _ (hcode.ext E)) rfl (fun _ w2 e2 hcu1 => ?_)
  obtain ⟨bc1, rfl, ybc1, hcu1⟩ := hcu1
  have g_bc1 : w.heap.size ≤ bc1 := Nat.le_trans E.size ybc1
  have y_bc1 := CurO.lt hcu1
  replace E := E.trans e2; replace h1 := h1.ext e2
  have z2 := e2.size
  refine J_callR Try.call47 rfl rfl (s_l08Any bc1 vcode code _ hcu1 (RdD.widen (RdD.ext (RdS.rdD hcode) E) (Nat.le_refl _) (by omega))) rfl (fun v1 w3 e3 ho1 => ?_)
  obtain ⟨dx1, q1, hcu1', ho1⟩ := ho1
  replace hcu1 := hcu1'
  obtain ⟨_, rfl, ho1⟩ := ho1
  obtain ⟨o1, rfl, hd1⟩ := Graph.op ho1
  replace E := E.stepR e3 (by omega); replace h1 := h1.modR e3 (by omega)
  have z3 := e3.size
  refine J_storeS' (cs' := [o1, .int .i64 dx1.workers, .int .i64 dx1.cap]) st26 rfl rfl rfl (all_cons (RdD.one hd1) (all_cons rfl (all_cons rfl rfl))) h1 (Nat.le_of_ble_eq_true rfl) rfl (fun w4 m1 h1' => ?_)
  replace h1 := h1'
  replace E := E.step m1 (fun g hg => by cases hg; omega); replace hcu1 := hcu1.mod m1 (fun g hg => by cases hg; omega); replace hd1 := hd1.mod m1 (fun g hg => by cases hg; omega)
  have z4 := m1.size
  refine J_done ?_
  refine S_ret (E_doneC rfl rfl (run_loadVar_st st26 h1.at rfl) E ?_)
  exact ⟨dx1, (by assumption), ⟨_, rfl, Graph.mkR dx1 (RdD.widen hd1 (by have := E.size; omega) (by omega))⟩⟩

set_option maxRecDepth 20000 in
theorem s_DrawReaches (vcode : Value) (code : List Byt) (w : World) (hcode : RdS w vcode code) : Ct Try.prog 15 [vcode] w (fun v w' => ∃ (dr0 : Graph) (dr1 : Int) (dr2 : Int), smG dr0 ∧ ∃ c0, v = .tuple [.agg c0.toArray, .int .i64 dr1, .int .i64 dr2].toArray ∧ Dat.R w' w.heap.size w'.heap.size c0 dr0) := by
  refine ct_of Try.func15 rfl Try.ntmps15 rfl ?_
  refine S_sub [(0, vcode)] ⟨rfl, trivial⟩ ?_
  have E : Ext w w := Ext.refl w
  refine S_seq ?_
  refine S_reg [false, true, true] rfl rfl ?_
  refine J_alloc st26 rfl (fun b1 w1 e1 s1 h1 => ?_)
  have g_b1 : w.heap.size ≤ b1 := by have := E.size; omega
  have y_b1 := h1.lt
  replace E := E.trans e1
  have z1 := e1.size
  refine J_st (R_assign rfl) rfl (J_st (R_assign rfl) rfl (J_done ?_))
  refine S_seq ?_
  refine S_reg [true, false, true] rfl rfl ?_
  refine J_st (R_move rfl) rfl ?_
  refine J_call Try.call48 rfl (s_l01New vcode code _ (hcode.ext E)) rfl (fun _ w2 e2 hcu1 => ?_)
  obtain ⟨bc1, rfl, ybc1, hcu1⟩ := hcu1
  have g_bc1 : w.heap.size ≤ bc1 := Nat.le_trans E.size ybc1
  have y_bc1 := CurO.lt hcu1
  replace E := E.trans e2; replace h1 := h1.ext e2
  have z2 := e2.size
  refine J_st (R_assign rfl) rfl (J_done ?_)
  refine S_seq ?_
  refine S_reg [true, false, true, false, true, true, false, true, false, true, true] rfl rfl ?_
  refine J_st (R_move rfl) rfl ?_
  refine J_callR Try.call47 rfl rfl (s_l08Any bc1 vcode code _ hcu1 (RdD.widen (RdD.ext (RdS.rdD hcode) E) (Nat.le_refl _) (by omega))) rfl (fun v1 w3 e3 ho1 => ?_)
  obtain ⟨dx1, q1, hcu1', ho1⟩ := ho1
  replace hcu1 := hcu1'
  obtain ⟨_, rfl, ho1⟩ := ho1
  obtain ⟨o1, rfl, hd1⟩ := Graph.op ho1
  replace E := E.stepR e3 (by omega); replace h1 := h1.modR e3 (by omega)
  have z3 := e3.size
  refine J_st (R_move rfl) rfl ?_
  refine J_callR Try.call53 rfl rfl (s_l01Below bc1 vcode code 9 _ hcu1 (RdD.widen (RdD.ext (RdS.rdD hcode) E) (Nat.le_refl _) (by omega))) rfl (fun _ w4 e4 hv => ?_)
  obtain ⟨dx2, q2, q3, hcu1', hv⟩ := hv
  replace hcu1 := hcu1'
  subst hv
  replace E := E.stepR e4 (by omega); replace h1 := h1.modR e4 (by omega); replace hd1 := hd1.modR e4 (by omega)
  have z4 := e4.size
  refine J_st (R_sub rfl rfl rfl) rfl (J_st (R_move rfl) rfl ?_)
  refine J_callR Try.call53 rfl rfl (s_l01Below bc1 vcode code 9 _ hcu1 (RdD.widen (RdD.ext (RdS.rdD hcode) E) (Nat.le_refl _) (by omega))) rfl (fun _ w5 e5 hv => ?_)
  obtain ⟨dx3, q4, q5, hcu1', hv⟩ := hv
  replace hcu1 := hcu1'
  subst hv
  replace E := E.stepR e5 (by omega); replace h1 := h1.modR e5 (by omega); replace hd1 := hd1.modR e5 (by omega)
  have z5 := e5.size
  refine J_st (R_sub rfl rfl rfl) rfl ?_
  refine J_storeS' (cs' := [o1, .int .i64 dx1.workers, .int .i64 dx1.cap]) st26 rfl rfl rfl (all_cons (RdD.one hd1) (all_cons rfl (all_cons rfl rfl))) h1 (Nat.le_of_ble_eq_true rfl) rfl (fun w6 m1 h1' => ?_)
  replace h1 := h1'
  replace E := E.step m1 (fun g hg => by cases hg; omega); replace hcu1 := hcu1.mod m1 (fun g hg => by cases hg; omega); replace hd1 := hd1.mod m1 (fun g hg => by cases hg; omega)
  have z6 := m1.size
  refine J_st (R_assign rfl) rfl (J_st (R_assign rfl) rfl (J_done ?_))
  refine S_ret (E_doneN (l := [.cell 2 26, .tmp 3, .tmp 4]) (vs := [.agg [o1, .int .i64 dx1.workers, .int .i64 dx1.cap].toArray, .int .i64 (IntKind.i64.wrap (((dx2 : Nat) : Int) - 1)), .int .i64 (IntKind.i64.wrap (((dx3 : Nat) : Int) - 1))]) rfl ⟨.cell rfl (run_loadVar_st st26 h1.at rfl), .tmp rfl, .tmp rfl, trivial⟩ rfl E ?_)
  exact ⟨dx1, (IntKind.i64.wrap (((dx2 : Nat) : Int) - 1)), (IntKind.i64.wrap (((dx3 : Nat) : Int) - 1)), (by assumption), ⟨_, rfl, (Graph.mkR _ (RdD.widen hd1 (by have := E.size; omega) (by omega)))⟩⟩

set_option maxRecDepth 20000 in
theorem s_DrawNodeOf (vcode : Value) (code : List Byt) (w : World) (hcode : RdS w vcode code) : Ct Try.prog 16 [vcode] w (fun v w' => ∃ (dr0 : Graph) (dr1 : Int), smG dr0 ∧ ∃ c0, v = .tuple [.agg c0.toArray, .int .i64 dr1].toArray ∧ Dat.R w' w.heap.size w'.heap.size c0 dr0) := by
  refine ct_of Try.func16 rfl Try.ntmps16 rfl ?_
  refine S_sub [(0, vcode)] ⟨rfl, trivial⟩ ?_
  have E : Ext w w := Ext.refl w
  refine S_seq ?_
  refine S_reg [false, true] rfl rfl ?_
  refine J_alloc st26 rfl (fun b1 w1 e1 s1 h1 => ?_)
  have g_b1 : w.heap.size ≤ b1 := by have := E.size; omega
  have y_b1 := h1.lt
  replace E := E.trans e1
  have z1 := e1.size
  refine J_st (R_assign rfl) rfl (J_done ?_)
  refine S_seq ?_
  refine S_reg [true, false, true] rfl rfl ?_
  refine J_st (R_move rfl) rfl ?_
  refine J_call Try.call48 rfl (s_l01New vcode code _ (hcode.ext E)) rfl (fun _ w2 e2 hcu1 => ?_)
  obtain ⟨bc1, rfl, ybc1, hcu1⟩ := hcu1
  have g_bc1 : w.heap.size ≤ bc1 := Nat.le_trans E.size ybc1
  have y_bc1 := CurO.lt hcu1
  replace E := E.trans e2; replace h1 := h1.ext e2
  have z2 := e2.size
  refine J_st (R_assign rfl) rfl (J_done ?_)
  refine S_seq ?_
  refine S_reg [true, false, true, false, false, false, true] rfl rfl ?_
  refine J_st (R_move rfl) rfl ?_
  refine J_callR Try.call47 rfl rfl (s_l08Any bc1 vcode code _ hcu1 (RdD.widen (RdD.ext (RdS.rdD hcode) E) (Nat.le_refl _) (by omega))) rfl (fun v1 w3 e3 ho1 => ?_)
  obtain ⟨dx1, q1, hcu1', ho1⟩ := ho1
  replace hcu1 := hcu1'
  obtain ⟨_, rfl, ho1⟩ := ho1
  obtain ⟨o1, rfl, hd1⟩ := Graph.op ho1
  replace E := E.stepR e3 (by omega); replace h1 := h1.modR e3 (by omega)
  have z3 := e3.size
  refine J_st (R_move rfl) rfl ?_
  refine J_buildSlice (vs := [.int .i64 0, .int .i64 1, .int .i64 4, .int .i64 7, .int .i64 8, .int .i64 (-1), .int .i64 9223372036854775807]) (css := [[.int .i64 0], [.int .i64 1], [.int .i64 4], [.int .i64 7], [.int .i64 8], [.int .i64 (-1)], [.int .i64 9223372036854775807]]) sl30 rfl rfl ⟨⟨rfl, rfl⟩, ⟨rfl, rfl⟩, ⟨rfl, rfl⟩, ⟨rfl, rfl⟩, ⟨rfl, rfl⟩, ⟨rfl, rfl⟩, ⟨rfl, rfl⟩, trivial⟩ rfl rfl (fun b2 w4 e4 s2 h2 => ?_)
  replace h2 : Blk w4 b2 [.int .i64 0, .int .i64 1, .int .i64 4, .int .i64 7, .int .i64 8, .int .i64 (-1), .int .i64 9223372036854775807] := h2
  have g_b2 : w.heap.size ≤ b2 := by have := E.size; omega
  have y_b2 := h2.lt
  replace E := E.trans e4; replace h1 := h1.ext e4; replace hcu1 := hcu1.ext e4; replace hd1 := hd1.ext e4
  have z4 := e4.size
  refine J_callR Try.call54 rfl rfl (s_l01PickInt bc1 vcode code (.slice (some ⟨b2, 0, none⟩) 7 7) [0, 1, 4, 7, 8, (-1), 9223372036854775807] _ hcu1 (RdD.widen (RdD.ext (RdS.rdD hcode) E) (Nat.le_refl _) (by omega)) (fun wX eX => (Blk.rd (α := Int) (xs := [0, 1, 4, 7, 8, (-1), 9223372036854775807]) (by decide) (Blk.modR h2 eX (by omega)) rfl (by simp [maxLen]))) (by decide)) rfl (fun _ w5 e5 hv => ?_)
  obtain ⟨dx2, q2, hcu1', hv⟩ := hv
  replace hcu1 := hcu1'
  subst hv
  replace E := E.stepR e5 (by omega); replace h1 := h1.modR e5 (by omega); replace hd1 := hd1.modR e5 (by omega); replace h2 := h2.modR e5 (by omega)
  have z5 := e5.size
  refine J_storeS' (cs' := [o1, .int .i64 dx1.workers, .int .i64 dx1.cap]) st26 rfl rfl rfl (all_cons (RdD.one hd1) (all_cons rfl (all_cons rfl rfl))) h1 (Nat.le_of_ble_eq_true rfl) rfl (fun w6 m1 h1' => ?_)
  replace h1 := h1'
  replace E := E.step m1 (fun g hg => by cases hg; omega); replace hcu1 := hcu1.mod m1 (fun g hg => by cases hg; omega); replace hd1 := hd1.mod m1 (fun g hg => by cases hg; omega); replace h2 := h2.mod m1 (fun g hg => by cases hg; omega)
  have z6 := m1.size
  refine J_st (R_assign rfl) rfl (J_done ?_)
  refine S_ret (E_doneN (l := [.cell 2 26, .tmp 3]) (vs := [.agg [o1, .int .i64 dx1.workers, .int .i64 dx1.cap].toArray, .int .i64 dx2]) rfl ⟨.cell rfl (run_loadVar_st st26 h1.at rfl), .tmp rfl, trivial⟩ rfl E ?_)
  exact ⟨dx1, dx2, (by assumption), ⟨_, rfl, (Graph.mkR _ (RdD.widen hd1 (by have := E.size; omega) (by omega)))⟩⟩

set_option maxRecDepth 20000 in
theorem s_DrawSameGraph (vcode : Value) (code : List Byt) (w : World) (hcode : RdS w vcode code) : Ct Try.prog 19 [vcode] w (fun v w' => ∃ (dr0 : Graph) (dr1 : Graph), smG dr0 ∧ smG dr1 ∧ ∃ c0 c1, v = .tuple [.agg c0.toArray, .agg c1.toArray].toArray ∧ Dat.R w' w.heap.size w'.heap.size c0 dr0 ∧ Dat.R w' w.heap.size w'.heap.size c1 dr1) := by
  refine ct_of Try.func19 rfl Try.ntmps19 rfl ?_
  refine S_sub [(0, vcode)] ⟨rfl, trivial⟩ ?_
  have E : Ext w w := Ext.refl w
  refine S_seq ?_
  refine S_reg [false, false] rfl rfl ?_
  refine J_alloc st26 rfl (fun b1 w1 e1 s1 h1 => ?_)
  have g_b1 : w.heap.size ≤ b1 := by have := E.size; omega
  have y_b1 := h1.lt
  replace E := E.trans e1
  have z1 := e1.size
  refine J_alloc st26 rfl (fun b2 w2 e2 s2 h2 => ?_)
  have g_b2 : w.heap.size ≤ b2 := by have := E.size; omega
  have y_b2 := h2.lt
  replace E := E.trans e2; replace h1 := h1.ext e2
  have z2 := e2.size
  refine J_done ?_
  refine S_seq ?_
  refine S_reg [true, false, true] rfl rfl ?_
  refine J_st (R_move rfl) rfl ?_
  refine J_call Try.call48 rfl (s_l01New vcode code _ (hcode.ext E)) rfl (fun _ w3 e3 hcu1 => ?_)
  obtain ⟨bc1, rfl, ybc1, hcu1⟩ := hcu1
  have g_bc1 : w.heap.size ≤ bc1 := Nat.le_trans E.size ybc1
  have y_bc1 := CurO.lt hcu1
  replace E := E.trans e3; replace h1 := h1.ext e3; replace h2 := h2.ext e3
  have z3 := e3.size
  refine J_st (R_assign rfl) rfl (J_done ?_)
  refine S_seq ?_
  refine S_reg [true, false, false, false] rfl rfl ?_
  refine J_st (R_move rfl) rfl ?_
  refine J_callR Try.call47 rfl rfl (s_l08Any bc1 vcode code _ hcu1 (RdD.widen (RdD.ext (RdS.rdD hcode) E) (Nat.le_refl _) (by omega))) rfl (fun v1 w4 e4 ho1 => ?_)
  obtain ⟨dx1, q1, hcu1', ho1⟩ := ho1
  replace hcu1 := hcu1'
  obtain ⟨_, rfl, ho1⟩ := ho1
  obtain ⟨o1, rfl, hd1⟩ := Graph.op ho1
  replace E := E.stepR e4 (by omega); replace h1 := h1.modR e4 (by omega); replace h2 := h2.modR e4 (by omega)
  have z4 := e4.size
  refine J_alloc st26 rfl (fun b3 w5 e5 s3 h3 => ?_)
  have g_b3 : w.heap.size ≤ b3 := by have := E.size; omega
  have y_b3 := h3.lt
  replace E := E.trans e5; replace h1 := h1.ext e5; replace h2 := h2.ext e5; replace hcu1 := hcu1.ext e5; replace hd1 := hd1.ext e5
  have z5 := e5.size
  refine J_storeS' (cs' := [o1, .int .i64 dx1.workers, .int .i64 dx1.cap]) st26 rfl rfl rfl (all_cons (RdD.one hd1) (all_cons rfl (all_cons rfl rfl))) h3 (Nat.le_of_ble_eq_true rfl) rfl (fun w6 m1 h3' => ?_)
  replace h3 := h3'
  replace E := E.step m1 (fun g hg => by cases hg; omega); replace h1 := h1.mod m1 (fun g hg => by cases hg; omega); replace h2 := h2.mod m1 (fun g hg => by cases hg; omega); replace hcu1 := hcu1.mod m1 (fun g hg => by cases hg; omega); replace hd1 := hd1.mod m1 (fun g hg => by cases hg; omega)
  have z6 := m1.size
  refine J_done ?_
  refine S_seq ?_
  refine S_seq ?_
  refine S_reg [true, false] rfl rfl ?_
  refine J_st (R_move rfl) rfl ?_
  refine J_callR Try.call57 rfl rfl (s_l01Once bc1 vcode code 2 _ hcu1 (RdD.widen (RdD.ext (RdS.rdD hcode) E) (Nat.le_refl _) (by omega))) rfl (fun _ w7 e6 hv => ?_)
  obtain ⟨dx2, hcu1', hv⟩ := hv
  replace hcu1 := hcu1'
  subst hv
  replace E := E.stepR e6 (by omega); replace h1 := h1.modR e6 (by omega); replace h2 := h2.modR e6 (by omega); replace hd1 := hd1.modR e6 (by omega); replace h3 := h3.modR e6 (by omega)
  have z7 := e6.size
  refine J_done ?_
  refine S_cond rfl (fun hc1 => ?_) (fun hc1 => ?_)
  · refine S_seq ?_
    refine S_regD mixed [(0, true), (1, true), (2, false), (3, false), (4, false)] (by decide +kernel) rfl (fun w8 e7 => ?_)
    replace E := E.trans e7; replace h1 := h1.ext e7; replace h2 := h2.ext e7; replace hcu1 := hcu1.ext e7; replace hd1 := hd1.ext e7; replace h3 := h3.ext e7
    have z8 := e7.size
    refine J_st (R_loadS st26 rfl h3.at rfl) rfl (J_st (R_loadS st26 rfl h3.at rfl) rfl ?_)
    refine J_call Try.call58 rfl (s_l08Copy [o1, .int .i64 dx1.workers, .int .i64 dx1.cap] dx1 _ (Graph.mkR dx1 (RdD.any hd1)) (smG_cnt (by assumption))) rfl (fun _ w9 e8 ho2 => ?_)
    obtain ⟨o2, rfl, ho2⟩ := ho2
    have g_ho2 : w.heap.size ≤ w8.heap.size := E.size
    replace E := E.trans e8; replace h1 := h1.ext e8; replace h2 := h2.ext e8; replace hcu1 := hcu1.ext e8; replace hd1 := hd1.ext e8; replace h3 := h3.ext e8
    have z9 := e8.size
    refine J_storeS' (cs' := [o1, .int .i64 dx1.workers, .int .i64 dx1.cap]) st26 rfl rfl rfl (all_cons (RdD.one hd1) (all_cons rfl (all_cons rfl rfl))) h1 (Nat.le_of_ble_eq_true rfl) rfl (fun w10 m2 h1' => ?_)
    replace h1 := h1'
    replace E := E.step m2 (fun g hg => by cases hg; omega); replace h2 := h2.mod m2 (fun g hg => by cases hg; omega); replace hcu1 := hcu1.mod m2 (fun g hg => by cases hg; omega); replace hd1 := hd1.mod m2 (fun g hg => by cases hg; omega); replace h3 := h3.mod m2 (fun g hg => by cases hg; omega); replace ho2 := ho2.mod m2 (fun g hg => by cases hg; omega)
    have z10 := m2.size
    refine J_storeS' (cs' := [o2, .int .i64 dx1.workers, .int .i64 dx1.cap]) st26 rfl rfl rfl (all_cons (RdD.one (OwS.rd ho2)) (all_cons rfl (all_cons rfl rfl))) h2 (Nat.le_of_ble_eq_true rfl) rfl (fun w11 m3 h2' => ?_)
    replace h2 := h2'
    replace E := E.step m3 (fun g hg => by cases hg; omega); replace h1 := h1.mod m3 (fun g hg => by cases hg; omega); replace hcu1 := hcu1.mod m3 (fun g hg => by cases hg; omega); replace hd1 := hd1.mod m3 (fun g hg => by cases hg; omega); replace h3 := h3.mod m3 (fun g hg => by cases hg; omega); replace ho2 := ho2.mod m3 (fun g hg => by cases hg; omega)
    have z11 := m3.size
    refine J_done ?_
    refine S_ret (E_doneN (l := [.cell 2 26, .cell 3 26]) (vs := [.agg [o1, .int .i64 dx1.workers, .int .i64 dx1.cap].toArray, .agg [o2, .int .i64 dx1.workers, .int .i64 dx1.cap].toArray]) rfl ⟨.cell rfl (run_loadVar_st st26 h1.at rfl), .cell rfl (run_loadVar_st st26 h2.at rfl), trivial⟩ rfl E ?_)
    exact ⟨dx1, dx1, (by assumption), (by assumption), ⟨_, _, rfl, (Graph.mkR _ (RdD.widen hd1 (by have := E.size; omega) (by omega))), (Graph.mkR _ (RdD.widen (OwS.rd ho2) (by have := E.size; omega) (by omega)))⟩⟩
  · refine S_skip ?_
    refine S_seq ?_
    refine S_regW mixed [(0, true), (1, true), (2, false)] [(3, false), (4, false)] (by decide +kernel) rfl rfl (fun w' => Ext w w' ∧ w7.heap.size ≤ w'.heap.size ∧ Blk w' b1 [.slice none 0 0, .int .i64 0, .int .i64 0] ∧ Blk w' b2 [.slice none 0 0, .int .i64 0, .int .i64 0] ∧ CurO w' bc1 vcode code ∧ RdD w' w3.heap.size w4.heap.size o1 dx1.nodes ∧ Blk w' b3 [o1, .int .i64 dx1.workers, .int .i64 dx1.cap]) (fun w12 e9 => ?_)
    replace E := E.trans e9; replace h1 := h1.ext e9; replace h2 := h2.ext e9; replace hcu1 := hcu1.ext e9; replace hd1 := hd1.ext e9; replace h3 := h3.ext e9
    have z12 := e9.size
    refine ⟨⟨E, (by omega), h1, h2, hcu1, hd1, h3⟩, ?_⟩
    refine JC_st rfl (fun wX hX => by obtain ⟨E, zX, h1, h2, hcu1, hd1, h3⟩ := hX; exact R_loadS st26 rfl h3.at rfl) rfl ?_
    refine JC_st rfl (fun wX hX => by obtain ⟨E, zX, h1, h2, hcu1, hd1, h3⟩ := hX; exact R_move rfl) rfl ?_
    refine JC_un rfl ?_
    refine J_callR Try.call47 rfl rfl (s_l08Any bc1 vcode code _ hcu1 (RdD.widen (RdD.ext (RdS.rdD hcode) E) (Nat.le_refl _) (by omega))) rfl (fun v2 w13 e10 ho3 => ?_)
    obtain ⟨dx3, q2, hcu1', ho3⟩ := ho3
    replace hcu1 := hcu1'
    obtain ⟨_, rfl, ho3⟩ := ho3
    obtain ⟨o3, rfl, hd2⟩ := Graph.op ho3
    replace E := E.stepR e10 (by omega); replace h1 := h1.modR e10 (by omega); replace h2 := h2.modR e10 (by omega); replace hd1 := hd1.modR e10 (by omega); replace h3 := h3.modR e10 (by omega)
    have z13 := e10.size
    refine JC_next ⟨E, (by omega), h1, h2, hcu1, hd1, h3⟩ ?_
    refine JC_end ?_
    refine J_storeS' (cs' := [o1, .int .i64 dx1.workers, .int .i64 dx1.cap]) st26 rfl rfl rfl (all_cons (RdD.one hd1) (all_cons rfl (all_cons rfl rfl))) h1 (Nat.le_of_ble_eq_true rfl) rfl (fun w14 m4 h1' => ?_)
    replace h1 := h1'
    replace E := E.step m4 (fun g hg => by cases hg; omega); replace h2 := h2.mod m4 (fun g hg => by cases hg; omega); replace hcu1 := hcu1.mod m4 (fun g hg => by cases hg; omega); replace hd1 := hd1.mod m4 (fun g hg => by cases hg; omega); replace h3 := h3.mod m4 (fun g hg => by cases hg; omega); replace hd2 := hd2.mod m4 (fun g hg => by cases hg; omega)
    have z14 := m4.size
    refine J_storeS' (cs' := [o3, .int .i64 dx3.workers, .int .i64 dx3.cap]) st26 rfl rfl rfl (all_cons (RdD.one hd2) (all_cons rfl (all_cons rfl rfl))) h2 (Nat.le_of_ble_eq_true rfl) rfl (fun w15 m5 h2' => ?_)
    replace h2 := h2'
    replace E := E.step m5 (fun g hg => by cases hg; omega); replace h1 := h1.mod m5 (fun g hg => by cases hg; omega); replace hcu1 := hcu1.mod m5 (fun g hg => by cases hg; omega); replace hd1 := hd1.mod m5 (fun g hg => by cases hg; omega); replace h3 := h3.mod m5 (fun g hg => by cases hg; omega); replace hd2 := hd2.mod m5 (fun g hg => by cases hg; omega)
    have z15 := m5.size
    refine J_done ?_
    refine S_ret (E_doneN (l := [.cell 2 26, .cell 3 26]) (vs := [.agg [o1, .int .i64 dx1.workers, .int .i64 dx1.cap].toArray, .agg [o3, .int .i64 dx3.workers, .int .i64 dx3.cap].toArray]) rfl ⟨.cell rfl (run_loadVar_st st26 h1.at rfl), .cell rfl (run_loadVar_st st26 h2.at rfl), trivial⟩ rfl E ?_)
    exact ⟨dx1, dx3, (by assumption), (by assumption), ⟨_, _, rfl, (Graph.mkR _ (RdD.widen hd1 (by have := E.size; omega) (by omega))), (Graph.mkR _ (RdD.widen hd2 (by have := E.size; omega) (by omega)))⟩⟩

set_option maxRecDepth 20000 in
theorem l_sameInts (vxs : Value) (xs : List Int) (vys : Value) (ys : List Int) (w : World) (hxs : RdS w vxs xs) (hys : RdS w vys ys) : Ct Try.prog 10 [vxs, vys] w (fun v _ => v = .bool (decide (xs = ys))) := by
  refine ct_of Try.func10 rfl Try.ntmps10 rfl ?_
  refine S_sub [(0, vxs), (1, vys)] ⟨rfl, rfl, trivial⟩ ?_
  have E : Ext w w := Ext.refl w
  refine S_seq ?_
  refine S_reg [true] rfl rfl ?_
  refine J_st (R_assign rfl) rfl (J_done ?_)
  refine S_seq ?_
  refine S_seq ?_
  refine S_reg [true, true, true, true, true] rfl rfl ?_
  refine J_st (R_move rfl) rfl (J_st (R_len Try.underlying30 rfl (hxs.ext E).len) rfl (J_st (R_move rfl) rfl (J_st (R_len Try.underlying30 rfl (hys.ext E).len) rfl (J_st (R_neq rfl rfl) rfl (J_done ?_)))))
  refine S_cond rfl (fun hc1 => ?_) (fun hc1 => ?_)
  · have hc1n : ¬ xs.length = ys.length := by first | (have h := of_decide_eq_true hc1; omega) | (have h := hc1; simp at h; omega)
    refine S_seq ?_
    refine S_reg [true] rfl rfl ?_
    refine J_st (R_assign rfl) rfl (J_done ?_)
    refine S_ret (E_done1 rfl rfl E ?_)
    simp [eq_len hc1n]
  · have hc1n : xs.length = ys.length := by first | (have h := of_decide_eq_false hc1; omega) | (have h := hc1; simp at h; omega)
    refine S_skip ?_
    refine S_seq ?_
    refine S_seq ?_
    refine S_reg [true] rfl rfl ?_
    refine J_st (R_assign rfl) rfl (J_done ?_)
    refine S_block ?_
    refine S_loop (fun (k : Nat) => [(0, vxs), (1, vys), (4, .bool false), (5, .int .i64 ((k : Nat) : Int))]) (fun (k : Nat) w' => Ext w w' ∧ w.heap.size ≤ w'.heap.size ∧ k ≤ xs.length ∧ xs.take k = ys.take k) (fun (k : Nat) => xs.length - k) 0 ⟨rfl, rfl, rfl, rfl, trivial⟩ ⟨E, Nat.le_refl _, Nat.zero_le _, rfl⟩ ?_
    clear E
    rintro k w1 ⟨E, z1, hk, hp⟩
    refine S_seq ?_
    refine S_seq ?_
    refine S_reg [true, true, true, true] rfl rfl ?_
    refine J_st (R_move rfl) rfl (J_st (R_move rfl) rfl (J_st (R_len Try.underlying30 rfl (hxs.ext E).len) rfl (J_st (R_lss rfl rfl) rfl (J_done ?_))))
    refine S_cond rfl (fun hc2 => ?_) (fun hc2 => ?_)
    · have hc2n : k < xs.length := by first | (have h := of_decide_eq_true hc2; omega) | (have h := hc2; simp at h; omega)
      refine S_skip ?_
      refine S_seq ?_
      refine S_block ?_
      refine S_seq ?_
      refine S_regD mixed [(0, true), (1, true), (2, true), (3, true), (4, true), (5, true), (6, true), (7, true), (8, true)] (by decide +kernel) rfl (fun w2 e1 => ?_)
      replace E := E.trans e1
      have z2 := e1.size
      refine J_st (R_move rfl) rfl (J_st (R_move rfl) rfl ?_)
      have hi1 : k < xs.length := (by first | assumption | omega | (simp only [List.length_set]; first | assumption | omega) | (simp only [List.getElem_set_self, List.length_set]; first | assumption | omega) | (simp only [setW, setLk, List.length_set]; first | assumption | omega) | (simp; done))
      refine J_st (R_index (i := k) sl30 rfl rfl (hxs.ext E) hi1) rfl (J_st (R_load sc3 rfl (((hxs.ext E).get hi1).one 0 rfl)) rfl (J_st (R_move rfl) rfl (J_st (R_move rfl) rfl ?_)))
      have hi2 : k < ys.length := (by first | assumption | omega | (simp only [List.length_set]; first | assumption | omega) | (simp only [List.getElem_set_self, List.length_set]; first | assumption | omega) | (simp only [setW, setLk, List.length_set]; first | assumption | omega) | (simp; done))
      refine J_st (R_index (i := k) sl30 rfl rfl (hys.ext E) hi2) rfl (J_st (R_load sc3 rfl (((hys.ext E).get hi2).one 0 rfl)) rfl (J_st (R_neq rfl rfl) rfl (J_done ?_)))
      refine S_cond rfl (fun hc3 => ?_) (fun hc3 => ?_)
      · refine S_seq ?_
        refine S_reg [true] rfl rfl ?_
        refine J_st (R_assign rfl) rfl (J_done ?_)
        refine S_ret (E_inB_ret (E_lp_ret (E_inB_ret (E_done1 rfl rfl E ?_))))
        exact eqS_no (by omega) (by omega) (by simpa using hc3)
      · refine S_skip ?_
        refine S_nil (E_inB ?_)
        refine S_reg [true, true, true] rfl rfl ?_
        refine J_st (R_move rfl) rfl (J_st (R_add rfl rfl (add_one hc2n hxs.1)) rfl (J_st (R_assign rfl) rfl (J_done ?_)))
        refine S_nil (E_again (k + 1) (by omega) ⟨rfl, rfl, rfl, rfl, trivial⟩ ⟨E, (by omega), (by omega), eqS_step hp (by assumption) (by omega) (by simpa using hc3)⟩)
    · have hc2n : ¬ k < xs.length := by first | (have h := of_decide_eq_false hc2; omega) | (have h := hc2; simp at h; omega)
      refine S_exit (E_lp_exit (E_inB_exit ?_))
      refine S_seq ?_
      refine S_reg [true] rfl rfl ?_
      refine J_st (R_assign rfl) rfl (J_done ?_)
      refine S_ret (E_done1 rfl rfl E ?_)
      exact eqS_yes hp hc1n (by omega)

set_option maxRecDepth 20000 in
theorem l_sameNode (cx : List Value) (x : Node) (cy : List Value) (y : Node) (w : World) (hx : Dat.R w 0 w.heap.size cx x) (hy : Dat.R w 0 w.heap.size cy y) : Ct Try.prog 22 [.agg cx.toArray, .agg cy.toArray] w (fun v _ => v = .bool (decide (x = y))) := by
  refine ct_of Try.func22 rfl Try.ntmps22 rfl ?_
  obtain ⟨o1, rfl, hd1⟩ := Node.op hx
  obtain ⟨o2, rfl, hd2⟩ := Node.op hy
  refine S_sub [(0, .agg [.int .i64 x.kind, .int .i64 x.a, .int .i64 x.b, o1].toArray), (1, .agg [.int .i64 y.kind, .int .i64 y.a, .int .i64 y.b, o2].toArray)] ⟨rfl, rfl, trivial⟩ ?_
  have E : Ext w w := Ext.refl w
  refine S_seq ?_
  refine S_reg [false, false, true] rfl rfl ?_
  refine J_box rfl rfl (fun b1 w1 e1 s1 h1 => ?_)
  have g_b1 : w.heap.size ≤ b1 := by have := E.size; omega
  have y_b1 := h1.lt
  replace E := E.trans e1
  have z1 := e1.size
  refine J_box rfl rfl (fun b2 w2 e2 s2 h2 => ?_)
  have g_b2 : w.heap.size ≤ b2 := by have := E.size; omega
  have y_b2 := h2.lt
  replace E := E.trans e2; replace h1 := h1.ext e2
  have z2 := e2.size
  refine J_st (R_assign rfl) rfl (J_done ?_)
  refine S_seq ?_
  refine S_reg [true, true, true, true, true, true, true, true, true, true, true, true, true, true, true, true, true, true, true, true, true, true, true, true, false, true, true] rfl rfl ?_
  refine J_st (R_fieldAddr0 fl37_0 rfl) rfl (J_st (R_load sc3 rfl (h1.one 0 rfl)) rfl (J_st (R_fieldAddr0 fl37_0 rfl) rfl (J_st (R_load sc3 rfl (h2.one 0 rfl)) rfl (J_st (R_eql rfl rfl) rfl (J_st (R_move rfl) rfl ?_)))))
  refine J_cut 20 [(0, .agg [.int .i64 x.kind, .int .i64 x.a, .int .i64 x.b, o1].toArray), (1, .agg [.int .i64 y.kind, .int .i64 y.a, .int .i64 y.b, o2].toArray), (2, .pointer (some ⟨b1, 0, none⟩)), (3, .pointer (some ⟨b2, 0, none⟩)), (4, .bool false), (30, .bool ((((x.kind == y.kind) && (x.a == y.a)) && (x.b == y.b)) && (decide (x.outs = y.outs))))] (fun w' => Ext w w' ∧ w2.heap.size ≤ w'.heap.size ∧ Blk w' b1 ([.int .i64 x.kind, .int .i64 x.a, .int .i64 x.b, o1]) ∧ Blk w' b2 ([.int .i64 y.kind, .int .i64 y.a, .int .i64 y.b, o2])) ?_ ?_
  · refine J_if (gd := 10) rfl rfl (fun hg1 => ?_) (fun hg1 => ?_)
    · refine J_gd rfl rfl (R_fieldAddr0 fl37_1 rfl) rfl (J_gd rfl rfl (R_load sc3 rfl (h1.one 1 rfl)) rfl (J_gd rfl rfl (R_fieldAddr0 fl37_1 rfl) rfl (J_gd rfl rfl (R_load sc3 rfl (h2.one 1 rfl)) rfl (J_gd rfl rfl (R_eql rfl rfl) rfl (J_st (R_pickT rfl rfl) rfl (J_st (R_move rfl) rfl ?_))))))
      refine J_if (gd := 17) rfl rfl (fun hg2 => ?_) (fun hg2 => ?_)
      · refine J_gd rfl rfl (R_fieldAddr0 fl37_2 rfl) rfl (J_gd rfl rfl (R_load sc3 rfl (h1.one 2 rfl)) rfl (J_gd rfl rfl (R_fieldAddr0 fl37_2 rfl) rfl (J_gd rfl rfl (R_load sc3 rfl (h2.one 2 rfl)) rfl (J_gd rfl rfl (R_eql rfl rfl) rfl (J_st (R_pickT rfl rfl) rfl (J_st (R_move rfl) rfl ?_))))))
        refine J_if (gd := 24) rfl rfl (fun hg3 => ?_) (fun hg3 => ?_)
        · refine J_gd rfl rfl (R_fieldAddr0 fl37_3 rfl) rfl (J_gd rfl rfl (R_load sc30 rfl (h1.one 3 rfl)) rfl (J_gd rfl rfl (R_fieldAddr0 fl37_3 rfl) rfl (J_gd rfl rfl (R_load sc30 rfl (h2.one 3 rfl)) rfl ?_)))
          refine J_ung rfl rfl ?_
          refine J_call Try.call10 rfl (l_sameInts o1 x.outs o2 y.outs _ (hd1.rd.ext E) (hd2.rd.ext E)) rfl (fun _ w4 e3 hv => ?_)
          subst hv
          replace E := E.trans e3; replace h1 := h1.ext e3; replace h2 := h2.ext e3
          have z3 := e3.size
          refine J_st (R_pickT rfl rfl) rfl (J_cutEnd ⟨rfl, rfl, rfl, rfl, rfl, congrArg (fun b => some (Value.bool b)) (show (decide (x.outs = y.outs)) = ((((x.kind == y.kind) && (x.a == y.a)) && (x.b == y.b)) && (decide (x.outs = y.outs))) by first | (rw [hg1, hg2, hg3] <;> rfl) | (simp [hg1, hg2, hg3]; done) | (simp only [nat_nlt] <;> simp)), trivial⟩ ⟨E, (by omega), h1, h2⟩)
        · refine J_gdno rfl rfl rfl rfl (J_gdno rfl rfl rfl rfl (J_gdno rfl rfl rfl rfl (J_gdno rfl rfl rfl rfl ?_)))
          refine J_ungno rfl rfl rfl rfl ?_
          refine J_st (R_pickF rfl rfl) rfl (J_cutEnd ⟨rfl, rfl, rfl, rfl, rfl, congrArg (fun b => some (Value.bool b)) (show false = ((((x.kind == y.kind) && (x.a == y.a)) && (x.b == y.b)) && (decide (x.outs = y.outs))) by first | (rw [hg1, hg2, hg3] <;> rfl) | (simp [hg1, hg2, hg3]; done) | (simp only [nat_nlt] <;> simp)), trivial⟩ ⟨E, (by omega), h1, h2⟩)
      · refine J_gdno rfl rfl rfl rfl (J_gdno rfl rfl rfl rfl (J_gdno rfl rfl rfl rfl (J_gdno rfl rfl rfl rfl (J_gdno rfl rfl rfl rfl (J_st (R_pickF rfl rfl) rfl (J_st (R_move rfl) rfl (J_gdno rfl rfl rfl rfl (J_gdno rfl rfl rfl rfl (J_gdno rfl rfl rfl rfl (J_gdno rfl rfl rfl rfl ?_))))))))))
        refine J_ungno rfl rfl rfl rfl ?_
        refine J_st (R_pickF rfl rfl) rfl (J_cutEnd ⟨rfl, rfl, rfl, rfl, rfl, congrArg (fun b => some (Value.bool b)) (show false = ((((x.kind == y.kind) && (x.a == y.a)) && (x.b == y.b)) && (decide (x.outs = y.outs))) by first | (rw [hg1, hg2] <;> rfl) | (simp [hg1, hg2]; done) | (simp only [nat_nlt] <;> simp)), trivial⟩ ⟨E, (by omega), h1, h2⟩)
    · refine J_gdno rfl rfl rfl rfl (J_gdno rfl rfl rfl rfl (J_gdno rfl rfl rfl rfl (J_gdno rfl rfl rfl rfl (J_gdno rfl rfl rfl rfl (J_st (R_pickF rfl rfl) rfl (J_st (R_move rfl) rfl (J_gdno rfl rfl rfl rfl (J_gdno rfl rfl rfl rfl (J_gdno rfl rfl rfl rfl (J_gdno rfl rfl rfl rfl (J_gdno rfl rfl rfl rfl (J_st (R_pickF rfl rfl) rfl (J_st (R_move rfl) rfl (J_gdno rfl rfl rfl rfl (J_gdno rfl rfl rfl rfl (J_gdno rfl rfl rfl rfl (J_gdno rfl rfl rfl rfl ?_)))))))))))))))))
      refine J_ungno rfl rfl rfl rfl ?_
      refine J_st (R_pickF rfl rfl) rfl (J_cutEnd ⟨rfl, rfl, rfl, rfl, rfl, congrArg (fun b => some (Value.bool b)) (show false = ((((x.kind == y.kind) && (x.a == y.a)) && (x.b == y.b)) && (decide (x.outs = y.outs))) by first | (rw [hg1] <;> rfl) | (simp [hg1]; done) | (simp only [nat_nlt] <;> simp)), trivial⟩ ⟨E, (by omega), h1, h2⟩)
  clear E h1 h2
  rintro w3 ⟨E, z4, h1, h2⟩
  refine J_st (R_assign rfl) rfl (J_done ?_)
  refine S_ret (E_done1 rfl rfl E ?_)
  refine congrArg Value.bool (Bool.eq_iff_iff.2 ?_); cases x; cases y; simp [and_assoc]

set_option maxRecDepth 20000 in
theorem l_sameNodes (vxs : Value) (xs : List Node) (vys : Value) (ys : List Node) (w : World) (hxs : RdD w 0 w.heap.size vxs xs) (hys : RdD w 0 w.heap.size vys ys) : Ct Try.prog 64 [vxs, vys] w (fun v _ => v = .bool (decide (xs = ys))) := by
  refine ct_of Try.func64 rfl Try.ntmps64 rfl ?_
  refine S_sub [(0, vxs), (1, vys)] ⟨rfl, rfl, trivial⟩ ?_
  have E : Ext w w := Ext.refl w
  refine S_seq ?_
  refine S_reg [true] rfl rfl ?_
  refine J_st (R_assign rfl) rfl (J_done ?_)
  refine S_seq ?_
  refine S_seq ?_
  refine S_reg [true, true, true, true, true] rfl rfl ?_
  refine J_st (R_move rfl) rfl (J_st (R_len Try.underlying24 rfl (hxs.ext E).len) rfl (J_st (R_move rfl) rfl (J_st (R_len Try.underlying24 rfl (hys.ext E).len) rfl (J_st (R_neq rfl rfl) rfl (J_done ?_)))))
  refine S_cond rfl (fun hc1 => ?_) (fun hc1 => ?_)
  · have hc1n : ¬ xs.length = ys.length := by first | (have h := of_decide_eq_true hc1; omega) | (have h := hc1; simp at h; omega)
    refine S_seq ?_
    refine S_reg [true] rfl rfl ?_
    refine J_st (R_assign rfl) rfl (J_done ?_)
    refine S_ret (E_done1 rfl rfl E ?_)
    simp [eq_len hc1n]
  · have hc1n : xs.length = ys.length := by first | (have h := of_decide_eq_false hc1; omega) | (have h := hc1; simp at h; omega)
    refine S_skip ?_
    refine S_seq ?_
    refine S_seq ?_
    refine S_reg [true] rfl rfl ?_
    refine J_st (R_assign rfl) rfl (J_done ?_)
    refine S_block ?_
    refine S_loop (fun (k : Nat) => [(0, vxs), (1, vys), (4, .bool false), (5, .int .i64 ((k : Nat) : Int))]) (fun (k : Nat) w' => Ext w w' ∧ w.heap.size ≤ w'.heap.size ∧ k ≤ xs.length ∧ xs.take k = ys.take k) (fun (k : Nat) => xs.length - k) 0 ⟨rfl, rfl, rfl, rfl, trivial⟩ ⟨E, Nat.le_refl _, Nat.zero_le _, rfl⟩ ?_
    clear E
    rintro k w1 ⟨E, z1, hk, hp⟩
    refine S_seq ?_
    refine S_seq ?_
    refine S_reg [true, true, true, true] rfl rfl ?_
    refine J_st (R_move rfl) rfl (J_st (R_move rfl) rfl (J_st (R_len Try.underlying24 rfl (hxs.ext E).len) rfl (J_st (R_lss rfl rfl) rfl (J_done ?_))))
    refine S_cond rfl (fun hc2 => ?_) (fun hc2 => ?_)
    · have hc2n : k < xs.length := by first | (have h := of_decide_eq_true hc2; omega) | (have h := hc2; simp at h; omega)
      refine S_skip ?_
      refine S_seq ?_
      refine S_block ?_
      refine S_seq ?_
      refine S_regD mixed [(0, true), (1, true), (2, true), (3, true), (4, true), (5, true), (6, true), (7, true), (8, false), (9, true)] (by decide +kernel) rfl (fun w2 e1 => ?_)
      replace E := E.trans e1
      have z2 := e1.size
      refine J_st (R_move rfl) rfl (J_st (R_move rfl) rfl ?_)
      have hi1 : k < xs.length := (by first | assumption | omega | (simp only [List.length_set]; first | assumption | omega) | (simp only [List.getElem_set_self, List.length_set]; first | assumption | omega) | (simp only [setW, setLk, List.length_set]; first | assumption | omega) | (simp; done))
      obtain ⟨_, hr1, ha1⟩ := RdD.get hxs hi1
      obtain ⟨o1, rfl, hd1⟩ := Node.op hr1
      replace ha1 : At w (sblk vxs) (soff vxs + k * 4) [.int .i64 ((xs[k]'hi1).kind), .int .i64 ((xs[k]'hi1).a), .int .i64 ((xs[k]'hi1).b), o1] := ha1
      refine J_st (R_index (i := k) sl24 rfl rfl (hxs.ext E).1 hi1) rfl (J_st (R_loadS st37 rfl (ha1.ext E) rfl) rfl (J_st (R_move rfl) rfl (J_st (R_move rfl) rfl ?_)))
      have hi2 : k < ys.length := (by first | assumption | omega | (simp only [List.length_set]; first | assumption | omega) | (simp only [List.getElem_set_self, List.length_set]; first | assumption | omega) | (simp only [setW, setLk, List.length_set]; first | assumption | omega) | (simp; done))
      obtain ⟨_, hr2, ha2⟩ := RdD.get hys hi2
      obtain ⟨o2, rfl, hd2⟩ := Node.op hr2
      replace ha2 : At w (sblk vys) (soff vys + k * 4) [.int .i64 ((ys[k]'hi2).kind), .int .i64 ((ys[k]'hi2).a), .int .i64 ((ys[k]'hi2).b), o2] := ha2
      refine J_st (R_index (i := k) sl24 rfl rfl (hys.ext E).1 hi2) rfl (J_st (R_loadS st37 rfl (ha2.ext E) rfl) rfl ?_)
      refine J_call Try.call22 rfl (l_sameNode [.int .i64 ((xs[k]'hi1).kind), .int .i64 ((xs[k]'hi1).a), .int .i64 ((xs[k]'hi1).b), o1] (xs[k]'hi1) [.int .i64 ((ys[k]'hi2).kind), .int .i64 ((ys[k]'hi2).a), .int .i64 ((ys[k]'hi2).b), o2] (ys[k]'hi2) _ (Node.mkR (xs[k]'hi1) (RdD.any (hd1.ext E))) (Node.mkR (ys[k]'hi2) (RdD.any (hd2.ext E)))) rfl (fun _ w3 e2 hv => ?_)
      subst hv
      replace E := E.trans e2
      have z3 := e2.size
      refine J_st (R_not rfl) rfl (J_done ?_)
      refine S_cond rfl (fun hc3 => ?_) (fun hc3 => ?_)
      · refine S_seq ?_
        refine S_reg [true] rfl rfl ?_
        refine J_st (R_assign rfl) rfl (J_done ?_)
        refine S_ret (E_inB_ret (E_lp_ret (E_inB_ret (E_done1 rfl rfl E ?_))))
        exact eqS_no (by omega) (by omega) (by simpa using hc3)
      · refine S_skip ?_
        refine S_nil (E_inB ?_)
        refine S_reg [true, true, true] rfl rfl ?_
        refine J_st (R_move rfl) rfl (J_st (R_add rfl rfl (add_one hc2n (hxs.ext E).1.1)) rfl (J_st (R_assign rfl) rfl (J_done ?_)))
        refine S_nil (E_again (k + 1) (by omega) ⟨rfl, rfl, rfl, rfl, trivial⟩ ⟨E, (by omega), (by omega), eqS_step hp (by assumption) (by omega) (by simpa using hc3)⟩)
    · have hc2n : ¬ k < xs.length := by first | (have h := of_decide_eq_false hc2; omega) | (have h := hc2; simp at h; omega)
      refine S_exit (E_lp_exit (E_inB_exit ?_))
      refine S_seq ?_
      refine S_reg [true] rfl rfl ?_
      refine J_st (R_assign rfl) rfl (J_done ?_)
      refine S_ret (E_done1 rfl rfl E ?_)
      exact eqS_yes hp hc1n (by omega)

set_option maxRecDepth 20000 in
theorem l_sameGraph (cx : List Value) (x : Graph) (cy : List Value) (y : Graph) (w : World) (hx : Dat.R w 0 w.heap.size cx x) (hy : Dat.R w 0 w.heap.size cy y) : Ct Try.prog 24 [.agg cx.toArray, .agg cy.toArray] w (fun v _ => v = .bool (decide (x = y))) := by
  refine ct_of Try.func24 rfl Try.ntmps24 rfl ?_
  obtain ⟨o1, rfl, hd1⟩ := Graph.op hx
  obtain ⟨o2, rfl, hd2⟩ := Graph.op hy
  refine S_sub [(0, .agg [o1, .int .i64 x.workers, .int .i64 x.cap].toArray), (1, .agg [o2, .int .i64 y.workers, .int .i64 y.cap].toArray)] ⟨rfl, rfl, trivial⟩ ?_
  have E : Ext w w := Ext.refl w
  refine S_seq ?_
  refine S_reg [false, false, true] rfl rfl ?_
  refine J_box rfl rfl (fun b1 w1 e1 s1 h1 => ?_)
  have g_b1 : w.heap.size ≤ b1 := by have := E.size; omega
  have y_b1 := h1.lt
  replace E := E.trans e1
  have z1 := e1.size
  refine J_box rfl rfl (fun b2 w2 e2 s2 h2 => ?_)
  have g_b2 : w.heap.size ≤ b2 := by have := E.size; omega
  have y_b2 := h2.lt
  replace E := E.trans e2; replace h1 := h1.ext e2
  have z2 := e2.size
  refine J_st (R_assign rfl) rfl (J_done ?_)
  refine S_seq ?_
  refine S_reg [true, true, true, true, false, true, true, true, true, true, true, true, true, true, true, true, true, true, true, true] rfl rfl ?_
  refine J_st (R_fieldAddr0 fl26_0 rfl) rfl (J_st (R_load sc24 rfl (h1.one 0 rfl)) rfl (J_st (R_fieldAddr0 fl26_0 rfl) rfl (J_st (R_load sc24 rfl (h2.one 0 rfl)) rfl ?_)))
  refine J_call Try.call64 rfl (l_sameNodes o1 x.nodes o2 y.nodes _ (RdD.any (hd1.ext E)) (RdD.any (hd2.ext E))) rfl (fun _ w3 e3 hv => ?_)
  subst hv
  replace E := E.trans e3; replace h1 := h1.ext e3; replace h2 := h2.ext e3
  have z3 := e3.size
  refine J_st (R_move rfl) rfl ?_
  refine J_cut 13 [(0, .agg [o1, .int .i64 x.workers, .int .i64 x.cap].toArray), (1, .agg [o2, .int .i64 y.workers, .int .i64 y.cap].toArray), (2, .pointer (some ⟨b1, 0, none⟩)), (3, .pointer (some ⟨b2, 0, none⟩)), (4, .bool false), (23, .bool (((decide (x.nodes = y.nodes)) && (x.workers == y.workers)) && (x.cap == y.cap)))] (fun w' => w3 = w') ?_ ?_
  · refine J_if (gd := 10) rfl rfl (fun hg1 => ?_) (fun hg1 => ?_)
    · refine J_gd rfl rfl (R_fieldAddr0 fl26_1 rfl) rfl (J_gd rfl rfl (R_load sc3 rfl (h1.one 1 rfl)) rfl (J_gd rfl rfl (R_fieldAddr0 fl26_1 rfl) rfl (J_gd rfl rfl (R_load sc3 rfl (h2.one 1 rfl)) rfl (J_gd rfl rfl (R_eql rfl rfl) rfl (J_st (R_pickT rfl rfl) rfl (J_st (R_move rfl) rfl ?_))))))
      refine J_if (gd := 17) rfl rfl (fun hg2 => ?_) (fun hg2 => ?_)
      · refine J_gd rfl rfl (R_fieldAddr0 fl26_2 rfl) rfl (J_gd rfl rfl (R_load sc3 rfl (h1.one 2 rfl)) rfl (J_gd rfl rfl (R_fieldAddr0 fl26_2 rfl) rfl (J_gd rfl rfl (R_load sc3 rfl (h2.one 2 rfl)) rfl (J_gd rfl rfl (R_eql rfl rfl) rfl (J_st (R_pickT rfl rfl) rfl (J_cutEnd ⟨rfl, rfl, rfl, rfl, rfl, congrArg (fun b => some (Value.bool b)) (show (x.cap == y.cap) = (((decide (x.nodes = y.nodes)) && (x.workers == y.workers)) && (x.cap == y.cap)) by first | (rw [hg1, hg2] <;> rfl) | (simp [hg1, hg2]; done) | (simp only [nat_nlt] <;> simp)), trivial⟩ rfl))))))
      · refine J_gdno rfl rfl rfl rfl (J_gdno rfl rfl rfl rfl (J_gdno rfl rfl rfl rfl (J_gdno rfl rfl rfl rfl (J_gdno rfl rfl rfl rfl (J_st (R_pickF rfl rfl) rfl (J_cutEnd ⟨rfl, rfl, rfl, rfl, rfl, congrArg (fun b => some (Value.bool b)) (show false = (((decide (x.nodes = y.nodes)) && (x.workers == y.workers)) && (x.cap == y.cap)) by first | (rw [hg1, hg2] <;> rfl) | (simp [hg1, hg2]; done) | (simp only [nat_nlt] <;> simp)), trivial⟩ rfl))))))
    · refine J_gdno rfl rfl rfl rfl (J_gdno rfl rfl rfl rfl (J_gdno rfl rfl rfl rfl (J_gdno rfl rfl rfl rfl (J_gdno rfl rfl rfl rfl (J_st (R_pickF rfl rfl) rfl (J_st (R_move rfl) rfl (J_gdno rfl rfl rfl rfl (J_gdno rfl rfl rfl rfl (J_gdno rfl rfl rfl rfl (J_gdno rfl rfl rfl rfl (J_gdno rfl rfl rfl rfl (J_st (R_pickF rfl rfl) rfl (J_cutEnd ⟨rfl, rfl, rfl, rfl, rfl, congrArg (fun b => some (Value.bool b)) (show false = (((decide (x.nodes = y.nodes)) && (x.workers == y.workers)) && (x.cap == y.cap)) by first | (rw [hg1] <;> rfl) | (simp [hg1]; done) | (simp only [nat_nlt] <;> simp)), trivial⟩ rfl)))))))))))))
  rintro _ rfl
  refine J_st (R_assign rfl) rfl (J_done ?_)
  refine S_ret (E_done1 rfl rfl E ?_)
  refine congrArg Value.bool (Bool.eq_iff_iff.2 ?_); cases x; cases y; simp [and_assoc]

set_option maxHeartbeats 4000000 in
set_option maxRecDepth 20000 in
theorem l_FnGraphs (vcode : Value) (code : List Byt) (w : World) (hcode : RdS w vcode code) (kcode : ∀ y ∈ code, True) : Ct Try.prog 3 [vcode] w (fun v _ => v = .bool true) := by
  refine ct_of Try.func3 rfl Try.ntmps3 rfl ?_
  refine S_sub [(0, vcode)] ⟨rfl, trivial⟩ ?_
  have E : Ext w w := Ext.refl w
  refine S_seq ?_
  refine S_reg [true] rfl rfl ?_
  refine J_st (R_assign rfl) rfl (J_done ?_)
  refine S_seq ?_
  refine S_seq ?_
  refine S_reg [true, false] rfl rfl ?_
  refine J_st (R_move rfl) rfl ?_
  refine J_call Try.call6 rfl (l_big vcode code _ (hcode.ext E)) rfl (fun _ w1 e1 hv => ?_)
  subst hv
  replace E := E.trans e1
  have z1 := e1.size
  refine J_done ?_
  refine S_cond rfl (fun hc1 => ?_) (fun hc1 => ?_)
  · refine S_seq ?_
    refine S_reg [true] rfl rfl ?_
    refine J_st (R_assign rfl) rfl (J_done ?_)
    refine S_ret (E_done1 rfl rfl E ?_)
    rfl
  · refine S_skip ?_
    refine S_seq ?_
    refine S_reg [true, false, false, false] rfl rfl ?_
    refine J_st (R_move rfl) rfl ?_
    refine J_call Try.call7 rfl (s_DrawGraphOk vcode code _ (hcode.ext E)) rfl (fun v1 w2 e2 ho1 => ?_)
    obtain ⟨dx1, q1, ho1⟩ := ho1
    obtain ⟨_, rfl, ho1⟩ := ho1
    obtain ⟨o1, rfl, hd1⟩ := Graph.op ho1
    replace E := E.trans e2
    have z2 := e2.size
    refine J_alloc st26 rfl (fun b1 w3 e3 s1 h1 => ?_)
    have g_b1 : w.heap.size ≤ b1 := by have := E.size; omega
    have y_b1 := h1.lt
    replace E := E.trans e3; replace hd1 := hd1.ext e3
    have z3 := e3.size
    refine J_storeS' (cs' := [o1, .int .i64 dx1.workers, .int .i64 dx1.cap]) st26 rfl rfl rfl (all_cons (RdD.one hd1) (all_cons rfl (all_cons rfl rfl))) h1 (Nat.le_of_ble_eq_true rfl) rfl (fun w4 m1 h1' => ?_)
    replace h1 := h1'
    replace E := E.step m1 (fun g hg => by cases hg; omega); replace hd1 := hd1.mod m1 (fun g hg => by cases hg; omega)
    have z4 := m1.size
    refine J_done ?_
    refine S_seq ?_
    refine S_reg [true, false, true] rfl rfl ?_
    refine J_st (R_loadS st26 rfl h1.at rfl) rfl ?_
    refine J_call Try.call8 rfl (c_GraphOk [o1, .int .i64 dx1.workers, .int .i64 dx1.cap] dx1 _ (Graph.mkR dx1 (RdD.any hd1))) rfl (fun _ w5 e4 hv => ?_)
    subst hv
    replace E := E.trans e4; replace hd1 := hd1.ext e4; replace h1 := h1.ext e4
    have z5 := e4.size
    refine J_st (R_assign rfl) rfl (J_done ?_)
    refine S_seq ?_
    refine S_seq ?_
    refine S_regD mixed [(0, true), (1, true), (2, false), (3, true), (4, true), (5, true), (7, true), (6, false), (8, false), (9, false), (10, true), (11, true), (12, true), (13, true), (15, true), (14, false), (16, false), (17, true), (18, true)] (by decide +kernel) rfl (fun w6 e5 => ?_)
    replace E := E.trans e5; replace hd1 := hd1.ext e5; replace h1 := h1.ext e5
    have z6 := e5.size
    refine J_st (R_move rfl) rfl (J_st (R_loadS st26 rfl h1.at rfl) rfl ?_)
    refine J_call Try.call9 rfl (s_GraphOk [o1, .int .i64 dx1.workers, .int .i64 dx1.cap] dx1 _ (Graph.mkR dx1 (RdD.any hd1))) rfl (fun _ w7 e6 hv => ?_)
    subst hv
    replace E := E.trans e6; replace hd1 := hd1.ext e6; replace h1 := h1.ext e6
    have z7 := e6.size
    refine J_st (R_neqB (Try.underlying4) rfl rfl) rfl (J_st (R_move rfl) rfl ?_)
    refine J_cut 14 [(0, vcode), (2, .bool false), (3, .pointer (some ⟨b1, 0, none⟩)), (4, .bool (graphOk dx1)), (21, vcode), (22, .bool (decide (((code.length : Nat) : Int) > 1048576))), (23, vcode), (24, .agg [o1, .int .i64 dx1.workers, .int .i64 dx1.cap].toArray), (25, .agg [o1, .int .i64 dx1.workers, .int .i64 dx1.cap].toArray), (26, .bool (graphOk dx1)), (45, .bool (((!((graphOk dx1) == (graphOk dx1))) || (!(decide ((outsTo dx1 dx1.nodes.length) = (outsTo dx1 dx1.nodes.length))))) || (!((hasLoopM dx1) == (hasLoopM dx1)))))] (fun w' => Ext w w' ∧ w7.heap.size ≤ w'.heap.size ∧ RdD w' w1.heap.size w2.heap.size o1 dx1.nodes ∧ Blk w' b1 [o1, .int .i64 dx1.workers, .int .i64 dx1.cap]) ?_ ?_
    · refine J_if (gd := 31) rfl rfl (fun hg1 => ?_) (fun hg1 => ?_)
      · exact absurd hg1 (by first | (simp; done) | (simp only [nat_nlt] <;> simp) | (simp only [mkL_length, nat_nlt] <;> simp) | (simp only [mkL_length] <;> simp))
      · refine J_gd rfl rfl (R_loadS st26 rfl h1.at rfl) rfl (J_gd rfl rfl (R_loadS st26 rfl h1.at rfl) rfl ?_)
        refine J_ung rfl rfl ?_
        refine J_call Try.call11 rfl (c_OutsOf [o1, .int .i64 dx1.workers, .int .i64 dx1.cap] dx1 _ (Graph.mkR dx1 (RdD.any hd1)) (smG_cnt (by assumption))) rfl (fun v2 w9 e7 ho2 => ?_)
        have g_ho2 : w.heap.size ≤ w7.heap.size := E.size
        replace E := E.trans e7; replace hd1 := hd1.ext e7; replace h1 := h1.ext e7
        have z8 := e7.size
        refine J_ung rfl rfl ?_
        refine J_call Try.call12 rfl (s_OutsOf [o1, .int .i64 dx1.workers, .int .i64 dx1.cap] dx1 _ (Graph.mkR dx1 (RdD.any hd1)) (smG_cnt (by assumption))) rfl (fun v3 w10 e8 ho3 => ?_)
        have g_ho3 : w.heap.size ≤ w9.heap.size := E.size
        replace E := E.trans e8; replace hd1 := hd1.ext e8; replace h1 := h1.ext e8; replace ho2 := ho2.ext e8
        have z9 := e8.size
        refine J_ung rfl rfl ?_
        refine J_call Try.call10 rfl (l_sameInts v2 (outsTo dx1 dx1.nodes.length) v3 (outsTo dx1 dx1.nodes.length) _ (Own.rd (by decide) ho2) (Own.rd (by decide) ho3)) rfl (fun _ w11 e9 hv => ?_)
        subst hv
        replace E := E.trans e9; replace hd1 := hd1.ext e9; replace h1 := h1.ext e9; replace ho2 := ho2.ext e9; replace ho3 := ho3.ext e9
        have z10 := e9.size
        refine J_gd rfl rfl (R_not rfl) rfl (J_st (R_pickF rfl rfl) rfl (J_st (R_move rfl) rfl ?_))
        refine J_if (gd := 39) rfl rfl (fun hg2 => ?_) (fun hg2 => ?_)
        · exact absurd hg2 (by first | (simp; done) | (simp only [nat_nlt] <;> simp) | (simp only [mkL_length, nat_nlt] <;> simp) | (simp only [mkL_length] <;> simp))
        · refine J_gd rfl rfl (R_loadS st26 rfl h1.at rfl) rfl (J_gd rfl rfl (R_loadS st26 rfl h1.at rfl) rfl ?_)
          refine J_ung rfl rfl ?_
          refine J_call Try.call13 rfl (c_HasLoop [o1, .int .i64 dx1.workers, .int .i64 dx1.cap] dx1 _ (Graph.mkR dx1 (RdD.any hd1))) rfl (fun _ w12 e10 hv => ?_)
          subst hv
          replace E := E.trans e10; replace hd1 := hd1.ext e10; replace h1 := h1.ext e10; replace ho2 := ho2.ext e10; replace ho3 := ho3.ext e10
          have z11 := e10.size
          refine J_ung rfl rfl ?_
          refine J_call Try.call14 rfl (s_HasLoop [o1, .int .i64 dx1.workers, .int .i64 dx1.cap] dx1 _ (Graph.mkR dx1 (RdD.any hd1))) rfl (fun _ w13 e11 hv => ?_)
          subst hv
          replace E := E.trans e11; replace hd1 := hd1.ext e11; replace h1 := h1.ext e11; replace ho2 := ho2.ext e11; replace ho3 := ho3.ext e11
          have z12 := e11.size
          refine J_gd rfl rfl (R_neqB (Try.underlying4) rfl rfl) rfl (J_st (R_pickF rfl rfl) rfl (J_cutEnd ⟨rfl, rfl, rfl, rfl, rfl, rfl, rfl, rfl, rfl, rfl, congrArg (fun b => some (Value.bool b)) (show (!((hasLoopM dx1) == (hasLoopM dx1))) = (((!((graphOk dx1) == (graphOk dx1))) || (!(decide ((outsTo dx1 dx1.nodes.length) = (outsTo dx1 dx1.nodes.length))))) || (!((hasLoopM dx1) == (hasLoopM dx1)))) by first | (rw [hg1, hg2] <;> rfl) | (simp [hg1, hg2]; done) | (simp only [nat_nlt] <;> simp)), trivial⟩ ⟨E, (by omega), hd1, h1⟩))
    clear E hd1 h1
    rintro w8 ⟨E, z13, hd1, h1⟩
    refine J_done ?_
    refine S_condFe rfl (by first | (simp; done) | (simp only [nat_nlt] <;> simp) | (simp only [mkL_length, nat_nlt] <;> simp) | (simp only [mkL_length] <;> simp)) ?_
    refine S_skip ?_
    refine S_seq ?_
    refine S_reg [true, false, true, true, true, true, false, false, true, true] rfl rfl ?_
    refine J_st (R_move rfl) rfl ?_
    refine J_call Try.call15 rfl (s_DrawReaches vcode code _ (hcode.ext E)) rfl (fun _ w14 e12 ho4 => ?_)
    obtain ⟨dx2, dx3, dx4, q2, ho4⟩ := ho4
    obtain ⟨_, rfl, ho5⟩ := ho4
    have g_ho4 : w.heap.size ≤ w8.heap.size := E.size
    replace E := E.trans e12; replace hd1 := hd1.ext e12; replace h1 := h1.ext e12
    have z14 := e12.size
    obtain ⟨o2, rfl, hd2⟩ := Graph.op ho5
    refine J_st (R_move rfl) rfl (J_st (R_extract rfl rfl) rfl (J_st (R_extract rfl rfl) rfl (J_st (R_extract rfl rfl) rfl ?_)))
    refine J_alloc st26 rfl (fun b2 w15 e13 s2 h2 => ?_)
    have g_b2 : w.heap.size ≤ b2 := by have := E.size; omega
    have y_b2 := h2.lt
    replace E := E.trans e13; replace hd1 := hd1.ext e13; replace h1 := h1.ext e13; replace hd2 := hd2.ext e13
    have z15 := e13.size
    refine J_storeS' (cs' := [o2, .int .i64 dx2.workers, .int .i64 dx2.cap]) st26 rfl rfl rfl (all_cons (RdD.one hd2) (all_cons rfl (all_cons rfl rfl))) h2 (Nat.le_of_ble_eq_true rfl) rfl (fun w16 m2 h2' => ?_)
    replace h2 := h2'
    replace E := E.step m2 (fun g hg => by cases hg; omega); replace hd1 := hd1.mod m2 (fun g hg => by cases hg; omega); replace h1 := h1.mod m2 (fun g hg => by cases hg; omega); replace hd2 := hd2.mod m2 (fun g hg => by cases hg; omega)
    have z16 := m2.size
    refine J_st (R_assign rfl) rfl (J_st (R_assign rfl) rfl (J_done ?_))
    refine S_seq ?_
    refine S_reg [true, false, true, true, true, false, false, true] rfl rfl ?_
    refine J_st (R_move rfl) rfl ?_
    refine J_call Try.call16 rfl (s_DrawNodeOf vcode code _ (hcode.ext E)) rfl (fun _ w17 e14 ho6 => ?_)
    obtain ⟨dx5, dx6, q3, ho6⟩ := ho6
    obtain ⟨_, rfl, ho7⟩ := ho6
    have g_ho6 : w.heap.size ≤ w16.heap.size := E.size
    replace E := E.trans e14; replace hd1 := hd1.ext e14; replace h1 := h1.ext e14; replace hd2 := hd2.ext e14; replace h2 := h2.ext e14
    have z17 := e14.size
    obtain ⟨o3, rfl, hd3⟩ := Graph.op ho7
    refine J_st (R_move rfl) rfl (J_st (R_extract rfl rfl) rfl (J_st (R_extract rfl rfl) rfl ?_))
    refine J_alloc st26 rfl (fun b3 w18 e15 s3 h3 => ?_)
    have g_b3 : w.heap.size ≤ b3 := by have := E.size; omega
    have y_b3 := h3.lt
    replace E := E.trans e15; replace hd1 := hd1.ext e15; replace h1 := h1.ext e15; replace hd2 := hd2.ext e15; replace h2 := h2.ext e15; replace hd3 := hd3.ext e15
    have z18 := e15.size
    refine J_storeS' (cs' := [o3, .int .i64 dx5.workers, .int .i64 dx5.cap]) st26 rfl rfl rfl (all_cons (RdD.one hd3) (all_cons rfl (all_cons rfl rfl))) h3 (Nat.le_of_ble_eq_true rfl) rfl (fun w19 m3 h3' => ?_)
    replace h3 := h3'
    replace E := E.step m3 (fun g hg => by cases hg; omega); replace hd1 := hd1.mod m3 (fun g hg => by cases hg; omega); replace h1 := h1.mod m3 (fun g hg => by cases hg; omega); replace hd2 := hd2.mod m3 (fun g hg => by cases hg; omega); replace h2 := h2.mod m3 (fun g hg => by cases hg; omega); replace hd3 := hd3.mod m3 (fun g hg => by cases hg; omega)
    have z19 := m3.size
    refine J_st (R_assign rfl) rfl (J_done ?_)
    refine S_seq ?_
    refine S_reg [true, true, false, true, true, true, false, false, true] rfl rfl ?_
    refine J_st (R_loadS st26 rfl h3.at rfl) rfl (J_st (R_move rfl) rfl ?_)
    refine J_call Try.call17 rfl (c_NodeOf [o3, .int .i64 dx5.workers, .int .i64 dx5.cap] dx5 dx6 _ (Graph.mkR dx5 (RdD.any hd3)) (smG_cnt (by assumption))) rfl (fun _ w20 e16 ho8 => ?_)
    obtain ⟨_, rfl, ho9⟩ := ho8
    have g_ho8 : w.heap.size ≤ w19.heap.size := E.size
    replace E := E.trans e16; replace hd1 := hd1.ext e16; replace h1 := h1.ext e16; replace hd2 := hd2.ext e16; replace h2 := h2.ext e16; replace hd3 := hd3.ext e16; replace h3 := h3.ext e16
    have z20 := e16.size
    obtain ⟨o4, rfl, sp1, hw1⟩ := Node.opO ho9
    refine J_st (R_move rfl) rfl (J_st (R_extract rfl rfl) rfl (J_st (R_extract rfl rfl) rfl ?_))
    refine J_alloc st37 rfl (fun b4 w21 e17 s4 h4 => ?_)
    have g_b4 : w.heap.size ≤ b4 := by have := E.size; omega
    have y_b4 := h4.lt
    replace E := E.trans e17; replace hd1 := hd1.ext e17; replace h1 := h1.ext e17; replace hd2 := hd2.ext e17; replace h2 := h2.ext e17; replace hd3 := hd3.ext e17; replace h3 := h3.ext e17; replace hw1 := hw1.ext e17
    have z21 := e17.size
    refine J_storeS' (cs' := [.int .i64 (((nodeOf dx5 dx6).1).kind), .int .i64 (((nodeOf dx5 dx6).1).a), .int .i64 (((nodeOf dx5 dx6).1).b), o4]) st37 rfl rfl rfl (all_cons rfl (all_cons rfl (all_cons rfl (all_cons hw1.one rfl)))) h4 (Nat.le_of_ble_eq_true rfl) rfl (fun w22 m4 h4' => ?_)
    replace h4 := h4'
    replace E := E.step m4 (fun g hg => by cases hg; omega); replace hd1 := hd1.mod m4 (fun g hg => by cases hg; omega); replace h1 := h1.mod m4 (fun g hg => by cases hg; omega); replace hd2 := hd2.mod m4 (fun g hg => by cases hg; omega); replace h2 := h2.mod m4 (fun g hg => by cases hg; omega); replace hd3 := hd3.mod m4 (fun g hg => by cases hg; omega); replace h3 := h3.mod m4 (fun g hg => by cases hg; omega); replace hw1 := hw1.mod m4 (fun g hg => by cases hg; omega)
    have z22 := m4.size
    refine J_st (R_assign rfl) rfl (J_done ?_)
    refine S_seq ?_
    refine S_reg [true, true, false, true, true, true, false, false, true] rfl rfl ?_
    refine J_st (R_loadS st26 rfl h3.at rfl) rfl (J_st (R_move rfl) rfl ?_)
    refine J_call Try.call18 rfl (s_NodeOf [o3, .int .i64 dx5.workers, .int .i64 dx5.cap] dx5 dx6 _ (Graph.mkR dx5 (RdD.any hd3)) (smG_cnt (by assumption))) rfl (fun _ w23 e18 ho10 => ?_)
    obtain ⟨_, rfl, ho11⟩ := ho10
    have g_ho10 : w.heap.size ≤ w22.heap.size := E.size
    replace E := E.trans e18; replace hd1 := hd1.ext e18; replace h1 := h1.ext e18; replace hd2 := hd2.ext e18; replace h2 := h2.ext e18; replace hd3 := hd3.ext e18; replace h3 := h3.ext e18; replace hw1 := hw1.ext e18; replace h4 := h4.ext e18
    have z23 := e18.size
    obtain ⟨o5, rfl, sp2, hw2⟩ := Node.opO ho11
    refine J_st (R_move rfl) rfl (J_st (R_extract rfl rfl) rfl (J_st (R_extract rfl rfl) rfl ?_))
    refine J_alloc st37 rfl (fun b5 w24 e19 s5 h5 => ?_)
    have g_b5 : w.heap.size ≤ b5 := by have := E.size; omega
    have y_b5 := h5.lt
    replace E := E.trans e19; replace hd1 := hd1.ext e19; replace h1 := h1.ext e19; replace hd2 := hd2.ext e19; replace h2 := h2.ext e19; replace hd3 := hd3.ext e19; replace h3 := h3.ext e19; replace hw1 := hw1.ext e19; replace h4 := h4.ext e19; replace hw2 := hw2.ext e19
    have z24 := e19.size
    refine J_storeS' (cs' := [.int .i64 (((nodeOf dx5 dx6).1).kind), .int .i64 (((nodeOf dx5 dx6).1).a), .int .i64 (((nodeOf dx5 dx6).1).b), o5]) st37 rfl rfl rfl (all_cons rfl (all_cons rfl (all_cons rfl (all_cons hw2.one rfl)))) h5 (Nat.le_of_ble_eq_true rfl) rfl (fun w25 m5 h5' => ?_)
    replace h5 := h5'
    replace E := E.step m5 (fun g hg => by cases hg; omega); replace hd1 := hd1.mod m5 (fun g hg => by cases hg; omega); replace h1 := h1.mod m5 (fun g hg => by cases hg; omega); replace hd2 := hd2.mod m5 (fun g hg => by cases hg; omega); replace h2 := h2.mod m5 (fun g hg => by cases hg; omega); replace hd3 := hd3.mod m5 (fun g hg => by cases hg; omega); replace h3 := h3.mod m5 (fun g hg => by cases hg; omega); replace hw1 := hw1.mod m5 (fun g hg => by cases hg; omega); replace h4 := h4.mod m5 (fun g hg => by cases hg; omega); replace hw2 := hw2.mod m5 (fun g hg => by cases hg; omega)
    have z25 := m5.size
    refine J_st (R_assign rfl) rfl (J_done ?_)
    refine S_seq ?_
    refine S_reg [true, false, true, true, true, false, false, false, false] rfl rfl ?_
    refine J_st (R_move rfl) rfl ?_
    refine J_call Try.call19 rfl (s_DrawSameGraph vcode code _ (hcode.ext E)) rfl (fun _ w26 e20 ho12 => ?_)
    obtain ⟨dx7, dx8, q4, q5, ho12⟩ := ho12
    obtain ⟨_, _, rfl, ho13, ho14⟩ := ho12
    have g_ho12 : w.heap.size ≤ w25.heap.size := E.size
    replace E := E.trans e20; replace hd1 := hd1.ext e20; replace h1 := h1.ext e20; replace hd2 := hd2.ext e20; replace h2 := h2.ext e20; replace hd3 := hd3.ext e20; replace h3 := h3.ext e20; replace hw1 := hw1.ext e20; replace h4 := h4.ext e20; replace hw2 := hw2.ext e20; replace h5 := h5.ext e20
    have z26 := e20.size
    obtain ⟨o6, rfl, hd4⟩ := Graph.op ho13
    obtain ⟨o7, rfl, hd5⟩ := Graph.op ho14
    refine J_st (R_move rfl) rfl (J_st (R_extract rfl rfl) rfl (J_st (R_extract rfl rfl) rfl ?_))
    refine J_alloc st26 rfl (fun b6 w27 e21 s6 h6 => ?_)
    have g_b6 : w.heap.size ≤ b6 := by have := E.size; omega
    have y_b6 := h6.lt
    replace E := E.trans e21; replace hd1 := hd1.ext e21; replace h1 := h1.ext e21; replace hd2 := hd2.ext e21; replace h2 := h2.ext e21; replace hd3 := hd3.ext e21; replace h3 := h3.ext e21; replace hw1 := hw1.ext e21; replace h4 := h4.ext e21; replace hw2 := hw2.ext e21; replace h5 := h5.ext e21; replace hd4 := hd4.ext e21; replace hd5 := hd5.ext e21
    have z27 := e21.size
    refine J_alloc st26 rfl (fun b7 w28 e22 s7 h7 => ?_)
    have g_b7 : w.heap.size ≤ b7 := by have := E.size; omega
    have y_b7 := h7.lt
    replace E := E.trans e22; replace hd1 := hd1.ext e22; replace h1 := h1.ext e22; replace hd2 := hd2.ext e22; replace h2 := h2.ext e22; replace hd3 := hd3.ext e22; replace h3 := h3.ext e22; replace hw1 := hw1.ext e22; replace h4 := h4.ext e22; replace hw2 := hw2.ext e22; replace h5 := h5.ext e22; replace hd4 := hd4.ext e22; replace hd5 := hd5.ext e22; replace h6 := h6.ext e22
    have z28 := e22.size
    refine J_storeS' (cs' := [o6, .int .i64 dx7.workers, .int .i64 dx7.cap]) st26 rfl rfl rfl (all_cons (RdD.one hd4) (all_cons rfl (all_cons rfl rfl))) h6 (Nat.le_of_ble_eq_true rfl) rfl (fun w29 m6 h6' => ?_)
    replace h6 := h6'
    replace E := E.step m6 (fun g hg => by cases hg; omega); replace hd1 := hd1.mod m6 (fun g hg => by cases hg; omega); replace h1 := h1.mod m6 (fun g hg => by cases hg; omega); replace hd2 := hd2.mod m6 (fun g hg => by cases hg; omega); replace h2 := h2.mod m6 (fun g hg => by cases hg; omega); replace hd3 := hd3.mod m6 (fun g hg => by cases hg; omega); replace h3 := h3.mod m6 (fun g hg => by cases hg; omega); replace hw1 := hw1.mod m6 (fun g hg => by cases hg; omega); replace h4 := h4.mod m6 (fun g hg => by cases hg; omega); replace hw2 := hw2.mod m6 (fun g hg => by cases hg; omega); replace h5 := h5.mod m6 (fun g hg => by cases hg; omega); replace hd4 := hd4.mod m6 (fun g hg => by cases hg; omega); replace hd5 := hd5.mod m6 (fun g hg => by cases hg; omega); replace h7 := h7.mod m6 (fun g hg => by cases hg; omega)
    have z29 := m6.size
    refine J_storeS' (cs' := [o7, .int .i64 dx8.workers, .int .i64 dx8.cap]) st26 rfl rfl rfl (all_cons (RdD.one hd5) (all_cons rfl (all_cons rfl rfl))) h7 (Nat.le_of_ble_eq_true rfl) rfl (fun w30 m7 h7' => ?_)
    replace h7 := h7'
    replace E := E.step m7 (fun g hg => by cases hg; omega); replace hd1 := hd1.mod m7 (fun g hg => by cases hg; omega); replace h1 := h1.mod m7 (fun g hg => by cases hg; omega); replace hd2 := hd2.mod m7 (fun g hg => by cases hg; omega); replace h2 := h2.mod m7 (fun g hg => by cases hg; omega); replace hd3 := hd3.mod m7 (fun g hg => by cases hg; omega); replace h3 := h3.mod m7 (fun g hg => by cases hg; omega); replace hw1 := hw1.mod m7 (fun g hg => by cases hg; omega); replace h4 := h4.mod m7 (fun g hg => by cases hg; omega); replace hw2 := hw2.mod m7 (fun g hg => by cases hg; omega); replace h5 := h5.mod m7 (fun g hg => by cases hg; omega); replace hd4 := hd4.mod m7 (fun g hg => by cases hg; omega); replace hd5 := hd5.mod m7 (fun g hg => by cases hg; omega); replace h6 := h6.mod m7 (fun g hg => by cases hg; omega)
    have z30 := m7.size
    refine J_done ?_
    refine S_seq ?_
    refine S_seq ?_
    refine S_regD mixed [(0, true), (1, true), (2, true), (4, true), (5, true), (6, true), (3, false), (7, false), (8, true), (9, true), (10, true), (11, true), (12, true), (13, true), (14, true), (15, true), (16, true), (17, false), (18, true), (19, true), (20, true), (21, true), (22, true), (24, true), (25, true), (23, false), (26, false), (27, true), (28, true)] (by decide +kernel) rfl (fun w31 e23 => ?_)
    replace E := E.trans e23; replace hd1 := hd1.ext e23; replace h1 := h1.ext e23; replace hd2 := hd2.ext e23; replace h2 := h2.ext e23; replace hd3 := hd3.ext e23; replace h3 := h3.ext e23; replace hw1 := hw1.ext e23; replace h4 := h4.ext e23; replace hw2 := hw2.ext e23; replace h5 := h5.ext e23; replace hd4 := hd4.ext e23; replace hd5 := hd5.ext e23; replace h6 := h6.ext e23; replace h7 := h7.ext e23
    have z31 := e23.size
    refine J_st (R_loadS st26 rfl h2.at rfl) rfl (J_st (R_move rfl) rfl (J_st (R_move rfl) rfl (J_st (R_loadS st26 rfl h2.at rfl) rfl (J_st (R_move rfl) rfl (J_st (R_move rfl) rfl ?_)))))
    refine J_call Try.call20 rfl (c_Reaches [o2, .int .i64 dx2.workers, .int .i64 dx2.cap] dx2 dx3 dx4 _ (Graph.mkR dx2 (RdD.any hd2))) rfl (fun _ w32 e24 hv => ?_)
    subst hv
    replace E := E.trans e24; replace hd1 := hd1.ext e24; replace h1 := h1.ext e24; replace hd2 := hd2.ext e24; replace h2 := h2.ext e24; replace hd3 := hd3.ext e24; replace h3 := h3.ext e24; replace hw1 := hw1.ext e24; replace h4 := h4.ext e24; replace hw2 := hw2.ext e24; replace h5 := h5.ext e24; replace hd4 := hd4.ext e24; replace hd5 := hd5.ext e24; replace h6 := h6.ext e24; replace h7 := h7.ext e24
    have z32 := e24.size
    refine J_call Try.call21 rfl (s_Reaches [o2, .int .i64 dx2.workers, .int .i64 dx2.cap] dx2 dx3 dx4 _ (Graph.mkR dx2 (RdD.any hd2))) rfl (fun _ w33 e25 hv => ?_)
    subst hv
    replace E := E.trans e25; replace hd1 := hd1.ext e25; replace h1 := h1.ext e25; replace hd2 := hd2.ext e25; replace h2 := h2.ext e25; replace hd3 := hd3.ext e25; replace h3 := h3.ext e25; replace hw1 := hw1.ext e25; replace h4 := h4.ext e25; replace hw2 := hw2.ext e25; replace h5 := h5.ext e25; replace hd4 := hd4.ext e25; replace hd5 := hd5.ext e25; replace h6 := h6.ext e25; replace h7 := h7.ext e25
    have z33 := e25.size
    refine J_st (R_neqB (Try.underlying4) rfl rfl) rfl (J_st (R_move rfl) rfl ?_)
    refine J_cut 19 [(0, vcode), (2, .bool false), (3, .pointer (some ⟨b1, 0, none⟩)), (4, .bool (graphOk dx1)), (5, .pointer (some ⟨b2, 0, none⟩)), (6, .int .i64 dx3), (7, .int .i64 dx4), (8, .pointer (some ⟨b3, 0, none⟩)), (9, .int .i64 dx6), (10, .pointer (some ⟨b4, 0, none⟩)), (11, .bool ((nodeOf dx5 dx6).2)), (12, .pointer (some ⟨b5, 0, none⟩)), (13, .bool ((nodeOf dx5 dx6).2)), (14, .pointer (some ⟨b6, 0, none⟩)), (15, .pointer (some ⟨b7, 0, none⟩)), (21, vcode), (22, .bool (decide (((code.length : Nat) : Int) > 1048576))), (23, vcode), (24, .agg [o1, .int .i64 dx1.workers, .int .i64 dx1.cap].toArray), (25, .agg [o1, .int .i64 dx1.workers, .int .i64 dx1.cap].toArray), (26, .bool (graphOk dx1)), (45, .bool (((!((graphOk dx1) == (graphOk dx1))) || (!(decide ((outsTo dx1 dx1.nodes.length) = (outsTo dx1 dx1.nodes.length))))) || (!((hasLoopM dx1) == (hasLoopM dx1))))), (46, .tuple [.agg [o2, .int .i64 dx2.workers, .int .i64 dx2.cap].toArray, .int .i64 dx3, .int .i64 dx4].toArray), (47, vcode), (48, .tuple [.agg [o2, .int .i64 dx2.workers, .int .i64 dx2.cap].toArray, .int .i64 dx3, .int .i64 dx4].toArray), (49, .agg [o2, .int .i64 dx2.workers, .int .i64 dx2.cap].toArray), (50, .int .i64 dx3), (51, .int .i64 dx4), (52, .tuple [.agg [o3, .int .i64 dx5.workers, .int .i64 dx5.cap].toArray, .int .i64 dx6].toArray), (53, vcode), (54, .tuple [.agg [o3, .int .i64 dx5.workers, .int .i64 dx5.cap].toArray, .int .i64 dx6].toArray), (55, .agg [o3, .int .i64 dx5.workers, .int .i64 dx5.cap].toArray), (56, .int .i64 dx6), (57, .tuple [.agg [.int .i64 (((nodeOf dx5 dx6).1).kind), .int .i64 (((nodeOf dx5 dx6).1).a), .int .i64 (((nodeOf dx5 dx6).1).b), o4].toArray, .bool ((nodeOf dx5 dx6).2)].toArray), (58, .agg [o3, .int .i64 dx5.workers, .int .i64 dx5.cap].toArray), (59, .int .i64 dx6), (60, .tuple [.agg [.int .i64 (((nodeOf dx5 dx6).1).kind), .int .i64 (((nodeOf dx5 dx6).1).a), .int .i64 (((nodeOf dx5 dx6).1).b), o4].toArray, .bool ((nodeOf dx5 dx6).2)].toArray), (61, .agg [.int .i64 (((nodeOf dx5 dx6).1).kind), .int .i64 (((nodeOf dx5 dx6).1).a), .int .i64 (((nodeOf dx5 dx6).1).b), o4].toArray), (62, .bool ((nodeOf dx5 dx6).2)), (63, .tuple [.agg [.int .i64 (((nodeOf dx5 dx6).1).kind), .int .i64 (((nodeOf dx5 dx6).1).a), .int .i64 (((nodeOf dx5 dx6).1).b), o5].toArray, .bool ((nodeOf dx5 dx6).2)].toArray), (64, .agg [o3, .int .i64 dx5.workers, .int .i64 dx5.cap].toArray), (65, .int .i64 dx6), (66, .tuple [.agg [.int .i64 (((nodeOf dx5 dx6).1).kind), .int .i64 (((nodeOf dx5 dx6).1).a), .int .i64 (((nodeOf dx5 dx6).1).b), o5].toArray, .bool ((nodeOf dx5 dx6).2)].toArray), (67, .agg [.int .i64 (((nodeOf dx5 dx6).1).kind), .int .i64 (((nodeOf dx5 dx6).1).a), .int .i64 (((nodeOf dx5 dx6).1).b), o5].toArray), (68, .bool ((nodeOf dx5 dx6).2)), (69, .tuple [.agg [o6, .int .i64 dx7.workers, .int .i64 dx7.cap].toArray, .agg [o7, .int .i64 dx8.workers, .int .i64 dx8.cap].toArray].toArray), (70, vcode), (71, .tuple [.agg [o6, .int .i64 dx7.workers, .int .i64 dx7.cap].toArray, .agg [o7, .int .i64 dx8.workers, .int .i64 dx8.cap].toArray].toArray), (72, .agg [o6, .int .i64 dx7.workers, .int .i64 dx7.cap].toArray), (73, .agg [o7, .int .i64 dx8.workers, .int .i64 dx8.cap].toArray), (102, .bool ((((!((reaches dx2 dx3 dx4) == (reaches dx2 dx3 dx4))) || (!(((nodeOf dx5 dx6).2) == ((nodeOf dx5 dx6).2)))) || (!(decide (((nodeOf dx5 dx6).1) = ((nodeOf dx5 dx6).1))))) || (!((decide (dx7 = dx8)) == (decide (dx7 = dx8))))))] (fun w' => Ext w w' ∧ w33.heap.size ≤ w'.heap.size ∧ RdD w' w1.heap.size w2.heap.size o1 dx1.nodes ∧ Blk w' b1 [o1, .int .i64 dx1.workers, .int .i64 dx1.cap] ∧ RdD w' w8.heap.size w14.heap.size o2 dx2.nodes ∧ Blk w' b2 [o2, .int .i64 dx2.workers, .int .i64 dx2.cap] ∧ RdD w' w16.heap.size w17.heap.size o3 dx5.nodes ∧ Blk w' b3 [o3, .int .i64 dx5.workers, .int .i64 dx5.cap] ∧ Own w' w19.heap.size w20.heap.size 1 o4 (List.flatMap (Enc.enc (α := Int)) (((nodeOf dx5 dx6).1).outs)) ∧ Blk w' b4 [.int .i64 (((nodeOf dx5 dx6).1).kind), .int .i64 (((nodeOf dx5 dx6).1).a), .int .i64 (((nodeOf dx5 dx6).1).b), o4] ∧ Own w' w22.heap.size w23.heap.size 1 o5 (List.flatMap (Enc.enc (α := Int)) (((nodeOf dx5 dx6).1).outs)) ∧ Blk w' b5 [.int .i64 (((nodeOf dx5 dx6).1).kind), .int .i64 (((nodeOf dx5 dx6).1).a), .int .i64 (((nodeOf dx5 dx6).1).b), o5] ∧ RdD w' w25.heap.size w26.heap.size o6 dx7.nodes ∧ RdD w' w25.heap.size w26.heap.size o7 dx8.nodes ∧ Blk w' b6 [o6, .int .i64 dx7.workers, .int .i64 dx7.cap] ∧ Blk w' b7 [o7, .int .i64 dx8.workers, .int .i64 dx8.cap]) ?_ ?_
    · refine J_if (gd := 83) rfl rfl (fun hg3 => ?_) (fun hg3 => ?_)
      · exact absurd hg3 (by first | (simp; done) | (simp only [nat_nlt] <;> simp) | (simp only [mkL_length, nat_nlt] <;> simp) | (simp only [mkL_length] <;> simp))
      · refine J_gd rfl rfl (R_move rfl) rfl (J_gd rfl rfl (R_move rfl) rfl (J_gd rfl rfl (R_neqB (Try.underlying4) rfl rfl) rfl (J_st (R_pickF rfl rfl) rfl (J_st (R_move rfl) rfl ?_))))
        refine J_if (gd := 88) rfl rfl (fun hg4 => ?_) (fun hg4 => ?_)
        · exact absurd hg4 (by first | (simp; done) | (simp only [nat_nlt] <;> simp) | (simp only [mkL_length, nat_nlt] <;> simp) | (simp only [mkL_length] <;> simp))
        · refine J_gd rfl rfl (R_loadS st37 rfl h4.at rfl) rfl (J_gd rfl rfl (R_loadS st37 rfl h5.at rfl) rfl ?_)
          refine J_ung rfl rfl ?_
          refine J_call Try.call22 rfl (l_sameNode [.int .i64 (((nodeOf dx5 dx6).1).kind), .int .i64 (((nodeOf dx5 dx6).1).a), .int .i64 (((nodeOf dx5 dx6).1).b), o4] ((nodeOf dx5 dx6).1) [.int .i64 (((nodeOf dx5 dx6).1).kind), .int .i64 (((nodeOf dx5 dx6).1).a), .int .i64 (((nodeOf dx5 dx6).1).b), o5] ((nodeOf dx5 dx6).1) _ (Node.mkR ((nodeOf dx5 dx6).1) (RdD.any (Own.rdD hw1))) (Node.mkR ((nodeOf dx5 dx6).1) (RdD.any (Own.rdD hw2)))) rfl (fun _ w35 e26 hv => ?_)
          subst hv
          replace E := E.trans e26; replace hd1 := hd1.ext e26; replace h1 := h1.ext e26; replace hd2 := hd2.ext e26; replace h2 := h2.ext e26; replace hd3 := hd3.ext e26; replace h3 := h3.ext e26; replace hw1 := hw1.ext e26; replace h4 := h4.ext e26; replace hw2 := hw2.ext e26; replace h5 := h5.ext e26; replace hd4 := hd4.ext e26; replace hd5 := hd5.ext e26; replace h6 := h6.ext e26; replace h7 := h7.ext e26
          have z34 := e26.size
          refine J_gd rfl rfl (R_not rfl) rfl (J_st (R_pickF rfl rfl) rfl (J_st (R_move rfl) rfl ?_))
          refine J_if (gd := 94) rfl rfl (fun hg5 => ?_) (fun hg5 => ?_)
          · exact absurd hg5 (by first | (simp; done) | (simp only [nat_nlt] <;> simp) | (simp only [mkL_length, nat_nlt] <;> simp) | (simp only [mkL_length] <;> simp))
          · refine J_gd rfl rfl (R_loadS st26 rfl h6.at rfl) rfl (J_gd rfl rfl (R_loadS st26 rfl h7.at rfl) rfl (J_gd rfl rfl (R_loadS st26 rfl h6.at rfl) rfl (J_gd rfl rfl (R_loadS st26 rfl h7.at rfl) rfl ?_)))
            refine J_ung rfl rfl ?_
            refine J_call Try.call23 rfl (c_SameGraph [o6, .int .i64 dx7.workers, .int .i64 dx7.cap] dx7 [o7, .int .i64 dx8.workers, .int .i64 dx8.cap] dx8 _ (Graph.mkR dx7 (RdD.any hd4)) (Graph.mkR dx8 (RdD.any hd5))) rfl (fun _ w36 e27 hv => ?_)
            subst hv
            replace E := E.trans e27; replace hd1 := hd1.ext e27; replace h1 := h1.ext e27; replace hd2 := hd2.ext e27; replace h2 := h2.ext e27; replace hd3 := hd3.ext e27; replace h3 := h3.ext e27; replace hw1 := hw1.ext e27; replace h4 := h4.ext e27; replace hw2 := hw2.ext e27; replace h5 := h5.ext e27; replace hd4 := hd4.ext e27; replace hd5 := hd5.ext e27; replace h6 := h6.ext e27; replace h7 := h7.ext e27
            have z35 := e27.size
            refine J_ung rfl rfl ?_
            refine J_call Try.call24 rfl (l_sameGraph [o6, .int .i64 dx7.workers, .int .i64 dx7.cap] dx7 [o7, .int .i64 dx8.workers, .int .i64 dx8.cap] dx8 _ (Graph.mkR dx7 (RdD.any hd4)) (Graph.mkR dx8 (RdD.any hd5))) rfl (fun _ w37 e28 hv => ?_)
            subst hv
            replace E := E.trans e28; replace hd1 := hd1.ext e28; replace h1 := h1.ext e28; replace hd2 := hd2.ext e28; replace h2 := h2.ext e28; replace hd3 := hd3.ext e28; replace h3 := h3.ext e28; replace hw1 := hw1.ext e28; replace h4 := h4.ext e28; replace hw2 := hw2.ext e28; replace h5 := h5.ext e28; replace hd4 := hd4.ext e28; replace hd5 := hd5.ext e28; replace h6 := h6.ext e28; replace h7 := h7.ext e28
            have z36 := e28.size
            refine J_gd rfl rfl (R_neqB (Try.underlying4) rfl rfl) rfl (J_st (R_pickF rfl rfl) rfl (J_cutEnd ⟨rfl, rfl, rfl, rfl, rfl, rfl, rfl, rfl, rfl, rfl, rfl, rfl, rfl, rfl, rfl, rfl, rfl, rfl, rfl, rfl, rfl, rfl, rfl, rfl, rfl, rfl, rfl, rfl, rfl, rfl, rfl, rfl, rfl, rfl, rfl, rfl, rfl, rfl, rfl, rfl, rfl, rfl, rfl, rfl, rfl, rfl, rfl, rfl, rfl, rfl, congrArg (fun b => some (Value.bool b)) (show (!((decide (dx7 = dx8)) == (decide (dx7 = dx8)))) = ((((!((reaches dx2 dx3 dx4) == (reaches dx2 dx3 dx4))) || (!(((nodeOf dx5 dx6).2) == ((nodeOf dx5 dx6).2)))) || (!(decide (((nodeOf dx5 dx6).1) = ((nodeOf dx5 dx6).1))))) || (!((decide (dx7 = dx8)) == (decide (dx7 = dx8))))) by first | (rw [hg3, hg4, hg5] <;> rfl) | (simp [hg3, hg4, hg5]; done) | (simp only [nat_nlt] <;> simp)), trivial⟩ ⟨E, (by omega), hd1, h1, hd2, h2, hd3, h3, hw1, h4, hw2, h5, hd4, hd5, h6, h7⟩))
    clear E hd1 h1 hd2 h2 hd3 h3 hw1 h4 hw2 h5 hd4 hd5 h6 h7
    rintro w34 ⟨E, z37, hd1, h1, hd2, h2, hd3, h3, hw1, h4, hw2, h5, hd4, hd5, h6, h7⟩
    refine J_done ?_
    refine S_condFe rfl (by first | (simp; done) | (simp only [nat_nlt] <;> simp) | (simp only [mkL_length, nat_nlt] <;> simp) | (simp only [mkL_length] <;> simp)) ?_
    refine S_skip ?_
    refine S_seq ?_
    refine S_reg [true] rfl rfl ?_
    refine J_st (R_assign rfl) rfl (J_done ?_)
    refine S_seq ?_
    refine S_seq ?_
    refine S_reg [true] rfl rfl ?_
    refine J_st (R_assign rfl) rfl (J_done ?_)
    refine S_block ?_
    refine S_loop (fun (xq : Nat × Bool) => let ⟨k, bk⟩ := xq; [(2, .bool false), (3, .pointer (some ⟨b1, 0, none⟩)), (4, .bool (graphOk dx1)), (16, .bool bk), (17, .int .i64 ((k : Nat) : Int))]) (fun (xq : Nat × Bool) w' => let ⟨k, bk⟩ := xq; Ext w w' ∧ w34.heap.size ≤ w'.heap.size ∧ RdD w' w1.heap.size w2.heap.size o1 dx1.nodes ∧ Blk w' b1 [o1, .int .i64 dx1.workers, .int .i64 dx1.cap] ∧ RdD w' w8.heap.size w14.heap.size o2 dx2.nodes ∧ Blk w' b2 [o2, .int .i64 dx2.workers, .int .i64 dx2.cap] ∧ RdD w' w16.heap.size w17.heap.size o3 dx5.nodes ∧ Blk w' b3 [o3, .int .i64 dx5.workers, .int .i64 dx5.cap] ∧ Own w' w19.heap.size w20.heap.size 1 o4 (List.flatMap (Enc.enc (α := Int)) (((nodeOf dx5 dx6).1).outs)) ∧ Blk w' b4 [.int .i64 (((nodeOf dx5 dx6).1).kind), .int .i64 (((nodeOf dx5 dx6).1).a), .int .i64 (((nodeOf dx5 dx6).1).b), o4] ∧ Own w' w22.heap.size w23.heap.size 1 o5 (List.flatMap (Enc.enc (α := Int)) (((nodeOf dx5 dx6).1).outs)) ∧ Blk w' b5 [.int .i64 (((nodeOf dx5 dx6).1).kind), .int .i64 (((nodeOf dx5 dx6).1).a), .int .i64 (((nodeOf dx5 dx6).1).b), o5] ∧ RdD w' w25.heap.size w26.heap.size o6 dx7.nodes ∧ RdD w' w25.heap.size w26.heap.size o7 dx8.nodes ∧ Blk w' b6 [o6, .int .i64 dx7.workers, .int .i64 dx7.cap] ∧ Blk w' b7 [o7, .int .i64 dx8.workers, .int .i64 dx8.cap] ∧ k ≤ dx1.nodes.length ∧ bk = (List.range k).any (backAt dx1)) (fun (xq : Nat × Bool) => let ⟨k, bk⟩ := xq; dx1.nodes.length - k) (0, false) ⟨rfl, rfl, rfl, rfl, rfl, trivial⟩ ⟨E, Nat.le_refl _, hd1, h1, hd2, h2, hd3, h3, hw1, h4, hw2, h5, hd4, hd5, h6, h7, Nat.zero_le _, rfl⟩ ?_
    clear E hd1 h1 hd2 h2 hd3 h3 hw1 h4 hw2 h5 hd4 hd5 h6 h7
    rintro ⟨k, bk⟩ w38 ⟨E, z38, hd1, h1, hd2, h2, hd3, h3, hw1, h4, hw2, h5, hd4, hd5, h6, h7, hk, hbk⟩
    refine S_sub [(2, .bool false), (3, .pointer (some ⟨b1, 0, none⟩)), (4, .bool (graphOk dx1)), (16, .bool bk), (17, .int .i64 ((k : Nat) : Int))] ⟨rfl, rfl, rfl, rfl, rfl, trivial⟩ ?_
    have hl9 := q1.1
    refine S_seq ?_
    refine S_seq ?_
    refine S_reg [true, true, true, true, true, true, true, true] rfl rfl ?_
    refine J_st (R_move rfl) rfl (J_st (R_move rfl) rfl ?_)
    refine J_cut 6 [(2, .bool false), (3, .pointer (some ⟨b1, 0, none⟩)), (4, .bool (graphOk dx1)), (16, .bool bk), (17, .int .i64 ((k : Nat) : Int)), (110, .bool ((graphOk dx1) && (decide (((k : Nat) : Int) < ((dx1.nodes.length : Nat) : Int)))))] (fun w' => w38 = w') ?_ ?_
    · refine J_if (gd := 104) rfl rfl (fun hg6 => ?_) (fun hg6 => ?_)
      · refine J_gd rfl rfl (R_move rfl) rfl (J_gd rfl rfl (R_fieldAddr0 fl26_0 rfl) rfl (J_gd rfl rfl (R_load sc24 rfl (h1.one 0 rfl)) rfl (J_gd rfl rfl (R_len Try.underlying24 rfl hd1.len) rfl (J_gd rfl rfl (R_lss rfl rfl) rfl (J_st (R_pickT rfl rfl) rfl (J_cutEnd ⟨rfl, rfl, rfl, rfl, rfl, congrArg (fun b => some (Value.bool b)) (show (decide (((k : Nat) : Int) < ((dx1.nodes.length : Nat) : Int))) = ((graphOk dx1) && (decide (((k : Nat) : Int) < ((dx1.nodes.length : Nat) : Int)))) by first | (rw [hg6] <;> rfl) | (simp [hg6]; done) | (simp only [nat_nlt] <;> simp)), trivial⟩ rfl))))))
      · refine J_gdno rfl rfl rfl rfl (J_gdno rfl rfl rfl rfl (J_gdno rfl rfl rfl rfl (J_gdno rfl rfl rfl rfl (J_gdno rfl rfl rfl rfl (J_st (R_pickF rfl rfl) rfl (J_cutEnd ⟨rfl, rfl, rfl, rfl, rfl, congrArg (fun b => some (Value.bool b)) (show false = ((graphOk dx1) && (decide (((k : Nat) : Int) < ((dx1.nodes.length : Nat) : Int)))) by first | (rw [hg6] <;> rfl) | (simp [hg6]; done) | (simp only [nat_nlt] <;> simp)), trivial⟩ rfl))))))
    rintro _ rfl
    refine J_done ?_
    refine S_cond rfl (fun hc2 => ?_) (fun hc2 => ?_)
    · have hgo : graphOk dx1 = true := by have h := hc2; simp only [Bool.and_eq_true] at h; exact h.1
      have hlt : k < dx1.nodes.length := by have h := hc2; simp only [Bool.and_eq_true, decide_eq_true_eq] at h; omega
      refine S_skip ?_
      refine S_seq ?_
      refine S_block ?_
      refine S_seq ?_
      refine S_seq ?_
      refine S_reg [true, true, true, true, true, true, true, true, true, true, true, true, true, true, true, true, true] rfl rfl ?_
      refine J_st (R_fieldAddr0 fl26_0 rfl) rfl (J_st (R_load sc24 rfl (h1.one 0 rfl)) rfl (J_st (R_move rfl) rfl ?_))
      have hi1 : k < dx1.nodes.length := (by first | assumption | omega | (simp only [List.length_set]; first | assumption | omega) | (simp only [List.getElem_set_self, List.length_set]; first | assumption | omega) | (simp only [setW, setLk, List.length_set]; first | assumption | omega) | (simp; done))
      obtain ⟨_, hr1, ha1⟩ := RdD.get hd1 hi1
      obtain ⟨o8, rfl, hd6⟩ := Node.op hr1
      replace ha1 : At w38 (sblk o1) (soff o1 + k * 4) [.int .i64 ((dx1.nodes[k]'hi1).kind), .int .i64 ((dx1.nodes[k]'hi1).a), .int .i64 ((dx1.nodes[k]'hi1).b), o8] := ha1
      have ha1b := RdD.blk hd1 hi1
      refine J_st (R_index (i := k) sl24 rfl rfl hd1.1 hi1) rfl (J_st (R_fieldAddr fl37_0 rfl) rfl (J_st (R_load sc3 rfl (ha1.one 0 rfl)) rfl (J_st (R_eql rfl rfl) rfl (J_st (R_move rfl) rfl ?_))))
      refine J_cut 9 [(2, .bool false), (3, .pointer (some ⟨b1, 0, none⟩)), (4, .bool (graphOk dx1)), (16, .bool bk), (17, .int .i64 ((k : Nat) : Int)), (110, .bool ((graphOk dx1) && (decide (((k : Nat) : Int) < ((dx1.nodes.length : Nat) : Int))))), (129, .bool ((((dx1.nodes[k]'hi1).kind) == 7) && (decide (0 < ((((dx1.nodes[k]'hi1).outs).length : Nat) : Int)))))] (fun w' => w38 = w') ?_ ?_
      · refine J_if (gd := 120) rfl rfl (fun hg7 => ?_) (fun hg7 => ?_)
        · refine J_gd rfl rfl (R_fieldAddr0 fl26_0 rfl) rfl (J_gd rfl rfl (R_load sc24 rfl (h1.one 0 rfl)) rfl (J_gd rfl rfl (R_move rfl) rfl (J_gd rfl rfl (R_index (i := k) sl24 rfl rfl hd1.1 hi1) rfl (J_gd rfl rfl (R_fieldAddr fl37_3 rfl) rfl (J_gd rfl rfl (R_load sc30 rfl (ha1.one 3 rfl)) rfl (J_gd rfl rfl (R_len Try.underlying30 rfl hd6.len) rfl (J_gd rfl rfl (R_gtr rfl rfl) rfl (J_st (R_pickT rfl rfl) rfl (J_cutEnd ⟨rfl, rfl, rfl, rfl, rfl, rfl, congrArg (fun b => some (Value.bool b)) (show (decide (0 < ((((dx1.nodes[k]'hi1).outs).length : Nat) : Int))) = ((((dx1.nodes[k]'hi1).kind) == 7) && (decide (0 < ((((dx1.nodes[k]'hi1).outs).length : Nat) : Int)))) by first | (rw [hg7] <;> rfl) | (simp [hg7]; done) | (simp only [nat_nlt] <;> simp)), trivial⟩ rfl)))))))))
        · refine J_gdno rfl rfl rfl rfl (J_gdno rfl rfl rfl rfl (J_gdno rfl rfl rfl rfl (J_gdno rfl rfl rfl rfl (J_gdno rfl rfl rfl rfl (J_gdno rfl rfl rfl rfl (J_gdno rfl rfl rfl rfl (J_gdno rfl rfl rfl rfl (J_st (R_pickF rfl rfl) rfl (J_cutEnd ⟨rfl, rfl, rfl, rfl, rfl, rfl, congrArg (fun b => some (Value.bool b)) (show false = ((((dx1.nodes[k]'hi1).kind) == 7) && (decide (0 < ((((dx1.nodes[k]'hi1).outs).length : Nat) : Int)))) by first | (rw [hg7] <;> rfl) | (simp [hg7]; done) | (simp only [nat_nlt] <;> simp)), trivial⟩ rfl)))))))))
      rintro _ rfl
      refine J_done ?_
      refine S_cond rfl (fun hc3 => ?_) (fun hc3 => ?_)
      · refine S_reg [true] rfl rfl ?_
        refine J_st (R_assign rfl) rfl (J_done ?_)
        refine S_seq ?_
        refine S_reg [true, true, true, false] rfl rfl ?_
        refine J_st (R_loadS st26 rfl h1.at rfl) rfl (J_st (R_move rfl) rfl (J_st (R_move rfl) rfl ?_))
        refine J_call Try.call20 rfl (c_Reaches [o1, .int .i64 dx1.workers, .int .i64 dx1.cap] dx1 ((k : Nat) : Int) ((k : Nat) : Int) _ (Graph.mkR dx1 (RdD.any hd1))) rfl (fun _ w41 e29 hv => ?_)
        subst hv
        replace E := E.trans e29; replace hd1 := hd1.ext e29; replace h1 := h1.ext e29; replace hd2 := hd2.ext e29; replace h2 := h2.ext e29; replace hd3 := hd3.ext e29; replace h3 := h3.ext e29; replace hw1 := hw1.ext e29; replace h4 := h4.ext e29; replace hw2 := hw2.ext e29; replace h5 := h5.ext e29; replace hd4 := hd4.ext e29; replace hd5 := hd5.ext e29; replace h6 := h6.ext e29; replace h7 := h7.ext e29; replace ha1 := ha1.ext e29; replace hd6 := hd6.ext e29
        have z39 := e29.size
        refine J_done ?_
        refine S_cond rfl (fun hc4 => ?_) (fun hc4 => ?_)
        · refine S_seq ?_
          refine S_reg [true] rfl rfl ?_
          refine J_st (R_assign rfl) rfl (J_done ?_)
          refine S_seq ?_
          refine S_seq ?_
          refine S_reg [true] rfl rfl ?_
          refine J_st (R_assign rfl) rfl (J_done ?_)
          refine S_block ?_
          refine S_loop (fun (xq : Nat × Bool) => let ⟨m, gt⟩ := xq; [(2, .bool false), (3, .pointer (some ⟨b1, 0, none⟩)), (4, .bool (graphOk dx1)), (16, .bool true), (17, .int .i64 ((k : Nat) : Int)), (18, .bool gt), (19, .int .i64 ((m : Nat) : Int))]) (fun (xq : Nat × Bool) w' => let ⟨m, gt⟩ := xq; Ext w w' ∧ w41.heap.size ≤ w'.heap.size ∧ RdD w' w1.heap.size w2.heap.size o1 dx1.nodes ∧ Blk w' b1 [o1, .int .i64 dx1.workers, .int .i64 dx1.cap] ∧ RdD w' w8.heap.size w14.heap.size o2 dx2.nodes ∧ Blk w' b2 [o2, .int .i64 dx2.workers, .int .i64 dx2.cap] ∧ RdD w' w16.heap.size w17.heap.size o3 dx5.nodes ∧ Blk w' b3 [o3, .int .i64 dx5.workers, .int .i64 dx5.cap] ∧ Own w' w19.heap.size w20.heap.size 1 o4 (List.flatMap (Enc.enc (α := Int)) (((nodeOf dx5 dx6).1).outs)) ∧ Blk w' b4 [.int .i64 (((nodeOf dx5 dx6).1).kind), .int .i64 (((nodeOf dx5 dx6).1).a), .int .i64 (((nodeOf dx5 dx6).1).b), o4] ∧ Own w' w22.heap.size w23.heap.size 1 o5 (List.flatMap (Enc.enc (α := Int)) (((nodeOf dx5 dx6).1).outs)) ∧ Blk w' b5 [.int .i64 (((nodeOf dx5 dx6).1).kind), .int .i64 (((nodeOf dx5 dx6).1).a), .int .i64 (((nodeOf dx5 dx6).1).b), o5] ∧ RdD w' w25.heap.size w26.heap.size o6 dx7.nodes ∧ RdD w' w25.heap.size w26.heap.size o7 dx8.nodes ∧ Blk w' b6 [o6, .int .i64 dx7.workers, .int .i64 dx7.cap] ∧ Blk w' b7 [o7, .int .i64 dx8.workers, .int .i64 dx8.cap] ∧ At w' (sblk o1) (soff o1 + k * 4) [.int .i64 ((dx1.nodes[k]'hi1).kind), .int .i64 ((dx1.nodes[k]'hi1).a), .int .i64 ((dx1.nodes[k]'hi1).b), o8] ∧ RdD w' w1.heap.size w2.heap.size o8 ((dx1.nodes[k]'hi1).outs) ∧ m ≤ dx1.nodes.length ∧ gt = (List.range m).any (gateAt dx1 k)) (fun (xq : Nat × Bool) => let ⟨m, gt⟩ := xq; dx1.nodes.length - m) (0, false) ⟨rfl, rfl, rfl, rfl, rfl, rfl, rfl, trivial⟩ ⟨E, Nat.le_refl _, hd1, h1, hd2, h2, hd3, h3, hw1, h4, hw2, h5, hd4, hd5, h6, h7, ha1, hd6, Nat.zero_le _, rfl⟩ ?_
          clear E hd1 h1 hd2 h2 hd3 h3 hw1 h4 hw2 h5 hd4 hd5 h6 h7 ha1 hd6
          rintro ⟨m, gt⟩ w42 ⟨E, z40, hd1, h1, hd2, h2, hd3, h3, hw1, h4, hw2, h5, hd4, hd5, h6, h7, ha1, hd6, hm, hgt⟩
          refine S_sub [(2, .bool false), (3, .pointer (some ⟨b1, 0, none⟩)), (4, .bool (graphOk dx1)), (16, .bool true), (17, .int .i64 ((k : Nat) : Int)), (18, .bool gt), (19, .int .i64 ((m : Nat) : Int))] ⟨rfl, rfl, rfl, rfl, rfl, rfl, rfl, trivial⟩ ?_
          refine S_seq ?_
          refine S_seq ?_
          refine S_reg [true, true, true, true, true] rfl rfl ?_
          refine J_st (R_move rfl) rfl (J_st (R_fieldAddr0 fl26_0 rfl) rfl (J_st (R_load sc24 rfl (h1.one 0 rfl)) rfl (J_st (R_len Try.underlying24 rfl hd1.len) rfl (J_st (R_lss rfl rfl) rfl (J_done ?_)))))
          refine S_cond rfl (fun hc5 => ?_) (fun hc5 => ?_)
          · have hc5n : m < dx1.nodes.length := by first | (have h := of_decide_eq_true hc5; omega) | (have h := hc5; simp at h; omega)
            refine S_skip ?_
            refine S_seq ?_
            refine S_block ?_
            refine S_reg [true, true, true, true, true, true, true, true, true, true, true, true, true, true, true, true, true, true, true, true, true, true, true, true, true, true, false, true, true, true, true, false, true, true, true, true, true] rfl rfl ?_
            refine J_st (R_move rfl) rfl (J_st (R_move rfl) rfl ?_)
            refine J_cut 34 [(2, .bool false), (3, .pointer (some ⟨b1, 0, none⟩)), (4, .bool (graphOk dx1)), (16, .bool true), (17, .int .i64 ((k : Nat) : Int)), (18, .bool gt), (19, .int .i64 ((m : Nat) : Int)), (134, .int .i64 ((m : Nat) : Int)), (135, .pointer (some ⟨b1, 0, none⟩)), (136, o1), (137, .int .i64 ((dx1.nodes.length : Nat) : Int)), (138, .bool (decide (((m : Nat) : Int) < ((dx1.nodes.length : Nat) : Int)))), (176, .bool (gt || (((((List.getD dx1.nodes m default).kind) == 5) || (((List.getD dx1.nodes m default).kind) == 6)) && ((((m : Nat) : Int) == ((k : Nat) : Int)) || ((reaches dx1 ((k : Nat) : Int) ((m : Nat) : Int)) && (reaches dx1 ((m : Nat) : Int) ((k : Nat) : Int)))))))] (fun w' => Ext w w' ∧ w42.heap.size ≤ w'.heap.size ∧ RdD w' w1.heap.size w2.heap.size o1 dx1.nodes ∧ Blk w' b1 [o1, .int .i64 dx1.workers, .int .i64 dx1.cap] ∧ RdD w' w8.heap.size w14.heap.size o2 dx2.nodes ∧ Blk w' b2 [o2, .int .i64 dx2.workers, .int .i64 dx2.cap] ∧ RdD w' w16.heap.size w17.heap.size o3 dx5.nodes ∧ Blk w' b3 [o3, .int .i64 dx5.workers, .int .i64 dx5.cap] ∧ Own w' w19.heap.size w20.heap.size 1 o4 (List.flatMap (Enc.enc (α := Int)) (((nodeOf dx5 dx6).1).outs)) ∧ Blk w' b4 [.int .i64 (((nodeOf dx5 dx6).1).kind), .int .i64 (((nodeOf dx5 dx6).1).a), .int .i64 (((nodeOf dx5 dx6).1).b), o4] ∧ Own w' w22.heap.size w23.heap.size 1 o5 (List.flatMap (Enc.enc (α := Int)) (((nodeOf dx5 dx6).1).outs)) ∧ Blk w' b5 [.int .i64 (((nodeOf dx5 dx6).1).kind), .int .i64 (((nodeOf dx5 dx6).1).a), .int .i64 (((nodeOf dx5 dx6).1).b), o5] ∧ RdD w' w25.heap.size w26.heap.size o6 dx7.nodes ∧ RdD w' w25.heap.size w26.heap.size o7 dx8.nodes ∧ Blk w' b6 [o6, .int .i64 dx7.workers, .int .i64 dx7.cap] ∧ Blk w' b7 [o7, .int .i64 dx8.workers, .int .i64 dx8.cap] ∧ At w' (sblk o1) (soff o1 + k * 4) [.int .i64 ((dx1.nodes[k]'hi1).kind), .int .i64 ((dx1.nodes[k]'hi1).a), .int .i64 ((dx1.nodes[k]'hi1).b), o8] ∧ RdD w' w1.heap.size w2.heap.size o8 ((dx1.nodes[k]'hi1).outs)) ?_ ?_
            · refine J_if (gd := 142) rfl rfl (fun hg8 => ?_) (fun hg8 => ?_)
              · refine J_gdno rfl rfl rfl rfl (J_gdno rfl rfl rfl rfl (J_gdno rfl rfl rfl rfl (J_gdno rfl rfl rfl rfl (J_gdno rfl rfl rfl rfl (J_gdno rfl rfl rfl rfl (J_gdno rfl rfl rfl rfl (J_gdno rfl rfl rfl rfl (J_gdx rfl rfl rfl (J_gdx rfl rfl rfl (J_gdx rfl rfl rfl (J_gdx rfl rfl rfl (J_gdx rfl rfl rfl (J_gdx rfl rfl rfl (J_gdx rfl rfl rfl (J_gdno rfl rfl rfl rfl (J_gdno rfl rfl rfl rfl (J_gdx rfl rfl rfl (J_gdx rfl rfl rfl (J_gdx rfl rfl rfl (J_gdx rfl rfl rfl (J_gdx rfl rfl rfl (J_gdx rfl rfl rfl (J_gdx rfl rfl rfl ?_)))))))))))))))))))))))
                refine J_ungx rfl rfl rfl ?_
                refine J_gdx rfl rfl rfl (J_gdx rfl rfl rfl (J_gdx rfl rfl rfl (J_gdx rfl rfl rfl ?_)))
                refine J_ungx rfl rfl rfl ?_
                refine J_gdx rfl rfl rfl (J_gdx rfl rfl rfl (J_gdno rfl rfl rfl rfl (J_st (R_pickT rfl rfl) rfl (J_cutEnd ⟨rfl, rfl, rfl, rfl, rfl, rfl, rfl, rfl, rfl, rfl, rfl, rfl, congrArg (fun b => some (Value.bool b)) (show true = (gt || (((((List.getD dx1.nodes m default).kind) == 5) || (((List.getD dx1.nodes m default).kind) == 6)) && ((((m : Nat) : Int) == ((k : Nat) : Int)) || ((reaches dx1 ((k : Nat) : Int) ((m : Nat) : Int)) && (reaches dx1 ((m : Nat) : Int) ((k : Nat) : Int)))))) by first | (rw [hg8] <;> rfl) | (simp [hg8]; done) | (simp only [nat_nlt] <;> simp)), trivial⟩ ⟨E, (by omega), hd1, h1, hd2, h2, hd3, h3, hw1, h4, hw2, h5, hd4, hd5, h6, h7, ha1, hd6⟩))))
              · refine J_gd rfl rfl (R_fieldAddr0 fl26_0 rfl) rfl (J_gd rfl rfl (R_load sc24 rfl (h1.one 0 rfl)) rfl (J_gd rfl rfl (R_move rfl) rfl ?_))
                have hi2 : m < dx1.nodes.length := (by first | assumption | omega | (simp only [List.length_set]; first | assumption | omega) | (simp only [List.getElem_set_self, List.length_set]; first | assumption | omega) | (simp only [setW, setLk, List.length_set]; first | assumption | omega) | (simp; done))
                obtain ⟨_, hr2, ha2⟩ := RdD.getD hd1 hi2
                obtain ⟨o9, rfl, hd7⟩ := Node.op hr2
                replace ha2 : At w42 (sblk o1) (soff o1 + m * 4) [.int .i64 ((List.getD dx1.nodes m default).kind), .int .i64 ((List.getD dx1.nodes m default).a), .int .i64 ((List.getD dx1.nodes m default).b), o9] := ha2
                have ha2b := RdD.blk hd1 hi2
                refine J_gd rfl rfl (R_index (i := m) sl24 rfl rfl hd1.1 hi2) rfl (J_gd rfl rfl (R_fieldAddr fl37_0 rfl) rfl (J_gd rfl rfl (R_load sc3 rfl (ha2.one 0 rfl)) rfl (J_gd rfl rfl (R_eql rfl rfl) rfl (J_gd rfl rfl (R_move rfl) rfl ?_))))
                refine J_if (gd := 150) rfl rfl (fun hg9 => ?_) (fun hg9 => ?_)
                · refine J_gdno rfl rfl rfl rfl (J_gdno rfl rfl rfl rfl (J_gdno rfl rfl rfl rfl (J_gdno rfl rfl rfl rfl (J_gdno rfl rfl rfl rfl (J_gdno rfl rfl rfl rfl (J_gdno rfl rfl rfl rfl (J_gd rfl rfl (R_pickT rfl rfl) rfl (J_gd rfl rfl (R_move rfl) rfl (J_gd rfl rfl (R_move rfl) rfl (J_gd rfl rfl (R_move rfl) rfl (J_gd rfl rfl (R_eql rfl rfl) rfl (J_gd rfl rfl (R_move rfl) rfl ?_))))))))))))
                  refine J_if (gd := 163) rfl rfl (fun hg10 => ?_) (fun hg10 => ?_)
                  · have hg10n : m = k := by first | (have h := of_decide_eq_true hg10; omega) | (have h := hg10; simp at h; omega)
                    refine J_gdno rfl rfl rfl rfl (J_gdno rfl rfl rfl rfl (J_gdno rfl rfl rfl rfl ?_))
                    refine J_ungno rfl rfl rfl rfl ?_
                    refine J_gdno rfl rfl rfl rfl (J_gdx rfl rfl rfl (J_gdx rfl rfl rfl (J_gdx rfl rfl rfl ?_)))
                    refine J_ungx rfl rfl rfl ?_
                    refine J_gdno rfl rfl rfl rfl (J_gd rfl rfl (R_pickT rfl rfl) rfl (J_gd rfl rfl (R_pickT rfl rfl) rfl (J_st (R_pickF rfl rfl) rfl (J_cutEnd ⟨rfl, rfl, rfl, rfl, rfl, rfl, rfl, rfl, rfl, rfl, rfl, rfl, congrArg (fun b => some (Value.bool b)) (show true = (gt || (((((List.getD dx1.nodes m default).kind) == 5) || (((List.getD dx1.nodes m default).kind) == 6)) && ((((m : Nat) : Int) == ((k : Nat) : Int)) || ((reaches dx1 ((k : Nat) : Int) ((m : Nat) : Int)) && (reaches dx1 ((m : Nat) : Int) ((k : Nat) : Int)))))) by first | (rw [hg8, hg9, hg10] <;> rfl) | (simp [hg8, hg9, hg10]; done) | (simp only [nat_nlt] <;> simp)), trivial⟩ ⟨E, (by omega), hd1, h1, hd2, h2, hd3, h3, hw1, h4, hw2, h5, hd4, hd5, h6, h7, ha1, hd6⟩))))
                  · have hg10n : ¬ m = k := by first | (have h := of_decide_eq_false hg10; omega) | (have h := hg10; simp at h; omega)
                    refine J_gd rfl rfl (R_loadS st26 rfl h1.at rfl) rfl (J_gd rfl rfl (R_move rfl) rfl (J_gd rfl rfl (R_move rfl) rfl ?_))
                    refine J_ung rfl rfl ?_
                    refine J_call Try.call21 rfl (s_Reaches [o1, .int .i64 dx1.workers, .int .i64 dx1.cap] dx1 ((k : Nat) : Int) ((m : Nat) : Int) _ (Graph.mkR dx1 (RdD.any hd1))) rfl (fun _ w44 e30 hv => ?_)
                    subst hv
                    replace E := E.trans e30; replace hd1 := hd1.ext e30; replace h1 := h1.ext e30; replace hd2 := hd2.ext e30; replace h2 := h2.ext e30; replace hd3 := hd3.ext e30; replace h3 := h3.ext e30; replace hw1 := hw1.ext e30; replace h4 := h4.ext e30; replace hw2 := hw2.ext e30; replace h5 := h5.ext e30; replace hd4 := hd4.ext e30; replace hd5 := hd5.ext e30; replace h6 := h6.ext e30; replace h7 := h7.ext e30; replace ha1 := ha1.ext e30; replace hd6 := hd6.ext e30; replace ha2 := ha2.ext e30; replace hd7 := hd7.ext e30
                    have z41 := e30.size
                    refine J_gd rfl rfl (R_move rfl) rfl ?_
                    refine J_if (gd := 168) rfl rfl (fun hg11 => ?_) (fun hg11 => ?_)
                    · refine J_gd rfl rfl (R_loadS st26 rfl h1.at rfl) rfl (J_gd rfl rfl (R_move rfl) rfl (J_gd rfl rfl (R_move rfl) rfl ?_))
                      refine J_ung rfl rfl ?_
                      refine J_call Try.call21 rfl (s_Reaches [o1, .int .i64 dx1.workers, .int .i64 dx1.cap] dx1 ((m : Nat) : Int) ((k : Nat) : Int) _ (Graph.mkR dx1 (RdD.any hd1))) rfl (fun _ w45 e31 hv => ?_)
                      subst hv
                      replace E := E.trans e31; replace hd1 := hd1.ext e31; replace h1 := h1.ext e31; replace hd2 := hd2.ext e31; replace h2 := h2.ext e31; replace hd3 := hd3.ext e31; replace h3 := h3.ext e31; replace hw1 := hw1.ext e31; replace h4 := h4.ext e31; replace hw2 := hw2.ext e31; replace h5 := h5.ext e31; replace hd4 := hd4.ext e31; replace hd5 := hd5.ext e31; replace h6 := h6.ext e31; replace h7 := h7.ext e31; replace ha1 := ha1.ext e31; replace hd6 := hd6.ext e31; replace ha2 := ha2.ext e31; replace hd7 := hd7.ext e31
                      have z42 := e31.size
                      refine J_gd rfl rfl (R_pickT rfl rfl) rfl (J_gd rfl rfl (R_pickF rfl rfl) rfl (J_gd rfl rfl (R_pickT rfl rfl) rfl (J_st (R_pickF rfl rfl) rfl (J_cutEnd ⟨rfl, rfl, rfl, rfl, rfl, rfl, rfl, rfl, rfl, rfl, rfl, rfl, congrArg (fun b => some (Value.bool b)) (show (reaches dx1 ((m : Nat) : Int) ((k : Nat) : Int)) = (gt || (((((List.getD dx1.nodes m default).kind) == 5) || (((List.getD dx1.nodes m default).kind) == 6)) && ((((m : Nat) : Int) == ((k : Nat) : Int)) || ((reaches dx1 ((k : Nat) : Int) ((m : Nat) : Int)) && (reaches dx1 ((m : Nat) : Int) ((k : Nat) : Int)))))) by first | (rw [hg8, hg9, hg10, hg11] <;> rfl) | (simp [hg8, hg9, hg10, hg11]; done) | (simp only [nat_nlt] <;> simp)), trivial⟩ ⟨E, (by omega), hd1, h1, hd2, h2, hd3, h3, hw1, h4, hw2, h5, hd4, hd5, h6, h7, ha1, hd6⟩))))
                    · refine J_gdno rfl rfl rfl rfl (J_gdno rfl rfl rfl rfl (J_gdno rfl rfl rfl rfl ?_))
                      refine J_ungno rfl rfl rfl rfl ?_
                      refine J_gd rfl rfl (R_pickF rfl rfl) rfl (J_gd rfl rfl (R_pickF rfl rfl) rfl (J_gd rfl rfl (R_pickT rfl rfl) rfl (J_st (R_pickF rfl rfl) rfl (J_cutEnd ⟨rfl, rfl, rfl, rfl, rfl, rfl, rfl, rfl, rfl, rfl, rfl, rfl, congrArg (fun b => some (Value.bool b)) (show false = (gt || (((((List.getD dx1.nodes m default).kind) == 5) || (((List.getD dx1.nodes m default).kind) == 6)) && ((((m : Nat) : Int) == ((k : Nat) : Int)) || ((reaches dx1 ((k : Nat) : Int) ((m : Nat) : Int)) && (reaches dx1 ((m : Nat) : Int) ((k : Nat) : Int)))))) by first | (rw [hg8, hg9, hg10, hg11] <;> rfl) | (simp [hg8, hg9, hg10, hg11]; done) | (simp only [nat_nlt] <;> simp)), trivial⟩ ⟨E, (by omega), hd1, h1, hd2, h2, hd3, h3, hw1, h4, hw2, h5, hd4, hd5, h6, h7, ha1, hd6⟩))))
                · refine J_gd rfl rfl (R_fieldAddr0 fl26_0 rfl) rfl (J_gd rfl rfl (R_load sc24 rfl (h1.one 0 rfl)) rfl (J_gd rfl rfl (R_move rfl) rfl (J_gd rfl rfl (R_index (i := m) sl24 rfl rfl hd1.1 hi2) rfl (J_gd rfl rfl (R_fieldAddr fl37_0 rfl) rfl (J_gd rfl rfl (R_load sc3 rfl (ha2.one 0 rfl)) rfl (J_gd rfl rfl (R_eql rfl rfl) rfl (J_gd rfl rfl (R_pickF rfl rfl) rfl (J_gd rfl rfl (R_move rfl) rfl ?_))))))))
                  refine J_if (gd := 159) rfl rfl (fun hg12 => ?_) (fun hg12 => ?_)
                  · refine J_gd rfl rfl (R_move rfl) rfl (J_gd rfl rfl (R_move rfl) rfl (J_gd rfl rfl (R_eql rfl rfl) rfl (J_gd rfl rfl (R_move rfl) rfl ?_)))
                    refine J_if (gd := 163) rfl rfl (fun hg13 => ?_) (fun hg13 => ?_)
                    · have hg13n : m = k := by first | (have h := of_decide_eq_true hg13; omega) | (have h := hg13; simp at h; omega)
                      refine J_gdno rfl rfl rfl rfl (J_gdno rfl rfl rfl rfl (J_gdno rfl rfl rfl rfl ?_))
                      refine J_ungno rfl rfl rfl rfl ?_
                      refine J_gdno rfl rfl rfl rfl (J_gdx rfl rfl rfl (J_gdx rfl rfl rfl (J_gdx rfl rfl rfl ?_)))
                      refine J_ungx rfl rfl rfl ?_
                      refine J_gdno rfl rfl rfl rfl (J_gd rfl rfl (R_pickT rfl rfl) rfl (J_gd rfl rfl (R_pickT rfl rfl) rfl (J_st (R_pickF rfl rfl) rfl (J_cutEnd ⟨rfl, rfl, rfl, rfl, rfl, rfl, rfl, rfl, rfl, rfl, rfl, rfl, congrArg (fun b => some (Value.bool b)) (show true = (gt || (((((List.getD dx1.nodes m default).kind) == 5) || (((List.getD dx1.nodes m default).kind) == 6)) && ((((m : Nat) : Int) == ((k : Nat) : Int)) || ((reaches dx1 ((k : Nat) : Int) ((m : Nat) : Int)) && (reaches dx1 ((m : Nat) : Int) ((k : Nat) : Int)))))) by first | (rw [hg8, hg9, hg12, hg13] <;> rfl) | (simp [hg8, hg9, hg12, hg13]; done) | (simp only [nat_nlt] <;> simp)), trivial⟩ ⟨E, (by omega), hd1, h1, hd2, h2, hd3, h3, hw1, h4, hw2, h5, hd4, hd5, h6, h7, ha1, hd6⟩))))
                    · have hg13n : ¬ m = k := by first | (have h := of_decide_eq_false hg13; omega) | (have h := hg13; simp at h; omega)
                      refine J_gd rfl rfl (R_loadS st26 rfl h1.at rfl) rfl (J_gd rfl rfl (R_move rfl) rfl (J_gd rfl rfl (R_move rfl) rfl ?_))
                      refine J_ung rfl rfl ?_
                      refine J_call Try.call21 rfl (s_Reaches [o1, .int .i64 dx1.workers, .int .i64 dx1.cap] dx1 ((k : Nat) : Int) ((m : Nat) : Int) _ (Graph.mkR dx1 (RdD.any hd1))) rfl (fun _ w46 e32 hv => ?_)
                      subst hv
                      replace E := E.trans e32; replace hd1 := hd1.ext e32; replace h1 := h1.ext e32; replace hd2 := hd2.ext e32; replace h2 := h2.ext e32; replace hd3 := hd3.ext e32; replace h3 := h3.ext e32; replace hw1 := hw1.ext e32; replace h4 := h4.ext e32; replace hw2 := hw2.ext e32; replace h5 := h5.ext e32; replace hd4 := hd4.ext e32; replace hd5 := hd5.ext e32; replace h6 := h6.ext e32; replace h7 := h7.ext e32; replace ha1 := ha1.ext e32; replace hd6 := hd6.ext e32; replace ha2 := ha2.ext e32; replace hd7 := hd7.ext e32
                      have z43 := e32.size
                      refine J_gd rfl rfl (R_move rfl) rfl ?_
                      refine J_if (gd := 168) rfl rfl (fun hg14 => ?_) (fun hg14 => ?_)
                      · refine J_gd rfl rfl (R_loadS st26 rfl h1.at rfl) rfl (J_gd rfl rfl (R_move rfl) rfl (J_gd rfl rfl (R_move rfl) rfl ?_))
                        refine J_ung rfl rfl ?_
                        refine J_call Try.call21 rfl (s_Reaches [o1, .int .i64 dx1.workers, .int .i64 dx1.cap] dx1 ((m : Nat) : Int) ((k : Nat) : Int) _ (Graph.mkR dx1 (RdD.any hd1))) rfl (fun _ w47 e33 hv => ?_)
                        subst hv
                        replace E := E.trans e33; replace hd1 := hd1.ext e33; replace h1 := h1.ext e33; replace hd2 := hd2.ext e33; replace h2 := h2.ext e33; replace hd3 := hd3.ext e33; replace h3 := h3.ext e33; replace hw1 := hw1.ext e33; replace h4 := h4.ext e33; replace hw2 := hw2.ext e33; replace h5 := h5.ext e33; replace hd4 := hd4.ext e33; replace hd5 := hd5.ext e33; replace h6 := h6.ext e33; replace h7 := h7.ext e33; replace ha1 := ha1.ext e33; replace hd6 := hd6.ext e33; replace ha2 := ha2.ext e33; replace hd7 := hd7.ext e33
                        have z44 := e33.size
                        refine J_gd rfl rfl (R_pickT rfl rfl) rfl (J_gd rfl rfl (R_pickF rfl rfl) rfl (J_gd rfl rfl (R_pickT rfl rfl) rfl (J_st (R_pickF rfl rfl) rfl (J_cutEnd ⟨rfl, rfl, rfl, rfl, rfl, rfl, rfl, rfl, rfl, rfl, rfl, rfl, congrArg (fun b => some (Value.bool b)) (show (reaches dx1 ((m : Nat) : Int) ((k : Nat) : Int)) = (gt || (((((List.getD dx1.nodes m default).kind) == 5) || (((List.getD dx1.nodes m default).kind) == 6)) && ((((m : Nat) : Int) == ((k : Nat) : Int)) || ((reaches dx1 ((k : Nat) : Int) ((m : Nat) : Int)) && (reaches dx1 ((m : Nat) : Int) ((k : Nat) : Int)))))) by first | (rw [hg8, hg9, hg12, hg13, hg14] <;> rfl) | (simp [hg8, hg9, hg12, hg13, hg14]; done) | (simp only [nat_nlt] <;> simp)), trivial⟩ ⟨E, (by omega), hd1, h1, hd2, h2, hd3, h3, hw1, h4, hw2, h5, hd4, hd5, h6, h7, ha1, hd6⟩))))
                      · refine J_gdno rfl rfl rfl rfl (J_gdno rfl rfl rfl rfl (J_gdno rfl rfl rfl rfl ?_))
                        refine J_ungno rfl rfl rfl rfl ?_
                        refine J_gd rfl rfl (R_pickF rfl rfl) rfl (J_gd rfl rfl (R_pickF rfl rfl) rfl (J_gd rfl rfl (R_pickT rfl rfl) rfl (J_st (R_pickF rfl rfl) rfl (J_cutEnd ⟨rfl, rfl, rfl, rfl, rfl, rfl, rfl, rfl, rfl, rfl, rfl, rfl, congrArg (fun b => some (Value.bool b)) (show false = (gt || (((((List.getD dx1.nodes m default).kind) == 5) || (((List.getD dx1.nodes m default).kind) == 6)) && ((((m : Nat) : Int) == ((k : Nat) : Int)) || ((reaches dx1 ((k : Nat) : Int) ((m : Nat) : Int)) && (reaches dx1 ((m : Nat) : Int) ((k : Nat) : Int)))))) by first | (rw [hg8, hg9, hg12, hg13, hg14] <;> rfl) | (simp [hg8, hg9, hg12, hg13, hg14]; done) | (simp only [nat_nlt] <;> simp)), trivial⟩ ⟨E, (by omega), hd1, h1, hd2, h2, hd3, h3, hw1, h4, hw2, h5, hd4, hd5, h6, h7, ha1, hd6⟩))))
                  · refine J_gdno rfl rfl rfl rfl (J_gdno rfl rfl rfl rfl (J_gdno rfl rfl rfl rfl (J_gdno rfl rfl rfl rfl (J_gdx rfl rfl rfl (J_gdx rfl rfl rfl (J_gdx rfl rfl rfl ?_))))))
                    refine J_ungx rfl rfl rfl ?_
                    refine J_gdx rfl rfl rfl (J_gdx rfl rfl rfl (J_gdx rfl rfl rfl (J_gdx rfl rfl rfl ?_)))
                    refine J_ungx rfl rfl rfl ?_
                    refine J_gdx rfl rfl rfl (J_gdno rfl rfl rfl rfl (J_gd rfl rfl (R_pickF rfl rfl) rfl (J_st (R_pickF rfl rfl) rfl (J_cutEnd ⟨rfl, rfl, rfl, rfl, rfl, rfl, rfl, rfl, rfl, rfl, rfl, rfl, congrArg (fun b => some (Value.bool b)) (show false = (gt || (((((List.getD dx1.nodes m default).kind) == 5) || (((List.getD dx1.nodes m default).kind) == 6)) && ((((m : Nat) : Int) == ((k : Nat) : Int)) || ((reaches dx1 ((k : Nat) : Int) ((m : Nat) : Int)) && (reaches dx1 ((m : Nat) : Int) ((k : Nat) : Int)))))) by first | (rw [hg8, hg9, hg12] <;> rfl) | (simp [hg8, hg9, hg12]; done) | (simp only [nat_nlt] <;> simp)), trivial⟩ ⟨E, (by omega), hd1, h1, hd2, h2, hd3, h3, hw1, h4, hw2, h5, hd4, hd5, h6, h7, ha1, hd6⟩))))
            clear E hd1 h1 hd2 h2 hd3 h3 hw1 h4 hw2 h5 hd4 hd5 h6 h7 ha1 hd6
            rintro w43 ⟨E, z45, hd1, h1, hd2, h2, hd3, h3, hw1, h4, hw2, h5, hd4, hd5, h6, h7, ha1, hd6⟩
            refine J_st (R_assign rfl) rfl (J_done ?_)
            refine S_nil (E_inB ?_)
            refine S_reg [true, true, true] rfl rfl ?_
            refine J_st (R_move rfl) rfl (J_st (R_add rfl rfl (add_nat (by unfold maxLen; omega))) rfl (J_st (R_assign rfl) rfl (J_done ?_)))
            refine S_nil (E_again (m + 1, (gt || (((((List.getD dx1.nodes m default).kind) == 5) || (((List.getD dx1.nodes m default).kind) == 6)) && ((((m : Nat) : Int) == ((k : Nat) : Int)) || ((reaches dx1 ((k : Nat) : Int) ((m : Nat) : Int)) && (reaches dx1 ((m : Nat) : Int) ((k : Nat) : Int))))))) (by simp; omega) ⟨rfl, rfl, rfl, rfl, rfl, rfl, rfl, trivial⟩ ⟨E, (by omega), hd1, h1, hd2, h2, hd3, h3, hw1, h4, hw2, h5, hd4, hd5, h6, h7, ha1, hd6, (by omega), (any_range hgt)⟩)
          · have hc5n : ¬ m < dx1.nodes.length := by first | (have h := of_decide_eq_false hc5; omega) | (have h := hc5; simp at h; omega)
            refine S_exit (E_lp_exit (E_inB_exit ?_))
            refine S_seq ?_
            refine S_reg [true, true] rfl rfl ?_
            refine J_st (R_move rfl) rfl (J_st (R_not rfl) rfl (J_done ?_))
            refine S_cond rfl (fun hc6 => ?_) (fun hc6 => ?_)
            · refine S_seq ?_
              refine S_reg [true] rfl rfl ?_
              refine J_st (R_assign rfl) rfl (J_done ?_)
              refine S_ret (E_inB_ret (E_lp_ret (E_inB_ret (E_done1 rfl rfl E ?_))))
              have hge : m = dx1.nodes.length := by omega
              rw [hge, gate_any hgo hlt hc4] at hgt
              subst hgt
              exact absurd hc6 (by decide)
            · refine S_skip ?_
              refine S_nil (E_inB ?_)
              refine S_reg [true, true, true] rfl rfl ?_
              refine J_st (R_move rfl) rfl (J_st (R_add rfl rfl (add_nat (by unfold maxLen; omega))) rfl (J_st (R_assign rfl) rfl (J_done ?_)))
              refine S_nil (E_again (k + 1, true) (by simp; omega) ⟨rfl, rfl, rfl, rfl, rfl, trivial⟩ ⟨E, (by omega), hd1, h1, hd2, h2, hd3, h3, hw1, h4, hw2, h5, hd4, hd5, h6, h7, (by omega), (by rw [← any_range hbk, backAt, getD_at hlt, hc3]; simp)⟩)
        · refine S_skip ?_
          refine S_nil (E_inB ?_)
          refine S_reg [true, true, true] rfl rfl ?_
          refine J_st (R_move rfl) rfl (J_st (R_add rfl rfl (add_nat (by unfold maxLen; omega))) rfl (J_st (R_assign rfl) rfl (J_done ?_)))
          refine S_nil (E_again (k + 1, true) (by simp; omega) ⟨rfl, rfl, rfl, rfl, rfl, trivial⟩ ⟨E, (by omega), hd1, h1, hd2, h2, hd3, h3, hw1, h4, hw2, h5, hd4, hd5, h6, h7, (by omega), (by rw [← any_range hbk, backAt, getD_at hlt, hc3]; simp)⟩)
      · refine S_skip ?_
        refine S_seq ?_
        refine S_reg [true, true, true, false] rfl rfl ?_
        refine J_st (R_loadS st26 rfl h1.at rfl) rfl (J_st (R_move rfl) rfl (J_st (R_move rfl) rfl ?_))
        refine J_call Try.call20 rfl (c_Reaches [o1, .int .i64 dx1.workers, .int .i64 dx1.cap] dx1 ((k : Nat) : Int) ((k : Nat) : Int) _ (Graph.mkR dx1 (RdD.any hd1))) rfl (fun _ w48 e34 hv => ?_)
        subst hv
        replace E := E.trans e34; replace hd1 := hd1.ext e34; replace h1 := h1.ext e34; replace hd2 := hd2.ext e34; replace h2 := h2.ext e34; replace hd3 := hd3.ext e34; replace h3 := h3.ext e34; replace hw1 := hw1.ext e34; replace h4 := h4.ext e34; replace hw2 := hw2.ext e34; replace h5 := h5.ext e34; replace hd4 := hd4.ext e34; replace hd5 := hd5.ext e34; replace h6 := h6.ext e34; replace h7 := h7.ext e34; replace ha1 := ha1.ext e34; replace hd6 := hd6.ext e34
        have z46 := e34.size
        refine J_done ?_
        refine S_cond rfl (fun hc7 => ?_) (fun hc7 => ?_)
        · refine S_seq ?_
          refine S_reg [true] rfl rfl ?_
          refine J_st (R_assign rfl) rfl (J_done ?_)
          refine S_seq ?_
          refine S_seq ?_
          refine S_reg [true] rfl rfl ?_
          refine J_st (R_assign rfl) rfl (J_done ?_)
          refine S_block ?_
          refine S_loop (fun (xq : Nat × Bool) => let ⟨m, gt⟩ := xq; [(2, .bool false), (3, .pointer (some ⟨b1, 0, none⟩)), (4, .bool (graphOk dx1)), (16, .bool bk), (17, .int .i64 ((k : Nat) : Int)), (18, .bool gt), (19, .int .i64 ((m : Nat) : Int))]) (fun (xq : Nat × Bool) w' => let ⟨m, gt⟩ := xq; Ext w w' ∧ w48.heap.size ≤ w'.heap.size ∧ RdD w' w1.heap.size w2.heap.size o1 dx1.nodes ∧ Blk w' b1 [o1, .int .i64 dx1.workers, .int .i64 dx1.cap] ∧ RdD w' w8.heap.size w14.heap.size o2 dx2.nodes ∧ Blk w' b2 [o2, .int .i64 dx2.workers, .int .i64 dx2.cap] ∧ RdD w' w16.heap.size w17.heap.size o3 dx5.nodes ∧ Blk w' b3 [o3, .int .i64 dx5.workers, .int .i64 dx5.cap] ∧ Own w' w19.heap.size w20.heap.size 1 o4 (List.flatMap (Enc.enc (α := Int)) (((nodeOf dx5 dx6).1).outs)) ∧ Blk w' b4 [.int .i64 (((nodeOf dx5 dx6).1).kind), .int .i64 (((nodeOf dx5 dx6).1).a), .int .i64 (((nodeOf dx5 dx6).1).b), o4] ∧ Own w' w22.heap.size w23.heap.size 1 o5 (List.flatMap (Enc.enc (α := Int)) (((nodeOf dx5 dx6).1).outs)) ∧ Blk w' b5 [.int .i64 (((nodeOf dx5 dx6).1).kind), .int .i64 (((nodeOf dx5 dx6).1).a), .int .i64 (((nodeOf dx5 dx6).1).b), o5] ∧ RdD w' w25.heap.size w26.heap.size o6 dx7.nodes ∧ RdD w' w25.heap.size w26.heap.size o7 dx8.nodes ∧ Blk w' b6 [o6, .int .i64 dx7.workers, .int .i64 dx7.cap] ∧ Blk w' b7 [o7, .int .i64 dx8.workers, .int .i64 dx8.cap] ∧ At w' (sblk o1) (soff o1 + k * 4) [.int .i64 ((dx1.nodes[k]'hi1).kind), .int .i64 ((dx1.nodes[k]'hi1).a), .int .i64 ((dx1.nodes[k]'hi1).b), o8] ∧ RdD w' w1.heap.size w2.heap.size o8 ((dx1.nodes[k]'hi1).outs) ∧ m ≤ dx1.nodes.length ∧ gt = (List.range m).any (gateAt dx1 k)) (fun (xq : Nat × Bool) => let ⟨m, gt⟩ := xq; dx1.nodes.length - m) (0, false) ⟨rfl, rfl, rfl, rfl, rfl, rfl, rfl, trivial⟩ ⟨E, Nat.le_refl _, hd1, h1, hd2, h2, hd3, h3, hw1, h4, hw2, h5, hd4, hd5, h6, h7, ha1, hd6, Nat.zero_le _, rfl⟩ ?_
          clear E hd1 h1 hd2 h2 hd3 h3 hw1 h4 hw2 h5 hd4 hd5 h6 h7 ha1 hd6
          rintro ⟨m, gt⟩ w49 ⟨E, z47, hd1, h1, hd2, h2, hd3, h3, hw1, h4, hw2, h5, hd4, hd5, h6, h7, ha1, hd6, hm, hgt⟩
          refine S_sub [(2, .bool false), (3, .pointer (some ⟨b1, 0, none⟩)), (4, .bool (graphOk dx1)), (16, .bool bk), (17, .int .i64 ((k : Nat) : Int)), (18, .bool gt), (19, .int .i64 ((m : Nat) : Int))] ⟨rfl, rfl, rfl, rfl, rfl, rfl, rfl, trivial⟩ ?_
          refine S_seq ?_
          refine S_seq ?_
          refine S_reg [true, true, true, true, true] rfl rfl ?_
          refine J_st (R_move rfl) rfl (J_st (R_fieldAddr0 fl26_0 rfl) rfl (J_st (R_load sc24 rfl (h1.one 0 rfl)) rfl (J_st (R_len Try.underlying24 rfl hd1.len) rfl (J_st (R_lss rfl rfl) rfl (J_done ?_)))))
          refine S_cond rfl (fun hc8 => ?_) (fun hc8 => ?_)
          · have hc8n : m < dx1.nodes.length := by first | (have h := of_decide_eq_true hc8; omega) | (have h := hc8; simp at h; omega)
            refine S_skip ?_
            refine S_seq ?_
            refine S_block ?_
            refine S_reg [true, true, true, true, true, true, true, true, true, true, true, true, true, true, true, true, true, true, true, true, true, true, true, true, true, true, false, true, true, true, true, false, true, true, true, true, true] rfl rfl ?_
            refine J_st (R_move rfl) rfl (J_st (R_move rfl) rfl ?_)
            refine J_cut 34 [(2, .bool false), (3, .pointer (some ⟨b1, 0, none⟩)), (4, .bool (graphOk dx1)), (16, .bool bk), (17, .int .i64 ((k : Nat) : Int)), (18, .bool gt), (19, .int .i64 ((m : Nat) : Int)), (134, .int .i64 ((m : Nat) : Int)), (135, .pointer (some ⟨b1, 0, none⟩)), (136, o1), (137, .int .i64 ((dx1.nodes.length : Nat) : Int)), (138, .bool (decide (((m : Nat) : Int) < ((dx1.nodes.length : Nat) : Int)))), (176, .bool (gt || (((((List.getD dx1.nodes m default).kind) == 5) || (((List.getD dx1.nodes m default).kind) == 6)) && ((((m : Nat) : Int) == ((k : Nat) : Int)) || ((reaches dx1 ((k : Nat) : Int) ((m : Nat) : Int)) && (reaches dx1 ((m : Nat) : Int) ((k : Nat) : Int)))))))] (fun w' => Ext w w' ∧ w49.heap.size ≤ w'.heap.size ∧ RdD w' w1.heap.size w2.heap.size o1 dx1.nodes ∧ Blk w' b1 [o1, .int .i64 dx1.workers, .int .i64 dx1.cap] ∧ RdD w' w8.heap.size w14.heap.size o2 dx2.nodes ∧ Blk w' b2 [o2, .int .i64 dx2.workers, .int .i64 dx2.cap] ∧ RdD w' w16.heap.size w17.heap.size o3 dx5.nodes ∧ Blk w' b3 [o3, .int .i64 dx5.workers, .int .i64 dx5.cap] ∧ Own w' w19.heap.size w20.heap.size 1 o4 (List.flatMap (Enc.enc (α := Int)) (((nodeOf dx5 dx6).1).outs)) ∧ Blk w' b4 [.int .i64 (((nodeOf dx5 dx6).1).kind), .int .i64 (((nodeOf dx5 dx6).1).a), .int .i64 (((nodeOf dx5 dx6).1).b), o4] ∧ Own w' w22.heap.size w23.heap.size 1 o5 (List.flatMap (Enc.enc (α := Int)) (((nodeOf dx5 dx6).1).outs)) ∧ Blk w' b5 [.int .i64 (((nodeOf dx5 dx6).1).kind), .int .i64 (((nodeOf dx5 dx6).1).a), .int .i64 (((nodeOf dx5 dx6).1).b), o5] ∧ RdD w' w25.heap.size w26.heap.size o6 dx7.nodes ∧ RdD w' w25.heap.size w26.heap.size o7 dx8.nodes ∧ Blk w' b6 [o6, .int .i64 dx7.workers, .int .i64 dx7.cap] ∧ Blk w' b7 [o7, .int .i64 dx8.workers, .int .i64 dx8.cap] ∧ At w' (sblk o1) (soff o1 + k * 4) [.int .i64 ((dx1.nodes[k]'hi1).kind), .int .i64 ((dx1.nodes[k]'hi1).a), .int .i64 ((dx1.nodes[k]'hi1).b), o8] ∧ RdD w' w1.heap.size w2.heap.size o8 ((dx1.nodes[k]'hi1).outs)) ?_ ?_
            · refine J_if (gd := 142) rfl rfl (fun hg15 => ?_) (fun hg15 => ?_)
              · refine J_gdno rfl rfl rfl rfl (J_gdno rfl rfl rfl rfl (J_gdno rfl rfl rfl rfl (J_gdno rfl rfl rfl rfl (J_gdno rfl rfl rfl rfl (J_gdno rfl rfl rfl rfl (J_gdno rfl rfl rfl rfl (J_gdno rfl rfl rfl rfl (J_gdx rfl rfl rfl (J_gdx rfl rfl rfl (J_gdx rfl rfl rfl (J_gdx rfl rfl rfl (J_gdx rfl rfl rfl (J_gdx rfl rfl rfl (J_gdx rfl rfl rfl (J_gdno rfl rfl rfl rfl (J_gdno rfl rfl rfl rfl (J_gdx rfl rfl rfl (J_gdx rfl rfl rfl (J_gdx rfl rfl rfl (J_gdx rfl rfl rfl (J_gdx rfl rfl rfl (J_gdx rfl rfl rfl (J_gdx rfl rfl rfl ?_)))))))))))))))))))))))
                refine J_ungx rfl rfl rfl ?_
                refine J_gdx rfl rfl rfl (J_gdx rfl rfl rfl (J_gdx rfl rfl rfl (J_gdx rfl rfl rfl ?_)))
                refine J_ungx rfl rfl rfl ?_
                refine J_gdx rfl rfl rfl (J_gdx rfl rfl rfl (J_gdno rfl rfl rfl rfl (J_st (R_pickT rfl rfl) rfl (J_cutEnd ⟨rfl, rfl, rfl, rfl, rfl, rfl, rfl, rfl, rfl, rfl, rfl, rfl, congrArg (fun b => some (Value.bool b)) (show true = (gt || (((((List.getD dx1.nodes m default).kind) == 5) || (((List.getD dx1.nodes m default).kind) == 6)) && ((((m : Nat) : Int) == ((k : Nat) : Int)) || ((reaches dx1 ((k : Nat) : Int) ((m : Nat) : Int)) && (reaches dx1 ((m : Nat) : Int) ((k : Nat) : Int)))))) by first | (rw [hg15] <;> rfl) | (simp [hg15]; done) | (simp only [nat_nlt] <;> simp)), trivial⟩ ⟨E, (by omega), hd1, h1, hd2, h2, hd3, h3, hw1, h4, hw2, h5, hd4, hd5, h6, h7, ha1, hd6⟩))))
              · refine J_gd rfl rfl (R_fieldAddr0 fl26_0 rfl) rfl (J_gd rfl rfl (R_load sc24 rfl (h1.one 0 rfl)) rfl (J_gd rfl rfl (R_move rfl) rfl ?_))
                have hi3 : m < dx1.nodes.length := (by first | assumption | omega | (simp only [List.length_set]; first | assumption | omega) | (simp only [List.getElem_set_self, List.length_set]; first | assumption | omega) | (simp only [setW, setLk, List.length_set]; first | assumption | omega) | (simp; done))
                obtain ⟨_, hr3, ha3⟩ := RdD.getD hd1 hi3
                obtain ⟨o10, rfl, hd8⟩ := Node.op hr3
                replace ha3 : At w49 (sblk o1) (soff o1 + m * 4) [.int .i64 ((List.getD dx1.nodes m default).kind), .int .i64 ((List.getD dx1.nodes m default).a), .int .i64 ((List.getD dx1.nodes m default).b), o10] := ha3
                have ha3b := RdD.blk hd1 hi3
                refine J_gd rfl rfl (R_index (i := m) sl24 rfl rfl hd1.1 hi3) rfl (J_gd rfl rfl (R_fieldAddr fl37_0 rfl) rfl (J_gd rfl rfl (R_load sc3 rfl (ha3.one 0 rfl)) rfl (J_gd rfl rfl (R_eql rfl rfl) rfl (J_gd rfl rfl (R_move rfl) rfl ?_))))
                refine J_if (gd := 150) rfl rfl (fun hg16 => ?_) (fun hg16 => ?_)
                · refine J_gdno rfl rfl rfl rfl (J_gdno rfl rfl rfl rfl (J_gdno rfl rfl rfl rfl (J_gdno rfl rfl rfl rfl (J_gdno rfl rfl rfl rfl (J_gdno rfl rfl rfl rfl (J_gdno rfl rfl rfl rfl (J_gd rfl rfl (R_pickT rfl rfl) rfl (J_gd rfl rfl (R_move rfl) rfl (J_gd rfl rfl (R_move rfl) rfl (J_gd rfl rfl (R_move rfl) rfl (J_gd rfl rfl (R_eql rfl rfl) rfl (J_gd rfl rfl (R_move rfl) rfl ?_))))))))))))
                  refine J_if (gd := 163) rfl rfl (fun hg17 => ?_) (fun hg17 => ?_)
                  · have hg17n : m = k := by first | (have h := of_decide_eq_true hg17; omega) | (have h := hg17; simp at h; omega)
                    refine J_gdno rfl rfl rfl rfl (J_gdno rfl rfl rfl rfl (J_gdno rfl rfl rfl rfl ?_))
                    refine J_ungno rfl rfl rfl rfl ?_
                    refine J_gdno rfl rfl rfl rfl (J_gdx rfl rfl rfl (J_gdx rfl rfl rfl (J_gdx rfl rfl rfl ?_)))
                    refine J_ungx rfl rfl rfl ?_
                    refine J_gdno rfl rfl rfl rfl (J_gd rfl rfl (R_pickT rfl rfl) rfl (J_gd rfl rfl (R_pickT rfl rfl) rfl (J_st (R_pickF rfl rfl) rfl (J_cutEnd ⟨rfl, rfl, rfl, rfl, rfl, rfl, rfl, rfl, rfl, rfl, rfl, rfl, congrArg (fun b => some (Value.bool b)) (show true = (gt || (((((List.getD dx1.nodes m default).kind) == 5) || (((List.getD dx1.nodes m default).kind) == 6)) && ((((m : Nat) : Int) == ((k : Nat) : Int)) || ((reaches dx1 ((k : Nat) : Int) ((m : Nat) : Int)) && (reaches dx1 ((m : Nat) : Int) ((k : Nat) : Int)))))) by first | (rw [hg15, hg16, hg17] <;> rfl) | (simp [hg15, hg16, hg17]; done) | (simp only [nat_nlt] <;> simp)), trivial⟩ ⟨E, (by omega), hd1, h1, hd2, h2, hd3, h3, hw1, h4, hw2, h5, hd4, hd5, h6, h7, ha1, hd6⟩))))
                  · have hg17n : ¬ m = k := by first | (have h := of_decide_eq_false hg17; omega) | (have h := hg17; simp at h; omega)
                    refine J_gd rfl rfl (R_loadS st26 rfl h1.at rfl) rfl (J_gd rfl rfl (R_move rfl) rfl (J_gd rfl rfl (R_move rfl) rfl ?_))
                    refine J_ung rfl rfl ?_
                    refine J_call Try.call21 rfl (s_Reaches [o1, .int .i64 dx1.workers, .int .i64 dx1.cap] dx1 ((k : Nat) : Int) ((m : Nat) : Int) _ (Graph.mkR dx1 (RdD.any hd1))) rfl (fun _ w51 e35 hv => ?_)
                    subst hv
                    replace E := E.trans e35; replace hd1 := hd1.ext e35; replace h1 := h1.ext e35; replace hd2 := hd2.ext e35; replace h2 := h2.ext e35; replace hd3 := hd3.ext e35; replace h3 := h3.ext e35; replace hw1 := hw1.ext e35; replace h4 := h4.ext e35; replace hw2 := hw2.ext e35; replace h5 := h5.ext e35; replace hd4 := hd4.ext e35; replace hd5 := hd5.ext e35; replace h6 := h6.ext e35; replace h7 := h7.ext e35; replace ha1 := ha1.ext e35; replace hd6 := hd6.ext e35; replace ha3 := ha3.ext e35; replace hd8 := hd8.ext e35
                    have z48 := e35.size
                    refine J_gd rfl rfl (R_move rfl) rfl ?_
                    refine J_if (gd := 168) rfl rfl (fun hg18 => ?_) (fun hg18 => ?_)
                    · refine J_gd rfl rfl (R_loadS st26 rfl h1.at rfl) rfl (J_gd rfl rfl (R_move rfl) rfl (J_gd rfl rfl (R_move rfl) rfl ?_))
                      refine J_ung rfl rfl ?_
                      refine J_call Try.call21 rfl (s_Reaches [o1, .int .i64 dx1.workers, .int .i64 dx1.cap] dx1 ((m : Nat) : Int) ((k : Nat) : Int) _ (Graph.mkR dx1 (RdD.any hd1))) rfl (fun _ w52 e36 hv => ?_)
                      subst hv
                      replace E := E.trans e36; replace hd1 := hd1.ext e36; replace h1 := h1.ext e36; replace hd2 := hd2.ext e36; replace h2 := h2.ext e36; replace hd3 := hd3.ext e36; replace h3 := h3.ext e36; replace hw1 := hw1.ext e36; replace h4 := h4.ext e36; replace hw2 := hw2.ext e36; replace h5 := h5.ext e36; replace hd4 := hd4.ext e36; replace hd5 := hd5.ext e36; replace h6 := h6.ext e36; replace h7 := h7.ext e36; replace ha1 := ha1.ext e36; replace hd6 := hd6.ext e36; replace ha3 := ha3.ext e36; replace hd8 := hd8.ext e36
                      have z49 := e36.size
                      refine J_gd rfl rfl (R_pickT rfl rfl) rfl (J_gd rfl rfl (R_pickF rfl rfl) rfl (J_gd rfl rfl (R_pickT rfl rfl) rfl (J_st (R_pickF rfl rfl) rfl (J_cutEnd ⟨rfl, rfl, rfl, rfl, rfl, rfl, rfl, rfl, rfl, rfl, rfl, rfl, congrArg (fun b => some (Value.bool b)) (show (reaches dx1 ((m : Nat) : Int) ((k : Nat) : Int)) = (gt || (((((List.getD dx1.nodes m default).kind) == 5) || (((List.getD dx1.nodes m default).kind) == 6)) && ((((m : Nat) : Int) == ((k : Nat) : Int)) || ((reaches dx1 ((k : Nat) : Int) ((m : Nat) : Int)) && (reaches dx1 ((m : Nat) : Int) ((k : Nat) : Int)))))) by first | (rw [hg15, hg16, hg17, hg18] <;> rfl) | (simp [hg15, hg16, hg17, hg18]; done) | (simp only [nat_nlt] <;> simp)), trivial⟩ ⟨E, (by omega), hd1, h1, hd2, h2, hd3, h3, hw1, h4, hw2, h5, hd4, hd5, h6, h7, ha1, hd6⟩))))
                    · refine J_gdno rfl rfl rfl rfl (J_gdno rfl rfl rfl rfl (J_gdno rfl rfl rfl rfl ?_))
                      refine J_ungno rfl rfl rfl rfl ?_
                      refine J_gd rfl rfl (R_pickF rfl rfl) rfl (J_gd rfl rfl (R_pickF rfl rfl) rfl (J_gd rfl rfl (R_pickT rfl rfl) rfl (J_st (R_pickF rfl rfl) rfl (J_cutEnd ⟨rfl, rfl, rfl, rfl, rfl, rfl, rfl, rfl, rfl, rfl, rfl, rfl, congrArg (fun b => some (Value.bool b)) (show false = (gt || (((((List.getD dx1.nodes m default).kind) == 5) || (((List.getD dx1.nodes m default).kind) == 6)) && ((((m : Nat) : Int) == ((k : Nat) : Int)) || ((reaches dx1 ((k : Nat) : Int) ((m : Nat) : Int)) && (reaches dx1 ((m : Nat) : Int) ((k : Nat) : Int)))))) by first | (rw [hg15, hg16, hg17, hg18] <;> rfl) | (simp [hg15, hg16, hg17, hg18]; done) | (simp only [nat_nlt] <;> simp)), trivial⟩ ⟨E, (by omega), hd1, h1, hd2, h2, hd3, h3, hw1, h4, hw2, h5, hd4, hd5, h6, h7, ha1, hd6⟩))))
                · refine J_gd rfl rfl (R_fieldAddr0 fl26_0 rfl) rfl (J_gd rfl rfl (R_load sc24 rfl (h1.one 0 rfl)) rfl (J_gd rfl rfl (R_move rfl) rfl (J_gd rfl rfl (R_index (i := m) sl24 rfl rfl hd1.1 hi3) rfl (J_gd rfl rfl (R_fieldAddr fl37_0 rfl) rfl (J_gd rfl rfl (R_load sc3 rfl (ha3.one 0 rfl)) rfl (J_gd rfl rfl (R_eql rfl rfl) rfl (J_gd rfl rfl (R_pickF rfl rfl) rfl (J_gd rfl rfl (R_move rfl) rfl ?_))))))))
                  refine J_if (gd := 159) rfl rfl (fun hg19 => ?_) (fun hg19 => ?_)
                  · refine J_gd rfl rfl (R_move rfl) rfl (J_gd rfl rfl (R_move rfl) rfl (J_gd rfl rfl (R_eql rfl rfl) rfl (J_gd rfl rfl (R_move rfl) rfl ?_)))
                    refine J_if (gd := 163) rfl rfl (fun hg20 => ?_) (fun hg20 => ?_)
                    · have hg20n : m = k := by first | (have h := of_decide_eq_true hg20; omega) | (have h := hg20; simp at h; omega)
                      refine J_gdno rfl rfl rfl rfl (J_gdno rfl rfl rfl rfl (J_gdno rfl rfl rfl rfl ?_))
                      refine J_ungno rfl rfl rfl rfl ?_
                      refine J_gdno rfl rfl rfl rfl (J_gdx rfl rfl rfl (J_gdx rfl rfl rfl (J_gdx rfl rfl rfl ?_)))
                      refine J_ungx rfl rfl rfl ?_
                      refine J_gdno rfl rfl rfl rfl (J_gd rfl rfl (R_pickT rfl rfl) rfl (J_gd rfl rfl (R_pickT rfl rfl) rfl (J_st (R_pickF rfl rfl) rfl (J_cutEnd ⟨rfl, rfl, rfl, rfl, rfl, rfl, rfl, rfl, rfl, rfl, rfl, rfl, congrArg (fun b => some (Value.bool b)) (show true = (gt || (((((List.getD dx1.nodes m default).kind) == 5) || (((List.getD dx1.nodes m default).kind) == 6)) && ((((m : Nat) : Int) == ((k : Nat) : Int)) || ((reaches dx1 ((k : Nat) : Int) ((m : Nat) : Int)) && (reaches dx1 ((m : Nat) : Int) ((k : Nat) : Int)))))) by first | (rw [hg15, hg16, hg19, hg20] <;> rfl) | (simp [hg15, hg16, hg19, hg20]; done) | (simp only [nat_nlt] <;> simp)), trivial⟩ ⟨E, (by omega), hd1, h1, hd2, h2, hd3, h3, hw1, h4, hw2, h5, hd4, hd5, h6, h7, ha1, hd6⟩))))
                    · have hg20n : ¬ m = k := by first | (have h := of_decide_eq_false hg20; omega) | (have h := hg20; simp at h; omega)
                      refine J_gd rfl rfl (R_loadS st26 rfl h1.at rfl) rfl (J_gd rfl rfl (R_move rfl) rfl (J_gd rfl rfl (R_move rfl) rfl ?_))
                      refine J_ung rfl rfl ?_
                      refine J_call Try.call21 rfl (s_Reaches [o1, .int .i64 dx1.workers, .int .i64 dx1.cap] dx1 ((k : Nat) : Int) ((m : Nat) : Int) _ (Graph.mkR dx1 (RdD.any hd1))) rfl (fun _ w53 e37 hv => ?_)
                      subst hv
                      replace E := E.trans e37; replace hd1 := hd1.ext e37; replace h1 := h1.ext e37; replace hd2 := hd2.ext e37; replace h2 := h2.ext e37; replace hd3 := hd3.ext e37; replace h3 := h3.ext e37; replace hw1 := hw1.ext e37; replace h4 := h4.ext e37; replace hw2 := hw2.ext e37; replace h5 := h5.ext e37; replace hd4 := hd4.ext e37; replace hd5 := hd5.ext e37; replace h6 := h6.ext e37; replace h7 := h7.ext e37; replace ha1 := ha1.ext e37; replace hd6 := hd6.ext e37; replace ha3 := ha3.ext e37; replace hd8 := hd8.ext e37
                      have z50 := e37.size
                      refine J_gd rfl rfl (R_move rfl) rfl ?_
                      refine J_if (gd := 168) rfl rfl (fun hg21 => ?_) (fun hg21 => ?_)
                      · refine J_gd rfl rfl (R_loadS st26 rfl h1.at rfl) rfl (J_gd rfl rfl (R_move rfl) rfl (J_gd rfl rfl (R_move rfl) rfl ?_))
                        refine J_ung rfl rfl ?_
                        refine J_call Try.call21 rfl (s_Reaches [o1, .int .i64 dx1.workers, .int .i64 dx1.cap] dx1 ((m : Nat) : Int) ((k : Nat) : Int) _ (Graph.mkR dx1 (RdD.any hd1))) rfl (fun _ w54 e38 hv => ?_)
                        subst hv
                        replace E := E.trans e38; replace hd1 := hd1.ext e38; replace h1 := h1.ext e38; replace hd2 := hd2.ext e38; replace h2 := h2.ext e38; replace hd3 := hd3.ext e38; replace h3 := h3.ext e38; replace hw1 := hw1.ext e38; replace h4 := h4.ext e38; replace hw2 := hw2.ext e38; replace h5 := h5.ext e38; replace hd4 := hd4.ext e38; replace hd5 := hd5.ext e38; replace h6 := h6.ext e38; replace h7 := h7.ext e38; replace ha1 := ha1.ext e38; replace hd6 := hd6.ext e38; replace ha3 := ha3.ext e38; replace hd8 := hd8.ext e38
                        have z51 := e38.size
                        refine J_gd rfl rfl (R_pickT rfl rfl) rfl (J_gd rfl rfl (R_pickF rfl rfl) rfl (J_gd rfl rfl (R_pickT rfl rfl) rfl (J_st (R_pickF rfl rfl) rfl (J_cutEnd ⟨rfl, rfl, rfl, rfl, rfl, rfl, rfl, rfl, rfl, rfl, rfl, rfl, congrArg (fun b => some (Value.bool b)) (show (reaches dx1 ((m : Nat) : Int) ((k : Nat) : Int)) = (gt || (((((List.getD dx1.nodes m default).kind) == 5) || (((List.getD dx1.nodes m default).kind) == 6)) && ((((m : Nat) : Int) == ((k : Nat) : Int)) || ((reaches dx1 ((k : Nat) : Int) ((m : Nat) : Int)) && (reaches dx1 ((m : Nat) : Int) ((k : Nat) : Int)))))) by first | (rw [hg15, hg16, hg19, hg20, hg21] <;> rfl) | (simp [hg15, hg16, hg19, hg20, hg21]; done) | (simp only [nat_nlt] <;> simp)), trivial⟩ ⟨E, (by omega), hd1, h1, hd2, h2, hd3, h3, hw1, h4, hw2, h5, hd4, hd5, h6, h7, ha1, hd6⟩))))
                      · refine J_gdno rfl rfl rfl rfl (J_gdno rfl rfl rfl rfl (J_gdno rfl rfl rfl rfl ?_))
                        refine J_ungno rfl rfl rfl rfl ?_
                        refine J_gd rfl rfl (R_pickF rfl rfl) rfl (J_gd rfl rfl (R_pickF rfl rfl) rfl (J_gd rfl rfl (R_pickT rfl rfl) rfl (J_st (R_pickF rfl rfl) rfl (J_cutEnd ⟨rfl, rfl, rfl, rfl, rfl, rfl, rfl, rfl, rfl, rfl, rfl, rfl, congrArg (fun b => some (Value.bool b)) (show false = (gt || (((((List.getD dx1.nodes m default).kind) == 5) || (((List.getD dx1.nodes m default).kind) == 6)) && ((((m : Nat) : Int) == ((k : Nat) : Int)) || ((reaches dx1 ((k : Nat) : Int) ((m : Nat) : Int)) && (reaches dx1 ((m : Nat) : Int) ((k : Nat) : Int)))))) by first | (rw [hg15, hg16, hg19, hg20, hg21] <;> rfl) | (simp [hg15, hg16, hg19, hg20, hg21]; done) | (simp only [nat_nlt] <;> simp)), trivial⟩ ⟨E, (by omega), hd1, h1, hd2, h2, hd3, h3, hw1, h4, hw2, h5, hd4, hd5, h6, h7, ha1, hd6⟩))))
                  · refine J_gdno rfl rfl rfl rfl (J_gdno rfl rfl rfl rfl (J_gdno rfl rfl rfl rfl (J_gdno rfl rfl rfl rfl (J_gdx rfl rfl rfl (J_gdx rfl rfl rfl (J_gdx rfl rfl rfl ?_))))))
                    refine J_ungx rfl rfl rfl ?_
                    refine J_gdx rfl rfl rfl (J_gdx rfl rfl rfl (J_gdx rfl rfl rfl (J_gdx rfl rfl rfl ?_)))
                    refine J_ungx rfl rfl rfl ?_
                    refine J_gdx rfl rfl rfl (J_gdno rfl rfl rfl rfl (J_gd rfl rfl (R_pickF rfl rfl) rfl (J_st (R_pickF rfl rfl) rfl (J_cutEnd ⟨rfl, rfl, rfl, rfl, rfl, rfl, rfl, rfl, rfl, rfl, rfl, rfl, congrArg (fun b => some (Value.bool b)) (show false = (gt || (((((List.getD dx1.nodes m default).kind) == 5) || (((List.getD dx1.nodes m default).kind) == 6)) && ((((m : Nat) : Int) == ((k : Nat) : Int)) || ((reaches dx1 ((k : Nat) : Int) ((m : Nat) : Int)) && (reaches dx1 ((m : Nat) : Int) ((k : Nat) : Int)))))) by first | (rw [hg15, hg16, hg19] <;> rfl) | (simp [hg15, hg16, hg19]; done) | (simp only [nat_nlt] <;> simp)), trivial⟩ ⟨E, (by omega), hd1, h1, hd2, h2, hd3, h3, hw1, h4, hw2, h5, hd4, hd5, h6, h7, ha1, hd6⟩))))
            clear E hd1 h1 hd2 h2 hd3 h3 hw1 h4 hw2 h5 hd4 hd5 h6 h7 ha1 hd6
            rintro w50 ⟨E, z52, hd1, h1, hd2, h2, hd3, h3, hw1, h4, hw2, h5, hd4, hd5, h6, h7, ha1, hd6⟩
            refine J_st (R_assign rfl) rfl (J_done ?_)
            refine S_nil (E_inB ?_)
            refine S_reg [true, true, true] rfl rfl ?_
            refine J_st (R_move rfl) rfl (J_st (R_add rfl rfl (add_nat (by unfold maxLen; omega))) rfl (J_st (R_assign rfl) rfl (J_done ?_)))
            refine S_nil (E_again (m + 1, (gt || (((((List.getD dx1.nodes m default).kind) == 5) || (((List.getD dx1.nodes m default).kind) == 6)) && ((((m : Nat) : Int) == ((k : Nat) : Int)) || ((reaches dx1 ((k : Nat) : Int) ((m : Nat) : Int)) && (reaches dx1 ((m : Nat) : Int) ((k : Nat) : Int))))))) (by simp; omega) ⟨rfl, rfl, rfl, rfl, rfl, rfl, rfl, trivial⟩ ⟨E, (by omega), hd1, h1, hd2, h2, hd3, h3, hw1, h4, hw2, h5, hd4, hd5, h6, h7, ha1, hd6, (by omega), (any_range hgt)⟩)
          · have hc8n : ¬ m < dx1.nodes.length := by first | (have h := of_decide_eq_false hc8; omega) | (have h := hc8; simp at h; omega)
            refine S_exit (E_lp_exit (E_inB_exit ?_))
            refine S_seq ?_
            refine S_reg [true, true] rfl rfl ?_
            refine J_st (R_move rfl) rfl (J_st (R_not rfl) rfl (J_done ?_))
            refine S_cond rfl (fun hc9 => ?_) (fun hc9 => ?_)
            · refine S_seq ?_
              refine S_reg [true] rfl rfl ?_
              refine J_st (R_assign rfl) rfl (J_done ?_)
              refine S_ret (E_inB_ret (E_lp_ret (E_inB_ret (E_done1 rfl rfl E ?_))))
              have hge : m = dx1.nodes.length := by omega
              rw [hge, gate_any hgo hlt hc7] at hgt
              subst hgt
              exact absurd hc9 (by decide)
            · refine S_skip ?_
              refine S_nil (E_inB ?_)
              refine S_reg [true, true, true] rfl rfl ?_
              refine J_st (R_move rfl) rfl (J_st (R_add rfl rfl (add_nat (by unfold maxLen; omega))) rfl (J_st (R_assign rfl) rfl (J_done ?_)))
              refine S_nil (E_again (k + 1, bk) (by simp; omega) ⟨rfl, rfl, rfl, rfl, rfl, trivial⟩ ⟨E, (by omega), hd1, h1, hd2, h2, hd3, h3, hw1, h4, hw2, h5, hd4, hd5, h6, h7, (by omega), (by rw [← any_range hbk, backAt, getD_at hlt, hc3]; simp)⟩)
        · refine S_skip ?_
          refine S_nil (E_inB ?_)
          refine S_reg [true, true, true] rfl rfl ?_
          refine J_st (R_move rfl) rfl (J_st (R_add rfl rfl (add_nat (by unfold maxLen; omega))) rfl (J_st (R_assign rfl) rfl (J_done ?_)))
          refine S_nil (E_again (k + 1, bk) (by simp; omega) ⟨rfl, rfl, rfl, rfl, rfl, trivial⟩ ⟨E, (by omega), hd1, h1, hd2, h2, hd3, h3, hw1, h4, hw2, h5, hd4, hd5, h6, h7, (by omega), (by rw [← any_range hbk, backAt, getD_at hlt, hc3]; simp)⟩)
    · refine S_exit (E_lp_exit (E_inB_exit ?_))
      refine S_seq ?_
      refine S_reg [false, true, false, true, false, true, false, true, false, false] rfl rfl ?_
      refine J_buildSlice (vs := [.int .i64 1]) (css := [[.int .i64 1]]) sl30 rfl rfl ⟨⟨rfl, rfl⟩, trivial⟩ rfl rfl (fun b8 w55 e39 s8 h8 => ?_)
      replace h8 : Blk w55 b8 [.int .i64 1] := h8
      have g_b8 : w.heap.size ≤ b8 := by have := E.size; omega
      have y_b8 := h8.lt
      replace E := E.trans e39; replace hd1 := hd1.ext e39; replace h1 := h1.ext e39; replace hd2 := hd2.ext e39; replace h2 := h2.ext e39; replace hd3 := hd3.ext e39; replace h3 := h3.ext e39; replace hw1 := hw1.ext e39; replace h4 := h4.ext e39; replace hw2 := hw2.ext e39; replace h5 := h5.ext e39; replace hd4 := hd4.ext e39; replace hd5 := hd5.ext e39; replace h6 := h6.ext e39; replace h7 := h7.ext e39
      have z53 := e39.size
      have hbl1 : ∀ w, (Instr.build 37 ([(0, .int .i64 1), (3, .slice (some ⟨b8, 0, none⟩) 1 1)]).toArray).run Try.prog w = .ok (.agg [.int .i64 1, .int .i64 0, .int .i64 0, .slice (some ⟨b8, 0, none⟩) 1 1].toArray) w := by clear E; intro w; kernel_rfl
      refine J_st (R_buildC [.int .i64 1, .int .i64 0, .int .i64 0, .slice (some ⟨b8, 0, none⟩) 1 1] rfl hbl1) rfl ?_
      refine J_buildSlice (vs := [.int .i64 2]) (css := [[.int .i64 2]]) sl30 rfl rfl ⟨⟨rfl, rfl⟩, trivial⟩ rfl rfl (fun b9 w56 e40 s9 h9 => ?_)
      replace h9 : Blk w56 b9 [.int .i64 2] := h9
      have g_b9 : w.heap.size ≤ b9 := by have := E.size; omega
      have y_b9 := h9.lt
      replace E := E.trans e40; replace hd1 := hd1.ext e40; replace h1 := h1.ext e40; replace hd2 := hd2.ext e40; replace h2 := h2.ext e40; replace hd3 := hd3.ext e40; replace h3 := h3.ext e40; replace hw1 := hw1.ext e40; replace h4 := h4.ext e40; replace hw2 := hw2.ext e40; replace h5 := h5.ext e40; replace hd4 := hd4.ext e40; replace hd5 := hd5.ext e40; replace h6 := h6.ext e40; replace h7 := h7.ext e40; replace h8 := h8.ext e40
      have z54 := e40.size
      have hbl2 : ∀ w, (Instr.build 37 ([(0, .int .i64 5), (3, .slice (some ⟨b9, 0, none⟩) 1 1)]).toArray).run Try.prog w = .ok (.agg [.int .i64 5, .int .i64 0, .int .i64 0, .slice (some ⟨b9, 0, none⟩) 1 1].toArray) w := by clear E; intro w; kernel_rfl
      refine J_st (R_buildC [.int .i64 5, .int .i64 0, .int .i64 0, .slice (some ⟨b9, 0, none⟩) 1 1] rfl hbl2) rfl ?_
      refine J_buildSlice (vs := [.int .i64 1]) (css := [[.int .i64 1]]) sl30 rfl rfl ⟨⟨rfl, rfl⟩, trivial⟩ rfl rfl (fun b10 w57 e41 s10 h10 => ?_)
      replace h10 : Blk w57 b10 [.int .i64 1] := h10
      have g_b10 : w.heap.size ≤ b10 := by have := E.size; omega
      have y_b10 := h10.lt
      replace E := E.trans e41; replace hd1 := hd1.ext e41; replace h1 := h1.ext e41; replace hd2 := hd2.ext e41; replace h2 := h2.ext e41; replace hd3 := hd3.ext e41; replace h3 := h3.ext e41; replace hw1 := hw1.ext e41; replace h4 := h4.ext e41; replace hw2 := hw2.ext e41; replace h5 := h5.ext e41; replace hd4 := hd4.ext e41; replace hd5 := hd5.ext e41; replace h6 := h6.ext e41; replace h7 := h7.ext e41; replace h8 := h8.ext e41; replace h9 := h9.ext e41
      have z55 := e41.size
      have hbl3 : ∀ w, (Instr.build 37 ([(0, .int .i64 7), (3, .slice (some ⟨b10, 0, none⟩) 1 1)]).toArray).run Try.prog w = .ok (.agg [.int .i64 7, .int .i64 0, .int .i64 0, .slice (some ⟨b10, 0, none⟩) 1 1].toArray) w := by clear E; intro w; kernel_rfl
      refine J_st (R_buildC [.int .i64 7, .int .i64 0, .int .i64 0, .slice (some ⟨b10, 0, none⟩) 1 1] rfl hbl3) rfl ?_
      refine J_buildSlice (vs := [.agg [.int .i64 1, .int .i64 0, .int .i64 0, .slice (some ⟨b8, 0, none⟩) 1 1].toArray, .agg [.int .i64 5, .int .i64 0, .int .i64 0, .slice (some ⟨b9, 0, none⟩) 1 1].toArray, .agg [.int .i64 7, .int .i64 0, .int .i64 0, .slice (some ⟨b10, 0, none⟩) 1 1].toArray]) (css := [[.int .i64 1, .int .i64 0, .int .i64 0, .slice (some ⟨b8, 0, none⟩) 1 1], [.int .i64 5, .int .i64 0, .int .i64 0, .slice (some ⟨b9, 0, none⟩) 1 1], [.int .i64 7, .int .i64 0, .int .i64 0, .slice (some ⟨b10, 0, none⟩) 1 1]]) sl24 rfl rfl ⟨⟨rfl, rfl⟩, ⟨rfl, rfl⟩, ⟨rfl, rfl⟩, trivial⟩ rfl rfl (fun b11 w58 e42 s11 h11 => ?_)
      replace h11 : Blk w58 b11 [.int .i64 1, .int .i64 0, .int .i64 0, .slice (some ⟨b8, 0, none⟩) 1 1, .int .i64 5, .int .i64 0, .int .i64 0, .slice (some ⟨b9, 0, none⟩) 1 1, .int .i64 7, .int .i64 0, .int .i64 0, .slice (some ⟨b10, 0, none⟩) 1 1] := h11
      have g_b11 : w.heap.size ≤ b11 := by have := E.size; omega
      have y_b11 := h11.lt
      replace E := E.trans e42; replace hd1 := hd1.ext e42; replace h1 := h1.ext e42; replace hd2 := hd2.ext e42; replace h2 := h2.ext e42; replace hd3 := hd3.ext e42; replace h3 := h3.ext e42; replace hw1 := hw1.ext e42; replace h4 := h4.ext e42; replace hw2 := hw2.ext e42; replace h5 := h5.ext e42; replace hd4 := hd4.ext e42; replace hd5 := hd5.ext e42; replace h6 := h6.ext e42; replace h7 := h7.ext e42; replace h8 := h8.ext e42; replace h9 := h9.ext e42; replace h10 := h10.ext e42
      have z56 := e42.size
      have hbl4 : ∀ w, (Instr.build 26 ([(0, .slice (some ⟨b11, 0, none⟩) 3 3), (1, .int .i64 1), (2, .int .i64 1)]).toArray).run Try.prog w = .ok (.agg [.slice (some ⟨b11, 0, none⟩) 3 3, .int .i64 1, .int .i64 1].toArray) w := by clear E; intro w; kernel_rfl
      refine J_st (R_buildC [.slice (some ⟨b11, 0, none⟩) 3 3, .int .i64 1, .int .i64 1] rfl hbl4) rfl ?_
      refine J_alloc st26 rfl (fun b12 w59 e43 s12 h12 => ?_)
      have g_b12 : w.heap.size ≤ b12 := by have := E.size; omega
      have y_b12 := h12.lt
      replace E := E.trans e43; replace hd1 := hd1.ext e43; replace h1 := h1.ext e43; replace hd2 := hd2.ext e43; replace h2 := h2.ext e43; replace hd3 := hd3.ext e43; replace h3 := h3.ext e43; replace hw1 := hw1.ext e43; replace h4 := h4.ext e43; replace hw2 := hw2.ext e43; replace h5 := h5.ext e43; replace hd4 := hd4.ext e43; replace hd5 := hd5.ext e43; replace h6 := h6.ext e43; replace h7 := h7.ext e43; replace h8 := h8.ext e43; replace h9 := h9.ext e43; replace h10 := h10.ext e43; replace h11 := h11.ext e43
      have z57 := e43.size
      refine J_storeS' (cs' := [.slice (some ⟨b11, 0, none⟩) 3 3, .int .i64 1, .int .i64 1]) st26 rfl rfl rfl (all_cons rfl (all_cons rfl (all_cons rfl rfl))) h12 (Nat.le_of_ble_eq_true rfl) rfl (fun w60 m8 h12' => ?_)
      replace h12 := h12'
      replace E := E.step m8 (fun g hg => by cases hg; omega); replace hd1 := hd1.mod m8 (fun g hg => by cases hg; omega); replace h1 := h1.mod m8 (fun g hg => by cases hg; omega); replace hd2 := hd2.mod m8 (fun g hg => by cases hg; omega); replace h2 := h2.mod m8 (fun g hg => by cases hg; omega); replace hd3 := hd3.mod m8 (fun g hg => by cases hg; omega); replace h3 := h3.mod m8 (fun g hg => by cases hg; omega); replace hw1 := hw1.mod m8 (fun g hg => by cases hg; omega); replace h4 := h4.mod m8 (fun g hg => by cases hg; omega); replace hw2 := hw2.mod m8 (fun g hg => by cases hg; omega); replace h5 := h5.mod m8 (fun g hg => by cases hg; omega); replace hd4 := hd4.mod m8 (fun g hg => by cases hg; omega); replace hd5 := hd5.mod m8 (fun g hg => by cases hg; omega); replace h6 := h6.mod m8 (fun g hg => by cases hg; omega); replace h7 := h7.mod m8 (fun g hg => by cases hg; omega); replace h8 := h8.mod m8 (fun g hg => by cases hg; omega); replace h9 := h9.mod m8 (fun g hg => by cases hg; omega); replace h10 := h10.mod m8 (fun g hg => by cases hg; omega); replace h11 := h11.mod m8 (fun g hg => by cases hg; omega)
      have z58 := m8.size
      refine J_done ?_
      refine S_seq ?_
      refine S_reg [true, true, true, false, true, true, true, true, false, true, true, true, false, true, true, true] rfl rfl ?_
      refine J_st (R_move rfl) rfl (J_st (R_move rfl) rfl ?_)
      refine J_cut 13 [(2, .bool false), (3, .pointer (some ⟨b1, 0, none⟩)), (4, .bool (graphOk dx1)), (16, .bool bk), (17, .int .i64 ((k : Nat) : Int)), (20, .pointer (some ⟨b12, 0, none⟩)), (110, .bool ((graphOk dx1) && (decide (((k : Nat) : Int) < ((dx1.nodes.length : Nat) : Int))))), (179, .slice (some ⟨b8, 0, none⟩) 1 1), (180, .agg [.int .i64 1, .int .i64 0, .int .i64 0, .slice (some ⟨b8, 0, none⟩) 1 1].toArray), (181, .slice (some ⟨b9, 0, none⟩) 1 1), (182, .agg [.int .i64 5, .int .i64 0, .int .i64 0, .slice (some ⟨b9, 0, none⟩) 1 1].toArray), (183, .slice (some ⟨b10, 0, none⟩) 1 1), (184, .agg [.int .i64 7, .int .i64 0, .int .i64 0, .slice (some ⟨b10, 0, none⟩) 1 1].toArray), (185, .slice (some ⟨b11, 0, none⟩) 3 3), (186, .agg [.slice (some ⟨b11, 0, none⟩) 3 3, .int .i64 1, .int .i64 1].toArray), (201, .bool (((bk || (!(hasLoopM dx1))) && (hasLoopM (⟨[(⟨1, 0, 0, [1]⟩ : Node), (⟨5, 0, 0, [2]⟩ : Node), (⟨7, 0, 0, [1]⟩ : Node)], 1, 1⟩ : Graph))) && (!(reaches (⟨[(⟨1, 0, 0, [1]⟩ : Node), (⟨5, 0, 0, [2]⟩ : Node), (⟨7, 0, 0, [1]⟩ : Node)], 1, 1⟩ : Graph) 1 0))))] (fun w' => Ext w w' ∧ w60.heap.size ≤ w'.heap.size ∧ RdD w' w1.heap.size w2.heap.size o1 dx1.nodes ∧ Blk w' b1 [o1, .int .i64 dx1.workers, .int .i64 dx1.cap] ∧ RdD w' w8.heap.size w14.heap.size o2 dx2.nodes ∧ Blk w' b2 [o2, .int .i64 dx2.workers, .int .i64 dx2.cap] ∧ RdD w' w16.heap.size w17.heap.size o3 dx5.nodes ∧ Blk w' b3 [o3, .int .i64 dx5.workers, .int .i64 dx5.cap] ∧ Own w' w19.heap.size w20.heap.size 1 o4 (List.flatMap (Enc.enc (α := Int)) (((nodeOf dx5 dx6).1).outs)) ∧ Blk w' b4 [.int .i64 (((nodeOf dx5 dx6).1).kind), .int .i64 (((nodeOf dx5 dx6).1).a), .int .i64 (((nodeOf dx5 dx6).1).b), o4] ∧ Own w' w22.heap.size w23.heap.size 1 o5 (List.flatMap (Enc.enc (α := Int)) (((nodeOf dx5 dx6).1).outs)) ∧ Blk w' b5 [.int .i64 (((nodeOf dx5 dx6).1).kind), .int .i64 (((nodeOf dx5 dx6).1).a), .int .i64 (((nodeOf dx5 dx6).1).b), o5] ∧ RdD w' w25.heap.size w26.heap.size o6 dx7.nodes ∧ RdD w' w25.heap.size w26.heap.size o7 dx8.nodes ∧ Blk w' b6 [o6, .int .i64 dx7.workers, .int .i64 dx7.cap] ∧ Blk w' b7 [o7, .int .i64 dx8.workers, .int .i64 dx8.cap] ∧ Blk w' b8 [.int .i64 1] ∧ Blk w' b9 [.int .i64 2] ∧ Blk w' b10 [.int .i64 1] ∧ Blk w' b11 [.int .i64 1, .int .i64 0, .int .i64 0, .slice (some ⟨b8, 0, none⟩) 1 1, .int .i64 5, .int .i64 0, .int .i64 0, .slice (some ⟨b9, 0, none⟩) 1 1, .int .i64 7, .int .i64 0, .int .i64 0, .slice (some ⟨b10, 0, none⟩) 1 1] ∧ Blk w' b12 [.slice (some ⟨b11, 0, none⟩) 3 3, .int .i64 1, .int .i64 1]) ?_ ?_
      · refine J_if (gd := 188) rfl rfl (fun hg22 => ?_) (fun hg22 => ?_)
        · refine J_gdno rfl rfl rfl rfl ?_
          refine J_ungno rfl rfl rfl rfl ?_
          refine J_gdno rfl rfl rfl rfl (J_st (R_pickT rfl rfl) rfl (J_st (R_move rfl) rfl (J_gd rfl rfl (R_loadS st26 rfl h12.at rfl) rfl ?_)))
          refine J_ung rfl rfl ?_
          have hF1 : OwF w60 b8 w60.heap.size (.slice (some ⟨b11, 0, none⟩) 3 3) [(⟨1, 0, 0, [1]⟩ : Node), (⟨5, 0, 0, [2]⟩ : Node), (⟨7, 0, 0, [1]⟩ : Node)] [b11, b8, b9, b10] := OwF.lit (css := [[.int .i64 1, .int .i64 0, .int .i64 0, .slice (some ⟨b8, 0, none⟩) 1 1], [.int .i64 5, .int .i64 0, .int .i64 0, .slice (some ⟨b9, 0, none⟩) 1 1], [.int .i64 7, .int .i64 0, .int .i64 0, .slice (some ⟨b10, 0, none⟩) 1 1]]) h11 ⟨(Node.mkO (⟨1, 0, 0, [1]⟩ : Node) ⟨trivial, trivial⟩ (Own.widen (Own.ofBlk (lo := b8) (hi := b8 + 1) (sz := 1) h8 (Nat.le_refl _) (Nat.lt_succ_self _) (by rfl) (by unfold maxLen; omega)) (by omega) (by omega))), (Node.mkO (⟨5, 0, 0, [2]⟩ : Node) ⟨trivial, trivial⟩ (Own.widen (Own.ofBlk (lo := b9) (hi := b9 + 1) (sz := 1) h9 (Nat.le_refl _) (Nat.lt_succ_self _) (by rfl) (by unfold maxLen; omega)) (by omega) (by omega))), (Node.mkO (⟨7, 0, 0, [1]⟩ : Node) ⟨trivial, trivial⟩ (Own.widen (Own.ofBlk (lo := b10) (hi := b10 + 1) (sz := 1) h10 (Nat.le_refl _) (Nat.lt_succ_self _) (by rfl) (by unfold maxLen; omega)) (by omega) (by omega))), trivial⟩ (by omega) (by omega) (show List.Nodup [b11, b8, b9, b10] from by simp; omega) rfl (by simp [maxLen])
          refine J_call Try.call13 rfl (c_HasLoop [.slice (some ⟨b11, 0, none⟩) 3 3, .int .i64 1, .int .i64 1] (⟨[(⟨1, 0, 0, [1]⟩ : Node), (⟨5, 0, 0, [2]⟩ : Node), (⟨7, 0, 0, [1]⟩ : Node)], 1, 1⟩ : Graph) _ (Graph.mkR (⟨[(⟨1, 0, 0, [1]⟩ : Node), (⟨5, 0, 0, [2]⟩ : Node), (⟨7, 0, 0, [1]⟩ : Node)], 1, 1⟩ : Graph) (RdD.any (OwF.rd hF1)))) rfl (fun _ w62 e44 hv => ?_)
          subst hv
          replace E := E.trans e44; replace hd1 := hd1.ext e44; replace h1 := h1.ext e44; replace hd2 := hd2.ext e44; replace h2 := h2.ext e44; replace hd3 := hd3.ext e44; replace h3 := h3.ext e44; replace hw1 := hw1.ext e44; replace h4 := h4.ext e44; replace hw2 := hw2.ext e44; replace h5 := h5.ext e44; replace hd4 := hd4.ext e44; replace hd5 := hd5.ext e44; replace h6 := h6.ext e44; replace h7 := h7.ext e44; replace h8 := h8.ext e44; replace h9 := h9.ext e44; replace h10 := h10.ext e44; replace h11 := h11.ext e44; replace h12 := h12.ext e44
          have z59 := e44.size
          refine J_st (R_pickT rfl rfl) rfl (J_st (R_move rfl) rfl ?_)
          refine J_if (gd := 197) rfl rfl (fun hg23 => ?_) (fun hg23 => ?_)
          · refine J_gd rfl rfl (R_loadS st26 rfl h12.at rfl) rfl ?_
            refine J_ung rfl rfl ?_
            have hF2 : OwF w62 b8 w62.heap.size (.slice (some ⟨b11, 0, none⟩) 3 3) [(⟨1, 0, 0, [1]⟩ : Node), (⟨5, 0, 0, [2]⟩ : Node), (⟨7, 0, 0, [1]⟩ : Node)] [b11, b8, b9, b10] := OwF.lit (css := [[.int .i64 1, .int .i64 0, .int .i64 0, .slice (some ⟨b8, 0, none⟩) 1 1], [.int .i64 5, .int .i64 0, .int .i64 0, .slice (some ⟨b9, 0, none⟩) 1 1], [.int .i64 7, .int .i64 0, .int .i64 0, .slice (some ⟨b10, 0, none⟩) 1 1]]) h11 ⟨(Node.mkO (⟨1, 0, 0, [1]⟩ : Node) ⟨trivial, trivial⟩ (Own.widen (Own.ofBlk (lo := b8) (hi := b8 + 1) (sz := 1) h8 (Nat.le_refl _) (Nat.lt_succ_self _) (by rfl) (by unfold maxLen; omega)) (by omega) (by omega))), (Node.mkO (⟨5, 0, 0, [2]⟩ : Node) ⟨trivial, trivial⟩ (Own.widen (Own.ofBlk (lo := b9) (hi := b9 + 1) (sz := 1) h9 (Nat.le_refl _) (Nat.lt_succ_self _) (by rfl) (by unfold maxLen; omega)) (by omega) (by omega))), (Node.mkO (⟨7, 0, 0, [1]⟩ : Node) ⟨trivial, trivial⟩ (Own.widen (Own.ofBlk (lo := b10) (hi := b10 + 1) (sz := 1) h10 (Nat.le_refl _) (Nat.lt_succ_self _) (by rfl) (by unfold maxLen; omega)) (by omega) (by omega))), trivial⟩ (by omega) (by omega) (show List.Nodup [b11, b8, b9, b10] from by simp; omega) rfl (by simp [maxLen])
            refine J_call Try.call20 rfl (c_Reaches [.slice (some ⟨b11, 0, none⟩) 3 3, .int .i64 1, .int .i64 1] (⟨[(⟨1, 0, 0, [1]⟩ : Node), (⟨5, 0, 0, [2]⟩ : Node), (⟨7, 0, 0, [1]⟩ : Node)], 1, 1⟩ : Graph) 1 0 _ (Graph.mkR (⟨[(⟨1, 0, 0, [1]⟩ : Node), (⟨5, 0, 0, [2]⟩ : Node), (⟨7, 0, 0, [1]⟩ : Node)], 1, 1⟩ : Graph) (RdD.any (OwF.rd hF2)))) rfl (fun _ w63 e45 hv => ?_)
            subst hv
            replace E := E.trans e45; replace hd1 := hd1.ext e45; replace h1 := h1.ext e45; replace hd2 := hd2.ext e45; replace h2 := h2.ext e45; replace hd3 := hd3.ext e45; replace h3 := h3.ext e45; replace hw1 := hw1.ext e45; replace h4 := h4.ext e45; replace hw2 := hw2.ext e45; replace h5 := h5.ext e45; replace hd4 := hd4.ext e45; replace hd5 := hd5.ext e45; replace h6 := h6.ext e45; replace h7 := h7.ext e45; replace h8 := h8.ext e45; replace h9 := h9.ext e45; replace h10 := h10.ext e45; replace h11 := h11.ext e45; replace h12 := h12.ext e45
            have z60 := e45.size
            refine J_gd rfl rfl (R_not rfl) rfl (J_st (R_pickT rfl rfl) rfl (J_cutEnd ⟨rfl, rfl, rfl, rfl, rfl, rfl, rfl, rfl, rfl, rfl, rfl, rfl, rfl, rfl, rfl, congrArg (fun b => some (Value.bool b)) (show (!(reaches (⟨[(⟨1, 0, 0, [1]⟩ : Node), (⟨5, 0, 0, [2]⟩ : Node), (⟨7, 0, 0, [1]⟩ : Node)], 1, 1⟩ : Graph) 1 0)) = (((bk || (!(hasLoopM dx1))) && (hasLoopM (⟨[(⟨1, 0, 0, [1]⟩ : Node), (⟨5, 0, 0, [2]⟩ : Node), (⟨7, 0, 0, [1]⟩ : Node)], 1, 1⟩ : Graph))) && (!(reaches (⟨[(⟨1, 0, 0, [1]⟩ : Node), (⟨5, 0, 0, [2]⟩ : Node), (⟨7, 0, 0, [1]⟩ : Node)], 1, 1⟩ : Graph) 1 0))) by first | (rw [hg22, hg23] <;> rfl) | (simp [hg22, hg23]; done) | (simp only [nat_nlt] <;> simp)), trivial⟩ ⟨E, (by omega), hd1, h1, hd2, h2, hd3, h3, hw1, h4, hw2, h5, hd4, hd5, h6, h7, h8, h9, h10, h11, h12⟩))
          · refine J_gdno rfl rfl rfl rfl ?_
            refine J_ungno rfl rfl rfl rfl ?_
            refine J_gdno rfl rfl rfl rfl (J_st (R_pickF rfl rfl) rfl (J_cutEnd ⟨rfl, rfl, rfl, rfl, rfl, rfl, rfl, rfl, rfl, rfl, rfl, rfl, rfl, rfl, rfl, congrArg (fun b => some (Value.bool b)) (show false = (((bk || (!(hasLoopM dx1))) && (hasLoopM (⟨[(⟨1, 0, 0, [1]⟩ : Node), (⟨5, 0, 0, [2]⟩ : Node), (⟨7, 0, 0, [1]⟩ : Node)], 1, 1⟩ : Graph))) && (!(reaches (⟨[(⟨1, 0, 0, [1]⟩ : Node), (⟨5, 0, 0, [2]⟩ : Node), (⟨7, 0, 0, [1]⟩ : Node)], 1, 1⟩ : Graph) 1 0))) by first | (rw [hg22, hg23] <;> rfl) | (simp [hg22, hg23]; done) | (simp only [nat_nlt] <;> simp)), trivial⟩ ⟨E, (by omega), hd1, h1, hd2, h2, hd3, h3, hw1, h4, hw2, h5, hd4, hd5, h6, h7, h8, h9, h10, h11, h12⟩))
        · refine J_gd rfl rfl (R_loadS st26 rfl h1.at rfl) rfl ?_
          refine J_ung rfl rfl ?_
          refine J_call Try.call13 rfl (c_HasLoop [o1, .int .i64 dx1.workers, .int .i64 dx1.cap] dx1 _ (Graph.mkR dx1 (RdD.any hd1))) rfl (fun _ w64 e46 hv => ?_)
          subst hv
          replace E := E.trans e46; replace hd1 := hd1.ext e46; replace h1 := h1.ext e46; replace hd2 := hd2.ext e46; replace h2 := h2.ext e46; replace hd3 := hd3.ext e46; replace h3 := h3.ext e46; replace hw1 := hw1.ext e46; replace h4 := h4.ext e46; replace hw2 := hw2.ext e46; replace h5 := h5.ext e46; replace hd4 := hd4.ext e46; replace hd5 := hd5.ext e46; replace h6 := h6.ext e46; replace h7 := h7.ext e46; replace h8 := h8.ext e46; replace h9 := h9.ext e46; replace h10 := h10.ext e46; replace h11 := h11.ext e46; replace h12 := h12.ext e46
          have z61 := e46.size
          refine J_gd rfl rfl (R_not rfl) rfl (J_st (R_pickF rfl rfl) rfl (J_st (R_move rfl) rfl ?_))
          refine J_if (gd := 193) rfl rfl (fun hg24 => ?_) (fun hg24 => ?_)
          · refine J_gd rfl rfl (R_loadS st26 rfl h12.at rfl) rfl ?_
            refine J_ung rfl rfl ?_
            have hF3 : OwF w64 b8 w64.heap.size (.slice (some ⟨b11, 0, none⟩) 3 3) [(⟨1, 0, 0, [1]⟩ : Node), (⟨5, 0, 0, [2]⟩ : Node), (⟨7, 0, 0, [1]⟩ : Node)] [b11, b8, b9, b10] := OwF.lit (css := [[.int .i64 1, .int .i64 0, .int .i64 0, .slice (some ⟨b8, 0, none⟩) 1 1], [.int .i64 5, .int .i64 0, .int .i64 0, .slice (some ⟨b9, 0, none⟩) 1 1], [.int .i64 7, .int .i64 0, .int .i64 0, .slice (some ⟨b10, 0, none⟩) 1 1]]) h11 ⟨(Node.mkO (⟨1, 0, 0, [1]⟩ : Node) ⟨trivial, trivial⟩ (Own.widen (Own.ofBlk (lo := b8) (hi := b8 + 1) (sz := 1) h8 (Nat.le_refl _) (Nat.lt_succ_self _) (by rfl) (by unfold maxLen; omega)) (by omega) (by omega))), (Node.mkO (⟨5, 0, 0, [2]⟩ : Node) ⟨trivial, trivial⟩ (Own.widen (Own.ofBlk (lo := b9) (hi := b9 + 1) (sz := 1) h9 (Nat.le_refl _) (Nat.lt_succ_self _) (by rfl) (by unfold maxLen; omega)) (by omega) (by omega))), (Node.mkO (⟨7, 0, 0, [1]⟩ : Node) ⟨trivial, trivial⟩ (Own.widen (Own.ofBlk (lo := b10) (hi := b10 + 1) (sz := 1) h10 (Nat.le_refl _) (Nat.lt_succ_self _) (by rfl) (by unfold maxLen; omega)) (by omega) (by omega))), trivial⟩ (by omega) (by omega) (show List.Nodup [b11, b8, b9, b10] from by simp; omega) rfl (by simp [maxLen])
            refine J_call Try.call13 rfl (c_HasLoop [.slice (some ⟨b11, 0, none⟩) 3 3, .int .i64 1, .int .i64 1] (⟨[(⟨1, 0, 0, [1]⟩ : Node), (⟨5, 0, 0, [2]⟩ : Node), (⟨7, 0, 0, [1]⟩ : Node)], 1, 1⟩ : Graph) _ (Graph.mkR (⟨[(⟨1, 0, 0, [1]⟩ : Node), (⟨5, 0, 0, [2]⟩ : Node), (⟨7, 0, 0, [1]⟩ : Node)], 1, 1⟩ : Graph) (RdD.any (OwF.rd hF3)))) rfl (fun _ w65 e47 hv => ?_)
            subst hv
            replace E := E.trans e47; replace hd1 := hd1.ext e47; replace h1 := h1.ext e47; replace hd2 := hd2.ext e47; replace h2 := h2.ext e47; replace hd3 := hd3.ext e47; replace h3 := h3.ext e47; replace hw1 := hw1.ext e47; replace h4 := h4.ext e47; replace hw2 := hw2.ext e47; replace h5 := h5.ext e47; replace hd4 := hd4.ext e47; replace hd5 := hd5.ext e47; replace h6 := h6.ext e47; replace h7 := h7.ext e47; replace h8 := h8.ext e47; replace h9 := h9.ext e47; replace h10 := h10.ext e47; replace h11 := h11.ext e47; replace h12 := h12.ext e47
            have z62 := e47.size
            refine J_st (R_pickT rfl rfl) rfl (J_st (R_move rfl) rfl ?_)
            refine J_if (gd := 197) rfl rfl (fun hg25 => ?_) (fun hg25 => ?_)
            · refine J_gd rfl rfl (R_loadS st26 rfl h12.at rfl) rfl ?_
              refine J_ung rfl rfl ?_
              have hF4 : OwF w65 b8 w65.heap.size (.slice (some ⟨b11, 0, none⟩) 3 3) [(⟨1, 0, 0, [1]⟩ : Node), (⟨5, 0, 0, [2]⟩ : Node), (⟨7, 0, 0, [1]⟩ : Node)] [b11, b8, b9, b10] := OwF.lit (css := [[.int .i64 1, .int .i64 0, .int .i64 0, .slice (some ⟨b8, 0, none⟩) 1 1], [.int .i64 5, .int .i64 0, .int .i64 0, .slice (some ⟨b9, 0, none⟩) 1 1], [.int .i64 7, .int .i64 0, .int .i64 0, .slice (some ⟨b10, 0, none⟩) 1 1]]) h11 ⟨(Node.mkO (⟨1, 0, 0, [1]⟩ : Node) ⟨trivial, trivial⟩ (Own.widen (Own.ofBlk (lo := b8) (hi := b8 + 1) (sz := 1) h8 (Nat.le_refl _) (Nat.lt_succ_self _) (by rfl) (by unfold maxLen; omega)) (by omega) (by omega))), (Node.mkO (⟨5, 0, 0, [2]⟩ : Node) ⟨trivial, trivial⟩ (Own.widen (Own.ofBlk (lo := b9) (hi := b9 + 1) (sz := 1) h9 (Nat.le_refl _) (Nat.lt_succ_self _) (by rfl) (by unfold maxLen; omega)) (by omega) (by omega))), (Node.mkO (⟨7, 0, 0, [1]⟩ : Node) ⟨trivial, trivial⟩ (Own.widen (Own.ofBlk (lo := b10) (hi := b10 + 1) (sz := 1) h10 (Nat.le_refl _) (Nat.lt_succ_self _) (by rfl) (by unfold maxLen; omega)) (by omega) (by omega))), trivial⟩ (by omega) (by omega) (show List.Nodup [b11, b8, b9, b10] from by simp; omega) rfl (by simp [maxLen])
              refine J_call Try.call20 rfl (c_Reaches [.slice (some ⟨b11, 0, none⟩) 3 3, .int .i64 1, .int .i64 1] (⟨[(⟨1, 0, 0, [1]⟩ : Node), (⟨5, 0, 0, [2]⟩ : Node), (⟨7, 0, 0, [1]⟩ : Node)], 1, 1⟩ : Graph) 1 0 _ (Graph.mkR (⟨[(⟨1, 0, 0, [1]⟩ : Node), (⟨5, 0, 0, [2]⟩ : Node), (⟨7, 0, 0, [1]⟩ : Node)], 1, 1⟩ : Graph) (RdD.any (OwF.rd hF4)))) rfl (fun _ w66 e48 hv => ?_)
              subst hv
              replace E := E.trans e48; replace hd1 := hd1.ext e48; replace h1 := h1.ext e48; replace hd2 := hd2.ext e48; replace h2 := h2.ext e48; replace hd3 := hd3.ext e48; replace h3 := h3.ext e48; replace hw1 := hw1.ext e48; replace h4 := h4.ext e48; replace hw2 := hw2.ext e48; replace h5 := h5.ext e48; replace hd4 := hd4.ext e48; replace hd5 := hd5.ext e48; replace h6 := h6.ext e48; replace h7 := h7.ext e48; replace h8 := h8.ext e48; replace h9 := h9.ext e48; replace h10 := h10.ext e48; replace h11 := h11.ext e48; replace h12 := h12.ext e48
              have z63 := e48.size
              refine J_gd rfl rfl (R_not rfl) rfl (J_st (R_pickT rfl rfl) rfl (J_cutEnd ⟨rfl, rfl, rfl, rfl, rfl, rfl, rfl, rfl, rfl, rfl, rfl, rfl, rfl, rfl, rfl, congrArg (fun b => some (Value.bool b)) (show (!(reaches (⟨[(⟨1, 0, 0, [1]⟩ : Node), (⟨5, 0, 0, [2]⟩ : Node), (⟨7, 0, 0, [1]⟩ : Node)], 1, 1⟩ : Graph) 1 0)) = (((bk || (!(hasLoopM dx1))) && (hasLoopM (⟨[(⟨1, 0, 0, [1]⟩ : Node), (⟨5, 0, 0, [2]⟩ : Node), (⟨7, 0, 0, [1]⟩ : Node)], 1, 1⟩ : Graph))) && (!(reaches (⟨[(⟨1, 0, 0, [1]⟩ : Node), (⟨5, 0, 0, [2]⟩ : Node), (⟨7, 0, 0, [1]⟩ : Node)], 1, 1⟩ : Graph) 1 0))) by first | (rw [hg22, hg24, hg25] <;> rfl) | (simp [hg22, hg24, hg25]; done) | (simp only [nat_nlt] <;> simp)), trivial⟩ ⟨E, (by omega), hd1, h1, hd2, h2, hd3, h3, hw1, h4, hw2, h5, hd4, hd5, h6, h7, h8, h9, h10, h11, h12⟩))
            · refine J_gdno rfl rfl rfl rfl ?_
              refine J_ungno rfl rfl rfl rfl ?_
              refine J_gdno rfl rfl rfl rfl (J_st (R_pickF rfl rfl) rfl (J_cutEnd ⟨rfl, rfl, rfl, rfl, rfl, rfl, rfl, rfl, rfl, rfl, rfl, rfl, rfl, rfl, rfl, congrArg (fun b => some (Value.bool b)) (show false = (((bk || (!(hasLoopM dx1))) && (hasLoopM (⟨[(⟨1, 0, 0, [1]⟩ : Node), (⟨5, 0, 0, [2]⟩ : Node), (⟨7, 0, 0, [1]⟩ : Node)], 1, 1⟩ : Graph))) && (!(reaches (⟨[(⟨1, 0, 0, [1]⟩ : Node), (⟨5, 0, 0, [2]⟩ : Node), (⟨7, 0, 0, [1]⟩ : Node)], 1, 1⟩ : Graph) 1 0))) by first | (rw [hg22, hg24, hg25] <;> rfl) | (simp [hg22, hg24, hg25]; done) | (simp only [nat_nlt] <;> simp)), trivial⟩ ⟨E, (by omega), hd1, h1, hd2, h2, hd3, h3, hw1, h4, hw2, h5, hd4, hd5, h6, h7, h8, h9, h10, h11, h12⟩))
          · refine J_gdno rfl rfl rfl rfl ?_
            refine J_ungno rfl rfl rfl rfl ?_
            refine J_st (R_pickF rfl rfl) rfl (J_st (R_move rfl) rfl (J_gdno rfl rfl rfl rfl ?_))
            refine J_ungno rfl rfl rfl rfl ?_
            refine J_gdno rfl rfl rfl rfl (J_st (R_pickF rfl rfl) rfl (J_cutEnd ⟨rfl, rfl, rfl, rfl, rfl, rfl, rfl, rfl, rfl, rfl, rfl, rfl, rfl, rfl, rfl, congrArg (fun b => some (Value.bool b)) (show false = (((bk || (!(hasLoopM dx1))) && (hasLoopM (⟨[(⟨1, 0, 0, [1]⟩ : Node), (⟨5, 0, 0, [2]⟩ : Node), (⟨7, 0, 0, [1]⟩ : Node)], 1, 1⟩ : Graph))) && (!(reaches (⟨[(⟨1, 0, 0, [1]⟩ : Node), (⟨5, 0, 0, [2]⟩ : Node), (⟨7, 0, 0, [1]⟩ : Node)], 1, 1⟩ : Graph) 1 0))) by first | (rw [hg22, hg24] <;> rfl) | (simp [hg22, hg24]; done) | (simp only [nat_nlt] <;> simp)), trivial⟩ ⟨E, (by omega), hd1, h1, hd2, h2, hd3, h3, hw1, h4, hw2, h5, hd4, hd5, h6, h7, h8, h9, h10, h11, h12⟩))
      clear E hd1 h1 hd2 h2 hd3 h3 hw1 h4 hw2 h5 hd4 hd5 h6 h7 h8 h9 h10 h11 h12
      rintro w61 ⟨E, z64, hd1, h1, hd2, h2, hd3, h3, hw1, h4, hw2, h5, hd4, hd5, h6, h7, h8, h9, h10, h11, h12⟩
      refine J_st (R_assign rfl) rfl (J_done ?_)
      refine S_ret (E_done1 rfl rfl E ?_)
      exact congrArg Value.bool (graphs_fin hc2 hk hbk)

end Go.Proofs.Ytdmngeljbhlgmaa
