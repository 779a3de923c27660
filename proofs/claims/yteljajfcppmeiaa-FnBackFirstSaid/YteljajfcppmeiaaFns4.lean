/- What the functions that the laws call come to: a contract each; no condition. -/
import Derived.Test.YteljajfcppmeiaaFns3
namespace Go.Proofs.Yteljajfcppmeiaa
open Go Go.Proofs.Yteljajfcppmeiaa.X Go.Proofs
set_option maxHeartbeats 4000000 in
set_option maxRecDepth 20000 in
theorem s_l08Graph (lo : Nat) (vb : Value) (bs : List Byt) (w : World) (hcu : CurO w lo vb bs) (hbs : RdD w 0 lo vb bs) : CtR Try.prog 23 [.pointer (some ⟨lo, 0, none⟩)] w lo (lo + 1) (fun v w' => ∃ (dr0 : Graph), smG dr0 ∧ 6 ≤ dr0.nodes.length ∧ (∀ y ∈ dr0.nodes, y.outs.length ≤ 2) ∧ CurO w' lo vb bs ∧ ∃ o, v = .agg [o, .int .i64 dr0.workers, .int .i64 dr0.cap].toArray ∧ OwS w' w.heap.size w'.heap.size o dr0.nodes) := by
 have y_lo := CurO.lt hcu
 refine ctR_of Try.func23 rfl Try.ntmps23 rfl ?_
 refine S_sub [(0, .pointer (some ⟨lo, 0, none⟩))] ⟨rfl, trivial⟩ ?_
 have E : ModR w w lo (lo + 1) := ModR.refl w lo (lo + 1)
 refine S_seq ?_
 refine S_reg [false] rfl rfl ?_
 refine J_alloc st26 rfl (fun b1 w1 e1 s1 h1 => ?_)
 have g_b1 : w.heap.size ≤ b1 := by have := E.size; omega
 have y_b1 := h1.lt
 replace E := E.ext e1; replace hcu := hcu.ext e1
 have z1 := e1.size
 refine J_done ?_
 refine S_seq ?_
 refine S_reg [true, false, true, true, false, true, true, false, false] rfl rfl ?_
 refine J_st (R_move rfl) rfl ?_
 refine J_callR Try.call16 rfl rfl (s_l01Below lo vb bs 3 _ hcu (RdD.modR hbs E (.inl (Nat.le_refl _)))) rfl (fun _ w2 e2 hv => ?_)
 obtain ⟨dx1, q1, q2, hcu', hv⟩ := hv
 replace hcu := hcu'
 subst hv
 replace E := E.trans e2 (by omega) (by omega); replace h1 := h1.modR e2 (by omega)
 have z2 := e2.size
 refine J_st (R_add rfl rfl rfl) rfl (J_st (R_move rfl) rfl ?_)
 refine J_callR Try.call16 rfl rfl (s_l01Below lo vb bs 3 _ hcu (RdD.modR hbs E (.inl (Nat.le_refl _)))) rfl (fun _ w3 e3 hv => ?_)
 obtain ⟨dx2, q3, q4, hcu', hv⟩ := hv
 replace hcu := hcu'
 subst hv
 replace E := E.trans e3 (by omega) (by omega); replace h1 := h1.modR e3 (by omega)
 have z3 := e3.size
 refine J_st (R_add rfl rfl rfl) rfl ?_
 have hbl1 : ∀ w, (Instr.build 26 ([(1, .int .i64 (IntKind.i64.wrap (1 + ((dx1 : Nat) : Int)))), (2, .int .i64 (IntKind.i64.wrap (1 + ((dx2 : Nat) : Int))))]).toArray).run Try.prog w = .ok (.agg [.slice none 0 0, .int .i64 (IntKind.i64.wrap (1 + ((dx1 : Nat) : Int))), .int .i64 (IntKind.i64.wrap (1 + ((dx2 : Nat) : Int)))].toArray) w := by clear E; intro w; kernel_rfl
 refine J_st (R_buildC [.slice none 0 0, .int .i64 (IntKind.i64.wrap (1 + ((dx1 : Nat) : Int))), .int .i64 (IntKind.i64.wrap (1 + ((dx2 : Nat) : Int)))] rfl hbl1) rfl ?_
 refine J_alloc st26 rfl (fun b2 w4 e4 s2 h2 => ?_)
 have g_b2 : w.heap.size ≤ b2 := by have := E.size; omega
 have y_b2 := h2.lt
 replace E := E.ext e4; replace hcu := hcu.ext e4; replace h1 := h1.ext e4
 have z4 := e4.size
 refine J_storeS' (cs' := [.slice none 0 0, .int .i64 (IntKind.i64.wrap (1 + ((dx1 : Nat) : Int))), .int .i64 (IntKind.i64.wrap (1 + ((dx2 : Nat) : Int)))]) st26 rfl rfl rfl rfl h2 (Nat.le_of_ble_eq_true rfl) rfl (fun w5 m1 h2' => ?_)
 replace h2 := h2'
 replace E := E.mod m1 (fun g hg => by cases hg; omega); replace hcu := hcu.mod m1 (fun g hg => by cases hg; omega); replace h1 := h1.mod m1 (fun g hg => by cases hg; omega)
 have z5 := m1.size
 refine J_done ?_
 refine S_seq ?_
 refine S_reg [false, true, false, false] rfl rfl ?_
 refine J_buildSlice (vs := [.int .i64 2, .int .i64 5]) (css := [[.int .i64 2], [.int .i64 5]]) sl29 rfl rfl ⟨⟨rfl, rfl⟩, ⟨rfl, rfl⟩, trivial⟩ rfl rfl (fun b3 w6 e5 s3 h3 => ?_)
 replace h3 : Blk w6 b3 [.int .i64 2, .int .i64 5] := h3
 have g_b3 : w.heap.size ≤ b3 := by have := E.size; omega
 have y_b3 := h3.lt
 replace E := E.ext e5; replace hcu := hcu.ext e5; replace h1 := h1.ext e5; replace h2 := h2.ext e5
 have z6 := e5.size
 have hbl2 : ∀ w, (Instr.build 45 ([(0, .int .i64 5), (3, .slice (some ⟨b3, 0, none⟩) 2 2)]).toArray).run Try.prog w = .ok (.agg [.int .i64 5, .int .i64 0, .int .i64 0, .slice (some ⟨b3, 0, none⟩) 2 2].toArray) w := by clear E; intro w; kernel_rfl
 refine J_st (R_buildC [.int .i64 5, .int .i64 0, .int .i64 0, .slice (some ⟨b3, 0, none⟩) 2 2] rfl hbl2) rfl ?_
 refine J_alloc st45 rfl (fun b4 w7 e6 s4 h4 => ?_)
 have g_b4 : w.heap.size ≤ b4 := by have := E.size; omega
 have y_b4 := h4.lt
 replace E := E.ext e6; replace hcu := hcu.ext e6; replace h1 := h1.ext e6; replace h2 := h2.ext e6; replace h3 := h3.ext e6
 have z7 := e6.size
 refine J_storeS' (cs' := [.int .i64 5, .int .i64 0, .int .i64 0, .slice (some ⟨b3, 0, none⟩) 2 2]) st45 rfl rfl rfl (all_cons rfl (all_cons rfl (all_cons rfl (all_cons rfl rfl)))) h4 (Nat.le_of_ble_eq_true rfl) rfl (fun w8 m2 h4' => ?_)
 replace h4 := h4'
 replace E := E.mod m2 (fun g hg => by cases hg; omega); replace hcu := hcu.mod m2 (fun g hg => by cases hg; omega); replace h1 := h1.mod m2 (fun g hg => by cases hg; omega); replace h2 := h2.mod m2 (fun g hg => by cases hg; omega); replace h3 := h3.mod m2 (fun g hg => by cases hg; omega)
 have z8 := m2.size
 refine J_done ?_
 refine S_seq ?_
 refine S_seq ?_
 refine S_reg [true, false] rfl rfl ?_
 refine J_st (R_move rfl) rfl ?_
 refine J_callR Try.call33 rfl rfl (s_l01Once lo vb bs 3 _ hcu (RdD.modR hbs E (.inl (Nat.le_refl _)))) rfl (fun _ w9 e7 hv => ?_)
 obtain ⟨dx3, hcu', hv⟩ := hv
 replace hcu := hcu'
 subst hv
 replace E := E.trans e7 (by omega) (by omega); replace h1 := h1.modR e7 (by omega); replace h2 := h2.modR e7 (by omega); replace h3 := h3.modR e7 (by omega); replace h4 := h4.modR e7 (by omega)
 have z9 := e7.size
 refine J_done ?_
 refine S_cond rfl (fun hc1 => ?_) (fun hc1 => ?_)
 ·refine S_reg [true, false] rfl rfl ?_
  refine J_st (R_fieldAddr0 fl45_0 rfl) rfl ?_
  refine J_store' (cs' := [.int .i64 6, .int .i64 0, .int .i64 0, .slice (some ⟨b3, 0, none⟩) 2 2]) sc3 rfl rfl rfl h4 (Nat.le_of_ble_eq_true rfl) rfl (fun w10 m3 h4' => ?_)
  replace h4 := h4'
  replace E := E.mod m3 (fun g hg => by cases hg; omega); replace hcu := hcu.mod m3 (fun g hg => by cases hg; omega); replace h1 := h1.mod m3 (fun g hg => by cases hg; omega); replace h2 := h2.mod m3 (fun g hg => by cases hg; omega); replace h3 := h3.mod m3 (fun g hg => by cases hg; omega)
  have z10 := m3.size
  refine J_done ?_
  refine S_seq ?_
  refine S_reg [true, false, true, false, true, false, false] rfl rfl ?_
  refine J_st (R_move rfl) rfl ?_
  refine J_callR Try.call16 rfl rfl (s_l01Below lo vb bs 3 _ hcu (RdD.modR hbs E (.inl (Nat.le_refl _)))) rfl (fun _ w11 e8 hv => ?_)
  obtain ⟨dx4, q5, q6, hcu', hv⟩ := hv
  replace hcu := hcu'
  subst hv
  replace E := E.trans e8 (by omega) (by omega); replace h1 := h1.modR e8 (by omega); replace h2 := h2.modR e8 (by omega); replace h3 := h3.modR e8 (by omega); replace h4 := h4.modR e8 (by omega)
  have z11 := e8.size
  refine J_st (R_add rfl rfl rfl) rfl ?_
  refine J_buildSlice (vs := [.int .i64 3]) (css := [[.int .i64 3]]) sl29 rfl rfl ⟨⟨rfl, rfl⟩, trivial⟩ rfl rfl (fun b5 w12 e9 s5 h5 => ?_)
  replace h5 : Blk w12 b5 [.int .i64 3] := h5
  have g_b5 : w.heap.size ≤ b5 := by have := E.size; omega
  have y_b5 := h5.lt
  replace E := E.ext e9; replace hcu := hcu.ext e9; replace h1 := h1.ext e9; replace h2 := h2.ext e9; replace h3 := h3.ext e9; replace h4 := h4.ext e9
  have z12 := e9.size
  have hbl3 : ∀ w, (Instr.build 45 ([(0, .int .i64 4), (1, .int .i64 (IntKind.i64.wrap (1 + ((dx4 : Nat) : Int)))), (3, .slice (some ⟨b5, 0, none⟩) 1 1)]).toArray).run Try.prog w = .ok (.agg [.int .i64 4, .int .i64 (IntKind.i64.wrap (1 + ((dx4 : Nat) : Int))), .int .i64 0, .slice (some ⟨b5, 0, none⟩) 1 1].toArray) w := by clear E; intro w; kernel_rfl
  refine J_st (R_buildC [.int .i64 4, .int .i64 (IntKind.i64.wrap (1 + ((dx4 : Nat) : Int))), .int .i64 0, .slice (some ⟨b5, 0, none⟩) 1 1] rfl hbl3) rfl ?_
  refine J_alloc st45 rfl (fun b6 w13 e10 s6 h6 => ?_)
  have g_b6 : w.heap.size ≤ b6 := by have := E.size; omega
  have y_b6 := h6.lt
  replace E := E.ext e10; replace hcu := hcu.ext e10; replace h1 := h1.ext e10; replace h2 := h2.ext e10; replace h3 := h3.ext e10; replace h4 := h4.ext e10; replace h5 := h5.ext e10
  have z13 := e10.size
  refine J_storeS' (cs' := [.int .i64 4, .int .i64 (IntKind.i64.wrap (1 + ((dx4 : Nat) : Int))), .int .i64 0, .slice (some ⟨b5, 0, none⟩) 1 1]) st45 rfl rfl rfl (all_cons rfl (all_cons rfl (all_cons rfl (all_cons rfl rfl)))) h6 (Nat.le_of_ble_eq_true rfl) rfl (fun w14 m4 h6' => ?_)
  replace h6 := h6'
  replace E := E.mod m4 (fun g hg => by cases hg; omega); replace hcu := hcu.mod m4 (fun g hg => by cases hg; omega); replace h1 := h1.mod m4 (fun g hg => by cases hg; omega); replace h2 := h2.mod m4 (fun g hg => by cases hg; omega); replace h3 := h3.mod m4 (fun g hg => by cases hg; omega); replace h4 := h4.mod m4 (fun g hg => by cases hg; omega); replace h5 := h5.mod m4 (fun g hg => by cases hg; omega)
  have z14 := m4.size
  refine J_done ?_
  refine S_seq ?_
  refine S_reg [true, false, false, true, false, false] rfl rfl ?_
  refine J_st (R_move rfl) rfl ?_
  refine J_callR Try.call16 rfl rfl (s_l01Below lo vb bs 4 _ hcu (RdD.modR hbs E (.inl (Nat.le_refl _)))) rfl (fun _ w15 e11 hv => ?_)
  obtain ⟨dx5, q7, q8, hcu', hv⟩ := hv
  replace hcu := hcu'
  subst hv
  replace E := E.trans e11 (by omega) (by omega); replace h1 := h1.modR e11 (by omega); replace h2 := h2.modR e11 (by omega); replace h3 := h3.modR e11 (by omega); replace h4 := h4.modR e11 (by omega); replace h5 := h5.modR e11 (by omega); replace h6 := h6.modR e11 (by omega)
  have z15 := e11.size
  refine J_buildSlice (vs := [.int .i64 4]) (css := [[.int .i64 4]]) sl29 rfl rfl ⟨⟨rfl, rfl⟩, trivial⟩ rfl rfl (fun b7 w16 e12 s7 h7 => ?_)
  replace h7 : Blk w16 b7 [.int .i64 4] := h7
  have g_b7 : w.heap.size ≤ b7 := by have := E.size; omega
  have y_b7 := h7.lt
  replace E := E.ext e12; replace hcu := hcu.ext e12; replace h1 := h1.ext e12; replace h2 := h2.ext e12; replace h3 := h3.ext e12; replace h4 := h4.ext e12; replace h5 := h5.ext e12; replace h6 := h6.ext e12
  have z16 := e12.size
  have hbl4 : ∀ w, (Instr.build 45 ([(0, .int .i64 2), (1, .int .i64 ((dx5 : Nat) : Int)), (3, .slice (some ⟨b7, 0, none⟩) 1 1)]).toArray).run Try.prog w = .ok (.agg [.int .i64 2, .int .i64 ((dx5 : Nat) : Int), .int .i64 0, .slice (some ⟨b7, 0, none⟩) 1 1].toArray) w := by clear E; intro w; kernel_rfl
  refine J_st (R_buildC [.int .i64 2, .int .i64 ((dx5 : Nat) : Int), .int .i64 0, .slice (some ⟨b7, 0, none⟩) 1 1] rfl hbl4) rfl ?_
  refine J_alloc st45 rfl (fun b8 w17 e13 s8 h8 => ?_)
  have g_b8 : w.heap.size ≤ b8 := by have := E.size; omega
  have y_b8 := h8.lt
  replace E := E.ext e13; replace hcu := hcu.ext e13; replace h1 := h1.ext e13; replace h2 := h2.ext e13; replace h3 := h3.ext e13; replace h4 := h4.ext e13; replace h5 := h5.ext e13; replace h6 := h6.ext e13; replace h7 := h7.ext e13
  have z17 := e13.size
  refine J_storeS' (cs' := [.int .i64 2, .int .i64 ((dx5 : Nat) : Int), .int .i64 0, .slice (some ⟨b7, 0, none⟩) 1 1]) st45 rfl rfl rfl (all_cons rfl (all_cons rfl (all_cons rfl (all_cons rfl rfl)))) h8 (Nat.le_of_ble_eq_true rfl) rfl (fun w18 m5 h8' => ?_)
  replace h8 := h8'
  replace E := E.mod m5 (fun g hg => by cases hg; omega); replace hcu := hcu.mod m5 (fun g hg => by cases hg; omega); replace h1 := h1.mod m5 (fun g hg => by cases hg; omega); replace h2 := h2.mod m5 (fun g hg => by cases hg; omega); replace h3 := h3.mod m5 (fun g hg => by cases hg; omega); replace h4 := h4.mod m5 (fun g hg => by cases hg; omega); replace h5 := h5.mod m5 (fun g hg => by cases hg; omega); replace h6 := h6.mod m5 (fun g hg => by cases hg; omega); replace h7 := h7.mod m5 (fun g hg => by cases hg; omega)
  have z18 := m5.size
  refine J_done ?_
  refine S_seq ?_
  refine S_reg [true, false, true, false, true, false, false] rfl rfl ?_
  refine J_st (R_move rfl) rfl ?_
  refine J_callR Try.call16 rfl rfl (s_l01Below lo vb bs 3 _ hcu (RdD.modR hbs E (.inl (Nat.le_refl _)))) rfl (fun _ w19 e14 hv => ?_)
  obtain ⟨dx6, q9, q10, hcu', hv⟩ := hv
  replace hcu := hcu'
  subst hv
  replace E := E.trans e14 (by omega) (by omega); replace h1 := h1.modR e14 (by omega); replace h2 := h2.modR e14 (by omega); replace h3 := h3.modR e14 (by omega); replace h4 := h4.modR e14 (by omega); replace h5 := h5.modR e14 (by omega); replace h6 := h6.modR e14 (by omega); replace h7 := h7.modR e14 (by omega); replace h8 := h8.modR e14 (by omega)
  have z19 := e14.size
  refine J_st (R_add rfl rfl rfl) rfl ?_
  refine J_buildSlice (vs := [.int .i64 4]) (css := [[.int .i64 4]]) sl29 rfl rfl ⟨⟨rfl, rfl⟩, trivial⟩ rfl rfl (fun b9 w20 e15 s9 h9 => ?_)
  replace h9 : Blk w20 b9 [.int .i64 4] := h9
  have g_b9 : w.heap.size ≤ b9 := by have := E.size; omega
  have y_b9 := h9.lt
  replace E := E.ext e15; replace hcu := hcu.ext e15; replace h1 := h1.ext e15; replace h2 := h2.ext e15; replace h3 := h3.ext e15; replace h4 := h4.ext e15; replace h5 := h5.ext e15; replace h6 := h6.ext e15; replace h7 := h7.ext e15; replace h8 := h8.ext e15
  have z20 := e15.size
  have hbl5 : ∀ w, (Instr.build 45 ([(0, .int .i64 3), (1, .int .i64 (IntKind.i64.wrap (1 + ((dx6 : Nat) : Int)))), (3, .slice (some ⟨b9, 0, none⟩) 1 1)]).toArray).run Try.prog w = .ok (.agg [.int .i64 3, .int .i64 (IntKind.i64.wrap (1 + ((dx6 : Nat) : Int))), .int .i64 0, .slice (some ⟨b9, 0, none⟩) 1 1].toArray) w := by clear E; intro w; kernel_rfl
  refine J_st (R_buildC [.int .i64 3, .int .i64 (IntKind.i64.wrap (1 + ((dx6 : Nat) : Int))), .int .i64 0, .slice (some ⟨b9, 0, none⟩) 1 1] rfl hbl5) rfl ?_
  refine J_alloc st45 rfl (fun b10 w21 e16 s10 h10 => ?_)
  have g_b10 : w.heap.size ≤ b10 := by have := E.size; omega
  have y_b10 := h10.lt
  replace E := E.ext e16; replace hcu := hcu.ext e16; replace h1 := h1.ext e16; replace h2 := h2.ext e16; replace h3 := h3.ext e16; replace h4 := h4.ext e16; replace h5 := h5.ext e16; replace h6 := h6.ext e16; replace h7 := h7.ext e16; replace h8 := h8.ext e16; replace h9 := h9.ext e16
  have z21 := e16.size
  refine J_storeS' (cs' := [.int .i64 3, .int .i64 (IntKind.i64.wrap (1 + ((dx6 : Nat) : Int))), .int .i64 0, .slice (some ⟨b9, 0, none⟩) 1 1]) st45 rfl rfl rfl (all_cons rfl (all_cons rfl (all_cons rfl (all_cons rfl rfl)))) h10 (Nat.le_of_ble_eq_true rfl) rfl (fun w22 m6 h10' => ?_)
  replace h10 := h10'
  replace E := E.mod m6 (fun g hg => by cases hg; omega); replace hcu := hcu.mod m6 (fun g hg => by cases hg; omega); replace h1 := h1.mod m6 (fun g hg => by cases hg; omega); replace h2 := h2.mod m6 (fun g hg => by cases hg; omega); replace h3 := h3.mod m6 (fun g hg => by cases hg; omega); replace h4 := h4.mod m6 (fun g hg => by cases hg; omega); replace h5 := h5.mod m6 (fun g hg => by cases hg; omega); replace h6 := h6.mod m6 (fun g hg => by cases hg; omega); replace h7 := h7.mod m6 (fun g hg => by cases hg; omega); replace h8 := h8.mod m6 (fun g hg => by cases hg; omega); replace h9 := h9.mod m6 (fun g hg => by cases hg; omega)
  have z22 := m6.size
  refine J_done ?_
  refine S_seq ?_
  refine S_reg [false, true, false, false] rfl rfl ?_
  refine J_buildSlice (vs := [.int .i64 1]) (css := [[.int .i64 1]]) sl29 rfl rfl ⟨⟨rfl, rfl⟩, trivial⟩ rfl rfl (fun b11 w23 e17 s11 h11 => ?_)
  replace h11 : Blk w23 b11 [.int .i64 1] := h11
  have g_b11 : w.heap.size ≤ b11 := by have := E.size; omega
  have y_b11 := h11.lt
  replace E := E.ext e17; replace hcu := hcu.ext e17; replace h1 := h1.ext e17; replace h2 := h2.ext e17; replace h3 := h3.ext e17; replace h4 := h4.ext e17; replace h5 := h5.ext e17; replace h6 := h6.ext e17; replace h7 := h7.ext e17; replace h8 := h8.ext e17; replace h9 := h9.ext e17; replace h10 := h10.ext e17
  have z23 := e17.size
  have hbl6 : ∀ w, (Instr.build 45 ([(0, .int .i64 7), (3, .slice (some ⟨b11, 0, none⟩) 1 1)]).toArray).run Try.prog w = .ok (.agg [.int .i64 7, .int .i64 0, .int .i64 0, .slice (some ⟨b11, 0, none⟩) 1 1].toArray) w := by clear E; intro w; kernel_rfl
  refine J_st (R_buildC [.int .i64 7, .int .i64 0, .int .i64 0, .slice (some ⟨b11, 0, none⟩) 1 1] rfl hbl6) rfl ?_
  refine J_alloc st45 rfl (fun b12 w24 e18 s12 h12 => ?_)
  have g_b12 : w.heap.size ≤ b12 := by have := E.size; omega
  have y_b12 := h12.lt
  replace E := E.ext e18; replace hcu := hcu.ext e18; replace h1 := h1.ext e18; replace h2 := h2.ext e18; replace h3 := h3.ext e18; replace h4 := h4.ext e18; replace h5 := h5.ext e18; replace h6 := h6.ext e18; replace h7 := h7.ext e18; replace h8 := h8.ext e18; replace h9 := h9.ext e18; replace h10 := h10.ext e18; replace h11 := h11.ext e18
  have z24 := e18.size
  refine J_storeS' (cs' := [.int .i64 7, .int .i64 0, .int .i64 0, .slice (some ⟨b11, 0, none⟩) 1 1]) st45 rfl rfl rfl (all_cons rfl (all_cons rfl (all_cons rfl (all_cons rfl rfl)))) h12 (Nat.le_of_ble_eq_true rfl) rfl (fun w25 m7 h12' => ?_)
  replace h12 := h12'
  replace E := E.mod m7 (fun g hg => by cases hg; omega); replace hcu := hcu.mod m7 (fun g hg => by cases hg; omega); replace h1 := h1.mod m7 (fun g hg => by cases hg; omega); replace h2 := h2.mod m7 (fun g hg => by cases hg; omega); replace h3 := h3.mod m7 (fun g hg => by cases hg; omega); replace h4 := h4.mod m7 (fun g hg => by cases hg; omega); replace h5 := h5.mod m7 (fun g hg => by cases hg; omega); replace h6 := h6.mod m7 (fun g hg => by cases hg; omega); replace h7 := h7.mod m7 (fun g hg => by cases hg; omega); replace h8 := h8.mod m7 (fun g hg => by cases hg; omega); replace h9 := h9.mod m7 (fun g hg => by cases hg; omega); replace h10 := h10.mod m7 (fun g hg => by cases hg; omega); replace h11 := h11.mod m7 (fun g hg => by cases hg; omega)
  have z25 := m7.size
  refine J_done ?_
  refine S_seq ?_
  refine S_reg [true, false, false] rfl rfl ?_
  have hbl7 : ∀ w, (Instr.build 45 ([(0, .int .i64 8)]).toArray).run Try.prog w = .ok (.agg [.int .i64 8, .int .i64 0, .int .i64 0, .slice none 0 0].toArray) w := by clear E; intro w; kernel_rfl
  refine J_st (R_buildC [.int .i64 8, .int .i64 0, .int .i64 0, .slice none 0 0] rfl hbl7) rfl ?_
  refine J_alloc st45 rfl (fun b13 w26 e19 s13 h13 => ?_)
  have g_b13 : w.heap.size ≤ b13 := by have := E.size; omega
  have y_b13 := h13.lt
  replace E := E.ext e19; replace hcu := hcu.ext e19; replace h1 := h1.ext e19; replace h2 := h2.ext e19; replace h3 := h3.ext e19; replace h4 := h4.ext e19; replace h5 := h5.ext e19; replace h6 := h6.ext e19; replace h7 := h7.ext e19; replace h8 := h8.ext e19; replace h9 := h9.ext e19; replace h10 := h10.ext e19; replace h11 := h11.ext e19; replace h12 := h12.ext e19
  have z26 := e19.size
  refine J_storeS' (cs' := [.int .i64 8, .int .i64 0, .int .i64 0, .slice none 0 0]) st45 rfl rfl rfl rfl h13 (Nat.le_of_ble_eq_true rfl) rfl (fun w27 m8 h13' => ?_)
  replace h13 := h13'
  replace E := E.mod m8 (fun g hg => by cases hg; omega); replace hcu := hcu.mod m8 (fun g hg => by cases hg; omega); replace h1 := h1.mod m8 (fun g hg => by cases hg; omega); replace h2 := h2.mod m8 (fun g hg => by cases hg; omega); replace h3 := h3.mod m8 (fun g hg => by cases hg; omega); replace h4 := h4.mod m8 (fun g hg => by cases hg; omega); replace h5 := h5.mod m8 (fun g hg => by cases hg; omega); replace h6 := h6.mod m8 (fun g hg => by cases hg; omega); replace h7 := h7.mod m8 (fun g hg => by cases hg; omega); replace h8 := h8.mod m8 (fun g hg => by cases hg; omega); replace h9 := h9.mod m8 (fun g hg => by cases hg; omega); replace h10 := h10.mod m8 (fun g hg => by cases hg; omega); replace h11 := h11.mod m8 (fun g hg => by cases hg; omega); replace h12 := h12.mod m8 (fun g hg => by cases hg; omega)
  have z27 := m8.size
  refine J_done ?_
  refine S_seq ?_
  refine S_reg [false, true, true, true, true, true, true, false, true, false] rfl rfl ?_
  refine J_buildSlice (vs := [.int .i64 1]) (css := [[.int .i64 1]]) sl29 rfl rfl ⟨⟨rfl, rfl⟩, trivial⟩ rfl rfl (fun b14 w28 e20 s14 h14 => ?_)
  replace h14 : Blk w28 b14 [.int .i64 1] := h14
  have g_b14 : w.heap.size ≤ b14 := by have := E.size; omega
  have y_b14 := h14.lt
  replace E := E.ext e20; replace hcu := hcu.ext e20; replace h1 := h1.ext e20; replace h2 := h2.ext e20; replace h3 := h3.ext e20; replace h4 := h4.ext e20; replace h5 := h5.ext e20; replace h6 := h6.ext e20; replace h7 := h7.ext e20; replace h8 := h8.ext e20; replace h9 := h9.ext e20; replace h10 := h10.ext e20; replace h11 := h11.ext e20; replace h12 := h12.ext e20; replace h13 := h13.ext e20
  have z28 := e20.size
  have hbl8 : ∀ w, (Instr.build 45 ([(0, .int .i64 1), (3, .slice (some ⟨b14, 0, none⟩) 1 1)]).toArray).run Try.prog w = .ok (.agg [.int .i64 1, .int .i64 0, .int .i64 0, .slice (some ⟨b14, 0, none⟩) 1 1].toArray) w := by clear E; intro w; kernel_rfl
  refine J_st (R_buildC [.int .i64 1, .int .i64 0, .int .i64 0, .slice (some ⟨b14, 0, none⟩) 1 1] rfl hbl8) rfl (J_st (R_loadS st45 rfl h4.at rfl) rfl (J_st (R_loadS st45 rfl h6.at rfl) rfl (J_st (R_loadS st45 rfl h8.at rfl) rfl (J_st (R_loadS st45 rfl h12.at rfl) rfl (J_st (R_loadS st45 rfl h13.at rfl) rfl ?_)))))
  refine J_buildSlice (vs := [.agg [.int .i64 1, .int .i64 0, .int .i64 0, .slice (some ⟨b14, 0, none⟩) 1 1].toArray, .agg [.int .i64 6, .int .i64 0, .int .i64 0, .slice (some ⟨b3, 0, none⟩) 2 2].toArray, .agg [.int .i64 4, .int .i64 (IntKind.i64.wrap (1 + ((dx4 : Nat) : Int))), .int .i64 0, .slice (some ⟨b5, 0, none⟩) 1 1].toArray, .agg [.int .i64 2, .int .i64 ((dx5 : Nat) : Int), .int .i64 0, .slice (some ⟨b7, 0, none⟩) 1 1].toArray, .agg [.int .i64 7, .int .i64 0, .int .i64 0, .slice (some ⟨b11, 0, none⟩) 1 1].toArray, .agg [.int .i64 8, .int .i64 0, .int .i64 0, .slice none 0 0].toArray]) (css := [[.int .i64 1, .int .i64 0, .int .i64 0, .slice (some ⟨b14, 0, none⟩) 1 1], [.int .i64 6, .int .i64 0, .int .i64 0, .slice (some ⟨b3, 0, none⟩) 2 2], [.int .i64 4, .int .i64 (IntKind.i64.wrap (1 + ((dx4 : Nat) : Int))), .int .i64 0, .slice (some ⟨b5, 0, none⟩) 1 1], [.int .i64 2, .int .i64 ((dx5 : Nat) : Int), .int .i64 0, .slice (some ⟨b7, 0, none⟩) 1 1], [.int .i64 7, .int .i64 0, .int .i64 0, .slice (some ⟨b11, 0, none⟩) 1 1], [.int .i64 8, .int .i64 0, .int .i64 0, .slice none 0 0]]) sl24 rfl rfl ⟨⟨rfl, rfl⟩, ⟨rfl, rfl⟩, ⟨rfl, rfl⟩, ⟨rfl, rfl⟩, ⟨rfl, rfl⟩, ⟨rfl, rfl⟩, trivial⟩ rfl rfl (fun b15 w29 e21 s15 h15 => ?_)
  replace h15 : Blk w29 b15 [.int .i64 1, .int .i64 0, .int .i64 0, .slice (some ⟨b14, 0, none⟩) 1 1, .int .i64 6, .int .i64 0, .int .i64 0, .slice (some ⟨b3, 0, none⟩) 2 2, .int .i64 4, .int .i64 (IntKind.i64.wrap (1 + ((dx4 : Nat) : Int))), .int .i64 0, .slice (some ⟨b5, 0, none⟩) 1 1, .int .i64 2, .int .i64 ((dx5 : Nat) : Int), .int .i64 0, .slice (some ⟨b7, 0, none⟩) 1 1, .int .i64 7, .int .i64 0, .int .i64 0, .slice (some ⟨b11, 0, none⟩) 1 1, .int .i64 8, .int .i64 0, .int .i64 0, .slice none 0 0] := h15
  have g_b15 : w.heap.size ≤ b15 := by have := E.size; omega
  have y_b15 := h15.lt
  replace E := E.ext e21; replace hcu := hcu.ext e21; replace h1 := h1.ext e21; replace h2 := h2.ext e21; replace h3 := h3.ext e21; replace h4 := h4.ext e21; replace h5 := h5.ext e21; replace h6 := h6.ext e21; replace h7 := h7.ext e21; replace h8 := h8.ext e21; replace h9 := h9.ext e21; replace h10 := h10.ext e21; replace h11 := h11.ext e21; replace h12 := h12.ext e21; replace h13 := h13.ext e21; replace h14 := h14.ext e21
  have z29 := e21.size
  refine J_st (R_fieldAddr0 fl26_0 rfl) rfl ?_
  refine J_store' (cs' := [.slice (some ⟨b15, 0, none⟩) 6 6, .int .i64 (IntKind.i64.wrap (1 + ((dx1 : Nat) : Int))), .int .i64 (IntKind.i64.wrap (1 + ((dx2 : Nat) : Int)))]) sc24 rfl rfl rfl h2 (Nat.le_of_ble_eq_true rfl) rfl (fun w30 m9 h2' => ?_)
  replace h2 := h2'
  replace E := E.mod m9 (fun g hg => by cases hg; omega); replace hcu := hcu.mod m9 (fun g hg => by cases hg; omega); replace h1 := h1.mod m9 (fun g hg => by cases hg; omega); replace h3 := h3.mod m9 (fun g hg => by cases hg; omega); replace h4 := h4.mod m9 (fun g hg => by cases hg; omega); replace h5 := h5.mod m9 (fun g hg => by cases hg; omega); replace h6 := h6.mod m9 (fun g hg => by cases hg; omega); replace h7 := h7.mod m9 (fun g hg => by cases hg; omega); replace h8 := h8.mod m9 (fun g hg => by cases hg; omega); replace h9 := h9.mod m9 (fun g hg => by cases hg; omega); replace h10 := h10.mod m9 (fun g hg => by cases hg; omega); replace h11 := h11.mod m9 (fun g hg => by cases hg; omega); replace h12 := h12.mod m9 (fun g hg => by cases hg; omega); replace h13 := h13.mod m9 (fun g hg => by cases hg; omega); replace h14 := h14.mod m9 (fun g hg => by cases hg; omega); replace h15 := h15.mod m9 (fun g hg => by cases hg; omega)
  have z30 := m9.size
  refine J_done ?_
  refine S_seq ?_
  refine S_seq ?_
  refine S_reg [true, false] rfl rfl ?_
  refine J_st (R_move rfl) rfl ?_
  refine J_callR Try.call16 rfl rfl (s_l01Below lo vb bs 6 _ hcu (RdD.modR hbs E (.inl (Nat.le_refl _)))) rfl (fun _ w31 e22 hv => ?_)
  obtain ⟨dx7, q11, q12, hcu', hv⟩ := hv
  replace hcu := hcu'
  subst hv
  replace E := E.trans e22 (by omega) (by omega); replace h1 := h1.modR e22 (by omega); replace h2 := h2.modR e22 (by omega); replace h3 := h3.modR e22 (by omega); replace h4 := h4.modR e22 (by omega); replace h5 := h5.modR e22 (by omega); replace h6 := h6.modR e22 (by omega); replace h7 := h7.modR e22 (by omega); replace h8 := h8.modR e22 (by omega); replace h9 := h9.modR e22 (by omega); replace h10 := h10.modR e22 (by omega); replace h11 := h11.modR e22 (by omega); replace h12 := h12.modR e22 (by omega); replace h13 := h13.modR e22 (by omega); replace h14 := h14.modR e22 (by omega); replace h15 := h15.modR e22 (by omega)
  have z31 := e22.size
  refine J_done ?_
  refine S_block ?_
  refine S_seq ?_
  refine S_reg [true, true] rfl rfl ?_
  refine J_st (R_eql rfl rfl) rfl (J_st (R_assign rfl) rfl (J_done ?_))
  refine S_cond rfl (fun hc2 => ?_) (fun hc2 => ?_)
  ·have hc2n : dx7 = 0 := by first | (have h := of_decide_eq_true hc2; omega) | (have h := hc2; simp at h; omega)
   refine S_reg [true, true, true, true, false] rfl rfl ?_
   refine J_st (R_fieldAddr0 fl26_0 rfl) rfl (J_st (R_load sc24 rfl (h2.one 0 rfl)) rfl (J_st (R_loadS st45 rfl h10.at rfl) rfl (J_st (R_indexB sl24 rfl rfl (by first | assumption | omega | (simp only [List.length_set]; first | assumption | omega) | (simp only [List.getElem_set_self, List.length_set]; first | assumption | omega) | (simp only [setW, setLk, List.length_set]; first | assumption | omega) | (simp; done))) rfl ?_)))
   refine J_storeS' (cs' := [.int .i64 1, .int .i64 0, .int .i64 0, .slice (some ⟨b14, 0, none⟩) 1 1, .int .i64 6, .int .i64 0, .int .i64 0, .slice (some ⟨b3, 0, none⟩) 2 2, .int .i64 4, .int .i64 (IntKind.i64.wrap (1 + ((dx4 : Nat) : Int))), .int .i64 0, .slice (some ⟨b5, 0, none⟩) 1 1, .int .i64 3, .int .i64 (IntKind.i64.wrap (1 + ((dx6 : Nat) : Int))), .int .i64 0, .slice (some ⟨b9, 0, none⟩) 1 1, .int .i64 7, .int .i64 0, .int .i64 0, .slice (some ⟨b11, 0, none⟩) 1 1, .int .i64 8, .int .i64 0, .int .i64 0, .slice none 0 0]) st45 rfl rfl rfl (all_cons rfl (all_cons rfl (all_cons rfl (all_cons rfl rfl)))) h15 (Nat.le_of_ble_eq_true rfl) rfl (fun w32 m10 h15' => ?_)
   replace h15 := h15'
   replace E := E.mod m10 (fun g hg => by cases hg; omega); replace hcu := hcu.mod m10 (fun g hg => by cases hg; omega); replace h1 := h1.mod m10 (fun g hg => by cases hg; omega); replace h2 := h2.mod m10 (fun g hg => by cases hg; omega); replace h3 := h3.mod m10 (fun g hg => by cases hg; omega); replace h4 := h4.mod m10 (fun g hg => by cases hg; omega); replace h5 := h5.mod m10 (fun g hg => by cases hg; omega); replace h6 := h6.mod m10 (fun g hg => by cases hg; omega); replace h7 := h7.mod m10 (fun g hg => by cases hg; omega); replace h8 := h8.mod m10 (fun g hg => by cases hg; omega); replace h9 := h9.mod m10 (fun g hg => by cases hg; omega); replace h10 := h10.mod m10 (fun g hg => by cases hg; omega); replace h11 := h11.mod m10 (fun g hg => by cases hg; omega); replace h12 := h12.mod m10 (fun g hg => by cases hg; omega); replace h13 := h13.mod m10 (fun g hg => by cases hg; omega); replace h14 := h14.mod m10 (fun g hg => by cases hg; omega)
   have z32 := m10.size
   refine J_done ?_
   refine S_nil (E_inB ?_)
   refine S_seq ?_
   refine S_reg [true, false] rfl rfl ?_
   refine J_st (R_loadS st26 rfl h2.at rfl) rfl ?_
   refine J_storeS' (cs' := [.slice (some ⟨b15, 0, none⟩) 6 6, .int .i64 (IntKind.i64.wrap (1 + ((dx1 : Nat) : Int))), .int .i64 (IntKind.i64.wrap (1 + ((dx2 : Nat) : Int)))]) st26 rfl rfl rfl (all_cons rfl (all_cons rfl (all_cons rfl rfl))) h1 (Nat.le_of_ble_eq_true rfl) rfl (fun w33 m11 h1' => ?_)
   replace h1 := h1'
   replace E := E.mod m11 (fun g hg => by cases hg; omega); replace hcu := hcu.mod m11 (fun g hg => by cases hg; omega); replace h2 := h2.mod m11 (fun g hg => by cases hg; omega); replace h3 := h3.mod m11 (fun g hg => by cases hg; omega); replace h4 := h4.mod m11 (fun g hg => by cases hg; omega); replace h5 := h5.mod m11 (fun g hg => by cases hg; omega); replace h6 := h6.mod m11 (fun g hg => by cases hg; omega); replace h7 := h7.mod m11 (fun g hg => by cases hg; omega); replace h8 := h8.mod m11 (fun g hg => by cases hg; omega); replace h9 := h9.mod m11 (fun g hg => by cases hg; omega); replace h10 := h10.mod m11 (fun g hg => by cases hg; omega); replace h11 := h11.mod m11 (fun g hg => by cases hg; omega); replace h12 := h12.mod m11 (fun g hg => by cases hg; omega); replace h13 := h13.mod m11 (fun g hg => by cases hg; omega); replace h14 := h14.mod m11 (fun g hg => by cases hg; omega); replace h15 := h15.mod m11 (fun g hg => by cases hg; omega)
   have z33 := m11.size
   refine J_done ?_
   refine S_ret (E_doneC rfl rfl (run_loadVar_st st26 h1.at rfl) E ?_)
   have hF1 : OwF w33 b3 w33.heap.size (.slice (some ⟨b15, 0, none⟩) 6 6) [(⟨1, 0, 0, [1]⟩ : Node), (⟨6, 0, 0, [2, 5]⟩ : Node), (⟨4, IntKind.i64.wrap (1 + ((dx4 : Nat) : Int)), 0, [3]⟩ : Node), (⟨3, IntKind.i64.wrap (1 + ((dx6 : Nat) : Int)), 0, [4]⟩ : Node), (⟨7, 0, 0, [1]⟩ : Node), (⟨8, 0, 0, []⟩ : Node)] [b15, b14, b3, b5, b9, b11] := OwF.lit (css := [[.int .i64 1, .int .i64 0, .int .i64 0, .slice (some ⟨b14, 0, none⟩) 1 1], [.int .i64 6, .int .i64 0, .int .i64 0, .slice (some ⟨b3, 0, none⟩) 2 2], [.int .i64 4, .int .i64 (IntKind.i64.wrap (1 + ((dx4 : Nat) : Int))), .int .i64 0, .slice (some ⟨b5, 0, none⟩) 1 1], [.int .i64 3, .int .i64 (IntKind.i64.wrap (1 + ((dx6 : Nat) : Int))), .int .i64 0, .slice (some ⟨b9, 0, none⟩) 1 1], [.int .i64 7, .int .i64 0, .int .i64 0, .slice (some ⟨b11, 0, none⟩) 1 1], [.int .i64 8, .int .i64 0, .int .i64 0, .slice none 0 0]]) h15 ⟨(Node.mkO (⟨1, 0, 0, [1]⟩ : Node) ⟨trivial, trivial⟩ (Own.widen (Own.ofBlk (lo := b14) (hi := b14 + 1) (sz := 1) h14 (Nat.le_refl _) (Nat.lt_succ_self _) (by rfl) (by unfold maxLen; omega)) (by omega) (by omega))), (Node.mkO (⟨6, 0, 0, [2, 5]⟩ : Node) ⟨trivial, trivial⟩ (Own.widen (Own.ofBlk (lo := b3) (hi := b3 + 1) (sz := 1) h3 (Nat.le_refl _) (Nat.lt_succ_self _) (by rfl) (by unfold maxLen; omega)) (by omega) (by omega))), (Node.mkO (⟨4, IntKind.i64.wrap (1 + ((dx4 : Nat) : Int)), 0, [3]⟩ : Node) ⟨trivial, trivial⟩ (Own.widen (Own.ofBlk (lo := b5) (hi := b5 + 1) (sz := 1) h5 (Nat.le_refl _) (Nat.lt_succ_self _) (by rfl) (by unfold maxLen; omega)) (by omega) (by omega))), (Node.mkO (⟨3, IntKind.i64.wrap (1 + ((dx6 : Nat) : Int)), 0, [4]⟩ : Node) ⟨trivial, trivial⟩ (Own.widen (Own.ofBlk (lo := b9) (hi := b9 + 1) (sz := 1) h9 (Nat.le_refl _) (Nat.lt_succ_self _) (by rfl) (by unfold maxLen; omega)) (by omega) (by omega))), (Node.mkO (⟨7, 0, 0, [1]⟩ : Node) ⟨trivial, trivial⟩ (Own.widen (Own.ofBlk (lo := b11) (hi := b11 + 1) (sz := 1) h11 (Nat.le_refl _) (Nat.lt_succ_self _) (by rfl) (by unfold maxLen; omega)) (by omega) (by omega))), (Node.mkO (⟨8, 0, 0, []⟩ : Node) ⟨trivial, trivial⟩ (Own.nil _ _ _ _)), trivial⟩ (by omega) (by omega) (show List.Nodup [b15, b14, b3, b5, b9, b11] from by first | (simp; done) | (simp; omega)) rfl (by simp [maxLen])
   exact ⟨(⟨[(⟨1, 0, 0, [1]⟩ : Node), (⟨6, 0, 0, [2, 5]⟩ : Node), (⟨4, IntKind.i64.wrap (1 + ((dx4 : Nat) : Int)), 0, [3]⟩ : Node), (⟨3, IntKind.i64.wrap (1 + ((dx6 : Nat) : Int)), 0, [4]⟩ : Node), (⟨7, 0, 0, [1]⟩ : Node), (⟨8, 0, 0, []⟩ : Node)], IntKind.i64.wrap (1 + ((dx1 : Nat) : Int)), IntKind.i64.wrap (1 + ((dx2 : Nat) : Int))⟩ : Graph), (by first | assumption | (constructor <;> simp <;> done) | (constructor <;> simp [*] <;> omega)), (by simp), (by simp), hcu, ⟨_, rfl, OwS.widen (OwF.ows hF1) (by have := E.size; omega) (by omega)⟩⟩
  ·have hc2n : ¬ dx7 = 0 := by first | (have h := of_decide_eq_false hc2; omega) | (have h := hc2; simp at h; omega)
   refine S_seq ?_
   refine S_reg [true, true] rfl rfl ?_
   refine J_st (R_eql rfl rfl) rfl (J_st (R_assign rfl) rfl (J_done ?_))
   refine S_cond rfl (fun hc3 => ?_) (fun hc3 => ?_)
   ·have hc3n : dx7 = 1 := by first | (have h := of_decide_eq_true hc3; omega) | (have h := hc3; simp at h; omega)
    refine S_reg [true, true, true, true, false] rfl rfl ?_
    refine J_st (R_fieldAddr0 fl26_0 rfl) rfl (J_st (R_load sc24 rfl (h2.one 0 rfl)) rfl ?_)
    have hbl9 : ∀ w, (Instr.build 45 ([(0, .int .i64 8)]).toArray).run Try.prog w = .ok (.agg [.int .i64 8, .int .i64 0, .int .i64 0, .slice none 0 0].toArray) w := by clear E; intro w; kernel_rfl
    refine J_st (R_buildC [.int .i64 8, .int .i64 0, .int .i64 0, .slice none 0 0] rfl hbl9) rfl (J_st (R_indexB sl24 rfl rfl (by first | assumption | omega | (simp only [List.length_set]; first | assumption | omega) | (simp only [List.getElem_set_self, List.length_set]; first | assumption | omega) | (simp only [setW, setLk, List.length_set]; first | assumption | omega) | (simp; done))) rfl ?_)
    refine J_storeS' (cs' := [.int .i64 1, .int .i64 0, .int .i64 0, .slice (some ⟨b14, 0, none⟩) 1 1, .int .i64 6, .int .i64 0, .int .i64 0, .slice (some ⟨b3, 0, none⟩) 2 2, .int .i64 4, .int .i64 (IntKind.i64.wrap (1 + ((dx4 : Nat) : Int))), .int .i64 0, .slice (some ⟨b5, 0, none⟩) 1 1, .int .i64 2, .int .i64 ((dx5 : Nat) : Int), .int .i64 0, .slice (some ⟨b7, 0, none⟩) 1 1, .int .i64 8, .int .i64 0, .int .i64 0, .slice none 0 0, .int .i64 8, .int .i64 0, .int .i64 0, .slice none 0 0]) st45 rfl rfl rfl rfl h15 (Nat.le_of_ble_eq_true rfl) rfl (fun w34 m12 h15' => ?_)
    replace h15 := h15'
    replace E := E.mod m12 (fun g hg => by cases hg; omega); replace hcu := hcu.mod m12 (fun g hg => by cases hg; omega); replace h1 := h1.mod m12 (fun g hg => by cases hg; omega); replace h2 := h2.mod m12 (fun g hg => by cases hg; omega); replace h3 := h3.mod m12 (fun g hg => by cases hg; omega); replace h4 := h4.mod m12 (fun g hg => by cases hg; omega); replace h5 := h5.mod m12 (fun g hg => by cases hg; omega); replace h6 := h6.mod m12 (fun g hg => by cases hg; omega); replace h7 := h7.mod m12 (fun g hg => by cases hg; omega); replace h8 := h8.mod m12 (fun g hg => by cases hg; omega); replace h9 := h9.mod m12 (fun g hg => by cases hg; omega); replace h10 := h10.mod m12 (fun g hg => by cases hg; omega); replace h11 := h11.mod m12 (fun g hg => by cases hg; omega); replace h12 := h12.mod m12 (fun g hg => by cases hg; omega); replace h13 := h13.mod m12 (fun g hg => by cases hg; omega); replace h14 := h14.mod m12 (fun g hg => by cases hg; omega)
    have z34 := m12.size
    refine J_done ?_
    refine S_nil (E_inB ?_)
    refine S_seq ?_
    refine S_reg [true, false] rfl rfl ?_
    refine J_st (R_loadS st26 rfl h2.at rfl) rfl ?_
    refine J_storeS' (cs' := [.slice (some ⟨b15, 0, none⟩) 6 6, .int .i64 (IntKind.i64.wrap (1 + ((dx1 : Nat) : Int))), .int .i64 (IntKind.i64.wrap (1 + ((dx2 : Nat) : Int)))]) st26 rfl rfl rfl (all_cons rfl (all_cons rfl (all_cons rfl rfl))) h1 (Nat.le_of_ble_eq_true rfl) rfl (fun w35 m13 h1' => ?_)
    replace h1 := h1'
    replace E := E.mod m13 (fun g hg => by cases hg; omega); replace hcu := hcu.mod m13 (fun g hg => by cases hg; omega); replace h2 := h2.mod m13 (fun g hg => by cases hg; omega); replace h3 := h3.mod m13 (fun g hg => by cases hg; omega); replace h4 := h4.mod m13 (fun g hg => by cases hg; omega); replace h5 := h5.mod m13 (fun g hg => by cases hg; omega); replace h6 := h6.mod m13 (fun g hg => by cases hg; omega); replace h7 := h7.mod m13 (fun g hg => by cases hg; omega); replace h8 := h8.mod m13 (fun g hg => by cases hg; omega); replace h9 := h9.mod m13 (fun g hg => by cases hg; omega); replace h10 := h10.mod m13 (fun g hg => by cases hg; omega); replace h11 := h11.mod m13 (fun g hg => by cases hg; omega); replace h12 := h12.mod m13 (fun g hg => by cases hg; omega); replace h13 := h13.mod m13 (fun g hg => by cases hg; omega); replace h14 := h14.mod m13 (fun g hg => by cases hg; omega); replace h15 := h15.mod m13 (fun g hg => by cases hg; omega)
    have z35 := m13.size
    refine J_done ?_
    refine S_ret (E_doneC rfl rfl (run_loadVar_st st26 h1.at rfl) E ?_)
    have hF2 : OwF w35 b3 w35.heap.size (.slice (some ⟨b15, 0, none⟩) 6 6) [(⟨1, 0, 0, [1]⟩ : Node), (⟨6, 0, 0, [2, 5]⟩ : Node), (⟨4, IntKind.i64.wrap (1 + ((dx4 : Nat) : Int)), 0, [3]⟩ : Node), (⟨2, ((dx5 : Nat) : Int), 0, [4]⟩ : Node), (⟨8, 0, 0, []⟩ : Node), (⟨8, 0, 0, []⟩ : Node)] [b15, b14, b3, b5, b7] := OwF.lit (css := [[.int .i64 1, .int .i64 0, .int .i64 0, .slice (some ⟨b14, 0, none⟩) 1 1], [.int .i64 6, .int .i64 0, .int .i64 0, .slice (some ⟨b3, 0, none⟩) 2 2], [.int .i64 4, .int .i64 (IntKind.i64.wrap (1 + ((dx4 : Nat) : Int))), .int .i64 0, .slice (some ⟨b5, 0, none⟩) 1 1], [.int .i64 2, .int .i64 ((dx5 : Nat) : Int), .int .i64 0, .slice (some ⟨b7, 0, none⟩) 1 1], [.int .i64 8, .int .i64 0, .int .i64 0, .slice none 0 0], [.int .i64 8, .int .i64 0, .int .i64 0, .slice none 0 0]]) h15 ⟨(Node.mkO (⟨1, 0, 0, [1]⟩ : Node) ⟨trivial, trivial⟩ (Own.widen (Own.ofBlk (lo := b14) (hi := b14 + 1) (sz := 1) h14 (Nat.le_refl _) (Nat.lt_succ_self _) (by rfl) (by unfold maxLen; omega)) (by omega) (by omega))), (Node.mkO (⟨6, 0, 0, [2, 5]⟩ : Node) ⟨trivial, trivial⟩ (Own.widen (Own.ofBlk (lo := b3) (hi := b3 + 1) (sz := 1) h3 (Nat.le_refl _) (Nat.lt_succ_self _) (by rfl) (by unfold maxLen; omega)) (by omega) (by omega))), (Node.mkO (⟨4, IntKind.i64.wrap (1 + ((dx4 : Nat) : Int)), 0, [3]⟩ : Node) ⟨trivial, trivial⟩ (Own.widen (Own.ofBlk (lo := b5) (hi := b5 + 1) (sz := 1) h5 (Nat.le_refl _) (Nat.lt_succ_self _) (by rfl) (by unfold maxLen; omega)) (by omega) (by omega))), (Node.mkO (⟨2, ((dx5 : Nat) : Int), 0, [4]⟩ : Node) ⟨trivial, trivial⟩ (Own.widen (Own.ofBlk (lo := b7) (hi := b7 + 1) (sz := 1) h7 (Nat.le_refl _) (Nat.lt_succ_self _) (by rfl) (by unfold maxLen; omega)) (by omega) (by omega))), (Node.mkO (⟨8, 0, 0, []⟩ : Node) ⟨trivial, trivial⟩ (Own.nil _ _ _ _)), (Node.mkO (⟨8, 0, 0, []⟩ : Node) ⟨trivial, trivial⟩ (Own.nil _ _ _ _)), trivial⟩ (by omega) (by omega) (show List.Nodup [b15, b14, b3, b5, b7] from by first | (simp; done) | (simp; omega)) rfl (by simp [maxLen])
    exact ⟨(⟨[(⟨1, 0, 0, [1]⟩ : Node), (⟨6, 0, 0, [2, 5]⟩ : Node), (⟨4, IntKind.i64.wrap (1 + ((dx4 : Nat) : Int)), 0, [3]⟩ : Node), (⟨2, ((dx5 : Nat) : Int), 0, [4]⟩ : Node), (⟨8, 0, 0, []⟩ : Node), (⟨8, 0, 0, []⟩ : Node)], IntKind.i64.wrap (1 + ((dx1 : Nat) : Int)), IntKind.i64.wrap (1 + ((dx2 : Nat) : Int))⟩ : Graph), (by first | assumption | (constructor <;> simp <;> done) | (constructor <;> simp [*] <;> omega)), (by simp), (by simp), hcu, ⟨_, rfl, OwS.widen (OwF.ows hF2) (by have := E.size; omega) (by omega)⟩⟩
   ·have hc3n : ¬ dx7 = 1 := by first | (have h := of_decide_eq_false hc3; omega) | (have h := hc3; simp at h; omega)
    refine S_seq ?_
    refine S_reg [true, true] rfl rfl ?_
    refine J_st (R_eql rfl rfl) rfl (J_st (R_assign rfl) rfl (J_done ?_))
    refine S_cond rfl (fun hc4 => ?_) (fun hc4 => ?_)
    ·have hc4n : dx7 = 2 := by first | (have h := of_decide_eq_true hc4; omega) | (have h := hc4; simp at h; omega)
     refine S_reg [true, true, false, true, true, false] rfl rfl ?_
     refine J_st (R_fieldAddr0 fl26_0 rfl) rfl (J_st (R_load sc24 rfl (h2.one 0 rfl)) rfl ?_)
     refine J_buildSlice (vs := [.int .i64 3, .int .i64 4]) (css := [[.int .i64 3], [.int .i64 4]]) sl29 rfl rfl ⟨⟨rfl, rfl⟩, ⟨rfl, rfl⟩, trivial⟩ rfl rfl (fun b16 w36 e23 s16 h16 => ?_)
     replace h16 : Blk w36 b16 [.int .i64 3, .int .i64 4] := h16
     have g_b16 : w.heap.size ≤ b16 := by have := E.size; omega
     have y_b16 := h16.lt
     replace E := E.ext e23; replace hcu := hcu.ext e23; replace h1 := h1.ext e23; replace h2 := h2.ext e23; replace h3 := h3.ext e23; replace h4 := h4.ext e23; replace h5 := h5.ext e23; replace h6 := h6.ext e23; replace h7 := h7.ext e23; replace h8 := h8.ext e23; replace h9 := h9.ext e23; replace h10 := h10.ext e23; replace h11 := h11.ext e23; replace h12 := h12.ext e23; replace h13 := h13.ext e23; replace h14 := h14.ext e23; replace h15 := h15.ext e23
     have z36 := e23.size
     refine J_st (R_indexB sl24 rfl rfl (by first | assumption | omega | (simp only [List.length_set]; first | assumption | omega) | (simp only [List.getElem_set_self, List.length_set]; first | assumption | omega) | (simp only [setW, setLk, List.length_set]; first | assumption | omega) | (simp; done))) rfl (J_st (R_fieldAddr fl45_3 rfl) rfl ?_)
     refine J_store' (cs' := [.int .i64 1, .int .i64 0, .int .i64 0, .slice (some ⟨b14, 0, none⟩) 1 1, .int .i64 6, .int .i64 0, .int .i64 0, .slice (some ⟨b3, 0, none⟩) 2 2, .int .i64 4, .int .i64 (IntKind.i64.wrap (1 + ((dx4 : Nat) : Int))), .int .i64 0, .slice (some ⟨b16, 0, none⟩) 2 2, .int .i64 2, .int .i64 ((dx5 : Nat) : Int), .int .i64 0, .slice (some ⟨b7, 0, none⟩) 1 1, .int .i64 7, .int .i64 0, .int .i64 0, .slice (some ⟨b11, 0, none⟩) 1 1, .int .i64 8, .int .i64 0, .int .i64 0, .slice none 0 0]) sc29 rfl rfl rfl h15 (Nat.le_of_ble_eq_true rfl) rfl (fun w37 m14 h15' => ?_)
     replace h15 := h15'
     replace E := E.mod m14 (fun g hg => by cases hg; omega); replace hcu := hcu.mod m14 (fun g hg => by cases hg; omega); replace h1 := h1.mod m14 (fun g hg => by cases hg; omega); replace h2 := h2.mod m14 (fun g hg => by cases hg; omega); replace h3 := h3.mod m14 (fun g hg => by cases hg; omega); replace h4 := h4.mod m14 (fun g hg => by cases hg; omega); replace h5 := h5.mod m14 (fun g hg => by cases hg; omega); replace h6 := h6.mod m14 (fun g hg => by cases hg; omega); replace h7 := h7.mod m14 (fun g hg => by cases hg; omega); replace h8 := h8.mod m14 (fun g hg => by cases hg; omega); replace h9 := h9.mod m14 (fun g hg => by cases hg; omega); replace h10 := h10.mod m14 (fun g hg => by cases hg; omega); replace h11 := h11.mod m14 (fun g hg => by cases hg; omega); replace h12 := h12.mod m14 (fun g hg => by cases hg; omega); replace h13 := h13.mod m14 (fun g hg => by cases hg; omega); replace h14 := h14.mod m14 (fun g hg => by cases hg; omega); replace h16 := h16.mod m14 (fun g hg => by cases hg; omega)
     have z37 := m14.size
     refine J_done ?_
     refine S_nil (E_inB ?_)
     refine S_seq ?_
     refine S_reg [true, false] rfl rfl ?_
     refine J_st (R_loadS st26 rfl h2.at rfl) rfl ?_
     refine J_storeS' (cs' := [.slice (some ⟨b15, 0, none⟩) 6 6, .int .i64 (IntKind.i64.wrap (1 + ((dx1 : Nat) : Int))), .int .i64 (IntKind.i64.wrap (1 + ((dx2 : Nat) : Int)))]) st26 rfl rfl rfl (all_cons rfl (all_cons rfl (all_cons rfl rfl))) h1 (Nat.le_of_ble_eq_true rfl) rfl (fun w38 m15 h1' => ?_)
     replace h1 := h1'
     replace E := E.mod m15 (fun g hg => by cases hg; omega); replace hcu := hcu.mod m15 (fun g hg => by cases hg; omega); replace h2 := h2.mod m15 (fun g hg => by cases hg; omega); replace h3 := h3.mod m15 (fun g hg => by cases hg; omega); replace h4 := h4.mod m15 (fun g hg => by cases hg; omega); replace h5 := h5.mod m15 (fun g hg => by cases hg; omega); replace h6 := h6.mod m15 (fun g hg => by cases hg; omega); replace h7 := h7.mod m15 (fun g hg => by cases hg; omega); replace h8 := h8.mod m15 (fun g hg => by cases hg; omega); replace h9 := h9.mod m15 (fun g hg => by cases hg; omega); replace h10 := h10.mod m15 (fun g hg => by cases hg; omega); replace h11 := h11.mod m15 (fun g hg => by cases hg; omega); replace h12 := h12.mod m15 (fun g hg => by cases hg; omega); replace h13 := h13.mod m15 (fun g hg => by cases hg; omega); replace h14 := h14.mod m15 (fun g hg => by cases hg; omega); replace h15 := h15.mod m15 (fun g hg => by cases hg; omega); replace h16 := h16.mod m15 (fun g hg => by cases hg; omega)
     have z38 := m15.size
     refine J_done ?_
     refine S_ret (E_doneC rfl rfl (run_loadVar_st st26 h1.at rfl) E ?_)
     have hF3 : OwF w38 b3 w38.heap.size (.slice (some ⟨b15, 0, none⟩) 6 6) [(⟨1, 0, 0, [1]⟩ : Node), (⟨6, 0, 0, [2, 5]⟩ : Node), (⟨4, IntKind.i64.wrap (1 + ((dx4 : Nat) : Int)), 0, [3, 4]⟩ : Node), (⟨2, ((dx5 : Nat) : Int), 0, [4]⟩ : Node), (⟨7, 0, 0, [1]⟩ : Node), (⟨8, 0, 0, []⟩ : Node)] [b15, b14, b3, b16, b7, b11] := OwF.lit (css := [[.int .i64 1, .int .i64 0, .int .i64 0, .slice (some ⟨b14, 0, none⟩) 1 1], [.int .i64 6, .int .i64 0, .int .i64 0, .slice (some ⟨b3, 0, none⟩) 2 2], [.int .i64 4, .int .i64 (IntKind.i64.wrap (1 + ((dx4 : Nat) : Int))), .int .i64 0, .slice (some ⟨b16, 0, none⟩) 2 2], [.int .i64 2, .int .i64 ((dx5 : Nat) : Int), .int .i64 0, .slice (some ⟨b7, 0, none⟩) 1 1], [.int .i64 7, .int .i64 0, .int .i64 0, .slice (some ⟨b11, 0, none⟩) 1 1], [.int .i64 8, .int .i64 0, .int .i64 0, .slice none 0 0]]) h15 ⟨(Node.mkO (⟨1, 0, 0, [1]⟩ : Node) ⟨trivial, trivial⟩ (Own.widen (Own.ofBlk (lo := b14) (hi := b14 + 1) (sz := 1) h14 (Nat.le_refl _) (Nat.lt_succ_self _) (by rfl) (by unfold maxLen; omega)) (by omega) (by omega))), (Node.mkO (⟨6, 0, 0, [2, 5]⟩ : Node) ⟨trivial, trivial⟩ (Own.widen (Own.ofBlk (lo := b3) (hi := b3 + 1) (sz := 1) h3 (Nat.le_refl _) (Nat.lt_succ_self _) (by rfl) (by unfold maxLen; omega)) (by omega) (by omega))), (Node.mkO (⟨4, IntKind.i64.wrap (1 + ((dx4 : Nat) : Int)), 0, [3, 4]⟩ : Node) ⟨trivial, trivial⟩ (Own.widen (Own.ofBlk (lo := b16) (hi := b16 + 1) (sz := 1) h16 (Nat.le_refl _) (Nat.lt_succ_self _) (by rfl) (by unfold maxLen; omega)) (by omega) (by omega))), (Node.mkO (⟨2, ((dx5 : Nat) : Int), 0, [4]⟩ : Node) ⟨trivial, trivial⟩ (Own.widen (Own.ofBlk (lo := b7) (hi := b7 + 1) (sz := 1) h7 (Nat.le_refl _) (Nat.lt_succ_self _) (by rfl) (by unfold maxLen; omega)) (by omega) (by omega))), (Node.mkO (⟨7, 0, 0, [1]⟩ : Node) ⟨trivial, trivial⟩ (Own.widen (Own.ofBlk (lo := b11) (hi := b11 + 1) (sz := 1) h11 (Nat.le_refl _) (Nat.lt_succ_self _) (by rfl) (by unfold maxLen; omega)) (by omega) (by omega))), (Node.mkO (⟨8, 0, 0, []⟩ : Node) ⟨trivial, trivial⟩ (Own.nil _ _ _ _)), trivial⟩ (by omega) (by omega) (show List.Nodup [b15, b14, b3, b16, b7, b11] from by first | (simp; done) | (simp; omega)) rfl (by simp [maxLen])
     exact ⟨(⟨[(⟨1, 0, 0, [1]⟩ : Node), (⟨6, 0, 0, [2, 5]⟩ : Node), (⟨4, IntKind.i64.wrap (1 + ((dx4 : Nat) : Int)), 0, [3, 4]⟩ : Node), (⟨2, ((dx5 : Nat) : Int), 0, [4]⟩ : Node), (⟨7, 0, 0, [1]⟩ : Node), (⟨8, 0, 0, []⟩ : Node)], IntKind.i64.wrap (1 + ((dx1 : Nat) : Int)), IntKind.i64.wrap (1 + ((dx2 : Nat) : Int))⟩ : Graph), (by first | assumption | (constructor <;> simp <;> done) | (constructor <;> simp [*] <;> omega)), (by simp), (by simp), hcu, ⟨_, rfl, OwS.widen (OwF.ows hF3) (by have := E.size; omega) (by omega)⟩⟩
    ·have hc4n : ¬ dx7 = 2 := by first | (have h := of_decide_eq_false hc4; omega) | (have h := hc4; simp at h; omega)
     refine S_seq ?_
     refine S_reg [true, true] rfl rfl ?_
     refine J_st (R_eql rfl rfl) rfl (J_st (R_assign rfl) rfl (J_done ?_))
     refine S_cond rfl (fun hc5 => ?_) (fun hc5 => ?_)
     ·have hc5n : dx7 = 3 := by first | (have h := of_decide_eq_true hc5; omega) | (have h := hc5; simp at h; omega)
      refine S_seq ?_
      have hF4 : OwF w31 b3 w31.heap.size (.slice (some ⟨b15, 0, none⟩) 6 6) [(⟨1, 0, 0, [1]⟩ : Node), (⟨6, 0, 0, [2, 5]⟩ : Node), (⟨4, IntKind.i64.wrap (1 + ((dx4 : Nat) : Int)), 0, [3]⟩ : Node), (⟨2, ((dx5 : Nat) : Int), 0, [4]⟩ : Node), (⟨7, 0, 0, [1]⟩ : Node), (⟨8, 0, 0, []⟩ : Node)] [b15, b14, b3, b5, b7, b11] := OwF.lit (css := [[.int .i64 1, .int .i64 0, .int .i64 0, .slice (some ⟨b14, 0, none⟩) 1 1], [.int .i64 6, .int .i64 0, .int .i64 0, .slice (some ⟨b3, 0, none⟩) 2 2], [.int .i64 4, .int .i64 (IntKind.i64.wrap (1 + ((dx4 : Nat) : Int))), .int .i64 0, .slice (some ⟨b5, 0, none⟩) 1 1], [.int .i64 2, .int .i64 ((dx5 : Nat) : Int), .int .i64 0, .slice (some ⟨b7, 0, none⟩) 1 1], [.int .i64 7, .int .i64 0, .int .i64 0, .slice (some ⟨b11, 0, none⟩) 1 1], [.int .i64 8, .int .i64 0, .int .i64 0, .slice none 0 0]]) h15 ⟨(Node.mkO (⟨1, 0, 0, [1]⟩ : Node) ⟨trivial, trivial⟩ (Own.widen (Own.ofBlk (lo := b14) (hi := b14 + 1) (sz := 1) h14 (Nat.le_refl _) (Nat.lt_succ_self _) (by rfl) (by unfold maxLen; omega)) (by omega) (by omega))), (Node.mkO (⟨6, 0, 0, [2, 5]⟩ : Node) ⟨trivial, trivial⟩ (Own.widen (Own.ofBlk (lo := b3) (hi := b3 + 1) (sz := 1) h3 (Nat.le_refl _) (Nat.lt_succ_self _) (by rfl) (by unfold maxLen; omega)) (by omega) (by omega))), (Node.mkO (⟨4, IntKind.i64.wrap (1 + ((dx4 : Nat) : Int)), 0, [3]⟩ : Node) ⟨trivial, trivial⟩ (Own.widen (Own.ofBlk (lo := b5) (hi := b5 + 1) (sz := 1) h5 (Nat.le_refl _) (Nat.lt_succ_self _) (by rfl) (by unfold maxLen; omega)) (by omega) (by omega))), (Node.mkO (⟨2, ((dx5 : Nat) : Int), 0, [4]⟩ : Node) ⟨trivial, trivial⟩ (Own.widen (Own.ofBlk (lo := b7) (hi := b7 + 1) (sz := 1) h7 (Nat.le_refl _) (Nat.lt_succ_self _) (by rfl) (by unfold maxLen; omega)) (by omega) (by omega))), (Node.mkO (⟨7, 0, 0, [1]⟩ : Node) ⟨trivial, trivial⟩ (Own.widen (Own.ofBlk (lo := b11) (hi := b11 + 1) (sz := 1) h11 (Nat.le_refl _) (Nat.lt_succ_self _) (by rfl) (by unfold maxLen; omega)) (by omega) (by omega))), (Node.mkO (⟨8, 0, 0, []⟩ : Node) ⟨trivial, trivial⟩ (Own.nil _ _ _ _)), trivial⟩ (by omega) (by omega) (show List.Nodup [b15, b14, b3, b5, b7, b11] from by first | (simp; done) | (simp; omega)) rfl (by simp [maxLen])
      have nh1 : b1 ∉ ([b15, b14, b3, b5, b7, b11] : List Nat) := by simp; omega
      have sp1 : DjL [[b15, b14, b3, b5, b7, b11], [b2]] := ⟨⟨(show Dj [b15, b14, b3, b5, b7, b11] [b2] from fun x hx hc => by simp at hx hc; omega), trivial⟩, trivial, trivial⟩
      refine S_reg [true, true, true, false, false, true, false] rfl rfl ?_
      refine J_st (R_fieldAddr0 fl26_0 rfl) rfl (J_st (R_load sc24 rfl (h2.one 0 rfl)) rfl ?_)
      have hbl10 : ∀ w, (Instr.build 45 ([(0, .int .i64 8)]).toArray).run Try.prog w = .ok (.agg [.int .i64 8, .int .i64 0, .int .i64 0, .slice none 0 0].toArray) w := by clear E; intro w; kernel_rfl
      refine J_st (R_buildC [.int .i64 8, .int .i64 0, .int .i64 0, .slice none 0 0] rfl hbl10) rfl ?_
      refine J_buildSlice (vs := [.agg [.int .i64 8, .int .i64 0, .int .i64 0, .slice none 0 0].toArray]) (css := [[.int .i64 8, .int .i64 0, .int .i64 0, .slice none 0 0]]) sl24 rfl rfl ⟨⟨rfl, rfl⟩, trivial⟩ rfl rfl (fun b17 w39 e24 s17 h17 => ?_)
      replace h17 : Blk w39 b17 [.int .i64 8, .int .i64 0, .int .i64 0, .slice none 0 0] := h17
      have g_b17 : w.heap.size ≤ b17 := by have := E.size; omega
      have y_b17 := h17.lt
      replace E := E.ext e24; replace hcu := hcu.ext e24; replace h1 := h1.ext e24; replace h2 := h2.ext e24; replace hF4 := hF4.ext e24
      have z39 := e24.size
      have hy1 : Own1.O (α := Node) w39 w39.heap.size w39.heap.size [.int .i64 8, .int .i64 0, .int .i64 0, .slice none 0 0] (⟨8, 0, 0, []⟩ : Node) := Node.mkO (⟨8, 0, 0, []⟩ : Node) ⟨trivial, trivial⟩ (Own.nil _ _ _ _)
      refine J_appendF (lo := b3) (hi := w31.heap.size) (lo2 := w39.heap.size) (hi2 := w39.heap.size) sl24 rfl rfl hF4 (Src.ofBlk h17 rfl) hy1 (fun b hb hc => by have := OwF.in2 hF4 b hb; have := Own1.inn hy1 b hc; omega) (by simp only [List.length_append, List.length_cons, List.length_nil, List.length_set, show Dat.sz Node = 4 from rfl]; omega) (by decide) (by omega) (by omega) (by omega) (by omega) (by omega) rfl rfl (fun v1 w40 f1 m16 ho1 hin1 => ?_)
      have hqb := OwS.inn (OwF.ows hF4)
      have kq1 := Mod.kq (l := [b15, b14, b3, b5, b7, b11]) m16 (OwF.v_mem hF4)
      replace E := E.mod m16 (fun g hg => by have := hqb g hg; omega); replace hcu := hcu.mod m16 (fun g hg => by have := hqb g hg; omega); replace h1 := Blk.kp h1 (Kq.kp kq1 (fun x hx hc => by simp at hx; subst hx; exact nh1 hc)); replace h2 := Blk.kp h2 (Kq.kp kq1 (sp1.1.1).symm)
      have z40 := m16.size
      replace sp1 := DjL.set (N := w39.heap.size) hin1 0 rfl sp1 ⟨(fun b hb => by have := OwF.in2 hF4 b hb; omega), (fun b hb => by simp at hb; omega), trivial⟩
      have nh2 : b1 ∉ f1 := fun hx => (hin1 b1 hx).elim nh1 (fun h => by omega)
      replace sp1 : DjL [f1, [b2]] := sp1
      clear hqb hy1 kq1 hF4
      refine J_st (R_fieldAddr0 fl26_0 rfl) rfl ?_
      refine J_store' (cs' := [v1, .int .i64 (IntKind.i64.wrap (1 + ((dx1 : Nat) : Int))), .int .i64 (IntKind.i64.wrap (1 + ((dx2 : Nat) : Int)))]) sc24 rfl rfl (RdD.one (OwF.rd ho1)) h2 (Nat.le_of_ble_eq_true rfl) rfl (fun w41 m17 h2' => ?_)
      replace h2 := h2'
      have kq2 := Mod.kq (l := [b2]) m17 (fun g hg => by cases hg; simp)
      replace E := E.mod m17 (fun g hg => by cases hg; omega); replace hcu := hcu.mod m17 (fun g hg => by cases hg; omega); replace h1 := h1.mod m17 (fun g hg => by cases hg; omega); replace ho1 := OwF.kp ho1 (Kq.kp kq2 sp1.1.1)
      have z41 := m17.size
      refine J_done ?_
      have hi1 : 0 < ([(⟨1, 0, 0, [1]⟩ : Node), (⟨6, 0, 0, [2, 5]⟩ : Node), (⟨4, IntKind.i64.wrap (1 + ((dx4 : Nat) : Int)), 0, [3]⟩ : Node), (⟨2, ((dx5 : Nat) : Int), 0, [4]⟩ : Node), (⟨7, 0, 0, [1]⟩ : Node), (⟨8, 0, 0, []⟩ : Node)] ++ [(⟨8, 0, 0, []⟩ : Node)]).length := (by first | assumption | omega | (simp only [List.length_set]; first | assumption | omega) | (simp only [List.getElem_set_self, List.length_set]; first | assumption | omega) | (simp only [setW, setLk, List.length_set]; first | assumption | omega) | (simp; done))
      have hK1 : OwK w41 f1 w41 b3 w40.heap.size v1 (([(⟨1, 0, 0, [1]⟩ : Node), (⟨6, 0, 0, [2, 5]⟩ : Node), (⟨4, IntKind.i64.wrap (1 + ((dx4 : Nat) : Int)), 0, [3]⟩ : Node), (⟨2, ((dx5 : Nat) : Int), 0, [4]⟩ : Node), (⟨7, 0, 0, [1]⟩ : Node), (⟨8, 0, 0, []⟩ : Node)] ++ [(⟨8, 0, 0, []⟩ : Node)]).take 0 ++ ([(⟨1, 0, 0, [1]⟩ : Node), (⟨6, 0, 0, [2, 5]⟩ : Node), (⟨4, IntKind.i64.wrap (1 + ((dx4 : Nat) : Int)), 0, [3]⟩ : Node), (⟨2, ((dx5 : Nat) : Int), 0, [4]⟩ : Node), (⟨7, 0, 0, [1]⟩ : Node), (⟨8, 0, 0, []⟩ : Node)] ++ [(⟨8, 0, 0, []⟩ : Node)])[0] :: ([(⟨1, 0, 0, [1]⟩ : Node), (⟨6, 0, 0, [2, 5]⟩ : Node), (⟨4, IntKind.i64.wrap (1 + ((dx4 : Nat) : Int)), 0, [3]⟩ : Node), (⟨2, ((dx5 : Nat) : Int), 0, [4]⟩ : Node), (⟨7, 0, 0, [1]⟩ : Node), (⟨8, 0, 0, []⟩ : Node)] ++ [(⟨8, 0, 0, []⟩ : Node)]).drop (0 + 1)) := ⟨by rw [← self_split hi1]; exact ho1, Kq.refl _ _⟩
      have hfl1 := OwF.in2 ho1
      obtain ⟨_, ho2, hrow1⟩ := OwK.focus hK1
      obtain ⟨o1, rfl, sp2, hw1⟩ := Node.opO ho2
      clear hK1 ho1
      have hl1 : (([(⟨1, 0, 0, [1]⟩ : Node), (⟨6, 0, 0, [2, 5]⟩ : Node), (⟨4, IntKind.i64.wrap (1 + ((dx4 : Nat) : Int)), 0, [3]⟩ : Node), (⟨2, ((dx5 : Nat) : Int), 0, [4]⟩ : Node), (⟨7, 0, 0, [1]⟩ : Node), (⟨8, 0, 0, []⟩ : Node)] ++ [(⟨8, 0, 0, []⟩ : Node)]).take 0).length = 0 := by first | (simp; done) | (simp; omega)
      have hn1 : 0 + 1 + (([(⟨1, 0, 0, [1]⟩ : Node), (⟨6, 0, 0, [2, 5]⟩ : Node), (⟨4, IntKind.i64.wrap (1 + ((dx4 : Nat) : Int)), 0, [3]⟩ : Node), (⟨2, ((dx5 : Nat) : Int), 0, [4]⟩ : Node), (⟨7, 0, 0, [1]⟩ : Node), (⟨8, 0, 0, []⟩ : Node)] ++ [(⟨8, 0, 0, []⟩ : Node)]).drop (0 + 1)).length = ([(⟨1, 0, 0, [1]⟩ : Node), (⟨6, 0, 0, [2, 5]⟩ : Node), (⟨4, IntKind.i64.wrap (1 + ((dx4 : Nat) : Int)), 0, [3]⟩ : Node), (⟨2, ((dx5 : Nat) : Int), 0, [4]⟩ : Node), (⟨7, 0, 0, [1]⟩ : Node), (⟨8, 0, 0, []⟩ : Node)] ++ [(⟨8, 0, 0, []⟩ : Node)]).length := by first | (simp; done) | (simp; omega)
      replace hrow1 : RowR f1 w41 b3 w40.heap.size v1 (([(⟨1, 0, 0, [1]⟩ : Node), (⟨6, 0, 0, [2, 5]⟩ : Node), (⟨4, IntKind.i64.wrap (1 + ((dx4 : Nat) : Int)), 0, [3]⟩ : Node), (⟨2, ((dx5 : Nat) : Int), 0, [4]⟩ : Node), (⟨7, 0, 0, [1]⟩ : Node), (⟨8, 0, 0, []⟩ : Node)] ++ [(⟨8, 0, 0, []⟩ : Node)]).take 0) [.int .i64 ((([(⟨1, 0, 0, [1]⟩ : Node), (⟨6, 0, 0, [2, 5]⟩ : Node), (⟨4, IntKind.i64.wrap (1 + ((dx4 : Nat) : Int)), 0, [3]⟩ : Node), (⟨2, ((dx5 : Nat) : Int), 0, [4]⟩ : Node), (⟨7, 0, 0, [1]⟩ : Node), (⟨8, 0, 0, []⟩ : Node)] ++ [(⟨8, 0, 0, []⟩ : Node)])[0]'hi1).kind), .int .i64 ((([(⟨1, 0, 0, [1]⟩ : Node), (⟨6, 0, 0, [2, 5]⟩ : Node), (⟨4, IntKind.i64.wrap (1 + ((dx4 : Nat) : Int)), 0, [3]⟩ : Node), (⟨2, ((dx5 : Nat) : Int), 0, [4]⟩ : Node), (⟨7, 0, 0, [1]⟩ : Node), (⟨8, 0, 0, []⟩ : Node)] ++ [(⟨8, 0, 0, []⟩ : Node)])[0]'hi1).a), .int .i64 ((([(⟨1, 0, 0, [1]⟩ : Node), (⟨6, 0, 0, [2, 5]⟩ : Node), (⟨4, IntKind.i64.wrap (1 + ((dx4 : Nat) : Int)), 0, [3]⟩ : Node), (⟨2, ((dx5 : Nat) : Int), 0, [4]⟩ : Node), (⟨7, 0, 0, [1]⟩ : Node), (⟨8, 0, 0, []⟩ : Node)] ++ [(⟨8, 0, 0, []⟩ : Node)])[0]'hi1).b), o1] (([(⟨1, 0, 0, [1]⟩ : Node), (⟨6, 0, 0, [2, 5]⟩ : Node), (⟨4, IntKind.i64.wrap (1 + ((dx4 : Nat) : Int)), 0, [3]⟩ : Node), (⟨2, ((dx5 : Nat) : Int), 0, [4]⟩ : Node), (⟨7, 0, 0, [1]⟩ : Node), (⟨8, 0, 0, []⟩ : Node)] ++ [(⟨8, 0, 0, []⟩ : Node)]).drop (0 + 1)) := hrow1
      refine S_reg [true, true, false, true, true, false] rfl rfl ?_
      refine J_st (R_fieldAddr0 fl26_0 rfl) rfl (J_st (R_load sc24 rfl (h2.one 0 rfl)) rfl ?_)
      refine J_buildSlice (vs := [.int .i64 1, .int .i64 6]) (css := [[.int .i64 1], [.int .i64 6]]) sl29 rfl rfl ⟨⟨rfl, rfl⟩, ⟨rfl, rfl⟩, trivial⟩ rfl rfl (fun b18 w42 e25 s18 h18 => ?_)
      replace h18 : Blk w42 b18 [.int .i64 1, .int .i64 6] := h18
      have g_b18 : w.heap.size ≤ b18 := by have := E.size; omega
      have y_b18 := h18.lt
      replace E := E.ext e25; replace hcu := hcu.ext e25; replace h1 := h1.ext e25; replace h2 := h2.ext e25; replace hw1 := hw1.ext e25; replace hrow1 := hrow1.ext e25
      have z42 := e25.size
      refine J_st (R_index (i := 0) sl24 rfl rfl (RowK.same1 hrow1 hl1 hn1) (by first | (simp; done) | (simp; omega))) rfl (J_st (R_fieldAddr fl45_3 rfl) rfl ?_)
      refine J_storeEx rfl rfl (RowK.setFN (N := w41.heap.size) (lo2 := b3) (hi2 := w42.heap.size) (cs' := [.int .i64 ((([(⟨1, 0, 0, [1]⟩ : Node), (⟨6, 0, 0, [2, 5]⟩ : Node), (⟨4, IntKind.i64.wrap (1 + ((dx4 : Nat) : Int)), 0, [3]⟩ : Node), (⟨2, ((dx5 : Nat) : Int), 0, [4]⟩ : Node), (⟨7, 0, 0, [1]⟩ : Node), (⟨8, 0, 0, []⟩ : Node)] ++ [(⟨8, 0, 0, []⟩ : Node)])[0]'hi1).kind), .int .i64 ((([(⟨1, 0, 0, [1]⟩ : Node), (⟨6, 0, 0, [2, 5]⟩ : Node), (⟨4, IntKind.i64.wrap (1 + ((dx4 : Nat) : Int)), 0, [3]⟩ : Node), (⟨2, ((dx5 : Nat) : Int), 0, [4]⟩ : Node), (⟨7, 0, 0, [1]⟩ : Node), (⟨8, 0, 0, []⟩ : Node)] ++ [(⟨8, 0, 0, []⟩ : Node)])[0]'hi1).a), .int .i64 ((([(⟨1, 0, 0, [1]⟩ : Node), (⟨6, 0, 0, [2, 5]⟩ : Node), (⟨4, IntKind.i64.wrap (1 + ((dx4 : Nat) : Int)), 0, [3]⟩ : Node), (⟨2, ((dx5 : Nat) : Int), 0, [4]⟩ : Node), (⟨7, 0, 0, [1]⟩ : Node), (⟨8, 0, 0, []⟩ : Node)] ++ [(⟨8, 0, 0, []⟩ : Node)])[0]'hi1).b), .slice (some ⟨b18, 0, none⟩) 2 2]) (k := 3) sc29 hrow1 hl1 (by decide) rfl rfl (Node.mkO (⟨(([(⟨1, 0, 0, [1]⟩ : Node), (⟨6, 0, 0, [2, 5]⟩ : Node), (⟨4, IntKind.i64.wrap (1 + ((dx4 : Nat) : Int)), 0, [3]⟩ : Node), (⟨2, ((dx5 : Nat) : Int), 0, [4]⟩ : Node), (⟨7, 0, 0, [1]⟩ : Node), (⟨8, 0, 0, []⟩ : Node)] ++ [(⟨8, 0, 0, []⟩ : Node)])[0]'hi1).kind, (([(⟨1, 0, 0, [1]⟩ : Node), (⟨6, 0, 0, [2, 5]⟩ : Node), (⟨4, IntKind.i64.wrap (1 + ((dx4 : Nat) : Int)), 0, [3]⟩ : Node), (⟨2, ((dx5 : Nat) : Int), 0, [4]⟩ : Node), (⟨7, 0, 0, [1]⟩ : Node), (⟨8, 0, 0, []⟩ : Node)] ++ [(⟨8, 0, 0, []⟩ : Node)])[0]'hi1).a, (([(⟨1, 0, 0, [1]⟩ : Node), (⟨6, 0, 0, [2, 5]⟩ : Node), (⟨4, IntKind.i64.wrap (1 + ((dx4 : Nat) : Int)), 0, [3]⟩ : Node), (⟨2, ((dx5 : Nat) : Int), 0, [4]⟩ : Node), (⟨7, 0, 0, [1]⟩ : Node), (⟨8, 0, 0, []⟩ : Node)] ++ [(⟨8, 0, 0, []⟩ : Node)])[0]'hi1).b, [1, 6]⟩ : Node) ⟨trivial, trivial⟩ (Own.widen (Own.ofBlk (lo := b18) (hi := b18 + 1) (sz := 1) h18 (Nat.le_refl _) (Nat.lt_succ_self _) (by rfl) (by unfold maxLen; omega)) (by omega) (by omega))) ⟨(fun _ h => absurd h List.not_mem_nil), (fun _ h => absurd h List.not_mem_nil), (fun _ h => absurd h List.not_mem_nil), (fun b hb => .inr (by have := Own.in2 (Own.ofBlk (lo := b18) (hi := b18 + 1) (sz := 1) h18 (Nat.le_refl _) (Nat.lt_succ_self _) (by rfl) (by unfold maxLen; omega)) b hb; omega)), trivial⟩ (fun b hb => by have := hfl1 b hb; omega) (by omega) (by omega)) (fun w43 m18 hR => ?_)
      obtain ⟨f2, ho1, hin2⟩ := hR
      have kq3 := Mod.kq (l := f1) m18 (RowK.v_mem hrow1)
      have hqb := RowK.blk hrow1
      replace E := E.mod m18 (fun g hg => by have := hqb g hg; omega); replace hcu := hcu.mod m18 (fun g hg => by have := hqb g hg; omega); replace h1 := Blk.kp h1 (Kq.kp kq3 (fun x hx hc => by simp at hx; subst hx; exact nh2 hc)); replace h2 := Blk.kp h2 (Kq.kp kq3 (sp1.1.1).symm); replace h18 := h18.mod m18 (fun g hg => by have := hqb g hg; omega)
      have z43 := m18.size
      clear hqb hrow1
      have nh3 : b1 ∉ f2 := fun hx => (hin2 b1 hx).elim nh2 (fun h => by omega)
      clear h18
      replace sp1 := DjL.set (N := w41.heap.size) hin2 0 rfl sp1 ⟨(fun b hb => by have := hfl1 b hb; omega), (fun b hb => by simp at hb; omega), trivial⟩
      replace sp1 : DjL [f2, [b2]] := sp1
      rw [← set_split hi1] at ho1
      clear hfl1
      refine J_done ?_
      refine S_nil (E_inB ?_)
      refine S_seq ?_
      refine S_reg [true, false] rfl rfl ?_
      refine J_st (R_loadS st26 rfl h2.at rfl) rfl ?_
      refine J_storeS' (cs' := [v1, .int .i64 (IntKind.i64.wrap (1 + ((dx1 : Nat) : Int))), .int .i64 (IntKind.i64.wrap (1 + ((dx2 : Nat) : Int)))]) st26 rfl rfl rfl (all_cons (RdD.one (OwF.rd ho1)) (all_cons rfl (all_cons rfl rfl))) h1 (Nat.le_of_ble_eq_true rfl) rfl (fun w44 m19 h1' => ?_)
      replace h1 := h1'
      replace E := E.mod m19 (fun g hg => by cases hg; omega); replace hcu := hcu.mod m19 (fun g hg => by cases hg; omega); replace h2 := h2.mod m19 (fun g hg => by cases hg; omega); replace ho1 := ho1.mod m19 (fun g hg => by cases hg; omega)
      have z44 := m19.size
      refine J_done ?_
      refine S_ret (E_doneC rfl rfl (run_loadVar_st st26 h1.at rfl) E ?_)
      exact ⟨(⟨List.set ([(⟨1, 0, 0, [1]⟩ : Node), (⟨6, 0, 0, [2, 5]⟩ : Node), (⟨4, IntKind.i64.wrap (1 + ((dx4 : Nat) : Int)), 0, [3]⟩ : Node), (⟨2, ((dx5 : Nat) : Int), 0, [4]⟩ : Node), (⟨7, 0, 0, [1]⟩ : Node), (⟨8, 0, 0, []⟩ : Node)] ++ [(⟨8, 0, 0, []⟩ : Node)]) 0 (⟨(([(⟨1, 0, 0, [1]⟩ : Node), (⟨6, 0, 0, [2, 5]⟩ : Node), (⟨4, IntKind.i64.wrap (1 + ((dx4 : Nat) : Int)), 0, [3]⟩ : Node), (⟨2, ((dx5 : Nat) : Int), 0, [4]⟩ : Node), (⟨7, 0, 0, [1]⟩ : Node), (⟨8, 0, 0, []⟩ : Node)] ++ [(⟨8, 0, 0, []⟩ : Node)])[0]'hi1).kind, (([(⟨1, 0, 0, [1]⟩ : Node), (⟨6, 0, 0, [2, 5]⟩ : Node), (⟨4, IntKind.i64.wrap (1 + ((dx4 : Nat) : Int)), 0, [3]⟩ : Node), (⟨2, ((dx5 : Nat) : Int), 0, [4]⟩ : Node), (⟨7, 0, 0, [1]⟩ : Node), (⟨8, 0, 0, []⟩ : Node)] ++ [(⟨8, 0, 0, []⟩ : Node)])[0]'hi1).a, (([(⟨1, 0, 0, [1]⟩ : Node), (⟨6, 0, 0, [2, 5]⟩ : Node), (⟨4, IntKind.i64.wrap (1 + ((dx4 : Nat) : Int)), 0, [3]⟩ : Node), (⟨2, ((dx5 : Nat) : Int), 0, [4]⟩ : Node), (⟨7, 0, 0, [1]⟩ : Node), (⟨8, 0, 0, []⟩ : Node)] ++ [(⟨8, 0, 0, []⟩ : Node)])[0]'hi1).b, [1, 6]⟩ : Node), IntKind.i64.wrap (1 + ((dx1 : Nat) : Int)), IntKind.i64.wrap (1 + ((dx2 : Nat) : Int))⟩ : Graph), (by first | assumption | (constructor <;> simp <;> done) | (constructor <;> simp [*] <;> omega)), (by simp), (by simp), hcu, ⟨_, rfl, OwS.widen (OwF.ows ho1) (by have := E.size; omega) (by omega)⟩⟩
     ·have hc5n : ¬ dx7 = 3 := by first | (have h := of_decide_eq_false hc5; omega) | (have h := hc5; simp at h; omega)
      refine S_skip ?_
      refine S_nil (E_inB ?_)
      refine S_seq ?_
      refine S_reg [true, false] rfl rfl ?_
      refine J_st (R_loadS st26 rfl h2.at rfl) rfl ?_
      refine J_storeS' (cs' := [.slice (some ⟨b15, 0, none⟩) 6 6, .int .i64 (IntKind.i64.wrap (1 + ((dx1 : Nat) : Int))), .int .i64 (IntKind.i64.wrap (1 + ((dx2 : Nat) : Int)))]) st26 rfl rfl rfl (all_cons rfl (all_cons rfl (all_cons rfl rfl))) h1 (Nat.le_of_ble_eq_true rfl) rfl (fun w45 m20 h1' => ?_)
      replace h1 := h1'
      replace E := E.mod m20 (fun g hg => by cases hg; omega); replace hcu := hcu.mod m20 (fun g hg => by cases hg; omega); replace h2 := h2.mod m20 (fun g hg => by cases hg; omega); replace h3 := h3.mod m20 (fun g hg => by cases hg; omega); replace h4 := h4.mod m20 (fun g hg => by cases hg; omega); replace h5 := h5.mod m20 (fun g hg => by cases hg; omega); replace h6 := h6.mod m20 (fun g hg => by cases hg; omega); replace h7 := h7.mod m20 (fun g hg => by cases hg; omega); replace h8 := h8.mod m20 (fun g hg => by cases hg; omega); replace h9 := h9.mod m20 (fun g hg => by cases hg; omega); replace h10 := h10.mod m20 (fun g hg => by cases hg; omega); replace h11 := h11.mod m20 (fun g hg => by cases hg; omega); replace h12 := h12.mod m20 (fun g hg => by cases hg; omega); replace h13 := h13.mod m20 (fun g hg => by cases hg; omega); replace h14 := h14.mod m20 (fun g hg => by cases hg; omega); replace h15 := h15.mod m20 (fun g hg => by cases hg; omega)
      have z45 := m20.size
      refine J_done ?_
      refine S_ret (E_doneC rfl rfl (run_loadVar_st st26 h1.at rfl) E ?_)
      have hF5 : OwF w45 b3 w45.heap.size (.slice (some ⟨b15, 0, none⟩) 6 6) [(⟨1, 0, 0, [1]⟩ : Node), (⟨6, 0, 0, [2, 5]⟩ : Node), (⟨4, IntKind.i64.wrap (1 + ((dx4 : Nat) : Int)), 0, [3]⟩ : Node), (⟨2, ((dx5 : Nat) : Int), 0, [4]⟩ : Node), (⟨7, 0, 0, [1]⟩ : Node), (⟨8, 0, 0, []⟩ : Node)] [b15, b14, b3, b5, b7, b11] := OwF.lit (css := [[.int .i64 1, .int .i64 0, .int .i64 0, .slice (some ⟨b14, 0, none⟩) 1 1], [.int .i64 6, .int .i64 0, .int .i64 0, .slice (some ⟨b3, 0, none⟩) 2 2], [.int .i64 4, .int .i64 (IntKind.i64.wrap (1 + ((dx4 : Nat) : Int))), .int .i64 0, .slice (some ⟨b5, 0, none⟩) 1 1], [.int .i64 2, .int .i64 ((dx5 : Nat) : Int), .int .i64 0, .slice (some ⟨b7, 0, none⟩) 1 1], [.int .i64 7, .int .i64 0, .int .i64 0, .slice (some ⟨b11, 0, none⟩) 1 1], [.int .i64 8, .int .i64 0, .int .i64 0, .slice none 0 0]]) h15 ⟨(Node.mkO (⟨1, 0, 0, [1]⟩ : Node) ⟨trivial, trivial⟩ (Own.widen (Own.ofBlk (lo := b14) (hi := b14 + 1) (sz := 1) h14 (Nat.le_refl _) (Nat.lt_succ_self _) (by rfl) (by unfold maxLen; omega)) (by omega) (by omega))), (Node.mkO (⟨6, 0, 0, [2, 5]⟩ : Node) ⟨trivial, trivial⟩ (Own.widen (Own.ofBlk (lo := b3) (hi := b3 + 1) (sz := 1) h3 (Nat.le_refl _) (Nat.lt_succ_self _) (by rfl) (by unfold maxLen; omega)) (by omega) (by omega))), (Node.mkO (⟨4, IntKind.i64.wrap (1 + ((dx4 : Nat) : Int)), 0, [3]⟩ : Node) ⟨trivial, trivial⟩ (Own.widen (Own.ofBlk (lo := b5) (hi := b5 + 1) (sz := 1) h5 (Nat.le_refl _) (Nat.lt_succ_self _) (by rfl) (by unfold maxLen; omega)) (by omega) (by omega))), (Node.mkO (⟨2, ((dx5 : Nat) : Int), 0, [4]⟩ : Node) ⟨trivial, trivial⟩ (Own.widen (Own.ofBlk (lo := b7) (hi := b7 + 1) (sz := 1) h7 (Nat.le_refl _) (Nat.lt_succ_self _) (by rfl) (by unfold maxLen; omega)) (by omega) (by omega))), (Node.mkO (⟨7, 0, 0, [1]⟩ : Node) ⟨trivial, trivial⟩ (Own.widen (Own.ofBlk (lo := b11) (hi := b11 + 1) (sz := 1) h11 (Nat.le_refl _) (Nat.lt_succ_self _) (by rfl) (by unfold maxLen; omega)) (by omega) (by omega))), (Node.mkO (⟨8, 0, 0, []⟩ : Node) ⟨trivial, trivial⟩ (Own.nil _ _ _ _)), trivial⟩ (by omega) (by omega) (show List.Nodup [b15, b14, b3, b5, b7, b11] from by first | (simp; done) | (simp; omega)) rfl (by simp [maxLen])
      exact ⟨(⟨[(⟨1, 0, 0, [1]⟩ : Node), (⟨6, 0, 0, [2, 5]⟩ : Node), (⟨4, IntKind.i64.wrap (1 + ((dx4 : Nat) : Int)), 0, [3]⟩ : Node), (⟨2, ((dx5 : Nat) : Int), 0, [4]⟩ : Node), (⟨7, 0, 0, [1]⟩ : Node), (⟨8, 0, 0, []⟩ : Node)], IntKind.i64.wrap (1 + ((dx1 : Nat) : Int)), IntKind.i64.wrap (1 + ((dx2 : Nat) : Int))⟩ : Graph), (by first | assumption | (constructor <;> simp <;> done) | (constructor <;> simp [*] <;> omega)), (by simp), (by simp), hcu, ⟨_, rfl, OwS.widen (OwF.ows hF5) (by have := E.size; omega) (by omega)⟩⟩
 ·refine S_skip ?_
  refine S_seq ?_
  refine S_reg [true, false, true, false, true, false, false] rfl rfl ?_
  refine J_st (R_move rfl) rfl ?_
  refine J_callR Try.call16 rfl rfl (s_l01Below lo vb bs 3 _ hcu (RdD.modR hbs E (.inl (Nat.le_refl _)))) rfl (fun _ w46 e26 hv => ?_)
  obtain ⟨dx8, q13, q14, hcu', hv⟩ := hv
  replace hcu := hcu'
  subst hv
  replace E := E.trans e26 (by omega) (by omega); replace h1 := h1.modR e26 (by omega); replace h2 := h2.modR e26 (by omega); replace h3 := h3.modR e26 (by omega); replace h4 := h4.modR e26 (by omega)
  have z46 := e26.size
  refine J_st (R_add rfl rfl rfl) rfl ?_
  refine J_buildSlice (vs := [.int .i64 3]) (css := [[.int .i64 3]]) sl29 rfl rfl ⟨⟨rfl, rfl⟩, trivial⟩ rfl rfl (fun b19 w47 e27 s19 h19 => ?_)
  replace h19 : Blk w47 b19 [.int .i64 3] := h19
  have g_b19 : w.heap.size ≤ b19 := by have := E.size; omega
  have y_b19 := h19.lt
  replace E := E.ext e27; replace hcu := hcu.ext e27; replace h1 := h1.ext e27; replace h2 := h2.ext e27; replace h3 := h3.ext e27; replace h4 := h4.ext e27
  have z47 := e27.size
  have hbl11 : ∀ w, (Instr.build 45 ([(0, .int .i64 4), (1, .int .i64 (IntKind.i64.wrap (1 + ((dx8 : Nat) : Int)))), (3, .slice (some ⟨b19, 0, none⟩) 1 1)]).toArray).run Try.prog w = .ok (.agg [.int .i64 4, .int .i64 (IntKind.i64.wrap (1 + ((dx8 : Nat) : Int))), .int .i64 0, .slice (some ⟨b19, 0, none⟩) 1 1].toArray) w := by clear E; intro w; kernel_rfl
  refine J_st (R_buildC [.int .i64 4, .int .i64 (IntKind.i64.wrap (1 + ((dx8 : Nat) : Int))), .int .i64 0, .slice (some ⟨b19, 0, none⟩) 1 1] rfl hbl11) rfl ?_
  refine J_alloc st45 rfl (fun b20 w48 e28 s20 h20 => ?_)
  have g_b20 : w.heap.size ≤ b20 := by have := E.size; omega
  have y_b20 := h20.lt
  replace E := E.ext e28; replace hcu := hcu.ext e28; replace h1 := h1.ext e28; replace h2 := h2.ext e28; replace h3 := h3.ext e28; replace h4 := h4.ext e28; replace h19 := h19.ext e28
  have z48 := e28.size
  refine J_storeS' (cs' := [.int .i64 4, .int .i64 (IntKind.i64.wrap (1 + ((dx8 : Nat) : Int))), .int .i64 0, .slice (some ⟨b19, 0, none⟩) 1 1]) st45 rfl rfl rfl (all_cons rfl (all_cons rfl (all_cons rfl (all_cons rfl rfl)))) h20 (Nat.le_of_ble_eq_true rfl) rfl (fun w49 m21 h20' => ?_)
  replace h20 := h20'
  replace E := E.mod m21 (fun g hg => by cases hg; omega); replace hcu := hcu.mod m21 (fun g hg => by cases hg; omega); replace h1 := h1.mod m21 (fun g hg => by cases hg; omega); replace h2 := h2.mod m21 (fun g hg => by cases hg; omega); replace h3 := h3.mod m21 (fun g hg => by cases hg; omega); replace h4 := h4.mod m21 (fun g hg => by cases hg; omega); replace h19 := h19.mod m21 (fun g hg => by cases hg; omega)
  have z49 := m21.size
  refine J_done ?_
  refine S_seq ?_
  refine S_reg [true, false, false, true, false, false] rfl rfl ?_
  refine J_st (R_move rfl) rfl ?_
  refine J_callR Try.call16 rfl rfl (s_l01Below lo vb bs 4 _ hcu (RdD.modR hbs E (.inl (Nat.le_refl _)))) rfl (fun _ w50 e29 hv => ?_)
  obtain ⟨dx9, q15, q16, hcu', hv⟩ := hv
  replace hcu := hcu'
  subst hv
  replace E := E.trans e29 (by omega) (by omega); replace h1 := h1.modR e29 (by omega); replace h2 := h2.modR e29 (by omega); replace h3 := h3.modR e29 (by omega); replace h4 := h4.modR e29 (by omega); replace h19 := h19.modR e29 (by omega); replace h20 := h20.modR e29 (by omega)
  have z50 := e29.size
  refine J_buildSlice (vs := [.int .i64 4]) (css := [[.int .i64 4]]) sl29 rfl rfl ⟨⟨rfl, rfl⟩, trivial⟩ rfl rfl (fun b21 w51 e30 s21 h21 => ?_)
  replace h21 : Blk w51 b21 [.int .i64 4] := h21
  have g_b21 : w.heap.size ≤ b21 := by have := E.size; omega
  have y_b21 := h21.lt
  replace E := E.ext e30; replace hcu := hcu.ext e30; replace h1 := h1.ext e30; replace h2 := h2.ext e30; replace h3 := h3.ext e30; replace h4 := h4.ext e30; replace h19 := h19.ext e30; replace h20 := h20.ext e30
  have z51 := e30.size
  have hbl12 : ∀ w, (Instr.build 45 ([(0, .int .i64 2), (1, .int .i64 ((dx9 : Nat) : Int)), (3, .slice (some ⟨b21, 0, none⟩) 1 1)]).toArray).run Try.prog w = .ok (.agg [.int .i64 2, .int .i64 ((dx9 : Nat) : Int), .int .i64 0, .slice (some ⟨b21, 0, none⟩) 1 1].toArray) w := by clear E; intro w; kernel_rfl
  refine J_st (R_buildC [.int .i64 2, .int .i64 ((dx9 : Nat) : Int), .int .i64 0, .slice (some ⟨b21, 0, none⟩) 1 1] rfl hbl12) rfl ?_
  refine J_alloc st45 rfl (fun b22 w52 e31 s22 h22 => ?_)
  have g_b22 : w.heap.size ≤ b22 := by have := E.size; omega
  have y_b22 := h22.lt
  replace E := E.ext e31; replace hcu := hcu.ext e31; replace h1 := h1.ext e31; replace h2 := h2.ext e31; replace h3 := h3.ext e31; replace h4 := h4.ext e31; replace h19 := h19.ext e31; replace h20 := h20.ext e31; replace h21 := h21.ext e31
  have z52 := e31.size
  refine J_storeS' (cs' := [.int .i64 2, .int .i64 ((dx9 : Nat) : Int), .int .i64 0, .slice (some ⟨b21, 0, none⟩) 1 1]) st45 rfl rfl rfl (all_cons rfl (all_cons rfl (all_cons rfl (all_cons rfl rfl)))) h22 (Nat.le_of_ble_eq_true rfl) rfl (fun w53 m22 h22' => ?_)
  replace h22 := h22'
  replace E := E.mod m22 (fun g hg => by cases hg; omega); replace hcu := hcu.mod m22 (fun g hg => by cases hg; omega); replace h1 := h1.mod m22 (fun g hg => by cases hg; omega); replace h2 := h2.mod m22 (fun g hg => by cases hg; omega); replace h3 := h3.mod m22 (fun g hg => by cases hg; omega); replace h4 := h4.mod m22 (fun g hg => by cases hg; omega); replace h19 := h19.mod m22 (fun g hg => by cases hg; omega); replace h20 := h20.mod m22 (fun g hg => by cases hg; omega); replace h21 := h21.mod m22 (fun g hg => by cases hg; omega)
  have z53 := m22.size
  refine J_done ?_
  refine S_seq ?_
  refine S_reg [true, false, true, false, true, false, false] rfl rfl ?_
  refine J_st (R_move rfl) rfl ?_
  refine J_callR Try.call16 rfl rfl (s_l01Below lo vb bs 3 _ hcu (RdD.modR hbs E (.inl (Nat.le_refl _)))) rfl (fun _ w54 e32 hv => ?_)
  obtain ⟨dx10, q17, q18, hcu', hv⟩ := hv
  replace hcu := hcu'
  subst hv
  replace E := E.trans e32 (by omega) (by omega); replace h1 := h1.modR e32 (by omega); replace h2 := h2.modR e32 (by omega); replace h3 := h3.modR e32 (by omega); replace h4 := h4.modR e32 (by omega); replace h19 := h19.modR e32 (by omega); replace h20 := h20.modR e32 (by omega); replace h21 := h21.modR e32 (by omega); replace h22 := h22.modR e32 (by omega)
  have z54 := e32.size
  refine J_st (R_add rfl rfl rfl) rfl ?_
  refine J_buildSlice (vs := [.int .i64 4]) (css := [[.int .i64 4]]) sl29 rfl rfl ⟨⟨rfl, rfl⟩, trivial⟩ rfl rfl (fun b23 w55 e33 s23 h23 => ?_)
  replace h23 : Blk w55 b23 [.int .i64 4] := h23
  have g_b23 : w.heap.size ≤ b23 := by have := E.size; omega
  have y_b23 := h23.lt
  replace E := E.ext e33; replace hcu := hcu.ext e33; replace h1 := h1.ext e33; replace h2 := h2.ext e33; replace h3 := h3.ext e33; replace h4 := h4.ext e33; replace h19 := h19.ext e33; replace h20 := h20.ext e33; replace h21 := h21.ext e33; replace h22 := h22.ext e33
  have z55 := e33.size
  have hbl13 : ∀ w, (Instr.build 45 ([(0, .int .i64 3), (1, .int .i64 (IntKind.i64.wrap (1 + ((dx10 : Nat) : Int)))), (3, .slice (some ⟨b23, 0, none⟩) 1 1)]).toArray).run Try.prog w = .ok (.agg [.int .i64 3, .int .i64 (IntKind.i64.wrap (1 + ((dx10 : Nat) : Int))), .int .i64 0, .slice (some ⟨b23, 0, none⟩) 1 1].toArray) w := by clear E; intro w; kernel_rfl
  refine J_st (R_buildC [.int .i64 3, .int .i64 (IntKind.i64.wrap (1 + ((dx10 : Nat) : Int))), .int .i64 0, .slice (some ⟨b23, 0, none⟩) 1 1] rfl hbl13) rfl ?_
  refine J_alloc st45 rfl (fun b24 w56 e34 s24 h24 => ?_)
  have g_b24 : w.heap.size ≤ b24 := by have := E.size; omega
  have y_b24 := h24.lt
  replace E := E.ext e34; replace hcu := hcu.ext e34; replace h1 := h1.ext e34; replace h2 := h2.ext e34; replace h3 := h3.ext e34; replace h4 := h4.ext e34; replace h19 := h19.ext e34; replace h20 := h20.ext e34; replace h21 := h21.ext e34; replace h22 := h22.ext e34; replace h23 := h23.ext e34
  have z56 := e34.size
  refine J_storeS' (cs' := [.int .i64 3, .int .i64 (IntKind.i64.wrap (1 + ((dx10 : Nat) : Int))), .int .i64 0, .slice (some ⟨b23, 0, none⟩) 1 1]) st45 rfl rfl rfl (all_cons rfl (all_cons rfl (all_cons rfl (all_cons rfl rfl)))) h24 (Nat.le_of_ble_eq_true rfl) rfl (fun w57 m23 h24' => ?_)
  replace h24 := h24'
  replace E := E.mod m23 (fun g hg => by cases hg; omega); replace hcu := hcu.mod m23 (fun g hg => by cases hg; omega); replace h1 := h1.mod m23 (fun g hg => by cases hg; omega); replace h2 := h2.mod m23 (fun g hg => by cases hg; omega); replace h3 := h3.mod m23 (fun g hg => by cases hg; omega); replace h4 := h4.mod m23 (fun g hg => by cases hg; omega); replace h19 := h19.mod m23 (fun g hg => by cases hg; omega); replace h20 := h20.mod m23 (fun g hg => by cases hg; omega); replace h21 := h21.mod m23 (fun g hg => by cases hg; omega); replace h22 := h22.mod m23 (fun g hg => by cases hg; omega); replace h23 := h23.mod m23 (fun g hg => by cases hg; omega)
  have z57 := m23.size
  refine J_done ?_
  refine S_seq ?_
  refine S_reg [false, true, false, false] rfl rfl ?_
  refine J_buildSlice (vs := [.int .i64 1]) (css := [[.int .i64 1]]) sl29 rfl rfl ⟨⟨rfl, rfl⟩, trivial⟩ rfl rfl (fun b25 w58 e35 s25 h25 => ?_)
  replace h25 : Blk w58 b25 [.int .i64 1] := h25
  have g_b25 : w.heap.size ≤ b25 := by have := E.size; omega
  have y_b25 := h25.lt
  replace E := E.ext e35; replace hcu := hcu.ext e35; replace h1 := h1.ext e35; replace h2 := h2.ext e35; replace h3 := h3.ext e35; replace h4 := h4.ext e35; replace h19 := h19.ext e35; replace h20 := h20.ext e35; replace h21 := h21.ext e35; replace h22 := h22.ext e35; replace h23 := h23.ext e35; replace h24 := h24.ext e35
  have z58 := e35.size
  have hbl14 : ∀ w, (Instr.build 45 ([(0, .int .i64 7), (3, .slice (some ⟨b25, 0, none⟩) 1 1)]).toArray).run Try.prog w = .ok (.agg [.int .i64 7, .int .i64 0, .int .i64 0, .slice (some ⟨b25, 0, none⟩) 1 1].toArray) w := by clear E; intro w; kernel_rfl
  refine J_st (R_buildC [.int .i64 7, .int .i64 0, .int .i64 0, .slice (some ⟨b25, 0, none⟩) 1 1] rfl hbl14) rfl ?_
  refine J_alloc st45 rfl (fun b26 w59 e36 s26 h26 => ?_)
  have g_b26 : w.heap.size ≤ b26 := by have := E.size; omega
  have y_b26 := h26.lt
  replace E := E.ext e36; replace hcu := hcu.ext e36; replace h1 := h1.ext e36; replace h2 := h2.ext e36; replace h3 := h3.ext e36; replace h4 := h4.ext e36; replace h19 := h19.ext e36; replace h20 := h20.ext e36; replace h21 := h21.ext e36; replace h22 := h22.ext e36; replace h23 := h23.ext e36; replace h24 := h24.ext e36; replace h25 := h25.ext e36
  have z59 := e36.size
  refine J_storeS' (cs' := [.int .i64 7, .int .i64 0, .int .i64 0, .slice (some ⟨b25, 0, none⟩) 1 1]) st45 rfl rfl rfl (all_cons rfl (all_cons rfl (all_cons rfl (all_cons rfl rfl)))) h26 (Nat.le_of_ble_eq_true rfl) rfl (fun w60 m24 h26' => ?_)
  replace h26 := h26'
  replace E := E.mod m24 (fun g hg => by cases hg; omega); replace hcu := hcu.mod m24 (fun g hg => by cases hg; omega); replace h1 := h1.mod m24 (fun g hg => by cases hg; omega); replace h2 := h2.mod m24 (fun g hg => by cases hg; omega); replace h3 := h3.mod m24 (fun g hg => by cases hg; omega); replace h4 := h4.mod m24 (fun g hg => by cases hg; omega); replace h19 := h19.mod m24 (fun g hg => by cases hg; omega); replace h20 := h20.mod m24 (fun g hg => by cases hg; omega); replace h21 := h21.mod m24 (fun g hg => by cases hg; omega); replace h22 := h22.mod m24 (fun g hg => by cases hg; omega); replace h23 := h23.mod m24 (fun g hg => by cases hg; omega); replace h24 := h24.mod m24 (fun g hg => by cases hg; omega); replace h25 := h25.mod m24 (fun g hg => by cases hg; omega)
  have z60 := m24.size
  refine J_done ?_
  refine S_seq ?_
  refine S_reg [true, false, false] rfl rfl ?_
  have hbl15 : ∀ w, (Instr.build 45 ([(0, .int .i64 8)]).toArray).run Try.prog w = .ok (.agg [.int .i64 8, .int .i64 0, .int .i64 0, .slice none 0 0].toArray) w := by clear E; intro w; kernel_rfl
  refine J_st (R_buildC [.int .i64 8, .int .i64 0, .int .i64 0, .slice none 0 0] rfl hbl15) rfl ?_
  refine J_alloc st45 rfl (fun b27 w61 e37 s27 h27 => ?_)
  have g_b27 : w.heap.size ≤ b27 := by have := E.size; omega
  have y_b27 := h27.lt
  replace E := E.ext e37; replace hcu := hcu.ext e37; replace h1 := h1.ext e37; replace h2 := h2.ext e37; replace h3 := h3.ext e37; replace h4 := h4.ext e37; replace h19 := h19.ext e37; replace h20 := h20.ext e37; replace h21 := h21.ext e37; replace h22 := h22.ext e37; replace h23 := h23.ext e37; replace h24 := h24.ext e37; replace h25 := h25.ext e37; replace h26 := h26.ext e37
  have z61 := e37.size
  refine J_storeS' (cs' := [.int .i64 8, .int .i64 0, .int .i64 0, .slice none 0 0]) st45 rfl rfl rfl rfl h27 (Nat.le_of_ble_eq_true rfl) rfl (fun w62 m25 h27' => ?_)
  replace h27 := h27'
  replace E := E.mod m25 (fun g hg => by cases hg; omega); replace hcu := hcu.mod m25 (fun g hg => by cases hg; omega); replace h1 := h1.mod m25 (fun g hg => by cases hg; omega); replace h2 := h2.mod m25 (fun g hg => by cases hg; omega); replace h3 := h3.mod m25 (fun g hg => by cases hg; omega); replace h4 := h4.mod m25 (fun g hg => by cases hg; omega); replace h19 := h19.mod m25 (fun g hg => by cases hg; omega); replace h20 := h20.mod m25 (fun g hg => by cases hg; omega); replace h21 := h21.mod m25 (fun g hg => by cases hg; omega); replace h22 := h22.mod m25 (fun g hg => by cases hg; omega); replace h23 := h23.mod m25 (fun g hg => by cases hg; omega); replace h24 := h24.mod m25 (fun g hg => by cases hg; omega); replace h25 := h25.mod m25 (fun g hg => by cases hg; omega); replace h26 := h26.mod m25 (fun g hg => by cases hg; omega)
  have z62 := m25.size
  refine J_done ?_
  refine S_seq ?_
  refine S_reg [false, true, true, true, true, true, true, false, true, false] rfl rfl ?_
  refine J_buildSlice (vs := [.int .i64 1]) (css := [[.int .i64 1]]) sl29 rfl rfl ⟨⟨rfl, rfl⟩, trivial⟩ rfl rfl (fun b28 w63 e38 s28 h28 => ?_)
  replace h28 : Blk w63 b28 [.int .i64 1] := h28
  have g_b28 : w.heap.size ≤ b28 := by have := E.size; omega
  have y_b28 := h28.lt
  replace E := E.ext e38; replace hcu := hcu.ext e38; replace h1 := h1.ext e38; replace h2 := h2.ext e38; replace h3 := h3.ext e38; replace h4 := h4.ext e38; replace h19 := h19.ext e38; replace h20 := h20.ext e38; replace h21 := h21.ext e38; replace h22 := h22.ext e38; replace h23 := h23.ext e38; replace h24 := h24.ext e38; replace h25 := h25.ext e38; replace h26 := h26.ext e38; replace h27 := h27.ext e38
  have z63 := e38.size
  have hbl16 : ∀ w, (Instr.build 45 ([(0, .int .i64 1), (3, .slice (some ⟨b28, 0, none⟩) 1 1)]).toArray).run Try.prog w = .ok (.agg [.int .i64 1, .int .i64 0, .int .i64 0, .slice (some ⟨b28, 0, none⟩) 1 1].toArray) w := by clear E; intro w; kernel_rfl
  refine J_st (R_buildC [.int .i64 1, .int .i64 0, .int .i64 0, .slice (some ⟨b28, 0, none⟩) 1 1] rfl hbl16) rfl (J_st (R_loadS st45 rfl h4.at rfl) rfl (J_st (R_loadS st45 rfl h20.at rfl) rfl (J_st (R_loadS st45 rfl h22.at rfl) rfl (J_st (R_loadS st45 rfl h26.at rfl) rfl (J_st (R_loadS st45 rfl h27.at rfl) rfl ?_)))))
  refine J_buildSlice (vs := [.agg [.int .i64 1, .int .i64 0, .int .i64 0, .slice (some ⟨b28, 0, none⟩) 1 1].toArray, .agg [.int .i64 5, .int .i64 0, .int .i64 0, .slice (some ⟨b3, 0, none⟩) 2 2].toArray, .agg [.int .i64 4, .int .i64 (IntKind.i64.wrap (1 + ((dx8 : Nat) : Int))), .int .i64 0, .slice (some ⟨b19, 0, none⟩) 1 1].toArray, .agg [.int .i64 2, .int .i64 ((dx9 : Nat) : Int), .int .i64 0, .slice (some ⟨b21, 0, none⟩) 1 1].toArray, .agg [.int .i64 7, .int .i64 0, .int .i64 0, .slice (some ⟨b25, 0, none⟩) 1 1].toArray, .agg [.int .i64 8, .int .i64 0, .int .i64 0, .slice none 0 0].toArray]) (css := [[.int .i64 1, .int .i64 0, .int .i64 0, .slice (some ⟨b28, 0, none⟩) 1 1], [.int .i64 5, .int .i64 0, .int .i64 0, .slice (some ⟨b3, 0, none⟩) 2 2], [.int .i64 4, .int .i64 (IntKind.i64.wrap (1 + ((dx8 : Nat) : Int))), .int .i64 0, .slice (some ⟨b19, 0, none⟩) 1 1], [.int .i64 2, .int .i64 ((dx9 : Nat) : Int), .int .i64 0, .slice (some ⟨b21, 0, none⟩) 1 1], [.int .i64 7, .int .i64 0, .int .i64 0, .slice (some ⟨b25, 0, none⟩) 1 1], [.int .i64 8, .int .i64 0, .int .i64 0, .slice none 0 0]]) sl24 rfl rfl ⟨⟨rfl, rfl⟩, ⟨rfl, rfl⟩, ⟨rfl, rfl⟩, ⟨rfl, rfl⟩, ⟨rfl, rfl⟩, ⟨rfl, rfl⟩, trivial⟩ rfl rfl (fun b29 w64 e39 s29 h29 => ?_)
  replace h29 : Blk w64 b29 [.int .i64 1, .int .i64 0, .int .i64 0, .slice (some ⟨b28, 0, none⟩) 1 1, .int .i64 5, .int .i64 0, .int .i64 0, .slice (some ⟨b3, 0, none⟩) 2 2, .int .i64 4, .int .i64 (IntKind.i64.wrap (1 + ((dx8 : Nat) : Int))), .int .i64 0, .slice (some ⟨b19, 0, none⟩) 1 1, .int .i64 2, .int .i64 ((dx9 : Nat) : Int), .int .i64 0, .slice (some ⟨b21, 0, none⟩) 1 1, .int .i64 7, .int .i64 0, .int .i64 0, .slice (some ⟨b25, 0, none⟩) 1 1, .int .i64 8, .int .i64 0, .int .i64 0, .slice none 0 0] := h29
  have g_b29 : w.heap.size ≤ b29 := by have := E.size; omega
  have y_b29 := h29.lt
  replace E := E.ext e39; replace hcu := hcu.ext e39; replace h1 := h1.ext e39; replace h2 := h2.ext e39; replace h3 := h3.ext e39; replace h4 := h4.ext e39; replace h19 := h19.ext e39; replace h20 := h20.ext e39; replace h21 := h21.ext e39; replace h22 := h22.ext e39; replace h23 := h23.ext e39; replace h24 := h24.ext e39; replace h25 := h25.ext e39; replace h26 := h26.ext e39; replace h27 := h27.ext e39; replace h28 := h28.ext e39
  have z64 := e39.size
  refine J_st (R_fieldAddr0 fl26_0 rfl) rfl ?_
  refine J_store' (cs' := [.slice (some ⟨b29, 0, none⟩) 6 6, .int .i64 (IntKind.i64.wrap (1 + ((dx1 : Nat) : Int))), .int .i64 (IntKind.i64.wrap (1 + ((dx2 : Nat) : Int)))]) sc24 rfl rfl rfl h2 (Nat.le_of_ble_eq_true rfl) rfl (fun w65 m26 h2' => ?_)
  replace h2 := h2'
  replace E := E.mod m26 (fun g hg => by cases hg; omega); replace hcu := hcu.mod m26 (fun g hg => by cases hg; omega); replace h1 := h1.mod m26 (fun g hg => by cases hg; omega); replace h3 := h3.mod m26 (fun g hg => by cases hg; omega); replace h4 := h4.mod m26 (fun g hg => by cases hg; omega); replace h19 := h19.mod m26 (fun g hg => by cases hg; omega); replace h20 := h20.mod m26 (fun g hg => by cases hg; omega); replace h21 := h21.mod m26 (fun g hg => by cases hg; omega); replace h22 := h22.mod m26 (fun g hg => by cases hg; omega); replace h23 := h23.mod m26 (fun g hg => by cases hg; omega); replace h24 := h24.mod m26 (fun g hg => by cases hg; omega); replace h25 := h25.mod m26 (fun g hg => by cases hg; omega); replace h26 := h26.mod m26 (fun g hg => by cases hg; omega); replace h27 := h27.mod m26 (fun g hg => by cases hg; omega); replace h28 := h28.mod m26 (fun g hg => by cases hg; omega); replace h29 := h29.mod m26 (fun g hg => by cases hg; omega)
  have z65 := m26.size
  refine J_done ?_
  refine S_seq ?_
  refine S_seq ?_
  refine S_reg [true, false] rfl rfl ?_
  refine J_st (R_move rfl) rfl ?_
  refine J_callR Try.call16 rfl rfl (s_l01Below lo vb bs 6 _ hcu (RdD.modR hbs E (.inl (Nat.le_refl _)))) rfl (fun _ w66 e40 hv => ?_)
  obtain ⟨dx11, q19, q20, hcu', hv⟩ := hv
  replace hcu := hcu'
  subst hv
  replace E := E.trans e40 (by omega) (by omega); replace h1 := h1.modR e40 (by omega); replace h2 := h2.modR e40 (by omega); replace h3 := h3.modR e40 (by omega); replace h4 := h4.modR e40 (by omega); replace h19 := h19.modR e40 (by omega); replace h20 := h20.modR e40 (by omega); replace h21 := h21.modR e40 (by omega); replace h22 := h22.modR e40 (by omega); replace h23 := h23.modR e40 (by omega); replace h24 := h24.modR e40 (by omega); replace h25 := h25.modR e40 (by omega); replace h26 := h26.modR e40 (by omega); replace h27 := h27.modR e40 (by omega); replace h28 := h28.modR e40 (by omega); replace h29 := h29.modR e40 (by omega)
  have z66 := e40.size
  refine J_done ?_
  refine S_block ?_
  refine S_seq ?_
  refine S_reg [true, true] rfl rfl ?_
  refine J_st (R_eql rfl rfl) rfl (J_st (R_assign rfl) rfl (J_done ?_))
  refine S_cond rfl (fun hc6 => ?_) (fun hc6 => ?_)
  ·have hc6n : dx11 = 0 := by first | (have h := of_decide_eq_true hc6; omega) | (have h := hc6; simp at h; omega)
   refine S_reg [true, true, true, true, false] rfl rfl ?_
   refine J_st (R_fieldAddr0 fl26_0 rfl) rfl (J_st (R_load sc24 rfl (h2.one 0 rfl)) rfl (J_st (R_loadS st45 rfl h24.at rfl) rfl (J_st (R_indexB sl24 rfl rfl (by first | assumption | omega | (simp only [List.length_set]; first | assumption | omega) | (simp only [List.getElem_set_self, List.length_set]; first | assumption | omega) | (simp only [setW, setLk, List.length_set]; first | assumption | omega) | (simp; done))) rfl ?_)))
   refine J_storeS' (cs' := [.int .i64 1, .int .i64 0, .int .i64 0, .slice (some ⟨b28, 0, none⟩) 1 1, .int .i64 5, .int .i64 0, .int .i64 0, .slice (some ⟨b3, 0, none⟩) 2 2, .int .i64 4, .int .i64 (IntKind.i64.wrap (1 + ((dx8 : Nat) : Int))), .int .i64 0, .slice (some ⟨b19, 0, none⟩) 1 1, .int .i64 3, .int .i64 (IntKind.i64.wrap (1 + ((dx10 : Nat) : Int))), .int .i64 0, .slice (some ⟨b23, 0, none⟩) 1 1, .int .i64 7, .int .i64 0, .int .i64 0, .slice (some ⟨b25, 0, none⟩) 1 1, .int .i64 8, .int .i64 0, .int .i64 0, .slice none 0 0]) st45 rfl rfl rfl (all_cons rfl (all_cons rfl (all_cons rfl (all_cons rfl rfl)))) h29 (Nat.le_of_ble_eq_true rfl) rfl (fun w67 m27 h29' => ?_)
   replace h29 := h29'
   replace E := E.mod m27 (fun g hg => by cases hg; omega); replace hcu := hcu.mod m27 (fun g hg => by cases hg; omega); replace h1 := h1.mod m27 (fun g hg => by cases hg; omega); replace h2 := h2.mod m27 (fun g hg => by cases hg; omega); replace h3 := h3.mod m27 (fun g hg => by cases hg; omega); replace h4 := h4.mod m27 (fun g hg => by cases hg; omega); replace h19 := h19.mod m27 (fun g hg => by cases hg; omega); replace h20 := h20.mod m27 (fun g hg => by cases hg; omega); replace h21 := h21.mod m27 (fun g hg => by cases hg; omega); replace h22 := h22.mod m27 (fun g hg => by cases hg; omega); replace h23 := h23.mod m27 (fun g hg => by cases hg; omega); replace h24 := h24.mod m27 (fun g hg => by cases hg; omega); replace h25 := h25.mod m27 (fun g hg => by cases hg; omega); replace h26 := h26.mod m27 (fun g hg => by cases hg; omega); replace h27 := h27.mod m27 (fun g hg => by cases hg; omega); replace h28 := h28.mod m27 (fun g hg => by cases hg; omega)
   have z67 := m27.size
   refine J_done ?_
   refine S_nil (E_inB ?_)
   refine S_seq ?_
   refine S_reg [true, false] rfl rfl ?_
   refine J_st (R_loadS st26 rfl h2.at rfl) rfl ?_
   refine J_storeS' (cs' := [.slice (some ⟨b29, 0, none⟩) 6 6, .int .i64 (IntKind.i64.wrap (1 + ((dx1 : Nat) : Int))), .int .i64 (IntKind.i64.wrap (1 + ((dx2 : Nat) : Int)))]) st26 rfl rfl rfl (all_cons rfl (all_cons rfl (all_cons rfl rfl))) h1 (Nat.le_of_ble_eq_true rfl) rfl (fun w68 m28 h1' => ?_)
   replace h1 := h1'
   replace E := E.mod m28 (fun g hg => by cases hg; omega); replace hcu := hcu.mod m28 (fun g hg => by cases hg; omega); replace h2 := h2.mod m28 (fun g hg => by cases hg; omega); replace h3 := h3.mod m28 (fun g hg => by cases hg; omega); replace h4 := h4.mod m28 (fun g hg => by cases hg; omega); replace h19 := h19.mod m28 (fun g hg => by cases hg; omega); replace h20 := h20.mod m28 (fun g hg => by cases hg; omega); replace h21 := h21.mod m28 (fun g hg => by cases hg; omega); replace h22 := h22.mod m28 (fun g hg => by cases hg; omega); replace h23 := h23.mod m28 (fun g hg => by cases hg; omega); replace h24 := h24.mod m28 (fun g hg => by cases hg; omega); replace h25 := h25.mod m28 (fun g hg => by cases hg; omega); replace h26 := h26.mod m28 (fun g hg => by cases hg; omega); replace h27 := h27.mod m28 (fun g hg => by cases hg; omega); replace h28 := h28.mod m28 (fun g hg => by cases hg; omega); replace h29 := h29.mod m28 (fun g hg => by cases hg; omega)
   have z68 := m28.size
   refine J_done ?_
   refine S_ret (E_doneC rfl rfl (run_loadVar_st st26 h1.at rfl) E ?_)
   have hF6 : OwF w68 b3 w68.heap.size (.slice (some ⟨b29, 0, none⟩) 6 6) [(⟨1, 0, 0, [1]⟩ : Node), (⟨5, 0, 0, [2, 5]⟩ : Node), (⟨4, IntKind.i64.wrap (1 + ((dx8 : Nat) : Int)), 0, [3]⟩ : Node), (⟨3, IntKind.i64.wrap (1 + ((dx10 : Nat) : Int)), 0, [4]⟩ : Node), (⟨7, 0, 0, [1]⟩ : Node), (⟨8, 0, 0, []⟩ : Node)] [b29, b28, b3, b19, b23, b25] := OwF.lit (css := [[.int .i64 1, .int .i64 0, .int .i64 0, .slice (some ⟨b28, 0, none⟩) 1 1], [.int .i64 5, .int .i64 0, .int .i64 0, .slice (some ⟨b3, 0, none⟩) 2 2], [.int .i64 4, .int .i64 (IntKind.i64.wrap (1 + ((dx8 : Nat) : Int))), .int .i64 0, .slice (some ⟨b19, 0, none⟩) 1 1], [.int .i64 3, .int .i64 (IntKind.i64.wrap (1 + ((dx10 : Nat) : Int))), .int .i64 0, .slice (some ⟨b23, 0, none⟩) 1 1], [.int .i64 7, .int .i64 0, .int .i64 0, .slice (some ⟨b25, 0, none⟩) 1 1], [.int .i64 8, .int .i64 0, .int .i64 0, .slice none 0 0]]) h29 ⟨(Node.mkO (⟨1, 0, 0, [1]⟩ : Node) ⟨trivial, trivial⟩ (Own.widen (Own.ofBlk (lo := b28) (hi := b28 + 1) (sz := 1) h28 (Nat.le_refl _) (Nat.lt_succ_self _) (by rfl) (by unfold maxLen; omega)) (by omega) (by omega))), (Node.mkO (⟨5, 0, 0, [2, 5]⟩ : Node) ⟨trivial, trivial⟩ (Own.widen (Own.ofBlk (lo := b3) (hi := b3 + 1) (sz := 1) h3 (Nat.le_refl _) (Nat.lt_succ_self _) (by rfl) (by unfold maxLen; omega)) (by omega) (by omega))), (Node.mkO (⟨4, IntKind.i64.wrap (1 + ((dx8 : Nat) : Int)), 0, [3]⟩ : Node) ⟨trivial, trivial⟩ (Own.widen (Own.ofBlk (lo := b19) (hi := b19 + 1) (sz := 1) h19 (Nat.le_refl _) (Nat.lt_succ_self _) (by rfl) (by unfold maxLen; omega)) (by omega) (by omega))), (Node.mkO (⟨3, IntKind.i64.wrap (1 + ((dx10 : Nat) : Int)), 0, [4]⟩ : Node) ⟨trivial, trivial⟩ (Own.widen (Own.ofBlk (lo := b23) (hi := b23 + 1) (sz := 1) h23 (Nat.le_refl _) (Nat.lt_succ_self _) (by rfl) (by unfold maxLen; omega)) (by omega) (by omega))), (Node.mkO (⟨7, 0, 0, [1]⟩ : Node) ⟨trivial, trivial⟩ (Own.widen (Own.ofBlk (lo := b25) (hi := b25 + 1) (sz := 1) h25 (Nat.le_refl _) (Nat.lt_succ_self _) (by rfl) (by unfold maxLen; omega)) (by omega) (by omega))), (Node.mkO (⟨8, 0, 0, []⟩ : Node) ⟨trivial, trivial⟩ (Own.nil _ _ _ _)), trivial⟩ (by omega) (by omega) (show List.Nodup [b29, b28, b3, b19, b23, b25] from by first | (simp; done) | (simp; omega)) rfl (by simp [maxLen])
   exact ⟨(⟨[(⟨1, 0, 0, [1]⟩ : Node), (⟨5, 0, 0, [2, 5]⟩ : Node), (⟨4, IntKind.i64.wrap (1 + ((dx8 : Nat) : Int)), 0, [3]⟩ : Node), (⟨3, IntKind.i64.wrap (1 + ((dx10 : Nat) : Int)), 0, [4]⟩ : Node), (⟨7, 0, 0, [1]⟩ : Node), (⟨8, 0, 0, []⟩ : Node)], IntKind.i64.wrap (1 + ((dx1 : Nat) : Int)), IntKind.i64.wrap (1 + ((dx2 : Nat) : Int))⟩ : Graph), (by first | assumption | (constructor <;> simp <;> done) | (constructor <;> simp [*] <;> omega)), (by simp), (by simp), hcu, ⟨_, rfl, OwS.widen (OwF.ows hF6) (by have := E.size; omega) (by omega)⟩⟩
  ·have hc6n : ¬ dx11 = 0 := by first | (have h := of_decide_eq_false hc6; omega) | (have h := hc6; simp at h; omega)
   refine S_seq ?_
   refine S_reg [true, true] rfl rfl ?_
   refine J_st (R_eql rfl rfl) rfl (J_st (R_assign rfl) rfl (J_done ?_))
   refine S_cond rfl (fun hc7 => ?_) (fun hc7 => ?_)
   ·have hc7n : dx11 = 1 := by first | (have h := of_decide_eq_true hc7; omega) | (have h := hc7; simp at h; omega)
    refine S_reg [true, true, true, true, false] rfl rfl ?_
    refine J_st (R_fieldAddr0 fl26_0 rfl) rfl (J_st (R_load sc24 rfl (h2.one 0 rfl)) rfl ?_)
    have hbl17 : ∀ w, (Instr.build 45 ([(0, .int .i64 8)]).toArray).run Try.prog w = .ok (.agg [.int .i64 8, .int .i64 0, .int .i64 0, .slice none 0 0].toArray) w := by clear E; intro w; kernel_rfl
    refine J_st (R_buildC [.int .i64 8, .int .i64 0, .int .i64 0, .slice none 0 0] rfl hbl17) rfl (J_st (R_indexB sl24 rfl rfl (by first | assumption | omega | (simp only [List.length_set]; first | assumption | omega) | (simp only [List.getElem_set_self, List.length_set]; first | assumption | omega) | (simp only [setW, setLk, List.length_set]; first | assumption | omega) | (simp; done))) rfl ?_)
    refine J_storeS' (cs' := [.int .i64 1, .int .i64 0, .int .i64 0, .slice (some ⟨b28, 0, none⟩) 1 1, .int .i64 5, .int .i64 0, .int .i64 0, .slice (some ⟨b3, 0, none⟩) 2 2, .int .i64 4, .int .i64 (IntKind.i64.wrap (1 + ((dx8 : Nat) : Int))), .int .i64 0, .slice (some ⟨b19, 0, none⟩) 1 1, .int .i64 2, .int .i64 ((dx9 : Nat) : Int), .int .i64 0, .slice (some ⟨b21, 0, none⟩) 1 1, .int .i64 8, .int .i64 0, .int .i64 0, .slice none 0 0, .int .i64 8, .int .i64 0, .int .i64 0, .slice none 0 0]) st45 rfl rfl rfl rfl h29 (Nat.le_of_ble_eq_true rfl) rfl (fun w69 m29 h29' => ?_)
    replace h29 := h29'
    replace E := E.mod m29 (fun g hg => by cases hg; omega); replace hcu := hcu.mod m29 (fun g hg => by cases hg; omega); replace h1 := h1.mod m29 (fun g hg => by cases hg; omega); replace h2 := h2.mod m29 (fun g hg => by cases hg; omega); replace h3 := h3.mod m29 (fun g hg => by cases hg; omega); replace h4 := h4.mod m29 (fun g hg => by cases hg; omega); replace h19 := h19.mod m29 (fun g hg => by cases hg; omega); replace h20 := h20.mod m29 (fun g hg => by cases hg; omega); replace h21 := h21.mod m29 (fun g hg => by cases hg; omega); replace h22 := h22.mod m29 (fun g hg => by cases hg; omega); replace h23 := h23.mod m29 (fun g hg => by cases hg; omega); replace h24 := h24.mod m29 (fun g hg => by cases hg; omega); replace h25 := h25.mod m29 (fun g hg => by cases hg; omega); replace h26 := h26.mod m29 (fun g hg => by cases hg; omega); replace h27 := h27.mod m29 (fun g hg => by cases hg; omega); replace h28 := h28.mod m29 (fun g hg => by cases hg; omega)
    have z69 := m29.size
    refine J_done ?_
    refine S_nil (E_inB ?_)
    refine S_seq ?_
    refine S_reg [true, false] rfl rfl ?_
    refine J_st (R_loadS st26 rfl h2.at rfl) rfl ?_
    refine J_storeS' (cs' := [.slice (some ⟨b29, 0, none⟩) 6 6, .int .i64 (IntKind.i64.wrap (1 + ((dx1 : Nat) : Int))), .int .i64 (IntKind.i64.wrap (1 + ((dx2 : Nat) : Int)))]) st26 rfl rfl rfl (all_cons rfl (all_cons rfl (all_cons rfl rfl))) h1 (Nat.le_of_ble_eq_true rfl) rfl (fun w70 m30 h1' => ?_)
    replace h1 := h1'
    replace E := E.mod m30 (fun g hg => by cases hg; omega); replace hcu := hcu.mod m30 (fun g hg => by cases hg; omega); replace h2 := h2.mod m30 (fun g hg => by cases hg; omega); replace h3 := h3.mod m30 (fun g hg => by cases hg; omega); replace h4 := h4.mod m30 (fun g hg => by cases hg; omega); replace h19 := h19.mod m30 (fun g hg => by cases hg; omega); replace h20 := h20.mod m30 (fun g hg => by cases hg; omega); replace h21 := h21.mod m30 (fun g hg => by cases hg; omega); replace h22 := h22.mod m30 (fun g hg => by cases hg; omega); replace h23 := h23.mod m30 (fun g hg => by cases hg; omega); replace h24 := h24.mod m30 (fun g hg => by cases hg; omega); replace h25 := h25.mod m30 (fun g hg => by cases hg; omega); replace h26 := h26.mod m30 (fun g hg => by cases hg; omega); replace h27 := h27.mod m30 (fun g hg => by cases hg; omega); replace h28 := h28.mod m30 (fun g hg => by cases hg; omega); replace h29 := h29.mod m30 (fun g hg => by cases hg; omega)
    have z70 := m30.size
    refine J_done ?_
    refine S_ret (E_doneC rfl rfl (run_loadVar_st st26 h1.at rfl) E ?_)
    have hF7 : OwF w70 b3 w70.heap.size (.slice (some ⟨b29, 0, none⟩) 6 6) [(⟨1, 0, 0, [1]⟩ : Node), (⟨5, 0, 0, [2, 5]⟩ : Node), (⟨4, IntKind.i64.wrap (1 + ((dx8 : Nat) : Int)), 0, [3]⟩ : Node), (⟨2, ((dx9 : Nat) : Int), 0, [4]⟩ : Node), (⟨8, 0, 0, []⟩ : Node), (⟨8, 0, 0, []⟩ : Node)] [b29, b28, b3, b19, b21] := OwF.lit (css := [[.int .i64 1, .int .i64 0, .int .i64 0, .slice (some ⟨b28, 0, none⟩) 1 1], [.int .i64 5, .int .i64 0, .int .i64 0, .slice (some ⟨b3, 0, none⟩) 2 2], [.int .i64 4, .int .i64 (IntKind.i64.wrap (1 + ((dx8 : Nat) : Int))), .int .i64 0, .slice (some ⟨b19, 0, none⟩) 1 1], [.int .i64 2, .int .i64 ((dx9 : Nat) : Int), .int .i64 0, .slice (some ⟨b21, 0, none⟩) 1 1], [.int .i64 8, .int .i64 0, .int .i64 0, .slice none 0 0], [.int .i64 8, .int .i64 0, .int .i64 0, .slice none 0 0]]) h29 ⟨(Node.mkO (⟨1, 0, 0, [1]⟩ : Node) ⟨trivial, trivial⟩ (Own.widen (Own.ofBlk (lo := b28) (hi := b28 + 1) (sz := 1) h28 (Nat.le_refl _) (Nat.lt_succ_self _) (by rfl) (by unfold maxLen; omega)) (by omega) (by omega))), (Node.mkO (⟨5, 0, 0, [2, 5]⟩ : Node) ⟨trivial, trivial⟩ (Own.widen (Own.ofBlk (lo := b3) (hi := b3 + 1) (sz := 1) h3 (Nat.le_refl _) (Nat.lt_succ_self _) (by rfl) (by unfold maxLen; omega)) (by omega) (by omega))), (Node.mkO (⟨4, IntKind.i64.wrap (1 + ((dx8 : Nat) : Int)), 0, [3]⟩ : Node) ⟨trivial, trivial⟩ (Own.widen (Own.ofBlk (lo := b19) (hi := b19 + 1) (sz := 1) h19 (Nat.le_refl _) (Nat.lt_succ_self _) (by rfl) (by unfold maxLen; omega)) (by omega) (by omega))), (Node.mkO (⟨2, ((dx9 : Nat) : Int), 0, [4]⟩ : Node) ⟨trivial, trivial⟩ (Own.widen (Own.ofBlk (lo := b21) (hi := b21 + 1) (sz := 1) h21 (Nat.le_refl _) (Nat.lt_succ_self _) (by rfl) (by unfold maxLen; omega)) (by omega) (by omega))), (Node.mkO (⟨8, 0, 0, []⟩ : Node) ⟨trivial, trivial⟩ (Own.nil _ _ _ _)), (Node.mkO (⟨8, 0, 0, []⟩ : Node) ⟨trivial, trivial⟩ (Own.nil _ _ _ _)), trivial⟩ (by omega) (by omega) (show List.Nodup [b29, b28, b3, b19, b21] from by first | (simp; done) | (simp; omega)) rfl (by simp [maxLen])
    exact ⟨(⟨[(⟨1, 0, 0, [1]⟩ : Node), (⟨5, 0, 0, [2, 5]⟩ : Node), (⟨4, IntKind.i64.wrap (1 + ((dx8 : Nat) : Int)), 0, [3]⟩ : Node), (⟨2, ((dx9 : Nat) : Int), 0, [4]⟩ : Node), (⟨8, 0, 0, []⟩ : Node), (⟨8, 0, 0, []⟩ : Node)], IntKind.i64.wrap (1 + ((dx1 : Nat) : Int)), IntKind.i64.wrap (1 + ((dx2 : Nat) : Int))⟩ : Graph), (by first | assumption | (constructor <;> simp <;> done) | (constructor <;> simp [*] <;> omega)), (by simp), (by simp), hcu, ⟨_, rfl, OwS.widen (OwF.ows hF7) (by have := E.size; omega) (by omega)⟩⟩
   ·have hc7n : ¬ dx11 = 1 := by first | (have h := of_decide_eq_false hc7; omega) | (have h := hc7; simp at h; omega)
    refine S_seq ?_
    refine S_reg [true, true] rfl rfl ?_
    refine J_st (R_eql rfl rfl) rfl (J_st (R_assign rfl) rfl (J_done ?_))
    refine S_cond rfl (fun hc8 => ?_) (fun hc8 => ?_)
    ·have hc8n : dx11 = 2 := by first | (have h := of_decide_eq_true hc8; omega) | (have h := hc8; simp at h; omega)
     refine S_reg [true, true, false, true, true, false] rfl rfl ?_
     refine J_st (R_fieldAddr0 fl26_0 rfl) rfl (J_st (R_load sc24 rfl (h2.one 0 rfl)) rfl ?_)
     refine J_buildSlice (vs := [.int .i64 3, .int .i64 4]) (css := [[.int .i64 3], [.int .i64 4]]) sl29 rfl rfl ⟨⟨rfl, rfl⟩, ⟨rfl, rfl⟩, trivial⟩ rfl rfl (fun b30 w71 e41 s30 h30 => ?_)
     replace h30 : Blk w71 b30 [.int .i64 3, .int .i64 4] := h30
     have g_b30 : w.heap.size ≤ b30 := by have := E.size; omega
     have y_b30 := h30.lt
     replace E := E.ext e41; replace hcu := hcu.ext e41; replace h1 := h1.ext e41; replace h2 := h2.ext e41; replace h3 := h3.ext e41; replace h4 := h4.ext e41; replace h19 := h19.ext e41; replace h20 := h20.ext e41; replace h21 := h21.ext e41; replace h22 := h22.ext e41; replace h23 := h23.ext e41; replace h24 := h24.ext e41; replace h25 := h25.ext e41; replace h26 := h26.ext e41; replace h27 := h27.ext e41; replace h28 := h28.ext e41; replace h29 := h29.ext e41
     have z71 := e41.size
     refine J_st (R_indexB sl24 rfl rfl (by first | assumption | omega | (simp only [List.length_set]; first | assumption | omega) | (simp only [List.getElem_set_self, List.length_set]; first | assumption | omega) | (simp only [setW, setLk, List.length_set]; first | assumption | omega) | (simp; done))) rfl (J_st (R_fieldAddr fl45_3 rfl) rfl ?_)
     refine J_store' (cs' := [.int .i64 1, .int .i64 0, .int .i64 0, .slice (some ⟨b28, 0, none⟩) 1 1, .int .i64 5, .int .i64 0, .int .i64 0, .slice (some ⟨b3, 0, none⟩) 2 2, .int .i64 4, .int .i64 (IntKind.i64.wrap (1 + ((dx8 : Nat) : Int))), .int .i64 0, .slice (some ⟨b30, 0, none⟩) 2 2, .int .i64 2, .int .i64 ((dx9 : Nat) : Int), .int .i64 0, .slice (some ⟨b21, 0, none⟩) 1 1, .int .i64 7, .int .i64 0, .int .i64 0, .slice (some ⟨b25, 0, none⟩) 1 1, .int .i64 8, .int .i64 0, .int .i64 0, .slice none 0 0]) sc29 rfl rfl rfl h29 (Nat.le_of_ble_eq_true rfl) rfl (fun w72 m31 h29' => ?_)
     replace h29 := h29'
     replace E := E.mod m31 (fun g hg => by cases hg; omega); replace hcu := hcu.mod m31 (fun g hg => by cases hg; omega); replace h1 := h1.mod m31 (fun g hg => by cases hg; omega); replace h2 := h2.mod m31 (fun g hg => by cases hg; omega); replace h3 := h3.mod m31 (fun g hg => by cases hg; omega); replace h4 := h4.mod m31 (fun g hg => by cases hg; omega); replace h19 := h19.mod m31 (fun g hg => by cases hg; omega); replace h20 := h20.mod m31 (fun g hg => by cases hg; omega); replace h21 := h21.mod m31 (fun g hg => by cases hg; omega); replace h22 := h22.mod m31 (fun g hg => by cases hg; omega); replace h23 := h23.mod m31 (fun g hg => by cases hg; omega); replace h24 := h24.mod m31 (fun g hg => by cases hg; omega); replace h25 := h25.mod m31 (fun g hg => by cases hg; omega); replace h26 := h26.mod m31 (fun g hg => by cases hg; omega); replace h27 := h27.mod m31 (fun g hg => by cases hg; omega); replace h28 := h28.mod m31 (fun g hg => by cases hg; omega); replace h30 := h30.mod m31 (fun g hg => by cases hg; omega)
     have z72 := m31.size
     refine J_done ?_
     refine S_nil (E_inB ?_)
     refine S_seq ?_
     refine S_reg [true, false] rfl rfl ?_
     refine J_st (R_loadS st26 rfl h2.at rfl) rfl ?_
     refine J_storeS' (cs' := [.slice (some ⟨b29, 0, none⟩) 6 6, .int .i64 (IntKind.i64.wrap (1 + ((dx1 : Nat) : Int))), .int .i64 (IntKind.i64.wrap (1 + ((dx2 : Nat) : Int)))]) st26 rfl rfl rfl (all_cons rfl (all_cons rfl (all_cons rfl rfl))) h1 (Nat.le_of_ble_eq_true rfl) rfl (fun w73 m32 h1' => ?_)
     replace h1 := h1'
     replace E := E.mod m32 (fun g hg => by cases hg; omega); replace hcu := hcu.mod m32 (fun g hg => by cases hg; omega); replace h2 := h2.mod m32 (fun g hg => by cases hg; omega); replace h3 := h3.mod m32 (fun g hg => by cases hg; omega); replace h4 := h4.mod m32 (fun g hg => by cases hg; omega); replace h19 := h19.mod m32 (fun g hg => by cases hg; omega); replace h20 := h20.mod m32 (fun g hg => by cases hg; omega); replace h21 := h21.mod m32 (fun g hg => by cases hg; omega); replace h22 := h22.mod m32 (fun g hg => by cases hg; omega); replace h23 := h23.mod m32 (fun g hg => by cases hg; omega); replace h24 := h24.mod m32 (fun g hg => by cases hg; omega); replace h25 := h25.mod m32 (fun g hg => by cases hg; omega); replace h26 := h26.mod m32 (fun g hg => by cases hg; omega); replace h27 := h27.mod m32 (fun g hg => by cases hg; omega); replace h28 := h28.mod m32 (fun g hg => by cases hg; omega); replace h29 := h29.mod m32 (fun g hg => by cases hg; omega); replace h30 := h30.mod m32 (fun g hg => by cases hg; omega)
     have z73 := m32.size
     refine J_done ?_
     refine S_ret (E_doneC rfl rfl (run_loadVar_st st26 h1.at rfl) E ?_)
     have hF8 : OwF w73 b3 w73.heap.size (.slice (some ⟨b29, 0, none⟩) 6 6) [(⟨1, 0, 0, [1]⟩ : Node), (⟨5, 0, 0, [2, 5]⟩ : Node), (⟨4, IntKind.i64.wrap (1 + ((dx8 : Nat) : Int)), 0, [3, 4]⟩ : Node), (⟨2, ((dx9 : Nat) : Int), 0, [4]⟩ : Node), (⟨7, 0, 0, [1]⟩ : Node), (⟨8, 0, 0, []⟩ : Node)] [b29, b28, b3, b30, b21, b25] := OwF.lit (css := [[.int .i64 1, .int .i64 0, .int .i64 0, .slice (some ⟨b28, 0, none⟩) 1 1], [.int .i64 5, .int .i64 0, .int .i64 0, .slice (some ⟨b3, 0, none⟩) 2 2], [.int .i64 4, .int .i64 (IntKind.i64.wrap (1 + ((dx8 : Nat) : Int))), .int .i64 0, .slice (some ⟨b30, 0, none⟩) 2 2], [.int .i64 2, .int .i64 ((dx9 : Nat) : Int), .int .i64 0, .slice (some ⟨b21, 0, none⟩) 1 1], [.int .i64 7, .int .i64 0, .int .i64 0, .slice (some ⟨b25, 0, none⟩) 1 1], [.int .i64 8, .int .i64 0, .int .i64 0, .slice none 0 0]]) h29 ⟨(Node.mkO (⟨1, 0, 0, [1]⟩ : Node) ⟨trivial, trivial⟩ (Own.widen (Own.ofBlk (lo := b28) (hi := b28 + 1) (sz := 1) h28 (Nat.le_refl _) (Nat.lt_succ_self _) (by rfl) (by unfold maxLen; omega)) (by omega) (by omega))), (Node.mkO (⟨5, 0, 0, [2, 5]⟩ : Node) ⟨trivial, trivial⟩ (Own.widen (Own.ofBlk (lo := b3) (hi := b3 + 1) (sz := 1) h3 (Nat.le_refl _) (Nat.lt_succ_self _) (by rfl) (by unfold maxLen; omega)) (by omega) (by omega))), (Node.mkO (⟨4, IntKind.i64.wrap (1 + ((dx8 : Nat) : Int)), 0, [3, 4]⟩ : Node) ⟨trivial, trivial⟩ (Own.widen (Own.ofBlk (lo := b30) (hi := b30 + 1) (sz := 1) h30 (Nat.le_refl _) (Nat.lt_succ_self _) (by rfl) (by unfold maxLen; omega)) (by omega) (by omega))), (Node.mkO (⟨2, ((dx9 : Nat) : Int), 0, [4]⟩ : Node) ⟨trivial, trivial⟩ (Own.widen (Own.ofBlk (lo := b21) (hi := b21 + 1) (sz := 1) h21 (Nat.le_refl _) (Nat.lt_succ_self _) (by rfl) (by unfold maxLen; omega)) (by omega) (by omega))), (Node.mkO (⟨7, 0, 0, [1]⟩ : Node) ⟨trivial, trivial⟩ (Own.widen (Own.ofBlk (lo := b25) (hi := b25 + 1) (sz := 1) h25 (Nat.le_refl _) (Nat.lt_succ_self _) (by rfl) (by unfold maxLen; omega)) (by omega) (by omega))), (Node.mkO (⟨8, 0, 0, []⟩ : Node) ⟨trivial, trivial⟩ (Own.nil _ _ _ _)), trivial⟩ (by omega) (by omega) (show List.Nodup [b29, b28, b3, b30, b21, b25] from by first | (simp; done) | (simp; omega)) rfl (by simp [maxLen])
     exact ⟨(⟨[(⟨1, 0, 0, [1]⟩ : Node), (⟨5, 0, 0, [2, 5]⟩ : Node), (⟨4, IntKind.i64.wrap (1 + ((dx8 : Nat) : Int)), 0, [3, 4]⟩ : Node), (⟨2, ((dx9 : Nat) : Int), 0, [4]⟩ : Node), (⟨7, 0, 0, [1]⟩ : Node), (⟨8, 0, 0, []⟩ : Node)], IntKind.i64.wrap (1 + ((dx1 : Nat) : Int)), IntKind.i64.wrap (1 + ((dx2 : Nat) : Int))⟩ : Graph), (by first | assumption | (constructor <;> simp <;> done) | (constructor <;> simp [*] <;> omega)), (by simp), (by simp), hcu, ⟨_, rfl, OwS.widen (OwF.ows hF8) (by have := E.size; omega) (by omega)⟩⟩
    ·have hc8n : ¬ dx11 = 2 := by first | (have h := of_decide_eq_false hc8; omega) | (have h := hc8; simp at h; omega)
     refine S_seq ?_
     refine S_reg [true, true] rfl rfl ?_
     refine J_st (R_eql rfl rfl) rfl (J_st (R_assign rfl) rfl (J_done ?_))
     refine S_cond rfl (fun hc9 => ?_) (fun hc9 => ?_)
     ·have hc9n : dx11 = 3 := by first | (have h := of_decide_eq_true hc9; omega) | (have h := hc9; simp at h; omega)
      refine S_seq ?_
      have hF9 : OwF w66 b3 w66.heap.size (.slice (some ⟨b29, 0, none⟩) 6 6) [(⟨1, 0, 0, [1]⟩ : Node), (⟨5, 0, 0, [2, 5]⟩ : Node), (⟨4, IntKind.i64.wrap (1 + ((dx8 : Nat) : Int)), 0, [3]⟩ : Node), (⟨2, ((dx9 : Nat) : Int), 0, [4]⟩ : Node), (⟨7, 0, 0, [1]⟩ : Node), (⟨8, 0, 0, []⟩ : Node)] [b29, b28, b3, b19, b21, b25] := OwF.lit (css := [[.int .i64 1, .int .i64 0, .int .i64 0, .slice (some ⟨b28, 0, none⟩) 1 1], [.int .i64 5, .int .i64 0, .int .i64 0, .slice (some ⟨b3, 0, none⟩) 2 2], [.int .i64 4, .int .i64 (IntKind.i64.wrap (1 + ((dx8 : Nat) : Int))), .int .i64 0, .slice (some ⟨b19, 0, none⟩) 1 1], [.int .i64 2, .int .i64 ((dx9 : Nat) : Int), .int .i64 0, .slice (some ⟨b21, 0, none⟩) 1 1], [.int .i64 7, .int .i64 0, .int .i64 0, .slice (some ⟨b25, 0, none⟩) 1 1], [.int .i64 8, .int .i64 0, .int .i64 0, .slice none 0 0]]) h29 ⟨(Node.mkO (⟨1, 0, 0, [1]⟩ : Node) ⟨trivial, trivial⟩ (Own.widen (Own.ofBlk (lo := b28) (hi := b28 + 1) (sz := 1) h28 (Nat.le_refl _) (Nat.lt_succ_self _) (by rfl) (by unfold maxLen; omega)) (by omega) (by omega))), (Node.mkO (⟨5, 0, 0, [2, 5]⟩ : Node) ⟨trivial, trivial⟩ (Own.widen (Own.ofBlk (lo := b3) (hi := b3 + 1) (sz := 1) h3 (Nat.le_refl _) (Nat.lt_succ_self _) (by rfl) (by unfold maxLen; omega)) (by omega) (by omega))), (Node.mkO (⟨4, IntKind.i64.wrap (1 + ((dx8 : Nat) : Int)), 0, [3]⟩ : Node) ⟨trivial, trivial⟩ (Own.widen (Own.ofBlk (lo := b19) (hi := b19 + 1) (sz := 1) h19 (Nat.le_refl _) (Nat.lt_succ_self _) (by rfl) (by unfold maxLen; omega)) (by omega) (by omega))), (Node.mkO (⟨2, ((dx9 : Nat) : Int), 0, [4]⟩ : Node) ⟨trivial, trivial⟩ (Own.widen (Own.ofBlk (lo := b21) (hi := b21 + 1) (sz := 1) h21 (Nat.le_refl _) (Nat.lt_succ_self _) (by rfl) (by unfold maxLen; omega)) (by omega) (by omega))), (Node.mkO (⟨7, 0, 0, [1]⟩ : Node) ⟨trivial, trivial⟩ (Own.widen (Own.ofBlk (lo := b25) (hi := b25 + 1) (sz := 1) h25 (Nat.le_refl _) (Nat.lt_succ_self _) (by rfl) (by unfold maxLen; omega)) (by omega) (by omega))), (Node.mkO (⟨8, 0, 0, []⟩ : Node) ⟨trivial, trivial⟩ (Own.nil _ _ _ _)), trivial⟩ (by omega) (by omega) (show List.Nodup [b29, b28, b3, b19, b21, b25] from by first | (simp; done) | (simp; omega)) rfl (by simp [maxLen])
      have nh5 : b1 ∉ ([b29, b28, b3, b19, b21, b25] : List Nat) := by simp; omega
      have sp3 : DjL [[b29, b28, b3, b19, b21, b25], [b2]] := ⟨⟨(show Dj [b29, b28, b3, b19, b21, b25] [b2] from fun x hx hc => by simp at hx hc; omega), trivial⟩, trivial, trivial⟩
      refine S_reg [true, true, true, false, false, true, false] rfl rfl ?_
      refine J_st (R_fieldAddr0 fl26_0 rfl) rfl (J_st (R_load sc24 rfl (h2.one 0 rfl)) rfl ?_)
      have hbl18 : ∀ w, (Instr.build 45 ([(0, .int .i64 8)]).toArray).run Try.prog w = .ok (.agg [.int .i64 8, .int .i64 0, .int .i64 0, .slice none 0 0].toArray) w := by clear E; intro w; kernel_rfl
      refine J_st (R_buildC [.int .i64 8, .int .i64 0, .int .i64 0, .slice none 0 0] rfl hbl18) rfl ?_
      refine J_buildSlice (vs := [.agg [.int .i64 8, .int .i64 0, .int .i64 0, .slice none 0 0].toArray]) (css := [[.int .i64 8, .int .i64 0, .int .i64 0, .slice none 0 0]]) sl24 rfl rfl ⟨⟨rfl, rfl⟩, trivial⟩ rfl rfl (fun b31 w74 e42 s31 h31 => ?_)
      replace h31 : Blk w74 b31 [.int .i64 8, .int .i64 0, .int .i64 0, .slice none 0 0] := h31
      have g_b31 : w.heap.size ≤ b31 := by have := E.size; omega
      have y_b31 := h31.lt
      replace E := E.ext e42; replace hcu := hcu.ext e42; replace h1 := h1.ext e42; replace h2 := h2.ext e42; replace hF9 := hF9.ext e42
      have z74 := e42.size
      have hy2 : Own1.O (α := Node) w74 w74.heap.size w74.heap.size [.int .i64 8, .int .i64 0, .int .i64 0, .slice none 0 0] (⟨8, 0, 0, []⟩ : Node) := Node.mkO (⟨8, 0, 0, []⟩ : Node) ⟨trivial, trivial⟩ (Own.nil _ _ _ _)
      refine J_appendF (lo := b3) (hi := w66.heap.size) (lo2 := w74.heap.size) (hi2 := w74.heap.size) sl24 rfl rfl hF9 (Src.ofBlk h31 rfl) hy2 (fun b hb hc => by have := OwF.in2 hF9 b hb; have := Own1.inn hy2 b hc; omega) (by simp only [List.length_append, List.length_cons, List.length_nil, List.length_set, show Dat.sz Node = 4 from rfl]; omega) (by decide) (by omega) (by omega) (by omega) (by omega) (by omega) rfl rfl (fun v2 w75 f3 m33 ho3 hin3 => ?_)
      have hqb := OwS.inn (OwF.ows hF9)
      have kq4 := Mod.kq (l := [b29, b28, b3, b19, b21, b25]) m33 (OwF.v_mem hF9)
      replace E := E.mod m33 (fun g hg => by have := hqb g hg; omega); replace hcu := hcu.mod m33 (fun g hg => by have := hqb g hg; omega); replace h1 := Blk.kp h1 (Kq.kp kq4 (fun x hx hc => by simp at hx; subst hx; exact nh5 hc)); replace h2 := Blk.kp h2 (Kq.kp kq4 (sp3.1.1).symm)
      have z75 := m33.size
      replace sp3 := DjL.set (N := w74.heap.size) hin3 0 rfl sp3 ⟨(fun b hb => by have := OwF.in2 hF9 b hb; omega), (fun b hb => by simp at hb; omega), trivial⟩
      have nh6 : b1 ∉ f3 := fun hx => (hin3 b1 hx).elim nh5 (fun h => by omega)
      replace sp3 : DjL [f3, [b2]] := sp3
      clear hqb hy2 kq4 hF9
      refine J_st (R_fieldAddr0 fl26_0 rfl) rfl ?_
      refine J_store' (cs' := [v2, .int .i64 (IntKind.i64.wrap (1 + ((dx1 : Nat) : Int))), .int .i64 (IntKind.i64.wrap (1 + ((dx2 : Nat) : Int)))]) sc24 rfl rfl (RdD.one (OwF.rd ho3)) h2 (Nat.le_of_ble_eq_true rfl) rfl (fun w76 m34 h2' => ?_)
      replace h2 := h2'
      have kq5 := Mod.kq (l := [b2]) m34 (fun g hg => by cases hg; simp)
      replace E := E.mod m34 (fun g hg => by cases hg; omega); replace hcu := hcu.mod m34 (fun g hg => by cases hg; omega); replace h1 := h1.mod m34 (fun g hg => by cases hg; omega); replace ho3 := OwF.kp ho3 (Kq.kp kq5 sp3.1.1)
      have z76 := m34.size
      refine J_done ?_
      have hi2 : 0 < ([(⟨1, 0, 0, [1]⟩ : Node), (⟨5, 0, 0, [2, 5]⟩ : Node), (⟨4, IntKind.i64.wrap (1 + ((dx8 : Nat) : Int)), 0, [3]⟩ : Node), (⟨2, ((dx9 : Nat) : Int), 0, [4]⟩ : Node), (⟨7, 0, 0, [1]⟩ : Node), (⟨8, 0, 0, []⟩ : Node)] ++ [(⟨8, 0, 0, []⟩ : Node)]).length := (by first | assumption | omega | (simp only [List.length_set]; first | assumption | omega) | (simp only [List.getElem_set_self, List.length_set]; first | assumption | omega) | (simp only [setW, setLk, List.length_set]; first | assumption | omega) | (simp; done))
      have hK2 : OwK w76 f3 w76 b3 w75.heap.size v2 (([(⟨1, 0, 0, [1]⟩ : Node), (⟨5, 0, 0, [2, 5]⟩ : Node), (⟨4, IntKind.i64.wrap (1 + ((dx8 : Nat) : Int)), 0, [3]⟩ : Node), (⟨2, ((dx9 : Nat) : Int), 0, [4]⟩ : Node), (⟨7, 0, 0, [1]⟩ : Node), (⟨8, 0, 0, []⟩ : Node)] ++ [(⟨8, 0, 0, []⟩ : Node)]).take 0 ++ ([(⟨1, 0, 0, [1]⟩ : Node), (⟨5, 0, 0, [2, 5]⟩ : Node), (⟨4, IntKind.i64.wrap (1 + ((dx8 : Nat) : Int)), 0, [3]⟩ : Node), (⟨2, ((dx9 : Nat) : Int), 0, [4]⟩ : Node), (⟨7, 0, 0, [1]⟩ : Node), (⟨8, 0, 0, []⟩ : Node)] ++ [(⟨8, 0, 0, []⟩ : Node)])[0] :: ([(⟨1, 0, 0, [1]⟩ : Node), (⟨5, 0, 0, [2, 5]⟩ : Node), (⟨4, IntKind.i64.wrap (1 + ((dx8 : Nat) : Int)), 0, [3]⟩ : Node), (⟨2, ((dx9 : Nat) : Int), 0, [4]⟩ : Node), (⟨7, 0, 0, [1]⟩ : Node), (⟨8, 0, 0, []⟩ : Node)] ++ [(⟨8, 0, 0, []⟩ : Node)]).drop (0 + 1)) := ⟨by rw [← self_split hi2]; exact ho3, Kq.refl _ _⟩
      have hfl2 := OwF.in2 ho3
      obtain ⟨_, ho4, hrow2⟩ := OwK.focus hK2
      obtain ⟨o2, rfl, sp4, hw2⟩ := Node.opO ho4
      clear hK2 ho3
      have hl2 : (([(⟨1, 0, 0, [1]⟩ : Node), (⟨5, 0, 0, [2, 5]⟩ : Node), (⟨4, IntKind.i64.wrap (1 + ((dx8 : Nat) : Int)), 0, [3]⟩ : Node), (⟨2, ((dx9 : Nat) : Int), 0, [4]⟩ : Node), (⟨7, 0, 0, [1]⟩ : Node), (⟨8, 0, 0, []⟩ : Node)] ++ [(⟨8, 0, 0, []⟩ : Node)]).take 0).length = 0 := by first | (simp; done) | (simp; omega)
      have hn2 : 0 + 1 + (([(⟨1, 0, 0, [1]⟩ : Node), (⟨5, 0, 0, [2, 5]⟩ : Node), (⟨4, IntKind.i64.wrap (1 + ((dx8 : Nat) : Int)), 0, [3]⟩ : Node), (⟨2, ((dx9 : Nat) : Int), 0, [4]⟩ : Node), (⟨7, 0, 0, [1]⟩ : Node), (⟨8, 0, 0, []⟩ : Node)] ++ [(⟨8, 0, 0, []⟩ : Node)]).drop (0 + 1)).length = ([(⟨1, 0, 0, [1]⟩ : Node), (⟨5, 0, 0, [2, 5]⟩ : Node), (⟨4, IntKind.i64.wrap (1 + ((dx8 : Nat) : Int)), 0, [3]⟩ : Node), (⟨2, ((dx9 : Nat) : Int), 0, [4]⟩ : Node), (⟨7, 0, 0, [1]⟩ : Node), (⟨8, 0, 0, []⟩ : Node)] ++ [(⟨8, 0, 0, []⟩ : Node)]).length := by first | (simp; done) | (simp; omega)
      replace hrow2 : RowR f3 w76 b3 w75.heap.size v2 (([(⟨1, 0, 0, [1]⟩ : Node), (⟨5, 0, 0, [2, 5]⟩ : Node), (⟨4, IntKind.i64.wrap (1 + ((dx8 : Nat) : Int)), 0, [3]⟩ : Node), (⟨2, ((dx9 : Nat) : Int), 0, [4]⟩ : Node), (⟨7, 0, 0, [1]⟩ : Node), (⟨8, 0, 0, []⟩ : Node)] ++ [(⟨8, 0, 0, []⟩ : Node)]).take 0) [.int .i64 ((([(⟨1, 0, 0, [1]⟩ : Node), (⟨5, 0, 0, [2, 5]⟩ : Node), (⟨4, IntKind.i64.wrap (1 + ((dx8 : Nat) : Int)), 0, [3]⟩ : Node), (⟨2, ((dx9 : Nat) : Int), 0, [4]⟩ : Node), (⟨7, 0, 0, [1]⟩ : Node), (⟨8, 0, 0, []⟩ : Node)] ++ [(⟨8, 0, 0, []⟩ : Node)])[0]'hi2).kind), .int .i64 ((([(⟨1, 0, 0, [1]⟩ : Node), (⟨5, 0, 0, [2, 5]⟩ : Node), (⟨4, IntKind.i64.wrap (1 + ((dx8 : Nat) : Int)), 0, [3]⟩ : Node), (⟨2, ((dx9 : Nat) : Int), 0, [4]⟩ : Node), (⟨7, 0, 0, [1]⟩ : Node), (⟨8, 0, 0, []⟩ : Node)] ++ [(⟨8, 0, 0, []⟩ : Node)])[0]'hi2).a), .int .i64 ((([(⟨1, 0, 0, [1]⟩ : Node), (⟨5, 0, 0, [2, 5]⟩ : Node), (⟨4, IntKind.i64.wrap (1 + ((dx8 : Nat) : Int)), 0, [3]⟩ : Node), (⟨2, ((dx9 : Nat) : Int), 0, [4]⟩ : Node), (⟨7, 0, 0, [1]⟩ : Node), (⟨8, 0, 0, []⟩ : Node)] ++ [(⟨8, 0, 0, []⟩ : Node)])[0]'hi2).b), o2] (([(⟨1, 0, 0, [1]⟩ : Node), (⟨5, 0, 0, [2, 5]⟩ : Node), (⟨4, IntKind.i64.wrap (1 + ((dx8 : Nat) : Int)), 0, [3]⟩ : Node), (⟨2, ((dx9 : Nat) : Int), 0, [4]⟩ : Node), (⟨7, 0, 0, [1]⟩ : Node), (⟨8, 0, 0, []⟩ : Node)] ++ [(⟨8, 0, 0, []⟩ : Node)]).drop (0 + 1)) := hrow2
      refine S_reg [true, true, false, true, true, false] rfl rfl ?_
      refine J_st (R_fieldAddr0 fl26_0 rfl) rfl (J_st (R_load sc24 rfl (h2.one 0 rfl)) rfl ?_)
      refine J_buildSlice (vs := [.int .i64 1, .int .i64 6]) (css := [[.int .i64 1], [.int .i64 6]]) sl29 rfl rfl ⟨⟨rfl, rfl⟩, ⟨rfl, rfl⟩, trivial⟩ rfl rfl (fun b32 w77 e43 s32 h32 => ?_)
      replace h32 : Blk w77 b32 [.int .i64 1, .int .i64 6] := h32
      have g_b32 : w.heap.size ≤ b32 := by have := E.size; omega
      have y_b32 := h32.lt
      replace E := E.ext e43; replace hcu := hcu.ext e43; replace h1 := h1.ext e43; replace h2 := h2.ext e43; replace hw2 := hw2.ext e43; replace hrow2 := hrow2.ext e43
      have z77 := e43.size
      refine J_st (R_index (i := 0) sl24 rfl rfl (RowK.same1 hrow2 hl2 hn2) (by first | (simp; done) | (simp; omega))) rfl (J_st (R_fieldAddr fl45_3 rfl) rfl ?_)
      refine J_storeEx rfl rfl (RowK.setFN (N := w76.heap.size) (lo2 := b3) (hi2 := w77.heap.size) (cs' := [.int .i64 ((([(⟨1, 0, 0, [1]⟩ : Node), (⟨5, 0, 0, [2, 5]⟩ : Node), (⟨4, IntKind.i64.wrap (1 + ((dx8 : Nat) : Int)), 0, [3]⟩ : Node), (⟨2, ((dx9 : Nat) : Int), 0, [4]⟩ : Node), (⟨7, 0, 0, [1]⟩ : Node), (⟨8, 0, 0, []⟩ : Node)] ++ [(⟨8, 0, 0, []⟩ : Node)])[0]'hi2).kind), .int .i64 ((([(⟨1, 0, 0, [1]⟩ : Node), (⟨5, 0, 0, [2, 5]⟩ : Node), (⟨4, IntKind.i64.wrap (1 + ((dx8 : Nat) : Int)), 0, [3]⟩ : Node), (⟨2, ((dx9 : Nat) : Int), 0, [4]⟩ : Node), (⟨7, 0, 0, [1]⟩ : Node), (⟨8, 0, 0, []⟩ : Node)] ++ [(⟨8, 0, 0, []⟩ : Node)])[0]'hi2).a), .int .i64 ((([(⟨1, 0, 0, [1]⟩ : Node), (⟨5, 0, 0, [2, 5]⟩ : Node), (⟨4, IntKind.i64.wrap (1 + ((dx8 : Nat) : Int)), 0, [3]⟩ : Node), (⟨2, ((dx9 : Nat) : Int), 0, [4]⟩ : Node), (⟨7, 0, 0, [1]⟩ : Node), (⟨8, 0, 0, []⟩ : Node)] ++ [(⟨8, 0, 0, []⟩ : Node)])[0]'hi2).b), .slice (some ⟨b32, 0, none⟩) 2 2]) (k := 3) sc29 hrow2 hl2 (by decide) rfl rfl (Node.mkO (⟨(([(⟨1, 0, 0, [1]⟩ : Node), (⟨5, 0, 0, [2, 5]⟩ : Node), (⟨4, IntKind.i64.wrap (1 + ((dx8 : Nat) : Int)), 0, [3]⟩ : Node), (⟨2, ((dx9 : Nat) : Int), 0, [4]⟩ : Node), (⟨7, 0, 0, [1]⟩ : Node), (⟨8, 0, 0, []⟩ : Node)] ++ [(⟨8, 0, 0, []⟩ : Node)])[0]'hi2).kind, (([(⟨1, 0, 0, [1]⟩ : Node), (⟨5, 0, 0, [2, 5]⟩ : Node), (⟨4, IntKind.i64.wrap (1 + ((dx8 : Nat) : Int)), 0, [3]⟩ : Node), (⟨2, ((dx9 : Nat) : Int), 0, [4]⟩ : Node), (⟨7, 0, 0, [1]⟩ : Node), (⟨8, 0, 0, []⟩ : Node)] ++ [(⟨8, 0, 0, []⟩ : Node)])[0]'hi2).a, (([(⟨1, 0, 0, [1]⟩ : Node), (⟨5, 0, 0, [2, 5]⟩ : Node), (⟨4, IntKind.i64.wrap (1 + ((dx8 : Nat) : Int)), 0, [3]⟩ : Node), (⟨2, ((dx9 : Nat) : Int), 0, [4]⟩ : Node), (⟨7, 0, 0, [1]⟩ : Node), (⟨8, 0, 0, []⟩ : Node)] ++ [(⟨8, 0, 0, []⟩ : Node)])[0]'hi2).b, [1, 6]⟩ : Node) ⟨trivial, trivial⟩ (Own.widen (Own.ofBlk (lo := b32) (hi := b32 + 1) (sz := 1) h32 (Nat.le_refl _) (Nat.lt_succ_self _) (by rfl) (by unfold maxLen; omega)) (by omega) (by omega))) ⟨(fun _ h => absurd h List.not_mem_nil), (fun _ h => absurd h List.not_mem_nil), (fun _ h => absurd h List.not_mem_nil), (fun b hb => .inr (by have := Own.in2 (Own.ofBlk (lo := b32) (hi := b32 + 1) (sz := 1) h32 (Nat.le_refl _) (Nat.lt_succ_self _) (by rfl) (by unfold maxLen; omega)) b hb; omega)), trivial⟩ (fun b hb => by have := hfl2 b hb; omega) (by omega) (by omega)) (fun w78 m35 hR => ?_)
      obtain ⟨f4, ho3, hin4⟩ := hR
      have kq6 := Mod.kq (l := f3) m35 (RowK.v_mem hrow2)
      have hqb := RowK.blk hrow2
      replace E := E.mod m35 (fun g hg => by have := hqb g hg; omega); replace hcu := hcu.mod m35 (fun g hg => by have := hqb g hg; omega); replace h1 := Blk.kp h1 (Kq.kp kq6 (fun x hx hc => by simp at hx; subst hx; exact nh6 hc)); replace h2 := Blk.kp h2 (Kq.kp kq6 (sp3.1.1).symm); replace h32 := h32.mod m35 (fun g hg => by have := hqb g hg; omega)
      have z78 := m35.size
      clear hqb hrow2
      have nh7 : b1 ∉ f4 := fun hx => (hin4 b1 hx).elim nh6 (fun h => by omega)
      clear h32
      replace sp3 := DjL.set (N := w76.heap.size) hin4 0 rfl sp3 ⟨(fun b hb => by have := hfl2 b hb; omega), (fun b hb => by simp at hb; omega), trivial⟩
      replace sp3 : DjL [f4, [b2]] := sp3
      rw [← set_split hi2] at ho3
      clear hfl2
      refine J_done ?_
      refine S_nil (E_inB ?_)
      refine S_seq ?_
      refine S_reg [true, false] rfl rfl ?_
      refine J_st (R_loadS st26 rfl h2.at rfl) rfl ?_
      refine J_storeS' (cs' := [v2, .int .i64 (IntKind.i64.wrap (1 + ((dx1 : Nat) : Int))), .int .i64 (IntKind.i64.wrap (1 + ((dx2 : Nat) : Int)))]) st26 rfl rfl rfl (all_cons (RdD.one (OwF.rd ho3)) (all_cons rfl (all_cons rfl rfl))) h1 (Nat.le_of_ble_eq_true rfl) rfl (fun w79 m36 h1' => ?_)
      replace h1 := h1'
      replace E := E.mod m36 (fun g hg => by cases hg; omega); replace hcu := hcu.mod m36 (fun g hg => by cases hg; omega); replace h2 := h2.mod m36 (fun g hg => by cases hg; omega); replace ho3 := ho3.mod m36 (fun g hg => by cases hg; omega)
      have z79 := m36.size
      refine J_done ?_
      refine S_ret (E_doneC rfl rfl (run_loadVar_st st26 h1.at rfl) E ?_)
      exact ⟨(⟨List.set ([(⟨1, 0, 0, [1]⟩ : Node), (⟨5, 0, 0, [2, 5]⟩ : Node), (⟨4, IntKind.i64.wrap (1 + ((dx8 : Nat) : Int)), 0, [3]⟩ : Node), (⟨2, ((dx9 : Nat) : Int), 0, [4]⟩ : Node), (⟨7, 0, 0, [1]⟩ : Node), (⟨8, 0, 0, []⟩ : Node)] ++ [(⟨8, 0, 0, []⟩ : Node)]) 0 (⟨(([(⟨1, 0, 0, [1]⟩ : Node), (⟨5, 0, 0, [2, 5]⟩ : Node), (⟨4, IntKind.i64.wrap (1 + ((dx8 : Nat) : Int)), 0, [3]⟩ : Node), (⟨2, ((dx9 : Nat) : Int), 0, [4]⟩ : Node), (⟨7, 0, 0, [1]⟩ : Node), (⟨8, 0, 0, []⟩ : Node)] ++ [(⟨8, 0, 0, []⟩ : Node)])[0]'hi2).kind, (([(⟨1, 0, 0, [1]⟩ : Node), (⟨5, 0, 0, [2, 5]⟩ : Node), (⟨4, IntKind.i64.wrap (1 + ((dx8 : Nat) : Int)), 0, [3]⟩ : Node), (⟨2, ((dx9 : Nat) : Int), 0, [4]⟩ : Node), (⟨7, 0, 0, [1]⟩ : Node), (⟨8, 0, 0, []⟩ : Node)] ++ [(⟨8, 0, 0, []⟩ : Node)])[0]'hi2).a, (([(⟨1, 0, 0, [1]⟩ : Node), (⟨5, 0, 0, [2, 5]⟩ : Node), (⟨4, IntKind.i64.wrap (1 + ((dx8 : Nat) : Int)), 0, [3]⟩ : Node), (⟨2, ((dx9 : Nat) : Int), 0, [4]⟩ : Node), (⟨7, 0, 0, [1]⟩ : Node), (⟨8, 0, 0, []⟩ : Node)] ++ [(⟨8, 0, 0, []⟩ : Node)])[0]'hi2).b, [1, 6]⟩ : Node), IntKind.i64.wrap (1 + ((dx1 : Nat) : Int)), IntKind.i64.wrap (1 + ((dx2 : Nat) : Int))⟩ : Graph), (by first | assumption | (constructor <;> simp <;> done) | (constructor <;> simp [*] <;> omega)), (by simp), (by simp), hcu, ⟨_, rfl, OwS.widen (OwF.ows ho3) (by have := E.size; omega) (by omega)⟩⟩
     ·have hc9n : ¬ dx11 = 3 := by first | (have h := of_decide_eq_false hc9; omega) | (have h := hc9; simp at h; omega)
      refine S_skip ?_
      refine S_nil (E_inB ?_)
      refine S_seq ?_
      refine S_reg [true, false] rfl rfl ?_
      refine J_st (R_loadS st26 rfl h2.at rfl) rfl ?_
      refine J_storeS' (cs' := [.slice (some ⟨b29, 0, none⟩) 6 6, .int .i64 (IntKind.i64.wrap (1 + ((dx1 : Nat) : Int))), .int .i64 (IntKind.i64.wrap (1 + ((dx2 : Nat) : Int)))]) st26 rfl rfl rfl (all_cons rfl (all_cons rfl (all_cons rfl rfl))) h1 (Nat.le_of_ble_eq_true rfl) rfl (fun w80 m37 h1' => ?_)
      replace h1 := h1'
      replace E := E.mod m37 (fun g hg => by cases hg; omega); replace hcu := hcu.mod m37 (fun g hg => by cases hg; omega); replace h2 := h2.mod m37 (fun g hg => by cases hg; omega); replace h3 := h3.mod m37 (fun g hg => by cases hg; omega); replace h4 := h4.mod m37 (fun g hg => by cases hg; omega); replace h19 := h19.mod m37 (fun g hg => by cases hg; omega); replace h20 := h20.mod m37 (fun g hg => by cases hg; omega); replace h21 := h21.mod m37 (fun g hg => by cases hg; omega); replace h22 := h22.mod m37 (fun g hg => by cases hg; omega); replace h23 := h23.mod m37 (fun g hg => by cases hg; omega); replace h24 := h24.mod m37 (fun g hg => by cases hg; omega); replace h25 := h25.mod m37 (fun g hg => by cases hg; omega); replace h26 := h26.mod m37 (fun g hg => by cases hg; omega); replace h27 := h27.mod m37 (fun g hg => by cases hg; omega); replace h28 := h28.mod m37 (fun g hg => by cases hg; omega); replace h29 := h29.mod m37 (fun g hg => by cases hg; omega)
      have z80 := m37.size
      refine J_done ?_
      refine S_ret (E_doneC rfl rfl (run_loadVar_st st26 h1.at rfl) E ?_)
      have hF10 : OwF w80 b3 w80.heap.size (.slice (some ⟨b29, 0, none⟩) 6 6) [(⟨1, 0, 0, [1]⟩ : Node), (⟨5, 0, 0, [2, 5]⟩ : Node), (⟨4, IntKind.i64.wrap (1 + ((dx8 : Nat) : Int)), 0, [3]⟩ : Node), (⟨2, ((dx9 : Nat) : Int), 0, [4]⟩ : Node), (⟨7, 0, 0, [1]⟩ : Node), (⟨8, 0, 0, []⟩ : Node)] [b29, b28, b3, b19, b21, b25] := OwF.lit (css := [[.int .i64 1, .int .i64 0, .int .i64 0, .slice (some ⟨b28, 0, none⟩) 1 1], [.int .i64 5, .int .i64 0, .int .i64 0, .slice (some ⟨b3, 0, none⟩) 2 2], [.int .i64 4, .int .i64 (IntKind.i64.wrap (1 + ((dx8 : Nat) : Int))), .int .i64 0, .slice (some ⟨b19, 0, none⟩) 1 1], [.int .i64 2, .int .i64 ((dx9 : Nat) : Int), .int .i64 0, .slice (some ⟨b21, 0, none⟩) 1 1], [.int .i64 7, .int .i64 0, .int .i64 0, .slice (some ⟨b25, 0, none⟩) 1 1], [.int .i64 8, .int .i64 0, .int .i64 0, .slice none 0 0]]) h29 ⟨(Node.mkO (⟨1, 0, 0, [1]⟩ : Node) ⟨trivial, trivial⟩ (Own.widen (Own.ofBlk (lo := b28) (hi := b28 + 1) (sz := 1) h28 (Nat.le_refl _) (Nat.lt_succ_self _) (by rfl) (by unfold maxLen; omega)) (by omega) (by omega))), (Node.mkO (⟨5, 0, 0, [2, 5]⟩ : Node) ⟨trivial, trivial⟩ (Own.widen (Own.ofBlk (lo := b3) (hi := b3 + 1) (sz := 1) h3 (Nat.le_refl _) (Nat.lt_succ_self _) (by rfl) (by unfold maxLen; omega)) (by omega) (by omega))), (Node.mkO (⟨4, IntKind.i64.wrap (1 + ((dx8 : Nat) : Int)), 0, [3]⟩ : Node) ⟨trivial, trivial⟩ (Own.widen (Own.ofBlk (lo := b19) (hi := b19 + 1) (sz := 1) h19 (Nat.le_refl _) (Nat.lt_succ_self _) (by rfl) (by unfold maxLen; omega)) (by omega) (by omega))), (Node.mkO (⟨2, ((dx9 : Nat) : Int), 0, [4]⟩ : Node) ⟨trivial, trivial⟩ (Own.widen (Own.ofBlk (lo := b21) (hi := b21 + 1) (sz := 1) h21 (Nat.le_refl _) (Nat.lt_succ_self _) (by rfl) (by unfold maxLen; omega)) (by omega) (by omega))), (Node.mkO (⟨7, 0, 0, [1]⟩ : Node) ⟨trivial, trivial⟩ (Own.widen (Own.ofBlk (lo := b25) (hi := b25 + 1) (sz := 1) h25 (Nat.le_refl _) (Nat.lt_succ_self _) (by rfl) (by unfold maxLen; omega)) (by omega) (by omega))), (Node.mkO (⟨8, 0, 0, []⟩ : Node) ⟨trivial, trivial⟩ (Own.nil _ _ _ _)), trivial⟩ (by omega) (by omega) (show List.Nodup [b29, b28, b3, b19, b21, b25] from by first | (simp; done) | (simp; omega)) rfl (by simp [maxLen])
      exact ⟨(⟨[(⟨1, 0, 0, [1]⟩ : Node), (⟨5, 0, 0, [2, 5]⟩ : Node), (⟨4, IntKind.i64.wrap (1 + ((dx8 : Nat) : Int)), 0, [3]⟩ : Node), (⟨2, ((dx9 : Nat) : Int), 0, [4]⟩ : Node), (⟨7, 0, 0, [1]⟩ : Node), (⟨8, 0, 0, []⟩ : Node)], IntKind.i64.wrap (1 + ((dx1 : Nat) : Int)), IntKind.i64.wrap (1 + ((dx2 : Nat) : Int))⟩ : Graph), (by first | assumption | (constructor <;> simp <;> done) | (constructor <;> simp [*] <;> omega)), (by simp), (by simp), hcu, ⟨_, rfl, OwS.widen (OwF.ows hF10) (by have := E.size; omega) (by omega)⟩⟩

set_option maxRecDepth 20000 in
theorem l_sameInts (vxs : Value) (xs : List Int) (vys : Value) (ys : List Int) (w : World) (hxs : RdS w vxs xs) (hys : RdS w vys ys) : Ct Try.prog 20 [vxs, vys] w (fun v _ => v = .bool (decide (xs = ys))) := by
 refine ct_of Try.func20 rfl Try.ntmps20 rfl ?_
 refine S_sub [(0, vxs), (1, vys)] ⟨rfl, rfl, trivial⟩ ?_
 have E : Ext w w := Ext.refl w
 refine S_seq ?_
 refine S_reg [true] rfl rfl ?_
 refine J_st (R_assign rfl) rfl (J_done ?_)
 refine S_seq ?_
 refine S_seq ?_
 refine S_reg [true, true, true, true, true] rfl rfl ?_
 refine J_st (R_move rfl) rfl (J_st (R_len Try.underlying29 rfl (hxs.ext E).len) rfl (J_st (R_move rfl) rfl (J_st (R_len Try.underlying29 rfl (hys.ext E).len) rfl (J_st (R_neq rfl rfl) rfl (J_done ?_)))))
 refine S_cond rfl (fun hc1 => ?_) (fun hc1 => ?_)
 ·have hc1n : ¬ xs.length = ys.length := by first | (have h := of_decide_eq_true hc1; omega) | (have h := hc1; simp at h; omega)
  refine S_seq ?_
  refine S_reg [true] rfl rfl ?_
  refine J_st (R_assign rfl) rfl (J_done ?_)
  refine S_ret (E_done1 rfl rfl E ?_)
  simp [eq_len hc1n]
 ·have hc1n : xs.length = ys.length := by first | (have h := of_decide_eq_false hc1; omega) | (have h := hc1; simp at h; omega)
  refine S_skip ?_
  refine S_seq ?_
  refine S_seq ?_
  refine S_reg [true] rfl rfl ?_
  refine J_st (R_assign rfl) rfl (J_done ?_)
  refine S_block ?_
  refine S_loop (fun (k : Nat) => [(0, vxs), (1, vys), (4, .bool false), (5, .int .i64 ((k : Nat) : Int))]) (fun (k : Nat) w' => Ext w w' ∧ w.heap.size ≤ w'.heap.size ∧ k ≤ xs.length ∧ xs.take k = ys.take k) (fun (k : Nat) => xs.length - k) 0 ⟨rfl, rfl, rfl, rfl, trivial⟩ ⟨E, Nat.le_refl _, Nat.zero_le _, rfl⟩ ?_
  clear E
  rintro k w1 ⟨E, z1, hk, hp⟩
  refine S_seq ?_
  refine S_seq ?_
  refine S_reg [true, true, true, true] rfl rfl ?_
  refine J_st (R_move rfl) rfl (J_st (R_move rfl) rfl (J_st (R_len Try.underlying29 rfl (hxs.ext E).len) rfl (J_st (R_lss rfl rfl) rfl (J_done ?_))))
  refine S_cond rfl (fun hc2 => ?_) (fun hc2 => ?_)
  ·have hc2n : k < xs.length := by first | (have h := of_decide_eq_true hc2; omega) | (have h := hc2; simp at h; omega)
   refine S_skip ?_
   refine S_seq ?_
   refine S_block ?_
   refine S_seq ?_
   refine S_regD mixed [(0, true), (1, true), (2, true), (3, true), (4, true), (5, true), (6, true), (7, true), (8, true)] (by decide +kernel) rfl (fun w2 e1 => ?_)
   replace E := E.trans e1
   have z2 := e1.size
   refine J_st (R_move rfl) rfl (J_st (R_move rfl) rfl ?_)
   have hi1 : k < xs.length := (by first | assumption | omega | (simp only [List.length_set]; first | assumption | omega) | (simp only [List.getElem_set_self, List.length_set]; first | assumption | omega) | (simp only [setW, setLk, List.length_set]; first | assumption | omega) | (simp; done))
   refine J_st (R_index (i := k) sl29 rfl rfl (hxs.ext E) hi1) rfl (J_st (R_load sc3 rfl (((hxs.ext E).get hi1).one 0 rfl)) rfl (J_st (R_move rfl) rfl (J_st (R_move rfl) rfl ?_)))
   have hi2 : k < ys.length := (by first | assumption | omega | (simp only [List.length_set]; first | assumption | omega) | (simp only [List.getElem_set_self, List.length_set]; first | assumption | omega) | (simp only [setW, setLk, List.length_set]; first | assumption | omega) | (simp; done))
   refine J_st (R_index (i := k) sl29 rfl rfl (hys.ext E) hi2) rfl (J_st (R_load sc3 rfl (((hys.ext E).get hi2).one 0 rfl)) rfl (J_st (R_neq rfl rfl) rfl (J_done ?_)))
   refine S_cond rfl (fun hc3 => ?_) (fun hc3 => ?_)
   ·refine S_seq ?_
    refine S_reg [true] rfl rfl ?_
    refine J_st (R_assign rfl) rfl (J_done ?_)
    refine S_ret (E_inB_ret (E_lp_ret (E_inB_ret (E_done1 rfl rfl E ?_))))
    exact eqS_no (by omega) (by omega) (by simpa using hc3)
   ·refine S_skip ?_
    refine S_nil (E_inB ?_)
    refine S_reg [true, true, true] rfl rfl ?_
    refine J_st (R_move rfl) rfl (J_st (R_add rfl rfl (add_one hc2n hxs.1)) rfl (J_st (R_assign rfl) rfl (J_done ?_)))
    refine S_nil (E_again (k + 1) (by omega) ⟨rfl, rfl, rfl, rfl, trivial⟩ ⟨E, (by omega), (by omega), eqS_step hp (by assumption) (by omega) (by simpa using hc3)⟩)
  ·have hc2n : ¬ k < xs.length := by first | (have h := of_decide_eq_false hc2; omega) | (have h := hc2; simp at h; omega)
   refine S_exit (E_lp_exit (E_inB_exit ?_))
   refine S_seq ?_
   refine S_reg [true] rfl rfl ?_
   refine J_st (R_assign rfl) rfl (J_done ?_)
   refine S_ret (E_done1 rfl rfl E ?_)
   exact eqS_yes hp hc1n (by omega)

set_option maxRecDepth 20000 in
theorem s_l02Stamp (lo : Nat) (vb : Value) (bs : List Byt) (w : World) (hcu : CurO w lo vb bs) (hbs : RdD w 0 lo vb bs) : CtR Try.prog 50 [.pointer (some ⟨lo, 0, none⟩)] w lo (lo + 1) (fun v w' => ∃ (dr0 : Stamp), CurO w' lo vb bs ∧ v = .agg (Enc.enc dr0).toArray) := by
 have y_lo := CurO.lt hcu
 refine ctR_of Try.func50 rfl Try.ntmps50 rfl ?_
 refine S_sub [(0, .pointer (some ⟨lo, 0, none⟩))] ⟨rfl, trivial⟩ ?_
 have E : ModR w w lo (lo + 1) := ModR.refl w lo (lo + 1)
 refine S_seq ?_
 refine S_reg [false] rfl rfl ?_
 refine J_alloc st41 rfl (fun b1 w1 e1 s1 h1 => ?_)
 have g_b1 : w.heap.size ≤ b1 := by have := E.size; omega
 have y_b1 := h1.lt
 replace E := E.ext e1; replace hcu := hcu.ext e1
 have z1 := e1.size
 refine J_done ?_
 refine S_seq ?_
 refine S_reg [true, false, true, false, true, false] rfl rfl ?_
 refine J_st (R_move rfl) rfl ?_
 refine J_callR Try.call16 rfl rfl (s_l01Below lo vb bs 4 _ hcu (RdD.modR hbs E (.inl (Nat.le_refl _)))) rfl (fun _ w2 e2 hv => ?_)
 obtain ⟨dx1, q1, q2, hcu', hv⟩ := hv
 replace hcu := hcu'
 subst hv
 replace E := E.trans e2 (by omega) (by omega); replace h1 := h1.modR e2 (by omega)
 have z2 := e2.size
 refine J_st (R_move rfl) rfl ?_
 refine J_callR Try.call16 rfl rfl (s_l01Below lo vb bs 5 _ hcu (RdD.modR hbs E (.inl (Nat.le_refl _)))) rfl (fun _ w3 e3 hv => ?_)
 obtain ⟨dx2, q3, q4, hcu', hv⟩ := hv
 replace hcu := hcu'
 subst hv
 replace E := E.trans e3 (by omega) (by omega); replace h1 := h1.modR e3 (by omega)
 have z3 := e3.size
 refine J_st (R_build (⟨((dx1 : Nat) : Int), ((dx2 : Nat) : Int)⟩ : Stamp) rfl (fun _ => by kernel_rfl)) rfl ?_
 refine J_storeS' (cs' := [.int .i64 ((⟨((dx1 : Nat) : Int), ((dx2 : Nat) : Int)⟩ : Stamp).epoch), .int .i64 ((⟨((dx1 : Nat) : Int), ((dx2 : Nat) : Int)⟩ : Stamp).turn)]) st41 rfl rfl rfl rfl h1 (Nat.le_of_ble_eq_true rfl) rfl (fun w4 m1 h1' => ?_)
 replace h1 := h1'
 replace E := E.mod m1 (fun g hg => by cases hg; omega); replace hcu := hcu.mod m1 (fun g hg => by cases hg; omega)
 have z4 := m1.size
 refine J_done ?_
 refine S_ret (E_doneC rfl rfl (run_loadVar_st st41 h1.at rfl) E ?_)
 exact ⟨(⟨((dx1 : Nat) : Int), ((dx2 : Nat) : Int)⟩ : Stamp), hcu, rfl⟩

set_option maxHeartbeats 4000000 in
set_option maxRecDepth 20000 in
theorem s_l02Any (lo : Nat) (vb : Value) (bs : List Byt) (w : World) (hcu : CurO w lo vb bs) (hbs : RdD w 0 lo vb bs) : CtR Try.prog 49 [.pointer (some ⟨lo, 0, none⟩)] w lo (lo + 1) (fun v w' => ∃ (dr0 : Stamp), CurO w' lo vb bs ∧ v = .agg (Enc.enc dr0).toArray) := by
 have y_lo := CurO.lt hcu
 refine ctR_of Try.func49 rfl Try.ntmps49 rfl ?_
 refine S_sub [(0, .pointer (some ⟨lo, 0, none⟩))] ⟨rfl, trivial⟩ ?_
 have E : ModR w w lo (lo + 1) := ModR.refl w lo (lo + 1)
 refine S_seq ?_
 refine S_reg [false] rfl rfl ?_
 refine J_alloc st41 rfl (fun b1 w1 e1 s1 h1 => ?_)
 have g_b1 : w.heap.size ≤ b1 := by have := E.size; omega
 have y_b1 := h1.lt
 replace E := E.ext e1; replace hcu := hcu.ext e1
 have z1 := e1.size
 refine J_done ?_
 refine S_seq ?_
 refine S_reg [true, false, false, false] rfl rfl ?_
 refine J_st (R_move rfl) rfl ?_
 refine J_callR Try.call50 rfl rfl (s_l02Stamp lo vb bs _ hcu (RdD.modR hbs E (.inl (Nat.le_refl _)))) rfl (fun _ w2 e2 hv => ?_)
 obtain ⟨dx1, hcu', hv⟩ := hv
 replace hcu := hcu'
 subst hv
 replace E := E.trans e2 (by omega) (by omega); replace h1 := h1.modR e2 (by omega)
 have z2 := e2.size
 refine J_alloc st41 rfl (fun b2 w3 e3 s2 h2 => ?_)
 have g_b2 : w.heap.size ≤ b2 := by have := E.size; omega
 have y_b2 := h2.lt
 replace E := E.ext e3; replace hcu := hcu.ext e3; replace h1 := h1.ext e3
 have z3 := e3.size
 refine J_storeS' (cs' := [.int .i64 dx1.epoch, .int .i64 dx1.turn]) st41 rfl rfl rfl rfl h2 (Nat.le_of_ble_eq_true rfl) rfl (fun w4 m1 h2' => ?_)
 replace h2 := h2'
 replace E := E.mod m1 (fun g hg => by cases hg; omega); replace hcu := hcu.mod m1 (fun g hg => by cases hg; omega); replace h1 := h1.mod m1 (fun g hg => by cases hg; omega)
 have z4 := m1.size
 refine J_done ?_
 refine S_seq ?_
 refine S_seq ?_
 refine S_reg [true, false] rfl rfl ?_
 refine J_st (R_move rfl) rfl ?_
 refine J_callR Try.call16 rfl rfl (s_l01Below lo vb bs 10 _ hcu (RdD.modR hbs E (.inl (Nat.le_refl _)))) rfl (fun _ w5 e4 hv => ?_)
 obtain ⟨dx2, q1, q2, hcu', hv⟩ := hv
 replace hcu := hcu'
 subst hv
 replace E := E.trans e4 (by omega) (by omega); replace h1 := h1.modR e4 (by omega); replace h2 := h2.modR e4 (by omega)
 have z5 := e4.size
 refine J_done ?_
 refine S_block ?_
 refine S_seq ?_
 refine S_reg [true, true] rfl rfl ?_
 refine J_st (R_eql rfl rfl) rfl (J_st (R_assign rfl) rfl (J_done ?_))
 refine S_cond rfl (fun hc1 => ?_) (fun hc1 => ?_)
 ·have hc1n : dx2 = 0 := by first | (have h := of_decide_eq_true hc1; omega) | (have h := hc1; simp at h; omega)
  refine S_reg [true, false, false, true, false] rfl rfl ?_
  refine J_st (R_move rfl) rfl ?_
  refine J_buildSlice (vs := [.int .i64 (-1), .int .i64 3, .int .i64 4, .int .i64 9223372036854775807]) (css := [[.int .i64 (-1)], [.int .i64 3], [.int .i64 4], [.int .i64 9223372036854775807]]) sl29 rfl rfl ⟨⟨rfl, rfl⟩, ⟨rfl, rfl⟩, ⟨rfl, rfl⟩, ⟨rfl, rfl⟩, trivial⟩ rfl rfl (fun b3 w6 e5 s3 h3 => ?_)
  replace h3 : Blk w6 b3 [.int .i64 (-1), .int .i64 3, .int .i64 4, .int .i64 9223372036854775807] := h3
  have g_b3 : w.heap.size ≤ b3 := by have := E.size; omega
  have y_b3 := h3.lt
  replace E := E.ext e5; replace hcu := hcu.ext e5; replace h1 := h1.ext e5; replace h2 := h2.ext e5
  have z6 := e5.size
  refine J_callR Try.call37 rfl rfl (s_l01PickInt lo vb bs (.slice (some ⟨b3, 0, none⟩) 4 4) [(-1), 3, 4, 9223372036854775807] _ hcu (RdD.modR hbs E (.inl (Nat.le_refl _))) (fun wX eX => (Blk.rd (α := Int) (xs := [(-1), 3, 4, 9223372036854775807]) (by decide) (Blk.modR h3 eX (by omega)) rfl (by simp [maxLen]))) (by decide)) rfl (fun _ w7 e6 hv => ?_)
  obtain ⟨dx3, q3, hcu', hv⟩ := hv
  replace hcu := hcu'
  subst hv
  replace E := E.trans e6 (by omega) (by omega); replace h1 := h1.modR e6 (by omega); replace h2 := h2.modR e6 (by omega); replace h3 := h3.modR e6 (by omega)
  have z7 := e6.size
  refine J_st (R_fieldAddr0 fl41_0 rfl) rfl ?_
  refine J_store' (cs' := [.int .i64 dx3, .int .i64 dx1.turn]) sc3 rfl rfl rfl h2 (Nat.le_of_ble_eq_true rfl) rfl (fun w8 m2 h2' => ?_)
  replace h2 := h2'
  replace E := E.mod m2 (fun g hg => by cases hg; omega); replace hcu := hcu.mod m2 (fun g hg => by cases hg; omega); replace h1 := h1.mod m2 (fun g hg => by cases hg; omega); replace h3 := h3.mod m2 (fun g hg => by cases hg; omega)
  have z8 := m2.size
  refine J_done ?_
  refine S_nil (E_inB ?_)
  refine S_seq ?_
  refine S_reg [true, false] rfl rfl ?_
  refine J_st (R_loadS st41 rfl h2.at rfl) rfl ?_
  refine J_storeS' (cs' := [.int .i64 ((⟨dx3, dx1.turn⟩ : Stamp).epoch), .int .i64 ((⟨dx3, dx1.turn⟩ : Stamp).turn)]) st41 rfl rfl rfl rfl h1 (Nat.le_of_ble_eq_true rfl) rfl (fun w9 m3 h1' => ?_)
  replace h1 := h1'
  replace E := E.mod m3 (fun g hg => by cases hg; omega); replace hcu := hcu.mod m3 (fun g hg => by cases hg; omega); replace h2 := h2.mod m3 (fun g hg => by cases hg; omega); replace h3 := h3.mod m3 (fun g hg => by cases hg; omega)
  have z9 := m3.size
  refine J_done ?_
  refine S_ret (E_doneC rfl rfl (run_loadVar_st st41 h1.at rfl) E ?_)
  exact ⟨(⟨dx3, dx1.turn⟩ : Stamp), hcu, rfl⟩
 ·have hc1n : ¬ dx2 = 0 := by first | (have h := of_decide_eq_false hc1; omega) | (have h := hc1; simp at h; omega)
  refine S_seq ?_
  refine S_reg [true, true] rfl rfl ?_
  refine J_st (R_eql rfl rfl) rfl (J_st (R_assign rfl) rfl (J_done ?_))
  refine S_cond rfl (fun hc2 => ?_) (fun hc2 => ?_)
  ·have hc2n : dx2 = 1 := by first | (have h := of_decide_eq_true hc2; omega) | (have h := hc2; simp at h; omega)
   refine S_reg [true, false, false, true, false] rfl rfl ?_
   refine J_st (R_move rfl) rfl ?_
   refine J_buildSlice (vs := [.int .i64 (-1), .int .i64 5, .int .i64 6, .int .i64 7, .int .i64 (-9223372036854775808)]) (css := [[.int .i64 (-1)], [.int .i64 5], [.int .i64 6], [.int .i64 7], [.int .i64 (-9223372036854775808)]]) sl29 rfl rfl ⟨⟨rfl, rfl⟩, ⟨rfl, rfl⟩, ⟨rfl, rfl⟩, ⟨rfl, rfl⟩, ⟨rfl, rfl⟩, trivial⟩ rfl rfl (fun b4 w10 e7 s4 h4 => ?_)
   replace h4 : Blk w10 b4 [.int .i64 (-1), .int .i64 5, .int .i64 6, .int .i64 7, .int .i64 (-9223372036854775808)] := h4
   have g_b4 : w.heap.size ≤ b4 := by have := E.size; omega
   have y_b4 := h4.lt
   replace E := E.ext e7; replace hcu := hcu.ext e7; replace h1 := h1.ext e7; replace h2 := h2.ext e7
   have z10 := e7.size
   refine J_callR Try.call37 rfl rfl (s_l01PickInt lo vb bs (.slice (some ⟨b4, 0, none⟩) 5 5) [(-1), 5, 6, 7, (-9223372036854775808)] _ hcu (RdD.modR hbs E (.inl (Nat.le_refl _))) (fun wX eX => (Blk.rd (α := Int) (xs := [(-1), 5, 6, 7, (-9223372036854775808)]) (by decide) (Blk.modR h4 eX (by omega)) rfl (by simp [maxLen]))) (by decide)) rfl (fun _ w11 e8 hv => ?_)
   obtain ⟨dx4, q4, hcu', hv⟩ := hv
   replace hcu := hcu'
   subst hv
   replace E := E.trans e8 (by omega) (by omega); replace h1 := h1.modR e8 (by omega); replace h2 := h2.modR e8 (by omega); replace h4 := h4.modR e8 (by omega)
   have z11 := e8.size
   refine J_st (R_fieldAddr0 fl41_1 rfl) rfl ?_
   refine J_store' (cs' := [.int .i64 dx1.epoch, .int .i64 dx4]) sc3 rfl rfl rfl h2 (Nat.le_of_ble_eq_true rfl) rfl (fun w12 m4 h2' => ?_)
   replace h2 := h2'
   replace E := E.mod m4 (fun g hg => by cases hg; omega); replace hcu := hcu.mod m4 (fun g hg => by cases hg; omega); replace h1 := h1.mod m4 (fun g hg => by cases hg; omega); replace h4 := h4.mod m4 (fun g hg => by cases hg; omega)
   have z12 := m4.size
   refine J_done ?_
   refine S_nil (E_inB ?_)
   refine S_seq ?_
   refine S_reg [true, false] rfl rfl ?_
   refine J_st (R_loadS st41 rfl h2.at rfl) rfl ?_
   refine J_storeS' (cs' := [.int .i64 ((⟨dx1.epoch, dx4⟩ : Stamp).epoch), .int .i64 ((⟨dx1.epoch, dx4⟩ : Stamp).turn)]) st41 rfl rfl rfl rfl h1 (Nat.le_of_ble_eq_true rfl) rfl (fun w13 m5 h1' => ?_)
   replace h1 := h1'
   replace E := E.mod m5 (fun g hg => by cases hg; omega); replace hcu := hcu.mod m5 (fun g hg => by cases hg; omega); replace h2 := h2.mod m5 (fun g hg => by cases hg; omega); replace h4 := h4.mod m5 (fun g hg => by cases hg; omega)
   have z13 := m5.size
   refine J_done ?_
   refine S_ret (E_doneC rfl rfl (run_loadVar_st st41 h1.at rfl) E ?_)
   exact ⟨(⟨dx1.epoch, dx4⟩ : Stamp), hcu, rfl⟩
  ·have hc2n : ¬ dx2 = 1 := by first | (have h := of_decide_eq_false hc2; omega) | (have h := hc2; simp at h; omega)
   refine S_skip ?_
   refine S_nil (E_inB ?_)
   refine S_seq ?_
   refine S_reg [true, false] rfl rfl ?_
   refine J_st (R_loadS st41 rfl h2.at rfl) rfl ?_
   refine J_storeS' (cs' := [.int .i64 dx1.epoch, .int .i64 dx1.turn]) st41 rfl rfl rfl rfl h1 (Nat.le_of_ble_eq_true rfl) rfl (fun w14 m6 h1' => ?_)
   replace h1 := h1'
   replace E := E.mod m6 (fun g hg => by cases hg; omega); replace hcu := hcu.mod m6 (fun g hg => by cases hg; omega); replace h2 := h2.mod m6 (fun g hg => by cases hg; omega)
   have z14 := m6.size
   refine J_done ?_
   refine S_ret (E_doneC rfl rfl (run_loadVar_st st41 h1.at rfl) E ?_)
   exact ⟨dx1, hcu, rfl⟩

set_option maxRecDepth 20000 in
theorem s_l05Record (lo : Nat) (vb : Value) (bs : List Byt) (w : World) (hcu : CurO w lo vb bs) (hbs : RdD w 0 lo vb bs) : CtR Try.prog 36 [.pointer (some ⟨lo, 0, none⟩)] w lo (lo + 1) (fun v w' => ∃ (dr0 : Record), CurO w' lo vb bs ∧ v = .agg (Enc.enc dr0).toArray) := by
 have y_lo := CurO.lt hcu
 refine ctR_of Try.func36 rfl Try.ntmps36 rfl ?_
 refine S_sub [(0, .pointer (some ⟨lo, 0, none⟩))] ⟨rfl, trivial⟩ ?_
 have E : ModR w w lo (lo + 1) := ModR.refl w lo (lo + 1)
 refine S_seq ?_
 refine S_reg [false] rfl rfl ?_
 refine J_alloc st43 rfl (fun b1 w1 e1 s1 h1 => ?_)
 have g_b1 : w.heap.size ≤ b1 := by have := E.size; omega
 have y_b1 := h1.lt
 replace E := E.ext e1; replace hcu := hcu.ext e1
 have z1 := e1.size
 refine J_done ?_
 refine S_seq ?_
 refine S_reg [true, false, true, false, true, false, true, false, true, false] rfl rfl ?_
 refine J_st (R_move rfl) rfl ?_
 refine J_callR Try.call16 rfl rfl (s_l01Below lo vb bs 5 _ hcu (RdD.modR hbs E (.inl (Nat.le_refl _)))) rfl (fun _ w2 e2 hv => ?_)
 obtain ⟨dx1, q1, q2, hcu', hv⟩ := hv
 replace hcu := hcu'
 subst hv
 replace E := E.trans e2 (by omega) (by omega); replace h1 := h1.modR e2 (by omega)
 have z2 := e2.size
 refine J_st (R_move rfl) rfl ?_
 refine J_callR Try.call50 rfl rfl (s_l02Stamp lo vb bs _ hcu (RdD.modR hbs E (.inl (Nat.le_refl _)))) rfl (fun _ w3 e3 hv => ?_)
 obtain ⟨dx2, hcu', hv⟩ := hv
 replace hcu := hcu'
 subst hv
 replace E := E.trans e3 (by omega) (by omega); replace h1 := h1.modR e3 (by omega)
 have z3 := e3.size
 refine J_st (R_move rfl) rfl ?_
 refine J_callR Try.call16 rfl rfl (s_l01Below lo vb bs 12 _ hcu (RdD.modR hbs E (.inl (Nat.le_refl _)))) rfl (fun _ w4 e4 hv => ?_)
 obtain ⟨dx3, q3, q4, hcu', hv⟩ := hv
 replace hcu := hcu'
 subst hv
 replace E := E.trans e4 (by omega) (by omega); replace h1 := h1.modR e4 (by omega)
 have z4 := e4.size
 refine J_st (R_move rfl) rfl ?_
 refine J_callR Try.call16 rfl rfl (s_l01Below lo vb bs 40 _ hcu (RdD.modR hbs E (.inl (Nat.le_refl _)))) rfl (fun _ w5 e5 hv => ?_)
 obtain ⟨dx4, q5, q6, hcu', hv⟩ := hv
 replace hcu := hcu'
 subst hv
 replace E := E.trans e5 (by omega) (by omega); replace h1 := h1.modR e5 (by omega)
 have z5 := e5.size
 refine J_st (R_build (⟨((dx1 : Nat) : Int), dx2, ((dx3 : Nat) : Int), ((dx4 : Nat) : Int)⟩ : Record) rfl (fun _ => by kernel_rfl)) rfl ?_
 refine J_storeS' (cs' := [.int .i64 ((⟨((dx1 : Nat) : Int), dx2, ((dx3 : Nat) : Int), ((dx4 : Nat) : Int)⟩ : Record).op), .int .i64 (((⟨((dx1 : Nat) : Int), dx2, ((dx3 : Nat) : Int), ((dx4 : Nat) : Int)⟩ : Record).stamp).epoch), .int .i64 (((⟨((dx1 : Nat) : Int), dx2, ((dx3 : Nat) : Int), ((dx4 : Nat) : Int)⟩ : Record).stamp).turn), .int .i64 ((⟨((dx1 : Nat) : Int), dx2, ((dx3 : Nat) : Int), ((dx4 : Nat) : Int)⟩ : Record).key), .int .i64 ((⟨((dx1 : Nat) : Int), dx2, ((dx3 : Nat) : Int), ((dx4 : Nat) : Int)⟩ : Record).val)]) st43 rfl rfl rfl rfl h1 (Nat.le_of_ble_eq_true rfl) rfl (fun w6 m1 h1' => ?_)
 replace h1 := h1'
 replace E := E.mod m1 (fun g hg => by cases hg; omega); replace hcu := hcu.mod m1 (fun g hg => by cases hg; omega)
 have z6 := m1.size
 refine J_done ?_
 refine S_ret (E_doneC rfl rfl (run_loadVar_st st43 h1.at rfl) E ?_)
 exact ⟨(⟨((dx1 : Nat) : Int), dx2, ((dx3 : Nat) : Int), ((dx4 : Nat) : Int)⟩ : Record), hcu, rfl⟩

set_option maxHeartbeats 4000000 in
set_option maxRecDepth 20000 in
theorem s_l05Any (lo : Nat) (vb : Value) (bs : List Byt) (w : World) (hcu : CurO w lo vb bs) (hbs : RdD w 0 lo vb bs) : CtR Try.prog 35 [.pointer (some ⟨lo, 0, none⟩)] w lo (lo + 1) (fun v w' => ∃ (dr0 : Record), CurO w' lo vb bs ∧ v = .agg (Enc.enc dr0).toArray) := by
 have y_lo := CurO.lt hcu
 refine ctR_of Try.func35 rfl Try.ntmps35 rfl ?_
 refine S_sub [(0, .pointer (some ⟨lo, 0, none⟩))] ⟨rfl, trivial⟩ ?_
 have E : ModR w w lo (lo + 1) := ModR.refl w lo (lo + 1)
 refine S_seq ?_
 refine S_reg [false] rfl rfl ?_
 refine J_alloc st43 rfl (fun b1 w1 e1 s1 h1 => ?_)
 have g_b1 : w.heap.size ≤ b1 := by have := E.size; omega
 have y_b1 := h1.lt
 replace E := E.ext e1; replace hcu := hcu.ext e1
 have z1 := e1.size
 refine J_done ?_
 refine S_seq ?_
 refine S_reg [true, false, false, false] rfl rfl ?_
 refine J_st (R_move rfl) rfl ?_
 refine J_callR Try.call36 rfl rfl (s_l05Record lo vb bs _ hcu (RdD.modR hbs E (.inl (Nat.le_refl _)))) rfl (fun _ w2 e2 hv => ?_)
 obtain ⟨dx1, hcu', hv⟩ := hv
 replace hcu := hcu'
 subst hv
 replace E := E.trans e2 (by omega) (by omega); replace h1 := h1.modR e2 (by omega)
 have z2 := e2.size
 refine J_alloc st43 rfl (fun b2 w3 e3 s2 h2 => ?_)
 have g_b2 : w.heap.size ≤ b2 := by have := E.size; omega
 have y_b2 := h2.lt
 replace E := E.ext e3; replace hcu := hcu.ext e3; replace h1 := h1.ext e3
 have z3 := e3.size
 refine J_storeS' (cs' := [.int .i64 dx1.op, .int .i64 dx1.stamp.epoch, .int .i64 dx1.stamp.turn, .int .i64 dx1.key, .int .i64 dx1.val]) st43 rfl rfl rfl rfl h2 (Nat.le_of_ble_eq_true rfl) rfl (fun w4 m1 h2' => ?_)
 replace h2 := h2'
 replace E := E.mod m1 (fun g hg => by cases hg; omega); replace hcu := hcu.mod m1 (fun g hg => by cases hg; omega); replace h1 := h1.mod m1 (fun g hg => by cases hg; omega)
 have z4 := m1.size
 refine J_done ?_
 refine S_seq ?_
 refine S_seq ?_
 refine S_reg [true, false] rfl rfl ?_
 refine J_st (R_move rfl) rfl ?_
 refine J_callR Try.call16 rfl rfl (s_l01Below lo vb bs 12 _ hcu (RdD.modR hbs E (.inl (Nat.le_refl _)))) rfl (fun _ w5 e4 hv => ?_)
 obtain ⟨dx2, q1, q2, hcu', hv⟩ := hv
 replace hcu := hcu'
 subst hv
 replace E := E.trans e4 (by omega) (by omega); replace h1 := h1.modR e4 (by omega); replace h2 := h2.modR e4 (by omega)
 have z5 := e4.size
 refine J_done ?_
 refine S_block ?_
 refine S_seq ?_
 refine S_reg [true, true] rfl rfl ?_
 refine J_st (R_eql rfl rfl) rfl (J_st (R_assign rfl) rfl (J_done ?_))
 refine S_cond rfl (fun hc1 => ?_) (fun hc1 => ?_)
 ·have hc1n : dx2 = 0 := by first | (have h := of_decide_eq_true hc1; omega) | (have h := hc1; simp at h; omega)
  refine S_reg [true, false, false, true, false] rfl rfl ?_
  refine J_st (R_move rfl) rfl ?_
  refine J_buildSlice (vs := [.int .i64 (-1), .int .i64 7, .int .i64 8]) (css := [[.int .i64 (-1)], [.int .i64 7], [.int .i64 8]]) sl29 rfl rfl ⟨⟨rfl, rfl⟩, ⟨rfl, rfl⟩, ⟨rfl, rfl⟩, trivial⟩ rfl rfl (fun b3 w6 e5 s3 h3 => ?_)
  replace h3 : Blk w6 b3 [.int .i64 (-1), .int .i64 7, .int .i64 8] := h3
  have g_b3 : w.heap.size ≤ b3 := by have := E.size; omega
  have y_b3 := h3.lt
  replace E := E.ext e5; replace hcu := hcu.ext e5; replace h1 := h1.ext e5; replace h2 := h2.ext e5
  have z6 := e5.size
  refine J_callR Try.call37 rfl rfl (s_l01PickInt lo vb bs (.slice (some ⟨b3, 0, none⟩) 3 3) [(-1), 7, 8] _ hcu (RdD.modR hbs E (.inl (Nat.le_refl _))) (fun wX eX => (Blk.rd (α := Int) (xs := [(-1), 7, 8]) (by decide) (Blk.modR h3 eX (by omega)) rfl (by simp [maxLen]))) (by decide)) rfl (fun _ w7 e6 hv => ?_)
  obtain ⟨dx3, q3, hcu', hv⟩ := hv
  replace hcu := hcu'
  subst hv
  replace E := E.trans e6 (by omega) (by omega); replace h1 := h1.modR e6 (by omega); replace h2 := h2.modR e6 (by omega); replace h3 := h3.modR e6 (by omega)
  have z7 := e6.size
  refine J_st (R_fieldAddr0 fl43_0 rfl) rfl ?_
  refine J_store' (cs' := [.int .i64 dx3, .int .i64 dx1.stamp.epoch, .int .i64 dx1.stamp.turn, .int .i64 dx1.key, .int .i64 dx1.val]) sc3 rfl rfl rfl h2 (Nat.le_of_ble_eq_true rfl) rfl (fun w8 m2 h2' => ?_)
  replace h2 := h2'
  replace E := E.mod m2 (fun g hg => by cases hg; omega); replace hcu := hcu.mod m2 (fun g hg => by cases hg; omega); replace h1 := h1.mod m2 (fun g hg => by cases hg; omega); replace h3 := h3.mod m2 (fun g hg => by cases hg; omega)
  have z8 := m2.size
  refine J_done ?_
  refine S_nil (E_inB ?_)
  refine S_seq ?_
  refine S_reg [true, false] rfl rfl ?_
  refine J_st (R_loadS st43 rfl h2.at rfl) rfl ?_
  refine J_storeS' (cs' := [.int .i64 ((⟨dx3, dx1.stamp, dx1.key, dx1.val⟩ : Record).op), .int .i64 (((⟨dx3, dx1.stamp, dx1.key, dx1.val⟩ : Record).stamp).epoch), .int .i64 (((⟨dx3, dx1.stamp, dx1.key, dx1.val⟩ : Record).stamp).turn), .int .i64 ((⟨dx3, dx1.stamp, dx1.key, dx1.val⟩ : Record).key), .int .i64 ((⟨dx3, dx1.stamp, dx1.key, dx1.val⟩ : Record).val)]) st43 rfl rfl rfl rfl h1 (Nat.le_of_ble_eq_true rfl) rfl (fun w9 m3 h1' => ?_)
  replace h1 := h1'
  replace E := E.mod m3 (fun g hg => by cases hg; omega); replace hcu := hcu.mod m3 (fun g hg => by cases hg; omega); replace h2 := h2.mod m3 (fun g hg => by cases hg; omega); replace h3 := h3.mod m3 (fun g hg => by cases hg; omega)
  have z9 := m3.size
  refine J_done ?_
  refine S_ret (E_doneC rfl rfl (run_loadVar_st st43 h1.at rfl) E ?_)
  exact ⟨(⟨dx3, dx1.stamp, dx1.key, dx1.val⟩ : Record), hcu, rfl⟩
 ·have hc1n : ¬ dx2 = 0 := by first | (have h := of_decide_eq_false hc1; omega) | (have h := hc1; simp at h; omega)
  refine S_seq ?_
  refine S_reg [true, true] rfl rfl ?_
  refine J_st (R_eql rfl rfl) rfl (J_st (R_assign rfl) rfl (J_done ?_))
  refine S_cond rfl (fun hc2 => ?_) (fun hc2 => ?_)
  ·have hc2n : dx2 = 1 := by first | (have h := of_decide_eq_true hc2; omega) | (have h := hc2; simp at h; omega)
   refine S_reg [true, false, true, false] rfl rfl ?_
   refine J_st (R_move rfl) rfl ?_
   refine J_callR Try.call49 rfl rfl (s_l02Any lo vb bs _ hcu (RdD.modR hbs E (.inl (Nat.le_refl _)))) rfl (fun _ w10 e7 hv => ?_)
   obtain ⟨dx4, hcu', hv⟩ := hv
   replace hcu := hcu'
   subst hv
   replace E := E.trans e7 (by omega) (by omega); replace h1 := h1.modR e7 (by omega); replace h2 := h2.modR e7 (by omega)
   have z10 := e7.size
   refine J_st (R_fieldAddr0 fl43_1 rfl) rfl ?_
   refine J_storeS' (cs' := [.int .i64 dx1.op, .int .i64 dx4.epoch, .int .i64 dx4.turn, .int .i64 dx1.key, .int .i64 dx1.val]) st41 rfl rfl rfl rfl h2 (Nat.le_of_ble_eq_true rfl) rfl (fun w11 m4 h2' => ?_)
   replace h2 := h2'
   replace E := E.mod m4 (fun g hg => by cases hg; omega); replace hcu := hcu.mod m4 (fun g hg => by cases hg; omega); replace h1 := h1.mod m4 (fun g hg => by cases hg; omega)
   have z11 := m4.size
   refine J_done ?_
   refine S_nil (E_inB ?_)
   refine S_seq ?_
   refine S_reg [true, false] rfl rfl ?_
   refine J_st (R_loadS st43 rfl h2.at rfl) rfl ?_
   refine J_storeS' (cs' := [.int .i64 ((⟨dx1.op, dx4, dx1.key, dx1.val⟩ : Record).op), .int .i64 (((⟨dx1.op, dx4, dx1.key, dx1.val⟩ : Record).stamp).epoch), .int .i64 (((⟨dx1.op, dx4, dx1.key, dx1.val⟩ : Record).stamp).turn), .int .i64 ((⟨dx1.op, dx4, dx1.key, dx1.val⟩ : Record).key), .int .i64 ((⟨dx1.op, dx4, dx1.key, dx1.val⟩ : Record).val)]) st43 rfl rfl rfl rfl h1 (Nat.le_of_ble_eq_true rfl) rfl (fun w12 m5 h1' => ?_)
   replace h1 := h1'
   replace E := E.mod m5 (fun g hg => by cases hg; omega); replace hcu := hcu.mod m5 (fun g hg => by cases hg; omega); replace h2 := h2.mod m5 (fun g hg => by cases hg; omega)
   have z12 := m5.size
   refine J_done ?_
   refine S_ret (E_doneC rfl rfl (run_loadVar_st st43 h1.at rfl) E ?_)
   exact ⟨(⟨dx1.op, dx4, dx1.key, dx1.val⟩ : Record), hcu, rfl⟩
  ·have hc2n : ¬ dx2 = 1 := by first | (have h := of_decide_eq_false hc2; omega) | (have h := hc2; simp at h; omega)
   refine S_seq ?_
   refine S_reg [true, true] rfl rfl ?_
   refine J_st (R_eql rfl rfl) rfl (J_st (R_assign rfl) rfl (J_done ?_))
   refine S_cond rfl (fun hc3 => ?_) (fun hc3 => ?_)
   ·have hc3n : dx2 = 2 := by first | (have h := of_decide_eq_true hc3; omega) | (have h := hc3; simp at h; omega)
    refine S_reg [true, false, false, true, false] rfl rfl ?_
    refine J_st (R_move rfl) rfl ?_
    refine J_buildSlice (vs := [.int .i64 (-1), .int .i64 99, .int .i64 100, .int .i64 (-9223372036854775808)]) (css := [[.int .i64 (-1)], [.int .i64 99], [.int .i64 100], [.int .i64 (-9223372036854775808)]]) sl29 rfl rfl ⟨⟨rfl, rfl⟩, ⟨rfl, rfl⟩, ⟨rfl, rfl⟩, ⟨rfl, rfl⟩, trivial⟩ rfl rfl (fun b4 w13 e8 s4 h4 => ?_)
    replace h4 : Blk w13 b4 [.int .i64 (-1), .int .i64 99, .int .i64 100, .int .i64 (-9223372036854775808)] := h4
    have g_b4 : w.heap.size ≤ b4 := by have := E.size; omega
    have y_b4 := h4.lt
    replace E := E.ext e8; replace hcu := hcu.ext e8; replace h1 := h1.ext e8; replace h2 := h2.ext e8
    have z13 := e8.size
    refine J_callR Try.call37 rfl rfl (s_l01PickInt lo vb bs (.slice (some ⟨b4, 0, none⟩) 4 4) [(-1), 99, 100, (-9223372036854775808)] _ hcu (RdD.modR hbs E (.inl (Nat.le_refl _))) (fun wX eX => (Blk.rd (α := Int) (xs := [(-1), 99, 100, (-9223372036854775808)]) (by decide) (Blk.modR h4 eX (by omega)) rfl (by simp [maxLen]))) (by decide)) rfl (fun _ w14 e9 hv => ?_)
    obtain ⟨dx5, q4, hcu', hv⟩ := hv
    replace hcu := hcu'
    subst hv
    replace E := E.trans e9 (by omega) (by omega); replace h1 := h1.modR e9 (by omega); replace h2 := h2.modR e9 (by omega); replace h4 := h4.modR e9 (by omega)
    have z14 := e9.size
    refine J_st (R_fieldAddr0 fl43_2 rfl) rfl ?_
    refine J_store' (cs' := [.int .i64 dx1.op, .int .i64 dx1.stamp.epoch, .int .i64 dx1.stamp.turn, .int .i64 dx5, .int .i64 dx1.val]) sc3 rfl rfl rfl h2 (Nat.le_of_ble_eq_true rfl) rfl (fun w15 m6 h2' => ?_)
    replace h2 := h2'
    replace E := E.mod m6 (fun g hg => by cases hg; omega); replace hcu := hcu.mod m6 (fun g hg => by cases hg; omega); replace h1 := h1.mod m6 (fun g hg => by cases hg; omega); replace h4 := h4.mod m6 (fun g hg => by cases hg; omega)
    have z15 := m6.size
    refine J_done ?_
    refine S_nil (E_inB ?_)
    refine S_seq ?_
    refine S_reg [true, false] rfl rfl ?_
    refine J_st (R_loadS st43 rfl h2.at rfl) rfl ?_
    refine J_storeS' (cs' := [.int .i64 ((⟨dx1.op, dx1.stamp, dx5, dx1.val⟩ : Record).op), .int .i64 (((⟨dx1.op, dx1.stamp, dx5, dx1.val⟩ : Record).stamp).epoch), .int .i64 (((⟨dx1.op, dx1.stamp, dx5, dx1.val⟩ : Record).stamp).turn), .int .i64 ((⟨dx1.op, dx1.stamp, dx5, dx1.val⟩ : Record).key), .int .i64 ((⟨dx1.op, dx1.stamp, dx5, dx1.val⟩ : Record).val)]) st43 rfl rfl rfl rfl h1 (Nat.le_of_ble_eq_true rfl) rfl (fun w16 m7 h1' => ?_)
    replace h1 := h1'
    replace E := E.mod m7 (fun g hg => by cases hg; omega); replace hcu := hcu.mod m7 (fun g hg => by cases hg; omega); replace h2 := h2.mod m7 (fun g hg => by cases hg; omega); replace h4 := h4.mod m7 (fun g hg => by cases hg; omega)
    have z16 := m7.size
    refine J_done ?_
    refine S_ret (E_doneC rfl rfl (run_loadVar_st st43 h1.at rfl) E ?_)
    exact ⟨(⟨dx1.op, dx1.stamp, dx5, dx1.val⟩ : Record), hcu, rfl⟩
   ·have hc3n : ¬ dx2 = 2 := by first | (have h := of_decide_eq_false hc3; omega) | (have h := hc3; simp at h; omega)
    refine S_seq ?_
    refine S_reg [true, true] rfl rfl ?_
    refine J_st (R_eql rfl rfl) rfl (J_st (R_assign rfl) rfl (J_done ?_))
    refine S_cond rfl (fun hc4 => ?_) (fun hc4 => ?_)
    ·have hc4n : dx2 = 3 := by first | (have h := of_decide_eq_true hc4; omega) | (have h := hc4; simp at h; omega)
     refine S_reg [true, false, false, true, false] rfl rfl ?_
     refine J_st (R_move rfl) rfl ?_
     refine J_buildSlice (vs := [.int .i64 (-1), .int .i64 999, .int .i64 1000, .int .i64 9223372036854775807]) (css := [[.int .i64 (-1)], [.int .i64 999], [.int .i64 1000], [.int .i64 9223372036854775807]]) sl29 rfl rfl ⟨⟨rfl, rfl⟩, ⟨rfl, rfl⟩, ⟨rfl, rfl⟩, ⟨rfl, rfl⟩, trivial⟩ rfl rfl (fun b5 w17 e10 s5 h5 => ?_)
     replace h5 : Blk w17 b5 [.int .i64 (-1), .int .i64 999, .int .i64 1000, .int .i64 9223372036854775807] := h5
     have g_b5 : w.heap.size ≤ b5 := by have := E.size; omega
     have y_b5 := h5.lt
     replace E := E.ext e10; replace hcu := hcu.ext e10; replace h1 := h1.ext e10; replace h2 := h2.ext e10
     have z17 := e10.size
     refine J_callR Try.call37 rfl rfl (s_l01PickInt lo vb bs (.slice (some ⟨b5, 0, none⟩) 4 4) [(-1), 999, 1000, 9223372036854775807] _ hcu (RdD.modR hbs E (.inl (Nat.le_refl _))) (fun wX eX => (Blk.rd (α := Int) (xs := [(-1), 999, 1000, 9223372036854775807]) (by decide) (Blk.modR h5 eX (by omega)) rfl (by simp [maxLen]))) (by decide)) rfl (fun _ w18 e11 hv => ?_)
     obtain ⟨dx6, q5, hcu', hv⟩ := hv
     replace hcu := hcu'
     subst hv
     replace E := E.trans e11 (by omega) (by omega); replace h1 := h1.modR e11 (by omega); replace h2 := h2.modR e11 (by omega); replace h5 := h5.modR e11 (by omega)
     have z18 := e11.size
     refine J_st (R_fieldAddr0 fl43_3 rfl) rfl ?_
     refine J_store' (cs' := [.int .i64 dx1.op, .int .i64 dx1.stamp.epoch, .int .i64 dx1.stamp.turn, .int .i64 dx1.key, .int .i64 dx6]) sc3 rfl rfl rfl h2 (Nat.le_of_ble_eq_true rfl) rfl (fun w19 m8 h2' => ?_)
     replace h2 := h2'
     replace E := E.mod m8 (fun g hg => by cases hg; omega); replace hcu := hcu.mod m8 (fun g hg => by cases hg; omega); replace h1 := h1.mod m8 (fun g hg => by cases hg; omega); replace h5 := h5.mod m8 (fun g hg => by cases hg; omega)
     have z19 := m8.size
     refine J_done ?_
     refine S_nil (E_inB ?_)
     refine S_seq ?_
     refine S_reg [true, false] rfl rfl ?_
     refine J_st (R_loadS st43 rfl h2.at rfl) rfl ?_
     refine J_storeS' (cs' := [.int .i64 ((⟨dx1.op, dx1.stamp, dx1.key, dx6⟩ : Record).op), .int .i64 (((⟨dx1.op, dx1.stamp, dx1.key, dx6⟩ : Record).stamp).epoch), .int .i64 (((⟨dx1.op, dx1.stamp, dx1.key, dx6⟩ : Record).stamp).turn), .int .i64 ((⟨dx1.op, dx1.stamp, dx1.key, dx6⟩ : Record).key), .int .i64 ((⟨dx1.op, dx1.stamp, dx1.key, dx6⟩ : Record).val)]) st43 rfl rfl rfl rfl h1 (Nat.le_of_ble_eq_true rfl) rfl (fun w20 m9 h1' => ?_)
     replace h1 := h1'
     replace E := E.mod m9 (fun g hg => by cases hg; omega); replace hcu := hcu.mod m9 (fun g hg => by cases hg; omega); replace h2 := h2.mod m9 (fun g hg => by cases hg; omega); replace h5 := h5.mod m9 (fun g hg => by cases hg; omega)
     have z20 := m9.size
     refine J_done ?_
     refine S_ret (E_doneC rfl rfl (run_loadVar_st st43 h1.at rfl) E ?_)
     exact ⟨(⟨dx1.op, dx1.stamp, dx1.key, dx6⟩ : Record), hcu, rfl⟩
    ·have hc4n : ¬ dx2 = 3 := by first | (have h := of_decide_eq_false hc4; omega) | (have h := hc4; simp at h; omega)
     refine S_skip ?_
     refine S_nil (E_inB ?_)
     refine S_seq ?_
     refine S_reg [true, false] rfl rfl ?_
     refine J_st (R_loadS st43 rfl h2.at rfl) rfl ?_
     refine J_storeS' (cs' := [.int .i64 dx1.op, .int .i64 dx1.stamp.epoch, .int .i64 dx1.stamp.turn, .int .i64 dx1.key, .int .i64 dx1.val]) st43 rfl rfl rfl rfl h1 (Nat.le_of_ble_eq_true rfl) rfl (fun w21 m10 h1' => ?_)
     replace h1 := h1'
     replace E := E.mod m10 (fun g hg => by cases hg; omega); replace hcu := hcu.mod m10 (fun g hg => by cases hg; omega); replace h2 := h2.mod m10 (fun g hg => by cases hg; omega)
     have z21 := m10.size
     refine J_done ?_
     refine S_ret (E_doneC rfl rfl (run_loadVar_st st43 h1.at rfl) E ?_)
     exact ⟨dx1, hcu, rfl⟩

set_option maxHeartbeats 4000000 in
set_option maxRecDepth 20000 in
theorem s_l10Record (lo : Nat) (vb : Value) (bs : List Byt) (og : Value) (g : Graph) (w : World) (hcu : CurO w lo vb bs) (hbs : RdD w 0 lo vb bs) (hg : Stab w lo (fun w' => RdD w' 0 w'.heap.size og g.nodes)) : CtR Try.prog 46 [.pointer (some ⟨lo, 0, none⟩), .agg [og, .int .i64 g.workers, .int .i64 g.cap].toArray] w lo (lo + 1) (fun v w' => ∃ (dr0 : Record), CurO w' lo vb bs ∧ v = .agg (Enc.enc dr0).toArray) := by
 have y_lo := CurO.lt hcu
 refine ctR_of Try.func46 rfl Try.ntmps46 rfl ?_
 refine S_sub [(0, .pointer (some ⟨lo, 0, none⟩)), (1, .agg [og, .int .i64 g.workers, .int .i64 g.cap].toArray)] ⟨rfl, rfl, trivial⟩ ?_
 have E : ModR w w lo (lo + 1) := ModR.refl w lo (lo + 1)
 refine S_seq ?_
 refine S_reg [false, false] rfl rfl ?_
 refine J_box rfl rfl (fun b1 w1 e1 s1 h1 => ?_)
 have g_b1 : w.heap.size ≤ b1 := by have := E.size; omega
 have y_b1 := h1.lt
 replace E := E.ext e1; replace hcu := hcu.ext e1
 have z1 := e1.size
 refine J_alloc st43 rfl (fun b2 w2 e2 s2 h2 => ?_)
 have g_b2 : w.heap.size ≤ b2 := by have := E.size; omega
 have y_b2 := h2.lt
 replace E := E.ext e2; replace hcu := hcu.ext e2; replace h1 := h1.ext e2
 have z2 := e2.size
 refine J_done ?_
 refine S_seq ?_
 refine S_reg [true, false, false, false] rfl rfl ?_
 refine J_st (R_move rfl) rfl ?_
 refine J_callR Try.call36 rfl rfl (s_l05Record lo vb bs _ hcu (RdD.modR hbs E (.inl (Nat.le_refl _)))) rfl (fun _ w3 e3 hv => ?_)
 obtain ⟨dx1, hcu', hv⟩ := hv
 replace hcu := hcu'
 subst hv
 replace E := E.trans e3 (by omega) (by omega); replace h1 := h1.modR e3 (by omega); replace h2 := h2.modR e3 (by omega)
 have z3 := e3.size
 refine J_alloc st43 rfl (fun b3 w4 e4 s3 h3 => ?_)
 have g_b3 : w.heap.size ≤ b3 := by have := E.size; omega
 have y_b3 := h3.lt
 replace E := E.ext e4; replace hcu := hcu.ext e4; replace h1 := h1.ext e4; replace h2 := h2.ext e4
 have z4 := e4.size
 refine J_storeS' (cs' := [.int .i64 dx1.op, .int .i64 dx1.stamp.epoch, .int .i64 dx1.stamp.turn, .int .i64 dx1.key, .int .i64 dx1.val]) st43 rfl rfl rfl rfl h3 (Nat.le_of_ble_eq_true rfl) rfl (fun w5 m1 h3' => ?_)
 replace h3 := h3'
 replace E := E.mod m1 (fun g hg => by cases hg; omega); replace hcu := hcu.mod m1 (fun g hg => by cases hg; omega); replace h1 := h1.mod m1 (fun g hg => by cases hg; omega); replace h2 := h2.mod m1 (fun g hg => by cases hg; omega)
 have z5 := m1.size
 refine J_done ?_
 refine S_seq ?_
 refine S_seq ?_
 refine S_reg [true, true, true, true] rfl rfl ?_
 refine J_st (R_fieldAddr0 fl26_0 rfl) rfl (J_st (R_load sc24 rfl (h1.one 0 rfl)) rfl (J_st (R_len Try.underlying24 rfl (hg _ E).len) rfl (J_st (R_gtr rfl rfl) rfl (J_done ?_))))
 refine S_cond rfl (fun hc1 => ?_) (fun hc1 => ?_)
 ·have hc1n : g.nodes.length > 0 := by first | (have h := of_decide_eq_true hc1; omega) | (have h := hc1; simp at h; omega)
  refine S_reg [true, true, true, true, false, true, false] rfl rfl ?_
  refine J_st (R_move rfl) rfl (J_st (R_fieldAddr0 fl26_0 rfl) rfl (J_st (R_load sc24 rfl (h1.one 0 rfl)) rfl (J_st (R_len Try.underlying24 rfl (hg _ E).len) rfl ?_)))
  refine J_callR Try.call16 rfl rfl (s_l01Below lo vb bs ((g.nodes.length : Nat) : Int) _ hcu (RdD.modR hbs E (.inl (Nat.le_refl _)))) rfl (fun _ w6 e5 hv => ?_)
  obtain ⟨dx2, q1, q2, hcu', hv⟩ := hv
  replace hcu := hcu'
  subst hv
  replace E := E.trans e5 (by omega) (by omega); replace h1 := h1.modR e5 (by omega); replace h2 := h2.modR e5 (by omega); replace h3 := h3.modR e5 (by omega)
  have z6 := e5.size
  refine J_st (R_fieldAddr0 fl43_0 rfl) rfl ?_
  refine J_store' (cs' := [.int .i64 ((dx2 : Nat) : Int), .int .i64 dx1.stamp.epoch, .int .i64 dx1.stamp.turn, .int .i64 dx1.key, .int .i64 dx1.val]) sc3 rfl rfl rfl h3 (Nat.le_of_ble_eq_true rfl) rfl (fun w7 m2 h3' => ?_)
  replace h3 := h3'
  replace E := E.mod m2 (fun g hg => by cases hg; omega); replace hcu := hcu.mod m2 (fun g hg => by cases hg; omega); replace h1 := h1.mod m2 (fun g hg => by cases hg; omega); replace h2 := h2.mod m2 (fun g hg => by cases hg; omega)
  have z7 := m2.size
  refine J_done ?_
  refine S_seq ?_
  refine S_seq ?_
  refine S_reg [true, false] rfl rfl ?_
  refine J_st (R_move rfl) rfl ?_
  refine J_callR Try.call33 rfl rfl (s_l01Once lo vb bs 4 _ hcu (RdD.modR hbs E (.inl (Nat.le_refl _)))) rfl (fun _ w8 e6 hv => ?_)
  obtain ⟨dx3, hcu', hv⟩ := hv
  replace hcu := hcu'
  subst hv
  replace E := E.trans e6 (by omega) (by omega); replace h1 := h1.modR e6 (by omega); replace h2 := h2.modR e6 (by omega); replace h3 := h3.modR e6 (by omega)
  have z8 := e6.size
  refine J_done ?_
  refine S_cond rfl (fun hc2 => ?_) (fun hc2 => ?_)
  ·refine S_reg [true, false, true, true, true, false] rfl rfl ?_
   refine J_st (R_move rfl) rfl ?_
   refine J_callR Try.call16 rfl rfl (s_l01Below lo vb bs 2 _ hcu (RdD.modR hbs E (.inl (Nat.le_refl _)))) rfl (fun _ w9 e7 hv => ?_)
   obtain ⟨dx4, q3, q4, hcu', hv⟩ := hv
   replace hcu := hcu'
   subst hv
   replace E := E.trans e7 (by omega) (by omega); replace h1 := h1.modR e7 (by omega); replace h2 := h2.modR e7 (by omega); replace h3 := h3.modR e7 (by omega)
   have z9 := e7.size
   refine J_st (R_add rfl rfl rfl) rfl (J_st (R_fieldAddr0 fl43_1 rfl) rfl (J_st (R_fieldAddr fl41_1 rfl) rfl ?_))
   refine J_store' (cs' := [.int .i64 ((dx2 : Nat) : Int), .int .i64 dx1.stamp.epoch, .int .i64 (IntKind.i64.wrap (5 + ((dx4 : Nat) : Int))), .int .i64 dx1.key, .int .i64 dx1.val]) sc3 rfl rfl rfl h3 (Nat.le_of_ble_eq_true rfl) rfl (fun w10 m3 h3' => ?_)
   replace h3 := h3'
   replace E := E.mod m3 (fun g hg => by cases hg; omega); replace hcu := hcu.mod m3 (fun g hg => by cases hg; omega); replace h1 := h1.mod m3 (fun g hg => by cases hg; omega); replace h2 := h2.mod m3 (fun g hg => by cases hg; omega)
   have z10 := m3.size
   refine J_done ?_
   refine S_seq ?_
   refine S_reg [true, false] rfl rfl ?_
   refine J_st (R_loadS st43 rfl h3.at rfl) rfl ?_
   refine J_storeS' (cs' := [.int .i64 ((⟨((dx2 : Nat) : Int), (⟨dx1.stamp.epoch, IntKind.i64.wrap (5 + ((dx4 : Nat) : Int))⟩ : Stamp), dx1.key, dx1.val⟩ : Record).op), .int .i64 (((⟨((dx2 : Nat) : Int), (⟨dx1.stamp.epoch, IntKind.i64.wrap (5 + ((dx4 : Nat) : Int))⟩ : Stamp), dx1.key, dx1.val⟩ : Record).stamp).epoch), .int .i64 (((⟨((dx2 : Nat) : Int), (⟨dx1.stamp.epoch, IntKind.i64.wrap (5 + ((dx4 : Nat) : Int))⟩ : Stamp), dx1.key, dx1.val⟩ : Record).stamp).turn), .int .i64 ((⟨((dx2 : Nat) : Int), (⟨dx1.stamp.epoch, IntKind.i64.wrap (5 + ((dx4 : Nat) : Int))⟩ : Stamp), dx1.key, dx1.val⟩ : Record).key), .int .i64 ((⟨((dx2 : Nat) : Int), (⟨dx1.stamp.epoch, IntKind.i64.wrap (5 + ((dx4 : Nat) : Int))⟩ : Stamp), dx1.key, dx1.val⟩ : Record).val)]) st43 rfl rfl rfl rfl h2 (Nat.le_of_ble_eq_true rfl) rfl (fun w11 m4 h2' => ?_)
   replace h2 := h2'
   replace E := E.mod m4 (fun g hg => by cases hg; omega); replace hcu := hcu.mod m4 (fun g hg => by cases hg; omega); replace h1 := h1.mod m4 (fun g hg => by cases hg; omega); replace h3 := h3.mod m4 (fun g hg => by cases hg; omega)
   have z11 := m4.size
   refine J_done ?_
   refine S_ret (E_doneC rfl rfl (run_loadVar_st st43 h2.at rfl) E ?_)
   exact ⟨(⟨((dx2 : Nat) : Int), (⟨dx1.stamp.epoch, IntKind.i64.wrap (5 + ((dx4 : Nat) : Int))⟩ : Stamp), dx1.key, dx1.val⟩ : Record), hcu, rfl⟩
  ·refine S_skip ?_
   refine S_seq ?_
   refine S_reg [true, false] rfl rfl ?_
   refine J_st (R_loadS st43 rfl h3.at rfl) rfl ?_
   refine J_storeS' (cs' := [.int .i64 ((⟨((dx2 : Nat) : Int), dx1.stamp, dx1.key, dx1.val⟩ : Record).op), .int .i64 (((⟨((dx2 : Nat) : Int), dx1.stamp, dx1.key, dx1.val⟩ : Record).stamp).epoch), .int .i64 (((⟨((dx2 : Nat) : Int), dx1.stamp, dx1.key, dx1.val⟩ : Record).stamp).turn), .int .i64 ((⟨((dx2 : Nat) : Int), dx1.stamp, dx1.key, dx1.val⟩ : Record).key), .int .i64 ((⟨((dx2 : Nat) : Int), dx1.stamp, dx1.key, dx1.val⟩ : Record).val)]) st43 rfl rfl rfl rfl h2 (Nat.le_of_ble_eq_true rfl) rfl (fun w12 m5 h2' => ?_)
   replace h2 := h2'
   replace E := E.mod m5 (fun g hg => by cases hg; omega); replace hcu := hcu.mod m5 (fun g hg => by cases hg; omega); replace h1 := h1.mod m5 (fun g hg => by cases hg; omega); replace h3 := h3.mod m5 (fun g hg => by cases hg; omega)
   have z12 := m5.size
   refine J_done ?_
   refine S_ret (E_doneC rfl rfl (run_loadVar_st st43 h2.at rfl) E ?_)
   exact ⟨(⟨((dx2 : Nat) : Int), dx1.stamp, dx1.key, dx1.val⟩ : Record), hcu, rfl⟩
 ·have hc1n : ¬ g.nodes.length > 0 := by first | (have h := of_decide_eq_false hc1; omega) | (have h := hc1; simp at h; omega)
  refine S_skip ?_
  refine S_seq ?_
  refine S_seq ?_
  refine S_reg [true, false] rfl rfl ?_
  refine J_st (R_move rfl) rfl ?_
  refine J_callR Try.call33 rfl rfl (s_l01Once lo vb bs 4 _ hcu (RdD.modR hbs E (.inl (Nat.le_refl _)))) rfl (fun _ w13 e8 hv => ?_)
  obtain ⟨dx5, hcu', hv⟩ := hv
  replace hcu := hcu'
  subst hv
  replace E := E.trans e8 (by omega) (by omega); replace h1 := h1.modR e8 (by omega); replace h2 := h2.modR e8 (by omega); replace h3 := h3.modR e8 (by omega)
  have z13 := e8.size
  refine J_done ?_
  refine S_cond rfl (fun hc3 => ?_) (fun hc3 => ?_)
  ·refine S_reg [true, false, true, true, true, false] rfl rfl ?_
   refine J_st (R_move rfl) rfl ?_
   refine J_callR Try.call16 rfl rfl (s_l01Below lo vb bs 2 _ hcu (RdD.modR hbs E (.inl (Nat.le_refl _)))) rfl (fun _ w14 e9 hv => ?_)
   obtain ⟨dx6, q5, q6, hcu', hv⟩ := hv
   replace hcu := hcu'
   subst hv
   replace E := E.trans e9 (by omega) (by omega); replace h1 := h1.modR e9 (by omega); replace h2 := h2.modR e9 (by omega); replace h3 := h3.modR e9 (by omega)
   have z14 := e9.size
   refine J_st (R_add rfl rfl rfl) rfl (J_st (R_fieldAddr0 fl43_1 rfl) rfl (J_st (R_fieldAddr fl41_1 rfl) rfl ?_))
   refine J_store' (cs' := [.int .i64 dx1.op, .int .i64 dx1.stamp.epoch, .int .i64 (IntKind.i64.wrap (5 + ((dx6 : Nat) : Int))), .int .i64 dx1.key, .int .i64 dx1.val]) sc3 rfl rfl rfl h3 (Nat.le_of_ble_eq_true rfl) rfl (fun w15 m6 h3' => ?_)
   replace h3 := h3'
   replace E := E.mod m6 (fun g hg => by cases hg; omega); replace hcu := hcu.mod m6 (fun g hg => by cases hg; omega); replace h1 := h1.mod m6 (fun g hg => by cases hg; omega); replace h2 := h2.mod m6 (fun g hg => by cases hg; omega)
   have z15 := m6.size
   refine J_done ?_
   refine S_seq ?_
   refine S_reg [true, false] rfl rfl ?_
   refine J_st (R_loadS st43 rfl h3.at rfl) rfl ?_
   refine J_storeS' (cs' := [.int .i64 ((⟨dx1.op, (⟨dx1.stamp.epoch, IntKind.i64.wrap (5 + ((dx6 : Nat) : Int))⟩ : Stamp), dx1.key, dx1.val⟩ : Record).op), .int .i64 (((⟨dx1.op, (⟨dx1.stamp.epoch, IntKind.i64.wrap (5 + ((dx6 : Nat) : Int))⟩ : Stamp), dx1.key, dx1.val⟩ : Record).stamp).epoch), .int .i64 (((⟨dx1.op, (⟨dx1.stamp.epoch, IntKind.i64.wrap (5 + ((dx6 : Nat) : Int))⟩ : Stamp), dx1.key, dx1.val⟩ : Record).stamp).turn), .int .i64 ((⟨dx1.op, (⟨dx1.stamp.epoch, IntKind.i64.wrap (5 + ((dx6 : Nat) : Int))⟩ : Stamp), dx1.key, dx1.val⟩ : Record).key), .int .i64 ((⟨dx1.op, (⟨dx1.stamp.epoch, IntKind.i64.wrap (5 + ((dx6 : Nat) : Int))⟩ : Stamp), dx1.key, dx1.val⟩ : Record).val)]) st43 rfl rfl rfl rfl h2 (Nat.le_of_ble_eq_true rfl) rfl (fun w16 m7 h2' => ?_)
   replace h2 := h2'
   replace E := E.mod m7 (fun g hg => by cases hg; omega); replace hcu := hcu.mod m7 (fun g hg => by cases hg; omega); replace h1 := h1.mod m7 (fun g hg => by cases hg; omega); replace h3 := h3.mod m7 (fun g hg => by cases hg; omega)
   have z16 := m7.size
   refine J_done ?_
   refine S_ret (E_doneC rfl rfl (run_loadVar_st st43 h2.at rfl) E ?_)
   exact ⟨(⟨dx1.op, (⟨dx1.stamp.epoch, IntKind.i64.wrap (5 + ((dx6 : Nat) : Int))⟩ : Stamp), dx1.key, dx1.val⟩ : Record), hcu, rfl⟩
  ·refine S_skip ?_
   refine S_seq ?_
   refine S_reg [true, false] rfl rfl ?_
   refine J_st (R_loadS st43 rfl h3.at rfl) rfl ?_
   refine J_storeS' (cs' := [.int .i64 dx1.op, .int .i64 dx1.stamp.epoch, .int .i64 dx1.stamp.turn, .int .i64 dx1.key, .int .i64 dx1.val]) st43 rfl rfl rfl rfl h2 (Nat.le_of_ble_eq_true rfl) rfl (fun w17 m8 h2' => ?_)
   replace h2 := h2'
   replace E := E.mod m8 (fun g hg => by cases hg; omega); replace hcu := hcu.mod m8 (fun g hg => by cases hg; omega); replace h1 := h1.mod m8 (fun g hg => by cases hg; omega); replace h3 := h3.mod m8 (fun g hg => by cases hg; omega)
   have z17 := m8.size
   refine J_done ?_
   refine S_ret (E_doneC rfl rfl (run_loadVar_st st43 h2.at rfl) E ?_)
   exact ⟨dx1, hcu, rfl⟩

set_option maxRecDepth 20000 in
theorem l_sameRecords (vxs : Value) (xs : List Record) (vys : Value) (ys : List Record) (w : World) (hxs : RdS w vxs xs) (hys : RdS w vys ys) : Ct Try.prog 18 [vxs, vys] w (fun v _ => v = .bool (decide (xs = ys))) := by
 refine ct_of Try.func18 rfl Try.ntmps18 rfl ?_
 refine S_sub [(0, vxs), (1, vys)] ⟨rfl, rfl, trivial⟩ ?_
 have E : Ext w w := Ext.refl w
 refine S_seq ?_
 refine S_reg [true] rfl rfl ?_
 refine J_st (R_assign rfl) rfl (J_done ?_)
 refine S_seq ?_
 refine S_seq ?_
 refine S_reg [true, true, true, true, true] rfl rfl ?_
 refine J_st (R_move rfl) rfl (J_st (R_len Try.underlying27 rfl (hxs.ext E).len) rfl (J_st (R_move rfl) rfl (J_st (R_len Try.underlying27 rfl (hys.ext E).len) rfl (J_st (R_neq rfl rfl) rfl (J_done ?_)))))
 refine S_cond rfl (fun hc1 => ?_) (fun hc1 => ?_)
 ·have hc1n : ¬ xs.length = ys.length := by first | (have h := of_decide_eq_true hc1; omega) | (have h := hc1; simp at h; omega)
  refine S_seq ?_
  refine S_reg [true] rfl rfl ?_
  refine J_st (R_assign rfl) rfl (J_done ?_)
  refine S_ret (E_done1 rfl rfl E ?_)
  simp [eq_len hc1n]
 ·have hc1n : xs.length = ys.length := by first | (have h := of_decide_eq_false hc1; omega) | (have h := hc1; simp at h; omega)
  refine S_skip ?_
  refine S_seq ?_
  refine S_seq ?_
  refine S_reg [true] rfl rfl ?_
  refine J_st (R_assign rfl) rfl (J_done ?_)
  refine S_block ?_
  refine S_loop (fun (k : Nat) => [(0, vxs), (1, vys), (4, .bool false), (5, .int .i64 ((k : Nat) : Int))]) (fun (k : Nat) w' => Ext w w' ∧ w.heap.size ≤ w'.heap.size ∧ k ≤ xs.length ∧ xs.take k = ys.take k) (fun (k : Nat) => xs.length - k) 0 ⟨rfl, rfl, rfl, rfl, trivial⟩ ⟨E, Nat.le_refl _, Nat.zero_le _, rfl⟩ ?_
  clear E
  rintro k w1 ⟨E, z1, hk, hp⟩
  refine S_seq ?_
  refine S_seq ?_
  refine S_reg [true, true, true, true] rfl rfl ?_
  refine J_st (R_move rfl) rfl (J_st (R_move rfl) rfl (J_st (R_len Try.underlying27 rfl (hxs.ext E).len) rfl (J_st (R_lss rfl rfl) rfl (J_done ?_))))
  refine S_cond rfl (fun hc2 => ?_) (fun hc2 => ?_)
  ·have hc2n : k < xs.length := by first | (have h := of_decide_eq_true hc2; omega) | (have h := hc2; simp at h; omega)
   refine S_skip ?_
   refine S_seq ?_
   refine S_block ?_
   refine S_seq ?_
   refine S_regD mixed [(0, true), (1, true), (2, true), (3, true), (4, true), (5, true), (6, true), (7, true), (8, true)] (by decide +kernel) rfl (fun w2 e1 => ?_)
   replace E := E.trans e1
   have z2 := e1.size
   refine J_st (R_move rfl) rfl (J_st (R_move rfl) rfl ?_)
   have hi1 : k < xs.length := (by first | assumption | omega | (simp only [List.length_set]; first | assumption | omega) | (simp only [List.getElem_set_self, List.length_set]; first | assumption | omega) | (simp only [setW, setLk, List.length_set]; first | assumption | omega) | (simp; done))
   refine J_st (R_index (i := k) sl27 rfl rfl (hxs.ext E) hi1) rfl (J_st (R_loadS st43 rfl ((hxs.ext E).get hi1) rfl) rfl (J_st (R_move rfl) rfl (J_st (R_move rfl) rfl ?_)))
   have hi2 : k < ys.length := (by first | assumption | omega | (simp only [List.length_set]; first | assumption | omega) | (simp only [List.getElem_set_self, List.length_set]; first | assumption | omega) | (simp only [setW, setLk, List.length_set]; first | assumption | omega) | (simp; done))
   refine J_st (R_index (i := k) sl27 rfl rfl (hys.ext E) hi2) rfl (J_st (R_loadS st43 rfl ((hys.ext E).get hi2) rfl) rfl (J_st (R_neqS (ne43 (xs[k]'hi1) (ys[k]'hi2)) eqg43 rfl rfl) rfl (J_done ?_)))
   refine S_cond rfl (fun hc3 => ?_) (fun hc3 => ?_)
   ·refine S_seq ?_
    refine S_reg [true] rfl rfl ?_
    refine J_st (R_assign rfl) rfl (J_done ?_)
    refine S_ret (E_inB_ret (E_lp_ret (E_inB_ret (E_done1 rfl rfl E ?_))))
    exact eqS_no (by omega) (by omega) (by simpa using hc3)
   ·refine S_skip ?_
    refine S_nil (E_inB ?_)
    refine S_reg [true, true, true] rfl rfl ?_
    refine J_st (R_move rfl) rfl (J_st (R_add rfl rfl (add_one hc2n hxs.1)) rfl (J_st (R_assign rfl) rfl (J_done ?_)))
    refine S_nil (E_again (k + 1) (by omega) ⟨rfl, rfl, rfl, rfl, trivial⟩ ⟨E, (by omega), (by omega), eqS_step hp (by assumption) (by omega) (by simpa using hc3)⟩)
  ·have hc2n : ¬ k < xs.length := by first | (have h := of_decide_eq_false hc2; omega) | (have h := hc2; simp at h; omega)
   refine S_exit (E_lp_exit (E_inB_exit ?_))
   refine S_seq ?_
   refine S_reg [true] rfl rfl ?_
   refine J_st (R_assign rfl) rfl (J_done ?_)
   refine S_ret (E_done1 rfl rfl E ?_)
   exact eqS_yes hp hc1n (by omega)

set_option maxRecDepth 20000 in
theorem s_l11Inputs (lo : Nat) (vb : Value) (bs : List Byt) (w : World) (hcu : CurO w lo vb bs) (hbs : RdD w 0 lo vb bs) : CtR Try.prog 43 [.pointer (some ⟨lo, 0, none⟩)] w lo (lo + 1) (fun v w' => ∃ (dr0 : List Record), dr0.length ≤ 10 ∧ CurO w' lo vb bs ∧ Own w' w.heap.size w'.heap.size 5 v (List.flatMap (Enc.enc (α := Record)) dr0)) := by
 have y_lo := CurO.lt hcu
 refine ctR_of Try.func43 rfl Try.ntmps43 rfl ?_
 refine S_sub [(0, .pointer (some ⟨lo, 0, none⟩))] ⟨rfl, trivial⟩ ?_
 have E : ModR w w lo (lo + 1) := ModR.refl w lo (lo + 1)
 refine S_seq ?_
 refine S_reg [true] rfl rfl ?_
 refine J_st (R_assign rfl) rfl (J_done ?_)
 refine S_seq ?_
 refine S_reg [false, true] rfl rfl ?_
 refine J_buildSlice (vs := []) (css := []) sl27 rfl rfl trivial rfl rfl (fun b1 w1 e1 s1 h1 => ?_)
 replace h1 : Blk w1 b1 [] := h1
 have g_b1 : w.heap.size ≤ b1 := by have := E.size; omega
 have y_b1 := h1.lt
 replace E := E.ext e1; replace hcu := hcu.ext e1
 have z1 := e1.size
 refine J_st (R_assign rfl) rfl (J_done ?_)
 refine S_seq ?_
 refine S_reg [true] rfl rfl ?_
 refine J_st (R_assign rfl) rfl (J_done ?_)
 refine S_seq ?_
 refine S_seq ?_
 refine S_reg [true] rfl rfl ?_
 refine J_st (R_assign rfl) rfl (J_done ?_)
 refine S_block ?_
 refine S_loop (fun (xq : Nat × Value × List Record × Int) => let ⟨k, vo, ls, ep⟩ := xq; [(0, .pointer (some ⟨lo, 0, none⟩)), (2, .slice none 0 0), (3, vo), (4, .int .i64 ep), (5, .int .i64 ((k : Nat) : Int))]) (fun (xq : Nat × Value × List Record × Int) w' => let ⟨k, vo, ls, ep⟩ := xq; ModR w w' lo (lo + 1) ∧ w1.heap.size ≤ w'.heap.size ∧ CurO w' lo vb bs ∧ k ≤ 6 ∧ ls.length ≤ k ∧ Own w' w.heap.size w'.heap.size 5 vo (List.flatMap (Enc.enc (α := Record)) ls)) (fun (xq : Nat × Value × List Record × Int) => let ⟨k, vo, ls, ep⟩ := xq; 6 - k) (0, .slice (some ⟨b1, 0, none⟩) 0 0, [], 0) ⟨rfl, rfl, rfl, rfl, rfl, trivial⟩ ⟨E, Nat.le_refl _, hcu, Nat.zero_le _, Nat.le_refl _, Own.fin (Own.ofBlk (lo := b1) (hi := b1 + 1) (sz := 5) h1 (Nat.le_refl _) (Nat.lt_succ_self _) (by simp) (by simp [maxLen])) (by omega) (by omega) rfl⟩ ?_
 clear E hcu h1
 rintro ⟨k, vo, ls, ep⟩ w2 ⟨E, z2, hcu, hk, hls, ho⟩
 refine S_sub [(0, .pointer (some ⟨lo, 0, none⟩)), (2, .slice none 0 0), (3, vo), (4, .int .i64 ep), (5, .int .i64 ((k : Nat) : Int))] ⟨rfl, rfl, rfl, rfl, rfl, trivial⟩ ?_
 refine S_seq ?_
 refine S_seq ?_
 refine S_reg [true, true, false, true] rfl rfl ?_
 refine J_st (R_move rfl) rfl (J_st (R_move rfl) rfl ?_)
 refine J_callR Try.call16 rfl rfl (s_l01Below lo vb bs 6 _ hcu (RdD.modR hbs E (.inl (Nat.le_refl _)))) rfl (fun _ w3 e2 hv => ?_)
 obtain ⟨dx1, q1, q2, hcu', hv⟩ := hv
 replace hcu := hcu'
 subst hv
 replace E := E.trans e2 (by omega) (by omega); replace ho := ho.modR e2 (by omega)
 have z3 := e2.size
 refine J_st (R_lss rfl rfl) rfl (J_done ?_)
 refine S_cond rfl (fun hc1 => ?_) (fun hc1 => ?_)
 ·have hc1n : k < dx1 := by first | (have h := of_decide_eq_true hc1; omega) | (have h := hc1; simp at h; omega)
  refine S_skip ?_
  refine S_seq ?_
  refine S_block ?_
  refine S_seq ?_
  refine S_reg [true, true, false, true, false, true] rfl rfl ?_
  refine J_st (R_move rfl) rfl (J_st (R_move rfl) rfl ?_)
  refine J_callR Try.call16 rfl rfl (s_l01Below lo vb bs 2 _ hcu (RdD.modR hbs E (.inl (Nat.le_refl _)))) rfl (fun _ w4 e3 hv => ?_)
  obtain ⟨dx2, q3, q4, hcu', hv⟩ := hv
  replace hcu := hcu'
  subst hv
  replace E := E.trans e3 (by omega) (by omega); replace ho := ho.modR e3 (by omega)
  have z4 := e3.size
  refine J_st (R_add rfl rfl rfl) rfl ?_
  refine J_call Try.call55 rfl (s_Brought (IntKind.i64.wrap (ep + ((dx2 : Nat) : Int))) 0 2 _ ) rfl (fun _ w5 e4 hv => ?_)
  subst hv
  replace E := E.ext e4; replace hcu := hcu.ext e4; replace ho := ho.ext e4
  have z5 := e4.size
  refine J_st (R_assign rfl) rfl (J_done ?_)
  refine S_reg [true, true, true, true, false, true, false, true, false, false, true] rfl rfl ?_
  refine J_st (R_move rfl) rfl (J_st (R_move rfl) rfl (J_st (R_build (⟨brM (IntKind.i64.wrap (ep + ((dx2 : Nat) : Int))) 0 2, 0⟩ : Stamp) rfl (fun _ => by kernel_rfl)) rfl (J_st (R_move rfl) rfl ?_)))
  refine J_callR Try.call16 rfl rfl (s_l01Below lo vb bs 12 _ hcu (RdD.modR hbs E (.inl (Nat.le_refl _)))) rfl (fun _ w6 e5 hv => ?_)
  obtain ⟨dx3, q5, q6, hcu', hv⟩ := hv
  replace hcu := hcu'
  subst hv
  replace E := E.trans e5 (by omega) (by omega); replace ho := ho.modR e5 (by omega)
  have z6 := e5.size
  refine J_st (R_move rfl) rfl ?_
  refine J_callR Try.call16 rfl rfl (s_l01Below lo vb bs 40 _ hcu (RdD.modR hbs E (.inl (Nat.le_refl _)))) rfl (fun _ w7 e6 hv => ?_)
  obtain ⟨dx4, q7, q8, hcu', hv⟩ := hv
  replace hcu := hcu'
  subst hv
  replace E := E.trans e6 (by omega) (by omega); replace ho := ho.modR e6 (by omega)
  have z7 := e6.size
  refine J_st (R_build (⟨0, (⟨brM (IntKind.i64.wrap (ep + ((dx2 : Nat) : Int))) 0 2, 0⟩ : Stamp), ((dx3 : Nat) : Int), ((dx4 : Nat) : Int)⟩ : Record) rfl (fun _ => by kernel_rfl)) rfl ?_
  refine J_buildSlice (vs := [.agg (Enc.enc (⟨0, (⟨brM (IntKind.i64.wrap (ep + ((dx2 : Nat) : Int))) 0 2, 0⟩ : Stamp), ((dx3 : Nat) : Int), ((dx4 : Nat) : Int)⟩ : Record)).toArray]) (css := [[.int .i64 ((⟨0, (⟨brM (IntKind.i64.wrap (ep + ((dx2 : Nat) : Int))) 0 2, 0⟩ : Stamp), ((dx3 : Nat) : Int), ((dx4 : Nat) : Int)⟩ : Record).op), .int .i64 (((⟨0, (⟨brM (IntKind.i64.wrap (ep + ((dx2 : Nat) : Int))) 0 2, 0⟩ : Stamp), ((dx3 : Nat) : Int), ((dx4 : Nat) : Int)⟩ : Record).stamp).epoch), .int .i64 (((⟨0, (⟨brM (IntKind.i64.wrap (ep + ((dx2 : Nat) : Int))) 0 2, 0⟩ : Stamp), ((dx3 : Nat) : Int), ((dx4 : Nat) : Int)⟩ : Record).stamp).turn), .int .i64 ((⟨0, (⟨brM (IntKind.i64.wrap (ep + ((dx2 : Nat) : Int))) 0 2, 0⟩ : Stamp), ((dx3 : Nat) : Int), ((dx4 : Nat) : Int)⟩ : Record).key), .int .i64 ((⟨0, (⟨brM (IntKind.i64.wrap (ep + ((dx2 : Nat) : Int))) 0 2, 0⟩ : Stamp), ((dx3 : Nat) : Int), ((dx4 : Nat) : Int)⟩ : Record).val)]]) sl27 rfl rfl ⟨⟨rfl, rfl⟩, trivial⟩ rfl rfl (fun b2 w8 e7 s2 h2 => ?_)
  replace h2 : Blk w8 b2 [.int .i64 ((⟨0, (⟨brM (IntKind.i64.wrap (ep + ((dx2 : Nat) : Int))) 0 2, 0⟩ : Stamp), ((dx3 : Nat) : Int), ((dx4 : Nat) : Int)⟩ : Record).op), .int .i64 (((⟨0, (⟨brM (IntKind.i64.wrap (ep + ((dx2 : Nat) : Int))) 0 2, 0⟩ : Stamp), ((dx3 : Nat) : Int), ((dx4 : Nat) : Int)⟩ : Record).stamp).epoch), .int .i64 (((⟨0, (⟨brM (IntKind.i64.wrap (ep + ((dx2 : Nat) : Int))) 0 2, 0⟩ : Stamp), ((dx3 : Nat) : Int), ((dx4 : Nat) : Int)⟩ : Record).stamp).turn), .int .i64 ((⟨0, (⟨brM (IntKind.i64.wrap (ep + ((dx2 : Nat) : Int))) 0 2, 0⟩ : Stamp), ((dx3 : Nat) : Int), ((dx4 : Nat) : Int)⟩ : Record).key), .int .i64 ((⟨0, (⟨brM (IntKind.i64.wrap (ep + ((dx2 : Nat) : Int))) 0 2, 0⟩ : Stamp), ((dx3 : Nat) : Int), ((dx4 : Nat) : Int)⟩ : Record).val)] := h2
  have g_b2 : w.heap.size ≤ b2 := by have := E.size; omega
  have y_b2 := h2.lt
  replace E := E.ext e7; replace hcu := hcu.ext e7; replace ho := ho.ext e7
  have z8 := e7.size
  refine J_append sl27 rfl rfl ho (Src.ofBlk h2 rfl) rfl (by simp only [sum_flat, List.length_cons, List.length_nil]; simp only [Enc.sz]; omega) (by decide) (by omega) (by omega) rfl rfl (fun v1 w9 m1 ho1 => ?_)
  replace E := E.mod m1 (fun g hg => by have := Own.blk ho g hg; omega); replace hcu := hcu.mod m1 (fun g hg => by have := Own.blk ho g hg; omega)
  have z9 := m1.size
  refine J_st (R_assign rfl) rfl (J_done ?_)
  refine S_nil (E_inB ?_)
  refine S_reg [true, true, true] rfl rfl ?_
  refine J_st (R_move rfl) rfl (J_st (R_add rfl rfl (add_nat (by unfold maxLen; omega))) rfl (J_st (R_assign rfl) rfl (J_done ?_)))
  refine S_nil (E_again (k + 1, v1, (ls ++ [(⟨0, (⟨brM (IntKind.i64.wrap (ep + ((dx2 : Nat) : Int))) 0 2, 0⟩ : Stamp), ((dx3 : Nat) : Int), ((dx4 : Nat) : Int)⟩ : Record)]), (brM (IntKind.i64.wrap (ep + ((dx2 : Nat) : Int))) 0 2)) (by simp; omega) ⟨rfl, rfl, rfl, rfl, rfl, trivial⟩ ⟨E, (by omega), hcu, (by omega), (by simp; omega), Own.fin ho1 (by omega) (by omega) (by first | (simp [*]; done) | (simp [Enc.enc]; done))⟩)
 ·have hc1n : ¬ k < dx1 := by first | (have h := of_decide_eq_false hc1; omega) | (have h := hc1; simp at h; omega)
  refine S_exit (E_lp_exit (E_inB_exit ?_))
  refine S_seq ?_
  refine S_reg [true, true] rfl rfl ?_
  refine J_st (R_move rfl) rfl (J_st (R_assign rfl) rfl (J_done ?_))
  refine S_ret (E_done1 rfl rfl E ?_)
  exact ⟨ls, (by omega), hcu, Own.fin ho (by have := E.size; omega) (by omega) (by first | (simp [*]; done) | (simp [*]; rfl))⟩

set_option maxHeartbeats 4000000 in
set_option maxRecDepth 20000 in
theorem s_l12Worker (lo : Nat) (vb : Value) (bs : List Byt) (og : Value) (g : Graph) (w : World) (hcu : CurO w lo vb bs) (hbs : RdD w 0 lo vb bs) (hg : Stab w lo (fun w' => RdD w' 0 w'.heap.size og g.nodes)) (hcg : cntGraph g ≤ 1048576) : CtR Try.prog 34 [.pointer (some ⟨lo, 0, none⟩), .agg [og, .int .i64 g.workers, .int .i64 g.cap].toArray] w lo (lo + 1) (fun v w' => ∃ (dr0 : Worker), cntWorker dr0 ≤ 100 ∧ dr0.sums.length = 4 ∧ CurO w' lo vb bs ∧ ∃ cs, v = .agg cs.toArray ∧ Own1.O w' w.heap.size w'.heap.size cs dr0) := by
 have y_lo := CurO.lt hcu
 refine ctR_of Try.func34 rfl Try.ntmps34 rfl ?_
 refine S_sub [(0, .pointer (some ⟨lo, 0, none⟩)), (1, .agg [og, .int .i64 g.workers, .int .i64 g.cap].toArray)] ⟨rfl, rfl, trivial⟩ ?_
 have E : ModR w w lo (lo + 1) := ModR.refl w lo (lo + 1)
 refine S_seq ?_
 refine S_reg [false, false] rfl rfl ?_
 refine J_box rfl rfl (fun b1 w1 e1 s1 h1 => ?_)
 have g_b1 : w.heap.size ≤ b1 := by have := E.size; omega
 have y_b1 := h1.lt
 replace E := E.ext e1; replace hcu := hcu.ext e1
 have z1 := e1.size
 refine J_alloc st33 rfl (fun b2 w2 e2 s2 h2 => ?_)
 have g_b2 : w.heap.size ≤ b2 := by have := E.size; omega
 have y_b2 := h2.lt
 replace E := E.ext e2; replace hcu := hcu.ext e2; replace h1 := h1.ext e2
 have z2 := e2.size
 refine J_done ?_
 refine S_seq ?_
 refine S_reg [true, false, false, false, false] rfl rfl ?_
 refine J_st (R_move rfl) rfl ?_
 refine J_callR Try.call43 rfl rfl (s_l11Inputs lo vb bs _ hcu (RdD.modR hbs E (.inl (Nat.le_refl _)))) rfl (fun v1 w3 e3 ho1 => ?_)
 obtain ⟨dx1, q1, hcu', ho1⟩ := ho1
 replace hcu := hcu'
 have g_ho1 : w.heap.size ≤ w2.heap.size := E.size
 replace E := E.trans e3 (by omega) (by omega); replace h1 := h1.modR e3 (by omega); replace h2 := h2.modR e3 (by omega)
 have z3 := e3.size
 refine J_call Try.call8 rfl (s_WorkerNew v1 dx1 _ (Own.rd (by decide) ho1) (by omega)) rfl (fun _ w4 e4 ho2 => ?_)
 obtain ⟨_, rfl, ho2⟩ := ho2
 have g_ho2 : w.heap.size ≤ w3.heap.size := E.size
 replace E := E.ext e4; replace hcu := hcu.ext e4; replace h1 := h1.ext e4; replace h2 := h2.ext e4; replace ho1 := ho1.ext e4
 have z4 := e4.size
 obtain ⟨o1, o2, o3, o4, o5, o6, o7, o8, rfl, sp1, hw1, hw2, hw3, hw4, hw5, hw6, hw7, hw8⟩ := Worker.opO ho2
 refine J_alloc st33 rfl (fun b3 w5 e5 s3 h3 => ?_)
 have g_b3 : w.heap.size ≤ b3 := by have := E.size; omega
 have y_b3 := h3.lt
 replace E := E.ext e5; replace hcu := hcu.ext e5; replace h1 := h1.ext e5; replace h2 := h2.ext e5; replace ho1 := ho1.ext e5; replace hw1 := hw1.ext e5; replace hw2 := hw2.ext e5; replace hw3 := hw3.ext e5; replace hw4 := hw4.ext e5; replace hw5 := hw5.ext e5; replace hw6 := hw6.ext e5; replace hw7 := hw7.ext e5; replace hw8 := hw8.ext e5
 have z5 := e5.size
 refine J_storeS' (cs' := [o1, o2, o3, o4, o5, o6, o7, o8]) st33 rfl rfl rfl (all_cons hw1.one (all_cons hw2.one (all_cons hw3.one (all_cons hw4.one (all_cons hw5.one (all_cons hw6.one (all_cons hw7.one (all_cons hw8.one rfl)))))))) h3 (Nat.le_of_ble_eq_true rfl) rfl (fun w6 m1 h3' => ?_)
 replace h3 := h3'
 replace E := E.mod m1 (fun g hg => by cases hg; omega); replace hcu := hcu.mod m1 (fun g hg => by cases hg; omega); replace h1 := h1.mod m1 (fun g hg => by cases hg; omega); replace h2 := h2.mod m1 (fun g hg => by cases hg; omega); replace ho1 := ho1.mod m1 (fun g hg => by cases hg; omega); replace hw1 := hw1.mod m1 (fun g hg => by cases hg; omega); replace hw2 := hw2.mod m1 (fun g hg => by cases hg; omega); replace hw3 := hw3.mod m1 (fun g hg => by cases hg; omega); replace hw4 := hw4.mod m1 (fun g hg => by cases hg; omega); replace hw5 := hw5.mod m1 (fun g hg => by cases hg; omega); replace hw6 := hw6.mod m1 (fun g hg => by cases hg; omega); replace hw7 := hw7.mod m1 (fun g hg => by cases hg; omega); replace hw8 := hw8.mod m1 (fun g hg => by cases hg; omega)
 have z6 := m1.size
 refine J_done ?_
 refine S_seq ?_
 refine S_seq ?_
 refine S_reg [true] rfl rfl ?_
 refine J_st (R_assign rfl) rfl (J_done ?_)
 refine S_block ?_
 refine S_loop (fun (xq : Nat × Nat × Nat × Value × Value × Value × Value × Value × Value × Value × Value × Worker) => let ⟨k, plo, phi, p1, p2, p3, p4, p5, p6, p7, p8, wx⟩ := xq; [(0, .pointer (some ⟨lo, 0, none⟩)), (3, .pointer (some ⟨b1, 0, none⟩)), (4, .pointer (some ⟨b2, 0, none⟩)), (5, .pointer (some ⟨b3, 0, none⟩)), (6, .int .i64 ((k : Nat) : Int))]) (fun (xq : Nat × Nat × Nat × Value × Value × Value × Value × Value × Value × Value × Value × Worker) w' => let ⟨k, plo, phi, p1, p2, p3, p4, p5, p6, p7, p8, wx⟩ := xq; ModR w w' lo (lo + 1) ∧ w6.heap.size ≤ w'.heap.size ∧ CurO w' lo vb bs ∧ Blk w' b1 ([og, .int .i64 g.workers, .int .i64 g.cap]) ∧ Blk w' b2 [.slice none 0 0, .slice none 0 0, .slice none 0 0, .slice none 0 0, .slice none 0 0, .slice none 0 0, .slice none 0 0, .slice none 0 0] ∧ Own w' w2.heap.size w3.heap.size 5 v1 (List.flatMap (Enc.enc (α := Record)) dx1) ∧ k ≤ 8 ∧ cntWorker wx ≤ 60 + 4 * k ∧ wx.sums.length = 4 ∧ phi ≤ w'.heap.size ∧ (phi ≤ b3 ∨ b3 < plo) ∧ w3.heap.size ≤ plo ∧ Own1.O (α := Worker) w' plo phi [p1, p2, p3, p4, p5, p6, p7, p8] wx ∧ Blk w' b3 [p1, p2, p3, p4, p5, p6, p7, p8]) (fun (xq : Nat × Nat × Nat × Value × Value × Value × Value × Value × Value × Value × Value × Worker) => let ⟨k, plo, phi, p1, p2, p3, p4, p5, p6, p7, p8, wx⟩ := xq; 8 - k) (0, w3.heap.size, w4.heap.size, o1, o2, o3, o4, o5, o6, o7, o8, (workerNew dx1)) ⟨rfl, rfl, rfl, rfl, rfl, trivial⟩ ⟨E, Nat.le_refl _, hcu, h1, h2, ho1, Nat.zero_le _, (by rw [cnt_new]; omega), rfl, (by omega), (by omega), (by omega), (Worker.mkO (workerNew dx1) sp1 (Own.widen hw1 (by omega) (by omega)) (Own.widen hw2 (by omega) (by omega)) (Own.widen hw3 (by omega) (by omega)) (Own.widen hw4 (by omega) (by omega)) (Own.widen hw5 (by omega) (by omega)) (Own.widen hw6 (by omega) (by omega)) (Own.widen hw7 (by omega) (by omega)) (Own.widen hw8 (by omega) (by omega))), h3⟩ ?_
 clear E hcu h1 h2 ho1 hw1 hw2 hw3 hw4 hw5 hw6 hw7 hw8 h3
 rintro ⟨k, plo, phi, p1, p2, p3, p4, p5, p6, p7, p8, wx⟩ w7 ⟨E, z7, hcu, h1, h2, ho1, hk, hcw, hsm, hpa, hpb, hpc, hP, h3⟩
 refine S_sub [(0, .pointer (some ⟨lo, 0, none⟩)), (3, .pointer (some ⟨b1, 0, none⟩)), (4, .pointer (some ⟨b2, 0, none⟩)), (5, .pointer (some ⟨b3, 0, none⟩)), (6, .int .i64 ((k : Nat) : Int))] ⟨rfl, rfl, rfl, rfl, rfl, trivial⟩ ?_
 obtain ⟨gP, hp1, hp2, hp3, hp4, hp5, hp6, hp7, hp8⟩ := Worker.opL hP
 clear hP
 refine S_seq ?_
 refine S_seq ?_
 refine S_reg [true, true, false, true] rfl rfl ?_
 refine J_st (R_move rfl) rfl (J_st (R_move rfl) rfl ?_)
 refine J_callR Try.call16 rfl rfl (s_l01Below lo vb bs 8 _ hcu (RdD.modR hbs E (.inl (Nat.le_refl _)))) rfl (fun _ w8 e6 hv => ?_)
 obtain ⟨dx2, q2, q3, hcu', hv⟩ := hv
 replace hcu := hcu'
 subst hv
 replace E := E.trans e6 (by omega) (by omega); replace h1 := h1.modR e6 (by omega); replace h2 := h2.modR e6 (by omega); replace ho1 := ho1.modR e6 (by omega); replace hp1 := hp1.modR e6 (by omega); replace hp2 := hp2.modR e6 (by omega); replace hp3 := hp3.modR e6 (by omega); replace hp4 := hp4.modR e6 (by omega); replace hp5 := hp5.modR e6 (by omega); replace hp6 := hp6.modR e6 (by omega); replace hp7 := hp7.modR e6 (by omega); replace hp8 := hp8.modR e6 (by omega); replace h3 := h3.modR e6 (by omega)
 have z8 := e6.size
 refine J_st (R_lss rfl rfl) rfl (J_done ?_)
 refine S_cond rfl (fun hc1 => ?_) (fun hc1 => ?_)
 ·have hc1n : k < dx2 := by first | (have h := of_decide_eq_true hc1; omega) | (have h := hc1; simp at h; omega)
  refine S_skip ?_
  refine S_seq ?_
  refine S_block ?_
  refine S_seq ?_
  refine S_reg [true, false] rfl rfl ?_
  refine J_st (R_move rfl) rfl ?_
  refine J_callR Try.call16 rfl rfl (s_l01Below lo vb bs 5 _ hcu (RdD.modR hbs E (.inl (Nat.le_refl _)))) rfl (fun _ w9 e7 hv => ?_)
  obtain ⟨dx3, q4, q5, hcu', hv⟩ := hv
  replace hcu := hcu'
  subst hv
  replace E := E.trans e7 (by omega) (by omega); replace h1 := h1.modR e7 (by omega); replace h2 := h2.modR e7 (by omega); replace ho1 := ho1.modR e7 (by omega); replace hp1 := hp1.modR e7 (by omega); replace hp2 := hp2.modR e7 (by omega); replace hp3 := hp3.modR e7 (by omega); replace hp4 := hp4.modR e7 (by omega); replace hp5 := hp5.modR e7 (by omega); replace hp6 := hp6.modR e7 (by omega); replace hp7 := hp7.modR e7 (by omega); replace hp8 := hp8.modR e7 (by omega); replace h3 := h3.modR e7 (by omega)
  have z9 := e7.size
  refine J_done ?_
  refine S_block ?_
  refine S_seq ?_
  refine S_reg [true, true] rfl rfl ?_
  refine J_st (R_eql rfl rfl) rfl (J_st (R_assign rfl) rfl (J_done ?_))
  refine S_cond rfl (fun hc2 => ?_) (fun hc2 => ?_)
  ·have hc2n : dx3 = 0 := by first | (have h := of_decide_eq_true hc2; omega) | (have h := hc2; simp at h; omega)
   refine S_reg [true, true, false, true, true, true, false] rfl rfl ?_
   refine J_st (R_loadS st26 rfl h1.at rfl) rfl (J_st (R_loadS st33 rfl h3.at rfl) rfl ?_)
   refine J_call Try.call44 rfl (s_TakeInput [og, .int .i64 g.workers, .int .i64 g.cap] g [p1, p2, p3, p4, p5, p6, p7, p8] wx _ (Graph.mkR g (RdD.any (hg _ E))) (Worker.mkR wx (RdD.any (Own.rdD hp1)) (RdD.any (Own.rdD hp2)) (RdD.any (Own.rdD hp3)) (RdD.any (Own.rdD hp4)) (RdD.any (Own.rdD hp5)) (RdD.any (Own.rdD hp6)) (RdD.any (Own.rdD hp7)) (RdD.any (Own.rdD hp8))) (by omega)) rfl (fun _ w10 e8 ho3 => ?_)
   obtain ⟨_, rfl, ho4⟩ := ho3
   have g_ho3 : w.heap.size ≤ w9.heap.size := E.size
   replace E := E.ext e8; replace hcu := hcu.ext e8; replace h1 := h1.ext e8; replace h2 := h2.ext e8; replace ho1 := ho1.ext e8; replace hp1 := hp1.ext e8; replace hp2 := hp2.ext e8; replace hp3 := hp3.ext e8; replace hp4 := hp4.ext e8; replace hp5 := hp5.ext e8; replace hp6 := hp6.ext e8; replace hp7 := hp7.ext e8; replace hp8 := hp8.ext e8; replace h3 := h3.ext e8
   have z10 := e8.size
   obtain ⟨o9, o10, o11, o12, o13, o14, o15, o16, rfl, sp2, hw9, hw10, hw11, hw12, hw13, hw14, hw15, hw16⟩ := Worker.opO ho4
   refine J_st (R_move rfl) rfl (J_st (R_extract rfl rfl) rfl (J_st (R_extract rfl rfl) rfl ?_))
   refine J_storeS' (cs' := [o9, o10, o11, o12, o13, o14, o15, o16]) st33 rfl rfl rfl (all_cons hw9.one (all_cons hw10.one (all_cons hw11.one (all_cons hw12.one (all_cons hw13.one (all_cons hw14.one (all_cons hw15.one (all_cons hw16.one rfl)))))))) h3 (Nat.le_of_ble_eq_true rfl) rfl (fun w11 m2 h3' => ?_)
   replace h3 := h3'
   replace E := E.mod m2 (fun g hg => by cases hg; omega); replace hcu := hcu.mod m2 (fun g hg => by cases hg; omega); replace h1 := h1.mod m2 (fun g hg => by cases hg; omega); replace h2 := h2.mod m2 (fun g hg => by cases hg; omega); replace ho1 := ho1.mod m2 (fun g hg => by cases hg; omega); replace hp1 := hp1.mod m2 (fun g hg => by cases hg; omega); replace hp2 := hp2.mod m2 (fun g hg => by cases hg; omega); replace hp3 := hp3.mod m2 (fun g hg => by cases hg; omega); replace hp4 := hp4.mod m2 (fun g hg => by cases hg; omega); replace hp5 := hp5.mod m2 (fun g hg => by cases hg; omega); replace hp6 := hp6.mod m2 (fun g hg => by cases hg; omega); replace hp7 := hp7.mod m2 (fun g hg => by cases hg; omega); replace hp8 := hp8.mod m2 (fun g hg => by cases hg; omega); replace hw9 := hw9.mod m2 (fun g hg => by cases hg; omega); replace hw10 := hw10.mod m2 (fun g hg => by cases hg; omega); replace hw11 := hw11.mod m2 (fun g hg => by cases hg; omega); replace hw12 := hw12.mod m2 (fun g hg => by cases hg; omega); replace hw13 := hw13.mod m2 (fun g hg => by cases hg; omega); replace hw14 := hw14.mod m2 (fun g hg => by cases hg; omega); replace hw15 := hw15.mod m2 (fun g hg => by cases hg; omega); replace hw16 := hw16.mod m2 (fun g hg => by cases hg; omega)
   have z11 := m2.size
   refine J_done ?_
   refine S_nil (E_inB ?_)
   refine S_nil (E_inB ?_)
   refine S_reg [true, true, true] rfl rfl ?_
   refine J_st (R_move rfl) rfl (J_st (R_add rfl rfl (add_nat (by unfold maxLen; omega))) rfl (J_st (R_assign rfl) rfl (J_done ?_)))
   refine S_nil (E_again (k + 1, w9.heap.size, w10.heap.size, o9, o10, o11, o12, o13, o14, o15, o16, ((takeM g wx).1)) (by simp; omega) ⟨rfl, rfl, rfl, rfl, rfl, trivial⟩ ⟨E, (by omega), hcu, h1, h2, ho1, (by omega), wl_take hcw, ws_take hsm, (by omega), (by omega), (by omega), (Worker.mkO ((takeM g wx).1) sp2 (Own.widen hw9 (by omega) (by omega)) (Own.widen hw10 (by omega) (by omega)) (Own.widen hw11 (by omega) (by omega)) (Own.widen hw12 (by omega) (by omega)) (Own.widen hw13 (by omega) (by omega)) (Own.widen hw14 (by omega) (by omega)) (Own.widen hw15 (by omega) (by omega)) (Own.widen hw16 (by omega) (by omega))), h3⟩)
  ·have hc2n : ¬ dx3 = 0 := by first | (have h := of_decide_eq_false hc2; omega) | (have h := hc2; simp at h; omega)
   refine S_seq ?_
   refine S_reg [true, true] rfl rfl ?_
   refine J_st (R_eql rfl rfl) rfl (J_st (R_assign rfl) rfl (J_done ?_))
   refine S_cond rfl (fun hc3 => ?_) (fun hc3 => ?_)
   ·have hc3n : dx3 = 1 := by first | (have h := of_decide_eq_true hc3; omega) | (have h := hc3; simp at h; omega)
    refine S_regW mixed [1] [(0, true), (1, true), (2, true), (3, false), (4, false)] [(5, false)] (by decide +kernel) rfl rfl (fun w' => ModR w w' lo (lo + 1) ∧ w9.heap.size ≤ w'.heap.size ∧ CurO w' lo vb bs ∧ Blk w' b1 ([og, .int .i64 g.workers, .int .i64 g.cap]) ∧ Blk w' b2 [.slice none 0 0, .slice none 0 0, .slice none 0 0, .slice none 0 0, .slice none 0 0, .slice none 0 0, .slice none 0 0, .slice none 0 0] ∧ Own w' w2.heap.size w3.heap.size 5 v1 (List.flatMap (Enc.enc (α := Record)) dx1) ∧ Own w' plo phi 5 p1 (List.flatMap (Enc.enc (α := Record)) wx.queue) ∧ Own w' plo phi 5 p2 (List.flatMap (Enc.enc (α := Record)) wx.staged) ∧ Own w' plo phi 5 p3 (List.flatMap (Enc.enc (α := Record)) wx.inputs) ∧ Own w' plo phi 4 p4 (List.flatMap (Enc.enc (α := Cell)) wx.cells) ∧ Own w' plo phi 1 p5 (List.flatMap (Enc.enc (α := Int)) wx.sums) ∧ Own w' plo phi 1 p6 (List.flatMap (Enc.enc (α := Bool)) wx.black) ∧ Own w' plo phi 1 p7 (List.flatMap (Enc.enc (α := Bool)) wx.caps) ∧ Own w' plo phi 2 p8 (List.flatMap (Enc.enc (α := Done)) wx.dones) ∧ Blk w' b3 [p1, p2, p3, p4, p5, p6, p7, p8]) (fun w12 e9 => ?_)
    replace E := E.ext e9; replace hcu := hcu.ext e9; replace h1 := h1.ext e9; replace h2 := h2.ext e9; replace ho1 := ho1.ext e9; replace hp1 := hp1.ext e9; replace hp2 := hp2.ext e9; replace hp3 := hp3.ext e9; replace hp4 := hp4.ext e9; replace hp5 := hp5.ext e9; replace hp6 := hp6.ext e9; replace hp7 := hp7.ext e9; replace hp8 := hp8.ext e9; replace h3 := h3.ext e9
    have z12 := e9.size
    refine ⟨⟨E, (by omega), hcu, h1, h2, ho1, hp1, hp2, hp3, hp4, hp5, hp6, hp7, hp8, h3⟩, ?_⟩
    refine JC_st rfl (fun wX hX => by obtain ⟨E, zX, hcu, h1, h2, ho1, hp1, hp2, hp3, hp4, hp5, hp6, hp7, hp8, h3⟩ := hX; exact R_loadS st33 rfl h3.at rfl) rfl ?_
    refine JC_pu rfl (fun wX => R_move rfl) rfl ?_
    refine JC_st rfl (fun wX hX => by obtain ⟨E, zX, hcu, h1, h2, ho1, hp1, hp2, hp3, hp4, hp5, hp6, hp7, hp8, h3⟩ := hX; exact R_loadS st26 rfl h1.at rfl) rfl ?_
    refine JC_un rfl ?_
    refine J_callR Try.call46 rfl rfl (s_l10Record lo vb bs og g _ hcu (RdD.modR hbs E (.inl (Nat.le_refl _))) (Stab.on hg E)) rfl (fun _ w13 e10 hv => ?_)
    obtain ⟨dx4, hcu', hv⟩ := hv
    replace hcu := hcu'
    subst hv
    replace E := E.trans e10 (by omega) (by omega); replace h1 := h1.modR e10 (by omega); replace h2 := h2.modR e10 (by omega); replace ho1 := ho1.modR e10 (by omega); replace hp1 := hp1.modR e10 (by omega); replace hp2 := hp2.modR e10 (by omega); replace hp3 := hp3.modR e10 (by omega); replace hp4 := hp4.modR e10 (by omega); replace hp5 := hp5.modR e10 (by omega); replace hp6 := hp6.modR e10 (by omega); replace hp7 := hp7.modR e10 (by omega); replace hp8 := hp8.modR e10 (by omega); replace h3 := h3.modR e10 (by omega)
    have z13 := e10.size
    refine JC_next ⟨E, (by omega), hcu, h1, h2, ho1, hp1, hp2, hp3, hp4, hp5, hp6, hp7, hp8, h3⟩ ?_
    refine JC_un rfl ?_
    refine J_call Try.call45 rfl (s_Received [p1, p2, p3, p4, p5, p6, p7, p8] wx dx4 _ (Worker.mkR wx (RdD.any (Own.rdD hp1)) (RdD.any (Own.rdD hp2)) (RdD.any (Own.rdD hp3)) (RdD.any (Own.rdD hp4)) (RdD.any (Own.rdD hp5)) (RdD.any (Own.rdD hp6)) (RdD.any (Own.rdD hp7)) (RdD.any (Own.rdD hp8))) (by omega)) rfl (fun _ w14 e11 ho5 => ?_)
    obtain ⟨_, rfl, ho5⟩ := ho5
    have g_ho5 : w.heap.size ≤ w13.heap.size := E.size
    replace E := E.ext e11; replace hcu := hcu.ext e11; replace h1 := h1.ext e11; replace h2 := h2.ext e11; replace ho1 := ho1.ext e11; replace hp1 := hp1.ext e11; replace hp2 := hp2.ext e11; replace hp3 := hp3.ext e11; replace hp4 := hp4.ext e11; replace hp5 := hp5.ext e11; replace hp6 := hp6.ext e11; replace hp7 := hp7.ext e11; replace hp8 := hp8.ext e11; replace h3 := h3.ext e11
    have z14 := e11.size
    obtain ⟨o17, o18, o19, o20, o21, o22, o23, o24, rfl, sp3, hw17, hw18, hw19, hw20, hw21, hw22, hw23, hw24⟩ := Worker.opO ho5
    refine JC_next ⟨E, (by omega), hcu, h1, h2, ho1, hp1, hp2, hp3, hp4, hp5, hp6, hp7, hp8, h3⟩ ?_
    refine JC_end ?_
    refine J_storeS' (cs' := [o17, o18, o19, o20, o21, o22, o23, o24]) st33 rfl rfl rfl (all_cons hw17.one (all_cons hw18.one (all_cons hw19.one (all_cons hw20.one (all_cons hw21.one (all_cons hw22.one (all_cons hw23.one (all_cons hw24.one rfl)))))))) h3 (Nat.le_of_ble_eq_true rfl) rfl (fun w15 m3 h3' => ?_)
    replace h3 := h3'
    replace E := E.mod m3 (fun g hg => by cases hg; omega); replace hcu := hcu.mod m3 (fun g hg => by cases hg; omega); replace h1 := h1.mod m3 (fun g hg => by cases hg; omega); replace h2 := h2.mod m3 (fun g hg => by cases hg; omega); replace ho1 := ho1.mod m3 (fun g hg => by cases hg; omega); replace hp1 := hp1.mod m3 (fun g hg => by cases hg; omega); replace hp2 := hp2.mod m3 (fun g hg => by cases hg; omega); replace hp3 := hp3.mod m3 (fun g hg => by cases hg; omega); replace hp4 := hp4.mod m3 (fun g hg => by cases hg; omega); replace hp5 := hp5.mod m3 (fun g hg => by cases hg; omega); replace hp6 := hp6.mod m3 (fun g hg => by cases hg; omega); replace hp7 := hp7.mod m3 (fun g hg => by cases hg; omega); replace hp8 := hp8.mod m3 (fun g hg => by cases hg; omega); replace hw17 := hw17.mod m3 (fun g hg => by cases hg; omega); replace hw18 := hw18.mod m3 (fun g hg => by cases hg; omega); replace hw19 := hw19.mod m3 (fun g hg => by cases hg; omega); replace hw20 := hw20.mod m3 (fun g hg => by cases hg; omega); replace hw21 := hw21.mod m3 (fun g hg => by cases hg; omega); replace hw22 := hw22.mod m3 (fun g hg => by cases hg; omega); replace hw23 := hw23.mod m3 (fun g hg => by cases hg; omega); replace hw24 := hw24.mod m3 (fun g hg => by cases hg; omega)
    have z15 := m3.size
    refine J_done ?_
    refine S_nil (E_inB ?_)
    refine S_nil (E_inB ?_)
    refine S_reg [true, true, true] rfl rfl ?_
    refine J_st (R_move rfl) rfl (J_st (R_add rfl rfl (add_nat (by unfold maxLen; omega))) rfl (J_st (R_assign rfl) rfl (J_done ?_)))
    refine S_nil (E_again (k + 1, w13.heap.size, w14.heap.size, o17, o18, o19, o20, o21, o22, o23, o24, (recvW wx dx4)) (by simp; omega) ⟨rfl, rfl, rfl, rfl, rfl, trivial⟩ ⟨E, (by omega), hcu, h1, h2, ho1, (by omega), wl_recv hcw, ws_recv hsm, (by omega), (by omega), (by omega), (Worker.mkO (recvW wx dx4) sp3 (Own.widen hw17 (by omega) (by omega)) (Own.widen hw18 (by omega) (by omega)) (Own.widen hw19 (by omega) (by omega)) (Own.widen hw20 (by omega) (by omega)) (Own.widen hw21 (by omega) (by omega)) (Own.widen hw22 (by omega) (by omega)) (Own.widen hw23 (by omega) (by omega)) (Own.widen hw24 (by omega) (by omega))), h3⟩)
   ·have hc3n : ¬ dx3 = 1 := by first | (have h := of_decide_eq_false hc3; omega) | (have h := hc3; simp at h; omega)
    refine S_seq ?_
    refine S_reg [true, true] rfl rfl ?_
    refine J_st (R_eql rfl rfl) rfl (J_st (R_assign rfl) rfl (J_done ?_))
    refine S_cond rfl (fun hc4 => ?_) (fun hc4 => ?_)
    ·have hc4n : dx3 = 2 := by first | (have h := of_decide_eq_true hc4; omega) | (have h := hc4; simp at h; omega)
     refine S_reg [true, false, true, true, true, true, false] rfl rfl ?_
     refine J_st (R_loadS st33 rfl h3.at rfl) rfl ?_
     refine J_call Try.call47 rfl (s_Unstaged [p1, p2, p3, p4, p5, p6, p7, p8] wx _ (Worker.mkR wx (RdD.any (Own.rdD hp1)) (RdD.any (Own.rdD hp2)) (RdD.any (Own.rdD hp3)) (RdD.any (Own.rdD hp4)) (RdD.any (Own.rdD hp5)) (RdD.any (Own.rdD hp6)) (RdD.any (Own.rdD hp7)) (RdD.any (Own.rdD hp8))) (by omega)) rfl (fun _ w16 e12 ho6 => ?_)
     obtain ⟨_, rfl, ho7⟩ := ho6
     have g_ho6 : w.heap.size ≤ w9.heap.size := E.size
     replace E := E.ext e12; replace hcu := hcu.ext e12; replace h1 := h1.ext e12; replace h2 := h2.ext e12; replace ho1 := ho1.ext e12; replace hp1 := hp1.ext e12; replace hp2 := hp2.ext e12; replace hp3 := hp3.ext e12; replace hp4 := hp4.ext e12; replace hp5 := hp5.ext e12; replace hp6 := hp6.ext e12; replace hp7 := hp7.ext e12; replace hp8 := hp8.ext e12; replace h3 := h3.ext e12
     have z16 := e12.size
     obtain ⟨o25, o26, o27, o28, o29, o30, o31, o32, rfl, sp4, hw25, hw26, hw27, hw28, hw29, hw30, hw31, hw32⟩ := Worker.opO ho7
     refine J_st (R_move rfl) rfl (J_st (R_extract rfl rfl) rfl (J_st (R_extract rfl rfl) rfl (J_st (R_extract rfl rfl) rfl ?_)))
     refine J_storeS' (cs' := [o25, o26, o27, o28, o29, o30, o31, o32]) st33 rfl rfl rfl (all_cons hw25.one (all_cons hw26.one (all_cons hw27.one (all_cons hw28.one (all_cons hw29.one (all_cons hw30.one (all_cons hw31.one (all_cons hw32.one rfl)))))))) h3 (Nat.le_of_ble_eq_true rfl) rfl (fun w17 m4 h3' => ?_)
     replace h3 := h3'
     replace E := E.mod m4 (fun g hg => by cases hg; omega); replace hcu := hcu.mod m4 (fun g hg => by cases hg; omega); replace h1 := h1.mod m4 (fun g hg => by cases hg; omega); replace h2 := h2.mod m4 (fun g hg => by cases hg; omega); replace ho1 := ho1.mod m4 (fun g hg => by cases hg; omega); replace hp1 := hp1.mod m4 (fun g hg => by cases hg; omega); replace hp2 := hp2.mod m4 (fun g hg => by cases hg; omega); replace hp3 := hp3.mod m4 (fun g hg => by cases hg; omega); replace hp4 := hp4.mod m4 (fun g hg => by cases hg; omega); replace hp5 := hp5.mod m4 (fun g hg => by cases hg; omega); replace hp6 := hp6.mod m4 (fun g hg => by cases hg; omega); replace hp7 := hp7.mod m4 (fun g hg => by cases hg; omega); replace hp8 := hp8.mod m4 (fun g hg => by cases hg; omega); replace hw25 := hw25.mod m4 (fun g hg => by cases hg; omega); replace hw26 := hw26.mod m4 (fun g hg => by cases hg; omega); replace hw27 := hw27.mod m4 (fun g hg => by cases hg; omega); replace hw28 := hw28.mod m4 (fun g hg => by cases hg; omega); replace hw29 := hw29.mod m4 (fun g hg => by cases hg; omega); replace hw30 := hw30.mod m4 (fun g hg => by cases hg; omega); replace hw31 := hw31.mod m4 (fun g hg => by cases hg; omega); replace hw32 := hw32.mod m4 (fun g hg => by cases hg; omega)
     have z17 := m4.size
     refine J_done ?_
     refine S_nil (E_inB ?_)
     refine S_nil (E_inB ?_)
     refine S_reg [true, true, true] rfl rfl ?_
     refine J_st (R_move rfl) rfl (J_st (R_add rfl rfl (add_nat (by unfold maxLen; omega))) rfl (J_st (R_assign rfl) rfl (J_done ?_)))
     refine S_nil (E_again (k + 1, w9.heap.size, w16.heap.size, o25, o26, o27, o28, o29, o30, o31, o32, ((unstM wx).1)) (by simp; omega) ⟨rfl, rfl, rfl, rfl, rfl, trivial⟩ ⟨E, (by omega), hcu, h1, h2, ho1, (by omega), wl_unst hcw, ws_unst hsm, (by omega), (by omega), (by omega), (Worker.mkO ((unstM wx).1) sp4 (Own.widen hw25 (by omega) (by omega)) (Own.widen hw26 (by omega) (by omega)) (Own.widen hw27 (by omega) (by omega)) (Own.widen hw28 (by omega) (by omega)) (Own.widen hw29 (by omega) (by omega)) (Own.widen hw30 (by omega) (by omega)) (Own.widen hw31 (by omega) (by omega)) (Own.widen hw32 (by omega) (by omega))), h3⟩)
    ·have hc4n : ¬ dx3 = 2 := by first | (have h := of_decide_eq_false hc4; omega) | (have h := hc4; simp at h; omega)
     refine S_reg [true, true, false, true, true, true, false] rfl rfl ?_
     refine J_st (R_loadS st26 rfl h1.at rfl) rfl (J_st (R_loadS st33 rfl h3.at rfl) rfl ?_)
     refine J_call Try.call48 rfl (s_WorkOn [og, .int .i64 g.workers, .int .i64 g.cap] g [p1, p2, p3, p4, p5, p6, p7, p8] wx _ (Graph.mkR g (RdD.any (hg _ E))) (Worker.mkR wx (RdD.any (Own.rdD hp1)) (RdD.any (Own.rdD hp2)) (RdD.any (Own.rdD hp3)) (RdD.any (Own.rdD hp4)) (RdD.any (Own.rdD hp5)) (RdD.any (Own.rdD hp6)) (RdD.any (Own.rdD hp7)) (RdD.any (Own.rdD hp8))) (by omega) hcg) rfl (fun _ w18 e13 ho8 => ?_)
     obtain ⟨_, rfl, ho9⟩ := ho8
     have g_ho8 : w.heap.size ≤ w9.heap.size := E.size
     replace E := E.ext e13; replace hcu := hcu.ext e13; replace h1 := h1.ext e13; replace h2 := h2.ext e13; replace ho1 := ho1.ext e13; replace hp1 := hp1.ext e13; replace hp2 := hp2.ext e13; replace hp3 := hp3.ext e13; replace hp4 := hp4.ext e13; replace hp5 := hp5.ext e13; replace hp6 := hp6.ext e13; replace hp7 := hp7.ext e13; replace hp8 := hp8.ext e13; replace h3 := h3.ext e13
     have z18 := e13.size
     obtain ⟨o33, o34, o35, o36, o37, o38, o39, o40, rfl, sp5, hw33, hw34, hw35, hw36, hw37, hw38, hw39, hw40⟩ := Worker.opO ho9
     refine J_st (R_move rfl) rfl (J_st (R_extract rfl rfl) rfl (J_st (R_extract rfl rfl) rfl ?_))
     refine J_storeS' (cs' := [o33, o34, o35, o36, o37, o38, o39, o40]) st33 rfl rfl rfl (all_cons hw33.one (all_cons hw34.one (all_cons hw35.one (all_cons hw36.one (all_cons hw37.one (all_cons hw38.one (all_cons hw39.one (all_cons hw40.one rfl)))))))) h3 (Nat.le_of_ble_eq_true rfl) rfl (fun w19 m5 h3' => ?_)
     replace h3 := h3'
     replace E := E.mod m5 (fun g hg => by cases hg; omega); replace hcu := hcu.mod m5 (fun g hg => by cases hg; omega); replace h1 := h1.mod m5 (fun g hg => by cases hg; omega); replace h2 := h2.mod m5 (fun g hg => by cases hg; omega); replace ho1 := ho1.mod m5 (fun g hg => by cases hg; omega); replace hp1 := hp1.mod m5 (fun g hg => by cases hg; omega); replace hp2 := hp2.mod m5 (fun g hg => by cases hg; omega); replace hp3 := hp3.mod m5 (fun g hg => by cases hg; omega); replace hp4 := hp4.mod m5 (fun g hg => by cases hg; omega); replace hp5 := hp5.mod m5 (fun g hg => by cases hg; omega); replace hp6 := hp6.mod m5 (fun g hg => by cases hg; omega); replace hp7 := hp7.mod m5 (fun g hg => by cases hg; omega); replace hp8 := hp8.mod m5 (fun g hg => by cases hg; omega); replace hw33 := hw33.mod m5 (fun g hg => by cases hg; omega); replace hw34 := hw34.mod m5 (fun g hg => by cases hg; omega); replace hw35 := hw35.mod m5 (fun g hg => by cases hg; omega); replace hw36 := hw36.mod m5 (fun g hg => by cases hg; omega); replace hw37 := hw37.mod m5 (fun g hg => by cases hg; omega); replace hw38 := hw38.mod m5 (fun g hg => by cases hg; omega); replace hw39 := hw39.mod m5 (fun g hg => by cases hg; omega); replace hw40 := hw40.mod m5 (fun g hg => by cases hg; omega)
     have z19 := m5.size
     refine J_done ?_
     refine S_nil (E_inB ?_)
     refine S_nil (E_inB ?_)
     refine S_reg [true, true, true] rfl rfl ?_
     refine J_st (R_move rfl) rfl (J_st (R_add rfl rfl (add_nat (by unfold maxLen; omega))) rfl (J_st (R_assign rfl) rfl (J_done ?_)))
     refine S_nil (E_again (k + 1, w9.heap.size, w18.heap.size, o33, o34, o35, o36, o37, o38, o39, o40, ((workM g wx).1)) (by simp; omega) ⟨rfl, rfl, rfl, rfl, rfl, trivial⟩ ⟨E, (by omega), hcu, h1, h2, ho1, (by omega), wl_work hcw, ws_work hsm, (by omega), (by omega), (by omega), (Worker.mkO ((workM g wx).1) sp5 (Own.widen hw33 (by omega) (by omega)) (Own.widen hw34 (by omega) (by omega)) (Own.widen hw35 (by omega) (by omega)) (Own.widen hw36 (by omega) (by omega)) (Own.widen hw37 (by omega) (by omega)) (Own.widen hw38 (by omega) (by omega)) (Own.widen hw39 (by omega) (by omega)) (Own.widen hw40 (by omega) (by omega))), h3⟩)
 ·have hc1n : ¬ k < dx2 := by first | (have h := of_decide_eq_false hc1; omega) | (have h := hc1; simp at h; omega)
  refine S_exit (E_lp_exit (E_inB_exit ?_))
  refine S_seq ?_
  refine S_reg [true, false] rfl rfl ?_
  refine J_st (R_loadS st33 rfl h3.at rfl) rfl ?_
  refine J_storeS' (cs' := [p1, p2, p3, p4, p5, p6, p7, p8]) st33 rfl rfl rfl (all_cons hp1.one (all_cons hp2.one (all_cons hp3.one (all_cons hp4.one (all_cons hp5.one (all_cons hp6.one (all_cons hp7.one (all_cons hp8.one rfl)))))))) h2 (Nat.le_of_ble_eq_true rfl) rfl (fun w20 m6 h2' => ?_)
  replace h2 := h2'
  replace E := E.mod m6 (fun g hg => by cases hg; omega); replace hcu := hcu.mod m6 (fun g hg => by cases hg; omega); replace h1 := h1.mod m6 (fun g hg => by cases hg; omega); replace ho1 := ho1.mod m6 (fun g hg => by cases hg; omega); replace hp1 := hp1.mod m6 (fun g hg => by cases hg; omega); replace hp2 := hp2.mod m6 (fun g hg => by cases hg; omega); replace hp3 := hp3.mod m6 (fun g hg => by cases hg; omega); replace hp4 := hp4.mod m6 (fun g hg => by cases hg; omega); replace hp5 := hp5.mod m6 (fun g hg => by cases hg; omega); replace hp6 := hp6.mod m6 (fun g hg => by cases hg; omega); replace hp7 := hp7.mod m6 (fun g hg => by cases hg; omega); replace hp8 := hp8.mod m6 (fun g hg => by cases hg; omega); replace h3 := h3.mod m6 (fun g hg => by cases hg; omega)
  have z20 := m6.size
  refine J_done ?_
  refine S_ret (E_doneC rfl rfl (run_loadVar_st st33 h2.at rfl) E ?_)
  exact ⟨wx, (by omega), (by assumption), hcu, ⟨_, rfl, Worker.mkO wx gP (Own.widen hp1 (by omega) (by omega)) (Own.widen hp2 (by omega) (by omega)) (Own.widen hp3 (by omega) (by omega)) (Own.widen hp4 (by omega) (by omega)) (Own.widen hp5 (by omega) (by omega)) (Own.widen hp6 (by omega) (by omega)) (Own.widen hp7 (by omega) (by omega)) (Own.widen hp8 (by omega) (by omega))⟩⟩

end Go.Proofs.Yteljajfcppmeiaa
