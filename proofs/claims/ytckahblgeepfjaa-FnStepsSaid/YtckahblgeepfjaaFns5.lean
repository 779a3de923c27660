/- What the functions that the laws call come to: a contract each; no condition. -/
import Derived.Test.YtckahblgeepfjaaFns4
namespace Go.Proofs.Ytckahblgeepfjaa
open Go Go.Proofs.Ytckahblgeepfjaa.X Go.Proofs
set_option maxHeartbeats 4000000 in
set_option maxRecDepth 20000 in
theorem s_DrawStepOp (vcode : Value) (code : List Byt) (w : World) (hcode : RdS w vcode code) : Ct Try.prog 6 [vcode] w (fun v w' => ∃ (dr0 : Graph) (dr1 : List Cell) (dr2 : Record), smG dr0 ∧ dr1.length ≤ 10 ∧ ∃ c0 u1, v = .tuple [.agg c0.toArray, u1, .agg (Enc.enc dr2).toArray].toArray ∧ Dat.R w' w.heap.size w'.heap.size c0 dr0 ∧ Own w' w.heap.size w'.heap.size 4 u1 (List.flatMap (Enc.enc (α := Cell)) dr1)) := by
 refine ct_of Try.func6 rfl Try.ntmps6 rfl ?_
 refine S_sub [(0, vcode)] ⟨rfl, trivial⟩ ?_
 have E : Ext w w := Ext.refl w
 refine S_seq ?_
 refine S_reg [false, true, false] rfl rfl ?_
 refine J_alloc st26 rfl (fun b1 w1 e1 s1 h1 => ?_)
 have g_b1 : w.heap.size ≤ b1 := by have := E.size; omega
 have y_b1 := h1.lt
 replace E := E.trans e1
 have z1 := e1.size
 refine J_st (R_assign rfl) rfl ?_
 refine J_alloc st31 rfl (fun b2 w2 e2 s2 h2 => ?_)
 have g_b2 : w.heap.size ≤ b2 := by have := E.size; omega
 have y_b2 := h2.lt
 replace E := E.trans e2; replace h1 := h1.ext e2
 have z2 := e2.size
 refine J_done ?_
 refine S_seq ?_
 refine S_reg [true, false, true] rfl rfl ?_
 refine J_st (R_move rfl) rfl ?_
 refine J_call Try.call34 rfl (s_l01New vcode code _ (hcode.ext E)) rfl (fun _ w3 e3 hcu1 => ?_)
 obtain ⟨bc1, rfl, ybc1, hcu1⟩ := hcu1
 have g_bc1 : w.heap.size ≤ bc1 := Nat.le_trans E.size ybc1
 have y_bc1 := CurO.lt hcu1
 replace E := E.trans e3; replace h1 := h1.ext e3; replace h2 := h2.ext e3
 have z3 := e3.size
 refine J_st (R_assign rfl) rfl (J_done ?_)
 refine S_seq ?_
 refine S_reg [true, false, false, false] rfl rfl ?_
 refine J_st (R_move rfl) rfl ?_
 refine J_callR Try.call35 rfl rfl (s_l08Graph bc1 vcode code _ hcu1 (RdD.widen (RdD.ext (RdS.rdD hcode) E) (Nat.le_refl _) (by omega))) rfl (fun _ w4 e4 ho1 => ?_)
 obtain ⟨dx1, q1, q2, q3, hcu1', ho1⟩ := ho1
 replace hcu1 := hcu1'
 obtain ⟨o1, rfl, ho1⟩ := ho1
 have g_ho1 : w.heap.size ≤ w3.heap.size := E.size
 replace E := E.stepR e4 (by omega); replace h1 := h1.modR e4 (by omega); replace h2 := h2.modR e4 (by omega)
 have z4 := e4.size
 refine J_alloc st26 rfl (fun b3 w5 e5 s3 h3 => ?_)
 have g_b3 : w.heap.size ≤ b3 := by have := E.size; omega
 have y_b3 := h3.lt
 replace E := E.trans e5; replace h1 := h1.ext e5; replace h2 := h2.ext e5; replace hcu1 := hcu1.ext e5; replace ho1 := ho1.ext e5
 have z5 := e5.size
 refine J_storeS' (cs' := [o1, .int .i64 dx1.workers, .int .i64 dx1.cap]) st26 rfl rfl rfl (all_cons (RdD.one (OwS.rd ho1)) (all_cons rfl (all_cons rfl rfl))) h3 (Nat.le_of_ble_eq_true rfl) rfl (fun w6 m1 h3' => ?_)
 replace h3 := h3'
 replace E := E.step m1 (fun g hg => by cases hg; omega); replace h1 := h1.mod m1 (fun g hg => by cases hg; omega); replace h2 := h2.mod m1 (fun g hg => by cases hg; omega); replace hcu1 := hcu1.mod m1 (fun g hg => by cases hg; omega); replace ho1 := ho1.mod m1 (fun g hg => by cases hg; omega)
 have z6 := m1.size
 refine J_done ?_
 refine S_seq ?_
 refine S_seq ?_
 refine S_reg [true, false] rfl rfl ?_
 refine J_st (R_move rfl) rfl ?_
 refine J_callR Try.call36 rfl rfl (s_l01Once bc1 vcode code 8 _ hcu1 (RdD.widen (RdD.ext (RdS.rdD hcode) E) (Nat.le_refl _) (by omega))) rfl (fun _ w7 e6 hv => ?_)
 obtain ⟨dx2, hcu1', hv⟩ := hv
 replace hcu1 := hcu1'
 subst hv
 replace E := E.stepR e6 (by omega); replace h1 := h1.modR e6 (by omega); replace h2 := h2.modR e6 (by omega); replace ho1 := ho1.modR e6 (by omega); replace h3 := h3.modR e6 (by omega)
 have z7 := e6.size
 refine J_done ?_
 refine S_cond rfl (fun hc1 => ?_) (fun hc1 => ?_)
 ·refine S_reg [true, false, false] rfl rfl ?_
  refine J_st (R_move rfl) rfl ?_
  refine J_callR Try.call37 rfl rfl (s_l08Any bc1 vcode code _ hcu1 (RdD.widen (RdD.ext (RdS.rdD hcode) E) (Nat.le_refl _) (by omega))) rfl (fun v1 w8 e7 ho2 => ?_)
  obtain ⟨dx3, q4, hcu1', ho2⟩ := ho2
  replace hcu1 := hcu1'
  obtain ⟨_, rfl, ho2⟩ := ho2
  obtain ⟨o2, rfl, hd1⟩ := Graph.op ho2
  replace E := E.stepR e7 (by omega); replace h1 := h1.modR e7 (by omega); replace h2 := h2.modR e7 (by omega); replace ho1 := ho1.modR e7 (by omega); replace h3 := h3.modR e7 (by omega)
  have z8 := e7.size
  refine J_storeS' (cs' := [o2, .int .i64 dx3.workers, .int .i64 dx3.cap]) st26 rfl rfl rfl (all_cons (RdD.one hd1) (all_cons rfl (all_cons rfl rfl))) h3 (Nat.le_of_ble_eq_true rfl) rfl (fun w9 m2 h3' => ?_)
  replace h3 := h3'
  replace E := E.step m2 (fun g hg => by cases hg; omega); replace h1 := h1.mod m2 (fun g hg => by cases hg; omega); replace h2 := h2.mod m2 (fun g hg => by cases hg; omega); replace hcu1 := hcu1.mod m2 (fun g hg => by cases hg; omega); replace ho1 := ho1.mod m2 (fun g hg => by cases hg; omega); replace hd1 := hd1.mod m2 (fun g hg => by cases hg; omega)
  have z9 := m2.size
  refine J_done ?_
  refine S_seq ?_
  refine S_reg [true, true, false, true] rfl rfl ?_
  refine J_st (R_move rfl) rfl (J_st (R_loadS st26 rfl h3.at rfl) rfl ?_)
  refine J_callR Try.call38 rfl rfl (s_l10Cells bc1 vcode code o2 dx3 _ hcu1 (RdD.widen (RdD.ext (RdS.rdD hcode) E) (Nat.le_refl _) (by omega)) (fun wX eX => RdD.any (RdD.modR hd1 eX (by omega))) (smG_cnt (by assumption))) rfl (fun v2 w10 e8 ho3 => ?_)
  obtain ⟨dx4, q5, hcu1', ho3⟩ := ho3
  replace hcu1 := hcu1'
  have g_ho3 : w.heap.size ≤ w9.heap.size := E.size
  replace E := E.stepR e8 (by omega); replace h1 := h1.modR e8 (by omega); replace h2 := h2.modR e8 (by omega); replace ho1 := ho1.modR e8 (by omega); replace h3 := h3.modR e8 (by omega); replace hd1 := hd1.modR e8 (by omega)
  have z10 := e8.size
  refine J_st (R_assign rfl) rfl (J_done ?_)
  refine S_seq ?_
  refine S_seq ?_
  refine S_reg [true, false] rfl rfl ?_
  refine J_st (R_move rfl) rfl ?_
  refine J_callR Try.call36 rfl rfl (s_l01Once bc1 vcode code 12 _ hcu1 (RdD.widen (RdD.ext (RdS.rdD hcode) E) (Nat.le_refl _) (by omega))) rfl (fun _ w11 e9 hv => ?_)
  obtain ⟨dx5, hcu1', hv⟩ := hv
  replace hcu1 := hcu1'
  subst hv
  replace E := E.stepR e9 (by omega); replace h1 := h1.modR e9 (by omega); replace h2 := h2.modR e9 (by omega); replace ho1 := ho1.modR e9 (by omega); replace h3 := h3.modR e9 (by omega); replace hd1 := hd1.modR e9 (by omega); replace ho3 := ho3.modR e9 (by omega)
  have z11 := e9.size
  refine J_done ?_
  refine S_cond rfl (fun hc2 => ?_) (fun hc2 => ?_)
  ·refine S_seq ?_
   refine S_regW mixed [1, 2, 5] [(0, true), (1, true), (2, true), (3, false)] [(4, false), (5, true), (6, false)] (by decide +kernel) rfl rfl (fun w' => Ext w w' ∧ w11.heap.size ≤ w'.heap.size ∧ Blk w' b1 [.slice none 0 0, .int .i64 0, .int .i64 0] ∧ Blk w' b2 [.int .i64 0, .int .i64 0, .int .i64 0, .int .i64 0, .int .i64 0] ∧ CurO w' bc1 vcode code ∧ OwS w' w3.heap.size w4.heap.size o1 dx1.nodes ∧ Blk w' b3 [o2, .int .i64 dx3.workers, .int .i64 dx3.cap] ∧ RdD w' w7.heap.size w8.heap.size o2 dx3.nodes ∧ Own w' w9.heap.size w10.heap.size 4 v2 (List.flatMap (Enc.enc (α := Cell)) dx4)) (fun w12 e10 => ?_)
   replace E := E.trans e10; replace h1 := h1.ext e10; replace h2 := h2.ext e10; replace hcu1 := hcu1.ext e10; replace ho1 := ho1.ext e10; replace h3 := h3.ext e10; replace hd1 := hd1.ext e10; replace ho3 := ho3.ext e10
   have z12 := e10.size
   refine ⟨⟨E, (by omega), h1, h2, hcu1, ho1, h3, hd1, ho3⟩, ?_⟩
   refine JC_st rfl (fun wX hX => by obtain ⟨E, zX, h1, h2, hcu1, ho1, h3, hd1, ho3⟩ := hX; exact R_loadS st26 rfl h3.at rfl) rfl ?_
   refine JC_pu rfl (fun wX => R_move rfl) rfl ?_
   refine JC_pu rfl (fun wX => R_move rfl) rfl ?_
   refine JC_un rfl ?_
   refine J_callR Try.call39 rfl rfl (s_l05Any bc1 vcode code _ hcu1 (RdD.widen (RdD.ext (RdS.rdD hcode) E) (Nat.le_refl _) (by omega))) rfl (fun _ w13 e11 hv => ?_)
   obtain ⟨dx6, hcu1', hv⟩ := hv
   replace hcu1 := hcu1'
   subst hv
   replace E := E.stepR e11 (by omega); replace h1 := h1.modR e11 (by omega); replace h2 := h2.modR e11 (by omega); replace ho1 := ho1.modR e11 (by omega); replace h3 := h3.modR e11 (by omega); replace hd1 := hd1.modR e11 (by omega); replace ho3 := ho3.modR e11 (by omega)
   have z13 := e11.size
   refine JC_next ⟨E, (by omega), h1, h2, hcu1, ho1, h3, hd1, ho3⟩ ?_
   refine JC_end ?_
   refine J_storeS' (cs' := [o2, .int .i64 dx3.workers, .int .i64 dx3.cap]) st26 rfl rfl rfl (all_cons (RdD.one hd1) (all_cons rfl (all_cons rfl rfl))) h1 (Nat.le_of_ble_eq_true rfl) rfl (fun w14 m3 h1' => ?_)
   replace h1 := h1'
   replace E := E.step m3 (fun g hg => by cases hg; omega); replace h2 := h2.mod m3 (fun g hg => by cases hg; omega); replace hcu1 := hcu1.mod m3 (fun g hg => by cases hg; omega); replace ho1 := ho1.mod m3 (fun g hg => by cases hg; omega); replace h3 := h3.mod m3 (fun g hg => by cases hg; omega); replace hd1 := hd1.mod m3 (fun g hg => by cases hg; omega); replace ho3 := ho3.mod m3 (fun g hg => by cases hg; omega)
   have z14 := m3.size
   refine J_st (R_assign rfl) rfl ?_
   refine J_storeS' (cs' := [.int .i64 dx6.op, .int .i64 dx6.stamp.epoch, .int .i64 dx6.stamp.turn, .int .i64 dx6.key, .int .i64 dx6.val]) st31 rfl rfl rfl rfl h2 (Nat.le_of_ble_eq_true rfl) rfl (fun w15 m4 h2' => ?_)
   replace h2 := h2'
   replace E := E.step m4 (fun g hg => by cases hg; omega); replace h1 := h1.mod m4 (fun g hg => by cases hg; omega); replace hcu1 := hcu1.mod m4 (fun g hg => by cases hg; omega); replace ho1 := ho1.mod m4 (fun g hg => by cases hg; omega); replace h3 := h3.mod m4 (fun g hg => by cases hg; omega); replace hd1 := hd1.mod m4 (fun g hg => by cases hg; omega); replace ho3 := ho3.mod m4 (fun g hg => by cases hg; omega)
   have z15 := m4.size
   refine J_done ?_
   refine S_ret (E_doneN (l := [.cell 2 26, .tmp 3, .cell 4 31]) (vs := [.agg [o2, .int .i64 dx3.workers, .int .i64 dx3.cap].toArray, v2, .agg (Enc.enc dx6).toArray]) rfl ⟨.cell rfl (run_loadVar_st st26 h1.at rfl), .tmp rfl, .cell rfl (run_loadVar_st st31 h2.at rfl), trivial⟩ rfl E ?_)
   exact ⟨dx3, dx4, dx6, (by assumption), (by assumption), ⟨_, _, rfl, (Graph.mkR _ (RdD.widen hd1 (by have := E.size; omega) (by omega))), (Own.fin ho3 (by have := E.size; omega) (by omega) (by first | (simp [*]; done) | (simp [*]; rfl)))⟩⟩
  ·refine S_skip ?_
   refine S_seq ?_
   refine S_regW mixed [1, 2, 6] [(0, true), (1, true), (2, true), (3, true), (4, false)] [(5, false), (6, true), (7, false)] (by decide +kernel) rfl rfl (fun w' => Ext w w' ∧ w11.heap.size ≤ w'.heap.size ∧ Blk w' b1 [.slice none 0 0, .int .i64 0, .int .i64 0] ∧ Blk w' b2 [.int .i64 0, .int .i64 0, .int .i64 0, .int .i64 0, .int .i64 0] ∧ CurO w' bc1 vcode code ∧ OwS w' w3.heap.size w4.heap.size o1 dx1.nodes ∧ Blk w' b3 [o2, .int .i64 dx3.workers, .int .i64 dx3.cap] ∧ RdD w' w7.heap.size w8.heap.size o2 dx3.nodes ∧ Own w' w9.heap.size w10.heap.size 4 v2 (List.flatMap (Enc.enc (α := Cell)) dx4)) (fun w16 e12 => ?_)
   replace E := E.trans e12; replace h1 := h1.ext e12; replace h2 := h2.ext e12; replace hcu1 := hcu1.ext e12; replace ho1 := ho1.ext e12; replace h3 := h3.ext e12; replace hd1 := hd1.ext e12; replace ho3 := ho3.ext e12
   have z16 := e12.size
   refine ⟨⟨E, (by omega), h1, h2, hcu1, ho1, h3, hd1, ho3⟩, ?_⟩
   refine JC_st rfl (fun wX hX => by obtain ⟨E, zX, h1, h2, hcu1, ho1, h3, hd1, ho3⟩ := hX; exact R_loadS st26 rfl h3.at rfl) rfl ?_
   refine JC_pu rfl (fun wX => R_move rfl) rfl ?_
   refine JC_pu rfl (fun wX => R_move rfl) rfl ?_
   refine JC_st rfl (fun wX hX => by obtain ⟨E, zX, h1, h2, hcu1, ho1, h3, hd1, ho3⟩ := hX; exact R_loadS st26 rfl h3.at rfl) rfl ?_
   refine JC_un rfl ?_
   refine J_callR Try.call40 rfl rfl (s_l10Record bc1 vcode code o2 dx3 _ hcu1 (RdD.widen (RdD.ext (RdS.rdD hcode) E) (Nat.le_refl _) (by omega)) (fun wX eX => RdD.any (RdD.modR hd1 eX (by omega)))) rfl (fun _ w17 e13 hv => ?_)
   obtain ⟨dx7, hcu1', hv⟩ := hv
   replace hcu1 := hcu1'
   subst hv
   replace E := E.stepR e13 (by omega); replace h1 := h1.modR e13 (by omega); replace h2 := h2.modR e13 (by omega); replace ho1 := ho1.modR e13 (by omega); replace h3 := h3.modR e13 (by omega); replace hd1 := hd1.modR e13 (by omega); replace ho3 := ho3.modR e13 (by omega)
   have z17 := e13.size
   refine JC_next ⟨E, (by omega), h1, h2, hcu1, ho1, h3, hd1, ho3⟩ ?_
   refine JC_end ?_
   refine J_storeS' (cs' := [o2, .int .i64 dx3.workers, .int .i64 dx3.cap]) st26 rfl rfl rfl (all_cons (RdD.one hd1) (all_cons rfl (all_cons rfl rfl))) h1 (Nat.le_of_ble_eq_true rfl) rfl (fun w18 m5 h1' => ?_)
   replace h1 := h1'
   replace E := E.step m5 (fun g hg => by cases hg; omega); replace h2 := h2.mod m5 (fun g hg => by cases hg; omega); replace hcu1 := hcu1.mod m5 (fun g hg => by cases hg; omega); replace ho1 := ho1.mod m5 (fun g hg => by cases hg; omega); replace h3 := h3.mod m5 (fun g hg => by cases hg; omega); replace hd1 := hd1.mod m5 (fun g hg => by cases hg; omega); replace ho3 := ho3.mod m5 (fun g hg => by cases hg; omega)
   have z18 := m5.size
   refine J_st (R_assign rfl) rfl ?_
   refine J_storeS' (cs' := [.int .i64 dx7.op, .int .i64 dx7.stamp.epoch, .int .i64 dx7.stamp.turn, .int .i64 dx7.key, .int .i64 dx7.val]) st31 rfl rfl rfl rfl h2 (Nat.le_of_ble_eq_true rfl) rfl (fun w19 m6 h2' => ?_)
   replace h2 := h2'
   replace E := E.step m6 (fun g hg => by cases hg; omega); replace h1 := h1.mod m6 (fun g hg => by cases hg; omega); replace hcu1 := hcu1.mod m6 (fun g hg => by cases hg; omega); replace ho1 := ho1.mod m6 (fun g hg => by cases hg; omega); replace h3 := h3.mod m6 (fun g hg => by cases hg; omega); replace hd1 := hd1.mod m6 (fun g hg => by cases hg; omega); replace ho3 := ho3.mod m6 (fun g hg => by cases hg; omega)
   have z19 := m6.size
   refine J_done ?_
   refine S_ret (E_doneN (l := [.cell 2 26, .tmp 3, .cell 4 31]) (vs := [.agg [o2, .int .i64 dx3.workers, .int .i64 dx3.cap].toArray, v2, .agg (Enc.enc dx7).toArray]) rfl ⟨.cell rfl (run_loadVar_st st26 h1.at rfl), .tmp rfl, .cell rfl (run_loadVar_st st31 h2.at rfl), trivial⟩ rfl E ?_)
   exact ⟨dx3, dx4, dx7, (by assumption), (by assumption), ⟨_, _, rfl, (Graph.mkR _ (RdD.widen hd1 (by have := E.size; omega) (by omega))), (Own.fin ho3 (by have := E.size; omega) (by omega) (by first | (simp [*]; done) | (simp [*]; rfl)))⟩⟩
 ·refine S_skip ?_
  refine S_seq ?_
  refine S_reg [true, true, false, true] rfl rfl ?_
  refine J_st (R_move rfl) rfl (J_st (R_loadS st26 rfl h3.at rfl) rfl ?_)
  refine J_callR Try.call38 rfl rfl (s_l10Cells bc1 vcode code o1 dx1 _ hcu1 (RdD.widen (RdD.ext (RdS.rdD hcode) E) (Nat.le_refl _) (by omega)) (fun wX eX => RdD.any (OwS.rd (OwS.modR ho1 eX (by omega)))) (smG_cnt (by assumption))) rfl (fun v3 w20 e14 ho4 => ?_)
  obtain ⟨dx8, q6, hcu1', ho4⟩ := ho4
  replace hcu1 := hcu1'
  have g_ho4 : w.heap.size ≤ w7.heap.size := E.size
  replace E := E.stepR e14 (by omega); replace h1 := h1.modR e14 (by omega); replace h2 := h2.modR e14 (by omega); replace ho1 := ho1.modR e14 (by omega); replace h3 := h3.modR e14 (by omega)
  have z20 := e14.size
  refine J_st (R_assign rfl) rfl (J_done ?_)
  refine S_seq ?_
  refine S_seq ?_
  refine S_reg [true, false] rfl rfl ?_
  refine J_st (R_move rfl) rfl ?_
  refine J_callR Try.call36 rfl rfl (s_l01Once bc1 vcode code 12 _ hcu1 (RdD.widen (RdD.ext (RdS.rdD hcode) E) (Nat.le_refl _) (by omega))) rfl (fun _ w21 e15 hv => ?_)
  obtain ⟨dx9, hcu1', hv⟩ := hv
  replace hcu1 := hcu1'
  subst hv
  replace E := E.stepR e15 (by omega); replace h1 := h1.modR e15 (by omega); replace h2 := h2.modR e15 (by omega); replace ho1 := ho1.modR e15 (by omega); replace h3 := h3.modR e15 (by omega); replace ho4 := ho4.modR e15 (by omega)
  have z21 := e15.size
  refine J_done ?_
  refine S_cond rfl (fun hc3 => ?_) (fun hc3 => ?_)
  ·refine S_seq ?_
   refine S_regW mixed [1, 2, 5] [(0, true), (1, true), (2, true), (3, false)] [(4, false), (5, true), (6, false)] (by decide +kernel) rfl rfl (fun w' => Ext w w' ∧ w21.heap.size ≤ w'.heap.size ∧ Blk w' b1 [.slice none 0 0, .int .i64 0, .int .i64 0] ∧ Blk w' b2 [.int .i64 0, .int .i64 0, .int .i64 0, .int .i64 0, .int .i64 0] ∧ CurO w' bc1 vcode code ∧ OwS w' w3.heap.size w4.heap.size o1 dx1.nodes ∧ Blk w' b3 [o1, .int .i64 dx1.workers, .int .i64 dx1.cap] ∧ Own w' w7.heap.size w20.heap.size 4 v3 (List.flatMap (Enc.enc (α := Cell)) dx8)) (fun w22 e16 => ?_)
   replace E := E.trans e16; replace h1 := h1.ext e16; replace h2 := h2.ext e16; replace hcu1 := hcu1.ext e16; replace ho1 := ho1.ext e16; replace h3 := h3.ext e16; replace ho4 := ho4.ext e16
   have z22 := e16.size
   refine ⟨⟨E, (by omega), h1, h2, hcu1, ho1, h3, ho4⟩, ?_⟩
   refine JC_st rfl (fun wX hX => by obtain ⟨E, zX, h1, h2, hcu1, ho1, h3, ho4⟩ := hX; exact R_loadS st26 rfl h3.at rfl) rfl ?_
   refine JC_pu rfl (fun wX => R_move rfl) rfl ?_
   refine JC_pu rfl (fun wX => R_move rfl) rfl ?_
   refine JC_un rfl ?_
   refine J_callR Try.call39 rfl rfl (s_l05Any bc1 vcode code _ hcu1 (RdD.widen (RdD.ext (RdS.rdD hcode) E) (Nat.le_refl _) (by omega))) rfl (fun _ w23 e17 hv => ?_)
   obtain ⟨dx10, hcu1', hv⟩ := hv
   replace hcu1 := hcu1'
   subst hv
   replace E := E.stepR e17 (by omega); replace h1 := h1.modR e17 (by omega); replace h2 := h2.modR e17 (by omega); replace ho1 := ho1.modR e17 (by omega); replace h3 := h3.modR e17 (by omega); replace ho4 := ho4.modR e17 (by omega)
   have z23 := e17.size
   refine JC_next ⟨E, (by omega), h1, h2, hcu1, ho1, h3, ho4⟩ ?_
   refine JC_end ?_
   refine J_storeS' (cs' := [o1, .int .i64 dx1.workers, .int .i64 dx1.cap]) st26 rfl rfl rfl (all_cons (RdD.one (OwS.rd ho1)) (all_cons rfl (all_cons rfl rfl))) h1 (Nat.le_of_ble_eq_true rfl) rfl (fun w24 m7 h1' => ?_)
   replace h1 := h1'
   replace E := E.step m7 (fun g hg => by cases hg; omega); replace h2 := h2.mod m7 (fun g hg => by cases hg; omega); replace hcu1 := hcu1.mod m7 (fun g hg => by cases hg; omega); replace ho1 := ho1.mod m7 (fun g hg => by cases hg; omega); replace h3 := h3.mod m7 (fun g hg => by cases hg; omega); replace ho4 := ho4.mod m7 (fun g hg => by cases hg; omega)
   have z24 := m7.size
   refine J_st (R_assign rfl) rfl ?_
   refine J_storeS' (cs' := [.int .i64 dx10.op, .int .i64 dx10.stamp.epoch, .int .i64 dx10.stamp.turn, .int .i64 dx10.key, .int .i64 dx10.val]) st31 rfl rfl rfl rfl h2 (Nat.le_of_ble_eq_true rfl) rfl (fun w25 m8 h2' => ?_)
   replace h2 := h2'
   replace E := E.step m8 (fun g hg => by cases hg; omega); replace h1 := h1.mod m8 (fun g hg => by cases hg; omega); replace hcu1 := hcu1.mod m8 (fun g hg => by cases hg; omega); replace ho1 := ho1.mod m8 (fun g hg => by cases hg; omega); replace h3 := h3.mod m8 (fun g hg => by cases hg; omega); replace ho4 := ho4.mod m8 (fun g hg => by cases hg; omega)
   have z25 := m8.size
   refine J_done ?_
   refine S_ret (E_doneN (l := [.cell 2 26, .tmp 3, .cell 4 31]) (vs := [.agg [o1, .int .i64 dx1.workers, .int .i64 dx1.cap].toArray, v3, .agg (Enc.enc dx10).toArray]) rfl ⟨.cell rfl (run_loadVar_st st26 h1.at rfl), .tmp rfl, .cell rfl (run_loadVar_st st31 h2.at rfl), trivial⟩ rfl E ?_)
   exact ⟨dx1, dx8, dx10, (by assumption), (by assumption), ⟨_, _, rfl, (Graph.mkR _ (RdD.widen (OwS.rd ho1) (by have := E.size; omega) (by omega))), (Own.fin ho4 (by have := E.size; omega) (by omega) (by first | (simp [*]; done) | (simp [*]; rfl)))⟩⟩
  ·refine S_skip ?_
   refine S_seq ?_
   refine S_regW mixed [1, 2, 6] [(0, true), (1, true), (2, true), (3, true), (4, false)] [(5, false), (6, true), (7, false)] (by decide +kernel) rfl rfl (fun w' => Ext w w' ∧ w21.heap.size ≤ w'.heap.size ∧ Blk w' b1 [.slice none 0 0, .int .i64 0, .int .i64 0] ∧ Blk w' b2 [.int .i64 0, .int .i64 0, .int .i64 0, .int .i64 0, .int .i64 0] ∧ CurO w' bc1 vcode code ∧ OwS w' w3.heap.size w4.heap.size o1 dx1.nodes ∧ Blk w' b3 [o1, .int .i64 dx1.workers, .int .i64 dx1.cap] ∧ Own w' w7.heap.size w20.heap.size 4 v3 (List.flatMap (Enc.enc (α := Cell)) dx8)) (fun w26 e18 => ?_)
   replace E := E.trans e18; replace h1 := h1.ext e18; replace h2 := h2.ext e18; replace hcu1 := hcu1.ext e18; replace ho1 := ho1.ext e18; replace h3 := h3.ext e18; replace ho4 := ho4.ext e18
   have z26 := e18.size
   refine ⟨⟨E, (by omega), h1, h2, hcu1, ho1, h3, ho4⟩, ?_⟩
   refine JC_st rfl (fun wX hX => by obtain ⟨E, zX, h1, h2, hcu1, ho1, h3, ho4⟩ := hX; exact R_loadS st26 rfl h3.at rfl) rfl ?_
   refine JC_pu rfl (fun wX => R_move rfl) rfl ?_
   refine JC_pu rfl (fun wX => R_move rfl) rfl ?_
   refine JC_st rfl (fun wX hX => by obtain ⟨E, zX, h1, h2, hcu1, ho1, h3, ho4⟩ := hX; exact R_loadS st26 rfl h3.at rfl) rfl ?_
   refine JC_un rfl ?_
   refine J_callR Try.call40 rfl rfl (s_l10Record bc1 vcode code o1 dx1 _ hcu1 (RdD.widen (RdD.ext (RdS.rdD hcode) E) (Nat.le_refl _) (by omega)) (fun wX eX => RdD.any (OwS.rd (OwS.modR ho1 eX (by omega))))) rfl (fun _ w27 e19 hv => ?_)
   obtain ⟨dx11, hcu1', hv⟩ := hv
   replace hcu1 := hcu1'
   subst hv
   replace E := E.stepR e19 (by omega); replace h1 := h1.modR e19 (by omega); replace h2 := h2.modR e19 (by omega); replace ho1 := ho1.modR e19 (by omega); replace h3 := h3.modR e19 (by omega); replace ho4 := ho4.modR e19 (by omega)
   have z27 := e19.size
   refine JC_next ⟨E, (by omega), h1, h2, hcu1, ho1, h3, ho4⟩ ?_
   refine JC_end ?_
   refine J_storeS' (cs' := [o1, .int .i64 dx1.workers, .int .i64 dx1.cap]) st26 rfl rfl rfl (all_cons (RdD.one (OwS.rd ho1)) (all_cons rfl (all_cons rfl rfl))) h1 (Nat.le_of_ble_eq_true rfl) rfl (fun w28 m9 h1' => ?_)
   replace h1 := h1'
   replace E := E.step m9 (fun g hg => by cases hg; omega); replace h2 := h2.mod m9 (fun g hg => by cases hg; omega); replace hcu1 := hcu1.mod m9 (fun g hg => by cases hg; omega); replace ho1 := ho1.mod m9 (fun g hg => by cases hg; omega); replace h3 := h3.mod m9 (fun g hg => by cases hg; omega); replace ho4 := ho4.mod m9 (fun g hg => by cases hg; omega)
   have z28 := m9.size
   refine J_st (R_assign rfl) rfl ?_
   refine J_storeS' (cs' := [.int .i64 dx11.op, .int .i64 dx11.stamp.epoch, .int .i64 dx11.stamp.turn, .int .i64 dx11.key, .int .i64 dx11.val]) st31 rfl rfl rfl rfl h2 (Nat.le_of_ble_eq_true rfl) rfl (fun w29 m10 h2' => ?_)
   replace h2 := h2'
   replace E := E.step m10 (fun g hg => by cases hg; omega); replace h1 := h1.mod m10 (fun g hg => by cases hg; omega); replace hcu1 := hcu1.mod m10 (fun g hg => by cases hg; omega); replace ho1 := ho1.mod m10 (fun g hg => by cases hg; omega); replace h3 := h3.mod m10 (fun g hg => by cases hg; omega); replace ho4 := ho4.mod m10 (fun g hg => by cases hg; omega)
   have z29 := m10.size
   refine J_done ?_
   refine S_ret (E_doneN (l := [.cell 2 26, .tmp 3, .cell 4 31]) (vs := [.agg [o1, .int .i64 dx1.workers, .int .i64 dx1.cap].toArray, v3, .agg (Enc.enc dx11).toArray]) rfl ⟨.cell rfl (run_loadVar_st st26 h1.at rfl), .tmp rfl, .cell rfl (run_loadVar_st st31 h2.at rfl), trivial⟩ rfl E ?_)
   exact ⟨dx1, dx8, dx11, (by assumption), (by assumption), ⟨_, _, rfl, (Graph.mkR _ (RdD.widen (OwS.rd ho1) (by have := E.size; omega) (by omega))), (Own.fin ho4 (by have := E.size; omega) (by omega) (by first | (simp [*]; done) | (simp [*]; rfl)))⟩⟩

set_option maxHeartbeats 4000000 in
set_option maxRecDepth 20000 in
theorem s_DrawStepAll (vcode : Value) (code : List Byt) (w : World) (hcode : RdS w vcode code) : Ct Try.prog 14 [vcode] w (fun v w' => ∃ (dr0 : Graph) (dr1 : List Cell) (dr2 : List Record) (dr3 : Int), smG dr0 ∧ dr1.length ≤ 10 ∧ dr2.length ≤ 10 ∧ ∃ c0 u1 u2, v = .tuple [.agg c0.toArray, u1, u2, .int .i64 dr3].toArray ∧ Dat.R w' w.heap.size w'.heap.size c0 dr0 ∧ Own w' w.heap.size w'.heap.size 4 u1 (List.flatMap (Enc.enc (α := Cell)) dr1) ∧ Own w' w.heap.size w'.heap.size 5 u2 (List.flatMap (Enc.enc (α := Record)) dr2) ∧ SepL [u1, u2]) := by
 refine ct_of Try.func14 rfl Try.ntmps14 rfl ?_
 refine S_sub [(0, vcode)] ⟨rfl, trivial⟩ ?_
 have E : Ext w w := Ext.refl w
 refine S_seq ?_
 refine S_reg [false, true, true, true] rfl rfl ?_
 refine J_alloc st26 rfl (fun b1 w1 e1 s1 h1 => ?_)
 have g_b1 : w.heap.size ≤ b1 := by have := E.size; omega
 have y_b1 := h1.lt
 replace E := E.trans e1
 have z1 := e1.size
 refine J_st (R_assign rfl) rfl (J_st (R_assign rfl) rfl (J_st (R_assign rfl) rfl (J_done ?_)))
 refine S_seq ?_
 refine S_reg [true, false, true] rfl rfl ?_
 refine J_st (R_move rfl) rfl ?_
 refine J_call Try.call34 rfl (s_l01New vcode code _ (hcode.ext E)) rfl (fun _ w2 e2 hcu1 => ?_)
 obtain ⟨bc1, rfl, ybc1, hcu1⟩ := hcu1
 have g_bc1 : w.heap.size ≤ bc1 := Nat.le_trans E.size ybc1
 have y_bc1 := CurO.lt hcu1
 replace E := E.trans e2; replace h1 := h1.ext e2
 have z2 := e2.size
 refine J_st (R_assign rfl) rfl (J_done ?_)
 refine S_seq ?_
 refine S_reg [true, false, false, false] rfl rfl ?_
 refine J_st (R_move rfl) rfl ?_
 refine J_callR Try.call35 rfl rfl (s_l08Graph bc1 vcode code _ hcu1 (RdD.widen (RdD.ext (RdS.rdD hcode) E) (Nat.le_refl _) (by omega))) rfl (fun _ w3 e3 ho1 => ?_)
 obtain ⟨dx1, q1, q2, q3, hcu1', ho1⟩ := ho1
 replace hcu1 := hcu1'
 obtain ⟨o1, rfl, ho1⟩ := ho1
 have g_ho1 : w.heap.size ≤ w2.heap.size := E.size
 replace E := E.stepR e3 (by omega); replace h1 := h1.modR e3 (by omega)
 have z3 := e3.size
 refine J_alloc st26 rfl (fun b2 w4 e4 s2 h2 => ?_)
 have g_b2 : w.heap.size ≤ b2 := by have := E.size; omega
 have y_b2 := h2.lt
 replace E := E.trans e4; replace h1 := h1.ext e4; replace hcu1 := hcu1.ext e4; replace ho1 := ho1.ext e4
 have z4 := e4.size
 refine J_storeS' (cs' := [o1, .int .i64 dx1.workers, .int .i64 dx1.cap]) st26 rfl rfl rfl (all_cons (RdD.one (OwS.rd ho1)) (all_cons rfl (all_cons rfl rfl))) h2 (Nat.le_of_ble_eq_true rfl) rfl (fun w5 m1 h2' => ?_)
 replace h2 := h2'
 replace E := E.step m1 (fun g hg => by cases hg; omega); replace h1 := h1.mod m1 (fun g hg => by cases hg; omega); replace hcu1 := hcu1.mod m1 (fun g hg => by cases hg; omega); replace ho1 := ho1.mod m1 (fun g hg => by cases hg; omega)
 have z5 := m1.size
 refine J_done ?_
 refine S_seq ?_
 refine S_reg [false, true] rfl rfl ?_
 refine J_buildSlice (vs := []) (css := []) sl34 rfl rfl trivial rfl rfl (fun b3 w6 e5 s3 h3 => ?_)
 replace h3 : Blk w6 b3 [] := h3
 have g_b3 : w.heap.size ≤ b3 := by have := E.size; omega
 have y_b3 := h3.lt
 replace E := E.trans e5; replace h1 := h1.ext e5; replace hcu1 := hcu1.ext e5; replace ho1 := ho1.ext e5; replace h2 := h2.ext e5
 have z6 := e5.size
 refine J_st (R_assign rfl) rfl (J_done ?_)
 refine S_seq ?_
 refine S_seq ?_
 refine S_reg [true] rfl rfl ?_
 refine J_st (R_assign rfl) rfl (J_done ?_)
 refine S_block ?_
 refine S_loop (fun (xq : Nat × Value × List Record) => let ⟨k, vo, ls⟩ := xq; [(2, .pointer (some ⟨b1, 0, none⟩)), (3, .slice none 0 0), (4, .slice none 0 0), (5, .int .i64 0), (6, .pointer (some ⟨bc1, 0, none⟩)), (7, .pointer (some ⟨b2, 0, none⟩)), (8, vo), (9, .int .i64 ((k : Nat) : Int))]) (fun (xq : Nat × Value × List Record) w' => let ⟨k, vo, ls⟩ := xq; Ext w w' ∧ w6.heap.size ≤ w'.heap.size ∧ Blk w' b1 [.slice none 0 0, .int .i64 0, .int .i64 0] ∧ CurO w' bc1 vcode code ∧ OwS w' w2.heap.size w3.heap.size o1 dx1.nodes ∧ Blk w' b2 [o1, .int .i64 dx1.workers, .int .i64 dx1.cap] ∧ k ≤ 4 ∧ ls.length ≤ k ∧ Own w' b3 w'.heap.size 5 vo (List.flatMap (Enc.enc (α := Record)) ls)) (fun (xq : Nat × Value × List Record) => let ⟨k, vo, ls⟩ := xq; 4 - k) (0, .slice (some ⟨b3, 0, none⟩) 0 0, []) ⟨rfl, rfl, rfl, rfl, rfl, rfl, rfl, rfl, trivial⟩ ⟨E, Nat.le_refl _, h1, hcu1, ho1, h2, Nat.zero_le _, Nat.le_refl _, Own.fin (Own.ofBlk (lo := b3) (hi := b3 + 1) (sz := 5) h3 (Nat.le_refl _) (Nat.lt_succ_self _) (by simp) (by simp [maxLen])) (by omega) (by omega) rfl⟩ ?_
 clear E h1 hcu1 ho1 h2 h3
 rintro ⟨k, vo, ls⟩ w7 ⟨E, z7, h1, hcu1, ho1, h2, hk, hls, ho⟩
 refine S_sub [(2, .pointer (some ⟨b1, 0, none⟩)), (3, .slice none 0 0), (4, .slice none 0 0), (5, .int .i64 0), (6, .pointer (some ⟨bc1, 0, none⟩)), (7, .pointer (some ⟨b2, 0, none⟩)), (8, vo), (9, .int .i64 ((k : Nat) : Int))] ⟨rfl, rfl, rfl, rfl, rfl, rfl, rfl, rfl, trivial⟩ ?_
 refine S_seq ?_
 refine S_seq ?_
 refine S_reg [true, true, false, true] rfl rfl ?_
 refine J_st (R_move rfl) rfl (J_st (R_move rfl) rfl ?_)
 refine J_callR Try.call55 rfl rfl (s_l01Below bc1 vcode code 4 _ hcu1 (RdD.widen (RdD.ext (RdS.rdD hcode) E) (Nat.le_refl _) (by omega))) rfl (fun _ w8 e6 hv => ?_)
 obtain ⟨dx2, q4, q5, hcu1', hv⟩ := hv
 replace hcu1 := hcu1'
 subst hv
 replace E := E.stepR e6 (by omega); replace h1 := h1.modR e6 (by omega); replace ho1 := ho1.modR e6 (by omega); replace h2 := h2.modR e6 (by omega); replace ho := ho.modR e6 (by omega)
 have z8 := e6.size
 refine J_st (R_lss rfl rfl) rfl (J_done ?_)
 refine S_cond rfl (fun hc1 => ?_) (fun hc1 => ?_)
 ·have hc1n : k < dx2 := by first | (have h := of_decide_eq_true hc1; omega) | (have h := hc1; simp at h; omega)
  refine S_skip ?_
  refine S_seq ?_
  refine S_block ?_
  refine S_reg [true, true, true, false, false, false, true] rfl rfl ?_
  refine J_st (R_move rfl) rfl (J_st (R_move rfl) rfl (J_st (R_loadS st26 rfl h2.at rfl) rfl ?_))
  refine J_callR Try.call40 rfl rfl (s_l10Record bc1 vcode code o1 dx1 _ hcu1 (RdD.widen (RdD.ext (RdS.rdD hcode) E) (Nat.le_refl _) (by omega)) (fun wX eX => RdD.any (OwS.rd (OwS.modR ho1 eX (by omega))))) rfl (fun _ w9 e7 hv => ?_)
  obtain ⟨dx3, hcu1', hv⟩ := hv
  replace hcu1 := hcu1'
  subst hv
  replace E := E.stepR e7 (by omega); replace h1 := h1.modR e7 (by omega); replace ho1 := ho1.modR e7 (by omega); replace h2 := h2.modR e7 (by omega); replace ho := ho.modR e7 (by omega)
  have z9 := e7.size
  refine J_buildSlice (vs := [.agg (Enc.enc dx3).toArray]) (css := [[.int .i64 dx3.op, .int .i64 dx3.stamp.epoch, .int .i64 dx3.stamp.turn, .int .i64 dx3.key, .int .i64 dx3.val]]) sl34 rfl rfl ⟨⟨rfl, rfl⟩, trivial⟩ rfl rfl (fun b4 w10 e8 s4 h4 => ?_)
  replace h4 : Blk w10 b4 [.int .i64 dx3.op, .int .i64 dx3.stamp.epoch, .int .i64 dx3.stamp.turn, .int .i64 dx3.key, .int .i64 dx3.val] := h4
  have g_b4 : w.heap.size ≤ b4 := by have := E.size; omega
  have y_b4 := h4.lt
  replace E := E.trans e8; replace h1 := h1.ext e8; replace hcu1 := hcu1.ext e8; replace ho1 := ho1.ext e8; replace h2 := h2.ext e8; replace ho := ho.ext e8
  have z10 := e8.size
  refine J_append sl34 rfl rfl ho (Src.ofBlk h4 rfl) rfl (by simp only [sum_flat, List.length_cons, List.length_nil]; simp only [Enc.sz]; omega) (by decide) (by omega) (by omega) rfl rfl (fun v1 w11 m2 ho2 => ?_)
  replace E := E.step m2 (fun g hg => by have := Own.blk ho g hg; omega); replace h1 := h1.mod m2 (fun g hg => by have := Own.blk ho g hg; omega); replace hcu1 := hcu1.mod m2 (fun g hg => by have := Own.blk ho g hg; omega); replace ho1 := ho1.mod m2 (fun g hg => by have := Own.blk ho g hg; omega); replace h2 := h2.mod m2 (fun g hg => by have := Own.blk ho g hg; omega)
  have z11 := m2.size
  refine J_st (R_assign rfl) rfl (J_done ?_)
  refine S_nil (E_inB ?_)
  refine S_reg [true, true, true] rfl rfl ?_
  refine J_st (R_move rfl) rfl (J_st (R_add rfl rfl (add_nat (by unfold maxLen; omega))) rfl (J_st (R_assign rfl) rfl (J_done ?_)))
  refine S_nil (E_again (k + 1, v1, (ls ++ [dx3])) (by simp; omega) ⟨rfl, rfl, rfl, rfl, rfl, rfl, rfl, rfl, trivial⟩ ⟨E, (by omega), h1, hcu1, ho1, h2, (by omega), (by simp; omega), Own.fin ho2 (by omega) (by omega) (by first | (simp [*]; done) | (simp [Enc.enc]; done))⟩)
 ·have hc1n : ¬ k < dx2 := by first | (have h := of_decide_eq_false hc1; omega) | (have h := hc1; simp at h; omega)
  refine S_exit (E_lp_exit (E_inB_exit ?_))
  refine S_seq ?_
  refine S_regWF mixed [1, 4, 5, 9, 10, 11] 3 6 [(0, true), (1, true), (2, true), (4, true), (5, true)] [(6, false), (7, false)] [(3, false), (7, false)] [(8, false), (9, true), (10, true), (11, true)] [(8, false), (9, true), (10, true), (11, true)] (by decide +kernel) rfl rfl rfl rfl rfl rfl rfl (fun w' => Ext w w' ∧ w8.heap.size ≤ w'.heap.size ∧ Blk w' b1 [.slice none 0 0, .int .i64 0, .int .i64 0] ∧ CurO w' bc1 vcode code ∧ OwS w' w2.heap.size w3.heap.size o1 dx1.nodes ∧ Blk w' b2 [o1, .int .i64 dx1.workers, .int .i64 dx1.cap] ∧ Own w' b3 w7.heap.size 5 vo (List.flatMap (Enc.enc (α := Record)) ls)) (fun w12 e9 => ?_)
  replace E := E.trans e9; replace h1 := h1.ext e9; replace hcu1 := hcu1.ext e9; replace ho1 := ho1.ext e9; replace h2 := h2.ext e9; replace ho := ho.ext e9
  have z12 := e9.size
  refine ⟨⟨E, (by omega), h1, hcu1, ho1, h2, ho⟩, ?_⟩
  refine JC_st rfl (fun wX hX => by obtain ⟨E, zX, h1, hcu1, ho1, h2, ho⟩ := hX; exact R_loadS st26 rfl h2.at rfl) rfl ?_
  refine JC_pu rfl (fun wX => R_move rfl) rfl ?_
  refine JC_st rfl (fun wX hX => by obtain ⟨E, zX, h1, hcu1, ho1, h2, ho⟩ := hX; exact R_loadS st26 rfl h2.at rfl) rfl ?_
  refine JC_pu rfl (fun wX => R_move rfl) rfl ?_
  refine JC_pu rfl (fun wX => R_move rfl) rfl ?_
  refine JC_end ⟨?_, ?_⟩
  ·refine JC_un rfl ?_
   refine J_callR Try.call38 rfl rfl (s_l10Cells bc1 vcode code o1 dx1 _ hcu1 (RdD.widen (RdD.ext (RdS.rdD hcode) E) (Nat.le_refl _) (by omega)) (fun wX eX => RdD.any (OwS.rd (OwS.modR ho1 eX (by omega)))) (smG_cnt (by assumption))) rfl (fun v2 w13 e10 ho3 => ?_)
   obtain ⟨dx4, q6, hcu1', ho3⟩ := ho3
   replace hcu1 := hcu1'
   have g_ho3 : w.heap.size ≤ w12.heap.size := E.size
   replace E := E.stepR e10 (by omega); replace h1 := h1.modR e10 (by omega); replace ho1 := ho1.modR e10 (by omega); replace h2 := h2.modR e10 (by omega); replace ho := ho.modR e10 (by omega)
   have z13 := e10.size
   refine JC_next ⟨E, (by omega), h1, hcu1, ho1, h2, ho⟩ ?_
   refine JC_un rfl ?_
   refine J_buildSlice (vs := [.int .i64 300, .int .i64 300, .int .i64 10, .int .i64 1, .int .i64 0, .int .i64 (-1)]) (css := [[.int .i64 300], [.int .i64 300], [.int .i64 10], [.int .i64 1], [.int .i64 0], [.int .i64 (-1)]]) sl40 rfl rfl ⟨⟨rfl, rfl⟩, ⟨rfl, rfl⟩, ⟨rfl, rfl⟩, ⟨rfl, rfl⟩, ⟨rfl, rfl⟩, ⟨rfl, rfl⟩, trivial⟩ rfl rfl (fun b5 w14 e11 s5 h5 => ?_)
   replace h5 : Blk w14 b5 [.int .i64 300, .int .i64 300, .int .i64 10, .int .i64 1, .int .i64 0, .int .i64 (-1)] := h5
   have g_b5 : w.heap.size ≤ b5 := by have := E.size; omega
   have y_b5 := h5.lt
   replace E := E.trans e11; replace h1 := h1.ext e11; replace hcu1 := hcu1.ext e11; replace ho1 := ho1.ext e11; replace h2 := h2.ext e11; replace ho := ho.ext e11; replace ho3 := ho3.ext e11
   have z14 := e11.size
   refine JC_next ⟨E, (by omega), h1, hcu1, ho1, h2, ho⟩ ?_
   refine JC_un rfl ?_
   refine J_callR Try.call56 rfl rfl (s_l01PickInt bc1 vcode code (.slice (some ⟨b5, 0, none⟩) 6 6) [300, 300, 10, 1, 0, (-1)] _ hcu1 (RdD.widen (RdD.ext (RdS.rdD hcode) E) (Nat.le_refl _) (by omega)) (fun wX eX => (Blk.rd (α := Int) (xs := [300, 300, 10, 1, 0, (-1)]) (by decide) (Blk.modR h5 eX (by omega)) rfl (by simp [maxLen]))) (by decide)) rfl (fun _ w15 e12 hv => ?_)
   obtain ⟨dx5, q7, hcu1', hv⟩ := hv
   replace hcu1 := hcu1'
   subst hv
   replace E := E.stepR e12 (by omega); replace h1 := h1.modR e12 (by omega); replace ho1 := ho1.modR e12 (by omega); replace h2 := h2.modR e12 (by omega); replace ho := ho.modR e12 (by omega); replace ho3 := ho3.modR e12 (by omega); replace h5 := h5.modR e12 (by omega)
   have z15 := e12.size
   refine JC_next ⟨E, (by omega), h1, hcu1, ho1, h2, ho⟩ ?_
   refine JC_end ?_
   refine J_storeS' (cs' := [o1, .int .i64 dx1.workers, .int .i64 dx1.cap]) st26 rfl rfl rfl (all_cons (RdD.one (OwS.rd ho1)) (all_cons rfl (all_cons rfl rfl))) h1 (Nat.le_of_ble_eq_true rfl) rfl (fun w16 m3 h1' => ?_)
   replace h1 := h1'
   replace E := E.step m3 (fun g hg => by cases hg; omega); replace hcu1 := hcu1.mod m3 (fun g hg => by cases hg; omega); replace ho1 := ho1.mod m3 (fun g hg => by cases hg; omega); replace h2 := h2.mod m3 (fun g hg => by cases hg; omega); replace ho := ho.mod m3 (fun g hg => by cases hg; omega); replace ho3 := ho3.mod m3 (fun g hg => by cases hg; omega); replace h5 := h5.mod m3 (fun g hg => by cases hg; omega)
   have z16 := m3.size
   refine J_st (R_assign rfl) rfl (J_st (R_assign rfl) rfl (J_st (R_assign rfl) rfl (J_done ?_)))
   refine S_ret (E_doneN (l := [.cell 2 26, .tmp 3, .tmp 4, .tmp 5]) (vs := [.agg [o1, .int .i64 dx1.workers, .int .i64 dx1.cap].toArray, v2, vo, .int .i64 dx5]) rfl ⟨.cell rfl (run_loadVar_st st26 h1.at rfl), .tmp rfl, .tmp rfl, .tmp rfl, trivial⟩ rfl E ?_)
   exact ⟨dx1, dx4, ls, dx5, (by assumption), (by assumption), (by omega), ⟨_, _, _, rfl, (Graph.mkR _ (RdD.widen (OwS.rd ho1) (by have := E.size; omega) (by omega))), (Own.fin ho3 (by have := E.size; omega) (by omega) (by first | (simp [*]; done) | (simp [*]; rfl))), (Own.fin ho (by have := E.size; omega) (by omega) (by first | (simp [*]; done) | (simp [*]; rfl))), ⟨⟨(Own.sep ho3 ho (by omega)), trivial⟩, ⟨trivial, trivial⟩⟩⟩⟩
  ·refine JC_un rfl ?_
   refine J_buildSlice (vs := [.int .i64 300, .int .i64 300, .int .i64 10, .int .i64 1, .int .i64 0, .int .i64 (-1)]) (css := [[.int .i64 300], [.int .i64 300], [.int .i64 10], [.int .i64 1], [.int .i64 0], [.int .i64 (-1)]]) sl40 rfl rfl ⟨⟨rfl, rfl⟩, ⟨rfl, rfl⟩, ⟨rfl, rfl⟩, ⟨rfl, rfl⟩, ⟨rfl, rfl⟩, ⟨rfl, rfl⟩, trivial⟩ rfl rfl (fun b6 w17 e13 s6 h6 => ?_)
   replace h6 : Blk w17 b6 [.int .i64 300, .int .i64 300, .int .i64 10, .int .i64 1, .int .i64 0, .int .i64 (-1)] := h6
   have g_b6 : w.heap.size ≤ b6 := by have := E.size; omega
   have y_b6 := h6.lt
   replace E := E.trans e13; replace h1 := h1.ext e13; replace hcu1 := hcu1.ext e13; replace ho1 := ho1.ext e13; replace h2 := h2.ext e13; replace ho := ho.ext e13
   have z17 := e13.size
   refine JC_next ⟨E, (by omega), h1, hcu1, ho1, h2, ho⟩ ?_
   refine JC_un rfl ?_
   refine J_callR Try.call38 rfl rfl (s_l10Cells bc1 vcode code o1 dx1 _ hcu1 (RdD.widen (RdD.ext (RdS.rdD hcode) E) (Nat.le_refl _) (by omega)) (fun wX eX => RdD.any (OwS.rd (OwS.modR ho1 eX (by omega)))) (smG_cnt (by assumption))) rfl (fun v3 w18 e14 ho4 => ?_)
   obtain ⟨dx6, q8, hcu1', ho4⟩ := ho4
   replace hcu1 := hcu1'
   have g_ho4 : w.heap.size ≤ w17.heap.size := E.size
   replace E := E.stepR e14 (by omega); replace h1 := h1.modR e14 (by omega); replace ho1 := ho1.modR e14 (by omega); replace h2 := h2.modR e14 (by omega); replace ho := ho.modR e14 (by omega); replace h6 := h6.modR e14 (by omega)
   have z18 := e14.size
   refine JC_next ⟨E, (by omega), h1, hcu1, ho1, h2, ho⟩ ?_
   refine JC_un rfl ?_
   refine J_callR Try.call56 rfl rfl (s_l01PickInt bc1 vcode code (.slice (some ⟨b6, 0, none⟩) 6 6) [300, 300, 10, 1, 0, (-1)] _ hcu1 (RdD.widen (RdD.ext (RdS.rdD hcode) E) (Nat.le_refl _) (by omega)) (fun wX eX => (Blk.rd (α := Int) (xs := [300, 300, 10, 1, 0, (-1)]) (by decide) (Blk.modR h6 eX (by omega)) rfl (by simp [maxLen]))) (by decide)) rfl (fun _ w19 e15 hv => ?_)
   obtain ⟨dx7, q9, hcu1', hv⟩ := hv
   replace hcu1 := hcu1'
   subst hv
   replace E := E.stepR e15 (by omega); replace h1 := h1.modR e15 (by omega); replace ho1 := ho1.modR e15 (by omega); replace h2 := h2.modR e15 (by omega); replace ho := ho.modR e15 (by omega); replace h6 := h6.modR e15 (by omega); replace ho4 := ho4.modR e15 (by omega)
   have z19 := e15.size
   refine JC_next ⟨E, (by omega), h1, hcu1, ho1, h2, ho⟩ ?_
   refine JC_end ?_
   refine J_storeS' (cs' := [o1, .int .i64 dx1.workers, .int .i64 dx1.cap]) st26 rfl rfl rfl (all_cons (RdD.one (OwS.rd ho1)) (all_cons rfl (all_cons rfl rfl))) h1 (Nat.le_of_ble_eq_true rfl) rfl (fun w20 m4 h1' => ?_)
   replace h1 := h1'
   replace E := E.step m4 (fun g hg => by cases hg; omega); replace hcu1 := hcu1.mod m4 (fun g hg => by cases hg; omega); replace ho1 := ho1.mod m4 (fun g hg => by cases hg; omega); replace h2 := h2.mod m4 (fun g hg => by cases hg; omega); replace ho := ho.mod m4 (fun g hg => by cases hg; omega); replace h6 := h6.mod m4 (fun g hg => by cases hg; omega); replace ho4 := ho4.mod m4 (fun g hg => by cases hg; omega)
   have z20 := m4.size
   refine J_st (R_assign rfl) rfl (J_st (R_assign rfl) rfl (J_st (R_assign rfl) rfl (J_done ?_)))
   refine S_ret (E_doneN (l := [.cell 2 26, .tmp 3, .tmp 4, .tmp 5]) (vs := [.agg [o1, .int .i64 dx1.workers, .int .i64 dx1.cap].toArray, v3, vo, .int .i64 dx7]) rfl ⟨.cell rfl (run_loadVar_st st26 h1.at rfl), .tmp rfl, .tmp rfl, .tmp rfl, trivial⟩ rfl E ?_)
   exact ⟨dx1, dx6, ls, dx7, (by assumption), (by assumption), (by omega), ⟨_, _, _, rfl, (Graph.mkR _ (RdD.widen (OwS.rd ho1) (by have := E.size; omega) (by omega))), (Own.fin ho4 (by have := E.size; omega) (by omega) (by first | (simp [*]; done) | (simp [*]; rfl))), (Own.fin ho (by have := E.size; omega) (by omega) (by first | (simp [*]; done) | (simp [*]; rfl))), ⟨⟨(Own.sep ho4 ho (by omega)), trivial⟩, ⟨trivial, trivial⟩⟩⟩⟩

set_option maxHeartbeats 4000000 in
set_option maxRecDepth 20000 in
theorem l_FnSteps (vcode : Value) (code : List Byt) (w : World) (hcode : RdS w vcode code) (kcode : ∀ y ∈ code, True) : Ct Try.prog 3 [vcode] w (fun v _ => v = .bool true) := by
 have hone := steps_two
 have hone1 : (stepM (⟨[(⟨1, 0, 0, [1]⟩ : Node), (⟨8, 0, 0, []⟩ : Node)], 1, 1⟩ : Graph) [] (⟨0, ⟨0, 0⟩, 5, 0⟩ : Record)).2.1.length = 1 := by rw [show (stepM (⟨[(⟨1, 0, 0, [1]⟩ : Node), (⟨8, 0, 0, []⟩ : Node)], 1, 1⟩ : Graph) [] (⟨0, ⟨0, 0⟩, 5, 0⟩ : Record)).2.1 = _ from hone]; rfl
 refine ct_of Try.func3 rfl Try.ntmps3 rfl ?_
 refine S_sub [(0, vcode)] ⟨rfl, trivial⟩ ?_
 have E : Ext w w := Ext.refl w
 refine S_seq ?_
 refine S_reg [true] rfl rfl ?_
 refine J_st (R_assign rfl) rfl (J_done ?_)
 refine S_seq ?_
 refine S_seq ?_
 refine S_reg [true, false] rfl rfl ?_
 refine J_st (R_move rfl) rfl ?_
 refine J_call Try.call5 rfl (l_big vcode code _ (hcode.ext E)) rfl (fun _ w1 e1 hv => ?_)
 subst hv
 replace E := E.trans e1
 have z1 := e1.size
 refine J_done ?_
 refine S_cond rfl (fun hc1 => ?_) (fun hc1 => ?_)
 ·refine S_seq ?_
  refine S_reg [true] rfl rfl ?_
  refine J_st (R_assign rfl) rfl (J_done ?_)
  refine S_ret (E_done1 rfl rfl E ?_)
  rfl
 ·refine S_skip ?_
  refine S_seq ?_
  refine S_reg [true, false, true, true, true, true, false, false, false, true, false] rfl rfl ?_
  refine J_st (R_move rfl) rfl ?_
  refine J_call Try.call6 rfl (s_DrawStepOp vcode code _ (hcode.ext E)) rfl (fun _ w2 e2 ho1 => ?_)
  obtain ⟨dx1, dx2, dx3, q1, q2, ho1⟩ := ho1
  obtain ⟨_, v1, rfl, ho2, ho3⟩ := ho1
  have g_ho1 : w.heap.size ≤ w1.heap.size := E.size
  replace E := E.trans e2
  have z2 := e2.size
  obtain ⟨o1, rfl, hd1⟩ := Graph.op ho2
  refine J_st (R_move rfl) rfl (J_st (R_extract rfl rfl) rfl (J_st (R_extract rfl rfl) rfl (J_st (R_extract rfl rfl) rfl ?_)))
  refine J_alloc st26 rfl (fun b1 w3 e3 s1 h1 => ?_)
  have g_b1 : w.heap.size ≤ b1 := by have := E.size; omega
  have y_b1 := h1.lt
  replace E := E.trans e3; replace hd1 := hd1.ext e3; replace ho3 := ho3.ext e3
  have z3 := e3.size
  refine J_alloc st31 rfl (fun b2 w4 e4 s2 h2 => ?_)
  have g_b2 : w.heap.size ≤ b2 := by have := E.size; omega
  have y_b2 := h2.lt
  replace E := E.trans e4; replace hd1 := hd1.ext e4; replace ho3 := ho3.ext e4; replace h1 := h1.ext e4
  have z4 := e4.size
  refine J_storeS' (cs' := [o1, .int .i64 dx1.workers, .int .i64 dx1.cap]) st26 rfl rfl rfl (all_cons (RdD.one hd1) (all_cons rfl (all_cons rfl rfl))) h1 (Nat.le_of_ble_eq_true rfl) rfl (fun w5 m1 h1' => ?_)
  replace h1 := h1'
  replace E := E.step m1 (fun g hg => by cases hg; omega); replace hd1 := hd1.mod m1 (fun g hg => by cases hg; omega); replace ho3 := ho3.mod m1 (fun g hg => by cases hg; omega); replace h2 := h2.mod m1 (fun g hg => by cases hg; omega)
  have z5 := m1.size
  refine J_st (R_assign rfl) rfl ?_
  refine J_storeS' (cs' := [.int .i64 dx3.op, .int .i64 dx3.stamp.epoch, .int .i64 dx3.stamp.turn, .int .i64 dx3.key, .int .i64 dx3.val]) st31 rfl rfl rfl rfl h2 (Nat.le_of_ble_eq_true rfl) rfl (fun w6 m2 h2' => ?_)
  replace h2 := h2'
  replace E := E.step m2 (fun g hg => by cases hg; omega); replace hd1 := hd1.mod m2 (fun g hg => by cases hg; omega); replace ho3 := ho3.mod m2 (fun g hg => by cases hg; omega); replace h1 := h1.mod m2 (fun g hg => by cases hg; omega)
  have z6 := m2.size
  refine J_done ?_
  refine S_seq ?_
  refine S_reg [true, true, true, false, true, true, true, true, true, true, true] rfl rfl ?_
  refine J_st (R_loadS st26 rfl h1.at rfl) rfl (J_st (R_move rfl) rfl (J_st (R_loadS st31 rfl h2.at rfl) rfl ?_))
  refine J_call Try.call7 rfl (c_StepOp [o1, .int .i64 dx1.workers, .int .i64 dx1.cap] dx1 v1 dx2 dx3 _ (Graph.mkR dx1 (RdD.any hd1)) (Own.rd (by decide) ho3) (by first | omega | (simp; done))) rfl (fun _ w7 e5 ho4 => ?_)
  obtain ⟨v2, v3, rfl, ho5, ho6, sp1⟩ := ho4
  have g_ho4 : w.heap.size ≤ w6.heap.size := E.size
  replace E := E.trans e5; replace hd1 := hd1.ext e5; replace ho3 := ho3.ext e5; replace h1 := h1.ext e5; replace h2 := h2.ext e5
  have z7 := e5.size
  refine J_st (R_move rfl) rfl (J_st (R_extract rfl rfl) rfl (J_st (R_extract rfl rfl) rfl (J_st (R_extract rfl rfl) rfl (J_st (R_assign rfl) rfl (J_st (R_assign rfl) rfl (J_st (R_assign rfl) rfl (J_done ?_)))))))
  refine S_seq ?_
  refine S_reg [true, true, true, false, true, true, true, true, true, true, true] rfl rfl ?_
  refine J_st (R_loadS st26 rfl h1.at rfl) rfl (J_st (R_move rfl) rfl (J_st (R_loadS st31 rfl h2.at rfl) rfl ?_))
  refine J_call Try.call8 rfl (s_StepOp [o1, .int .i64 dx1.workers, .int .i64 dx1.cap] dx1 v1 dx2 dx3 _ (Graph.mkR dx1 (RdD.any hd1)) (Own.rd (by decide) ho3) (by omega) (smG_cnt (by assumption))) rfl (fun _ w8 e6 ho7 => ?_)
  obtain ⟨v4, v5, rfl, ho8, ho9, sp2⟩ := ho7
  have g_ho7 : w.heap.size ≤ w7.heap.size := E.size
  replace E := E.trans e6; replace hd1 := hd1.ext e6; replace ho3 := ho3.ext e6; replace h1 := h1.ext e6; replace h2 := h2.ext e6; replace ho5 := ho5.ext e6; replace ho6 := ho6.ext e6
  have z8 := e6.size
  refine J_st (R_move rfl) rfl (J_st (R_extract rfl rfl) rfl (J_st (R_extract rfl rfl) rfl (J_st (R_extract rfl rfl) rfl (J_st (R_assign rfl) rfl (J_st (R_assign rfl) rfl (J_st (R_assign rfl) rfl (J_done ?_)))))))
  refine S_seq ?_
  refine S_seq ?_
  refine S_regD mixed [(0, true), (1, true), (2, true), (3, true), (4, true), (5, true), (6, false), (7, true), (8, true), (9, true), (10, true), (11, true), (12, false), (13, true), (14, true), (15, true), (16, true), (17, true), (19, true), (20, true), (18, false), (21, false), (22, true), (23, true)] (by decide +kernel) rfl (fun w9 e7 => ?_)
  replace E := E.trans e7; replace hd1 := hd1.ext e7; replace ho3 := ho3.ext e7; replace h1 := h1.ext e7; replace h2 := h2.ext e7; replace ho5 := ho5.ext e7; replace ho6 := ho6.ext e7; replace ho8 := ho8.ext e7; replace ho9 := ho9.ext e7
  have z9 := e7.size
  refine J_st (R_move rfl) rfl (J_st (R_move rfl) rfl (J_st (R_neqB (Try.underlying4) rfl rfl) rfl (J_st (R_move rfl) rfl ?_)))
  refine J_cut 20 [(0, vcode), (2, .bool false), (3, .pointer (some ⟨b1, 0, none⟩)), (4, v1), (5, .pointer (some ⟨b2, 0, none⟩)), (6, v2), (7, v3), (8, .bool ((stepM dx1 dx2 dx3).2.2)), (9, v4), (10, v5), (11, .bool ((stepM dx1 dx2 dx3).2.2)), (28, vcode), (29, .bool (decide (((code.length : Nat) : Int) > 1048576))), (30, .tuple [.agg [o1, .int .i64 dx1.workers, .int .i64 dx1.cap].toArray, v1, .agg (Enc.enc dx3).toArray].toArray), (31, vcode), (32, .tuple [.agg [o1, .int .i64 dx1.workers, .int .i64 dx1.cap].toArray, v1, .agg (Enc.enc dx3).toArray].toArray), (33, .agg [o1, .int .i64 dx1.workers, .int .i64 dx1.cap].toArray), (34, v1), (35, .agg (Enc.enc dx3).toArray), (36, .tuple [v2, v3, .bool ((stepM dx1 dx2 dx3).2.2)].toArray), (37, .agg [o1, .int .i64 dx1.workers, .int .i64 dx1.cap].toArray), (38, v1), (39, .agg (Enc.enc dx3).toArray), (40, .tuple [v2, v3, .bool ((stepM dx1 dx2 dx3).2.2)].toArray), (41, v2), (42, v3), (43, .bool ((stepM dx1 dx2 dx3).2.2)), (44, .tuple [v4, v5, .bool ((stepM dx1 dx2 dx3).2.2)].toArray), (45, .agg [o1, .int .i64 dx1.workers, .int .i64 dx1.cap].toArray), (46, v1), (47, .agg (Enc.enc dx3).toArray), (48, .tuple [v4, v5, .bool ((stepM dx1 dx2 dx3).2.2)].toArray), (49, v4), (50, v5), (51, .bool ((stepM dx1 dx2 dx3).2.2)), (75, .bool ((((!(((stepM dx1 dx2 dx3).2.2) == ((stepM dx1 dx2 dx3).2.2))) || (!(decide (((stepM dx1 dx2 dx3).1) = ((stepM dx1 dx2 dx3).1))))) || (!(decide (((stepM dx1 dx2 dx3).2.1) = ((stepM dx1 dx2 dx3).2.1))))) || (!((cappedM dx1 dx3) == (cappedM dx1 dx3)))))] (fun w' => Ext w w' ∧ w9.heap.size ≤ w'.heap.size ∧ RdD w' w1.heap.size w2.heap.size o1 dx1.nodes ∧ Own w' w1.heap.size w2.heap.size 4 v1 (List.flatMap (Enc.enc (α := Cell)) dx2) ∧ Blk w' b1 [o1, .int .i64 dx1.workers, .int .i64 dx1.cap] ∧ Blk w' b2 [.int .i64 dx3.op, .int .i64 dx3.stamp.epoch, .int .i64 dx3.stamp.turn, .int .i64 dx3.key, .int .i64 dx3.val] ∧ Own w' w6.heap.size w7.heap.size 4 v2 (List.flatMap (Enc.enc (α := Cell)) ((stepM dx1 dx2 dx3).1)) ∧ Own w' w6.heap.size w7.heap.size 5 v3 (List.flatMap (Enc.enc (α := Record)) ((stepM dx1 dx2 dx3).2.1)) ∧ Own w' w7.heap.size w8.heap.size 4 v4 (List.flatMap (Enc.enc (α := Cell)) ((stepM dx1 dx2 dx3).1)) ∧ Own w' w7.heap.size w8.heap.size 5 v5 (List.flatMap (Enc.enc (α := Record)) ((stepM dx1 dx2 dx3).2.1))) ?_ ?_
  ·refine J_if (gd := 55) rfl rfl (fun hg1 => ?_) (fun hg1 => ?_)
   ·exact absurd hg1 (by first | (simp; done) | (simp only [nat_nlt] <;> simp) | (simp only [mkL_length, nat_nlt] <;> simp) | (simp only [mkL_length] <;> simp))
   ·refine J_gd rfl rfl (R_move rfl) rfl (J_gd rfl rfl (R_move rfl) rfl ?_)
    refine J_ung rfl rfl ?_
    refine J_call Try.call9 rfl (l_sameCells v2 ((stepM dx1 dx2 dx3).1) v4 ((stepM dx1 dx2 dx3).1) _ (Own.rd (by decide) ho5) (Own.rd (by decide) ho8)) rfl (fun _ w11 e8 hv => ?_)
    subst hv
    replace E := E.trans e8; replace hd1 := hd1.ext e8; replace ho3 := ho3.ext e8; replace h1 := h1.ext e8; replace h2 := h2.ext e8; replace ho5 := ho5.ext e8; replace ho6 := ho6.ext e8; replace ho8 := ho8.ext e8; replace ho9 := ho9.ext e8
    have z10 := e8.size
    refine J_gd rfl rfl (R_not rfl) rfl (J_st (R_pickF rfl rfl) rfl (J_st (R_move rfl) rfl ?_))
    refine J_if (gd := 61) rfl rfl (fun hg2 => ?_) (fun hg2 => ?_)
    ·exact absurd hg2 (by first | (simp; done) | (simp only [nat_nlt] <;> simp) | (simp only [mkL_length, nat_nlt] <;> simp) | (simp only [mkL_length] <;> simp))
    ·refine J_gd rfl rfl (R_move rfl) rfl (J_gd rfl rfl (R_move rfl) rfl ?_)
     refine J_ung rfl rfl ?_
     refine J_call Try.call10 rfl (l_sameRecords v3 ((stepM dx1 dx2 dx3).2.1) v5 ((stepM dx1 dx2 dx3).2.1) _ (Own.rd (by decide) ho6) (Own.rd (by decide) ho9)) rfl (fun _ w12 e9 hv => ?_)
     subst hv
     replace E := E.trans e9; replace hd1 := hd1.ext e9; replace ho3 := ho3.ext e9; replace h1 := h1.ext e9; replace h2 := h2.ext e9; replace ho5 := ho5.ext e9; replace ho6 := ho6.ext e9; replace ho8 := ho8.ext e9; replace ho9 := ho9.ext e9
     have z11 := e9.size
     refine J_gd rfl rfl (R_not rfl) rfl (J_st (R_pickF rfl rfl) rfl (J_st (R_move rfl) rfl ?_))
     refine J_if (gd := 67) rfl rfl (fun hg3 => ?_) (fun hg3 => ?_)
     ·exact absurd hg3 (by first | (simp; done) | (simp only [nat_nlt] <;> simp) | (simp only [mkL_length, nat_nlt] <;> simp) | (simp only [mkL_length] <;> simp))
     ·refine J_gd rfl rfl (R_loadS st26 rfl h1.at rfl) rfl (J_gd rfl rfl (R_loadS st31 rfl h2.at rfl) rfl (J_gd rfl rfl (R_loadS st26 rfl h1.at rfl) rfl (J_gd rfl rfl (R_loadS st31 rfl h2.at rfl) rfl ?_)))
      refine J_ung rfl rfl ?_
      refine J_call Try.call11 rfl (c_Capped [o1, .int .i64 dx1.workers, .int .i64 dx1.cap] dx1 dx3 _ (Graph.mkR dx1 (RdD.any hd1))) rfl (fun _ w13 e10 hv => ?_)
      subst hv
      replace E := E.trans e10; replace hd1 := hd1.ext e10; replace ho3 := ho3.ext e10; replace h1 := h1.ext e10; replace h2 := h2.ext e10; replace ho5 := ho5.ext e10; replace ho6 := ho6.ext e10; replace ho8 := ho8.ext e10; replace ho9 := ho9.ext e10
      have z12 := e10.size
      refine J_ung rfl rfl ?_
      refine J_call Try.call12 rfl (s_Capped [o1, .int .i64 dx1.workers, .int .i64 dx1.cap] dx1 dx3 _ (Graph.mkR dx1 (RdD.any hd1)) (smG_cnt (by assumption))) rfl (fun _ w14 e11 hv => ?_)
      subst hv
      replace E := E.trans e11; replace hd1 := hd1.ext e11; replace ho3 := ho3.ext e11; replace h1 := h1.ext e11; replace h2 := h2.ext e11; replace ho5 := ho5.ext e11; replace ho6 := ho6.ext e11; replace ho8 := ho8.ext e11; replace ho9 := ho9.ext e11
      have z13 := e11.size
      refine J_gd rfl rfl (R_neqB (Try.underlying4) rfl rfl) rfl (J_st (R_pickF rfl rfl) rfl (J_cutEnd ⟨rfl, rfl, rfl, rfl, rfl, rfl, rfl, rfl, rfl, rfl, rfl, rfl, rfl, rfl, rfl, rfl, rfl, rfl, rfl, rfl, rfl, rfl, rfl, rfl, rfl, rfl, rfl, rfl, rfl, rfl, rfl, rfl, rfl, rfl, rfl, congrArg (fun b => some (Value.bool b)) (show (!((cappedM dx1 dx3) == (cappedM dx1 dx3))) = ((((!(((stepM dx1 dx2 dx3).2.2) == ((stepM dx1 dx2 dx3).2.2))) || (!(decide (((stepM dx1 dx2 dx3).1) = ((stepM dx1 dx2 dx3).1))))) || (!(decide (((stepM dx1 dx2 dx3).2.1) = ((stepM dx1 dx2 dx3).2.1))))) || (!((cappedM dx1 dx3) == (cappedM dx1 dx3)))) by first | (rw [hg1, hg2, hg3] <;> rfl) | (simp [hg1, hg2, hg3]; done) | (simp only [nat_nlt] <;> simp)), trivial⟩ ⟨E, (by omega), hd1, ho3, h1, h2, ho5, ho6, ho8, ho9⟩))
  clear E hd1 ho3 h1 h2 ho5 ho6 ho8 ho9
  rintro w10 ⟨E, z14, hd1, ho3, h1, h2, ho5, ho6, ho8, ho9⟩
  refine J_done ?_
  refine S_condFe rfl (by first | (simp; done) | (simp only [nat_nlt] <;> simp) | (simp only [mkL_length, nat_nlt] <;> simp) | (simp only [mkL_length] <;> simp)) ?_
  refine S_skip ?_
  refine S_seq ?_
  refine S_seq ?_
  refine S_reg [true] rfl rfl ?_
  refine J_st (R_assign rfl) rfl (J_done ?_)
  refine S_block ?_
  refine S_loop (fun (k : Nat) => [(0, vcode), (2, .bool false), (3, .pointer (some ⟨b1, 0, none⟩)), (5, .pointer (some ⟨b2, 0, none⟩)), (7, v3), (12, .int .i64 ((k : Nat) : Int))]) (fun (k : Nat) w' => Ext w w' ∧ w10.heap.size ≤ w'.heap.size ∧ RdD w' w1.heap.size w2.heap.size o1 dx1.nodes ∧ Own w' w1.heap.size w2.heap.size 4 v1 (List.flatMap (Enc.enc (α := Cell)) dx2) ∧ Blk w' b1 [o1, .int .i64 dx1.workers, .int .i64 dx1.cap] ∧ Blk w' b2 [.int .i64 dx3.op, .int .i64 dx3.stamp.epoch, .int .i64 dx3.stamp.turn, .int .i64 dx3.key, .int .i64 dx3.val] ∧ Own w' w6.heap.size w7.heap.size 4 v2 (List.flatMap (Enc.enc (α := Cell)) ((stepM dx1 dx2 dx3).1)) ∧ Own w' w6.heap.size w7.heap.size 5 v3 (List.flatMap (Enc.enc (α := Record)) ((stepM dx1 dx2 dx3).2.1)) ∧ Own w' w7.heap.size w8.heap.size 4 v4 (List.flatMap (Enc.enc (α := Cell)) ((stepM dx1 dx2 dx3).1)) ∧ Own w' w7.heap.size w8.heap.size 5 v5 (List.flatMap (Enc.enc (α := Record)) ((stepM dx1 dx2 dx3).2.1)) ∧ k ≤ ((stepM dx1 dx2 dx3).2.1).length) (fun (k : Nat) => ((stepM dx1 dx2 dx3).2.1).length - k) 0 ⟨rfl, rfl, rfl, rfl, rfl, rfl, trivial⟩ ⟨E, Nat.le_refl _, hd1, ho3, h1, h2, ho5, ho6, ho8, ho9, Nat.zero_le _⟩ ?_
  clear E hd1 ho3 h1 h2 ho5 ho6 ho8 ho9
  rintro k w15 ⟨E, z15, hd1, ho3, h1, h2, ho5, ho6, ho8, ho9, hk⟩
  have hl2 := @step_len2 dx1 dx2 dx3
  refine S_seq ?_
  refine S_seq ?_
  refine S_reg [true, true, true, true] rfl rfl ?_
  refine J_st (R_move rfl) rfl (J_st (R_move rfl) rfl (J_st (R_len Try.underlying34 rfl (Own.len (by decide) ho6)) rfl (J_st (R_lss rfl rfl) rfl (J_done ?_))))
  refine S_cond rfl (fun hc2 => ?_) (fun hc2 => ?_)
  ·have hlk : k < (stepM dx1 dx2 dx3).2.1.length := by have h := of_decide_eq_true hc2; omega
   have hnd := step_node (List.getElem_mem hlk)
   have hsk := step_out (List.getElem_mem hlk)
   unfold stNode at hsk; rw [getD_at hnd.2] at hsk
   have hc2n : k < ((stepM dx1 dx2 dx3).2.1).length := by first | (have h := of_decide_eq_true hc2; omega) | (have h := hc2; simp at h; omega)
   refine S_skip ?_
   refine S_seq ?_
   refine S_block ?_
   refine S_seq ?_
   refine S_reg [true] rfl rfl ?_
   refine J_st (R_assign rfl) rfl (J_done ?_)
   refine S_seq ?_
   refine S_seq ?_
   refine S_reg [true, true, true, true, true, true, true, true] rfl rfl ?_
   refine J_st (R_fieldAddr0 fl26_0 rfl) rfl (J_st (R_load sc24 rfl (h1.one 0 rfl)) rfl (J_st (R_fieldAddr0 fl31_0 rfl) rfl (J_st (R_load sc3 rfl (h2.one 0 rfl)) rfl ?_)))
   have hi1 : (Int.toNat dx3.op) < dx1.nodes.length := (by first | assumption | omega | (simp only [List.length_set]; first | assumption | omega) | (simp only [List.getElem_set_self, List.length_set]; first | assumption | omega) | (simp only [setW, setLk, List.length_set]; first | assumption | omega) | (simp; done))
   obtain ⟨_, hr1, ha1⟩ := RdD.get hd1 hi1
   obtain ⟨o2, rfl, hd2⟩ := Node.op hr1
   replace ha1 : At w15 (sblk o1) (soff o1 + (Int.toNat dx3.op) * 4) [.int .i64 ((dx1.nodes[(Int.toNat dx3.op)]'hi1).kind), .int .i64 ((dx1.nodes[(Int.toNat dx3.op)]'hi1).a), .int .i64 ((dx1.nodes[(Int.toNat dx3.op)]'hi1).b), o2] := ha1
   have ha1b := RdD.blk hd1 hi1
   refine J_st (R_indexZ (i := (Int.toNat dx3.op)) sl24 rfl rfl hd1.1 (by omega) hi1) rfl (J_st (R_fieldAddr fl42_0 rfl) rfl (J_st (R_load sc3 rfl (ha1.one 0 rfl)) rfl (J_st (R_eql rfl rfl) rfl (J_done ?_))))
   refine S_cond rfl (fun hc3 => ?_) (fun hc3 => ?_)
   ·rw [hc3] at hsk
    refine S_reg [true] rfl rfl ?_
    refine J_st (R_assign rfl) rfl (J_done ?_)
    refine S_seq ?_
    refine S_regD mixed [(0, true), (1, true), (2, true), (3, true), (4, true), (5, true), (6, true), (7, true), (8, true), (9, true), (10, true), (11, true), (12, true), (13, true), (14, true), (15, true), (16, true), (17, true), (18, true), (19, true), (20, false), (21, true), (22, true)] (by decide +kernel) rfl (fun w16 e12 => ?_)
    replace E := E.trans e12; replace hd1 := hd1.ext e12; replace ho3 := ho3.ext e12; replace h1 := h1.ext e12; replace h2 := h2.ext e12; replace ho5 := ho5.ext e12; replace ho6 := ho6.ext e12; replace ho8 := ho8.ext e12; replace ho9 := ho9.ext e12; replace ha1 := ha1.ext e12; replace hd2 := hd2.ext e12
    have z16 := e12.size
    refine J_st (R_move rfl) rfl (J_st (R_move rfl) rfl ?_)
    have hi2 : k < ((stepM dx1 dx2 dx3).2.1).length := (by first | assumption | omega | (simp only [List.length_set]; first | assumption | omega) | (simp only [List.getElem_set_self, List.length_set]; first | assumption | omega) | (simp only [setW, setLk, List.length_set]; first | assumption | omega) | (simp; done))
    refine J_st (R_index (i := k) sl34 rfl rfl (Own.rd (by decide) ho6) hi2) rfl (J_st (R_fieldAddr fl31_1 rfl) rfl (J_st (R_loadS st29 rfl (((Own.rd (by decide) ho6).get hi2).part 1 [.int .i64 (((((stepM dx1 dx2 dx3).2.1)[k]'hi2).stamp).epoch), .int .i64 (((((stepM dx1 dx2 dx3).2.1)[k]'hi2).stamp).turn)] rfl) rfl) rfl (J_st (R_fieldAddr0 fl31_1 rfl) rfl (J_st (R_fieldAddr fl29_0 rfl) rfl (J_st (R_load sc3 rfl (h2.one 1 rfl)) rfl (J_st (R_fieldAddr0 fl31_1 rfl) rfl (J_st (R_fieldAddr fl29_1 rfl) rfl (J_st (R_load sc3 rfl (h2.one 2 rfl)) rfl (J_st (R_move rfl) rfl (J_st (R_add rfl rfl rfl) rfl (J_st (R_build (⟨dx3.stamp.epoch, IntKind.i64.wrap (dx3.stamp.turn + 1)⟩ : Stamp) rfl (fun _ => by kernel_rfl)) rfl (J_st (R_neqS (ne29 ((((stepM dx1 dx2 dx3).2.1)[k]'hi2).stamp) (⟨dx3.stamp.epoch, IntKind.i64.wrap (dx3.stamp.turn + 1)⟩ : Stamp)) eqg29 rfl rfl) rfl (J_st (R_move rfl) rfl ?_)))))))))))))
    refine J_cut 7 [(0, vcode), (2, .bool false), (3, .pointer (some ⟨b1, 0, none⟩)), (5, .pointer (some ⟨b2, 0, none⟩)), (7, v3), (12, .int .i64 ((k : Nat) : Int)), (13, .int .i64 1), (76, .int .i64 ((k : Nat) : Int)), (77, v3), (78, .int .i64 ((((stepM dx1 dx2 dx3).2.1).length : Nat) : Int)), (79, .bool (decide (((k : Nat) : Int) < ((((stepM dx1 dx2 dx3).2.1).length : Nat) : Int)))), (82, .pointer (some ⟨b1, 0, none⟩)), (83, o1), (84, .pointer (some ⟨b2, 0, none⟩)), (85, .int .i64 dx3.op), (86, .pointer (some ⟨sblk o1, soff o1 + (Int.toNat dx3.op) * 4, none⟩)), (87, .pointer (some ⟨(sblk o1), soff o1 + (Int.toNat dx3.op) * 4 + 0, none⟩)), (88, .int .i64 ((dx1.nodes[(Int.toNat dx3.op)]'hi1).kind)), (89, .bool (((dx1.nodes[(Int.toNat dx3.op)]'hi1).kind) == 7)), (112, .bool ((!(decide (((((stepM dx1 dx2 dx3).2.1)[k]'hi2).stamp) = (⟨dx3.stamp.epoch, IntKind.i64.wrap (dx3.stamp.turn + 1)⟩ : Stamp)))) || (!(recordOk (List.getD ((stepM dx1 dx2 dx3).2.1) k default)))))] (fun w' => Ext w w' ∧ w16.heap.size ≤ w'.heap.size ∧ RdD w' w1.heap.size w2.heap.size o1 dx1.nodes ∧ Own w' w1.heap.size w2.heap.size 4 v1 (List.flatMap (Enc.enc (α := Cell)) dx2) ∧ Blk w' b1 [o1, .int .i64 dx1.workers, .int .i64 dx1.cap] ∧ Blk w' b2 [.int .i64 dx3.op, .int .i64 dx3.stamp.epoch, .int .i64 dx3.stamp.turn, .int .i64 dx3.key, .int .i64 dx3.val] ∧ Own w' w6.heap.size w7.heap.size 4 v2 (List.flatMap (Enc.enc (α := Cell)) ((stepM dx1 dx2 dx3).1)) ∧ Own w' w6.heap.size w7.heap.size 5 v3 (List.flatMap (Enc.enc (α := Record)) ((stepM dx1 dx2 dx3).2.1)) ∧ Own w' w7.heap.size w8.heap.size 4 v4 (List.flatMap (Enc.enc (α := Cell)) ((stepM dx1 dx2 dx3).1)) ∧ Own w' w7.heap.size w8.heap.size 5 v5 (List.flatMap (Enc.enc (α := Record)) ((stepM dx1 dx2 dx3).2.1)) ∧ At w' (sblk o1) (soff o1 + (Int.toNat dx3.op) * 4) [.int .i64 ((dx1.nodes[(Int.toNat dx3.op)]'hi1).kind), .int .i64 ((dx1.nodes[(Int.toNat dx3.op)]'hi1).a), .int .i64 ((dx1.nodes[(Int.toNat dx3.op)]'hi1).b), o2] ∧ RdD w' w1.heap.size w2.heap.size o2 ((dx1.nodes[(Int.toNat dx3.op)]'hi1).outs)) ?_ ?_
    ·refine J_if (gd := 105) rfl rfl (fun hg4 => ?_) (fun hg4 => ?_)
     ·exact absurd hg4 (by rw [hsk.1]; simp)
     ·refine J_gd rfl rfl (R_move rfl) rfl (J_gd rfl rfl (R_move rfl) rfl ?_)
      have hi3 : k < ((stepM dx1 dx2 dx3).2.1).length := (by first | assumption | omega | (simp only [List.length_set]; first | assumption | omega) | (simp only [List.getElem_set_self, List.length_set]; first | assumption | omega) | (simp only [setW, setLk, List.length_set]; first | assumption | omega) | (simp; done))
      refine J_gd rfl rfl (R_index (i := k) sl34 rfl rfl (Own.rd (by decide) ho6) hi3) rfl (J_gd rfl rfl (R_loadS st31 rfl (RdS.getD (Own.rd (by decide) ho6) (i := k) hi3) rfl) rfl ?_)
      refine J_ung rfl rfl ?_
      refine J_call Try.call13 rfl (s_RecordOk (List.getD ((stepM dx1 dx2 dx3).2.1) k default) _ ) rfl (fun _ w18 e13 hv => ?_)
      subst hv
      replace E := E.trans e13; replace hd1 := hd1.ext e13; replace ho3 := ho3.ext e13; replace h1 := h1.ext e13; replace h2 := h2.ext e13; replace ho5 := ho5.ext e13; replace ho6 := ho6.ext e13; replace ho8 := ho8.ext e13; replace ho9 := ho9.ext e13; replace ha1 := ha1.ext e13; replace hd2 := hd2.ext e13
      have z17 := e13.size
      refine J_gd rfl rfl (R_not rfl) rfl (J_st (R_pickF rfl rfl) rfl (J_cutEnd ⟨rfl, rfl, rfl, rfl, rfl, rfl, rfl, rfl, rfl, rfl, rfl, rfl, rfl, rfl, rfl, rfl, rfl, rfl, rfl, congrArg (fun b => some (Value.bool b)) (show (!(recordOk (List.getD ((stepM dx1 dx2 dx3).2.1) k default))) = ((!(decide (((((stepM dx1 dx2 dx3).2.1)[k]'hi2).stamp) = (⟨dx3.stamp.epoch, IntKind.i64.wrap (dx3.stamp.turn + 1)⟩ : Stamp)))) || (!(recordOk (List.getD ((stepM dx1 dx2 dx3).2.1) k default)))) by first | (rw [hg4] <;> rfl) | (simp [hg4]; done) | (simp only [nat_nlt] <;> simp)), trivial⟩ ⟨E, (by omega), hd1, ho3, h1, h2, ho5, ho6, ho8, ho9, ha1, hd2⟩))
    clear E hd1 ho3 h1 h2 ho5 ho6 ho8 ho9 ha1 hd2
    rintro w17 ⟨E, z18, hd1, ho3, h1, h2, ho5, ho6, ho8, ho9, ha1, hd2⟩
    refine J_done ?_
    refine S_condFe rfl (by rw [hsk.1, getD_at hlk, hsk.2]; simp) ?_
    refine S_skip ?_
    refine S_nil (E_inB ?_)
    refine S_reg [true, true, true] rfl rfl ?_
    refine J_st (R_move rfl) rfl (J_st (R_add rfl rfl (add_nat (by unfold maxLen; omega))) rfl (J_st (R_assign rfl) rfl (J_done ?_)))
    refine S_nil (E_again (k + 1) (by omega) ⟨rfl, rfl, rfl, rfl, rfl, rfl, trivial⟩ ⟨E, (by omega), hd1, ho3, h1, h2, ho5, ho6, ho8, ho9, (by omega)⟩)
   ·rw [hc3] at hsk
    refine S_skip ?_
    refine S_seq ?_
    refine S_regD mixed [(0, true), (1, true), (2, true), (3, true), (4, true), (5, true), (6, true), (7, true), (8, true), (9, true), (10, true), (11, true), (12, true), (13, true), (14, true), (15, true), (16, true), (17, true), (18, true), (19, true), (20, false), (21, true), (22, true)] (by decide +kernel) rfl (fun w19 e14 => ?_)
    replace E := E.trans e14; replace hd1 := hd1.ext e14; replace ho3 := ho3.ext e14; replace h1 := h1.ext e14; replace h2 := h2.ext e14; replace ho5 := ho5.ext e14; replace ho6 := ho6.ext e14; replace ho8 := ho8.ext e14; replace ho9 := ho9.ext e14; replace ha1 := ha1.ext e14; replace hd2 := hd2.ext e14
    have z19 := e14.size
    refine J_st (R_move rfl) rfl (J_st (R_move rfl) rfl ?_)
    have hi4 : k < ((stepM dx1 dx2 dx3).2.1).length := (by first | assumption | omega | (simp only [List.length_set]; first | assumption | omega) | (simp only [List.getElem_set_self, List.length_set]; first | assumption | omega) | (simp only [setW, setLk, List.length_set]; first | assumption | omega) | (simp; done))
    refine J_st (R_index (i := k) sl34 rfl rfl (Own.rd (by decide) ho6) hi4) rfl (J_st (R_fieldAddr fl31_1 rfl) rfl (J_st (R_loadS st29 rfl (((Own.rd (by decide) ho6).get hi4).part 1 [.int .i64 (((((stepM dx1 dx2 dx3).2.1)[k]'hi4).stamp).epoch), .int .i64 (((((stepM dx1 dx2 dx3).2.1)[k]'hi4).stamp).turn)] rfl) rfl) rfl (J_st (R_fieldAddr0 fl31_1 rfl) rfl (J_st (R_fieldAddr fl29_0 rfl) rfl (J_st (R_load sc3 rfl (h2.one 1 rfl)) rfl (J_st (R_fieldAddr0 fl31_1 rfl) rfl (J_st (R_fieldAddr fl29_1 rfl) rfl (J_st (R_load sc3 rfl (h2.one 2 rfl)) rfl (J_st (R_move rfl) rfl (J_st (R_add rfl rfl rfl) rfl (J_st (R_build (⟨dx3.stamp.epoch, IntKind.i64.wrap (dx3.stamp.turn + 0)⟩ : Stamp) rfl (fun _ => by kernel_rfl)) rfl (J_st (R_neqS (ne29 ((((stepM dx1 dx2 dx3).2.1)[k]'hi4).stamp) (⟨dx3.stamp.epoch, IntKind.i64.wrap (dx3.stamp.turn + 0)⟩ : Stamp)) eqg29 rfl rfl) rfl (J_st (R_move rfl) rfl ?_)))))))))))))
    refine J_cut 7 [(0, vcode), (2, .bool false), (3, .pointer (some ⟨b1, 0, none⟩)), (5, .pointer (some ⟨b2, 0, none⟩)), (7, v3), (12, .int .i64 ((k : Nat) : Int)), (13, .int .i64 0), (76, .int .i64 ((k : Nat) : Int)), (77, v3), (78, .int .i64 ((((stepM dx1 dx2 dx3).2.1).length : Nat) : Int)), (79, .bool (decide (((k : Nat) : Int) < ((((stepM dx1 dx2 dx3).2.1).length : Nat) : Int)))), (82, .pointer (some ⟨b1, 0, none⟩)), (83, o1), (84, .pointer (some ⟨b2, 0, none⟩)), (85, .int .i64 dx3.op), (86, .pointer (some ⟨sblk o1, soff o1 + (Int.toNat dx3.op) * 4, none⟩)), (87, .pointer (some ⟨(sblk o1), soff o1 + (Int.toNat dx3.op) * 4 + 0, none⟩)), (88, .int .i64 ((dx1.nodes[(Int.toNat dx3.op)]'hi1).kind)), (89, .bool (((dx1.nodes[(Int.toNat dx3.op)]'hi1).kind) == 7)), (112, .bool ((!(decide (((((stepM dx1 dx2 dx3).2.1)[k]'hi4).stamp) = (⟨dx3.stamp.epoch, IntKind.i64.wrap (dx3.stamp.turn + 0)⟩ : Stamp)))) || (!(recordOk (List.getD ((stepM dx1 dx2 dx3).2.1) k default)))))] (fun w' => Ext w w' ∧ w19.heap.size ≤ w'.heap.size ∧ RdD w' w1.heap.size w2.heap.size o1 dx1.nodes ∧ Own w' w1.heap.size w2.heap.size 4 v1 (List.flatMap (Enc.enc (α := Cell)) dx2) ∧ Blk w' b1 [o1, .int .i64 dx1.workers, .int .i64 dx1.cap] ∧ Blk w' b2 [.int .i64 dx3.op, .int .i64 dx3.stamp.epoch, .int .i64 dx3.stamp.turn, .int .i64 dx3.key, .int .i64 dx3.val] ∧ Own w' w6.heap.size w7.heap.size 4 v2 (List.flatMap (Enc.enc (α := Cell)) ((stepM dx1 dx2 dx3).1)) ∧ Own w' w6.heap.size w7.heap.size 5 v3 (List.flatMap (Enc.enc (α := Record)) ((stepM dx1 dx2 dx3).2.1)) ∧ Own w' w7.heap.size w8.heap.size 4 v4 (List.flatMap (Enc.enc (α := Cell)) ((stepM dx1 dx2 dx3).1)) ∧ Own w' w7.heap.size w8.heap.size 5 v5 (List.flatMap (Enc.enc (α := Record)) ((stepM dx1 dx2 dx3).2.1)) ∧ At w' (sblk o1) (soff o1 + (Int.toNat dx3.op) * 4) [.int .i64 ((dx1.nodes[(Int.toNat dx3.op)]'hi1).kind), .int .i64 ((dx1.nodes[(Int.toNat dx3.op)]'hi1).a), .int .i64 ((dx1.nodes[(Int.toNat dx3.op)]'hi1).b), o2] ∧ RdD w' w1.heap.size w2.heap.size o2 ((dx1.nodes[(Int.toNat dx3.op)]'hi1).outs)) ?_ ?_
    ·refine J_if (gd := 105) rfl rfl (fun hg5 => ?_) (fun hg5 => ?_)
     ·exact absurd hg5 (by rw [hsk.1]; simp)
     ·refine J_gd rfl rfl (R_move rfl) rfl (J_gd rfl rfl (R_move rfl) rfl ?_)
      have hi5 : k < ((stepM dx1 dx2 dx3).2.1).length := (by first | assumption | omega | (simp only [List.length_set]; first | assumption | omega) | (simp only [List.getElem_set_self, List.length_set]; first | assumption | omega) | (simp only [setW, setLk, List.length_set]; first | assumption | omega) | (simp; done))
      refine J_gd rfl rfl (R_index (i := k) sl34 rfl rfl (Own.rd (by decide) ho6) hi5) rfl (J_gd rfl rfl (R_loadS st31 rfl (RdS.getD (Own.rd (by decide) ho6) (i := k) hi5) rfl) rfl ?_)
      refine J_ung rfl rfl ?_
      refine J_call Try.call13 rfl (s_RecordOk (List.getD ((stepM dx1 dx2 dx3).2.1) k default) _ ) rfl (fun _ w21 e15 hv => ?_)
      subst hv
      replace E := E.trans e15; replace hd1 := hd1.ext e15; replace ho3 := ho3.ext e15; replace h1 := h1.ext e15; replace h2 := h2.ext e15; replace ho5 := ho5.ext e15; replace ho6 := ho6.ext e15; replace ho8 := ho8.ext e15; replace ho9 := ho9.ext e15; replace ha1 := ha1.ext e15; replace hd2 := hd2.ext e15
      have z20 := e15.size
      refine J_gd rfl rfl (R_not rfl) rfl (J_st (R_pickF rfl rfl) rfl (J_cutEnd ⟨rfl, rfl, rfl, rfl, rfl, rfl, rfl, rfl, rfl, rfl, rfl, rfl, rfl, rfl, rfl, rfl, rfl, rfl, rfl, congrArg (fun b => some (Value.bool b)) (show (!(recordOk (List.getD ((stepM dx1 dx2 dx3).2.1) k default))) = ((!(decide (((((stepM dx1 dx2 dx3).2.1)[k]'hi4).stamp) = (⟨dx3.stamp.epoch, IntKind.i64.wrap (dx3.stamp.turn + 0)⟩ : Stamp)))) || (!(recordOk (List.getD ((stepM dx1 dx2 dx3).2.1) k default)))) by first | (rw [hg5] <;> rfl) | (simp [hg5]; done) | (simp only [nat_nlt] <;> simp)), trivial⟩ ⟨E, (by omega), hd1, ho3, h1, h2, ho5, ho6, ho8, ho9, ha1, hd2⟩))
    clear E hd1 ho3 h1 h2 ho5 ho6 ho8 ho9 ha1 hd2
    rintro w20 ⟨E, z21, hd1, ho3, h1, h2, ho5, ho6, ho8, ho9, ha1, hd2⟩
    refine J_done ?_
    refine S_condFe rfl (by rw [hsk.1, getD_at hlk, hsk.2]; simp) ?_
    refine S_skip ?_
    refine S_nil (E_inB ?_)
    refine S_reg [true, true, true] rfl rfl ?_
    refine J_st (R_move rfl) rfl (J_st (R_add rfl rfl (add_nat (by unfold maxLen; omega))) rfl (J_st (R_assign rfl) rfl (J_done ?_)))
    refine S_nil (E_again (k + 1) (by omega) ⟨rfl, rfl, rfl, rfl, rfl, rfl, trivial⟩ ⟨E, (by omega), hd1, ho3, h1, h2, ho5, ho6, ho8, ho9, (by omega)⟩)
  ·have hc2n : ¬ k < ((stepM dx1 dx2 dx3).2.1).length := by first | (have h := of_decide_eq_false hc2; omega) | (have h := hc2; simp at h; omega)
   refine S_exit (E_lp_exit (E_inB_exit ?_))
   refine S_seq ?_
   refine S_reg [true, false, true, true, true, true, true, false, false, true, true, true] rfl rfl ?_
   refine J_st (R_move rfl) rfl ?_
   refine J_call Try.call14 rfl (s_DrawStepAll vcode code _ (hcode.ext E)) rfl (fun _ w22 e16 ho10 => ?_)
   obtain ⟨dx4, dx5, dx6, dx7, q3, q4, q5, ho10⟩ := ho10
   obtain ⟨_, v6, v7, rfl, ho11, ho12, ho13, sp3⟩ := ho10
   have g_ho10 : w.heap.size ≤ w15.heap.size := E.size
   replace E := E.trans e16; replace hd1 := hd1.ext e16; replace ho3 := ho3.ext e16; replace h1 := h1.ext e16; replace h2 := h2.ext e16; replace ho5 := ho5.ext e16; replace ho6 := ho6.ext e16; replace ho8 := ho8.ext e16; replace ho9 := ho9.ext e16
   have z22 := e16.size
   obtain ⟨o3, rfl, hd3⟩ := Graph.op ho11
   refine J_st (R_move rfl) rfl (J_st (R_extract rfl rfl) rfl (J_st (R_extract rfl rfl) rfl (J_st (R_extract rfl rfl) rfl (J_st (R_extract rfl rfl) rfl ?_))))
   refine J_alloc st26 rfl (fun b3 w23 e17 s3 h3 => ?_)
   have g_b3 : w.heap.size ≤ b3 := by have := E.size; omega
   have y_b3 := h3.lt
   replace E := E.trans e17; replace hd1 := hd1.ext e17; replace ho3 := ho3.ext e17; replace h1 := h1.ext e17; replace h2 := h2.ext e17; replace ho5 := ho5.ext e17; replace ho6 := ho6.ext e17; replace ho8 := ho8.ext e17; replace ho9 := ho9.ext e17; replace hd3 := hd3.ext e17; replace ho12 := ho12.ext e17; replace ho13 := ho13.ext e17
   have z23 := e17.size
   refine J_storeS' (cs' := [o3, .int .i64 dx4.workers, .int .i64 dx4.cap]) st26 rfl rfl rfl (all_cons (RdD.one hd3) (all_cons rfl (all_cons rfl rfl))) h3 (Nat.le_of_ble_eq_true rfl) rfl (fun w24 m3 h3' => ?_)
   replace h3 := h3'
   replace E := E.step m3 (fun g hg => by cases hg; omega); replace hd1 := hd1.mod m3 (fun g hg => by cases hg; omega); replace ho3 := ho3.mod m3 (fun g hg => by cases hg; omega); replace h1 := h1.mod m3 (fun g hg => by cases hg; omega); replace h2 := h2.mod m3 (fun g hg => by cases hg; omega); replace ho5 := ho5.mod m3 (fun g hg => by cases hg; omega); replace ho6 := ho6.mod m3 (fun g hg => by cases hg; omega); replace ho8 := ho8.mod m3 (fun g hg => by cases hg; omega); replace ho9 := ho9.mod m3 (fun g hg => by cases hg; omega); replace hd3 := hd3.mod m3 (fun g hg => by cases hg; omega); replace ho12 := ho12.mod m3 (fun g hg => by cases hg; omega); replace ho13 := ho13.mod m3 (fun g hg => by cases hg; omega)
   have z24 := m3.size
   refine J_st (R_assign rfl) rfl (J_st (R_assign rfl) rfl (J_st (R_assign rfl) rfl (J_done ?_)))
   refine S_seq ?_
   refine S_reg [true, true, true, true, false, true, true, true, true, true, true, true] rfl rfl ?_
   refine J_st (R_loadS st26 rfl h3.at rfl) rfl (J_st (R_move rfl) rfl (J_st (R_move rfl) rfl (J_st (R_move rfl) rfl ?_)))
   refine J_call Try.call15 rfl (c_StepAll [o3, .int .i64 dx4.workers, .int .i64 dx4.cap] dx4 v6 dx5 v7 dx6 dx7 _ (Graph.mkR dx4 (RdD.any hd3)) (Own.rd (by decide) ho12) (Own.rd (by decide) ho13) (by omega) (by omega)) rfl (fun _ w25 e18 ho14 => ?_)
   obtain ⟨v8, v9, rfl, ho15, ho16, sp4⟩ := ho14
   have g_ho14 : w.heap.size ≤ w24.heap.size := E.size
   replace E := E.trans e18; replace hd1 := hd1.ext e18; replace ho3 := ho3.ext e18; replace h1 := h1.ext e18; replace h2 := h2.ext e18; replace ho5 := ho5.ext e18; replace ho6 := ho6.ext e18; replace ho8 := ho8.ext e18; replace ho9 := ho9.ext e18; replace hd3 := hd3.ext e18; replace ho12 := ho12.ext e18; replace ho13 := ho13.ext e18; replace h3 := h3.ext e18
   have z25 := e18.size
   refine J_st (R_move rfl) rfl (J_st (R_extract rfl rfl) rfl (J_st (R_extract rfl rfl) rfl (J_st (R_extract rfl rfl) rfl (J_st (R_assign rfl) rfl (J_st (R_assign rfl) rfl (J_st (R_assign rfl) rfl (J_done ?_)))))))
   refine S_seq ?_
   refine S_reg [true, true, true, true, false, true, true, true, true, true, true, true] rfl rfl ?_
   refine J_st (R_loadS st26 rfl h3.at rfl) rfl (J_st (R_move rfl) rfl (J_st (R_move rfl) rfl (J_st (R_move rfl) rfl ?_)))
   refine J_call Try.call16 rfl (s_StepAll [o3, .int .i64 dx4.workers, .int .i64 dx4.cap] dx4 v6 dx5 v7 dx6 dx7 _ (Graph.mkR dx4 (RdD.any hd3)) (Own.rd (by decide) ho12) (Own.rd (by decide) ho13) (by omega) (by omega) (smG_cnt (by assumption))) rfl (fun _ w26 e19 ho17 => ?_)
   obtain ⟨v10, v11, rfl, ho18, ho19, sp5⟩ := ho17
   have g_ho17 : w.heap.size ≤ w25.heap.size := E.size
   replace E := E.trans e19; replace hd1 := hd1.ext e19; replace ho3 := ho3.ext e19; replace h1 := h1.ext e19; replace h2 := h2.ext e19; replace ho5 := ho5.ext e19; replace ho6 := ho6.ext e19; replace ho8 := ho8.ext e19; replace ho9 := ho9.ext e19; replace hd3 := hd3.ext e19; replace ho12 := ho12.ext e19; replace ho13 := ho13.ext e19; replace h3 := h3.ext e19; replace ho15 := ho15.ext e19; replace ho16 := ho16.ext e19
   have z26 := e19.size
   refine J_st (R_move rfl) rfl (J_st (R_extract rfl rfl) rfl (J_st (R_extract rfl rfl) rfl (J_st (R_extract rfl rfl) rfl (J_st (R_assign rfl) rfl (J_st (R_assign rfl) rfl (J_st (R_assign rfl) rfl (J_done ?_)))))))
   refine S_seq ?_
   refine S_reg [false, true, true, false, true, false, false] rfl rfl ?_
   refine J_buildSlice (vs := [.int .i64 1]) (css := [[.int .i64 1]]) sl40 rfl rfl ⟨⟨rfl, rfl⟩, trivial⟩ rfl rfl (fun b4 w27 e20 s4 h4 => ?_)
   replace h4 : Blk w27 b4 [.int .i64 1] := h4
   have g_b4 : w.heap.size ≤ b4 := by have := E.size; omega
   have y_b4 := h4.lt
   replace E := E.trans e20; replace hd1 := hd1.ext e20; replace ho3 := ho3.ext e20; replace h1 := h1.ext e20; replace h2 := h2.ext e20; replace ho5 := ho5.ext e20; replace ho6 := ho6.ext e20; replace ho8 := ho8.ext e20; replace ho9 := ho9.ext e20; replace hd3 := hd3.ext e20; replace ho12 := ho12.ext e20; replace ho13 := ho13.ext e20; replace h3 := h3.ext e20; replace ho15 := ho15.ext e20; replace ho16 := ho16.ext e20; replace ho18 := ho18.ext e20; replace ho19 := ho19.ext e20
   have z27 := e20.size
   have hbl1 : ∀ w, (Instr.build 42 ([(0, .int .i64 1), (3, .slice (some ⟨b4, 0, none⟩) 1 1)]).toArray).run Try.prog w = .ok (.agg [.int .i64 1, .int .i64 0, .int .i64 0, .slice (some ⟨b4, 0, none⟩) 1 1].toArray) w := by clear E; intro w; kernel_rfl
   refine J_st (R_buildC [.int .i64 1, .int .i64 0, .int .i64 0, .slice (some ⟨b4, 0, none⟩) 1 1] rfl hbl1) rfl ?_
   have hbl2 : ∀ w, (Instr.build 42 ([(0, .int .i64 8)]).toArray).run Try.prog w = .ok (.agg [.int .i64 8, .int .i64 0, .int .i64 0, .slice none 0 0].toArray) w := by clear E; intro w; kernel_rfl
   refine J_st (R_buildC [.int .i64 8, .int .i64 0, .int .i64 0, .slice none 0 0] rfl hbl2) rfl ?_
   refine J_buildSlice (vs := [.agg [.int .i64 1, .int .i64 0, .int .i64 0, .slice (some ⟨b4, 0, none⟩) 1 1].toArray, .agg [.int .i64 8, .int .i64 0, .int .i64 0, .slice none 0 0].toArray]) (css := [[.int .i64 1, .int .i64 0, .int .i64 0, .slice (some ⟨b4, 0, none⟩) 1 1], [.int .i64 8, .int .i64 0, .int .i64 0, .slice none 0 0]]) sl24 rfl rfl ⟨⟨rfl, rfl⟩, ⟨rfl, rfl⟩, trivial⟩ rfl rfl (fun b5 w28 e21 s5 h5 => ?_)
   replace h5 : Blk w28 b5 [.int .i64 1, .int .i64 0, .int .i64 0, .slice (some ⟨b4, 0, none⟩) 1 1, .int .i64 8, .int .i64 0, .int .i64 0, .slice none 0 0] := h5
   have g_b5 : w.heap.size ≤ b5 := by have := E.size; omega
   have y_b5 := h5.lt
   replace E := E.trans e21; replace hd1 := hd1.ext e21; replace ho3 := ho3.ext e21; replace h1 := h1.ext e21; replace h2 := h2.ext e21; replace ho5 := ho5.ext e21; replace ho6 := ho6.ext e21; replace ho8 := ho8.ext e21; replace ho9 := ho9.ext e21; replace hd3 := hd3.ext e21; replace ho12 := ho12.ext e21; replace ho13 := ho13.ext e21; replace h3 := h3.ext e21; replace ho15 := ho15.ext e21; replace ho16 := ho16.ext e21; replace ho18 := ho18.ext e21; replace ho19 := ho19.ext e21; replace h4 := h4.ext e21
   have z28 := e21.size
   have hbl3 : ∀ w, (Instr.build 26 ([(0, .slice (some ⟨b5, 0, none⟩) 2 2), (1, .int .i64 1), (2, .int .i64 1)]).toArray).run Try.prog w = .ok (.agg [.slice (some ⟨b5, 0, none⟩) 2 2, .int .i64 1, .int .i64 1].toArray) w := by clear E; intro w; kernel_rfl
   refine J_st (R_buildC [.slice (some ⟨b5, 0, none⟩) 2 2, .int .i64 1, .int .i64 1] rfl hbl3) rfl ?_
   refine J_alloc st26 rfl (fun b6 w29 e22 s6 h6 => ?_)
   have g_b6 : w.heap.size ≤ b6 := by have := E.size; omega
   have y_b6 := h6.lt
   replace E := E.trans e22; replace hd1 := hd1.ext e22; replace ho3 := ho3.ext e22; replace h1 := h1.ext e22; replace h2 := h2.ext e22; replace ho5 := ho5.ext e22; replace ho6 := ho6.ext e22; replace ho8 := ho8.ext e22; replace ho9 := ho9.ext e22; replace hd3 := hd3.ext e22; replace ho12 := ho12.ext e22; replace ho13 := ho13.ext e22; replace h3 := h3.ext e22; replace ho15 := ho15.ext e22; replace ho16 := ho16.ext e22; replace ho18 := ho18.ext e22; replace ho19 := ho19.ext e22; replace h4 := h4.ext e22; replace h5 := h5.ext e22
   have z29 := e22.size
   refine J_storeS' (cs' := [.slice (some ⟨b5, 0, none⟩) 2 2, .int .i64 1, .int .i64 1]) st26 rfl rfl rfl (all_cons rfl (all_cons rfl (all_cons rfl rfl))) h6 (Nat.le_of_ble_eq_true rfl) rfl (fun w30 m4 h6' => ?_)
   replace h6 := h6'
   replace E := E.step m4 (fun g hg => by cases hg; omega); replace hd1 := hd1.mod m4 (fun g hg => by cases hg; omega); replace ho3 := ho3.mod m4 (fun g hg => by cases hg; omega); replace h1 := h1.mod m4 (fun g hg => by cases hg; omega); replace h2 := h2.mod m4 (fun g hg => by cases hg; omega); replace ho5 := ho5.mod m4 (fun g hg => by cases hg; omega); replace ho6 := ho6.mod m4 (fun g hg => by cases hg; omega); replace ho8 := ho8.mod m4 (fun g hg => by cases hg; omega); replace ho9 := ho9.mod m4 (fun g hg => by cases hg; omega); replace hd3 := hd3.mod m4 (fun g hg => by cases hg; omega); replace ho12 := ho12.mod m4 (fun g hg => by cases hg; omega); replace ho13 := ho13.mod m4 (fun g hg => by cases hg; omega); replace h3 := h3.mod m4 (fun g hg => by cases hg; omega); replace ho15 := ho15.mod m4 (fun g hg => by cases hg; omega); replace ho16 := ho16.mod m4 (fun g hg => by cases hg; omega); replace ho18 := ho18.mod m4 (fun g hg => by cases hg; omega); replace ho19 := ho19.mod m4 (fun g hg => by cases hg; omega); replace h4 := h4.mod m4 (fun g hg => by cases hg; omega); replace h5 := h5.mod m4 (fun g hg => by cases hg; omega)
   have z30 := m4.size
   refine J_done ?_
   refine S_seq ?_
   refine S_reg [true, true, false, true, true, true, true, true, true, true] rfl rfl ?_
   refine J_st (R_loadS st26 rfl h6.at rfl) rfl (J_st (R_build (⟨0, (⟨0, 0⟩ : Stamp), 5, 0⟩ : Record) rfl (fun _ => by kernel_rfl)) rfl ?_)
   have hF1 : OwF w30 b4 w30.heap.size (.slice (some ⟨b5, 0, none⟩) 2 2) [(⟨1, 0, 0, [1]⟩ : Node), (⟨8, 0, 0, []⟩ : Node)] [b5, b4] := OwF.lit (css := [[.int .i64 1, .int .i64 0, .int .i64 0, .slice (some ⟨b4, 0, none⟩) 1 1], [.int .i64 8, .int .i64 0, .int .i64 0, .slice none 0 0]]) h5 ⟨(Node.mkO (⟨1, 0, 0, [1]⟩ : Node) ⟨trivial, trivial⟩ (Own.widen (Own.ofBlk (lo := b4) (hi := b4 + 1) (sz := 1) h4 (Nat.le_refl _) (Nat.lt_succ_self _) (by rfl) (by unfold maxLen; omega)) (by omega) (by omega))), (Node.mkO (⟨8, 0, 0, []⟩ : Node) ⟨trivial, trivial⟩ (Own.nil _ _ _ _)), trivial⟩ (by omega) (by omega) (show List.Nodup [b5, b4] from by simp; omega) rfl (by simp [maxLen])
   refine J_call Try.call7 rfl (c_StepOp [.slice (some ⟨b5, 0, none⟩) 2 2, .int .i64 1, .int .i64 1] (⟨[(⟨1, 0, 0, [1]⟩ : Node), (⟨8, 0, 0, []⟩ : Node)], 1, 1⟩ : Graph) (.slice none 0 0) [] (⟨0, (⟨0, 0⟩ : Stamp), 5, 0⟩ : Record) _ (Graph.mkR (⟨[(⟨1, 0, 0, [1]⟩ : Node), (⟨8, 0, 0, []⟩ : Node)], 1, 1⟩ : Graph) (RdD.any (OwF.rd hF1))) (RdS.nil _) (by first | omega | (simp; done))) rfl (fun _ w31 e23 ho20 => ?_)
   obtain ⟨v12, v13, rfl, ho21, ho22, sp6⟩ := ho20
   have g_ho20 : w.heap.size ≤ w30.heap.size := E.size
   replace E := E.trans e23; replace hd1 := hd1.ext e23; replace ho3 := ho3.ext e23; replace h1 := h1.ext e23; replace h2 := h2.ext e23; replace ho5 := ho5.ext e23; replace ho6 := ho6.ext e23; replace ho8 := ho8.ext e23; replace ho9 := ho9.ext e23; replace hd3 := hd3.ext e23; replace ho12 := ho12.ext e23; replace ho13 := ho13.ext e23; replace h3 := h3.ext e23; replace ho15 := ho15.ext e23; replace ho16 := ho16.ext e23; replace ho18 := ho18.ext e23; replace ho19 := ho19.ext e23; replace h4 := h4.ext e23; replace h5 := h5.ext e23; replace h6 := h6.ext e23
   have z31 := e23.size
   refine J_st (R_move rfl) rfl (J_st (R_extract rfl rfl) rfl (J_st (R_extract rfl rfl) rfl (J_st (R_extract rfl rfl) rfl (J_st (R_assign rfl) rfl (J_st (R_assign rfl) rfl (J_st (R_assign rfl) rfl (J_done ?_)))))))
   refine S_seq ?_
   refine S_reg [true, true, true, true, true, true, false, true, true, true, true, false, true, true, true, true, true, true, true, true, true, true, true, true, true, true, true, true, false, true, true, true, true, true, true, true, true] rfl rfl ?_
   refine J_st (R_move rfl) rfl (J_st (R_move rfl) rfl (J_st (R_eql rfl rfl) rfl (J_st (R_move rfl) rfl ?_)))
   refine J_cut 32 [(0, vcode), (2, .bool false), (3, .pointer (some ⟨b1, 0, none⟩)), (5, .pointer (some ⟨b2, 0, none⟩)), (7, v3), (12, .int .i64 ((k : Nat) : Int)), (14, .pointer (some ⟨b3, 0, none⟩)), (15, v6), (16, v7), (17, .int .i64 dx7), (18, v8), (19, v9), (20, .int .i64 (((stepAllM dx4 dx5 dx6 dx7).2.2 : Nat) : Int)), (21, v10), (22, v11), (23, .int .i64 (((stepAllM dx4 dx5 dx6 dx7).2.2 : Nat) : Int)), (24, .pointer (some ⟨b6, 0, none⟩)), (26, v13), (76, .int .i64 ((k : Nat) : Int)), (77, v3), (78, .int .i64 ((((stepM dx1 dx2 dx3).2.1).length : Nat) : Int)), (79, .bool (decide (((k : Nat) : Int) < ((((stepM dx1 dx2 dx3).2.1).length : Nat) : Int)))), (113, .tuple [.agg [o3, .int .i64 dx4.workers, .int .i64 dx4.cap].toArray, v6, v7, .int .i64 dx7].toArray), (114, vcode), (115, .tuple [.agg [o3, .int .i64 dx4.workers, .int .i64 dx4.cap].toArray, v6, v7, .int .i64 dx7].toArray), (116, .agg [o3, .int .i64 dx4.workers, .int .i64 dx4.cap].toArray), (117, v6), (118, v7), (119, .int .i64 dx7), (120, .tuple [v8, v9, .int .i64 (((stepAllM dx4 dx5 dx6 dx7).2.2 : Nat) : Int)].toArray), (121, .agg [o3, .int .i64 dx4.workers, .int .i64 dx4.cap].toArray), (122, v6), (123, v7), (124, .int .i64 dx7), (125, .tuple [v8, v9, .int .i64 (((stepAllM dx4 dx5 dx6 dx7).2.2 : Nat) : Int)].toArray), (126, v8), (127, v9), (128, .int .i64 (((stepAllM dx4 dx5 dx6 dx7).2.2 : Nat) : Int)), (129, .tuple [v10, v11, .int .i64 (((stepAllM dx4 dx5 dx6 dx7).2.2 : Nat) : Int)].toArray), (130, .agg [o3, .int .i64 dx4.workers, .int .i64 dx4.cap].toArray), (131, v6), (132, v7), (133, .int .i64 dx7), (134, .tuple [v10, v11, .int .i64 (((stepAllM dx4 dx5 dx6 dx7).2.2 : Nat) : Int)].toArray), (135, v10), (136, v11), (137, .int .i64 (((stepAllM dx4 dx5 dx6 dx7).2.2 : Nat) : Int)), (138, .slice (some ⟨b4, 0, none⟩) 1 1), (139, .agg [.int .i64 1, .int .i64 0, .int .i64 0, .slice (some ⟨b4, 0, none⟩) 1 1].toArray), (140, .agg [.int .i64 8, .int .i64 0, .int .i64 0, .slice none 0 0].toArray), (141, .slice (some ⟨b5, 0, none⟩) 2 2), (142, .agg [.slice (some ⟨b5, 0, none⟩) 2 2, .int .i64 1, .int .i64 1].toArray), (143, .tuple [v12, v13, .bool ((stepM (⟨[(⟨1, 0, 0, [1]⟩ : Node), (⟨8, 0, 0, []⟩ : Node)], 1, 1⟩ : Graph) [] (⟨0, (⟨0, 0⟩ : Stamp), 5, 0⟩ : Record)).2.2)].toArray), (144, .agg [.slice (some ⟨b5, 0, none⟩) 2 2, .int .i64 1, .int .i64 1].toArray), (145, .agg (Enc.enc (⟨0, (⟨0, 0⟩ : Stamp), 5, 0⟩ : Record)).toArray), (146, .tuple [v12, v13, .bool ((stepM (⟨[(⟨1, 0, 0, [1]⟩ : Node), (⟨8, 0, 0, []⟩ : Node)], 1, 1⟩ : Graph) [] (⟨0, (⟨0, 0⟩ : Stamp), 5, 0⟩ : Record)).2.2)].toArray), (147, v12), (148, v13), (149, .bool ((stepM (⟨[(⟨1, 0, 0, [1]⟩ : Node), (⟨8, 0, 0, []⟩ : Node)], 1, 1⟩ : Graph) [] (⟨0, (⟨0, 0⟩ : Stamp), 5, 0⟩ : Record)).2.2)), (185, .bool (((((((((stepAllM dx4 dx5 dx6 dx7).2.2 : Nat) : Int) == (((stepAllM dx4 dx5 dx6 dx7).2.2 : Nat) : Int)) && (decide (((stepAllM dx4 dx5 dx6 dx7).1) = ((stepAllM dx4 dx5 dx6 dx7).1)))) && (decide (((stepAllM dx4 dx5 dx6 dx7).2.1) = ((stepAllM dx4 dx5 dx6 dx7).2.1)))) && (((((stepM (⟨[(⟨1, 0, 0, [1]⟩ : Node), (⟨8, 0, 0, []⟩ : Node)], 1, 1⟩ : Graph) [] (⟨0, (⟨0, 0⟩ : Stamp), 5, 0⟩ : Record)).2.1).length : Nat) : Int) == 1)) && (decide ((List.getD ((stepM (⟨[(⟨1, 0, 0, [1]⟩ : Node), (⟨8, 0, 0, []⟩ : Node)], 1, 1⟩ : Graph) [] (⟨0, (⟨0, 0⟩ : Stamp), 5, 0⟩ : Record)).2.1) 0 default) = (⟨1, (⟨0, 0⟩ : Stamp), 5, 0⟩ : Record)))) && ((!(cappedM dx1 dx3)) || (((((stepM dx1 dx2 dx3).2.1).length : Nat) : Int) == 0))))] (fun w' => Ext w w' ∧ w31.heap.size ≤ w'.heap.size ∧ RdD w' w1.heap.size w2.heap.size o1 dx1.nodes ∧ Own w' w1.heap.size w2.heap.size 4 v1 (List.flatMap (Enc.enc (α := Cell)) dx2) ∧ Blk w' b1 [o1, .int .i64 dx1.workers, .int .i64 dx1.cap] ∧ Blk w' b2 [.int .i64 dx3.op, .int .i64 dx3.stamp.epoch, .int .i64 dx3.stamp.turn, .int .i64 dx3.key, .int .i64 dx3.val] ∧ Own w' w6.heap.size w7.heap.size 4 v2 (List.flatMap (Enc.enc (α := Cell)) ((stepM dx1 dx2 dx3).1)) ∧ Own w' w6.heap.size w7.heap.size 5 v3 (List.flatMap (Enc.enc (α := Record)) ((stepM dx1 dx2 dx3).2.1)) ∧ Own w' w7.heap.size w8.heap.size 4 v4 (List.flatMap (Enc.enc (α := Cell)) ((stepM dx1 dx2 dx3).1)) ∧ Own w' w7.heap.size w8.heap.size 5 v5 (List.flatMap (Enc.enc (α := Record)) ((stepM dx1 dx2 dx3).2.1)) ∧ RdD w' w15.heap.size w22.heap.size o3 dx4.nodes ∧ Own w' w15.heap.size w22.heap.size 4 v6 (List.flatMap (Enc.enc (α := Cell)) dx5) ∧ Own w' w15.heap.size w22.heap.size 5 v7 (List.flatMap (Enc.enc (α := Record)) dx6) ∧ Blk w' b3 [o3, .int .i64 dx4.workers, .int .i64 dx4.cap] ∧ Own w' w24.heap.size w25.heap.size 4 v8 (List.flatMap (Enc.enc (α := Cell)) ((stepAllM dx4 dx5 dx6 dx7).1)) ∧ Own w' w24.heap.size w25.heap.size 5 v9 (List.flatMap (Enc.enc (α := Record)) ((stepAllM dx4 dx5 dx6 dx7).2.1)) ∧ Own w' w25.heap.size w26.heap.size 4 v10 (List.flatMap (Enc.enc (α := Cell)) ((stepAllM dx4 dx5 dx6 dx7).1)) ∧ Own w' w25.heap.size w26.heap.size 5 v11 (List.flatMap (Enc.enc (α := Record)) ((stepAllM dx4 dx5 dx6 dx7).2.1)) ∧ Blk w' b4 [.int .i64 1] ∧ Blk w' b5 [.int .i64 1, .int .i64 0, .int .i64 0, .slice (some ⟨b4, 0, none⟩) 1 1, .int .i64 8, .int .i64 0, .int .i64 0, .slice none 0 0] ∧ Blk w' b6 [.slice (some ⟨b5, 0, none⟩) 2 2, .int .i64 1, .int .i64 1] ∧ Own w' w30.heap.size w31.heap.size 4 v12 (List.flatMap (Enc.enc (α := Cell)) ((stepM (⟨[(⟨1, 0, 0, [1]⟩ : Node), (⟨8, 0, 0, []⟩ : Node)], 1, 1⟩ : Graph) [] (⟨0, (⟨0, 0⟩ : Stamp), 5, 0⟩ : Record)).1)) ∧ Own w' w30.heap.size w31.heap.size 5 v13 (List.flatMap (Enc.enc (α := Record)) ((stepM (⟨[(⟨1, 0, 0, [1]⟩ : Node), (⟨8, 0, 0, []⟩ : Node)], 1, 1⟩ : Graph) [] (⟨0, (⟨0, 0⟩ : Stamp), 5, 0⟩ : Record)).2.1))) ?_ ?_
   ·refine J_if (gd := 153) rfl rfl (fun hg6 => ?_) (fun hg6 => ?_)
    ·have hg6n : (stepAllM dx4 dx5 dx6 dx7).2.2 = (stepAllM dx4 dx5 dx6 dx7).2.2 := by first | (have h := of_decide_eq_true hg6; omega) | (have h := hg6; simp at h; omega)
     refine J_gd rfl rfl (R_move rfl) rfl (J_gd rfl rfl (R_move rfl) rfl ?_)
     refine J_ung rfl rfl ?_
     refine J_call Try.call9 rfl (l_sameCells v8 ((stepAllM dx4 dx5 dx6 dx7).1) v10 ((stepAllM dx4 dx5 dx6 dx7).1) _ (Own.rd (by decide) ho15) (Own.rd (by decide) ho18)) rfl (fun _ w33 e24 hv => ?_)
     subst hv
     replace E := E.trans e24; replace hd1 := hd1.ext e24; replace ho3 := ho3.ext e24; replace h1 := h1.ext e24; replace h2 := h2.ext e24; replace ho5 := ho5.ext e24; replace ho6 := ho6.ext e24; replace ho8 := ho8.ext e24; replace ho9 := ho9.ext e24; replace hd3 := hd3.ext e24; replace ho12 := ho12.ext e24; replace ho13 := ho13.ext e24; replace h3 := h3.ext e24; replace ho15 := ho15.ext e24; replace ho16 := ho16.ext e24; replace ho18 := ho18.ext e24; replace ho19 := ho19.ext e24; replace h4 := h4.ext e24; replace h5 := h5.ext e24; replace h6 := h6.ext e24; replace ho21 := ho21.ext e24; replace ho22 := ho22.ext e24
     have z32 := e24.size
     refine J_st (R_pickT rfl rfl) rfl (J_st (R_move rfl) rfl ?_)
     refine J_if (gd := 158) rfl rfl (fun hg7 => ?_) (fun hg7 => ?_)
     ·refine J_gd rfl rfl (R_move rfl) rfl (J_gd rfl rfl (R_move rfl) rfl ?_)
      refine J_ung rfl rfl ?_
      refine J_call Try.call10 rfl (l_sameRecords v9 ((stepAllM dx4 dx5 dx6 dx7).2.1) v11 ((stepAllM dx4 dx5 dx6 dx7).2.1) _ (Own.rd (by decide) ho16) (Own.rd (by decide) ho19)) rfl (fun _ w34 e25 hv => ?_)
      subst hv
      replace E := E.trans e25; replace hd1 := hd1.ext e25; replace ho3 := ho3.ext e25; replace h1 := h1.ext e25; replace h2 := h2.ext e25; replace ho5 := ho5.ext e25; replace ho6 := ho6.ext e25; replace ho8 := ho8.ext e25; replace ho9 := ho9.ext e25; replace hd3 := hd3.ext e25; replace ho12 := ho12.ext e25; replace ho13 := ho13.ext e25; replace h3 := h3.ext e25; replace ho15 := ho15.ext e25; replace ho16 := ho16.ext e25; replace ho18 := ho18.ext e25; replace ho19 := ho19.ext e25; replace h4 := h4.ext e25; replace h5 := h5.ext e25; replace h6 := h6.ext e25; replace ho21 := ho21.ext e25; replace ho22 := ho22.ext e25
      have z33 := e25.size
      refine J_st (R_pickT rfl rfl) rfl (J_st (R_move rfl) rfl ?_)
      refine J_if (gd := 163) rfl rfl (fun hg8 => ?_) (fun hg8 => ?_)
      ·refine J_gd rfl rfl (R_move rfl) rfl (J_gd rfl rfl (R_len Try.underlying34 rfl (Own.len (by decide) ho22)) rfl (J_gd rfl rfl (R_eql rfl rfl) rfl (J_st (R_pickT rfl rfl) rfl (J_st (R_move rfl) rfl ?_))))
       refine J_if (gd := 168) rfl rfl (fun hg9 => ?_) (fun hg9 => ?_)
       ·have hg9n : ((stepM (⟨[(⟨1, 0, 0, [1]⟩ : Node), (⟨8, 0, 0, []⟩ : Node)], 1, 1⟩ : Graph) [] (⟨0, (⟨0, 0⟩ : Stamp), 5, 0⟩ : Record)).2.1).length = 1 := by first | (have h := of_decide_eq_true hg9; omega) | (have h := hg9; simp at h; omega)
        refine J_gd rfl rfl (R_move rfl) rfl ?_
        have hi6 : 0 < ((stepM (⟨[(⟨1, 0, 0, [1]⟩ : Node), (⟨8, 0, 0, []⟩ : Node)], 1, 1⟩ : Graph) [] (⟨0, (⟨0, 0⟩ : Stamp), 5, 0⟩ : Record)).2.1).length := (by first | assumption | omega | (simp only [List.length_set]; first | assumption | omega) | (simp only [List.getElem_set_self, List.length_set]; first | assumption | omega) | (simp only [setW, setLk, List.length_set]; first | assumption | omega) | (simp; done))
        refine J_gd rfl rfl (R_index (i := 0) sl34 rfl rfl (Own.rd (by decide) ho22) hi6) rfl (J_gd rfl rfl (R_loadS st31 rfl (RdS.getD (Own.rd (by decide) ho22) (i := 0) hi6) rfl) rfl (J_gd rfl rfl (R_build (⟨1, (⟨0, 0⟩ : Stamp), 5, 0⟩ : Record) rfl (fun _ => by kernel_rfl)) rfl (J_gd rfl rfl (R_eqlS (eq31 (List.getD ((stepM (⟨[(⟨1, 0, 0, [1]⟩ : Node), (⟨8, 0, 0, []⟩ : Node)], 1, 1⟩ : Graph) [] (⟨0, (⟨0, 0⟩ : Stamp), 5, 0⟩ : Record)).2.1) 0 default) (⟨1, (⟨0, 0⟩ : Stamp), 5, 0⟩ : Record)) eqg31 rfl rfl) rfl (J_st (R_pickT rfl rfl) rfl (J_st (R_move rfl) rfl ?_)))))
        refine J_if (gd := 175) rfl rfl (fun hg10 => ?_) (fun hg10 => ?_)
        ·refine J_gd rfl rfl (R_loadS st26 rfl h1.at rfl) rfl (J_gd rfl rfl (R_loadS st31 rfl h2.at rfl) rfl ?_)
         refine J_ung rfl rfl ?_
         refine J_call Try.call11 rfl (c_Capped [o1, .int .i64 dx1.workers, .int .i64 dx1.cap] dx1 dx3 _ (Graph.mkR dx1 (RdD.any hd1))) rfl (fun _ w35 e26 hv => ?_)
         subst hv
         replace E := E.trans e26; replace hd1 := hd1.ext e26; replace ho3 := ho3.ext e26; replace h1 := h1.ext e26; replace h2 := h2.ext e26; replace ho5 := ho5.ext e26; replace ho6 := ho6.ext e26; replace ho8 := ho8.ext e26; replace ho9 := ho9.ext e26; replace hd3 := hd3.ext e26; replace ho12 := ho12.ext e26; replace ho13 := ho13.ext e26; replace h3 := h3.ext e26; replace ho15 := ho15.ext e26; replace ho16 := ho16.ext e26; replace ho18 := ho18.ext e26; replace ho19 := ho19.ext e26; replace h4 := h4.ext e26; replace h5 := h5.ext e26; replace h6 := h6.ext e26; replace ho21 := ho21.ext e26; replace ho22 := ho22.ext e26
         have z34 := e26.size
         refine J_gd rfl rfl (R_not rfl) rfl (J_gd rfl rfl (R_move rfl) rfl ?_)
         refine J_if (gd := 180) rfl rfl (fun hg11 => ?_) (fun hg11 => ?_)
         ·refine J_gdno rfl rfl rfl rfl (J_gdno rfl rfl rfl rfl (J_gdno rfl rfl rfl rfl (J_gd rfl rfl (R_pickT rfl rfl) rfl (J_st (R_pickT rfl rfl) rfl (J_cutEnd ⟨rfl, rfl, rfl, rfl, rfl, rfl, rfl, rfl, rfl, rfl, rfl, rfl, rfl, rfl, rfl, rfl, rfl, rfl, rfl, rfl, rfl, rfl, rfl, rfl, rfl, rfl, rfl, rfl, rfl, rfl, rfl, rfl, rfl, rfl, rfl, rfl, rfl, rfl, rfl, rfl, rfl, rfl, rfl, rfl, rfl, rfl, rfl, rfl, rfl, rfl, rfl, rfl, rfl, rfl, rfl, rfl, rfl, rfl, rfl, congrArg (fun b => some (Value.bool b)) (show true = (((((((((stepAllM dx4 dx5 dx6 dx7).2.2 : Nat) : Int) == (((stepAllM dx4 dx5 dx6 dx7).2.2 : Nat) : Int)) && (decide (((stepAllM dx4 dx5 dx6 dx7).1) = ((stepAllM dx4 dx5 dx6 dx7).1)))) && (decide (((stepAllM dx4 dx5 dx6 dx7).2.1) = ((stepAllM dx4 dx5 dx6 dx7).2.1)))) && (((((stepM (⟨[(⟨1, 0, 0, [1]⟩ : Node), (⟨8, 0, 0, []⟩ : Node)], 1, 1⟩ : Graph) [] (⟨0, (⟨0, 0⟩ : Stamp), 5, 0⟩ : Record)).2.1).length : Nat) : Int) == 1)) && (decide ((List.getD ((stepM (⟨[(⟨1, 0, 0, [1]⟩ : Node), (⟨8, 0, 0, []⟩ : Node)], 1, 1⟩ : Graph) [] (⟨0, (⟨0, 0⟩ : Stamp), 5, 0⟩ : Record)).2.1) 0 default) = (⟨1, (⟨0, 0⟩ : Stamp), 5, 0⟩ : Record)))) && ((!(cappedM dx1 dx3)) || (((((stepM dx1 dx2 dx3).2.1).length : Nat) : Int) == 0))) by first | (rw [hg6, hg7, hg8, hg9, hg10, hg11] <;> rfl) | (simp [hg6, hg7, hg8, hg9, hg10, hg11]; done) | (simp only [nat_nlt] <;> simp)), trivial⟩ ⟨E, (by omega), hd1, ho3, h1, h2, ho5, ho6, ho8, ho9, hd3, ho12, ho13, h3, ho15, ho16, ho18, ho19, h4, h5, h6, ho21, ho22⟩)))))
         ·refine J_gd rfl rfl (R_move rfl) rfl (J_gd rfl rfl (R_len Try.underlying34 rfl (Own.len (by decide) ho6)) rfl (J_gd rfl rfl (R_eql rfl rfl) rfl (J_gd rfl rfl (R_pickF rfl rfl) rfl (J_st (R_pickT rfl rfl) rfl (J_cutEnd ⟨rfl, rfl, rfl, rfl, rfl, rfl, rfl, rfl, rfl, rfl, rfl, rfl, rfl, rfl, rfl, rfl, rfl, rfl, rfl, rfl, rfl, rfl, rfl, rfl, rfl, rfl, rfl, rfl, rfl, rfl, rfl, rfl, rfl, rfl, rfl, rfl, rfl, rfl, rfl, rfl, rfl, rfl, rfl, rfl, rfl, rfl, rfl, rfl, rfl, rfl, rfl, rfl, rfl, rfl, rfl, rfl, rfl, rfl, rfl, congrArg (fun b => some (Value.bool b)) (show (((((stepM dx1 dx2 dx3).2.1).length : Nat) : Int) == 0) = (((((((((stepAllM dx4 dx5 dx6 dx7).2.2 : Nat) : Int) == (((stepAllM dx4 dx5 dx6 dx7).2.2 : Nat) : Int)) && (decide (((stepAllM dx4 dx5 dx6 dx7).1) = ((stepAllM dx4 dx5 dx6 dx7).1)))) && (decide (((stepAllM dx4 dx5 dx6 dx7).2.1) = ((stepAllM dx4 dx5 dx6 dx7).2.1)))) && (((((stepM (⟨[(⟨1, 0, 0, [1]⟩ : Node), (⟨8, 0, 0, []⟩ : Node)], 1, 1⟩ : Graph) [] (⟨0, (⟨0, 0⟩ : Stamp), 5, 0⟩ : Record)).2.1).length : Nat) : Int) == 1)) && (decide ((List.getD ((stepM (⟨[(⟨1, 0, 0, [1]⟩ : Node), (⟨8, 0, 0, []⟩ : Node)], 1, 1⟩ : Graph) [] (⟨0, (⟨0, 0⟩ : Stamp), 5, 0⟩ : Record)).2.1) 0 default) = (⟨1, (⟨0, 0⟩ : Stamp), 5, 0⟩ : Record)))) && ((!(cappedM dx1 dx3)) || (((((stepM dx1 dx2 dx3).2.1).length : Nat) : Int) == 0))) by first | (rw [hg6, hg7, hg8, hg9, hg10, hg11] <;> rfl) | (simp [hg6, hg7, hg8, hg9, hg10, hg11]; done) | (simp only [nat_nlt] <;> simp)), trivial⟩ ⟨E, (by omega), hd1, ho3, h1, h2, ho5, ho6, ho8, ho9, hd3, ho12, ho13, h3, ho15, ho16, ho18, ho19, h4, h5, h6, ho21, ho22⟩)))))
        ·refine J_gdno rfl rfl rfl rfl (J_gdno rfl rfl rfl rfl ?_)
         refine J_ungno rfl rfl rfl rfl ?_
         refine J_gdno rfl rfl rfl rfl (J_gdno rfl rfl rfl rfl (J_gdx rfl rfl rfl (J_gdx rfl rfl rfl (J_gdx rfl rfl rfl (J_gdno rfl rfl rfl rfl (J_st (R_pickF rfl rfl) rfl (J_cutEnd ⟨rfl, rfl, rfl, rfl, rfl, rfl, rfl, rfl, rfl, rfl, rfl, rfl, rfl, rfl, rfl, rfl, rfl, rfl, rfl, rfl, rfl, rfl, rfl, rfl, rfl, rfl, rfl, rfl, rfl, rfl, rfl, rfl, rfl, rfl, rfl, rfl, rfl, rfl, rfl, rfl, rfl, rfl, rfl, rfl, rfl, rfl, rfl, rfl, rfl, rfl, rfl, rfl, rfl, rfl, rfl, rfl, rfl, rfl, rfl, congrArg (fun b => some (Value.bool b)) (show false = (((((((((stepAllM dx4 dx5 dx6 dx7).2.2 : Nat) : Int) == (((stepAllM dx4 dx5 dx6 dx7).2.2 : Nat) : Int)) && (decide (((stepAllM dx4 dx5 dx6 dx7).1) = ((stepAllM dx4 dx5 dx6 dx7).1)))) && (decide (((stepAllM dx4 dx5 dx6 dx7).2.1) = ((stepAllM dx4 dx5 dx6 dx7).2.1)))) && (((((stepM (⟨[(⟨1, 0, 0, [1]⟩ : Node), (⟨8, 0, 0, []⟩ : Node)], 1, 1⟩ : Graph) [] (⟨0, (⟨0, 0⟩ : Stamp), 5, 0⟩ : Record)).2.1).length : Nat) : Int) == 1)) && (decide ((List.getD ((stepM (⟨[(⟨1, 0, 0, [1]⟩ : Node), (⟨8, 0, 0, []⟩ : Node)], 1, 1⟩ : Graph) [] (⟨0, (⟨0, 0⟩ : Stamp), 5, 0⟩ : Record)).2.1) 0 default) = (⟨1, (⟨0, 0⟩ : Stamp), 5, 0⟩ : Record)))) && ((!(cappedM dx1 dx3)) || (((((stepM dx1 dx2 dx3).2.1).length : Nat) : Int) == 0))) by first | (rw [hg6, hg7, hg8, hg9, hg10] <;> rfl) | (simp [hg6, hg7, hg8, hg9, hg10]; done) | (simp only [nat_nlt] <;> simp)), trivial⟩ ⟨E, (by omega), hd1, ho3, h1, h2, ho5, ho6, ho8, ho9, hd3, ho12, ho13, h3, ho15, ho16, ho18, ho19, h4, h5, h6, ho21, ho22⟩)))))))
       ·have hg9n : ¬ ((stepM (⟨[(⟨1, 0, 0, [1]⟩ : Node), (⟨8, 0, 0, []⟩ : Node)], 1, 1⟩ : Graph) [] (⟨0, (⟨0, 0⟩ : Stamp), 5, 0⟩ : Record)).2.1).length = 1 := by first | (have h := of_decide_eq_false hg9; omega) | (have h := hg9; simp at h; omega)
        refine J_gdno rfl rfl rfl rfl (J_gdno rfl rfl rfl rfl (J_gdno rfl rfl rfl rfl (J_gdno rfl rfl rfl rfl (J_gdno rfl rfl rfl rfl (J_st (R_pickF rfl rfl) rfl (J_st (R_move rfl) rfl (J_gdno rfl rfl rfl rfl (J_gdno rfl rfl rfl rfl ?_))))))))
        refine J_ungno rfl rfl rfl rfl ?_
        refine J_gdno rfl rfl rfl rfl (J_gdno rfl rfl rfl rfl (J_gdx rfl rfl rfl (J_gdx rfl rfl rfl (J_gdx rfl rfl rfl (J_gdno rfl rfl rfl rfl (J_st (R_pickF rfl rfl) rfl (J_cutEnd ⟨rfl, rfl, rfl, rfl, rfl, rfl, rfl, rfl, rfl, rfl, rfl, rfl, rfl, rfl, rfl, rfl, rfl, rfl, rfl, rfl, rfl, rfl, rfl, rfl, rfl, rfl, rfl, rfl, rfl, rfl, rfl, rfl, rfl, rfl, rfl, rfl, rfl, rfl, rfl, rfl, rfl, rfl, rfl, rfl, rfl, rfl, rfl, rfl, rfl, rfl, rfl, rfl, rfl, rfl, rfl, rfl, rfl, rfl, rfl, congrArg (fun b => some (Value.bool b)) (show false = (((((((((stepAllM dx4 dx5 dx6 dx7).2.2 : Nat) : Int) == (((stepAllM dx4 dx5 dx6 dx7).2.2 : Nat) : Int)) && (decide (((stepAllM dx4 dx5 dx6 dx7).1) = ((stepAllM dx4 dx5 dx6 dx7).1)))) && (decide (((stepAllM dx4 dx5 dx6 dx7).2.1) = ((stepAllM dx4 dx5 dx6 dx7).2.1)))) && (((((stepM (⟨[(⟨1, 0, 0, [1]⟩ : Node), (⟨8, 0, 0, []⟩ : Node)], 1, 1⟩ : Graph) [] (⟨0, (⟨0, 0⟩ : Stamp), 5, 0⟩ : Record)).2.1).length : Nat) : Int) == 1)) && (decide ((List.getD ((stepM (⟨[(⟨1, 0, 0, [1]⟩ : Node), (⟨8, 0, 0, []⟩ : Node)], 1, 1⟩ : Graph) [] (⟨0, (⟨0, 0⟩ : Stamp), 5, 0⟩ : Record)).2.1) 0 default) = (⟨1, (⟨0, 0⟩ : Stamp), 5, 0⟩ : Record)))) && ((!(cappedM dx1 dx3)) || (((((stepM dx1 dx2 dx3).2.1).length : Nat) : Int) == 0))) by first | (rw [hg6, hg7, hg8, hg9] <;> rfl) | (simp [hg6, hg7, hg8, hg9]; done) | (simp only [nat_nlt] <;> simp)), trivial⟩ ⟨E, (by omega), hd1, ho3, h1, h2, ho5, ho6, ho8, ho9, hd3, ho12, ho13, h3, ho15, ho16, ho18, ho19, h4, h5, h6, ho21, ho22⟩)))))))
      ·exact absurd hg8 (by first | (simp; done) | (simp only [nat_nlt] <;> simp) | (simp only [mkL_length, nat_nlt] <;> simp) | (simp only [mkL_length] <;> simp))
     ·exact absurd hg7 (by first | (simp; done) | (simp only [nat_nlt] <;> simp) | (simp only [mkL_length, nat_nlt] <;> simp) | (simp only [mkL_length] <;> simp))
    ·exact absurd hg6 (by first | (simp; done) | (simp only [nat_nlt] <;> simp) | (simp only [mkL_length, nat_nlt] <;> simp) | (simp only [mkL_length] <;> simp))
   clear E hd1 ho3 h1 h2 ho5 ho6 ho8 ho9 hd3 ho12 ho13 h3 ho15 ho16 ho18 ho19 h4 h5 h6 ho21 ho22
   rintro w32 ⟨E, z35, hd1, ho3, h1, h2, ho5, ho6, ho8, ho9, hd3, ho12, ho13, h3, ho15, ho16, ho18, ho19, h4, h5, h6, ho21, ho22⟩
   refine J_st (R_assign rfl) rfl (J_done ?_)
   refine S_ret (E_done1 rfl rfl E ?_)
   exact congrArg Value.bool steps_fin

end Go.Proofs.Ytckahblgeepfjaa
