/- What the functions that the laws call come to: a contract each; no condition. -/
import Derived.Test.YtcgfmicadcdinaaFns2
namespace Go.Proofs.Ytcgfmicadcdinaa
open Go Go.Proofs.Ytcgfmicadcdinaa.X Go.Proofs
set_option maxHeartbeats 4000000 in
set_option maxRecDepth 20000 in
theorem s_l08Copy (cx : List Value) (x : Graph) (w : World) (hx : Dat.R w 0 w.heap.size cx x) (hb : cntGraph x ≤ 1048576) : Ct Try.prog 20 [.agg cx.toArray] w (fun v w' => ∃ o, v = .agg [o, .int .i64 x.workers, .int .i64 x.cap].toArray ∧ OwS w' w.heap.size w'.heap.size o x.nodes) := by
  have hb2 := hb
  unfold cntGraph cntL at hb2
  refine ct_of Try.func20 rfl Try.ntmps20 rfl ?_
  obtain ⟨o1, rfl, hd1⟩ := Graph.op hx
  refine S_sub [(0, .agg [o1, .int .i64 x.workers, .int .i64 x.cap].toArray)] ⟨rfl, trivial⟩ ?_
  have E : Ext w w := Ext.refl w
  refine S_seq ?_
  refine S_reg [false, false] rfl rfl ?_
  refine J_box rfl rfl (fun b1 w1 e1 s1 h1 => ?_)
  have g_b1 : w.heap.size ≤ b1 := by have := E.size; omega
  have y_b1 := h1.lt
  replace E := E.trans e1
  have z1 := e1.size
  refine J_alloc st30 rfl (fun b2 w2 e2 s2 h2 => ?_)
  have g_b2 : w.heap.size ≤ b2 := by have := E.size; omega
  have y_b2 := h2.lt
  replace E := E.trans e2; replace h1 := h1.ext e2
  have z2 := e2.size
  refine J_done ?_
  refine S_seq ?_
  refine S_reg [true, false, false] rfl rfl ?_
  refine J_st (R_loadS st30 rfl h1.at rfl) rfl ?_
  refine J_alloc st30 rfl (fun b3 w3 e3 s3 h3 => ?_)
  have g_b3 : w.heap.size ≤ b3 := by have := E.size; omega
  have y_b3 := h3.lt
  replace E := E.trans e3; replace h1 := h1.ext e3; replace h2 := h2.ext e3
  have z3 := e3.size
  refine J_storeS' (cs' := [o1, .int .i64 x.workers, .int .i64 x.cap]) st30 rfl rfl rfl (all_cons (RdD.one (hd1.ext E)) (all_cons rfl (all_cons rfl rfl))) h3 (Nat.le_of_ble_eq_true rfl) rfl (fun w4 m1 h3' => ?_)
  replace h3 := h3'
  replace E := E.step m1 (fun g hg => by cases hg; omega); replace h1 := h1.mod m1 (fun g hg => by cases hg; omega); replace h2 := h2.mod m1 (fun g hg => by cases hg; omega)
  have z4 := m1.size
  refine J_done ?_
  refine S_seq ?_
  refine S_reg [false, true, false] rfl rfl ?_
  refine J_buildSlice (vs := []) (css := []) sl28 rfl rfl trivial rfl rfl (fun b4 w5 e4 s4 h4 => ?_)
  replace h4 : Blk w5 b4 [] := h4
  have g_b4 : w.heap.size ≤ b4 := by have := E.size; omega
  have y_b4 := h4.lt
  replace E := E.trans e4; replace h1 := h1.ext e4; replace h2 := h2.ext e4; replace h3 := h3.ext e4
  have z5 := e4.size
  refine J_st (R_fieldAddr0 fl30_0 rfl) rfl ?_
  refine J_store' (cs' := [.slice (some ⟨b4, 0, none⟩) 0 0, .int .i64 x.workers, .int .i64 x.cap]) sc28 rfl rfl rfl h3 (Nat.le_of_ble_eq_true rfl) rfl (fun w6 m2 h3' => ?_)
  replace h3 := h3'
  replace E := E.step m2 (fun g hg => by cases hg; omega); replace h1 := h1.mod m2 (fun g hg => by cases hg; omega); replace h2 := h2.mod m2 (fun g hg => by cases hg; omega); replace h4 := h4.mod m2 (fun g hg => by cases hg; omega)
  have z6 := m2.size
  refine J_done ?_
  refine S_seq ?_
  refine S_seq ?_
  refine S_reg [true] rfl rfl ?_
  refine J_st (R_assign rfl) rfl (J_done ?_)
  refine S_block ?_
  refine S_loop (fun (xq : Nat × Value) => let ⟨k0, vo0⟩ := xq; [(1, .pointer (some ⟨b1, 0, none⟩)), (2, .pointer (some ⟨b2, 0, none⟩)), (3, .pointer (some ⟨b3, 0, none⟩)), (4, .int .i64 ((k0 : Nat) : Int)), (8, .pointer (some ⟨b3, 0, none⟩))]) (fun (xq : Nat × Value) w' => let ⟨k0, vo0⟩ := xq; Ext w w' ∧ w6.heap.size ≤ w'.heap.size ∧ Blk w' b1 ([o1, .int .i64 x.workers, .int .i64 x.cap]) ∧ Blk w' b2 [.slice none 0 0, .int .i64 0, .int .i64 0] ∧ k0 ≤ x.nodes.length ∧ OwS w' b4 w'.heap.size vo0 (x.nodes.take k0) ∧ Blk w' b3 [vo0, .int .i64 x.workers, .int .i64 x.cap]) (fun (xq : Nat × Value) => let ⟨k0, vo0⟩ := xq; x.nodes.length - k0) (0, .slice (some ⟨b4, 0, none⟩) 0 0) ⟨rfl, rfl, rfl, rfl, rfl, trivial⟩ ⟨E, Nat.le_refl _, h1, h2, Nat.zero_le _, (OwS.lit h4 (by omega)), h3⟩ ?_
  clear E h1 h2 h3 h4
  rintro ⟨k0, vo0⟩ w7 ⟨E, z7, h1, h2, hk0, hoC0, h3⟩
  refine S_sub [(1, .pointer (some ⟨b1, 0, none⟩)), (2, .pointer (some ⟨b2, 0, none⟩)), (3, .pointer (some ⟨b3, 0, none⟩)), (4, .int .i64 ((k0 : Nat) : Int)), (8, .pointer (some ⟨b3, 0, none⟩))] ⟨rfl, rfl, rfl, rfl, rfl, trivial⟩ ?_
  refine S_seq ?_
  refine S_seq ?_
  refine S_reg [true, true, true, true, true] rfl rfl ?_
  refine J_st (R_move rfl) rfl (J_st (R_fieldAddr0 fl30_0 rfl) rfl (J_st (R_load sc28 rfl (h1.one 0 rfl)) rfl (J_st (R_len Try.underlying28 rfl (hd1.ext E).len) rfl (J_st (R_lss rfl rfl) rfl (J_done ?_)))))
  refine S_cond rfl (fun hc1 => ?_) (fun hc1 => ?_)
  · have hc1n : k0 < x.nodes.length := by first | (have h := of_decide_eq_true hc1; omega) | (have h := hc1; simp at h; omega)
    refine S_skip ?_
    refine S_seq ?_
    refine S_block ?_
    refine S_seq ?_
    refine S_reg [true, true, true, true, true, false, false] rfl rfl ?_
    refine J_st (R_fieldAddr0 fl30_0 rfl) rfl (J_st (R_load sc28 rfl (h1.one 0 rfl)) rfl (J_st (R_move rfl) rfl ?_))
    have hi1 : k0 < x.nodes.length := (by first | assumption | omega | (simp only [List.length_set]; first | assumption | omega) | (simp only [List.getElem_set_self, List.length_set]; first | assumption | omega) | (simp only [setW, setLk, List.length_set]; first | assumption | omega))
    obtain ⟨_, hr1, ha1⟩ := RdD.get hd1 hi1
    obtain ⟨o2, rfl, hd2⟩ := Node.op hr1
    replace ha1 : At w (sblk o1) (soff o1 + k0 * 4) [.int .i64 ((x.nodes[k0]'hi1).kind), .int .i64 ((x.nodes[k0]'hi1).a), .int .i64 ((x.nodes[k0]'hi1).b), o2] := ha1
    refine J_st (R_index (i := k0) sl28 rfl rfl (hd1.ext E).1 hi1) rfl (J_st (R_loadS st90 rfl (ha1.ext E) rfl) rfl ?_)
    refine J_alloc st90 rfl (fun b5 w8 e5 s5 h5 => ?_)
    have g_b5 : w.heap.size ≤ b5 := by have := E.size; omega
    have y_b5 := h5.lt
    replace E := E.trans e5; replace h1 := h1.ext e5; replace h2 := h2.ext e5; replace hoC0 := hoC0.ext e5; replace h3 := h3.ext e5
    have z8 := e5.size
    refine J_storeS' (cs' := [.int .i64 ((x.nodes[k0]'hi1).kind), .int .i64 ((x.nodes[k0]'hi1).a), .int .i64 ((x.nodes[k0]'hi1).b), o2]) st90 rfl rfl rfl (all_cons rfl (all_cons rfl (all_cons rfl (all_cons (RdD.one (hd2.ext E)) rfl)))) h5 (Nat.le_of_ble_eq_true rfl) rfl (fun w9 m3 h5' => ?_)
    replace h5 := h5'
    replace E := E.step m3 (fun g hg => by cases hg; omega); replace h1 := h1.mod m3 (fun g hg => by cases hg; omega); replace h2 := h2.mod m3 (fun g hg => by cases hg; omega); replace hoC0 := hoC0.mod m3 (fun g hg => by cases hg; omega); replace h3 := h3.mod m3 (fun g hg => by cases hg; omega)
    have z9 := m3.size
    refine J_done ?_
    refine S_seq ?_
    refine S_reg [false, true, true, false, true, false] rfl rfl ?_
    refine J_buildSlice (vs := []) (css := []) sl58 rfl rfl trivial rfl rfl (fun b6 w10 e6 s6 h6 => ?_)
    replace h6 : Blk w10 b6 [] := h6
    have g_b6 : w.heap.size ≤ b6 := by have := E.size; omega
    have y_b6 := h6.lt
    replace E := E.trans e6; replace h1 := h1.ext e6; replace h2 := h2.ext e6; replace hoC0 := hoC0.ext e6; replace h3 := h3.ext e6; replace h5 := h5.ext e6
    have z10 := e6.size
    refine J_st (R_fieldAddr0 fl90_3 rfl) rfl (J_st (R_load sc58 rfl (h5.one 3 rfl)) rfl ?_)
    refine J_append sl58 rfl rfl (Own.ofBlk (lo := b6) (hi := b6 + 1) (sz := 1) h6 (Nat.le_refl _) (Nat.lt_succ_self _) (by simp) (by simp [maxLen])) (RdS.src (hd2.rd.ext E)) (flat_one _) (by have h9 := outs_le hb (List.getElem_mem (by assumption)); simp only [sum_flat, List.length_nil]; simp only [Enc.sz]; omega) (by decide) (by omega) (by omega) rfl rfl (fun v1 w11 m4 ho1 => ?_)
    replace E := E.step m4 (fun g hg => by have := Own.blk (Own.ofBlk (lo := b6) (hi := b6 + 1) (sz := 1) h6 (Nat.le_refl _) (Nat.lt_succ_self _) (by simp) (by simp [maxLen])) g hg; omega); replace h1 := h1.mod m4 (fun g hg => by have := Own.blk (Own.ofBlk (lo := b6) (hi := b6 + 1) (sz := 1) h6 (Nat.le_refl _) (Nat.lt_succ_self _) (by simp) (by simp [maxLen])) g hg; omega); replace h2 := h2.mod m4 (fun g hg => by have := Own.blk (Own.ofBlk (lo := b6) (hi := b6 + 1) (sz := 1) h6 (Nat.le_refl _) (Nat.lt_succ_self _) (by simp) (by simp [maxLen])) g hg; omega); replace hoC0 := hoC0.mod m4 (fun g hg => by have := Own.blk (Own.ofBlk (lo := b6) (hi := b6 + 1) (sz := 1) h6 (Nat.le_refl _) (Nat.lt_succ_self _) (by simp) (by simp [maxLen])) g hg; omega); replace h3 := h3.mod m4 (fun g hg => by have := Own.blk (Own.ofBlk (lo := b6) (hi := b6 + 1) (sz := 1) h6 (Nat.le_refl _) (Nat.lt_succ_self _) (by simp) (by simp [maxLen])) g hg; omega); replace h5 := h5.mod m4 (fun g hg => by have := Own.blk (Own.ofBlk (lo := b6) (hi := b6 + 1) (sz := 1) h6 (Nat.le_refl _) (Nat.lt_succ_self _) (by simp) (by simp [maxLen])) g hg; omega)
    have z11 := m4.size
    refine J_st (R_fieldAddr0 fl90_3 rfl) rfl ?_
    refine J_store' (cs' := [.int .i64 ((x.nodes[k0]'hi1).kind), .int .i64 ((x.nodes[k0]'hi1).a), .int .i64 ((x.nodes[k0]'hi1).b), v1]) sc58 rfl rfl ho1.one h5 (Nat.le_of_ble_eq_true rfl) rfl (fun w12 m5 h5' => ?_)
    replace h5 := h5'
    replace E := E.step m5 (fun g hg => by cases hg; omega); replace h1 := h1.mod m5 (fun g hg => by cases hg; omega); replace h2 := h2.mod m5 (fun g hg => by cases hg; omega); replace hoC0 := hoC0.mod m5 (fun g hg => by cases hg; omega); replace h3 := h3.mod m5 (fun g hg => by cases hg; omega); replace ho1 := ho1.mod m5 (fun g hg => by cases hg; omega)
    have z12 := m5.size
    refine J_done ?_
    refine S_reg [true, true, true, false, false, true, false] rfl rfl ?_
    refine J_st (R_fieldAddr0 fl30_0 rfl) rfl (J_st (R_load sc28 rfl (h3.one 0 rfl)) rfl (J_st (R_loadS st90 rfl h5.at rfl) rfl ?_))
    refine J_buildSlice (vs := [.agg [.int .i64 ((x.nodes[k0]'hi1).kind), .int .i64 ((x.nodes[k0]'hi1).a), .int .i64 ((x.nodes[k0]'hi1).b), v1].toArray]) (css := [[.int .i64 ((x.nodes[k0]'hi1).kind), .int .i64 ((x.nodes[k0]'hi1).a), .int .i64 ((x.nodes[k0]'hi1).b), v1]]) sl28 rfl rfl ⟨⟨rfl, rfl⟩, trivial⟩ rfl rfl (fun b7 w13 e7 s7 h7 => ?_)
    replace h7 : Blk w13 b7 [.int .i64 ((x.nodes[k0]'hi1).kind), .int .i64 ((x.nodes[k0]'hi1).a), .int .i64 ((x.nodes[k0]'hi1).b), v1] := h7
    have g_b7 : w.heap.size ≤ b7 := by have := E.size; omega
    have y_b7 := h7.lt
    replace E := E.trans e7; replace h1 := h1.ext e7; replace h2 := h2.ext e7; replace hoC0 := hoC0.ext e7; replace h3 := h3.ext e7; replace h5 := h5.ext e7; replace ho1 := ho1.ext e7
    have z13 := e7.size
    refine J_appendS (lo := b4) (hi := w7.heap.size) (lo2 := b6) (hi2 := w13.heap.size) sl28 rfl rfl hoC0 (Src.ofBlk h7 rfl) (Node.mkO (⟨(x.nodes[k0]'hi1).kind, (x.nodes[k0]'hi1).a, (x.nodes[k0]'hi1).b, [] ++ ((x.nodes[k0]'hi1).outs)⟩ : Node) ⟨trivial, trivial⟩ (Own.widen ho1 (by omega) (by omega))) (by omega) (by simp only [List.length_take, show Dat.sz Node = 4 from rfl]; omega) (by decide) (by omega) (by omega) (by omega) (by omega) (by omega) rfl rfl (fun v2 w14 m6 ho2 => ?_)
    have hqb := OwS.inn hoC0
    replace E := E.step m6 (fun g hg => by have := hqb g hg; omega); replace h1 := h1.mod m6 (fun g hg => by have := hqb g hg; omega); replace h2 := h2.mod m6 (fun g hg => by have := hqb g hg; omega); replace h3 := h3.mod m6 (fun g hg => by have := hqb g hg; omega); replace h5 := h5.mod m6 (fun g hg => by have := hqb g hg; omega)
    have z14 := m6.size
    clear hqb
    refine J_st (R_fieldAddr0 fl30_0 rfl) rfl ?_
    refine J_store' (cs' := [v2, .int .i64 x.workers, .int .i64 x.cap]) sc28 rfl rfl (RdD.one (OwS.rd ho2)) h3 (Nat.le_of_ble_eq_true rfl) rfl (fun w15 m7 h3' => ?_)
    replace h3 := h3'
    replace E := E.step m7 (fun g hg => by cases hg; omega); replace h1 := h1.mod m7 (fun g hg => by cases hg; omega); replace h2 := h2.mod m7 (fun g hg => by cases hg; omega); replace h5 := h5.mod m7 (fun g hg => by cases hg; omega); replace ho2 := ho2.mod m7 (fun g hg => by cases hg; omega)
    have z15 := m7.size
    refine J_done ?_
    refine S_nil (E_inB ?_)
    refine S_reg [true, true, true] rfl rfl ?_
    refine J_st (R_move rfl) rfl (J_st (R_add rfl rfl (add_one hc1n (hd1.ext E).1.1)) rfl (J_st (R_assign rfl) rfl (J_done ?_)))
    refine S_nil (E_again (k0 + 1, v2) (by simp; omega) ⟨rfl, rfl, rfl, rfl, rfl, trivial⟩ ⟨E, (by omega), h1, h2, (by omega), (by rw [List.take_succ_eq_append_getElem (by assumption)]; exact OwS.widen ho2 (by omega) (by omega)), h3⟩)
  · have hc1n : ¬ k0 < x.nodes.length := by first | (have h := of_decide_eq_false hc1; omega) | (have h := hc1; simp at h; omega)
    refine S_exit (E_lp_exit (E_inB_exit ?_))
    refine S_seq ?_
    refine S_reg [true, false] rfl rfl ?_
    refine J_st (R_loadS st30 rfl h3.at rfl) rfl ?_
    refine J_storeS' (cs' := [vo0, .int .i64 x.workers, .int .i64 x.cap]) st30 rfl rfl rfl (all_cons (RdD.one (OwS.rd hoC0)) (all_cons rfl (all_cons rfl rfl))) h2 (Nat.le_of_ble_eq_true rfl) rfl (fun w16 m8 h2' => ?_)
    replace h2 := h2'
    replace E := E.step m8 (fun g hg => by cases hg; omega); replace h1 := h1.mod m8 (fun g hg => by cases hg; omega); replace hoC0 := hoC0.mod m8 (fun g hg => by cases hg; omega); replace h3 := h3.mod m8 (fun g hg => by cases hg; omega)
    have z16 := m8.size
    refine J_done ?_
    refine S_ret (E_doneC rfl rfl (run_loadVar_st st30 h2.at rfl) E ?_)
    rw [List.take_of_length_le (by omega)] at hoC0
    exact ⟨_, rfl, OwS.widen hoC0 (by have := E.size; omega) (by omega)⟩

set_option maxRecDepth 20000 in
theorem s_l14Own (cg : List Value) (g : Graph) (vxs : Value) (xs : List Record) (p : Int) (w : World) (hg : Dat.R w 0 w.heap.size cg g) (hxs : RdS w vxs xs) (hb : xs.length ≤ 1048576) (hn : rg g.workers) : Ct Try.prog 22 [.agg cg.toArray, vxs, .int .i64 p] w (fun v w' => Own w' w.heap.size w'.heap.size 5 v (List.flatMap (Enc.enc (α := Record)) (ownTo g.workers p xs 4))) := by
  refine ct_of Try.func22 rfl Try.ntmps22 rfl ?_
  obtain ⟨o1, rfl, hd1⟩ := Graph.op hg
  refine S_sub [(0, .agg [o1, .int .i64 g.workers, .int .i64 g.cap].toArray), (1, vxs), (2, .int .i64 p)] ⟨rfl, rfl, rfl, trivial⟩ ?_
  have E : Ext w w := Ext.refl w
  refine S_seq ?_
  refine S_reg [false, true] rfl rfl ?_
  refine J_box rfl rfl (fun b1 w1 e1 s1 h1 => ?_)
  have g_b1 : w.heap.size ≤ b1 := by have := E.size; omega
  have y_b1 := h1.lt
  replace E := E.trans e1
  have z1 := e1.size
  refine J_st (R_assign rfl) rfl (J_done ?_)
  refine S_seq ?_
  refine S_reg [false, true] rfl rfl ?_
  refine J_buildSlice (vs := []) (css := []) sl40 rfl rfl trivial rfl rfl (fun b2 w2 e2 s2 h2 => ?_)
  replace h2 : Blk w2 b2 [] := h2
  have g_b2 : w.heap.size ≤ b2 := by have := E.size; omega
  have y_b2 := h2.lt
  replace E := E.trans e2; replace h1 := h1.ext e2
  have z2 := e2.size
  refine J_st (R_assign rfl) rfl (J_done ?_)
  refine S_seq ?_
  refine S_seq ?_
  refine S_reg [true] rfl rfl ?_
  refine J_st (R_assign rfl) rfl (J_done ?_)
  refine S_block ?_
  refine S_loop (fun (xq : Nat × Value) => let ⟨e, vo⟩ := xq; [(1, vxs), (2, .int .i64 p), (3, .pointer (some ⟨b1, 0, none⟩)), (6, .slice none 0 0), (7, vo), (8, .int .i64 ((e : Nat) : Int))]) (fun (xq : Nat × Value) w' => let ⟨e, vo⟩ := xq; Ext w w' ∧ w2.heap.size ≤ w'.heap.size ∧ Blk w' b1 ([o1, .int .i64 g.workers, .int .i64 g.cap]) ∧ e ≤ 4 ∧ Own w' b2 w'.heap.size 5 vo (List.flatMap (Enc.enc (α := Record)) (ownTo g.workers p xs e))) (fun (xq : Nat × Value) => let ⟨e, vo⟩ := xq; 4 - e) (0, .slice (some ⟨b2, 0, none⟩) 0 0) ⟨rfl, rfl, rfl, rfl, rfl, rfl, trivial⟩ ⟨E, Nat.le_refl _, h1, Nat.zero_le _, Own.fin (Own.ofBlk (lo := b2) (hi := b2 + 1) (sz := 5) h2 (Nat.le_refl _) (Nat.lt_succ_self _) (by simp) (by simp [maxLen])) (by omega) (by omega) rfl⟩ ?_
  clear E h1 h2
  rintro ⟨e, vo⟩ w3 ⟨E, z3, h1, he, ho⟩
  refine S_sub [(1, vxs), (2, .int .i64 p), (3, .pointer (some ⟨b1, 0, none⟩)), (6, .slice none 0 0), (7, vo), (8, .int .i64 ((e : Nat) : Int))] ⟨rfl, rfl, rfl, rfl, rfl, rfl, trivial⟩ ?_
  have hol := @ownTo_len4 g.workers p xs e he
  refine S_seq ?_
  refine S_seq ?_
  refine S_reg [true, true] rfl rfl ?_
  refine J_st (R_move rfl) rfl (J_st (R_leq rfl rfl) rfl (J_done ?_))
  refine S_cond rfl (fun hc1 => ?_) (fun hc1 => ?_)
  · have hc1n : e ≤ 3 := by first | (have h := of_decide_eq_true hc1; omega) | (have h := hc1; simp at h; omega)
    refine S_skip ?_
    refine S_seq ?_
    refine S_block ?_
    refine S_seq ?_
    refine S_reg [true] rfl rfl ?_
    refine J_st (R_assign rfl) rfl (J_done ?_)
    refine S_block ?_
    refine S_loop (fun (xq : Nat × Value) => let ⟨i, vp⟩ := xq; [(1, vxs), (2, .int .i64 p), (3, .pointer (some ⟨b1, 0, none⟩)), (6, .slice none 0 0), (7, vp), (8, .int .i64 ((e : Nat) : Int)), (9, .int .i64 ((i : Nat) : Int))]) (fun (xq : Nat × Value) w' => let ⟨i, vp⟩ := xq; Ext w w' ∧ w3.heap.size ≤ w'.heap.size ∧ Blk w' b1 ([o1, .int .i64 g.workers, .int .i64 g.cap]) ∧ i ≤ xs.length ∧ Own w' b2 w'.heap.size 5 vp (List.flatMap (Enc.enc (α := Record)) (ownTo g.workers p xs e ++ (xs.take i).filter (bothP ((e : Nat) : Int) g.workers p)))) (fun (xq : Nat × Value) => let ⟨i, vp⟩ := xq; xs.length - i) (0, vo) ⟨rfl, rfl, rfl, rfl, rfl, rfl, rfl, trivial⟩ ⟨E, Nat.le_refl _, h1, Nat.zero_le _, Own.fin ho (by omega) (by omega) (by simp)⟩ ?_
    clear E h1 ho
    rintro ⟨i, vp⟩ w4 ⟨E, z4, h1, hi, hp⟩
    refine S_sub [(1, vxs), (2, .int .i64 p), (3, .pointer (some ⟨b1, 0, none⟩)), (6, .slice none 0 0), (7, vp), (8, .int .i64 ((e : Nat) : Int)), (9, .int .i64 ((i : Nat) : Int))] ⟨rfl, rfl, rfl, rfl, rfl, rfl, rfl, trivial⟩ ?_
    have hpl := @own_len _ xs (bothP ((e : Nat) : Int) g.workers p) i
    refine S_seq ?_
    refine S_seq ?_
    refine S_reg [true, true, true, true] rfl rfl ?_
    refine J_st (R_move rfl) rfl (J_st (R_move rfl) rfl (J_st (R_len Try.underlying40 rfl (hxs.ext E).len) rfl (J_st (R_lss rfl rfl) rfl (J_done ?_))))
    refine S_cond rfl (fun hc2 => ?_) (fun hc2 => ?_)
    · have hc2n : i < xs.length := by first | (have h := of_decide_eq_true hc2; omega) | (have h := hc2; simp at h; omega)
      refine S_skip ?_
      refine S_seq ?_
      refine S_block ?_
      refine S_seq ?_
      refine S_regD mixed [(0, true), (1, true), (2, true), (3, true), (4, true), (5, true), (6, true), (7, true), (8, true), (9, true), (10, true), (11, true), (12, true), (13, true), (14, true), (15, true), (17, true), (16, false), (18, true), (19, true)] (by decide +kernel) rfl (fun w5 e3 => ?_)
      replace E := E.trans e3; replace h1 := h1.ext e3; replace hp := hp.ext e3
      have z5 := e3.size
      refine J_st (R_move rfl) rfl (J_st (R_move rfl) rfl ?_)
      have hi1 : i < xs.length := (by first | assumption | omega | (simp only [List.length_set]; first | assumption | omega) | (simp only [List.getElem_set_self, List.length_set]; first | assumption | omega) | (simp only [setW, setLk, List.length_set]; first | assumption | omega))
      refine J_st (R_index (i := i) sl40 rfl rfl (hxs.ext E) hi1) rfl (J_st (R_fieldAddr fl55_1 rfl) rfl (J_st (R_fieldAddr fl53_0 rfl) rfl (J_st (R_load sc3 rfl (((hxs.ext E).get hi1).one 1 rfl)) rfl (J_st (R_move rfl) rfl (J_st (R_eql rfl rfl) rfl (J_st (R_move rfl) rfl ?_))))))
      refine J_cut 11 [(1, vxs), (2, .int .i64 p), (3, .pointer (some ⟨b1, 0, none⟩)), (6, .slice none 0 0), (7, vp), (8, .int .i64 ((e : Nat) : Int)), (9, .int .i64 ((i : Nat) : Int)), (15, .int .i64 ((i : Nat) : Int)), (16, vxs), (17, .int .i64 ((xs.length : Nat) : Int)), (18, .bool (decide (((i : Nat) : Int) < ((xs.length : Nat) : Int)))), (40, .bool (((((xs[i]'hi1).stamp).epoch) == ((e : Nat) : Int)) && ((ownerOf ((xs[i]'hi1).key) g.workers) == p)))] (fun w' => Ext w w' ∧ w5.heap.size ≤ w'.heap.size ∧ Blk w' b1 ([o1, .int .i64 g.workers, .int .i64 g.cap]) ∧ Own w' b2 w4.heap.size 5 vp (List.flatMap (Enc.enc (α := Record)) (ownTo g.workers p xs e ++ (xs.take i).filter (bothP ((e : Nat) : Int) g.workers p)))) ?_ ?_
      · refine J_if (gd := 29) rfl rfl (fun hg1 => ?_) (fun hg1 => ?_)
        · refine J_gd rfl rfl (R_move rfl) rfl (J_gd rfl rfl (R_move rfl) rfl (J_gd rfl rfl (R_index (i := i) sl40 rfl rfl (hxs.ext E) hi1) rfl (J_gd rfl rfl (R_fieldAddr fl55_2 rfl) rfl (J_gd rfl rfl (R_load sc3 rfl (((hxs.ext E).get hi1).one 3 rfl)) rfl (J_gd rfl rfl (R_fieldAddr0 fl30_1 rfl) rfl (J_gd rfl rfl (R_load sc3 rfl (h1.one 1 rfl)) rfl (J_gd rfl rfl (R_move rfl) rfl ?_)))))))
          refine J_ung rfl rfl ?_
          refine J_call Try.call53 rfl (s_OwnerOf ((xs[i]'hi1).key) g.workers _ hn) rfl (fun _ w7 e4 hv => ?_)
          subst hv
          replace E := E.trans e4; replace h1 := h1.ext e4; replace hp := hp.ext e4
          have z6 := e4.size
          refine J_gd rfl rfl (R_eql rfl rfl) rfl (J_st (R_pickT rfl rfl) rfl (J_cutEnd ⟨rfl, rfl, rfl, rfl, rfl, rfl, rfl, rfl, rfl, rfl, rfl, congrArg (fun b => some (Value.bool b)) (show ((ownerOf ((xs[i]'hi1).key) g.workers) == p) = (((((xs[i]'hi1).stamp).epoch) == ((e : Nat) : Int)) && ((ownerOf ((xs[i]'hi1).key) g.workers) == p)) by first | (rw [hg1] <;> rfl) | (simp [hg1]; done) | (simp only [nat_nlt] <;> simp)), trivial⟩ ⟨E, (by omega), h1, hp⟩))
        · refine J_gdno rfl rfl rfl rfl (J_gdno rfl rfl rfl rfl (J_gdno rfl rfl rfl rfl (J_gdno rfl rfl rfl rfl (J_gdno rfl rfl rfl rfl (J_gdno rfl rfl rfl rfl (J_gdno rfl rfl rfl rfl (J_gdno rfl rfl rfl rfl ?_)))))))
          refine J_ungno rfl rfl rfl rfl ?_
          refine J_gdno rfl rfl rfl rfl (J_st (R_pickF rfl rfl) rfl (J_cutEnd ⟨rfl, rfl, rfl, rfl, rfl, rfl, rfl, rfl, rfl, rfl, rfl, congrArg (fun b => some (Value.bool b)) (show false = (((((xs[i]'hi1).stamp).epoch) == ((e : Nat) : Int)) && ((ownerOf ((xs[i]'hi1).key) g.workers) == p)) by first | (rw [hg1] <;> rfl) | (simp [hg1]; done) | (simp only [nat_nlt] <;> simp)), trivial⟩ ⟨E, (by omega), h1, hp⟩))
      clear E h1 hp
      rintro w6 ⟨E, z7, h1, hp⟩
      refine J_done ?_
      refine S_cond rfl (fun hc3 => ?_) (fun hc3 => ?_)
      · refine S_reg [true, true, true, true, true, false, false, true] rfl rfl ?_
        refine J_st (R_move rfl) rfl (J_st (R_move rfl) rfl (J_st (R_move rfl) rfl (J_st (R_index (i := i) sl40 rfl rfl (hxs.ext E) hi1) rfl (J_st (R_loadS st55 rfl ((hxs.ext E).get hi1) rfl) rfl ?_))))
        refine J_buildSlice (vs := [.agg (Enc.enc (xs[i]'hi1)).toArray]) (css := [[.int .i64 ((xs[i]'hi1).op), .int .i64 (((xs[i]'hi1).stamp).epoch), .int .i64 (((xs[i]'hi1).stamp).turn), .int .i64 ((xs[i]'hi1).key), .int .i64 ((xs[i]'hi1).val)]]) sl40 rfl rfl ⟨⟨rfl, rfl⟩, trivial⟩ rfl rfl (fun b3 w8 e5 s3 h3 => ?_)
        replace h3 : Blk w8 b3 [.int .i64 ((xs[i]'hi1).op), .int .i64 (((xs[i]'hi1).stamp).epoch), .int .i64 (((xs[i]'hi1).stamp).turn), .int .i64 ((xs[i]'hi1).key), .int .i64 ((xs[i]'hi1).val)] := h3
        have g_b3 : w.heap.size ≤ b3 := by have := E.size; omega
        have y_b3 := h3.lt
        replace E := E.trans e5; replace h1 := h1.ext e5; replace hp := hp.ext e5
        have z8 := e5.size
        refine J_append sl40 rfl rfl hp (Src.ofBlk h3 rfl) rfl (by simp only [sum_flat, List.length_append, List.length_cons, List.length_nil]; simp only [Enc.sz]; omega) (by decide) (by omega) (by omega) rfl rfl (fun v1 w9 m1 ho1 => ?_)
        replace E := E.step m1 (fun g hg => by have := Own.blk hp g hg; omega); replace h1 := h1.mod m1 (fun g hg => by have := Own.blk hp g hg; omega)
        have z9 := m1.size
        refine J_st (R_assign rfl) rfl (J_done ?_)
        refine S_nil (E_inB ?_)
        refine S_reg [true, true, true] rfl rfl ?_
        refine J_st (R_move rfl) rfl (J_st (R_add rfl rfl (add_nat (by unfold maxLen; omega))) rfl (J_st (R_assign rfl) rfl (J_done ?_)))
        refine S_nil (E_again (i + 1, v1) (by simp; omega) ⟨rfl, rfl, rfl, rfl, rfl, rfl, rfl, trivial⟩ ⟨E, (by omega), h1, (by omega), Own.fin ho1 (by omega) (by omega) (own_yes (by assumption) (by simpa [bothP, mineP, ofE] using hc3))⟩)
      · refine S_skip ?_
        refine S_nil (E_inB ?_)
        refine S_reg [true, true, true] rfl rfl ?_
        refine J_st (R_move rfl) rfl (J_st (R_add rfl rfl (add_nat (by unfold maxLen; omega))) rfl (J_st (R_assign rfl) rfl (J_done ?_)))
        refine S_nil (E_again (i + 1, vp) (by simp; omega) ⟨rfl, rfl, rfl, rfl, rfl, rfl, rfl, trivial⟩ ⟨E, (by omega), h1, (by omega), Own.fin hp (by omega) (by omega) (own_no (by assumption) (by simpa [bothP, mineP, ofE] using hc3))⟩)
    · have hc2n : ¬ i < xs.length := by first | (have h := of_decide_eq_false hc2; omega) | (have h := hc2; simp at h; omega)
      refine S_exit (E_lp_exit (E_inB_exit ?_))
      refine S_nil (E_inB ?_)
      refine S_reg [true, true, true] rfl rfl ?_
      refine J_st (R_move rfl) rfl (J_st (R_add rfl rfl (add_nat (by unfold maxLen; omega))) rfl (J_st (R_assign rfl) rfl (J_done ?_)))
      refine S_nil (E_again (e + 1, vp) (by simp; omega) ⟨rfl, rfl, rfl, rfl, rfl, rfl, trivial⟩ ⟨E, (by omega), h1, (by omega), Own.fin hp (by omega) (by omega) (by rw [own_end (by omega)])⟩)
  · have hc1n : ¬ e ≤ 3 := by first | (have h := of_decide_eq_false hc1; omega) | (have h := hc1; simp at h; omega)
    refine S_exit (E_lp_exit (E_inB_exit ?_))
    refine S_seq ?_
    refine S_reg [true, true] rfl rfl ?_
    refine J_st (R_move rfl) rfl (J_st (R_assign rfl) rfl (J_done ?_))
    refine S_ret (E_done1 rfl rfl E ?_)
    exact Own.fin ho (by omega) (by omega) (by rw [show e = 4 from by omega])

set_option maxHeartbeats 4000000 in
set_option maxRecDepth 20000 in
theorem s_ClusterNew (cg : List Value) (g : Graph) (vxs : Value) (xs : List Record) (w : World) (hg : Dat.R w 0 w.heap.size cg g) (hxs : RdS w vxs xs) (hb : cntGraph g ≤ 1048576) : Ct Try.prog 6 [.agg cg.toArray, vxs] w (fun v w' => ∃ c0, v = .tuple [.agg c0.toArray, .bool ((clusterNew g xs).2)].toArray ∧ Dat.R w' w.heap.size w'.heap.size c0 ((clusterNew g xs).1)) := by
  refine ct_of Try.func6 rfl Try.ntmps6 rfl ?_
  obtain ⟨o1, rfl, hd1⟩ := Graph.op hg
  refine S_sub [(0, .agg [o1, .int .i64 g.workers, .int .i64 g.cap].toArray), (1, vxs)] ⟨rfl, rfl, trivial⟩ ?_
  have E : Ext w w := Ext.refl w
  refine S_seq ?_
  refine S_reg [false, false, true] rfl rfl ?_
  refine J_box rfl rfl (fun b1 w1 e1 s1 h1 => ?_)
  have g_b1 : w.heap.size ≤ b1 := by have := E.size; omega
  have y_b1 := h1.lt
  replace E := E.trans e1
  have z1 := e1.size
  refine J_alloc st36 rfl (fun b2 w2 e2 s2 h2 => ?_)
  have g_b2 : w.heap.size ≤ b2 := by have := E.size; omega
  have y_b2 := h2.lt
  replace E := E.trans e2; replace h1 := h1.ext e2
  have z2 := e2.size
  refine J_st (R_assign rfl) rfl (J_done ?_)
  refine S_seq ?_
  refine S_seq ?_
  refine S_reg [true, false, true, true, true, true, true, true] rfl rfl ?_
  refine J_st (R_loadS st30 rfl h1.at rfl) rfl ?_
  refine J_call Try.call18 rfl (s_GraphOk [o1, .int .i64 g.workers, .int .i64 g.cap] g _ (Graph.mkR g (RdD.any (hd1.ext E)))) rfl (fun _ w3 e3 hv => ?_)
  subst hv
  replace E := E.trans e3; replace h1 := h1.ext e3; replace h2 := h2.ext e3
  have z3 := e3.size
  refine J_st (R_not rfl) rfl (J_st (R_move rfl) rfl ?_)
  refine J_cut 4 [(0, .agg [o1, .int .i64 g.workers, .int .i64 g.cap].toArray), (1, vxs), (2, .pointer (some ⟨b1, 0, none⟩)), (4, .pointer (some ⟨b2, 0, none⟩)), (5, .bool false), (17, .bool ((!(graphOk g)) || (decide (20 < ((xs.length : Nat) : Int)))))] (fun w' => w3 = w') ?_ ?_
  · refine J_if (gd := 13) rfl rfl (fun hg1 => ?_) (fun hg1 => ?_)
    · refine J_gdno rfl rfl rfl rfl (J_gdno rfl rfl rfl rfl (J_gdno rfl rfl rfl rfl (J_st (R_pickT rfl rfl) rfl (J_cutEnd ⟨rfl, rfl, rfl, rfl, rfl, congrArg (fun b => some (Value.bool b)) (show true = ((!(graphOk g)) || (decide (20 < ((xs.length : Nat) : Int)))) by first | (rw [hg1] <;> rfl) | (simp [hg1]; done) | (simp only [nat_nlt] <;> simp)), trivial⟩ rfl))))
    · refine J_gd rfl rfl (R_move rfl) rfl (J_gd rfl rfl (R_len Try.underlying40 rfl (hxs.ext E).len) rfl (J_gd rfl rfl (R_gtr rfl rfl) rfl (J_st (R_pickF rfl rfl) rfl (J_cutEnd ⟨rfl, rfl, rfl, rfl, rfl, congrArg (fun b => some (Value.bool b)) (show (decide (20 < ((xs.length : Nat) : Int))) = ((!(graphOk g)) || (decide (20 < ((xs.length : Nat) : Int)))) by first | (rw [hg1] <;> rfl) | (simp [hg1]; done) | (simp only [nat_nlt] <;> simp)), trivial⟩ rfl))))
  rintro _ rfl
  refine J_done ?_
  refine S_cond rfl (fun hc1 => ?_) (fun hc1 => ?_)
  · refine S_seq ?_
    refine S_reg [true, false, true] rfl rfl ?_
    have hbl1 : ∀ w, (Instr.build 36 ([]).toArray).run Try.prog w = .ok (.agg [.slice none 0 0, .int .i64 0, .int .i64 0, .slice none 0 0, .slice none 0 0, .slice none 0 0, .slice none 0 0].toArray) w := by clear E; intro w; kernel_rfl
    refine J_st (R_buildC [.slice none 0 0, .int .i64 0, .int .i64 0, .slice none 0 0, .slice none 0 0, .slice none 0 0, .slice none 0 0] rfl hbl1) rfl ?_
    refine J_storeS' (cs' := [.slice none 0 0, .int .i64 0, .int .i64 0, .slice none 0 0, .slice none 0 0, .slice none 0 0, .slice none 0 0]) st36 rfl rfl rfl rfl h2 (Nat.le_of_ble_eq_true rfl) rfl (fun w5 m1 h2' => ?_)
    replace h2 := h2'
    replace E := E.step m1 (fun g hg => by cases hg; omega); replace h1 := h1.mod m1 (fun g hg => by cases hg; omega)
    have z4 := m1.size
    refine J_st (R_assign rfl) rfl (J_done ?_)
    refine S_ret (E_doneN (l := [.cell 4 36, .tmp 5]) (vs := [.agg [.slice none 0 0, .int .i64 0, .int .i64 0, .slice none 0 0, .slice none 0 0, .slice none 0 0, .slice none 0 0].toArray, .bool false]) rfl ⟨.cell rfl (run_loadVar_st st36 h2.at rfl), .tmp rfl, trivial⟩ rfl E ?_)
    rw [cn_bad1 hc1]
    exact ⟨_, rfl, (Cluster.mkR (⟨(⟨[], 0, 0⟩ : Graph), [], [], [], []⟩ : Cluster) (RdD.nil _ _ _) (RdD.nil _ _ _) (RdD.nil _ _ _) (RdD.nil _ _ _) (RdD.nil _ _ _))⟩
  · have hgw := cn_gw hc1
    refine S_skip ?_
    refine S_seq ?_
    refine S_seq ?_
    refine S_reg [true] rfl rfl ?_
    refine J_st (R_assign rfl) rfl (J_done ?_)
    refine S_block ?_
    refine S_loop (fun (k : Nat) => [(1, vxs), (2, .pointer (some ⟨b1, 0, none⟩)), (4, .pointer (some ⟨b2, 0, none⟩)), (5, .bool false), (6, .int .i64 ((k : Nat) : Int))]) (fun (k : Nat) w' => Ext w w' ∧ w3.heap.size ≤ w'.heap.size ∧ Blk w' b1 ([o1, .int .i64 g.workers, .int .i64 g.cap]) ∧ Blk w' b2 [.slice none 0 0, .int .i64 0, .int .i64 0, .slice none 0 0, .slice none 0 0, .slice none 0 0, .slice none 0 0] ∧ k ≤ xs.length ∧ (xs.take k).any recBad = false) (fun (k : Nat) => xs.length - k) 0 ⟨rfl, rfl, rfl, rfl, rfl, trivial⟩ ⟨E, Nat.le_refl _, h1, h2, Nat.zero_le _, rfl⟩ ?_
    clear E h1 h2
    rintro k w6 ⟨E, z5, h1, h2, hk, hI⟩
    refine S_seq ?_
    refine S_seq ?_
    refine S_reg [true, true, true, true] rfl rfl ?_
    refine J_st (R_move rfl) rfl (J_st (R_move rfl) rfl (J_st (R_len Try.underlying40 rfl (hxs.ext E).len) rfl (J_st (R_lss rfl rfl) rfl (J_done ?_))))
    refine S_cond rfl (fun hc2 => ?_) (fun hc2 => ?_)
    · have hc2n : k < xs.length := by first | (have h := of_decide_eq_true hc2; omega) | (have h := hc2; simp at h; omega)
      refine S_skip ?_
      refine S_seq ?_
      refine S_block ?_
      refine S_seq ?_
      refine S_reg [true, true, true, true, false, true, true, true, true, true, true, true, true, true, true, true, true, true, true, true, true, true, true] rfl rfl ?_
      refine J_st (R_move rfl) rfl (J_st (R_move rfl) rfl ?_)
      have hi1 : k < xs.length := (by first | assumption | omega | (simp only [List.length_set]; first | assumption | omega) | (simp only [List.getElem_set_self, List.length_set]; first | assumption | omega) | (simp only [setW, setLk, List.length_set]; first | assumption | omega))
      refine J_st (R_index (i := k) sl40 rfl rfl (hxs.ext E) hi1) rfl (J_st (R_loadS st55 rfl ((hxs.ext E).get hi1) rfl) rfl ?_)
      refine J_call Try.call19 rfl (s_RecordOk (xs[k]'hi1) _ ) rfl (fun _ w7 e4 hv => ?_)
      subst hv
      replace E := E.trans e4; replace h1 := h1.ext e4; replace h2 := h2.ext e4
      have z6 := e4.size
      refine J_st (R_not rfl) rfl (J_st (R_move rfl) rfl ?_)
      refine J_cut 16 [(1, vxs), (2, .pointer (some ⟨b1, 0, none⟩)), (4, .pointer (some ⟨b2, 0, none⟩)), (5, .bool false), (6, .int .i64 ((k : Nat) : Int)), (19, .int .i64 ((k : Nat) : Int)), (20, vxs), (21, .int .i64 ((xs.length : Nat) : Int)), (22, .bool (decide (((k : Nat) : Int) < ((xs.length : Nat) : Int)))), (47, .bool (((!(recordOk (xs[k]'hi1))) || (((xs[k]'hi1).op) != 0)) || ((((xs[k]'hi1).stamp).turn) != 0)))] (fun w' => w7 = w') ?_ ?_
      · refine J_if (gd := 31) rfl rfl (fun hg2 => ?_) (fun hg2 => ?_)
        · refine J_gdno rfl rfl rfl rfl (J_gdno rfl rfl rfl rfl (J_gdno rfl rfl rfl rfl (J_gdno rfl rfl rfl rfl (J_gdno rfl rfl rfl rfl (J_gdno rfl rfl rfl rfl (J_st (R_pickT rfl rfl) rfl (J_st (R_move rfl) rfl (J_gdno rfl rfl rfl rfl (J_gdno rfl rfl rfl rfl (J_gdno rfl rfl rfl rfl (J_gdno rfl rfl rfl rfl (J_gdno rfl rfl rfl rfl (J_gdno rfl rfl rfl rfl (J_gdno rfl rfl rfl rfl (J_st (R_pickT rfl rfl) rfl (J_cutEnd ⟨rfl, rfl, rfl, rfl, rfl, rfl, rfl, rfl, rfl, congrArg (fun b => some (Value.bool b)) (show true = (((!(recordOk (xs[k]'hi1))) || (((xs[k]'hi1).op) != 0)) || ((((xs[k]'hi1).stamp).turn) != 0)) by first | (rw [hg2] <;> rfl) | (simp [hg2]; done) | (simp only [nat_nlt] <;> simp)), trivial⟩ rfl))))))))))))))))
        · refine J_gd rfl rfl (R_move rfl) rfl (J_gd rfl rfl (R_move rfl) rfl (J_gd rfl rfl (R_index (i := k) sl40 rfl rfl (hxs.ext E) hi1) rfl (J_gd rfl rfl (R_fieldAddr fl55_0 rfl) rfl (J_gd rfl rfl (R_load sc3 rfl (((hxs.ext E).get hi1).one 0 rfl)) rfl (J_gd rfl rfl (R_neq rfl rfl) rfl (J_st (R_pickF rfl rfl) rfl (J_st (R_move rfl) rfl ?_)))))))
          refine J_if (gd := 39) rfl rfl (fun hg3 => ?_) (fun hg3 => ?_)
          · refine J_gdno rfl rfl rfl rfl (J_gdno rfl rfl rfl rfl (J_gdno rfl rfl rfl rfl (J_gdno rfl rfl rfl rfl (J_gdno rfl rfl rfl rfl (J_gdno rfl rfl rfl rfl (J_gdno rfl rfl rfl rfl (J_st (R_pickT rfl rfl) rfl (J_cutEnd ⟨rfl, rfl, rfl, rfl, rfl, rfl, rfl, rfl, rfl, congrArg (fun b => some (Value.bool b)) (show true = (((!(recordOk (xs[k]'hi1))) || (((xs[k]'hi1).op) != 0)) || ((((xs[k]'hi1).stamp).turn) != 0)) by first | (rw [hg2, hg3] <;> rfl) | (simp [hg2, hg3]; done) | (simp only [nat_nlt] <;> simp)), trivial⟩ rfl))))))))
          · refine J_gd rfl rfl (R_move rfl) rfl (J_gd rfl rfl (R_move rfl) rfl (J_gd rfl rfl (R_index (i := k) sl40 rfl rfl (hxs.ext E) hi1) rfl (J_gd rfl rfl (R_fieldAddr fl55_1 rfl) rfl (J_gd rfl rfl (R_fieldAddr fl53_1 rfl) rfl (J_gd rfl rfl (R_load sc3 rfl (((hxs.ext E).get hi1).one 2 rfl)) rfl (J_gd rfl rfl (R_neq rfl rfl) rfl (J_st (R_pickF rfl rfl) rfl (J_cutEnd ⟨rfl, rfl, rfl, rfl, rfl, rfl, rfl, rfl, rfl, congrArg (fun b => some (Value.bool b)) (show ((((xs[k]'hi1).stamp).turn) != 0) = (((!(recordOk (xs[k]'hi1))) || (((xs[k]'hi1).op) != 0)) || ((((xs[k]'hi1).stamp).turn) != 0)) by first | (rw [hg2, hg3] <;> rfl) | (simp [hg2, hg3]; done) | (simp only [nat_nlt] <;> simp)), trivial⟩ rfl))))))))
      rintro _ rfl
      refine J_done ?_
      refine S_cond rfl (fun hc3 => ?_) (fun hc3 => ?_)
      · refine S_seq ?_
        refine S_reg [true, false, true] rfl rfl ?_
        have hbl2 : ∀ w, (Instr.build 36 ([]).toArray).run Try.prog w = .ok (.agg [.slice none 0 0, .int .i64 0, .int .i64 0, .slice none 0 0, .slice none 0 0, .slice none 0 0, .slice none 0 0].toArray) w := by clear E; intro w; kernel_rfl
        refine J_st (R_buildC [.slice none 0 0, .int .i64 0, .int .i64 0, .slice none 0 0, .slice none 0 0, .slice none 0 0, .slice none 0 0] rfl hbl2) rfl ?_
        refine J_storeS' (cs' := [.slice none 0 0, .int .i64 0, .int .i64 0, .slice none 0 0, .slice none 0 0, .slice none 0 0, .slice none 0 0]) st36 rfl rfl rfl rfl h2 (Nat.le_of_ble_eq_true rfl) rfl (fun w9 m2 h2' => ?_)
        replace h2 := h2'
        replace E := E.step m2 (fun g hg => by cases hg; omega); replace h1 := h1.mod m2 (fun g hg => by cases hg; omega)
        have z7 := m2.size
        refine J_st (R_assign rfl) rfl (J_done ?_)
        refine S_ret (E_inB_ret (E_lp_ret (E_inB_ret (E_doneN (l := [.cell 4 36, .tmp 5]) (vs := [.agg [.slice none 0 0, .int .i64 0, .int .i64 0, .slice none 0 0, .slice none 0 0, .slice none 0 0, .slice none 0 0].toArray, .bool false]) rfl ⟨.cell rfl (run_loadVar_st st36 h2.at rfl), .tmp rfl, trivial⟩ rfl E ?_))))
        rw [cn_bad2 hc1 hc2n hc3]
        exact ⟨_, rfl, (Cluster.mkR (⟨(⟨[], 0, 0⟩ : Graph), [], [], [], []⟩ : Cluster) (RdD.nil _ _ _) (RdD.nil _ _ _) (RdD.nil _ _ _) (RdD.nil _ _ _) (RdD.nil _ _ _))⟩
      · refine S_skip ?_
        refine S_nil (E_inB ?_)
        refine S_reg [true, true, true] rfl rfl ?_
        refine J_st (R_move rfl) rfl (J_st (R_add rfl rfl (add_nat (by unfold maxLen; omega))) rfl (J_st (R_assign rfl) rfl (J_done ?_)))
        refine S_nil (E_again (k + 1) (by omega) ⟨rfl, rfl, rfl, rfl, rfl, trivial⟩ ⟨E, (by omega), h1, h2, (by omega), any_step hI (by assumption) hc3⟩)
    · have hc2n : ¬ k < xs.length := by first | (have h := of_decide_eq_false hc2; omega) | (have h := hc2; simp at h; omega)
      refine S_exit (E_lp_exit (E_inB_exit ?_))
      refine S_seq ?_
      refine S_regQ mixed [(0, true)] [⟨1, 50, 0, [], false, none, some (fun w0 w v f => ∃ o, v = .agg [o, .int .i64 g.workers, .int .i64 g.cap].toArray ∧ OwF w w0.heap.size w.heap.size o g.nodes f)⟩, ⟨2, 51, 5, [.bool false, .int .i64 0, .int .i64 0, .bool false, .bool false, .bool false, .int .i64 0, .int .i64 0, .bool false, .bool false, .bool false, .int .i64 0, .int .i64 0, .bool false, .bool false, .bool false, .int .i64 0, .int .i64 0, .bool false, .bool false], false, none, none⟩] ⟨4, 7, 0, [], false, none, some (fun _ w v f => ∃ b, v = .pointer (some ⟨b, 0, none⟩) ∧ Blk w b [.slice none 0 0, .int .i64 0, .int .i64 0, .slice none 0 0, .slice none 0 0, .slice none 0 0, .slice none 0 0] ∧ f = [b])⟩ [(3, true), (5, false)] [(3, true), (4, false), (5, false)] (by kernel_rfl) (by kernel_rfl) rfl rfl rfl [(1, vxs), (2, .pointer (some ⟨b1, 0, none⟩)), (4, .pointer (some ⟨b2, 0, none⟩)), (5, .bool false), (6, .int .i64 ((k : Nat) : Int)), (19, .int .i64 ((k : Nat) : Int)), (20, vxs), (21, .int .i64 ((xs.length : Nat) : Int)), (22, .bool (decide (((k : Nat) : Int) < ((xs.length : Nat) : Int)))), (49, .agg [o1, .int .i64 g.workers, .int .i64 g.cap].toArray)] (fun w' => Ext w w' ∧ w6.heap.size ≤ w'.heap.size ∧ Blk w' b1 ([o1, .int .i64 g.workers, .int .i64 g.cap]) ∧ Blk w' b2 [.slice none 0 0, .int .i64 0, .int .i64 0, .slice none 0 0, .slice none 0 0, .slice none 0 0, .slice none 0 0]) (fun w10 e5 => ?_) (fun w10 hphi_w10 => ?_)
      · replace E := E.trans e5; replace h1 := h1.ext e5; replace h2 := h2.ext e5
        have z8 := e5.size
        refine J_st (R_loadS st30 rfl h1.at rfl) rfl (J_cutEnd ⟨rfl, rfl, rfl, rfl, rfl, rfl, rfl, rfl, rfl, rfl, trivial⟩ ⟨E, (by omega), h1, h2⟩)
      clear E h1 h2
      obtain ⟨E, z9, h1, h2⟩ := hphi_w10
      refine ⟨⟨⟨_, rfl, rfl, rfl, rfl, ?_⟩, ⟨_, rfl, rfl, rfl, rfl, ?_⟩, ⟨_, rfl, rfl, rfl, rfl, ?_⟩, trivial⟩, ?_, ?_⟩
      · exact step_callX Try.call20 rfl (fun wX eX => by have E := E.trans eX; exact Ct.mono (s_l08Copy [o1, .int .i64 g.workers, .int .i64 g.cap] g _ (Graph.mkR g (RdD.any (hd1.ext E))) hb) fun v w' e h => by obtain ⟨o, rfl, h⟩ := h; obtain ⟨f, h⟩ := OwS.owf h; exact ⟨f, ⟨o, rfl, h.widen eX.size (Nat.le_refl _)⟩, h.in2⟩)
      · exact step_make (m := 4) sl33 rfl rfl (by decide) (by decide) rfl rfl
      · exact step_box st36
      · intro w11 e6
        intro v1 f1 ho1 v2 f2 ho2 v3 f3 ho3 sp1
        obtain ⟨_, _, eX, ⟨v1, rfl, ho1⟩, _⟩ := ho1; replace ho1 := OwF.widen (OwF.ext ho1 eX) (Nat.le_refl _) eX.size
        obtain ⟨ho2, rfl⟩ := ho2
        obtain ⟨_, _, eX, ⟨v3, rfl, ho3, rfl⟩, f3b⟩ := ho3; replace ho3 := Blk.ext ho3 eX; replace f3b := And.intro (f3b v3 (by simp)).1 ho3.lt; clear eX
        replace sp1 : DjL [f1, (blks v2), [v3]] := sp1
        have g_sp1 : w.heap.size ≤ w10.heap.size := E.size
        replace E := E.trans e6; replace h1 := h1.ext e6; replace h2 := h2.ext e6
        have z10 := e6.size
        replace ho2 : Own w11 w10.heap.size w11.heap.size 5 v2 (List.flatMap (Enc.enc (α := Token)) [(⟨false, 0, 0, false, false⟩ : Token), (⟨false, 0, 0, false, false⟩ : Token), (⟨false, 0, 0, false, false⟩ : Token), (⟨false, 0, 0, false, false⟩ : Token)]) := ho2
        have g_v3 : w.heap.size ≤ v3 := by have := E.size; omega
        have y_v3 := ho3.lt
        refine J_sub [(1, vxs), (2, .pointer (some ⟨b1, 0, none⟩)), (4, .pointer (some ⟨b2, 0, none⟩)), (5, .bool false), (6, .int .i64 ((k : Nat) : Int)), (7, .pointer (some ⟨v3, 0, none⟩)), (19, .int .i64 ((k : Nat) : Int)), (20, vxs), (21, .int .i64 ((xs.length : Nat) : Int)), (22, .bool (decide (((k : Nat) : Int) < ((xs.length : Nat) : Int)))), (49, .agg [o1, .int .i64 g.workers, .int .i64 g.cap].toArray), (50, .agg [v1, .int .i64 g.workers, .int .i64 g.cap].toArray), (51, v2)] ⟨rfl, rfl, rfl, rfl, rfl, rfl, rfl, rfl, rfl, rfl, rfl, rfl, rfl, trivial⟩ ?_
        have hbl3 : ∀ w, (Instr.build 36 ([(0, .agg [v1, .int .i64 g.workers, .int .i64 g.cap].toArray), (3, v2)]).toArray).run Try.prog w = .ok (.agg [v1, .int .i64 g.workers, .int .i64 g.cap, .slice none 0 0, .slice none 0 0, v2, .slice none 0 0].toArray) w := by clear E; obtain ⟨_, _, _, rfl⟩ := SlLen.shape (RdD.len (OwF.rd ho1)); obtain ⟨_, _, _, rfl⟩ := Own.shape ho2; intro w; kernel_rfl
        refine J_st (R_buildC [v1, .int .i64 g.workers, .int .i64 g.cap, .slice none 0 0, .slice none 0 0, v2, .slice none 0 0] rfl hbl3) rfl ?_
        refine J_storeS' (cs' := [v1, .int .i64 g.workers, .int .i64 g.cap, .slice none 0 0, .slice none 0 0, v2, .slice none 0 0]) st36 rfl rfl rfl (all_cons (RdD.one (OwF.rd ho1)) (all_cons rfl (all_cons rfl (all_cons rfl (all_cons rfl (all_cons ho2.one (all_cons rfl rfl))))))) ho3 (Nat.le_of_ble_eq_true rfl) rfl (fun w12 m3 ho3' => ?_)
        replace ho3 := ho3'
        have kq1 := Mod.kq (l := [v3]) m3 (fun g hg => by cases hg; simp)
        replace E := E.step m3 (fun g hg => by cases hg; omega); replace h1 := h1.mod m3 (fun g hg => by cases hg; omega); replace h2 := h2.mod m3 (fun g hg => by cases hg; omega); replace ho1 := OwF.kp ho1 (Kq.kp kq1 sp1.1.2.1); replace ho2 := Own.kp ho2 (Kq.kp kq1 sp1.2.1.1)
        have z11 := m3.size
        refine J_done ?_
        refine S_seq ?_
        refine S_seq ?_
        refine S_reg [true] rfl rfl ?_
        refine J_st (R_assign rfl) rfl (J_done ?_)
        refine S_block ?_
        refine S_loop (fun (xq : Nat × Value × Value × List Nat × List Nat) => let ⟨k, vW, vL, fW, fL⟩ := xq; [(1, vxs), (2, .pointer (some ⟨b1, 0, none⟩)), (4, .pointer (some ⟨b2, 0, none⟩)), (5, .bool false), (7, .pointer (some ⟨v3, 0, none⟩)), (8, .int .i64 ((k : Nat) : Int))]) (fun (xq : Nat × Value × Value × List Nat × List Nat) w' => let ⟨k, vW, vL, fW, fL⟩ := xq; Ext w w' ∧ w12.heap.size ≤ w'.heap.size ∧ Blk w' b1 ([o1, .int .i64 g.workers, .int .i64 g.cap]) ∧ Blk w' b2 [.slice none 0 0, .int .i64 0, .int .i64 0, .slice none 0 0, .slice none 0 0, .slice none 0 0, .slice none 0 0] ∧ OwF w' w10.heap.size w11.heap.size v1 g.nodes f1 ∧ Own w' w10.heap.size w11.heap.size 5 v2 (List.flatMap (Enc.enc (α := Token)) [(⟨false, 0, 0, false, false⟩ : Token), (⟨false, 0, 0, false, false⟩ : Token), (⟨false, 0, 0, false, false⟩ : Token), (⟨false, 0, 0, false, false⟩ : Token)]) ∧ k ≤ Int.toNat g.workers ∧ OwF w' w12.heap.size w'.heap.size vW (newWs g xs k) fW ∧ OwF w' w12.heap.size w'.heap.size vL (List.replicate (k * Int.toNat g.workers) (linkNew g.cap)) fL ∧ DjL [fW, fL] ∧ Blk w' v3 [v1, .int .i64 g.workers, .int .i64 g.cap, vW, vL, v2, .slice none 0 0]) (fun (xq : Nat × Value × Value × List Nat × List Nat) => let ⟨k, vW, vL, fW, fL⟩ := xq; Int.toNat g.workers - k) (0, .slice none 0 0, .slice none 0 0, [], []) ⟨rfl, rfl, rfl, rfl, rfl, rfl, trivial⟩ ⟨E, Nat.le_refl _, h1, h2, ho1, ho2, Nat.zero_le _, OwF.nil _ _ _, (by rw [Nat.zero_mul]; exact OwF.nil _ _ _), ⟨⟨(fun _ h => absurd h List.not_mem_nil), trivial⟩, trivial, trivial⟩, ho3⟩ ?_
        clear E h1 h2 ho1 ho2 ho3
        rintro ⟨k, vW, vL, fW, fL⟩ w13 ⟨E, z12, h1, h2, ho1, ho2, hk, oW, oL, gW, ho3⟩
        refine S_sub [(1, vxs), (2, .pointer (some ⟨b1, 0, none⟩)), (4, .pointer (some ⟨b2, 0, none⟩)), (5, .bool false), (7, .pointer (some ⟨v3, 0, none⟩)), (8, .int .i64 ((k : Nat) : Int))] ⟨rfl, rfl, rfl, rfl, rfl, rfl, trivial⟩ ?_
        have hkn : k * Int.toNat g.workers ≤ 16 := Nat.le_trans (Nat.mul_le_mul (show k ≤ 4 by omega) (show Int.toNat g.workers ≤ 4 by omega)) (by decide)
        refine S_seq ?_
        refine S_seq ?_
        refine S_reg [true, true, true, true] rfl rfl ?_
        refine J_st (R_move rfl) rfl (J_st (R_fieldAddr0 fl30_1 rfl) rfl (J_st (R_load sc3 rfl (h1.one 1 rfl)) rfl (J_st (R_lss rfl rfl) rfl (J_done ?_))))
        refine S_cond rfl (fun hc4 => ?_) (fun hc4 => ?_)
        · have hlthc4 : k < Int.toNat g.workers := by have h := of_decide_eq_true hc4; omega
          refine S_skip ?_
          refine S_seq ?_
          refine S_block ?_
          refine S_seq ?_
          refine S_regX mixed [8] [(0, true), (1, true), (2, true), (3, true), (4, true), (5, false), (6, false), (7, false)] [(8, false), (9, true), (10, false)] (by decide +kernel) rfl rfl (fun w14 e7 => ?_)
          replace E := E.trans e7; replace h1 := h1.ext e7; replace h2 := h2.ext e7; replace ho1 := ho1.ext e7; replace ho2 := ho2.ext e7; replace oW := oW.ext e7; replace oL := oL.ext e7; replace ho3 := ho3.ext e7
          have z13 := e7.size
          refine J_st (R_fieldAddr0 fl36_1 rfl) rfl (J_st (R_load sc31 rfl (ho3.one 3 rfl)) rfl (J_st (R_loadS st30 rfl h1.at rfl) rfl (J_st (R_move rfl) rfl (J_st (R_move rfl) rfl ?_))))
          refine J_call Try.call22 rfl (s_l14Own [o1, .int .i64 g.workers, .int .i64 g.cap] g vxs xs ((k : Nat) : Int) _ (Graph.mkR g (RdD.any (hd1.ext E))) (hxs.ext E) (by omega) (rg4 hgw)) rfl (fun v4 w15 e8 ho4 => ?_)
          have g_ho4 : w.heap.size ≤ w14.heap.size := E.size
          replace E := E.trans e8; replace h1 := h1.ext e8; replace h2 := h2.ext e8; replace ho1 := ho1.ext e8; replace ho2 := ho2.ext e8; replace oW := oW.ext e8; replace oL := oL.ext e8; replace ho3 := ho3.ext e8
          have z14 := e8.size
          refine J_call Try.call21 rfl (s_WorkerNew v4 (ownTo g.workers ((k : Nat) : Int) xs 4) _ (Own.rd (by decide) ho4) (by have := @ownTo_len4 g.workers ((k : Nat) : Int) xs 4 (by omega); omega)) rfl (fun _ w16 e9 ho5 => ?_)
          obtain ⟨_, rfl, ho5⟩ := ho5
          have g_ho5 : w.heap.size ≤ w15.heap.size := E.size
          replace E := E.trans e9; replace h1 := h1.ext e9; replace h2 := h2.ext e9; replace ho1 := ho1.ext e9; replace ho2 := ho2.ext e9; replace oW := oW.ext e9; replace oL := oL.ext e9; replace ho3 := ho3.ext e9; replace ho4 := ho4.ext e9
          have z15 := e9.size
          obtain ⟨o2, o3, o4, o5, o6, o7, o8, o9, rfl, sp2, hw1, hw2, hw3, hw4, hw5, hw6, hw7, hw8⟩ := Worker.opO ho5
          refine J_buildSlice (vs := [.agg [o2, o3, o4, o5, o6, o7, o8, o9].toArray]) (css := [[o2, o3, o4, o5, o6, o7, o8, o9]]) sl31 rfl rfl ⟨⟨rfl, rfl⟩, trivial⟩ rfl rfl (fun b3 w17 e10 s3 h3 => ?_)
          replace h3 : Blk w17 b3 [o2, o3, o4, o5, o6, o7, o8, o9] := h3
          have g_b3 : w.heap.size ≤ b3 := by have := E.size; omega
          have y_b3 := h3.lt
          replace E := E.trans e10; replace h1 := h1.ext e10; replace h2 := h2.ext e10; replace ho1 := ho1.ext e10; replace ho2 := ho2.ext e10; replace oW := oW.ext e10; replace oL := oL.ext e10; replace ho3 := ho3.ext e10; replace ho4 := ho4.ext e10; replace hw1 := hw1.ext e10; replace hw2 := hw2.ext e10; replace hw3 := hw3.ext e10; replace hw4 := hw4.ext e10; replace hw5 := hw5.ext e10; replace hw6 := hw6.ext e10; replace hw7 := hw7.ext e10; replace hw8 := hw8.ext e10
          have z16 := e10.size
          refine JX_tail ?_
          refine J2_X rfl ?_
          have hy1 : Own1.O (α := Worker) w17 w15.heap.size w17.heap.size [o2, o3, o4, o5, o6, o7, o8, o9] (workerNew (ownTo g.workers ((k : Nat) : Int) xs 4)) := Worker.mkO (workerNew (ownTo g.workers ((k : Nat) : Int) xs 4)) sp2 (Own.widen hw1 (by omega) (by omega)) (Own.widen hw2 (by omega) (by omega)) (Own.widen hw3 (by omega) (by omega)) (Own.widen hw4 (by omega) (by omega)) (Own.widen hw5 (by omega) (by omega)) (Own.widen hw6 (by omega) (by omega)) (Own.widen hw7 (by omega) (by omega)) (Own.widen hw8 (by omega) (by omega))
          refine J_appendF (lo := w12.heap.size) (hi := w13.heap.size) (lo2 := w15.heap.size) (hi2 := w17.heap.size) sl31 rfl rfl oW (Src.ofBlk h3 rfl) hy1 (fun b hb hc => by have := OwF.in2 oW b hb; have := Own1.inn hy1 b hc; omega) (by simp only [newWs_len, List.length_replicate, show Dat.sz Worker = 8 from rfl, show Dat.sz Link = 6 from rfl]; omega) (by decide) (by omega) (by omega) (by omega) (by omega) (by omega) rfl rfl (fun v5 w18 f4 m4 ho6 hin1 => ?_)
          have hqb := OwS.inn (OwF.ows oW)
          have kq2 := Mod.kq (l := fW) m4 (OwF.v_mem oW)
          replace E := E.step m4 (fun g hg => by have := hqb g hg; omega); replace h1 := h1.mod m4 (fun g hg => by have := hqb g hg; omega); replace h2 := h2.mod m4 (fun g hg => by have := hqb g hg; omega); replace ho1 := ho1.mod m4 (fun g hg => by have := hqb g hg; omega); replace ho2 := ho2.mod m4 (fun g hg => by have := hqb g hg; omega); replace oL := OwF.kp oL (Kq.kp kq2 (gW.1.1).symm); replace ho3 := ho3.mod m4 (fun g hg => by have := hqb g hg; omega); replace ho4 := ho4.mod m4 (fun g hg => by have := hqb g hg; omega)
          have z17 := m4.size
          replace gW := DjL.set (N := w15.heap.size) hin1 0 rfl gW ⟨(fun b hb => by have := OwF.in2 oW b hb; omega), (fun b hb => by have := OwF.in2 oL b hb; omega), trivial⟩
          replace gW : DjL [f4, fL] := gW
          clear hqb hy1 kq2 oW
          refine JX_go ?_
          refine J_st (R_fieldAddr0 fl36_1 rfl) rfl ?_
          refine J_store' (cs' := [v1, .int .i64 g.workers, .int .i64 g.cap, v5, vL, v2, .slice none 0 0]) sc31 rfl rfl (RdD.one (OwF.rd ho6)) ho3 (Nat.le_of_ble_eq_true rfl) rfl (fun w19 m5 ho3' => ?_)
          replace ho3 := ho3'
          have kq3 := Mod.kq (l := [v3]) m5 (fun g hg => by cases hg; simp)
          replace E := E.step m5 (fun g hg => by cases hg; omega); replace h1 := h1.mod m5 (fun g hg => by cases hg; omega); replace h2 := h2.mod m5 (fun g hg => by cases hg; omega); replace ho1 := OwF.kp ho1 (Kq.kp kq3 sp1.1.2.1); replace ho2 := Own.kp ho2 (Kq.kp kq3 sp1.2.1.1); replace oL := oL.mod m5 (fun g hg => by cases hg; omega); replace ho4 := ho4.mod m5 (fun g hg => by cases hg; omega); replace ho6 := ho6.mod m5 (fun g hg => by cases hg; omega)
          have z18 := m5.size
          refine J_done ?_
          refine S_seq ?_
          refine S_reg [true] rfl rfl ?_
          refine J_st (R_assign rfl) rfl (J_done ?_)
          refine S_block ?_
          refine S_loop (fun (xq : Nat × Value × List Nat) => let ⟨j, vM, fM⟩ := xq; [(1, vxs), (2, .pointer (some ⟨b1, 0, none⟩)), (4, .pointer (some ⟨b2, 0, none⟩)), (5, .bool false), (7, .pointer (some ⟨v3, 0, none⟩)), (8, .int .i64 ((k : Nat) : Int)), (9, .int .i64 ((j : Nat) : Int)), (59, .pointer (some ⟨v3, 3, none⟩)), (68, .pointer (some ⟨v3, 3, none⟩))]) (fun (xq : Nat × Value × List Nat) w' => let ⟨j, vM, fM⟩ := xq; Ext w w' ∧ w19.heap.size ≤ w'.heap.size ∧ Blk w' b1 ([o1, .int .i64 g.workers, .int .i64 g.cap]) ∧ Blk w' b2 [.slice none 0 0, .int .i64 0, .int .i64 0, .slice none 0 0, .slice none 0 0, .slice none 0 0, .slice none 0 0] ∧ OwF w' w10.heap.size w11.heap.size v1 g.nodes f1 ∧ Own w' w10.heap.size w11.heap.size 5 v2 (List.flatMap (Enc.enc (α := Token)) [(⟨false, 0, 0, false, false⟩ : Token), (⟨false, 0, 0, false, false⟩ : Token), (⟨false, 0, 0, false, false⟩ : Token), (⟨false, 0, 0, false, false⟩ : Token)]) ∧ OwF w' w12.heap.size w18.heap.size v5 ((newWs g xs k) ++ [(workerNew (ownTo g.workers ((k : Nat) : Int) xs 4))]) f4 ∧ j ≤ Int.toNat g.workers ∧ OwF w' w12.heap.size w'.heap.size vM (List.replicate (k * Int.toNat g.workers + j) (linkNew g.cap)) fM ∧ DjL [f4, fM] ∧ Blk w' v3 [v1, .int .i64 g.workers, .int .i64 g.cap, v5, vM, v2, .slice none 0 0]) (fun (xq : Nat × Value × List Nat) => let ⟨j, vM, fM⟩ := xq; Int.toNat g.workers - j) (0, vL, fL) ⟨rfl, rfl, rfl, rfl, rfl, rfl, rfl, rfl, rfl, trivial⟩ ⟨E, Nat.le_refl _, h1, h2, ho1, ho2, ho6, Nat.zero_le _, OwF.widen oL (by omega) (by omega), gW, ho3⟩ ?_
          clear E h1 h2 ho1 ho2 oL ho3 ho4 ho6
          rintro ⟨j, vM, fM⟩ w20 ⟨E, z19, h1, h2, ho1, ho2, ho6, hj, oM, gV, ho3⟩
          refine S_sub [(1, vxs), (2, .pointer (some ⟨b1, 0, none⟩)), (4, .pointer (some ⟨b2, 0, none⟩)), (5, .bool false), (7, .pointer (some ⟨v3, 0, none⟩)), (8, .int .i64 ((k : Nat) : Int)), (9, .int .i64 ((j : Nat) : Int)), (59, .pointer (some ⟨v3, 3, none⟩)), (68, .pointer (some ⟨v3, 3, none⟩))] ⟨rfl, rfl, rfl, rfl, rfl, rfl, rfl, rfl, rfl, trivial⟩ ?_
          refine S_seq ?_
          refine S_seq ?_
          refine S_reg [true, true, true, true] rfl rfl ?_
          refine J_st (R_move rfl) rfl (J_st (R_fieldAddr0 fl30_1 rfl) rfl (J_st (R_load sc3 rfl (h1.one 1 rfl)) rfl (J_st (R_lss rfl rfl) rfl (J_done ?_))))
          refine S_cond rfl (fun hc5 => ?_) (fun hc5 => ?_)
          · have hlthc5 : j < Int.toNat g.workers := by have h := of_decide_eq_true hc5; omega
            refine S_skip ?_
            refine S_seq ?_
            refine S_block ?_
            refine S_regX mixed [6] [(0, true), (1, true), (2, true), (3, true), (4, false), (5, false)] [(6, false), (7, true), (8, false)] (by decide +kernel) rfl rfl (fun w21 e11 => ?_)
            replace E := E.trans e11; replace h1 := h1.ext e11; replace h2 := h2.ext e11; replace ho1 := ho1.ext e11; replace ho2 := ho2.ext e11; replace ho6 := ho6.ext e11; replace oM := oM.ext e11; replace ho3 := ho3.ext e11
            have z20 := e11.size
            refine J_st (R_fieldAddr0 fl36_2 rfl) rfl (J_st (R_load sc32 rfl (ho3.one 4 rfl)) rfl (J_st (R_fieldAddr0 fl30_2 rfl) rfl (J_st (R_load sc3 rfl (h1.one 2 rfl)) rfl ?_)))
            refine J_call Try.call23 rfl (s_LinkNew g.cap _ ) rfl (fun _ w22 e12 ho7 => ?_)
            obtain ⟨_, rfl, ho7⟩ := ho7
            have g_ho7 : w.heap.size ≤ w21.heap.size := E.size
            replace E := E.trans e12; replace h1 := h1.ext e12; replace h2 := h2.ext e12; replace ho1 := ho1.ext e12; replace ho2 := ho2.ext e12; replace ho6 := ho6.ext e12; replace oM := oM.ext e12; replace ho3 := ho3.ext e12
            have z21 := e12.size
            obtain ⟨o10, rfl, sp3, hw9⟩ := Link.opO ho7
            refine J_buildSlice (vs := [.agg [.int .i64 ((linkNew g.cap).cap), o10, .int .i64 ((linkNew g.cap).credits), .int .i64 ((linkNew g.cap).back), .int .i64 ((linkNew g.cap).sent), .int .i64 ((linkNew g.cap).got)].toArray]) (css := [[.int .i64 ((linkNew g.cap).cap), o10, .int .i64 ((linkNew g.cap).credits), .int .i64 ((linkNew g.cap).back), .int .i64 ((linkNew g.cap).sent), .int .i64 ((linkNew g.cap).got)]]) sl32 rfl rfl ⟨⟨rfl, rfl⟩, trivial⟩ rfl rfl (fun b4 w23 e13 s4 h4 => ?_)
            replace h4 : Blk w23 b4 [.int .i64 ((linkNew g.cap).cap), o10, .int .i64 ((linkNew g.cap).credits), .int .i64 ((linkNew g.cap).back), .int .i64 ((linkNew g.cap).sent), .int .i64 ((linkNew g.cap).got)] := h4
            have g_b4 : w.heap.size ≤ b4 := by have := E.size; omega
            have y_b4 := h4.lt
            replace E := E.trans e13; replace h1 := h1.ext e13; replace h2 := h2.ext e13; replace ho1 := ho1.ext e13; replace ho2 := ho2.ext e13; replace ho6 := ho6.ext e13; replace oM := oM.ext e13; replace ho3 := ho3.ext e13; replace hw9 := hw9.ext e13
            have z22 := e13.size
            refine JX_tail ?_
            refine J2_X rfl ?_
            have hy2 : Own1.O (α := Link) w23 w21.heap.size w23.heap.size [.int .i64 ((linkNew g.cap).cap), o10, .int .i64 ((linkNew g.cap).credits), .int .i64 ((linkNew g.cap).back), .int .i64 ((linkNew g.cap).sent), .int .i64 ((linkNew g.cap).got)] (linkNew g.cap) := Link.mkO (linkNew g.cap) sp3 (Own.widen hw9 (by omega) (by omega))
            refine J_appendF (lo := w12.heap.size) (hi := w20.heap.size) (lo2 := w21.heap.size) (hi2 := w23.heap.size) sl32 rfl rfl oM (Src.ofBlk h4 rfl) hy2 (fun b hb hc => by have := OwF.in2 oM b hb; have := Own1.inn hy2 b hc; omega) (by simp only [newWs_len, List.length_replicate, show Dat.sz Worker = 8 from rfl, show Dat.sz Link = 6 from rfl]; omega) (by decide) (by omega) (by omega) (by omega) (by omega) (by omega) rfl rfl (fun v6 w24 f5 m6 ho8 hin2 => ?_)
            have hqb := OwS.inn (OwF.ows oM)
            have kq4 := Mod.kq (l := fM) m6 (OwF.v_mem oM)
            replace E := E.step m6 (fun g hg => by have := hqb g hg; omega); replace h1 := h1.mod m6 (fun g hg => by have := hqb g hg; omega); replace h2 := h2.mod m6 (fun g hg => by have := hqb g hg; omega); replace ho1 := ho1.mod m6 (fun g hg => by have := hqb g hg; omega); replace ho2 := ho2.mod m6 (fun g hg => by have := hqb g hg; omega); replace ho6 := OwF.kp ho6 (Kq.kp kq4 gV.1.1); replace ho3 := ho3.mod m6 (fun g hg => by have := hqb g hg; omega)
            have z23 := m6.size
            replace gV := DjL.set (N := w21.heap.size) hin2 1 rfl gV ⟨(fun b hb => by have := OwF.in2 ho6 b hb; omega), (fun b hb => by have := OwF.in2 oM b hb; omega), trivial⟩
            replace gV : DjL [f4, f5] := gV
            clear hqb hy2 kq4 oM
            refine JX_go ?_
            refine J_st (R_fieldAddr0 fl36_2 rfl) rfl ?_
            refine J_store' (cs' := [v1, .int .i64 g.workers, .int .i64 g.cap, v5, v6, v2, .slice none 0 0]) sc32 rfl rfl (RdD.one (OwF.rd ho8)) ho3 (Nat.le_of_ble_eq_true rfl) rfl (fun w25 m7 ho3' => ?_)
            replace ho3 := ho3'
            have kq5 := Mod.kq (l := [v3]) m7 (fun g hg => by cases hg; simp)
            replace E := E.step m7 (fun g hg => by cases hg; omega); replace h1 := h1.mod m7 (fun g hg => by cases hg; omega); replace h2 := h2.mod m7 (fun g hg => by cases hg; omega); replace ho1 := OwF.kp ho1 (Kq.kp kq5 sp1.1.2.1); replace ho2 := Own.kp ho2 (Kq.kp kq5 sp1.2.1.1); replace ho6 := ho6.mod m7 (fun g hg => by cases hg; omega); replace ho8 := ho8.mod m7 (fun g hg => by cases hg; omega)
            have z24 := m7.size
            refine J_done ?_
            refine S_nil (E_inB ?_)
            refine S_reg [true, true, true] rfl rfl ?_
            refine J_st (R_move rfl) rfl (J_st (R_add rfl rfl (add_nat (by unfold maxLen; omega))) rfl (J_st (R_assign rfl) rfl (J_done ?_)))
            refine S_nil (E_again (j + 1, v6, f5) (by simp; omega) ⟨rfl, rfl, rfl, rfl, rfl, rfl, rfl, rfl, rfl, trivial⟩ ⟨E, (by omega), h1, h2, ho1, ho2, ho6, (by omega), (by rw [← Nat.add_assoc, List.replicate_succ']; exact OwF.widen ho8 (by omega) (by omega)), gV, ho3⟩)
          · have hgehc5 : ¬ j < Int.toNat g.workers := by have h := of_decide_eq_false hc5; omega
            refine S_exit (E_lp_exit (E_inB_exit ?_))
            refine S_nil (E_inB ?_)
            refine S_reg [true, true, true] rfl rfl ?_
            refine J_st (R_move rfl) rfl (J_st (R_add rfl rfl (add_nat (by unfold maxLen; omega))) rfl (J_st (R_assign rfl) rfl (J_done ?_)))
            refine S_nil (E_again (k + 1, v5, vM, f4, fM) (by simp; omega) ⟨rfl, rfl, rfl, rfl, rfl, rfl, trivial⟩ ⟨E, (by omega), h1, h2, ho1, ho2, (by omega), (by rw [newWs_step]; exact OwF.widen ho6 (by omega) (by omega)), (by rw [show (k + 1) * Int.toNat g.workers = k * Int.toNat g.workers + j from by rw [Nat.add_mul]; omega]; exact OwF.widen oM (by omega) (by omega)), gV, ho3⟩)
        · have hgehc4 : ¬ k < Int.toNat g.workers := by have h := of_decide_eq_false hc4; omega
          refine S_exit (E_lp_exit (E_inB_exit ?_))
          refine S_seq ?_
          refine S_reg [true, false, true] rfl rfl ?_
          refine J_st (R_loadS st36 rfl ho3.at rfl) rfl ?_
          refine J_storeS' (cs' := [v1, .int .i64 g.workers, .int .i64 g.cap, vW, vL, v2, .slice none 0 0]) st36 rfl rfl rfl (all_cons (RdD.one (OwF.rd ho1)) (all_cons rfl (all_cons rfl (all_cons (RdD.one (OwF.rd oW)) (all_cons (RdD.one (OwF.rd oL)) (all_cons ho2.one (all_cons rfl rfl))))))) h2 (Nat.le_of_ble_eq_true rfl) rfl (fun w26 m8 h2' => ?_)
          replace h2 := h2'
          replace E := E.step m8 (fun g hg => by cases hg; omega); replace h1 := h1.mod m8 (fun g hg => by cases hg; omega); replace ho1 := ho1.mod m8 (fun g hg => by cases hg; omega); replace ho2 := ho2.mod m8 (fun g hg => by cases hg; omega); replace oW := oW.mod m8 (fun g hg => by cases hg; omega); replace oL := oL.mod m8 (fun g hg => by cases hg; omega); replace ho3 := ho3.mod m8 (fun g hg => by cases hg; omega)
          have z25 := m8.size
          refine J_st (R_assign rfl) rfl (J_done ?_)
          refine S_ret (E_doneN (l := [.cell 4 36, .tmp 5]) (vs := [.agg [v1, .int .i64 g.workers, .int .i64 g.cap, vW, vL, v2, .slice none 0 0].toArray, .bool true]) rfl ⟨.cell rfl (run_loadVar_st st36 h2.at rfl), .tmp rfl, trivial⟩ rfl E ?_)
          rw [cn_ok hc1 (by omega) hI, newCl_at (k := k) (by omega)]
          exact ⟨_, rfl, (Cluster.mkR (⟨g, newWs g xs k, List.replicate (k * Int.toNat g.workers) (linkNew g.cap), [(⟨false, 0, 0, false, false⟩ : Token), (⟨false, 0, 0, false, false⟩ : Token), (⟨false, 0, 0, false, false⟩ : Token), (⟨false, 0, 0, false, false⟩ : Token)], []⟩ : Cluster) (RdD.widen (OwF.rd ho1) (by have := E.size; omega) (by omega)) (RdD.widen (OwF.rd oW) (by have := E.size; omega) (by omega)) (RdD.widen (OwF.rd oL) (by have := E.size; omega) (by omega)) (RdD.widen (Own.rdD ho2) (by have := E.size; omega) (by omega)) (RdD.nil _ _ _))⟩
      · intro w27 e14
        intro v7 f6 ho9 v8 f7 ho10 sp4
        obtain ⟨_, _, eX, ⟨v7, rfl, ho9⟩, _⟩ := ho9; replace ho9 := OwF.widen (OwF.ext ho9 eX) (Nat.le_refl _) eX.size
        obtain ⟨ho10, rfl⟩ := ho10
        replace sp4 : DjL [f6, (blks v8)] := sp4
        have g_sp4 : w.heap.size ≤ w10.heap.size := E.size
        replace E := E.trans e14; replace h1 := h1.ext e14; replace h2 := h2.ext e14
        have z26 := e14.size
        replace ho10 : Own w27 w10.heap.size w27.heap.size 5 v8 (List.flatMap (Enc.enc (α := Token)) [(⟨false, 0, 0, false, false⟩ : Token), (⟨false, 0, 0, false, false⟩ : Token), (⟨false, 0, 0, false, false⟩ : Token), (⟨false, 0, 0, false, false⟩ : Token)]) := ho10
        refine J_sub [(1, vxs), (2, .pointer (some ⟨b1, 0, none⟩)), (4, .pointer (some ⟨b2, 0, none⟩)), (5, .bool false), (6, .int .i64 ((k : Nat) : Int)), (19, .int .i64 ((k : Nat) : Int)), (20, vxs), (21, .int .i64 ((xs.length : Nat) : Int)), (22, .bool (decide (((k : Nat) : Int) < ((xs.length : Nat) : Int)))), (49, .agg [o1, .int .i64 g.workers, .int .i64 g.cap].toArray), (50, .agg [v7, .int .i64 g.workers, .int .i64 g.cap].toArray), (51, v8)] ⟨rfl, rfl, rfl, rfl, rfl, rfl, rfl, rfl, rfl, rfl, rfl, rfl, trivial⟩ ?_
        have hbl4 : ∀ w, (Instr.build 36 ([(0, .agg [v7, .int .i64 g.workers, .int .i64 g.cap].toArray), (3, v8)]).toArray).run Try.prog w = .ok (.agg [v7, .int .i64 g.workers, .int .i64 g.cap, .slice none 0 0, .slice none 0 0, v8, .slice none 0 0].toArray) w := by clear E; obtain ⟨_, _, _, rfl⟩ := SlLen.shape (RdD.len (OwF.rd ho9)); obtain ⟨_, _, _, rfl⟩ := Own.shape ho10; intro w; kernel_rfl
        refine J_st (R_buildC [v7, .int .i64 g.workers, .int .i64 g.cap, .slice none 0 0, .slice none 0 0, v8, .slice none 0 0] rfl hbl4) rfl ?_
        refine J_alloc st36 rfl (fun b5 w28 e15 s5 h5 => ?_)
        have g_b5 : w.heap.size ≤ b5 := by have := E.size; omega
        have y_b5 := h5.lt
        replace E := E.trans e15; replace h1 := h1.ext e15; replace h2 := h2.ext e15; replace ho9 := ho9.ext e15; replace ho10 := ho10.ext e15
        have z27 := e15.size
        refine J_storeS' (cs' := [v7, .int .i64 g.workers, .int .i64 g.cap, .slice none 0 0, .slice none 0 0, v8, .slice none 0 0]) st36 rfl rfl rfl (all_cons (RdD.one (OwF.rd ho9)) (all_cons rfl (all_cons rfl (all_cons rfl (all_cons rfl (all_cons ho10.one (all_cons rfl rfl))))))) h5 (Nat.le_of_ble_eq_true rfl) rfl (fun w29 m9 h5' => ?_)
        replace h5 := h5'
        replace E := E.step m9 (fun g hg => by cases hg; omega); replace h1 := h1.mod m9 (fun g hg => by cases hg; omega); replace h2 := h2.mod m9 (fun g hg => by cases hg; omega); replace ho9 := ho9.mod m9 (fun g hg => by cases hg; omega); replace ho10 := ho10.mod m9 (fun g hg => by cases hg; omega)
        have z28 := m9.size
        refine J_done ?_
        refine S_seq ?_
        refine S_seq ?_
        refine S_reg [true] rfl rfl ?_
        refine J_st (R_assign rfl) rfl (J_done ?_)
        refine S_block ?_
        refine S_loop (fun (xq : Nat × Value × Value × List Nat × List Nat) => let ⟨k, vW, vL, fW, fL⟩ := xq; [(1, vxs), (2, .pointer (some ⟨b1, 0, none⟩)), (4, .pointer (some ⟨b2, 0, none⟩)), (5, .bool false), (7, .pointer (some ⟨b5, 0, none⟩)), (8, .int .i64 ((k : Nat) : Int))]) (fun (xq : Nat × Value × Value × List Nat × List Nat) w' => let ⟨k, vW, vL, fW, fL⟩ := xq; Ext w w' ∧ w29.heap.size ≤ w'.heap.size ∧ Blk w' b1 ([o1, .int .i64 g.workers, .int .i64 g.cap]) ∧ Blk w' b2 [.slice none 0 0, .int .i64 0, .int .i64 0, .slice none 0 0, .slice none 0 0, .slice none 0 0, .slice none 0 0] ∧ OwF w' w10.heap.size w27.heap.size v7 g.nodes f6 ∧ Own w' w10.heap.size w27.heap.size 5 v8 (List.flatMap (Enc.enc (α := Token)) [(⟨false, 0, 0, false, false⟩ : Token), (⟨false, 0, 0, false, false⟩ : Token), (⟨false, 0, 0, false, false⟩ : Token), (⟨false, 0, 0, false, false⟩ : Token)]) ∧ k ≤ Int.toNat g.workers ∧ OwF w' w29.heap.size w'.heap.size vW (newWs g xs k) fW ∧ OwF w' w29.heap.size w'.heap.size vL (List.replicate (k * Int.toNat g.workers) (linkNew g.cap)) fL ∧ DjL [fW, fL] ∧ Blk w' b5 [v7, .int .i64 g.workers, .int .i64 g.cap, vW, vL, v8, .slice none 0 0]) (fun (xq : Nat × Value × Value × List Nat × List Nat) => let ⟨k, vW, vL, fW, fL⟩ := xq; Int.toNat g.workers - k) (0, .slice none 0 0, .slice none 0 0, [], []) ⟨rfl, rfl, rfl, rfl, rfl, rfl, trivial⟩ ⟨E, Nat.le_refl _, h1, h2, ho9, ho10, Nat.zero_le _, OwF.nil _ _ _, (by rw [Nat.zero_mul]; exact OwF.nil _ _ _), ⟨⟨(fun _ h => absurd h List.not_mem_nil), trivial⟩, trivial, trivial⟩, h5⟩ ?_
        clear E h1 h2 ho9 ho10 h5
        rintro ⟨k, vW, vL, fW, fL⟩ w30 ⟨E, z29, h1, h2, ho9, ho10, hk, oW, oL, gW, h5⟩
        refine S_sub [(1, vxs), (2, .pointer (some ⟨b1, 0, none⟩)), (4, .pointer (some ⟨b2, 0, none⟩)), (5, .bool false), (7, .pointer (some ⟨b5, 0, none⟩)), (8, .int .i64 ((k : Nat) : Int))] ⟨rfl, rfl, rfl, rfl, rfl, rfl, trivial⟩ ?_
        have hkn : k * Int.toNat g.workers ≤ 16 := Nat.le_trans (Nat.mul_le_mul (show k ≤ 4 by omega) (show Int.toNat g.workers ≤ 4 by omega)) (by decide)
        refine S_seq ?_
        refine S_seq ?_
        refine S_reg [true, true, true, true] rfl rfl ?_
        refine J_st (R_move rfl) rfl (J_st (R_fieldAddr0 fl30_1 rfl) rfl (J_st (R_load sc3 rfl (h1.one 1 rfl)) rfl (J_st (R_lss rfl rfl) rfl (J_done ?_))))
        refine S_cond rfl (fun hc6 => ?_) (fun hc6 => ?_)
        · have hlthc6 : k < Int.toNat g.workers := by have h := of_decide_eq_true hc6; omega
          refine S_skip ?_
          refine S_seq ?_
          refine S_block ?_
          refine S_seq ?_
          refine S_regX mixed [8] [(0, true), (1, true), (2, true), (3, true), (4, true), (5, false), (6, false), (7, false)] [(8, false), (9, true), (10, false)] (by decide +kernel) rfl rfl (fun w31 e16 => ?_)
          replace E := E.trans e16; replace h1 := h1.ext e16; replace h2 := h2.ext e16; replace ho9 := ho9.ext e16; replace ho10 := ho10.ext e16; replace oW := oW.ext e16; replace oL := oL.ext e16; replace h5 := h5.ext e16
          have z30 := e16.size
          refine J_st (R_fieldAddr0 fl36_1 rfl) rfl (J_st (R_load sc31 rfl (h5.one 3 rfl)) rfl (J_st (R_loadS st30 rfl h1.at rfl) rfl (J_st (R_move rfl) rfl (J_st (R_move rfl) rfl ?_))))
          refine J_call Try.call22 rfl (s_l14Own [o1, .int .i64 g.workers, .int .i64 g.cap] g vxs xs ((k : Nat) : Int) _ (Graph.mkR g (RdD.any (hd1.ext E))) (hxs.ext E) (by omega) (rg4 hgw)) rfl (fun v9 w32 e17 ho11 => ?_)
          have g_ho11 : w.heap.size ≤ w31.heap.size := E.size
          replace E := E.trans e17; replace h1 := h1.ext e17; replace h2 := h2.ext e17; replace ho9 := ho9.ext e17; replace ho10 := ho10.ext e17; replace oW := oW.ext e17; replace oL := oL.ext e17; replace h5 := h5.ext e17
          have z31 := e17.size
          refine J_call Try.call21 rfl (s_WorkerNew v9 (ownTo g.workers ((k : Nat) : Int) xs 4) _ (Own.rd (by decide) ho11) (by have := @ownTo_len4 g.workers ((k : Nat) : Int) xs 4 (by omega); omega)) rfl (fun _ w33 e18 ho12 => ?_)
          obtain ⟨_, rfl, ho12⟩ := ho12
          have g_ho12 : w.heap.size ≤ w32.heap.size := E.size
          replace E := E.trans e18; replace h1 := h1.ext e18; replace h2 := h2.ext e18; replace ho9 := ho9.ext e18; replace ho10 := ho10.ext e18; replace oW := oW.ext e18; replace oL := oL.ext e18; replace h5 := h5.ext e18; replace ho11 := ho11.ext e18
          have z32 := e18.size
          obtain ⟨o11, o12, o13, o14, o15, o16, o17, o18, rfl, sp5, hw10, hw11, hw12, hw13, hw14, hw15, hw16, hw17⟩ := Worker.opO ho12
          refine J_buildSlice (vs := [.agg [o11, o12, o13, o14, o15, o16, o17, o18].toArray]) (css := [[o11, o12, o13, o14, o15, o16, o17, o18]]) sl31 rfl rfl ⟨⟨rfl, rfl⟩, trivial⟩ rfl rfl (fun b6 w34 e19 s6 h6 => ?_)
          replace h6 : Blk w34 b6 [o11, o12, o13, o14, o15, o16, o17, o18] := h6
          have g_b6 : w.heap.size ≤ b6 := by have := E.size; omega
          have y_b6 := h6.lt
          replace E := E.trans e19; replace h1 := h1.ext e19; replace h2 := h2.ext e19; replace ho9 := ho9.ext e19; replace ho10 := ho10.ext e19; replace oW := oW.ext e19; replace oL := oL.ext e19; replace h5 := h5.ext e19; replace ho11 := ho11.ext e19; replace hw10 := hw10.ext e19; replace hw11 := hw11.ext e19; replace hw12 := hw12.ext e19; replace hw13 := hw13.ext e19; replace hw14 := hw14.ext e19; replace hw15 := hw15.ext e19; replace hw16 := hw16.ext e19; replace hw17 := hw17.ext e19
          have z33 := e19.size
          refine JX_tail ?_
          refine J2_X rfl ?_
          have hy3 : Own1.O (α := Worker) w34 w32.heap.size w34.heap.size [o11, o12, o13, o14, o15, o16, o17, o18] (workerNew (ownTo g.workers ((k : Nat) : Int) xs 4)) := Worker.mkO (workerNew (ownTo g.workers ((k : Nat) : Int) xs 4)) sp5 (Own.widen hw10 (by omega) (by omega)) (Own.widen hw11 (by omega) (by omega)) (Own.widen hw12 (by omega) (by omega)) (Own.widen hw13 (by omega) (by omega)) (Own.widen hw14 (by omega) (by omega)) (Own.widen hw15 (by omega) (by omega)) (Own.widen hw16 (by omega) (by omega)) (Own.widen hw17 (by omega) (by omega))
          refine J_appendF (lo := w29.heap.size) (hi := w30.heap.size) (lo2 := w32.heap.size) (hi2 := w34.heap.size) sl31 rfl rfl oW (Src.ofBlk h6 rfl) hy3 (fun b hb hc => by have := OwF.in2 oW b hb; have := Own1.inn hy3 b hc; omega) (by simp only [newWs_len, List.length_replicate, show Dat.sz Worker = 8 from rfl, show Dat.sz Link = 6 from rfl]; omega) (by decide) (by omega) (by omega) (by omega) (by omega) (by omega) rfl rfl (fun v10 w35 f8 m10 ho13 hin3 => ?_)
          have hqb := OwS.inn (OwF.ows oW)
          have kq6 := Mod.kq (l := fW) m10 (OwF.v_mem oW)
          replace E := E.step m10 (fun g hg => by have := hqb g hg; omega); replace h1 := h1.mod m10 (fun g hg => by have := hqb g hg; omega); replace h2 := h2.mod m10 (fun g hg => by have := hqb g hg; omega); replace ho9 := ho9.mod m10 (fun g hg => by have := hqb g hg; omega); replace ho10 := ho10.mod m10 (fun g hg => by have := hqb g hg; omega); replace oL := OwF.kp oL (Kq.kp kq6 (gW.1.1).symm); replace h5 := h5.mod m10 (fun g hg => by have := hqb g hg; omega); replace ho11 := ho11.mod m10 (fun g hg => by have := hqb g hg; omega)
          have z34 := m10.size
          replace gW := DjL.set (N := w32.heap.size) hin3 0 rfl gW ⟨(fun b hb => by have := OwF.in2 oW b hb; omega), (fun b hb => by have := OwF.in2 oL b hb; omega), trivial⟩
          replace gW : DjL [f8, fL] := gW
          clear hqb hy3 kq6 oW
          refine JX_go ?_
          refine J_st (R_fieldAddr0 fl36_1 rfl) rfl ?_
          refine J_store' (cs' := [v7, .int .i64 g.workers, .int .i64 g.cap, v10, vL, v8, .slice none 0 0]) sc31 rfl rfl (RdD.one (OwF.rd ho13)) h5 (Nat.le_of_ble_eq_true rfl) rfl (fun w36 m11 h5' => ?_)
          replace h5 := h5'
          replace E := E.step m11 (fun g hg => by cases hg; omega); replace h1 := h1.mod m11 (fun g hg => by cases hg; omega); replace h2 := h2.mod m11 (fun g hg => by cases hg; omega); replace ho9 := ho9.mod m11 (fun g hg => by cases hg; omega); replace ho10 := ho10.mod m11 (fun g hg => by cases hg; omega); replace oL := oL.mod m11 (fun g hg => by cases hg; omega); replace ho11 := ho11.mod m11 (fun g hg => by cases hg; omega); replace ho13 := ho13.mod m11 (fun g hg => by cases hg; omega)
          have z35 := m11.size
          refine J_done ?_
          refine S_seq ?_
          refine S_reg [true] rfl rfl ?_
          refine J_st (R_assign rfl) rfl (J_done ?_)
          refine S_block ?_
          refine S_loop (fun (xq : Nat × Value × List Nat) => let ⟨j, vM, fM⟩ := xq; [(1, vxs), (2, .pointer (some ⟨b1, 0, none⟩)), (4, .pointer (some ⟨b2, 0, none⟩)), (5, .bool false), (7, .pointer (some ⟨b5, 0, none⟩)), (8, .int .i64 ((k : Nat) : Int)), (9, .int .i64 ((j : Nat) : Int)), (59, .pointer (some ⟨b5, 3, none⟩)), (68, .pointer (some ⟨b5, 3, none⟩))]) (fun (xq : Nat × Value × List Nat) w' => let ⟨j, vM, fM⟩ := xq; Ext w w' ∧ w36.heap.size ≤ w'.heap.size ∧ Blk w' b1 ([o1, .int .i64 g.workers, .int .i64 g.cap]) ∧ Blk w' b2 [.slice none 0 0, .int .i64 0, .int .i64 0, .slice none 0 0, .slice none 0 0, .slice none 0 0, .slice none 0 0] ∧ OwF w' w10.heap.size w27.heap.size v7 g.nodes f6 ∧ Own w' w10.heap.size w27.heap.size 5 v8 (List.flatMap (Enc.enc (α := Token)) [(⟨false, 0, 0, false, false⟩ : Token), (⟨false, 0, 0, false, false⟩ : Token), (⟨false, 0, 0, false, false⟩ : Token), (⟨false, 0, 0, false, false⟩ : Token)]) ∧ OwF w' w29.heap.size w35.heap.size v10 ((newWs g xs k) ++ [(workerNew (ownTo g.workers ((k : Nat) : Int) xs 4))]) f8 ∧ j ≤ Int.toNat g.workers ∧ OwF w' w29.heap.size w'.heap.size vM (List.replicate (k * Int.toNat g.workers + j) (linkNew g.cap)) fM ∧ DjL [f8, fM] ∧ Blk w' b5 [v7, .int .i64 g.workers, .int .i64 g.cap, v10, vM, v8, .slice none 0 0]) (fun (xq : Nat × Value × List Nat) => let ⟨j, vM, fM⟩ := xq; Int.toNat g.workers - j) (0, vL, fL) ⟨rfl, rfl, rfl, rfl, rfl, rfl, rfl, rfl, rfl, trivial⟩ ⟨E, Nat.le_refl _, h1, h2, ho9, ho10, ho13, Nat.zero_le _, OwF.widen oL (by omega) (by omega), gW, h5⟩ ?_
          clear E h1 h2 ho9 ho10 oL h5 ho11 ho13
          rintro ⟨j, vM, fM⟩ w37 ⟨E, z36, h1, h2, ho9, ho10, ho13, hj, oM, gV, h5⟩
          refine S_sub [(1, vxs), (2, .pointer (some ⟨b1, 0, none⟩)), (4, .pointer (some ⟨b2, 0, none⟩)), (5, .bool false), (7, .pointer (some ⟨b5, 0, none⟩)), (8, .int .i64 ((k : Nat) : Int)), (9, .int .i64 ((j : Nat) : Int)), (59, .pointer (some ⟨b5, 3, none⟩)), (68, .pointer (some ⟨b5, 3, none⟩))] ⟨rfl, rfl, rfl, rfl, rfl, rfl, rfl, rfl, rfl, trivial⟩ ?_
          refine S_seq ?_
          refine S_seq ?_
          refine S_reg [true, true, true, true] rfl rfl ?_
          refine J_st (R_move rfl) rfl (J_st (R_fieldAddr0 fl30_1 rfl) rfl (J_st (R_load sc3 rfl (h1.one 1 rfl)) rfl (J_st (R_lss rfl rfl) rfl (J_done ?_))))
          refine S_cond rfl (fun hc7 => ?_) (fun hc7 => ?_)
          · have hlthc7 : j < Int.toNat g.workers := by have h := of_decide_eq_true hc7; omega
            refine S_skip ?_
            refine S_seq ?_
            refine S_block ?_
            refine S_regX mixed [6] [(0, true), (1, true), (2, true), (3, true), (4, false), (5, false)] [(6, false), (7, true), (8, false)] (by decide +kernel) rfl rfl (fun w38 e20 => ?_)
            replace E := E.trans e20; replace h1 := h1.ext e20; replace h2 := h2.ext e20; replace ho9 := ho9.ext e20; replace ho10 := ho10.ext e20; replace ho13 := ho13.ext e20; replace oM := oM.ext e20; replace h5 := h5.ext e20
            have z37 := e20.size
            refine J_st (R_fieldAddr0 fl36_2 rfl) rfl (J_st (R_load sc32 rfl (h5.one 4 rfl)) rfl (J_st (R_fieldAddr0 fl30_2 rfl) rfl (J_st (R_load sc3 rfl (h1.one 2 rfl)) rfl ?_)))
            refine J_call Try.call23 rfl (s_LinkNew g.cap _ ) rfl (fun _ w39 e21 ho14 => ?_)
            obtain ⟨_, rfl, ho14⟩ := ho14
            have g_ho14 : w.heap.size ≤ w38.heap.size := E.size
            replace E := E.trans e21; replace h1 := h1.ext e21; replace h2 := h2.ext e21; replace ho9 := ho9.ext e21; replace ho10 := ho10.ext e21; replace ho13 := ho13.ext e21; replace oM := oM.ext e21; replace h5 := h5.ext e21
            have z38 := e21.size
            obtain ⟨o19, rfl, sp6, hw18⟩ := Link.opO ho14
            refine J_buildSlice (vs := [.agg [.int .i64 ((linkNew g.cap).cap), o19, .int .i64 ((linkNew g.cap).credits), .int .i64 ((linkNew g.cap).back), .int .i64 ((linkNew g.cap).sent), .int .i64 ((linkNew g.cap).got)].toArray]) (css := [[.int .i64 ((linkNew g.cap).cap), o19, .int .i64 ((linkNew g.cap).credits), .int .i64 ((linkNew g.cap).back), .int .i64 ((linkNew g.cap).sent), .int .i64 ((linkNew g.cap).got)]]) sl32 rfl rfl ⟨⟨rfl, rfl⟩, trivial⟩ rfl rfl (fun b7 w40 e22 s7 h7 => ?_)
            replace h7 : Blk w40 b7 [.int .i64 ((linkNew g.cap).cap), o19, .int .i64 ((linkNew g.cap).credits), .int .i64 ((linkNew g.cap).back), .int .i64 ((linkNew g.cap).sent), .int .i64 ((linkNew g.cap).got)] := h7
            have g_b7 : w.heap.size ≤ b7 := by have := E.size; omega
            have y_b7 := h7.lt
            replace E := E.trans e22; replace h1 := h1.ext e22; replace h2 := h2.ext e22; replace ho9 := ho9.ext e22; replace ho10 := ho10.ext e22; replace ho13 := ho13.ext e22; replace oM := oM.ext e22; replace h5 := h5.ext e22; replace hw18 := hw18.ext e22
            have z39 := e22.size
            refine JX_tail ?_
            refine J2_X rfl ?_
            have hy4 : Own1.O (α := Link) w40 w38.heap.size w40.heap.size [.int .i64 ((linkNew g.cap).cap), o19, .int .i64 ((linkNew g.cap).credits), .int .i64 ((linkNew g.cap).back), .int .i64 ((linkNew g.cap).sent), .int .i64 ((linkNew g.cap).got)] (linkNew g.cap) := Link.mkO (linkNew g.cap) sp6 (Own.widen hw18 (by omega) (by omega))
            refine J_appendF (lo := w29.heap.size) (hi := w37.heap.size) (lo2 := w38.heap.size) (hi2 := w40.heap.size) sl32 rfl rfl oM (Src.ofBlk h7 rfl) hy4 (fun b hb hc => by have := OwF.in2 oM b hb; have := Own1.inn hy4 b hc; omega) (by simp only [newWs_len, List.length_replicate, show Dat.sz Worker = 8 from rfl, show Dat.sz Link = 6 from rfl]; omega) (by decide) (by omega) (by omega) (by omega) (by omega) (by omega) rfl rfl (fun v11 w41 f9 m12 ho15 hin4 => ?_)
            have hqb := OwS.inn (OwF.ows oM)
            have kq7 := Mod.kq (l := fM) m12 (OwF.v_mem oM)
            replace E := E.step m12 (fun g hg => by have := hqb g hg; omega); replace h1 := h1.mod m12 (fun g hg => by have := hqb g hg; omega); replace h2 := h2.mod m12 (fun g hg => by have := hqb g hg; omega); replace ho9 := ho9.mod m12 (fun g hg => by have := hqb g hg; omega); replace ho10 := ho10.mod m12 (fun g hg => by have := hqb g hg; omega); replace ho13 := OwF.kp ho13 (Kq.kp kq7 gV.1.1); replace h5 := h5.mod m12 (fun g hg => by have := hqb g hg; omega)
            have z40 := m12.size
            replace gV := DjL.set (N := w38.heap.size) hin4 1 rfl gV ⟨(fun b hb => by have := OwF.in2 ho13 b hb; omega), (fun b hb => by have := OwF.in2 oM b hb; omega), trivial⟩
            replace gV : DjL [f8, f9] := gV
            clear hqb hy4 kq7 oM
            refine JX_go ?_
            refine J_st (R_fieldAddr0 fl36_2 rfl) rfl ?_
            refine J_store' (cs' := [v7, .int .i64 g.workers, .int .i64 g.cap, v10, v11, v8, .slice none 0 0]) sc32 rfl rfl (RdD.one (OwF.rd ho15)) h5 (Nat.le_of_ble_eq_true rfl) rfl (fun w42 m13 h5' => ?_)
            replace h5 := h5'
            replace E := E.step m13 (fun g hg => by cases hg; omega); replace h1 := h1.mod m13 (fun g hg => by cases hg; omega); replace h2 := h2.mod m13 (fun g hg => by cases hg; omega); replace ho9 := ho9.mod m13 (fun g hg => by cases hg; omega); replace ho10 := ho10.mod m13 (fun g hg => by cases hg; omega); replace ho13 := ho13.mod m13 (fun g hg => by cases hg; omega); replace ho15 := ho15.mod m13 (fun g hg => by cases hg; omega)
            have z41 := m13.size
            refine J_done ?_
            refine S_nil (E_inB ?_)
            refine S_reg [true, true, true] rfl rfl ?_
            refine J_st (R_move rfl) rfl (J_st (R_add rfl rfl (add_nat (by unfold maxLen; omega))) rfl (J_st (R_assign rfl) rfl (J_done ?_)))
            refine S_nil (E_again (j + 1, v11, f9) (by simp; omega) ⟨rfl, rfl, rfl, rfl, rfl, rfl, rfl, rfl, rfl, trivial⟩ ⟨E, (by omega), h1, h2, ho9, ho10, ho13, (by omega), (by rw [← Nat.add_assoc, List.replicate_succ']; exact OwF.widen ho15 (by omega) (by omega)), gV, h5⟩)
          · have hgehc7 : ¬ j < Int.toNat g.workers := by have h := of_decide_eq_false hc7; omega
            refine S_exit (E_lp_exit (E_inB_exit ?_))
            refine S_nil (E_inB ?_)
            refine S_reg [true, true, true] rfl rfl ?_
            refine J_st (R_move rfl) rfl (J_st (R_add rfl rfl (add_nat (by unfold maxLen; omega))) rfl (J_st (R_assign rfl) rfl (J_done ?_)))
            refine S_nil (E_again (k + 1, v10, vM, f8, fM) (by simp; omega) ⟨rfl, rfl, rfl, rfl, rfl, rfl, trivial⟩ ⟨E, (by omega), h1, h2, ho9, ho10, (by omega), (by rw [newWs_step]; exact OwF.widen ho13 (by omega) (by omega)), (by rw [show (k + 1) * Int.toNat g.workers = k * Int.toNat g.workers + j from by rw [Nat.add_mul]; omega]; exact OwF.widen oM (by omega) (by omega)), gV, h5⟩)
        · have hgehc6 : ¬ k < Int.toNat g.workers := by have h := of_decide_eq_false hc6; omega
          refine S_exit (E_lp_exit (E_inB_exit ?_))
          refine S_seq ?_
          refine S_reg [true, false, true] rfl rfl ?_
          refine J_st (R_loadS st36 rfl h5.at rfl) rfl ?_
          refine J_storeS' (cs' := [v7, .int .i64 g.workers, .int .i64 g.cap, vW, vL, v8, .slice none 0 0]) st36 rfl rfl rfl (all_cons (RdD.one (OwF.rd ho9)) (all_cons rfl (all_cons rfl (all_cons (RdD.one (OwF.rd oW)) (all_cons (RdD.one (OwF.rd oL)) (all_cons ho10.one (all_cons rfl rfl))))))) h2 (Nat.le_of_ble_eq_true rfl) rfl (fun w43 m14 h2' => ?_)
          replace h2 := h2'
          replace E := E.step m14 (fun g hg => by cases hg; omega); replace h1 := h1.mod m14 (fun g hg => by cases hg; omega); replace ho9 := ho9.mod m14 (fun g hg => by cases hg; omega); replace ho10 := ho10.mod m14 (fun g hg => by cases hg; omega); replace oW := oW.mod m14 (fun g hg => by cases hg; omega); replace oL := oL.mod m14 (fun g hg => by cases hg; omega); replace h5 := h5.mod m14 (fun g hg => by cases hg; omega)
          have z42 := m14.size
          refine J_st (R_assign rfl) rfl (J_done ?_)
          refine S_ret (E_doneN (l := [.cell 4 36, .tmp 5]) (vs := [.agg [v7, .int .i64 g.workers, .int .i64 g.cap, vW, vL, v8, .slice none 0 0].toArray, .bool true]) rfl ⟨.cell rfl (run_loadVar_st st36 h2.at rfl), .tmp rfl, trivial⟩ rfl E ?_)
          rw [cn_ok hc1 (by omega) hI, newCl_at (k := k) (by omega)]
          exact ⟨_, rfl, (Cluster.mkR (⟨g, newWs g xs k, List.replicate (k * Int.toNat g.workers) (linkNew g.cap), [(⟨false, 0, 0, false, false⟩ : Token), (⟨false, 0, 0, false, false⟩ : Token), (⟨false, 0, 0, false, false⟩ : Token), (⟨false, 0, 0, false, false⟩ : Token)], []⟩ : Cluster) (RdD.widen (OwF.rd ho9) (by have := E.size; omega) (by omega)) (RdD.widen (OwF.rd oW) (by have := E.size; omega) (by omega)) (RdD.widen (OwF.rd oL) (by have := E.size; omega) (by omega)) (RdD.widen (Own.rdD ho10) (by have := E.size; omega) (by omega)) (RdD.nil _ _ _))⟩

set_option maxHeartbeats 4000000 in
set_option maxRecDepth 20000 in
theorem c_ClusterNew (cg : List Value) (g : Graph) (vxs : Value) (xs : List Record) (w : World) (hg : Dat.R w 0 w.heap.size cg g) (hxs : RdS w vxs xs) (hb : cntGraph g ≤ 1048576) : Ct Try.prog 9 [.agg cg.toArray, vxs] w (fun v w' => ∃ q00 q01 q02 q03 q04, v = .tuple [.agg [q00, .int .i64 ((((clusterNew g xs).1).graph).workers), .int .i64 ((((clusterNew g xs).1).graph).cap), q01, q02, q03, q04].toArray, .bool ((clusterNew g xs).2)].toArray ∧ OwC w' w.heap.size w'.heap.size q00 q01 q02 q03 q04 ((clusterNew g xs).1)) := by
  refine ct_of Try.func9 rfl Try.ntmps9 rfl ?_
  obtain ⟨o1, rfl, hd1⟩ := Graph.op hg
  refine S_sub [(0, .agg [o1, .int .i64 g.workers, .int .i64 g.cap].toArray), (1, vxs)] ⟨rfl, rfl, trivial⟩ ?_
  have E : Ext w w := Ext.refl w
  refine S_seq ?_
  refine S_reg [false, false, true] rfl rfl ?_
  refine J_box rfl rfl (fun b1 w1 e1 s1 h1 => ?_)
  have g_b1 : w.heap.size ≤ b1 := by have := E.size; omega
  have y_b1 := h1.lt
  replace E := E.trans e1
  have z1 := e1.size
  refine J_alloc st36 rfl (fun b2 w2 e2 s2 h2 => ?_)
  have g_b2 : w.heap.size ≤ b2 := by have := E.size; omega
  have y_b2 := h2.lt
  replace E := E.trans e2; replace h1 := h1.ext e2
  have z2 := e2.size
  refine J_st (R_assign rfl) rfl (J_done ?_)
  refine S_seq ?_
  refine S_seq ?_
  refine S_reg [true, false, true, true, true, true, true, true] rfl rfl ?_
  refine J_st (R_loadS st30 rfl h1.at rfl) rfl ?_
  refine J_call Try.call26 rfl (c_GraphOk [o1, .int .i64 g.workers, .int .i64 g.cap] g _ (Graph.mkR g (RdD.any (hd1.ext E)))) rfl (fun _ w3 e3 hv => ?_)
  subst hv
  replace E := E.trans e3; replace h1 := h1.ext e3; replace h2 := h2.ext e3
  have z3 := e3.size
  refine J_st (R_not rfl) rfl (J_st (R_move rfl) rfl ?_)
  refine J_cut 4 [(0, .agg [o1, .int .i64 g.workers, .int .i64 g.cap].toArray), (1, vxs), (2, .pointer (some ⟨b1, 0, none⟩)), (4, .pointer (some ⟨b2, 0, none⟩)), (5, .bool false), (22, .bool ((!(graphOk g)) || (decide (20 < ((xs.length : Nat) : Int)))))] (fun w' => w3 = w') ?_ ?_
  · refine J_if (gd := 18) rfl rfl (fun hg1 => ?_) (fun hg1 => ?_)
    · refine J_gdno rfl rfl rfl rfl (J_gdno rfl rfl rfl rfl (J_gdno rfl rfl rfl rfl (J_st (R_pickT rfl rfl) rfl (J_cutEnd ⟨rfl, rfl, rfl, rfl, rfl, congrArg (fun b => some (Value.bool b)) (show true = ((!(graphOk g)) || (decide (20 < ((xs.length : Nat) : Int)))) by first | (rw [hg1] <;> rfl) | (simp [hg1]; done) | (simp only [nat_nlt] <;> simp)), trivial⟩ rfl))))
    · refine J_gd rfl rfl (R_move rfl) rfl (J_gd rfl rfl (R_len Try.underlying40 rfl (hxs.ext E).len) rfl (J_gd rfl rfl (R_gtr rfl rfl) rfl (J_st (R_pickF rfl rfl) rfl (J_cutEnd ⟨rfl, rfl, rfl, rfl, rfl, congrArg (fun b => some (Value.bool b)) (show (decide (20 < ((xs.length : Nat) : Int))) = ((!(graphOk g)) || (decide (20 < ((xs.length : Nat) : Int)))) by first | (rw [hg1] <;> rfl) | (simp [hg1]; done) | (simp only [nat_nlt] <;> simp)), trivial⟩ rfl))))
  rintro _ rfl
  refine J_done ?_
  refine S_cond rfl (fun hc1 => ?_) (fun hc1 => ?_)
  · refine S_seq ?_
    refine S_reg [true, false, true] rfl rfl ?_
    have hbl1 : ∀ w, (Instr.build 36 ([]).toArray).run Try.prog w = .ok (.agg [.slice none 0 0, .int .i64 0, .int .i64 0, .slice none 0 0, .slice none 0 0, .slice none 0 0, .slice none 0 0].toArray) w := by clear E; intro w; kernel_rfl
    refine J_st (R_buildC [.slice none 0 0, .int .i64 0, .int .i64 0, .slice none 0 0, .slice none 0 0, .slice none 0 0, .slice none 0 0] rfl hbl1) rfl ?_
    refine J_storeS' (cs' := [.slice none 0 0, .int .i64 0, .int .i64 0, .slice none 0 0, .slice none 0 0, .slice none 0 0, .slice none 0 0]) st36 rfl rfl rfl rfl h2 (Nat.le_of_ble_eq_true rfl) rfl (fun w5 m1 h2' => ?_)
    replace h2 := h2'
    replace E := E.step m1 (fun g hg => by cases hg; omega); replace h1 := h1.mod m1 (fun g hg => by cases hg; omega)
    have z4 := m1.size
    refine J_st (R_assign rfl) rfl (J_done ?_)
    refine S_ret (E_doneN (l := [.cell 4 36, .tmp 5]) (vs := [.agg [.slice none 0 0, .int .i64 0, .int .i64 0, .slice none 0 0, .slice none 0 0, .slice none 0 0, .slice none 0 0].toArray, .bool false]) rfl ⟨.cell rfl (run_loadVar_st st36 h2.at rfl), .tmp rfl, trivial⟩ rfl E ?_)
    rw [cn_bad1 hc1]
    exact ⟨_, _, _, _, _, rfl, OwC.of (⟨(⟨[], 0, 0⟩ : Graph), [], [], [], []⟩ : Cluster) (OwS.nil _ w.heap.size w.heap.size) (OwS.nil _ w.heap.size w.heap.size) (OwS.nil _ w.heap.size w.heap.size) (Own.nil _ w.heap.size w.heap.size _) (Own.nil _ w.heap.size w.heap.size _) (by have := E.size; omega) (by omega)⟩
  · have hgw := cn_gw hc1
    refine S_skip ?_
    refine S_seq ?_
    refine S_seq ?_
    refine S_reg [true, true, true] rfl rfl ?_
    refine J_st (R_move rfl) rfl (J_st (R_len Try.underlying40 rfl (hxs.ext E).len) rfl (J_st (R_move rfl) rfl (J_done ?_)))
    refine S_block ?_
    refine S_loop (fun (k : Nat) => [(1, vxs), (2, .pointer (some ⟨b1, 0, none⟩)), (4, .pointer (some ⟨b2, 0, none⟩)), (5, .bool false), (24, vxs), (25, .int .i64 ((xs.length : Nat) : Int)), (26, .int .i64 ((k : Nat) : Int))]) (fun (k : Nat) w' => Ext w w' ∧ w3.heap.size ≤ w'.heap.size ∧ Blk w' b1 ([o1, .int .i64 g.workers, .int .i64 g.cap]) ∧ Blk w' b2 [.slice none 0 0, .int .i64 0, .int .i64 0, .slice none 0 0, .slice none 0 0, .slice none 0 0, .slice none 0 0] ∧ k ≤ xs.length ∧ (xs.take k).any recBad = false) (fun (k : Nat) => xs.length - k) 0 ⟨rfl, rfl, rfl, rfl, rfl, rfl, rfl, trivial⟩ ⟨E, Nat.le_refl _, h1, h2, Nat.zero_le _, rfl⟩ ?_
    clear E h1 h2
    rintro k w6 ⟨E, z5, h1, h2, hk, hI⟩
    refine S_seq ?_
    refine S_reg [true] rfl rfl ?_
    refine J_st (R_lss rfl rfl) rfl (J_done ?_)
    refine S_seq ?_
    refine S_cond rfl (fun hc2 => ?_) (fun hc2 => ?_)
    · have hc2n : k < xs.length := by first | (have h := of_decide_eq_true hc2; omega) | (have h := hc2; simp at h; omega)
      refine S_skip ?_
      refine S_seq ?_
      refine S_block ?_
      refine S_seq ?_
      refine S_reg [true, true, false, false] rfl rfl ?_
      have hi1 : k < xs.length := (by first | assumption | omega | (simp only [List.length_set]; first | assumption | omega) | (simp only [List.getElem_set_self, List.length_set]; first | assumption | omega) | (simp only [setW, setLk, List.length_set]; first | assumption | omega))
      refine J_st (R_index (i := k) sl40 rfl rfl (hxs.ext E) hi1) rfl (J_st (R_loadS st55 rfl ((hxs.ext E).get hi1) rfl) rfl ?_)
      refine J_alloc st55 rfl (fun b3 w7 e4 s3 h3 => ?_)
      have g_b3 : w.heap.size ≤ b3 := by have := E.size; omega
      have y_b3 := h3.lt
      replace E := E.trans e4; replace h1 := h1.ext e4; replace h2 := h2.ext e4
      have z6 := e4.size
      refine J_storeS' (cs' := [.int .i64 ((xs[k]'hi1).op), .int .i64 (((xs[k]'hi1).stamp).epoch), .int .i64 (((xs[k]'hi1).stamp).turn), .int .i64 ((xs[k]'hi1).key), .int .i64 ((xs[k]'hi1).val)]) st55 rfl rfl rfl rfl h3 (Nat.le_of_ble_eq_true rfl) rfl (fun w8 m2 h3' => ?_)
      replace h3 := h3'
      replace E := E.step m2 (fun g hg => by cases hg; omega); replace h1 := h1.mod m2 (fun g hg => by cases hg; omega); replace h2 := h2.mod m2 (fun g hg => by cases hg; omega)
      have z7 := m2.size
      refine J_done ?_
      refine S_seq ?_
      refine S_reg [true, false, true, true, true, true, true, true, true, true, true, true, true, true] rfl rfl ?_
      refine J_st (R_loadS st55 rfl h3.at rfl) rfl ?_
      refine J_call Try.call27 rfl (c_RecordOk (xs[k]'hi1) _ ) rfl (fun _ w9 e5 hv => ?_)
      subst hv
      replace E := E.trans e5; replace h1 := h1.ext e5; replace h2 := h2.ext e5; replace h3 := h3.ext e5
      have z8 := e5.size
      refine J_st (R_not rfl) rfl (J_st (R_move rfl) rfl ?_)
      refine J_cut 10 [(1, vxs), (2, .pointer (some ⟨b1, 0, none⟩)), (4, .pointer (some ⟨b2, 0, none⟩)), (5, .bool false), (7, .pointer (some ⟨b3, 0, none⟩)), (24, vxs), (25, .int .i64 ((xs.length : Nat) : Int)), (26, .int .i64 ((k : Nat) : Int)), (27, .bool (decide (((k : Nat) : Int) < ((xs.length : Nat) : Int)))), (28, .pointer (some ⟨sblk vxs, soff vxs + k * 5, none⟩)), (29, .agg (Enc.enc (xs[k]'hi1)).toArray), (43, .bool (((!(recordOk (xs[k]'hi1))) || (((xs[k]'hi1).op) != 0)) || ((((xs[k]'hi1).stamp).turn) != 0)))] (fun w' => w9 = w') ?_ ?_
      · refine J_if (gd := 33) rfl rfl (fun hg2 => ?_) (fun hg2 => ?_)
        · refine J_gdno rfl rfl rfl rfl (J_gdno rfl rfl rfl rfl (J_gdno rfl rfl rfl rfl (J_st (R_pickT rfl rfl) rfl (J_st (R_move rfl) rfl (J_gdno rfl rfl rfl rfl (J_gdno rfl rfl rfl rfl (J_gdno rfl rfl rfl rfl (J_gdno rfl rfl rfl rfl (J_st (R_pickT rfl rfl) rfl (J_cutEnd ⟨rfl, rfl, rfl, rfl, rfl, rfl, rfl, rfl, rfl, rfl, rfl, congrArg (fun b => some (Value.bool b)) (show true = (((!(recordOk (xs[k]'hi1))) || (((xs[k]'hi1).op) != 0)) || ((((xs[k]'hi1).stamp).turn) != 0)) by first | (rw [hg2] <;> rfl) | (simp [hg2]; done) | (simp only [nat_nlt] <;> simp)), trivial⟩ rfl))))))))))
        · refine J_gd rfl rfl (R_fieldAddr0 fl55_0 rfl) rfl (J_gd rfl rfl (R_load sc3 rfl (h3.one 0 rfl)) rfl (J_gd rfl rfl (R_neq rfl rfl) rfl (J_st (R_pickF rfl rfl) rfl (J_st (R_move rfl) rfl ?_))))
          refine J_if (gd := 38) rfl rfl (fun hg3 => ?_) (fun hg3 => ?_)
          · refine J_gdno rfl rfl rfl rfl (J_gdno rfl rfl rfl rfl (J_gdno rfl rfl rfl rfl (J_gdno rfl rfl rfl rfl (J_st (R_pickT rfl rfl) rfl (J_cutEnd ⟨rfl, rfl, rfl, rfl, rfl, rfl, rfl, rfl, rfl, rfl, rfl, congrArg (fun b => some (Value.bool b)) (show true = (((!(recordOk (xs[k]'hi1))) || (((xs[k]'hi1).op) != 0)) || ((((xs[k]'hi1).stamp).turn) != 0)) by first | (rw [hg2, hg3] <;> rfl) | (simp [hg2, hg3]; done) | (simp only [nat_nlt] <;> simp)), trivial⟩ rfl)))))
          · refine J_gd rfl rfl (R_fieldAddr0 fl55_1 rfl) rfl (J_gd rfl rfl (R_fieldAddr fl53_1 rfl) rfl (J_gd rfl rfl (R_load sc3 rfl (h3.one 2 rfl)) rfl (J_gd rfl rfl (R_neq rfl rfl) rfl (J_st (R_pickF rfl rfl) rfl (J_cutEnd ⟨rfl, rfl, rfl, rfl, rfl, rfl, rfl, rfl, rfl, rfl, rfl, congrArg (fun b => some (Value.bool b)) (show ((((xs[k]'hi1).stamp).turn) != 0) = (((!(recordOk (xs[k]'hi1))) || (((xs[k]'hi1).op) != 0)) || ((((xs[k]'hi1).stamp).turn) != 0)) by first | (rw [hg2, hg3] <;> rfl) | (simp [hg2, hg3]; done) | (simp only [nat_nlt] <;> simp)), trivial⟩ rfl)))))
      rintro _ rfl
      refine J_done ?_
      refine S_cond rfl (fun hc3 => ?_) (fun hc3 => ?_)
      · refine S_seq ?_
        refine S_reg [true, false, true] rfl rfl ?_
        have hbl2 : ∀ w, (Instr.build 36 ([]).toArray).run Try.prog w = .ok (.agg [.slice none 0 0, .int .i64 0, .int .i64 0, .slice none 0 0, .slice none 0 0, .slice none 0 0, .slice none 0 0].toArray) w := by clear E; intro w; kernel_rfl
        refine J_st (R_buildC [.slice none 0 0, .int .i64 0, .int .i64 0, .slice none 0 0, .slice none 0 0, .slice none 0 0, .slice none 0 0] rfl hbl2) rfl ?_
        refine J_storeS' (cs' := [.slice none 0 0, .int .i64 0, .int .i64 0, .slice none 0 0, .slice none 0 0, .slice none 0 0, .slice none 0 0]) st36 rfl rfl rfl rfl h2 (Nat.le_of_ble_eq_true rfl) rfl (fun w11 m3 h2' => ?_)
        replace h2 := h2'
        replace E := E.step m3 (fun g hg => by cases hg; omega); replace h1 := h1.mod m3 (fun g hg => by cases hg; omega); replace h3 := h3.mod m3 (fun g hg => by cases hg; omega)
        have z9 := m3.size
        refine J_st (R_assign rfl) rfl (J_done ?_)
        refine S_ret (E_inB_ret (E_lp_ret (E_inB_ret (E_doneN (l := [.cell 4 36, .tmp 5]) (vs := [.agg [.slice none 0 0, .int .i64 0, .int .i64 0, .slice none 0 0, .slice none 0 0, .slice none 0 0, .slice none 0 0].toArray, .bool false]) rfl ⟨.cell rfl (run_loadVar_st st36 h2.at rfl), .tmp rfl, trivial⟩ rfl E ?_))))
        rw [cn_bad2 hc1 hc2n hc3]
        exact ⟨_, _, _, _, _, rfl, OwC.of (⟨(⟨[], 0, 0⟩ : Graph), [], [], [], []⟩ : Cluster) (OwS.nil _ w.heap.size w.heap.size) (OwS.nil _ w.heap.size w.heap.size) (OwS.nil _ w.heap.size w.heap.size) (Own.nil _ w.heap.size w.heap.size _) (Own.nil _ w.heap.size w.heap.size _) (by have := E.size; omega) (by omega)⟩
      · refine S_skip ?_
        refine S_nil (E_inB ?_)
        refine S_reg [true, true] rfl rfl ?_
        refine J_st (R_add rfl rfl (add_nat (by unfold maxLen; omega))) rfl (J_st (R_move rfl) rfl (J_done ?_))
        refine S_nil (E_again (k + 1) (by omega) ⟨rfl, rfl, rfl, rfl, rfl, rfl, rfl, trivial⟩ ⟨E, (by omega), h1, h2, (by omega), any_step hI (by assumption) hc3⟩)
    · have hc2n : ¬ k < xs.length := by first | (have h := of_decide_eq_false hc2; omega) | (have h := hc2; simp at h; omega)
      refine S_exit (E_lp_exit (E_inB_exit ?_))
      refine S_seq ?_
      refine S_regQ mixed [(0, true)] [⟨1, 47, 0, [], false, none, some (fun w0 w v f => ∃ o, v = .agg [o, .int .i64 g.workers, .int .i64 g.cap].toArray ∧ OwF w w0.heap.size w.heap.size o g.nodes f)⟩, ⟨2, 48, 5, [.bool false, .int .i64 0, .int .i64 0, .bool false, .bool false, .bool false, .int .i64 0, .int .i64 0, .bool false, .bool false, .bool false, .int .i64 0, .int .i64 0, .bool false, .bool false, .bool false, .int .i64 0, .int .i64 0, .bool false, .bool false], false, none, none⟩] ⟨4, 8, 0, [], false, none, some (fun _ w v f => ∃ b, v = .pointer (some ⟨b, 0, none⟩) ∧ Blk w b [.slice none 0 0, .int .i64 0, .int .i64 0, .slice none 0 0, .slice none 0 0, .slice none 0 0, .slice none 0 0] ∧ f = [b])⟩ [(3, true), (5, false)] [(3, true), (4, false), (5, false)] (by kernel_rfl) (by kernel_rfl) rfl rfl rfl [(1, vxs), (2, .pointer (some ⟨b1, 0, none⟩)), (4, .pointer (some ⟨b2, 0, none⟩)), (5, .bool false), (24, vxs), (25, .int .i64 ((xs.length : Nat) : Int)), (26, .int .i64 ((k : Nat) : Int)), (27, .bool (decide (((k : Nat) : Int) < ((xs.length : Nat) : Int)))), (46, .agg [o1, .int .i64 g.workers, .int .i64 g.cap].toArray)] (fun w' => Ext w w' ∧ w6.heap.size ≤ w'.heap.size ∧ Blk w' b1 ([o1, .int .i64 g.workers, .int .i64 g.cap]) ∧ Blk w' b2 [.slice none 0 0, .int .i64 0, .int .i64 0, .slice none 0 0, .slice none 0 0, .slice none 0 0, .slice none 0 0]) (fun w12 e6 => ?_) (fun w12 hphi_w12 => ?_)
      · replace E := E.trans e6; replace h1 := h1.ext e6; replace h2 := h2.ext e6
        have z10 := e6.size
        refine J_st (R_loadS st30 rfl h1.at rfl) rfl (J_cutEnd ⟨rfl, rfl, rfl, rfl, rfl, rfl, rfl, rfl, rfl, trivial⟩ ⟨E, (by omega), h1, h2⟩)
      clear E h1 h2
      obtain ⟨E, z11, h1, h2⟩ := hphi_w12
      refine ⟨⟨⟨_, rfl, rfl, rfl, rfl, ?_⟩, ⟨_, rfl, rfl, rfl, rfl, ?_⟩, ⟨_, rfl, rfl, rfl, rfl, ?_⟩, trivial⟩, ?_, ?_⟩
      · exact step_callX Try.call28 rfl (fun wX eX => by have E := E.trans eX; exact Ct.mono (c_copyGraph [o1, .int .i64 g.workers, .int .i64 g.cap] g _ (Graph.mkR g (RdD.any (hd1.ext E))) hb) fun v w' e h => by obtain ⟨o, rfl, h⟩ := h; obtain ⟨f, h⟩ := OwS.owf h; exact ⟨f, ⟨o, rfl, h.widen eX.size (Nat.le_refl _)⟩, h.in2⟩)
      · exact step_make (m := 4) sl33 rfl rfl (by decide) (by decide) rfl rfl
      · exact step_box st36
      · intro w13 e7
        intro v1 f1 ho1 v2 f2 ho2 v3 f3 ho3 sp1
        obtain ⟨_, _, eX, ⟨v1, rfl, ho1⟩, _⟩ := ho1; replace ho1 := OwF.widen (OwF.ext ho1 eX) (Nat.le_refl _) eX.size
        obtain ⟨ho2, rfl⟩ := ho2
        obtain ⟨_, _, eX, ⟨v3, rfl, ho3, rfl⟩, f3b⟩ := ho3; replace ho3 := Blk.ext ho3 eX; replace f3b := And.intro (f3b v3 (by simp)).1 ho3.lt; clear eX
        replace sp1 : DjL [f1, (blks v2), [v3]] := sp1
        have g_sp1 : w.heap.size ≤ w12.heap.size := E.size
        replace E := E.trans e7; replace h1 := h1.ext e7; replace h2 := h2.ext e7
        have z12 := e7.size
        replace ho2 : Own w13 w12.heap.size w13.heap.size 5 v2 (List.flatMap (Enc.enc (α := Token)) [(⟨false, 0, 0, false, false⟩ : Token), (⟨false, 0, 0, false, false⟩ : Token), (⟨false, 0, 0, false, false⟩ : Token), (⟨false, 0, 0, false, false⟩ : Token)]) := ho2
        have g_v3 : w.heap.size ≤ v3 := by have := E.size; omega
        have y_v3 := ho3.lt
        refine J_sub [(1, vxs), (2, .pointer (some ⟨b1, 0, none⟩)), (4, .pointer (some ⟨b2, 0, none⟩)), (5, .bool false), (8, .pointer (some ⟨v3, 0, none⟩)), (24, vxs), (25, .int .i64 ((xs.length : Nat) : Int)), (26, .int .i64 ((k : Nat) : Int)), (27, .bool (decide (((k : Nat) : Int) < ((xs.length : Nat) : Int)))), (46, .agg [o1, .int .i64 g.workers, .int .i64 g.cap].toArray), (47, .agg [v1, .int .i64 g.workers, .int .i64 g.cap].toArray), (48, v2)] ⟨rfl, rfl, rfl, rfl, rfl, rfl, rfl, rfl, rfl, rfl, rfl, rfl, trivial⟩ ?_
        have hbl3 : ∀ w, (Instr.build 36 ([(0, .agg [v1, .int .i64 g.workers, .int .i64 g.cap].toArray), (3, v2)]).toArray).run Try.prog w = .ok (.agg [v1, .int .i64 g.workers, .int .i64 g.cap, .slice none 0 0, .slice none 0 0, v2, .slice none 0 0].toArray) w := by clear E; obtain ⟨_, _, _, rfl⟩ := SlLen.shape (RdD.len (OwF.rd ho1)); obtain ⟨_, _, _, rfl⟩ := Own.shape ho2; intro w; kernel_rfl
        refine J_st (R_buildC [v1, .int .i64 g.workers, .int .i64 g.cap, .slice none 0 0, .slice none 0 0, v2, .slice none 0 0] rfl hbl3) rfl ?_
        refine J_storeS' (cs' := [v1, .int .i64 g.workers, .int .i64 g.cap, .slice none 0 0, .slice none 0 0, v2, .slice none 0 0]) st36 rfl rfl rfl (all_cons (RdD.one (OwF.rd ho1)) (all_cons rfl (all_cons rfl (all_cons rfl (all_cons rfl (all_cons ho2.one (all_cons rfl rfl))))))) ho3 (Nat.le_of_ble_eq_true rfl) rfl (fun w14 m4 ho3' => ?_)
        replace ho3 := ho3'
        have kq1 := Mod.kq (l := [v3]) m4 (fun g hg => by cases hg; simp)
        replace E := E.step m4 (fun g hg => by cases hg; omega); replace h1 := h1.mod m4 (fun g hg => by cases hg; omega); replace h2 := h2.mod m4 (fun g hg => by cases hg; omega); replace ho1 := OwF.kp ho1 (Kq.kp kq1 sp1.1.2.1); replace ho2 := Own.kp ho2 (Kq.kp kq1 sp1.2.1.1)
        have z13 := m4.size
        refine J_done ?_
        refine S_seq ?_
        refine S_seq ?_
        refine S_reg [true] rfl rfl ?_
        refine J_st (R_assign rfl) rfl (J_done ?_)
        refine S_block ?_
        refine S_loop (fun (xq : Nat × Value × Value × List Nat × List Nat) => let ⟨k, vW, vL, fW, fL⟩ := xq; [(1, vxs), (2, .pointer (some ⟨b1, 0, none⟩)), (4, .pointer (some ⟨b2, 0, none⟩)), (5, .bool false), (8, .pointer (some ⟨v3, 0, none⟩)), (9, .int .i64 ((k : Nat) : Int))]) (fun (xq : Nat × Value × Value × List Nat × List Nat) w' => let ⟨k, vW, vL, fW, fL⟩ := xq; Ext w w' ∧ w14.heap.size ≤ w'.heap.size ∧ Blk w' b1 ([o1, .int .i64 g.workers, .int .i64 g.cap]) ∧ Blk w' b2 [.slice none 0 0, .int .i64 0, .int .i64 0, .slice none 0 0, .slice none 0 0, .slice none 0 0, .slice none 0 0] ∧ OwF w' w12.heap.size w13.heap.size v1 g.nodes f1 ∧ Own w' w12.heap.size w13.heap.size 5 v2 (List.flatMap (Enc.enc (α := Token)) [(⟨false, 0, 0, false, false⟩ : Token), (⟨false, 0, 0, false, false⟩ : Token), (⟨false, 0, 0, false, false⟩ : Token), (⟨false, 0, 0, false, false⟩ : Token)]) ∧ k ≤ Int.toNat g.workers ∧ OwF w' w14.heap.size w'.heap.size vW (newWs g xs k) fW ∧ OwF w' w14.heap.size w'.heap.size vL (List.replicate (k * Int.toNat g.workers) (linkNew g.cap)) fL ∧ DjL [fW, fL] ∧ Blk w' v3 [v1, .int .i64 g.workers, .int .i64 g.cap, vW, vL, v2, .slice none 0 0]) (fun (xq : Nat × Value × Value × List Nat × List Nat) => let ⟨k, vW, vL, fW, fL⟩ := xq; Int.toNat g.workers - k) (0, .slice none 0 0, .slice none 0 0, [], []) ⟨rfl, rfl, rfl, rfl, rfl, rfl, trivial⟩ ⟨E, Nat.le_refl _, h1, h2, ho1, ho2, Nat.zero_le _, OwF.nil _ _ _, (by rw [Nat.zero_mul]; exact OwF.nil _ _ _), ⟨⟨(fun _ h => absurd h List.not_mem_nil), trivial⟩, trivial, trivial⟩, ho3⟩ ?_
        clear E h1 h2 ho1 ho2 ho3
        rintro ⟨k, vW, vL, fW, fL⟩ w15 ⟨E, z14, h1, h2, ho1, ho2, hk, oW, oL, gW, ho3⟩
        refine S_sub [(1, vxs), (2, .pointer (some ⟨b1, 0, none⟩)), (4, .pointer (some ⟨b2, 0, none⟩)), (5, .bool false), (8, .pointer (some ⟨v3, 0, none⟩)), (9, .int .i64 ((k : Nat) : Int))] ⟨rfl, rfl, rfl, rfl, rfl, rfl, trivial⟩ ?_
        have hkn : k * Int.toNat g.workers ≤ 16 := Nat.le_trans (Nat.mul_le_mul (show k ≤ 4 by omega) (show Int.toNat g.workers ≤ 4 by omega)) (by decide)
        refine S_seq ?_
        refine S_seq ?_
        refine S_reg [true, true, true, true] rfl rfl ?_
        refine J_st (R_move rfl) rfl (J_st (R_fieldAddr0 fl30_1 rfl) rfl (J_st (R_load sc3 rfl (h1.one 1 rfl)) rfl (J_st (R_lss rfl rfl) rfl (J_done ?_))))
        refine S_cond rfl (fun hc4 => ?_) (fun hc4 => ?_)
        · have hlthc4 : k < Int.toNat g.workers := by have h := of_decide_eq_true hc4; omega
          refine S_skip ?_
          refine S_seq ?_
          refine S_block ?_
          refine S_seq ?_
          refine S_reg [true] rfl rfl ?_
          refine J_st (R_assign rfl) rfl (J_done ?_)
          refine S_seq ?_
          refine S_seq ?_
          refine S_reg [true] rfl rfl ?_
          refine J_st (R_assign rfl) rfl (J_done ?_)
          refine S_block ?_
          refine S_loop (fun (xq : Nat × Value) => let ⟨e, vo⟩ := xq; [(1, vxs), (2, .pointer (some ⟨b1, 0, none⟩)), (4, .pointer (some ⟨b2, 0, none⟩)), (5, .bool false), (8, .pointer (some ⟨v3, 0, none⟩)), (9, .int .i64 ((k : Nat) : Int)), (10, vo), (11, .int .i64 ((e : Nat) : Int))]) (fun (xq : Nat × Value) w' => let ⟨e, vo⟩ := xq; Ext w w' ∧ w15.heap.size ≤ w'.heap.size ∧ Blk w' b1 ([o1, .int .i64 g.workers, .int .i64 g.cap]) ∧ Blk w' b2 [.slice none 0 0, .int .i64 0, .int .i64 0, .slice none 0 0, .slice none 0 0, .slice none 0 0, .slice none 0 0] ∧ OwF w' w12.heap.size w13.heap.size v1 g.nodes f1 ∧ Own w' w12.heap.size w13.heap.size 5 v2 (List.flatMap (Enc.enc (α := Token)) [(⟨false, 0, 0, false, false⟩ : Token), (⟨false, 0, 0, false, false⟩ : Token), (⟨false, 0, 0, false, false⟩ : Token), (⟨false, 0, 0, false, false⟩ : Token)]) ∧ OwF w' w14.heap.size w15.heap.size vW (newWs g xs k) fW ∧ OwF w' w14.heap.size w15.heap.size vL (List.replicate (k * Int.toNat g.workers) (linkNew g.cap)) fL ∧ Blk w' v3 [v1, .int .i64 g.workers, .int .i64 g.cap, vW, vL, v2, .slice none 0 0] ∧ e ≤ 4 ∧ Own w' w15.heap.size w'.heap.size 5 vo (List.flatMap (Enc.enc (α := Record)) (ownTo g.workers ((k : Nat) : Int) xs e))) (fun (xq : Nat × Value) => let ⟨e, vo⟩ := xq; 4 - e) (0, .slice none 0 0) ⟨rfl, rfl, rfl, rfl, rfl, rfl, rfl, rfl, trivial⟩ ⟨E, Nat.le_refl _, h1, h2, ho1, ho2, oW, oL, ho3, Nat.zero_le _, Own.fin (Own.nil w15 w15.heap.size w15.heap.size 5) (by omega) (by omega) rfl⟩ ?_
          clear E h1 h2 ho1 ho2 oW oL ho3
          rintro ⟨e, vo⟩ w16 ⟨E, z15, h1, h2, ho1, ho2, oW, oL, ho3, he, ho⟩
          refine S_sub [(1, vxs), (2, .pointer (some ⟨b1, 0, none⟩)), (4, .pointer (some ⟨b2, 0, none⟩)), (5, .bool false), (8, .pointer (some ⟨v3, 0, none⟩)), (9, .int .i64 ((k : Nat) : Int)), (10, vo), (11, .int .i64 ((e : Nat) : Int))] ⟨rfl, rfl, rfl, rfl, rfl, rfl, rfl, rfl, trivial⟩ ?_
          have hol := @ownTo_len4 g.workers ((k : Nat) : Int) xs e he
          refine S_seq ?_
          refine S_seq ?_
          refine S_reg [true, true] rfl rfl ?_
          refine J_st (R_move rfl) rfl (J_st (R_leq rfl rfl) rfl (J_done ?_))
          refine S_cond rfl (fun hc5 => ?_) (fun hc5 => ?_)
          · have hc5n : e ≤ 3 := by first | (have h := of_decide_eq_true hc5; omega) | (have h := hc5; simp at h; omega)
            refine S_skip ?_
            refine S_seq ?_
            refine S_block ?_
            refine S_seq ?_
            refine S_reg [true, true, false, true, true] rfl rfl ?_
            refine J_st (R_move rfl) rfl (J_st (R_move rfl) rfl ?_)
            refine J_call Try.call29 rfl (c_OfEpoch vxs xs ((e : Nat) : Int) _ (hxs.ext E) (by omega)) rfl (fun v4 w17 e8 ho4 => ?_)
            have g_ho4 : w.heap.size ≤ w16.heap.size := E.size
            replace E := E.trans e8; replace h1 := h1.ext e8; replace h2 := h2.ext e8; replace ho1 := ho1.ext e8; replace ho2 := ho2.ext e8; replace oW := oW.ext e8; replace oL := oL.ext e8; replace ho3 := ho3.ext e8; replace ho := ho.ext e8
            have z16 := e8.size
            refine J_st (R_len Try.underlying40 rfl (Own.len (by decide) ho4)) rfl (J_st (R_move rfl) rfl (J_done ?_))
            refine S_block ?_
            refine S_loop (fun (xq : Nat × Value) => let ⟨i, vp⟩ := xq; [(1, vxs), (2, .pointer (some ⟨b1, 0, none⟩)), (4, .pointer (some ⟨b2, 0, none⟩)), (5, .bool false), (8, .pointer (some ⟨v3, 0, none⟩)), (9, .int .i64 ((k : Nat) : Int)), (10, vp), (11, .int .i64 ((e : Nat) : Int)), (62, v4), (63, .int .i64 (((xs.filter (ofE ((e : Nat) : Int))).length : Nat) : Int)), (64, .int .i64 ((i : Nat) : Int))]) (fun (xq : Nat × Value) w' => let ⟨i, vp⟩ := xq; Ext w w' ∧ w17.heap.size ≤ w'.heap.size ∧ Blk w' b1 ([o1, .int .i64 g.workers, .int .i64 g.cap]) ∧ Blk w' b2 [.slice none 0 0, .int .i64 0, .int .i64 0, .slice none 0 0, .slice none 0 0, .slice none 0 0, .slice none 0 0] ∧ OwF w' w12.heap.size w13.heap.size v1 g.nodes f1 ∧ Own w' w12.heap.size w13.heap.size 5 v2 (List.flatMap (Enc.enc (α := Token)) [(⟨false, 0, 0, false, false⟩ : Token), (⟨false, 0, 0, false, false⟩ : Token), (⟨false, 0, 0, false, false⟩ : Token), (⟨false, 0, 0, false, false⟩ : Token)]) ∧ OwF w' w14.heap.size w15.heap.size vW (newWs g xs k) fW ∧ OwF w' w14.heap.size w15.heap.size vL (List.replicate (k * Int.toNat g.workers) (linkNew g.cap)) fL ∧ Blk w' v3 [v1, .int .i64 g.workers, .int .i64 g.cap, vW, vL, v2, .slice none 0 0] ∧ Own w' w16.heap.size w17.heap.size 5 v4 (List.flatMap (Enc.enc (α := Record)) (xs.filter (ofE ((e : Nat) : Int)))) ∧ i ≤ (xs.filter (ofE ((e : Nat) : Int))).length ∧ Own w' w15.heap.size w'.heap.size 5 vp (List.flatMap (Enc.enc (α := Record)) (ownTo g.workers ((k : Nat) : Int) xs e ++ ((xs.filter (ofE ((e : Nat) : Int))).take i).filter (mineP g.workers ((k : Nat) : Int)))) ∧ ∀ g, Value.ownBlock vp = some g → g < w16.heap.size ∨ w17.heap.size ≤ g) (fun (xq : Nat × Value) => let ⟨i, vp⟩ := xq; (xs.filter (ofE ((e : Nat) : Int))).length - i) (0, vo) ⟨rfl, rfl, rfl, rfl, rfl, rfl, rfl, rfl, rfl, rfl, rfl, trivial⟩ ⟨E, Nat.le_refl _, h1, h2, ho1, ho2, oW, oL, ho3, ho4, Nat.zero_le _, Own.fin ho (by omega) (by omega) (by simp), (fun g hg => .inl (by have := Own.blk ho g hg; omega))⟩ ?_
            clear E h1 h2 ho1 ho2 oW oL ho3 ho ho4
            rintro ⟨i, vp⟩ w18 ⟨E, z17, h1, h2, ho1, ho2, oW, oL, ho3, ho4, hi, hp, hpN⟩
            refine S_sub [(1, vxs), (2, .pointer (some ⟨b1, 0, none⟩)), (4, .pointer (some ⟨b2, 0, none⟩)), (5, .bool false), (8, .pointer (some ⟨v3, 0, none⟩)), (9, .int .i64 ((k : Nat) : Int)), (10, vp), (11, .int .i64 ((e : Nat) : Int)), (62, v4), (63, .int .i64 (((xs.filter (ofE ((e : Nat) : Int))).length : Nat) : Int)), (64, .int .i64 ((i : Nat) : Int))] ⟨rfl, rfl, rfl, rfl, rfl, rfl, rfl, rfl, rfl, rfl, rfl, trivial⟩ ?_
            have hpl := @own_len _ (xs.filter (ofE ((e : Nat) : Int))) (mineP g.workers ((k : Nat) : Int)) i
            have hfl := ofE_len ((e : Nat) : Int) xs
            refine S_seq ?_
            refine S_reg [true] rfl rfl ?_
            refine J_st (R_lss rfl rfl) rfl (J_done ?_)
            refine S_seq ?_
            refine S_cond rfl (fun hc6 => ?_) (fun hc6 => ?_)
            · have hc6n : i < (xs.filter (ofE ((e : Nat) : Int))).length := by first | (have h := of_decide_eq_true hc6; omega) | (have h := hc6; simp at h; omega)
              refine S_skip ?_
              refine S_seq ?_
              refine S_block ?_
              refine S_seq ?_
              refine S_reg [true, true, false, false] rfl rfl ?_
              have hi2 : i < (xs.filter (ofE ((e : Nat) : Int))).length := (by first | assumption | omega | (simp only [List.length_set]; first | assumption | omega) | (simp only [List.getElem_set_self, List.length_set]; first | assumption | omega) | (simp only [setW, setLk, List.length_set]; first | assumption | omega))
              refine J_st (R_index (i := i) sl40 rfl rfl (Own.rd (by decide) ho4) hi2) rfl (J_st (R_loadS st55 rfl ((Own.rd (by decide) ho4).get hi2) rfl) rfl ?_)
              refine J_alloc st55 rfl (fun b4 w19 e9 s4 h4 => ?_)
              have g_b4 : w.heap.size ≤ b4 := by have := E.size; omega
              have y_b4 := h4.lt
              replace E := E.trans e9; replace h1 := h1.ext e9; replace h2 := h2.ext e9; replace ho1 := ho1.ext e9; replace ho2 := ho2.ext e9; replace oW := oW.ext e9; replace oL := oL.ext e9; replace ho3 := ho3.ext e9; replace ho4 := ho4.ext e9; replace hp := hp.ext e9
              have z18 := e9.size
              refine J_storeS' (cs' := [.int .i64 (((xs.filter (ofE ((e : Nat) : Int)))[i]'hi2).op), .int .i64 ((((xs.filter (ofE ((e : Nat) : Int)))[i]'hi2).stamp).epoch), .int .i64 ((((xs.filter (ofE ((e : Nat) : Int)))[i]'hi2).stamp).turn), .int .i64 (((xs.filter (ofE ((e : Nat) : Int)))[i]'hi2).key), .int .i64 (((xs.filter (ofE ((e : Nat) : Int)))[i]'hi2).val)]) st55 rfl rfl rfl rfl h4 (Nat.le_of_ble_eq_true rfl) rfl (fun w20 m5 h4' => ?_)
              replace h4 := h4'
              replace E := E.step m5 (fun g hg => by cases hg; omega); replace h1 := h1.mod m5 (fun g hg => by cases hg; omega); replace h2 := h2.mod m5 (fun g hg => by cases hg; omega); replace ho1 := ho1.mod m5 (fun g hg => by cases hg; omega); replace ho2 := ho2.mod m5 (fun g hg => by cases hg; omega); replace oW := oW.mod m5 (fun g hg => by cases hg; omega); replace oL := oL.mod m5 (fun g hg => by cases hg; omega); replace ho3 := ho3.mod m5 (fun g hg => by cases hg; omega); replace ho4 := ho4.mod m5 (fun g hg => by cases hg; omega); replace hp := Own.modN hp m5 (fun g hg hv => by have hN := hpN g hv; have hB := Own.blk hp g hv; cases hg; omega)
              have z19 := m5.size
              refine J_done ?_
              refine S_seq ?_
              refine S_reg [true, true, true, true, false, true, true] rfl rfl ?_
              refine J_st (R_fieldAddr0 fl55_2 rfl) rfl (J_st (R_load sc3 rfl (h4.one 3 rfl)) rfl (J_st (R_fieldAddr0 fl30_1 rfl) rfl (J_st (R_load sc3 rfl (h1.one 1 rfl)) rfl ?_)))
              refine J_call Try.call30 rfl (c_OwnerOf (((xs.filter (ofE ((e : Nat) : Int)))[i]'hi2).key) g.workers _ (rg4 hgw)) rfl (fun _ w21 e10 hv => ?_)
              subst hv
              replace E := E.trans e10; replace h1 := h1.ext e10; replace h2 := h2.ext e10; replace ho1 := ho1.ext e10; replace ho2 := ho2.ext e10; replace oW := oW.ext e10; replace oL := oL.ext e10; replace ho3 := ho3.ext e10; replace ho4 := ho4.ext e10; replace hp := hp.ext e10; replace h4 := h4.ext e10
              have z20 := e10.size
              refine J_st (R_move rfl) rfl (J_st (R_eql rfl rfl) rfl (J_done ?_))
              refine S_cond rfl (fun hc7 => ?_) (fun hc7 => ?_)
              · refine S_reg [true, true, false, false, true] rfl rfl ?_
                refine J_st (R_move rfl) rfl (J_st (R_loadS st55 rfl h4.at rfl) rfl ?_)
                refine J_buildSlice (vs := [.agg (Enc.enc ((xs.filter (ofE ((e : Nat) : Int)))[i]'hi2)).toArray]) (css := [[.int .i64 (((xs.filter (ofE ((e : Nat) : Int)))[i]'hi2).op), .int .i64 ((((xs.filter (ofE ((e : Nat) : Int)))[i]'hi2).stamp).epoch), .int .i64 ((((xs.filter (ofE ((e : Nat) : Int)))[i]'hi2).stamp).turn), .int .i64 (((xs.filter (ofE ((e : Nat) : Int)))[i]'hi2).key), .int .i64 (((xs.filter (ofE ((e : Nat) : Int)))[i]'hi2).val)]]) sl40 rfl rfl ⟨⟨rfl, rfl⟩, trivial⟩ rfl rfl (fun b5 w22 e11 s5 h5 => ?_)
                replace h5 : Blk w22 b5 [.int .i64 (((xs.filter (ofE ((e : Nat) : Int)))[i]'hi2).op), .int .i64 ((((xs.filter (ofE ((e : Nat) : Int)))[i]'hi2).stamp).epoch), .int .i64 ((((xs.filter (ofE ((e : Nat) : Int)))[i]'hi2).stamp).turn), .int .i64 (((xs.filter (ofE ((e : Nat) : Int)))[i]'hi2).key), .int .i64 (((xs.filter (ofE ((e : Nat) : Int)))[i]'hi2).val)] := h5
                have g_b5 : w.heap.size ≤ b5 := by have := E.size; omega
                have y_b5 := h5.lt
                replace E := E.trans e11; replace h1 := h1.ext e11; replace h2 := h2.ext e11; replace ho1 := ho1.ext e11; replace ho2 := ho2.ext e11; replace oW := oW.ext e11; replace oL := oL.ext e11; replace ho3 := ho3.ext e11; replace ho4 := ho4.ext e11; replace hp := hp.ext e11; replace h4 := h4.ext e11
                have z21 := e11.size
                refine J_appendB sl40 rfl rfl hp (Src.ofBlk h5 rfl) rfl (by simp only [sum_flat, List.length_append, List.length_cons, List.length_nil]; simp only [Enc.sz]; omega) (by decide) (by omega) (by omega) rfl rfl (fun v5 w23 m6 ho5 hb1 => ?_)
                have hn1 : ∀ g, Value.ownBlock v5 = some g → g < w16.heap.size ∨ w17.heap.size ≤ g := fun g hg => (hb1 g hg).elim (fun h => hpN g h) (fun h => by omega)
                replace E := E.step m6 (fun g hg => by have := Own.blk hp g hg; have := hpN g hg; omega); replace h1 := h1.mod m6 (fun g hg => by have := Own.blk hp g hg; have := hpN g hg; omega); replace h2 := h2.mod m6 (fun g hg => by have := Own.blk hp g hg; have := hpN g hg; omega); replace ho1 := ho1.mod m6 (fun g hg => by have := Own.blk hp g hg; have := hpN g hg; omega); replace ho2 := ho2.mod m6 (fun g hg => by have := Own.blk hp g hg; have := hpN g hg; omega); replace oW := oW.mod m6 (fun g hg => by have := Own.blk hp g hg; have := hpN g hg; omega); replace oL := oL.mod m6 (fun g hg => by have := Own.blk hp g hg; have := hpN g hg; omega); replace ho3 := ho3.mod m6 (fun g hg => by have := Own.blk hp g hg; have := hpN g hg; omega); replace ho4 := ho4.mod m6 (fun g hg => by have := Own.blk hp g hg; have := hpN g hg; omega); replace h4 := h4.mod m6 (fun g hg => by have := Own.blk hp g hg; have := hpN g hg; omega)
                have z22 := m6.size
                refine J_st (R_assign rfl) rfl (J_done ?_)
                refine S_nil (E_inB ?_)
                refine S_reg [true, true] rfl rfl ?_
                refine J_st (R_add rfl rfl (add_nat (by unfold maxLen; omega))) rfl (J_st (R_move rfl) rfl (J_done ?_))
                refine S_nil (E_again (i + 1, v5) (by simp; omega) ⟨rfl, rfl, rfl, rfl, rfl, rfl, rfl, rfl, rfl, rfl, rfl, trivial⟩ ⟨E, (by omega), h1, h2, ho1, ho2, oW, oL, ho3, ho4, (by omega), Own.fin ho5 (by omega) (by omega) (own_yes (by assumption) (by simpa [bothP, mineP, ofE] using hc7)), hn1⟩)
              · refine S_skip ?_
                refine S_nil (E_inB ?_)
                refine S_reg [true, true] rfl rfl ?_
                refine J_st (R_add rfl rfl (add_nat (by unfold maxLen; omega))) rfl (J_st (R_move rfl) rfl (J_done ?_))
                refine S_nil (E_again (i + 1, vp) (by simp; omega) ⟨rfl, rfl, rfl, rfl, rfl, rfl, rfl, rfl, rfl, rfl, rfl, trivial⟩ ⟨E, (by omega), h1, h2, ho1, ho2, oW, oL, ho3, ho4, (by omega), Own.fin hp (by omega) (by omega) (own_no (by assumption) (by simpa [bothP, mineP, ofE] using hc7)), hpN⟩)
            · have hc6n : ¬ i < (xs.filter (ofE ((e : Nat) : Int))).length := by first | (have h := of_decide_eq_false hc6; omega) | (have h := hc6; simp at h; omega)
              refine S_exit (E_lp_exit (E_inB_exit ?_))
              refine S_nil (E_inB ?_)
              refine S_reg [true, true, true] rfl rfl ?_
              refine J_st (R_move rfl) rfl (J_st (R_add rfl rfl (add_nat (by unfold maxLen; omega))) rfl (J_st (R_assign rfl) rfl (J_done ?_)))
              refine S_nil (E_again (e + 1, vp) (by simp; omega) ⟨rfl, rfl, rfl, rfl, rfl, rfl, rfl, rfl, trivial⟩ ⟨E, (by omega), h1, h2, ho1, ho2, oW, oL, ho3, (by omega), Own.fin hp (by omega) (by omega) (by rw [own_end2 (by omega)])⟩)
          · have hc5n : ¬ e ≤ 3 := by first | (have h := of_decide_eq_false hc5; omega) | (have h := hc5; simp at h; omega)
            refine S_exit (E_lp_exit (E_inB_exit ?_))
            refine S_seq ?_
            refine S_regX mixed [5] [(0, true), (1, true), (2, true), (3, false), (4, false)] [(5, false), (6, true), (7, false)] (by decide +kernel) rfl rfl (fun w24 e12 => ?_)
            replace E := E.trans e12; replace h1 := h1.ext e12; replace h2 := h2.ext e12; replace ho1 := ho1.ext e12; replace ho2 := ho2.ext e12; replace oW := oW.ext e12; replace oL := oL.ext e12; replace ho3 := ho3.ext e12; replace ho := ho.ext e12
            have z23 := e12.size
            refine J_st (R_fieldAddr0 fl36_1 rfl) rfl (J_st (R_load sc31 rfl (ho3.one 3 rfl)) rfl (J_st (R_move rfl) rfl ?_))
            refine J_call Try.call31 rfl (c_WorkerNew vo (ownTo g.workers ((k : Nat) : Int) xs e) _ (Own.rd (by decide) ho) (by have := @ownTo_len4 g.workers ((k : Nat) : Int) xs 4 (by omega); omega)) rfl (fun _ w25 e13 ho6 => ?_)
            obtain ⟨_, rfl, ho6⟩ := ho6
            have g_ho6 : w.heap.size ≤ w24.heap.size := E.size
            replace E := E.trans e13; replace h1 := h1.ext e13; replace h2 := h2.ext e13; replace ho1 := ho1.ext e13; replace ho2 := ho2.ext e13; replace oW := oW.ext e13; replace oL := oL.ext e13; replace ho3 := ho3.ext e13; replace ho := ho.ext e13
            have z24 := e13.size
            obtain ⟨o2, o3, o4, o5, o6, o7, o8, o9, rfl, sp2, hw1, hw2, hw3, hw4, hw5, hw6, hw7, hw8⟩ := Worker.opO ho6
            refine J_buildSlice (vs := [.agg [o2, o3, o4, o5, o6, o7, o8, o9].toArray]) (css := [[o2, o3, o4, o5, o6, o7, o8, o9]]) sl31 rfl rfl ⟨⟨rfl, rfl⟩, trivial⟩ rfl rfl (fun b6 w26 e14 s6 h6 => ?_)
            replace h6 : Blk w26 b6 [o2, o3, o4, o5, o6, o7, o8, o9] := h6
            have g_b6 : w.heap.size ≤ b6 := by have := E.size; omega
            have y_b6 := h6.lt
            replace E := E.trans e14; replace h1 := h1.ext e14; replace h2 := h2.ext e14; replace ho1 := ho1.ext e14; replace ho2 := ho2.ext e14; replace oW := oW.ext e14; replace oL := oL.ext e14; replace ho3 := ho3.ext e14; replace ho := ho.ext e14; replace hw1 := hw1.ext e14; replace hw2 := hw2.ext e14; replace hw3 := hw3.ext e14; replace hw4 := hw4.ext e14; replace hw5 := hw5.ext e14; replace hw6 := hw6.ext e14; replace hw7 := hw7.ext e14; replace hw8 := hw8.ext e14
            have z25 := e14.size
            refine JX_tail ?_
            refine J2_X rfl ?_
            have hy1 : Own1.O (α := Worker) w26 w24.heap.size w26.heap.size [o2, o3, o4, o5, o6, o7, o8, o9] (workerNew (ownTo g.workers ((k : Nat) : Int) xs e)) := Worker.mkO (workerNew (ownTo g.workers ((k : Nat) : Int) xs e)) sp2 (Own.widen hw1 (by omega) (by omega)) (Own.widen hw2 (by omega) (by omega)) (Own.widen hw3 (by omega) (by omega)) (Own.widen hw4 (by omega) (by omega)) (Own.widen hw5 (by omega) (by omega)) (Own.widen hw6 (by omega) (by omega)) (Own.widen hw7 (by omega) (by omega)) (Own.widen hw8 (by omega) (by omega))
            refine J_appendF (lo := w14.heap.size) (hi := w15.heap.size) (lo2 := w24.heap.size) (hi2 := w26.heap.size) sl31 rfl rfl oW (Src.ofBlk h6 rfl) hy1 (fun b hb hc => by have := OwF.in2 oW b hb; have := Own1.inn hy1 b hc; omega) (by simp only [newWs_len, List.length_replicate, show Dat.sz Worker = 8 from rfl, show Dat.sz Link = 6 from rfl]; omega) (by decide) (by omega) (by omega) (by omega) (by omega) (by omega) rfl rfl (fun v6 w27 f4 m7 ho7 hin1 => ?_)
            have hqb := OwS.inn (OwF.ows oW)
            have kq2 := Mod.kq (l := fW) m7 (OwF.v_mem oW)
            replace E := E.step m7 (fun g hg => by have := hqb g hg; omega); replace h1 := h1.mod m7 (fun g hg => by have := hqb g hg; omega); replace h2 := h2.mod m7 (fun g hg => by have := hqb g hg; omega); replace ho1 := ho1.mod m7 (fun g hg => by have := hqb g hg; omega); replace ho2 := ho2.mod m7 (fun g hg => by have := hqb g hg; omega); replace oL := OwF.kp oL (Kq.kp kq2 (gW.1.1).symm); replace ho3 := ho3.mod m7 (fun g hg => by have := hqb g hg; omega); replace ho := ho.mod m7 (fun g hg => by have := hqb g hg; omega)
            have z26 := m7.size
            replace gW := DjL.set (N := w24.heap.size) hin1 0 rfl gW ⟨(fun b hb => by have := OwF.in2 oW b hb; omega), (fun b hb => by have := OwF.in2 oL b hb; omega), trivial⟩
            replace gW : DjL [f4, fL] := gW
            clear hqb hy1 kq2 oW
            refine JX_go ?_
            refine J_st (R_fieldAddr0 fl36_1 rfl) rfl ?_
            refine J_store' (cs' := [v1, .int .i64 g.workers, .int .i64 g.cap, v6, vL, v2, .slice none 0 0]) sc31 rfl rfl (RdD.one (OwF.rd ho7)) ho3 (Nat.le_of_ble_eq_true rfl) rfl (fun w28 m8 ho3' => ?_)
            replace ho3 := ho3'
            have kq3 := Mod.kq (l := [v3]) m8 (fun g hg => by cases hg; simp)
            replace E := E.step m8 (fun g hg => by cases hg; omega); replace h1 := h1.mod m8 (fun g hg => by cases hg; omega); replace h2 := h2.mod m8 (fun g hg => by cases hg; omega); replace ho1 := OwF.kp ho1 (Kq.kp kq3 sp1.1.2.1); replace ho2 := Own.kp ho2 (Kq.kp kq3 sp1.2.1.1); replace oL := oL.mod m8 (fun g hg => by cases hg; omega); replace ho := ho.mod m8 (fun g hg => by cases hg; omega); replace ho7 := ho7.mod m8 (fun g hg => by cases hg; omega)
            have z27 := m8.size
            refine J_done ?_
            refine S_seq ?_
            refine S_reg [true] rfl rfl ?_
            refine J_st (R_assign rfl) rfl (J_done ?_)
            refine S_block ?_
            refine S_loop (fun (xq : Nat × Value × List Nat) => let ⟨j, vM, fM⟩ := xq; [(1, vxs), (2, .pointer (some ⟨b1, 0, none⟩)), (4, .pointer (some ⟨b2, 0, none⟩)), (5, .bool false), (8, .pointer (some ⟨v3, 0, none⟩)), (9, .int .i64 ((k : Nat) : Int)), (14, .int .i64 ((j : Nat) : Int)), (80, .pointer (some ⟨v3, 3, none⟩)), (86, .pointer (some ⟨v3, 3, none⟩))]) (fun (xq : Nat × Value × List Nat) w' => let ⟨j, vM, fM⟩ := xq; Ext w w' ∧ w28.heap.size ≤ w'.heap.size ∧ Blk w' b1 ([o1, .int .i64 g.workers, .int .i64 g.cap]) ∧ Blk w' b2 [.slice none 0 0, .int .i64 0, .int .i64 0, .slice none 0 0, .slice none 0 0, .slice none 0 0, .slice none 0 0] ∧ OwF w' w12.heap.size w13.heap.size v1 g.nodes f1 ∧ Own w' w12.heap.size w13.heap.size 5 v2 (List.flatMap (Enc.enc (α := Token)) [(⟨false, 0, 0, false, false⟩ : Token), (⟨false, 0, 0, false, false⟩ : Token), (⟨false, 0, 0, false, false⟩ : Token), (⟨false, 0, 0, false, false⟩ : Token)]) ∧ OwF w' w14.heap.size w27.heap.size v6 ((newWs g xs k) ++ [(workerNew (ownTo g.workers ((k : Nat) : Int) xs e))]) f4 ∧ j ≤ Int.toNat g.workers ∧ OwF w' w14.heap.size w'.heap.size vM (List.replicate (k * Int.toNat g.workers + j) (linkNew g.cap)) fM ∧ DjL [f4, fM] ∧ Blk w' v3 [v1, .int .i64 g.workers, .int .i64 g.cap, v6, vM, v2, .slice none 0 0]) (fun (xq : Nat × Value × List Nat) => let ⟨j, vM, fM⟩ := xq; Int.toNat g.workers - j) (0, vL, fL) ⟨rfl, rfl, rfl, rfl, rfl, rfl, rfl, rfl, rfl, trivial⟩ ⟨E, Nat.le_refl _, h1, h2, ho1, ho2, ho7, Nat.zero_le _, OwF.widen oL (by omega) (by omega), gW, ho3⟩ ?_
            clear E h1 h2 ho1 ho2 oL ho3 ho ho7
            rintro ⟨j, vM, fM⟩ w29 ⟨E, z28, h1, h2, ho1, ho2, ho7, hj, oM, gV, ho3⟩
            refine S_sub [(1, vxs), (2, .pointer (some ⟨b1, 0, none⟩)), (4, .pointer (some ⟨b2, 0, none⟩)), (5, .bool false), (8, .pointer (some ⟨v3, 0, none⟩)), (9, .int .i64 ((k : Nat) : Int)), (14, .int .i64 ((j : Nat) : Int)), (80, .pointer (some ⟨v3, 3, none⟩)), (86, .pointer (some ⟨v3, 3, none⟩))] ⟨rfl, rfl, rfl, rfl, rfl, rfl, rfl, rfl, rfl, trivial⟩ ?_
            refine S_seq ?_
            refine S_seq ?_
            refine S_reg [true, true, true, true] rfl rfl ?_
            refine J_st (R_move rfl) rfl (J_st (R_fieldAddr0 fl30_1 rfl) rfl (J_st (R_load sc3 rfl (h1.one 1 rfl)) rfl (J_st (R_lss rfl rfl) rfl (J_done ?_))))
            refine S_cond rfl (fun hc8 => ?_) (fun hc8 => ?_)
            · have hlthc8 : j < Int.toNat g.workers := by have h := of_decide_eq_true hc8; omega
              refine S_skip ?_
              refine S_seq ?_
              refine S_block ?_
              refine S_regX mixed [6] [(0, true), (1, true), (2, true), (3, true), (4, false), (5, false)] [(6, false), (7, true), (8, false)] (by decide +kernel) rfl rfl (fun w30 e15 => ?_)
              replace E := E.trans e15; replace h1 := h1.ext e15; replace h2 := h2.ext e15; replace ho1 := ho1.ext e15; replace ho2 := ho2.ext e15; replace ho7 := ho7.ext e15; replace oM := oM.ext e15; replace ho3 := ho3.ext e15
              have z29 := e15.size
              refine J_st (R_fieldAddr0 fl36_2 rfl) rfl (J_st (R_load sc32 rfl (ho3.one 4 rfl)) rfl (J_st (R_fieldAddr0 fl30_2 rfl) rfl (J_st (R_load sc3 rfl (h1.one 2 rfl)) rfl ?_)))
              refine J_call Try.call32 rfl (c_LinkNew g.cap _ ) rfl (fun _ w31 e16 ho8 => ?_)
              obtain ⟨_, rfl, ho8⟩ := ho8
              have g_ho8 : w.heap.size ≤ w30.heap.size := E.size
              replace E := E.trans e16; replace h1 := h1.ext e16; replace h2 := h2.ext e16; replace ho1 := ho1.ext e16; replace ho2 := ho2.ext e16; replace ho7 := ho7.ext e16; replace oM := oM.ext e16; replace ho3 := ho3.ext e16
              have z30 := e16.size
              obtain ⟨o10, rfl, sp3, hw9⟩ := Link.opO ho8
              refine J_buildSlice (vs := [.agg [.int .i64 ((linkNew g.cap).cap), o10, .int .i64 ((linkNew g.cap).credits), .int .i64 ((linkNew g.cap).back), .int .i64 ((linkNew g.cap).sent), .int .i64 ((linkNew g.cap).got)].toArray]) (css := [[.int .i64 ((linkNew g.cap).cap), o10, .int .i64 ((linkNew g.cap).credits), .int .i64 ((linkNew g.cap).back), .int .i64 ((linkNew g.cap).sent), .int .i64 ((linkNew g.cap).got)]]) sl32 rfl rfl ⟨⟨rfl, rfl⟩, trivial⟩ rfl rfl (fun b7 w32 e17 s7 h7 => ?_)
              replace h7 : Blk w32 b7 [.int .i64 ((linkNew g.cap).cap), o10, .int .i64 ((linkNew g.cap).credits), .int .i64 ((linkNew g.cap).back), .int .i64 ((linkNew g.cap).sent), .int .i64 ((linkNew g.cap).got)] := h7
              have g_b7 : w.heap.size ≤ b7 := by have := E.size; omega
              have y_b7 := h7.lt
              replace E := E.trans e17; replace h1 := h1.ext e17; replace h2 := h2.ext e17; replace ho1 := ho1.ext e17; replace ho2 := ho2.ext e17; replace ho7 := ho7.ext e17; replace oM := oM.ext e17; replace ho3 := ho3.ext e17; replace hw9 := hw9.ext e17
              have z31 := e17.size
              refine JX_tail ?_
              refine J2_X rfl ?_
              have hy2 : Own1.O (α := Link) w32 w30.heap.size w32.heap.size [.int .i64 ((linkNew g.cap).cap), o10, .int .i64 ((linkNew g.cap).credits), .int .i64 ((linkNew g.cap).back), .int .i64 ((linkNew g.cap).sent), .int .i64 ((linkNew g.cap).got)] (linkNew g.cap) := Link.mkO (linkNew g.cap) sp3 (Own.widen hw9 (by omega) (by omega))
              refine J_appendF (lo := w14.heap.size) (hi := w29.heap.size) (lo2 := w30.heap.size) (hi2 := w32.heap.size) sl32 rfl rfl oM (Src.ofBlk h7 rfl) hy2 (fun b hb hc => by have := OwF.in2 oM b hb; have := Own1.inn hy2 b hc; omega) (by simp only [newWs_len, List.length_replicate, show Dat.sz Worker = 8 from rfl, show Dat.sz Link = 6 from rfl]; omega) (by decide) (by omega) (by omega) (by omega) (by omega) (by omega) rfl rfl (fun v7 w33 f5 m9 ho9 hin2 => ?_)
              have hqb := OwS.inn (OwF.ows oM)
              have kq4 := Mod.kq (l := fM) m9 (OwF.v_mem oM)
              replace E := E.step m9 (fun g hg => by have := hqb g hg; omega); replace h1 := h1.mod m9 (fun g hg => by have := hqb g hg; omega); replace h2 := h2.mod m9 (fun g hg => by have := hqb g hg; omega); replace ho1 := ho1.mod m9 (fun g hg => by have := hqb g hg; omega); replace ho2 := ho2.mod m9 (fun g hg => by have := hqb g hg; omega); replace ho7 := OwF.kp ho7 (Kq.kp kq4 gV.1.1); replace ho3 := ho3.mod m9 (fun g hg => by have := hqb g hg; omega)
              have z32 := m9.size
              replace gV := DjL.set (N := w30.heap.size) hin2 1 rfl gV ⟨(fun b hb => by have := OwF.in2 ho7 b hb; omega), (fun b hb => by have := OwF.in2 oM b hb; omega), trivial⟩
              replace gV : DjL [f4, f5] := gV
              clear hqb hy2 kq4 oM
              refine JX_go ?_
              refine J_st (R_fieldAddr0 fl36_2 rfl) rfl ?_
              refine J_store' (cs' := [v1, .int .i64 g.workers, .int .i64 g.cap, v6, v7, v2, .slice none 0 0]) sc32 rfl rfl (RdD.one (OwF.rd ho9)) ho3 (Nat.le_of_ble_eq_true rfl) rfl (fun w34 m10 ho3' => ?_)
              replace ho3 := ho3'
              have kq5 := Mod.kq (l := [v3]) m10 (fun g hg => by cases hg; simp)
              replace E := E.step m10 (fun g hg => by cases hg; omega); replace h1 := h1.mod m10 (fun g hg => by cases hg; omega); replace h2 := h2.mod m10 (fun g hg => by cases hg; omega); replace ho1 := OwF.kp ho1 (Kq.kp kq5 sp1.1.2.1); replace ho2 := Own.kp ho2 (Kq.kp kq5 sp1.2.1.1); replace ho7 := ho7.mod m10 (fun g hg => by cases hg; omega); replace ho9 := ho9.mod m10 (fun g hg => by cases hg; omega)
              have z33 := m10.size
              refine J_done ?_
              refine S_nil (E_inB ?_)
              refine S_reg [true, true, true] rfl rfl ?_
              refine J_st (R_move rfl) rfl (J_st (R_add rfl rfl (add_nat (by unfold maxLen; omega))) rfl (J_st (R_assign rfl) rfl (J_done ?_)))
              refine S_nil (E_again (j + 1, v7, f5) (by simp; omega) ⟨rfl, rfl, rfl, rfl, rfl, rfl, rfl, rfl, rfl, trivial⟩ ⟨E, (by omega), h1, h2, ho1, ho2, ho7, (by omega), (by rw [← Nat.add_assoc, List.replicate_succ']; exact OwF.widen ho9 (by omega) (by omega)), gV, ho3⟩)
            · have hgehc8 : ¬ j < Int.toNat g.workers := by have h := of_decide_eq_false hc8; omega
              refine S_exit (E_lp_exit (E_inB_exit ?_))
              refine S_nil (E_inB ?_)
              refine S_reg [true, true, true] rfl rfl ?_
              refine J_st (R_move rfl) rfl (J_st (R_add rfl rfl (add_nat (by unfold maxLen; omega))) rfl (J_st (R_assign rfl) rfl (J_done ?_)))
              refine S_nil (E_again (k + 1, v6, vM, f4, fM) (by simp; omega) ⟨rfl, rfl, rfl, rfl, rfl, rfl, trivial⟩ ⟨E, (by omega), h1, h2, ho1, ho2, (by omega), (by rw [show e = 4 from by omega] at ho7; rw [newWs_step]; exact OwF.widen ho7 (by omega) (by omega)), (by rw [show (k + 1) * Int.toNat g.workers = k * Int.toNat g.workers + j from by rw [Nat.add_mul]; omega]; exact OwF.widen oM (by omega) (by omega)), gV, ho3⟩)
        · have hgehc4 : ¬ k < Int.toNat g.workers := by have h := of_decide_eq_false hc4; omega
          refine S_exit (E_lp_exit (E_inB_exit ?_))
          refine S_seq ?_
          refine S_reg [true, false, true] rfl rfl ?_
          refine J_st (R_loadS st36 rfl ho3.at rfl) rfl ?_
          refine J_storeS' (cs' := [v1, .int .i64 g.workers, .int .i64 g.cap, vW, vL, v2, .slice none 0 0]) st36 rfl rfl rfl (all_cons (RdD.one (OwF.rd ho1)) (all_cons rfl (all_cons rfl (all_cons (RdD.one (OwF.rd oW)) (all_cons (RdD.one (OwF.rd oL)) (all_cons ho2.one (all_cons rfl rfl))))))) h2 (Nat.le_of_ble_eq_true rfl) rfl (fun w35 m11 h2' => ?_)
          replace h2 := h2'
          replace E := E.step m11 (fun g hg => by cases hg; omega); replace h1 := h1.mod m11 (fun g hg => by cases hg; omega); replace ho1 := ho1.mod m11 (fun g hg => by cases hg; omega); replace ho2 := ho2.mod m11 (fun g hg => by cases hg; omega); replace oW := oW.mod m11 (fun g hg => by cases hg; omega); replace oL := oL.mod m11 (fun g hg => by cases hg; omega); replace ho3 := ho3.mod m11 (fun g hg => by cases hg; omega)
          have z34 := m11.size
          refine J_st (R_assign rfl) rfl (J_done ?_)
          refine S_ret (E_doneN (l := [.cell 4 36, .tmp 5]) (vs := [.agg [v1, .int .i64 g.workers, .int .i64 g.cap, vW, vL, v2, .slice none 0 0].toArray, .bool true]) rfl ⟨.cell rfl (run_loadVar_st st36 h2.at rfl), .tmp rfl, trivial⟩ rfl E ?_)
          rw [cn_ok hc1 (by omega) hI, newCl_at (k := k) (by omega)]
          exact ⟨_, _, _, _, _, rfl, OwC.of3 (⟨g, newWs g xs k, List.replicate (k * Int.toNat g.workers) (linkNew g.cap), [(⟨false, 0, 0, false, false⟩ : Token), (⟨false, 0, 0, false, false⟩ : Token), (⟨false, 0, 0, false, false⟩ : Token), (⟨false, 0, 0, false, false⟩ : Token)], []⟩ : Cluster) ho1 oW oL ho2 (Own.nil _ w12.heap.size w13.heap.size _) ⟨⟨sp1.1.1, Dj.nilR, trivial⟩, ⟨Dj.nilR, trivial⟩, trivial, trivial⟩ gW.1.1 (by have := E.size; omega)⟩
      · intro w36 e18
        intro v8 f6 ho10 v9 f7 ho11 sp4
        obtain ⟨_, _, eX, ⟨v8, rfl, ho10⟩, _⟩ := ho10; replace ho10 := OwF.widen (OwF.ext ho10 eX) (Nat.le_refl _) eX.size
        obtain ⟨ho11, rfl⟩ := ho11
        replace sp4 : DjL [f6, (blks v9)] := sp4
        have g_sp4 : w.heap.size ≤ w12.heap.size := E.size
        replace E := E.trans e18; replace h1 := h1.ext e18; replace h2 := h2.ext e18
        have z35 := e18.size
        replace ho11 : Own w36 w12.heap.size w36.heap.size 5 v9 (List.flatMap (Enc.enc (α := Token)) [(⟨false, 0, 0, false, false⟩ : Token), (⟨false, 0, 0, false, false⟩ : Token), (⟨false, 0, 0, false, false⟩ : Token), (⟨false, 0, 0, false, false⟩ : Token)]) := ho11
        refine J_sub [(1, vxs), (2, .pointer (some ⟨b1, 0, none⟩)), (4, .pointer (some ⟨b2, 0, none⟩)), (5, .bool false), (24, vxs), (25, .int .i64 ((xs.length : Nat) : Int)), (26, .int .i64 ((k : Nat) : Int)), (27, .bool (decide (((k : Nat) : Int) < ((xs.length : Nat) : Int)))), (46, .agg [o1, .int .i64 g.workers, .int .i64 g.cap].toArray), (47, .agg [v8, .int .i64 g.workers, .int .i64 g.cap].toArray), (48, v9)] ⟨rfl, rfl, rfl, rfl, rfl, rfl, rfl, rfl, rfl, rfl, rfl, trivial⟩ ?_
        have hbl4 : ∀ w, (Instr.build 36 ([(0, .agg [v8, .int .i64 g.workers, .int .i64 g.cap].toArray), (3, v9)]).toArray).run Try.prog w = .ok (.agg [v8, .int .i64 g.workers, .int .i64 g.cap, .slice none 0 0, .slice none 0 0, v9, .slice none 0 0].toArray) w := by clear E; obtain ⟨_, _, _, rfl⟩ := SlLen.shape (RdD.len (OwF.rd ho10)); obtain ⟨_, _, _, rfl⟩ := Own.shape ho11; intro w; kernel_rfl
        refine J_st (R_buildC [v8, .int .i64 g.workers, .int .i64 g.cap, .slice none 0 0, .slice none 0 0, v9, .slice none 0 0] rfl hbl4) rfl ?_
        refine J_alloc st36 rfl (fun b8 w37 e19 s8 h8 => ?_)
        have g_b8 : w.heap.size ≤ b8 := by have := E.size; omega
        have y_b8 := h8.lt
        replace E := E.trans e19; replace h1 := h1.ext e19; replace h2 := h2.ext e19; replace ho10 := ho10.ext e19; replace ho11 := ho11.ext e19
        have z36 := e19.size
        refine J_storeS' (cs' := [v8, .int .i64 g.workers, .int .i64 g.cap, .slice none 0 0, .slice none 0 0, v9, .slice none 0 0]) st36 rfl rfl rfl (all_cons (RdD.one (OwF.rd ho10)) (all_cons rfl (all_cons rfl (all_cons rfl (all_cons rfl (all_cons ho11.one (all_cons rfl rfl))))))) h8 (Nat.le_of_ble_eq_true rfl) rfl (fun w38 m12 h8' => ?_)
        replace h8 := h8'
        replace E := E.step m12 (fun g hg => by cases hg; omega); replace h1 := h1.mod m12 (fun g hg => by cases hg; omega); replace h2 := h2.mod m12 (fun g hg => by cases hg; omega); replace ho10 := ho10.mod m12 (fun g hg => by cases hg; omega); replace ho11 := ho11.mod m12 (fun g hg => by cases hg; omega)
        have z37 := m12.size
        refine J_done ?_
        refine S_seq ?_
        refine S_seq ?_
        refine S_reg [true] rfl rfl ?_
        refine J_st (R_assign rfl) rfl (J_done ?_)
        refine S_block ?_
        refine S_loop (fun (xq : Nat × Value × Value × List Nat × List Nat) => let ⟨k, vW, vL, fW, fL⟩ := xq; [(1, vxs), (2, .pointer (some ⟨b1, 0, none⟩)), (4, .pointer (some ⟨b2, 0, none⟩)), (5, .bool false), (8, .pointer (some ⟨b8, 0, none⟩)), (9, .int .i64 ((k : Nat) : Int))]) (fun (xq : Nat × Value × Value × List Nat × List Nat) w' => let ⟨k, vW, vL, fW, fL⟩ := xq; Ext w w' ∧ w38.heap.size ≤ w'.heap.size ∧ Blk w' b1 ([o1, .int .i64 g.workers, .int .i64 g.cap]) ∧ Blk w' b2 [.slice none 0 0, .int .i64 0, .int .i64 0, .slice none 0 0, .slice none 0 0, .slice none 0 0, .slice none 0 0] ∧ OwF w' w12.heap.size w36.heap.size v8 g.nodes f6 ∧ Own w' w12.heap.size w36.heap.size 5 v9 (List.flatMap (Enc.enc (α := Token)) [(⟨false, 0, 0, false, false⟩ : Token), (⟨false, 0, 0, false, false⟩ : Token), (⟨false, 0, 0, false, false⟩ : Token), (⟨false, 0, 0, false, false⟩ : Token)]) ∧ k ≤ Int.toNat g.workers ∧ OwF w' w38.heap.size w'.heap.size vW (newWs g xs k) fW ∧ OwF w' w38.heap.size w'.heap.size vL (List.replicate (k * Int.toNat g.workers) (linkNew g.cap)) fL ∧ DjL [fW, fL] ∧ Blk w' b8 [v8, .int .i64 g.workers, .int .i64 g.cap, vW, vL, v9, .slice none 0 0]) (fun (xq : Nat × Value × Value × List Nat × List Nat) => let ⟨k, vW, vL, fW, fL⟩ := xq; Int.toNat g.workers - k) (0, .slice none 0 0, .slice none 0 0, [], []) ⟨rfl, rfl, rfl, rfl, rfl, rfl, trivial⟩ ⟨E, Nat.le_refl _, h1, h2, ho10, ho11, Nat.zero_le _, OwF.nil _ _ _, (by rw [Nat.zero_mul]; exact OwF.nil _ _ _), ⟨⟨(fun _ h => absurd h List.not_mem_nil), trivial⟩, trivial, trivial⟩, h8⟩ ?_
        clear E h1 h2 ho10 ho11 h8
        rintro ⟨k, vW, vL, fW, fL⟩ w39 ⟨E, z38, h1, h2, ho10, ho11, hk, oW, oL, gW, h8⟩
        refine S_sub [(1, vxs), (2, .pointer (some ⟨b1, 0, none⟩)), (4, .pointer (some ⟨b2, 0, none⟩)), (5, .bool false), (8, .pointer (some ⟨b8, 0, none⟩)), (9, .int .i64 ((k : Nat) : Int))] ⟨rfl, rfl, rfl, rfl, rfl, rfl, trivial⟩ ?_
        have hkn : k * Int.toNat g.workers ≤ 16 := Nat.le_trans (Nat.mul_le_mul (show k ≤ 4 by omega) (show Int.toNat g.workers ≤ 4 by omega)) (by decide)
        refine S_seq ?_
        refine S_seq ?_
        refine S_reg [true, true, true, true] rfl rfl ?_
        refine J_st (R_move rfl) rfl (J_st (R_fieldAddr0 fl30_1 rfl) rfl (J_st (R_load sc3 rfl (h1.one 1 rfl)) rfl (J_st (R_lss rfl rfl) rfl (J_done ?_))))
        refine S_cond rfl (fun hc9 => ?_) (fun hc9 => ?_)
        · have hlthc9 : k < Int.toNat g.workers := by have h := of_decide_eq_true hc9; omega
          refine S_skip ?_
          refine S_seq ?_
          refine S_block ?_
          refine S_seq ?_
          refine S_reg [true] rfl rfl ?_
          refine J_st (R_assign rfl) rfl (J_done ?_)
          refine S_seq ?_
          refine S_seq ?_
          refine S_reg [true] rfl rfl ?_
          refine J_st (R_assign rfl) rfl (J_done ?_)
          refine S_block ?_
          refine S_loop (fun (xq : Nat × Value) => let ⟨e, vo⟩ := xq; [(1, vxs), (2, .pointer (some ⟨b1, 0, none⟩)), (4, .pointer (some ⟨b2, 0, none⟩)), (5, .bool false), (8, .pointer (some ⟨b8, 0, none⟩)), (9, .int .i64 ((k : Nat) : Int)), (10, vo), (11, .int .i64 ((e : Nat) : Int))]) (fun (xq : Nat × Value) w' => let ⟨e, vo⟩ := xq; Ext w w' ∧ w39.heap.size ≤ w'.heap.size ∧ Blk w' b1 ([o1, .int .i64 g.workers, .int .i64 g.cap]) ∧ Blk w' b2 [.slice none 0 0, .int .i64 0, .int .i64 0, .slice none 0 0, .slice none 0 0, .slice none 0 0, .slice none 0 0] ∧ OwF w' w12.heap.size w36.heap.size v8 g.nodes f6 ∧ Own w' w12.heap.size w36.heap.size 5 v9 (List.flatMap (Enc.enc (α := Token)) [(⟨false, 0, 0, false, false⟩ : Token), (⟨false, 0, 0, false, false⟩ : Token), (⟨false, 0, 0, false, false⟩ : Token), (⟨false, 0, 0, false, false⟩ : Token)]) ∧ OwF w' w38.heap.size w39.heap.size vW (newWs g xs k) fW ∧ OwF w' w38.heap.size w39.heap.size vL (List.replicate (k * Int.toNat g.workers) (linkNew g.cap)) fL ∧ Blk w' b8 [v8, .int .i64 g.workers, .int .i64 g.cap, vW, vL, v9, .slice none 0 0] ∧ e ≤ 4 ∧ Own w' w39.heap.size w'.heap.size 5 vo (List.flatMap (Enc.enc (α := Record)) (ownTo g.workers ((k : Nat) : Int) xs e))) (fun (xq : Nat × Value) => let ⟨e, vo⟩ := xq; 4 - e) (0, .slice none 0 0) ⟨rfl, rfl, rfl, rfl, rfl, rfl, rfl, rfl, trivial⟩ ⟨E, Nat.le_refl _, h1, h2, ho10, ho11, oW, oL, h8, Nat.zero_le _, Own.fin (Own.nil w39 w39.heap.size w39.heap.size 5) (by omega) (by omega) rfl⟩ ?_
          clear E h1 h2 ho10 ho11 oW oL h8
          rintro ⟨e, vo⟩ w40 ⟨E, z39, h1, h2, ho10, ho11, oW, oL, h8, he, ho⟩
          refine S_sub [(1, vxs), (2, .pointer (some ⟨b1, 0, none⟩)), (4, .pointer (some ⟨b2, 0, none⟩)), (5, .bool false), (8, .pointer (some ⟨b8, 0, none⟩)), (9, .int .i64 ((k : Nat) : Int)), (10, vo), (11, .int .i64 ((e : Nat) : Int))] ⟨rfl, rfl, rfl, rfl, rfl, rfl, rfl, rfl, trivial⟩ ?_
          have hol := @ownTo_len4 g.workers ((k : Nat) : Int) xs e he
          refine S_seq ?_
          refine S_seq ?_
          refine S_reg [true, true] rfl rfl ?_
          refine J_st (R_move rfl) rfl (J_st (R_leq rfl rfl) rfl (J_done ?_))
          refine S_cond rfl (fun hc10 => ?_) (fun hc10 => ?_)
          · have hc10n : e ≤ 3 := by first | (have h := of_decide_eq_true hc10; omega) | (have h := hc10; simp at h; omega)
            refine S_skip ?_
            refine S_seq ?_
            refine S_block ?_
            refine S_seq ?_
            refine S_reg [true, true, false, true, true] rfl rfl ?_
            refine J_st (R_move rfl) rfl (J_st (R_move rfl) rfl ?_)
            refine J_call Try.call29 rfl (c_OfEpoch vxs xs ((e : Nat) : Int) _ (hxs.ext E) (by omega)) rfl (fun v10 w41 e20 ho12 => ?_)
            have g_ho12 : w.heap.size ≤ w40.heap.size := E.size
            replace E := E.trans e20; replace h1 := h1.ext e20; replace h2 := h2.ext e20; replace ho10 := ho10.ext e20; replace ho11 := ho11.ext e20; replace oW := oW.ext e20; replace oL := oL.ext e20; replace h8 := h8.ext e20; replace ho := ho.ext e20
            have z40 := e20.size
            refine J_st (R_len Try.underlying40 rfl (Own.len (by decide) ho12)) rfl (J_st (R_move rfl) rfl (J_done ?_))
            refine S_block ?_
            refine S_loop (fun (xq : Nat × Value) => let ⟨i, vp⟩ := xq; [(1, vxs), (2, .pointer (some ⟨b1, 0, none⟩)), (4, .pointer (some ⟨b2, 0, none⟩)), (5, .bool false), (8, .pointer (some ⟨b8, 0, none⟩)), (9, .int .i64 ((k : Nat) : Int)), (10, vp), (11, .int .i64 ((e : Nat) : Int)), (62, v10), (63, .int .i64 (((xs.filter (ofE ((e : Nat) : Int))).length : Nat) : Int)), (64, .int .i64 ((i : Nat) : Int))]) (fun (xq : Nat × Value) w' => let ⟨i, vp⟩ := xq; Ext w w' ∧ w41.heap.size ≤ w'.heap.size ∧ Blk w' b1 ([o1, .int .i64 g.workers, .int .i64 g.cap]) ∧ Blk w' b2 [.slice none 0 0, .int .i64 0, .int .i64 0, .slice none 0 0, .slice none 0 0, .slice none 0 0, .slice none 0 0] ∧ OwF w' w12.heap.size w36.heap.size v8 g.nodes f6 ∧ Own w' w12.heap.size w36.heap.size 5 v9 (List.flatMap (Enc.enc (α := Token)) [(⟨false, 0, 0, false, false⟩ : Token), (⟨false, 0, 0, false, false⟩ : Token), (⟨false, 0, 0, false, false⟩ : Token), (⟨false, 0, 0, false, false⟩ : Token)]) ∧ OwF w' w38.heap.size w39.heap.size vW (newWs g xs k) fW ∧ OwF w' w38.heap.size w39.heap.size vL (List.replicate (k * Int.toNat g.workers) (linkNew g.cap)) fL ∧ Blk w' b8 [v8, .int .i64 g.workers, .int .i64 g.cap, vW, vL, v9, .slice none 0 0] ∧ Own w' w40.heap.size w41.heap.size 5 v10 (List.flatMap (Enc.enc (α := Record)) (xs.filter (ofE ((e : Nat) : Int)))) ∧ i ≤ (xs.filter (ofE ((e : Nat) : Int))).length ∧ Own w' w39.heap.size w'.heap.size 5 vp (List.flatMap (Enc.enc (α := Record)) (ownTo g.workers ((k : Nat) : Int) xs e ++ ((xs.filter (ofE ((e : Nat) : Int))).take i).filter (mineP g.workers ((k : Nat) : Int)))) ∧ ∀ g, Value.ownBlock vp = some g → g < w40.heap.size ∨ w41.heap.size ≤ g) (fun (xq : Nat × Value) => let ⟨i, vp⟩ := xq; (xs.filter (ofE ((e : Nat) : Int))).length - i) (0, vo) ⟨rfl, rfl, rfl, rfl, rfl, rfl, rfl, rfl, rfl, rfl, rfl, trivial⟩ ⟨E, Nat.le_refl _, h1, h2, ho10, ho11, oW, oL, h8, ho12, Nat.zero_le _, Own.fin ho (by omega) (by omega) (by simp), (fun g hg => .inl (by have := Own.blk ho g hg; omega))⟩ ?_
            clear E h1 h2 ho10 ho11 oW oL h8 ho ho12
            rintro ⟨i, vp⟩ w42 ⟨E, z41, h1, h2, ho10, ho11, oW, oL, h8, ho12, hi, hp, hpN⟩
            refine S_sub [(1, vxs), (2, .pointer (some ⟨b1, 0, none⟩)), (4, .pointer (some ⟨b2, 0, none⟩)), (5, .bool false), (8, .pointer (some ⟨b8, 0, none⟩)), (9, .int .i64 ((k : Nat) : Int)), (10, vp), (11, .int .i64 ((e : Nat) : Int)), (62, v10), (63, .int .i64 (((xs.filter (ofE ((e : Nat) : Int))).length : Nat) : Int)), (64, .int .i64 ((i : Nat) : Int))] ⟨rfl, rfl, rfl, rfl, rfl, rfl, rfl, rfl, rfl, rfl, rfl, trivial⟩ ?_
            have hpl := @own_len _ (xs.filter (ofE ((e : Nat) : Int))) (mineP g.workers ((k : Nat) : Int)) i
            have hfl := ofE_len ((e : Nat) : Int) xs
            refine S_seq ?_
            refine S_reg [true] rfl rfl ?_
            refine J_st (R_lss rfl rfl) rfl (J_done ?_)
            refine S_seq ?_
            refine S_cond rfl (fun hc11 => ?_) (fun hc11 => ?_)
            · have hc11n : i < (xs.filter (ofE ((e : Nat) : Int))).length := by first | (have h := of_decide_eq_true hc11; omega) | (have h := hc11; simp at h; omega)
              refine S_skip ?_
              refine S_seq ?_
              refine S_block ?_
              refine S_seq ?_
              refine S_reg [true, true, false, false] rfl rfl ?_
              have hi3 : i < (xs.filter (ofE ((e : Nat) : Int))).length := (by first | assumption | omega | (simp only [List.length_set]; first | assumption | omega) | (simp only [List.getElem_set_self, List.length_set]; first | assumption | omega) | (simp only [setW, setLk, List.length_set]; first | assumption | omega))
              refine J_st (R_index (i := i) sl40 rfl rfl (Own.rd (by decide) ho12) hi3) rfl (J_st (R_loadS st55 rfl ((Own.rd (by decide) ho12).get hi3) rfl) rfl ?_)
              refine J_alloc st55 rfl (fun b9 w43 e21 s9 h9 => ?_)
              have g_b9 : w.heap.size ≤ b9 := by have := E.size; omega
              have y_b9 := h9.lt
              replace E := E.trans e21; replace h1 := h1.ext e21; replace h2 := h2.ext e21; replace ho10 := ho10.ext e21; replace ho11 := ho11.ext e21; replace oW := oW.ext e21; replace oL := oL.ext e21; replace h8 := h8.ext e21; replace ho12 := ho12.ext e21; replace hp := hp.ext e21
              have z42 := e21.size
              refine J_storeS' (cs' := [.int .i64 (((xs.filter (ofE ((e : Nat) : Int)))[i]'hi3).op), .int .i64 ((((xs.filter (ofE ((e : Nat) : Int)))[i]'hi3).stamp).epoch), .int .i64 ((((xs.filter (ofE ((e : Nat) : Int)))[i]'hi3).stamp).turn), .int .i64 (((xs.filter (ofE ((e : Nat) : Int)))[i]'hi3).key), .int .i64 (((xs.filter (ofE ((e : Nat) : Int)))[i]'hi3).val)]) st55 rfl rfl rfl rfl h9 (Nat.le_of_ble_eq_true rfl) rfl (fun w44 m13 h9' => ?_)
              replace h9 := h9'
              replace E := E.step m13 (fun g hg => by cases hg; omega); replace h1 := h1.mod m13 (fun g hg => by cases hg; omega); replace h2 := h2.mod m13 (fun g hg => by cases hg; omega); replace ho10 := ho10.mod m13 (fun g hg => by cases hg; omega); replace ho11 := ho11.mod m13 (fun g hg => by cases hg; omega); replace oW := oW.mod m13 (fun g hg => by cases hg; omega); replace oL := oL.mod m13 (fun g hg => by cases hg; omega); replace h8 := h8.mod m13 (fun g hg => by cases hg; omega); replace ho12 := ho12.mod m13 (fun g hg => by cases hg; omega); replace hp := Own.modN hp m13 (fun g hg hv => by have hN := hpN g hv; have hB := Own.blk hp g hv; cases hg; omega)
              have z43 := m13.size
              refine J_done ?_
              refine S_seq ?_
              refine S_reg [true, true, true, true, false, true, true] rfl rfl ?_
              refine J_st (R_fieldAddr0 fl55_2 rfl) rfl (J_st (R_load sc3 rfl (h9.one 3 rfl)) rfl (J_st (R_fieldAddr0 fl30_1 rfl) rfl (J_st (R_load sc3 rfl (h1.one 1 rfl)) rfl ?_)))
              refine J_call Try.call30 rfl (c_OwnerOf (((xs.filter (ofE ((e : Nat) : Int)))[i]'hi3).key) g.workers _ (rg4 hgw)) rfl (fun _ w45 e22 hv => ?_)
              subst hv
              replace E := E.trans e22; replace h1 := h1.ext e22; replace h2 := h2.ext e22; replace ho10 := ho10.ext e22; replace ho11 := ho11.ext e22; replace oW := oW.ext e22; replace oL := oL.ext e22; replace h8 := h8.ext e22; replace ho12 := ho12.ext e22; replace hp := hp.ext e22; replace h9 := h9.ext e22
              have z44 := e22.size
              refine J_st (R_move rfl) rfl (J_st (R_eql rfl rfl) rfl (J_done ?_))
              refine S_cond rfl (fun hc12 => ?_) (fun hc12 => ?_)
              · refine S_reg [true, true, false, false, true] rfl rfl ?_
                refine J_st (R_move rfl) rfl (J_st (R_loadS st55 rfl h9.at rfl) rfl ?_)
                refine J_buildSlice (vs := [.agg (Enc.enc ((xs.filter (ofE ((e : Nat) : Int)))[i]'hi3)).toArray]) (css := [[.int .i64 (((xs.filter (ofE ((e : Nat) : Int)))[i]'hi3).op), .int .i64 ((((xs.filter (ofE ((e : Nat) : Int)))[i]'hi3).stamp).epoch), .int .i64 ((((xs.filter (ofE ((e : Nat) : Int)))[i]'hi3).stamp).turn), .int .i64 (((xs.filter (ofE ((e : Nat) : Int)))[i]'hi3).key), .int .i64 (((xs.filter (ofE ((e : Nat) : Int)))[i]'hi3).val)]]) sl40 rfl rfl ⟨⟨rfl, rfl⟩, trivial⟩ rfl rfl (fun b10 w46 e23 s10 h10 => ?_)
                replace h10 : Blk w46 b10 [.int .i64 (((xs.filter (ofE ((e : Nat) : Int)))[i]'hi3).op), .int .i64 ((((xs.filter (ofE ((e : Nat) : Int)))[i]'hi3).stamp).epoch), .int .i64 ((((xs.filter (ofE ((e : Nat) : Int)))[i]'hi3).stamp).turn), .int .i64 (((xs.filter (ofE ((e : Nat) : Int)))[i]'hi3).key), .int .i64 (((xs.filter (ofE ((e : Nat) : Int)))[i]'hi3).val)] := h10
                have g_b10 : w.heap.size ≤ b10 := by have := E.size; omega
                have y_b10 := h10.lt
                replace E := E.trans e23; replace h1 := h1.ext e23; replace h2 := h2.ext e23; replace ho10 := ho10.ext e23; replace ho11 := ho11.ext e23; replace oW := oW.ext e23; replace oL := oL.ext e23; replace h8 := h8.ext e23; replace ho12 := ho12.ext e23; replace hp := hp.ext e23; replace h9 := h9.ext e23
                have z45 := e23.size
                refine J_appendB sl40 rfl rfl hp (Src.ofBlk h10 rfl) rfl (by simp only [sum_flat, List.length_append, List.length_cons, List.length_nil]; simp only [Enc.sz]; omega) (by decide) (by omega) (by omega) rfl rfl (fun v11 w47 m14 ho13 hb2 => ?_)
                have hn2 : ∀ g, Value.ownBlock v11 = some g → g < w40.heap.size ∨ w41.heap.size ≤ g := fun g hg => (hb2 g hg).elim (fun h => hpN g h) (fun h => by omega)
                replace E := E.step m14 (fun g hg => by have := Own.blk hp g hg; have := hpN g hg; omega); replace h1 := h1.mod m14 (fun g hg => by have := Own.blk hp g hg; have := hpN g hg; omega); replace h2 := h2.mod m14 (fun g hg => by have := Own.blk hp g hg; have := hpN g hg; omega); replace ho10 := ho10.mod m14 (fun g hg => by have := Own.blk hp g hg; have := hpN g hg; omega); replace ho11 := ho11.mod m14 (fun g hg => by have := Own.blk hp g hg; have := hpN g hg; omega); replace oW := oW.mod m14 (fun g hg => by have := Own.blk hp g hg; have := hpN g hg; omega); replace oL := oL.mod m14 (fun g hg => by have := Own.blk hp g hg; have := hpN g hg; omega); replace h8 := h8.mod m14 (fun g hg => by have := Own.blk hp g hg; have := hpN g hg; omega); replace ho12 := ho12.mod m14 (fun g hg => by have := Own.blk hp g hg; have := hpN g hg; omega); replace h9 := h9.mod m14 (fun g hg => by have := Own.blk hp g hg; have := hpN g hg; omega)
                have z46 := m14.size
                refine J_st (R_assign rfl) rfl (J_done ?_)
                refine S_nil (E_inB ?_)
                refine S_reg [true, true] rfl rfl ?_
                refine J_st (R_add rfl rfl (add_nat (by unfold maxLen; omega))) rfl (J_st (R_move rfl) rfl (J_done ?_))
                refine S_nil (E_again (i + 1, v11) (by simp; omega) ⟨rfl, rfl, rfl, rfl, rfl, rfl, rfl, rfl, rfl, rfl, rfl, trivial⟩ ⟨E, (by omega), h1, h2, ho10, ho11, oW, oL, h8, ho12, (by omega), Own.fin ho13 (by omega) (by omega) (own_yes (by assumption) (by simpa [bothP, mineP, ofE] using hc12)), hn2⟩)
              · refine S_skip ?_
                refine S_nil (E_inB ?_)
                refine S_reg [true, true] rfl rfl ?_
                refine J_st (R_add rfl rfl (add_nat (by unfold maxLen; omega))) rfl (J_st (R_move rfl) rfl (J_done ?_))
                refine S_nil (E_again (i + 1, vp) (by simp; omega) ⟨rfl, rfl, rfl, rfl, rfl, rfl, rfl, rfl, rfl, rfl, rfl, trivial⟩ ⟨E, (by omega), h1, h2, ho10, ho11, oW, oL, h8, ho12, (by omega), Own.fin hp (by omega) (by omega) (own_no (by assumption) (by simpa [bothP, mineP, ofE] using hc12)), hpN⟩)
            · have hc11n : ¬ i < (xs.filter (ofE ((e : Nat) : Int))).length := by first | (have h := of_decide_eq_false hc11; omega) | (have h := hc11; simp at h; omega)
              refine S_exit (E_lp_exit (E_inB_exit ?_))
              refine S_nil (E_inB ?_)
              refine S_reg [true, true, true] rfl rfl ?_
              refine J_st (R_move rfl) rfl (J_st (R_add rfl rfl (add_nat (by unfold maxLen; omega))) rfl (J_st (R_assign rfl) rfl (J_done ?_)))
              refine S_nil (E_again (e + 1, vp) (by simp; omega) ⟨rfl, rfl, rfl, rfl, rfl, rfl, rfl, rfl, trivial⟩ ⟨E, (by omega), h1, h2, ho10, ho11, oW, oL, h8, (by omega), Own.fin hp (by omega) (by omega) (by rw [own_end2 (by omega)])⟩)
          · have hc10n : ¬ e ≤ 3 := by first | (have h := of_decide_eq_false hc10; omega) | (have h := hc10; simp at h; omega)
            refine S_exit (E_lp_exit (E_inB_exit ?_))
            refine S_seq ?_
            refine S_regX mixed [5] [(0, true), (1, true), (2, true), (3, false), (4, false)] [(5, false), (6, true), (7, false)] (by decide +kernel) rfl rfl (fun w48 e24 => ?_)
            replace E := E.trans e24; replace h1 := h1.ext e24; replace h2 := h2.ext e24; replace ho10 := ho10.ext e24; replace ho11 := ho11.ext e24; replace oW := oW.ext e24; replace oL := oL.ext e24; replace h8 := h8.ext e24; replace ho := ho.ext e24
            have z47 := e24.size
            refine J_st (R_fieldAddr0 fl36_1 rfl) rfl (J_st (R_load sc31 rfl (h8.one 3 rfl)) rfl (J_st (R_move rfl) rfl ?_))
            refine J_call Try.call31 rfl (c_WorkerNew vo (ownTo g.workers ((k : Nat) : Int) xs e) _ (Own.rd (by decide) ho) (by have := @ownTo_len4 g.workers ((k : Nat) : Int) xs 4 (by omega); omega)) rfl (fun _ w49 e25 ho14 => ?_)
            obtain ⟨_, rfl, ho14⟩ := ho14
            have g_ho14 : w.heap.size ≤ w48.heap.size := E.size
            replace E := E.trans e25; replace h1 := h1.ext e25; replace h2 := h2.ext e25; replace ho10 := ho10.ext e25; replace ho11 := ho11.ext e25; replace oW := oW.ext e25; replace oL := oL.ext e25; replace h8 := h8.ext e25; replace ho := ho.ext e25
            have z48 := e25.size
            obtain ⟨o11, o12, o13, o14, o15, o16, o17, o18, rfl, sp5, hw10, hw11, hw12, hw13, hw14, hw15, hw16, hw17⟩ := Worker.opO ho14
            refine J_buildSlice (vs := [.agg [o11, o12, o13, o14, o15, o16, o17, o18].toArray]) (css := [[o11, o12, o13, o14, o15, o16, o17, o18]]) sl31 rfl rfl ⟨⟨rfl, rfl⟩, trivial⟩ rfl rfl (fun b11 w50 e26 s11 h11 => ?_)
            replace h11 : Blk w50 b11 [o11, o12, o13, o14, o15, o16, o17, o18] := h11
            have g_b11 : w.heap.size ≤ b11 := by have := E.size; omega
            have y_b11 := h11.lt
            replace E := E.trans e26; replace h1 := h1.ext e26; replace h2 := h2.ext e26; replace ho10 := ho10.ext e26; replace ho11 := ho11.ext e26; replace oW := oW.ext e26; replace oL := oL.ext e26; replace h8 := h8.ext e26; replace ho := ho.ext e26; replace hw10 := hw10.ext e26; replace hw11 := hw11.ext e26; replace hw12 := hw12.ext e26; replace hw13 := hw13.ext e26; replace hw14 := hw14.ext e26; replace hw15 := hw15.ext e26; replace hw16 := hw16.ext e26; replace hw17 := hw17.ext e26
            have z49 := e26.size
            refine JX_tail ?_
            refine J2_X rfl ?_
            have hy3 : Own1.O (α := Worker) w50 w48.heap.size w50.heap.size [o11, o12, o13, o14, o15, o16, o17, o18] (workerNew (ownTo g.workers ((k : Nat) : Int) xs e)) := Worker.mkO (workerNew (ownTo g.workers ((k : Nat) : Int) xs e)) sp5 (Own.widen hw10 (by omega) (by omega)) (Own.widen hw11 (by omega) (by omega)) (Own.widen hw12 (by omega) (by omega)) (Own.widen hw13 (by omega) (by omega)) (Own.widen hw14 (by omega) (by omega)) (Own.widen hw15 (by omega) (by omega)) (Own.widen hw16 (by omega) (by omega)) (Own.widen hw17 (by omega) (by omega))
            refine J_appendF (lo := w38.heap.size) (hi := w39.heap.size) (lo2 := w48.heap.size) (hi2 := w50.heap.size) sl31 rfl rfl oW (Src.ofBlk h11 rfl) hy3 (fun b hb hc => by have := OwF.in2 oW b hb; have := Own1.inn hy3 b hc; omega) (by simp only [newWs_len, List.length_replicate, show Dat.sz Worker = 8 from rfl, show Dat.sz Link = 6 from rfl]; omega) (by decide) (by omega) (by omega) (by omega) (by omega) (by omega) rfl rfl (fun v12 w51 f8 m15 ho15 hin3 => ?_)
            have hqb := OwS.inn (OwF.ows oW)
            have kq6 := Mod.kq (l := fW) m15 (OwF.v_mem oW)
            replace E := E.step m15 (fun g hg => by have := hqb g hg; omega); replace h1 := h1.mod m15 (fun g hg => by have := hqb g hg; omega); replace h2 := h2.mod m15 (fun g hg => by have := hqb g hg; omega); replace ho10 := ho10.mod m15 (fun g hg => by have := hqb g hg; omega); replace ho11 := ho11.mod m15 (fun g hg => by have := hqb g hg; omega); replace oL := OwF.kp oL (Kq.kp kq6 (gW.1.1).symm); replace h8 := h8.mod m15 (fun g hg => by have := hqb g hg; omega); replace ho := ho.mod m15 (fun g hg => by have := hqb g hg; omega)
            have z50 := m15.size
            replace gW := DjL.set (N := w48.heap.size) hin3 0 rfl gW ⟨(fun b hb => by have := OwF.in2 oW b hb; omega), (fun b hb => by have := OwF.in2 oL b hb; omega), trivial⟩
            replace gW : DjL [f8, fL] := gW
            clear hqb hy3 kq6 oW
            refine JX_go ?_
            refine J_st (R_fieldAddr0 fl36_1 rfl) rfl ?_
            refine J_store' (cs' := [v8, .int .i64 g.workers, .int .i64 g.cap, v12, vL, v9, .slice none 0 0]) sc31 rfl rfl (RdD.one (OwF.rd ho15)) h8 (Nat.le_of_ble_eq_true rfl) rfl (fun w52 m16 h8' => ?_)
            replace h8 := h8'
            replace E := E.step m16 (fun g hg => by cases hg; omega); replace h1 := h1.mod m16 (fun g hg => by cases hg; omega); replace h2 := h2.mod m16 (fun g hg => by cases hg; omega); replace ho10 := ho10.mod m16 (fun g hg => by cases hg; omega); replace ho11 := ho11.mod m16 (fun g hg => by cases hg; omega); replace oL := oL.mod m16 (fun g hg => by cases hg; omega); replace ho := ho.mod m16 (fun g hg => by cases hg; omega); replace ho15 := ho15.mod m16 (fun g hg => by cases hg; omega)
            have z51 := m16.size
            refine J_done ?_
            refine S_seq ?_
            refine S_reg [true] rfl rfl ?_
            refine J_st (R_assign rfl) rfl (J_done ?_)
            refine S_block ?_
            refine S_loop (fun (xq : Nat × Value × List Nat) => let ⟨j, vM, fM⟩ := xq; [(1, vxs), (2, .pointer (some ⟨b1, 0, none⟩)), (4, .pointer (some ⟨b2, 0, none⟩)), (5, .bool false), (8, .pointer (some ⟨b8, 0, none⟩)), (9, .int .i64 ((k : Nat) : Int)), (14, .int .i64 ((j : Nat) : Int)), (80, .pointer (some ⟨b8, 3, none⟩)), (86, .pointer (some ⟨b8, 3, none⟩))]) (fun (xq : Nat × Value × List Nat) w' => let ⟨j, vM, fM⟩ := xq; Ext w w' ∧ w52.heap.size ≤ w'.heap.size ∧ Blk w' b1 ([o1, .int .i64 g.workers, .int .i64 g.cap]) ∧ Blk w' b2 [.slice none 0 0, .int .i64 0, .int .i64 0, .slice none 0 0, .slice none 0 0, .slice none 0 0, .slice none 0 0] ∧ OwF w' w12.heap.size w36.heap.size v8 g.nodes f6 ∧ Own w' w12.heap.size w36.heap.size 5 v9 (List.flatMap (Enc.enc (α := Token)) [(⟨false, 0, 0, false, false⟩ : Token), (⟨false, 0, 0, false, false⟩ : Token), (⟨false, 0, 0, false, false⟩ : Token), (⟨false, 0, 0, false, false⟩ : Token)]) ∧ OwF w' w38.heap.size w51.heap.size v12 ((newWs g xs k) ++ [(workerNew (ownTo g.workers ((k : Nat) : Int) xs e))]) f8 ∧ j ≤ Int.toNat g.workers ∧ OwF w' w38.heap.size w'.heap.size vM (List.replicate (k * Int.toNat g.workers + j) (linkNew g.cap)) fM ∧ DjL [f8, fM] ∧ Blk w' b8 [v8, .int .i64 g.workers, .int .i64 g.cap, v12, vM, v9, .slice none 0 0]) (fun (xq : Nat × Value × List Nat) => let ⟨j, vM, fM⟩ := xq; Int.toNat g.workers - j) (0, vL, fL) ⟨rfl, rfl, rfl, rfl, rfl, rfl, rfl, rfl, rfl, trivial⟩ ⟨E, Nat.le_refl _, h1, h2, ho10, ho11, ho15, Nat.zero_le _, OwF.widen oL (by omega) (by omega), gW, h8⟩ ?_
            clear E h1 h2 ho10 ho11 oL h8 ho ho15
            rintro ⟨j, vM, fM⟩ w53 ⟨E, z52, h1, h2, ho10, ho11, ho15, hj, oM, gV, h8⟩
            refine S_sub [(1, vxs), (2, .pointer (some ⟨b1, 0, none⟩)), (4, .pointer (some ⟨b2, 0, none⟩)), (5, .bool false), (8, .pointer (some ⟨b8, 0, none⟩)), (9, .int .i64 ((k : Nat) : Int)), (14, .int .i64 ((j : Nat) : Int)), (80, .pointer (some ⟨b8, 3, none⟩)), (86, .pointer (some ⟨b8, 3, none⟩))] ⟨rfl, rfl, rfl, rfl, rfl, rfl, rfl, rfl, rfl, trivial⟩ ?_
            refine S_seq ?_
            refine S_seq ?_
            refine S_reg [true, true, true, true] rfl rfl ?_
            refine J_st (R_move rfl) rfl (J_st (R_fieldAddr0 fl30_1 rfl) rfl (J_st (R_load sc3 rfl (h1.one 1 rfl)) rfl (J_st (R_lss rfl rfl) rfl (J_done ?_))))
            refine S_cond rfl (fun hc13 => ?_) (fun hc13 => ?_)
            · have hlthc13 : j < Int.toNat g.workers := by have h := of_decide_eq_true hc13; omega
              refine S_skip ?_
              refine S_seq ?_
              refine S_block ?_
              refine S_regX mixed [6] [(0, true), (1, true), (2, true), (3, true), (4, false), (5, false)] [(6, false), (7, true), (8, false)] (by decide +kernel) rfl rfl (fun w54 e27 => ?_)
              replace E := E.trans e27; replace h1 := h1.ext e27; replace h2 := h2.ext e27; replace ho10 := ho10.ext e27; replace ho11 := ho11.ext e27; replace ho15 := ho15.ext e27; replace oM := oM.ext e27; replace h8 := h8.ext e27
              have z53 := e27.size
              refine J_st (R_fieldAddr0 fl36_2 rfl) rfl (J_st (R_load sc32 rfl (h8.one 4 rfl)) rfl (J_st (R_fieldAddr0 fl30_2 rfl) rfl (J_st (R_load sc3 rfl (h1.one 2 rfl)) rfl ?_)))
              refine J_call Try.call32 rfl (c_LinkNew g.cap _ ) rfl (fun _ w55 e28 ho16 => ?_)
              obtain ⟨_, rfl, ho16⟩ := ho16
              have g_ho16 : w.heap.size ≤ w54.heap.size := E.size
              replace E := E.trans e28; replace h1 := h1.ext e28; replace h2 := h2.ext e28; replace ho10 := ho10.ext e28; replace ho11 := ho11.ext e28; replace ho15 := ho15.ext e28; replace oM := oM.ext e28; replace h8 := h8.ext e28
              have z54 := e28.size
              obtain ⟨o19, rfl, sp6, hw18⟩ := Link.opO ho16
              refine J_buildSlice (vs := [.agg [.int .i64 ((linkNew g.cap).cap), o19, .int .i64 ((linkNew g.cap).credits), .int .i64 ((linkNew g.cap).back), .int .i64 ((linkNew g.cap).sent), .int .i64 ((linkNew g.cap).got)].toArray]) (css := [[.int .i64 ((linkNew g.cap).cap), o19, .int .i64 ((linkNew g.cap).credits), .int .i64 ((linkNew g.cap).back), .int .i64 ((linkNew g.cap).sent), .int .i64 ((linkNew g.cap).got)]]) sl32 rfl rfl ⟨⟨rfl, rfl⟩, trivial⟩ rfl rfl (fun b12 w56 e29 s12 h12 => ?_)
              replace h12 : Blk w56 b12 [.int .i64 ((linkNew g.cap).cap), o19, .int .i64 ((linkNew g.cap).credits), .int .i64 ((linkNew g.cap).back), .int .i64 ((linkNew g.cap).sent), .int .i64 ((linkNew g.cap).got)] := h12
              have g_b12 : w.heap.size ≤ b12 := by have := E.size; omega
              have y_b12 := h12.lt
              replace E := E.trans e29; replace h1 := h1.ext e29; replace h2 := h2.ext e29; replace ho10 := ho10.ext e29; replace ho11 := ho11.ext e29; replace ho15 := ho15.ext e29; replace oM := oM.ext e29; replace h8 := h8.ext e29; replace hw18 := hw18.ext e29
              have z55 := e29.size
              refine JX_tail ?_
              refine J2_X rfl ?_
              have hy4 : Own1.O (α := Link) w56 w54.heap.size w56.heap.size [.int .i64 ((linkNew g.cap).cap), o19, .int .i64 ((linkNew g.cap).credits), .int .i64 ((linkNew g.cap).back), .int .i64 ((linkNew g.cap).sent), .int .i64 ((linkNew g.cap).got)] (linkNew g.cap) := Link.mkO (linkNew g.cap) sp6 (Own.widen hw18 (by omega) (by omega))
              refine J_appendF (lo := w38.heap.size) (hi := w53.heap.size) (lo2 := w54.heap.size) (hi2 := w56.heap.size) sl32 rfl rfl oM (Src.ofBlk h12 rfl) hy4 (fun b hb hc => by have := OwF.in2 oM b hb; have := Own1.inn hy4 b hc; omega) (by simp only [newWs_len, List.length_replicate, show Dat.sz Worker = 8 from rfl, show Dat.sz Link = 6 from rfl]; omega) (by decide) (by omega) (by omega) (by omega) (by omega) (by omega) rfl rfl (fun v13 w57 f9 m17 ho17 hin4 => ?_)
              have hqb := OwS.inn (OwF.ows oM)
              have kq7 := Mod.kq (l := fM) m17 (OwF.v_mem oM)
              replace E := E.step m17 (fun g hg => by have := hqb g hg; omega); replace h1 := h1.mod m17 (fun g hg => by have := hqb g hg; omega); replace h2 := h2.mod m17 (fun g hg => by have := hqb g hg; omega); replace ho10 := ho10.mod m17 (fun g hg => by have := hqb g hg; omega); replace ho11 := ho11.mod m17 (fun g hg => by have := hqb g hg; omega); replace ho15 := OwF.kp ho15 (Kq.kp kq7 gV.1.1); replace h8 := h8.mod m17 (fun g hg => by have := hqb g hg; omega)
              have z56 := m17.size
              replace gV := DjL.set (N := w54.heap.size) hin4 1 rfl gV ⟨(fun b hb => by have := OwF.in2 ho15 b hb; omega), (fun b hb => by have := OwF.in2 oM b hb; omega), trivial⟩
              replace gV : DjL [f8, f9] := gV
              clear hqb hy4 kq7 oM
              refine JX_go ?_
              refine J_st (R_fieldAddr0 fl36_2 rfl) rfl ?_
              refine J_store' (cs' := [v8, .int .i64 g.workers, .int .i64 g.cap, v12, v13, v9, .slice none 0 0]) sc32 rfl rfl (RdD.one (OwF.rd ho17)) h8 (Nat.le_of_ble_eq_true rfl) rfl (fun w58 m18 h8' => ?_)
              replace h8 := h8'
              replace E := E.step m18 (fun g hg => by cases hg; omega); replace h1 := h1.mod m18 (fun g hg => by cases hg; omega); replace h2 := h2.mod m18 (fun g hg => by cases hg; omega); replace ho10 := ho10.mod m18 (fun g hg => by cases hg; omega); replace ho11 := ho11.mod m18 (fun g hg => by cases hg; omega); replace ho15 := ho15.mod m18 (fun g hg => by cases hg; omega); replace ho17 := ho17.mod m18 (fun g hg => by cases hg; omega)
              have z57 := m18.size
              refine J_done ?_
              refine S_nil (E_inB ?_)
              refine S_reg [true, true, true] rfl rfl ?_
              refine J_st (R_move rfl) rfl (J_st (R_add rfl rfl (add_nat (by unfold maxLen; omega))) rfl (J_st (R_assign rfl) rfl (J_done ?_)))
              refine S_nil (E_again (j + 1, v13, f9) (by simp; omega) ⟨rfl, rfl, rfl, rfl, rfl, rfl, rfl, rfl, rfl, trivial⟩ ⟨E, (by omega), h1, h2, ho10, ho11, ho15, (by omega), (by rw [← Nat.add_assoc, List.replicate_succ']; exact OwF.widen ho17 (by omega) (by omega)), gV, h8⟩)
            · have hgehc13 : ¬ j < Int.toNat g.workers := by have h := of_decide_eq_false hc13; omega
              refine S_exit (E_lp_exit (E_inB_exit ?_))
              refine S_nil (E_inB ?_)
              refine S_reg [true, true, true] rfl rfl ?_
              refine J_st (R_move rfl) rfl (J_st (R_add rfl rfl (add_nat (by unfold maxLen; omega))) rfl (J_st (R_assign rfl) rfl (J_done ?_)))
              refine S_nil (E_again (k + 1, v12, vM, f8, fM) (by simp; omega) ⟨rfl, rfl, rfl, rfl, rfl, rfl, trivial⟩ ⟨E, (by omega), h1, h2, ho10, ho11, (by omega), (by rw [show e = 4 from by omega] at ho15; rw [newWs_step]; exact OwF.widen ho15 (by omega) (by omega)), (by rw [show (k + 1) * Int.toNat g.workers = k * Int.toNat g.workers + j from by rw [Nat.add_mul]; omega]; exact OwF.widen oM (by omega) (by omega)), gV, h8⟩)
        · have hgehc9 : ¬ k < Int.toNat g.workers := by have h := of_decide_eq_false hc9; omega
          refine S_exit (E_lp_exit (E_inB_exit ?_))
          refine S_seq ?_
          refine S_reg [true, false, true] rfl rfl ?_
          refine J_st (R_loadS st36 rfl h8.at rfl) rfl ?_
          refine J_storeS' (cs' := [v8, .int .i64 g.workers, .int .i64 g.cap, vW, vL, v9, .slice none 0 0]) st36 rfl rfl rfl (all_cons (RdD.one (OwF.rd ho10)) (all_cons rfl (all_cons rfl (all_cons (RdD.one (OwF.rd oW)) (all_cons (RdD.one (OwF.rd oL)) (all_cons ho11.one (all_cons rfl rfl))))))) h2 (Nat.le_of_ble_eq_true rfl) rfl (fun w59 m19 h2' => ?_)
          replace h2 := h2'
          replace E := E.step m19 (fun g hg => by cases hg; omega); replace h1 := h1.mod m19 (fun g hg => by cases hg; omega); replace ho10 := ho10.mod m19 (fun g hg => by cases hg; omega); replace ho11 := ho11.mod m19 (fun g hg => by cases hg; omega); replace oW := oW.mod m19 (fun g hg => by cases hg; omega); replace oL := oL.mod m19 (fun g hg => by cases hg; omega); replace h8 := h8.mod m19 (fun g hg => by cases hg; omega)
          have z58 := m19.size
          refine J_st (R_assign rfl) rfl (J_done ?_)
          refine S_ret (E_doneN (l := [.cell 4 36, .tmp 5]) (vs := [.agg [v8, .int .i64 g.workers, .int .i64 g.cap, vW, vL, v9, .slice none 0 0].toArray, .bool true]) rfl ⟨.cell rfl (run_loadVar_st st36 h2.at rfl), .tmp rfl, trivial⟩ rfl E ?_)
          rw [cn_ok hc1 (by omega) hI, newCl_at (k := k) (by omega)]
          exact ⟨_, _, _, _, _, rfl, OwC.of3 (⟨g, newWs g xs k, List.replicate (k * Int.toNat g.workers) (linkNew g.cap), [(⟨false, 0, 0, false, false⟩ : Token), (⟨false, 0, 0, false, false⟩ : Token), (⟨false, 0, 0, false, false⟩ : Token), (⟨false, 0, 0, false, false⟩ : Token)], []⟩ : Cluster) ho10 oW oL ho11 (Own.nil _ w12.heap.size w36.heap.size _) ⟨⟨sp4.1.1, Dj.nilR, trivial⟩, ⟨Dj.nilR, trivial⟩, trivial, trivial⟩ gW.1.1 (by have := E.size; omega)⟩

set_option maxHeartbeats 4000000 in
set_option maxRecDepth 20000 in
theorem l_ClusterNew (cg : List Value) (g : Graph) (vxs : Value) (xs : List Record) (w : World) (hg : Dat.R w 0 w.heap.size cg g) (hxs : RdS w vxs xs) (kg : okGraph g) (kxs : ∀ y ∈ xs, okRecord y) : Ct Try.prog 3 [.agg cg.toArray, vxs] w (fun v _ => v = .bool true) := by
  have hcn := cnt_clusterNew g xs
  have hnn := @numA_bd _ _ _ 4 numN1_bd 1 g.nodes
  have hcq : cntGraph g = cntL cntNode g.nodes := rfl
  refine ct_of Try.func3 rfl Try.ntmps3 rfl ?_
  obtain ⟨o1, rfl, hd1⟩ := Graph.op hg
  refine S_sub [(0, .agg [o1, .int .i64 g.workers, .int .i64 g.cap].toArray), (1, vxs)] ⟨rfl, rfl, trivial⟩ ?_
  have E : Ext w w := Ext.refl w
  refine S_seq ?_
  refine S_reg [false, true] rfl rfl ?_
  refine J_box rfl rfl (fun b1 w1 e1 s1 h1 => ?_)
  have g_b1 : w.heap.size ≤ b1 := by have := E.size; omega
  have y_b1 := h1.lt
  replace E := E.trans e1
  have z1 := e1.size
  refine J_st (R_assign rfl) rfl (J_done ?_)
  refine S_seq ?_
  refine S_reg [true] rfl rfl ?_
  refine J_st (R_assign rfl) rfl (J_done ?_)
  refine S_seq ?_
  refine S_reg [true, true, false, true] rfl rfl ?_
  refine J_st (R_loadS st24 rfl h1.at rfl) rfl (J_st (R_move rfl) rfl ?_)
  refine J_call Try.call4 rfl (c_szGraph [o1, .int .i64 g.workers, .int .i64 g.cap] g 1048576 _ (Graph.mkR g (RdD.any (hd1.ext E))) (by first | omega | (simp only [mkL_length]; omega) | (rw [mkL_length]; done) | (simp only [mkL_length]; done))) rfl (fun _ w2 e2 hv => ?_)
  subst hv
  replace E := E.trans e2; replace h1 := h1.ext e2
  have z2 := e2.size
  refine J_st (R_assign rfl) rfl (J_done ?_)
  refine S_seq ?_
  refine S_seq ?_
  refine S_reg [true, true] rfl rfl ?_
  refine J_st (R_move rfl) rfl (J_st (R_lss rfl rfl) rfl (J_done ?_))
  refine S_cond rfl (fun hc1 => ?_) (fun hc1 => ?_)
  · have q1 := szM_no hc1 (by omega)
    refine S_seq ?_
    refine S_reg [true] rfl rfl ?_
    refine J_st (R_assign rfl) rfl (J_done ?_)
    refine S_ret (E_done1 rfl rfl E ?_)
    rfl
  · have q2 := szM_ok hc1 (by omega)
    refine S_skip ?_
    refine S_seq ?_
    refine S_reg [true, true, false, true] rfl rfl ?_
    refine J_st (R_move rfl) rfl (J_st (R_move rfl) rfl ?_)
    refine J_call Try.call5 rfl (c_szRecordS vxs xs (szM (cntGraph g) 1048576) _ (hxs.ext E) (by first | omega | (simp only [mkL_length]; omega) | (rw [mkL_length]; done) | (simp only [mkL_length]; done))) rfl (fun _ w3 e3 hv => ?_)
    subst hv
    replace E := E.trans e3; replace h1 := h1.ext e3
    have z3 := e3.size
    refine J_st (R_assign rfl) rfl (J_done ?_)
    refine S_seq ?_
    refine S_seq ?_
    refine S_reg [true, true] rfl rfl ?_
    refine J_st (R_move rfl) rfl (J_st (R_lss rfl rfl) rfl (J_done ?_))
    refine S_cond rfl (fun hc2 => ?_) (fun hc2 => ?_)
    · have q3 := szM_no hc2 (by omega)
      refine S_seq ?_
      refine S_reg [true] rfl rfl ?_
      refine J_st (R_assign rfl) rfl (J_done ?_)
      refine S_ret (E_done1 rfl rfl E ?_)
      rfl
    · have q4 := szM_ok hc2 (by omega)
      refine S_skip ?_
      refine S_seq ?_
      refine S_reg [true, false, true, false, false, true, true, true, false, false, true] rfl rfl ?_
      refine J_st (R_loadS st24 rfl h1.at rfl) rfl ?_
      refine J_call Try.call7 rfl (c_toGraph [o1, .int .i64 g.workers, .int .i64 g.cap] g _ (Graph.mkR g (RdD.any (hd1.ext E))) (by first | omega | (simp only [mkL_length]; omega) | (rw [mkL_length]; done) | (simp only [mkL_length]; done))) rfl (fun _ w4 e4 ho1 => ?_)
      obtain ⟨o2, rfl, ho1⟩ := ho1
      have g_ho1 : w.heap.size ≤ w3.heap.size := E.size
      replace E := E.trans e4; replace h1 := h1.ext e4
      have z4 := e4.size
      refine J_st (R_move rfl) rfl ?_
      refine J_call Try.call8 rfl (c_toRecordS vxs xs _ (hxs.ext E) (by first | omega | (simp only [mkL_length]; omega) | (rw [mkL_length]; done) | (simp only [mkL_length]; done))) rfl (fun v1 w5 e5 ho2 => ?_)
      have g_ho2 : w.heap.size ≤ w4.heap.size := E.size
      replace E := E.trans e5; replace h1 := h1.ext e5; replace ho1 := ho1.ext e5
      have z5 := e5.size
      refine J_call Try.call6 rfl (s_ClusterNew [o2, .int .i64 g.workers, .int .i64 g.cap] g v1 xs _ (Graph.mkR g (RdD.any (OwS.rd ho1))) (Own.rd (by decide) ho2) (by omega)) rfl (fun _ w6 e6 ho3 => ?_)
      obtain ⟨_, rfl, ho4⟩ := ho3
      have g_ho3 : w.heap.size ≤ w5.heap.size := E.size
      replace E := E.trans e6; replace h1 := h1.ext e6; replace ho1 := ho1.ext e6; replace ho2 := ho2.ext e6
      have z6 := e6.size
      obtain ⟨o3, o4, o5, o6, o7, rfl, hd2, hd3, hd4, hd5, hd6⟩ := Cluster.op ho4
      refine J_st (R_move rfl) rfl (J_st (R_extract rfl rfl) rfl (J_st (R_extract rfl rfl) rfl ?_))
      refine J_alloc st36 rfl (fun b2 w7 e7 s2 h2 => ?_)
      have g_b2 : w.heap.size ≤ b2 := by have := E.size; omega
      have y_b2 := h2.lt
      replace E := E.trans e7; replace h1 := h1.ext e7; replace ho1 := ho1.ext e7; replace ho2 := ho2.ext e7; replace hd2 := hd2.ext e7; replace hd3 := hd3.ext e7; replace hd4 := hd4.ext e7; replace hd5 := hd5.ext e7; replace hd6 := hd6.ext e7
      have z7 := e7.size
      refine J_storeS' (cs' := [o3, .int .i64 ((((clusterNew g xs).1).graph).workers), .int .i64 ((((clusterNew g xs).1).graph).cap), o4, o5, o6, o7]) st36 rfl rfl rfl (all_cons (RdD.one hd2) (all_cons rfl (all_cons rfl (all_cons (RdD.one hd3) (all_cons (RdD.one hd4) (all_cons (RdD.one hd5) (all_cons (RdD.one hd6) rfl))))))) h2 (Nat.le_of_ble_eq_true rfl) rfl (fun w8 m1 h2' => ?_)
      replace h2 := h2'
      replace E := E.step m1 (fun g hg => by cases hg; omega); replace h1 := h1.mod m1 (fun g hg => by cases hg; omega); replace ho1 := ho1.mod m1 (fun g hg => by cases hg; omega); replace ho2 := ho2.mod m1 (fun g hg => by cases hg; omega); replace hd2 := hd2.mod m1 (fun g hg => by cases hg; omega); replace hd3 := hd3.mod m1 (fun g hg => by cases hg; omega); replace hd4 := hd4.mod m1 (fun g hg => by cases hg; omega); replace hd5 := hd5.mod m1 (fun g hg => by cases hg; omega); replace hd6 := hd6.mod m1 (fun g hg => by cases hg; omega)
      have z8 := m1.size
      refine J_st (R_assign rfl) rfl (J_done ?_)
      refine S_seq ?_
      refine S_reg [true, false, false, false] rfl rfl ?_
      refine J_st (R_loadS st24 rfl h1.at rfl) rfl ?_
      refine J_call Try.call7 rfl (c_toGraph [o1, .int .i64 g.workers, .int .i64 g.cap] g _ (Graph.mkR g (RdD.any (hd1.ext E))) (by first | omega | (simp only [mkL_length]; omega) | (rw [mkL_length]; done) | (simp only [mkL_length]; done))) rfl (fun _ w9 e8 ho5 => ?_)
      obtain ⟨o8, rfl, ho5⟩ := ho5
      have g_ho5 : w.heap.size ≤ w8.heap.size := E.size
      replace E := E.trans e8; replace h1 := h1.ext e8; replace ho1 := ho1.ext e8; replace ho2 := ho2.ext e8; replace hd2 := hd2.ext e8; replace hd3 := hd3.ext e8; replace hd4 := hd4.ext e8; replace hd5 := hd5.ext e8; replace hd6 := hd6.ext e8; replace h2 := h2.ext e8
      have z9 := e8.size
      refine J_alloc st30 rfl (fun b3 w10 e9 s3 h3 => ?_)
      have g_b3 : w.heap.size ≤ b3 := by have := E.size; omega
      have y_b3 := h3.lt
      replace E := E.trans e9; replace h1 := h1.ext e9; replace ho1 := ho1.ext e9; replace ho2 := ho2.ext e9; replace hd2 := hd2.ext e9; replace hd3 := hd3.ext e9; replace hd4 := hd4.ext e9; replace hd5 := hd5.ext e9; replace hd6 := hd6.ext e9; replace h2 := h2.ext e9; replace ho5 := ho5.ext e9
      have z10 := e9.size
      refine J_storeS' (cs' := [o8, .int .i64 g.workers, .int .i64 g.cap]) st30 rfl rfl rfl (all_cons (RdD.one (OwS.rd ho5)) (all_cons rfl (all_cons rfl rfl))) h3 (Nat.le_of_ble_eq_true rfl) rfl (fun w11 m2 h3' => ?_)
      replace h3 := h3'
      replace E := E.step m2 (fun g hg => by cases hg; omega); replace h1 := h1.mod m2 (fun g hg => by cases hg; omega); replace ho1 := ho1.mod m2 (fun g hg => by cases hg; omega); replace ho2 := ho2.mod m2 (fun g hg => by cases hg; omega); replace hd2 := hd2.mod m2 (fun g hg => by cases hg; omega); replace hd3 := hd3.mod m2 (fun g hg => by cases hg; omega); replace hd4 := hd4.mod m2 (fun g hg => by cases hg; omega); replace hd5 := hd5.mod m2 (fun g hg => by cases hg; omega); replace hd6 := hd6.mod m2 (fun g hg => by cases hg; omega); replace h2 := h2.mod m2 (fun g hg => by cases hg; omega); replace ho5 := ho5.mod m2 (fun g hg => by cases hg; omega)
      have z11 := m2.size
      refine J_done ?_
      refine S_seq ?_
      refine S_reg [true, false, true] rfl rfl ?_
      refine J_st (R_move rfl) rfl ?_
      refine J_call Try.call8 rfl (c_toRecordS vxs xs _ (hxs.ext E) (by first | omega | (simp only [mkL_length]; omega) | (rw [mkL_length]; done) | (simp only [mkL_length]; done))) rfl (fun v2 w12 e10 ho6 => ?_)
      have g_ho6 : w.heap.size ≤ w11.heap.size := E.size
      replace E := E.trans e10; replace h1 := h1.ext e10; replace ho1 := ho1.ext e10; replace ho2 := ho2.ext e10; replace hd2 := hd2.ext e10; replace hd3 := hd3.ext e10; replace hd4 := hd4.ext e10; replace hd5 := hd5.ext e10; replace hd6 := hd6.ext e10; replace h2 := h2.ext e10; replace ho5 := ho5.ext e10; replace h3 := h3.ext e10
      have z12 := e10.size
      refine J_st (R_assign rfl) rfl (J_done ?_)
      refine S_seq ?_
      refine S_reg [true, true, false, true, true, true, false, false, true] rfl rfl ?_
      refine J_st (R_loadS st30 rfl h3.at rfl) rfl (J_st (R_move rfl) rfl ?_)
      refine J_call Try.call9 rfl (c_ClusterNew [o8, .int .i64 g.workers, .int .i64 g.cap] g v2 xs _ (Graph.mkR g (RdD.any (OwS.rd ho5))) (Own.rd (by decide) ho6) (by omega)) rfl (fun _ w13 e11 ho7 => ?_)
      obtain ⟨o9, o10, o11, o12, o13, rfl, ho8⟩ := ho7
      have g_ho7 : w.heap.size ≤ w12.heap.size := E.size
      replace E := E.trans e11; replace h1 := h1.ext e11; replace ho1 := ho1.ext e11; replace ho2 := ho2.ext e11; replace hd2 := hd2.ext e11; replace hd3 := hd3.ext e11; replace hd4 := hd4.ext e11; replace hd5 := hd5.ext e11; replace hd6 := hd6.ext e11; replace h2 := h2.ext e11; replace ho5 := ho5.ext e11; replace h3 := h3.ext e11; replace ho6 := ho6.ext e11
      have z13 := e11.size
      refine J_st (R_move rfl) rfl (J_st (R_extract rfl rfl) rfl (J_st (R_extract rfl rfl) rfl ?_))
      refine J_alloc st36 rfl (fun b4 w14 e12 s4 h4 => ?_)
      have g_b4 : w.heap.size ≤ b4 := by have := E.size; omega
      have y_b4 := h4.lt
      replace E := E.trans e12; replace h1 := h1.ext e12; replace ho1 := ho1.ext e12; replace ho2 := ho2.ext e12; replace hd2 := hd2.ext e12; replace hd3 := hd3.ext e12; replace hd4 := hd4.ext e12; replace hd5 := hd5.ext e12; replace hd6 := hd6.ext e12; replace h2 := h2.ext e12; replace ho5 := ho5.ext e12; replace h3 := h3.ext e12; replace ho6 := ho6.ext e12; replace ho8 := ho8.ext e12
      have z14 := e12.size
      refine J_storeS' (cs' := [o9, .int .i64 ((((clusterNew g xs).1).graph).workers), .int .i64 ((((clusterNew g xs).1).graph).cap), o10, o11, o12, o13]) st36 rfl rfl rfl (all_cons (RdD.one (OwC.rd1 ho8)) (all_cons rfl (all_cons rfl (all_cons (RdD.one (OwC.rd2 ho8)) (all_cons (RdD.one (OwC.rd3 ho8)) (all_cons (RdD.one (OwC.rd4 ho8)) (all_cons (RdD.one (OwC.rd5 ho8)) rfl))))))) h4 (Nat.le_of_ble_eq_true rfl) rfl (fun w15 m3 h4' => ?_)
      replace h4 := h4'
      replace E := E.step m3 (fun g hg => by cases hg; omega); replace h1 := h1.mod m3 (fun g hg => by cases hg; omega); replace ho1 := ho1.mod m3 (fun g hg => by cases hg; omega); replace ho2 := ho2.mod m3 (fun g hg => by cases hg; omega); replace hd2 := hd2.mod m3 (fun g hg => by cases hg; omega); replace hd3 := hd3.mod m3 (fun g hg => by cases hg; omega); replace hd4 := hd4.mod m3 (fun g hg => by cases hg; omega); replace hd5 := hd5.mod m3 (fun g hg => by cases hg; omega); replace hd6 := hd6.mod m3 (fun g hg => by cases hg; omega); replace h2 := h2.mod m3 (fun g hg => by cases hg; omega); replace ho5 := ho5.mod m3 (fun g hg => by cases hg; omega); replace h3 := h3.mod m3 (fun g hg => by cases hg; omega); replace ho6 := ho6.mod m3 (fun g hg => by cases hg; omega); replace ho8 := ho8.mod m3 (fun g hg => by cases hg; omega)
      have z15 := m3.size
      refine J_st (R_assign rfl) rfl (J_done ?_)
      refine S_seq ?_
      refine S_seq ?_
      refine S_reg [true, true, false, true, true, true, true, true, true] rfl rfl ?_
      refine J_st (R_loadS st36 rfl h4.at rfl) rfl (J_st (R_loadS st36 rfl h2.at rfl) rfl ?_)
      refine J_call Try.call10 rfl (c_eqCluster [o9, .int .i64 ((((clusterNew g xs).1).graph).workers), .int .i64 ((((clusterNew g xs).1).graph).cap), o10, o11, o12, o13] ((clusterNew g xs).1) [o3, .int .i64 ((((clusterNew g xs).1).graph).workers), .int .i64 ((((clusterNew g xs).1).graph).cap), o4, o5, o6, o7] ((clusterNew g xs).1) _ (Cluster.mkR ((clusterNew g xs).1) (RdD.any (OwC.rd1 ho8)) (RdD.any (OwC.rd2 ho8)) (RdD.any (OwC.rd3 ho8)) (RdD.any (OwC.rd4 ho8)) (RdD.any (OwC.rd5 ho8))) (Cluster.mkR ((clusterNew g xs).1) (RdD.any hd2) (RdD.any hd3) (RdD.any hd4) (RdD.any hd5) (RdD.any hd6))) rfl (fun _ w16 e13 hv => ?_)
      subst hv
      replace E := E.trans e13; replace h1 := h1.ext e13; replace ho1 := ho1.ext e13; replace ho2 := ho2.ext e13; replace hd2 := hd2.ext e13; replace hd3 := hd3.ext e13; replace hd4 := hd4.ext e13; replace hd5 := hd5.ext e13; replace hd6 := hd6.ext e13; replace h2 := h2.ext e13; replace ho5 := ho5.ext e13; replace h3 := h3.ext e13; replace ho6 := ho6.ext e13; replace ho8 := ho8.ext e13; replace h4 := h4.ext e13
      have z16 := e13.size
      refine J_st (R_not rfl) rfl (J_st (R_move rfl) rfl ?_)
      refine J_cut 4 [(0, .agg [o1, .int .i64 g.workers, .int .i64 g.cap].toArray), (1, vxs), (2, .pointer (some ⟨b1, 0, none⟩)), (4, .bool false), (5, .int .i64 (szM xs.length (szM (cntGraph g) 1048576))), (6, .pointer (some ⟨b2, 0, none⟩)), (7, .bool ((clusterNew g xs).2)), (8, .pointer (some ⟨b3, 0, none⟩)), (9, v2), (10, .pointer (some ⟨b4, 0, none⟩)), (11, .bool ((clusterNew g xs).2)), (17, .agg [o1, .int .i64 g.workers, .int .i64 g.cap].toArray), (18, .int .i64 1048576), (19, .int .i64 (szM (cntGraph g) 1048576)), (20, .int .i64 (szM (cntGraph g) 1048576)), (21, .bool (decide ((szM (cntGraph g) 1048576) < 0))), (22, vxs), (23, .int .i64 (szM (cntGraph g) 1048576)), (24, .int .i64 (szM xs.length (szM (cntGraph g) 1048576))), (25, .int .i64 (szM xs.length (szM (cntGraph g) 1048576))), (26, .bool (decide ((szM xs.length (szM (cntGraph g) 1048576)) < 0))), (27, .tuple [.agg [o3, .int .i64 ((((clusterNew g xs).1).graph).workers), .int .i64 ((((clusterNew g xs).1).graph).cap), o4, o5, o6, o7].toArray, .bool ((clusterNew g xs).2)].toArray), (28, .agg [o1, .int .i64 g.workers, .int .i64 g.cap].toArray), (29, .agg [o2, .int .i64 g.workers, .int .i64 g.cap].toArray), (30, vxs), (31, v1), (32, .tuple [.agg [o3, .int .i64 ((((clusterNew g xs).1).graph).workers), .int .i64 ((((clusterNew g xs).1).graph).cap), o4, o5, o6, o7].toArray, .bool ((clusterNew g xs).2)].toArray), (33, .agg [o3, .int .i64 ((((clusterNew g xs).1).graph).workers), .int .i64 ((((clusterNew g xs).1).graph).cap), o4, o5, o6, o7].toArray), (34, .bool ((clusterNew g xs).2)), (35, .agg [o1, .int .i64 g.workers, .int .i64 g.cap].toArray), (36, .agg [o8, .int .i64 g.workers, .int .i64 g.cap].toArray), (37, vxs), (38, v2), (39, .tuple [.agg [o9, .int .i64 ((((clusterNew g xs).1).graph).workers), .int .i64 ((((clusterNew g xs).1).graph).cap), o10, o11, o12, o13].toArray, .bool ((clusterNew g xs).2)].toArray), (40, .agg [o8, .int .i64 g.workers, .int .i64 g.cap].toArray), (41, v2), (42, .tuple [.agg [o9, .int .i64 ((((clusterNew g xs).1).graph).workers), .int .i64 ((((clusterNew g xs).1).graph).cap), o10, o11, o12, o13].toArray, .bool ((clusterNew g xs).2)].toArray), (43, .agg [o9, .int .i64 ((((clusterNew g xs).1).graph).workers), .int .i64 ((((clusterNew g xs).1).graph).cap), o10, o11, o12, o13].toArray), (44, .bool ((clusterNew g xs).2)), (53, .bool ((!(decide ((clusterNew g xs).1 = ((clusterNew g xs).1)))) || (!(((clusterNew g xs).2) == ((clusterNew g xs).2)))))] (fun w' => w16 = w') ?_ ?_
      · refine J_if (gd := 49) rfl rfl (fun hg1 => ?_) (fun hg1 => ?_)
        · exact absurd hg1 (by first | (simp; done) | (simp only [nat_nlt] <;> simp) | (simp only [mkL_length, nat_nlt] <;> simp) | (simp only [mkL_length] <;> simp))
        · refine J_gd rfl rfl (R_move rfl) rfl (J_gd rfl rfl (R_move rfl) rfl (J_gd rfl rfl (R_neqB (Try.underlying4) rfl rfl) rfl (J_st (R_pickF rfl rfl) rfl (J_cutEnd ⟨rfl, rfl, rfl, rfl, rfl, rfl, rfl, rfl, rfl, rfl, rfl, rfl, rfl, rfl, rfl, rfl, rfl, rfl, rfl, rfl, rfl, rfl, rfl, rfl, rfl, rfl, rfl, rfl, rfl, rfl, rfl, rfl, rfl, rfl, rfl, rfl, rfl, rfl, rfl, congrArg (fun b => some (Value.bool b)) (show (!(((clusterNew g xs).2) == ((clusterNew g xs).2))) = ((!(decide ((clusterNew g xs).1 = ((clusterNew g xs).1)))) || (!(((clusterNew g xs).2) == ((clusterNew g xs).2)))) by first | (rw [hg1] <;> rfl) | (simp [hg1]; done) | (simp only [nat_nlt] <;> simp)), trivial⟩ rfl))))
      rintro _ rfl
      refine J_done ?_
      refine S_condFe rfl (by first | (simp; done) | (simp only [nat_nlt] <;> simp) | (simp only [mkL_length, nat_nlt] <;> simp) | (simp only [mkL_length] <;> simp)) ?_
      refine S_skip ?_
      refine S_seq ?_
      refine S_seq ?_
      refine S_regD mixed [(0, true), (1, true), (2, false), (3, false), (4, true)] (by decide +kernel) rfl (fun w18 e14 => ?_)
      replace E := E.trans e14; replace h1 := h1.ext e14; replace ho1 := ho1.ext e14; replace ho2 := ho2.ext e14; replace hd2 := hd2.ext e14; replace hd3 := hd3.ext e14; replace hd4 := hd4.ext e14; replace hd5 := hd5.ext e14; replace hd6 := hd6.ext e14; replace h2 := h2.ext e14; replace ho5 := ho5.ext e14; replace h3 := h3.ext e14; replace ho6 := ho6.ext e14; replace ho8 := ho8.ext e14; replace h4 := h4.ext e14
      have z17 := e14.size
      refine J_st (R_loadS st30 rfl h3.at rfl) rfl (J_st (R_loadS st24 rfl h1.at rfl) rfl ?_)
      refine J_call Try.call7 rfl (c_toGraph [o1, .int .i64 g.workers, .int .i64 g.cap] g _ (Graph.mkR g (RdD.any (hd1.ext E))) (by first | omega | (simp only [mkL_length]; omega) | (rw [mkL_length]; done) | (simp only [mkL_length]; done))) rfl (fun _ w19 e15 ho9 => ?_)
      obtain ⟨o14, rfl, ho9⟩ := ho9
      have g_ho9 : w.heap.size ≤ w18.heap.size := E.size
      replace E := E.trans e15; replace h1 := h1.ext e15; replace ho1 := ho1.ext e15; replace ho2 := ho2.ext e15; replace hd2 := hd2.ext e15; replace hd3 := hd3.ext e15; replace hd4 := hd4.ext e15; replace hd5 := hd5.ext e15; replace hd6 := hd6.ext e15; replace h2 := h2.ext e15; replace ho5 := ho5.ext e15; replace h3 := h3.ext e15; replace ho6 := ho6.ext e15; replace ho8 := ho8.ext e15; replace h4 := h4.ext e15
      have z18 := e15.size
      refine J_call Try.call11 rfl (c_eqGraph [o8, .int .i64 g.workers, .int .i64 g.cap] g [o14, .int .i64 g.workers, .int .i64 g.cap] g _ (Graph.mkR g (RdD.any (OwS.rd ho5))) (Graph.mkR g (RdD.any (OwS.rd ho9)))) rfl (fun _ w20 e16 hv => ?_)
      subst hv
      replace E := E.trans e16; replace h1 := h1.ext e16; replace ho1 := ho1.ext e16; replace ho2 := ho2.ext e16; replace hd2 := hd2.ext e16; replace hd3 := hd3.ext e16; replace hd4 := hd4.ext e16; replace hd5 := hd5.ext e16; replace hd6 := hd6.ext e16; replace h2 := h2.ext e16; replace ho5 := ho5.ext e16; replace h3 := h3.ext e16; replace ho6 := ho6.ext e16; replace ho8 := ho8.ext e16; replace h4 := h4.ext e16; replace ho9 := ho9.ext e16
      have z19 := e16.size
      refine J_st (R_not rfl) rfl (J_done ?_)
      refine S_condFe rfl (by first | (simp; done) | (simp only [nat_nlt] <;> simp) | (simp only [mkL_length, nat_nlt] <;> simp) | (simp only [mkL_length] <;> simp)) ?_
      refine S_skip ?_
      refine S_seq ?_
      refine S_seq ?_
      refine S_reg [true, true, false, false, true] rfl rfl ?_
      refine J_st (R_move rfl) rfl (J_st (R_move rfl) rfl ?_)
      refine J_call Try.call8 rfl (c_toRecordS vxs xs _ (hxs.ext E) (by first | omega | (simp only [mkL_length]; omega) | (rw [mkL_length]; done) | (simp only [mkL_length]; done))) rfl (fun v3 w21 e17 ho10 => ?_)
      have g_ho10 : w.heap.size ≤ w20.heap.size := E.size
      replace E := E.trans e17; replace h1 := h1.ext e17; replace ho1 := ho1.ext e17; replace ho2 := ho2.ext e17; replace hd2 := hd2.ext e17; replace hd3 := hd3.ext e17; replace hd4 := hd4.ext e17; replace hd5 := hd5.ext e17; replace hd6 := hd6.ext e17; replace h2 := h2.ext e17; replace ho5 := ho5.ext e17; replace h3 := h3.ext e17; replace ho6 := ho6.ext e17; replace ho8 := ho8.ext e17; replace h4 := h4.ext e17; replace ho9 := ho9.ext e17
      have z20 := e17.size
      refine J_call Try.call12 rfl (c_eqRecordS v2 xs v3 xs _ (Own.rd (by decide) ho6) (Own.rd (by decide) ho10)) rfl (fun _ w22 e18 hv => ?_)
      subst hv
      replace E := E.trans e18; replace h1 := h1.ext e18; replace ho1 := ho1.ext e18; replace ho2 := ho2.ext e18; replace hd2 := hd2.ext e18; replace hd3 := hd3.ext e18; replace hd4 := hd4.ext e18; replace hd5 := hd5.ext e18; replace hd6 := hd6.ext e18; replace h2 := h2.ext e18; replace ho5 := ho5.ext e18; replace h3 := h3.ext e18; replace ho6 := ho6.ext e18; replace ho8 := ho8.ext e18; replace h4 := h4.ext e18; replace ho9 := ho9.ext e18; replace ho10 := ho10.ext e18
      have z21 := e18.size
      refine J_st (R_not rfl) rfl (J_done ?_)
      refine S_condFe rfl (by first | (simp; done) | (simp only [nat_nlt] <;> simp) | (simp only [mkL_length, nat_nlt] <;> simp) | (simp only [mkL_length] <;> simp)) ?_
      refine S_skip ?_
      refine S_seq ?_
      refine S_reg [true] rfl rfl ?_
      refine J_st (R_assign rfl) rfl (J_done ?_)
      refine S_seq ?_
      refine S_reg [true, true, false, true] rfl rfl ?_
      refine J_st (R_loadS st30 rfl h3.at rfl) rfl (J_st (R_move rfl) rfl ?_)
      obtain ⟨f1, hf1⟩ := OwS.owf ho5
      refine J_callR Try.call13 rfl rfl (markGraph o8 w8.heap.size w9.heap.size f1 g 1 _ hf1 (by omega) (by first | omega | (simp only [mkL_length]; omega) | (rw [mkL_length]; done) | (simp only [mkL_length]; done))) rfl (fun _ w23 e19 hv => ?_)
      obtain ⟨rfl, ho5', kq1⟩ := hv
      replace ho5 := OwF.ows ho5'
      replace E := E.stepR e19 (by omega); replace h1 := h1.modR e19 (by omega); replace ho1 := ho1.modR e19 (by omega); replace ho2 := ho2.modR e19 (by omega); replace hd2 := hd2.modR e19 (by omega); replace hd3 := hd3.modR e19 (by omega); replace hd4 := hd4.modR e19 (by omega); replace hd5 := hd5.modR e19 (by omega); replace hd6 := hd6.modR e19 (by omega); replace h2 := h2.modR e19 (by omega); replace h3 := h3.modR e19 (by omega); replace ho6 := ho6.modR e19 (by omega); replace ho8 := ho8.modR e19 (by omega); replace h4 := h4.modR e19 (by omega); replace ho9 := ho9.modR e19 (by omega); replace ho10 := ho10.modR e19 (by omega)
      have z22 := e19.size
      refine J_st (R_assign rfl) rfl (J_done ?_)
      refine S_seq ?_
      refine S_reg [true, true, false, true] rfl rfl ?_
      refine J_st (R_move rfl) rfl (J_st (R_move rfl) rfl ?_)
      refine J_callR Try.call14 rfl rfl (markRecordS v2 w11.heap.size w12.heap.size xs (numA numN1 1 g.nodes) _ ho6 (by first | omega | (simp only [mkL_length]; omega) | (rw [mkL_length]; done) | (simp only [mkL_length]; done))) rfl (fun _ w24 e20 hv => ?_)
      obtain ⟨rfl, ho6'⟩ := hv
      replace ho6 := ho6'
      replace E := E.stepR e20 (by omega); replace h1 := h1.modR e20 (by omega); replace ho1 := ho1.modR e20 (by omega); replace ho2 := ho2.modR e20 (by omega); replace hd2 := hd2.modR e20 (by omega); replace hd3 := hd3.modR e20 (by omega); replace hd4 := hd4.modR e20 (by omega); replace hd5 := hd5.modR e20 (by omega); replace hd6 := hd6.modR e20 (by omega); replace h2 := h2.modR e20 (by omega); replace ho5 := ho5.modR e20 (by omega); replace h3 := h3.modR e20 (by omega); replace ho8 := ho8.modR e20 (by omega); replace h4 := h4.modR e20 (by omega); replace ho9 := ho9.modR e20 (by omega); replace ho10 := ho10.modR e20 (by omega)
      have z23 := e20.size
      refine J_st (R_assign rfl) rfl (J_done ?_)
      refine S_seq ?_
      refine S_seq ?_
      refine S_reg [true, true, true, true, true, false, true, true, true, true, true, true, true] rfl rfl ?_
      refine J_st (R_move rfl) rfl (J_st (R_lss rfl rfl) rfl (J_st (R_move rfl) rfl ?_))
      refine J_cut 10 [(0, .agg [o1, .int .i64 g.workers, .int .i64 g.cap].toArray), (1, vxs), (2, .pointer (some ⟨b1, 0, none⟩)), (4, .bool false), (5, .int .i64 (szM xs.length (szM (cntGraph g) 1048576))), (6, .pointer (some ⟨b2, 0, none⟩)), (7, .bool ((clusterNew g xs).2)), (8, .pointer (some ⟨b3, 0, none⟩)), (9, v2), (10, .pointer (some ⟨b4, 0, none⟩)), (11, .bool ((clusterNew g xs).2)), (12, .int .i64 (((numA numN1 1 g.nodes) + 5 * xs.length : Nat) : Int)), (17, .agg [o1, .int .i64 g.workers, .int .i64 g.cap].toArray), (18, .int .i64 1048576), (19, .int .i64 (szM (cntGraph g) 1048576)), (20, .int .i64 (szM (cntGraph g) 1048576)), (21, .bool (decide ((szM (cntGraph g) 1048576) < 0))), (22, vxs), (23, .int .i64 (szM (cntGraph g) 1048576)), (24, .int .i64 (szM xs.length (szM (cntGraph g) 1048576))), (25, .int .i64 (szM xs.length (szM (cntGraph g) 1048576))), (26, .bool (decide ((szM xs.length (szM (cntGraph g) 1048576)) < 0))), (27, .tuple [.agg [o3, .int .i64 ((((clusterNew g xs).1).graph).workers), .int .i64 ((((clusterNew g xs).1).graph).cap), o4, o5, o6, o7].toArray, .bool ((clusterNew g xs).2)].toArray), (28, .agg [o1, .int .i64 g.workers, .int .i64 g.cap].toArray), (29, .agg [o2, .int .i64 g.workers, .int .i64 g.cap].toArray), (30, vxs), (31, v1), (32, .tuple [.agg [o3, .int .i64 ((((clusterNew g xs).1).graph).workers), .int .i64 ((((clusterNew g xs).1).graph).cap), o4, o5, o6, o7].toArray, .bool ((clusterNew g xs).2)].toArray), (33, .agg [o3, .int .i64 ((((clusterNew g xs).1).graph).workers), .int .i64 ((((clusterNew g xs).1).graph).cap), o4, o5, o6, o7].toArray), (34, .bool ((clusterNew g xs).2)), (35, .agg [o1, .int .i64 g.workers, .int .i64 g.cap].toArray), (36, .agg [o8, .int .i64 g.workers, .int .i64 g.cap].toArray), (37, vxs), (38, v2), (39, .tuple [.agg [o9, .int .i64 ((((clusterNew g xs).1).graph).workers), .int .i64 ((((clusterNew g xs).1).graph).cap), o10, o11, o12, o13].toArray, .bool ((clusterNew g xs).2)].toArray), (40, .agg [o8, .int .i64 g.workers, .int .i64 g.cap].toArray), (41, v2), (42, .tuple [.agg [o9, .int .i64 ((((clusterNew g xs).1).graph).workers), .int .i64 ((((clusterNew g xs).1).graph).cap), o10, o11, o12, o13].toArray, .bool ((clusterNew g xs).2)].toArray), (43, .agg [o9, .int .i64 ((((clusterNew g xs).1).graph).workers), .int .i64 ((((clusterNew g xs).1).graph).cap), o10, o11, o12, o13].toArray), (44, .bool ((clusterNew g xs).2)), (53, .bool ((!(decide ((clusterNew g xs).1 = ((clusterNew g xs).1)))) || (!(((clusterNew g xs).2) == ((clusterNew g xs).2))))), (54, .agg [o8, .int .i64 g.workers, .int .i64 g.cap].toArray), (55, .agg [o1, .int .i64 g.workers, .int .i64 g.cap].toArray), (56, .agg [o14, .int .i64 g.workers, .int .i64 g.cap].toArray), (57, .bool (decide (g = g))), (58, .bool (!(decide (g = g)))), (59, v2), (60, vxs), (61, v3), (62, .bool (decide (xs = xs))), (63, .bool (!(decide (xs = xs)))), (64, .agg [o8, .int .i64 g.workers, .int .i64 g.cap].toArray), (65, .int .i64 1), (66, .int .i64 ((numA numN1 1 g.nodes : Nat) : Int)), (67, v2), (68, .int .i64 ((numA numN1 1 g.nodes : Nat) : Int)), (69, .int .i64 (((numA numN1 1 g.nodes) + 5 * xs.length : Nat) : Int)), (82, .bool (((decide ((((numA numN1 1 g.nodes) + 5 * xs.length : Nat) : Int) < 0)) || (!(decide ((clusterNew g xs).1 = ((clusterNew g xs).1))))) || (!(((clusterNew g xs).2) == ((clusterNew g xs).2)))))] (fun w' => Ext w w' ∧ w24.heap.size ≤ w'.heap.size ∧ Blk w' b1 ([o1, .int .i64 g.workers, .int .i64 g.cap]) ∧ OwS w' w3.heap.size w4.heap.size o2 g.nodes ∧ Own w' w4.heap.size w5.heap.size 5 v1 (List.flatMap (Enc.enc (α := Record)) xs) ∧ RdD w' w5.heap.size w6.heap.size o3 ((((clusterNew g xs).1).graph).nodes) ∧ RdD w' w5.heap.size w6.heap.size o4 (((clusterNew g xs).1).workers) ∧ RdD w' w5.heap.size w6.heap.size o5 (((clusterNew g xs).1).links) ∧ RdD w' w5.heap.size w6.heap.size o6 (((clusterNew g xs).1).tokens) ∧ RdD w' w5.heap.size w6.heap.size o7 (((clusterNew g xs).1).news) ∧ Blk w' b2 [o3, .int .i64 ((((clusterNew g xs).1).graph).workers), .int .i64 ((((clusterNew g xs).1).graph).cap), o4, o5, o6, o7] ∧ OwS w' w8.heap.size w9.heap.size o8 (markA numN1 markN1 1 g.nodes) ∧ Blk w' b3 [o8, .int .i64 g.workers, .int .i64 g.cap] ∧ Own w' w11.heap.size w12.heap.size 5 v2 (List.flatMap (Enc.enc (α := Record)) (mkL 5 mkRecord (numA numN1 1 g.nodes) xs.length)) ∧ OwC w' w12.heap.size w13.heap.size o9 o10 o11 o12 o13 ((clusterNew g xs).1) ∧ Blk w' b4 [o9, .int .i64 ((((clusterNew g xs).1).graph).workers), .int .i64 ((((clusterNew g xs).1).graph).cap), o10, o11, o12, o13] ∧ OwS w' w18.heap.size w19.heap.size o14 g.nodes ∧ Own w' w20.heap.size w21.heap.size 5 v3 (List.flatMap (Enc.enc (α := Record)) xs)) ?_ ?_
      · refine J_if (gd := 72) rfl rfl (fun hg2 => ?_) (fun hg2 => ?_)
        · exact absurd hg2 (by first | (simp; done) | (simp only [nat_nlt] <;> simp) | (simp only [mkL_length, nat_nlt] <;> simp) | (simp only [mkL_length] <;> simp))
        · have hg2n : ¬ (numA numN1 1 g.nodes) + 5 * xs.length < 0 := by first | (have h := of_decide_eq_false hg2; omega) | (have h := hg2; simp at h; omega)
          refine J_gd rfl rfl (R_loadS st36 rfl h4.at rfl) rfl (J_gd rfl rfl (R_loadS st36 rfl h2.at rfl) rfl ?_)
          refine J_ung rfl rfl ?_
          refine J_call Try.call10 rfl (c_eqCluster [o9, .int .i64 ((((clusterNew g xs).1).graph).workers), .int .i64 ((((clusterNew g xs).1).graph).cap), o10, o11, o12, o13] ((clusterNew g xs).1) [o3, .int .i64 ((((clusterNew g xs).1).graph).workers), .int .i64 ((((clusterNew g xs).1).graph).cap), o4, o5, o6, o7] ((clusterNew g xs).1) _ (Cluster.mkR ((clusterNew g xs).1) (RdD.any (OwC.rd1 ho8)) (RdD.any (OwC.rd2 ho8)) (RdD.any (OwC.rd3 ho8)) (RdD.any (OwC.rd4 ho8)) (RdD.any (OwC.rd5 ho8))) (Cluster.mkR ((clusterNew g xs).1) (RdD.any hd2) (RdD.any hd3) (RdD.any hd4) (RdD.any hd5) (RdD.any hd6))) rfl (fun _ w26 e21 hv => ?_)
          subst hv
          replace E := E.trans e21; replace h1 := h1.ext e21; replace ho1 := ho1.ext e21; replace ho2 := ho2.ext e21; replace hd2 := hd2.ext e21; replace hd3 := hd3.ext e21; replace hd4 := hd4.ext e21; replace hd5 := hd5.ext e21; replace hd6 := hd6.ext e21; replace h2 := h2.ext e21; replace ho5 := ho5.ext e21; replace h3 := h3.ext e21; replace ho6 := ho6.ext e21; replace ho8 := ho8.ext e21; replace h4 := h4.ext e21; replace ho9 := ho9.ext e21; replace ho10 := ho10.ext e21
          have z24 := e21.size
          refine J_gd rfl rfl (R_not rfl) rfl (J_st (R_pickF rfl rfl) rfl (J_st (R_move rfl) rfl ?_))
          refine J_if (gd := 78) rfl rfl (fun hg3 => ?_) (fun hg3 => ?_)
          · exact absurd hg3 (by first | (simp; done) | (simp only [nat_nlt] <;> simp) | (simp only [mkL_length, nat_nlt] <;> simp) | (simp only [mkL_length] <;> simp))
          · refine J_gd rfl rfl (R_move rfl) rfl (J_gd rfl rfl (R_move rfl) rfl (J_gd rfl rfl (R_neqB (Try.underlying4) rfl rfl) rfl (J_st (R_pickF rfl rfl) rfl (J_cutEnd ⟨rfl, rfl, rfl, rfl, rfl, rfl, rfl, rfl, rfl, rfl, rfl, rfl, rfl, rfl, rfl, rfl, rfl, rfl, rfl, rfl, rfl, rfl, rfl, rfl, rfl, rfl, rfl, rfl, rfl, rfl, rfl, rfl, rfl, rfl, rfl, rfl, rfl, rfl, rfl, rfl, rfl, rfl, rfl, rfl, rfl, rfl, rfl, rfl, rfl, rfl, rfl, rfl, rfl, rfl, rfl, rfl, rfl, congrArg (fun b => some (Value.bool b)) (show (!(((clusterNew g xs).2) == ((clusterNew g xs).2))) = (((decide ((((numA numN1 1 g.nodes) + 5 * xs.length : Nat) : Int) < 0)) || (!(decide ((clusterNew g xs).1 = ((clusterNew g xs).1))))) || (!(((clusterNew g xs).2) == ((clusterNew g xs).2)))) by first | (rw [hg2, hg3] <;> rfl) | (simp [hg2, hg3]; done) | (simp only [nat_nlt] <;> simp)), trivial⟩ ⟨E, (by omega), h1, ho1, ho2, hd2, hd3, hd4, hd5, hd6, h2, ho5, h3, ho6, ho8, h4, ho9, ho10⟩))))
      clear E h1 ho1 ho2 hd2 hd3 hd4 hd5 hd6 h2 ho5 h3 ho6 ho8 h4 ho9 ho10
      rintro w25 ⟨E, z25, h1, ho1, ho2, hd2, hd3, hd4, hd5, hd6, h2, ho5, h3, ho6, ho8, h4, ho9, ho10⟩
      refine J_done ?_
      refine S_condFe rfl (by first | (simp; done) | (simp only [nat_nlt] <;> simp) | (simp only [mkL_length, nat_nlt] <;> simp) | (simp only [mkL_length] <;> simp)) ?_
      refine S_skip ?_
      refine S_seq ?_
      refine S_reg [true] rfl rfl ?_
      refine J_st (R_assign rfl) rfl (J_done ?_)
      refine S_seq ?_
      refine S_reg [true, true, false, true] rfl rfl ?_
      refine J_st (R_loadS st36 rfl h4.at rfl) rfl (J_st (R_move rfl) rfl ?_)
      refine J_callR Try.call15 rfl rfl (markCluster o9 o10 o11 o12 o13 w12.heap.size w13.heap.size ((clusterNew g xs).1) 1 _ ho8 (by omega) (by omega)) rfl (fun _ w27 e22 hv => ?_)
      obtain ⟨rfl, ho8'⟩ := hv
      replace ho8 := ho8'
      replace E := E.stepR e22 (by omega); replace h1 := h1.modR e22 (by omega); replace ho1 := ho1.modR e22 (by omega); replace ho2 := ho2.modR e22 (by omega); replace hd2 := hd2.modR e22 (by omega); replace hd3 := hd3.modR e22 (by omega); replace hd4 := hd4.modR e22 (by omega); replace hd5 := hd5.modR e22 (by omega); replace hd6 := hd6.modR e22 (by omega); replace h2 := h2.modR e22 (by omega); replace ho5 := ho5.modR e22 (by omega); replace h3 := h3.modR e22 (by omega); replace ho6 := ho6.modR e22 (by omega); replace h4 := h4.modR e22 (by omega); replace ho9 := ho9.modR e22 (by omega); replace ho10 := ho10.modR e22 (by omega)
      have z26 := e22.size
      refine J_st (R_assign rfl) rfl (J_done ?_)
      refine S_seq ?_
      refine S_reg [true] rfl rfl ?_
      refine J_st (R_assign rfl) rfl (J_done ?_)
      refine S_seq ?_
      refine S_reg [true, true, false, true] rfl rfl ?_
      refine J_st (R_loadS st36 rfl h4.at rfl) rfl (J_st (R_move rfl) rfl ?_)
      refine J_call Try.call16 rfl (heldCluster [o9, .int .i64 ((((clusterNew g xs).1).graph).workers), .int .i64 ((((clusterNew g xs).1).graph).cap), o10, o11, o12, o13] (markCl 1 ((clusterNew g xs).1)) 1 _ (Cluster.mkR (markCl 1 ((clusterNew g xs).1)) (RdD.any (OwC.rd1 ho8)) (RdD.any (OwC.rd2 ho8)) (RdD.any (OwC.rd3 ho8)) (RdD.any (OwC.rd4 ho8)) (RdD.any (OwC.rd5 ho8))) (markCl_idem _ _) (by rw [cntCl_mark]; omega)) rfl (fun _ w28 e23 hv => ?_)
      subst hv
      replace E := E.trans e23; replace h1 := h1.ext e23; replace ho1 := ho1.ext e23; replace ho2 := ho2.ext e23; replace hd2 := hd2.ext e23; replace hd3 := hd3.ext e23; replace hd4 := hd4.ext e23; replace hd5 := hd5.ext e23; replace hd6 := hd6.ext e23; replace h2 := h2.ext e23; replace ho5 := ho5.ext e23; replace h3 := h3.ext e23; replace ho6 := ho6.ext e23; replace ho8 := ho8.ext e23; replace h4 := h4.ext e23; replace ho9 := ho9.ext e23; replace ho10 := ho10.ext e23
      have z27 := e23.size
      refine J_st (R_assign rfl) rfl (J_done ?_)
      refine S_seq ?_
      refine S_seq ?_
      refine S_reg [true, true] rfl rfl ?_
      refine J_st (R_move rfl) rfl (J_st (R_lss rfl rfl) rfl (J_done ?_))
      refine S_condFe rfl (by first | (simp; done) | (simp only [nat_nlt] <;> simp) | (simp only [mkL_length, nat_nlt] <;> simp) | (simp only [mkL_length] <;> simp)) ?_
      refine S_skip ?_
      refine S_seq ?_
      refine S_seq ?_
      refine S_reg [true, true, true] rfl rfl ?_
      refine J_st (R_move rfl) rfl (J_st (R_move rfl) rfl (J_st (R_neq rfl rfl) rfl (J_done ?_)))
      refine S_condFe rfl (by rw [numCl_mark]; simp) ?_
      refine S_skip ?_
      refine S_seq ?_
      refine S_reg [true, false, true, false, false, true, true, true, false, false, true] rfl rfl ?_
      refine J_st (R_loadS st24 rfl h1.at rfl) rfl ?_
      refine J_call Try.call7 rfl (c_toGraph [o1, .int .i64 g.workers, .int .i64 g.cap] g _ (Graph.mkR g (RdD.any (hd1.ext E))) (by first | omega | (simp only [mkL_length]; omega) | (rw [mkL_length]; done) | (simp only [mkL_length]; done))) rfl (fun _ w29 e24 ho11 => ?_)
      obtain ⟨o15, rfl, ho11⟩ := ho11
      have g_ho11 : w.heap.size ≤ w28.heap.size := E.size
      replace E := E.trans e24; replace h1 := h1.ext e24; replace ho1 := ho1.ext e24; replace ho2 := ho2.ext e24; replace hd2 := hd2.ext e24; replace hd3 := hd3.ext e24; replace hd4 := hd4.ext e24; replace hd5 := hd5.ext e24; replace hd6 := hd6.ext e24; replace h2 := h2.ext e24; replace ho5 := ho5.ext e24; replace h3 := h3.ext e24; replace ho6 := ho6.ext e24; replace ho8 := ho8.ext e24; replace h4 := h4.ext e24; replace ho9 := ho9.ext e24; replace ho10 := ho10.ext e24
      have z28 := e24.size
      refine J_st (R_move rfl) rfl ?_
      refine J_call Try.call8 rfl (c_toRecordS vxs xs _ (hxs.ext E) (by first | omega | (simp only [mkL_length]; omega) | (rw [mkL_length]; done) | (simp only [mkL_length]; done))) rfl (fun v4 w30 e25 ho12 => ?_)
      have g_ho12 : w.heap.size ≤ w29.heap.size := E.size
      replace E := E.trans e25; replace h1 := h1.ext e25; replace ho1 := ho1.ext e25; replace ho2 := ho2.ext e25; replace hd2 := hd2.ext e25; replace hd3 := hd3.ext e25; replace hd4 := hd4.ext e25; replace hd5 := hd5.ext e25; replace hd6 := hd6.ext e25; replace h2 := h2.ext e25; replace ho5 := ho5.ext e25; replace h3 := h3.ext e25; replace ho6 := ho6.ext e25; replace ho8 := ho8.ext e25; replace h4 := h4.ext e25; replace ho9 := ho9.ext e25; replace ho10 := ho10.ext e25; replace ho11 := ho11.ext e25
      have z29 := e25.size
      refine J_call Try.call9 rfl (c_ClusterNew [o15, .int .i64 g.workers, .int .i64 g.cap] g v4 xs _ (Graph.mkR g (RdD.any (OwS.rd ho11))) (Own.rd (by decide) ho12) (by omega)) rfl (fun _ w31 e26 ho13 => ?_)
      obtain ⟨o16, o17, o18, o19, o20, rfl, ho14⟩ := ho13
      have g_ho13 : w.heap.size ≤ w30.heap.size := E.size
      replace E := E.trans e26; replace h1 := h1.ext e26; replace ho1 := ho1.ext e26; replace ho2 := ho2.ext e26; replace hd2 := hd2.ext e26; replace hd3 := hd3.ext e26; replace hd4 := hd4.ext e26; replace hd5 := hd5.ext e26; replace hd6 := hd6.ext e26; replace h2 := h2.ext e26; replace ho5 := ho5.ext e26; replace h3 := h3.ext e26; replace ho6 := ho6.ext e26; replace ho8 := ho8.ext e26; replace h4 := h4.ext e26; replace ho9 := ho9.ext e26; replace ho10 := ho10.ext e26; replace ho11 := ho11.ext e26; replace ho12 := ho12.ext e26
      have z30 := e26.size
      refine J_st (R_move rfl) rfl (J_st (R_extract rfl rfl) rfl (J_st (R_extract rfl rfl) rfl ?_))
      refine J_alloc st36 rfl (fun b5 w32 e27 s5 h5 => ?_)
      have g_b5 : w.heap.size ≤ b5 := by have := E.size; omega
      have y_b5 := h5.lt
      replace E := E.trans e27; replace h1 := h1.ext e27; replace ho1 := ho1.ext e27; replace ho2 := ho2.ext e27; replace hd2 := hd2.ext e27; replace hd3 := hd3.ext e27; replace hd4 := hd4.ext e27; replace hd5 := hd5.ext e27; replace hd6 := hd6.ext e27; replace h2 := h2.ext e27; replace ho5 := ho5.ext e27; replace h3 := h3.ext e27; replace ho6 := ho6.ext e27; replace ho8 := ho8.ext e27; replace h4 := h4.ext e27; replace ho9 := ho9.ext e27; replace ho10 := ho10.ext e27; replace ho11 := ho11.ext e27; replace ho12 := ho12.ext e27; replace ho14 := ho14.ext e27
      have z31 := e27.size
      refine J_storeS' (cs' := [o16, .int .i64 ((((clusterNew g xs).1).graph).workers), .int .i64 ((((clusterNew g xs).1).graph).cap), o17, o18, o19, o20]) st36 rfl rfl rfl (all_cons (RdD.one (OwC.rd1 ho14)) (all_cons rfl (all_cons rfl (all_cons (RdD.one (OwC.rd2 ho14)) (all_cons (RdD.one (OwC.rd3 ho14)) (all_cons (RdD.one (OwC.rd4 ho14)) (all_cons (RdD.one (OwC.rd5 ho14)) rfl))))))) h5 (Nat.le_of_ble_eq_true rfl) rfl (fun w33 m4 h5' => ?_)
      replace h5 := h5'
      replace E := E.step m4 (fun g hg => by cases hg; omega); replace h1 := h1.mod m4 (fun g hg => by cases hg; omega); replace ho1 := ho1.mod m4 (fun g hg => by cases hg; omega); replace ho2 := ho2.mod m4 (fun g hg => by cases hg; omega); replace hd2 := hd2.mod m4 (fun g hg => by cases hg; omega); replace hd3 := hd3.mod m4 (fun g hg => by cases hg; omega); replace hd4 := hd4.mod m4 (fun g hg => by cases hg; omega); replace hd5 := hd5.mod m4 (fun g hg => by cases hg; omega); replace hd6 := hd6.mod m4 (fun g hg => by cases hg; omega); replace h2 := h2.mod m4 (fun g hg => by cases hg; omega); replace ho5 := ho5.mod m4 (fun g hg => by cases hg; omega); replace h3 := h3.mod m4 (fun g hg => by cases hg; omega); replace ho6 := ho6.mod m4 (fun g hg => by cases hg; omega); replace ho8 := ho8.mod m4 (fun g hg => by cases hg; omega); replace h4 := h4.mod m4 (fun g hg => by cases hg; omega); replace ho9 := ho9.mod m4 (fun g hg => by cases hg; omega); replace ho10 := ho10.mod m4 (fun g hg => by cases hg; omega); replace ho11 := ho11.mod m4 (fun g hg => by cases hg; omega); replace ho12 := ho12.mod m4 (fun g hg => by cases hg; omega); replace ho14 := ho14.mod m4 (fun g hg => by cases hg; omega)
      have z32 := m4.size
      refine J_st (R_assign rfl) rfl (J_done ?_)
      refine S_seq ?_
      refine S_seq ?_
      refine S_reg [true, true, false, true, true, true, true, true, true] rfl rfl ?_
      refine J_st (R_loadS st36 rfl h5.at rfl) rfl (J_st (R_loadS st36 rfl h2.at rfl) rfl ?_)
      refine J_call Try.call10 rfl (c_eqCluster [o16, .int .i64 ((((clusterNew g xs).1).graph).workers), .int .i64 ((((clusterNew g xs).1).graph).cap), o17, o18, o19, o20] ((clusterNew g xs).1) [o3, .int .i64 ((((clusterNew g xs).1).graph).workers), .int .i64 ((((clusterNew g xs).1).graph).cap), o4, o5, o6, o7] ((clusterNew g xs).1) _ (Cluster.mkR ((clusterNew g xs).1) (RdD.any (OwC.rd1 ho14)) (RdD.any (OwC.rd2 ho14)) (RdD.any (OwC.rd3 ho14)) (RdD.any (OwC.rd4 ho14)) (RdD.any (OwC.rd5 ho14))) (Cluster.mkR ((clusterNew g xs).1) (RdD.any hd2) (RdD.any hd3) (RdD.any hd4) (RdD.any hd5) (RdD.any hd6))) rfl (fun _ w34 e28 hv => ?_)
      subst hv
      replace E := E.trans e28; replace h1 := h1.ext e28; replace ho1 := ho1.ext e28; replace ho2 := ho2.ext e28; replace hd2 := hd2.ext e28; replace hd3 := hd3.ext e28; replace hd4 := hd4.ext e28; replace hd5 := hd5.ext e28; replace hd6 := hd6.ext e28; replace h2 := h2.ext e28; replace ho5 := ho5.ext e28; replace h3 := h3.ext e28; replace ho6 := ho6.ext e28; replace ho8 := ho8.ext e28; replace h4 := h4.ext e28; replace ho9 := ho9.ext e28; replace ho10 := ho10.ext e28; replace ho11 := ho11.ext e28; replace ho12 := ho12.ext e28; replace ho14 := ho14.ext e28; replace h5 := h5.ext e28
      have z33 := e28.size
      refine J_st (R_not rfl) rfl (J_st (R_move rfl) rfl ?_)
      refine J_cut 4 [(0, .agg [o1, .int .i64 g.workers, .int .i64 g.cap].toArray), (1, vxs), (2, .pointer (some ⟨b1, 0, none⟩)), (4, .bool false), (5, .int .i64 (szM xs.length (szM (cntGraph g) 1048576))), (6, .pointer (some ⟨b2, 0, none⟩)), (7, .bool ((clusterNew g xs).2)), (8, .pointer (some ⟨b3, 0, none⟩)), (9, v2), (10, .pointer (some ⟨b4, 0, none⟩)), (11, .bool ((clusterNew g xs).2)), (12, .int .i64 (((numA numN1 1 g.nodes) + 5 * xs.length : Nat) : Int)), (13, .int .i64 ((numCl 1 ((clusterNew g xs).1) : Nat) : Int)), (14, .int .i64 ((numCl 1 (markCl 1 ((clusterNew g xs).1)) : Nat) : Int)), (15, .pointer (some ⟨b5, 0, none⟩)), (16, .bool ((clusterNew g xs).2)), (17, .agg [o1, .int .i64 g.workers, .int .i64 g.cap].toArray), (18, .int .i64 1048576), (19, .int .i64 (szM (cntGraph g) 1048576)), (20, .int .i64 (szM (cntGraph g) 1048576)), (21, .bool (decide ((szM (cntGraph g) 1048576) < 0))), (22, vxs), (23, .int .i64 (szM (cntGraph g) 1048576)), (24, .int .i64 (szM xs.length (szM (cntGraph g) 1048576))), (25, .int .i64 (szM xs.length (szM (cntGraph g) 1048576))), (26, .bool (decide ((szM xs.length (szM (cntGraph g) 1048576)) < 0))), (27, .tuple [.agg [o3, .int .i64 ((((clusterNew g xs).1).graph).workers), .int .i64 ((((clusterNew g xs).1).graph).cap), o4, o5, o6, o7].toArray, .bool ((clusterNew g xs).2)].toArray), (28, .agg [o1, .int .i64 g.workers, .int .i64 g.cap].toArray), (29, .agg [o2, .int .i64 g.workers, .int .i64 g.cap].toArray), (30, vxs), (31, v1), (32, .tuple [.agg [o3, .int .i64 ((((clusterNew g xs).1).graph).workers), .int .i64 ((((clusterNew g xs).1).graph).cap), o4, o5, o6, o7].toArray, .bool ((clusterNew g xs).2)].toArray), (33, .agg [o3, .int .i64 ((((clusterNew g xs).1).graph).workers), .int .i64 ((((clusterNew g xs).1).graph).cap), o4, o5, o6, o7].toArray), (34, .bool ((clusterNew g xs).2)), (35, .agg [o1, .int .i64 g.workers, .int .i64 g.cap].toArray), (36, .agg [o8, .int .i64 g.workers, .int .i64 g.cap].toArray), (37, vxs), (38, v2), (39, .tuple [.agg [o9, .int .i64 ((((clusterNew g xs).1).graph).workers), .int .i64 ((((clusterNew g xs).1).graph).cap), o10, o11, o12, o13].toArray, .bool ((clusterNew g xs).2)].toArray), (40, .agg [o8, .int .i64 g.workers, .int .i64 g.cap].toArray), (41, v2), (42, .tuple [.agg [o9, .int .i64 ((((clusterNew g xs).1).graph).workers), .int .i64 ((((clusterNew g xs).1).graph).cap), o10, o11, o12, o13].toArray, .bool ((clusterNew g xs).2)].toArray), (43, .agg [o9, .int .i64 ((((clusterNew g xs).1).graph).workers), .int .i64 ((((clusterNew g xs).1).graph).cap), o10, o11, o12, o13].toArray), (44, .bool ((clusterNew g xs).2)), (53, .bool ((!(decide ((clusterNew g xs).1 = ((clusterNew g xs).1)))) || (!(((clusterNew g xs).2) == ((clusterNew g xs).2))))), (54, .agg [o8, .int .i64 g.workers, .int .i64 g.cap].toArray), (55, .agg [o1, .int .i64 g.workers, .int .i64 g.cap].toArray), (56, .agg [o14, .int .i64 g.workers, .int .i64 g.cap].toArray), (57, .bool (decide (g = g))), (58, .bool (!(decide (g = g)))), (59, v2), (60, vxs), (61, v3), (62, .bool (decide (xs = xs))), (63, .bool (!(decide (xs = xs)))), (64, .agg [o8, .int .i64 g.workers, .int .i64 g.cap].toArray), (65, .int .i64 1), (66, .int .i64 ((numA numN1 1 g.nodes : Nat) : Int)), (67, v2), (68, .int .i64 ((numA numN1 1 g.nodes : Nat) : Int)), (69, .int .i64 (((numA numN1 1 g.nodes) + 5 * xs.length : Nat) : Int)), (82, .bool (((decide ((((numA numN1 1 g.nodes) + 5 * xs.length : Nat) : Int) < 0)) || (!(decide ((clusterNew g xs).1 = ((clusterNew g xs).1))))) || (!(((clusterNew g xs).2) == ((clusterNew g xs).2))))), (83, .agg [o9, .int .i64 ((((clusterNew g xs).1).graph).workers), .int .i64 ((((clusterNew g xs).1).graph).cap), o10, o11, o12, o13].toArray), (84, .int .i64 1), (85, .int .i64 ((numCl 1 ((clusterNew g xs).1) : Nat) : Int)), (86, .agg [o9, .int .i64 ((((clusterNew g xs).1).graph).workers), .int .i64 ((((clusterNew g xs).1).graph).cap), o10, o11, o12, o13].toArray), (87, .int .i64 1), (88, .int .i64 ((numCl 1 (markCl 1 ((clusterNew g xs).1)) : Nat) : Int)), (89, .int .i64 ((numCl 1 (markCl 1 ((clusterNew g xs).1)) : Nat) : Int)), (90, .bool (decide (((numCl 1 (markCl 1 ((clusterNew g xs).1)) : Nat) : Int) < 0))), (91, .int .i64 ((numCl 1 (markCl 1 ((clusterNew g xs).1)) : Nat) : Int)), (92, .int .i64 ((numCl 1 ((clusterNew g xs).1) : Nat) : Int)), (93, .bool (((numCl 1 (markCl 1 ((clusterNew g xs).1)) : Nat) : Int) != ((numCl 1 ((clusterNew g xs).1) : Nat) : Int))), (94, .tuple [.agg [o16, .int .i64 ((((clusterNew g xs).1).graph).workers), .int .i64 ((((clusterNew g xs).1).graph).cap), o17, o18, o19, o20].toArray, .bool ((clusterNew g xs).2)].toArray), (95, .agg [o1, .int .i64 g.workers, .int .i64 g.cap].toArray), (96, .agg [o15, .int .i64 g.workers, .int .i64 g.cap].toArray), (97, vxs), (98, v4), (99, .tuple [.agg [o16, .int .i64 ((((clusterNew g xs).1).graph).workers), .int .i64 ((((clusterNew g xs).1).graph).cap), o17, o18, o19, o20].toArray, .bool ((clusterNew g xs).2)].toArray), (100, .agg [o16, .int .i64 ((((clusterNew g xs).1).graph).workers), .int .i64 ((((clusterNew g xs).1).graph).cap), o17, o18, o19, o20].toArray), (101, .bool ((clusterNew g xs).2)), (110, .bool ((!(decide ((clusterNew g xs).1 = ((clusterNew g xs).1)))) || (!(((clusterNew g xs).2) == ((clusterNew g xs).2)))))] (fun w' => w34 = w') ?_ ?_
      · refine J_if (gd := 106) rfl rfl (fun hg4 => ?_) (fun hg4 => ?_)
        · exact absurd hg4 (by first | (simp; done) | (simp only [nat_nlt] <;> simp) | (simp only [mkL_length, nat_nlt] <;> simp) | (simp only [mkL_length] <;> simp))
        · refine J_gd rfl rfl (R_move rfl) rfl (J_gd rfl rfl (R_move rfl) rfl (J_gd rfl rfl (R_neqB (Try.underlying4) rfl rfl) rfl (J_st (R_pickF rfl rfl) rfl (J_cutEnd ⟨rfl, rfl, rfl, rfl, rfl, rfl, rfl, rfl, rfl, rfl, rfl, rfl, rfl, rfl, rfl, rfl, rfl, rfl, rfl, rfl, rfl, rfl, rfl, rfl, rfl, rfl, rfl, rfl, rfl, rfl, rfl, rfl, rfl, rfl, rfl, rfl, rfl, rfl, rfl, rfl, rfl, rfl, rfl, rfl, rfl, rfl, rfl, rfl, rfl, rfl, rfl, rfl, rfl, rfl, rfl, rfl, rfl, rfl, rfl, rfl, rfl, rfl, rfl, rfl, rfl, rfl, rfl, rfl, rfl, rfl, rfl, rfl, rfl, rfl, rfl, rfl, rfl, rfl, rfl, rfl, rfl, congrArg (fun b => some (Value.bool b)) (show (!(((clusterNew g xs).2) == ((clusterNew g xs).2))) = ((!(decide ((clusterNew g xs).1 = ((clusterNew g xs).1)))) || (!(((clusterNew g xs).2) == ((clusterNew g xs).2)))) by first | (rw [hg4] <;> rfl) | (simp [hg4]; done) | (simp only [nat_nlt] <;> simp)), trivial⟩ rfl))))
      rintro _ rfl
      refine J_done ?_
      refine S_condFe rfl (by first | (simp; done) | (simp only [nat_nlt] <;> simp) | (simp only [mkL_length, nat_nlt] <;> simp) | (simp only [mkL_length] <;> simp)) ?_
      refine S_skip ?_
      refine S_seq ?_
      refine S_reg [true] rfl rfl ?_
      refine J_st (R_assign rfl) rfl (J_done ?_)
      refine S_seq ?_
      refine S_reg [true, true, false, true] rfl rfl ?_
      refine J_st (R_loadS st36 rfl h4.at rfl) rfl (J_st (R_move rfl) rfl ?_)
      refine J_call Try.call16 rfl (heldCluster [o9, .int .i64 ((((clusterNew g xs).1).graph).workers), .int .i64 ((((clusterNew g xs).1).graph).cap), o10, o11, o12, o13] (markCl 1 ((clusterNew g xs).1)) 1 _ (Cluster.mkR (markCl 1 ((clusterNew g xs).1)) (RdD.any (OwC.rd1 ho8)) (RdD.any (OwC.rd2 ho8)) (RdD.any (OwC.rd3 ho8)) (RdD.any (OwC.rd4 ho8)) (RdD.any (OwC.rd5 ho8))) (markCl_idem _ _) (by rw [cntCl_mark]; omega)) rfl (fun _ w36 e29 hv => ?_)
      subst hv
      replace E := E.trans e29; replace h1 := h1.ext e29; replace ho1 := ho1.ext e29; replace ho2 := ho2.ext e29; replace hd2 := hd2.ext e29; replace hd3 := hd3.ext e29; replace hd4 := hd4.ext e29; replace hd5 := hd5.ext e29; replace hd6 := hd6.ext e29; replace h2 := h2.ext e29; replace ho5 := ho5.ext e29; replace h3 := h3.ext e29; replace ho6 := ho6.ext e29; replace ho8 := ho8.ext e29; replace h4 := h4.ext e29; replace ho9 := ho9.ext e29; replace ho10 := ho10.ext e29; replace ho11 := ho11.ext e29; replace ho12 := ho12.ext e29; replace ho14 := ho14.ext e29; replace h5 := h5.ext e29
      have z34 := e29.size
      refine J_st (R_assign rfl) rfl (J_done ?_)
      refine S_seq ?_
      refine S_seq ?_
      refine S_reg [true, true] rfl rfl ?_
      refine J_st (R_move rfl) rfl (J_st (R_lss rfl rfl) rfl (J_done ?_))
      refine S_condFe rfl (by first | (simp; done) | (simp only [nat_nlt] <;> simp) | (simp only [mkL_length, nat_nlt] <;> simp) | (simp only [mkL_length] <;> simp)) ?_
      refine S_skip ?_
      refine S_seq ?_
      refine S_seq ?_
      refine S_reg [true, true, true] rfl rfl ?_
      refine J_st (R_move rfl) rfl (J_st (R_move rfl) rfl (J_st (R_neq rfl rfl) rfl (J_done ?_)))
      refine S_condFe rfl (by rw [numCl_mark]; simp) ?_
      refine S_skip ?_
      refine S_seq ?_
      refine S_reg [true] rfl rfl ?_
      refine J_st (R_assign rfl) rfl (J_done ?_)
      refine S_ret (E_done1 rfl rfl E ?_)
      rfl

end Go.Proofs.Ytcgfmicadcdinaa
