/- What the functions that the laws call come to: a contract each; no condition. -/
import Derived.Test.YtlhdkpdpkgocoaaFns
namespace Go.Proofs.Ytlhdkpdpkgocoaa
open Go Go.Proofs.Ytlhdkpdpkgocoaa.X Go.Proofs
set_option maxHeartbeats 4000000 in
set_option maxRecDepth 20000 in
theorem c_NodeOk (cx : List Value) (x : Node) (w : World) (hx : Dat.R w 0 w.heap.size cx x) : Ct Try.prog 61 [.agg cx.toArray] w (fun v _ => v = .bool (nodeOk x)) := by
  refine ct_of Try.func61 rfl Try.ntmps61 rfl ?_
  obtain ⟨o1, rfl, hd1⟩ := Node.op hx
  refine S_sub [(0, .agg [.int .i64 x.kind, .int .i64 x.a, .int .i64 x.b, o1].toArray)] ⟨rfl, trivial⟩ ?_
  have E : Ext w w := Ext.refl w
  refine S_seq ?_
  refine S_reg [false, true] rfl rfl ?_
  refine J_box rfl rfl (fun b1 w1 e1 s1 h1 => ?_)
  have g_b1 : w.heap.size ≤ b1 := by have := E.size; omega
  have y_b1 := h1.lt
  replace E := E.trans e1
  have z1 := e1.size
  refine J_st (R_assign rfl) rfl (J_done ?_)
  refine S_seq ?_
  refine S_seq ?_
  refine S_reg [true, true] rfl rfl ?_
  refine J_st (R_fieldAddr0 fl70_0 rfl) rfl (J_st (R_load sc3 rfl (h1.one 0 rfl)) rfl (J_done ?_))
  refine S_block ?_
  refine S_seq ?_
  refine S_reg [true, true] rfl rfl ?_
  refine J_st (R_eql rfl rfl) rfl (J_st (R_assign rfl) rfl (J_done ?_))
  refine S_cond rfl (fun hc1 => ?_) (fun hc1 => ?_)
  · refine S_seq ?_
    refine S_reg [true, true, false, true, true, true, true, true, true] rfl rfl ?_
    refine J_st (R_fieldAddr0 fl70_1 rfl) rfl (J_st (R_load sc3 rfl (h1.one 1 rfl)) rfl ?_)
    refine J_call Try.call43 rfl (c_within x.a 0 999 _ ) rfl (fun _ w2 e2 hv => ?_)
    subst hv
    replace E := E.trans e2; replace h1 := h1.ext e2
    have z2 := e2.size
    refine J_st (R_not rfl) rfl (J_st (R_move rfl) rfl ?_)
    refine J_cut 4 [(0, .agg [.int .i64 x.kind, .int .i64 x.a, .int .i64 x.b, o1].toArray), (1, .pointer (some ⟨b1, 0, none⟩)), (2, .bool false), (5, .pointer (some ⟨b1, 0, none⟩)), (6, .int .i64 x.kind), (7, .bool (x.kind == 2)), (8, .bool (x.kind == 2)), (17, .bool ((!(win x.a 0 999)) || (x.b != 0)))] (fun w' => w2 = w') ?_ ?_
    · refine J_if (gd := 13) rfl rfl (fun hg1 => ?_) (fun hg1 => ?_)
      · refine J_gdno rfl rfl rfl rfl (J_gdno rfl rfl rfl rfl (J_gdno rfl rfl rfl rfl (J_st (R_pickT rfl rfl) rfl (J_cutEnd ⟨rfl, rfl, rfl, rfl, rfl, rfl, rfl, congrArg (fun b => some (Value.bool b)) (show true = ((!(win x.a 0 999)) || (x.b != 0)) by first | (rw [hg1] <;> rfl) | (simp [hg1]; done) | (simp only [nat_nlt] <;> simp)), trivial⟩ rfl))))
      · refine J_gd rfl rfl (R_fieldAddr0 fl70_2 rfl) rfl (J_gd rfl rfl (R_load sc3 rfl (h1.one 2 rfl)) rfl (J_gd rfl rfl (R_neq rfl rfl) rfl (J_st (R_pickF rfl rfl) rfl (J_cutEnd ⟨rfl, rfl, rfl, rfl, rfl, rfl, rfl, congrArg (fun b => some (Value.bool b)) (show (x.b != 0) = ((!(win x.a 0 999)) || (x.b != 0)) by first | (rw [hg1] <;> rfl) | (simp [hg1]; done) | (simp only [nat_nlt] <;> simp)), trivial⟩ rfl))))
    rintro _ rfl
    refine J_done ?_
    refine S_cond rfl (fun hc2 => ?_) (fun hc2 => ?_)
    · refine S_seq ?_
      refine S_reg [true] rfl rfl ?_
      refine J_st (R_assign rfl) rfl (J_done ?_)
      refine S_ret (E_inB_ret (E_done1 rfl rfl E ?_))
      exact node_k (by rw [node_2 (by assumption)]; exact kx (by assumption))
    · refine S_skip ?_
      refine S_nil (E_inB ?_)
      refine S_seq ?_
      refine S_seq ?_
      refine S_regD mixed [(0, true), (1, true), (2, true), (3, true), (4, true), (5, true), (6, true), (7, true), (8, true), (9, true), (10, true), (11, true), (12, true), (13, true), (14, true), (15, true), (16, true), (17, true), (18, true), (19, true), (20, true), (21, true), (22, true), (23, true), (24, true), (25, true), (26, true), (27, true), (28, true), (29, true), (30, true), (31, true)] (by decide +kernel) rfl (fun w4 e3 => ?_)
      replace E := E.trans e3; replace h1 := h1.ext e3
      have z3 := e3.size
      refine J_st (R_fieldAddr0 fl70_3 rfl) rfl (J_st (R_load sc65 rfl (h1.one 3 rfl)) rfl (J_st (R_len Try.underlying65 rfl (hd1.ext E).len) rfl (J_st (R_gtr rfl rfl) rfl (J_st (R_move rfl) rfl ?_))))
      refine J_cut 27 [(0, .agg [.int .i64 x.kind, .int .i64 x.a, .int .i64 x.b, o1].toArray), (1, .pointer (some ⟨b1, 0, none⟩)), (2, .bool false), (5, .pointer (some ⟨b1, 0, none⟩)), (6, .int .i64 x.kind), (7, .bool (x.kind == 2)), (8, .bool (x.kind == 2)), (17, .bool ((!(win x.a 0 999)) || (x.b != 0))), (89, .bool (((decide (2 < ((x.outs.length : Nat) : Int))) || ((x.kind == 8) && (decide (0 < ((x.outs.length : Nat) : Int))))) || ((((x.outs.length : Nat) : Int) == 2) && ((List.getD x.outs 0 default) == (List.getD x.outs 1 default)))))] (fun w' => w4 = w') ?_ ?_
      · refine J_if (gd := 62) rfl rfl (fun hg2 => ?_) (fun hg2 => ?_)
        · have hg2n : x.outs.length > 2 := by first | (have h := of_decide_eq_true hg2; omega) | (have h := hg2; simp at h; omega)
          refine J_gdno rfl rfl rfl rfl (J_gdno rfl rfl rfl rfl (J_gdno rfl rfl rfl rfl (J_gdno rfl rfl rfl rfl (J_gdx rfl rfl rfl (J_gdx rfl rfl rfl (J_gdx rfl rfl rfl (J_gdx rfl rfl rfl (J_gdno rfl rfl rfl rfl (J_st (R_pickT rfl rfl) rfl (J_st (R_move rfl) rfl (J_gdno rfl rfl rfl rfl (J_gdno rfl rfl rfl rfl (J_gdno rfl rfl rfl rfl (J_gdno rfl rfl rfl rfl (J_gdno rfl rfl rfl rfl (J_gdx rfl rfl rfl (J_gdx rfl rfl rfl (J_gdx rfl rfl rfl (J_gdx rfl rfl rfl (J_gdx rfl rfl rfl (J_gdx rfl rfl rfl (J_gdx rfl rfl rfl (J_gdx rfl rfl rfl (J_gdx rfl rfl rfl (J_gdno rfl rfl rfl rfl (J_st (R_pickT rfl rfl) rfl (J_cutEnd ⟨rfl, rfl, rfl, rfl, rfl, rfl, rfl, rfl, congrArg (fun b => some (Value.bool b)) (show true = (((decide (2 < ((x.outs.length : Nat) : Int))) || ((x.kind == 8) && (decide (0 < ((x.outs.length : Nat) : Int))))) || ((((x.outs.length : Nat) : Int) == 2) && ((List.getD x.outs 0 default) == (List.getD x.outs 1 default)))) by first | (rw [hg2] <;> rfl) | (simp [hg2]; done) | (simp only [nat_nlt] <;> simp)), trivial⟩ rfl)))))))))))))))))))))))))))
        · have hg2n : ¬ x.outs.length > 2 := by first | (have h := of_decide_eq_false hg2; omega) | (have h := hg2; simp at h; omega)
          refine J_gd rfl rfl (R_fieldAddr0 fl70_0 rfl) rfl (J_gd rfl rfl (R_load sc3 rfl (h1.one 0 rfl)) rfl (J_gd rfl rfl (R_eql rfl rfl) rfl (J_gd rfl rfl (R_move rfl) rfl ?_)))
          refine J_if (gd := 66) rfl rfl (fun hg3 => ?_) (fun hg3 => ?_)
          · refine J_gd rfl rfl (R_fieldAddr0 fl70_3 rfl) rfl (J_gd rfl rfl (R_load sc65 rfl (h1.one 3 rfl)) rfl (J_gd rfl rfl (R_len Try.underlying65 rfl (hd1.ext E).len) rfl (J_gd rfl rfl (R_gtr rfl rfl) rfl (J_gd rfl rfl (R_pickT rfl rfl) rfl (J_st (R_pickF rfl rfl) rfl (J_st (R_move rfl) rfl ?_))))))
            refine J_if (gd := 73) rfl rfl (fun hg4 => ?_) (fun hg4 => ?_)
            · have hg4n : x.outs.length > 0 := by first | (have h := of_decide_eq_true hg4; omega) | (have h := hg4; simp at h; omega)
              refine J_gdno rfl rfl rfl rfl (J_gdno rfl rfl rfl rfl (J_gdno rfl rfl rfl rfl (J_gdno rfl rfl rfl rfl (J_gdno rfl rfl rfl rfl (J_gdx rfl rfl rfl (J_gdx rfl rfl rfl (J_gdx rfl rfl rfl (J_gdx rfl rfl rfl (J_gdx rfl rfl rfl (J_gdx rfl rfl rfl (J_gdx rfl rfl rfl (J_gdx rfl rfl rfl (J_gdx rfl rfl rfl (J_gdno rfl rfl rfl rfl (J_st (R_pickT rfl rfl) rfl (J_cutEnd ⟨rfl, rfl, rfl, rfl, rfl, rfl, rfl, rfl, congrArg (fun b => some (Value.bool b)) (show true = (((decide (2 < ((x.outs.length : Nat) : Int))) || ((x.kind == 8) && (decide (0 < ((x.outs.length : Nat) : Int))))) || ((((x.outs.length : Nat) : Int) == 2) && ((List.getD x.outs 0 default) == (List.getD x.outs 1 default)))) by first | (rw [hg2, hg3, hg4] <;> rfl) | (simp [hg2, hg3, hg4]; done) | (simp only [nat_nlt] <;> simp)), trivial⟩ rfl))))))))))))))))
            · have hg4n : ¬ x.outs.length > 0 := by first | (have h := of_decide_eq_false hg4; omega) | (have h := hg4; simp at h; omega)
              refine J_gd rfl rfl (R_fieldAddr0 fl70_3 rfl) rfl (J_gd rfl rfl (R_load sc65 rfl (h1.one 3 rfl)) rfl (J_gd rfl rfl (R_len Try.underlying65 rfl (hd1.ext E).len) rfl (J_gd rfl rfl (R_eql rfl rfl) rfl (J_gd rfl rfl (R_move rfl) rfl ?_))))
              refine J_if (gd := 78) rfl rfl (fun hg5 => ?_) (fun hg5 => ?_)
              · have hg5n : x.outs.length = 2 := by first | (have h := of_decide_eq_true hg5; omega) | (have h := hg5; simp at h; omega)
                refine J_gd rfl rfl (R_fieldAddr0 fl70_3 rfl) rfl (J_gd rfl rfl (R_load sc65 rfl (h1.one 3 rfl)) rfl (J_gd rfl rfl (R_index (i := 0) sl65 rfl rfl (hd1.rd.ext E) (by first | assumption | omega)) rfl (J_gd rfl rfl (R_load sc3 rfl ((RdS.getD (hd1.rd.ext E) (i := 0) (by first | assumption | omega)).one 0 rfl)) rfl (J_gd rfl rfl (R_fieldAddr0 fl70_3 rfl) rfl (J_gd rfl rfl (R_load sc65 rfl (h1.one 3 rfl)) rfl (J_gd rfl rfl (R_index (i := 1) sl65 rfl rfl (hd1.rd.ext E) (by first | assumption | omega)) rfl (J_gd rfl rfl (R_load sc3 rfl ((RdS.getD (hd1.rd.ext E) (i := 1) (by first | assumption | omega)).one 0 rfl)) rfl (J_gd rfl rfl (R_eql rfl rfl) rfl (J_gd rfl rfl (R_pickT rfl rfl) rfl (J_st (R_pickF rfl rfl) rfl (J_cutEnd ⟨rfl, rfl, rfl, rfl, rfl, rfl, rfl, rfl, congrArg (fun b => some (Value.bool b)) (show ((List.getD x.outs 0 default) == (List.getD x.outs 1 default)) = (((decide (2 < ((x.outs.length : Nat) : Int))) || ((x.kind == 8) && (decide (0 < ((x.outs.length : Nat) : Int))))) || ((((x.outs.length : Nat) : Int) == 2) && ((List.getD x.outs 0 default) == (List.getD x.outs 1 default)))) by first | (rw [hg2, hg3, hg4, hg5] <;> rfl) | (simp [hg2, hg3, hg4, hg5]; done) | (simp only [nat_nlt] <;> simp)), trivial⟩ rfl)))))))))))
              · have hg5n : ¬ x.outs.length = 2 := by first | (have h := of_decide_eq_false hg5; omega) | (have h := hg5; simp at h; omega)
                refine J_gdno rfl rfl rfl rfl (J_gdno rfl rfl rfl rfl (J_gdno rfl rfl rfl rfl (J_gdno rfl rfl rfl rfl (J_gdno rfl rfl rfl rfl (J_gdno rfl rfl rfl rfl (J_gdno rfl rfl rfl rfl (J_gdno rfl rfl rfl rfl (J_gdno rfl rfl rfl rfl (J_gd rfl rfl (R_pickF rfl rfl) rfl (J_st (R_pickF rfl rfl) rfl (J_cutEnd ⟨rfl, rfl, rfl, rfl, rfl, rfl, rfl, rfl, congrArg (fun b => some (Value.bool b)) (show false = (((decide (2 < ((x.outs.length : Nat) : Int))) || ((x.kind == 8) && (decide (0 < ((x.outs.length : Nat) : Int))))) || ((((x.outs.length : Nat) : Int) == 2) && ((List.getD x.outs 0 default) == (List.getD x.outs 1 default)))) by first | (rw [hg2, hg3, hg4, hg5] <;> rfl) | (simp [hg2, hg3, hg4, hg5]; done) | (simp only [nat_nlt] <;> simp)), trivial⟩ rfl)))))))))))
          · refine J_gdno rfl rfl rfl rfl (J_gdno rfl rfl rfl rfl (J_gdno rfl rfl rfl rfl (J_gdno rfl rfl rfl rfl (J_gd rfl rfl (R_pickF rfl rfl) rfl (J_st (R_pickF rfl rfl) rfl (J_st (R_move rfl) rfl (J_gd rfl rfl (R_fieldAddr0 fl70_3 rfl) rfl (J_gd rfl rfl (R_load sc65 rfl (h1.one 3 rfl)) rfl (J_gd rfl rfl (R_len Try.underlying65 rfl (hd1.ext E).len) rfl (J_gd rfl rfl (R_eql rfl rfl) rfl (J_gd rfl rfl (R_move rfl) rfl ?_)))))))))))
            refine J_if (gd := 78) rfl rfl (fun hg6 => ?_) (fun hg6 => ?_)
            · have hg6n : x.outs.length = 2 := by first | (have h := of_decide_eq_true hg6; omega) | (have h := hg6; simp at h; omega)
              refine J_gd rfl rfl (R_fieldAddr0 fl70_3 rfl) rfl (J_gd rfl rfl (R_load sc65 rfl (h1.one 3 rfl)) rfl (J_gd rfl rfl (R_index (i := 0) sl65 rfl rfl (hd1.rd.ext E) (by first | assumption | omega)) rfl (J_gd rfl rfl (R_load sc3 rfl ((RdS.getD (hd1.rd.ext E) (i := 0) (by first | assumption | omega)).one 0 rfl)) rfl (J_gd rfl rfl (R_fieldAddr0 fl70_3 rfl) rfl (J_gd rfl rfl (R_load sc65 rfl (h1.one 3 rfl)) rfl (J_gd rfl rfl (R_index (i := 1) sl65 rfl rfl (hd1.rd.ext E) (by first | assumption | omega)) rfl (J_gd rfl rfl (R_load sc3 rfl ((RdS.getD (hd1.rd.ext E) (i := 1) (by first | assumption | omega)).one 0 rfl)) rfl (J_gd rfl rfl (R_eql rfl rfl) rfl (J_gd rfl rfl (R_pickT rfl rfl) rfl (J_st (R_pickF rfl rfl) rfl (J_cutEnd ⟨rfl, rfl, rfl, rfl, rfl, rfl, rfl, rfl, congrArg (fun b => some (Value.bool b)) (show ((List.getD x.outs 0 default) == (List.getD x.outs 1 default)) = (((decide (2 < ((x.outs.length : Nat) : Int))) || ((x.kind == 8) && (decide (0 < ((x.outs.length : Nat) : Int))))) || ((((x.outs.length : Nat) : Int) == 2) && ((List.getD x.outs 0 default) == (List.getD x.outs 1 default)))) by first | (rw [hg2, hg3, hg6] <;> rfl) | (simp [hg2, hg3, hg6]; done) | (simp only [nat_nlt] <;> simp)), trivial⟩ rfl)))))))))))
            · have hg6n : ¬ x.outs.length = 2 := by first | (have h := of_decide_eq_false hg6; omega) | (have h := hg6; simp at h; omega)
              refine J_gdno rfl rfl rfl rfl (J_gdno rfl rfl rfl rfl (J_gdno rfl rfl rfl rfl (J_gdno rfl rfl rfl rfl (J_gdno rfl rfl rfl rfl (J_gdno rfl rfl rfl rfl (J_gdno rfl rfl rfl rfl (J_gdno rfl rfl rfl rfl (J_gdno rfl rfl rfl rfl (J_gd rfl rfl (R_pickF rfl rfl) rfl (J_st (R_pickF rfl rfl) rfl (J_cutEnd ⟨rfl, rfl, rfl, rfl, rfl, rfl, rfl, rfl, congrArg (fun b => some (Value.bool b)) (show false = (((decide (2 < ((x.outs.length : Nat) : Int))) || ((x.kind == 8) && (decide (0 < ((x.outs.length : Nat) : Int))))) || ((((x.outs.length : Nat) : Int) == 2) && ((List.getD x.outs 0 default) == (List.getD x.outs 1 default)))) by first | (rw [hg2, hg3, hg6] <;> rfl) | (simp [hg2, hg3, hg6]; done) | (simp only [nat_nlt] <;> simp)), trivial⟩ rfl)))))))))))
      rintro _ rfl
      refine J_done ?_
      refine S_cond rfl (fun hc3 => ?_) (fun hc3 => ?_)
      · refine S_seq ?_
        refine S_reg [true] rfl rfl ?_
        refine J_st (R_assign rfl) rfl (J_done ?_)
        refine S_ret (E_done1 rfl rfl E ?_)
        exact node_t (by assumption)
      · refine S_skip ?_
        refine S_seq ?_
        refine S_seq ?_
        refine S_reg [true, true, true, true] rfl rfl ?_
        refine J_st (R_fieldAddr0 fl70_3 rfl) rfl (J_st (R_load sc65 rfl (h1.one 3 rfl)) rfl (J_st (R_len Try.underlying65 rfl (hd1.ext E).len) rfl (J_st (R_move rfl) rfl (J_done ?_))))
        refine S_block ?_
        refine S_loop (fun (k : Nat) => [(2, .bool false), (91, o1), (92, .int .i64 ((x.outs.length : Nat) : Int)), (93, .int .i64 ((k : Nat) : Int))]) (fun (k : Nat) w' => Ext w w' ∧ w4.heap.size ≤ w'.heap.size ∧ Blk w' b1 ([.int .i64 x.kind, .int .i64 x.a, .int .i64 x.b, o1]) ∧ k ≤ x.outs.length ∧ (x.outs.take k).all (win · 0 7) = true) (fun (k : Nat) => x.outs.length - k) 0 ⟨rfl, rfl, rfl, rfl, trivial⟩ ⟨E, Nat.le_refl _, h1, Nat.zero_le _, rfl⟩ ?_
        clear E h1
        rintro k w6 ⟨E, z4, h1, hk, hI⟩
        refine S_seq ?_
        refine S_reg [true] rfl rfl ?_
        refine J_st (R_lss rfl rfl) rfl (J_done ?_)
        refine S_seq ?_
        refine S_cond rfl (fun hc4 => ?_) (fun hc4 => ?_)
        · have hc4n : k < x.outs.length := by first | (have h := of_decide_eq_true hc4; omega) | (have h := hc4; simp at h; omega)
          refine S_skip ?_
          refine S_seq ?_
          refine S_block ?_
          refine S_seq ?_
          refine S_reg [true, true, true] rfl rfl ?_
          have hi1 : k < x.outs.length := (by first | assumption | omega)
          refine J_st (R_index (i := k) sl65 rfl rfl (hd1.rd.ext E) hi1) rfl (J_st (R_load sc3 rfl (((hd1.rd.ext E).get hi1).one 0 rfl)) rfl (J_st (R_assign rfl) rfl (J_done ?_)))
          refine S_seq ?_
          refine S_reg [true, false, true] rfl rfl ?_
          refine J_st (R_move rfl) rfl ?_
          refine J_call Try.call43 rfl (c_within (x.outs[k]'hi1) 0 7 _ ) rfl (fun _ w7 e4 hv => ?_)
          subst hv
          replace E := E.trans e4; replace h1 := h1.ext e4
          have z5 := e4.size
          refine J_st (R_not rfl) rfl (J_done ?_)
          refine S_cond rfl (fun hc5 => ?_) (fun hc5 => ?_)
          · refine S_seq ?_
            refine S_reg [true] rfl rfl ?_
            refine J_st (R_assign rfl) rfl (J_done ?_)
            refine S_ret (E_inB_ret (E_lp_ret (E_inB_ret (E_done1 rfl rfl E ?_))))
            exact node_l (by assumption)
          · refine S_skip ?_
            refine S_nil (E_inB ?_)
            refine S_reg [true, true] rfl rfl ?_
            refine J_st (R_add rfl rfl (add_one hc4n (hd1.ext E).1.1)) rfl (J_st (R_move rfl) rfl (J_done ?_))
            refine S_nil (E_again (k + 1) (by omega) ⟨rfl, rfl, rfl, rfl, trivial⟩ ⟨E, (by omega), h1, (by omega), all_step hI (by assumption) (by simpa using (show (!(win x.outs[k] 0 7)) = false by assumption))⟩)
        · have hc4n : ¬ k < x.outs.length := by first | (have h := of_decide_eq_false hc4; omega) | (have h := hc4; simp at h; omega)
          refine S_exit (E_lp_exit (E_inB_exit ?_))
          refine S_seq ?_
          refine S_reg [true] rfl rfl ?_
          refine J_st (R_assign rfl) rfl (J_done ?_)
          refine S_ret (E_done1 rfl rfl E ?_)
          exact node_y (by rw [node_2 (by assumption)]; exact ky (by assumption)) (by assumption) hI (by omega)
  · refine S_seq ?_
    refine S_reg [true, true] rfl rfl ?_
    refine J_st (R_eql rfl rfl) rfl (J_st (R_assign rfl) rfl (J_done ?_))
    refine S_cond rfl (fun hc6 => ?_) (fun hc6 => ?_)
    · refine S_seq ?_
      refine S_reg [true, true, false, true, true, true, true, true, true, true, false, true, true] rfl rfl ?_
      refine J_st (R_fieldAddr0 fl70_1 rfl) rfl (J_st (R_load sc3 rfl (h1.one 1 rfl)) rfl ?_)
      refine J_call Try.call43 rfl (c_within x.a 1 10 _ ) rfl (fun _ w8 e5 hv => ?_)
      subst hv
      replace E := E.trans e5; replace h1 := h1.ext e5
      have z6 := e5.size
      refine J_st (R_not rfl) rfl (J_st (R_move rfl) rfl ?_)
      refine J_cut 8 [(0, .agg [.int .i64 x.kind, .int .i64 x.a, .int .i64 x.b, o1].toArray), (1, .pointer (some ⟨b1, 0, none⟩)), (2, .bool false), (5, .pointer (some ⟨b1, 0, none⟩)), (6, .int .i64 x.kind), (7, .bool (x.kind == 2)), (8, .bool (x.kind == 2)), (18, .bool (x.kind == 3)), (19, .bool (x.kind == 3)), (32, .bool ((!(win x.a 1 10)) || (!(win x.b 0 (IntKind.i64.wrap (x.a - 1))))))] (fun w' => Ext w w' ∧ w8.heap.size ≤ w'.heap.size ∧ Blk w' b1 ([.int .i64 x.kind, .int .i64 x.a, .int .i64 x.b, o1])) ?_ ?_
      · refine J_if (gd := 24) rfl rfl (fun hg7 => ?_) (fun hg7 => ?_)
        · refine J_gdno rfl rfl rfl rfl (J_gdno rfl rfl rfl rfl (J_gdno rfl rfl rfl rfl (J_gdno rfl rfl rfl rfl (J_gdno rfl rfl rfl rfl ?_))))
          refine J_ungno rfl rfl rfl rfl ?_
          refine J_gdno rfl rfl rfl rfl (J_st (R_pickT rfl rfl) rfl (J_cutEnd ⟨rfl, rfl, rfl, rfl, rfl, rfl, rfl, rfl, rfl, congrArg (fun b => some (Value.bool b)) (show true = ((!(win x.a 1 10)) || (!(win x.b 0 (IntKind.i64.wrap (x.a - 1))))) by first | (rw [hg7] <;> rfl) | (simp [hg7]; done) | (simp only [nat_nlt] <;> simp)), trivial⟩ ⟨E, (by omega), h1⟩))
        · refine J_gd rfl rfl (R_fieldAddr0 fl70_2 rfl) rfl (J_gd rfl rfl (R_load sc3 rfl (h1.one 2 rfl)) rfl (J_gd rfl rfl (R_fieldAddr0 fl70_1 rfl) rfl (J_gd rfl rfl (R_load sc3 rfl (h1.one 1 rfl)) rfl (J_gd rfl rfl (R_sub rfl rfl rfl) rfl ?_))))
          refine J_ung rfl rfl ?_
          refine J_call Try.call43 rfl (c_within x.b 0 (IntKind.i64.wrap (x.a - 1)) _ ) rfl (fun _ w10 e6 hv => ?_)
          subst hv
          replace E := E.trans e6; replace h1 := h1.ext e6
          have z7 := e6.size
          refine J_gd rfl rfl (R_not rfl) rfl (J_st (R_pickF rfl rfl) rfl (J_cutEnd ⟨rfl, rfl, rfl, rfl, rfl, rfl, rfl, rfl, rfl, congrArg (fun b => some (Value.bool b)) (show (!(win x.b 0 (IntKind.i64.wrap (x.a - 1)))) = ((!(win x.a 1 10)) || (!(win x.b 0 (IntKind.i64.wrap (x.a - 1))))) by first | (rw [hg7] <;> rfl) | (simp [hg7]; done) | (simp only [nat_nlt] <;> simp)), trivial⟩ ⟨E, (by omega), h1⟩))
      clear E h1
      rintro w9 ⟨E, z8, h1⟩
      refine J_done ?_
      refine S_cond rfl (fun hc7 => ?_) (fun hc7 => ?_)
      · refine S_seq ?_
        refine S_reg [true] rfl rfl ?_
        refine J_st (R_assign rfl) rfl (J_done ?_)
        refine S_ret (E_inB_ret (E_done1 rfl rfl E ?_))
        exact node_k (by rw [node_3 (by assumption)]; exact kx (by assumption))
      · refine S_skip ?_
        refine S_nil (E_inB ?_)
        refine S_seq ?_
        refine S_seq ?_
        refine S_regD mixed [(0, true), (1, true), (2, true), (3, true), (4, true), (5, true), (6, true), (7, true), (8, true), (9, true), (10, true), (11, true), (12, true), (13, true), (14, true), (15, true), (16, true), (17, true), (18, true), (19, true), (20, true), (21, true), (22, true), (23, true), (24, true), (25, true), (26, true), (27, true), (28, true), (29, true), (30, true), (31, true)] (by decide +kernel) rfl (fun w11 e7 => ?_)
        replace E := E.trans e7; replace h1 := h1.ext e7
        have z9 := e7.size
        refine J_st (R_fieldAddr0 fl70_3 rfl) rfl (J_st (R_load sc65 rfl (h1.one 3 rfl)) rfl (J_st (R_len Try.underlying65 rfl (hd1.ext E).len) rfl (J_st (R_gtr rfl rfl) rfl (J_st (R_move rfl) rfl ?_))))
        refine J_cut 27 [(0, .agg [.int .i64 x.kind, .int .i64 x.a, .int .i64 x.b, o1].toArray), (1, .pointer (some ⟨b1, 0, none⟩)), (2, .bool false), (5, .pointer (some ⟨b1, 0, none⟩)), (6, .int .i64 x.kind), (7, .bool (x.kind == 2)), (8, .bool (x.kind == 2)), (18, .bool (x.kind == 3)), (19, .bool (x.kind == 3)), (32, .bool ((!(win x.a 1 10)) || (!(win x.b 0 (IntKind.i64.wrap (x.a - 1)))))), (89, .bool (((decide (2 < ((x.outs.length : Nat) : Int))) || ((x.kind == 8) && (decide (0 < ((x.outs.length : Nat) : Int))))) || ((((x.outs.length : Nat) : Int) == 2) && ((List.getD x.outs 0 default) == (List.getD x.outs 1 default)))))] (fun w' => w11 = w') ?_ ?_
        · refine J_if (gd := 62) rfl rfl (fun hg8 => ?_) (fun hg8 => ?_)
          · have hg8n : x.outs.length > 2 := by first | (have h := of_decide_eq_true hg8; omega) | (have h := hg8; simp at h; omega)
            refine J_gdno rfl rfl rfl rfl (J_gdno rfl rfl rfl rfl (J_gdno rfl rfl rfl rfl (J_gdno rfl rfl rfl rfl (J_gdx rfl rfl rfl (J_gdx rfl rfl rfl (J_gdx rfl rfl rfl (J_gdx rfl rfl rfl (J_gdno rfl rfl rfl rfl (J_st (R_pickT rfl rfl) rfl (J_st (R_move rfl) rfl (J_gdno rfl rfl rfl rfl (J_gdno rfl rfl rfl rfl (J_gdno rfl rfl rfl rfl (J_gdno rfl rfl rfl rfl (J_gdno rfl rfl rfl rfl (J_gdx rfl rfl rfl (J_gdx rfl rfl rfl (J_gdx rfl rfl rfl (J_gdx rfl rfl rfl (J_gdx rfl rfl rfl (J_gdx rfl rfl rfl (J_gdx rfl rfl rfl (J_gdx rfl rfl rfl (J_gdx rfl rfl rfl (J_gdno rfl rfl rfl rfl (J_st (R_pickT rfl rfl) rfl (J_cutEnd ⟨rfl, rfl, rfl, rfl, rfl, rfl, rfl, rfl, rfl, rfl, congrArg (fun b => some (Value.bool b)) (show true = (((decide (2 < ((x.outs.length : Nat) : Int))) || ((x.kind == 8) && (decide (0 < ((x.outs.length : Nat) : Int))))) || ((((x.outs.length : Nat) : Int) == 2) && ((List.getD x.outs 0 default) == (List.getD x.outs 1 default)))) by first | (rw [hg8] <;> rfl) | (simp [hg8]; done) | (simp only [nat_nlt] <;> simp)), trivial⟩ rfl)))))))))))))))))))))))))))
          · have hg8n : ¬ x.outs.length > 2 := by first | (have h := of_decide_eq_false hg8; omega) | (have h := hg8; simp at h; omega)
            refine J_gd rfl rfl (R_fieldAddr0 fl70_0 rfl) rfl (J_gd rfl rfl (R_load sc3 rfl (h1.one 0 rfl)) rfl (J_gd rfl rfl (R_eql rfl rfl) rfl (J_gd rfl rfl (R_move rfl) rfl ?_)))
            refine J_if (gd := 66) rfl rfl (fun hg9 => ?_) (fun hg9 => ?_)
            · refine J_gd rfl rfl (R_fieldAddr0 fl70_3 rfl) rfl (J_gd rfl rfl (R_load sc65 rfl (h1.one 3 rfl)) rfl (J_gd rfl rfl (R_len Try.underlying65 rfl (hd1.ext E).len) rfl (J_gd rfl rfl (R_gtr rfl rfl) rfl (J_gd rfl rfl (R_pickT rfl rfl) rfl (J_st (R_pickF rfl rfl) rfl (J_st (R_move rfl) rfl ?_))))))
              refine J_if (gd := 73) rfl rfl (fun hg10 => ?_) (fun hg10 => ?_)
              · have hg10n : x.outs.length > 0 := by first | (have h := of_decide_eq_true hg10; omega) | (have h := hg10; simp at h; omega)
                refine J_gdno rfl rfl rfl rfl (J_gdno rfl rfl rfl rfl (J_gdno rfl rfl rfl rfl (J_gdno rfl rfl rfl rfl (J_gdno rfl rfl rfl rfl (J_gdx rfl rfl rfl (J_gdx rfl rfl rfl (J_gdx rfl rfl rfl (J_gdx rfl rfl rfl (J_gdx rfl rfl rfl (J_gdx rfl rfl rfl (J_gdx rfl rfl rfl (J_gdx rfl rfl rfl (J_gdx rfl rfl rfl (J_gdno rfl rfl rfl rfl (J_st (R_pickT rfl rfl) rfl (J_cutEnd ⟨rfl, rfl, rfl, rfl, rfl, rfl, rfl, rfl, rfl, rfl, congrArg (fun b => some (Value.bool b)) (show true = (((decide (2 < ((x.outs.length : Nat) : Int))) || ((x.kind == 8) && (decide (0 < ((x.outs.length : Nat) : Int))))) || ((((x.outs.length : Nat) : Int) == 2) && ((List.getD x.outs 0 default) == (List.getD x.outs 1 default)))) by first | (rw [hg8, hg9, hg10] <;> rfl) | (simp [hg8, hg9, hg10]; done) | (simp only [nat_nlt] <;> simp)), trivial⟩ rfl))))))))))))))))
              · have hg10n : ¬ x.outs.length > 0 := by first | (have h := of_decide_eq_false hg10; omega) | (have h := hg10; simp at h; omega)
                refine J_gd rfl rfl (R_fieldAddr0 fl70_3 rfl) rfl (J_gd rfl rfl (R_load sc65 rfl (h1.one 3 rfl)) rfl (J_gd rfl rfl (R_len Try.underlying65 rfl (hd1.ext E).len) rfl (J_gd rfl rfl (R_eql rfl rfl) rfl (J_gd rfl rfl (R_move rfl) rfl ?_))))
                refine J_if (gd := 78) rfl rfl (fun hg11 => ?_) (fun hg11 => ?_)
                · have hg11n : x.outs.length = 2 := by first | (have h := of_decide_eq_true hg11; omega) | (have h := hg11; simp at h; omega)
                  refine J_gd rfl rfl (R_fieldAddr0 fl70_3 rfl) rfl (J_gd rfl rfl (R_load sc65 rfl (h1.one 3 rfl)) rfl (J_gd rfl rfl (R_index (i := 0) sl65 rfl rfl (hd1.rd.ext E) (by first | assumption | omega)) rfl (J_gd rfl rfl (R_load sc3 rfl ((RdS.getD (hd1.rd.ext E) (i := 0) (by first | assumption | omega)).one 0 rfl)) rfl (J_gd rfl rfl (R_fieldAddr0 fl70_3 rfl) rfl (J_gd rfl rfl (R_load sc65 rfl (h1.one 3 rfl)) rfl (J_gd rfl rfl (R_index (i := 1) sl65 rfl rfl (hd1.rd.ext E) (by first | assumption | omega)) rfl (J_gd rfl rfl (R_load sc3 rfl ((RdS.getD (hd1.rd.ext E) (i := 1) (by first | assumption | omega)).one 0 rfl)) rfl (J_gd rfl rfl (R_eql rfl rfl) rfl (J_gd rfl rfl (R_pickT rfl rfl) rfl (J_st (R_pickF rfl rfl) rfl (J_cutEnd ⟨rfl, rfl, rfl, rfl, rfl, rfl, rfl, rfl, rfl, rfl, congrArg (fun b => some (Value.bool b)) (show ((List.getD x.outs 0 default) == (List.getD x.outs 1 default)) = (((decide (2 < ((x.outs.length : Nat) : Int))) || ((x.kind == 8) && (decide (0 < ((x.outs.length : Nat) : Int))))) || ((((x.outs.length : Nat) : Int) == 2) && ((List.getD x.outs 0 default) == (List.getD x.outs 1 default)))) by first | (rw [hg8, hg9, hg10, hg11] <;> rfl) | (simp [hg8, hg9, hg10, hg11]; done) | (simp only [nat_nlt] <;> simp)), trivial⟩ rfl)))))))))))
                · have hg11n : ¬ x.outs.length = 2 := by first | (have h := of_decide_eq_false hg11; omega) | (have h := hg11; simp at h; omega)
                  refine J_gdno rfl rfl rfl rfl (J_gdno rfl rfl rfl rfl (J_gdno rfl rfl rfl rfl (J_gdno rfl rfl rfl rfl (J_gdno rfl rfl rfl rfl (J_gdno rfl rfl rfl rfl (J_gdno rfl rfl rfl rfl (J_gdno rfl rfl rfl rfl (J_gdno rfl rfl rfl rfl (J_gd rfl rfl (R_pickF rfl rfl) rfl (J_st (R_pickF rfl rfl) rfl (J_cutEnd ⟨rfl, rfl, rfl, rfl, rfl, rfl, rfl, rfl, rfl, rfl, congrArg (fun b => some (Value.bool b)) (show false = (((decide (2 < ((x.outs.length : Nat) : Int))) || ((x.kind == 8) && (decide (0 < ((x.outs.length : Nat) : Int))))) || ((((x.outs.length : Nat) : Int) == 2) && ((List.getD x.outs 0 default) == (List.getD x.outs 1 default)))) by first | (rw [hg8, hg9, hg10, hg11] <;> rfl) | (simp [hg8, hg9, hg10, hg11]; done) | (simp only [nat_nlt] <;> simp)), trivial⟩ rfl)))))))))))
            · refine J_gdno rfl rfl rfl rfl (J_gdno rfl rfl rfl rfl (J_gdno rfl rfl rfl rfl (J_gdno rfl rfl rfl rfl (J_gd rfl rfl (R_pickF rfl rfl) rfl (J_st (R_pickF rfl rfl) rfl (J_st (R_move rfl) rfl (J_gd rfl rfl (R_fieldAddr0 fl70_3 rfl) rfl (J_gd rfl rfl (R_load sc65 rfl (h1.one 3 rfl)) rfl (J_gd rfl rfl (R_len Try.underlying65 rfl (hd1.ext E).len) rfl (J_gd rfl rfl (R_eql rfl rfl) rfl (J_gd rfl rfl (R_move rfl) rfl ?_)))))))))))
              refine J_if (gd := 78) rfl rfl (fun hg12 => ?_) (fun hg12 => ?_)
              · have hg12n : x.outs.length = 2 := by first | (have h := of_decide_eq_true hg12; omega) | (have h := hg12; simp at h; omega)
                refine J_gd rfl rfl (R_fieldAddr0 fl70_3 rfl) rfl (J_gd rfl rfl (R_load sc65 rfl (h1.one 3 rfl)) rfl (J_gd rfl rfl (R_index (i := 0) sl65 rfl rfl (hd1.rd.ext E) (by first | assumption | omega)) rfl (J_gd rfl rfl (R_load sc3 rfl ((RdS.getD (hd1.rd.ext E) (i := 0) (by first | assumption | omega)).one 0 rfl)) rfl (J_gd rfl rfl (R_fieldAddr0 fl70_3 rfl) rfl (J_gd rfl rfl (R_load sc65 rfl (h1.one 3 rfl)) rfl (J_gd rfl rfl (R_index (i := 1) sl65 rfl rfl (hd1.rd.ext E) (by first | assumption | omega)) rfl (J_gd rfl rfl (R_load sc3 rfl ((RdS.getD (hd1.rd.ext E) (i := 1) (by first | assumption | omega)).one 0 rfl)) rfl (J_gd rfl rfl (R_eql rfl rfl) rfl (J_gd rfl rfl (R_pickT rfl rfl) rfl (J_st (R_pickF rfl rfl) rfl (J_cutEnd ⟨rfl, rfl, rfl, rfl, rfl, rfl, rfl, rfl, rfl, rfl, congrArg (fun b => some (Value.bool b)) (show ((List.getD x.outs 0 default) == (List.getD x.outs 1 default)) = (((decide (2 < ((x.outs.length : Nat) : Int))) || ((x.kind == 8) && (decide (0 < ((x.outs.length : Nat) : Int))))) || ((((x.outs.length : Nat) : Int) == 2) && ((List.getD x.outs 0 default) == (List.getD x.outs 1 default)))) by first | (rw [hg8, hg9, hg12] <;> rfl) | (simp [hg8, hg9, hg12]; done) | (simp only [nat_nlt] <;> simp)), trivial⟩ rfl)))))))))))
              · have hg12n : ¬ x.outs.length = 2 := by first | (have h := of_decide_eq_false hg12; omega) | (have h := hg12; simp at h; omega)
                refine J_gdno rfl rfl rfl rfl (J_gdno rfl rfl rfl rfl (J_gdno rfl rfl rfl rfl (J_gdno rfl rfl rfl rfl (J_gdno rfl rfl rfl rfl (J_gdno rfl rfl rfl rfl (J_gdno rfl rfl rfl rfl (J_gdno rfl rfl rfl rfl (J_gdno rfl rfl rfl rfl (J_gd rfl rfl (R_pickF rfl rfl) rfl (J_st (R_pickF rfl rfl) rfl (J_cutEnd ⟨rfl, rfl, rfl, rfl, rfl, rfl, rfl, rfl, rfl, rfl, congrArg (fun b => some (Value.bool b)) (show false = (((decide (2 < ((x.outs.length : Nat) : Int))) || ((x.kind == 8) && (decide (0 < ((x.outs.length : Nat) : Int))))) || ((((x.outs.length : Nat) : Int) == 2) && ((List.getD x.outs 0 default) == (List.getD x.outs 1 default)))) by first | (rw [hg8, hg9, hg12] <;> rfl) | (simp [hg8, hg9, hg12]; done) | (simp only [nat_nlt] <;> simp)), trivial⟩ rfl)))))))))))
        rintro _ rfl
        refine J_done ?_
        refine S_cond rfl (fun hc8 => ?_) (fun hc8 => ?_)
        · refine S_seq ?_
          refine S_reg [true] rfl rfl ?_
          refine J_st (R_assign rfl) rfl (J_done ?_)
          refine S_ret (E_done1 rfl rfl E ?_)
          exact node_t (by assumption)
        · refine S_skip ?_
          refine S_seq ?_
          refine S_seq ?_
          refine S_reg [true, true, true, true] rfl rfl ?_
          refine J_st (R_fieldAddr0 fl70_3 rfl) rfl (J_st (R_load sc65 rfl (h1.one 3 rfl)) rfl (J_st (R_len Try.underlying65 rfl (hd1.ext E).len) rfl (J_st (R_move rfl) rfl (J_done ?_))))
          refine S_block ?_
          refine S_loop (fun (k : Nat) => [(2, .bool false), (91, o1), (92, .int .i64 ((x.outs.length : Nat) : Int)), (93, .int .i64 ((k : Nat) : Int))]) (fun (k : Nat) w' => Ext w w' ∧ w11.heap.size ≤ w'.heap.size ∧ Blk w' b1 ([.int .i64 x.kind, .int .i64 x.a, .int .i64 x.b, o1]) ∧ k ≤ x.outs.length ∧ (x.outs.take k).all (win · 0 7) = true) (fun (k : Nat) => x.outs.length - k) 0 ⟨rfl, rfl, rfl, rfl, trivial⟩ ⟨E, Nat.le_refl _, h1, Nat.zero_le _, rfl⟩ ?_
          clear E h1
          rintro k w13 ⟨E, z10, h1, hk, hI⟩
          refine S_seq ?_
          refine S_reg [true] rfl rfl ?_
          refine J_st (R_lss rfl rfl) rfl (J_done ?_)
          refine S_seq ?_
          refine S_cond rfl (fun hc9 => ?_) (fun hc9 => ?_)
          · have hc9n : k < x.outs.length := by first | (have h := of_decide_eq_true hc9; omega) | (have h := hc9; simp at h; omega)
            refine S_skip ?_
            refine S_seq ?_
            refine S_block ?_
            refine S_seq ?_
            refine S_reg [true, true, true] rfl rfl ?_
            have hi2 : k < x.outs.length := (by first | assumption | omega)
            refine J_st (R_index (i := k) sl65 rfl rfl (hd1.rd.ext E) hi2) rfl (J_st (R_load sc3 rfl (((hd1.rd.ext E).get hi2).one 0 rfl)) rfl (J_st (R_assign rfl) rfl (J_done ?_)))
            refine S_seq ?_
            refine S_reg [true, false, true] rfl rfl ?_
            refine J_st (R_move rfl) rfl ?_
            refine J_call Try.call43 rfl (c_within (x.outs[k]'hi2) 0 7 _ ) rfl (fun _ w14 e8 hv => ?_)
            subst hv
            replace E := E.trans e8; replace h1 := h1.ext e8
            have z11 := e8.size
            refine J_st (R_not rfl) rfl (J_done ?_)
            refine S_cond rfl (fun hc10 => ?_) (fun hc10 => ?_)
            · refine S_seq ?_
              refine S_reg [true] rfl rfl ?_
              refine J_st (R_assign rfl) rfl (J_done ?_)
              refine S_ret (E_inB_ret (E_lp_ret (E_inB_ret (E_done1 rfl rfl E ?_))))
              exact node_l (by assumption)
            · refine S_skip ?_
              refine S_nil (E_inB ?_)
              refine S_reg [true, true] rfl rfl ?_
              refine J_st (R_add rfl rfl (add_one hc9n (hd1.ext E).1.1)) rfl (J_st (R_move rfl) rfl (J_done ?_))
              refine S_nil (E_again (k + 1) (by omega) ⟨rfl, rfl, rfl, rfl, trivial⟩ ⟨E, (by omega), h1, (by omega), all_step hI (by assumption) (by simpa using (show (!(win x.outs[k] 0 7)) = false by assumption))⟩)
          · have hc9n : ¬ k < x.outs.length := by first | (have h := of_decide_eq_false hc9; omega) | (have h := hc9; simp at h; omega)
            refine S_exit (E_lp_exit (E_inB_exit ?_))
            refine S_seq ?_
            refine S_reg [true] rfl rfl ?_
            refine J_st (R_assign rfl) rfl (J_done ?_)
            refine S_ret (E_done1 rfl rfl E ?_)
            exact node_y (by rw [node_3 (by assumption)]; exact ky (by assumption)) (by assumption) hI (by omega)
    · refine S_seq ?_
      refine S_reg [true, true] rfl rfl ?_
      refine J_st (R_eql rfl rfl) rfl (J_st (R_assign rfl) rfl (J_done ?_))
      refine S_cond rfl (fun hc11 => ?_) (fun hc11 => ?_)
      · refine S_seq ?_
        refine S_reg [true, true, false, true, true, true, true, true, true] rfl rfl ?_
        refine J_st (R_fieldAddr0 fl70_1 rfl) rfl (J_st (R_load sc3 rfl (h1.one 1 rfl)) rfl ?_)
        refine J_call Try.call43 rfl (c_within x.a 0 99 _ ) rfl (fun _ w15 e9 hv => ?_)
        subst hv
        replace E := E.trans e9; replace h1 := h1.ext e9
        have z12 := e9.size
        refine J_st (R_not rfl) rfl (J_st (R_move rfl) rfl ?_)
        refine J_cut 4 [(0, .agg [.int .i64 x.kind, .int .i64 x.a, .int .i64 x.b, o1].toArray), (1, .pointer (some ⟨b1, 0, none⟩)), (2, .bool false), (5, .pointer (some ⟨b1, 0, none⟩)), (6, .int .i64 x.kind), (7, .bool (x.kind == 2)), (8, .bool (x.kind == 2)), (18, .bool (x.kind == 3)), (19, .bool (x.kind == 3)), (33, .bool (x.kind == 4)), (34, .bool (x.kind == 4)), (43, .bool ((!(win x.a 0 99)) || (x.b != 0)))] (fun w' => w15 = w') ?_ ?_
        · refine J_if (gd := 39) rfl rfl (fun hg13 => ?_) (fun hg13 => ?_)
          · refine J_gdno rfl rfl rfl rfl (J_gdno rfl rfl rfl rfl (J_gdno rfl rfl rfl rfl (J_st (R_pickT rfl rfl) rfl (J_cutEnd ⟨rfl, rfl, rfl, rfl, rfl, rfl, rfl, rfl, rfl, rfl, rfl, congrArg (fun b => some (Value.bool b)) (show true = ((!(win x.a 0 99)) || (x.b != 0)) by first | (rw [hg13] <;> rfl) | (simp [hg13]; done) | (simp only [nat_nlt] <;> simp)), trivial⟩ rfl))))
          · refine J_gd rfl rfl (R_fieldAddr0 fl70_2 rfl) rfl (J_gd rfl rfl (R_load sc3 rfl (h1.one 2 rfl)) rfl (J_gd rfl rfl (R_neq rfl rfl) rfl (J_st (R_pickF rfl rfl) rfl (J_cutEnd ⟨rfl, rfl, rfl, rfl, rfl, rfl, rfl, rfl, rfl, rfl, rfl, congrArg (fun b => some (Value.bool b)) (show (x.b != 0) = ((!(win x.a 0 99)) || (x.b != 0)) by first | (rw [hg13] <;> rfl) | (simp [hg13]; done) | (simp only [nat_nlt] <;> simp)), trivial⟩ rfl))))
        rintro _ rfl
        refine J_done ?_
        refine S_cond rfl (fun hc12 => ?_) (fun hc12 => ?_)
        · refine S_seq ?_
          refine S_reg [true] rfl rfl ?_
          refine J_st (R_assign rfl) rfl (J_done ?_)
          refine S_ret (E_inB_ret (E_done1 rfl rfl E ?_))
          exact node_k (by rw [node_4 (by assumption)]; exact kx (by assumption))
        · refine S_skip ?_
          refine S_nil (E_inB ?_)
          refine S_seq ?_
          refine S_seq ?_
          refine S_regD mixed [(0, true), (1, true), (2, true), (3, true), (4, true), (5, true), (6, true), (7, true), (8, true), (9, true), (10, true), (11, true), (12, true), (13, true), (14, true), (15, true), (16, true), (17, true), (18, true), (19, true), (20, true), (21, true), (22, true), (23, true), (24, true), (25, true), (26, true), (27, true), (28, true), (29, true), (30, true), (31, true)] (by decide +kernel) rfl (fun w17 e10 => ?_)
          replace E := E.trans e10; replace h1 := h1.ext e10
          have z13 := e10.size
          refine J_st (R_fieldAddr0 fl70_3 rfl) rfl (J_st (R_load sc65 rfl (h1.one 3 rfl)) rfl (J_st (R_len Try.underlying65 rfl (hd1.ext E).len) rfl (J_st (R_gtr rfl rfl) rfl (J_st (R_move rfl) rfl ?_))))
          refine J_cut 27 [(0, .agg [.int .i64 x.kind, .int .i64 x.a, .int .i64 x.b, o1].toArray), (1, .pointer (some ⟨b1, 0, none⟩)), (2, .bool false), (5, .pointer (some ⟨b1, 0, none⟩)), (6, .int .i64 x.kind), (7, .bool (x.kind == 2)), (8, .bool (x.kind == 2)), (18, .bool (x.kind == 3)), (19, .bool (x.kind == 3)), (33, .bool (x.kind == 4)), (34, .bool (x.kind == 4)), (43, .bool ((!(win x.a 0 99)) || (x.b != 0))), (89, .bool (((decide (2 < ((x.outs.length : Nat) : Int))) || ((x.kind == 8) && (decide (0 < ((x.outs.length : Nat) : Int))))) || ((((x.outs.length : Nat) : Int) == 2) && ((List.getD x.outs 0 default) == (List.getD x.outs 1 default)))))] (fun w' => w17 = w') ?_ ?_
          · refine J_if (gd := 62) rfl rfl (fun hg14 => ?_) (fun hg14 => ?_)
            · have hg14n : x.outs.length > 2 := by first | (have h := of_decide_eq_true hg14; omega) | (have h := hg14; simp at h; omega)
              refine J_gdno rfl rfl rfl rfl (J_gdno rfl rfl rfl rfl (J_gdno rfl rfl rfl rfl (J_gdno rfl rfl rfl rfl (J_gdx rfl rfl rfl (J_gdx rfl rfl rfl (J_gdx rfl rfl rfl (J_gdx rfl rfl rfl (J_gdno rfl rfl rfl rfl (J_st (R_pickT rfl rfl) rfl (J_st (R_move rfl) rfl (J_gdno rfl rfl rfl rfl (J_gdno rfl rfl rfl rfl (J_gdno rfl rfl rfl rfl (J_gdno rfl rfl rfl rfl (J_gdno rfl rfl rfl rfl (J_gdx rfl rfl rfl (J_gdx rfl rfl rfl (J_gdx rfl rfl rfl (J_gdx rfl rfl rfl (J_gdx rfl rfl rfl (J_gdx rfl rfl rfl (J_gdx rfl rfl rfl (J_gdx rfl rfl rfl (J_gdx rfl rfl rfl (J_gdno rfl rfl rfl rfl (J_st (R_pickT rfl rfl) rfl (J_cutEnd ⟨rfl, rfl, rfl, rfl, rfl, rfl, rfl, rfl, rfl, rfl, rfl, rfl, congrArg (fun b => some (Value.bool b)) (show true = (((decide (2 < ((x.outs.length : Nat) : Int))) || ((x.kind == 8) && (decide (0 < ((x.outs.length : Nat) : Int))))) || ((((x.outs.length : Nat) : Int) == 2) && ((List.getD x.outs 0 default) == (List.getD x.outs 1 default)))) by first | (rw [hg14] <;> rfl) | (simp [hg14]; done) | (simp only [nat_nlt] <;> simp)), trivial⟩ rfl)))))))))))))))))))))))))))
            · have hg14n : ¬ x.outs.length > 2 := by first | (have h := of_decide_eq_false hg14; omega) | (have h := hg14; simp at h; omega)
              refine J_gd rfl rfl (R_fieldAddr0 fl70_0 rfl) rfl (J_gd rfl rfl (R_load sc3 rfl (h1.one 0 rfl)) rfl (J_gd rfl rfl (R_eql rfl rfl) rfl (J_gd rfl rfl (R_move rfl) rfl ?_)))
              refine J_if (gd := 66) rfl rfl (fun hg15 => ?_) (fun hg15 => ?_)
              · refine J_gd rfl rfl (R_fieldAddr0 fl70_3 rfl) rfl (J_gd rfl rfl (R_load sc65 rfl (h1.one 3 rfl)) rfl (J_gd rfl rfl (R_len Try.underlying65 rfl (hd1.ext E).len) rfl (J_gd rfl rfl (R_gtr rfl rfl) rfl (J_gd rfl rfl (R_pickT rfl rfl) rfl (J_st (R_pickF rfl rfl) rfl (J_st (R_move rfl) rfl ?_))))))
                refine J_if (gd := 73) rfl rfl (fun hg16 => ?_) (fun hg16 => ?_)
                · have hg16n : x.outs.length > 0 := by first | (have h := of_decide_eq_true hg16; omega) | (have h := hg16; simp at h; omega)
                  refine J_gdno rfl rfl rfl rfl (J_gdno rfl rfl rfl rfl (J_gdno rfl rfl rfl rfl (J_gdno rfl rfl rfl rfl (J_gdno rfl rfl rfl rfl (J_gdx rfl rfl rfl (J_gdx rfl rfl rfl (J_gdx rfl rfl rfl (J_gdx rfl rfl rfl (J_gdx rfl rfl rfl (J_gdx rfl rfl rfl (J_gdx rfl rfl rfl (J_gdx rfl rfl rfl (J_gdx rfl rfl rfl (J_gdno rfl rfl rfl rfl (J_st (R_pickT rfl rfl) rfl (J_cutEnd ⟨rfl, rfl, rfl, rfl, rfl, rfl, rfl, rfl, rfl, rfl, rfl, rfl, congrArg (fun b => some (Value.bool b)) (show true = (((decide (2 < ((x.outs.length : Nat) : Int))) || ((x.kind == 8) && (decide (0 < ((x.outs.length : Nat) : Int))))) || ((((x.outs.length : Nat) : Int) == 2) && ((List.getD x.outs 0 default) == (List.getD x.outs 1 default)))) by first | (rw [hg14, hg15, hg16] <;> rfl) | (simp [hg14, hg15, hg16]; done) | (simp only [nat_nlt] <;> simp)), trivial⟩ rfl))))))))))))))))
                · have hg16n : ¬ x.outs.length > 0 := by first | (have h := of_decide_eq_false hg16; omega) | (have h := hg16; simp at h; omega)
                  refine J_gd rfl rfl (R_fieldAddr0 fl70_3 rfl) rfl (J_gd rfl rfl (R_load sc65 rfl (h1.one 3 rfl)) rfl (J_gd rfl rfl (R_len Try.underlying65 rfl (hd1.ext E).len) rfl (J_gd rfl rfl (R_eql rfl rfl) rfl (J_gd rfl rfl (R_move rfl) rfl ?_))))
                  refine J_if (gd := 78) rfl rfl (fun hg17 => ?_) (fun hg17 => ?_)
                  · have hg17n : x.outs.length = 2 := by first | (have h := of_decide_eq_true hg17; omega) | (have h := hg17; simp at h; omega)
                    refine J_gd rfl rfl (R_fieldAddr0 fl70_3 rfl) rfl (J_gd rfl rfl (R_load sc65 rfl (h1.one 3 rfl)) rfl (J_gd rfl rfl (R_index (i := 0) sl65 rfl rfl (hd1.rd.ext E) (by first | assumption | omega)) rfl (J_gd rfl rfl (R_load sc3 rfl ((RdS.getD (hd1.rd.ext E) (i := 0) (by first | assumption | omega)).one 0 rfl)) rfl (J_gd rfl rfl (R_fieldAddr0 fl70_3 rfl) rfl (J_gd rfl rfl (R_load sc65 rfl (h1.one 3 rfl)) rfl (J_gd rfl rfl (R_index (i := 1) sl65 rfl rfl (hd1.rd.ext E) (by first | assumption | omega)) rfl (J_gd rfl rfl (R_load sc3 rfl ((RdS.getD (hd1.rd.ext E) (i := 1) (by first | assumption | omega)).one 0 rfl)) rfl (J_gd rfl rfl (R_eql rfl rfl) rfl (J_gd rfl rfl (R_pickT rfl rfl) rfl (J_st (R_pickF rfl rfl) rfl (J_cutEnd ⟨rfl, rfl, rfl, rfl, rfl, rfl, rfl, rfl, rfl, rfl, rfl, rfl, congrArg (fun b => some (Value.bool b)) (show ((List.getD x.outs 0 default) == (List.getD x.outs 1 default)) = (((decide (2 < ((x.outs.length : Nat) : Int))) || ((x.kind == 8) && (decide (0 < ((x.outs.length : Nat) : Int))))) || ((((x.outs.length : Nat) : Int) == 2) && ((List.getD x.outs 0 default) == (List.getD x.outs 1 default)))) by first | (rw [hg14, hg15, hg16, hg17] <;> rfl) | (simp [hg14, hg15, hg16, hg17]; done) | (simp only [nat_nlt] <;> simp)), trivial⟩ rfl)))))))))))
                  · have hg17n : ¬ x.outs.length = 2 := by first | (have h := of_decide_eq_false hg17; omega) | (have h := hg17; simp at h; omega)
                    refine J_gdno rfl rfl rfl rfl (J_gdno rfl rfl rfl rfl (J_gdno rfl rfl rfl rfl (J_gdno rfl rfl rfl rfl (J_gdno rfl rfl rfl rfl (J_gdno rfl rfl rfl rfl (J_gdno rfl rfl rfl rfl (J_gdno rfl rfl rfl rfl (J_gdno rfl rfl rfl rfl (J_gd rfl rfl (R_pickF rfl rfl) rfl (J_st (R_pickF rfl rfl) rfl (J_cutEnd ⟨rfl, rfl, rfl, rfl, rfl, rfl, rfl, rfl, rfl, rfl, rfl, rfl, congrArg (fun b => some (Value.bool b)) (show false = (((decide (2 < ((x.outs.length : Nat) : Int))) || ((x.kind == 8) && (decide (0 < ((x.outs.length : Nat) : Int))))) || ((((x.outs.length : Nat) : Int) == 2) && ((List.getD x.outs 0 default) == (List.getD x.outs 1 default)))) by first | (rw [hg14, hg15, hg16, hg17] <;> rfl) | (simp [hg14, hg15, hg16, hg17]; done) | (simp only [nat_nlt] <;> simp)), trivial⟩ rfl)))))))))))
              · refine J_gdno rfl rfl rfl rfl (J_gdno rfl rfl rfl rfl (J_gdno rfl rfl rfl rfl (J_gdno rfl rfl rfl rfl (J_gd rfl rfl (R_pickF rfl rfl) rfl (J_st (R_pickF rfl rfl) rfl (J_st (R_move rfl) rfl (J_gd rfl rfl (R_fieldAddr0 fl70_3 rfl) rfl (J_gd rfl rfl (R_load sc65 rfl (h1.one 3 rfl)) rfl (J_gd rfl rfl (R_len Try.underlying65 rfl (hd1.ext E).len) rfl (J_gd rfl rfl (R_eql rfl rfl) rfl (J_gd rfl rfl (R_move rfl) rfl ?_)))))))))))
                refine J_if (gd := 78) rfl rfl (fun hg18 => ?_) (fun hg18 => ?_)
                · have hg18n : x.outs.length = 2 := by first | (have h := of_decide_eq_true hg18; omega) | (have h := hg18; simp at h; omega)
                  refine J_gd rfl rfl (R_fieldAddr0 fl70_3 rfl) rfl (J_gd rfl rfl (R_load sc65 rfl (h1.one 3 rfl)) rfl (J_gd rfl rfl (R_index (i := 0) sl65 rfl rfl (hd1.rd.ext E) (by first | assumption | omega)) rfl (J_gd rfl rfl (R_load sc3 rfl ((RdS.getD (hd1.rd.ext E) (i := 0) (by first | assumption | omega)).one 0 rfl)) rfl (J_gd rfl rfl (R_fieldAddr0 fl70_3 rfl) rfl (J_gd rfl rfl (R_load sc65 rfl (h1.one 3 rfl)) rfl (J_gd rfl rfl (R_index (i := 1) sl65 rfl rfl (hd1.rd.ext E) (by first | assumption | omega)) rfl (J_gd rfl rfl (R_load sc3 rfl ((RdS.getD (hd1.rd.ext E) (i := 1) (by first | assumption | omega)).one 0 rfl)) rfl (J_gd rfl rfl (R_eql rfl rfl) rfl (J_gd rfl rfl (R_pickT rfl rfl) rfl (J_st (R_pickF rfl rfl) rfl (J_cutEnd ⟨rfl, rfl, rfl, rfl, rfl, rfl, rfl, rfl, rfl, rfl, rfl, rfl, congrArg (fun b => some (Value.bool b)) (show ((List.getD x.outs 0 default) == (List.getD x.outs 1 default)) = (((decide (2 < ((x.outs.length : Nat) : Int))) || ((x.kind == 8) && (decide (0 < ((x.outs.length : Nat) : Int))))) || ((((x.outs.length : Nat) : Int) == 2) && ((List.getD x.outs 0 default) == (List.getD x.outs 1 default)))) by first | (rw [hg14, hg15, hg18] <;> rfl) | (simp [hg14, hg15, hg18]; done) | (simp only [nat_nlt] <;> simp)), trivial⟩ rfl)))))))))))
                · have hg18n : ¬ x.outs.length = 2 := by first | (have h := of_decide_eq_false hg18; omega) | (have h := hg18; simp at h; omega)
                  refine J_gdno rfl rfl rfl rfl (J_gdno rfl rfl rfl rfl (J_gdno rfl rfl rfl rfl (J_gdno rfl rfl rfl rfl (J_gdno rfl rfl rfl rfl (J_gdno rfl rfl rfl rfl (J_gdno rfl rfl rfl rfl (J_gdno rfl rfl rfl rfl (J_gdno rfl rfl rfl rfl (J_gd rfl rfl (R_pickF rfl rfl) rfl (J_st (R_pickF rfl rfl) rfl (J_cutEnd ⟨rfl, rfl, rfl, rfl, rfl, rfl, rfl, rfl, rfl, rfl, rfl, rfl, congrArg (fun b => some (Value.bool b)) (show false = (((decide (2 < ((x.outs.length : Nat) : Int))) || ((x.kind == 8) && (decide (0 < ((x.outs.length : Nat) : Int))))) || ((((x.outs.length : Nat) : Int) == 2) && ((List.getD x.outs 0 default) == (List.getD x.outs 1 default)))) by first | (rw [hg14, hg15, hg18] <;> rfl) | (simp [hg14, hg15, hg18]; done) | (simp only [nat_nlt] <;> simp)), trivial⟩ rfl)))))))))))
          rintro _ rfl
          refine J_done ?_
          refine S_cond rfl (fun hc13 => ?_) (fun hc13 => ?_)
          · refine S_seq ?_
            refine S_reg [true] rfl rfl ?_
            refine J_st (R_assign rfl) rfl (J_done ?_)
            refine S_ret (E_done1 rfl rfl E ?_)
            exact node_t (by assumption)
          · refine S_skip ?_
            refine S_seq ?_
            refine S_seq ?_
            refine S_reg [true, true, true, true] rfl rfl ?_
            refine J_st (R_fieldAddr0 fl70_3 rfl) rfl (J_st (R_load sc65 rfl (h1.one 3 rfl)) rfl (J_st (R_len Try.underlying65 rfl (hd1.ext E).len) rfl (J_st (R_move rfl) rfl (J_done ?_))))
            refine S_block ?_
            refine S_loop (fun (k : Nat) => [(2, .bool false), (91, o1), (92, .int .i64 ((x.outs.length : Nat) : Int)), (93, .int .i64 ((k : Nat) : Int))]) (fun (k : Nat) w' => Ext w w' ∧ w17.heap.size ≤ w'.heap.size ∧ Blk w' b1 ([.int .i64 x.kind, .int .i64 x.a, .int .i64 x.b, o1]) ∧ k ≤ x.outs.length ∧ (x.outs.take k).all (win · 0 7) = true) (fun (k : Nat) => x.outs.length - k) 0 ⟨rfl, rfl, rfl, rfl, trivial⟩ ⟨E, Nat.le_refl _, h1, Nat.zero_le _, rfl⟩ ?_
            clear E h1
            rintro k w19 ⟨E, z14, h1, hk, hI⟩
            refine S_seq ?_
            refine S_reg [true] rfl rfl ?_
            refine J_st (R_lss rfl rfl) rfl (J_done ?_)
            refine S_seq ?_
            refine S_cond rfl (fun hc14 => ?_) (fun hc14 => ?_)
            · have hc14n : k < x.outs.length := by first | (have h := of_decide_eq_true hc14; omega) | (have h := hc14; simp at h; omega)
              refine S_skip ?_
              refine S_seq ?_
              refine S_block ?_
              refine S_seq ?_
              refine S_reg [true, true, true] rfl rfl ?_
              have hi3 : k < x.outs.length := (by first | assumption | omega)
              refine J_st (R_index (i := k) sl65 rfl rfl (hd1.rd.ext E) hi3) rfl (J_st (R_load sc3 rfl (((hd1.rd.ext E).get hi3).one 0 rfl)) rfl (J_st (R_assign rfl) rfl (J_done ?_)))
              refine S_seq ?_
              refine S_reg [true, false, true] rfl rfl ?_
              refine J_st (R_move rfl) rfl ?_
              refine J_call Try.call43 rfl (c_within (x.outs[k]'hi3) 0 7 _ ) rfl (fun _ w20 e11 hv => ?_)
              subst hv
              replace E := E.trans e11; replace h1 := h1.ext e11
              have z15 := e11.size
              refine J_st (R_not rfl) rfl (J_done ?_)
              refine S_cond rfl (fun hc15 => ?_) (fun hc15 => ?_)
              · refine S_seq ?_
                refine S_reg [true] rfl rfl ?_
                refine J_st (R_assign rfl) rfl (J_done ?_)
                refine S_ret (E_inB_ret (E_lp_ret (E_inB_ret (E_done1 rfl rfl E ?_))))
                exact node_l (by assumption)
              · refine S_skip ?_
                refine S_nil (E_inB ?_)
                refine S_reg [true, true] rfl rfl ?_
                refine J_st (R_add rfl rfl (add_one hc14n (hd1.ext E).1.1)) rfl (J_st (R_move rfl) rfl (J_done ?_))
                refine S_nil (E_again (k + 1) (by omega) ⟨rfl, rfl, rfl, rfl, trivial⟩ ⟨E, (by omega), h1, (by omega), all_step hI (by assumption) (by simpa using (show (!(win x.outs[k] 0 7)) = false by assumption))⟩)
            · have hc14n : ¬ k < x.outs.length := by first | (have h := of_decide_eq_false hc14; omega) | (have h := hc14; simp at h; omega)
              refine S_exit (E_lp_exit (E_inB_exit ?_))
              refine S_seq ?_
              refine S_reg [true] rfl rfl ?_
              refine J_st (R_assign rfl) rfl (J_done ?_)
              refine S_ret (E_done1 rfl rfl E ?_)
              exact node_y (by rw [node_4 (by assumption)]; exact ky (by assumption)) (by assumption) hI (by omega)
      · refine S_seq ?_
        refine S_seq ?_
        refine S_reg [true, true] rfl rfl ?_
        refine J_st (R_eql rfl rfl) rfl (J_st (R_assign rfl) rfl (J_done ?_))
        refine S_cond rfl (fun hc16 => ?_) (fun hc16 => ?_)
        · refine S_skip ?_
          refine S_condTe rfl hc16 ?_
          refine S_seq ?_
          refine S_reg [true, true, true, true, true, true, true, true] rfl rfl ?_
          refine J_st (R_fieldAddr0 fl70_1 rfl) rfl (J_st (R_load sc3 rfl (h1.one 1 rfl)) rfl (J_st (R_neq rfl rfl) rfl (J_st (R_move rfl) rfl ?_)))
          refine J_cut 4 [(0, .agg [.int .i64 x.kind, .int .i64 x.a, .int .i64 x.b, o1].toArray), (1, .pointer (some ⟨b1, 0, none⟩)), (2, .bool false), (5, .pointer (some ⟨b1, 0, none⟩)), (6, .int .i64 x.kind), (7, .bool (x.kind == 2)), (8, .bool (x.kind == 2)), (18, .bool (x.kind == 3)), (19, .bool (x.kind == 3)), (33, .bool (x.kind == 4)), (34, .bool (x.kind == 4)), (44, .bool (x.kind == 1)), (45, .bool (x.kind == 1)), (57, .bool ((x.a != 0) || (x.b != 0)))] (fun w' => w1 = w') ?_ ?_
          · refine J_if (gd := 53) rfl rfl (fun hg19 => ?_) (fun hg19 => ?_)
            · refine J_gdno rfl rfl rfl rfl (J_gdno rfl rfl rfl rfl (J_gdno rfl rfl rfl rfl (J_st (R_pickT rfl rfl) rfl (J_cutEnd ⟨rfl, rfl, rfl, rfl, rfl, rfl, rfl, rfl, rfl, rfl, rfl, rfl, rfl, congrArg (fun b => some (Value.bool b)) (show true = ((x.a != 0) || (x.b != 0)) by first | (rw [hg19] <;> rfl) | (simp [hg19]; done) | (simp only [nat_nlt] <;> simp)), trivial⟩ rfl))))
            · refine J_gd rfl rfl (R_fieldAddr0 fl70_2 rfl) rfl (J_gd rfl rfl (R_load sc3 rfl (h1.one 2 rfl)) rfl (J_gd rfl rfl (R_neq rfl rfl) rfl (J_st (R_pickF rfl rfl) rfl (J_cutEnd ⟨rfl, rfl, rfl, rfl, rfl, rfl, rfl, rfl, rfl, rfl, rfl, rfl, rfl, congrArg (fun b => some (Value.bool b)) (show (x.b != 0) = ((x.a != 0) || (x.b != 0)) by first | (rw [hg19] <;> rfl) | (simp [hg19]; done) | (simp only [nat_nlt] <;> simp)), trivial⟩ rfl))))
          rintro _ rfl
          refine J_done ?_
          refine S_cond rfl (fun hc17 => ?_) (fun hc17 => ?_)
          · refine S_seq ?_
            refine S_reg [true] rfl rfl ?_
            refine J_st (R_assign rfl) rfl (J_done ?_)
            refine S_ret (E_inB_ret (E_done1 rfl rfl E ?_))
            exact node_k (by rw [node_0 (by assumption) (by assumption) (by assumption)]; exact kx0 (by assumption))
          · refine S_skip ?_
            refine S_nil (E_inB ?_)
            refine S_seq ?_
            refine S_seq ?_
            refine S_regD mixed [(0, true), (1, true), (2, true), (3, true), (4, true), (5, true), (6, true), (7, true), (8, true), (9, true), (10, true), (11, true), (12, true), (13, true), (14, true), (15, true), (16, true), (17, true), (18, true), (19, true), (20, true), (21, true), (22, true), (23, true), (24, true), (25, true), (26, true), (27, true), (28, true), (29, true), (30, true), (31, true)] (by decide +kernel) rfl (fun w22 e12 => ?_)
            replace E := E.trans e12; replace h1 := h1.ext e12
            have z16 := e12.size
            refine J_st (R_fieldAddr0 fl70_3 rfl) rfl (J_st (R_load sc65 rfl (h1.one 3 rfl)) rfl (J_st (R_len Try.underlying65 rfl (hd1.ext E).len) rfl (J_st (R_gtr rfl rfl) rfl (J_st (R_move rfl) rfl ?_))))
            refine J_cut 27 [(0, .agg [.int .i64 x.kind, .int .i64 x.a, .int .i64 x.b, o1].toArray), (1, .pointer (some ⟨b1, 0, none⟩)), (2, .bool false), (5, .pointer (some ⟨b1, 0, none⟩)), (6, .int .i64 x.kind), (7, .bool (x.kind == 2)), (8, .bool (x.kind == 2)), (18, .bool (x.kind == 3)), (19, .bool (x.kind == 3)), (33, .bool (x.kind == 4)), (34, .bool (x.kind == 4)), (44, .bool (x.kind == 1)), (45, .bool (x.kind == 1)), (57, .bool ((x.a != 0) || (x.b != 0))), (89, .bool (((decide (2 < ((x.outs.length : Nat) : Int))) || ((x.kind == 8) && (decide (0 < ((x.outs.length : Nat) : Int))))) || ((((x.outs.length : Nat) : Int) == 2) && ((List.getD x.outs 0 default) == (List.getD x.outs 1 default)))))] (fun w' => w22 = w') ?_ ?_
            · refine J_if (gd := 62) rfl rfl (fun hg20 => ?_) (fun hg20 => ?_)
              · have hg20n : x.outs.length > 2 := by first | (have h := of_decide_eq_true hg20; omega) | (have h := hg20; simp at h; omega)
                refine J_gdno rfl rfl rfl rfl (J_gdno rfl rfl rfl rfl (J_gdno rfl rfl rfl rfl (J_gdno rfl rfl rfl rfl (J_gdx rfl rfl rfl (J_gdx rfl rfl rfl (J_gdx rfl rfl rfl (J_gdx rfl rfl rfl (J_gdno rfl rfl rfl rfl (J_st (R_pickT rfl rfl) rfl (J_st (R_move rfl) rfl (J_gdno rfl rfl rfl rfl (J_gdno rfl rfl rfl rfl (J_gdno rfl rfl rfl rfl (J_gdno rfl rfl rfl rfl (J_gdno rfl rfl rfl rfl (J_gdx rfl rfl rfl (J_gdx rfl rfl rfl (J_gdx rfl rfl rfl (J_gdx rfl rfl rfl (J_gdx rfl rfl rfl (J_gdx rfl rfl rfl (J_gdx rfl rfl rfl (J_gdx rfl rfl rfl (J_gdx rfl rfl rfl (J_gdno rfl rfl rfl rfl (J_st (R_pickT rfl rfl) rfl (J_cutEnd ⟨rfl, rfl, rfl, rfl, rfl, rfl, rfl, rfl, rfl, rfl, rfl, rfl, rfl, rfl, congrArg (fun b => some (Value.bool b)) (show true = (((decide (2 < ((x.outs.length : Nat) : Int))) || ((x.kind == 8) && (decide (0 < ((x.outs.length : Nat) : Int))))) || ((((x.outs.length : Nat) : Int) == 2) && ((List.getD x.outs 0 default) == (List.getD x.outs 1 default)))) by first | (rw [hg20] <;> rfl) | (simp [hg20]; done) | (simp only [nat_nlt] <;> simp)), trivial⟩ rfl)))))))))))))))))))))))))))
              · have hg20n : ¬ x.outs.length > 2 := by first | (have h := of_decide_eq_false hg20; omega) | (have h := hg20; simp at h; omega)
                refine J_gd rfl rfl (R_fieldAddr0 fl70_0 rfl) rfl (J_gd rfl rfl (R_load sc3 rfl (h1.one 0 rfl)) rfl (J_gd rfl rfl (R_eql rfl rfl) rfl (J_gd rfl rfl (R_move rfl) rfl ?_)))
                refine J_if (gd := 66) rfl rfl (fun hg21 => ?_) (fun hg21 => ?_)
                · refine J_gd rfl rfl (R_fieldAddr0 fl70_3 rfl) rfl (J_gd rfl rfl (R_load sc65 rfl (h1.one 3 rfl)) rfl (J_gd rfl rfl (R_len Try.underlying65 rfl (hd1.ext E).len) rfl (J_gd rfl rfl (R_gtr rfl rfl) rfl (J_gd rfl rfl (R_pickT rfl rfl) rfl (J_st (R_pickF rfl rfl) rfl (J_st (R_move rfl) rfl ?_))))))
                  refine J_if (gd := 73) rfl rfl (fun hg22 => ?_) (fun hg22 => ?_)
                  · have hg22n : x.outs.length > 0 := by first | (have h := of_decide_eq_true hg22; omega) | (have h := hg22; simp at h; omega)
                    refine J_gdno rfl rfl rfl rfl (J_gdno rfl rfl rfl rfl (J_gdno rfl rfl rfl rfl (J_gdno rfl rfl rfl rfl (J_gdno rfl rfl rfl rfl (J_gdx rfl rfl rfl (J_gdx rfl rfl rfl (J_gdx rfl rfl rfl (J_gdx rfl rfl rfl (J_gdx rfl rfl rfl (J_gdx rfl rfl rfl (J_gdx rfl rfl rfl (J_gdx rfl rfl rfl (J_gdx rfl rfl rfl (J_gdno rfl rfl rfl rfl (J_st (R_pickT rfl rfl) rfl (J_cutEnd ⟨rfl, rfl, rfl, rfl, rfl, rfl, rfl, rfl, rfl, rfl, rfl, rfl, rfl, rfl, congrArg (fun b => some (Value.bool b)) (show true = (((decide (2 < ((x.outs.length : Nat) : Int))) || ((x.kind == 8) && (decide (0 < ((x.outs.length : Nat) : Int))))) || ((((x.outs.length : Nat) : Int) == 2) && ((List.getD x.outs 0 default) == (List.getD x.outs 1 default)))) by first | (rw [hg20, hg21, hg22] <;> rfl) | (simp [hg20, hg21, hg22]; done) | (simp only [nat_nlt] <;> simp)), trivial⟩ rfl))))))))))))))))
                  · have hg22n : ¬ x.outs.length > 0 := by first | (have h := of_decide_eq_false hg22; omega) | (have h := hg22; simp at h; omega)
                    refine J_gd rfl rfl (R_fieldAddr0 fl70_3 rfl) rfl (J_gd rfl rfl (R_load sc65 rfl (h1.one 3 rfl)) rfl (J_gd rfl rfl (R_len Try.underlying65 rfl (hd1.ext E).len) rfl (J_gd rfl rfl (R_eql rfl rfl) rfl (J_gd rfl rfl (R_move rfl) rfl ?_))))
                    refine J_if (gd := 78) rfl rfl (fun hg23 => ?_) (fun hg23 => ?_)
                    · have hg23n : x.outs.length = 2 := by first | (have h := of_decide_eq_true hg23; omega) | (have h := hg23; simp at h; omega)
                      refine J_gd rfl rfl (R_fieldAddr0 fl70_3 rfl) rfl (J_gd rfl rfl (R_load sc65 rfl (h1.one 3 rfl)) rfl (J_gd rfl rfl (R_index (i := 0) sl65 rfl rfl (hd1.rd.ext E) (by first | assumption | omega)) rfl (J_gd rfl rfl (R_load sc3 rfl ((RdS.getD (hd1.rd.ext E) (i := 0) (by first | assumption | omega)).one 0 rfl)) rfl (J_gd rfl rfl (R_fieldAddr0 fl70_3 rfl) rfl (J_gd rfl rfl (R_load sc65 rfl (h1.one 3 rfl)) rfl (J_gd rfl rfl (R_index (i := 1) sl65 rfl rfl (hd1.rd.ext E) (by first | assumption | omega)) rfl (J_gd rfl rfl (R_load sc3 rfl ((RdS.getD (hd1.rd.ext E) (i := 1) (by first | assumption | omega)).one 0 rfl)) rfl (J_gd rfl rfl (R_eql rfl rfl) rfl (J_gd rfl rfl (R_pickT rfl rfl) rfl (J_st (R_pickF rfl rfl) rfl (J_cutEnd ⟨rfl, rfl, rfl, rfl, rfl, rfl, rfl, rfl, rfl, rfl, rfl, rfl, rfl, rfl, congrArg (fun b => some (Value.bool b)) (show ((List.getD x.outs 0 default) == (List.getD x.outs 1 default)) = (((decide (2 < ((x.outs.length : Nat) : Int))) || ((x.kind == 8) && (decide (0 < ((x.outs.length : Nat) : Int))))) || ((((x.outs.length : Nat) : Int) == 2) && ((List.getD x.outs 0 default) == (List.getD x.outs 1 default)))) by first | (rw [hg20, hg21, hg22, hg23] <;> rfl) | (simp [hg20, hg21, hg22, hg23]; done) | (simp only [nat_nlt] <;> simp)), trivial⟩ rfl)))))))))))
                    · have hg23n : ¬ x.outs.length = 2 := by first | (have h := of_decide_eq_false hg23; omega) | (have h := hg23; simp at h; omega)
                      refine J_gdno rfl rfl rfl rfl (J_gdno rfl rfl rfl rfl (J_gdno rfl rfl rfl rfl (J_gdno rfl rfl rfl rfl (J_gdno rfl rfl rfl rfl (J_gdno rfl rfl rfl rfl (J_gdno rfl rfl rfl rfl (J_gdno rfl rfl rfl rfl (J_gdno rfl rfl rfl rfl (J_gd rfl rfl (R_pickF rfl rfl) rfl (J_st (R_pickF rfl rfl) rfl (J_cutEnd ⟨rfl, rfl, rfl, rfl, rfl, rfl, rfl, rfl, rfl, rfl, rfl, rfl, rfl, rfl, congrArg (fun b => some (Value.bool b)) (show false = (((decide (2 < ((x.outs.length : Nat) : Int))) || ((x.kind == 8) && (decide (0 < ((x.outs.length : Nat) : Int))))) || ((((x.outs.length : Nat) : Int) == 2) && ((List.getD x.outs 0 default) == (List.getD x.outs 1 default)))) by first | (rw [hg20, hg21, hg22, hg23] <;> rfl) | (simp [hg20, hg21, hg22, hg23]; done) | (simp only [nat_nlt] <;> simp)), trivial⟩ rfl)))))))))))
                · refine J_gdno rfl rfl rfl rfl (J_gdno rfl rfl rfl rfl (J_gdno rfl rfl rfl rfl (J_gdno rfl rfl rfl rfl (J_gd rfl rfl (R_pickF rfl rfl) rfl (J_st (R_pickF rfl rfl) rfl (J_st (R_move rfl) rfl (J_gd rfl rfl (R_fieldAddr0 fl70_3 rfl) rfl (J_gd rfl rfl (R_load sc65 rfl (h1.one 3 rfl)) rfl (J_gd rfl rfl (R_len Try.underlying65 rfl (hd1.ext E).len) rfl (J_gd rfl rfl (R_eql rfl rfl) rfl (J_gd rfl rfl (R_move rfl) rfl ?_)))))))))))
                  refine J_if (gd := 78) rfl rfl (fun hg24 => ?_) (fun hg24 => ?_)
                  · have hg24n : x.outs.length = 2 := by first | (have h := of_decide_eq_true hg24; omega) | (have h := hg24; simp at h; omega)
                    refine J_gd rfl rfl (R_fieldAddr0 fl70_3 rfl) rfl (J_gd rfl rfl (R_load sc65 rfl (h1.one 3 rfl)) rfl (J_gd rfl rfl (R_index (i := 0) sl65 rfl rfl (hd1.rd.ext E) (by first | assumption | omega)) rfl (J_gd rfl rfl (R_load sc3 rfl ((RdS.getD (hd1.rd.ext E) (i := 0) (by first | assumption | omega)).one 0 rfl)) rfl (J_gd rfl rfl (R_fieldAddr0 fl70_3 rfl) rfl (J_gd rfl rfl (R_load sc65 rfl (h1.one 3 rfl)) rfl (J_gd rfl rfl (R_index (i := 1) sl65 rfl rfl (hd1.rd.ext E) (by first | assumption | omega)) rfl (J_gd rfl rfl (R_load sc3 rfl ((RdS.getD (hd1.rd.ext E) (i := 1) (by first | assumption | omega)).one 0 rfl)) rfl (J_gd rfl rfl (R_eql rfl rfl) rfl (J_gd rfl rfl (R_pickT rfl rfl) rfl (J_st (R_pickF rfl rfl) rfl (J_cutEnd ⟨rfl, rfl, rfl, rfl, rfl, rfl, rfl, rfl, rfl, rfl, rfl, rfl, rfl, rfl, congrArg (fun b => some (Value.bool b)) (show ((List.getD x.outs 0 default) == (List.getD x.outs 1 default)) = (((decide (2 < ((x.outs.length : Nat) : Int))) || ((x.kind == 8) && (decide (0 < ((x.outs.length : Nat) : Int))))) || ((((x.outs.length : Nat) : Int) == 2) && ((List.getD x.outs 0 default) == (List.getD x.outs 1 default)))) by first | (rw [hg20, hg21, hg24] <;> rfl) | (simp [hg20, hg21, hg24]; done) | (simp only [nat_nlt] <;> simp)), trivial⟩ rfl)))))))))))
                  · have hg24n : ¬ x.outs.length = 2 := by first | (have h := of_decide_eq_false hg24; omega) | (have h := hg24; simp at h; omega)
                    refine J_gdno rfl rfl rfl rfl (J_gdno rfl rfl rfl rfl (J_gdno rfl rfl rfl rfl (J_gdno rfl rfl rfl rfl (J_gdno rfl rfl rfl rfl (J_gdno rfl rfl rfl rfl (J_gdno rfl rfl rfl rfl (J_gdno rfl rfl rfl rfl (J_gdno rfl rfl rfl rfl (J_gd rfl rfl (R_pickF rfl rfl) rfl (J_st (R_pickF rfl rfl) rfl (J_cutEnd ⟨rfl, rfl, rfl, rfl, rfl, rfl, rfl, rfl, rfl, rfl, rfl, rfl, rfl, rfl, congrArg (fun b => some (Value.bool b)) (show false = (((decide (2 < ((x.outs.length : Nat) : Int))) || ((x.kind == 8) && (decide (0 < ((x.outs.length : Nat) : Int))))) || ((((x.outs.length : Nat) : Int) == 2) && ((List.getD x.outs 0 default) == (List.getD x.outs 1 default)))) by first | (rw [hg20, hg21, hg24] <;> rfl) | (simp [hg20, hg21, hg24]; done) | (simp only [nat_nlt] <;> simp)), trivial⟩ rfl)))))))))))
            rintro _ rfl
            refine J_done ?_
            refine S_cond rfl (fun hc18 => ?_) (fun hc18 => ?_)
            · refine S_seq ?_
              refine S_reg [true] rfl rfl ?_
              refine J_st (R_assign rfl) rfl (J_done ?_)
              refine S_ret (E_done1 rfl rfl E ?_)
              exact node_t (by assumption)
            · refine S_skip ?_
              refine S_seq ?_
              refine S_seq ?_
              refine S_reg [true, true, true, true] rfl rfl ?_
              refine J_st (R_fieldAddr0 fl70_3 rfl) rfl (J_st (R_load sc65 rfl (h1.one 3 rfl)) rfl (J_st (R_len Try.underlying65 rfl (hd1.ext E).len) rfl (J_st (R_move rfl) rfl (J_done ?_))))
              refine S_block ?_
              refine S_loop (fun (k : Nat) => [(2, .bool false), (91, o1), (92, .int .i64 ((x.outs.length : Nat) : Int)), (93, .int .i64 ((k : Nat) : Int))]) (fun (k : Nat) w' => Ext w w' ∧ w22.heap.size ≤ w'.heap.size ∧ Blk w' b1 ([.int .i64 x.kind, .int .i64 x.a, .int .i64 x.b, o1]) ∧ k ≤ x.outs.length ∧ (x.outs.take k).all (win · 0 7) = true) (fun (k : Nat) => x.outs.length - k) 0 ⟨rfl, rfl, rfl, rfl, trivial⟩ ⟨E, Nat.le_refl _, h1, Nat.zero_le _, rfl⟩ ?_
              clear E h1
              rintro k w24 ⟨E, z17, h1, hk, hI⟩
              refine S_seq ?_
              refine S_reg [true] rfl rfl ?_
              refine J_st (R_lss rfl rfl) rfl (J_done ?_)
              refine S_seq ?_
              refine S_cond rfl (fun hc19 => ?_) (fun hc19 => ?_)
              · have hc19n : k < x.outs.length := by first | (have h := of_decide_eq_true hc19; omega) | (have h := hc19; simp at h; omega)
                refine S_skip ?_
                refine S_seq ?_
                refine S_block ?_
                refine S_seq ?_
                refine S_reg [true, true, true] rfl rfl ?_
                have hi4 : k < x.outs.length := (by first | assumption | omega)
                refine J_st (R_index (i := k) sl65 rfl rfl (hd1.rd.ext E) hi4) rfl (J_st (R_load sc3 rfl (((hd1.rd.ext E).get hi4).one 0 rfl)) rfl (J_st (R_assign rfl) rfl (J_done ?_)))
                refine S_seq ?_
                refine S_reg [true, false, true] rfl rfl ?_
                refine J_st (R_move rfl) rfl ?_
                refine J_call Try.call43 rfl (c_within (x.outs[k]'hi4) 0 7 _ ) rfl (fun _ w25 e13 hv => ?_)
                subst hv
                replace E := E.trans e13; replace h1 := h1.ext e13
                have z18 := e13.size
                refine J_st (R_not rfl) rfl (J_done ?_)
                refine S_cond rfl (fun hc20 => ?_) (fun hc20 => ?_)
                · refine S_seq ?_
                  refine S_reg [true] rfl rfl ?_
                  refine J_st (R_assign rfl) rfl (J_done ?_)
                  refine S_ret (E_inB_ret (E_lp_ret (E_inB_ret (E_done1 rfl rfl E ?_))))
                  exact node_l (by assumption)
                · refine S_skip ?_
                  refine S_nil (E_inB ?_)
                  refine S_reg [true, true] rfl rfl ?_
                  refine J_st (R_add rfl rfl (add_one hc19n (hd1.ext E).1.1)) rfl (J_st (R_move rfl) rfl (J_done ?_))
                  refine S_nil (E_again (k + 1) (by omega) ⟨rfl, rfl, rfl, rfl, trivial⟩ ⟨E, (by omega), h1, (by omega), all_step hI (by assumption) (by simpa using (show (!(win x.outs[k] 0 7)) = false by assumption))⟩)
              · have hc19n : ¬ k < x.outs.length := by first | (have h := of_decide_eq_false hc19; omega) | (have h := hc19; simp at h; omega)
                refine S_exit (E_lp_exit (E_inB_exit ?_))
                refine S_seq ?_
                refine S_reg [true] rfl rfl ?_
                refine J_st (R_assign rfl) rfl (J_done ?_)
                refine S_ret (E_done1 rfl rfl E ?_)
                exact node_y (by rw [node_0 (by assumption) (by assumption) (by assumption)]; exact ky0 (by assumption) (win_kind (by simp at *; omega))) (by assumption) hI (by omega)
        · refine S_seq ?_
          refine S_reg [true, true] rfl rfl ?_
          refine J_st (R_eql rfl rfl) rfl (J_st (R_assign rfl) rfl (J_done ?_))
          refine S_cond rfl (fun hc21 => ?_) (fun hc21 => ?_)
          · refine S_skip ?_
            refine S_condTe rfl hc21 ?_
            refine S_seq ?_
            refine S_reg [true, true, true, true, true, true, true, true] rfl rfl ?_
            refine J_st (R_fieldAddr0 fl70_1 rfl) rfl (J_st (R_load sc3 rfl (h1.one 1 rfl)) rfl (J_st (R_neq rfl rfl) rfl (J_st (R_move rfl) rfl ?_)))
            refine J_cut 4 [(0, .agg [.int .i64 x.kind, .int .i64 x.a, .int .i64 x.b, o1].toArray), (1, .pointer (some ⟨b1, 0, none⟩)), (2, .bool false), (5, .pointer (some ⟨b1, 0, none⟩)), (6, .int .i64 x.kind), (7, .bool (x.kind == 2)), (8, .bool (x.kind == 2)), (18, .bool (x.kind == 3)), (19, .bool (x.kind == 3)), (33, .bool (x.kind == 4)), (34, .bool (x.kind == 4)), (44, .bool (x.kind == 5)), (45, .bool (x.kind == 1)), (46, .bool (x.kind == 5)), (57, .bool ((x.a != 0) || (x.b != 0)))] (fun w' => w1 = w') ?_ ?_
            · refine J_if (gd := 53) rfl rfl (fun hg25 => ?_) (fun hg25 => ?_)
              · refine J_gdno rfl rfl rfl rfl (J_gdno rfl rfl rfl rfl (J_gdno rfl rfl rfl rfl (J_st (R_pickT rfl rfl) rfl (J_cutEnd ⟨rfl, rfl, rfl, rfl, rfl, rfl, rfl, rfl, rfl, rfl, rfl, rfl, rfl, rfl, congrArg (fun b => some (Value.bool b)) (show true = ((x.a != 0) || (x.b != 0)) by first | (rw [hg25] <;> rfl) | (simp [hg25]; done) | (simp only [nat_nlt] <;> simp)), trivial⟩ rfl))))
              · refine J_gd rfl rfl (R_fieldAddr0 fl70_2 rfl) rfl (J_gd rfl rfl (R_load sc3 rfl (h1.one 2 rfl)) rfl (J_gd rfl rfl (R_neq rfl rfl) rfl (J_st (R_pickF rfl rfl) rfl (J_cutEnd ⟨rfl, rfl, rfl, rfl, rfl, rfl, rfl, rfl, rfl, rfl, rfl, rfl, rfl, rfl, congrArg (fun b => some (Value.bool b)) (show (x.b != 0) = ((x.a != 0) || (x.b != 0)) by first | (rw [hg25] <;> rfl) | (simp [hg25]; done) | (simp only [nat_nlt] <;> simp)), trivial⟩ rfl))))
            rintro _ rfl
            refine J_done ?_
            refine S_cond rfl (fun hc22 => ?_) (fun hc22 => ?_)
            · refine S_seq ?_
              refine S_reg [true] rfl rfl ?_
              refine J_st (R_assign rfl) rfl (J_done ?_)
              refine S_ret (E_inB_ret (E_done1 rfl rfl E ?_))
              exact node_k (by rw [node_0 (by assumption) (by assumption) (by assumption)]; exact kx0 (by assumption))
            · refine S_skip ?_
              refine S_nil (E_inB ?_)
              refine S_seq ?_
              refine S_seq ?_
              refine S_regD mixed [(0, true), (1, true), (2, true), (3, true), (4, true), (5, true), (6, true), (7, true), (8, true), (9, true), (10, true), (11, true), (12, true), (13, true), (14, true), (15, true), (16, true), (17, true), (18, true), (19, true), (20, true), (21, true), (22, true), (23, true), (24, true), (25, true), (26, true), (27, true), (28, true), (29, true), (30, true), (31, true)] (by decide +kernel) rfl (fun w27 e14 => ?_)
              replace E := E.trans e14; replace h1 := h1.ext e14
              have z19 := e14.size
              refine J_st (R_fieldAddr0 fl70_3 rfl) rfl (J_st (R_load sc65 rfl (h1.one 3 rfl)) rfl (J_st (R_len Try.underlying65 rfl (hd1.ext E).len) rfl (J_st (R_gtr rfl rfl) rfl (J_st (R_move rfl) rfl ?_))))
              refine J_cut 27 [(0, .agg [.int .i64 x.kind, .int .i64 x.a, .int .i64 x.b, o1].toArray), (1, .pointer (some ⟨b1, 0, none⟩)), (2, .bool false), (5, .pointer (some ⟨b1, 0, none⟩)), (6, .int .i64 x.kind), (7, .bool (x.kind == 2)), (8, .bool (x.kind == 2)), (18, .bool (x.kind == 3)), (19, .bool (x.kind == 3)), (33, .bool (x.kind == 4)), (34, .bool (x.kind == 4)), (44, .bool (x.kind == 5)), (45, .bool (x.kind == 1)), (46, .bool (x.kind == 5)), (57, .bool ((x.a != 0) || (x.b != 0))), (89, .bool (((decide (2 < ((x.outs.length : Nat) : Int))) || ((x.kind == 8) && (decide (0 < ((x.outs.length : Nat) : Int))))) || ((((x.outs.length : Nat) : Int) == 2) && ((List.getD x.outs 0 default) == (List.getD x.outs 1 default)))))] (fun w' => w27 = w') ?_ ?_
              · refine J_if (gd := 62) rfl rfl (fun hg26 => ?_) (fun hg26 => ?_)
                · have hg26n : x.outs.length > 2 := by first | (have h := of_decide_eq_true hg26; omega) | (have h := hg26; simp at h; omega)
                  refine J_gdno rfl rfl rfl rfl (J_gdno rfl rfl rfl rfl (J_gdno rfl rfl rfl rfl (J_gdno rfl rfl rfl rfl (J_gdx rfl rfl rfl (J_gdx rfl rfl rfl (J_gdx rfl rfl rfl (J_gdx rfl rfl rfl (J_gdno rfl rfl rfl rfl (J_st (R_pickT rfl rfl) rfl (J_st (R_move rfl) rfl (J_gdno rfl rfl rfl rfl (J_gdno rfl rfl rfl rfl (J_gdno rfl rfl rfl rfl (J_gdno rfl rfl rfl rfl (J_gdno rfl rfl rfl rfl (J_gdx rfl rfl rfl (J_gdx rfl rfl rfl (J_gdx rfl rfl rfl (J_gdx rfl rfl rfl (J_gdx rfl rfl rfl (J_gdx rfl rfl rfl (J_gdx rfl rfl rfl (J_gdx rfl rfl rfl (J_gdx rfl rfl rfl (J_gdno rfl rfl rfl rfl (J_st (R_pickT rfl rfl) rfl (J_cutEnd ⟨rfl, rfl, rfl, rfl, rfl, rfl, rfl, rfl, rfl, rfl, rfl, rfl, rfl, rfl, rfl, congrArg (fun b => some (Value.bool b)) (show true = (((decide (2 < ((x.outs.length : Nat) : Int))) || ((x.kind == 8) && (decide (0 < ((x.outs.length : Nat) : Int))))) || ((((x.outs.length : Nat) : Int) == 2) && ((List.getD x.outs 0 default) == (List.getD x.outs 1 default)))) by first | (rw [hg26] <;> rfl) | (simp [hg26]; done) | (simp only [nat_nlt] <;> simp)), trivial⟩ rfl)))))))))))))))))))))))))))
                · have hg26n : ¬ x.outs.length > 2 := by first | (have h := of_decide_eq_false hg26; omega) | (have h := hg26; simp at h; omega)
                  refine J_gd rfl rfl (R_fieldAddr0 fl70_0 rfl) rfl (J_gd rfl rfl (R_load sc3 rfl (h1.one 0 rfl)) rfl (J_gd rfl rfl (R_eql rfl rfl) rfl (J_gd rfl rfl (R_move rfl) rfl ?_)))
                  refine J_if (gd := 66) rfl rfl (fun hg27 => ?_) (fun hg27 => ?_)
                  · refine J_gd rfl rfl (R_fieldAddr0 fl70_3 rfl) rfl (J_gd rfl rfl (R_load sc65 rfl (h1.one 3 rfl)) rfl (J_gd rfl rfl (R_len Try.underlying65 rfl (hd1.ext E).len) rfl (J_gd rfl rfl (R_gtr rfl rfl) rfl (J_gd rfl rfl (R_pickT rfl rfl) rfl (J_st (R_pickF rfl rfl) rfl (J_st (R_move rfl) rfl ?_))))))
                    refine J_if (gd := 73) rfl rfl (fun hg28 => ?_) (fun hg28 => ?_)
                    · have hg28n : x.outs.length > 0 := by first | (have h := of_decide_eq_true hg28; omega) | (have h := hg28; simp at h; omega)
                      refine J_gdno rfl rfl rfl rfl (J_gdno rfl rfl rfl rfl (J_gdno rfl rfl rfl rfl (J_gdno rfl rfl rfl rfl (J_gdno rfl rfl rfl rfl (J_gdx rfl rfl rfl (J_gdx rfl rfl rfl (J_gdx rfl rfl rfl (J_gdx rfl rfl rfl (J_gdx rfl rfl rfl (J_gdx rfl rfl rfl (J_gdx rfl rfl rfl (J_gdx rfl rfl rfl (J_gdx rfl rfl rfl (J_gdno rfl rfl rfl rfl (J_st (R_pickT rfl rfl) rfl (J_cutEnd ⟨rfl, rfl, rfl, rfl, rfl, rfl, rfl, rfl, rfl, rfl, rfl, rfl, rfl, rfl, rfl, congrArg (fun b => some (Value.bool b)) (show true = (((decide (2 < ((x.outs.length : Nat) : Int))) || ((x.kind == 8) && (decide (0 < ((x.outs.length : Nat) : Int))))) || ((((x.outs.length : Nat) : Int) == 2) && ((List.getD x.outs 0 default) == (List.getD x.outs 1 default)))) by first | (rw [hg26, hg27, hg28] <;> rfl) | (simp [hg26, hg27, hg28]; done) | (simp only [nat_nlt] <;> simp)), trivial⟩ rfl))))))))))))))))
                    · have hg28n : ¬ x.outs.length > 0 := by first | (have h := of_decide_eq_false hg28; omega) | (have h := hg28; simp at h; omega)
                      refine J_gd rfl rfl (R_fieldAddr0 fl70_3 rfl) rfl (J_gd rfl rfl (R_load sc65 rfl (h1.one 3 rfl)) rfl (J_gd rfl rfl (R_len Try.underlying65 rfl (hd1.ext E).len) rfl (J_gd rfl rfl (R_eql rfl rfl) rfl (J_gd rfl rfl (R_move rfl) rfl ?_))))
                      refine J_if (gd := 78) rfl rfl (fun hg29 => ?_) (fun hg29 => ?_)
                      · have hg29n : x.outs.length = 2 := by first | (have h := of_decide_eq_true hg29; omega) | (have h := hg29; simp at h; omega)
                        refine J_gd rfl rfl (R_fieldAddr0 fl70_3 rfl) rfl (J_gd rfl rfl (R_load sc65 rfl (h1.one 3 rfl)) rfl (J_gd rfl rfl (R_index (i := 0) sl65 rfl rfl (hd1.rd.ext E) (by first | assumption | omega)) rfl (J_gd rfl rfl (R_load sc3 rfl ((RdS.getD (hd1.rd.ext E) (i := 0) (by first | assumption | omega)).one 0 rfl)) rfl (J_gd rfl rfl (R_fieldAddr0 fl70_3 rfl) rfl (J_gd rfl rfl (R_load sc65 rfl (h1.one 3 rfl)) rfl (J_gd rfl rfl (R_index (i := 1) sl65 rfl rfl (hd1.rd.ext E) (by first | assumption | omega)) rfl (J_gd rfl rfl (R_load sc3 rfl ((RdS.getD (hd1.rd.ext E) (i := 1) (by first | assumption | omega)).one 0 rfl)) rfl (J_gd rfl rfl (R_eql rfl rfl) rfl (J_gd rfl rfl (R_pickT rfl rfl) rfl (J_st (R_pickF rfl rfl) rfl (J_cutEnd ⟨rfl, rfl, rfl, rfl, rfl, rfl, rfl, rfl, rfl, rfl, rfl, rfl, rfl, rfl, rfl, congrArg (fun b => some (Value.bool b)) (show ((List.getD x.outs 0 default) == (List.getD x.outs 1 default)) = (((decide (2 < ((x.outs.length : Nat) : Int))) || ((x.kind == 8) && (decide (0 < ((x.outs.length : Nat) : Int))))) || ((((x.outs.length : Nat) : Int) == 2) && ((List.getD x.outs 0 default) == (List.getD x.outs 1 default)))) by first | (rw [hg26, hg27, hg28, hg29] <;> rfl) | (simp [hg26, hg27, hg28, hg29]; done) | (simp only [nat_nlt] <;> simp)), trivial⟩ rfl)))))))))))
                      · have hg29n : ¬ x.outs.length = 2 := by first | (have h := of_decide_eq_false hg29; omega) | (have h := hg29; simp at h; omega)
                        refine J_gdno rfl rfl rfl rfl (J_gdno rfl rfl rfl rfl (J_gdno rfl rfl rfl rfl (J_gdno rfl rfl rfl rfl (J_gdno rfl rfl rfl rfl (J_gdno rfl rfl rfl rfl (J_gdno rfl rfl rfl rfl (J_gdno rfl rfl rfl rfl (J_gdno rfl rfl rfl rfl (J_gd rfl rfl (R_pickF rfl rfl) rfl (J_st (R_pickF rfl rfl) rfl (J_cutEnd ⟨rfl, rfl, rfl, rfl, rfl, rfl, rfl, rfl, rfl, rfl, rfl, rfl, rfl, rfl, rfl, congrArg (fun b => some (Value.bool b)) (show false = (((decide (2 < ((x.outs.length : Nat) : Int))) || ((x.kind == 8) && (decide (0 < ((x.outs.length : Nat) : Int))))) || ((((x.outs.length : Nat) : Int) == 2) && ((List.getD x.outs 0 default) == (List.getD x.outs 1 default)))) by first | (rw [hg26, hg27, hg28, hg29] <;> rfl) | (simp [hg26, hg27, hg28, hg29]; done) | (simp only [nat_nlt] <;> simp)), trivial⟩ rfl)))))))))))
                  · refine J_gdno rfl rfl rfl rfl (J_gdno rfl rfl rfl rfl (J_gdno rfl rfl rfl rfl (J_gdno rfl rfl rfl rfl (J_gd rfl rfl (R_pickF rfl rfl) rfl (J_st (R_pickF rfl rfl) rfl (J_st (R_move rfl) rfl (J_gd rfl rfl (R_fieldAddr0 fl70_3 rfl) rfl (J_gd rfl rfl (R_load sc65 rfl (h1.one 3 rfl)) rfl (J_gd rfl rfl (R_len Try.underlying65 rfl (hd1.ext E).len) rfl (J_gd rfl rfl (R_eql rfl rfl) rfl (J_gd rfl rfl (R_move rfl) rfl ?_)))))))))))
                    refine J_if (gd := 78) rfl rfl (fun hg30 => ?_) (fun hg30 => ?_)
                    · have hg30n : x.outs.length = 2 := by first | (have h := of_decide_eq_true hg30; omega) | (have h := hg30; simp at h; omega)
                      refine J_gd rfl rfl (R_fieldAddr0 fl70_3 rfl) rfl (J_gd rfl rfl (R_load sc65 rfl (h1.one 3 rfl)) rfl (J_gd rfl rfl (R_index (i := 0) sl65 rfl rfl (hd1.rd.ext E) (by first | assumption | omega)) rfl (J_gd rfl rfl (R_load sc3 rfl ((RdS.getD (hd1.rd.ext E) (i := 0) (by first | assumption | omega)).one 0 rfl)) rfl (J_gd rfl rfl (R_fieldAddr0 fl70_3 rfl) rfl (J_gd rfl rfl (R_load sc65 rfl (h1.one 3 rfl)) rfl (J_gd rfl rfl (R_index (i := 1) sl65 rfl rfl (hd1.rd.ext E) (by first | assumption | omega)) rfl (J_gd rfl rfl (R_load sc3 rfl ((RdS.getD (hd1.rd.ext E) (i := 1) (by first | assumption | omega)).one 0 rfl)) rfl (J_gd rfl rfl (R_eql rfl rfl) rfl (J_gd rfl rfl (R_pickT rfl rfl) rfl (J_st (R_pickF rfl rfl) rfl (J_cutEnd ⟨rfl, rfl, rfl, rfl, rfl, rfl, rfl, rfl, rfl, rfl, rfl, rfl, rfl, rfl, rfl, congrArg (fun b => some (Value.bool b)) (show ((List.getD x.outs 0 default) == (List.getD x.outs 1 default)) = (((decide (2 < ((x.outs.length : Nat) : Int))) || ((x.kind == 8) && (decide (0 < ((x.outs.length : Nat) : Int))))) || ((((x.outs.length : Nat) : Int) == 2) && ((List.getD x.outs 0 default) == (List.getD x.outs 1 default)))) by first | (rw [hg26, hg27, hg30] <;> rfl) | (simp [hg26, hg27, hg30]; done) | (simp only [nat_nlt] <;> simp)), trivial⟩ rfl)))))))))))
                    · have hg30n : ¬ x.outs.length = 2 := by first | (have h := of_decide_eq_false hg30; omega) | (have h := hg30; simp at h; omega)
                      refine J_gdno rfl rfl rfl rfl (J_gdno rfl rfl rfl rfl (J_gdno rfl rfl rfl rfl (J_gdno rfl rfl rfl rfl (J_gdno rfl rfl rfl rfl (J_gdno rfl rfl rfl rfl (J_gdno rfl rfl rfl rfl (J_gdno rfl rfl rfl rfl (J_gdno rfl rfl rfl rfl (J_gd rfl rfl (R_pickF rfl rfl) rfl (J_st (R_pickF rfl rfl) rfl (J_cutEnd ⟨rfl, rfl, rfl, rfl, rfl, rfl, rfl, rfl, rfl, rfl, rfl, rfl, rfl, rfl, rfl, congrArg (fun b => some (Value.bool b)) (show false = (((decide (2 < ((x.outs.length : Nat) : Int))) || ((x.kind == 8) && (decide (0 < ((x.outs.length : Nat) : Int))))) || ((((x.outs.length : Nat) : Int) == 2) && ((List.getD x.outs 0 default) == (List.getD x.outs 1 default)))) by first | (rw [hg26, hg27, hg30] <;> rfl) | (simp [hg26, hg27, hg30]; done) | (simp only [nat_nlt] <;> simp)), trivial⟩ rfl)))))))))))
              rintro _ rfl
              refine J_done ?_
              refine S_cond rfl (fun hc23 => ?_) (fun hc23 => ?_)
              · refine S_seq ?_
                refine S_reg [true] rfl rfl ?_
                refine J_st (R_assign rfl) rfl (J_done ?_)
                refine S_ret (E_done1 rfl rfl E ?_)
                exact node_t (by assumption)
              · refine S_skip ?_
                refine S_seq ?_
                refine S_seq ?_
                refine S_reg [true, true, true, true] rfl rfl ?_
                refine J_st (R_fieldAddr0 fl70_3 rfl) rfl (J_st (R_load sc65 rfl (h1.one 3 rfl)) rfl (J_st (R_len Try.underlying65 rfl (hd1.ext E).len) rfl (J_st (R_move rfl) rfl (J_done ?_))))
                refine S_block ?_
                refine S_loop (fun (k : Nat) => [(2, .bool false), (91, o1), (92, .int .i64 ((x.outs.length : Nat) : Int)), (93, .int .i64 ((k : Nat) : Int))]) (fun (k : Nat) w' => Ext w w' ∧ w27.heap.size ≤ w'.heap.size ∧ Blk w' b1 ([.int .i64 x.kind, .int .i64 x.a, .int .i64 x.b, o1]) ∧ k ≤ x.outs.length ∧ (x.outs.take k).all (win · 0 7) = true) (fun (k : Nat) => x.outs.length - k) 0 ⟨rfl, rfl, rfl, rfl, trivial⟩ ⟨E, Nat.le_refl _, h1, Nat.zero_le _, rfl⟩ ?_
                clear E h1
                rintro k w29 ⟨E, z20, h1, hk, hI⟩
                refine S_seq ?_
                refine S_reg [true] rfl rfl ?_
                refine J_st (R_lss rfl rfl) rfl (J_done ?_)
                refine S_seq ?_
                refine S_cond rfl (fun hc24 => ?_) (fun hc24 => ?_)
                · have hc24n : k < x.outs.length := by first | (have h := of_decide_eq_true hc24; omega) | (have h := hc24; simp at h; omega)
                  refine S_skip ?_
                  refine S_seq ?_
                  refine S_block ?_
                  refine S_seq ?_
                  refine S_reg [true, true, true] rfl rfl ?_
                  have hi5 : k < x.outs.length := (by first | assumption | omega)
                  refine J_st (R_index (i := k) sl65 rfl rfl (hd1.rd.ext E) hi5) rfl (J_st (R_load sc3 rfl (((hd1.rd.ext E).get hi5).one 0 rfl)) rfl (J_st (R_assign rfl) rfl (J_done ?_)))
                  refine S_seq ?_
                  refine S_reg [true, false, true] rfl rfl ?_
                  refine J_st (R_move rfl) rfl ?_
                  refine J_call Try.call43 rfl (c_within (x.outs[k]'hi5) 0 7 _ ) rfl (fun _ w30 e15 hv => ?_)
                  subst hv
                  replace E := E.trans e15; replace h1 := h1.ext e15
                  have z21 := e15.size
                  refine J_st (R_not rfl) rfl (J_done ?_)
                  refine S_cond rfl (fun hc25 => ?_) (fun hc25 => ?_)
                  · refine S_seq ?_
                    refine S_reg [true] rfl rfl ?_
                    refine J_st (R_assign rfl) rfl (J_done ?_)
                    refine S_ret (E_inB_ret (E_lp_ret (E_inB_ret (E_done1 rfl rfl E ?_))))
                    exact node_l (by assumption)
                  · refine S_skip ?_
                    refine S_nil (E_inB ?_)
                    refine S_reg [true, true] rfl rfl ?_
                    refine J_st (R_add rfl rfl (add_one hc24n (hd1.ext E).1.1)) rfl (J_st (R_move rfl) rfl (J_done ?_))
                    refine S_nil (E_again (k + 1) (by omega) ⟨rfl, rfl, rfl, rfl, trivial⟩ ⟨E, (by omega), h1, (by omega), all_step hI (by assumption) (by simpa using (show (!(win x.outs[k] 0 7)) = false by assumption))⟩)
                · have hc24n : ¬ k < x.outs.length := by first | (have h := of_decide_eq_false hc24; omega) | (have h := hc24; simp at h; omega)
                  refine S_exit (E_lp_exit (E_inB_exit ?_))
                  refine S_seq ?_
                  refine S_reg [true] rfl rfl ?_
                  refine J_st (R_assign rfl) rfl (J_done ?_)
                  refine S_ret (E_done1 rfl rfl E ?_)
                  exact node_y (by rw [node_0 (by assumption) (by assumption) (by assumption)]; exact ky0 (by assumption) (win_kind (by simp at *; omega))) (by assumption) hI (by omega)
          · refine S_seq ?_
            refine S_reg [true, true] rfl rfl ?_
            refine J_st (R_eql rfl rfl) rfl (J_st (R_assign rfl) rfl (J_done ?_))
            refine S_cond rfl (fun hc26 => ?_) (fun hc26 => ?_)
            · refine S_skip ?_
              refine S_condTe rfl hc26 ?_
              refine S_seq ?_
              refine S_reg [true, true, true, true, true, true, true, true] rfl rfl ?_
              refine J_st (R_fieldAddr0 fl70_1 rfl) rfl (J_st (R_load sc3 rfl (h1.one 1 rfl)) rfl (J_st (R_neq rfl rfl) rfl (J_st (R_move rfl) rfl ?_)))
              refine J_cut 4 [(0, .agg [.int .i64 x.kind, .int .i64 x.a, .int .i64 x.b, o1].toArray), (1, .pointer (some ⟨b1, 0, none⟩)), (2, .bool false), (5, .pointer (some ⟨b1, 0, none⟩)), (6, .int .i64 x.kind), (7, .bool (x.kind == 2)), (8, .bool (x.kind == 2)), (18, .bool (x.kind == 3)), (19, .bool (x.kind == 3)), (33, .bool (x.kind == 4)), (34, .bool (x.kind == 4)), (44, .bool (x.kind == 6)), (45, .bool (x.kind == 1)), (46, .bool (x.kind == 5)), (47, .bool (x.kind == 6)), (57, .bool ((x.a != 0) || (x.b != 0)))] (fun w' => w1 = w') ?_ ?_
              · refine J_if (gd := 53) rfl rfl (fun hg31 => ?_) (fun hg31 => ?_)
                · refine J_gdno rfl rfl rfl rfl (J_gdno rfl rfl rfl rfl (J_gdno rfl rfl rfl rfl (J_st (R_pickT rfl rfl) rfl (J_cutEnd ⟨rfl, rfl, rfl, rfl, rfl, rfl, rfl, rfl, rfl, rfl, rfl, rfl, rfl, rfl, rfl, congrArg (fun b => some (Value.bool b)) (show true = ((x.a != 0) || (x.b != 0)) by first | (rw [hg31] <;> rfl) | (simp [hg31]; done) | (simp only [nat_nlt] <;> simp)), trivial⟩ rfl))))
                · refine J_gd rfl rfl (R_fieldAddr0 fl70_2 rfl) rfl (J_gd rfl rfl (R_load sc3 rfl (h1.one 2 rfl)) rfl (J_gd rfl rfl (R_neq rfl rfl) rfl (J_st (R_pickF rfl rfl) rfl (J_cutEnd ⟨rfl, rfl, rfl, rfl, rfl, rfl, rfl, rfl, rfl, rfl, rfl, rfl, rfl, rfl, rfl, congrArg (fun b => some (Value.bool b)) (show (x.b != 0) = ((x.a != 0) || (x.b != 0)) by first | (rw [hg31] <;> rfl) | (simp [hg31]; done) | (simp only [nat_nlt] <;> simp)), trivial⟩ rfl))))
              rintro _ rfl
              refine J_done ?_
              refine S_cond rfl (fun hc27 => ?_) (fun hc27 => ?_)
              · refine S_seq ?_
                refine S_reg [true] rfl rfl ?_
                refine J_st (R_assign rfl) rfl (J_done ?_)
                refine S_ret (E_inB_ret (E_done1 rfl rfl E ?_))
                exact node_k (by rw [node_0 (by assumption) (by assumption) (by assumption)]; exact kx0 (by assumption))
              · refine S_skip ?_
                refine S_nil (E_inB ?_)
                refine S_seq ?_
                refine S_seq ?_
                refine S_regD mixed [(0, true), (1, true), (2, true), (3, true), (4, true), (5, true), (6, true), (7, true), (8, true), (9, true), (10, true), (11, true), (12, true), (13, true), (14, true), (15, true), (16, true), (17, true), (18, true), (19, true), (20, true), (21, true), (22, true), (23, true), (24, true), (25, true), (26, true), (27, true), (28, true), (29, true), (30, true), (31, true)] (by decide +kernel) rfl (fun w32 e16 => ?_)
                replace E := E.trans e16; replace h1 := h1.ext e16
                have z22 := e16.size
                refine J_st (R_fieldAddr0 fl70_3 rfl) rfl (J_st (R_load sc65 rfl (h1.one 3 rfl)) rfl (J_st (R_len Try.underlying65 rfl (hd1.ext E).len) rfl (J_st (R_gtr rfl rfl) rfl (J_st (R_move rfl) rfl ?_))))
                refine J_cut 27 [(0, .agg [.int .i64 x.kind, .int .i64 x.a, .int .i64 x.b, o1].toArray), (1, .pointer (some ⟨b1, 0, none⟩)), (2, .bool false), (5, .pointer (some ⟨b1, 0, none⟩)), (6, .int .i64 x.kind), (7, .bool (x.kind == 2)), (8, .bool (x.kind == 2)), (18, .bool (x.kind == 3)), (19, .bool (x.kind == 3)), (33, .bool (x.kind == 4)), (34, .bool (x.kind == 4)), (44, .bool (x.kind == 6)), (45, .bool (x.kind == 1)), (46, .bool (x.kind == 5)), (47, .bool (x.kind == 6)), (57, .bool ((x.a != 0) || (x.b != 0))), (89, .bool (((decide (2 < ((x.outs.length : Nat) : Int))) || ((x.kind == 8) && (decide (0 < ((x.outs.length : Nat) : Int))))) || ((((x.outs.length : Nat) : Int) == 2) && ((List.getD x.outs 0 default) == (List.getD x.outs 1 default)))))] (fun w' => w32 = w') ?_ ?_
                · refine J_if (gd := 62) rfl rfl (fun hg32 => ?_) (fun hg32 => ?_)
                  · have hg32n : x.outs.length > 2 := by first | (have h := of_decide_eq_true hg32; omega) | (have h := hg32; simp at h; omega)
                    refine J_gdno rfl rfl rfl rfl (J_gdno rfl rfl rfl rfl (J_gdno rfl rfl rfl rfl (J_gdno rfl rfl rfl rfl (J_gdx rfl rfl rfl (J_gdx rfl rfl rfl (J_gdx rfl rfl rfl (J_gdx rfl rfl rfl (J_gdno rfl rfl rfl rfl (J_st (R_pickT rfl rfl) rfl (J_st (R_move rfl) rfl (J_gdno rfl rfl rfl rfl (J_gdno rfl rfl rfl rfl (J_gdno rfl rfl rfl rfl (J_gdno rfl rfl rfl rfl (J_gdno rfl rfl rfl rfl (J_gdx rfl rfl rfl (J_gdx rfl rfl rfl (J_gdx rfl rfl rfl (J_gdx rfl rfl rfl (J_gdx rfl rfl rfl (J_gdx rfl rfl rfl (J_gdx rfl rfl rfl (J_gdx rfl rfl rfl (J_gdx rfl rfl rfl (J_gdno rfl rfl rfl rfl (J_st (R_pickT rfl rfl) rfl (J_cutEnd ⟨rfl, rfl, rfl, rfl, rfl, rfl, rfl, rfl, rfl, rfl, rfl, rfl, rfl, rfl, rfl, rfl, congrArg (fun b => some (Value.bool b)) (show true = (((decide (2 < ((x.outs.length : Nat) : Int))) || ((x.kind == 8) && (decide (0 < ((x.outs.length : Nat) : Int))))) || ((((x.outs.length : Nat) : Int) == 2) && ((List.getD x.outs 0 default) == (List.getD x.outs 1 default)))) by first | (rw [hg32] <;> rfl) | (simp [hg32]; done) | (simp only [nat_nlt] <;> simp)), trivial⟩ rfl)))))))))))))))))))))))))))
                  · have hg32n : ¬ x.outs.length > 2 := by first | (have h := of_decide_eq_false hg32; omega) | (have h := hg32; simp at h; omega)
                    refine J_gd rfl rfl (R_fieldAddr0 fl70_0 rfl) rfl (J_gd rfl rfl (R_load sc3 rfl (h1.one 0 rfl)) rfl (J_gd rfl rfl (R_eql rfl rfl) rfl (J_gd rfl rfl (R_move rfl) rfl ?_)))
                    refine J_if (gd := 66) rfl rfl (fun hg33 => ?_) (fun hg33 => ?_)
                    · refine J_gd rfl rfl (R_fieldAddr0 fl70_3 rfl) rfl (J_gd rfl rfl (R_load sc65 rfl (h1.one 3 rfl)) rfl (J_gd rfl rfl (R_len Try.underlying65 rfl (hd1.ext E).len) rfl (J_gd rfl rfl (R_gtr rfl rfl) rfl (J_gd rfl rfl (R_pickT rfl rfl) rfl (J_st (R_pickF rfl rfl) rfl (J_st (R_move rfl) rfl ?_))))))
                      refine J_if (gd := 73) rfl rfl (fun hg34 => ?_) (fun hg34 => ?_)
                      · have hg34n : x.outs.length > 0 := by first | (have h := of_decide_eq_true hg34; omega) | (have h := hg34; simp at h; omega)
                        refine J_gdno rfl rfl rfl rfl (J_gdno rfl rfl rfl rfl (J_gdno rfl rfl rfl rfl (J_gdno rfl rfl rfl rfl (J_gdno rfl rfl rfl rfl (J_gdx rfl rfl rfl (J_gdx rfl rfl rfl (J_gdx rfl rfl rfl (J_gdx rfl rfl rfl (J_gdx rfl rfl rfl (J_gdx rfl rfl rfl (J_gdx rfl rfl rfl (J_gdx rfl rfl rfl (J_gdx rfl rfl rfl (J_gdno rfl rfl rfl rfl (J_st (R_pickT rfl rfl) rfl (J_cutEnd ⟨rfl, rfl, rfl, rfl, rfl, rfl, rfl, rfl, rfl, rfl, rfl, rfl, rfl, rfl, rfl, rfl, congrArg (fun b => some (Value.bool b)) (show true = (((decide (2 < ((x.outs.length : Nat) : Int))) || ((x.kind == 8) && (decide (0 < ((x.outs.length : Nat) : Int))))) || ((((x.outs.length : Nat) : Int) == 2) && ((List.getD x.outs 0 default) == (List.getD x.outs 1 default)))) by first | (rw [hg32, hg33, hg34] <;> rfl) | (simp [hg32, hg33, hg34]; done) | (simp only [nat_nlt] <;> simp)), trivial⟩ rfl))))))))))))))))
                      · have hg34n : ¬ x.outs.length > 0 := by first | (have h := of_decide_eq_false hg34; omega) | (have h := hg34; simp at h; omega)
                        refine J_gd rfl rfl (R_fieldAddr0 fl70_3 rfl) rfl (J_gd rfl rfl (R_load sc65 rfl (h1.one 3 rfl)) rfl (J_gd rfl rfl (R_len Try.underlying65 rfl (hd1.ext E).len) rfl (J_gd rfl rfl (R_eql rfl rfl) rfl (J_gd rfl rfl (R_move rfl) rfl ?_))))
                        refine J_if (gd := 78) rfl rfl (fun hg35 => ?_) (fun hg35 => ?_)
                        · have hg35n : x.outs.length = 2 := by first | (have h := of_decide_eq_true hg35; omega) | (have h := hg35; simp at h; omega)
                          refine J_gd rfl rfl (R_fieldAddr0 fl70_3 rfl) rfl (J_gd rfl rfl (R_load sc65 rfl (h1.one 3 rfl)) rfl (J_gd rfl rfl (R_index (i := 0) sl65 rfl rfl (hd1.rd.ext E) (by first | assumption | omega)) rfl (J_gd rfl rfl (R_load sc3 rfl ((RdS.getD (hd1.rd.ext E) (i := 0) (by first | assumption | omega)).one 0 rfl)) rfl (J_gd rfl rfl (R_fieldAddr0 fl70_3 rfl) rfl (J_gd rfl rfl (R_load sc65 rfl (h1.one 3 rfl)) rfl (J_gd rfl rfl (R_index (i := 1) sl65 rfl rfl (hd1.rd.ext E) (by first | assumption | omega)) rfl (J_gd rfl rfl (R_load sc3 rfl ((RdS.getD (hd1.rd.ext E) (i := 1) (by first | assumption | omega)).one 0 rfl)) rfl (J_gd rfl rfl (R_eql rfl rfl) rfl (J_gd rfl rfl (R_pickT rfl rfl) rfl (J_st (R_pickF rfl rfl) rfl (J_cutEnd ⟨rfl, rfl, rfl, rfl, rfl, rfl, rfl, rfl, rfl, rfl, rfl, rfl, rfl, rfl, rfl, rfl, congrArg (fun b => some (Value.bool b)) (show ((List.getD x.outs 0 default) == (List.getD x.outs 1 default)) = (((decide (2 < ((x.outs.length : Nat) : Int))) || ((x.kind == 8) && (decide (0 < ((x.outs.length : Nat) : Int))))) || ((((x.outs.length : Nat) : Int) == 2) && ((List.getD x.outs 0 default) == (List.getD x.outs 1 default)))) by first | (rw [hg32, hg33, hg34, hg35] <;> rfl) | (simp [hg32, hg33, hg34, hg35]; done) | (simp only [nat_nlt] <;> simp)), trivial⟩ rfl)))))))))))
                        · have hg35n : ¬ x.outs.length = 2 := by first | (have h := of_decide_eq_false hg35; omega) | (have h := hg35; simp at h; omega)
                          refine J_gdno rfl rfl rfl rfl (J_gdno rfl rfl rfl rfl (J_gdno rfl rfl rfl rfl (J_gdno rfl rfl rfl rfl (J_gdno rfl rfl rfl rfl (J_gdno rfl rfl rfl rfl (J_gdno rfl rfl rfl rfl (J_gdno rfl rfl rfl rfl (J_gdno rfl rfl rfl rfl (J_gd rfl rfl (R_pickF rfl rfl) rfl (J_st (R_pickF rfl rfl) rfl (J_cutEnd ⟨rfl, rfl, rfl, rfl, rfl, rfl, rfl, rfl, rfl, rfl, rfl, rfl, rfl, rfl, rfl, rfl, congrArg (fun b => some (Value.bool b)) (show false = (((decide (2 < ((x.outs.length : Nat) : Int))) || ((x.kind == 8) && (decide (0 < ((x.outs.length : Nat) : Int))))) || ((((x.outs.length : Nat) : Int) == 2) && ((List.getD x.outs 0 default) == (List.getD x.outs 1 default)))) by first | (rw [hg32, hg33, hg34, hg35] <;> rfl) | (simp [hg32, hg33, hg34, hg35]; done) | (simp only [nat_nlt] <;> simp)), trivial⟩ rfl)))))))))))
                    · refine J_gdno rfl rfl rfl rfl (J_gdno rfl rfl rfl rfl (J_gdno rfl rfl rfl rfl (J_gdno rfl rfl rfl rfl (J_gd rfl rfl (R_pickF rfl rfl) rfl (J_st (R_pickF rfl rfl) rfl (J_st (R_move rfl) rfl (J_gd rfl rfl (R_fieldAddr0 fl70_3 rfl) rfl (J_gd rfl rfl (R_load sc65 rfl (h1.one 3 rfl)) rfl (J_gd rfl rfl (R_len Try.underlying65 rfl (hd1.ext E).len) rfl (J_gd rfl rfl (R_eql rfl rfl) rfl (J_gd rfl rfl (R_move rfl) rfl ?_)))))))))))
                      refine J_if (gd := 78) rfl rfl (fun hg36 => ?_) (fun hg36 => ?_)
                      · have hg36n : x.outs.length = 2 := by first | (have h := of_decide_eq_true hg36; omega) | (have h := hg36; simp at h; omega)
                        refine J_gd rfl rfl (R_fieldAddr0 fl70_3 rfl) rfl (J_gd rfl rfl (R_load sc65 rfl (h1.one 3 rfl)) rfl (J_gd rfl rfl (R_index (i := 0) sl65 rfl rfl (hd1.rd.ext E) (by first | assumption | omega)) rfl (J_gd rfl rfl (R_load sc3 rfl ((RdS.getD (hd1.rd.ext E) (i := 0) (by first | assumption | omega)).one 0 rfl)) rfl (J_gd rfl rfl (R_fieldAddr0 fl70_3 rfl) rfl (J_gd rfl rfl (R_load sc65 rfl (h1.one 3 rfl)) rfl (J_gd rfl rfl (R_index (i := 1) sl65 rfl rfl (hd1.rd.ext E) (by first | assumption | omega)) rfl (J_gd rfl rfl (R_load sc3 rfl ((RdS.getD (hd1.rd.ext E) (i := 1) (by first | assumption | omega)).one 0 rfl)) rfl (J_gd rfl rfl (R_eql rfl rfl) rfl (J_gd rfl rfl (R_pickT rfl rfl) rfl (J_st (R_pickF rfl rfl) rfl (J_cutEnd ⟨rfl, rfl, rfl, rfl, rfl, rfl, rfl, rfl, rfl, rfl, rfl, rfl, rfl, rfl, rfl, rfl, congrArg (fun b => some (Value.bool b)) (show ((List.getD x.outs 0 default) == (List.getD x.outs 1 default)) = (((decide (2 < ((x.outs.length : Nat) : Int))) || ((x.kind == 8) && (decide (0 < ((x.outs.length : Nat) : Int))))) || ((((x.outs.length : Nat) : Int) == 2) && ((List.getD x.outs 0 default) == (List.getD x.outs 1 default)))) by first | (rw [hg32, hg33, hg36] <;> rfl) | (simp [hg32, hg33, hg36]; done) | (simp only [nat_nlt] <;> simp)), trivial⟩ rfl)))))))))))
                      · have hg36n : ¬ x.outs.length = 2 := by first | (have h := of_decide_eq_false hg36; omega) | (have h := hg36; simp at h; omega)
                        refine J_gdno rfl rfl rfl rfl (J_gdno rfl rfl rfl rfl (J_gdno rfl rfl rfl rfl (J_gdno rfl rfl rfl rfl (J_gdno rfl rfl rfl rfl (J_gdno rfl rfl rfl rfl (J_gdno rfl rfl rfl rfl (J_gdno rfl rfl rfl rfl (J_gdno rfl rfl rfl rfl (J_gd rfl rfl (R_pickF rfl rfl) rfl (J_st (R_pickF rfl rfl) rfl (J_cutEnd ⟨rfl, rfl, rfl, rfl, rfl, rfl, rfl, rfl, rfl, rfl, rfl, rfl, rfl, rfl, rfl, rfl, congrArg (fun b => some (Value.bool b)) (show false = (((decide (2 < ((x.outs.length : Nat) : Int))) || ((x.kind == 8) && (decide (0 < ((x.outs.length : Nat) : Int))))) || ((((x.outs.length : Nat) : Int) == 2) && ((List.getD x.outs 0 default) == (List.getD x.outs 1 default)))) by first | (rw [hg32, hg33, hg36] <;> rfl) | (simp [hg32, hg33, hg36]; done) | (simp only [nat_nlt] <;> simp)), trivial⟩ rfl)))))))))))
                rintro _ rfl
                refine J_done ?_
                refine S_cond rfl (fun hc28 => ?_) (fun hc28 => ?_)
                · refine S_seq ?_
                  refine S_reg [true] rfl rfl ?_
                  refine J_st (R_assign rfl) rfl (J_done ?_)
                  refine S_ret (E_done1 rfl rfl E ?_)
                  exact node_t (by assumption)
                · refine S_skip ?_
                  refine S_seq ?_
                  refine S_seq ?_
                  refine S_reg [true, true, true, true] rfl rfl ?_
                  refine J_st (R_fieldAddr0 fl70_3 rfl) rfl (J_st (R_load sc65 rfl (h1.one 3 rfl)) rfl (J_st (R_len Try.underlying65 rfl (hd1.ext E).len) rfl (J_st (R_move rfl) rfl (J_done ?_))))
                  refine S_block ?_
                  refine S_loop (fun (k : Nat) => [(2, .bool false), (91, o1), (92, .int .i64 ((x.outs.length : Nat) : Int)), (93, .int .i64 ((k : Nat) : Int))]) (fun (k : Nat) w' => Ext w w' ∧ w32.heap.size ≤ w'.heap.size ∧ Blk w' b1 ([.int .i64 x.kind, .int .i64 x.a, .int .i64 x.b, o1]) ∧ k ≤ x.outs.length ∧ (x.outs.take k).all (win · 0 7) = true) (fun (k : Nat) => x.outs.length - k) 0 ⟨rfl, rfl, rfl, rfl, trivial⟩ ⟨E, Nat.le_refl _, h1, Nat.zero_le _, rfl⟩ ?_
                  clear E h1
                  rintro k w34 ⟨E, z23, h1, hk, hI⟩
                  refine S_seq ?_
                  refine S_reg [true] rfl rfl ?_
                  refine J_st (R_lss rfl rfl) rfl (J_done ?_)
                  refine S_seq ?_
                  refine S_cond rfl (fun hc29 => ?_) (fun hc29 => ?_)
                  · have hc29n : k < x.outs.length := by first | (have h := of_decide_eq_true hc29; omega) | (have h := hc29; simp at h; omega)
                    refine S_skip ?_
                    refine S_seq ?_
                    refine S_block ?_
                    refine S_seq ?_
                    refine S_reg [true, true, true] rfl rfl ?_
                    have hi6 : k < x.outs.length := (by first | assumption | omega)
                    refine J_st (R_index (i := k) sl65 rfl rfl (hd1.rd.ext E) hi6) rfl (J_st (R_load sc3 rfl (((hd1.rd.ext E).get hi6).one 0 rfl)) rfl (J_st (R_assign rfl) rfl (J_done ?_)))
                    refine S_seq ?_
                    refine S_reg [true, false, true] rfl rfl ?_
                    refine J_st (R_move rfl) rfl ?_
                    refine J_call Try.call43 rfl (c_within (x.outs[k]'hi6) 0 7 _ ) rfl (fun _ w35 e17 hv => ?_)
                    subst hv
                    replace E := E.trans e17; replace h1 := h1.ext e17
                    have z24 := e17.size
                    refine J_st (R_not rfl) rfl (J_done ?_)
                    refine S_cond rfl (fun hc30 => ?_) (fun hc30 => ?_)
                    · refine S_seq ?_
                      refine S_reg [true] rfl rfl ?_
                      refine J_st (R_assign rfl) rfl (J_done ?_)
                      refine S_ret (E_inB_ret (E_lp_ret (E_inB_ret (E_done1 rfl rfl E ?_))))
                      exact node_l (by assumption)
                    · refine S_skip ?_
                      refine S_nil (E_inB ?_)
                      refine S_reg [true, true] rfl rfl ?_
                      refine J_st (R_add rfl rfl (add_one hc29n (hd1.ext E).1.1)) rfl (J_st (R_move rfl) rfl (J_done ?_))
                      refine S_nil (E_again (k + 1) (by omega) ⟨rfl, rfl, rfl, rfl, trivial⟩ ⟨E, (by omega), h1, (by omega), all_step hI (by assumption) (by simpa using (show (!(win x.outs[k] 0 7)) = false by assumption))⟩)
                  · have hc29n : ¬ k < x.outs.length := by first | (have h := of_decide_eq_false hc29; omega) | (have h := hc29; simp at h; omega)
                    refine S_exit (E_lp_exit (E_inB_exit ?_))
                    refine S_seq ?_
                    refine S_reg [true] rfl rfl ?_
                    refine J_st (R_assign rfl) rfl (J_done ?_)
                    refine S_ret (E_done1 rfl rfl E ?_)
                    exact node_y (by rw [node_0 (by assumption) (by assumption) (by assumption)]; exact ky0 (by assumption) (win_kind (by simp at *; omega))) (by assumption) hI (by omega)
            · refine S_seq ?_
              refine S_reg [true, true] rfl rfl ?_
              refine J_st (R_eql rfl rfl) rfl (J_st (R_assign rfl) rfl (J_done ?_))
              refine S_cond rfl (fun hc31 => ?_) (fun hc31 => ?_)
              · refine S_skip ?_
                refine S_condTe rfl hc31 ?_
                refine S_seq ?_
                refine S_reg [true, true, true, true, true, true, true, true] rfl rfl ?_
                refine J_st (R_fieldAddr0 fl70_1 rfl) rfl (J_st (R_load sc3 rfl (h1.one 1 rfl)) rfl (J_st (R_neq rfl rfl) rfl (J_st (R_move rfl) rfl ?_)))
                refine J_cut 4 [(0, .agg [.int .i64 x.kind, .int .i64 x.a, .int .i64 x.b, o1].toArray), (1, .pointer (some ⟨b1, 0, none⟩)), (2, .bool false), (5, .pointer (some ⟨b1, 0, none⟩)), (6, .int .i64 x.kind), (7, .bool (x.kind == 2)), (8, .bool (x.kind == 2)), (18, .bool (x.kind == 3)), (19, .bool (x.kind == 3)), (33, .bool (x.kind == 4)), (34, .bool (x.kind == 4)), (44, .bool (x.kind == 7)), (45, .bool (x.kind == 1)), (46, .bool (x.kind == 5)), (47, .bool (x.kind == 6)), (48, .bool (x.kind == 7)), (57, .bool ((x.a != 0) || (x.b != 0)))] (fun w' => w1 = w') ?_ ?_
                · refine J_if (gd := 53) rfl rfl (fun hg37 => ?_) (fun hg37 => ?_)
                  · refine J_gdno rfl rfl rfl rfl (J_gdno rfl rfl rfl rfl (J_gdno rfl rfl rfl rfl (J_st (R_pickT rfl rfl) rfl (J_cutEnd ⟨rfl, rfl, rfl, rfl, rfl, rfl, rfl, rfl, rfl, rfl, rfl, rfl, rfl, rfl, rfl, rfl, congrArg (fun b => some (Value.bool b)) (show true = ((x.a != 0) || (x.b != 0)) by first | (rw [hg37] <;> rfl) | (simp [hg37]; done) | (simp only [nat_nlt] <;> simp)), trivial⟩ rfl))))
                  · refine J_gd rfl rfl (R_fieldAddr0 fl70_2 rfl) rfl (J_gd rfl rfl (R_load sc3 rfl (h1.one 2 rfl)) rfl (J_gd rfl rfl (R_neq rfl rfl) rfl (J_st (R_pickF rfl rfl) rfl (J_cutEnd ⟨rfl, rfl, rfl, rfl, rfl, rfl, rfl, rfl, rfl, rfl, rfl, rfl, rfl, rfl, rfl, rfl, congrArg (fun b => some (Value.bool b)) (show (x.b != 0) = ((x.a != 0) || (x.b != 0)) by first | (rw [hg37] <;> rfl) | (simp [hg37]; done) | (simp only [nat_nlt] <;> simp)), trivial⟩ rfl))))
                rintro _ rfl
                refine J_done ?_
                refine S_cond rfl (fun hc32 => ?_) (fun hc32 => ?_)
                · refine S_seq ?_
                  refine S_reg [true] rfl rfl ?_
                  refine J_st (R_assign rfl) rfl (J_done ?_)
                  refine S_ret (E_inB_ret (E_done1 rfl rfl E ?_))
                  exact node_k (by rw [node_0 (by assumption) (by assumption) (by assumption)]; exact kx0 (by assumption))
                · refine S_skip ?_
                  refine S_nil (E_inB ?_)
                  refine S_seq ?_
                  refine S_seq ?_
                  refine S_regD mixed [(0, true), (1, true), (2, true), (3, true), (4, true), (5, true), (6, true), (7, true), (8, true), (9, true), (10, true), (11, true), (12, true), (13, true), (14, true), (15, true), (16, true), (17, true), (18, true), (19, true), (20, true), (21, true), (22, true), (23, true), (24, true), (25, true), (26, true), (27, true), (28, true), (29, true), (30, true), (31, true)] (by decide +kernel) rfl (fun w37 e18 => ?_)
                  replace E := E.trans e18; replace h1 := h1.ext e18
                  have z25 := e18.size
                  refine J_st (R_fieldAddr0 fl70_3 rfl) rfl (J_st (R_load sc65 rfl (h1.one 3 rfl)) rfl (J_st (R_len Try.underlying65 rfl (hd1.ext E).len) rfl (J_st (R_gtr rfl rfl) rfl (J_st (R_move rfl) rfl ?_))))
                  refine J_cut 27 [(0, .agg [.int .i64 x.kind, .int .i64 x.a, .int .i64 x.b, o1].toArray), (1, .pointer (some ⟨b1, 0, none⟩)), (2, .bool false), (5, .pointer (some ⟨b1, 0, none⟩)), (6, .int .i64 x.kind), (7, .bool (x.kind == 2)), (8, .bool (x.kind == 2)), (18, .bool (x.kind == 3)), (19, .bool (x.kind == 3)), (33, .bool (x.kind == 4)), (34, .bool (x.kind == 4)), (44, .bool (x.kind == 7)), (45, .bool (x.kind == 1)), (46, .bool (x.kind == 5)), (47, .bool (x.kind == 6)), (48, .bool (x.kind == 7)), (57, .bool ((x.a != 0) || (x.b != 0))), (89, .bool (((decide (2 < ((x.outs.length : Nat) : Int))) || ((x.kind == 8) && (decide (0 < ((x.outs.length : Nat) : Int))))) || ((((x.outs.length : Nat) : Int) == 2) && ((List.getD x.outs 0 default) == (List.getD x.outs 1 default)))))] (fun w' => w37 = w') ?_ ?_
                  · refine J_if (gd := 62) rfl rfl (fun hg38 => ?_) (fun hg38 => ?_)
                    · have hg38n : x.outs.length > 2 := by first | (have h := of_decide_eq_true hg38; omega) | (have h := hg38; simp at h; omega)
                      refine J_gdno rfl rfl rfl rfl (J_gdno rfl rfl rfl rfl (J_gdno rfl rfl rfl rfl (J_gdno rfl rfl rfl rfl (J_gdx rfl rfl rfl (J_gdx rfl rfl rfl (J_gdx rfl rfl rfl (J_gdx rfl rfl rfl (J_gdno rfl rfl rfl rfl (J_st (R_pickT rfl rfl) rfl (J_st (R_move rfl) rfl (J_gdno rfl rfl rfl rfl (J_gdno rfl rfl rfl rfl (J_gdno rfl rfl rfl rfl (J_gdno rfl rfl rfl rfl (J_gdno rfl rfl rfl rfl (J_gdx rfl rfl rfl (J_gdx rfl rfl rfl (J_gdx rfl rfl rfl (J_gdx rfl rfl rfl (J_gdx rfl rfl rfl (J_gdx rfl rfl rfl (J_gdx rfl rfl rfl (J_gdx rfl rfl rfl (J_gdx rfl rfl rfl (J_gdno rfl rfl rfl rfl (J_st (R_pickT rfl rfl) rfl (J_cutEnd ⟨rfl, rfl, rfl, rfl, rfl, rfl, rfl, rfl, rfl, rfl, rfl, rfl, rfl, rfl, rfl, rfl, rfl, congrArg (fun b => some (Value.bool b)) (show true = (((decide (2 < ((x.outs.length : Nat) : Int))) || ((x.kind == 8) && (decide (0 < ((x.outs.length : Nat) : Int))))) || ((((x.outs.length : Nat) : Int) == 2) && ((List.getD x.outs 0 default) == (List.getD x.outs 1 default)))) by first | (rw [hg38] <;> rfl) | (simp [hg38]; done) | (simp only [nat_nlt] <;> simp)), trivial⟩ rfl)))))))))))))))))))))))))))
                    · have hg38n : ¬ x.outs.length > 2 := by first | (have h := of_decide_eq_false hg38; omega) | (have h := hg38; simp at h; omega)
                      refine J_gd rfl rfl (R_fieldAddr0 fl70_0 rfl) rfl (J_gd rfl rfl (R_load sc3 rfl (h1.one 0 rfl)) rfl (J_gd rfl rfl (R_eql rfl rfl) rfl (J_gd rfl rfl (R_move rfl) rfl ?_)))
                      refine J_if (gd := 66) rfl rfl (fun hg39 => ?_) (fun hg39 => ?_)
                      · refine J_gd rfl rfl (R_fieldAddr0 fl70_3 rfl) rfl (J_gd rfl rfl (R_load sc65 rfl (h1.one 3 rfl)) rfl (J_gd rfl rfl (R_len Try.underlying65 rfl (hd1.ext E).len) rfl (J_gd rfl rfl (R_gtr rfl rfl) rfl (J_gd rfl rfl (R_pickT rfl rfl) rfl (J_st (R_pickF rfl rfl) rfl (J_st (R_move rfl) rfl ?_))))))
                        refine J_if (gd := 73) rfl rfl (fun hg40 => ?_) (fun hg40 => ?_)
                        · have hg40n : x.outs.length > 0 := by first | (have h := of_decide_eq_true hg40; omega) | (have h := hg40; simp at h; omega)
                          refine J_gdno rfl rfl rfl rfl (J_gdno rfl rfl rfl rfl (J_gdno rfl rfl rfl rfl (J_gdno rfl rfl rfl rfl (J_gdno rfl rfl rfl rfl (J_gdx rfl rfl rfl (J_gdx rfl rfl rfl (J_gdx rfl rfl rfl (J_gdx rfl rfl rfl (J_gdx rfl rfl rfl (J_gdx rfl rfl rfl (J_gdx rfl rfl rfl (J_gdx rfl rfl rfl (J_gdx rfl rfl rfl (J_gdno rfl rfl rfl rfl (J_st (R_pickT rfl rfl) rfl (J_cutEnd ⟨rfl, rfl, rfl, rfl, rfl, rfl, rfl, rfl, rfl, rfl, rfl, rfl, rfl, rfl, rfl, rfl, rfl, congrArg (fun b => some (Value.bool b)) (show true = (((decide (2 < ((x.outs.length : Nat) : Int))) || ((x.kind == 8) && (decide (0 < ((x.outs.length : Nat) : Int))))) || ((((x.outs.length : Nat) : Int) == 2) && ((List.getD x.outs 0 default) == (List.getD x.outs 1 default)))) by first | (rw [hg38, hg39, hg40] <;> rfl) | (simp [hg38, hg39, hg40]; done) | (simp only [nat_nlt] <;> simp)), trivial⟩ rfl))))))))))))))))
                        · have hg40n : ¬ x.outs.length > 0 := by first | (have h := of_decide_eq_false hg40; omega) | (have h := hg40; simp at h; omega)
                          refine J_gd rfl rfl (R_fieldAddr0 fl70_3 rfl) rfl (J_gd rfl rfl (R_load sc65 rfl (h1.one 3 rfl)) rfl (J_gd rfl rfl (R_len Try.underlying65 rfl (hd1.ext E).len) rfl (J_gd rfl rfl (R_eql rfl rfl) rfl (J_gd rfl rfl (R_move rfl) rfl ?_))))
                          refine J_if (gd := 78) rfl rfl (fun hg41 => ?_) (fun hg41 => ?_)
                          · have hg41n : x.outs.length = 2 := by first | (have h := of_decide_eq_true hg41; omega) | (have h := hg41; simp at h; omega)
                            refine J_gd rfl rfl (R_fieldAddr0 fl70_3 rfl) rfl (J_gd rfl rfl (R_load sc65 rfl (h1.one 3 rfl)) rfl (J_gd rfl rfl (R_index (i := 0) sl65 rfl rfl (hd1.rd.ext E) (by first | assumption | omega)) rfl (J_gd rfl rfl (R_load sc3 rfl ((RdS.getD (hd1.rd.ext E) (i := 0) (by first | assumption | omega)).one 0 rfl)) rfl (J_gd rfl rfl (R_fieldAddr0 fl70_3 rfl) rfl (J_gd rfl rfl (R_load sc65 rfl (h1.one 3 rfl)) rfl (J_gd rfl rfl (R_index (i := 1) sl65 rfl rfl (hd1.rd.ext E) (by first | assumption | omega)) rfl (J_gd rfl rfl (R_load sc3 rfl ((RdS.getD (hd1.rd.ext E) (i := 1) (by first | assumption | omega)).one 0 rfl)) rfl (J_gd rfl rfl (R_eql rfl rfl) rfl (J_gd rfl rfl (R_pickT rfl rfl) rfl (J_st (R_pickF rfl rfl) rfl (J_cutEnd ⟨rfl, rfl, rfl, rfl, rfl, rfl, rfl, rfl, rfl, rfl, rfl, rfl, rfl, rfl, rfl, rfl, rfl, congrArg (fun b => some (Value.bool b)) (show ((List.getD x.outs 0 default) == (List.getD x.outs 1 default)) = (((decide (2 < ((x.outs.length : Nat) : Int))) || ((x.kind == 8) && (decide (0 < ((x.outs.length : Nat) : Int))))) || ((((x.outs.length : Nat) : Int) == 2) && ((List.getD x.outs 0 default) == (List.getD x.outs 1 default)))) by first | (rw [hg38, hg39, hg40, hg41] <;> rfl) | (simp [hg38, hg39, hg40, hg41]; done) | (simp only [nat_nlt] <;> simp)), trivial⟩ rfl)))))))))))
                          · have hg41n : ¬ x.outs.length = 2 := by first | (have h := of_decide_eq_false hg41; omega) | (have h := hg41; simp at h; omega)
                            refine J_gdno rfl rfl rfl rfl (J_gdno rfl rfl rfl rfl (J_gdno rfl rfl rfl rfl (J_gdno rfl rfl rfl rfl (J_gdno rfl rfl rfl rfl (J_gdno rfl rfl rfl rfl (J_gdno rfl rfl rfl rfl (J_gdno rfl rfl rfl rfl (J_gdno rfl rfl rfl rfl (J_gd rfl rfl (R_pickF rfl rfl) rfl (J_st (R_pickF rfl rfl) rfl (J_cutEnd ⟨rfl, rfl, rfl, rfl, rfl, rfl, rfl, rfl, rfl, rfl, rfl, rfl, rfl, rfl, rfl, rfl, rfl, congrArg (fun b => some (Value.bool b)) (show false = (((decide (2 < ((x.outs.length : Nat) : Int))) || ((x.kind == 8) && (decide (0 < ((x.outs.length : Nat) : Int))))) || ((((x.outs.length : Nat) : Int) == 2) && ((List.getD x.outs 0 default) == (List.getD x.outs 1 default)))) by first | (rw [hg38, hg39, hg40, hg41] <;> rfl) | (simp [hg38, hg39, hg40, hg41]; done) | (simp only [nat_nlt] <;> simp)), trivial⟩ rfl)))))))))))
                      · refine J_gdno rfl rfl rfl rfl (J_gdno rfl rfl rfl rfl (J_gdno rfl rfl rfl rfl (J_gdno rfl rfl rfl rfl (J_gd rfl rfl (R_pickF rfl rfl) rfl (J_st (R_pickF rfl rfl) rfl (J_st (R_move rfl) rfl (J_gd rfl rfl (R_fieldAddr0 fl70_3 rfl) rfl (J_gd rfl rfl (R_load sc65 rfl (h1.one 3 rfl)) rfl (J_gd rfl rfl (R_len Try.underlying65 rfl (hd1.ext E).len) rfl (J_gd rfl rfl (R_eql rfl rfl) rfl (J_gd rfl rfl (R_move rfl) rfl ?_)))))))))))
                        refine J_if (gd := 78) rfl rfl (fun hg42 => ?_) (fun hg42 => ?_)
                        · have hg42n : x.outs.length = 2 := by first | (have h := of_decide_eq_true hg42; omega) | (have h := hg42; simp at h; omega)
                          refine J_gd rfl rfl (R_fieldAddr0 fl70_3 rfl) rfl (J_gd rfl rfl (R_load sc65 rfl (h1.one 3 rfl)) rfl (J_gd rfl rfl (R_index (i := 0) sl65 rfl rfl (hd1.rd.ext E) (by first | assumption | omega)) rfl (J_gd rfl rfl (R_load sc3 rfl ((RdS.getD (hd1.rd.ext E) (i := 0) (by first | assumption | omega)).one 0 rfl)) rfl (J_gd rfl rfl (R_fieldAddr0 fl70_3 rfl) rfl (J_gd rfl rfl (R_load sc65 rfl (h1.one 3 rfl)) rfl (J_gd rfl rfl (R_index (i := 1) sl65 rfl rfl (hd1.rd.ext E) (by first | assumption | omega)) rfl (J_gd rfl rfl (R_load sc3 rfl ((RdS.getD (hd1.rd.ext E) (i := 1) (by first | assumption | omega)).one 0 rfl)) rfl (J_gd rfl rfl (R_eql rfl rfl) rfl (J_gd rfl rfl (R_pickT rfl rfl) rfl (J_st (R_pickF rfl rfl) rfl (J_cutEnd ⟨rfl, rfl, rfl, rfl, rfl, rfl, rfl, rfl, rfl, rfl, rfl, rfl, rfl, rfl, rfl, rfl, rfl, congrArg (fun b => some (Value.bool b)) (show ((List.getD x.outs 0 default) == (List.getD x.outs 1 default)) = (((decide (2 < ((x.outs.length : Nat) : Int))) || ((x.kind == 8) && (decide (0 < ((x.outs.length : Nat) : Int))))) || ((((x.outs.length : Nat) : Int) == 2) && ((List.getD x.outs 0 default) == (List.getD x.outs 1 default)))) by first | (rw [hg38, hg39, hg42] <;> rfl) | (simp [hg38, hg39, hg42]; done) | (simp only [nat_nlt] <;> simp)), trivial⟩ rfl)))))))))))
                        · have hg42n : ¬ x.outs.length = 2 := by first | (have h := of_decide_eq_false hg42; omega) | (have h := hg42; simp at h; omega)
                          refine J_gdno rfl rfl rfl rfl (J_gdno rfl rfl rfl rfl (J_gdno rfl rfl rfl rfl (J_gdno rfl rfl rfl rfl (J_gdno rfl rfl rfl rfl (J_gdno rfl rfl rfl rfl (J_gdno rfl rfl rfl rfl (J_gdno rfl rfl rfl rfl (J_gdno rfl rfl rfl rfl (J_gd rfl rfl (R_pickF rfl rfl) rfl (J_st (R_pickF rfl rfl) rfl (J_cutEnd ⟨rfl, rfl, rfl, rfl, rfl, rfl, rfl, rfl, rfl, rfl, rfl, rfl, rfl, rfl, rfl, rfl, rfl, congrArg (fun b => some (Value.bool b)) (show false = (((decide (2 < ((x.outs.length : Nat) : Int))) || ((x.kind == 8) && (decide (0 < ((x.outs.length : Nat) : Int))))) || ((((x.outs.length : Nat) : Int) == 2) && ((List.getD x.outs 0 default) == (List.getD x.outs 1 default)))) by first | (rw [hg38, hg39, hg42] <;> rfl) | (simp [hg38, hg39, hg42]; done) | (simp only [nat_nlt] <;> simp)), trivial⟩ rfl)))))))))))
                  rintro _ rfl
                  refine J_done ?_
                  refine S_cond rfl (fun hc33 => ?_) (fun hc33 => ?_)
                  · refine S_seq ?_
                    refine S_reg [true] rfl rfl ?_
                    refine J_st (R_assign rfl) rfl (J_done ?_)
                    refine S_ret (E_done1 rfl rfl E ?_)
                    exact node_t (by assumption)
                  · refine S_skip ?_
                    refine S_seq ?_
                    refine S_seq ?_
                    refine S_reg [true, true, true, true] rfl rfl ?_
                    refine J_st (R_fieldAddr0 fl70_3 rfl) rfl (J_st (R_load sc65 rfl (h1.one 3 rfl)) rfl (J_st (R_len Try.underlying65 rfl (hd1.ext E).len) rfl (J_st (R_move rfl) rfl (J_done ?_))))
                    refine S_block ?_
                    refine S_loop (fun (k : Nat) => [(2, .bool false), (91, o1), (92, .int .i64 ((x.outs.length : Nat) : Int)), (93, .int .i64 ((k : Nat) : Int))]) (fun (k : Nat) w' => Ext w w' ∧ w37.heap.size ≤ w'.heap.size ∧ Blk w' b1 ([.int .i64 x.kind, .int .i64 x.a, .int .i64 x.b, o1]) ∧ k ≤ x.outs.length ∧ (x.outs.take k).all (win · 0 7) = true) (fun (k : Nat) => x.outs.length - k) 0 ⟨rfl, rfl, rfl, rfl, trivial⟩ ⟨E, Nat.le_refl _, h1, Nat.zero_le _, rfl⟩ ?_
                    clear E h1
                    rintro k w39 ⟨E, z26, h1, hk, hI⟩
                    refine S_seq ?_
                    refine S_reg [true] rfl rfl ?_
                    refine J_st (R_lss rfl rfl) rfl (J_done ?_)
                    refine S_seq ?_
                    refine S_cond rfl (fun hc34 => ?_) (fun hc34 => ?_)
                    · have hc34n : k < x.outs.length := by first | (have h := of_decide_eq_true hc34; omega) | (have h := hc34; simp at h; omega)
                      refine S_skip ?_
                      refine S_seq ?_
                      refine S_block ?_
                      refine S_seq ?_
                      refine S_reg [true, true, true] rfl rfl ?_
                      have hi7 : k < x.outs.length := (by first | assumption | omega)
                      refine J_st (R_index (i := k) sl65 rfl rfl (hd1.rd.ext E) hi7) rfl (J_st (R_load sc3 rfl (((hd1.rd.ext E).get hi7).one 0 rfl)) rfl (J_st (R_assign rfl) rfl (J_done ?_)))
                      refine S_seq ?_
                      refine S_reg [true, false, true] rfl rfl ?_
                      refine J_st (R_move rfl) rfl ?_
                      refine J_call Try.call43 rfl (c_within (x.outs[k]'hi7) 0 7 _ ) rfl (fun _ w40 e19 hv => ?_)
                      subst hv
                      replace E := E.trans e19; replace h1 := h1.ext e19
                      have z27 := e19.size
                      refine J_st (R_not rfl) rfl (J_done ?_)
                      refine S_cond rfl (fun hc35 => ?_) (fun hc35 => ?_)
                      · refine S_seq ?_
                        refine S_reg [true] rfl rfl ?_
                        refine J_st (R_assign rfl) rfl (J_done ?_)
                        refine S_ret (E_inB_ret (E_lp_ret (E_inB_ret (E_done1 rfl rfl E ?_))))
                        exact node_l (by assumption)
                      · refine S_skip ?_
                        refine S_nil (E_inB ?_)
                        refine S_reg [true, true] rfl rfl ?_
                        refine J_st (R_add rfl rfl (add_one hc34n (hd1.ext E).1.1)) rfl (J_st (R_move rfl) rfl (J_done ?_))
                        refine S_nil (E_again (k + 1) (by omega) ⟨rfl, rfl, rfl, rfl, trivial⟩ ⟨E, (by omega), h1, (by omega), all_step hI (by assumption) (by simpa using (show (!(win x.outs[k] 0 7)) = false by assumption))⟩)
                    · have hc34n : ¬ k < x.outs.length := by first | (have h := of_decide_eq_false hc34; omega) | (have h := hc34; simp at h; omega)
                      refine S_exit (E_lp_exit (E_inB_exit ?_))
                      refine S_seq ?_
                      refine S_reg [true] rfl rfl ?_
                      refine J_st (R_assign rfl) rfl (J_done ?_)
                      refine S_ret (E_done1 rfl rfl E ?_)
                      exact node_y (by rw [node_0 (by assumption) (by assumption) (by assumption)]; exact ky0 (by assumption) (win_kind (by simp at *; omega))) (by assumption) hI (by omega)
              · refine S_reg [true, true] rfl rfl ?_
                refine J_st (R_eql rfl rfl) rfl (J_st (R_assign rfl) rfl (J_done ?_))
                refine S_cond rfl (fun hc36 => ?_) (fun hc36 => ?_)
                · refine S_seq ?_
                  refine S_reg [true, true, true, true, true, true, true, true] rfl rfl ?_
                  refine J_st (R_fieldAddr0 fl70_1 rfl) rfl (J_st (R_load sc3 rfl (h1.one 1 rfl)) rfl (J_st (R_neq rfl rfl) rfl (J_st (R_move rfl) rfl ?_)))
                  refine J_cut 4 [(0, .agg [.int .i64 x.kind, .int .i64 x.a, .int .i64 x.b, o1].toArray), (1, .pointer (some ⟨b1, 0, none⟩)), (2, .bool false), (5, .pointer (some ⟨b1, 0, none⟩)), (6, .int .i64 x.kind), (7, .bool (x.kind == 2)), (8, .bool (x.kind == 2)), (18, .bool (x.kind == 3)), (19, .bool (x.kind == 3)), (33, .bool (x.kind == 4)), (34, .bool (x.kind == 4)), (44, .bool (x.kind == 8)), (45, .bool (x.kind == 1)), (46, .bool (x.kind == 5)), (47, .bool (x.kind == 6)), (48, .bool (x.kind == 7)), (49, .bool (x.kind == 8)), (57, .bool ((x.a != 0) || (x.b != 0)))] (fun w' => w1 = w') ?_ ?_
                  · refine J_if (gd := 53) rfl rfl (fun hg43 => ?_) (fun hg43 => ?_)
                    · refine J_gdno rfl rfl rfl rfl (J_gdno rfl rfl rfl rfl (J_gdno rfl rfl rfl rfl (J_st (R_pickT rfl rfl) rfl (J_cutEnd ⟨rfl, rfl, rfl, rfl, rfl, rfl, rfl, rfl, rfl, rfl, rfl, rfl, rfl, rfl, rfl, rfl, rfl, congrArg (fun b => some (Value.bool b)) (show true = ((x.a != 0) || (x.b != 0)) by first | (rw [hg43] <;> rfl) | (simp [hg43]; done) | (simp only [nat_nlt] <;> simp)), trivial⟩ rfl))))
                    · refine J_gd rfl rfl (R_fieldAddr0 fl70_2 rfl) rfl (J_gd rfl rfl (R_load sc3 rfl (h1.one 2 rfl)) rfl (J_gd rfl rfl (R_neq rfl rfl) rfl (J_st (R_pickF rfl rfl) rfl (J_cutEnd ⟨rfl, rfl, rfl, rfl, rfl, rfl, rfl, rfl, rfl, rfl, rfl, rfl, rfl, rfl, rfl, rfl, rfl, congrArg (fun b => some (Value.bool b)) (show (x.b != 0) = ((x.a != 0) || (x.b != 0)) by first | (rw [hg43] <;> rfl) | (simp [hg43]; done) | (simp only [nat_nlt] <;> simp)), trivial⟩ rfl))))
                  rintro _ rfl
                  refine J_done ?_
                  refine S_cond rfl (fun hc37 => ?_) (fun hc37 => ?_)
                  · refine S_seq ?_
                    refine S_reg [true] rfl rfl ?_
                    refine J_st (R_assign rfl) rfl (J_done ?_)
                    refine S_ret (E_inB_ret (E_done1 rfl rfl E ?_))
                    exact node_k (by rw [node_0 (by assumption) (by assumption) (by assumption)]; exact kx0 (by assumption))
                  · refine S_skip ?_
                    refine S_nil (E_inB ?_)
                    refine S_seq ?_
                    refine S_seq ?_
                    refine S_regD mixed [(0, true), (1, true), (2, true), (3, true), (4, true), (5, true), (6, true), (7, true), (8, true), (9, true), (10, true), (11, true), (12, true), (13, true), (14, true), (15, true), (16, true), (17, true), (18, true), (19, true), (20, true), (21, true), (22, true), (23, true), (24, true), (25, true), (26, true), (27, true), (28, true), (29, true), (30, true), (31, true)] (by decide +kernel) rfl (fun w42 e20 => ?_)
                    replace E := E.trans e20; replace h1 := h1.ext e20
                    have z28 := e20.size
                    refine J_st (R_fieldAddr0 fl70_3 rfl) rfl (J_st (R_load sc65 rfl (h1.one 3 rfl)) rfl (J_st (R_len Try.underlying65 rfl (hd1.ext E).len) rfl (J_st (R_gtr rfl rfl) rfl (J_st (R_move rfl) rfl ?_))))
                    refine J_cut 27 [(0, .agg [.int .i64 x.kind, .int .i64 x.a, .int .i64 x.b, o1].toArray), (1, .pointer (some ⟨b1, 0, none⟩)), (2, .bool false), (5, .pointer (some ⟨b1, 0, none⟩)), (6, .int .i64 x.kind), (7, .bool (x.kind == 2)), (8, .bool (x.kind == 2)), (18, .bool (x.kind == 3)), (19, .bool (x.kind == 3)), (33, .bool (x.kind == 4)), (34, .bool (x.kind == 4)), (44, .bool (x.kind == 8)), (45, .bool (x.kind == 1)), (46, .bool (x.kind == 5)), (47, .bool (x.kind == 6)), (48, .bool (x.kind == 7)), (49, .bool (x.kind == 8)), (57, .bool ((x.a != 0) || (x.b != 0))), (89, .bool (((decide (2 < ((x.outs.length : Nat) : Int))) || ((x.kind == 8) && (decide (0 < ((x.outs.length : Nat) : Int))))) || ((((x.outs.length : Nat) : Int) == 2) && ((List.getD x.outs 0 default) == (List.getD x.outs 1 default)))))] (fun w' => w42 = w') ?_ ?_
                    · refine J_if (gd := 62) rfl rfl (fun hg44 => ?_) (fun hg44 => ?_)
                      · have hg44n : x.outs.length > 2 := by first | (have h := of_decide_eq_true hg44; omega) | (have h := hg44; simp at h; omega)
                        refine J_gdno rfl rfl rfl rfl (J_gdno rfl rfl rfl rfl (J_gdno rfl rfl rfl rfl (J_gdno rfl rfl rfl rfl (J_gdx rfl rfl rfl (J_gdx rfl rfl rfl (J_gdx rfl rfl rfl (J_gdx rfl rfl rfl (J_gdno rfl rfl rfl rfl (J_st (R_pickT rfl rfl) rfl (J_st (R_move rfl) rfl (J_gdno rfl rfl rfl rfl (J_gdno rfl rfl rfl rfl (J_gdno rfl rfl rfl rfl (J_gdno rfl rfl rfl rfl (J_gdno rfl rfl rfl rfl (J_gdx rfl rfl rfl (J_gdx rfl rfl rfl (J_gdx rfl rfl rfl (J_gdx rfl rfl rfl (J_gdx rfl rfl rfl (J_gdx rfl rfl rfl (J_gdx rfl rfl rfl (J_gdx rfl rfl rfl (J_gdx rfl rfl rfl (J_gdno rfl rfl rfl rfl (J_st (R_pickT rfl rfl) rfl (J_cutEnd ⟨rfl, rfl, rfl, rfl, rfl, rfl, rfl, rfl, rfl, rfl, rfl, rfl, rfl, rfl, rfl, rfl, rfl, rfl, congrArg (fun b => some (Value.bool b)) (show true = (((decide (2 < ((x.outs.length : Nat) : Int))) || ((x.kind == 8) && (decide (0 < ((x.outs.length : Nat) : Int))))) || ((((x.outs.length : Nat) : Int) == 2) && ((List.getD x.outs 0 default) == (List.getD x.outs 1 default)))) by first | (rw [hg44] <;> rfl) | (simp [hg44]; done) | (simp only [nat_nlt] <;> simp)), trivial⟩ rfl)))))))))))))))))))))))))))
                      · have hg44n : ¬ x.outs.length > 2 := by first | (have h := of_decide_eq_false hg44; omega) | (have h := hg44; simp at h; omega)
                        refine J_gd rfl rfl (R_fieldAddr0 fl70_0 rfl) rfl (J_gd rfl rfl (R_load sc3 rfl (h1.one 0 rfl)) rfl (J_gd rfl rfl (R_eql rfl rfl) rfl (J_gd rfl rfl (R_move rfl) rfl ?_)))
                        refine J_if (gd := 66) rfl rfl (fun hg45 => ?_) (fun hg45 => ?_)
                        · refine J_gd rfl rfl (R_fieldAddr0 fl70_3 rfl) rfl (J_gd rfl rfl (R_load sc65 rfl (h1.one 3 rfl)) rfl (J_gd rfl rfl (R_len Try.underlying65 rfl (hd1.ext E).len) rfl (J_gd rfl rfl (R_gtr rfl rfl) rfl (J_gd rfl rfl (R_pickT rfl rfl) rfl (J_st (R_pickF rfl rfl) rfl (J_st (R_move rfl) rfl ?_))))))
                          refine J_if (gd := 73) rfl rfl (fun hg46 => ?_) (fun hg46 => ?_)
                          · have hg46n : x.outs.length > 0 := by first | (have h := of_decide_eq_true hg46; omega) | (have h := hg46; simp at h; omega)
                            refine J_gdno rfl rfl rfl rfl (J_gdno rfl rfl rfl rfl (J_gdno rfl rfl rfl rfl (J_gdno rfl rfl rfl rfl (J_gdno rfl rfl rfl rfl (J_gdx rfl rfl rfl (J_gdx rfl rfl rfl (J_gdx rfl rfl rfl (J_gdx rfl rfl rfl (J_gdx rfl rfl rfl (J_gdx rfl rfl rfl (J_gdx rfl rfl rfl (J_gdx rfl rfl rfl (J_gdx rfl rfl rfl (J_gdno rfl rfl rfl rfl (J_st (R_pickT rfl rfl) rfl (J_cutEnd ⟨rfl, rfl, rfl, rfl, rfl, rfl, rfl, rfl, rfl, rfl, rfl, rfl, rfl, rfl, rfl, rfl, rfl, rfl, congrArg (fun b => some (Value.bool b)) (show true = (((decide (2 < ((x.outs.length : Nat) : Int))) || ((x.kind == 8) && (decide (0 < ((x.outs.length : Nat) : Int))))) || ((((x.outs.length : Nat) : Int) == 2) && ((List.getD x.outs 0 default) == (List.getD x.outs 1 default)))) by first | (rw [hg44, hg45, hg46] <;> rfl) | (simp [hg44, hg45, hg46]; done) | (simp only [nat_nlt] <;> simp)), trivial⟩ rfl))))))))))))))))
                          · have hg46n : ¬ x.outs.length > 0 := by first | (have h := of_decide_eq_false hg46; omega) | (have h := hg46; simp at h; omega)
                            refine J_gd rfl rfl (R_fieldAddr0 fl70_3 rfl) rfl (J_gd rfl rfl (R_load sc65 rfl (h1.one 3 rfl)) rfl (J_gd rfl rfl (R_len Try.underlying65 rfl (hd1.ext E).len) rfl (J_gd rfl rfl (R_eql rfl rfl) rfl (J_gd rfl rfl (R_move rfl) rfl ?_))))
                            refine J_if (gd := 78) rfl rfl (fun hg47 => ?_) (fun hg47 => ?_)
                            · have hg47n : x.outs.length = 2 := by first | (have h := of_decide_eq_true hg47; omega) | (have h := hg47; simp at h; omega)
                              refine J_gd rfl rfl (R_fieldAddr0 fl70_3 rfl) rfl (J_gd rfl rfl (R_load sc65 rfl (h1.one 3 rfl)) rfl (J_gd rfl rfl (R_index (i := 0) sl65 rfl rfl (hd1.rd.ext E) (by first | assumption | omega)) rfl (J_gd rfl rfl (R_load sc3 rfl ((RdS.getD (hd1.rd.ext E) (i := 0) (by first | assumption | omega)).one 0 rfl)) rfl (J_gd rfl rfl (R_fieldAddr0 fl70_3 rfl) rfl (J_gd rfl rfl (R_load sc65 rfl (h1.one 3 rfl)) rfl (J_gd rfl rfl (R_index (i := 1) sl65 rfl rfl (hd1.rd.ext E) (by first | assumption | omega)) rfl (J_gd rfl rfl (R_load sc3 rfl ((RdS.getD (hd1.rd.ext E) (i := 1) (by first | assumption | omega)).one 0 rfl)) rfl (J_gd rfl rfl (R_eql rfl rfl) rfl (J_gd rfl rfl (R_pickT rfl rfl) rfl (J_st (R_pickF rfl rfl) rfl (J_cutEnd ⟨rfl, rfl, rfl, rfl, rfl, rfl, rfl, rfl, rfl, rfl, rfl, rfl, rfl, rfl, rfl, rfl, rfl, rfl, congrArg (fun b => some (Value.bool b)) (show ((List.getD x.outs 0 default) == (List.getD x.outs 1 default)) = (((decide (2 < ((x.outs.length : Nat) : Int))) || ((x.kind == 8) && (decide (0 < ((x.outs.length : Nat) : Int))))) || ((((x.outs.length : Nat) : Int) == 2) && ((List.getD x.outs 0 default) == (List.getD x.outs 1 default)))) by first | (rw [hg44, hg45, hg46, hg47] <;> rfl) | (simp [hg44, hg45, hg46, hg47]; done) | (simp only [nat_nlt] <;> simp)), trivial⟩ rfl)))))))))))
                            · have hg47n : ¬ x.outs.length = 2 := by first | (have h := of_decide_eq_false hg47; omega) | (have h := hg47; simp at h; omega)
                              refine J_gdno rfl rfl rfl rfl (J_gdno rfl rfl rfl rfl (J_gdno rfl rfl rfl rfl (J_gdno rfl rfl rfl rfl (J_gdno rfl rfl rfl rfl (J_gdno rfl rfl rfl rfl (J_gdno rfl rfl rfl rfl (J_gdno rfl rfl rfl rfl (J_gdno rfl rfl rfl rfl (J_gd rfl rfl (R_pickF rfl rfl) rfl (J_st (R_pickF rfl rfl) rfl (J_cutEnd ⟨rfl, rfl, rfl, rfl, rfl, rfl, rfl, rfl, rfl, rfl, rfl, rfl, rfl, rfl, rfl, rfl, rfl, rfl, congrArg (fun b => some (Value.bool b)) (show false = (((decide (2 < ((x.outs.length : Nat) : Int))) || ((x.kind == 8) && (decide (0 < ((x.outs.length : Nat) : Int))))) || ((((x.outs.length : Nat) : Int) == 2) && ((List.getD x.outs 0 default) == (List.getD x.outs 1 default)))) by first | (rw [hg44, hg45, hg46, hg47] <;> rfl) | (simp [hg44, hg45, hg46, hg47]; done) | (simp only [nat_nlt] <;> simp)), trivial⟩ rfl)))))))))))
                        · refine J_gdno rfl rfl rfl rfl (J_gdno rfl rfl rfl rfl (J_gdno rfl rfl rfl rfl (J_gdno rfl rfl rfl rfl (J_gd rfl rfl (R_pickF rfl rfl) rfl (J_st (R_pickF rfl rfl) rfl (J_st (R_move rfl) rfl (J_gd rfl rfl (R_fieldAddr0 fl70_3 rfl) rfl (J_gd rfl rfl (R_load sc65 rfl (h1.one 3 rfl)) rfl (J_gd rfl rfl (R_len Try.underlying65 rfl (hd1.ext E).len) rfl (J_gd rfl rfl (R_eql rfl rfl) rfl (J_gd rfl rfl (R_move rfl) rfl ?_)))))))))))
                          refine J_if (gd := 78) rfl rfl (fun hg48 => ?_) (fun hg48 => ?_)
                          · have hg48n : x.outs.length = 2 := by first | (have h := of_decide_eq_true hg48; omega) | (have h := hg48; simp at h; omega)
                            refine J_gd rfl rfl (R_fieldAddr0 fl70_3 rfl) rfl (J_gd rfl rfl (R_load sc65 rfl (h1.one 3 rfl)) rfl (J_gd rfl rfl (R_index (i := 0) sl65 rfl rfl (hd1.rd.ext E) (by first | assumption | omega)) rfl (J_gd rfl rfl (R_load sc3 rfl ((RdS.getD (hd1.rd.ext E) (i := 0) (by first | assumption | omega)).one 0 rfl)) rfl (J_gd rfl rfl (R_fieldAddr0 fl70_3 rfl) rfl (J_gd rfl rfl (R_load sc65 rfl (h1.one 3 rfl)) rfl (J_gd rfl rfl (R_index (i := 1) sl65 rfl rfl (hd1.rd.ext E) (by first | assumption | omega)) rfl (J_gd rfl rfl (R_load sc3 rfl ((RdS.getD (hd1.rd.ext E) (i := 1) (by first | assumption | omega)).one 0 rfl)) rfl (J_gd rfl rfl (R_eql rfl rfl) rfl (J_gd rfl rfl (R_pickT rfl rfl) rfl (J_st (R_pickF rfl rfl) rfl (J_cutEnd ⟨rfl, rfl, rfl, rfl, rfl, rfl, rfl, rfl, rfl, rfl, rfl, rfl, rfl, rfl, rfl, rfl, rfl, rfl, congrArg (fun b => some (Value.bool b)) (show ((List.getD x.outs 0 default) == (List.getD x.outs 1 default)) = (((decide (2 < ((x.outs.length : Nat) : Int))) || ((x.kind == 8) && (decide (0 < ((x.outs.length : Nat) : Int))))) || ((((x.outs.length : Nat) : Int) == 2) && ((List.getD x.outs 0 default) == (List.getD x.outs 1 default)))) by first | (rw [hg44, hg45, hg48] <;> rfl) | (simp [hg44, hg45, hg48]; done) | (simp only [nat_nlt] <;> simp)), trivial⟩ rfl)))))))))))
                          · have hg48n : ¬ x.outs.length = 2 := by first | (have h := of_decide_eq_false hg48; omega) | (have h := hg48; simp at h; omega)
                            refine J_gdno rfl rfl rfl rfl (J_gdno rfl rfl rfl rfl (J_gdno rfl rfl rfl rfl (J_gdno rfl rfl rfl rfl (J_gdno rfl rfl rfl rfl (J_gdno rfl rfl rfl rfl (J_gdno rfl rfl rfl rfl (J_gdno rfl rfl rfl rfl (J_gdno rfl rfl rfl rfl (J_gd rfl rfl (R_pickF rfl rfl) rfl (J_st (R_pickF rfl rfl) rfl (J_cutEnd ⟨rfl, rfl, rfl, rfl, rfl, rfl, rfl, rfl, rfl, rfl, rfl, rfl, rfl, rfl, rfl, rfl, rfl, rfl, congrArg (fun b => some (Value.bool b)) (show false = (((decide (2 < ((x.outs.length : Nat) : Int))) || ((x.kind == 8) && (decide (0 < ((x.outs.length : Nat) : Int))))) || ((((x.outs.length : Nat) : Int) == 2) && ((List.getD x.outs 0 default) == (List.getD x.outs 1 default)))) by first | (rw [hg44, hg45, hg48] <;> rfl) | (simp [hg44, hg45, hg48]; done) | (simp only [nat_nlt] <;> simp)), trivial⟩ rfl)))))))))))
                    rintro _ rfl
                    refine J_done ?_
                    refine S_cond rfl (fun hc38 => ?_) (fun hc38 => ?_)
                    · refine S_seq ?_
                      refine S_reg [true] rfl rfl ?_
                      refine J_st (R_assign rfl) rfl (J_done ?_)
                      refine S_ret (E_done1 rfl rfl E ?_)
                      exact node_t (by assumption)
                    · refine S_skip ?_
                      refine S_seq ?_
                      refine S_seq ?_
                      refine S_reg [true, true, true, true] rfl rfl ?_
                      refine J_st (R_fieldAddr0 fl70_3 rfl) rfl (J_st (R_load sc65 rfl (h1.one 3 rfl)) rfl (J_st (R_len Try.underlying65 rfl (hd1.ext E).len) rfl (J_st (R_move rfl) rfl (J_done ?_))))
                      refine S_block ?_
                      refine S_loop (fun (k : Nat) => [(2, .bool false), (91, o1), (92, .int .i64 ((x.outs.length : Nat) : Int)), (93, .int .i64 ((k : Nat) : Int))]) (fun (k : Nat) w' => Ext w w' ∧ w42.heap.size ≤ w'.heap.size ∧ Blk w' b1 ([.int .i64 x.kind, .int .i64 x.a, .int .i64 x.b, o1]) ∧ k ≤ x.outs.length ∧ (x.outs.take k).all (win · 0 7) = true) (fun (k : Nat) => x.outs.length - k) 0 ⟨rfl, rfl, rfl, rfl, trivial⟩ ⟨E, Nat.le_refl _, h1, Nat.zero_le _, rfl⟩ ?_
                      clear E h1
                      rintro k w44 ⟨E, z29, h1, hk, hI⟩
                      refine S_seq ?_
                      refine S_reg [true] rfl rfl ?_
                      refine J_st (R_lss rfl rfl) rfl (J_done ?_)
                      refine S_seq ?_
                      refine S_cond rfl (fun hc39 => ?_) (fun hc39 => ?_)
                      · have hc39n : k < x.outs.length := by first | (have h := of_decide_eq_true hc39; omega) | (have h := hc39; simp at h; omega)
                        refine S_skip ?_
                        refine S_seq ?_
                        refine S_block ?_
                        refine S_seq ?_
                        refine S_reg [true, true, true] rfl rfl ?_
                        have hi8 : k < x.outs.length := (by first | assumption | omega)
                        refine J_st (R_index (i := k) sl65 rfl rfl (hd1.rd.ext E) hi8) rfl (J_st (R_load sc3 rfl (((hd1.rd.ext E).get hi8).one 0 rfl)) rfl (J_st (R_assign rfl) rfl (J_done ?_)))
                        refine S_seq ?_
                        refine S_reg [true, false, true] rfl rfl ?_
                        refine J_st (R_move rfl) rfl ?_
                        refine J_call Try.call43 rfl (c_within (x.outs[k]'hi8) 0 7 _ ) rfl (fun _ w45 e21 hv => ?_)
                        subst hv
                        replace E := E.trans e21; replace h1 := h1.ext e21
                        have z30 := e21.size
                        refine J_st (R_not rfl) rfl (J_done ?_)
                        refine S_cond rfl (fun hc40 => ?_) (fun hc40 => ?_)
                        · refine S_seq ?_
                          refine S_reg [true] rfl rfl ?_
                          refine J_st (R_assign rfl) rfl (J_done ?_)
                          refine S_ret (E_inB_ret (E_lp_ret (E_inB_ret (E_done1 rfl rfl E ?_))))
                          exact node_l (by assumption)
                        · refine S_skip ?_
                          refine S_nil (E_inB ?_)
                          refine S_reg [true, true] rfl rfl ?_
                          refine J_st (R_add rfl rfl (add_one hc39n (hd1.ext E).1.1)) rfl (J_st (R_move rfl) rfl (J_done ?_))
                          refine S_nil (E_again (k + 1) (by omega) ⟨rfl, rfl, rfl, rfl, trivial⟩ ⟨E, (by omega), h1, (by omega), all_step hI (by assumption) (by simpa using (show (!(win x.outs[k] 0 7)) = false by assumption))⟩)
                      · have hc39n : ¬ k < x.outs.length := by first | (have h := of_decide_eq_false hc39; omega) | (have h := hc39; simp at h; omega)
                        refine S_exit (E_lp_exit (E_inB_exit ?_))
                        refine S_seq ?_
                        refine S_reg [true] rfl rfl ?_
                        refine J_st (R_assign rfl) rfl (J_done ?_)
                        refine S_ret (E_done1 rfl rfl E ?_)
                        exact node_y (by rw [node_0 (by assumption) (by assumption) (by assumption)]; exact ky0 (by assumption) (win_kind (by simp at *; omega))) (by assumption) hI (by omega)
                · refine S_seq ?_
                  refine S_reg [true] rfl rfl ?_
                  refine J_st (R_assign rfl) rfl (J_done ?_)
                  refine S_ret (E_inB_ret (E_done1 rfl rfl E ?_))
                  exact node_k (by rw [node_0 (by assumption) (by assumption) (by assumption), win_not (by simp at *; omega)]; rfl)

set_option maxHeartbeats 4000000 in
set_option maxRecDepth 20000 in
theorem s_NodeOk (cx : List Value) (x : Node) (w : World) (hx : Dat.R w 0 w.heap.size cx x) : Ct Try.prog 55 [.agg cx.toArray] w (fun v _ => v = .bool (nodeOk x)) := by
  refine ct_of Try.func55 rfl Try.ntmps55 rfl ?_
  obtain ⟨o1, rfl, hd1⟩ := Node.op hx
  refine S_sub [(0, .agg [.int .i64 x.kind, .int .i64 x.a, .int .i64 x.b, o1].toArray)] ⟨rfl, trivial⟩ ?_
  have E : Ext w w := Ext.refl w
  refine S_seq ?_
  refine S_reg [false, true] rfl rfl ?_
  refine J_box rfl rfl (fun b1 w1 e1 s1 h1 => ?_)
  have g_b1 : w.heap.size ≤ b1 := by have := E.size; omega
  have y_b1 := h1.lt
  replace E := E.trans e1
  have z1 := e1.size
  refine J_st (R_assign rfl) rfl (J_done ?_)
  refine S_seq ?_
  refine S_reg [true, true, true, true] rfl rfl ?_
  refine J_st (R_fieldAddr0 fl70_1 rfl) rfl (J_st (R_load sc3 rfl (h1.one 1 rfl)) rfl (J_st (R_eql rfl rfl) rfl (J_st (R_assign rfl) rfl (J_done ?_))))
  refine S_seq ?_
  refine S_reg [true, true, true, true] rfl rfl ?_
  refine J_st (R_fieldAddr0 fl70_2 rfl) rfl (J_st (R_load sc3 rfl (h1.one 2 rfl)) rfl (J_st (R_eql rfl rfl) rfl (J_st (R_assign rfl) rfl (J_done ?_))))
  refine S_seq ?_
  refine S_seq ?_
  refine S_reg [true, true] rfl rfl ?_
  refine J_st (R_fieldAddr0 fl70_0 rfl) rfl (J_st (R_load sc3 rfl (h1.one 0 rfl)) rfl (J_done ?_))
  refine S_block ?_
  refine S_seq ?_
  refine S_reg [true, true] rfl rfl ?_
  refine J_st (R_eql rfl rfl) rfl (J_st (R_assign rfl) rfl (J_done ?_))
  refine S_cond rfl (fun hc1 => ?_) (fun hc1 => ?_)
  · refine S_reg [true, true, false, true] rfl rfl ?_
    refine J_st (R_fieldAddr0 fl70_1 rfl) rfl (J_st (R_load sc3 rfl (h1.one 1 rfl)) rfl ?_)
    refine J_call Try.call35 rfl (s_l01In x.a 0 999 _ ) rfl (fun _ w2 e2 hv => ?_)
    subst hv
    replace E := E.trans e2; replace h1 := h1.ext e2
    have z2 := e2.size
    refine J_st (R_assign rfl) rfl (J_done ?_)
    refine S_nil (E_inB ?_)
    refine S_seq ?_
    refine S_seq ?_
    refine S_reg [true, true, false, true, true, true, true, true, true, true, true, true, true, true, true, true, true, true, true, true, true, true, true, true, true, true, true, true, true] rfl rfl ?_
    refine J_st (R_fieldAddr0 fl70_0 rfl) rfl (J_st (R_load sc3 rfl (h1.one 0 rfl)) rfl ?_)
    refine J_call Try.call35 rfl (s_l01In x.kind 1 8 _ ) rfl (fun _ w3 e3 hv => ?_)
    subst hv
    replace E := E.trans e3; replace h1 := h1.ext e3
    have z3 := e3.size
    refine J_st (R_not rfl) rfl (J_st (R_move rfl) rfl ?_)
    refine J_cut 24 [(0, .agg [.int .i64 x.kind, .int .i64 x.a, .int .i64 x.b, o1].toArray), (1, .pointer (some ⟨b1, 0, none⟩)), (2, .bool false), (3, .bool (win x.a 0 999)), (4, .bool (x.b == 0)), (6, .pointer (some ⟨b1, 1, none⟩)), (7, .int .i64 x.a), (8, .bool (x.a == 0)), (9, .pointer (some ⟨b1, 2, none⟩)), (10, .int .i64 x.b), (11, .bool (x.b == 0)), (12, .pointer (some ⟨b1, 0, none⟩)), (13, .int .i64 x.kind), (14, .bool (x.kind == 2)), (15, .bool (x.kind == 2)), (16, .pointer (some ⟨b1, 1, none⟩)), (17, .int .i64 x.a), (18, .bool (win x.a 0 999)), (63, .bool (((((!(win x.kind 1 8)) || (!(win x.a 0 999))) || (!(x.b == 0))) || (decide (2 < ((x.outs.length : Nat) : Int)))) || ((x.kind == 8) && (decide (0 < ((x.outs.length : Nat) : Int))))))] (fun w' => w3 = w') ?_ ?_
    · refine J_if (gd := 39) rfl rfl (fun hg1 => ?_) (fun hg1 => ?_)
      · refine J_gdno rfl rfl rfl rfl (J_gdno rfl rfl rfl rfl (J_st (R_pickT rfl rfl) rfl (J_st (R_move rfl) rfl (J_gdno rfl rfl rfl rfl (J_gdno rfl rfl rfl rfl (J_st (R_pickT rfl rfl) rfl (J_st (R_move rfl) rfl (J_gdno rfl rfl rfl rfl (J_gdno rfl rfl rfl rfl (J_gdno rfl rfl rfl rfl (J_gdno rfl rfl rfl rfl (J_st (R_pickT rfl rfl) rfl (J_st (R_move rfl) rfl (J_gdno rfl rfl rfl rfl (J_gdno rfl rfl rfl rfl (J_gdno rfl rfl rfl rfl (J_gdno rfl rfl rfl rfl (J_gdx rfl rfl rfl (J_gdx rfl rfl rfl (J_gdx rfl rfl rfl (J_gdx rfl rfl rfl (J_gdno rfl rfl rfl rfl (J_st (R_pickT rfl rfl) rfl (J_cutEnd ⟨rfl, rfl, rfl, rfl, rfl, rfl, rfl, rfl, rfl, rfl, rfl, rfl, rfl, rfl, rfl, rfl, rfl, rfl, congrArg (fun b => some (Value.bool b)) (show true = (((((!(win x.kind 1 8)) || (!(win x.a 0 999))) || (!(x.b == 0))) || (decide (2 < ((x.outs.length : Nat) : Int)))) || ((x.kind == 8) && (decide (0 < ((x.outs.length : Nat) : Int))))) by first | (rw [hg1] <;> rfl) | (simp [hg1]; done) | (simp only [nat_nlt] <;> simp)), trivial⟩ rfl))))))))))))))))))))))))
      · refine J_gd rfl rfl (R_move rfl) rfl (J_gd rfl rfl (R_not rfl) rfl (J_st (R_pickF rfl rfl) rfl (J_st (R_move rfl) rfl ?_)))
        refine J_if (gd := 43) rfl rfl (fun hg2 => ?_) (fun hg2 => ?_)
        · refine J_gdno rfl rfl rfl rfl (J_gdno rfl rfl rfl rfl (J_st (R_pickT rfl rfl) rfl (J_st (R_move rfl) rfl (J_gdno rfl rfl rfl rfl (J_gdno rfl rfl rfl rfl (J_gdno rfl rfl rfl rfl (J_gdno rfl rfl rfl rfl (J_st (R_pickT rfl rfl) rfl (J_st (R_move rfl) rfl (J_gdno rfl rfl rfl rfl (J_gdno rfl rfl rfl rfl (J_gdno rfl rfl rfl rfl (J_gdno rfl rfl rfl rfl (J_gdx rfl rfl rfl (J_gdx rfl rfl rfl (J_gdx rfl rfl rfl (J_gdx rfl rfl rfl (J_gdno rfl rfl rfl rfl (J_st (R_pickT rfl rfl) rfl (J_cutEnd ⟨rfl, rfl, rfl, rfl, rfl, rfl, rfl, rfl, rfl, rfl, rfl, rfl, rfl, rfl, rfl, rfl, rfl, rfl, congrArg (fun b => some (Value.bool b)) (show true = (((((!(win x.kind 1 8)) || (!(win x.a 0 999))) || (!(x.b == 0))) || (decide (2 < ((x.outs.length : Nat) : Int)))) || ((x.kind == 8) && (decide (0 < ((x.outs.length : Nat) : Int))))) by first | (rw [hg1, hg2] <;> rfl) | (simp [hg1, hg2]; done) | (simp only [nat_nlt] <;> simp)), trivial⟩ rfl))))))))))))))))))))
        · refine J_gd rfl rfl (R_move rfl) rfl (J_gd rfl rfl (R_not rfl) rfl (J_st (R_pickF rfl rfl) rfl (J_st (R_move rfl) rfl ?_)))
          refine J_if (gd := 47) rfl rfl (fun hg3 => ?_) (fun hg3 => ?_)
          · refine J_gdno rfl rfl rfl rfl (J_gdno rfl rfl rfl rfl (J_gdno rfl rfl rfl rfl (J_gdno rfl rfl rfl rfl (J_st (R_pickT rfl rfl) rfl (J_st (R_move rfl) rfl (J_gdno rfl rfl rfl rfl (J_gdno rfl rfl rfl rfl (J_gdno rfl rfl rfl rfl (J_gdno rfl rfl rfl rfl (J_gdx rfl rfl rfl (J_gdx rfl rfl rfl (J_gdx rfl rfl rfl (J_gdx rfl rfl rfl (J_gdno rfl rfl rfl rfl (J_st (R_pickT rfl rfl) rfl (J_cutEnd ⟨rfl, rfl, rfl, rfl, rfl, rfl, rfl, rfl, rfl, rfl, rfl, rfl, rfl, rfl, rfl, rfl, rfl, rfl, congrArg (fun b => some (Value.bool b)) (show true = (((((!(win x.kind 1 8)) || (!(win x.a 0 999))) || (!(x.b == 0))) || (decide (2 < ((x.outs.length : Nat) : Int)))) || ((x.kind == 8) && (decide (0 < ((x.outs.length : Nat) : Int))))) by first | (rw [hg1, hg2, hg3] <;> rfl) | (simp [hg1, hg2, hg3]; done) | (simp only [nat_nlt] <;> simp)), trivial⟩ rfl))))))))))))))))
          · refine J_gd rfl rfl (R_fieldAddr0 fl70_3 rfl) rfl (J_gd rfl rfl (R_load sc65 rfl (h1.one 3 rfl)) rfl (J_gd rfl rfl (R_len Try.underlying65 rfl (hd1.ext E).len) rfl (J_gd rfl rfl (R_gtr rfl rfl) rfl (J_st (R_pickF rfl rfl) rfl (J_st (R_move rfl) rfl ?_)))))
            refine J_if (gd := 53) rfl rfl (fun hg4 => ?_) (fun hg4 => ?_)
            · have hg4n : x.outs.length > 2 := by first | (have h := of_decide_eq_true hg4; omega) | (have h := hg4; simp at h; omega)
              refine J_gdno rfl rfl rfl rfl (J_gdno rfl rfl rfl rfl (J_gdno rfl rfl rfl rfl (J_gdno rfl rfl rfl rfl (J_gdx rfl rfl rfl (J_gdx rfl rfl rfl (J_gdx rfl rfl rfl (J_gdx rfl rfl rfl (J_gdno rfl rfl rfl rfl (J_st (R_pickT rfl rfl) rfl (J_cutEnd ⟨rfl, rfl, rfl, rfl, rfl, rfl, rfl, rfl, rfl, rfl, rfl, rfl, rfl, rfl, rfl, rfl, rfl, rfl, congrArg (fun b => some (Value.bool b)) (show true = (((((!(win x.kind 1 8)) || (!(win x.a 0 999))) || (!(x.b == 0))) || (decide (2 < ((x.outs.length : Nat) : Int)))) || ((x.kind == 8) && (decide (0 < ((x.outs.length : Nat) : Int))))) by first | (rw [hg1, hg2, hg3, hg4] <;> rfl) | (simp [hg1, hg2, hg3, hg4]; done) | (simp only [nat_nlt] <;> simp)), trivial⟩ rfl))))))))))
            · have hg4n : ¬ x.outs.length > 2 := by first | (have h := of_decide_eq_false hg4; omega) | (have h := hg4; simp at h; omega)
              refine J_gd rfl rfl (R_fieldAddr0 fl70_0 rfl) rfl (J_gd rfl rfl (R_load sc3 rfl (h1.one 0 rfl)) rfl (J_gd rfl rfl (R_eql rfl rfl) rfl (J_gd rfl rfl (R_move rfl) rfl ?_)))
              refine J_if (gd := 57) rfl rfl (fun hg5 => ?_) (fun hg5 => ?_)
              · refine J_gd rfl rfl (R_fieldAddr0 fl70_3 rfl) rfl (J_gd rfl rfl (R_load sc65 rfl (h1.one 3 rfl)) rfl (J_gd rfl rfl (R_len Try.underlying65 rfl (hd1.ext E).len) rfl (J_gd rfl rfl (R_gtr rfl rfl) rfl (J_gd rfl rfl (R_pickT rfl rfl) rfl (J_st (R_pickF rfl rfl) rfl (J_cutEnd ⟨rfl, rfl, rfl, rfl, rfl, rfl, rfl, rfl, rfl, rfl, rfl, rfl, rfl, rfl, rfl, rfl, rfl, rfl, congrArg (fun b => some (Value.bool b)) (show (decide (0 < ((x.outs.length : Nat) : Int))) = (((((!(win x.kind 1 8)) || (!(win x.a 0 999))) || (!(x.b == 0))) || (decide (2 < ((x.outs.length : Nat) : Int)))) || ((x.kind == 8) && (decide (0 < ((x.outs.length : Nat) : Int))))) by first | (rw [hg1, hg2, hg3, hg4, hg5] <;> rfl) | (simp [hg1, hg2, hg3, hg4, hg5]; done) | (simp only [nat_nlt] <;> simp)), trivial⟩ rfl))))))
              · refine J_gdno rfl rfl rfl rfl (J_gdno rfl rfl rfl rfl (J_gdno rfl rfl rfl rfl (J_gdno rfl rfl rfl rfl (J_gd rfl rfl (R_pickF rfl rfl) rfl (J_st (R_pickF rfl rfl) rfl (J_cutEnd ⟨rfl, rfl, rfl, rfl, rfl, rfl, rfl, rfl, rfl, rfl, rfl, rfl, rfl, rfl, rfl, rfl, rfl, rfl, congrArg (fun b => some (Value.bool b)) (show false = (((((!(win x.kind 1 8)) || (!(win x.a 0 999))) || (!(x.b == 0))) || (decide (2 < ((x.outs.length : Nat) : Int)))) || ((x.kind == 8) && (decide (0 < ((x.outs.length : Nat) : Int))))) by first | (rw [hg1, hg2, hg3, hg4, hg5] <;> rfl) | (simp [hg1, hg2, hg3, hg4, hg5]; done) | (simp only [nat_nlt] <;> simp)), trivial⟩ rfl))))))
    rintro _ rfl
    refine J_done ?_
    refine S_cond rfl (fun hc2 => ?_) (fun hc2 => ?_)
    · refine S_seq ?_
      refine S_reg [true] rfl rfl ?_
      refine J_st (R_assign rfl) rfl (J_done ?_)
      refine S_ret (E_done1 rfl rfl E ?_)
      exact node_s (p := win x.a 0 999) (q := x.b == 0) (by rw [node_2 (by assumption), win_kind (n := x.kind) (by have := eq_of_beq (show (x.kind == 2) = true by assumption); omega), Bool.true_and]) (by assumption)
    · refine S_skip ?_
      refine S_seq ?_
      refine S_seq ?_
      refine S_reg [true] rfl rfl ?_
      refine J_st (R_assign rfl) rfl (J_done ?_)
      refine S_block ?_
      refine S_loop (fun (k : Nat) => [(1, .pointer (some ⟨b1, 0, none⟩)), (2, .bool false), (5, .int .i64 ((k : Nat) : Int))]) (fun (k : Nat) w' => Ext w w' ∧ w3.heap.size ≤ w'.heap.size ∧ Blk w' b1 ([.int .i64 x.kind, .int .i64 x.a, .int .i64 x.b, o1]) ∧ k ≤ x.outs.length ∧ (x.outs.take k).all (win · 0 7) = true ∧ (1 < k → ((List.getD x.outs 0 default) == (List.getD x.outs 1 default)) = false)) (fun (k : Nat) => x.outs.length - k) 0 ⟨rfl, rfl, rfl, trivial⟩ ⟨E, Nat.le_refl _, h1, Nat.zero_le _, rfl, (by omega)⟩ ?_
      clear E h1
      rintro k w5 ⟨E, z4, h1, hk, hI, hJ⟩
      refine S_seq ?_
      refine S_seq ?_
      refine S_reg [true, true, true, true, true] rfl rfl ?_
      refine J_st (R_move rfl) rfl (J_st (R_fieldAddr0 fl70_3 rfl) rfl (J_st (R_load sc65 rfl (h1.one 3 rfl)) rfl (J_st (R_len Try.underlying65 rfl (hd1.ext E).len) rfl (J_st (R_lss rfl rfl) rfl (J_done ?_)))))
      refine S_cond rfl (fun hc3 => ?_) (fun hc3 => ?_)
      · have hc3n : k < x.outs.length := by first | (have h := of_decide_eq_true hc3; omega) | (have h := hc3; simp at h; omega)
        refine S_skip ?_
        refine S_seq ?_
        refine S_block ?_
        refine S_seq ?_
        refine S_regD mixed [(0, true), (1, true), (2, true), (3, true), (4, true), (5, false), (6, true), (7, true), (8, true), (9, true), (10, true), (11, true), (12, true), (13, true), (14, true), (15, true), (16, true), (17, true), (18, true), (19, true), (20, true), (21, true)] (by decide +kernel) rfl (fun w6 e4 => ?_)
        replace E := E.trans e4; replace h1 := h1.ext e4
        have z5 := e4.size
        refine J_st (R_fieldAddr0 fl70_3 rfl) rfl (J_st (R_load sc65 rfl (h1.one 3 rfl)) rfl (J_st (R_move rfl) rfl ?_))
        have hi1 : k < x.outs.length := (by first | assumption | omega)
        refine J_st (R_index (i := k) sl65 rfl rfl (hd1.rd.ext E) hi1) rfl (J_st (R_load sc3 rfl (((hd1.rd.ext E).get hi1).one 0 rfl)) rfl ?_)
        refine J_call Try.call35 rfl (s_l01In (x.outs[k]'hi1) 0 7 _ ) rfl (fun _ w7 e5 hv => ?_)
        subst hv
        replace E := E.trans e5; replace h1 := h1.ext e5
        have z6 := e5.size
        refine J_st (R_not rfl) rfl (J_st (R_move rfl) rfl ?_)
        refine J_cut 14 [(1, .pointer (some ⟨b1, 0, none⟩)), (2, .bool false), (5, .int .i64 ((k : Nat) : Int)), (64, .int .i64 ((k : Nat) : Int)), (65, .pointer (some ⟨b1, 3, none⟩)), (66, o1), (67, .int .i64 ((x.outs.length : Nat) : Int)), (68, .bool (decide (((k : Nat) : Int) < ((x.outs.length : Nat) : Int)))), (92, .bool ((!(win (x.outs[k]'hi1) 0 7)) || ((decide (0 < ((k : Nat) : Int))) && ((List.getD x.outs 0 default) == (List.getD x.outs 1 default)))))] (fun w' => w7 = w') ?_ ?_
        · refine J_if (gd := 78) rfl rfl (fun hg6 => ?_) (fun hg6 => ?_)
          · refine J_gdno rfl rfl rfl rfl (J_gdno rfl rfl rfl rfl (J_gdno rfl rfl rfl rfl (J_gdx rfl rfl rfl (J_gdx rfl rfl rfl (J_gdx rfl rfl rfl (J_gdx rfl rfl rfl (J_gdx rfl rfl rfl (J_gdx rfl rfl rfl (J_gdx rfl rfl rfl (J_gdx rfl rfl rfl (J_gdx rfl rfl rfl (J_gdno rfl rfl rfl rfl (J_st (R_pickT rfl rfl) rfl (J_cutEnd ⟨rfl, rfl, rfl, rfl, rfl, rfl, rfl, rfl, congrArg (fun b => some (Value.bool b)) (show true = ((!(win (x.outs[k]'hi1) 0 7)) || ((decide (0 < ((k : Nat) : Int))) && ((List.getD x.outs 0 default) == (List.getD x.outs 1 default)))) by first | (rw [hg6] <;> rfl) | (simp [hg6]; done) | (simp only [nat_nlt] <;> simp)), trivial⟩ rfl))))))))))))))
          · refine J_gd rfl rfl (R_move rfl) rfl (J_gd rfl rfl (R_gtr rfl rfl) rfl (J_gd rfl rfl (R_move rfl) rfl ?_))
            refine J_if (gd := 81) rfl rfl (fun hg7 => ?_) (fun hg7 => ?_)
            · have hg7n : k > 0 := by first | (have h := of_decide_eq_true hg7; omega) | (have h := hg7; simp at h; omega)
              refine J_gd rfl rfl (R_fieldAddr0 fl70_3 rfl) rfl (J_gd rfl rfl (R_load sc65 rfl (h1.one 3 rfl)) rfl (J_gd rfl rfl (R_index (i := 0) sl65 rfl rfl (hd1.rd.ext E) (by first | assumption | omega)) rfl (J_gd rfl rfl (R_load sc3 rfl ((RdS.getD (hd1.rd.ext E) (i := 0) (by first | assumption | omega)).one 0 rfl)) rfl (J_gd rfl rfl (R_fieldAddr0 fl70_3 rfl) rfl (J_gd rfl rfl (R_load sc65 rfl (h1.one 3 rfl)) rfl (J_gd rfl rfl (R_index (i := 1) sl65 rfl rfl (hd1.rd.ext E) (by first | assumption | omega)) rfl (J_gd rfl rfl (R_load sc3 rfl ((RdS.getD (hd1.rd.ext E) (i := 1) (by first | assumption | omega)).one 0 rfl)) rfl (J_gd rfl rfl (R_eql rfl rfl) rfl (J_gd rfl rfl (R_pickT rfl rfl) rfl (J_st (R_pickF rfl rfl) rfl (J_cutEnd ⟨rfl, rfl, rfl, rfl, rfl, rfl, rfl, rfl, congrArg (fun b => some (Value.bool b)) (show ((List.getD x.outs 0 default) == (List.getD x.outs 1 default)) = ((!(win (x.outs[k]'hi1) 0 7)) || ((decide (0 < ((k : Nat) : Int))) && ((List.getD x.outs 0 default) == (List.getD x.outs 1 default)))) by first | (rw [hg6, hg7] <;> rfl) | (simp [hg6, hg7]; done) | (simp only [nat_nlt] <;> simp)), trivial⟩ rfl)))))))))))
            · have hg7n : ¬ k > 0 := by first | (have h := of_decide_eq_false hg7; omega) | (have h := hg7; simp at h; omega)
              refine J_gdno rfl rfl rfl rfl (J_gdno rfl rfl rfl rfl (J_gdno rfl rfl rfl rfl (J_gdno rfl rfl rfl rfl (J_gdno rfl rfl rfl rfl (J_gdno rfl rfl rfl rfl (J_gdno rfl rfl rfl rfl (J_gdno rfl rfl rfl rfl (J_gdno rfl rfl rfl rfl (J_gd rfl rfl (R_pickF rfl rfl) rfl (J_st (R_pickF rfl rfl) rfl (J_cutEnd ⟨rfl, rfl, rfl, rfl, rfl, rfl, rfl, rfl, congrArg (fun b => some (Value.bool b)) (show false = ((!(win (x.outs[k]'hi1) 0 7)) || ((decide (0 < ((k : Nat) : Int))) && ((List.getD x.outs 0 default) == (List.getD x.outs 1 default)))) by first | (rw [hg6, hg7] <;> rfl) | (simp [hg6, hg7]; done) | (simp only [nat_nlt] <;> simp)), trivial⟩ rfl)))))))))))
        rintro _ rfl
        refine J_done ?_
        refine S_cond rfl (fun hc4 => ?_) (fun hc4 => ?_)
        · refine S_seq ?_
          refine S_reg [true] rfl rfl ?_
          refine J_st (R_assign rfl) rfl (J_done ?_)
          refine S_ret (E_inB_ret (E_lp_ret (E_inB_ret (E_done1 rfl rfl E ?_))))
          exact node_d (by assumption) (node_p (p := win x.a 0 999) (q := x.b == 0) (by assumption) (by rw [node_2 (by assumption), win_kind (n := x.kind) (by have := eq_of_beq (show (x.kind == 2) = true by assumption); omega), Bool.true_and])).2
        · refine S_skip ?_
          refine S_nil (E_inB ?_)
          refine S_reg [true, true, true] rfl rfl ?_
          refine J_st (R_move rfl) rfl (J_st (R_add rfl rfl (add_one hc3n (hd1.ext E).1.1)) rfl (J_st (R_assign rfl) rfl (J_done ?_)))
          refine S_nil (E_again (k + 1) (by omega) ⟨rfl, rfl, rfl, trivial⟩ ⟨E, (by omega), h1, (by omega), all_step hI (by assumption) (nodeL (by assumption)), nodeJ (by assumption)⟩)
      · have hc3n : ¬ k < x.outs.length := by first | (have h := of_decide_eq_false hc3; omega) | (have h := hc3; simp at h; omega)
        refine S_exit (E_lp_exit (E_inB_exit ?_))
        refine S_seq ?_
        refine S_reg [true] rfl rfl ?_
        refine J_st (R_assign rfl) rfl (J_done ?_)
        refine S_ret (E_done1 rfl rfl E ?_)
        exact node_z (p := win x.a 0 999) (q := x.b == 0) (by assumption) (by rw [node_2 (by assumption), win_kind (n := x.kind) (by have := eq_of_beq (show (x.kind == 2) = true by assumption); omega), Bool.true_and]) hI hJ (by omega)
  · refine S_seq ?_
    refine S_reg [true, true] rfl rfl ?_
    refine J_st (R_eql rfl rfl) rfl (J_st (R_assign rfl) rfl (J_done ?_))
    refine S_cond rfl (fun hc5 => ?_) (fun hc5 => ?_)
    · refine S_seq ?_
      refine S_reg [true, true, false, true] rfl rfl ?_
      refine J_st (R_fieldAddr0 fl70_1 rfl) rfl (J_st (R_load sc3 rfl (h1.one 1 rfl)) rfl ?_)
      refine J_call Try.call35 rfl (s_l01In x.a 1 10 _ ) rfl (fun _ w9 e6 hv => ?_)
      subst hv
      replace E := E.trans e6; replace h1 := h1.ext e6
      have z7 := e6.size
      refine J_st (R_assign rfl) rfl (J_done ?_)
      refine S_reg [true, true, true, true, true, false, true] rfl rfl ?_
      refine J_st (R_fieldAddr0 fl70_2 rfl) rfl (J_st (R_load sc3 rfl (h1.one 2 rfl)) rfl (J_st (R_fieldAddr0 fl70_1 rfl) rfl (J_st (R_load sc3 rfl (h1.one 1 rfl)) rfl (J_st (R_sub rfl rfl rfl) rfl ?_))))
      refine J_call Try.call35 rfl (s_l01In x.b 0 (IntKind.i64.wrap (x.a - 1)) _ ) rfl (fun _ w10 e7 hv => ?_)
      subst hv
      replace E := E.trans e7; replace h1 := h1.ext e7
      have z8 := e7.size
      refine J_st (R_assign rfl) rfl (J_done ?_)
      refine S_nil (E_inB ?_)
      refine S_seq ?_
      refine S_seq ?_
      refine S_reg [true, true, false, true, true, true, true, true, true, true, true, true, true, true, true, true, true, true, true, true, true, true, true, true, true, true, true, true, true] rfl rfl ?_
      refine J_st (R_fieldAddr0 fl70_0 rfl) rfl (J_st (R_load sc3 rfl (h1.one 0 rfl)) rfl ?_)
      refine J_call Try.call35 rfl (s_l01In x.kind 1 8 _ ) rfl (fun _ w11 e8 hv => ?_)
      subst hv
      replace E := E.trans e8; replace h1 := h1.ext e8
      have z9 := e8.size
      refine J_st (R_not rfl) rfl (J_st (R_move rfl) rfl ?_)
      refine J_cut 24 [(0, .agg [.int .i64 x.kind, .int .i64 x.a, .int .i64 x.b, o1].toArray), (1, .pointer (some ⟨b1, 0, none⟩)), (2, .bool false), (3, .bool (win x.a 1 10)), (4, .bool (win x.b 0 (IntKind.i64.wrap (x.a - 1)))), (6, .pointer (some ⟨b1, 1, none⟩)), (7, .int .i64 x.a), (8, .bool (x.a == 0)), (9, .pointer (some ⟨b1, 2, none⟩)), (10, .int .i64 x.b), (11, .bool (x.b == 0)), (12, .pointer (some ⟨b1, 0, none⟩)), (13, .int .i64 x.kind), (14, .bool (x.kind == 2)), (15, .bool (x.kind == 2)), (19, .bool (x.kind == 3)), (20, .bool (x.kind == 3)), (21, .pointer (some ⟨b1, 1, none⟩)), (22, .int .i64 x.a), (23, .bool (win x.a 1 10)), (24, .pointer (some ⟨b1, 2, none⟩)), (25, .int .i64 x.b), (26, .pointer (some ⟨b1, 1, none⟩)), (27, .int .i64 x.a), (28, .int .i64 (IntKind.i64.wrap (x.a - 1))), (29, .bool (win x.b 0 (IntKind.i64.wrap (x.a - 1)))), (63, .bool (((((!(win x.kind 1 8)) || (!(win x.a 1 10))) || (!(win x.b 0 (IntKind.i64.wrap (x.a - 1))))) || (decide (2 < ((x.outs.length : Nat) : Int)))) || ((x.kind == 8) && (decide (0 < ((x.outs.length : Nat) : Int))))))] (fun w' => w11 = w') ?_ ?_
      · refine J_if (gd := 39) rfl rfl (fun hg8 => ?_) (fun hg8 => ?_)
        · refine J_gdno rfl rfl rfl rfl (J_gdno rfl rfl rfl rfl (J_st (R_pickT rfl rfl) rfl (J_st (R_move rfl) rfl (J_gdno rfl rfl rfl rfl (J_gdno rfl rfl rfl rfl (J_st (R_pickT rfl rfl) rfl (J_st (R_move rfl) rfl (J_gdno rfl rfl rfl rfl (J_gdno rfl rfl rfl rfl (J_gdno rfl rfl rfl rfl (J_gdno rfl rfl rfl rfl (J_st (R_pickT rfl rfl) rfl (J_st (R_move rfl) rfl (J_gdno rfl rfl rfl rfl (J_gdno rfl rfl rfl rfl (J_gdno rfl rfl rfl rfl (J_gdno rfl rfl rfl rfl (J_gdx rfl rfl rfl (J_gdx rfl rfl rfl (J_gdx rfl rfl rfl (J_gdx rfl rfl rfl (J_gdno rfl rfl rfl rfl (J_st (R_pickT rfl rfl) rfl (J_cutEnd ⟨rfl, rfl, rfl, rfl, rfl, rfl, rfl, rfl, rfl, rfl, rfl, rfl, rfl, rfl, rfl, rfl, rfl, rfl, rfl, rfl, rfl, rfl, rfl, rfl, rfl, rfl, congrArg (fun b => some (Value.bool b)) (show true = (((((!(win x.kind 1 8)) || (!(win x.a 1 10))) || (!(win x.b 0 (IntKind.i64.wrap (x.a - 1))))) || (decide (2 < ((x.outs.length : Nat) : Int)))) || ((x.kind == 8) && (decide (0 < ((x.outs.length : Nat) : Int))))) by first | (rw [hg8] <;> rfl) | (simp [hg8]; done) | (simp only [nat_nlt] <;> simp)), trivial⟩ rfl))))))))))))))))))))))))
        · refine J_gd rfl rfl (R_move rfl) rfl (J_gd rfl rfl (R_not rfl) rfl (J_st (R_pickF rfl rfl) rfl (J_st (R_move rfl) rfl ?_)))
          refine J_if (gd := 43) rfl rfl (fun hg9 => ?_) (fun hg9 => ?_)
          · refine J_gdno rfl rfl rfl rfl (J_gdno rfl rfl rfl rfl (J_st (R_pickT rfl rfl) rfl (J_st (R_move rfl) rfl (J_gdno rfl rfl rfl rfl (J_gdno rfl rfl rfl rfl (J_gdno rfl rfl rfl rfl (J_gdno rfl rfl rfl rfl (J_st (R_pickT rfl rfl) rfl (J_st (R_move rfl) rfl (J_gdno rfl rfl rfl rfl (J_gdno rfl rfl rfl rfl (J_gdno rfl rfl rfl rfl (J_gdno rfl rfl rfl rfl (J_gdx rfl rfl rfl (J_gdx rfl rfl rfl (J_gdx rfl rfl rfl (J_gdx rfl rfl rfl (J_gdno rfl rfl rfl rfl (J_st (R_pickT rfl rfl) rfl (J_cutEnd ⟨rfl, rfl, rfl, rfl, rfl, rfl, rfl, rfl, rfl, rfl, rfl, rfl, rfl, rfl, rfl, rfl, rfl, rfl, rfl, rfl, rfl, rfl, rfl, rfl, rfl, rfl, congrArg (fun b => some (Value.bool b)) (show true = (((((!(win x.kind 1 8)) || (!(win x.a 1 10))) || (!(win x.b 0 (IntKind.i64.wrap (x.a - 1))))) || (decide (2 < ((x.outs.length : Nat) : Int)))) || ((x.kind == 8) && (decide (0 < ((x.outs.length : Nat) : Int))))) by first | (rw [hg8, hg9] <;> rfl) | (simp [hg8, hg9]; done) | (simp only [nat_nlt] <;> simp)), trivial⟩ rfl))))))))))))))))))))
          · refine J_gd rfl rfl (R_move rfl) rfl (J_gd rfl rfl (R_not rfl) rfl (J_st (R_pickF rfl rfl) rfl (J_st (R_move rfl) rfl ?_)))
            refine J_if (gd := 47) rfl rfl (fun hg10 => ?_) (fun hg10 => ?_)
            · refine J_gdno rfl rfl rfl rfl (J_gdno rfl rfl rfl rfl (J_gdno rfl rfl rfl rfl (J_gdno rfl rfl rfl rfl (J_st (R_pickT rfl rfl) rfl (J_st (R_move rfl) rfl (J_gdno rfl rfl rfl rfl (J_gdno rfl rfl rfl rfl (J_gdno rfl rfl rfl rfl (J_gdno rfl rfl rfl rfl (J_gdx rfl rfl rfl (J_gdx rfl rfl rfl (J_gdx rfl rfl rfl (J_gdx rfl rfl rfl (J_gdno rfl rfl rfl rfl (J_st (R_pickT rfl rfl) rfl (J_cutEnd ⟨rfl, rfl, rfl, rfl, rfl, rfl, rfl, rfl, rfl, rfl, rfl, rfl, rfl, rfl, rfl, rfl, rfl, rfl, rfl, rfl, rfl, rfl, rfl, rfl, rfl, rfl, congrArg (fun b => some (Value.bool b)) (show true = (((((!(win x.kind 1 8)) || (!(win x.a 1 10))) || (!(win x.b 0 (IntKind.i64.wrap (x.a - 1))))) || (decide (2 < ((x.outs.length : Nat) : Int)))) || ((x.kind == 8) && (decide (0 < ((x.outs.length : Nat) : Int))))) by first | (rw [hg8, hg9, hg10] <;> rfl) | (simp [hg8, hg9, hg10]; done) | (simp only [nat_nlt] <;> simp)), trivial⟩ rfl))))))))))))))))
            · refine J_gd rfl rfl (R_fieldAddr0 fl70_3 rfl) rfl (J_gd rfl rfl (R_load sc65 rfl (h1.one 3 rfl)) rfl (J_gd rfl rfl (R_len Try.underlying65 rfl (hd1.ext E).len) rfl (J_gd rfl rfl (R_gtr rfl rfl) rfl (J_st (R_pickF rfl rfl) rfl (J_st (R_move rfl) rfl ?_)))))
              refine J_if (gd := 53) rfl rfl (fun hg11 => ?_) (fun hg11 => ?_)
              · have hg11n : x.outs.length > 2 := by first | (have h := of_decide_eq_true hg11; omega) | (have h := hg11; simp at h; omega)
                refine J_gdno rfl rfl rfl rfl (J_gdno rfl rfl rfl rfl (J_gdno rfl rfl rfl rfl (J_gdno rfl rfl rfl rfl (J_gdx rfl rfl rfl (J_gdx rfl rfl rfl (J_gdx rfl rfl rfl (J_gdx rfl rfl rfl (J_gdno rfl rfl rfl rfl (J_st (R_pickT rfl rfl) rfl (J_cutEnd ⟨rfl, rfl, rfl, rfl, rfl, rfl, rfl, rfl, rfl, rfl, rfl, rfl, rfl, rfl, rfl, rfl, rfl, rfl, rfl, rfl, rfl, rfl, rfl, rfl, rfl, rfl, congrArg (fun b => some (Value.bool b)) (show true = (((((!(win x.kind 1 8)) || (!(win x.a 1 10))) || (!(win x.b 0 (IntKind.i64.wrap (x.a - 1))))) || (decide (2 < ((x.outs.length : Nat) : Int)))) || ((x.kind == 8) && (decide (0 < ((x.outs.length : Nat) : Int))))) by first | (rw [hg8, hg9, hg10, hg11] <;> rfl) | (simp [hg8, hg9, hg10, hg11]; done) | (simp only [nat_nlt] <;> simp)), trivial⟩ rfl))))))))))
              · have hg11n : ¬ x.outs.length > 2 := by first | (have h := of_decide_eq_false hg11; omega) | (have h := hg11; simp at h; omega)
                refine J_gd rfl rfl (R_fieldAddr0 fl70_0 rfl) rfl (J_gd rfl rfl (R_load sc3 rfl (h1.one 0 rfl)) rfl (J_gd rfl rfl (R_eql rfl rfl) rfl (J_gd rfl rfl (R_move rfl) rfl ?_)))
                refine J_if (gd := 57) rfl rfl (fun hg12 => ?_) (fun hg12 => ?_)
                · refine J_gd rfl rfl (R_fieldAddr0 fl70_3 rfl) rfl (J_gd rfl rfl (R_load sc65 rfl (h1.one 3 rfl)) rfl (J_gd rfl rfl (R_len Try.underlying65 rfl (hd1.ext E).len) rfl (J_gd rfl rfl (R_gtr rfl rfl) rfl (J_gd rfl rfl (R_pickT rfl rfl) rfl (J_st (R_pickF rfl rfl) rfl (J_cutEnd ⟨rfl, rfl, rfl, rfl, rfl, rfl, rfl, rfl, rfl, rfl, rfl, rfl, rfl, rfl, rfl, rfl, rfl, rfl, rfl, rfl, rfl, rfl, rfl, rfl, rfl, rfl, congrArg (fun b => some (Value.bool b)) (show (decide (0 < ((x.outs.length : Nat) : Int))) = (((((!(win x.kind 1 8)) || (!(win x.a 1 10))) || (!(win x.b 0 (IntKind.i64.wrap (x.a - 1))))) || (decide (2 < ((x.outs.length : Nat) : Int)))) || ((x.kind == 8) && (decide (0 < ((x.outs.length : Nat) : Int))))) by first | (rw [hg8, hg9, hg10, hg11, hg12] <;> rfl) | (simp [hg8, hg9, hg10, hg11, hg12]; done) | (simp only [nat_nlt] <;> simp)), trivial⟩ rfl))))))
                · refine J_gdno rfl rfl rfl rfl (J_gdno rfl rfl rfl rfl (J_gdno rfl rfl rfl rfl (J_gdno rfl rfl rfl rfl (J_gd rfl rfl (R_pickF rfl rfl) rfl (J_st (R_pickF rfl rfl) rfl (J_cutEnd ⟨rfl, rfl, rfl, rfl, rfl, rfl, rfl, rfl, rfl, rfl, rfl, rfl, rfl, rfl, rfl, rfl, rfl, rfl, rfl, rfl, rfl, rfl, rfl, rfl, rfl, rfl, congrArg (fun b => some (Value.bool b)) (show false = (((((!(win x.kind 1 8)) || (!(win x.a 1 10))) || (!(win x.b 0 (IntKind.i64.wrap (x.a - 1))))) || (decide (2 < ((x.outs.length : Nat) : Int)))) || ((x.kind == 8) && (decide (0 < ((x.outs.length : Nat) : Int))))) by first | (rw [hg8, hg9, hg10, hg11, hg12] <;> rfl) | (simp [hg8, hg9, hg10, hg11, hg12]; done) | (simp only [nat_nlt] <;> simp)), trivial⟩ rfl))))))
      rintro _ rfl
      refine J_done ?_
      refine S_cond rfl (fun hc6 => ?_) (fun hc6 => ?_)
      · refine S_seq ?_
        refine S_reg [true] rfl rfl ?_
        refine J_st (R_assign rfl) rfl (J_done ?_)
        refine S_ret (E_done1 rfl rfl E ?_)
        exact node_s (p := win x.a 1 10) (q := win x.b 0 (IntKind.i64.wrap (x.a - 1))) (by rw [node_3 (by assumption), win_kind (n := x.kind) (by have := eq_of_beq (show (x.kind == 3) = true by assumption); omega), Bool.true_and]) (by assumption)
      · refine S_skip ?_
        refine S_seq ?_
        refine S_seq ?_
        refine S_reg [true] rfl rfl ?_
        refine J_st (R_assign rfl) rfl (J_done ?_)
        refine S_block ?_
        refine S_loop (fun (k : Nat) => [(1, .pointer (some ⟨b1, 0, none⟩)), (2, .bool false), (5, .int .i64 ((k : Nat) : Int))]) (fun (k : Nat) w' => Ext w w' ∧ w11.heap.size ≤ w'.heap.size ∧ Blk w' b1 ([.int .i64 x.kind, .int .i64 x.a, .int .i64 x.b, o1]) ∧ k ≤ x.outs.length ∧ (x.outs.take k).all (win · 0 7) = true ∧ (1 < k → ((List.getD x.outs 0 default) == (List.getD x.outs 1 default)) = false)) (fun (k : Nat) => x.outs.length - k) 0 ⟨rfl, rfl, rfl, trivial⟩ ⟨E, Nat.le_refl _, h1, Nat.zero_le _, rfl, (by omega)⟩ ?_
        clear E h1
        rintro k w13 ⟨E, z10, h1, hk, hI, hJ⟩
        refine S_seq ?_
        refine S_seq ?_
        refine S_reg [true, true, true, true, true] rfl rfl ?_
        refine J_st (R_move rfl) rfl (J_st (R_fieldAddr0 fl70_3 rfl) rfl (J_st (R_load sc65 rfl (h1.one 3 rfl)) rfl (J_st (R_len Try.underlying65 rfl (hd1.ext E).len) rfl (J_st (R_lss rfl rfl) rfl (J_done ?_)))))
        refine S_cond rfl (fun hc7 => ?_) (fun hc7 => ?_)
        · have hc7n : k < x.outs.length := by first | (have h := of_decide_eq_true hc7; omega) | (have h := hc7; simp at h; omega)
          refine S_skip ?_
          refine S_seq ?_
          refine S_block ?_
          refine S_seq ?_
          refine S_regD mixed [(0, true), (1, true), (2, true), (3, true), (4, true), (5, false), (6, true), (7, true), (8, true), (9, true), (10, true), (11, true), (12, true), (13, true), (14, true), (15, true), (16, true), (17, true), (18, true), (19, true), (20, true), (21, true)] (by decide +kernel) rfl (fun w14 e9 => ?_)
          replace E := E.trans e9; replace h1 := h1.ext e9
          have z11 := e9.size
          refine J_st (R_fieldAddr0 fl70_3 rfl) rfl (J_st (R_load sc65 rfl (h1.one 3 rfl)) rfl (J_st (R_move rfl) rfl ?_))
          have hi2 : k < x.outs.length := (by first | assumption | omega)
          refine J_st (R_index (i := k) sl65 rfl rfl (hd1.rd.ext E) hi2) rfl (J_st (R_load sc3 rfl (((hd1.rd.ext E).get hi2).one 0 rfl)) rfl ?_)
          refine J_call Try.call35 rfl (s_l01In (x.outs[k]'hi2) 0 7 _ ) rfl (fun _ w15 e10 hv => ?_)
          subst hv
          replace E := E.trans e10; replace h1 := h1.ext e10
          have z12 := e10.size
          refine J_st (R_not rfl) rfl (J_st (R_move rfl) rfl ?_)
          refine J_cut 14 [(1, .pointer (some ⟨b1, 0, none⟩)), (2, .bool false), (5, .int .i64 ((k : Nat) : Int)), (64, .int .i64 ((k : Nat) : Int)), (65, .pointer (some ⟨b1, 3, none⟩)), (66, o1), (67, .int .i64 ((x.outs.length : Nat) : Int)), (68, .bool (decide (((k : Nat) : Int) < ((x.outs.length : Nat) : Int)))), (92, .bool ((!(win (x.outs[k]'hi2) 0 7)) || ((decide (0 < ((k : Nat) : Int))) && ((List.getD x.outs 0 default) == (List.getD x.outs 1 default)))))] (fun w' => w15 = w') ?_ ?_
          · refine J_if (gd := 78) rfl rfl (fun hg13 => ?_) (fun hg13 => ?_)
            · refine J_gdno rfl rfl rfl rfl (J_gdno rfl rfl rfl rfl (J_gdno rfl rfl rfl rfl (J_gdx rfl rfl rfl (J_gdx rfl rfl rfl (J_gdx rfl rfl rfl (J_gdx rfl rfl rfl (J_gdx rfl rfl rfl (J_gdx rfl rfl rfl (J_gdx rfl rfl rfl (J_gdx rfl rfl rfl (J_gdx rfl rfl rfl (J_gdno rfl rfl rfl rfl (J_st (R_pickT rfl rfl) rfl (J_cutEnd ⟨rfl, rfl, rfl, rfl, rfl, rfl, rfl, rfl, congrArg (fun b => some (Value.bool b)) (show true = ((!(win (x.outs[k]'hi2) 0 7)) || ((decide (0 < ((k : Nat) : Int))) && ((List.getD x.outs 0 default) == (List.getD x.outs 1 default)))) by first | (rw [hg13] <;> rfl) | (simp [hg13]; done) | (simp only [nat_nlt] <;> simp)), trivial⟩ rfl))))))))))))))
            · refine J_gd rfl rfl (R_move rfl) rfl (J_gd rfl rfl (R_gtr rfl rfl) rfl (J_gd rfl rfl (R_move rfl) rfl ?_))
              refine J_if (gd := 81) rfl rfl (fun hg14 => ?_) (fun hg14 => ?_)
              · have hg14n : k > 0 := by first | (have h := of_decide_eq_true hg14; omega) | (have h := hg14; simp at h; omega)
                refine J_gd rfl rfl (R_fieldAddr0 fl70_3 rfl) rfl (J_gd rfl rfl (R_load sc65 rfl (h1.one 3 rfl)) rfl (J_gd rfl rfl (R_index (i := 0) sl65 rfl rfl (hd1.rd.ext E) (by first | assumption | omega)) rfl (J_gd rfl rfl (R_load sc3 rfl ((RdS.getD (hd1.rd.ext E) (i := 0) (by first | assumption | omega)).one 0 rfl)) rfl (J_gd rfl rfl (R_fieldAddr0 fl70_3 rfl) rfl (J_gd rfl rfl (R_load sc65 rfl (h1.one 3 rfl)) rfl (J_gd rfl rfl (R_index (i := 1) sl65 rfl rfl (hd1.rd.ext E) (by first | assumption | omega)) rfl (J_gd rfl rfl (R_load sc3 rfl ((RdS.getD (hd1.rd.ext E) (i := 1) (by first | assumption | omega)).one 0 rfl)) rfl (J_gd rfl rfl (R_eql rfl rfl) rfl (J_gd rfl rfl (R_pickT rfl rfl) rfl (J_st (R_pickF rfl rfl) rfl (J_cutEnd ⟨rfl, rfl, rfl, rfl, rfl, rfl, rfl, rfl, congrArg (fun b => some (Value.bool b)) (show ((List.getD x.outs 0 default) == (List.getD x.outs 1 default)) = ((!(win (x.outs[k]'hi2) 0 7)) || ((decide (0 < ((k : Nat) : Int))) && ((List.getD x.outs 0 default) == (List.getD x.outs 1 default)))) by first | (rw [hg13, hg14] <;> rfl) | (simp [hg13, hg14]; done) | (simp only [nat_nlt] <;> simp)), trivial⟩ rfl)))))))))))
              · have hg14n : ¬ k > 0 := by first | (have h := of_decide_eq_false hg14; omega) | (have h := hg14; simp at h; omega)
                refine J_gdno rfl rfl rfl rfl (J_gdno rfl rfl rfl rfl (J_gdno rfl rfl rfl rfl (J_gdno rfl rfl rfl rfl (J_gdno rfl rfl rfl rfl (J_gdno rfl rfl rfl rfl (J_gdno rfl rfl rfl rfl (J_gdno rfl rfl rfl rfl (J_gdno rfl rfl rfl rfl (J_gd rfl rfl (R_pickF rfl rfl) rfl (J_st (R_pickF rfl rfl) rfl (J_cutEnd ⟨rfl, rfl, rfl, rfl, rfl, rfl, rfl, rfl, congrArg (fun b => some (Value.bool b)) (show false = ((!(win (x.outs[k]'hi2) 0 7)) || ((decide (0 < ((k : Nat) : Int))) && ((List.getD x.outs 0 default) == (List.getD x.outs 1 default)))) by first | (rw [hg13, hg14] <;> rfl) | (simp [hg13, hg14]; done) | (simp only [nat_nlt] <;> simp)), trivial⟩ rfl)))))))))))
          rintro _ rfl
          refine J_done ?_
          refine S_cond rfl (fun hc8 => ?_) (fun hc8 => ?_)
          · refine S_seq ?_
            refine S_reg [true] rfl rfl ?_
            refine J_st (R_assign rfl) rfl (J_done ?_)
            refine S_ret (E_inB_ret (E_lp_ret (E_inB_ret (E_done1 rfl rfl E ?_))))
            exact node_d (by assumption) (node_p (p := win x.a 1 10) (q := win x.b 0 (IntKind.i64.wrap (x.a - 1))) (by assumption) (by rw [node_3 (by assumption), win_kind (n := x.kind) (by have := eq_of_beq (show (x.kind == 3) = true by assumption); omega), Bool.true_and])).2
          · refine S_skip ?_
            refine S_nil (E_inB ?_)
            refine S_reg [true, true, true] rfl rfl ?_
            refine J_st (R_move rfl) rfl (J_st (R_add rfl rfl (add_one hc7n (hd1.ext E).1.1)) rfl (J_st (R_assign rfl) rfl (J_done ?_)))
            refine S_nil (E_again (k + 1) (by omega) ⟨rfl, rfl, rfl, trivial⟩ ⟨E, (by omega), h1, (by omega), all_step hI (by assumption) (nodeL (by assumption)), nodeJ (by assumption)⟩)
        · have hc7n : ¬ k < x.outs.length := by first | (have h := of_decide_eq_false hc7; omega) | (have h := hc7; simp at h; omega)
          refine S_exit (E_lp_exit (E_inB_exit ?_))
          refine S_seq ?_
          refine S_reg [true] rfl rfl ?_
          refine J_st (R_assign rfl) rfl (J_done ?_)
          refine S_ret (E_done1 rfl rfl E ?_)
          exact node_z (p := win x.a 1 10) (q := win x.b 0 (IntKind.i64.wrap (x.a - 1))) (by assumption) (by rw [node_3 (by assumption), win_kind (n := x.kind) (by have := eq_of_beq (show (x.kind == 3) = true by assumption); omega), Bool.true_and]) hI hJ (by omega)
    · refine S_seq ?_
      refine S_reg [true, true] rfl rfl ?_
      refine J_st (R_eql rfl rfl) rfl (J_st (R_assign rfl) rfl (J_done ?_))
      refine S_cond rfl (fun hc9 => ?_) (fun hc9 => ?_)
      · refine S_reg [true, true, false, true] rfl rfl ?_
        refine J_st (R_fieldAddr0 fl70_1 rfl) rfl (J_st (R_load sc3 rfl (h1.one 1 rfl)) rfl ?_)
        refine J_call Try.call35 rfl (s_l01In x.a 0 99 _ ) rfl (fun _ w17 e11 hv => ?_)
        subst hv
        replace E := E.trans e11; replace h1 := h1.ext e11
        have z13 := e11.size
        refine J_st (R_assign rfl) rfl (J_done ?_)
        refine S_nil (E_inB ?_)
        refine S_seq ?_
        refine S_seq ?_
        refine S_reg [true, true, false, true, true, true, true, true, true, true, true, true, true, true, true, true, true, true, true, true, true, true, true, true, true, true, true, true, true] rfl rfl ?_
        refine J_st (R_fieldAddr0 fl70_0 rfl) rfl (J_st (R_load sc3 rfl (h1.one 0 rfl)) rfl ?_)
        refine J_call Try.call35 rfl (s_l01In x.kind 1 8 _ ) rfl (fun _ w18 e12 hv => ?_)
        subst hv
        replace E := E.trans e12; replace h1 := h1.ext e12
        have z14 := e12.size
        refine J_st (R_not rfl) rfl (J_st (R_move rfl) rfl ?_)
        refine J_cut 24 [(0, .agg [.int .i64 x.kind, .int .i64 x.a, .int .i64 x.b, o1].toArray), (1, .pointer (some ⟨b1, 0, none⟩)), (2, .bool false), (3, .bool (win x.a 0 99)), (4, .bool (x.b == 0)), (6, .pointer (some ⟨b1, 1, none⟩)), (7, .int .i64 x.a), (8, .bool (x.a == 0)), (9, .pointer (some ⟨b1, 2, none⟩)), (10, .int .i64 x.b), (11, .bool (x.b == 0)), (12, .pointer (some ⟨b1, 0, none⟩)), (13, .int .i64 x.kind), (14, .bool (x.kind == 2)), (15, .bool (x.kind == 2)), (19, .bool (x.kind == 3)), (20, .bool (x.kind == 3)), (30, .bool (x.kind == 4)), (31, .bool (x.kind == 4)), (32, .pointer (some ⟨b1, 1, none⟩)), (33, .int .i64 x.a), (34, .bool (win x.a 0 99)), (63, .bool (((((!(win x.kind 1 8)) || (!(win x.a 0 99))) || (!(x.b == 0))) || (decide (2 < ((x.outs.length : Nat) : Int)))) || ((x.kind == 8) && (decide (0 < ((x.outs.length : Nat) : Int))))))] (fun w' => w18 = w') ?_ ?_
        · refine J_if (gd := 39) rfl rfl (fun hg15 => ?_) (fun hg15 => ?_)
          · refine J_gdno rfl rfl rfl rfl (J_gdno rfl rfl rfl rfl (J_st (R_pickT rfl rfl) rfl (J_st (R_move rfl) rfl (J_gdno rfl rfl rfl rfl (J_gdno rfl rfl rfl rfl (J_st (R_pickT rfl rfl) rfl (J_st (R_move rfl) rfl (J_gdno rfl rfl rfl rfl (J_gdno rfl rfl rfl rfl (J_gdno rfl rfl rfl rfl (J_gdno rfl rfl rfl rfl (J_st (R_pickT rfl rfl) rfl (J_st (R_move rfl) rfl (J_gdno rfl rfl rfl rfl (J_gdno rfl rfl rfl rfl (J_gdno rfl rfl rfl rfl (J_gdno rfl rfl rfl rfl (J_gdx rfl rfl rfl (J_gdx rfl rfl rfl (J_gdx rfl rfl rfl (J_gdx rfl rfl rfl (J_gdno rfl rfl rfl rfl (J_st (R_pickT rfl rfl) rfl (J_cutEnd ⟨rfl, rfl, rfl, rfl, rfl, rfl, rfl, rfl, rfl, rfl, rfl, rfl, rfl, rfl, rfl, rfl, rfl, rfl, rfl, rfl, rfl, rfl, congrArg (fun b => some (Value.bool b)) (show true = (((((!(win x.kind 1 8)) || (!(win x.a 0 99))) || (!(x.b == 0))) || (decide (2 < ((x.outs.length : Nat) : Int)))) || ((x.kind == 8) && (decide (0 < ((x.outs.length : Nat) : Int))))) by first | (rw [hg15] <;> rfl) | (simp [hg15]; done) | (simp only [nat_nlt] <;> simp)), trivial⟩ rfl))))))))))))))))))))))))
          · refine J_gd rfl rfl (R_move rfl) rfl (J_gd rfl rfl (R_not rfl) rfl (J_st (R_pickF rfl rfl) rfl (J_st (R_move rfl) rfl ?_)))
            refine J_if (gd := 43) rfl rfl (fun hg16 => ?_) (fun hg16 => ?_)
            · refine J_gdno rfl rfl rfl rfl (J_gdno rfl rfl rfl rfl (J_st (R_pickT rfl rfl) rfl (J_st (R_move rfl) rfl (J_gdno rfl rfl rfl rfl (J_gdno rfl rfl rfl rfl (J_gdno rfl rfl rfl rfl (J_gdno rfl rfl rfl rfl (J_st (R_pickT rfl rfl) rfl (J_st (R_move rfl) rfl (J_gdno rfl rfl rfl rfl (J_gdno rfl rfl rfl rfl (J_gdno rfl rfl rfl rfl (J_gdno rfl rfl rfl rfl (J_gdx rfl rfl rfl (J_gdx rfl rfl rfl (J_gdx rfl rfl rfl (J_gdx rfl rfl rfl (J_gdno rfl rfl rfl rfl (J_st (R_pickT rfl rfl) rfl (J_cutEnd ⟨rfl, rfl, rfl, rfl, rfl, rfl, rfl, rfl, rfl, rfl, rfl, rfl, rfl, rfl, rfl, rfl, rfl, rfl, rfl, rfl, rfl, rfl, congrArg (fun b => some (Value.bool b)) (show true = (((((!(win x.kind 1 8)) || (!(win x.a 0 99))) || (!(x.b == 0))) || (decide (2 < ((x.outs.length : Nat) : Int)))) || ((x.kind == 8) && (decide (0 < ((x.outs.length : Nat) : Int))))) by first | (rw [hg15, hg16] <;> rfl) | (simp [hg15, hg16]; done) | (simp only [nat_nlt] <;> simp)), trivial⟩ rfl))))))))))))))))))))
            · refine J_gd rfl rfl (R_move rfl) rfl (J_gd rfl rfl (R_not rfl) rfl (J_st (R_pickF rfl rfl) rfl (J_st (R_move rfl) rfl ?_)))
              refine J_if (gd := 47) rfl rfl (fun hg17 => ?_) (fun hg17 => ?_)
              · refine J_gdno rfl rfl rfl rfl (J_gdno rfl rfl rfl rfl (J_gdno rfl rfl rfl rfl (J_gdno rfl rfl rfl rfl (J_st (R_pickT rfl rfl) rfl (J_st (R_move rfl) rfl (J_gdno rfl rfl rfl rfl (J_gdno rfl rfl rfl rfl (J_gdno rfl rfl rfl rfl (J_gdno rfl rfl rfl rfl (J_gdx rfl rfl rfl (J_gdx rfl rfl rfl (J_gdx rfl rfl rfl (J_gdx rfl rfl rfl (J_gdno rfl rfl rfl rfl (J_st (R_pickT rfl rfl) rfl (J_cutEnd ⟨rfl, rfl, rfl, rfl, rfl, rfl, rfl, rfl, rfl, rfl, rfl, rfl, rfl, rfl, rfl, rfl, rfl, rfl, rfl, rfl, rfl, rfl, congrArg (fun b => some (Value.bool b)) (show true = (((((!(win x.kind 1 8)) || (!(win x.a 0 99))) || (!(x.b == 0))) || (decide (2 < ((x.outs.length : Nat) : Int)))) || ((x.kind == 8) && (decide (0 < ((x.outs.length : Nat) : Int))))) by first | (rw [hg15, hg16, hg17] <;> rfl) | (simp [hg15, hg16, hg17]; done) | (simp only [nat_nlt] <;> simp)), trivial⟩ rfl))))))))))))))))
              · refine J_gd rfl rfl (R_fieldAddr0 fl70_3 rfl) rfl (J_gd rfl rfl (R_load sc65 rfl (h1.one 3 rfl)) rfl (J_gd rfl rfl (R_len Try.underlying65 rfl (hd1.ext E).len) rfl (J_gd rfl rfl (R_gtr rfl rfl) rfl (J_st (R_pickF rfl rfl) rfl (J_st (R_move rfl) rfl ?_)))))
                refine J_if (gd := 53) rfl rfl (fun hg18 => ?_) (fun hg18 => ?_)
                · have hg18n : x.outs.length > 2 := by first | (have h := of_decide_eq_true hg18; omega) | (have h := hg18; simp at h; omega)
                  refine J_gdno rfl rfl rfl rfl (J_gdno rfl rfl rfl rfl (J_gdno rfl rfl rfl rfl (J_gdno rfl rfl rfl rfl (J_gdx rfl rfl rfl (J_gdx rfl rfl rfl (J_gdx rfl rfl rfl (J_gdx rfl rfl rfl (J_gdno rfl rfl rfl rfl (J_st (R_pickT rfl rfl) rfl (J_cutEnd ⟨rfl, rfl, rfl, rfl, rfl, rfl, rfl, rfl, rfl, rfl, rfl, rfl, rfl, rfl, rfl, rfl, rfl, rfl, rfl, rfl, rfl, rfl, congrArg (fun b => some (Value.bool b)) (show true = (((((!(win x.kind 1 8)) || (!(win x.a 0 99))) || (!(x.b == 0))) || (decide (2 < ((x.outs.length : Nat) : Int)))) || ((x.kind == 8) && (decide (0 < ((x.outs.length : Nat) : Int))))) by first | (rw [hg15, hg16, hg17, hg18] <;> rfl) | (simp [hg15, hg16, hg17, hg18]; done) | (simp only [nat_nlt] <;> simp)), trivial⟩ rfl))))))))))
                · have hg18n : ¬ x.outs.length > 2 := by first | (have h := of_decide_eq_false hg18; omega) | (have h := hg18; simp at h; omega)
                  refine J_gd rfl rfl (R_fieldAddr0 fl70_0 rfl) rfl (J_gd rfl rfl (R_load sc3 rfl (h1.one 0 rfl)) rfl (J_gd rfl rfl (R_eql rfl rfl) rfl (J_gd rfl rfl (R_move rfl) rfl ?_)))
                  refine J_if (gd := 57) rfl rfl (fun hg19 => ?_) (fun hg19 => ?_)
                  · refine J_gd rfl rfl (R_fieldAddr0 fl70_3 rfl) rfl (J_gd rfl rfl (R_load sc65 rfl (h1.one 3 rfl)) rfl (J_gd rfl rfl (R_len Try.underlying65 rfl (hd1.ext E).len) rfl (J_gd rfl rfl (R_gtr rfl rfl) rfl (J_gd rfl rfl (R_pickT rfl rfl) rfl (J_st (R_pickF rfl rfl) rfl (J_cutEnd ⟨rfl, rfl, rfl, rfl, rfl, rfl, rfl, rfl, rfl, rfl, rfl, rfl, rfl, rfl, rfl, rfl, rfl, rfl, rfl, rfl, rfl, rfl, congrArg (fun b => some (Value.bool b)) (show (decide (0 < ((x.outs.length : Nat) : Int))) = (((((!(win x.kind 1 8)) || (!(win x.a 0 99))) || (!(x.b == 0))) || (decide (2 < ((x.outs.length : Nat) : Int)))) || ((x.kind == 8) && (decide (0 < ((x.outs.length : Nat) : Int))))) by first | (rw [hg15, hg16, hg17, hg18, hg19] <;> rfl) | (simp [hg15, hg16, hg17, hg18, hg19]; done) | (simp only [nat_nlt] <;> simp)), trivial⟩ rfl))))))
                  · refine J_gdno rfl rfl rfl rfl (J_gdno rfl rfl rfl rfl (J_gdno rfl rfl rfl rfl (J_gdno rfl rfl rfl rfl (J_gd rfl rfl (R_pickF rfl rfl) rfl (J_st (R_pickF rfl rfl) rfl (J_cutEnd ⟨rfl, rfl, rfl, rfl, rfl, rfl, rfl, rfl, rfl, rfl, rfl, rfl, rfl, rfl, rfl, rfl, rfl, rfl, rfl, rfl, rfl, rfl, congrArg (fun b => some (Value.bool b)) (show false = (((((!(win x.kind 1 8)) || (!(win x.a 0 99))) || (!(x.b == 0))) || (decide (2 < ((x.outs.length : Nat) : Int)))) || ((x.kind == 8) && (decide (0 < ((x.outs.length : Nat) : Int))))) by first | (rw [hg15, hg16, hg17, hg18, hg19] <;> rfl) | (simp [hg15, hg16, hg17, hg18, hg19]; done) | (simp only [nat_nlt] <;> simp)), trivial⟩ rfl))))))
        rintro _ rfl
        refine J_done ?_
        refine S_cond rfl (fun hc10 => ?_) (fun hc10 => ?_)
        · refine S_seq ?_
          refine S_reg [true] rfl rfl ?_
          refine J_st (R_assign rfl) rfl (J_done ?_)
          refine S_ret (E_done1 rfl rfl E ?_)
          exact node_s (p := win x.a 0 99) (q := x.b == 0) (by rw [node_4 (by assumption), win_kind (n := x.kind) (by have := eq_of_beq (show (x.kind == 4) = true by assumption); omega), Bool.true_and]) (by assumption)
        · refine S_skip ?_
          refine S_seq ?_
          refine S_seq ?_
          refine S_reg [true] rfl rfl ?_
          refine J_st (R_assign rfl) rfl (J_done ?_)
          refine S_block ?_
          refine S_loop (fun (k : Nat) => [(1, .pointer (some ⟨b1, 0, none⟩)), (2, .bool false), (5, .int .i64 ((k : Nat) : Int))]) (fun (k : Nat) w' => Ext w w' ∧ w18.heap.size ≤ w'.heap.size ∧ Blk w' b1 ([.int .i64 x.kind, .int .i64 x.a, .int .i64 x.b, o1]) ∧ k ≤ x.outs.length ∧ (x.outs.take k).all (win · 0 7) = true ∧ (1 < k → ((List.getD x.outs 0 default) == (List.getD x.outs 1 default)) = false)) (fun (k : Nat) => x.outs.length - k) 0 ⟨rfl, rfl, rfl, trivial⟩ ⟨E, Nat.le_refl _, h1, Nat.zero_le _, rfl, (by omega)⟩ ?_
          clear E h1
          rintro k w20 ⟨E, z15, h1, hk, hI, hJ⟩
          refine S_seq ?_
          refine S_seq ?_
          refine S_reg [true, true, true, true, true] rfl rfl ?_
          refine J_st (R_move rfl) rfl (J_st (R_fieldAddr0 fl70_3 rfl) rfl (J_st (R_load sc65 rfl (h1.one 3 rfl)) rfl (J_st (R_len Try.underlying65 rfl (hd1.ext E).len) rfl (J_st (R_lss rfl rfl) rfl (J_done ?_)))))
          refine S_cond rfl (fun hc11 => ?_) (fun hc11 => ?_)
          · have hc11n : k < x.outs.length := by first | (have h := of_decide_eq_true hc11; omega) | (have h := hc11; simp at h; omega)
            refine S_skip ?_
            refine S_seq ?_
            refine S_block ?_
            refine S_seq ?_
            refine S_regD mixed [(0, true), (1, true), (2, true), (3, true), (4, true), (5, false), (6, true), (7, true), (8, true), (9, true), (10, true), (11, true), (12, true), (13, true), (14, true), (15, true), (16, true), (17, true), (18, true), (19, true), (20, true), (21, true)] (by decide +kernel) rfl (fun w21 e13 => ?_)
            replace E := E.trans e13; replace h1 := h1.ext e13
            have z16 := e13.size
            refine J_st (R_fieldAddr0 fl70_3 rfl) rfl (J_st (R_load sc65 rfl (h1.one 3 rfl)) rfl (J_st (R_move rfl) rfl ?_))
            have hi3 : k < x.outs.length := (by first | assumption | omega)
            refine J_st (R_index (i := k) sl65 rfl rfl (hd1.rd.ext E) hi3) rfl (J_st (R_load sc3 rfl (((hd1.rd.ext E).get hi3).one 0 rfl)) rfl ?_)
            refine J_call Try.call35 rfl (s_l01In (x.outs[k]'hi3) 0 7 _ ) rfl (fun _ w22 e14 hv => ?_)
            subst hv
            replace E := E.trans e14; replace h1 := h1.ext e14
            have z17 := e14.size
            refine J_st (R_not rfl) rfl (J_st (R_move rfl) rfl ?_)
            refine J_cut 14 [(1, .pointer (some ⟨b1, 0, none⟩)), (2, .bool false), (5, .int .i64 ((k : Nat) : Int)), (64, .int .i64 ((k : Nat) : Int)), (65, .pointer (some ⟨b1, 3, none⟩)), (66, o1), (67, .int .i64 ((x.outs.length : Nat) : Int)), (68, .bool (decide (((k : Nat) : Int) < ((x.outs.length : Nat) : Int)))), (92, .bool ((!(win (x.outs[k]'hi3) 0 7)) || ((decide (0 < ((k : Nat) : Int))) && ((List.getD x.outs 0 default) == (List.getD x.outs 1 default)))))] (fun w' => w22 = w') ?_ ?_
            · refine J_if (gd := 78) rfl rfl (fun hg20 => ?_) (fun hg20 => ?_)
              · refine J_gdno rfl rfl rfl rfl (J_gdno rfl rfl rfl rfl (J_gdno rfl rfl rfl rfl (J_gdx rfl rfl rfl (J_gdx rfl rfl rfl (J_gdx rfl rfl rfl (J_gdx rfl rfl rfl (J_gdx rfl rfl rfl (J_gdx rfl rfl rfl (J_gdx rfl rfl rfl (J_gdx rfl rfl rfl (J_gdx rfl rfl rfl (J_gdno rfl rfl rfl rfl (J_st (R_pickT rfl rfl) rfl (J_cutEnd ⟨rfl, rfl, rfl, rfl, rfl, rfl, rfl, rfl, congrArg (fun b => some (Value.bool b)) (show true = ((!(win (x.outs[k]'hi3) 0 7)) || ((decide (0 < ((k : Nat) : Int))) && ((List.getD x.outs 0 default) == (List.getD x.outs 1 default)))) by first | (rw [hg20] <;> rfl) | (simp [hg20]; done) | (simp only [nat_nlt] <;> simp)), trivial⟩ rfl))))))))))))))
              · refine J_gd rfl rfl (R_move rfl) rfl (J_gd rfl rfl (R_gtr rfl rfl) rfl (J_gd rfl rfl (R_move rfl) rfl ?_))
                refine J_if (gd := 81) rfl rfl (fun hg21 => ?_) (fun hg21 => ?_)
                · have hg21n : k > 0 := by first | (have h := of_decide_eq_true hg21; omega) | (have h := hg21; simp at h; omega)
                  refine J_gd rfl rfl (R_fieldAddr0 fl70_3 rfl) rfl (J_gd rfl rfl (R_load sc65 rfl (h1.one 3 rfl)) rfl (J_gd rfl rfl (R_index (i := 0) sl65 rfl rfl (hd1.rd.ext E) (by first | assumption | omega)) rfl (J_gd rfl rfl (R_load sc3 rfl ((RdS.getD (hd1.rd.ext E) (i := 0) (by first | assumption | omega)).one 0 rfl)) rfl (J_gd rfl rfl (R_fieldAddr0 fl70_3 rfl) rfl (J_gd rfl rfl (R_load sc65 rfl (h1.one 3 rfl)) rfl (J_gd rfl rfl (R_index (i := 1) sl65 rfl rfl (hd1.rd.ext E) (by first | assumption | omega)) rfl (J_gd rfl rfl (R_load sc3 rfl ((RdS.getD (hd1.rd.ext E) (i := 1) (by first | assumption | omega)).one 0 rfl)) rfl (J_gd rfl rfl (R_eql rfl rfl) rfl (J_gd rfl rfl (R_pickT rfl rfl) rfl (J_st (R_pickF rfl rfl) rfl (J_cutEnd ⟨rfl, rfl, rfl, rfl, rfl, rfl, rfl, rfl, congrArg (fun b => some (Value.bool b)) (show ((List.getD x.outs 0 default) == (List.getD x.outs 1 default)) = ((!(win (x.outs[k]'hi3) 0 7)) || ((decide (0 < ((k : Nat) : Int))) && ((List.getD x.outs 0 default) == (List.getD x.outs 1 default)))) by first | (rw [hg20, hg21] <;> rfl) | (simp [hg20, hg21]; done) | (simp only [nat_nlt] <;> simp)), trivial⟩ rfl)))))))))))
                · have hg21n : ¬ k > 0 := by first | (have h := of_decide_eq_false hg21; omega) | (have h := hg21; simp at h; omega)
                  refine J_gdno rfl rfl rfl rfl (J_gdno rfl rfl rfl rfl (J_gdno rfl rfl rfl rfl (J_gdno rfl rfl rfl rfl (J_gdno rfl rfl rfl rfl (J_gdno rfl rfl rfl rfl (J_gdno rfl rfl rfl rfl (J_gdno rfl rfl rfl rfl (J_gdno rfl rfl rfl rfl (J_gd rfl rfl (R_pickF rfl rfl) rfl (J_st (R_pickF rfl rfl) rfl (J_cutEnd ⟨rfl, rfl, rfl, rfl, rfl, rfl, rfl, rfl, congrArg (fun b => some (Value.bool b)) (show false = ((!(win (x.outs[k]'hi3) 0 7)) || ((decide (0 < ((k : Nat) : Int))) && ((List.getD x.outs 0 default) == (List.getD x.outs 1 default)))) by first | (rw [hg20, hg21] <;> rfl) | (simp [hg20, hg21]; done) | (simp only [nat_nlt] <;> simp)), trivial⟩ rfl)))))))))))
            rintro _ rfl
            refine J_done ?_
            refine S_cond rfl (fun hc12 => ?_) (fun hc12 => ?_)
            · refine S_seq ?_
              refine S_reg [true] rfl rfl ?_
              refine J_st (R_assign rfl) rfl (J_done ?_)
              refine S_ret (E_inB_ret (E_lp_ret (E_inB_ret (E_done1 rfl rfl E ?_))))
              exact node_d (by assumption) (node_p (p := win x.a 0 99) (q := x.b == 0) (by assumption) (by rw [node_4 (by assumption), win_kind (n := x.kind) (by have := eq_of_beq (show (x.kind == 4) = true by assumption); omega), Bool.true_and])).2
            · refine S_skip ?_
              refine S_nil (E_inB ?_)
              refine S_reg [true, true, true] rfl rfl ?_
              refine J_st (R_move rfl) rfl (J_st (R_add rfl rfl (add_one hc11n (hd1.ext E).1.1)) rfl (J_st (R_assign rfl) rfl (J_done ?_)))
              refine S_nil (E_again (k + 1) (by omega) ⟨rfl, rfl, rfl, trivial⟩ ⟨E, (by omega), h1, (by omega), all_step hI (by assumption) (nodeL (by assumption)), nodeJ (by assumption)⟩)
          · have hc11n : ¬ k < x.outs.length := by first | (have h := of_decide_eq_false hc11; omega) | (have h := hc11; simp at h; omega)
            refine S_exit (E_lp_exit (E_inB_exit ?_))
            refine S_seq ?_
            refine S_reg [true] rfl rfl ?_
            refine J_st (R_assign rfl) rfl (J_done ?_)
            refine S_ret (E_done1 rfl rfl E ?_)
            exact node_z (p := win x.a 0 99) (q := x.b == 0) (by assumption) (by rw [node_4 (by assumption), win_kind (n := x.kind) (by have := eq_of_beq (show (x.kind == 4) = true by assumption); omega), Bool.true_and]) hI hJ (by omega)
      · refine S_skip ?_
        refine S_nil (E_inB ?_)
        refine S_seq ?_
        refine S_seq ?_
        refine S_reg [true, true, false, true, true, true, true, true, true, true, true, true, true, true, true, true, true, true, true, true, true, true, true, true, true, true, true, true, true] rfl rfl ?_
        refine J_st (R_fieldAddr0 fl70_0 rfl) rfl (J_st (R_load sc3 rfl (h1.one 0 rfl)) rfl ?_)
        refine J_call Try.call35 rfl (s_l01In x.kind 1 8 _ ) rfl (fun _ w24 e15 hv => ?_)
        subst hv
        replace E := E.trans e15; replace h1 := h1.ext e15
        have z18 := e15.size
        refine J_st (R_not rfl) rfl (J_st (R_move rfl) rfl ?_)
        refine J_cut 24 [(0, .agg [.int .i64 x.kind, .int .i64 x.a, .int .i64 x.b, o1].toArray), (1, .pointer (some ⟨b1, 0, none⟩)), (2, .bool false), (3, .bool (x.a == 0)), (4, .bool (x.b == 0)), (6, .pointer (some ⟨b1, 1, none⟩)), (7, .int .i64 x.a), (8, .bool (x.a == 0)), (9, .pointer (some ⟨b1, 2, none⟩)), (10, .int .i64 x.b), (11, .bool (x.b == 0)), (12, .pointer (some ⟨b1, 0, none⟩)), (13, .int .i64 x.kind), (14, .bool (x.kind == 2)), (15, .bool (x.kind == 2)), (19, .bool (x.kind == 3)), (20, .bool (x.kind == 3)), (30, .bool (x.kind == 4)), (31, .bool (x.kind == 4)), (63, .bool (((((!(win x.kind 1 8)) || (!(x.a == 0))) || (!(x.b == 0))) || (decide (2 < ((x.outs.length : Nat) : Int)))) || ((x.kind == 8) && (decide (0 < ((x.outs.length : Nat) : Int))))))] (fun w' => w24 = w') ?_ ?_
        · refine J_if (gd := 39) rfl rfl (fun hg22 => ?_) (fun hg22 => ?_)
          · refine J_gdno rfl rfl rfl rfl (J_gdno rfl rfl rfl rfl (J_st (R_pickT rfl rfl) rfl (J_st (R_move rfl) rfl (J_gdno rfl rfl rfl rfl (J_gdno rfl rfl rfl rfl (J_st (R_pickT rfl rfl) rfl (J_st (R_move rfl) rfl (J_gdno rfl rfl rfl rfl (J_gdno rfl rfl rfl rfl (J_gdno rfl rfl rfl rfl (J_gdno rfl rfl rfl rfl (J_st (R_pickT rfl rfl) rfl (J_st (R_move rfl) rfl (J_gdno rfl rfl rfl rfl (J_gdno rfl rfl rfl rfl (J_gdno rfl rfl rfl rfl (J_gdno rfl rfl rfl rfl (J_gdx rfl rfl rfl (J_gdx rfl rfl rfl (J_gdx rfl rfl rfl (J_gdx rfl rfl rfl (J_gdno rfl rfl rfl rfl (J_st (R_pickT rfl rfl) rfl (J_cutEnd ⟨rfl, rfl, rfl, rfl, rfl, rfl, rfl, rfl, rfl, rfl, rfl, rfl, rfl, rfl, rfl, rfl, rfl, rfl, rfl, congrArg (fun b => some (Value.bool b)) (show true = (((((!(win x.kind 1 8)) || (!(x.a == 0))) || (!(x.b == 0))) || (decide (2 < ((x.outs.length : Nat) : Int)))) || ((x.kind == 8) && (decide (0 < ((x.outs.length : Nat) : Int))))) by first | (rw [hg22] <;> rfl) | (simp [hg22]; done) | (simp only [nat_nlt] <;> simp)), trivial⟩ rfl))))))))))))))))))))))))
          · refine J_gd rfl rfl (R_move rfl) rfl (J_gd rfl rfl (R_not rfl) rfl (J_st (R_pickF rfl rfl) rfl (J_st (R_move rfl) rfl ?_)))
            refine J_if (gd := 43) rfl rfl (fun hg23 => ?_) (fun hg23 => ?_)
            · refine J_gdno rfl rfl rfl rfl (J_gdno rfl rfl rfl rfl (J_st (R_pickT rfl rfl) rfl (J_st (R_move rfl) rfl (J_gdno rfl rfl rfl rfl (J_gdno rfl rfl rfl rfl (J_gdno rfl rfl rfl rfl (J_gdno rfl rfl rfl rfl (J_st (R_pickT rfl rfl) rfl (J_st (R_move rfl) rfl (J_gdno rfl rfl rfl rfl (J_gdno rfl rfl rfl rfl (J_gdno rfl rfl rfl rfl (J_gdno rfl rfl rfl rfl (J_gdx rfl rfl rfl (J_gdx rfl rfl rfl (J_gdx rfl rfl rfl (J_gdx rfl rfl rfl (J_gdno rfl rfl rfl rfl (J_st (R_pickT rfl rfl) rfl (J_cutEnd ⟨rfl, rfl, rfl, rfl, rfl, rfl, rfl, rfl, rfl, rfl, rfl, rfl, rfl, rfl, rfl, rfl, rfl, rfl, rfl, congrArg (fun b => some (Value.bool b)) (show true = (((((!(win x.kind 1 8)) || (!(x.a == 0))) || (!(x.b == 0))) || (decide (2 < ((x.outs.length : Nat) : Int)))) || ((x.kind == 8) && (decide (0 < ((x.outs.length : Nat) : Int))))) by first | (rw [hg22, hg23] <;> rfl) | (simp [hg22, hg23]; done) | (simp only [nat_nlt] <;> simp)), trivial⟩ rfl))))))))))))))))))))
            · refine J_gd rfl rfl (R_move rfl) rfl (J_gd rfl rfl (R_not rfl) rfl (J_st (R_pickF rfl rfl) rfl (J_st (R_move rfl) rfl ?_)))
              refine J_if (gd := 47) rfl rfl (fun hg24 => ?_) (fun hg24 => ?_)
              · refine J_gdno rfl rfl rfl rfl (J_gdno rfl rfl rfl rfl (J_gdno rfl rfl rfl rfl (J_gdno rfl rfl rfl rfl (J_st (R_pickT rfl rfl) rfl (J_st (R_move rfl) rfl (J_gdno rfl rfl rfl rfl (J_gdno rfl rfl rfl rfl (J_gdno rfl rfl rfl rfl (J_gdno rfl rfl rfl rfl (J_gdx rfl rfl rfl (J_gdx rfl rfl rfl (J_gdx rfl rfl rfl (J_gdx rfl rfl rfl (J_gdno rfl rfl rfl rfl (J_st (R_pickT rfl rfl) rfl (J_cutEnd ⟨rfl, rfl, rfl, rfl, rfl, rfl, rfl, rfl, rfl, rfl, rfl, rfl, rfl, rfl, rfl, rfl, rfl, rfl, rfl, congrArg (fun b => some (Value.bool b)) (show true = (((((!(win x.kind 1 8)) || (!(x.a == 0))) || (!(x.b == 0))) || (decide (2 < ((x.outs.length : Nat) : Int)))) || ((x.kind == 8) && (decide (0 < ((x.outs.length : Nat) : Int))))) by first | (rw [hg22, hg23, hg24] <;> rfl) | (simp [hg22, hg23, hg24]; done) | (simp only [nat_nlt] <;> simp)), trivial⟩ rfl))))))))))))))))
              · refine J_gd rfl rfl (R_fieldAddr0 fl70_3 rfl) rfl (J_gd rfl rfl (R_load sc65 rfl (h1.one 3 rfl)) rfl (J_gd rfl rfl (R_len Try.underlying65 rfl (hd1.ext E).len) rfl (J_gd rfl rfl (R_gtr rfl rfl) rfl (J_st (R_pickF rfl rfl) rfl (J_st (R_move rfl) rfl ?_)))))
                refine J_if (gd := 53) rfl rfl (fun hg25 => ?_) (fun hg25 => ?_)
                · have hg25n : x.outs.length > 2 := by first | (have h := of_decide_eq_true hg25; omega) | (have h := hg25; simp at h; omega)
                  refine J_gdno rfl rfl rfl rfl (J_gdno rfl rfl rfl rfl (J_gdno rfl rfl rfl rfl (J_gdno rfl rfl rfl rfl (J_gdx rfl rfl rfl (J_gdx rfl rfl rfl (J_gdx rfl rfl rfl (J_gdx rfl rfl rfl (J_gdno rfl rfl rfl rfl (J_st (R_pickT rfl rfl) rfl (J_cutEnd ⟨rfl, rfl, rfl, rfl, rfl, rfl, rfl, rfl, rfl, rfl, rfl, rfl, rfl, rfl, rfl, rfl, rfl, rfl, rfl, congrArg (fun b => some (Value.bool b)) (show true = (((((!(win x.kind 1 8)) || (!(x.a == 0))) || (!(x.b == 0))) || (decide (2 < ((x.outs.length : Nat) : Int)))) || ((x.kind == 8) && (decide (0 < ((x.outs.length : Nat) : Int))))) by first | (rw [hg22, hg23, hg24, hg25] <;> rfl) | (simp [hg22, hg23, hg24, hg25]; done) | (simp only [nat_nlt] <;> simp)), trivial⟩ rfl))))))))))
                · have hg25n : ¬ x.outs.length > 2 := by first | (have h := of_decide_eq_false hg25; omega) | (have h := hg25; simp at h; omega)
                  refine J_gd rfl rfl (R_fieldAddr0 fl70_0 rfl) rfl (J_gd rfl rfl (R_load sc3 rfl (h1.one 0 rfl)) rfl (J_gd rfl rfl (R_eql rfl rfl) rfl (J_gd rfl rfl (R_move rfl) rfl ?_)))
                  refine J_if (gd := 57) rfl rfl (fun hg26 => ?_) (fun hg26 => ?_)
                  · refine J_gd rfl rfl (R_fieldAddr0 fl70_3 rfl) rfl (J_gd rfl rfl (R_load sc65 rfl (h1.one 3 rfl)) rfl (J_gd rfl rfl (R_len Try.underlying65 rfl (hd1.ext E).len) rfl (J_gd rfl rfl (R_gtr rfl rfl) rfl (J_gd rfl rfl (R_pickT rfl rfl) rfl (J_st (R_pickF rfl rfl) rfl (J_cutEnd ⟨rfl, rfl, rfl, rfl, rfl, rfl, rfl, rfl, rfl, rfl, rfl, rfl, rfl, rfl, rfl, rfl, rfl, rfl, rfl, congrArg (fun b => some (Value.bool b)) (show (decide (0 < ((x.outs.length : Nat) : Int))) = (((((!(win x.kind 1 8)) || (!(x.a == 0))) || (!(x.b == 0))) || (decide (2 < ((x.outs.length : Nat) : Int)))) || ((x.kind == 8) && (decide (0 < ((x.outs.length : Nat) : Int))))) by first | (rw [hg22, hg23, hg24, hg25, hg26] <;> rfl) | (simp [hg22, hg23, hg24, hg25, hg26]; done) | (simp only [nat_nlt] <;> simp)), trivial⟩ rfl))))))
                  · refine J_gdno rfl rfl rfl rfl (J_gdno rfl rfl rfl rfl (J_gdno rfl rfl rfl rfl (J_gdno rfl rfl rfl rfl (J_gd rfl rfl (R_pickF rfl rfl) rfl (J_st (R_pickF rfl rfl) rfl (J_cutEnd ⟨rfl, rfl, rfl, rfl, rfl, rfl, rfl, rfl, rfl, rfl, rfl, rfl, rfl, rfl, rfl, rfl, rfl, rfl, rfl, congrArg (fun b => some (Value.bool b)) (show false = (((((!(win x.kind 1 8)) || (!(x.a == 0))) || (!(x.b == 0))) || (decide (2 < ((x.outs.length : Nat) : Int)))) || ((x.kind == 8) && (decide (0 < ((x.outs.length : Nat) : Int))))) by first | (rw [hg22, hg23, hg24, hg25, hg26] <;> rfl) | (simp [hg22, hg23, hg24, hg25, hg26]; done) | (simp only [nat_nlt] <;> simp)), trivial⟩ rfl))))))
        rintro _ rfl
        refine J_done ?_
        refine S_cond rfl (fun hc13 => ?_) (fun hc13 => ?_)
        · refine S_seq ?_
          refine S_reg [true] rfl rfl ?_
          refine J_st (R_assign rfl) rfl (J_done ?_)
          refine S_ret (E_done1 rfl rfl E ?_)
          exact node_s (p := x.a == 0) (q := x.b == 0) (node_0 (by assumption) (by assumption) (by assumption)) (by assumption)
        · refine S_skip ?_
          refine S_seq ?_
          refine S_seq ?_
          refine S_reg [true] rfl rfl ?_
          refine J_st (R_assign rfl) rfl (J_done ?_)
          refine S_block ?_
          refine S_loop (fun (k : Nat) => [(1, .pointer (some ⟨b1, 0, none⟩)), (2, .bool false), (5, .int .i64 ((k : Nat) : Int))]) (fun (k : Nat) w' => Ext w w' ∧ w24.heap.size ≤ w'.heap.size ∧ Blk w' b1 ([.int .i64 x.kind, .int .i64 x.a, .int .i64 x.b, o1]) ∧ k ≤ x.outs.length ∧ (x.outs.take k).all (win · 0 7) = true ∧ (1 < k → ((List.getD x.outs 0 default) == (List.getD x.outs 1 default)) = false)) (fun (k : Nat) => x.outs.length - k) 0 ⟨rfl, rfl, rfl, trivial⟩ ⟨E, Nat.le_refl _, h1, Nat.zero_le _, rfl, (by omega)⟩ ?_
          clear E h1
          rintro k w26 ⟨E, z19, h1, hk, hI, hJ⟩
          refine S_seq ?_
          refine S_seq ?_
          refine S_reg [true, true, true, true, true] rfl rfl ?_
          refine J_st (R_move rfl) rfl (J_st (R_fieldAddr0 fl70_3 rfl) rfl (J_st (R_load sc65 rfl (h1.one 3 rfl)) rfl (J_st (R_len Try.underlying65 rfl (hd1.ext E).len) rfl (J_st (R_lss rfl rfl) rfl (J_done ?_)))))
          refine S_cond rfl (fun hc14 => ?_) (fun hc14 => ?_)
          · have hc14n : k < x.outs.length := by first | (have h := of_decide_eq_true hc14; omega) | (have h := hc14; simp at h; omega)
            refine S_skip ?_
            refine S_seq ?_
            refine S_block ?_
            refine S_seq ?_
            refine S_regD mixed [(0, true), (1, true), (2, true), (3, true), (4, true), (5, false), (6, true), (7, true), (8, true), (9, true), (10, true), (11, true), (12, true), (13, true), (14, true), (15, true), (16, true), (17, true), (18, true), (19, true), (20, true), (21, true)] (by decide +kernel) rfl (fun w27 e16 => ?_)
            replace E := E.trans e16; replace h1 := h1.ext e16
            have z20 := e16.size
            refine J_st (R_fieldAddr0 fl70_3 rfl) rfl (J_st (R_load sc65 rfl (h1.one 3 rfl)) rfl (J_st (R_move rfl) rfl ?_))
            have hi4 : k < x.outs.length := (by first | assumption | omega)
            refine J_st (R_index (i := k) sl65 rfl rfl (hd1.rd.ext E) hi4) rfl (J_st (R_load sc3 rfl (((hd1.rd.ext E).get hi4).one 0 rfl)) rfl ?_)
            refine J_call Try.call35 rfl (s_l01In (x.outs[k]'hi4) 0 7 _ ) rfl (fun _ w28 e17 hv => ?_)
            subst hv
            replace E := E.trans e17; replace h1 := h1.ext e17
            have z21 := e17.size
            refine J_st (R_not rfl) rfl (J_st (R_move rfl) rfl ?_)
            refine J_cut 14 [(1, .pointer (some ⟨b1, 0, none⟩)), (2, .bool false), (5, .int .i64 ((k : Nat) : Int)), (64, .int .i64 ((k : Nat) : Int)), (65, .pointer (some ⟨b1, 3, none⟩)), (66, o1), (67, .int .i64 ((x.outs.length : Nat) : Int)), (68, .bool (decide (((k : Nat) : Int) < ((x.outs.length : Nat) : Int)))), (92, .bool ((!(win (x.outs[k]'hi4) 0 7)) || ((decide (0 < ((k : Nat) : Int))) && ((List.getD x.outs 0 default) == (List.getD x.outs 1 default)))))] (fun w' => w28 = w') ?_ ?_
            · refine J_if (gd := 78) rfl rfl (fun hg27 => ?_) (fun hg27 => ?_)
              · refine J_gdno rfl rfl rfl rfl (J_gdno rfl rfl rfl rfl (J_gdno rfl rfl rfl rfl (J_gdx rfl rfl rfl (J_gdx rfl rfl rfl (J_gdx rfl rfl rfl (J_gdx rfl rfl rfl (J_gdx rfl rfl rfl (J_gdx rfl rfl rfl (J_gdx rfl rfl rfl (J_gdx rfl rfl rfl (J_gdx rfl rfl rfl (J_gdno rfl rfl rfl rfl (J_st (R_pickT rfl rfl) rfl (J_cutEnd ⟨rfl, rfl, rfl, rfl, rfl, rfl, rfl, rfl, congrArg (fun b => some (Value.bool b)) (show true = ((!(win (x.outs[k]'hi4) 0 7)) || ((decide (0 < ((k : Nat) : Int))) && ((List.getD x.outs 0 default) == (List.getD x.outs 1 default)))) by first | (rw [hg27] <;> rfl) | (simp [hg27]; done) | (simp only [nat_nlt] <;> simp)), trivial⟩ rfl))))))))))))))
              · refine J_gd rfl rfl (R_move rfl) rfl (J_gd rfl rfl (R_gtr rfl rfl) rfl (J_gd rfl rfl (R_move rfl) rfl ?_))
                refine J_if (gd := 81) rfl rfl (fun hg28 => ?_) (fun hg28 => ?_)
                · have hg28n : k > 0 := by first | (have h := of_decide_eq_true hg28; omega) | (have h := hg28; simp at h; omega)
                  refine J_gd rfl rfl (R_fieldAddr0 fl70_3 rfl) rfl (J_gd rfl rfl (R_load sc65 rfl (h1.one 3 rfl)) rfl (J_gd rfl rfl (R_index (i := 0) sl65 rfl rfl (hd1.rd.ext E) (by first | assumption | omega)) rfl (J_gd rfl rfl (R_load sc3 rfl ((RdS.getD (hd1.rd.ext E) (i := 0) (by first | assumption | omega)).one 0 rfl)) rfl (J_gd rfl rfl (R_fieldAddr0 fl70_3 rfl) rfl (J_gd rfl rfl (R_load sc65 rfl (h1.one 3 rfl)) rfl (J_gd rfl rfl (R_index (i := 1) sl65 rfl rfl (hd1.rd.ext E) (by first | assumption | omega)) rfl (J_gd rfl rfl (R_load sc3 rfl ((RdS.getD (hd1.rd.ext E) (i := 1) (by first | assumption | omega)).one 0 rfl)) rfl (J_gd rfl rfl (R_eql rfl rfl) rfl (J_gd rfl rfl (R_pickT rfl rfl) rfl (J_st (R_pickF rfl rfl) rfl (J_cutEnd ⟨rfl, rfl, rfl, rfl, rfl, rfl, rfl, rfl, congrArg (fun b => some (Value.bool b)) (show ((List.getD x.outs 0 default) == (List.getD x.outs 1 default)) = ((!(win (x.outs[k]'hi4) 0 7)) || ((decide (0 < ((k : Nat) : Int))) && ((List.getD x.outs 0 default) == (List.getD x.outs 1 default)))) by first | (rw [hg27, hg28] <;> rfl) | (simp [hg27, hg28]; done) | (simp only [nat_nlt] <;> simp)), trivial⟩ rfl)))))))))))
                · have hg28n : ¬ k > 0 := by first | (have h := of_decide_eq_false hg28; omega) | (have h := hg28; simp at h; omega)
                  refine J_gdno rfl rfl rfl rfl (J_gdno rfl rfl rfl rfl (J_gdno rfl rfl rfl rfl (J_gdno rfl rfl rfl rfl (J_gdno rfl rfl rfl rfl (J_gdno rfl rfl rfl rfl (J_gdno rfl rfl rfl rfl (J_gdno rfl rfl rfl rfl (J_gdno rfl rfl rfl rfl (J_gd rfl rfl (R_pickF rfl rfl) rfl (J_st (R_pickF rfl rfl) rfl (J_cutEnd ⟨rfl, rfl, rfl, rfl, rfl, rfl, rfl, rfl, congrArg (fun b => some (Value.bool b)) (show false = ((!(win (x.outs[k]'hi4) 0 7)) || ((decide (0 < ((k : Nat) : Int))) && ((List.getD x.outs 0 default) == (List.getD x.outs 1 default)))) by first | (rw [hg27, hg28] <;> rfl) | (simp [hg27, hg28]; done) | (simp only [nat_nlt] <;> simp)), trivial⟩ rfl)))))))))))
            rintro _ rfl
            refine J_done ?_
            refine S_cond rfl (fun hc15 => ?_) (fun hc15 => ?_)
            · refine S_seq ?_
              refine S_reg [true] rfl rfl ?_
              refine J_st (R_assign rfl) rfl (J_done ?_)
              refine S_ret (E_inB_ret (E_lp_ret (E_inB_ret (E_done1 rfl rfl E ?_))))
              exact node_d (by assumption) (node_p (p := x.a == 0) (q := x.b == 0) (by assumption) (node_0 (by assumption) (by assumption) (by assumption))).2
            · refine S_skip ?_
              refine S_nil (E_inB ?_)
              refine S_reg [true, true, true] rfl rfl ?_
              refine J_st (R_move rfl) rfl (J_st (R_add rfl rfl (add_one hc14n (hd1.ext E).1.1)) rfl (J_st (R_assign rfl) rfl (J_done ?_)))
              refine S_nil (E_again (k + 1) (by omega) ⟨rfl, rfl, rfl, trivial⟩ ⟨E, (by omega), h1, (by omega), all_step hI (by assumption) (nodeL (by assumption)), nodeJ (by assumption)⟩)
          · have hc14n : ¬ k < x.outs.length := by first | (have h := of_decide_eq_false hc14; omega) | (have h := hc14; simp at h; omega)
            refine S_exit (E_lp_exit (E_inB_exit ?_))
            refine S_seq ?_
            refine S_reg [true] rfl rfl ?_
            refine J_st (R_assign rfl) rfl (J_done ?_)
            refine S_ret (E_done1 rfl rfl E ?_)
            exact node_z (p := x.a == 0) (q := x.b == 0) (by assumption) (node_0 (by assumption) (by assumption) (by assumption)) hI hJ (by omega)

set_option maxHeartbeats 4000000 in
set_option maxRecDepth 20000 in
theorem c_GraphOk (cg : List Value) (g : Graph) (w : World) (hg : Dat.R w 0 w.heap.size cg g) : Ct Try.prog 46 [.agg cg.toArray] w (fun v _ => v = .bool (graphOk g)) := by
  refine ct_of Try.func46 rfl Try.ntmps46 rfl ?_
  obtain ⟨o1, rfl, hd1⟩ := Graph.op hg
  refine S_sub [(0, .agg [o1, .int .i64 g.workers, .int .i64 g.cap].toArray)] ⟨rfl, trivial⟩ ?_
  have E : Ext w w := Ext.refl w
  refine S_seq ?_
  refine S_reg [false, true] rfl rfl ?_
  refine J_box rfl rfl (fun b1 w1 e1 s1 h1 => ?_)
  have g_b1 : w.heap.size ≤ b1 := by have := E.size; omega
  have y_b1 := h1.lt
  replace E := E.trans e1
  have z1 := e1.size
  refine J_st (R_assign rfl) rfl (J_done ?_)
  refine S_seq ?_
  refine S_seq ?_
  refine S_reg [true, true, true, false, true, true, true, true, false, true, true, true, true, true, false, true, true] rfl rfl ?_
  refine J_st (R_fieldAddr0 fl32_0 rfl) rfl (J_st (R_load sc30 rfl (h1.one 0 rfl)) rfl (J_st (R_len Try.underlying30 rfl (hd1.ext E).len) rfl ?_))
  refine J_call Try.call43 rfl (c_within ((g.nodes.length : Nat) : Int) 1 8 _ ) rfl (fun _ w2 e2 hv => ?_)
  subst hv
  replace E := E.trans e2; replace h1 := h1.ext e2
  have z2 := e2.size
  refine J_st (R_not rfl) rfl (J_st (R_move rfl) rfl ?_)
  refine J_cut 11 [(0, .agg [o1, .int .i64 g.workers, .int .i64 g.cap].toArray), (1, .pointer (some ⟨b1, 0, none⟩)), (2, .bool false), (24, .bool (((!(win ((g.nodes.length : Nat) : Int) 1 8)) || (!(win g.workers 1 4))) || (!(win g.cap 1 4))))] (fun w' => Ext w w' ∧ w2.heap.size ≤ w'.heap.size ∧ Blk w' b1 ([o1, .int .i64 g.workers, .int .i64 g.cap])) ?_ ?_
  · refine J_if (gd := 13) rfl rfl (fun hg1 => ?_) (fun hg1 => ?_)
    · refine J_gdno rfl rfl rfl rfl (J_gdno rfl rfl rfl rfl ?_)
      refine J_ungno rfl rfl rfl rfl ?_
      refine J_gdno rfl rfl rfl rfl (J_st (R_pickT rfl rfl) rfl (J_st (R_move rfl) rfl (J_gdno rfl rfl rfl rfl (J_gdno rfl rfl rfl rfl ?_))))
      refine J_ungno rfl rfl rfl rfl ?_
      refine J_gdno rfl rfl rfl rfl (J_st (R_pickT rfl rfl) rfl (J_cutEnd ⟨rfl, rfl, rfl, congrArg (fun b => some (Value.bool b)) (show true = (((!(win ((g.nodes.length : Nat) : Int) 1 8)) || (!(win g.workers 1 4))) || (!(win g.cap 1 4))) by first | (rw [hg1] <;> rfl) | (simp [hg1]; done) | (simp only [nat_nlt] <;> simp)), trivial⟩ ⟨E, (by omega), h1⟩))
    · refine J_gd rfl rfl (R_fieldAddr0 fl32_1 rfl) rfl (J_gd rfl rfl (R_load sc3 rfl (h1.one 1 rfl)) rfl ?_)
      refine J_ung rfl rfl ?_
      refine J_call Try.call43 rfl (c_within g.workers 1 4 _ ) rfl (fun _ w4 e3 hv => ?_)
      subst hv
      replace E := E.trans e3; replace h1 := h1.ext e3
      have z3 := e3.size
      refine J_gd rfl rfl (R_not rfl) rfl (J_st (R_pickF rfl rfl) rfl (J_st (R_move rfl) rfl ?_))
      refine J_if (gd := 19) rfl rfl (fun hg2 => ?_) (fun hg2 => ?_)
      · refine J_gdno rfl rfl rfl rfl (J_gdno rfl rfl rfl rfl ?_)
        refine J_ungno rfl rfl rfl rfl ?_
        refine J_gdno rfl rfl rfl rfl (J_st (R_pickT rfl rfl) rfl (J_cutEnd ⟨rfl, rfl, rfl, congrArg (fun b => some (Value.bool b)) (show true = (((!(win ((g.nodes.length : Nat) : Int) 1 8)) || (!(win g.workers 1 4))) || (!(win g.cap 1 4))) by first | (rw [hg1, hg2] <;> rfl) | (simp [hg1, hg2]; done) | (simp only [nat_nlt] <;> simp)), trivial⟩ ⟨E, (by omega), h1⟩))
      · refine J_gd rfl rfl (R_fieldAddr0 fl32_2 rfl) rfl (J_gd rfl rfl (R_load sc3 rfl (h1.one 2 rfl)) rfl ?_)
        refine J_ung rfl rfl ?_
        refine J_call Try.call43 rfl (c_within g.cap 1 4 _ ) rfl (fun _ w5 e4 hv => ?_)
        subst hv
        replace E := E.trans e4; replace h1 := h1.ext e4
        have z4 := e4.size
        refine J_gd rfl rfl (R_not rfl) rfl (J_st (R_pickF rfl rfl) rfl (J_cutEnd ⟨rfl, rfl, rfl, congrArg (fun b => some (Value.bool b)) (show (!(win g.cap 1 4)) = (((!(win ((g.nodes.length : Nat) : Int) 1 8)) || (!(win g.workers 1 4))) || (!(win g.cap 1 4))) by first | (rw [hg1, hg2] <;> rfl) | (simp [hg1, hg2]; done) | (simp only [nat_nlt] <;> simp)), trivial⟩ ⟨E, (by omega), h1⟩))
  clear E h1
  rintro w3 ⟨E, z5, h1⟩
  refine J_done ?_
  refine S_cond rfl (fun hc1 => ?_) (fun hc1 => ?_)
  · refine S_seq ?_
    refine S_reg [true] rfl rfl ?_
    refine J_st (R_assign rfl) rfl (J_done ?_)
    refine S_ret (E_done1 rfl rfl E ?_)
    exact graph_h (by assumption)
  · refine S_skip ?_
    refine S_seq ?_
    refine S_seq ?_
    refine S_reg [true, true, true, true] rfl rfl ?_
    refine J_st (R_fieldAddr0 fl32_0 rfl) rfl (J_st (R_load sc30 rfl (h1.one 0 rfl)) rfl (J_st (R_len Try.underlying30 rfl (hd1.ext E).len) rfl (J_st (R_move rfl) rfl (J_done ?_))))
    refine S_block ?_
    refine S_loop (fun (i : Nat) => [(1, .pointer (some ⟨b1, 0, none⟩)), (2, .bool false), (26, o1), (27, .int .i64 ((g.nodes.length : Nat) : Int)), (28, .int .i64 ((i : Nat) : Int))]) (fun (i : Nat) w' => Ext w w' ∧ w3.heap.size ≤ w'.heap.size ∧ Blk w' b1 ([o1, .int .i64 g.workers, .int .i64 g.cap]) ∧ i ≤ g.nodes.length ∧ (∀ j, j < i → nodeAtOk g j (List.getD g.nodes j default) = true)) (fun (i : Nat) => g.nodes.length - i) 0 ⟨rfl, rfl, rfl, rfl, rfl, trivial⟩ ⟨E, Nat.le_refl _, h1, Nat.zero_le _, (fun j hj => by omega)⟩ ?_
    clear E h1
    rintro i w6 ⟨E, z6, h1, hle, hp⟩
    refine S_seq ?_
    refine S_reg [true] rfl rfl ?_
    refine J_st (R_lss rfl rfl) rfl (J_done ?_)
    refine S_seq ?_
    refine S_cond rfl (fun hc2 => ?_) (fun hc2 => ?_)
    · have hc2n : i < g.nodes.length := by first | (have h := of_decide_eq_true hc2; omega) | (have h := hc2; simp at h; omega)
      refine S_skip ?_
      refine S_seq ?_
      refine S_block ?_
      refine S_seq ?_
      refine S_reg [true, true, true, false, true, false] rfl rfl ?_
      refine J_st (R_move rfl) rfl ?_
      have hi1 : i < g.nodes.length := (by first | assumption | omega)
      obtain ⟨_, hr1, ha1⟩ := RdD.get hd1 hi1
      obtain ⟨o2, rfl, hd2⟩ := Node.op hr1
      replace ha1 : At w (sblk o1) (soff o1 + i * 4) [.int .i64 ((g.nodes[i]'hi1).kind), .int .i64 ((g.nodes[i]'hi1).a), .int .i64 ((g.nodes[i]'hi1).b), o2] := ha1
      refine J_st (R_index (i := i) sl30 rfl rfl (hd1.ext E).1 hi1) rfl (J_st (R_loadS st70 rfl (ha1.ext E) rfl) rfl ?_)
      refine J_alloc st70 rfl (fun b2 w7 e5 s2 h2 => ?_)
      have g_b2 : w.heap.size ≤ b2 := by have := E.size; omega
      have y_b2 := h2.lt
      replace E := E.trans e5; replace h1 := h1.ext e5
      have z7 := e5.size
      refine J_st (R_assign rfl) rfl ?_
      refine J_storeS' (cs' := [.int .i64 ((g.nodes[i]'hi1).kind), .int .i64 ((g.nodes[i]'hi1).a), .int .i64 ((g.nodes[i]'hi1).b), o2]) st70 rfl rfl rfl (all_cons rfl (all_cons rfl (all_cons rfl (all_cons (RdD.one (hd2.ext E)) rfl)))) h2 (Nat.le_of_ble_eq_true rfl) rfl (fun w8 m1 h2' => ?_)
      replace h2 := h2'
      replace E := E.step m1 (fun g hg => by cases hg; omega); replace h1 := h1.mod m1 (fun g hg => by cases hg; omega)
      have z8 := m1.size
      refine J_done ?_
      refine S_seq ?_
      refine S_seq ?_
      refine S_reg [true, false, true, true, true, true, true, true, true, true, true] rfl rfl ?_
      refine J_st (R_loadS st70 rfl h2.at rfl) rfl ?_
      refine J_call Try.call61 rfl (c_NodeOk [.int .i64 ((g.nodes[i]'hi1).kind), .int .i64 ((g.nodes[i]'hi1).a), .int .i64 ((g.nodes[i]'hi1).b), o2] (g.nodes[i]'hi1) _ (Node.mkR (g.nodes[i]'hi1) (RdD.any (hd2.ext E)))) rfl (fun _ w9 e6 hv => ?_)
      subst hv
      replace E := E.trans e6; replace h1 := h1.ext e6; replace h2 := h2.ext e6
      have z9 := e6.size
      refine J_st (R_not rfl) rfl (J_st (R_move rfl) rfl ?_)
      refine J_cut 7 [(1, .pointer (some ⟨b1, 0, none⟩)), (2, .bool false), (3, .int .i64 ((i : Nat) : Int)), (4, .pointer (some ⟨b2, 0, none⟩)), (26, o1), (27, .int .i64 ((g.nodes.length : Nat) : Int)), (28, .int .i64 ((i : Nat) : Int)), (29, .bool (decide (((i : Nat) : Int) < ((g.nodes.length : Nat) : Int)))), (30, .int .i64 ((i : Nat) : Int)), (31, .pointer (some ⟨sblk o1, soff o1 + i * 4, none⟩)), (32, .agg [.int .i64 ((g.nodes[i]'hi1).kind), .int .i64 ((g.nodes[i]'hi1).a), .int .i64 ((g.nodes[i]'hi1).b), o2].toArray), (43, .bool ((!(nodeOk (g.nodes[i]'hi1))) || (!((((g.nodes[i]'hi1).kind) == 1) == (((i : Nat) : Int) == 0)))))] (fun w' => w9 = w') ?_ ?_
      · refine J_if (gd := 36) rfl rfl (fun hg3 => ?_) (fun hg3 => ?_)
        · refine J_gdno rfl rfl rfl rfl (J_gdno rfl rfl rfl rfl (J_gdno rfl rfl rfl rfl (J_gdno rfl rfl rfl rfl (J_gdno rfl rfl rfl rfl (J_gdno rfl rfl rfl rfl (J_st (R_pickT rfl rfl) rfl (J_cutEnd ⟨rfl, rfl, rfl, rfl, rfl, rfl, rfl, rfl, rfl, rfl, rfl, congrArg (fun b => some (Value.bool b)) (show true = ((!(nodeOk (g.nodes[i]'hi1))) || (!((((g.nodes[i]'hi1).kind) == 1) == (((i : Nat) : Int) == 0)))) by first | (rw [hg3] <;> rfl) | (simp [hg3]; done) | (simp only [nat_nlt] <;> simp)), trivial⟩ rfl)))))))
        · refine J_gd rfl rfl (R_fieldAddr0 fl70_0 rfl) rfl (J_gd rfl rfl (R_load sc3 rfl (h2.one 0 rfl)) rfl (J_gd rfl rfl (R_eql rfl rfl) rfl (J_gd rfl rfl (R_move rfl) rfl (J_gd rfl rfl (R_eql rfl rfl) rfl (J_gd rfl rfl (R_neqB (Try.underlying4) rfl rfl) rfl (J_st (R_pickF rfl rfl) rfl (J_cutEnd ⟨rfl, rfl, rfl, rfl, rfl, rfl, rfl, rfl, rfl, rfl, rfl, congrArg (fun b => some (Value.bool b)) (show (!((((g.nodes[i]'hi1).kind) == 1) == (((i : Nat) : Int) == 0))) = ((!(nodeOk (g.nodes[i]'hi1))) || (!((((g.nodes[i]'hi1).kind) == 1) == (((i : Nat) : Int) == 0)))) by first | (rw [hg3] <;> rfl) | (simp [hg3]; done) | (simp only [nat_nlt] <;> simp)), trivial⟩ rfl)))))))
      rintro _ rfl
      refine J_done ?_
      refine S_cond rfl (fun hc3 => ?_) (fun hc3 => ?_)
      · refine S_seq ?_
        refine S_reg [true] rfl rfl ?_
        refine J_st (R_assign rfl) rfl (J_done ?_)
        refine S_ret (E_inB_ret (E_lp_ret (E_inB_ret (E_done1 rfl rfl E ?_))))
        exact graph_a (by assumption)
      · refine S_skip ?_
        refine S_seq ?_
        refine S_reg [true, true, true, true] rfl rfl ?_
        refine J_st (R_fieldAddr0 fl70_3 rfl) rfl (J_st (R_load sc65 rfl (h2.one 3 rfl)) rfl (J_st (R_len Try.underlying65 rfl (hd2.ext E).len) rfl (J_st (R_move rfl) rfl (J_done ?_))))
        refine S_block ?_
        refine S_loop (fun (k : Nat) => [(1, .pointer (some ⟨b1, 0, none⟩)), (2, .bool false), (3, .int .i64 ((i : Nat) : Int)), (4, .pointer (some ⟨b2, 0, none⟩)), (26, o1), (27, .int .i64 ((g.nodes.length : Nat) : Int)), (28, .int .i64 ((i : Nat) : Int)), (45, o2), (46, .int .i64 ((((g.nodes[i]'hi1).outs).length : Nat) : Int)), (47, .int .i64 ((k : Nat) : Int))]) (fun (k : Nat) w' => Ext w w' ∧ w9.heap.size ≤ w'.heap.size ∧ Blk w' b1 ([o1, .int .i64 g.workers, .int .i64 g.cap]) ∧ Blk w' b2 [.int .i64 ((g.nodes[i]'hi1).kind), .int .i64 ((g.nodes[i]'hi1).a), .int .i64 ((g.nodes[i]'hi1).b), o2] ∧ k ≤ (g.nodes[i]'hi1).outs.length ∧ ((g.nodes[i]'hi1).outs.take k).all (fun to => !edgeBad g i (g.nodes[i]'hi1) to) = true) (fun (k : Nat) => (g.nodes[i]'hi1).outs.length - k) 0 ⟨rfl, rfl, rfl, rfl, rfl, rfl, rfl, rfl, rfl, rfl, trivial⟩ ⟨E, Nat.le_refl _, h1, h2, Nat.zero_le _, rfl⟩ ?_
        clear E h1 h2
        rintro k w11 ⟨E, z10, h1, h2, hk, hI⟩
        refine S_seq ?_
        refine S_reg [true] rfl rfl ?_
        refine J_st (R_lss rfl rfl) rfl (J_done ?_)
        refine S_seq ?_
        refine S_cond rfl (fun hc4 => ?_) (fun hc4 => ?_)
        · have hc4n : k < ((g.nodes[i]'hi1).outs).length := by first | (have h := of_decide_eq_true hc4; omega) | (have h := hc4; simp at h; omega)
          refine S_skip ?_
          refine S_seq ?_
          refine S_block ?_
          refine S_seq ?_
          refine S_reg [true, true, true] rfl rfl ?_
          have hi2 : k < ((g.nodes[i]'hi1).outs).length := (by first | assumption | omega)
          refine J_st (R_index (i := k) sl65 rfl rfl (hd2.rd.ext E) hi2) rfl (J_st (R_load sc3 rfl (((hd2.rd.ext E).get hi2).one 0 rfl)) rfl (J_st (R_assign rfl) rfl (J_done ?_)))
          refine S_seq ?_
          refine S_seq ?_
          refine S_reg [true, true, true, true, true] rfl rfl ?_
          refine J_st (R_move rfl) rfl (J_st (R_fieldAddr0 fl32_0 rfl) rfl (J_st (R_load sc30 rfl (h1.one 0 rfl)) rfl (J_st (R_len Try.underlying30 rfl (hd1.ext E).len) rfl (J_st (R_geq rfl rfl) rfl (J_done ?_)))))
          refine S_cond rfl (fun hc5 => ?_) (fun hc5 => ?_)
          · refine S_seq ?_
            refine S_reg [true] rfl rfl ?_
            refine J_st (R_assign rfl) rfl (J_done ?_)
            refine S_ret (E_inB_ret (E_lp_ret (E_inB_ret (E_inB_ret (E_lp_ret (E_inB_ret (E_done1 rfl rfl E ?_)))))))
            exact graph_e (edge_a (by assumption))
          · have hto := graph_to (h1 := hi1) (h2 := hi2) (by assumption)
            have htl := Int.not_le.1 (of_decide_eq_false hc5)
            refine S_skip ?_
            refine S_seq ?_
            refine S_reg [true, true, true, true, true, true, true] rfl rfl ?_
            refine J_st (R_fieldAddr0 fl32_0 rfl) rfl (J_st (R_load sc30 rfl (h1.one 0 rfl)) rfl (J_st (R_move rfl) rfl ?_))
            have hi3 : (Int.toNat (((g.nodes[i]'hi1).outs)[k]'hi2)) < g.nodes.length := (by first | assumption | omega)
            obtain ⟨_, hr2, ha2⟩ := RdD.get hd1 hi3
            obtain ⟨o3, rfl, hd3⟩ := Node.op hr2
            replace ha2 : At w (sblk o1) (soff o1 + (Int.toNat (((g.nodes[i]'hi1).outs)[k]'hi2)) * 4) [.int .i64 ((g.nodes[(Int.toNat (((g.nodes[i]'hi1).outs)[k]'hi2))]'hi3).kind), .int .i64 ((g.nodes[(Int.toNat (((g.nodes[i]'hi1).outs)[k]'hi2))]'hi3).a), .int .i64 ((g.nodes[(Int.toNat (((g.nodes[i]'hi1).outs)[k]'hi2))]'hi3).b), o3] := ha2
            refine J_st (R_indexZ (i := (Int.toNat (((g.nodes[i]'hi1).outs)[k]'hi2))) sl30 rfl rfl (hd1.ext E).1 (by omega) hi3) rfl (J_st (R_fieldAddr fl70_0 rfl) rfl (J_st (R_load sc3 rfl ((ha2.ext E).one 0 rfl)) rfl (J_st (R_assign rfl) rfl (J_done ?_))))
            refine S_seq ?_
            refine S_reg [true, true, true, true, true, true, true, true, true, true, true, true, true, true, true, true, true, true, true, true, true, true, true, true, true, true] rfl rfl ?_
            refine J_st (R_fieldAddr0 fl70_0 rfl) rfl (J_st (R_load sc3 rfl (h2.one 0 rfl)) rfl (J_st (R_eql rfl rfl) rfl (J_st (R_move rfl) rfl ?_)))
            refine J_cut 22 [(1, .pointer (some ⟨b1, 0, none⟩)), (2, .bool false), (3, .int .i64 ((i : Nat) : Int)), (4, .pointer (some ⟨b2, 0, none⟩)), (6, .int .i64 (((g.nodes[i]'hi1).outs)[k]'hi2)), (7, .int .i64 ((g.nodes[(Int.toNat (((g.nodes[i]'hi1).outs)[k]'hi2))]'hi3).kind)), (26, o1), (27, .int .i64 ((g.nodes.length : Nat) : Int)), (28, .int .i64 ((i : Nat) : Int)), (45, o2), (46, .int .i64 ((((g.nodes[i]'hi1).outs).length : Nat) : Int)), (47, .int .i64 ((k : Nat) : Int)), (48, .bool (decide (((k : Nat) : Int) < ((((g.nodes[i]'hi1).outs).length : Nat) : Int)))), (49, .pointer (some ⟨sblk o2, soff o2 + k * 1, none⟩)), (50, .int .i64 (((g.nodes[i]'hi1).outs)[k]'hi2)), (51, .int .i64 (((g.nodes[i]'hi1).outs)[k]'hi2)), (52, .pointer (some ⟨b1, 0, none⟩)), (53, o1), (54, .int .i64 ((g.nodes.length : Nat) : Int)), (55, .bool (decide (((g.nodes.length : Nat) : Int) ≤ (((g.nodes[i]'hi1).outs)[k]'hi2)))), (56, .pointer (some ⟨b1, 0, none⟩)), (57, o1), (58, .int .i64 (((g.nodes[i]'hi1).outs)[k]'hi2)), (59, .pointer (some ⟨sblk o1, soff o1 + (Int.toNat (((g.nodes[i]'hi1).outs)[k]'hi2)) * 4, none⟩)), (60, .pointer (some ⟨(sblk o1), soff o1 + (Int.toNat (((g.nodes[i]'hi1).outs)[k]'hi2)) * 4 + 0, none⟩)), (61, .int .i64 ((g.nodes[(Int.toNat (((g.nodes[i]'hi1).outs)[k]'hi2))]'hi3).kind)), (87, .bool (((((g.nodes[i]'hi1).kind) == 7) && ((decide (((i : Nat) : Int) < (((g.nodes[i]'hi1).outs)[k]'hi2))) || ((((g.nodes[(Int.toNat (((g.nodes[i]'hi1).outs)[k]'hi2))]'hi3).kind) != 5) && (((g.nodes[(Int.toNat (((g.nodes[i]'hi1).outs)[k]'hi2))]'hi3).kind) != 6)))) || ((((g.nodes[i]'hi1).kind) != 7) && (decide ((((g.nodes[i]'hi1).outs)[k]'hi2) ≤ ((i : Nat) : Int))))))] (fun w' => w11 = w') ?_ ?_
            · refine J_if (gd := 65) rfl rfl (fun hg4 => ?_) (fun hg4 => ?_)
              · refine J_gd rfl rfl (R_move rfl) rfl (J_gd rfl rfl (R_move rfl) rfl (J_gd rfl rfl (R_gtr rfl rfl) rfl (J_gd rfl rfl (R_move rfl) rfl ?_)))
                refine J_if (gd := 69) rfl rfl (fun hg5 => ?_) (fun hg5 => ?_)
                · refine J_gdno rfl rfl rfl rfl (J_gdno rfl rfl rfl rfl (J_gdno rfl rfl rfl rfl (J_gdx rfl rfl rfl (J_gdx rfl rfl rfl (J_gdno rfl rfl rfl rfl (J_gd rfl rfl (R_pickT rfl rfl) rfl (J_st (R_pickT rfl rfl) rfl (J_st (R_move rfl) rfl (J_gdno rfl rfl rfl rfl (J_gdno rfl rfl rfl rfl (J_gdno rfl rfl rfl rfl (J_gdno rfl rfl rfl rfl (J_gdx rfl rfl rfl (J_gdx rfl rfl rfl (J_gdx rfl rfl rfl (J_gdno rfl rfl rfl rfl (J_st (R_pickT rfl rfl) rfl (J_cutEnd ⟨rfl, rfl, rfl, rfl, rfl, rfl, rfl, rfl, rfl, rfl, rfl, rfl, rfl, rfl, rfl, rfl, rfl, rfl, rfl, rfl, rfl, rfl, rfl, rfl, rfl, rfl, congrArg (fun b => some (Value.bool b)) (show true = (((((g.nodes[i]'hi1).kind) == 7) && ((decide (((i : Nat) : Int) < (((g.nodes[i]'hi1).outs)[k]'hi2))) || ((((g.nodes[(Int.toNat (((g.nodes[i]'hi1).outs)[k]'hi2))]'hi3).kind) != 5) && (((g.nodes[(Int.toNat (((g.nodes[i]'hi1).outs)[k]'hi2))]'hi3).kind) != 6)))) || ((((g.nodes[i]'hi1).kind) != 7) && (decide ((((g.nodes[i]'hi1).outs)[k]'hi2) ≤ ((i : Nat) : Int))))) by first | (rw [hg4, hg5] <;> rfl) | (simp [hg4, hg5]; done) | (simp only [nat_nlt] <;> simp)), trivial⟩ rfl))))))))))))))))))
                · refine J_gd rfl rfl (R_move rfl) rfl (J_gd rfl rfl (R_neq rfl rfl) rfl (J_gd rfl rfl (R_move rfl) rfl ?_))
                  refine J_if (gd := 72) rfl rfl (fun hg6 => ?_) (fun hg6 => ?_)
                  · refine J_gd rfl rfl (R_move rfl) rfl (J_gd rfl rfl (R_neq rfl rfl) rfl (J_gd rfl rfl (R_pickT rfl rfl) rfl (J_gd rfl rfl (R_pickF rfl rfl) rfl (J_st (R_pickT rfl rfl) rfl (J_st (R_move rfl) rfl ?_)))))
                    refine J_if (gd := 78) rfl rfl (fun hg7 => ?_) (fun hg7 => ?_)
                    · refine J_gdno rfl rfl rfl rfl (J_gdno rfl rfl rfl rfl (J_gdno rfl rfl rfl rfl (J_gdno rfl rfl rfl rfl (J_gdx rfl rfl rfl (J_gdx rfl rfl rfl (J_gdx rfl rfl rfl (J_gdno rfl rfl rfl rfl (J_st (R_pickT rfl rfl) rfl (J_cutEnd ⟨rfl, rfl, rfl, rfl, rfl, rfl, rfl, rfl, rfl, rfl, rfl, rfl, rfl, rfl, rfl, rfl, rfl, rfl, rfl, rfl, rfl, rfl, rfl, rfl, rfl, rfl, congrArg (fun b => some (Value.bool b)) (show true = (((((g.nodes[i]'hi1).kind) == 7) && ((decide (((i : Nat) : Int) < (((g.nodes[i]'hi1).outs)[k]'hi2))) || ((((g.nodes[(Int.toNat (((g.nodes[i]'hi1).outs)[k]'hi2))]'hi3).kind) != 5) && (((g.nodes[(Int.toNat (((g.nodes[i]'hi1).outs)[k]'hi2))]'hi3).kind) != 6)))) || ((((g.nodes[i]'hi1).kind) != 7) && (decide ((((g.nodes[i]'hi1).outs)[k]'hi2) ≤ ((i : Nat) : Int))))) by first | (rw [hg4, hg5, hg6, hg7] <;> rfl) | (simp [hg4, hg5, hg6, hg7]; done) | (simp only [nat_nlt] <;> simp)), trivial⟩ rfl)))))))))
                    · refine J_gd rfl rfl (R_fieldAddr0 fl70_0 rfl) rfl (J_gd rfl rfl (R_load sc3 rfl (h2.one 0 rfl)) rfl (J_gd rfl rfl (R_neq rfl rfl) rfl (J_gd rfl rfl (R_move rfl) rfl ?_)))
                      refine J_if (gd := 82) rfl rfl (fun hg8 => ?_) (fun hg8 => ?_)
                      · refine J_gd rfl rfl (R_move rfl) rfl (J_gd rfl rfl (R_move rfl) rfl (J_gd rfl rfl (R_leq rfl rfl) rfl (J_gd rfl rfl (R_pickT rfl rfl) rfl (J_st (R_pickF rfl rfl) rfl (J_cutEnd ⟨rfl, rfl, rfl, rfl, rfl, rfl, rfl, rfl, rfl, rfl, rfl, rfl, rfl, rfl, rfl, rfl, rfl, rfl, rfl, rfl, rfl, rfl, rfl, rfl, rfl, rfl, congrArg (fun b => some (Value.bool b)) (show (decide ((((g.nodes[i]'hi1).outs)[k]'hi2) ≤ ((i : Nat) : Int))) = (((((g.nodes[i]'hi1).kind) == 7) && ((decide (((i : Nat) : Int) < (((g.nodes[i]'hi1).outs)[k]'hi2))) || ((((g.nodes[(Int.toNat (((g.nodes[i]'hi1).outs)[k]'hi2))]'hi3).kind) != 5) && (((g.nodes[(Int.toNat (((g.nodes[i]'hi1).outs)[k]'hi2))]'hi3).kind) != 6)))) || ((((g.nodes[i]'hi1).kind) != 7) && (decide ((((g.nodes[i]'hi1).outs)[k]'hi2) ≤ ((i : Nat) : Int))))) by first | (rw [hg4, hg5, hg6, hg7, hg8] <;> rfl) | (simp [hg4, hg5, hg6, hg7, hg8]; done) | (simp only [nat_nlt] <;> simp)), trivial⟩ rfl)))))
                      · refine J_gdno rfl rfl rfl rfl (J_gdno rfl rfl rfl rfl (J_gdno rfl rfl rfl rfl (J_gd rfl rfl (R_pickF rfl rfl) rfl (J_st (R_pickF rfl rfl) rfl (J_cutEnd ⟨rfl, rfl, rfl, rfl, rfl, rfl, rfl, rfl, rfl, rfl, rfl, rfl, rfl, rfl, rfl, rfl, rfl, rfl, rfl, rfl, rfl, rfl, rfl, rfl, rfl, rfl, congrArg (fun b => some (Value.bool b)) (show false = (((((g.nodes[i]'hi1).kind) == 7) && ((decide (((i : Nat) : Int) < (((g.nodes[i]'hi1).outs)[k]'hi2))) || ((((g.nodes[(Int.toNat (((g.nodes[i]'hi1).outs)[k]'hi2))]'hi3).kind) != 5) && (((g.nodes[(Int.toNat (((g.nodes[i]'hi1).outs)[k]'hi2))]'hi3).kind) != 6)))) || ((((g.nodes[i]'hi1).kind) != 7) && (decide ((((g.nodes[i]'hi1).outs)[k]'hi2) ≤ ((i : Nat) : Int))))) by first | (rw [hg4, hg5, hg6, hg7, hg8] <;> rfl) | (simp [hg4, hg5, hg6, hg7, hg8]; done) | (simp only [nat_nlt] <;> simp)), trivial⟩ rfl)))))
                  · refine J_gdno rfl rfl rfl rfl (J_gdno rfl rfl rfl rfl (J_gd rfl rfl (R_pickF rfl rfl) rfl (J_gd rfl rfl (R_pickF rfl rfl) rfl (J_st (R_pickT rfl rfl) rfl (J_st (R_move rfl) rfl (J_gd rfl rfl (R_fieldAddr0 fl70_0 rfl) rfl (J_gd rfl rfl (R_load sc3 rfl (h2.one 0 rfl)) rfl (J_gd rfl rfl (R_neq rfl rfl) rfl (J_gd rfl rfl (R_move rfl) rfl ?_)))))))))
                    refine J_if (gd := 82) rfl rfl (fun hg9 => ?_) (fun hg9 => ?_)
                    · refine J_gd rfl rfl (R_move rfl) rfl (J_gd rfl rfl (R_move rfl) rfl (J_gd rfl rfl (R_leq rfl rfl) rfl (J_gd rfl rfl (R_pickT rfl rfl) rfl (J_st (R_pickF rfl rfl) rfl (J_cutEnd ⟨rfl, rfl, rfl, rfl, rfl, rfl, rfl, rfl, rfl, rfl, rfl, rfl, rfl, rfl, rfl, rfl, rfl, rfl, rfl, rfl, rfl, rfl, rfl, rfl, rfl, rfl, congrArg (fun b => some (Value.bool b)) (show (decide ((((g.nodes[i]'hi1).outs)[k]'hi2) ≤ ((i : Nat) : Int))) = (((((g.nodes[i]'hi1).kind) == 7) && ((decide (((i : Nat) : Int) < (((g.nodes[i]'hi1).outs)[k]'hi2))) || ((((g.nodes[(Int.toNat (((g.nodes[i]'hi1).outs)[k]'hi2))]'hi3).kind) != 5) && (((g.nodes[(Int.toNat (((g.nodes[i]'hi1).outs)[k]'hi2))]'hi3).kind) != 6)))) || ((((g.nodes[i]'hi1).kind) != 7) && (decide ((((g.nodes[i]'hi1).outs)[k]'hi2) ≤ ((i : Nat) : Int))))) by first | (rw [hg4, hg5, hg6, hg9] <;> rfl) | (simp [hg4, hg5, hg6, hg9]; done) | (simp only [nat_nlt] <;> simp)), trivial⟩ rfl)))))
                    · refine J_gdno rfl rfl rfl rfl (J_gdno rfl rfl rfl rfl (J_gdno rfl rfl rfl rfl (J_gd rfl rfl (R_pickF rfl rfl) rfl (J_st (R_pickF rfl rfl) rfl (J_cutEnd ⟨rfl, rfl, rfl, rfl, rfl, rfl, rfl, rfl, rfl, rfl, rfl, rfl, rfl, rfl, rfl, rfl, rfl, rfl, rfl, rfl, rfl, rfl, rfl, rfl, rfl, rfl, congrArg (fun b => some (Value.bool b)) (show false = (((((g.nodes[i]'hi1).kind) == 7) && ((decide (((i : Nat) : Int) < (((g.nodes[i]'hi1).outs)[k]'hi2))) || ((((g.nodes[(Int.toNat (((g.nodes[i]'hi1).outs)[k]'hi2))]'hi3).kind) != 5) && (((g.nodes[(Int.toNat (((g.nodes[i]'hi1).outs)[k]'hi2))]'hi3).kind) != 6)))) || ((((g.nodes[i]'hi1).kind) != 7) && (decide ((((g.nodes[i]'hi1).outs)[k]'hi2) ≤ ((i : Nat) : Int))))) by first | (rw [hg4, hg5, hg6, hg9] <;> rfl) | (simp [hg4, hg5, hg6, hg9]; done) | (simp only [nat_nlt] <;> simp)), trivial⟩ rfl)))))
              · refine J_gdno rfl rfl rfl rfl (J_gdno rfl rfl rfl rfl (J_gdno rfl rfl rfl rfl (J_gdno rfl rfl rfl rfl (J_gdx rfl rfl rfl (J_gdx rfl rfl rfl (J_gdx rfl rfl rfl (J_gdx rfl rfl rfl (J_gdx rfl rfl rfl (J_gdx rfl rfl rfl (J_gdno rfl rfl rfl rfl (J_st (R_pickF rfl rfl) rfl (J_st (R_move rfl) rfl (J_gd rfl rfl (R_fieldAddr0 fl70_0 rfl) rfl (J_gd rfl rfl (R_load sc3 rfl (h2.one 0 rfl)) rfl (J_gd rfl rfl (R_neq rfl rfl) rfl (J_gd rfl rfl (R_move rfl) rfl ?_))))))))))))))))
                refine J_if (gd := 82) rfl rfl (fun hg10 => ?_) (fun hg10 => ?_)
                · refine J_gd rfl rfl (R_move rfl) rfl (J_gd rfl rfl (R_move rfl) rfl (J_gd rfl rfl (R_leq rfl rfl) rfl (J_gd rfl rfl (R_pickT rfl rfl) rfl (J_st (R_pickF rfl rfl) rfl (J_cutEnd ⟨rfl, rfl, rfl, rfl, rfl, rfl, rfl, rfl, rfl, rfl, rfl, rfl, rfl, rfl, rfl, rfl, rfl, rfl, rfl, rfl, rfl, rfl, rfl, rfl, rfl, rfl, congrArg (fun b => some (Value.bool b)) (show (decide ((((g.nodes[i]'hi1).outs)[k]'hi2) ≤ ((i : Nat) : Int))) = (((((g.nodes[i]'hi1).kind) == 7) && ((decide (((i : Nat) : Int) < (((g.nodes[i]'hi1).outs)[k]'hi2))) || ((((g.nodes[(Int.toNat (((g.nodes[i]'hi1).outs)[k]'hi2))]'hi3).kind) != 5) && (((g.nodes[(Int.toNat (((g.nodes[i]'hi1).outs)[k]'hi2))]'hi3).kind) != 6)))) || ((((g.nodes[i]'hi1).kind) != 7) && (decide ((((g.nodes[i]'hi1).outs)[k]'hi2) ≤ ((i : Nat) : Int))))) by first | (rw [hg4, hg10] <;> rfl) | (simp [hg4, hg10]; done) | (simp only [nat_nlt] <;> simp)), trivial⟩ rfl)))))
                · refine J_gdno rfl rfl rfl rfl (J_gdno rfl rfl rfl rfl (J_gdno rfl rfl rfl rfl (J_gd rfl rfl (R_pickF rfl rfl) rfl (J_st (R_pickF rfl rfl) rfl (J_cutEnd ⟨rfl, rfl, rfl, rfl, rfl, rfl, rfl, rfl, rfl, rfl, rfl, rfl, rfl, rfl, rfl, rfl, rfl, rfl, rfl, rfl, rfl, rfl, rfl, rfl, rfl, rfl, congrArg (fun b => some (Value.bool b)) (show false = (((((g.nodes[i]'hi1).kind) == 7) && ((decide (((i : Nat) : Int) < (((g.nodes[i]'hi1).outs)[k]'hi2))) || ((((g.nodes[(Int.toNat (((g.nodes[i]'hi1).outs)[k]'hi2))]'hi3).kind) != 5) && (((g.nodes[(Int.toNat (((g.nodes[i]'hi1).outs)[k]'hi2))]'hi3).kind) != 6)))) || ((((g.nodes[i]'hi1).kind) != 7) && (decide ((((g.nodes[i]'hi1).outs)[k]'hi2) ≤ ((i : Nat) : Int))))) by first | (rw [hg4, hg10] <;> rfl) | (simp [hg4, hg10]; done) | (simp only [nat_nlt] <;> simp)), trivial⟩ rfl)))))
            rintro _ rfl
            refine J_done ?_
            refine S_cond rfl (fun hc6 => ?_) (fun hc6 => ?_)
            · refine S_seq ?_
              refine S_reg [true] rfl rfl ?_
              refine J_st (R_assign rfl) rfl (J_done ?_)
              refine S_ret (E_inB_ret (E_lp_ret (E_inB_ret (E_inB_ret (E_lp_ret (E_inB_ret (E_done1 rfl rfl E ?_)))))))
              exact graph_e (edge_b (congrArg Node.kind (getD_at _)).symm (by assumption))
            · refine S_skip ?_
              refine S_nil (E_inB ?_)
              refine S_reg [true, true] rfl rfl ?_
              refine J_st (R_add rfl rfl (add_one hc4n (hd2.ext E).1.1)) rfl (J_st (R_move rfl) rfl (J_done ?_))
              refine S_nil (E_again (k + 1) (by omega) ⟨rfl, rfl, rfl, rfl, rfl, rfl, rfl, rfl, rfl, rfl, trivial⟩ ⟨E, (by omega), h1, h2, (by omega), all_step hI (by assumption) (edge_n (congrArg Node.kind (getD_at _)).symm (by assumption) (by assumption))⟩)
        · have hc4n : ¬ k < ((g.nodes[i]'hi1).outs).length := by first | (have h := of_decide_eq_false hc4; omega) | (have h := hc4; simp at h; omega)
          refine S_exit (E_lp_exit (E_inB_exit ?_))
          refine S_nil (E_inB ?_)
          refine S_reg [true, true] rfl rfl ?_
          refine J_st (R_add rfl rfl (add_one hc2n (hd1.ext E).1.1)) rfl (J_st (R_move rfl) rfl (J_done ?_))
          refine S_nil (E_again (i + 1) (by omega) ⟨rfl, rfl, rfl, rfl, rfl, trivial⟩ ⟨E, (by omega), h1, (by omega), graph_s (h1 := hi1) (by assumption) hI (by omega) hp⟩)
    · have hc2n : ¬ i < g.nodes.length := by first | (have h := of_decide_eq_false hc2; omega) | (have h := hc2; simp at h; omega)
      refine S_exit (E_lp_exit (E_inB_exit ?_))
      refine S_seq ?_
      refine S_reg [true] rfl rfl ?_
      refine J_st (R_assign rfl) rfl (J_done ?_)
      refine S_ret (E_done1 rfl rfl E ?_)
      exact graph_y (by assumption) hp (by omega)

end Go.Proofs.Ytlhdkpdpkgocoaa
