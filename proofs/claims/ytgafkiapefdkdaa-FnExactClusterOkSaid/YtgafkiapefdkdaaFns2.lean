/- What the functions that the laws call come to: a contract each; no condition. -/
import Derived.Test.YtgafkiapefdkdaaFns
namespace Go.Proofs.Ytgafkiapefdkdaa
open Go Go.Proofs.Ytgafkiapefdkdaa.X Go.Proofs
set_option maxHeartbeats 4000000 in
set_option maxRecDepth 20000 in
theorem s_NodeOk (cx : List Value) (x : Node) (w : World) (hx : Dat.R w 0 w.heap.size cx x) : Ct Try.prog 37 [.agg cx.toArray] w (fun v _ => v = .bool (nodeOk x)) := by
  refine ct_of Try.func37 rfl Try.ntmps37 rfl ?_
  obtain ⟨o1, rfl, hd1⟩ := Node.op hx
  refine S_sub [(0, .agg [.int .i64 x.kind, .int .i64 x.a, .int .i64 x.b, o1].toArray)] ⟨rfl, trivial⟩ ?_
  have E : Ext w w := Ext.refl w
  refine S_seq ?_
  refine S_reg [false, true] rfl rfl ?_
  refine J_box rfl rfl (fun b1 w1 e1 s1 h1 => ?_)
  have g_b1 : w.heap.size ≤ b1 := by have := E.size; omega
  have y_b1 := h1.lt
  replace E := E.trans e1
  have z1 := e1.size
  refine J_st (R_assign rfl) rfl (J_done ?_)
  refine S_seq ?_
  refine S_reg [true, true, true, true] rfl rfl ?_
  refine J_st (R_fieldAddr0 fl89_1 rfl) rfl (J_st (R_load sc3 rfl (h1.one 1 rfl)) rfl (J_st (R_eql rfl rfl) rfl (J_st (R_assign rfl) rfl (J_done ?_))))
  refine S_seq ?_
  refine S_reg [true, true, true, true] rfl rfl ?_
  refine J_st (R_fieldAddr0 fl89_2 rfl) rfl (J_st (R_load sc3 rfl (h1.one 2 rfl)) rfl (J_st (R_eql rfl rfl) rfl (J_st (R_assign rfl) rfl (J_done ?_))))
  refine S_seq ?_
  refine S_seq ?_
  refine S_reg [true, true] rfl rfl ?_
  refine J_st (R_fieldAddr0 fl89_0 rfl) rfl (J_st (R_load sc3 rfl (h1.one 0 rfl)) rfl (J_done ?_))
  refine S_block ?_
  refine S_seq ?_
  refine S_reg [true, true] rfl rfl ?_
  refine J_st (R_eql rfl rfl) rfl (J_st (R_assign rfl) rfl (J_done ?_))
  refine S_cond rfl (fun hc1 => ?_) (fun hc1 => ?_)
  · refine S_reg [true, true, false, true] rfl rfl ?_
    refine J_st (R_fieldAddr0 fl89_1 rfl) rfl (J_st (R_load sc3 rfl (h1.one 1 rfl)) rfl ?_)
    refine J_call Try.call18 rfl (s_l01In x.a 0 999 _ ) rfl (fun _ w2 e2 hv => ?_)
    subst hv
    replace E := E.trans e2; replace h1 := h1.ext e2
    have z2 := e2.size
    refine J_st (R_assign rfl) rfl (J_done ?_)
    refine S_nil (E_inB ?_)
    refine S_seq ?_
    refine S_seq ?_
    refine S_reg [true, true, false, true, true, true, true, true, true, true, true, true, true, true, true, true, true, true, true, true, true, true, true, true, true, true, true, true, true] rfl rfl ?_
    refine J_st (R_fieldAddr0 fl89_0 rfl) rfl (J_st (R_load sc3 rfl (h1.one 0 rfl)) rfl ?_)
    refine J_call Try.call18 rfl (s_l01In x.kind 1 8 _ ) rfl (fun _ w3 e3 hv => ?_)
    subst hv
    replace E := E.trans e3; replace h1 := h1.ext e3
    have z3 := e3.size
    refine J_st (R_not rfl) rfl (J_st (R_move rfl) rfl ?_)
    refine J_cut 24 [(0, .agg [.int .i64 x.kind, .int .i64 x.a, .int .i64 x.b, o1].toArray), (1, .pointer (some ⟨b1, 0, none⟩)), (2, .bool false), (3, .bool (win x.a 0 999)), (4, .bool (x.b == 0)), (6, .pointer (some ⟨b1, 1, none⟩)), (7, .int .i64 x.a), (8, .bool (x.a == 0)), (9, .pointer (some ⟨b1, 2, none⟩)), (10, .int .i64 x.b), (11, .bool (x.b == 0)), (12, .pointer (some ⟨b1, 0, none⟩)), (13, .int .i64 x.kind), (14, .bool (x.kind == 2)), (15, .bool (x.kind == 2)), (16, .pointer (some ⟨b1, 1, none⟩)), (17, .int .i64 x.a), (18, .bool (win x.a 0 999)), (63, .bool (((((!(win x.kind 1 8)) || (!(win x.a 0 999))) || (!(x.b == 0))) || (decide (2 < ((x.outs.length : Nat) : Int)))) || ((x.kind == 8) && (decide (0 < ((x.outs.length : Nat) : Int))))))] (fun w' => w3 = w') ?_ ?_
    · refine J_if (gd := 39) rfl rfl (fun hg1 => ?_) (fun hg1 => ?_)
      · refine J_gdno rfl rfl rfl rfl (J_gdno rfl rfl rfl rfl (J_st (R_pickT rfl rfl) rfl (J_st (R_move rfl) rfl (J_gdno rfl rfl rfl rfl (J_gdno rfl rfl rfl rfl (J_st (R_pickT rfl rfl) rfl (J_st (R_move rfl) rfl (J_gdno rfl rfl rfl rfl (J_gdno rfl rfl rfl rfl (J_gdno rfl rfl rfl rfl (J_gdno rfl rfl rfl rfl (J_st (R_pickT rfl rfl) rfl (J_st (R_move rfl) rfl (J_gdno rfl rfl rfl rfl (J_gdno rfl rfl rfl rfl (J_gdno rfl rfl rfl rfl (J_gdno rfl rfl rfl rfl (J_gdx rfl rfl rfl (J_gdx rfl rfl rfl (J_gdx rfl rfl rfl (J_gdx rfl rfl rfl (J_gdno rfl rfl rfl rfl (J_st (R_pickT rfl rfl) rfl (J_cutEnd ⟨rfl, rfl, rfl, rfl, rfl, rfl, rfl, rfl, rfl, rfl, rfl, rfl, rfl, rfl, rfl, rfl, rfl, rfl, congrArg (fun b => some (Value.bool b)) (show true = (((((!(win x.kind 1 8)) || (!(win x.a 0 999))) || (!(x.b == 0))) || (decide (2 < ((x.outs.length : Nat) : Int)))) || ((x.kind == 8) && (decide (0 < ((x.outs.length : Nat) : Int))))) by first | (rw [hg1] <;> rfl) | (simp [hg1]; done) | (simp only [nat_nlt] <;> simp)), trivial⟩ rfl))))))))))))))))))))))))
      · refine J_gd rfl rfl (R_move rfl) rfl (J_gd rfl rfl (R_not rfl) rfl (J_st (R_pickF rfl rfl) rfl (J_st (R_move rfl) rfl ?_)))
        refine J_if (gd := 43) rfl rfl (fun hg2 => ?_) (fun hg2 => ?_)
        · refine J_gdno rfl rfl rfl rfl (J_gdno rfl rfl rfl rfl (J_st (R_pickT rfl rfl) rfl (J_st (R_move rfl) rfl (J_gdno rfl rfl rfl rfl (J_gdno rfl rfl rfl rfl (J_gdno rfl rfl rfl rfl (J_gdno rfl rfl rfl rfl (J_st (R_pickT rfl rfl) rfl (J_st (R_move rfl) rfl (J_gdno rfl rfl rfl rfl (J_gdno rfl rfl rfl rfl (J_gdno rfl rfl rfl rfl (J_gdno rfl rfl rfl rfl (J_gdx rfl rfl rfl (J_gdx rfl rfl rfl (J_gdx rfl rfl rfl (J_gdx rfl rfl rfl (J_gdno rfl rfl rfl rfl (J_st (R_pickT rfl rfl) rfl (J_cutEnd ⟨rfl, rfl, rfl, rfl, rfl, rfl, rfl, rfl, rfl, rfl, rfl, rfl, rfl, rfl, rfl, rfl, rfl, rfl, congrArg (fun b => some (Value.bool b)) (show true = (((((!(win x.kind 1 8)) || (!(win x.a 0 999))) || (!(x.b == 0))) || (decide (2 < ((x.outs.length : Nat) : Int)))) || ((x.kind == 8) && (decide (0 < ((x.outs.length : Nat) : Int))))) by first | (rw [hg1, hg2] <;> rfl) | (simp [hg1, hg2]; done) | (simp only [nat_nlt] <;> simp)), trivial⟩ rfl))))))))))))))))))))
        · refine J_gd rfl rfl (R_move rfl) rfl (J_gd rfl rfl (R_not rfl) rfl (J_st (R_pickF rfl rfl) rfl (J_st (R_move rfl) rfl ?_)))
          refine J_if (gd := 47) rfl rfl (fun hg3 => ?_) (fun hg3 => ?_)
          · refine J_gdno rfl rfl rfl rfl (J_gdno rfl rfl rfl rfl (J_gdno rfl rfl rfl rfl (J_gdno rfl rfl rfl rfl (J_st (R_pickT rfl rfl) rfl (J_st (R_move rfl) rfl (J_gdno rfl rfl rfl rfl (J_gdno rfl rfl rfl rfl (J_gdno rfl rfl rfl rfl (J_gdno rfl rfl rfl rfl (J_gdx rfl rfl rfl (J_gdx rfl rfl rfl (J_gdx rfl rfl rfl (J_gdx rfl rfl rfl (J_gdno rfl rfl rfl rfl (J_st (R_pickT rfl rfl) rfl (J_cutEnd ⟨rfl, rfl, rfl, rfl, rfl, rfl, rfl, rfl, rfl, rfl, rfl, rfl, rfl, rfl, rfl, rfl, rfl, rfl, congrArg (fun b => some (Value.bool b)) (show true = (((((!(win x.kind 1 8)) || (!(win x.a 0 999))) || (!(x.b == 0))) || (decide (2 < ((x.outs.length : Nat) : Int)))) || ((x.kind == 8) && (decide (0 < ((x.outs.length : Nat) : Int))))) by first | (rw [hg1, hg2, hg3] <;> rfl) | (simp [hg1, hg2, hg3]; done) | (simp only [nat_nlt] <;> simp)), trivial⟩ rfl))))))))))))))))
          · refine J_gd rfl rfl (R_fieldAddr0 fl89_3 rfl) rfl (J_gd rfl rfl (R_load sc54 rfl (h1.one 3 rfl)) rfl (J_gd rfl rfl (R_len Try.underlying54 rfl (hd1.ext E).len) rfl (J_gd rfl rfl (R_gtr rfl rfl) rfl (J_st (R_pickF rfl rfl) rfl (J_st (R_move rfl) rfl ?_)))))
            refine J_if (gd := 53) rfl rfl (fun hg4 => ?_) (fun hg4 => ?_)
            · have hg4n : x.outs.length > 2 := by first | (have h := of_decide_eq_true hg4; omega) | (have h := hg4; simp at h; omega)
              refine J_gdno rfl rfl rfl rfl (J_gdno rfl rfl rfl rfl (J_gdno rfl rfl rfl rfl (J_gdno rfl rfl rfl rfl (J_gdx rfl rfl rfl (J_gdx rfl rfl rfl (J_gdx rfl rfl rfl (J_gdx rfl rfl rfl (J_gdno rfl rfl rfl rfl (J_st (R_pickT rfl rfl) rfl (J_cutEnd ⟨rfl, rfl, rfl, rfl, rfl, rfl, rfl, rfl, rfl, rfl, rfl, rfl, rfl, rfl, rfl, rfl, rfl, rfl, congrArg (fun b => some (Value.bool b)) (show true = (((((!(win x.kind 1 8)) || (!(win x.a 0 999))) || (!(x.b == 0))) || (decide (2 < ((x.outs.length : Nat) : Int)))) || ((x.kind == 8) && (decide (0 < ((x.outs.length : Nat) : Int))))) by first | (rw [hg1, hg2, hg3, hg4] <;> rfl) | (simp [hg1, hg2, hg3, hg4]; done) | (simp only [nat_nlt] <;> simp)), trivial⟩ rfl))))))))))
            · have hg4n : ¬ x.outs.length > 2 := by first | (have h := of_decide_eq_false hg4; omega) | (have h := hg4; simp at h; omega)
              refine J_gd rfl rfl (R_fieldAddr0 fl89_0 rfl) rfl (J_gd rfl rfl (R_load sc3 rfl (h1.one 0 rfl)) rfl (J_gd rfl rfl (R_eql rfl rfl) rfl (J_gd rfl rfl (R_move rfl) rfl ?_)))
              refine J_if (gd := 57) rfl rfl (fun hg5 => ?_) (fun hg5 => ?_)
              · refine J_gd rfl rfl (R_fieldAddr0 fl89_3 rfl) rfl (J_gd rfl rfl (R_load sc54 rfl (h1.one 3 rfl)) rfl (J_gd rfl rfl (R_len Try.underlying54 rfl (hd1.ext E).len) rfl (J_gd rfl rfl (R_gtr rfl rfl) rfl (J_gd rfl rfl (R_pickT rfl rfl) rfl (J_st (R_pickF rfl rfl) rfl (J_cutEnd ⟨rfl, rfl, rfl, rfl, rfl, rfl, rfl, rfl, rfl, rfl, rfl, rfl, rfl, rfl, rfl, rfl, rfl, rfl, congrArg (fun b => some (Value.bool b)) (show (decide (0 < ((x.outs.length : Nat) : Int))) = (((((!(win x.kind 1 8)) || (!(win x.a 0 999))) || (!(x.b == 0))) || (decide (2 < ((x.outs.length : Nat) : Int)))) || ((x.kind == 8) && (decide (0 < ((x.outs.length : Nat) : Int))))) by first | (rw [hg1, hg2, hg3, hg4, hg5] <;> rfl) | (simp [hg1, hg2, hg3, hg4, hg5]; done) | (simp only [nat_nlt] <;> simp)), trivial⟩ rfl))))))
              · refine J_gdno rfl rfl rfl rfl (J_gdno rfl rfl rfl rfl (J_gdno rfl rfl rfl rfl (J_gdno rfl rfl rfl rfl (J_gd rfl rfl (R_pickF rfl rfl) rfl (J_st (R_pickF rfl rfl) rfl (J_cutEnd ⟨rfl, rfl, rfl, rfl, rfl, rfl, rfl, rfl, rfl, rfl, rfl, rfl, rfl, rfl, rfl, rfl, rfl, rfl, congrArg (fun b => some (Value.bool b)) (show false = (((((!(win x.kind 1 8)) || (!(win x.a 0 999))) || (!(x.b == 0))) || (decide (2 < ((x.outs.length : Nat) : Int)))) || ((x.kind == 8) && (decide (0 < ((x.outs.length : Nat) : Int))))) by first | (rw [hg1, hg2, hg3, hg4, hg5] <;> rfl) | (simp [hg1, hg2, hg3, hg4, hg5]; done) | (simp only [nat_nlt] <;> simp)), trivial⟩ rfl))))))
    rintro _ rfl
    refine J_done ?_
    refine S_cond rfl (fun hc2 => ?_) (fun hc2 => ?_)
    · refine S_seq ?_
      refine S_reg [true] rfl rfl ?_
      refine J_st (R_assign rfl) rfl (J_done ?_)
      refine S_ret (E_done1 rfl rfl E ?_)
      exact node_s (p := win x.a 0 999) (q := x.b == 0) (by rw [node_2 (by assumption), win_kind (n := x.kind) (by have := eq_of_beq (show (x.kind == 2) = true by assumption); omega), Bool.true_and]) (by assumption)
    · refine S_skip ?_
      refine S_seq ?_
      refine S_seq ?_
      refine S_reg [true] rfl rfl ?_
      refine J_st (R_assign rfl) rfl (J_done ?_)
      refine S_block ?_
      refine S_loop (fun (k : Nat) => [(1, .pointer (some ⟨b1, 0, none⟩)), (2, .bool false), (5, .int .i64 ((k : Nat) : Int))]) (fun (k : Nat) w' => Ext w w' ∧ w3.heap.size ≤ w'.heap.size ∧ Blk w' b1 ([.int .i64 x.kind, .int .i64 x.a, .int .i64 x.b, o1]) ∧ k ≤ x.outs.length ∧ (x.outs.take k).all (win · 0 7) = true ∧ (1 < k → ((List.getD x.outs 0 default) == (List.getD x.outs 1 default)) = false)) (fun (k : Nat) => x.outs.length - k) 0 ⟨rfl, rfl, rfl, trivial⟩ ⟨E, Nat.le_refl _, h1, Nat.zero_le _, rfl, (by omega)⟩ ?_
      clear E h1
      rintro k w5 ⟨E, z4, h1, hk, hI, hJ⟩
      refine S_seq ?_
      refine S_seq ?_
      refine S_reg [true, true, true, true, true] rfl rfl ?_
      refine J_st (R_move rfl) rfl (J_st (R_fieldAddr0 fl89_3 rfl) rfl (J_st (R_load sc54 rfl (h1.one 3 rfl)) rfl (J_st (R_len Try.underlying54 rfl (hd1.ext E).len) rfl (J_st (R_lss rfl rfl) rfl (J_done ?_)))))
      refine S_cond rfl (fun hc3 => ?_) (fun hc3 => ?_)
      · have hc3n : k < x.outs.length := by first | (have h := of_decide_eq_true hc3; omega) | (have h := hc3; simp at h; omega)
        refine S_skip ?_
        refine S_seq ?_
        refine S_block ?_
        refine S_seq ?_
        refine S_regD mixed [(0, true), (1, true), (2, true), (3, true), (4, true), (5, false), (6, true), (7, true), (8, true), (9, true), (10, true), (11, true), (12, true), (13, true), (14, true), (15, true), (16, true), (17, true), (18, true), (19, true), (20, true), (21, true)] (by decide +kernel) rfl (fun w6 e4 => ?_)
        replace E := E.trans e4; replace h1 := h1.ext e4
        have z5 := e4.size
        refine J_st (R_fieldAddr0 fl89_3 rfl) rfl (J_st (R_load sc54 rfl (h1.one 3 rfl)) rfl (J_st (R_move rfl) rfl ?_))
        have hi1 : k < x.outs.length := (by first | assumption | omega)
        refine J_st (R_index (i := k) sl54 rfl rfl (hd1.rd.ext E) hi1) rfl (J_st (R_load sc3 rfl (((hd1.rd.ext E).get hi1).one 0 rfl)) rfl ?_)
        refine J_call Try.call18 rfl (s_l01In (x.outs[k]'hi1) 0 7 _ ) rfl (fun _ w7 e5 hv => ?_)
        subst hv
        replace E := E.trans e5; replace h1 := h1.ext e5
        have z6 := e5.size
        refine J_st (R_not rfl) rfl (J_st (R_move rfl) rfl ?_)
        refine J_cut 14 [(1, .pointer (some ⟨b1, 0, none⟩)), (2, .bool false), (5, .int .i64 ((k : Nat) : Int)), (64, .int .i64 ((k : Nat) : Int)), (65, .pointer (some ⟨b1, 3, none⟩)), (66, o1), (67, .int .i64 ((x.outs.length : Nat) : Int)), (68, .bool (decide (((k : Nat) : Int) < ((x.outs.length : Nat) : Int)))), (92, .bool ((!(win (x.outs[k]'hi1) 0 7)) || ((decide (0 < ((k : Nat) : Int))) && ((List.getD x.outs 0 default) == (List.getD x.outs 1 default)))))] (fun w' => w7 = w') ?_ ?_
        · refine J_if (gd := 78) rfl rfl (fun hg6 => ?_) (fun hg6 => ?_)
          · refine J_gdno rfl rfl rfl rfl (J_gdno rfl rfl rfl rfl (J_gdno rfl rfl rfl rfl (J_gdx rfl rfl rfl (J_gdx rfl rfl rfl (J_gdx rfl rfl rfl (J_gdx rfl rfl rfl (J_gdx rfl rfl rfl (J_gdx rfl rfl rfl (J_gdx rfl rfl rfl (J_gdx rfl rfl rfl (J_gdx rfl rfl rfl (J_gdno rfl rfl rfl rfl (J_st (R_pickT rfl rfl) rfl (J_cutEnd ⟨rfl, rfl, rfl, rfl, rfl, rfl, rfl, rfl, congrArg (fun b => some (Value.bool b)) (show true = ((!(win (x.outs[k]'hi1) 0 7)) || ((decide (0 < ((k : Nat) : Int))) && ((List.getD x.outs 0 default) == (List.getD x.outs 1 default)))) by first | (rw [hg6] <;> rfl) | (simp [hg6]; done) | (simp only [nat_nlt] <;> simp)), trivial⟩ rfl))))))))))))))
          · refine J_gd rfl rfl (R_move rfl) rfl (J_gd rfl rfl (R_gtr rfl rfl) rfl (J_gd rfl rfl (R_move rfl) rfl ?_))
            refine J_if (gd := 81) rfl rfl (fun hg7 => ?_) (fun hg7 => ?_)
            · have hg7n : k > 0 := by first | (have h := of_decide_eq_true hg7; omega) | (have h := hg7; simp at h; omega)
              refine J_gd rfl rfl (R_fieldAddr0 fl89_3 rfl) rfl (J_gd rfl rfl (R_load sc54 rfl (h1.one 3 rfl)) rfl (J_gd rfl rfl (R_index (i := 0) sl54 rfl rfl (hd1.rd.ext E) (by first | assumption | omega)) rfl (J_gd rfl rfl (R_load sc3 rfl ((RdS.getD (hd1.rd.ext E) (i := 0) (by first | assumption | omega)).one 0 rfl)) rfl (J_gd rfl rfl (R_fieldAddr0 fl89_3 rfl) rfl (J_gd rfl rfl (R_load sc54 rfl (h1.one 3 rfl)) rfl (J_gd rfl rfl (R_index (i := 1) sl54 rfl rfl (hd1.rd.ext E) (by first | assumption | omega)) rfl (J_gd rfl rfl (R_load sc3 rfl ((RdS.getD (hd1.rd.ext E) (i := 1) (by first | assumption | omega)).one 0 rfl)) rfl (J_gd rfl rfl (R_eql rfl rfl) rfl (J_gd rfl rfl (R_pickT rfl rfl) rfl (J_st (R_pickF rfl rfl) rfl (J_cutEnd ⟨rfl, rfl, rfl, rfl, rfl, rfl, rfl, rfl, congrArg (fun b => some (Value.bool b)) (show ((List.getD x.outs 0 default) == (List.getD x.outs 1 default)) = ((!(win (x.outs[k]'hi1) 0 7)) || ((decide (0 < ((k : Nat) : Int))) && ((List.getD x.outs 0 default) == (List.getD x.outs 1 default)))) by first | (rw [hg6, hg7] <;> rfl) | (simp [hg6, hg7]; done) | (simp only [nat_nlt] <;> simp)), trivial⟩ rfl)))))))))))
            · have hg7n : ¬ k > 0 := by first | (have h := of_decide_eq_false hg7; omega) | (have h := hg7; simp at h; omega)
              refine J_gdno rfl rfl rfl rfl (J_gdno rfl rfl rfl rfl (J_gdno rfl rfl rfl rfl (J_gdno rfl rfl rfl rfl (J_gdno rfl rfl rfl rfl (J_gdno rfl rfl rfl rfl (J_gdno rfl rfl rfl rfl (J_gdno rfl rfl rfl rfl (J_gdno rfl rfl rfl rfl (J_gd rfl rfl (R_pickF rfl rfl) rfl (J_st (R_pickF rfl rfl) rfl (J_cutEnd ⟨rfl, rfl, rfl, rfl, rfl, rfl, rfl, rfl, congrArg (fun b => some (Value.bool b)) (show false = ((!(win (x.outs[k]'hi1) 0 7)) || ((decide (0 < ((k : Nat) : Int))) && ((List.getD x.outs 0 default) == (List.getD x.outs 1 default)))) by first | (rw [hg6, hg7] <;> rfl) | (simp [hg6, hg7]; done) | (simp only [nat_nlt] <;> simp)), trivial⟩ rfl)))))))))))
        rintro _ rfl
        refine J_done ?_
        refine S_cond rfl (fun hc4 => ?_) (fun hc4 => ?_)
        · refine S_seq ?_
          refine S_reg [true] rfl rfl ?_
          refine J_st (R_assign rfl) rfl (J_done ?_)
          refine S_ret (E_inB_ret (E_lp_ret (E_inB_ret (E_done1 rfl rfl E ?_))))
          exact node_d (by assumption) (node_p (p := win x.a 0 999) (q := x.b == 0) (by assumption) (by rw [node_2 (by assumption), win_kind (n := x.kind) (by have := eq_of_beq (show (x.kind == 2) = true by assumption); omega), Bool.true_and])).2
        · refine S_skip ?_
          refine S_nil (E_inB ?_)
          refine S_reg [true, true, true] rfl rfl ?_
          refine J_st (R_move rfl) rfl (J_st (R_add rfl rfl (add_one hc3n (hd1.ext E).1.1)) rfl (J_st (R_assign rfl) rfl (J_done ?_)))
          refine S_nil (E_again (k + 1) (by omega) ⟨rfl, rfl, rfl, trivial⟩ ⟨E, (by omega), h1, (by omega), all_step hI (by assumption) (nodeL (by assumption)), nodeJ (by assumption)⟩)
      · have hc3n : ¬ k < x.outs.length := by first | (have h := of_decide_eq_false hc3; omega) | (have h := hc3; simp at h; omega)
        refine S_exit (E_lp_exit (E_inB_exit ?_))
        refine S_seq ?_
        refine S_reg [true] rfl rfl ?_
        refine J_st (R_assign rfl) rfl (J_done ?_)
        refine S_ret (E_done1 rfl rfl E ?_)
        exact node_z (p := win x.a 0 999) (q := x.b == 0) (by assumption) (by rw [node_2 (by assumption), win_kind (n := x.kind) (by have := eq_of_beq (show (x.kind == 2) = true by assumption); omega), Bool.true_and]) hI hJ (by omega)
  · refine S_seq ?_
    refine S_reg [true, true] rfl rfl ?_
    refine J_st (R_eql rfl rfl) rfl (J_st (R_assign rfl) rfl (J_done ?_))
    refine S_cond rfl (fun hc5 => ?_) (fun hc5 => ?_)
    · refine S_seq ?_
      refine S_reg [true, true, false, true] rfl rfl ?_
      refine J_st (R_fieldAddr0 fl89_1 rfl) rfl (J_st (R_load sc3 rfl (h1.one 1 rfl)) rfl ?_)
      refine J_call Try.call18 rfl (s_l01In x.a 1 10 _ ) rfl (fun _ w9 e6 hv => ?_)
      subst hv
      replace E := E.trans e6; replace h1 := h1.ext e6
      have z7 := e6.size
      refine J_st (R_assign rfl) rfl (J_done ?_)
      refine S_reg [true, true, true, true, true, false, true] rfl rfl ?_
      refine J_st (R_fieldAddr0 fl89_2 rfl) rfl (J_st (R_load sc3 rfl (h1.one 2 rfl)) rfl (J_st (R_fieldAddr0 fl89_1 rfl) rfl (J_st (R_load sc3 rfl (h1.one 1 rfl)) rfl (J_st (R_sub rfl rfl rfl) rfl ?_))))
      refine J_call Try.call18 rfl (s_l01In x.b 0 (IntKind.i64.wrap (x.a - 1)) _ ) rfl (fun _ w10 e7 hv => ?_)
      subst hv
      replace E := E.trans e7; replace h1 := h1.ext e7
      have z8 := e7.size
      refine J_st (R_assign rfl) rfl (J_done ?_)
      refine S_nil (E_inB ?_)
      refine S_seq ?_
      refine S_seq ?_
      refine S_reg [true, true, false, true, true, true, true, true, true, true, true, true, true, true, true, true, true, true, true, true, true, true, true, true, true, true, true, true, true] rfl rfl ?_
      refine J_st (R_fieldAddr0 fl89_0 rfl) rfl (J_st (R_load sc3 rfl (h1.one 0 rfl)) rfl ?_)
      refine J_call Try.call18 rfl (s_l01In x.kind 1 8 _ ) rfl (fun _ w11 e8 hv => ?_)
      subst hv
      replace E := E.trans e8; replace h1 := h1.ext e8
      have z9 := e8.size
      refine J_st (R_not rfl) rfl (J_st (R_move rfl) rfl ?_)
      refine J_cut 24 [(0, .agg [.int .i64 x.kind, .int .i64 x.a, .int .i64 x.b, o1].toArray), (1, .pointer (some ⟨b1, 0, none⟩)), (2, .bool false), (3, .bool (win x.a 1 10)), (4, .bool (win x.b 0 (IntKind.i64.wrap (x.a - 1)))), (6, .pointer (some ⟨b1, 1, none⟩)), (7, .int .i64 x.a), (8, .bool (x.a == 0)), (9, .pointer (some ⟨b1, 2, none⟩)), (10, .int .i64 x.b), (11, .bool (x.b == 0)), (12, .pointer (some ⟨b1, 0, none⟩)), (13, .int .i64 x.kind), (14, .bool (x.kind == 2)), (15, .bool (x.kind == 2)), (19, .bool (x.kind == 3)), (20, .bool (x.kind == 3)), (21, .pointer (some ⟨b1, 1, none⟩)), (22, .int .i64 x.a), (23, .bool (win x.a 1 10)), (24, .pointer (some ⟨b1, 2, none⟩)), (25, .int .i64 x.b), (26, .pointer (some ⟨b1, 1, none⟩)), (27, .int .i64 x.a), (28, .int .i64 (IntKind.i64.wrap (x.a - 1))), (29, .bool (win x.b 0 (IntKind.i64.wrap (x.a - 1)))), (63, .bool (((((!(win x.kind 1 8)) || (!(win x.a 1 10))) || (!(win x.b 0 (IntKind.i64.wrap (x.a - 1))))) || (decide (2 < ((x.outs.length : Nat) : Int)))) || ((x.kind == 8) && (decide (0 < ((x.outs.length : Nat) : Int))))))] (fun w' => w11 = w') ?_ ?_
      · refine J_if (gd := 39) rfl rfl (fun hg8 => ?_) (fun hg8 => ?_)
        · refine J_gdno rfl rfl rfl rfl (J_gdno rfl rfl rfl rfl (J_st (R_pickT rfl rfl) rfl (J_st (R_move rfl) rfl (J_gdno rfl rfl rfl rfl (J_gdno rfl rfl rfl rfl (J_st (R_pickT rfl rfl) rfl (J_st (R_move rfl) rfl (J_gdno rfl rfl rfl rfl (J_gdno rfl rfl rfl rfl (J_gdno rfl rfl rfl rfl (J_gdno rfl rfl rfl rfl (J_st (R_pickT rfl rfl) rfl (J_st (R_move rfl) rfl (J_gdno rfl rfl rfl rfl (J_gdno rfl rfl rfl rfl (J_gdno rfl rfl rfl rfl (J_gdno rfl rfl rfl rfl (J_gdx rfl rfl rfl (J_gdx rfl rfl rfl (J_gdx rfl rfl rfl (J_gdx rfl rfl rfl (J_gdno rfl rfl rfl rfl (J_st (R_pickT rfl rfl) rfl (J_cutEnd ⟨rfl, rfl, rfl, rfl, rfl, rfl, rfl, rfl, rfl, rfl, rfl, rfl, rfl, rfl, rfl, rfl, rfl, rfl, rfl, rfl, rfl, rfl, rfl, rfl, rfl, rfl, congrArg (fun b => some (Value.bool b)) (show true = (((((!(win x.kind 1 8)) || (!(win x.a 1 10))) || (!(win x.b 0 (IntKind.i64.wrap (x.a - 1))))) || (decide (2 < ((x.outs.length : Nat) : Int)))) || ((x.kind == 8) && (decide (0 < ((x.outs.length : Nat) : Int))))) by first | (rw [hg8] <;> rfl) | (simp [hg8]; done) | (simp only [nat_nlt] <;> simp)), trivial⟩ rfl))))))))))))))))))))))))
        · refine J_gd rfl rfl (R_move rfl) rfl (J_gd rfl rfl (R_not rfl) rfl (J_st (R_pickF rfl rfl) rfl (J_st (R_move rfl) rfl ?_)))
          refine J_if (gd := 43) rfl rfl (fun hg9 => ?_) (fun hg9 => ?_)
          · refine J_gdno rfl rfl rfl rfl (J_gdno rfl rfl rfl rfl (J_st (R_pickT rfl rfl) rfl (J_st (R_move rfl) rfl (J_gdno rfl rfl rfl rfl (J_gdno rfl rfl rfl rfl (J_gdno rfl rfl rfl rfl (J_gdno rfl rfl rfl rfl (J_st (R_pickT rfl rfl) rfl (J_st (R_move rfl) rfl (J_gdno rfl rfl rfl rfl (J_gdno rfl rfl rfl rfl (J_gdno rfl rfl rfl rfl (J_gdno rfl rfl rfl rfl (J_gdx rfl rfl rfl (J_gdx rfl rfl rfl (J_gdx rfl rfl rfl (J_gdx rfl rfl rfl (J_gdno rfl rfl rfl rfl (J_st (R_pickT rfl rfl) rfl (J_cutEnd ⟨rfl, rfl, rfl, rfl, rfl, rfl, rfl, rfl, rfl, rfl, rfl, rfl, rfl, rfl, rfl, rfl, rfl, rfl, rfl, rfl, rfl, rfl, rfl, rfl, rfl, rfl, congrArg (fun b => some (Value.bool b)) (show true = (((((!(win x.kind 1 8)) || (!(win x.a 1 10))) || (!(win x.b 0 (IntKind.i64.wrap (x.a - 1))))) || (decide (2 < ((x.outs.length : Nat) : Int)))) || ((x.kind == 8) && (decide (0 < ((x.outs.length : Nat) : Int))))) by first | (rw [hg8, hg9] <;> rfl) | (simp [hg8, hg9]; done) | (simp only [nat_nlt] <;> simp)), trivial⟩ rfl))))))))))))))))))))
          · refine J_gd rfl rfl (R_move rfl) rfl (J_gd rfl rfl (R_not rfl) rfl (J_st (R_pickF rfl rfl) rfl (J_st (R_move rfl) rfl ?_)))
            refine J_if (gd := 47) rfl rfl (fun hg10 => ?_) (fun hg10 => ?_)
            · refine J_gdno rfl rfl rfl rfl (J_gdno rfl rfl rfl rfl (J_gdno rfl rfl rfl rfl (J_gdno rfl rfl rfl rfl (J_st (R_pickT rfl rfl) rfl (J_st (R_move rfl) rfl (J_gdno rfl rfl rfl rfl (J_gdno rfl rfl rfl rfl (J_gdno rfl rfl rfl rfl (J_gdno rfl rfl rfl rfl (J_gdx rfl rfl rfl (J_gdx rfl rfl rfl (J_gdx rfl rfl rfl (J_gdx rfl rfl rfl (J_gdno rfl rfl rfl rfl (J_st (R_pickT rfl rfl) rfl (J_cutEnd ⟨rfl, rfl, rfl, rfl, rfl, rfl, rfl, rfl, rfl, rfl, rfl, rfl, rfl, rfl, rfl, rfl, rfl, rfl, rfl, rfl, rfl, rfl, rfl, rfl, rfl, rfl, congrArg (fun b => some (Value.bool b)) (show true = (((((!(win x.kind 1 8)) || (!(win x.a 1 10))) || (!(win x.b 0 (IntKind.i64.wrap (x.a - 1))))) || (decide (2 < ((x.outs.length : Nat) : Int)))) || ((x.kind == 8) && (decide (0 < ((x.outs.length : Nat) : Int))))) by first | (rw [hg8, hg9, hg10] <;> rfl) | (simp [hg8, hg9, hg10]; done) | (simp only [nat_nlt] <;> simp)), trivial⟩ rfl))))))))))))))))
            · refine J_gd rfl rfl (R_fieldAddr0 fl89_3 rfl) rfl (J_gd rfl rfl (R_load sc54 rfl (h1.one 3 rfl)) rfl (J_gd rfl rfl (R_len Try.underlying54 rfl (hd1.ext E).len) rfl (J_gd rfl rfl (R_gtr rfl rfl) rfl (J_st (R_pickF rfl rfl) rfl (J_st (R_move rfl) rfl ?_)))))
              refine J_if (gd := 53) rfl rfl (fun hg11 => ?_) (fun hg11 => ?_)
              · have hg11n : x.outs.length > 2 := by first | (have h := of_decide_eq_true hg11; omega) | (have h := hg11; simp at h; omega)
                refine J_gdno rfl rfl rfl rfl (J_gdno rfl rfl rfl rfl (J_gdno rfl rfl rfl rfl (J_gdno rfl rfl rfl rfl (J_gdx rfl rfl rfl (J_gdx rfl rfl rfl (J_gdx rfl rfl rfl (J_gdx rfl rfl rfl (J_gdno rfl rfl rfl rfl (J_st (R_pickT rfl rfl) rfl (J_cutEnd ⟨rfl, rfl, rfl, rfl, rfl, rfl, rfl, rfl, rfl, rfl, rfl, rfl, rfl, rfl, rfl, rfl, rfl, rfl, rfl, rfl, rfl, rfl, rfl, rfl, rfl, rfl, congrArg (fun b => some (Value.bool b)) (show true = (((((!(win x.kind 1 8)) || (!(win x.a 1 10))) || (!(win x.b 0 (IntKind.i64.wrap (x.a - 1))))) || (decide (2 < ((x.outs.length : Nat) : Int)))) || ((x.kind == 8) && (decide (0 < ((x.outs.length : Nat) : Int))))) by first | (rw [hg8, hg9, hg10, hg11] <;> rfl) | (simp [hg8, hg9, hg10, hg11]; done) | (simp only [nat_nlt] <;> simp)), trivial⟩ rfl))))))))))
              · have hg11n : ¬ x.outs.length > 2 := by first | (have h := of_decide_eq_false hg11; omega) | (have h := hg11; simp at h; omega)
                refine J_gd rfl rfl (R_fieldAddr0 fl89_0 rfl) rfl (J_gd rfl rfl (R_load sc3 rfl (h1.one 0 rfl)) rfl (J_gd rfl rfl (R_eql rfl rfl) rfl (J_gd rfl rfl (R_move rfl) rfl ?_)))
                refine J_if (gd := 57) rfl rfl (fun hg12 => ?_) (fun hg12 => ?_)
                · refine J_gd rfl rfl (R_fieldAddr0 fl89_3 rfl) rfl (J_gd rfl rfl (R_load sc54 rfl (h1.one 3 rfl)) rfl (J_gd rfl rfl (R_len Try.underlying54 rfl (hd1.ext E).len) rfl (J_gd rfl rfl (R_gtr rfl rfl) rfl (J_gd rfl rfl (R_pickT rfl rfl) rfl (J_st (R_pickF rfl rfl) rfl (J_cutEnd ⟨rfl, rfl, rfl, rfl, rfl, rfl, rfl, rfl, rfl, rfl, rfl, rfl, rfl, rfl, rfl, rfl, rfl, rfl, rfl, rfl, rfl, rfl, rfl, rfl, rfl, rfl, congrArg (fun b => some (Value.bool b)) (show (decide (0 < ((x.outs.length : Nat) : Int))) = (((((!(win x.kind 1 8)) || (!(win x.a 1 10))) || (!(win x.b 0 (IntKind.i64.wrap (x.a - 1))))) || (decide (2 < ((x.outs.length : Nat) : Int)))) || ((x.kind == 8) && (decide (0 < ((x.outs.length : Nat) : Int))))) by first | (rw [hg8, hg9, hg10, hg11, hg12] <;> rfl) | (simp [hg8, hg9, hg10, hg11, hg12]; done) | (simp only [nat_nlt] <;> simp)), trivial⟩ rfl))))))
                · refine J_gdno rfl rfl rfl rfl (J_gdno rfl rfl rfl rfl (J_gdno rfl rfl rfl rfl (J_gdno rfl rfl rfl rfl (J_gd rfl rfl (R_pickF rfl rfl) rfl (J_st (R_pickF rfl rfl) rfl (J_cutEnd ⟨rfl, rfl, rfl, rfl, rfl, rfl, rfl, rfl, rfl, rfl, rfl, rfl, rfl, rfl, rfl, rfl, rfl, rfl, rfl, rfl, rfl, rfl, rfl, rfl, rfl, rfl, congrArg (fun b => some (Value.bool b)) (show false = (((((!(win x.kind 1 8)) || (!(win x.a 1 10))) || (!(win x.b 0 (IntKind.i64.wrap (x.a - 1))))) || (decide (2 < ((x.outs.length : Nat) : Int)))) || ((x.kind == 8) && (decide (0 < ((x.outs.length : Nat) : Int))))) by first | (rw [hg8, hg9, hg10, hg11, hg12] <;> rfl) | (simp [hg8, hg9, hg10, hg11, hg12]; done) | (simp only [nat_nlt] <;> simp)), trivial⟩ rfl))))))
      rintro _ rfl
      refine J_done ?_
      refine S_cond rfl (fun hc6 => ?_) (fun hc6 => ?_)
      · refine S_seq ?_
        refine S_reg [true] rfl rfl ?_
        refine J_st (R_assign rfl) rfl (J_done ?_)
        refine S_ret (E_done1 rfl rfl E ?_)
        exact node_s (p := win x.a 1 10) (q := win x.b 0 (IntKind.i64.wrap (x.a - 1))) (by rw [node_3 (by assumption), win_kind (n := x.kind) (by have := eq_of_beq (show (x.kind == 3) = true by assumption); omega), Bool.true_and]) (by assumption)
      · refine S_skip ?_
        refine S_seq ?_
        refine S_seq ?_
        refine S_reg [true] rfl rfl ?_
        refine J_st (R_assign rfl) rfl (J_done ?_)
        refine S_block ?_
        refine S_loop (fun (k : Nat) => [(1, .pointer (some ⟨b1, 0, none⟩)), (2, .bool false), (5, .int .i64 ((k : Nat) : Int))]) (fun (k : Nat) w' => Ext w w' ∧ w11.heap.size ≤ w'.heap.size ∧ Blk w' b1 ([.int .i64 x.kind, .int .i64 x.a, .int .i64 x.b, o1]) ∧ k ≤ x.outs.length ∧ (x.outs.take k).all (win · 0 7) = true ∧ (1 < k → ((List.getD x.outs 0 default) == (List.getD x.outs 1 default)) = false)) (fun (k : Nat) => x.outs.length - k) 0 ⟨rfl, rfl, rfl, trivial⟩ ⟨E, Nat.le_refl _, h1, Nat.zero_le _, rfl, (by omega)⟩ ?_
        clear E h1
        rintro k w13 ⟨E, z10, h1, hk, hI, hJ⟩
        refine S_seq ?_
        refine S_seq ?_
        refine S_reg [true, true, true, true, true] rfl rfl ?_
        refine J_st (R_move rfl) rfl (J_st (R_fieldAddr0 fl89_3 rfl) rfl (J_st (R_load sc54 rfl (h1.one 3 rfl)) rfl (J_st (R_len Try.underlying54 rfl (hd1.ext E).len) rfl (J_st (R_lss rfl rfl) rfl (J_done ?_)))))
        refine S_cond rfl (fun hc7 => ?_) (fun hc7 => ?_)
        · have hc7n : k < x.outs.length := by first | (have h := of_decide_eq_true hc7; omega) | (have h := hc7; simp at h; omega)
          refine S_skip ?_
          refine S_seq ?_
          refine S_block ?_
          refine S_seq ?_
          refine S_regD mixed [(0, true), (1, true), (2, true), (3, true), (4, true), (5, false), (6, true), (7, true), (8, true), (9, true), (10, true), (11, true), (12, true), (13, true), (14, true), (15, true), (16, true), (17, true), (18, true), (19, true), (20, true), (21, true)] (by decide +kernel) rfl (fun w14 e9 => ?_)
          replace E := E.trans e9; replace h1 := h1.ext e9
          have z11 := e9.size
          refine J_st (R_fieldAddr0 fl89_3 rfl) rfl (J_st (R_load sc54 rfl (h1.one 3 rfl)) rfl (J_st (R_move rfl) rfl ?_))
          have hi2 : k < x.outs.length := (by first | assumption | omega)
          refine J_st (R_index (i := k) sl54 rfl rfl (hd1.rd.ext E) hi2) rfl (J_st (R_load sc3 rfl (((hd1.rd.ext E).get hi2).one 0 rfl)) rfl ?_)
          refine J_call Try.call18 rfl (s_l01In (x.outs[k]'hi2) 0 7 _ ) rfl (fun _ w15 e10 hv => ?_)
          subst hv
          replace E := E.trans e10; replace h1 := h1.ext e10
          have z12 := e10.size
          refine J_st (R_not rfl) rfl (J_st (R_move rfl) rfl ?_)
          refine J_cut 14 [(1, .pointer (some ⟨b1, 0, none⟩)), (2, .bool false), (5, .int .i64 ((k : Nat) : Int)), (64, .int .i64 ((k : Nat) : Int)), (65, .pointer (some ⟨b1, 3, none⟩)), (66, o1), (67, .int .i64 ((x.outs.length : Nat) : Int)), (68, .bool (decide (((k : Nat) : Int) < ((x.outs.length : Nat) : Int)))), (92, .bool ((!(win (x.outs[k]'hi2) 0 7)) || ((decide (0 < ((k : Nat) : Int))) && ((List.getD x.outs 0 default) == (List.getD x.outs 1 default)))))] (fun w' => w15 = w') ?_ ?_
          · refine J_if (gd := 78) rfl rfl (fun hg13 => ?_) (fun hg13 => ?_)
            · refine J_gdno rfl rfl rfl rfl (J_gdno rfl rfl rfl rfl (J_gdno rfl rfl rfl rfl (J_gdx rfl rfl rfl (J_gdx rfl rfl rfl (J_gdx rfl rfl rfl (J_gdx rfl rfl rfl (J_gdx rfl rfl rfl (J_gdx rfl rfl rfl (J_gdx rfl rfl rfl (J_gdx rfl rfl rfl (J_gdx rfl rfl rfl (J_gdno rfl rfl rfl rfl (J_st (R_pickT rfl rfl) rfl (J_cutEnd ⟨rfl, rfl, rfl, rfl, rfl, rfl, rfl, rfl, congrArg (fun b => some (Value.bool b)) (show true = ((!(win (x.outs[k]'hi2) 0 7)) || ((decide (0 < ((k : Nat) : Int))) && ((List.getD x.outs 0 default) == (List.getD x.outs 1 default)))) by first | (rw [hg13] <;> rfl) | (simp [hg13]; done) | (simp only [nat_nlt] <;> simp)), trivial⟩ rfl))))))))))))))
            · refine J_gd rfl rfl (R_move rfl) rfl (J_gd rfl rfl (R_gtr rfl rfl) rfl (J_gd rfl rfl (R_move rfl) rfl ?_))
              refine J_if (gd := 81) rfl rfl (fun hg14 => ?_) (fun hg14 => ?_)
              · have hg14n : k > 0 := by first | (have h := of_decide_eq_true hg14; omega) | (have h := hg14; simp at h; omega)
                refine J_gd rfl rfl (R_fieldAddr0 fl89_3 rfl) rfl (J_gd rfl rfl (R_load sc54 rfl (h1.one 3 rfl)) rfl (J_gd rfl rfl (R_index (i := 0) sl54 rfl rfl (hd1.rd.ext E) (by first | assumption | omega)) rfl (J_gd rfl rfl (R_load sc3 rfl ((RdS.getD (hd1.rd.ext E) (i := 0) (by first | assumption | omega)).one 0 rfl)) rfl (J_gd rfl rfl (R_fieldAddr0 fl89_3 rfl) rfl (J_gd rfl rfl (R_load sc54 rfl (h1.one 3 rfl)) rfl (J_gd rfl rfl (R_index (i := 1) sl54 rfl rfl (hd1.rd.ext E) (by first | assumption | omega)) rfl (J_gd rfl rfl (R_load sc3 rfl ((RdS.getD (hd1.rd.ext E) (i := 1) (by first | assumption | omega)).one 0 rfl)) rfl (J_gd rfl rfl (R_eql rfl rfl) rfl (J_gd rfl rfl (R_pickT rfl rfl) rfl (J_st (R_pickF rfl rfl) rfl (J_cutEnd ⟨rfl, rfl, rfl, rfl, rfl, rfl, rfl, rfl, congrArg (fun b => some (Value.bool b)) (show ((List.getD x.outs 0 default) == (List.getD x.outs 1 default)) = ((!(win (x.outs[k]'hi2) 0 7)) || ((decide (0 < ((k : Nat) : Int))) && ((List.getD x.outs 0 default) == (List.getD x.outs 1 default)))) by first | (rw [hg13, hg14] <;> rfl) | (simp [hg13, hg14]; done) | (simp only [nat_nlt] <;> simp)), trivial⟩ rfl)))))))))))
              · have hg14n : ¬ k > 0 := by first | (have h := of_decide_eq_false hg14; omega) | (have h := hg14; simp at h; omega)
                refine J_gdno rfl rfl rfl rfl (J_gdno rfl rfl rfl rfl (J_gdno rfl rfl rfl rfl (J_gdno rfl rfl rfl rfl (J_gdno rfl rfl rfl rfl (J_gdno rfl rfl rfl rfl (J_gdno rfl rfl rfl rfl (J_gdno rfl rfl rfl rfl (J_gdno rfl rfl rfl rfl (J_gd rfl rfl (R_pickF rfl rfl) rfl (J_st (R_pickF rfl rfl) rfl (J_cutEnd ⟨rfl, rfl, rfl, rfl, rfl, rfl, rfl, rfl, congrArg (fun b => some (Value.bool b)) (show false = ((!(win (x.outs[k]'hi2) 0 7)) || ((decide (0 < ((k : Nat) : Int))) && ((List.getD x.outs 0 default) == (List.getD x.outs 1 default)))) by first | (rw [hg13, hg14] <;> rfl) | (simp [hg13, hg14]; done) | (simp only [nat_nlt] <;> simp)), trivial⟩ rfl)))))))))))
          rintro _ rfl
          refine J_done ?_
          refine S_cond rfl (fun hc8 => ?_) (fun hc8 => ?_)
          · refine S_seq ?_
            refine S_reg [true] rfl rfl ?_
            refine J_st (R_assign rfl) rfl (J_done ?_)
            refine S_ret (E_inB_ret (E_lp_ret (E_inB_ret (E_done1 rfl rfl E ?_))))
            exact node_d (by assumption) (node_p (p := win x.a 1 10) (q := win x.b 0 (IntKind.i64.wrap (x.a - 1))) (by assumption) (by rw [node_3 (by assumption), win_kind (n := x.kind) (by have := eq_of_beq (show (x.kind == 3) = true by assumption); omega), Bool.true_and])).2
          · refine S_skip ?_
            refine S_nil (E_inB ?_)
            refine S_reg [true, true, true] rfl rfl ?_
            refine J_st (R_move rfl) rfl (J_st (R_add rfl rfl (add_one hc7n (hd1.ext E).1.1)) rfl (J_st (R_assign rfl) rfl (J_done ?_)))
            refine S_nil (E_again (k + 1) (by omega) ⟨rfl, rfl, rfl, trivial⟩ ⟨E, (by omega), h1, (by omega), all_step hI (by assumption) (nodeL (by assumption)), nodeJ (by assumption)⟩)
        · have hc7n : ¬ k < x.outs.length := by first | (have h := of_decide_eq_false hc7; omega) | (have h := hc7; simp at h; omega)
          refine S_exit (E_lp_exit (E_inB_exit ?_))
          refine S_seq ?_
          refine S_reg [true] rfl rfl ?_
          refine J_st (R_assign rfl) rfl (J_done ?_)
          refine S_ret (E_done1 rfl rfl E ?_)
          exact node_z (p := win x.a 1 10) (q := win x.b 0 (IntKind.i64.wrap (x.a - 1))) (by assumption) (by rw [node_3 (by assumption), win_kind (n := x.kind) (by have := eq_of_beq (show (x.kind == 3) = true by assumption); omega), Bool.true_and]) hI hJ (by omega)
    · refine S_seq ?_
      refine S_reg [true, true] rfl rfl ?_
      refine J_st (R_eql rfl rfl) rfl (J_st (R_assign rfl) rfl (J_done ?_))
      refine S_cond rfl (fun hc9 => ?_) (fun hc9 => ?_)
      · refine S_reg [true, true, false, true] rfl rfl ?_
        refine J_st (R_fieldAddr0 fl89_1 rfl) rfl (J_st (R_load sc3 rfl (h1.one 1 rfl)) rfl ?_)
        refine J_call Try.call18 rfl (s_l01In x.a 0 99 _ ) rfl (fun _ w17 e11 hv => ?_)
        subst hv
        replace E := E.trans e11; replace h1 := h1.ext e11
        have z13 := e11.size
        refine J_st (R_assign rfl) rfl (J_done ?_)
        refine S_nil (E_inB ?_)
        refine S_seq ?_
        refine S_seq ?_
        refine S_reg [true, true, false, true, true, true, true, true, true, true, true, true, true, true, true, true, true, true, true, true, true, true, true, true, true, true, true, true, true] rfl rfl ?_
        refine J_st (R_fieldAddr0 fl89_0 rfl) rfl (J_st (R_load sc3 rfl (h1.one 0 rfl)) rfl ?_)
        refine J_call Try.call18 rfl (s_l01In x.kind 1 8 _ ) rfl (fun _ w18 e12 hv => ?_)
        subst hv
        replace E := E.trans e12; replace h1 := h1.ext e12
        have z14 := e12.size
        refine J_st (R_not rfl) rfl (J_st (R_move rfl) rfl ?_)
        refine J_cut 24 [(0, .agg [.int .i64 x.kind, .int .i64 x.a, .int .i64 x.b, o1].toArray), (1, .pointer (some ⟨b1, 0, none⟩)), (2, .bool false), (3, .bool (win x.a 0 99)), (4, .bool (x.b == 0)), (6, .pointer (some ⟨b1, 1, none⟩)), (7, .int .i64 x.a), (8, .bool (x.a == 0)), (9, .pointer (some ⟨b1, 2, none⟩)), (10, .int .i64 x.b), (11, .bool (x.b == 0)), (12, .pointer (some ⟨b1, 0, none⟩)), (13, .int .i64 x.kind), (14, .bool (x.kind == 2)), (15, .bool (x.kind == 2)), (19, .bool (x.kind == 3)), (20, .bool (x.kind == 3)), (30, .bool (x.kind == 4)), (31, .bool (x.kind == 4)), (32, .pointer (some ⟨b1, 1, none⟩)), (33, .int .i64 x.a), (34, .bool (win x.a 0 99)), (63, .bool (((((!(win x.kind 1 8)) || (!(win x.a 0 99))) || (!(x.b == 0))) || (decide (2 < ((x.outs.length : Nat) : Int)))) || ((x.kind == 8) && (decide (0 < ((x.outs.length : Nat) : Int))))))] (fun w' => w18 = w') ?_ ?_
        · refine J_if (gd := 39) rfl rfl (fun hg15 => ?_) (fun hg15 => ?_)
          · refine J_gdno rfl rfl rfl rfl (J_gdno rfl rfl rfl rfl (J_st (R_pickT rfl rfl) rfl (J_st (R_move rfl) rfl (J_gdno rfl rfl rfl rfl (J_gdno rfl rfl rfl rfl (J_st (R_pickT rfl rfl) rfl (J_st (R_move rfl) rfl (J_gdno rfl rfl rfl rfl (J_gdno rfl rfl rfl rfl (J_gdno rfl rfl rfl rfl (J_gdno rfl rfl rfl rfl (J_st (R_pickT rfl rfl) rfl (J_st (R_move rfl) rfl (J_gdno rfl rfl rfl rfl (J_gdno rfl rfl rfl rfl (J_gdno rfl rfl rfl rfl (J_gdno rfl rfl rfl rfl (J_gdx rfl rfl rfl (J_gdx rfl rfl rfl (J_gdx rfl rfl rfl (J_gdx rfl rfl rfl (J_gdno rfl rfl rfl rfl (J_st (R_pickT rfl rfl) rfl (J_cutEnd ⟨rfl, rfl, rfl, rfl, rfl, rfl, rfl, rfl, rfl, rfl, rfl, rfl, rfl, rfl, rfl, rfl, rfl, rfl, rfl, rfl, rfl, rfl, congrArg (fun b => some (Value.bool b)) (show true = (((((!(win x.kind 1 8)) || (!(win x.a 0 99))) || (!(x.b == 0))) || (decide (2 < ((x.outs.length : Nat) : Int)))) || ((x.kind == 8) && (decide (0 < ((x.outs.length : Nat) : Int))))) by first | (rw [hg15] <;> rfl) | (simp [hg15]; done) | (simp only [nat_nlt] <;> simp)), trivial⟩ rfl))))))))))))))))))))))))
          · refine J_gd rfl rfl (R_move rfl) rfl (J_gd rfl rfl (R_not rfl) rfl (J_st (R_pickF rfl rfl) rfl (J_st (R_move rfl) rfl ?_)))
            refine J_if (gd := 43) rfl rfl (fun hg16 => ?_) (fun hg16 => ?_)
            · refine J_gdno rfl rfl rfl rfl (J_gdno rfl rfl rfl rfl (J_st (R_pickT rfl rfl) rfl (J_st (R_move rfl) rfl (J_gdno rfl rfl rfl rfl (J_gdno rfl rfl rfl rfl (J_gdno rfl rfl rfl rfl (J_gdno rfl rfl rfl rfl (J_st (R_pickT rfl rfl) rfl (J_st (R_move rfl) rfl (J_gdno rfl rfl rfl rfl (J_gdno rfl rfl rfl rfl (J_gdno rfl rfl rfl rfl (J_gdno rfl rfl rfl rfl (J_gdx rfl rfl rfl (J_gdx rfl rfl rfl (J_gdx rfl rfl rfl (J_gdx rfl rfl rfl (J_gdno rfl rfl rfl rfl (J_st (R_pickT rfl rfl) rfl (J_cutEnd ⟨rfl, rfl, rfl, rfl, rfl, rfl, rfl, rfl, rfl, rfl, rfl, rfl, rfl, rfl, rfl, rfl, rfl, rfl, rfl, rfl, rfl, rfl, congrArg (fun b => some (Value.bool b)) (show true = (((((!(win x.kind 1 8)) || (!(win x.a 0 99))) || (!(x.b == 0))) || (decide (2 < ((x.outs.length : Nat) : Int)))) || ((x.kind == 8) && (decide (0 < ((x.outs.length : Nat) : Int))))) by first | (rw [hg15, hg16] <;> rfl) | (simp [hg15, hg16]; done) | (simp only [nat_nlt] <;> simp)), trivial⟩ rfl))))))))))))))))))))
            · refine J_gd rfl rfl (R_move rfl) rfl (J_gd rfl rfl (R_not rfl) rfl (J_st (R_pickF rfl rfl) rfl (J_st (R_move rfl) rfl ?_)))
              refine J_if (gd := 47) rfl rfl (fun hg17 => ?_) (fun hg17 => ?_)
              · refine J_gdno rfl rfl rfl rfl (J_gdno rfl rfl rfl rfl (J_gdno rfl rfl rfl rfl (J_gdno rfl rfl rfl rfl (J_st (R_pickT rfl rfl) rfl (J_st (R_move rfl) rfl (J_gdno rfl rfl rfl rfl (J_gdno rfl rfl rfl rfl (J_gdno rfl rfl rfl rfl (J_gdno rfl rfl rfl rfl (J_gdx rfl rfl rfl (J_gdx rfl rfl rfl (J_gdx rfl rfl rfl (J_gdx rfl rfl rfl (J_gdno rfl rfl rfl rfl (J_st (R_pickT rfl rfl) rfl (J_cutEnd ⟨rfl, rfl, rfl, rfl, rfl, rfl, rfl, rfl, rfl, rfl, rfl, rfl, rfl, rfl, rfl, rfl, rfl, rfl, rfl, rfl, rfl, rfl, congrArg (fun b => some (Value.bool b)) (show true = (((((!(win x.kind 1 8)) || (!(win x.a 0 99))) || (!(x.b == 0))) || (decide (2 < ((x.outs.length : Nat) : Int)))) || ((x.kind == 8) && (decide (0 < ((x.outs.length : Nat) : Int))))) by first | (rw [hg15, hg16, hg17] <;> rfl) | (simp [hg15, hg16, hg17]; done) | (simp only [nat_nlt] <;> simp)), trivial⟩ rfl))))))))))))))))
              · refine J_gd rfl rfl (R_fieldAddr0 fl89_3 rfl) rfl (J_gd rfl rfl (R_load sc54 rfl (h1.one 3 rfl)) rfl (J_gd rfl rfl (R_len Try.underlying54 rfl (hd1.ext E).len) rfl (J_gd rfl rfl (R_gtr rfl rfl) rfl (J_st (R_pickF rfl rfl) rfl (J_st (R_move rfl) rfl ?_)))))
                refine J_if (gd := 53) rfl rfl (fun hg18 => ?_) (fun hg18 => ?_)
                · have hg18n : x.outs.length > 2 := by first | (have h := of_decide_eq_true hg18; omega) | (have h := hg18; simp at h; omega)
                  refine J_gdno rfl rfl rfl rfl (J_gdno rfl rfl rfl rfl (J_gdno rfl rfl rfl rfl (J_gdno rfl rfl rfl rfl (J_gdx rfl rfl rfl (J_gdx rfl rfl rfl (J_gdx rfl rfl rfl (J_gdx rfl rfl rfl (J_gdno rfl rfl rfl rfl (J_st (R_pickT rfl rfl) rfl (J_cutEnd ⟨rfl, rfl, rfl, rfl, rfl, rfl, rfl, rfl, rfl, rfl, rfl, rfl, rfl, rfl, rfl, rfl, rfl, rfl, rfl, rfl, rfl, rfl, congrArg (fun b => some (Value.bool b)) (show true = (((((!(win x.kind 1 8)) || (!(win x.a 0 99))) || (!(x.b == 0))) || (decide (2 < ((x.outs.length : Nat) : Int)))) || ((x.kind == 8) && (decide (0 < ((x.outs.length : Nat) : Int))))) by first | (rw [hg15, hg16, hg17, hg18] <;> rfl) | (simp [hg15, hg16, hg17, hg18]; done) | (simp only [nat_nlt] <;> simp)), trivial⟩ rfl))))))))))
                · have hg18n : ¬ x.outs.length > 2 := by first | (have h := of_decide_eq_false hg18; omega) | (have h := hg18; simp at h; omega)
                  refine J_gd rfl rfl (R_fieldAddr0 fl89_0 rfl) rfl (J_gd rfl rfl (R_load sc3 rfl (h1.one 0 rfl)) rfl (J_gd rfl rfl (R_eql rfl rfl) rfl (J_gd rfl rfl (R_move rfl) rfl ?_)))
                  refine J_if (gd := 57) rfl rfl (fun hg19 => ?_) (fun hg19 => ?_)
                  · refine J_gd rfl rfl (R_fieldAddr0 fl89_3 rfl) rfl (J_gd rfl rfl (R_load sc54 rfl (h1.one 3 rfl)) rfl (J_gd rfl rfl (R_len Try.underlying54 rfl (hd1.ext E).len) rfl (J_gd rfl rfl (R_gtr rfl rfl) rfl (J_gd rfl rfl (R_pickT rfl rfl) rfl (J_st (R_pickF rfl rfl) rfl (J_cutEnd ⟨rfl, rfl, rfl, rfl, rfl, rfl, rfl, rfl, rfl, rfl, rfl, rfl, rfl, rfl, rfl, rfl, rfl, rfl, rfl, rfl, rfl, rfl, congrArg (fun b => some (Value.bool b)) (show (decide (0 < ((x.outs.length : Nat) : Int))) = (((((!(win x.kind 1 8)) || (!(win x.a 0 99))) || (!(x.b == 0))) || (decide (2 < ((x.outs.length : Nat) : Int)))) || ((x.kind == 8) && (decide (0 < ((x.outs.length : Nat) : Int))))) by first | (rw [hg15, hg16, hg17, hg18, hg19] <;> rfl) | (simp [hg15, hg16, hg17, hg18, hg19]; done) | (simp only [nat_nlt] <;> simp)), trivial⟩ rfl))))))
                  · refine J_gdno rfl rfl rfl rfl (J_gdno rfl rfl rfl rfl (J_gdno rfl rfl rfl rfl (J_gdno rfl rfl rfl rfl (J_gd rfl rfl (R_pickF rfl rfl) rfl (J_st (R_pickF rfl rfl) rfl (J_cutEnd ⟨rfl, rfl, rfl, rfl, rfl, rfl, rfl, rfl, rfl, rfl, rfl, rfl, rfl, rfl, rfl, rfl, rfl, rfl, rfl, rfl, rfl, rfl, congrArg (fun b => some (Value.bool b)) (show false = (((((!(win x.kind 1 8)) || (!(win x.a 0 99))) || (!(x.b == 0))) || (decide (2 < ((x.outs.length : Nat) : Int)))) || ((x.kind == 8) && (decide (0 < ((x.outs.length : Nat) : Int))))) by first | (rw [hg15, hg16, hg17, hg18, hg19] <;> rfl) | (simp [hg15, hg16, hg17, hg18, hg19]; done) | (simp only [nat_nlt] <;> simp)), trivial⟩ rfl))))))
        rintro _ rfl
        refine J_done ?_
        refine S_cond rfl (fun hc10 => ?_) (fun hc10 => ?_)
        · refine S_seq ?_
          refine S_reg [true] rfl rfl ?_
          refine J_st (R_assign rfl) rfl (J_done ?_)
          refine S_ret (E_done1 rfl rfl E ?_)
          exact node_s (p := win x.a 0 99) (q := x.b == 0) (by rw [node_4 (by assumption), win_kind (n := x.kind) (by have := eq_of_beq (show (x.kind == 4) = true by assumption); omega), Bool.true_and]) (by assumption)
        · refine S_skip ?_
          refine S_seq ?_
          refine S_seq ?_
          refine S_reg [true] rfl rfl ?_
          refine J_st (R_assign rfl) rfl (J_done ?_)
          refine S_block ?_
          refine S_loop (fun (k : Nat) => [(1, .pointer (some ⟨b1, 0, none⟩)), (2, .bool false), (5, .int .i64 ((k : Nat) : Int))]) (fun (k : Nat) w' => Ext w w' ∧ w18.heap.size ≤ w'.heap.size ∧ Blk w' b1 ([.int .i64 x.kind, .int .i64 x.a, .int .i64 x.b, o1]) ∧ k ≤ x.outs.length ∧ (x.outs.take k).all (win · 0 7) = true ∧ (1 < k → ((List.getD x.outs 0 default) == (List.getD x.outs 1 default)) = false)) (fun (k : Nat) => x.outs.length - k) 0 ⟨rfl, rfl, rfl, trivial⟩ ⟨E, Nat.le_refl _, h1, Nat.zero_le _, rfl, (by omega)⟩ ?_
          clear E h1
          rintro k w20 ⟨E, z15, h1, hk, hI, hJ⟩
          refine S_seq ?_
          refine S_seq ?_
          refine S_reg [true, true, true, true, true] rfl rfl ?_
          refine J_st (R_move rfl) rfl (J_st (R_fieldAddr0 fl89_3 rfl) rfl (J_st (R_load sc54 rfl (h1.one 3 rfl)) rfl (J_st (R_len Try.underlying54 rfl (hd1.ext E).len) rfl (J_st (R_lss rfl rfl) rfl (J_done ?_)))))
          refine S_cond rfl (fun hc11 => ?_) (fun hc11 => ?_)
          · have hc11n : k < x.outs.length := by first | (have h := of_decide_eq_true hc11; omega) | (have h := hc11; simp at h; omega)
            refine S_skip ?_
            refine S_seq ?_
            refine S_block ?_
            refine S_seq ?_
            refine S_regD mixed [(0, true), (1, true), (2, true), (3, true), (4, true), (5, false), (6, true), (7, true), (8, true), (9, true), (10, true), (11, true), (12, true), (13, true), (14, true), (15, true), (16, true), (17, true), (18, true), (19, true), (20, true), (21, true)] (by decide +kernel) rfl (fun w21 e13 => ?_)
            replace E := E.trans e13; replace h1 := h1.ext e13
            have z16 := e13.size
            refine J_st (R_fieldAddr0 fl89_3 rfl) rfl (J_st (R_load sc54 rfl (h1.one 3 rfl)) rfl (J_st (R_move rfl) rfl ?_))
            have hi3 : k < x.outs.length := (by first | assumption | omega)
            refine J_st (R_index (i := k) sl54 rfl rfl (hd1.rd.ext E) hi3) rfl (J_st (R_load sc3 rfl (((hd1.rd.ext E).get hi3).one 0 rfl)) rfl ?_)
            refine J_call Try.call18 rfl (s_l01In (x.outs[k]'hi3) 0 7 _ ) rfl (fun _ w22 e14 hv => ?_)
            subst hv
            replace E := E.trans e14; replace h1 := h1.ext e14
            have z17 := e14.size
            refine J_st (R_not rfl) rfl (J_st (R_move rfl) rfl ?_)
            refine J_cut 14 [(1, .pointer (some ⟨b1, 0, none⟩)), (2, .bool false), (5, .int .i64 ((k : Nat) : Int)), (64, .int .i64 ((k : Nat) : Int)), (65, .pointer (some ⟨b1, 3, none⟩)), (66, o1), (67, .int .i64 ((x.outs.length : Nat) : Int)), (68, .bool (decide (((k : Nat) : Int) < ((x.outs.length : Nat) : Int)))), (92, .bool ((!(win (x.outs[k]'hi3) 0 7)) || ((decide (0 < ((k : Nat) : Int))) && ((List.getD x.outs 0 default) == (List.getD x.outs 1 default)))))] (fun w' => w22 = w') ?_ ?_
            · refine J_if (gd := 78) rfl rfl (fun hg20 => ?_) (fun hg20 => ?_)
              · refine J_gdno rfl rfl rfl rfl (J_gdno rfl rfl rfl rfl (J_gdno rfl rfl rfl rfl (J_gdx rfl rfl rfl (J_gdx rfl rfl rfl (J_gdx rfl rfl rfl (J_gdx rfl rfl rfl (J_gdx rfl rfl rfl (J_gdx rfl rfl rfl (J_gdx rfl rfl rfl (J_gdx rfl rfl rfl (J_gdx rfl rfl rfl (J_gdno rfl rfl rfl rfl (J_st (R_pickT rfl rfl) rfl (J_cutEnd ⟨rfl, rfl, rfl, rfl, rfl, rfl, rfl, rfl, congrArg (fun b => some (Value.bool b)) (show true = ((!(win (x.outs[k]'hi3) 0 7)) || ((decide (0 < ((k : Nat) : Int))) && ((List.getD x.outs 0 default) == (List.getD x.outs 1 default)))) by first | (rw [hg20] <;> rfl) | (simp [hg20]; done) | (simp only [nat_nlt] <;> simp)), trivial⟩ rfl))))))))))))))
              · refine J_gd rfl rfl (R_move rfl) rfl (J_gd rfl rfl (R_gtr rfl rfl) rfl (J_gd rfl rfl (R_move rfl) rfl ?_))
                refine J_if (gd := 81) rfl rfl (fun hg21 => ?_) (fun hg21 => ?_)
                · have hg21n : k > 0 := by first | (have h := of_decide_eq_true hg21; omega) | (have h := hg21; simp at h; omega)
                  refine J_gd rfl rfl (R_fieldAddr0 fl89_3 rfl) rfl (J_gd rfl rfl (R_load sc54 rfl (h1.one 3 rfl)) rfl (J_gd rfl rfl (R_index (i := 0) sl54 rfl rfl (hd1.rd.ext E) (by first | assumption | omega)) rfl (J_gd rfl rfl (R_load sc3 rfl ((RdS.getD (hd1.rd.ext E) (i := 0) (by first | assumption | omega)).one 0 rfl)) rfl (J_gd rfl rfl (R_fieldAddr0 fl89_3 rfl) rfl (J_gd rfl rfl (R_load sc54 rfl (h1.one 3 rfl)) rfl (J_gd rfl rfl (R_index (i := 1) sl54 rfl rfl (hd1.rd.ext E) (by first | assumption | omega)) rfl (J_gd rfl rfl (R_load sc3 rfl ((RdS.getD (hd1.rd.ext E) (i := 1) (by first | assumption | omega)).one 0 rfl)) rfl (J_gd rfl rfl (R_eql rfl rfl) rfl (J_gd rfl rfl (R_pickT rfl rfl) rfl (J_st (R_pickF rfl rfl) rfl (J_cutEnd ⟨rfl, rfl, rfl, rfl, rfl, rfl, rfl, rfl, congrArg (fun b => some (Value.bool b)) (show ((List.getD x.outs 0 default) == (List.getD x.outs 1 default)) = ((!(win (x.outs[k]'hi3) 0 7)) || ((decide (0 < ((k : Nat) : Int))) && ((List.getD x.outs 0 default) == (List.getD x.outs 1 default)))) by first | (rw [hg20, hg21] <;> rfl) | (simp [hg20, hg21]; done) | (simp only [nat_nlt] <;> simp)), trivial⟩ rfl)))))))))))
                · have hg21n : ¬ k > 0 := by first | (have h := of_decide_eq_false hg21; omega) | (have h := hg21; simp at h; omega)
                  refine J_gdno rfl rfl rfl rfl (J_gdno rfl rfl rfl rfl (J_gdno rfl rfl rfl rfl (J_gdno rfl rfl rfl rfl (J_gdno rfl rfl rfl rfl (J_gdno rfl rfl rfl rfl (J_gdno rfl rfl rfl rfl (J_gdno rfl rfl rfl rfl (J_gdno rfl rfl rfl rfl (J_gd rfl rfl (R_pickF rfl rfl) rfl (J_st (R_pickF rfl rfl) rfl (J_cutEnd ⟨rfl, rfl, rfl, rfl, rfl, rfl, rfl, rfl, congrArg (fun b => some (Value.bool b)) (show false = ((!(win (x.outs[k]'hi3) 0 7)) || ((decide (0 < ((k : Nat) : Int))) && ((List.getD x.outs 0 default) == (List.getD x.outs 1 default)))) by first | (rw [hg20, hg21] <;> rfl) | (simp [hg20, hg21]; done) | (simp only [nat_nlt] <;> simp)), trivial⟩ rfl)))))))))))
            rintro _ rfl
            refine J_done ?_
            refine S_cond rfl (fun hc12 => ?_) (fun hc12 => ?_)
            · refine S_seq ?_
              refine S_reg [true] rfl rfl ?_
              refine J_st (R_assign rfl) rfl (J_done ?_)
              refine S_ret (E_inB_ret (E_lp_ret (E_inB_ret (E_done1 rfl rfl E ?_))))
              exact node_d (by assumption) (node_p (p := win x.a 0 99) (q := x.b == 0) (by assumption) (by rw [node_4 (by assumption), win_kind (n := x.kind) (by have := eq_of_beq (show (x.kind == 4) = true by assumption); omega), Bool.true_and])).2
            · refine S_skip ?_
              refine S_nil (E_inB ?_)
              refine S_reg [true, true, true] rfl rfl ?_
              refine J_st (R_move rfl) rfl (J_st (R_add rfl rfl (add_one hc11n (hd1.ext E).1.1)) rfl (J_st (R_assign rfl) rfl (J_done ?_)))
              refine S_nil (E_again (k + 1) (by omega) ⟨rfl, rfl, rfl, trivial⟩ ⟨E, (by omega), h1, (by omega), all_step hI (by assumption) (nodeL (by assumption)), nodeJ (by assumption)⟩)
          · have hc11n : ¬ k < x.outs.length := by first | (have h := of_decide_eq_false hc11; omega) | (have h := hc11; simp at h; omega)
            refine S_exit (E_lp_exit (E_inB_exit ?_))
            refine S_seq ?_
            refine S_reg [true] rfl rfl ?_
            refine J_st (R_assign rfl) rfl (J_done ?_)
            refine S_ret (E_done1 rfl rfl E ?_)
            exact node_z (p := win x.a 0 99) (q := x.b == 0) (by assumption) (by rw [node_4 (by assumption), win_kind (n := x.kind) (by have := eq_of_beq (show (x.kind == 4) = true by assumption); omega), Bool.true_and]) hI hJ (by omega)
      · refine S_skip ?_
        refine S_nil (E_inB ?_)
        refine S_seq ?_
        refine S_seq ?_
        refine S_reg [true, true, false, true, true, true, true, true, true, true, true, true, true, true, true, true, true, true, true, true, true, true, true, true, true, true, true, true, true] rfl rfl ?_
        refine J_st (R_fieldAddr0 fl89_0 rfl) rfl (J_st (R_load sc3 rfl (h1.one 0 rfl)) rfl ?_)
        refine J_call Try.call18 rfl (s_l01In x.kind 1 8 _ ) rfl (fun _ w24 e15 hv => ?_)
        subst hv
        replace E := E.trans e15; replace h1 := h1.ext e15
        have z18 := e15.size
        refine J_st (R_not rfl) rfl (J_st (R_move rfl) rfl ?_)
        refine J_cut 24 [(0, .agg [.int .i64 x.kind, .int .i64 x.a, .int .i64 x.b, o1].toArray), (1, .pointer (some ⟨b1, 0, none⟩)), (2, .bool false), (3, .bool (x.a == 0)), (4, .bool (x.b == 0)), (6, .pointer (some ⟨b1, 1, none⟩)), (7, .int .i64 x.a), (8, .bool (x.a == 0)), (9, .pointer (some ⟨b1, 2, none⟩)), (10, .int .i64 x.b), (11, .bool (x.b == 0)), (12, .pointer (some ⟨b1, 0, none⟩)), (13, .int .i64 x.kind), (14, .bool (x.kind == 2)), (15, .bool (x.kind == 2)), (19, .bool (x.kind == 3)), (20, .bool (x.kind == 3)), (30, .bool (x.kind == 4)), (31, .bool (x.kind == 4)), (63, .bool (((((!(win x.kind 1 8)) || (!(x.a == 0))) || (!(x.b == 0))) || (decide (2 < ((x.outs.length : Nat) : Int)))) || ((x.kind == 8) && (decide (0 < ((x.outs.length : Nat) : Int))))))] (fun w' => w24 = w') ?_ ?_
        · refine J_if (gd := 39) rfl rfl (fun hg22 => ?_) (fun hg22 => ?_)
          · refine J_gdno rfl rfl rfl rfl (J_gdno rfl rfl rfl rfl (J_st (R_pickT rfl rfl) rfl (J_st (R_move rfl) rfl (J_gdno rfl rfl rfl rfl (J_gdno rfl rfl rfl rfl (J_st (R_pickT rfl rfl) rfl (J_st (R_move rfl) rfl (J_gdno rfl rfl rfl rfl (J_gdno rfl rfl rfl rfl (J_gdno rfl rfl rfl rfl (J_gdno rfl rfl rfl rfl (J_st (R_pickT rfl rfl) rfl (J_st (R_move rfl) rfl (J_gdno rfl rfl rfl rfl (J_gdno rfl rfl rfl rfl (J_gdno rfl rfl rfl rfl (J_gdno rfl rfl rfl rfl (J_gdx rfl rfl rfl (J_gdx rfl rfl rfl (J_gdx rfl rfl rfl (J_gdx rfl rfl rfl (J_gdno rfl rfl rfl rfl (J_st (R_pickT rfl rfl) rfl (J_cutEnd ⟨rfl, rfl, rfl, rfl, rfl, rfl, rfl, rfl, rfl, rfl, rfl, rfl, rfl, rfl, rfl, rfl, rfl, rfl, rfl, congrArg (fun b => some (Value.bool b)) (show true = (((((!(win x.kind 1 8)) || (!(x.a == 0))) || (!(x.b == 0))) || (decide (2 < ((x.outs.length : Nat) : Int)))) || ((x.kind == 8) && (decide (0 < ((x.outs.length : Nat) : Int))))) by first | (rw [hg22] <;> rfl) | (simp [hg22]; done) | (simp only [nat_nlt] <;> simp)), trivial⟩ rfl))))))))))))))))))))))))
          · refine J_gd rfl rfl (R_move rfl) rfl (J_gd rfl rfl (R_not rfl) rfl (J_st (R_pickF rfl rfl) rfl (J_st (R_move rfl) rfl ?_)))
            refine J_if (gd := 43) rfl rfl (fun hg23 => ?_) (fun hg23 => ?_)
            · refine J_gdno rfl rfl rfl rfl (J_gdno rfl rfl rfl rfl (J_st (R_pickT rfl rfl) rfl (J_st (R_move rfl) rfl (J_gdno rfl rfl rfl rfl (J_gdno rfl rfl rfl rfl (J_gdno rfl rfl rfl rfl (J_gdno rfl rfl rfl rfl (J_st (R_pickT rfl rfl) rfl (J_st (R_move rfl) rfl (J_gdno rfl rfl rfl rfl (J_gdno rfl rfl rfl rfl (J_gdno rfl rfl rfl rfl (J_gdno rfl rfl rfl rfl (J_gdx rfl rfl rfl (J_gdx rfl rfl rfl (J_gdx rfl rfl rfl (J_gdx rfl rfl rfl (J_gdno rfl rfl rfl rfl (J_st (R_pickT rfl rfl) rfl (J_cutEnd ⟨rfl, rfl, rfl, rfl, rfl, rfl, rfl, rfl, rfl, rfl, rfl, rfl, rfl, rfl, rfl, rfl, rfl, rfl, rfl, congrArg (fun b => some (Value.bool b)) (show true = (((((!(win x.kind 1 8)) || (!(x.a == 0))) || (!(x.b == 0))) || (decide (2 < ((x.outs.length : Nat) : Int)))) || ((x.kind == 8) && (decide (0 < ((x.outs.length : Nat) : Int))))) by first | (rw [hg22, hg23] <;> rfl) | (simp [hg22, hg23]; done) | (simp only [nat_nlt] <;> simp)), trivial⟩ rfl))))))))))))))))))))
            · refine J_gd rfl rfl (R_move rfl) rfl (J_gd rfl rfl (R_not rfl) rfl (J_st (R_pickF rfl rfl) rfl (J_st (R_move rfl) rfl ?_)))
              refine J_if (gd := 47) rfl rfl (fun hg24 => ?_) (fun hg24 => ?_)
              · refine J_gdno rfl rfl rfl rfl (J_gdno rfl rfl rfl rfl (J_gdno rfl rfl rfl rfl (J_gdno rfl rfl rfl rfl (J_st (R_pickT rfl rfl) rfl (J_st (R_move rfl) rfl (J_gdno rfl rfl rfl rfl (J_gdno rfl rfl rfl rfl (J_gdno rfl rfl rfl rfl (J_gdno rfl rfl rfl rfl (J_gdx rfl rfl rfl (J_gdx rfl rfl rfl (J_gdx rfl rfl rfl (J_gdx rfl rfl rfl (J_gdno rfl rfl rfl rfl (J_st (R_pickT rfl rfl) rfl (J_cutEnd ⟨rfl, rfl, rfl, rfl, rfl, rfl, rfl, rfl, rfl, rfl, rfl, rfl, rfl, rfl, rfl, rfl, rfl, rfl, rfl, congrArg (fun b => some (Value.bool b)) (show true = (((((!(win x.kind 1 8)) || (!(x.a == 0))) || (!(x.b == 0))) || (decide (2 < ((x.outs.length : Nat) : Int)))) || ((x.kind == 8) && (decide (0 < ((x.outs.length : Nat) : Int))))) by first | (rw [hg22, hg23, hg24] <;> rfl) | (simp [hg22, hg23, hg24]; done) | (simp only [nat_nlt] <;> simp)), trivial⟩ rfl))))))))))))))))
              · refine J_gd rfl rfl (R_fieldAddr0 fl89_3 rfl) rfl (J_gd rfl rfl (R_load sc54 rfl (h1.one 3 rfl)) rfl (J_gd rfl rfl (R_len Try.underlying54 rfl (hd1.ext E).len) rfl (J_gd rfl rfl (R_gtr rfl rfl) rfl (J_st (R_pickF rfl rfl) rfl (J_st (R_move rfl) rfl ?_)))))
                refine J_if (gd := 53) rfl rfl (fun hg25 => ?_) (fun hg25 => ?_)
                · have hg25n : x.outs.length > 2 := by first | (have h := of_decide_eq_true hg25; omega) | (have h := hg25; simp at h; omega)
                  refine J_gdno rfl rfl rfl rfl (J_gdno rfl rfl rfl rfl (J_gdno rfl rfl rfl rfl (J_gdno rfl rfl rfl rfl (J_gdx rfl rfl rfl (J_gdx rfl rfl rfl (J_gdx rfl rfl rfl (J_gdx rfl rfl rfl (J_gdno rfl rfl rfl rfl (J_st (R_pickT rfl rfl) rfl (J_cutEnd ⟨rfl, rfl, rfl, rfl, rfl, rfl, rfl, rfl, rfl, rfl, rfl, rfl, rfl, rfl, rfl, rfl, rfl, rfl, rfl, congrArg (fun b => some (Value.bool b)) (show true = (((((!(win x.kind 1 8)) || (!(x.a == 0))) || (!(x.b == 0))) || (decide (2 < ((x.outs.length : Nat) : Int)))) || ((x.kind == 8) && (decide (0 < ((x.outs.length : Nat) : Int))))) by first | (rw [hg22, hg23, hg24, hg25] <;> rfl) | (simp [hg22, hg23, hg24, hg25]; done) | (simp only [nat_nlt] <;> simp)), trivial⟩ rfl))))))))))
                · have hg25n : ¬ x.outs.length > 2 := by first | (have h := of_decide_eq_false hg25; omega) | (have h := hg25; simp at h; omega)
                  refine J_gd rfl rfl (R_fieldAddr0 fl89_0 rfl) rfl (J_gd rfl rfl (R_load sc3 rfl (h1.one 0 rfl)) rfl (J_gd rfl rfl (R_eql rfl rfl) rfl (J_gd rfl rfl (R_move rfl) rfl ?_)))
                  refine J_if (gd := 57) rfl rfl (fun hg26 => ?_) (fun hg26 => ?_)
                  · refine J_gd rfl rfl (R_fieldAddr0 fl89_3 rfl) rfl (J_gd rfl rfl (R_load sc54 rfl (h1.one 3 rfl)) rfl (J_gd rfl rfl (R_len Try.underlying54 rfl (hd1.ext E).len) rfl (J_gd rfl rfl (R_gtr rfl rfl) rfl (J_gd rfl rfl (R_pickT rfl rfl) rfl (J_st (R_pickF rfl rfl) rfl (J_cutEnd ⟨rfl, rfl, rfl, rfl, rfl, rfl, rfl, rfl, rfl, rfl, rfl, rfl, rfl, rfl, rfl, rfl, rfl, rfl, rfl, congrArg (fun b => some (Value.bool b)) (show (decide (0 < ((x.outs.length : Nat) : Int))) = (((((!(win x.kind 1 8)) || (!(x.a == 0))) || (!(x.b == 0))) || (decide (2 < ((x.outs.length : Nat) : Int)))) || ((x.kind == 8) && (decide (0 < ((x.outs.length : Nat) : Int))))) by first | (rw [hg22, hg23, hg24, hg25, hg26] <;> rfl) | (simp [hg22, hg23, hg24, hg25, hg26]; done) | (simp only [nat_nlt] <;> simp)), trivial⟩ rfl))))))
                  · refine J_gdno rfl rfl rfl rfl (J_gdno rfl rfl rfl rfl (J_gdno rfl rfl rfl rfl (J_gdno rfl rfl rfl rfl (J_gd rfl rfl (R_pickF rfl rfl) rfl (J_st (R_pickF rfl rfl) rfl (J_cutEnd ⟨rfl, rfl, rfl, rfl, rfl, rfl, rfl, rfl, rfl, rfl, rfl, rfl, rfl, rfl, rfl, rfl, rfl, rfl, rfl, congrArg (fun b => some (Value.bool b)) (show false = (((((!(win x.kind 1 8)) || (!(x.a == 0))) || (!(x.b == 0))) || (decide (2 < ((x.outs.length : Nat) : Int)))) || ((x.kind == 8) && (decide (0 < ((x.outs.length : Nat) : Int))))) by first | (rw [hg22, hg23, hg24, hg25, hg26] <;> rfl) | (simp [hg22, hg23, hg24, hg25, hg26]; done) | (simp only [nat_nlt] <;> simp)), trivial⟩ rfl))))))
        rintro _ rfl
        refine J_done ?_
        refine S_cond rfl (fun hc13 => ?_) (fun hc13 => ?_)
        · refine S_seq ?_
          refine S_reg [true] rfl rfl ?_
          refine J_st (R_assign rfl) rfl (J_done ?_)
          refine S_ret (E_done1 rfl rfl E ?_)
          exact node_s (p := x.a == 0) (q := x.b == 0) (node_0 (by assumption) (by assumption) (by assumption)) (by assumption)
        · refine S_skip ?_
          refine S_seq ?_
          refine S_seq ?_
          refine S_reg [true] rfl rfl ?_
          refine J_st (R_assign rfl) rfl (J_done ?_)
          refine S_block ?_
          refine S_loop (fun (k : Nat) => [(1, .pointer (some ⟨b1, 0, none⟩)), (2, .bool false), (5, .int .i64 ((k : Nat) : Int))]) (fun (k : Nat) w' => Ext w w' ∧ w24.heap.size ≤ w'.heap.size ∧ Blk w' b1 ([.int .i64 x.kind, .int .i64 x.a, .int .i64 x.b, o1]) ∧ k ≤ x.outs.length ∧ (x.outs.take k).all (win · 0 7) = true ∧ (1 < k → ((List.getD x.outs 0 default) == (List.getD x.outs 1 default)) = false)) (fun (k : Nat) => x.outs.length - k) 0 ⟨rfl, rfl, rfl, trivial⟩ ⟨E, Nat.le_refl _, h1, Nat.zero_le _, rfl, (by omega)⟩ ?_
          clear E h1
          rintro k w26 ⟨E, z19, h1, hk, hI, hJ⟩
          refine S_seq ?_
          refine S_seq ?_
          refine S_reg [true, true, true, true, true] rfl rfl ?_
          refine J_st (R_move rfl) rfl (J_st (R_fieldAddr0 fl89_3 rfl) rfl (J_st (R_load sc54 rfl (h1.one 3 rfl)) rfl (J_st (R_len Try.underlying54 rfl (hd1.ext E).len) rfl (J_st (R_lss rfl rfl) rfl (J_done ?_)))))
          refine S_cond rfl (fun hc14 => ?_) (fun hc14 => ?_)
          · have hc14n : k < x.outs.length := by first | (have h := of_decide_eq_true hc14; omega) | (have h := hc14; simp at h; omega)
            refine S_skip ?_
            refine S_seq ?_
            refine S_block ?_
            refine S_seq ?_
            refine S_regD mixed [(0, true), (1, true), (2, true), (3, true), (4, true), (5, false), (6, true), (7, true), (8, true), (9, true), (10, true), (11, true), (12, true), (13, true), (14, true), (15, true), (16, true), (17, true), (18, true), (19, true), (20, true), (21, true)] (by decide +kernel) rfl (fun w27 e16 => ?_)
            replace E := E.trans e16; replace h1 := h1.ext e16
            have z20 := e16.size
            refine J_st (R_fieldAddr0 fl89_3 rfl) rfl (J_st (R_load sc54 rfl (h1.one 3 rfl)) rfl (J_st (R_move rfl) rfl ?_))
            have hi4 : k < x.outs.length := (by first | assumption | omega)
            refine J_st (R_index (i := k) sl54 rfl rfl (hd1.rd.ext E) hi4) rfl (J_st (R_load sc3 rfl (((hd1.rd.ext E).get hi4).one 0 rfl)) rfl ?_)
            refine J_call Try.call18 rfl (s_l01In (x.outs[k]'hi4) 0 7 _ ) rfl (fun _ w28 e17 hv => ?_)
            subst hv
            replace E := E.trans e17; replace h1 := h1.ext e17
            have z21 := e17.size
            refine J_st (R_not rfl) rfl (J_st (R_move rfl) rfl ?_)
            refine J_cut 14 [(1, .pointer (some ⟨b1, 0, none⟩)), (2, .bool false), (5, .int .i64 ((k : Nat) : Int)), (64, .int .i64 ((k : Nat) : Int)), (65, .pointer (some ⟨b1, 3, none⟩)), (66, o1), (67, .int .i64 ((x.outs.length : Nat) : Int)), (68, .bool (decide (((k : Nat) : Int) < ((x.outs.length : Nat) : Int)))), (92, .bool ((!(win (x.outs[k]'hi4) 0 7)) || ((decide (0 < ((k : Nat) : Int))) && ((List.getD x.outs 0 default) == (List.getD x.outs 1 default)))))] (fun w' => w28 = w') ?_ ?_
            · refine J_if (gd := 78) rfl rfl (fun hg27 => ?_) (fun hg27 => ?_)
              · refine J_gdno rfl rfl rfl rfl (J_gdno rfl rfl rfl rfl (J_gdno rfl rfl rfl rfl (J_gdx rfl rfl rfl (J_gdx rfl rfl rfl (J_gdx rfl rfl rfl (J_gdx rfl rfl rfl (J_gdx rfl rfl rfl (J_gdx rfl rfl rfl (J_gdx rfl rfl rfl (J_gdx rfl rfl rfl (J_gdx rfl rfl rfl (J_gdno rfl rfl rfl rfl (J_st (R_pickT rfl rfl) rfl (J_cutEnd ⟨rfl, rfl, rfl, rfl, rfl, rfl, rfl, rfl, congrArg (fun b => some (Value.bool b)) (show true = ((!(win (x.outs[k]'hi4) 0 7)) || ((decide (0 < ((k : Nat) : Int))) && ((List.getD x.outs 0 default) == (List.getD x.outs 1 default)))) by first | (rw [hg27] <;> rfl) | (simp [hg27]; done) | (simp only [nat_nlt] <;> simp)), trivial⟩ rfl))))))))))))))
              · refine J_gd rfl rfl (R_move rfl) rfl (J_gd rfl rfl (R_gtr rfl rfl) rfl (J_gd rfl rfl (R_move rfl) rfl ?_))
                refine J_if (gd := 81) rfl rfl (fun hg28 => ?_) (fun hg28 => ?_)
                · have hg28n : k > 0 := by first | (have h := of_decide_eq_true hg28; omega) | (have h := hg28; simp at h; omega)
                  refine J_gd rfl rfl (R_fieldAddr0 fl89_3 rfl) rfl (J_gd rfl rfl (R_load sc54 rfl (h1.one 3 rfl)) rfl (J_gd rfl rfl (R_index (i := 0) sl54 rfl rfl (hd1.rd.ext E) (by first | assumption | omega)) rfl (J_gd rfl rfl (R_load sc3 rfl ((RdS.getD (hd1.rd.ext E) (i := 0) (by first | assumption | omega)).one 0 rfl)) rfl (J_gd rfl rfl (R_fieldAddr0 fl89_3 rfl) rfl (J_gd rfl rfl (R_load sc54 rfl (h1.one 3 rfl)) rfl (J_gd rfl rfl (R_index (i := 1) sl54 rfl rfl (hd1.rd.ext E) (by first | assumption | omega)) rfl (J_gd rfl rfl (R_load sc3 rfl ((RdS.getD (hd1.rd.ext E) (i := 1) (by first | assumption | omega)).one 0 rfl)) rfl (J_gd rfl rfl (R_eql rfl rfl) rfl (J_gd rfl rfl (R_pickT rfl rfl) rfl (J_st (R_pickF rfl rfl) rfl (J_cutEnd ⟨rfl, rfl, rfl, rfl, rfl, rfl, rfl, rfl, congrArg (fun b => some (Value.bool b)) (show ((List.getD x.outs 0 default) == (List.getD x.outs 1 default)) = ((!(win (x.outs[k]'hi4) 0 7)) || ((decide (0 < ((k : Nat) : Int))) && ((List.getD x.outs 0 default) == (List.getD x.outs 1 default)))) by first | (rw [hg27, hg28] <;> rfl) | (simp [hg27, hg28]; done) | (simp only [nat_nlt] <;> simp)), trivial⟩ rfl)))))))))))
                · have hg28n : ¬ k > 0 := by first | (have h := of_decide_eq_false hg28; omega) | (have h := hg28; simp at h; omega)
                  refine J_gdno rfl rfl rfl rfl (J_gdno rfl rfl rfl rfl (J_gdno rfl rfl rfl rfl (J_gdno rfl rfl rfl rfl (J_gdno rfl rfl rfl rfl (J_gdno rfl rfl rfl rfl (J_gdno rfl rfl rfl rfl (J_gdno rfl rfl rfl rfl (J_gdno rfl rfl rfl rfl (J_gd rfl rfl (R_pickF rfl rfl) rfl (J_st (R_pickF rfl rfl) rfl (J_cutEnd ⟨rfl, rfl, rfl, rfl, rfl, rfl, rfl, rfl, congrArg (fun b => some (Value.bool b)) (show false = ((!(win (x.outs[k]'hi4) 0 7)) || ((decide (0 < ((k : Nat) : Int))) && ((List.getD x.outs 0 default) == (List.getD x.outs 1 default)))) by first | (rw [hg27, hg28] <;> rfl) | (simp [hg27, hg28]; done) | (simp only [nat_nlt] <;> simp)), trivial⟩ rfl)))))))))))
            rintro _ rfl
            refine J_done ?_
            refine S_cond rfl (fun hc15 => ?_) (fun hc15 => ?_)
            · refine S_seq ?_
              refine S_reg [true] rfl rfl ?_
              refine J_st (R_assign rfl) rfl (J_done ?_)
              refine S_ret (E_inB_ret (E_lp_ret (E_inB_ret (E_done1 rfl rfl E ?_))))
              exact node_d (by assumption) (node_p (p := x.a == 0) (q := x.b == 0) (by assumption) (node_0 (by assumption) (by assumption) (by assumption))).2
            · refine S_skip ?_
              refine S_nil (E_inB ?_)
              refine S_reg [true, true, true] rfl rfl ?_
              refine J_st (R_move rfl) rfl (J_st (R_add rfl rfl (add_one hc14n (hd1.ext E).1.1)) rfl (J_st (R_assign rfl) rfl (J_done ?_)))
              refine S_nil (E_again (k + 1) (by omega) ⟨rfl, rfl, rfl, trivial⟩ ⟨E, (by omega), h1, (by omega), all_step hI (by assumption) (nodeL (by assumption)), nodeJ (by assumption)⟩)
          · have hc14n : ¬ k < x.outs.length := by first | (have h := of_decide_eq_false hc14; omega) | (have h := hc14; simp at h; omega)
            refine S_exit (E_lp_exit (E_inB_exit ?_))
            refine S_seq ?_
            refine S_reg [true] rfl rfl ?_
            refine J_st (R_assign rfl) rfl (J_done ?_)
            refine S_ret (E_done1 rfl rfl E ?_)
            exact node_z (p := x.a == 0) (q := x.b == 0) (by assumption) (node_0 (by assumption) (by assumption) (by assumption)) hI hJ (by omega)

set_option maxHeartbeats 4000000 in
set_option maxRecDepth 20000 in
theorem c_GraphOk (cg : List Value) (g : Graph) (w : World) (hg : Dat.R w 0 w.heap.size cg g) : Ct Try.prog 24 [.agg cg.toArray] w (fun v _ => v = .bool (graphOk g)) := by
  refine ct_of Try.func24 rfl Try.ntmps24 rfl ?_
  obtain ⟨o1, rfl, hd1⟩ := Graph.op hg
  refine S_sub [(0, .agg [o1, .int .i64 g.workers, .int .i64 g.cap].toArray)] ⟨rfl, trivial⟩ ?_
  have E : Ext w w := Ext.refl w
  refine S_seq ?_
  refine S_reg [false, true] rfl rfl ?_
  refine J_box rfl rfl (fun b1 w1 e1 s1 h1 => ?_)
  have g_b1 : w.heap.size ≤ b1 := by have := E.size; omega
  have y_b1 := h1.lt
  replace E := E.trans e1
  have z1 := e1.size
  refine J_st (R_assign rfl) rfl (J_done ?_)
  refine S_seq ?_
  refine S_seq ?_
  refine S_reg [true, true, true, false, true, true, true, true, false, true, true, true, true, true, false, true, true] rfl rfl ?_
  refine J_st (R_fieldAddr0 fl35_0 rfl) rfl (J_st (R_load sc33 rfl (h1.one 0 rfl)) rfl (J_st (R_len Try.underlying33 rfl (hd1.ext E).len) rfl ?_))
  refine J_call Try.call28 rfl (c_within ((g.nodes.length : Nat) : Int) 1 8 _ ) rfl (fun _ w2 e2 hv => ?_)
  subst hv
  replace E := E.trans e2; replace h1 := h1.ext e2
  have z2 := e2.size
  refine J_st (R_not rfl) rfl (J_st (R_move rfl) rfl ?_)
  refine J_cut 11 [(0, .agg [o1, .int .i64 g.workers, .int .i64 g.cap].toArray), (1, .pointer (some ⟨b1, 0, none⟩)), (2, .bool false), (24, .bool (((!(win ((g.nodes.length : Nat) : Int) 1 8)) || (!(win g.workers 1 4))) || (!(win g.cap 1 4))))] (fun w' => Ext w w' ∧ w2.heap.size ≤ w'.heap.size ∧ Blk w' b1 ([o1, .int .i64 g.workers, .int .i64 g.cap])) ?_ ?_
  · refine J_if (gd := 13) rfl rfl (fun hg1 => ?_) (fun hg1 => ?_)
    · refine J_gdno rfl rfl rfl rfl (J_gdno rfl rfl rfl rfl ?_)
      refine J_ungno rfl rfl rfl rfl ?_
      refine J_gdno rfl rfl rfl rfl (J_st (R_pickT rfl rfl) rfl (J_st (R_move rfl) rfl (J_gdno rfl rfl rfl rfl (J_gdno rfl rfl rfl rfl ?_))))
      refine J_ungno rfl rfl rfl rfl ?_
      refine J_gdno rfl rfl rfl rfl (J_st (R_pickT rfl rfl) rfl (J_cutEnd ⟨rfl, rfl, rfl, congrArg (fun b => some (Value.bool b)) (show true = (((!(win ((g.nodes.length : Nat) : Int) 1 8)) || (!(win g.workers 1 4))) || (!(win g.cap 1 4))) by first | (rw [hg1] <;> rfl) | (simp [hg1]; done) | (simp only [nat_nlt] <;> simp)), trivial⟩ ⟨E, (by omega), h1⟩))
    · refine J_gd rfl rfl (R_fieldAddr0 fl35_1 rfl) rfl (J_gd rfl rfl (R_load sc3 rfl (h1.one 1 rfl)) rfl ?_)
      refine J_ung rfl rfl ?_
      refine J_call Try.call28 rfl (c_within g.workers 1 4 _ ) rfl (fun _ w4 e3 hv => ?_)
      subst hv
      replace E := E.trans e3; replace h1 := h1.ext e3
      have z3 := e3.size
      refine J_gd rfl rfl (R_not rfl) rfl (J_st (R_pickF rfl rfl) rfl (J_st (R_move rfl) rfl ?_))
      refine J_if (gd := 19) rfl rfl (fun hg2 => ?_) (fun hg2 => ?_)
      · refine J_gdno rfl rfl rfl rfl (J_gdno rfl rfl rfl rfl ?_)
        refine J_ungno rfl rfl rfl rfl ?_
        refine J_gdno rfl rfl rfl rfl (J_st (R_pickT rfl rfl) rfl (J_cutEnd ⟨rfl, rfl, rfl, congrArg (fun b => some (Value.bool b)) (show true = (((!(win ((g.nodes.length : Nat) : Int) 1 8)) || (!(win g.workers 1 4))) || (!(win g.cap 1 4))) by first | (rw [hg1, hg2] <;> rfl) | (simp [hg1, hg2]; done) | (simp only [nat_nlt] <;> simp)), trivial⟩ ⟨E, (by omega), h1⟩))
      · refine J_gd rfl rfl (R_fieldAddr0 fl35_2 rfl) rfl (J_gd rfl rfl (R_load sc3 rfl (h1.one 2 rfl)) rfl ?_)
        refine J_ung rfl rfl ?_
        refine J_call Try.call28 rfl (c_within g.cap 1 4 _ ) rfl (fun _ w5 e4 hv => ?_)
        subst hv
        replace E := E.trans e4; replace h1 := h1.ext e4
        have z4 := e4.size
        refine J_gd rfl rfl (R_not rfl) rfl (J_st (R_pickF rfl rfl) rfl (J_cutEnd ⟨rfl, rfl, rfl, congrArg (fun b => some (Value.bool b)) (show (!(win g.cap 1 4)) = (((!(win ((g.nodes.length : Nat) : Int) 1 8)) || (!(win g.workers 1 4))) || (!(win g.cap 1 4))) by first | (rw [hg1, hg2] <;> rfl) | (simp [hg1, hg2]; done) | (simp only [nat_nlt] <;> simp)), trivial⟩ ⟨E, (by omega), h1⟩))
  clear E h1
  rintro w3 ⟨E, z5, h1⟩
  refine J_done ?_
  refine S_cond rfl (fun hc1 => ?_) (fun hc1 => ?_)
  · refine S_seq ?_
    refine S_reg [true] rfl rfl ?_
    refine J_st (R_assign rfl) rfl (J_done ?_)
    refine S_ret (E_done1 rfl rfl E ?_)
    exact graph_h (by assumption)
  · refine S_skip ?_
    refine S_seq ?_
    refine S_seq ?_
    refine S_reg [true, true, true, true] rfl rfl ?_
    refine J_st (R_fieldAddr0 fl35_0 rfl) rfl (J_st (R_load sc33 rfl (h1.one 0 rfl)) rfl (J_st (R_len Try.underlying33 rfl (hd1.ext E).len) rfl (J_st (R_move rfl) rfl (J_done ?_))))
    refine S_block ?_
    refine S_loop (fun (i : Nat) => [(1, .pointer (some ⟨b1, 0, none⟩)), (2, .bool false), (26, o1), (27, .int .i64 ((g.nodes.length : Nat) : Int)), (28, .int .i64 ((i : Nat) : Int))]) (fun (i : Nat) w' => Ext w w' ∧ w3.heap.size ≤ w'.heap.size ∧ Blk w' b1 ([o1, .int .i64 g.workers, .int .i64 g.cap]) ∧ i ≤ g.nodes.length ∧ (∀ j, j < i → nodeAtOk g j (List.getD g.nodes j default) = true)) (fun (i : Nat) => g.nodes.length - i) 0 ⟨rfl, rfl, rfl, rfl, rfl, trivial⟩ ⟨E, Nat.le_refl _, h1, Nat.zero_le _, (fun j hj => by omega)⟩ ?_
    clear E h1
    rintro i w6 ⟨E, z6, h1, hle, hp⟩
    refine S_seq ?_
    refine S_reg [true] rfl rfl ?_
    refine J_st (R_lss rfl rfl) rfl (J_done ?_)
    refine S_seq ?_
    refine S_cond rfl (fun hc2 => ?_) (fun hc2 => ?_)
    · have hc2n : i < g.nodes.length := by first | (have h := of_decide_eq_true hc2; omega) | (have h := hc2; simp at h; omega)
      refine S_skip ?_
      refine S_seq ?_
      refine S_block ?_
      refine S_seq ?_
      refine S_reg [true, true, true, false, true, false] rfl rfl ?_
      refine J_st (R_move rfl) rfl ?_
      have hi1 : i < g.nodes.length := (by first | assumption | omega)
      obtain ⟨_, hr1, ha1⟩ := RdD.get hd1 hi1
      obtain ⟨o2, rfl, hd2⟩ := Node.op hr1
      replace ha1 : At w (sblk o1) (soff o1 + i * 4) [.int .i64 ((g.nodes[i]'hi1).kind), .int .i64 ((g.nodes[i]'hi1).a), .int .i64 ((g.nodes[i]'hi1).b), o2] := ha1
      refine J_st (R_index (i := i) sl33 rfl rfl (hd1.ext E).1 hi1) rfl (J_st (R_loadS st89 rfl (ha1.ext E) rfl) rfl ?_)
      refine J_alloc st89 rfl (fun b2 w7 e5 s2 h2 => ?_)
      have g_b2 : w.heap.size ≤ b2 := by have := E.size; omega
      have y_b2 := h2.lt
      replace E := E.trans e5; replace h1 := h1.ext e5
      have z7 := e5.size
      refine J_st (R_assign rfl) rfl ?_
      refine J_storeS' (cs' := [.int .i64 ((g.nodes[i]'hi1).kind), .int .i64 ((g.nodes[i]'hi1).a), .int .i64 ((g.nodes[i]'hi1).b), o2]) st89 rfl rfl rfl (all_cons rfl (all_cons rfl (all_cons rfl (all_cons (RdD.one (hd2.ext E)) rfl)))) h2 (Nat.le_of_ble_eq_true rfl) rfl (fun w8 m1 h2' => ?_)
      replace h2 := h2'
      replace E := E.step m1 (fun g hg => by cases hg; omega); replace h1 := h1.mod m1 (fun g hg => by cases hg; omega)
      have z8 := m1.size
      refine J_done ?_
      refine S_seq ?_
      refine S_seq ?_
      refine S_reg [true, false, true, true, true, true, true, true, true, true, true] rfl rfl ?_
      refine J_st (R_loadS st89 rfl h2.at rfl) rfl ?_
      refine J_call Try.call45 rfl (c_NodeOk [.int .i64 ((g.nodes[i]'hi1).kind), .int .i64 ((g.nodes[i]'hi1).a), .int .i64 ((g.nodes[i]'hi1).b), o2] (g.nodes[i]'hi1) _ (Node.mkR (g.nodes[i]'hi1) (RdD.any (hd2.ext E)))) rfl (fun _ w9 e6 hv => ?_)
      subst hv
      replace E := E.trans e6; replace h1 := h1.ext e6; replace h2 := h2.ext e6
      have z9 := e6.size
      refine J_st (R_not rfl) rfl (J_st (R_move rfl) rfl ?_)
      refine J_cut 7 [(1, .pointer (some ⟨b1, 0, none⟩)), (2, .bool false), (3, .int .i64 ((i : Nat) : Int)), (4, .pointer (some ⟨b2, 0, none⟩)), (26, o1), (27, .int .i64 ((g.nodes.length : Nat) : Int)), (28, .int .i64 ((i : Nat) : Int)), (29, .bool (decide (((i : Nat) : Int) < ((g.nodes.length : Nat) : Int)))), (30, .int .i64 ((i : Nat) : Int)), (31, .pointer (some ⟨sblk o1, soff o1 + i * 4, none⟩)), (32, .agg [.int .i64 ((g.nodes[i]'hi1).kind), .int .i64 ((g.nodes[i]'hi1).a), .int .i64 ((g.nodes[i]'hi1).b), o2].toArray), (43, .bool ((!(nodeOk (g.nodes[i]'hi1))) || (!((((g.nodes[i]'hi1).kind) == 1) == (((i : Nat) : Int) == 0)))))] (fun w' => w9 = w') ?_ ?_
      · refine J_if (gd := 36) rfl rfl (fun hg3 => ?_) (fun hg3 => ?_)
        · refine J_gdno rfl rfl rfl rfl (J_gdno rfl rfl rfl rfl (J_gdno rfl rfl rfl rfl (J_gdno rfl rfl rfl rfl (J_gdno rfl rfl rfl rfl (J_gdno rfl rfl rfl rfl (J_st (R_pickT rfl rfl) rfl (J_cutEnd ⟨rfl, rfl, rfl, rfl, rfl, rfl, rfl, rfl, rfl, rfl, rfl, congrArg (fun b => some (Value.bool b)) (show true = ((!(nodeOk (g.nodes[i]'hi1))) || (!((((g.nodes[i]'hi1).kind) == 1) == (((i : Nat) : Int) == 0)))) by first | (rw [hg3] <;> rfl) | (simp [hg3]; done) | (simp only [nat_nlt] <;> simp)), trivial⟩ rfl)))))))
        · refine J_gd rfl rfl (R_fieldAddr0 fl89_0 rfl) rfl (J_gd rfl rfl (R_load sc3 rfl (h2.one 0 rfl)) rfl (J_gd rfl rfl (R_eql rfl rfl) rfl (J_gd rfl rfl (R_move rfl) rfl (J_gd rfl rfl (R_eql rfl rfl) rfl (J_gd rfl rfl (R_neqB (Try.underlying4) rfl rfl) rfl (J_st (R_pickF rfl rfl) rfl (J_cutEnd ⟨rfl, rfl, rfl, rfl, rfl, rfl, rfl, rfl, rfl, rfl, rfl, congrArg (fun b => some (Value.bool b)) (show (!((((g.nodes[i]'hi1).kind) == 1) == (((i : Nat) : Int) == 0))) = ((!(nodeOk (g.nodes[i]'hi1))) || (!((((g.nodes[i]'hi1).kind) == 1) == (((i : Nat) : Int) == 0)))) by first | (rw [hg3] <;> rfl) | (simp [hg3]; done) | (simp only [nat_nlt] <;> simp)), trivial⟩ rfl)))))))
      rintro _ rfl
      refine J_done ?_
      refine S_cond rfl (fun hc3 => ?_) (fun hc3 => ?_)
      · refine S_seq ?_
        refine S_reg [true] rfl rfl ?_
        refine J_st (R_assign rfl) rfl (J_done ?_)
        refine S_ret (E_inB_ret (E_lp_ret (E_inB_ret (E_done1 rfl rfl E ?_))))
        exact graph_a (by assumption)
      · refine S_skip ?_
        refine S_seq ?_
        refine S_reg [true, true, true, true] rfl rfl ?_
        refine J_st (R_fieldAddr0 fl89_3 rfl) rfl (J_st (R_load sc54 rfl (h2.one 3 rfl)) rfl (J_st (R_len Try.underlying54 rfl (hd2.ext E).len) rfl (J_st (R_move rfl) rfl (J_done ?_))))
        refine S_block ?_
        refine S_loop (fun (k : Nat) => [(1, .pointer (some ⟨b1, 0, none⟩)), (2, .bool false), (3, .int .i64 ((i : Nat) : Int)), (4, .pointer (some ⟨b2, 0, none⟩)), (26, o1), (27, .int .i64 ((g.nodes.length : Nat) : Int)), (28, .int .i64 ((i : Nat) : Int)), (45, o2), (46, .int .i64 ((((g.nodes[i]'hi1).outs).length : Nat) : Int)), (47, .int .i64 ((k : Nat) : Int))]) (fun (k : Nat) w' => Ext w w' ∧ w9.heap.size ≤ w'.heap.size ∧ Blk w' b1 ([o1, .int .i64 g.workers, .int .i64 g.cap]) ∧ Blk w' b2 [.int .i64 ((g.nodes[i]'hi1).kind), .int .i64 ((g.nodes[i]'hi1).a), .int .i64 ((g.nodes[i]'hi1).b), o2] ∧ k ≤ (g.nodes[i]'hi1).outs.length ∧ ((g.nodes[i]'hi1).outs.take k).all (fun to => !edgeBad g i (g.nodes[i]'hi1) to) = true) (fun (k : Nat) => (g.nodes[i]'hi1).outs.length - k) 0 ⟨rfl, rfl, rfl, rfl, rfl, rfl, rfl, rfl, rfl, rfl, trivial⟩ ⟨E, Nat.le_refl _, h1, h2, Nat.zero_le _, rfl⟩ ?_
        clear E h1 h2
        rintro k w11 ⟨E, z10, h1, h2, hk, hI⟩
        refine S_seq ?_
        refine S_reg [true] rfl rfl ?_
        refine J_st (R_lss rfl rfl) rfl (J_done ?_)
        refine S_seq ?_
        refine S_cond rfl (fun hc4 => ?_) (fun hc4 => ?_)
        · have hc4n : k < ((g.nodes[i]'hi1).outs).length := by first | (have h := of_decide_eq_true hc4; omega) | (have h := hc4; simp at h; omega)
          refine S_skip ?_
          refine S_seq ?_
          refine S_block ?_
          refine S_seq ?_
          refine S_reg [true, true, true] rfl rfl ?_
          have hi2 : k < ((g.nodes[i]'hi1).outs).length := (by first | assumption | omega)
          refine J_st (R_index (i := k) sl54 rfl rfl (hd2.rd.ext E) hi2) rfl (J_st (R_load sc3 rfl (((hd2.rd.ext E).get hi2).one 0 rfl)) rfl (J_st (R_assign rfl) rfl (J_done ?_)))
          refine S_seq ?_
          refine S_seq ?_
          refine S_reg [true, true, true, true, true] rfl rfl ?_
          refine J_st (R_move rfl) rfl (J_st (R_fieldAddr0 fl35_0 rfl) rfl (J_st (R_load sc33 rfl (h1.one 0 rfl)) rfl (J_st (R_len Try.underlying33 rfl (hd1.ext E).len) rfl (J_st (R_geq rfl rfl) rfl (J_done ?_)))))
          refine S_cond rfl (fun hc5 => ?_) (fun hc5 => ?_)
          · refine S_seq ?_
            refine S_reg [true] rfl rfl ?_
            refine J_st (R_assign rfl) rfl (J_done ?_)
            refine S_ret (E_inB_ret (E_lp_ret (E_inB_ret (E_inB_ret (E_lp_ret (E_inB_ret (E_done1 rfl rfl E ?_)))))))
            exact graph_e (edge_a (by assumption))
          · have hto := graph_to (h1 := hi1) (h2 := hi2) (by assumption)
            have htl := Int.not_le.1 (of_decide_eq_false hc5)
            refine S_skip ?_
            refine S_seq ?_
            refine S_reg [true, true, true, true, true, true, true] rfl rfl ?_
            refine J_st (R_fieldAddr0 fl35_0 rfl) rfl (J_st (R_load sc33 rfl (h1.one 0 rfl)) rfl (J_st (R_move rfl) rfl ?_))
            have hi3 : (Int.toNat (((g.nodes[i]'hi1).outs)[k]'hi2)) < g.nodes.length := (by first | assumption | omega)
            obtain ⟨_, hr2, ha2⟩ := RdD.get hd1 hi3
            obtain ⟨o3, rfl, hd3⟩ := Node.op hr2
            replace ha2 : At w (sblk o1) (soff o1 + (Int.toNat (((g.nodes[i]'hi1).outs)[k]'hi2)) * 4) [.int .i64 ((g.nodes[(Int.toNat (((g.nodes[i]'hi1).outs)[k]'hi2))]'hi3).kind), .int .i64 ((g.nodes[(Int.toNat (((g.nodes[i]'hi1).outs)[k]'hi2))]'hi3).a), .int .i64 ((g.nodes[(Int.toNat (((g.nodes[i]'hi1).outs)[k]'hi2))]'hi3).b), o3] := ha2
            refine J_st (R_indexZ (i := (Int.toNat (((g.nodes[i]'hi1).outs)[k]'hi2))) sl33 rfl rfl (hd1.ext E).1 (by omega) hi3) rfl (J_st (R_fieldAddr fl89_0 rfl) rfl (J_st (R_load sc3 rfl ((ha2.ext E).one 0 rfl)) rfl (J_st (R_assign rfl) rfl (J_done ?_))))
            refine S_seq ?_
            refine S_reg [true, true, true, true, true, true, true, true, true, true, true, true, true, true, true, true, true, true, true, true, true, true, true, true, true, true] rfl rfl ?_
            refine J_st (R_fieldAddr0 fl89_0 rfl) rfl (J_st (R_load sc3 rfl (h2.one 0 rfl)) rfl (J_st (R_eql rfl rfl) rfl (J_st (R_move rfl) rfl ?_)))
            refine J_cut 22 [(1, .pointer (some ⟨b1, 0, none⟩)), (2, .bool false), (3, .int .i64 ((i : Nat) : Int)), (4, .pointer (some ⟨b2, 0, none⟩)), (6, .int .i64 (((g.nodes[i]'hi1).outs)[k]'hi2)), (7, .int .i64 ((g.nodes[(Int.toNat (((g.nodes[i]'hi1).outs)[k]'hi2))]'hi3).kind)), (26, o1), (27, .int .i64 ((g.nodes.length : Nat) : Int)), (28, .int .i64 ((i : Nat) : Int)), (45, o2), (46, .int .i64 ((((g.nodes[i]'hi1).outs).length : Nat) : Int)), (47, .int .i64 ((k : Nat) : Int)), (48, .bool (decide (((k : Nat) : Int) < ((((g.nodes[i]'hi1).outs).length : Nat) : Int)))), (49, .pointer (some ⟨sblk o2, soff o2 + k * 1, none⟩)), (50, .int .i64 (((g.nodes[i]'hi1).outs)[k]'hi2)), (51, .int .i64 (((g.nodes[i]'hi1).outs)[k]'hi2)), (52, .pointer (some ⟨b1, 0, none⟩)), (53, o1), (54, .int .i64 ((g.nodes.length : Nat) : Int)), (55, .bool (decide (((g.nodes.length : Nat) : Int) ≤ (((g.nodes[i]'hi1).outs)[k]'hi2)))), (56, .pointer (some ⟨b1, 0, none⟩)), (57, o1), (58, .int .i64 (((g.nodes[i]'hi1).outs)[k]'hi2)), (59, .pointer (some ⟨sblk o1, soff o1 + (Int.toNat (((g.nodes[i]'hi1).outs)[k]'hi2)) * 4, none⟩)), (60, .pointer (some ⟨(sblk o1), soff o1 + (Int.toNat (((g.nodes[i]'hi1).outs)[k]'hi2)) * 4 + 0, none⟩)), (61, .int .i64 ((g.nodes[(Int.toNat (((g.nodes[i]'hi1).outs)[k]'hi2))]'hi3).kind)), (87, .bool (((((g.nodes[i]'hi1).kind) == 7) && ((decide (((i : Nat) : Int) < (((g.nodes[i]'hi1).outs)[k]'hi2))) || ((((g.nodes[(Int.toNat (((g.nodes[i]'hi1).outs)[k]'hi2))]'hi3).kind) != 5) && (((g.nodes[(Int.toNat (((g.nodes[i]'hi1).outs)[k]'hi2))]'hi3).kind) != 6)))) || ((((g.nodes[i]'hi1).kind) != 7) && (decide ((((g.nodes[i]'hi1).outs)[k]'hi2) ≤ ((i : Nat) : Int))))))] (fun w' => w11 = w') ?_ ?_
            · refine J_if (gd := 65) rfl rfl (fun hg4 => ?_) (fun hg4 => ?_)
              · refine J_gd rfl rfl (R_move rfl) rfl (J_gd rfl rfl (R_move rfl) rfl (J_gd rfl rfl (R_gtr rfl rfl) rfl (J_gd rfl rfl (R_move rfl) rfl ?_)))
                refine J_if (gd := 69) rfl rfl (fun hg5 => ?_) (fun hg5 => ?_)
                · refine J_gdno rfl rfl rfl rfl (J_gdno rfl rfl rfl rfl (J_gdno rfl rfl rfl rfl (J_gdx rfl rfl rfl (J_gdx rfl rfl rfl (J_gdno rfl rfl rfl rfl (J_gd rfl rfl (R_pickT rfl rfl) rfl (J_st (R_pickT rfl rfl) rfl (J_st (R_move rfl) rfl (J_gdno rfl rfl rfl rfl (J_gdno rfl rfl rfl rfl (J_gdno rfl rfl rfl rfl (J_gdno rfl rfl rfl rfl (J_gdx rfl rfl rfl (J_gdx rfl rfl rfl (J_gdx rfl rfl rfl (J_gdno rfl rfl rfl rfl (J_st (R_pickT rfl rfl) rfl (J_cutEnd ⟨rfl, rfl, rfl, rfl, rfl, rfl, rfl, rfl, rfl, rfl, rfl, rfl, rfl, rfl, rfl, rfl, rfl, rfl, rfl, rfl, rfl, rfl, rfl, rfl, rfl, rfl, congrArg (fun b => some (Value.bool b)) (show true = (((((g.nodes[i]'hi1).kind) == 7) && ((decide (((i : Nat) : Int) < (((g.nodes[i]'hi1).outs)[k]'hi2))) || ((((g.nodes[(Int.toNat (((g.nodes[i]'hi1).outs)[k]'hi2))]'hi3).kind) != 5) && (((g.nodes[(Int.toNat (((g.nodes[i]'hi1).outs)[k]'hi2))]'hi3).kind) != 6)))) || ((((g.nodes[i]'hi1).kind) != 7) && (decide ((((g.nodes[i]'hi1).outs)[k]'hi2) ≤ ((i : Nat) : Int))))) by first | (rw [hg4, hg5] <;> rfl) | (simp [hg4, hg5]; done) | (simp only [nat_nlt] <;> simp)), trivial⟩ rfl))))))))))))))))))
                · refine J_gd rfl rfl (R_move rfl) rfl (J_gd rfl rfl (R_neq rfl rfl) rfl (J_gd rfl rfl (R_move rfl) rfl ?_))
                  refine J_if (gd := 72) rfl rfl (fun hg6 => ?_) (fun hg6 => ?_)
                  · refine J_gd rfl rfl (R_move rfl) rfl (J_gd rfl rfl (R_neq rfl rfl) rfl (J_gd rfl rfl (R_pickT rfl rfl) rfl (J_gd rfl rfl (R_pickF rfl rfl) rfl (J_st (R_pickT rfl rfl) rfl (J_st (R_move rfl) rfl ?_)))))
                    refine J_if (gd := 78) rfl rfl (fun hg7 => ?_) (fun hg7 => ?_)
                    · refine J_gdno rfl rfl rfl rfl (J_gdno rfl rfl rfl rfl (J_gdno rfl rfl rfl rfl (J_gdno rfl rfl rfl rfl (J_gdx rfl rfl rfl (J_gdx rfl rfl rfl (J_gdx rfl rfl rfl (J_gdno rfl rfl rfl rfl (J_st (R_pickT rfl rfl) rfl (J_cutEnd ⟨rfl, rfl, rfl, rfl, rfl, rfl, rfl, rfl, rfl, rfl, rfl, rfl, rfl, rfl, rfl, rfl, rfl, rfl, rfl, rfl, rfl, rfl, rfl, rfl, rfl, rfl, congrArg (fun b => some (Value.bool b)) (show true = (((((g.nodes[i]'hi1).kind) == 7) && ((decide (((i : Nat) : Int) < (((g.nodes[i]'hi1).outs)[k]'hi2))) || ((((g.nodes[(Int.toNat (((g.nodes[i]'hi1).outs)[k]'hi2))]'hi3).kind) != 5) && (((g.nodes[(Int.toNat (((g.nodes[i]'hi1).outs)[k]'hi2))]'hi3).kind) != 6)))) || ((((g.nodes[i]'hi1).kind) != 7) && (decide ((((g.nodes[i]'hi1).outs)[k]'hi2) ≤ ((i : Nat) : Int))))) by first | (rw [hg4, hg5, hg6, hg7] <;> rfl) | (simp [hg4, hg5, hg6, hg7]; done) | (simp only [nat_nlt] <;> simp)), trivial⟩ rfl)))))))))
                    · refine J_gd rfl rfl (R_fieldAddr0 fl89_0 rfl) rfl (J_gd rfl rfl (R_load sc3 rfl (h2.one 0 rfl)) rfl (J_gd rfl rfl (R_neq rfl rfl) rfl (J_gd rfl rfl (R_move rfl) rfl ?_)))
                      refine J_if (gd := 82) rfl rfl (fun hg8 => ?_) (fun hg8 => ?_)
                      · refine J_gd rfl rfl (R_move rfl) rfl (J_gd rfl rfl (R_move rfl) rfl (J_gd rfl rfl (R_leq rfl rfl) rfl (J_gd rfl rfl (R_pickT rfl rfl) rfl (J_st (R_pickF rfl rfl) rfl (J_cutEnd ⟨rfl, rfl, rfl, rfl, rfl, rfl, rfl, rfl, rfl, rfl, rfl, rfl, rfl, rfl, rfl, rfl, rfl, rfl, rfl, rfl, rfl, rfl, rfl, rfl, rfl, rfl, congrArg (fun b => some (Value.bool b)) (show (decide ((((g.nodes[i]'hi1).outs)[k]'hi2) ≤ ((i : Nat) : Int))) = (((((g.nodes[i]'hi1).kind) == 7) && ((decide (((i : Nat) : Int) < (((g.nodes[i]'hi1).outs)[k]'hi2))) || ((((g.nodes[(Int.toNat (((g.nodes[i]'hi1).outs)[k]'hi2))]'hi3).kind) != 5) && (((g.nodes[(Int.toNat (((g.nodes[i]'hi1).outs)[k]'hi2))]'hi3).kind) != 6)))) || ((((g.nodes[i]'hi1).kind) != 7) && (decide ((((g.nodes[i]'hi1).outs)[k]'hi2) ≤ ((i : Nat) : Int))))) by first | (rw [hg4, hg5, hg6, hg7, hg8] <;> rfl) | (simp [hg4, hg5, hg6, hg7, hg8]; done) | (simp only [nat_nlt] <;> simp)), trivial⟩ rfl)))))
                      · refine J_gdno rfl rfl rfl rfl (J_gdno rfl rfl rfl rfl (J_gdno rfl rfl rfl rfl (J_gd rfl rfl (R_pickF rfl rfl) rfl (J_st (R_pickF rfl rfl) rfl (J_cutEnd ⟨rfl, rfl, rfl, rfl, rfl, rfl, rfl, rfl, rfl, rfl, rfl, rfl, rfl, rfl, rfl, rfl, rfl, rfl, rfl, rfl, rfl, rfl, rfl, rfl, rfl, rfl, congrArg (fun b => some (Value.bool b)) (show false = (((((g.nodes[i]'hi1).kind) == 7) && ((decide (((i : Nat) : Int) < (((g.nodes[i]'hi1).outs)[k]'hi2))) || ((((g.nodes[(Int.toNat (((g.nodes[i]'hi1).outs)[k]'hi2))]'hi3).kind) != 5) && (((g.nodes[(Int.toNat (((g.nodes[i]'hi1).outs)[k]'hi2))]'hi3).kind) != 6)))) || ((((g.nodes[i]'hi1).kind) != 7) && (decide ((((g.nodes[i]'hi1).outs)[k]'hi2) ≤ ((i : Nat) : Int))))) by first | (rw [hg4, hg5, hg6, hg7, hg8] <;> rfl) | (simp [hg4, hg5, hg6, hg7, hg8]; done) | (simp only [nat_nlt] <;> simp)), trivial⟩ rfl)))))
                  · refine J_gdno rfl rfl rfl rfl (J_gdno rfl rfl rfl rfl (J_gd rfl rfl (R_pickF rfl rfl) rfl (J_gd rfl rfl (R_pickF rfl rfl) rfl (J_st (R_pickT rfl rfl) rfl (J_st (R_move rfl) rfl (J_gd rfl rfl (R_fieldAddr0 fl89_0 rfl) rfl (J_gd rfl rfl (R_load sc3 rfl (h2.one 0 rfl)) rfl (J_gd rfl rfl (R_neq rfl rfl) rfl (J_gd rfl rfl (R_move rfl) rfl ?_)))))))))
                    refine J_if (gd := 82) rfl rfl (fun hg9 => ?_) (fun hg9 => ?_)
                    · refine J_gd rfl rfl (R_move rfl) rfl (J_gd rfl rfl (R_move rfl) rfl (J_gd rfl rfl (R_leq rfl rfl) rfl (J_gd rfl rfl (R_pickT rfl rfl) rfl (J_st (R_pickF rfl rfl) rfl (J_cutEnd ⟨rfl, rfl, rfl, rfl, rfl, rfl, rfl, rfl, rfl, rfl, rfl, rfl, rfl, rfl, rfl, rfl, rfl, rfl, rfl, rfl, rfl, rfl, rfl, rfl, rfl, rfl, congrArg (fun b => some (Value.bool b)) (show (decide ((((g.nodes[i]'hi1).outs)[k]'hi2) ≤ ((i : Nat) : Int))) = (((((g.nodes[i]'hi1).kind) == 7) && ((decide (((i : Nat) : Int) < (((g.nodes[i]'hi1).outs)[k]'hi2))) || ((((g.nodes[(Int.toNat (((g.nodes[i]'hi1).outs)[k]'hi2))]'hi3).kind) != 5) && (((g.nodes[(Int.toNat (((g.nodes[i]'hi1).outs)[k]'hi2))]'hi3).kind) != 6)))) || ((((g.nodes[i]'hi1).kind) != 7) && (decide ((((g.nodes[i]'hi1).outs)[k]'hi2) ≤ ((i : Nat) : Int))))) by first | (rw [hg4, hg5, hg6, hg9] <;> rfl) | (simp [hg4, hg5, hg6, hg9]; done) | (simp only [nat_nlt] <;> simp)), trivial⟩ rfl)))))
                    · refine J_gdno rfl rfl rfl rfl (J_gdno rfl rfl rfl rfl (J_gdno rfl rfl rfl rfl (J_gd rfl rfl (R_pickF rfl rfl) rfl (J_st (R_pickF rfl rfl) rfl (J_cutEnd ⟨rfl, rfl, rfl, rfl, rfl, rfl, rfl, rfl, rfl, rfl, rfl, rfl, rfl, rfl, rfl, rfl, rfl, rfl, rfl, rfl, rfl, rfl, rfl, rfl, rfl, rfl, congrArg (fun b => some (Value.bool b)) (show false = (((((g.nodes[i]'hi1).kind) == 7) && ((decide (((i : Nat) : Int) < (((g.nodes[i]'hi1).outs)[k]'hi2))) || ((((g.nodes[(Int.toNat (((g.nodes[i]'hi1).outs)[k]'hi2))]'hi3).kind) != 5) && (((g.nodes[(Int.toNat (((g.nodes[i]'hi1).outs)[k]'hi2))]'hi3).kind) != 6)))) || ((((g.nodes[i]'hi1).kind) != 7) && (decide ((((g.nodes[i]'hi1).outs)[k]'hi2) ≤ ((i : Nat) : Int))))) by first | (rw [hg4, hg5, hg6, hg9] <;> rfl) | (simp [hg4, hg5, hg6, hg9]; done) | (simp only [nat_nlt] <;> simp)), trivial⟩ rfl)))))
              · refine J_gdno rfl rfl rfl rfl (J_gdno rfl rfl rfl rfl (J_gdno rfl rfl rfl rfl (J_gdno rfl rfl rfl rfl (J_gdx rfl rfl rfl (J_gdx rfl rfl rfl (J_gdx rfl rfl rfl (J_gdx rfl rfl rfl (J_gdx rfl rfl rfl (J_gdx rfl rfl rfl (J_gdno rfl rfl rfl rfl (J_st (R_pickF rfl rfl) rfl (J_st (R_move rfl) rfl (J_gd rfl rfl (R_fieldAddr0 fl89_0 rfl) rfl (J_gd rfl rfl (R_load sc3 rfl (h2.one 0 rfl)) rfl (J_gd rfl rfl (R_neq rfl rfl) rfl (J_gd rfl rfl (R_move rfl) rfl ?_))))))))))))))))
                refine J_if (gd := 82) rfl rfl (fun hg10 => ?_) (fun hg10 => ?_)
                · refine J_gd rfl rfl (R_move rfl) rfl (J_gd rfl rfl (R_move rfl) rfl (J_gd rfl rfl (R_leq rfl rfl) rfl (J_gd rfl rfl (R_pickT rfl rfl) rfl (J_st (R_pickF rfl rfl) rfl (J_cutEnd ⟨rfl, rfl, rfl, rfl, rfl, rfl, rfl, rfl, rfl, rfl, rfl, rfl, rfl, rfl, rfl, rfl, rfl, rfl, rfl, rfl, rfl, rfl, rfl, rfl, rfl, rfl, congrArg (fun b => some (Value.bool b)) (show (decide ((((g.nodes[i]'hi1).outs)[k]'hi2) ≤ ((i : Nat) : Int))) = (((((g.nodes[i]'hi1).kind) == 7) && ((decide (((i : Nat) : Int) < (((g.nodes[i]'hi1).outs)[k]'hi2))) || ((((g.nodes[(Int.toNat (((g.nodes[i]'hi1).outs)[k]'hi2))]'hi3).kind) != 5) && (((g.nodes[(Int.toNat (((g.nodes[i]'hi1).outs)[k]'hi2))]'hi3).kind) != 6)))) || ((((g.nodes[i]'hi1).kind) != 7) && (decide ((((g.nodes[i]'hi1).outs)[k]'hi2) ≤ ((i : Nat) : Int))))) by first | (rw [hg4, hg10] <;> rfl) | (simp [hg4, hg10]; done) | (simp only [nat_nlt] <;> simp)), trivial⟩ rfl)))))
                · refine J_gdno rfl rfl rfl rfl (J_gdno rfl rfl rfl rfl (J_gdno rfl rfl rfl rfl (J_gd rfl rfl (R_pickF rfl rfl) rfl (J_st (R_pickF rfl rfl) rfl (J_cutEnd ⟨rfl, rfl, rfl, rfl, rfl, rfl, rfl, rfl, rfl, rfl, rfl, rfl, rfl, rfl, rfl, rfl, rfl, rfl, rfl, rfl, rfl, rfl, rfl, rfl, rfl, rfl, congrArg (fun b => some (Value.bool b)) (show false = (((((g.nodes[i]'hi1).kind) == 7) && ((decide (((i : Nat) : Int) < (((g.nodes[i]'hi1).outs)[k]'hi2))) || ((((g.nodes[(Int.toNat (((g.nodes[i]'hi1).outs)[k]'hi2))]'hi3).kind) != 5) && (((g.nodes[(Int.toNat (((g.nodes[i]'hi1).outs)[k]'hi2))]'hi3).kind) != 6)))) || ((((g.nodes[i]'hi1).kind) != 7) && (decide ((((g.nodes[i]'hi1).outs)[k]'hi2) ≤ ((i : Nat) : Int))))) by first | (rw [hg4, hg10] <;> rfl) | (simp [hg4, hg10]; done) | (simp only [nat_nlt] <;> simp)), trivial⟩ rfl)))))
            rintro _ rfl
            refine J_done ?_
            refine S_cond rfl (fun hc6 => ?_) (fun hc6 => ?_)
            · refine S_seq ?_
              refine S_reg [true] rfl rfl ?_
              refine J_st (R_assign rfl) rfl (J_done ?_)
              refine S_ret (E_inB_ret (E_lp_ret (E_inB_ret (E_inB_ret (E_lp_ret (E_inB_ret (E_done1 rfl rfl E ?_)))))))
              exact graph_e (edge_b (congrArg Node.kind (getD_at _)).symm (by assumption))
            · refine S_skip ?_
              refine S_nil (E_inB ?_)
              refine S_reg [true, true] rfl rfl ?_
              refine J_st (R_add rfl rfl (add_one hc4n (hd2.ext E).1.1)) rfl (J_st (R_move rfl) rfl (J_done ?_))
              refine S_nil (E_again (k + 1) (by omega) ⟨rfl, rfl, rfl, rfl, rfl, rfl, rfl, rfl, rfl, rfl, trivial⟩ ⟨E, (by omega), h1, h2, (by omega), all_step hI (by assumption) (edge_n (congrArg Node.kind (getD_at _)).symm (by assumption) (by assumption))⟩)
        · have hc4n : ¬ k < ((g.nodes[i]'hi1).outs).length := by first | (have h := of_decide_eq_false hc4; omega) | (have h := hc4; simp at h; omega)
          refine S_exit (E_lp_exit (E_inB_exit ?_))
          refine S_nil (E_inB ?_)
          refine S_reg [true, true] rfl rfl ?_
          refine J_st (R_add rfl rfl (add_one hc2n (hd1.ext E).1.1)) rfl (J_st (R_move rfl) rfl (J_done ?_))
          refine S_nil (E_again (i + 1) (by omega) ⟨rfl, rfl, rfl, rfl, rfl, trivial⟩ ⟨E, (by omega), h1, (by omega), graph_s (h1 := hi1) (by assumption) hI (by omega) hp⟩)
    · have hc2n : ¬ i < g.nodes.length := by first | (have h := of_decide_eq_false hc2; omega) | (have h := hc2; simp at h; omega)
      refine S_exit (E_lp_exit (E_inB_exit ?_))
      refine S_seq ?_
      refine S_reg [true] rfl rfl ?_
      refine J_st (R_assign rfl) rfl (J_done ?_)
      refine S_ret (E_done1 rfl rfl E ?_)
      exact graph_y (by assumption) hp (by omega)

set_option maxHeartbeats 4000000 in
set_option maxRecDepth 20000 in
theorem s_GraphOk (cg : List Value) (g : Graph) (w : World) (hg : Dat.R w 0 w.heap.size cg g) : Ct Try.prog 14 [.agg cg.toArray] w (fun v _ => v = .bool (graphOk g)) := by
  refine ct_of Try.func14 rfl Try.ntmps14 rfl ?_
  obtain ⟨o1, rfl, hd1⟩ := Graph.op hg
  refine S_sub [(0, .agg [o1, .int .i64 g.workers, .int .i64 g.cap].toArray)] ⟨rfl, trivial⟩ ?_
  have E : Ext w w := Ext.refl w
  refine S_seq ?_
  refine S_reg [false, true] rfl rfl ?_
  refine J_box rfl rfl (fun b1 w1 e1 s1 h1 => ?_)
  have g_b1 : w.heap.size ≤ b1 := by have := E.size; omega
  have y_b1 := h1.lt
  replace E := E.trans e1
  have z1 := e1.size
  refine J_st (R_assign rfl) rfl (J_done ?_)
  refine S_seq ?_
  refine S_seq ?_
  refine S_reg [true, true, true, false, true, true, true, true, false, true, true, true, true, true, false, true, true] rfl rfl ?_
  refine J_st (R_fieldAddr0 fl35_0 rfl) rfl (J_st (R_load sc33 rfl (h1.one 0 rfl)) rfl (J_st (R_len Try.underlying33 rfl (hd1.ext E).len) rfl ?_))
  refine J_call Try.call18 rfl (s_l01In ((g.nodes.length : Nat) : Int) 1 8 _ ) rfl (fun _ w2 e2 hv => ?_)
  subst hv
  replace E := E.trans e2; replace h1 := h1.ext e2
  have z2 := e2.size
  refine J_st (R_not rfl) rfl (J_st (R_move rfl) rfl ?_)
  refine J_cut 11 [(0, .agg [o1, .int .i64 g.workers, .int .i64 g.cap].toArray), (1, .pointer (some ⟨b1, 0, none⟩)), (2, .bool false), (24, .bool (((!(win ((g.nodes.length : Nat) : Int) 1 8)) || (!(win g.workers 1 4))) || (!(win g.cap 1 4))))] (fun w' => Ext w w' ∧ w2.heap.size ≤ w'.heap.size ∧ Blk w' b1 ([o1, .int .i64 g.workers, .int .i64 g.cap])) ?_ ?_
  · refine J_if (gd := 13) rfl rfl (fun hg1 => ?_) (fun hg1 => ?_)
    · refine J_gdno rfl rfl rfl rfl (J_gdno rfl rfl rfl rfl ?_)
      refine J_ungno rfl rfl rfl rfl ?_
      refine J_gdno rfl rfl rfl rfl (J_st (R_pickT rfl rfl) rfl (J_st (R_move rfl) rfl (J_gdno rfl rfl rfl rfl (J_gdno rfl rfl rfl rfl ?_))))
      refine J_ungno rfl rfl rfl rfl ?_
      refine J_gdno rfl rfl rfl rfl (J_st (R_pickT rfl rfl) rfl (J_cutEnd ⟨rfl, rfl, rfl, congrArg (fun b => some (Value.bool b)) (show true = (((!(win ((g.nodes.length : Nat) : Int) 1 8)) || (!(win g.workers 1 4))) || (!(win g.cap 1 4))) by first | (rw [hg1] <;> rfl) | (simp [hg1]; done) | (simp only [nat_nlt] <;> simp)), trivial⟩ ⟨E, (by omega), h1⟩))
    · refine J_gd rfl rfl (R_fieldAddr0 fl35_1 rfl) rfl (J_gd rfl rfl (R_load sc3 rfl (h1.one 1 rfl)) rfl ?_)
      refine J_ung rfl rfl ?_
      refine J_call Try.call18 rfl (s_l01In g.workers 1 4 _ ) rfl (fun _ w4 e3 hv => ?_)
      subst hv
      replace E := E.trans e3; replace h1 := h1.ext e3
      have z3 := e3.size
      refine J_gd rfl rfl (R_not rfl) rfl (J_st (R_pickF rfl rfl) rfl (J_st (R_move rfl) rfl ?_))
      refine J_if (gd := 19) rfl rfl (fun hg2 => ?_) (fun hg2 => ?_)
      · refine J_gdno rfl rfl rfl rfl (J_gdno rfl rfl rfl rfl ?_)
        refine J_ungno rfl rfl rfl rfl ?_
        refine J_gdno rfl rfl rfl rfl (J_st (R_pickT rfl rfl) rfl (J_cutEnd ⟨rfl, rfl, rfl, congrArg (fun b => some (Value.bool b)) (show true = (((!(win ((g.nodes.length : Nat) : Int) 1 8)) || (!(win g.workers 1 4))) || (!(win g.cap 1 4))) by first | (rw [hg1, hg2] <;> rfl) | (simp [hg1, hg2]; done) | (simp only [nat_nlt] <;> simp)), trivial⟩ ⟨E, (by omega), h1⟩))
      · refine J_gd rfl rfl (R_fieldAddr0 fl35_2 rfl) rfl (J_gd rfl rfl (R_load sc3 rfl (h1.one 2 rfl)) rfl ?_)
        refine J_ung rfl rfl ?_
        refine J_call Try.call18 rfl (s_l01In g.cap 1 4 _ ) rfl (fun _ w5 e4 hv => ?_)
        subst hv
        replace E := E.trans e4; replace h1 := h1.ext e4
        have z4 := e4.size
        refine J_gd rfl rfl (R_not rfl) rfl (J_st (R_pickF rfl rfl) rfl (J_cutEnd ⟨rfl, rfl, rfl, congrArg (fun b => some (Value.bool b)) (show (!(win g.cap 1 4)) = (((!(win ((g.nodes.length : Nat) : Int) 1 8)) || (!(win g.workers 1 4))) || (!(win g.cap 1 4))) by first | (rw [hg1, hg2] <;> rfl) | (simp [hg1, hg2]; done) | (simp only [nat_nlt] <;> simp)), trivial⟩ ⟨E, (by omega), h1⟩))
  clear E h1
  rintro w3 ⟨E, z5, h1⟩
  refine J_done ?_
  refine S_cond rfl (fun hc1 => ?_) (fun hc1 => ?_)
  · refine S_seq ?_
    refine S_reg [true] rfl rfl ?_
    refine J_st (R_assign rfl) rfl (J_done ?_)
    refine S_ret (E_done1 rfl rfl E ?_)
    exact graph_h (by assumption)
  · refine S_skip ?_
    refine S_seq ?_
    refine S_seq ?_
    refine S_reg [true] rfl rfl ?_
    refine J_st (R_assign rfl) rfl (J_done ?_)
    refine S_block ?_
    refine S_loop (fun (i : Nat) => [(1, .pointer (some ⟨b1, 0, none⟩)), (2, .bool false), (3, .int .i64 ((i : Nat) : Int))]) (fun (i : Nat) w' => Ext w w' ∧ w3.heap.size ≤ w'.heap.size ∧ Blk w' b1 ([o1, .int .i64 g.workers, .int .i64 g.cap]) ∧ i ≤ g.nodes.length ∧ (∀ j, j < i → nodeAtOk g j (List.getD g.nodes j default) = true)) (fun (i : Nat) => g.nodes.length - i) 0 ⟨rfl, rfl, rfl, trivial⟩ ⟨E, Nat.le_refl _, h1, Nat.zero_le _, (fun j hj => by omega)⟩ ?_
    clear E h1
    rintro i w6 ⟨E, z6, h1, hle, hp⟩
    refine S_seq ?_
    refine S_seq ?_
    refine S_reg [true, true, true, true, true] rfl rfl ?_
    refine J_st (R_move rfl) rfl (J_st (R_fieldAddr0 fl35_0 rfl) rfl (J_st (R_load sc33 rfl (h1.one 0 rfl)) rfl (J_st (R_len Try.underlying33 rfl (hd1.ext E).len) rfl (J_st (R_lss rfl rfl) rfl (J_done ?_)))))
    refine S_cond rfl (fun hc2 => ?_) (fun hc2 => ?_)
    · have hc2n : i < g.nodes.length := by first | (have h := of_decide_eq_true hc2; omega) | (have h := hc2; simp at h; omega)
      refine S_skip ?_
      refine S_seq ?_
      refine S_block ?_
      refine S_seq ?_
      refine S_reg [true, true, true, true, true, false, false] rfl rfl ?_
      refine J_st (R_fieldAddr0 fl35_0 rfl) rfl (J_st (R_load sc33 rfl (h1.one 0 rfl)) rfl (J_st (R_move rfl) rfl ?_))
      have hi1 : i < g.nodes.length := (by first | assumption | omega)
      obtain ⟨_, hr1, ha1⟩ := RdD.get hd1 hi1
      obtain ⟨o2, rfl, hd2⟩ := Node.op hr1
      replace ha1 : At w (sblk o1) (soff o1 + i * 4) [.int .i64 ((g.nodes[i]'hi1).kind), .int .i64 ((g.nodes[i]'hi1).a), .int .i64 ((g.nodes[i]'hi1).b), o2] := ha1
      refine J_st (R_index (i := i) sl33 rfl rfl (hd1.ext E).1 hi1) rfl (J_st (R_loadS st89 rfl (ha1.ext E) rfl) rfl ?_)
      refine J_alloc st89 rfl (fun b2 w7 e5 s2 h2 => ?_)
      have g_b2 : w.heap.size ≤ b2 := by have := E.size; omega
      have y_b2 := h2.lt
      replace E := E.trans e5; replace h1 := h1.ext e5
      have z7 := e5.size
      refine J_storeS' (cs' := [.int .i64 ((g.nodes[i]'hi1).kind), .int .i64 ((g.nodes[i]'hi1).a), .int .i64 ((g.nodes[i]'hi1).b), o2]) st89 rfl rfl rfl (all_cons rfl (all_cons rfl (all_cons rfl (all_cons (RdD.one (hd2.ext E)) rfl)))) h2 (Nat.le_of_ble_eq_true rfl) rfl (fun w8 m1 h2' => ?_)
      replace h2 := h2'
      replace E := E.step m1 (fun g hg => by cases hg; omega); replace h1 := h1.mod m1 (fun g hg => by cases hg; omega)
      have z8 := m1.size
      refine J_done ?_
      refine S_seq ?_
      refine S_seq ?_
      refine S_reg [true, false, true, true, true, true, true, true, true, true, true] rfl rfl ?_
      refine J_st (R_loadS st89 rfl h2.at rfl) rfl ?_
      refine J_call Try.call37 rfl (s_NodeOk [.int .i64 ((g.nodes[i]'hi1).kind), .int .i64 ((g.nodes[i]'hi1).a), .int .i64 ((g.nodes[i]'hi1).b), o2] (g.nodes[i]'hi1) _ (Node.mkR (g.nodes[i]'hi1) (RdD.any (hd2.ext E)))) rfl (fun _ w9 e6 hv => ?_)
      subst hv
      replace E := E.trans e6; replace h1 := h1.ext e6; replace h2 := h2.ext e6
      have z9 := e6.size
      refine J_st (R_not rfl) rfl (J_st (R_move rfl) rfl ?_)
      refine J_cut 7 [(1, .pointer (some ⟨b1, 0, none⟩)), (2, .bool false), (3, .int .i64 ((i : Nat) : Int)), (4, .pointer (some ⟨b2, 0, none⟩)), (25, .int .i64 ((i : Nat) : Int)), (26, .pointer (some ⟨b1, 0, none⟩)), (27, o1), (28, .int .i64 ((g.nodes.length : Nat) : Int)), (29, .bool (decide (((i : Nat) : Int) < ((g.nodes.length : Nat) : Int)))), (32, .pointer (some ⟨b1, 0, none⟩)), (33, o1), (34, .int .i64 ((i : Nat) : Int)), (35, .pointer (some ⟨sblk o1, soff o1 + i * 4, none⟩)), (36, .agg [.int .i64 ((g.nodes[i]'hi1).kind), .int .i64 ((g.nodes[i]'hi1).a), .int .i64 ((g.nodes[i]'hi1).b), o2].toArray), (47, .bool ((!(nodeOk (g.nodes[i]'hi1))) || (!((((g.nodes[i]'hi1).kind) == 1) == (((i : Nat) : Int) == 0)))))] (fun w' => w9 = w') ?_ ?_
      · refine J_if (gd := 40) rfl rfl (fun hg3 => ?_) (fun hg3 => ?_)
        · refine J_gdno rfl rfl rfl rfl (J_gdno rfl rfl rfl rfl (J_gdno rfl rfl rfl rfl (J_gdno rfl rfl rfl rfl (J_gdno rfl rfl rfl rfl (J_gdno rfl rfl rfl rfl (J_st (R_pickT rfl rfl) rfl (J_cutEnd ⟨rfl, rfl, rfl, rfl, rfl, rfl, rfl, rfl, rfl, rfl, rfl, rfl, rfl, rfl, congrArg (fun b => some (Value.bool b)) (show true = ((!(nodeOk (g.nodes[i]'hi1))) || (!((((g.nodes[i]'hi1).kind) == 1) == (((i : Nat) : Int) == 0)))) by first | (rw [hg3] <;> rfl) | (simp [hg3]; done) | (simp only [nat_nlt] <;> simp)), trivial⟩ rfl)))))))
        · refine J_gd rfl rfl (R_fieldAddr0 fl89_0 rfl) rfl (J_gd rfl rfl (R_load sc3 rfl (h2.one 0 rfl)) rfl (J_gd rfl rfl (R_eql rfl rfl) rfl (J_gd rfl rfl (R_move rfl) rfl (J_gd rfl rfl (R_eql rfl rfl) rfl (J_gd rfl rfl (R_neqB (Try.underlying4) rfl rfl) rfl (J_st (R_pickF rfl rfl) rfl (J_cutEnd ⟨rfl, rfl, rfl, rfl, rfl, rfl, rfl, rfl, rfl, rfl, rfl, rfl, rfl, rfl, congrArg (fun b => some (Value.bool b)) (show (!((((g.nodes[i]'hi1).kind) == 1) == (((i : Nat) : Int) == 0))) = ((!(nodeOk (g.nodes[i]'hi1))) || (!((((g.nodes[i]'hi1).kind) == 1) == (((i : Nat) : Int) == 0)))) by first | (rw [hg3] <;> rfl) | (simp [hg3]; done) | (simp only [nat_nlt] <;> simp)), trivial⟩ rfl)))))))
      rintro _ rfl
      refine J_done ?_
      refine S_cond rfl (fun hc3 => ?_) (fun hc3 => ?_)
      · refine S_seq ?_
        refine S_reg [true] rfl rfl ?_
        refine J_st (R_assign rfl) rfl (J_done ?_)
        refine S_ret (E_inB_ret (E_lp_ret (E_inB_ret (E_done1 rfl rfl E ?_))))
        exact graph_a (by assumption)
      · refine S_skip ?_
        refine S_seq ?_
        refine S_reg [true] rfl rfl ?_
        refine J_st (R_assign rfl) rfl (J_done ?_)
        refine S_block ?_
        refine S_loop (fun (k : Nat) => [(1, .pointer (some ⟨b1, 0, none⟩)), (2, .bool false), (3, .int .i64 ((i : Nat) : Int)), (4, .pointer (some ⟨b2, 0, none⟩)), (5, .int .i64 ((k : Nat) : Int))]) (fun (k : Nat) w' => Ext w w' ∧ w9.heap.size ≤ w'.heap.size ∧ Blk w' b1 ([o1, .int .i64 g.workers, .int .i64 g.cap]) ∧ Blk w' b2 [.int .i64 ((g.nodes[i]'hi1).kind), .int .i64 ((g.nodes[i]'hi1).a), .int .i64 ((g.nodes[i]'hi1).b), o2] ∧ k ≤ (g.nodes[i]'hi1).outs.length ∧ ((g.nodes[i]'hi1).outs.take k).all (fun to => !edgeBad g i (g.nodes[i]'hi1) to) = true) (fun (k : Nat) => (g.nodes[i]'hi1).outs.length - k) 0 ⟨rfl, rfl, rfl, rfl, rfl, trivial⟩ ⟨E, Nat.le_refl _, h1, h2, Nat.zero_le _, rfl⟩ ?_
        clear E h1 h2
        rintro k w11 ⟨E, z10, h1, h2, hk, hI⟩
        refine S_seq ?_
        refine S_seq ?_
        refine S_reg [true, true, true, true, true] rfl rfl ?_
        refine J_st (R_move rfl) rfl (J_st (R_fieldAddr0 fl89_3 rfl) rfl (J_st (R_load sc54 rfl (h2.one 3 rfl)) rfl (J_st (R_len Try.underlying54 rfl (hd2.ext E).len) rfl (J_st (R_lss rfl rfl) rfl (J_done ?_)))))
        refine S_cond rfl (fun hc4 => ?_) (fun hc4 => ?_)
        · have hc4n : k < ((g.nodes[i]'hi1).outs).length := by first | (have h := of_decide_eq_true hc4; omega) | (have h := hc4; simp at h; omega)
          refine S_skip ?_
          refine S_seq ?_
          refine S_block ?_
          refine S_seq ?_
          refine S_reg [true, true, true, true, true, true] rfl rfl ?_
          refine J_st (R_fieldAddr0 fl89_3 rfl) rfl (J_st (R_load sc54 rfl (h2.one 3 rfl)) rfl (J_st (R_move rfl) rfl ?_))
          have hi2 : k < ((g.nodes[i]'hi1).outs).length := (by first | assumption | omega)
          refine J_st (R_index (i := k) sl54 rfl rfl (hd2.rd.ext E) hi2) rfl (J_st (R_load sc3 rfl (((hd2.rd.ext E).get hi2).one 0 rfl)) rfl (J_st (R_assign rfl) rfl (J_done ?_)))
          refine S_seq ?_
          refine S_seq ?_
          refine S_reg [true, true, true, true, true, true, true, true, true, true, true, true, true, true, true] rfl rfl ?_
          refine J_st (R_move rfl) rfl (J_st (R_fieldAddr0 fl35_0 rfl) rfl (J_st (R_load sc33 rfl (h1.one 0 rfl)) rfl (J_st (R_len Try.underlying33 rfl (hd1.ext E).len) rfl (J_st (R_geq rfl rfl) rfl (J_st (R_move rfl) rfl ?_)))))
          refine J_cut 9 [(1, .pointer (some ⟨b1, 0, none⟩)), (2, .bool false), (3, .int .i64 ((i : Nat) : Int)), (4, .pointer (some ⟨b2, 0, none⟩)), (5, .int .i64 ((k : Nat) : Int)), (6, .int .i64 (((g.nodes[i]'hi1).outs)[k]'hi2)), (48, .int .i64 ((k : Nat) : Int)), (49, .pointer (some ⟨b2, 3, none⟩)), (50, o2), (51, .int .i64 ((((g.nodes[i]'hi1).outs).length : Nat) : Int)), (52, .bool (decide (((k : Nat) : Int) < ((((g.nodes[i]'hi1).outs).length : Nat) : Int)))), (55, .pointer (some ⟨b2, 3, none⟩)), (56, o2), (57, .int .i64 ((k : Nat) : Int)), (58, .pointer (some ⟨sblk o2, soff o2 + k * 1, none⟩)), (59, .int .i64 (((g.nodes[i]'hi1).outs)[k]'hi2)), (74, .bool ((decide (((g.nodes.length : Nat) : Int) ≤ (((g.nodes[i]'hi1).outs)[k]'hi2))) || ((((g.nodes[i]'hi1).kind) != 7) && (decide ((((g.nodes[i]'hi1).outs)[k]'hi2) ≤ ((i : Nat) : Int))))))] (fun w' => w11 = w') ?_ ?_
          · refine J_if (gd := 65) rfl rfl (fun hg4 => ?_) (fun hg4 => ?_)
            · refine J_gdno rfl rfl rfl rfl (J_gdno rfl rfl rfl rfl (J_gdno rfl rfl rfl rfl (J_gdno rfl rfl rfl rfl (J_gdx rfl rfl rfl (J_gdx rfl rfl rfl (J_gdx rfl rfl rfl (J_gdno rfl rfl rfl rfl (J_st (R_pickT rfl rfl) rfl (J_cutEnd ⟨rfl, rfl, rfl, rfl, rfl, rfl, rfl, rfl, rfl, rfl, rfl, rfl, rfl, rfl, rfl, rfl, congrArg (fun b => some (Value.bool b)) (show true = ((decide (((g.nodes.length : Nat) : Int) ≤ (((g.nodes[i]'hi1).outs)[k]'hi2))) || ((((g.nodes[i]'hi1).kind) != 7) && (decide ((((g.nodes[i]'hi1).outs)[k]'hi2) ≤ ((i : Nat) : Int))))) by first | (rw [hg4] <;> rfl) | (simp [hg4]; done) | (simp only [nat_nlt] <;> simp)), trivial⟩ rfl)))))))))
            · have hto := graph_to (h1 := hi1) (h2 := hi2) (by assumption)
              have htl := Int.not_le.1 (of_decide_eq_false hg4)
              refine J_gd rfl rfl (R_fieldAddr0 fl89_0 rfl) rfl (J_gd rfl rfl (R_load sc3 rfl (h2.one 0 rfl)) rfl (J_gd rfl rfl (R_neq rfl rfl) rfl (J_gd rfl rfl (R_move rfl) rfl ?_)))
              refine J_if (gd := 69) rfl rfl (fun hg5 => ?_) (fun hg5 => ?_)
              · refine J_gd rfl rfl (R_move rfl) rfl (J_gd rfl rfl (R_move rfl) rfl (J_gd rfl rfl (R_leq rfl rfl) rfl (J_gd rfl rfl (R_pickT rfl rfl) rfl (J_st (R_pickF rfl rfl) rfl (J_cutEnd ⟨rfl, rfl, rfl, rfl, rfl, rfl, rfl, rfl, rfl, rfl, rfl, rfl, rfl, rfl, rfl, rfl, congrArg (fun b => some (Value.bool b)) (show (decide ((((g.nodes[i]'hi1).outs)[k]'hi2) ≤ ((i : Nat) : Int))) = ((decide (((g.nodes.length : Nat) : Int) ≤ (((g.nodes[i]'hi1).outs)[k]'hi2))) || ((((g.nodes[i]'hi1).kind) != 7) && (decide ((((g.nodes[i]'hi1).outs)[k]'hi2) ≤ ((i : Nat) : Int))))) by first | (rw [hg4, hg5] <;> rfl) | (simp [hg4, hg5]; done) | (simp only [nat_nlt] <;> simp)), trivial⟩ rfl)))))
              · refine J_gdno rfl rfl rfl rfl (J_gdno rfl rfl rfl rfl (J_gdno rfl rfl rfl rfl (J_gd rfl rfl (R_pickF rfl rfl) rfl (J_st (R_pickF rfl rfl) rfl (J_cutEnd ⟨rfl, rfl, rfl, rfl, rfl, rfl, rfl, rfl, rfl, rfl, rfl, rfl, rfl, rfl, rfl, rfl, congrArg (fun b => some (Value.bool b)) (show false = ((decide (((g.nodes.length : Nat) : Int) ≤ (((g.nodes[i]'hi1).outs)[k]'hi2))) || ((((g.nodes[i]'hi1).kind) != 7) && (decide ((((g.nodes[i]'hi1).outs)[k]'hi2) ≤ ((i : Nat) : Int))))) by first | (rw [hg4, hg5] <;> rfl) | (simp [hg4, hg5]; done) | (simp only [nat_nlt] <;> simp)), trivial⟩ rfl)))))
          rintro _ rfl
          refine J_done ?_
          refine S_cond rfl (fun hc5 => ?_) (fun hc5 => ?_)
          · refine S_seq ?_
            refine S_reg [true] rfl rfl ?_
            refine J_st (R_assign rfl) rfl (J_done ?_)
            refine S_ret (E_inB_ret (E_lp_ret (E_inB_ret (E_inB_ret (E_lp_ret (E_inB_ret (E_done1 rfl rfl E ?_)))))))
            exact graph_e (edge_s1 (by assumption))
          · have hto := graph_to (h1 := hi1) (h2 := hi2) (by assumption)
            have htl := edge_lt hc5
            refine S_skip ?_
            refine S_seq ?_
            refine S_reg [true, true, true, true, true, true, true] rfl rfl ?_
            refine J_st (R_fieldAddr0 fl35_0 rfl) rfl (J_st (R_load sc33 rfl (h1.one 0 rfl)) rfl (J_st (R_move rfl) rfl ?_))
            have hi3 : (Int.toNat (((g.nodes[i]'hi1).outs)[k]'hi2)) < g.nodes.length := (by first | assumption | omega)
            obtain ⟨_, hr2, ha2⟩ := RdD.get hd1 hi3
            obtain ⟨o3, rfl, hd3⟩ := Node.op hr2
            replace ha2 : At w (sblk o1) (soff o1 + (Int.toNat (((g.nodes[i]'hi1).outs)[k]'hi2)) * 4) [.int .i64 ((g.nodes[(Int.toNat (((g.nodes[i]'hi1).outs)[k]'hi2))]'hi3).kind), .int .i64 ((g.nodes[(Int.toNat (((g.nodes[i]'hi1).outs)[k]'hi2))]'hi3).a), .int .i64 ((g.nodes[(Int.toNat (((g.nodes[i]'hi1).outs)[k]'hi2))]'hi3).b), o3] := ha2
            refine J_st (R_indexZ (i := (Int.toNat (((g.nodes[i]'hi1).outs)[k]'hi2))) sl33 rfl rfl (hd1.ext E).1 (by omega) hi3) rfl (J_st (R_fieldAddr fl89_0 rfl) rfl (J_st (R_load sc3 rfl ((ha2.ext E).one 0 rfl)) rfl (J_st (R_assign rfl) rfl (J_done ?_))))
            refine S_seq ?_
            refine S_reg [true, true, true, true, true, true, true, true, true, true, true, true, true, true, true, true] rfl rfl ?_
            refine J_st (R_fieldAddr0 fl89_0 rfl) rfl (J_st (R_load sc3 rfl (h2.one 0 rfl)) rfl (J_st (R_eql rfl rfl) rfl (J_st (R_move rfl) rfl ?_)))
            refine J_cut 12 [(1, .pointer (some ⟨b1, 0, none⟩)), (2, .bool false), (3, .int .i64 ((i : Nat) : Int)), (4, .pointer (some ⟨b2, 0, none⟩)), (5, .int .i64 ((k : Nat) : Int)), (6, .int .i64 (((g.nodes[i]'hi1).outs)[k]'hi2)), (7, .int .i64 ((g.nodes[(Int.toNat (((g.nodes[i]'hi1).outs)[k]'hi2))]'hi3).kind)), (48, .int .i64 ((k : Nat) : Int)), (49, .pointer (some ⟨b2, 3, none⟩)), (50, o2), (51, .int .i64 ((((g.nodes[i]'hi1).outs).length : Nat) : Int)), (52, .bool (decide (((k : Nat) : Int) < ((((g.nodes[i]'hi1).outs).length : Nat) : Int)))), (55, .pointer (some ⟨b2, 3, none⟩)), (56, o2), (57, .int .i64 ((k : Nat) : Int)), (58, .pointer (some ⟨sblk o2, soff o2 + k * 1, none⟩)), (59, .int .i64 (((g.nodes[i]'hi1).outs)[k]'hi2)), (74, .bool ((decide (((g.nodes.length : Nat) : Int) ≤ (((g.nodes[i]'hi1).outs)[k]'hi2))) || ((((g.nodes[i]'hi1).kind) != 7) && (decide ((((g.nodes[i]'hi1).outs)[k]'hi2) ≤ ((i : Nat) : Int)))))), (75, .pointer (some ⟨b1, 0, none⟩)), (76, o1), (77, .int .i64 (((g.nodes[i]'hi1).outs)[k]'hi2)), (78, .pointer (some ⟨sblk o1, soff o1 + (Int.toNat (((g.nodes[i]'hi1).outs)[k]'hi2)) * 4, none⟩)), (79, .pointer (some ⟨(sblk o1), soff o1 + (Int.toNat (((g.nodes[i]'hi1).outs)[k]'hi2)) * 4 + 0, none⟩)), (80, .int .i64 ((g.nodes[(Int.toNat (((g.nodes[i]'hi1).outs)[k]'hi2))]'hi3).kind)), (96, .bool ((((g.nodes[i]'hi1).kind) == 7) && ((decide (((i : Nat) : Int) < (((g.nodes[i]'hi1).outs)[k]'hi2))) || ((((g.nodes[(Int.toNat (((g.nodes[i]'hi1).outs)[k]'hi2))]'hi3).kind) != 5) && (((g.nodes[(Int.toNat (((g.nodes[i]'hi1).outs)[k]'hi2))]'hi3).kind) != 6)))))] (fun w' => w11 = w') ?_ ?_
            · refine J_if (gd := 84) rfl rfl (fun hg6 => ?_) (fun hg6 => ?_)
              · refine J_gd rfl rfl (R_move rfl) rfl (J_gd rfl rfl (R_move rfl) rfl (J_gd rfl rfl (R_gtr rfl rfl) rfl (J_gd rfl rfl (R_move rfl) rfl ?_)))
                refine J_if (gd := 88) rfl rfl (fun hg7 => ?_) (fun hg7 => ?_)
                · refine J_gdno rfl rfl rfl rfl (J_gdno rfl rfl rfl rfl (J_gdno rfl rfl rfl rfl (J_gdx rfl rfl rfl (J_gdx rfl rfl rfl (J_gdno rfl rfl rfl rfl (J_gd rfl rfl (R_pickT rfl rfl) rfl (J_st (R_pickT rfl rfl) rfl (J_cutEnd ⟨rfl, rfl, rfl, rfl, rfl, rfl, rfl, rfl, rfl, rfl, rfl, rfl, rfl, rfl, rfl, rfl, rfl, rfl, rfl, rfl, rfl, rfl, rfl, rfl, congrArg (fun b => some (Value.bool b)) (show true = ((((g.nodes[i]'hi1).kind) == 7) && ((decide (((i : Nat) : Int) < (((g.nodes[i]'hi1).outs)[k]'hi2))) || ((((g.nodes[(Int.toNat (((g.nodes[i]'hi1).outs)[k]'hi2))]'hi3).kind) != 5) && (((g.nodes[(Int.toNat (((g.nodes[i]'hi1).outs)[k]'hi2))]'hi3).kind) != 6)))) by first | (rw [hg6, hg7] <;> rfl) | (simp [hg6, hg7]; done) | (simp only [nat_nlt] <;> simp)), trivial⟩ rfl))))))))
                · refine J_gd rfl rfl (R_move rfl) rfl (J_gd rfl rfl (R_neq rfl rfl) rfl (J_gd rfl rfl (R_move rfl) rfl ?_))
                  refine J_if (gd := 91) rfl rfl (fun hg8 => ?_) (fun hg8 => ?_)
                  · refine J_gd rfl rfl (R_move rfl) rfl (J_gd rfl rfl (R_neq rfl rfl) rfl (J_gd rfl rfl (R_pickT rfl rfl) rfl (J_gd rfl rfl (R_pickF rfl rfl) rfl (J_st (R_pickT rfl rfl) rfl (J_cutEnd ⟨rfl, rfl, rfl, rfl, rfl, rfl, rfl, rfl, rfl, rfl, rfl, rfl, rfl, rfl, rfl, rfl, rfl, rfl, rfl, rfl, rfl, rfl, rfl, rfl, congrArg (fun b => some (Value.bool b)) (show (((g.nodes[(Int.toNat (((g.nodes[i]'hi1).outs)[k]'hi2))]'hi3).kind) != 6) = ((((g.nodes[i]'hi1).kind) == 7) && ((decide (((i : Nat) : Int) < (((g.nodes[i]'hi1).outs)[k]'hi2))) || ((((g.nodes[(Int.toNat (((g.nodes[i]'hi1).outs)[k]'hi2))]'hi3).kind) != 5) && (((g.nodes[(Int.toNat (((g.nodes[i]'hi1).outs)[k]'hi2))]'hi3).kind) != 6)))) by first | (rw [hg6, hg7, hg8] <;> rfl) | (simp [hg6, hg7, hg8]; done) | (simp only [nat_nlt] <;> simp)), trivial⟩ rfl)))))
                  · refine J_gdno rfl rfl rfl rfl (J_gdno rfl rfl rfl rfl (J_gd rfl rfl (R_pickF rfl rfl) rfl (J_gd rfl rfl (R_pickF rfl rfl) rfl (J_st (R_pickT rfl rfl) rfl (J_cutEnd ⟨rfl, rfl, rfl, rfl, rfl, rfl, rfl, rfl, rfl, rfl, rfl, rfl, rfl, rfl, rfl, rfl, rfl, rfl, rfl, rfl, rfl, rfl, rfl, rfl, congrArg (fun b => some (Value.bool b)) (show false = ((((g.nodes[i]'hi1).kind) == 7) && ((decide (((i : Nat) : Int) < (((g.nodes[i]'hi1).outs)[k]'hi2))) || ((((g.nodes[(Int.toNat (((g.nodes[i]'hi1).outs)[k]'hi2))]'hi3).kind) != 5) && (((g.nodes[(Int.toNat (((g.nodes[i]'hi1).outs)[k]'hi2))]'hi3).kind) != 6)))) by first | (rw [hg6, hg7, hg8] <;> rfl) | (simp [hg6, hg7, hg8]; done) | (simp only [nat_nlt] <;> simp)), trivial⟩ rfl)))))
              · refine J_gdno rfl rfl rfl rfl (J_gdno rfl rfl rfl rfl (J_gdno rfl rfl rfl rfl (J_gdno rfl rfl rfl rfl (J_gdx rfl rfl rfl (J_gdx rfl rfl rfl (J_gdx rfl rfl rfl (J_gdx rfl rfl rfl (J_gdx rfl rfl rfl (J_gdx rfl rfl rfl (J_gdno rfl rfl rfl rfl (J_st (R_pickF rfl rfl) rfl (J_cutEnd ⟨rfl, rfl, rfl, rfl, rfl, rfl, rfl, rfl, rfl, rfl, rfl, rfl, rfl, rfl, rfl, rfl, rfl, rfl, rfl, rfl, rfl, rfl, rfl, rfl, congrArg (fun b => some (Value.bool b)) (show false = ((((g.nodes[i]'hi1).kind) == 7) && ((decide (((i : Nat) : Int) < (((g.nodes[i]'hi1).outs)[k]'hi2))) || ((((g.nodes[(Int.toNat (((g.nodes[i]'hi1).outs)[k]'hi2))]'hi3).kind) != 5) && (((g.nodes[(Int.toNat (((g.nodes[i]'hi1).outs)[k]'hi2))]'hi3).kind) != 6)))) by first | (rw [hg6] <;> rfl) | (simp [hg6]; done) | (simp only [nat_nlt] <;> simp)), trivial⟩ rfl))))))))))))
            rintro _ rfl
            refine J_done ?_
            refine S_cond rfl (fun hc6 => ?_) (fun hc6 => ?_)
            · refine S_seq ?_
              refine S_reg [true] rfl rfl ?_
              refine J_st (R_assign rfl) rfl (J_done ?_)
              refine S_ret (E_inB_ret (E_lp_ret (E_inB_ret (E_inB_ret (E_lp_ret (E_inB_ret (E_done1 rfl rfl E ?_)))))))
              exact graph_e (edge_s2 (congrArg Node.kind (getD_at _)).symm (by assumption))
            · refine S_skip ?_
              refine S_nil (E_inB ?_)
              refine S_reg [true, true, true] rfl rfl ?_
              refine J_st (R_move rfl) rfl (J_st (R_add rfl rfl (add_one hc4n (hd2.ext E).1.1)) rfl (J_st (R_assign rfl) rfl (J_done ?_)))
              refine S_nil (E_again (k + 1) (by omega) ⟨rfl, rfl, rfl, rfl, rfl, trivial⟩ ⟨E, (by omega), h1, h2, (by omega), all_step hI (by assumption) (edge_sn (congrArg Node.kind (getD_at _)).symm (by assumption) (by assumption))⟩)
        · have hc4n : ¬ k < ((g.nodes[i]'hi1).outs).length := by first | (have h := of_decide_eq_false hc4; omega) | (have h := hc4; simp at h; omega)
          refine S_exit (E_lp_exit (E_inB_exit ?_))
          refine S_nil (E_inB ?_)
          refine S_reg [true, true, true] rfl rfl ?_
          refine J_st (R_move rfl) rfl (J_st (R_add rfl rfl (add_one hc2n (hd1.ext E).1.1)) rfl (J_st (R_assign rfl) rfl (J_done ?_)))
          refine S_nil (E_again (i + 1) (by omega) ⟨rfl, rfl, rfl, trivial⟩ ⟨E, (by omega), h1, (by omega), graph_s (h1 := hi1) (by assumption) hI (by omega) hp⟩)
    · have hc2n : ¬ i < g.nodes.length := by first | (have h := of_decide_eq_false hc2; omega) | (have h := hc2; simp at h; omega)
      refine S_exit (E_lp_exit (E_inB_exit ?_))
      refine S_seq ?_
      refine S_reg [true] rfl rfl ?_
      refine J_st (R_assign rfl) rfl (J_done ?_)
      refine S_ret (E_done1 rfl rfl E ?_)
      exact graph_y (by assumption) hp (by omega)

set_option maxRecDepth 20000 in
theorem c_toStamp (x : Stamp) (w : World)  : Ct Try.prog 90 [.agg (Enc.enc x).toArray] w (fun v _ => v = .agg (Enc.enc x).toArray) := by
  refine ct_of Try.func90 rfl Try.ntmps90 rfl ?_
  refine S_sub [(0, .agg (Enc.enc x).toArray)] ⟨rfl, trivial⟩ ?_
  have E : Ext w w := Ext.refl w
  refine S_seq ?_
  refine S_reg [false, false] rfl rfl ?_
  refine J_box rfl rfl (fun b1 w1 e1 s1 h1 => ?_)
  have g_b1 : w.heap.size ≤ b1 := by have := E.size; omega
  have y_b1 := h1.lt
  replace E := E.trans e1
  have z1 := e1.size
  refine J_alloc st93 rfl (fun b2 w2 e2 s2 h2 => ?_)
  have g_b2 : w.heap.size ≤ b2 := by have := E.size; omega
  have y_b2 := h2.lt
  replace E := E.trans e2; replace h1 := h1.ext e2
  have z2 := e2.size
  refine J_done ?_
  refine S_seq ?_
  refine S_reg [false] rfl rfl ?_
  refine J_alloc st93 rfl (fun b3 w3 e3 s3 h3 => ?_)
  have g_b3 : w.heap.size ≤ b3 := by have := E.size; omega
  have y_b3 := h3.lt
  replace E := E.trans e3; replace h1 := h1.ext e3; replace h2 := h2.ext e3
  have z3 := e3.size
  refine J_done ?_
  refine S_seq ?_
  refine S_reg [true, true, true, false] rfl rfl ?_
  refine J_st (R_fieldAddr0 fl142_0 rfl) rfl (J_st (R_load sc3 rfl (h1.one 0 rfl)) rfl (J_st (R_fieldAddr0 fl93_0 rfl) rfl ?_))
  refine J_store' (cs' := [.int .i64 x.epoch, .int .i64 0]) sc3 rfl rfl rfl h3 (Nat.le_of_ble_eq_true rfl) rfl (fun w4 m1 h3' => ?_)
  replace h3 := h3'
  replace E := E.step m1 (fun g hg => by cases hg; omega); replace h1 := h1.mod m1 (fun g hg => by cases hg; omega); replace h2 := h2.mod m1 (fun g hg => by cases hg; omega)
  have z4 := m1.size
  refine J_done ?_
  refine S_seq ?_
  refine S_reg [true, true, true, false] rfl rfl ?_
  refine J_st (R_fieldAddr0 fl142_1 rfl) rfl (J_st (R_load sc3 rfl (h1.one 1 rfl)) rfl (J_st (R_fieldAddr0 fl93_1 rfl) rfl ?_))
  refine J_store' (cs' := [.int .i64 x.epoch, .int .i64 x.turn]) sc3 rfl rfl rfl h3 (Nat.le_of_ble_eq_true rfl) rfl (fun w5 m2 h3' => ?_)
  replace h3 := h3'
  replace E := E.step m2 (fun g hg => by cases hg; omega); replace h1 := h1.mod m2 (fun g hg => by cases hg; omega); replace h2 := h2.mod m2 (fun g hg => by cases hg; omega)
  have z5 := m2.size
  refine J_done ?_
  refine S_seq ?_
  refine S_reg [true, false] rfl rfl ?_
  refine J_st (R_loadS st93 rfl h3.at rfl) rfl ?_
  refine J_storeS' (cs' := [.int .i64 x.epoch, .int .i64 x.turn]) st93 rfl rfl rfl rfl h2 (Nat.le_of_ble_eq_true rfl) rfl (fun w6 m3 h2' => ?_)
  replace h2 := h2'
  replace E := E.step m3 (fun g hg => by cases hg; omega); replace h1 := h1.mod m3 (fun g hg => by cases hg; omega); replace h3 := h3.mod m3 (fun g hg => by cases hg; omega)
  have z6 := m3.size
  refine J_done ?_
  refine S_ret (E_doneC rfl rfl (run_loadVar_st st93 h2.at rfl) E ?_)
  rfl

set_option maxRecDepth 20000 in
theorem c_toRecord (x : Record) (w : World)  : Ct Try.prog 82 [.agg (Enc.enc x).toArray] w (fun v _ => v = .agg (Enc.enc x).toArray) := by
  refine ct_of Try.func82 rfl Try.ntmps82 rfl ?_
  refine S_sub [(0, .agg (Enc.enc x).toArray)] ⟨rfl, trivial⟩ ?_
  have E : Ext w w := Ext.refl w
  refine S_seq ?_
  refine S_reg [false, false] rfl rfl ?_
  refine J_box rfl rfl (fun b1 w1 e1 s1 h1 => ?_)
  have g_b1 : w.heap.size ≤ b1 := by have := E.size; omega
  have y_b1 := h1.lt
  replace E := E.trans e1
  have z1 := e1.size
  refine J_alloc st95 rfl (fun b2 w2 e2 s2 h2 => ?_)
  have g_b2 : w.heap.size ≤ b2 := by have := E.size; omega
  have y_b2 := h2.lt
  replace E := E.trans e2; replace h1 := h1.ext e2
  have z2 := e2.size
  refine J_done ?_
  refine S_seq ?_
  refine S_reg [false] rfl rfl ?_
  refine J_alloc st95 rfl (fun b3 w3 e3 s3 h3 => ?_)
  have g_b3 : w.heap.size ≤ b3 := by have := E.size; omega
  have y_b3 := h3.lt
  replace E := E.trans e3; replace h1 := h1.ext e3; replace h2 := h2.ext e3
  have z3 := e3.size
  refine J_done ?_
  refine S_seq ?_
  refine S_reg [true, true, true, false] rfl rfl ?_
  refine J_st (R_fieldAddr0 fl144_0 rfl) rfl (J_st (R_load sc3 rfl (h1.one 0 rfl)) rfl (J_st (R_fieldAddr0 fl95_0 rfl) rfl ?_))
  refine J_store' (cs' := [.int .i64 x.op, .int .i64 0, .int .i64 0, .int .i64 0, .int .i64 0]) sc3 rfl rfl rfl h3 (Nat.le_of_ble_eq_true rfl) rfl (fun w4 m1 h3' => ?_)
  replace h3 := h3'
  replace E := E.step m1 (fun g hg => by cases hg; omega); replace h1 := h1.mod m1 (fun g hg => by cases hg; omega); replace h2 := h2.mod m1 (fun g hg => by cases hg; omega)
  have z4 := m1.size
  refine J_done ?_
  refine S_seq ?_
  refine S_reg [true, true, false, true, false] rfl rfl ?_
  refine J_st (R_fieldAddr0 fl144_1 rfl) rfl (J_st (R_loadS st142 rfl (h1.part 1 [.int .i64 x.stamp.epoch, .int .i64 x.stamp.turn] rfl) rfl) rfl ?_)
  refine J_call Try.call90 rfl (c_toStamp x.stamp _ ) rfl (fun _ w5 e4 hv => ?_)
  subst hv
  replace E := E.trans e4; replace h1 := h1.ext e4; replace h2 := h2.ext e4; replace h3 := h3.ext e4
  have z5 := e4.size
  refine J_st (R_fieldAddr0 fl95_1 rfl) rfl ?_
  refine J_storeS' (cs' := [.int .i64 x.op, .int .i64 x.stamp.epoch, .int .i64 x.stamp.turn, .int .i64 0, .int .i64 0]) st93 rfl rfl rfl rfl h3 (Nat.le_of_ble_eq_true rfl) rfl (fun w6 m2 h3' => ?_)
  replace h3 := h3'
  replace E := E.step m2 (fun g hg => by cases hg; omega); replace h1 := h1.mod m2 (fun g hg => by cases hg; omega); replace h2 := h2.mod m2 (fun g hg => by cases hg; omega)
  have z6 := m2.size
  refine J_done ?_
  refine S_seq ?_
  refine S_reg [true, true, true, false] rfl rfl ?_
  refine J_st (R_fieldAddr0 fl144_2 rfl) rfl (J_st (R_load sc3 rfl (h1.one 3 rfl)) rfl (J_st (R_fieldAddr0 fl95_2 rfl) rfl ?_))
  refine J_store' (cs' := [.int .i64 x.op, .int .i64 x.stamp.epoch, .int .i64 x.stamp.turn, .int .i64 x.key, .int .i64 0]) sc3 rfl rfl rfl h3 (Nat.le_of_ble_eq_true rfl) rfl (fun w7 m3 h3' => ?_)
  replace h3 := h3'
  replace E := E.step m3 (fun g hg => by cases hg; omega); replace h1 := h1.mod m3 (fun g hg => by cases hg; omega); replace h2 := h2.mod m3 (fun g hg => by cases hg; omega)
  have z7 := m3.size
  refine J_done ?_
  refine S_seq ?_
  refine S_reg [true, true, true, false] rfl rfl ?_
  refine J_st (R_fieldAddr0 fl144_3 rfl) rfl (J_st (R_load sc3 rfl (h1.one 4 rfl)) rfl (J_st (R_fieldAddr0 fl95_3 rfl) rfl ?_))
  refine J_store' (cs' := [.int .i64 x.op, .int .i64 x.stamp.epoch, .int .i64 x.stamp.turn, .int .i64 x.key, .int .i64 x.val]) sc3 rfl rfl rfl h3 (Nat.le_of_ble_eq_true rfl) rfl (fun w8 m4 h3' => ?_)
  replace h3 := h3'
  replace E := E.step m4 (fun g hg => by cases hg; omega); replace h1 := h1.mod m4 (fun g hg => by cases hg; omega); replace h2 := h2.mod m4 (fun g hg => by cases hg; omega)
  have z8 := m4.size
  refine J_done ?_
  refine S_seq ?_
  refine S_reg [true, false] rfl rfl ?_
  refine J_st (R_loadS st95 rfl h3.at rfl) rfl ?_
  refine J_storeS' (cs' := [.int .i64 x.op, .int .i64 x.stamp.epoch, .int .i64 x.stamp.turn, .int .i64 x.key, .int .i64 x.val]) st95 rfl rfl rfl rfl h2 (Nat.le_of_ble_eq_true rfl) rfl (fun w9 m5 h2' => ?_)
  replace h2 := h2'
  replace E := E.step m5 (fun g hg => by cases hg; omega); replace h1 := h1.mod m5 (fun g hg => by cases hg; omega); replace h3 := h3.mod m5 (fun g hg => by cases hg; omega)
  have z9 := m5.size
  refine J_done ?_
  refine S_ret (E_doneC rfl rfl (run_loadVar_st st95 h2.at rfl) E ?_)
  rfl

set_option maxRecDepth 20000 in
theorem c_eqStamp (x : Stamp) (y : Stamp) (w : World)  : Ct Try.prog 92 [.agg (Enc.enc x).toArray, .agg (Enc.enc y).toArray] w (fun v _ => v = .bool (decide (x = y))) := by
  refine ct_of Try.func92 rfl Try.ntmps92 rfl ?_
  refine S_sub [(0, .agg (Enc.enc x).toArray), (1, .agg (Enc.enc y).toArray)] ⟨rfl, rfl, trivial⟩ ?_
  have E : Ext w w := Ext.refl w
  refine S_seq ?_
  refine S_reg [false, false, true] rfl rfl ?_
  refine J_box rfl rfl (fun b1 w1 e1 s1 h1 => ?_)
  have g_b1 : w.heap.size ≤ b1 := by have := E.size; omega
  have y_b1 := h1.lt
  replace E := E.trans e1
  have z1 := e1.size
  refine J_box rfl rfl (fun b2 w2 e2 s2 h2 => ?_)
  have g_b2 : w.heap.size ≤ b2 := by have := E.size; omega
  have y_b2 := h2.lt
  replace E := E.trans e2; replace h1 := h1.ext e2
  have z2 := e2.size
  refine J_st (R_assign rfl) rfl (J_done ?_)
  refine S_seq ?_
  refine S_seq ?_
  refine S_reg [true, true, true, true, true] rfl rfl ?_
  refine J_st (R_fieldAddr0 fl93_0 rfl) rfl (J_st (R_load sc3 rfl (h1.one 0 rfl)) rfl (J_st (R_fieldAddr0 fl93_0 rfl) rfl (J_st (R_load sc3 rfl (h2.one 0 rfl)) rfl (J_st (R_neq rfl rfl) rfl (J_done ?_)))))
  refine S_cond rfl (fun hc1 => ?_) (fun hc1 => ?_)
  · refine S_seq ?_
    refine S_reg [true] rfl rfl ?_
    refine J_st (R_assign rfl) rfl (J_done ?_)
    refine S_ret (E_done1 rfl rfl E ?_)
    cases x; cases y; simp_all
  · refine S_skip ?_
    refine S_seq ?_
    refine S_seq ?_
    refine S_reg [true, true, true, true, true] rfl rfl ?_
    refine J_st (R_fieldAddr0 fl93_1 rfl) rfl (J_st (R_load sc3 rfl (h1.one 1 rfl)) rfl (J_st (R_fieldAddr0 fl93_1 rfl) rfl (J_st (R_load sc3 rfl (h2.one 1 rfl)) rfl (J_st (R_neq rfl rfl) rfl (J_done ?_)))))
    refine S_cond rfl (fun hc2 => ?_) (fun hc2 => ?_)
    · refine S_seq ?_
      refine S_reg [true] rfl rfl ?_
      refine J_st (R_assign rfl) rfl (J_done ?_)
      refine S_ret (E_done1 rfl rfl E ?_)
      cases x; cases y; simp_all
    · refine S_skip ?_
      refine S_seq ?_
      refine S_reg [true] rfl rfl ?_
      refine J_st (R_assign rfl) rfl (J_done ?_)
      refine S_ret (E_done1 rfl rfl E ?_)
      cases x; cases y; simp_all

set_option maxRecDepth 20000 in
theorem c_eqRecord (x : Record) (y : Record) (w : World)  : Ct Try.prog 87 [.agg (Enc.enc x).toArray, .agg (Enc.enc y).toArray] w (fun v _ => v = .bool (decide (x = y))) := by
  refine ct_of Try.func87 rfl Try.ntmps87 rfl ?_
  refine S_sub [(0, .agg (Enc.enc x).toArray), (1, .agg (Enc.enc y).toArray)] ⟨rfl, rfl, trivial⟩ ?_
  have E : Ext w w := Ext.refl w
  refine S_seq ?_
  refine S_reg [false, false, true] rfl rfl ?_
  refine J_box rfl rfl (fun b1 w1 e1 s1 h1 => ?_)
  have g_b1 : w.heap.size ≤ b1 := by have := E.size; omega
  have y_b1 := h1.lt
  replace E := E.trans e1
  have z1 := e1.size
  refine J_box rfl rfl (fun b2 w2 e2 s2 h2 => ?_)
  have g_b2 : w.heap.size ≤ b2 := by have := E.size; omega
  have y_b2 := h2.lt
  replace E := E.trans e2; replace h1 := h1.ext e2
  have z2 := e2.size
  refine J_st (R_assign rfl) rfl (J_done ?_)
  refine S_seq ?_
  refine S_seq ?_
  refine S_reg [true, true, true, true, true] rfl rfl ?_
  refine J_st (R_fieldAddr0 fl95_0 rfl) rfl (J_st (R_load sc3 rfl (h1.one 0 rfl)) rfl (J_st (R_fieldAddr0 fl95_0 rfl) rfl (J_st (R_load sc3 rfl (h2.one 0 rfl)) rfl (J_st (R_neq rfl rfl) rfl (J_done ?_)))))
  refine S_cond rfl (fun hc1 => ?_) (fun hc1 => ?_)
  · refine S_seq ?_
    refine S_reg [true] rfl rfl ?_
    refine J_st (R_assign rfl) rfl (J_done ?_)
    refine S_ret (E_done1 rfl rfl E ?_)
    cases x; cases y; simp_all
  · refine S_skip ?_
    refine S_seq ?_
    refine S_seq ?_
    refine S_reg [true, true, true, true, false, true] rfl rfl ?_
    refine J_st (R_fieldAddr0 fl95_1 rfl) rfl (J_st (R_loadS st93 rfl (h1.part 1 [.int .i64 x.stamp.epoch, .int .i64 x.stamp.turn] rfl) rfl) rfl (J_st (R_fieldAddr0 fl95_1 rfl) rfl (J_st (R_loadS st93 rfl (h2.part 1 [.int .i64 y.stamp.epoch, .int .i64 y.stamp.turn] rfl) rfl) rfl ?_)))
    refine J_call Try.call92 rfl (c_eqStamp x.stamp y.stamp _ ) rfl (fun _ w3 e3 hv => ?_)
    subst hv
    replace E := E.trans e3; replace h1 := h1.ext e3; replace h2 := h2.ext e3
    have z3 := e3.size
    refine J_st (R_not rfl) rfl (J_done ?_)
    refine S_cond rfl (fun hc2 => ?_) (fun hc2 => ?_)
    · refine S_seq ?_
      refine S_reg [true] rfl rfl ?_
      refine J_st (R_assign rfl) rfl (J_done ?_)
      refine S_ret (E_done1 rfl rfl E ?_)
      cases x; cases y; simp_all
    · refine S_skip ?_
      refine S_seq ?_
      refine S_seq ?_
      refine S_reg [true, true, true, true, true] rfl rfl ?_
      refine J_st (R_fieldAddr0 fl95_2 rfl) rfl (J_st (R_load sc3 rfl (h1.one 3 rfl)) rfl (J_st (R_fieldAddr0 fl95_2 rfl) rfl (J_st (R_load sc3 rfl (h2.one 3 rfl)) rfl (J_st (R_neq rfl rfl) rfl (J_done ?_)))))
      refine S_cond rfl (fun hc3 => ?_) (fun hc3 => ?_)
      · refine S_seq ?_
        refine S_reg [true] rfl rfl ?_
        refine J_st (R_assign rfl) rfl (J_done ?_)
        refine S_ret (E_done1 rfl rfl E ?_)
        cases x; cases y; simp_all
      · refine S_skip ?_
        refine S_seq ?_
        refine S_seq ?_
        refine S_reg [true, true, true, true, true] rfl rfl ?_
        refine J_st (R_fieldAddr0 fl95_3 rfl) rfl (J_st (R_load sc3 rfl (h1.one 4 rfl)) rfl (J_st (R_fieldAddr0 fl95_3 rfl) rfl (J_st (R_load sc3 rfl (h2.one 4 rfl)) rfl (J_st (R_neq rfl rfl) rfl (J_done ?_)))))
        refine S_cond rfl (fun hc4 => ?_) (fun hc4 => ?_)
        · refine S_seq ?_
          refine S_reg [true] rfl rfl ?_
          refine J_st (R_assign rfl) rfl (J_done ?_)
          refine S_ret (E_done1 rfl rfl E ?_)
          cases x; cases y; simp_all
        · refine S_skip ?_
          refine S_seq ?_
          refine S_reg [true] rfl rfl ?_
          refine J_st (R_assign rfl) rfl (J_done ?_)
          refine S_ret (E_done1 rfl rfl E ?_)
          cases x; cases y; simp_all

set_option maxRecDepth 20000 in
theorem c_toDone (x : Done) (w : World)  : Ct Try.prog 84 [.agg (Enc.enc x).toArray] w (fun v _ => v = .agg (Enc.enc x).toArray) := by
  refine ct_of Try.func84 rfl Try.ntmps84 rfl ?_
  refine S_sub [(0, .agg (Enc.enc x).toArray)] ⟨rfl, trivial⟩ ?_
  have E : Ext w w := Ext.refl w
  refine S_seq ?_
  refine S_reg [false, false] rfl rfl ?_
  refine J_box rfl rfl (fun b1 w1 e1 s1 h1 => ?_)
  have g_b1 : w.heap.size ≤ b1 := by have := E.size; omega
  have y_b1 := h1.lt
  replace E := E.trans e1
  have z1 := e1.size
  refine J_alloc st97 rfl (fun b2 w2 e2 s2 h2 => ?_)
  have g_b2 : w.heap.size ≤ b2 := by have := E.size; omega
  have y_b2 := h2.lt
  replace E := E.trans e2; replace h1 := h1.ext e2
  have z2 := e2.size
  refine J_done ?_
  refine S_seq ?_
  refine S_reg [false] rfl rfl ?_
  refine J_alloc st97 rfl (fun b3 w3 e3 s3 h3 => ?_)
  have g_b3 : w.heap.size ≤ b3 := by have := E.size; omega
  have y_b3 := h3.lt
  replace E := E.trans e3; replace h1 := h1.ext e3; replace h2 := h2.ext e3
  have z3 := e3.size
  refine J_done ?_
  refine S_seq ?_
  refine S_reg [true, true, true, false] rfl rfl ?_
  refine J_st (R_fieldAddr0 fl148_0 rfl) rfl (J_st (R_load sc3 rfl (h1.one 0 rfl)) rfl (J_st (R_fieldAddr0 fl97_0 rfl) rfl ?_))
  refine J_store' (cs' := [.int .i64 x.epoch, .bool false]) sc3 rfl rfl rfl h3 (Nat.le_of_ble_eq_true rfl) rfl (fun w4 m1 h3' => ?_)
  replace h3 := h3'
  replace E := E.step m1 (fun g hg => by cases hg; omega); replace h1 := h1.mod m1 (fun g hg => by cases hg; omega); replace h2 := h2.mod m1 (fun g hg => by cases hg; omega)
  have z4 := m1.size
  refine J_done ?_
  refine S_seq ?_
  refine S_reg [true, true, true, false] rfl rfl ?_
  refine J_st (R_fieldAddr0 fl148_1 rfl) rfl (J_st (R_load sc4 rfl (h1.one 1 rfl)) rfl (J_st (R_fieldAddr0 fl97_1 rfl) rfl ?_))
  refine J_store' (cs' := [.int .i64 x.epoch, .bool x.capped]) sc4 rfl rfl rfl h3 (Nat.le_of_ble_eq_true rfl) rfl (fun w5 m2 h3' => ?_)
  replace h3 := h3'
  replace E := E.step m2 (fun g hg => by cases hg; omega); replace h1 := h1.mod m2 (fun g hg => by cases hg; omega); replace h2 := h2.mod m2 (fun g hg => by cases hg; omega)
  have z5 := m2.size
  refine J_done ?_
  refine S_seq ?_
  refine S_reg [true, false] rfl rfl ?_
  refine J_st (R_loadS st97 rfl h3.at rfl) rfl ?_
  refine J_storeS' (cs' := [.int .i64 x.epoch, .bool x.capped]) st97 rfl rfl rfl rfl h2 (Nat.le_of_ble_eq_true rfl) rfl (fun w6 m3 h2' => ?_)
  replace h2 := h2'
  replace E := E.step m3 (fun g hg => by cases hg; omega); replace h1 := h1.mod m3 (fun g hg => by cases hg; omega); replace h3 := h3.mod m3 (fun g hg => by cases hg; omega)
  have z6 := m3.size
  refine J_done ?_
  refine S_ret (E_doneC rfl rfl (run_loadVar_st st97 h2.at rfl) E ?_)
  rfl

set_option maxRecDepth 20000 in
theorem c_eqDone (x : Done) (y : Done) (w : World)  : Ct Try.prog 89 [.agg (Enc.enc x).toArray, .agg (Enc.enc y).toArray] w (fun v _ => v = .bool (decide (x = y))) := by
  refine ct_of Try.func89 rfl Try.ntmps89 rfl ?_
  refine S_sub [(0, .agg (Enc.enc x).toArray), (1, .agg (Enc.enc y).toArray)] ⟨rfl, rfl, trivial⟩ ?_
  have E : Ext w w := Ext.refl w
  refine S_seq ?_
  refine S_reg [false, false, true] rfl rfl ?_
  refine J_box rfl rfl (fun b1 w1 e1 s1 h1 => ?_)
  have g_b1 : w.heap.size ≤ b1 := by have := E.size; omega
  have y_b1 := h1.lt
  replace E := E.trans e1
  have z1 := e1.size
  refine J_box rfl rfl (fun b2 w2 e2 s2 h2 => ?_)
  have g_b2 : w.heap.size ≤ b2 := by have := E.size; omega
  have y_b2 := h2.lt
  replace E := E.trans e2; replace h1 := h1.ext e2
  have z2 := e2.size
  refine J_st (R_assign rfl) rfl (J_done ?_)
  refine S_seq ?_
  refine S_seq ?_
  refine S_reg [true, true, true, true, true] rfl rfl ?_
  refine J_st (R_fieldAddr0 fl97_0 rfl) rfl (J_st (R_load sc3 rfl (h1.one 0 rfl)) rfl (J_st (R_fieldAddr0 fl97_0 rfl) rfl (J_st (R_load sc3 rfl (h2.one 0 rfl)) rfl (J_st (R_neq rfl rfl) rfl (J_done ?_)))))
  refine S_cond rfl (fun hc1 => ?_) (fun hc1 => ?_)
  · refine S_seq ?_
    refine S_reg [true] rfl rfl ?_
    refine J_st (R_assign rfl) rfl (J_done ?_)
    refine S_ret (E_done1 rfl rfl E ?_)
    cases x; cases y; simp_all
  · refine S_skip ?_
    refine S_seq ?_
    refine S_seq ?_
    refine S_reg [true, true, true, true, true] rfl rfl ?_
    refine J_st (R_fieldAddr0 fl97_1 rfl) rfl (J_st (R_load sc4 rfl (h1.one 1 rfl)) rfl (J_st (R_fieldAddr0 fl97_1 rfl) rfl (J_st (R_load sc4 rfl (h2.one 1 rfl)) rfl (J_st (R_neqB (Try.underlying4) rfl rfl) rfl (J_done ?_)))))
    refine S_cond rfl (fun hc2 => ?_) (fun hc2 => ?_)
    · refine S_seq ?_
      refine S_reg [true] rfl rfl ?_
      refine J_st (R_assign rfl) rfl (J_done ?_)
      refine S_ret (E_done1 rfl rfl E ?_)
      cases x; cases y; simp_all
    · refine S_skip ?_
      refine S_seq ?_
      refine S_reg [true] rfl rfl ?_
      refine J_st (R_assign rfl) rfl (J_done ?_)
      refine S_ret (E_done1 rfl rfl E ?_)
      cases x; cases y; simp_all

set_option maxRecDepth 20000 in
theorem c_szRecordS (vxs : Value) (xs : List Record) (n : Int) (w : World) (hxs : RdS w vxs xs) (h0 : 0 ≤ n ∧ n ≤ 1048576) : Ct Try.prog 57 [vxs, .int .i64 n] w (fun v _ => v = .int .i64 (szM xs.length n)) := by
  refine ct_of Try.func57 rfl Try.ntmps57 rfl ?_
  refine S_sub [(0, vxs), (1, .int .i64 n)] ⟨rfl, rfl, trivial⟩ ?_
  have E : Ext w w := Ext.refl w
  refine S_seq ?_
  refine S_reg [true] rfl rfl ?_
  refine J_st (R_assign rfl) rfl (J_done ?_)
  refine S_seq ?_
  refine S_reg [true, true, true, true, true] rfl rfl ?_
  refine J_st (R_move rfl) rfl (J_st (R_move rfl) rfl (J_st (R_len Try.underlying80 rfl (hxs.ext E).len) rfl (J_st (R_sub rfl rfl rfl) rfl (J_st (R_assign rfl) rfl (J_done ?_)))))
  refine S_seq ?_
  refine S_seq ?_
  refine S_reg [true, true] rfl rfl ?_
  refine J_st (R_move rfl) rfl (J_st (R_lss rfl rfl) rfl (J_done ?_))
  refine S_cond rfl (fun hc1 => ?_) (fun hc1 => ?_)
  · refine S_seq ?_
    refine S_reg [true] rfl rfl ?_
    refine J_st (R_assign rfl) rfl (J_done ?_)
    refine S_ret (E_done1 rfl rfl E ?_)
    exact sz_no h0.2 h0.1 hxs.1 hc1
  · refine S_skip ?_
    refine S_seq ?_
    refine S_reg [true, true] rfl rfl ?_
    refine J_st (R_move rfl) rfl (J_st (R_assign rfl) rfl (J_done ?_))
    refine S_ret (E_done1 rfl rfl E ?_)
    exact sz_yes h0.2 h0.1 hxs.1 hc1

set_option maxRecDepth 20000 in
theorem c_toRecordS (vxs : Value) (xs : List Record) (w : World) (hxs : RdS w vxs xs) (hb : xs.length ≤ 1048576) : Ct Try.prog 65 [vxs] w (fun v w' => Own w' w.heap.size w'.heap.size 5 v (List.flatMap (Enc.enc (α := Record)) xs)) := by
  refine ct_of Try.func65 rfl Try.ntmps65 rfl ?_
  refine S_sub [(0, vxs)] ⟨rfl, trivial⟩ ?_
  have E : Ext w w := Ext.refl w
  refine S_seq ?_
  refine S_reg [true] rfl rfl ?_
  refine J_st (R_assign rfl) rfl (J_done ?_)
  refine S_seq ?_
  refine S_reg [true, true, false, true] rfl rfl ?_
  refine J_st (R_move rfl) rfl (J_st (R_len Try.underlying80 rfl (hxs.ext E).len) rfl ?_)
  refine J_make (m := xs.length) sl52 rfl rfl (by omega) (by decide) rfl (fun b1 w1 e1 s1 h1 => ?_)
  have g_b1 : w.heap.size ≤ b1 := by have := E.size; omega
  have y_b1 := h1.lt
  replace E := E.trans e1
  have z1 := e1.size
  refine J_st (R_assign rfl) rfl (J_done ?_)
  refine S_seq ?_
  refine S_seq ?_
  refine S_reg [true] rfl rfl ?_
  refine J_st (R_assign rfl) rfl (J_done ?_)
  refine S_block ?_
  refine S_loop (fun (k : Nat) => [(0, vxs), (2, .slice none 0 0), (3, .slice (some ⟨b1, 0, none⟩) xs.length xs.length), (4, .int .i64 ((k : Nat) : Int))]) (fun (k : Nat) w' => Ext w w' ∧ w1.heap.size ≤ w'.heap.size ∧ k ≤ xs.length ∧ Blk w' b1 (mk xs [.int .i64 0, .int .i64 0, .int .i64 0, .int .i64 0, .int .i64 0] k xs.length)) (fun (k : Nat) => xs.length - k) 0 ⟨rfl, rfl, rfl, rfl, trivial⟩ ⟨E, Nat.le_refl _, Nat.zero_le _, (mk_zero xs [.int .i64 0, .int .i64 0, .int .i64 0, .int .i64 0, .int .i64 0] xs.length) ▸ h1⟩ ?_
  clear E h1
  rintro k w2 ⟨E, z2, hk, h1⟩
  refine S_seq ?_
  refine S_seq ?_
  refine S_reg [true, true, true, true] rfl rfl ?_
  refine J_st (R_move rfl) rfl (J_st (R_move rfl) rfl (J_st (R_len Try.underlying80 rfl (hxs.ext E).len) rfl (J_st (R_lss rfl rfl) rfl (J_done ?_))))
  refine S_cond rfl (fun hc1 => ?_) (fun hc1 => ?_)
  · have hc1n : k < xs.length := by first | (have h := of_decide_eq_true hc1; omega) | (have h := hc1; simp at h; omega)
    refine S_skip ?_
    refine S_seq ?_
    refine S_block ?_
    refine S_reg [true, true, true, true, true, true, false, true, false] rfl rfl ?_
    refine J_st (R_move rfl) rfl (J_st (R_move rfl) rfl (J_st (R_move rfl) rfl (J_st (R_move rfl) rfl ?_)))
    have hi1 : k < xs.length := (by first | assumption | omega)
    refine J_st (R_index (i := k) sl80 rfl rfl (hxs.ext E) hi1) rfl (J_st (R_loadS st144 rfl ((hxs.ext E).get hi1) rfl) rfl ?_)
    refine J_call Try.call82 rfl (c_toRecord (xs[k]'hi1) _ ) rfl (fun _ w3 e2 hv => ?_)
    subst hv
    replace E := E.trans e2; replace h1 := h1.ext e2
    have z3 := e2.size
    refine J_st (R_indexB sl52 rfl rfl (by first | assumption | omega)) rfl ?_
    refine J_storeS' (cs' := mk xs [.int .i64 0, .int .i64 0, .int .i64 0, .int .i64 0, .int .i64 0] (k + 1) xs.length) st95 rfl rfl rfl rfl h1 (mk_room xs [.int .i64 0, .int .i64 0, .int .i64 0, .int .i64 0, .int .i64 0] rfl hc1n hc1n (by rfl)) (mk_step xs [.int .i64 0, .int .i64 0, .int .i64 0, .int .i64 0, .int .i64 0] rfl hc1n hc1n) (fun w4 m1 h1' => ?_)
    replace h1 := h1'
    replace E := E.step m1 (fun g hg => by cases hg; omega)
    have z4 := m1.size
    refine J_done ?_
    refine S_nil (E_inB ?_)
    refine S_reg [true, true, true] rfl rfl ?_
    refine J_st (R_move rfl) rfl (J_st (R_add rfl rfl (add_one hc1n hxs.1)) rfl (J_st (R_assign rfl) rfl (J_done ?_)))
    refine S_nil (E_again (k + 1) (by omega) ⟨rfl, rfl, rfl, rfl, trivial⟩ ⟨E, (by omega), (by omega), h1⟩)
  · have hc1n : ¬ k < xs.length := by first | (have h := of_decide_eq_false hc1; omega) | (have h := hc1; simp at h; omega)
    refine S_exit (E_lp_exit (E_inB_exit ?_))
    refine S_seq ?_
    refine S_reg [true, true] rfl rfl ?_
    refine J_st (R_move rfl) rfl (J_st (R_assign rfl) rfl (J_done ?_))
    refine S_ret (E_done1 rfl rfl E ?_)
    obtain rfl : k = xs.length := by omega
    rw [mk_all] at h1
    exact Own.ofBlk h1 (by omega) (by have := h1.lt; omega) (sum_flat xs) hxs.1

set_option maxRecDepth 20000 in
theorem c_eqRecordS (vxs : Value) (xs : List Record) (vys : Value) (ys : List Record) (w : World) (hxs : RdS w vxs xs) (hys : RdS w vys ys) : Ct Try.prog 76 [vxs, vys] w (fun v _ => v = .bool (decide (xs = ys))) := by
  refine ct_of Try.func76 rfl Try.ntmps76 rfl ?_
  refine S_sub [(0, vxs), (1, vys)] ⟨rfl, rfl, trivial⟩ ?_
  have E : Ext w w := Ext.refl w
  refine S_seq ?_
  refine S_reg [true] rfl rfl ?_
  refine J_st (R_assign rfl) rfl (J_done ?_)
  refine S_seq ?_
  refine S_seq ?_
  refine S_reg [true, true, true, true, true] rfl rfl ?_
  refine J_st (R_move rfl) rfl (J_st (R_len Try.underlying52 rfl (hxs.ext E).len) rfl (J_st (R_move rfl) rfl (J_st (R_len Try.underlying52 rfl (hys.ext E).len) rfl (J_st (R_neq rfl rfl) rfl (J_done ?_)))))
  refine S_cond rfl (fun hc1 => ?_) (fun hc1 => ?_)
  · have hc1n : ¬ xs.length = ys.length := by first | (have h := of_decide_eq_true hc1; omega) | (have h := hc1; simp at h; omega)
    refine S_seq ?_
    refine S_reg [true] rfl rfl ?_
    refine J_st (R_assign rfl) rfl (J_done ?_)
    refine S_ret (E_done1 rfl rfl E ?_)
    simp [eq_len hc1n]
  · have hc1n : xs.length = ys.length := by first | (have h := of_decide_eq_false hc1; omega) | (have h := hc1; simp at h; omega)
    refine S_skip ?_
    refine S_seq ?_
    refine S_seq ?_
    refine S_reg [true] rfl rfl ?_
    refine J_st (R_assign rfl) rfl (J_done ?_)
    refine S_block ?_
    refine S_loop (fun (k : Nat) => [(0, vxs), (1, vys), (4, .bool false), (5, .int .i64 ((k : Nat) : Int))]) (fun (k : Nat) w' => Ext w w' ∧ w.heap.size ≤ w'.heap.size ∧ k ≤ xs.length ∧ xs.take k = ys.take k) (fun (k : Nat) => xs.length - k) 0 ⟨rfl, rfl, rfl, rfl, trivial⟩ ⟨E, Nat.le_refl _, Nat.zero_le _, rfl⟩ ?_
    clear E
    rintro k w1 ⟨E, z1, hk, hp⟩
    refine S_seq ?_
    refine S_seq ?_
    refine S_reg [true, true, true, true] rfl rfl ?_
    refine J_st (R_move rfl) rfl (J_st (R_move rfl) rfl (J_st (R_len Try.underlying52 rfl (hxs.ext E).len) rfl (J_st (R_lss rfl rfl) rfl (J_done ?_))))
    refine S_cond rfl (fun hc2 => ?_) (fun hc2 => ?_)
    · have hc2n : k < xs.length := by first | (have h := of_decide_eq_true hc2; omega) | (have h := hc2; simp at h; omega)
      refine S_skip ?_
      refine S_seq ?_
      refine S_block ?_
      refine S_seq ?_
      refine S_regD mixed [(0, true), (1, true), (2, true), (3, true), (4, true), (5, true), (6, true), (7, true), (8, false), (9, true)] (by decide +kernel) rfl (fun w2 e1 => ?_)
      replace E := E.trans e1
      have z2 := e1.size
      refine J_st (R_move rfl) rfl (J_st (R_move rfl) rfl ?_)
      have hi1 : k < xs.length := (by first | assumption | omega)
      refine J_st (R_index (i := k) sl52 rfl rfl (hxs.ext E) hi1) rfl (J_st (R_loadS st95 rfl ((hxs.ext E).get hi1) rfl) rfl (J_st (R_move rfl) rfl (J_st (R_move rfl) rfl ?_)))
      have hi2 : k < ys.length := (by first | assumption | omega)
      refine J_st (R_index (i := k) sl52 rfl rfl (hys.ext E) hi2) rfl (J_st (R_loadS st95 rfl ((hys.ext E).get hi2) rfl) rfl ?_)
      refine J_call Try.call87 rfl (c_eqRecord (xs[k]'hi1) (ys[k]'hi2) _ ) rfl (fun _ w3 e2 hv => ?_)
      subst hv
      replace E := E.trans e2
      have z3 := e2.size
      refine J_st (R_not rfl) rfl (J_done ?_)
      refine S_cond rfl (fun hc3 => ?_) (fun hc3 => ?_)
      · refine S_seq ?_
        refine S_reg [true] rfl rfl ?_
        refine J_st (R_assign rfl) rfl (J_done ?_)
        refine S_ret (E_inB_ret (E_lp_ret (E_inB_ret (E_done1 rfl rfl E ?_))))
        exact eqS_no (by omega) (by omega) (by simpa using hc3)
      · refine S_skip ?_
        refine S_nil (E_inB ?_)
        refine S_reg [true, true, true] rfl rfl ?_
        refine J_st (R_move rfl) rfl (J_st (R_add rfl rfl (add_one hc2n hxs.1)) rfl (J_st (R_assign rfl) rfl (J_done ?_)))
        refine S_nil (E_again (k + 1) (by omega) ⟨rfl, rfl, rfl, rfl, trivial⟩ ⟨E, (by omega), (by omega), eqS_step hp (by assumption) (by omega) (by simpa using hc3)⟩)
    · have hc2n : ¬ k < xs.length := by first | (have h := of_decide_eq_false hc2; omega) | (have h := hc2; simp at h; omega)
      refine S_exit (E_lp_exit (E_inB_exit ?_))
      refine S_seq ?_
      refine S_reg [true] rfl rfl ?_
      refine J_st (R_assign rfl) rfl (J_done ?_)
      refine S_ret (E_done1 rfl rfl E ?_)
      exact eqS_yes hp hc1n (by omega)

set_option maxRecDepth 20000 in
theorem c_szBoolS (vxs : Value) (xs : List Bool) (n : Int) (w : World) (hxs : RdS w vxs xs) (h0 : 0 ≤ n ∧ n ≤ 1048576) : Ct Try.prog 60 [vxs, .int .i64 n] w (fun v _ => v = .int .i64 (szM xs.length n)) := by
  refine ct_of Try.func60 rfl Try.ntmps60 rfl ?_
  refine S_sub [(0, vxs), (1, .int .i64 n)] ⟨rfl, rfl, trivial⟩ ?_
  have E : Ext w w := Ext.refl w
  refine S_seq ?_
  refine S_reg [true] rfl rfl ?_
  refine J_st (R_assign rfl) rfl (J_done ?_)
  refine S_seq ?_
  refine S_reg [true, true, true, true, true] rfl rfl ?_
  refine J_st (R_move rfl) rfl (J_st (R_move rfl) rfl (J_st (R_len Try.underlying55 rfl (hxs.ext E).len) rfl (J_st (R_sub rfl rfl rfl) rfl (J_st (R_assign rfl) rfl (J_done ?_)))))
  refine S_seq ?_
  refine S_seq ?_
  refine S_reg [true, true] rfl rfl ?_
  refine J_st (R_move rfl) rfl (J_st (R_lss rfl rfl) rfl (J_done ?_))
  refine S_cond rfl (fun hc1 => ?_) (fun hc1 => ?_)
  · refine S_seq ?_
    refine S_reg [true] rfl rfl ?_
    refine J_st (R_assign rfl) rfl (J_done ?_)
    refine S_ret (E_done1 rfl rfl E ?_)
    exact sz_no h0.2 h0.1 hxs.1 hc1
  · refine S_skip ?_
    refine S_seq ?_
    refine S_reg [true, true] rfl rfl ?_
    refine J_st (R_move rfl) rfl (J_st (R_assign rfl) rfl (J_done ?_))
    refine S_ret (E_done1 rfl rfl E ?_)
    exact sz_yes h0.2 h0.1 hxs.1 hc1

set_option maxRecDepth 20000 in
theorem c_toBoolS (vxs : Value) (xs : List Bool) (w : World) (hxs : RdS w vxs xs) (hb : xs.length ≤ 1048576) : Ct Try.prog 68 [vxs] w (fun v w' => Own w' w.heap.size w'.heap.size 1 v (List.flatMap (Enc.enc (α := Bool)) xs)) := by
  refine ct_of Try.func68 rfl Try.ntmps68 rfl ?_
  refine S_sub [(0, vxs)] ⟨rfl, trivial⟩ ?_
  have E : Ext w w := Ext.refl w
  refine S_seq ?_
  refine S_reg [true] rfl rfl ?_
  refine J_st (R_assign rfl) rfl (J_done ?_)
  refine S_seq ?_
  refine S_reg [true, true, false, true] rfl rfl ?_
  refine J_st (R_move rfl) rfl (J_st (R_len Try.underlying55 rfl (hxs.ext E).len) rfl ?_)
  refine J_make (m := xs.length) sl55 rfl rfl (by omega) (by decide) rfl (fun b1 w1 e1 s1 h1 => ?_)
  have g_b1 : w.heap.size ≤ b1 := by have := E.size; omega
  have y_b1 := h1.lt
  replace E := E.trans e1
  have z1 := e1.size
  refine J_st (R_assign rfl) rfl (J_done ?_)
  refine S_seq ?_
  refine S_seq ?_
  refine S_reg [true] rfl rfl ?_
  refine J_st (R_assign rfl) rfl (J_done ?_)
  refine S_block ?_
  refine S_loop (fun (k : Nat) => [(0, vxs), (2, .slice none 0 0), (3, .slice (some ⟨b1, 0, none⟩) xs.length xs.length), (4, .int .i64 ((k : Nat) : Int))]) (fun (k : Nat) w' => Ext w w' ∧ w1.heap.size ≤ w'.heap.size ∧ k ≤ xs.length ∧ Blk w' b1 (mk xs [.bool false] k xs.length)) (fun (k : Nat) => xs.length - k) 0 ⟨rfl, rfl, rfl, rfl, trivial⟩ ⟨E, Nat.le_refl _, Nat.zero_le _, (mk_zero xs [.bool false] xs.length) ▸ h1⟩ ?_
  clear E h1
  rintro k w2 ⟨E, z2, hk, h1⟩
  refine S_seq ?_
  refine S_seq ?_
  refine S_reg [true, true, true, true] rfl rfl ?_
  refine J_st (R_move rfl) rfl (J_st (R_move rfl) rfl (J_st (R_len Try.underlying55 rfl (hxs.ext E).len) rfl (J_st (R_lss rfl rfl) rfl (J_done ?_))))
  refine S_cond rfl (fun hc1 => ?_) (fun hc1 => ?_)
  · have hc1n : k < xs.length := by first | (have h := of_decide_eq_true hc1; omega) | (have h := hc1; simp at h; omega)
    refine S_skip ?_
    refine S_seq ?_
    refine S_block ?_
    refine S_reg [true, true, true, true, true, true, true, false] rfl rfl ?_
    refine J_st (R_move rfl) rfl (J_st (R_move rfl) rfl (J_st (R_move rfl) rfl (J_st (R_move rfl) rfl ?_)))
    have hi1 : k < xs.length := (by first | assumption | omega)
    refine J_st (R_index (i := k) sl55 rfl rfl (hxs.ext E) hi1) rfl (J_st (R_load sc4 rfl (((hxs.ext E).get hi1).one 0 rfl)) rfl (J_st (R_indexB sl55 rfl rfl (by first | assumption | omega)) rfl ?_))
    refine J_store' (cs' := mk xs [.bool false] (k + 1) xs.length) sc4 rfl rfl rfl h1 (mk_room xs [.bool false] rfl hc1n hc1n (by rfl)) (mk_step xs [.bool false] rfl hc1n hc1n) (fun w3 m1 h1' => ?_)
    replace h1 := h1'
    replace E := E.step m1 (fun g hg => by cases hg; omega)
    have z3 := m1.size
    refine J_done ?_
    refine S_nil (E_inB ?_)
    refine S_reg [true, true, true] rfl rfl ?_
    refine J_st (R_move rfl) rfl (J_st (R_add rfl rfl (add_one hc1n hxs.1)) rfl (J_st (R_assign rfl) rfl (J_done ?_)))
    refine S_nil (E_again (k + 1) (by omega) ⟨rfl, rfl, rfl, rfl, trivial⟩ ⟨E, (by omega), (by omega), h1⟩)
  · have hc1n : ¬ k < xs.length := by first | (have h := of_decide_eq_false hc1; omega) | (have h := hc1; simp at h; omega)
    refine S_exit (E_lp_exit (E_inB_exit ?_))
    refine S_seq ?_
    refine S_reg [true, true] rfl rfl ?_
    refine J_st (R_move rfl) rfl (J_st (R_assign rfl) rfl (J_done ?_))
    refine S_ret (E_done1 rfl rfl E ?_)
    obtain rfl : k = xs.length := by omega
    rw [mk_all] at h1
    exact Own.ofBlk h1 (by omega) (by have := h1.lt; omega) (sum_flat xs) hxs.1

set_option maxRecDepth 20000 in
theorem c_eqBoolS (vxs : Value) (xs : List Bool) (vys : Value) (ys : List Bool) (w : World) (hxs : RdS w vxs xs) (hys : RdS w vys ys) : Ct Try.prog 79 [vxs, vys] w (fun v _ => v = .bool (decide (xs = ys))) := by
  refine ct_of Try.func79 rfl Try.ntmps79 rfl ?_
  refine S_sub [(0, vxs), (1, vys)] ⟨rfl, rfl, trivial⟩ ?_
  have E : Ext w w := Ext.refl w
  refine S_seq ?_
  refine S_reg [true] rfl rfl ?_
  refine J_st (R_assign rfl) rfl (J_done ?_)
  refine S_seq ?_
  refine S_seq ?_
  refine S_reg [true, true, true, true, true] rfl rfl ?_
  refine J_st (R_move rfl) rfl (J_st (R_len Try.underlying55 rfl (hxs.ext E).len) rfl (J_st (R_move rfl) rfl (J_st (R_len Try.underlying55 rfl (hys.ext E).len) rfl (J_st (R_neq rfl rfl) rfl (J_done ?_)))))
  refine S_cond rfl (fun hc1 => ?_) (fun hc1 => ?_)
  · have hc1n : ¬ xs.length = ys.length := by first | (have h := of_decide_eq_true hc1; omega) | (have h := hc1; simp at h; omega)
    refine S_seq ?_
    refine S_reg [true] rfl rfl ?_
    refine J_st (R_assign rfl) rfl (J_done ?_)
    refine S_ret (E_done1 rfl rfl E ?_)
    simp [eq_len hc1n]
  · have hc1n : xs.length = ys.length := by first | (have h := of_decide_eq_false hc1; omega) | (have h := hc1; simp at h; omega)
    refine S_skip ?_
    refine S_seq ?_
    refine S_seq ?_
    refine S_reg [true] rfl rfl ?_
    refine J_st (R_assign rfl) rfl (J_done ?_)
    refine S_block ?_
    refine S_loop (fun (k : Nat) => [(0, vxs), (1, vys), (4, .bool false), (5, .int .i64 ((k : Nat) : Int))]) (fun (k : Nat) w' => Ext w w' ∧ w.heap.size ≤ w'.heap.size ∧ k ≤ xs.length ∧ xs.take k = ys.take k) (fun (k : Nat) => xs.length - k) 0 ⟨rfl, rfl, rfl, rfl, trivial⟩ ⟨E, Nat.le_refl _, Nat.zero_le _, rfl⟩ ?_
    clear E
    rintro k w1 ⟨E, z1, hk, hp⟩
    refine S_seq ?_
    refine S_seq ?_
    refine S_reg [true, true, true, true] rfl rfl ?_
    refine J_st (R_move rfl) rfl (J_st (R_move rfl) rfl (J_st (R_len Try.underlying55 rfl (hxs.ext E).len) rfl (J_st (R_lss rfl rfl) rfl (J_done ?_))))
    refine S_cond rfl (fun hc2 => ?_) (fun hc2 => ?_)
    · have hc2n : k < xs.length := by first | (have h := of_decide_eq_true hc2; omega) | (have h := hc2; simp at h; omega)
      refine S_skip ?_
      refine S_seq ?_
      refine S_block ?_
      refine S_seq ?_
      refine S_regD mixed [(0, true), (1, true), (2, true), (3, true), (4, true), (5, true), (6, true), (7, true), (8, true)] (by decide +kernel) rfl (fun w2 e1 => ?_)
      replace E := E.trans e1
      have z2 := e1.size
      refine J_st (R_move rfl) rfl (J_st (R_move rfl) rfl ?_)
      have hi1 : k < xs.length := (by first | assumption | omega)
      refine J_st (R_index (i := k) sl55 rfl rfl (hxs.ext E) hi1) rfl (J_st (R_load sc4 rfl (((hxs.ext E).get hi1).one 0 rfl)) rfl (J_st (R_move rfl) rfl (J_st (R_move rfl) rfl ?_)))
      have hi2 : k < ys.length := (by first | assumption | omega)
      refine J_st (R_index (i := k) sl55 rfl rfl (hys.ext E) hi2) rfl (J_st (R_load sc4 rfl (((hys.ext E).get hi2).one 0 rfl)) rfl (J_st (R_neqB (Try.underlying4) rfl rfl) rfl (J_done ?_)))
      refine S_cond rfl (fun hc3 => ?_) (fun hc3 => ?_)
      · refine S_seq ?_
        refine S_reg [true] rfl rfl ?_
        refine J_st (R_assign rfl) rfl (J_done ?_)
        refine S_ret (E_inB_ret (E_lp_ret (E_inB_ret (E_done1 rfl rfl E ?_))))
        exact eqS_no (by omega) (by omega) (by simpa using hc3)
      · refine S_skip ?_
        refine S_nil (E_inB ?_)
        refine S_reg [true, true, true] rfl rfl ?_
        refine J_st (R_move rfl) rfl (J_st (R_add rfl rfl (add_one hc2n hxs.1)) rfl (J_st (R_assign rfl) rfl (J_done ?_)))
        refine S_nil (E_again (k + 1) (by omega) ⟨rfl, rfl, rfl, rfl, trivial⟩ ⟨E, (by omega), (by omega), eqS_step hp (by assumption) (by omega) (by simpa using hc3)⟩)
    · have hc2n : ¬ k < xs.length := by first | (have h := of_decide_eq_false hc2; omega) | (have h := hc2; simp at h; omega)
      refine S_exit (E_lp_exit (E_inB_exit ?_))
      refine S_seq ?_
      refine S_reg [true] rfl rfl ?_
      refine J_st (R_assign rfl) rfl (J_done ?_)
      refine S_ret (E_done1 rfl rfl E ?_)
      exact eqS_yes hp hc1n (by omega)

set_option maxRecDepth 20000 in
theorem c_szDoneS (vxs : Value) (xs : List Done) (n : Int) (w : World) (hxs : RdS w vxs xs) (h0 : 0 ≤ n ∧ n ≤ 1048576) : Ct Try.prog 61 [vxs, .int .i64 n] w (fun v _ => v = .int .i64 (szM xs.length n)) := by
  refine ct_of Try.func61 rfl Try.ntmps61 rfl ?_
  refine S_sub [(0, vxs), (1, .int .i64 n)] ⟨rfl, rfl, trivial⟩ ?_
  have E : Ext w w := Ext.refl w
  refine S_seq ?_
  refine S_reg [true] rfl rfl ?_
  refine J_st (R_assign rfl) rfl (J_done ?_)
  refine S_seq ?_
  refine S_reg [true, true, true, true, true] rfl rfl ?_
  refine J_st (R_move rfl) rfl (J_st (R_move rfl) rfl (J_st (R_len Try.underlying82 rfl (hxs.ext E).len) rfl (J_st (R_sub rfl rfl rfl) rfl (J_st (R_assign rfl) rfl (J_done ?_)))))
  refine S_seq ?_
  refine S_seq ?_
  refine S_reg [true, true] rfl rfl ?_
  refine J_st (R_move rfl) rfl (J_st (R_lss rfl rfl) rfl (J_done ?_))
  refine S_cond rfl (fun hc1 => ?_) (fun hc1 => ?_)
  · refine S_seq ?_
    refine S_reg [true] rfl rfl ?_
    refine J_st (R_assign rfl) rfl (J_done ?_)
    refine S_ret (E_done1 rfl rfl E ?_)
    exact sz_no h0.2 h0.1 hxs.1 hc1
  · refine S_skip ?_
    refine S_seq ?_
    refine S_reg [true, true] rfl rfl ?_
    refine J_st (R_move rfl) rfl (J_st (R_assign rfl) rfl (J_done ?_))
    refine S_ret (E_done1 rfl rfl E ?_)
    exact sz_yes h0.2 h0.1 hxs.1 hc1

set_option maxRecDepth 20000 in
theorem c_toDoneS (vxs : Value) (xs : List Done) (w : World) (hxs : RdS w vxs xs) (hb : xs.length ≤ 1048576) : Ct Try.prog 69 [vxs] w (fun v w' => Own w' w.heap.size w'.heap.size 2 v (List.flatMap (Enc.enc (α := Done)) xs)) := by
  refine ct_of Try.func69 rfl Try.ntmps69 rfl ?_
  refine S_sub [(0, vxs)] ⟨rfl, trivial⟩ ?_
  have E : Ext w w := Ext.refl w
  refine S_seq ?_
  refine S_reg [true] rfl rfl ?_
  refine J_st (R_assign rfl) rfl (J_done ?_)
  refine S_seq ?_
  refine S_reg [true, true, false, true] rfl rfl ?_
  refine J_st (R_move rfl) rfl (J_st (R_len Try.underlying82 rfl (hxs.ext E).len) rfl ?_)
  refine J_make (m := xs.length) sl56 rfl rfl (by omega) (by decide) rfl (fun b1 w1 e1 s1 h1 => ?_)
  have g_b1 : w.heap.size ≤ b1 := by have := E.size; omega
  have y_b1 := h1.lt
  replace E := E.trans e1
  have z1 := e1.size
  refine J_st (R_assign rfl) rfl (J_done ?_)
  refine S_seq ?_
  refine S_seq ?_
  refine S_reg [true] rfl rfl ?_
  refine J_st (R_assign rfl) rfl (J_done ?_)
  refine S_block ?_
  refine S_loop (fun (k : Nat) => [(0, vxs), (2, .slice none 0 0), (3, .slice (some ⟨b1, 0, none⟩) xs.length xs.length), (4, .int .i64 ((k : Nat) : Int))]) (fun (k : Nat) w' => Ext w w' ∧ w1.heap.size ≤ w'.heap.size ∧ k ≤ xs.length ∧ Blk w' b1 (mk xs [.int .i64 0, .bool false] k xs.length)) (fun (k : Nat) => xs.length - k) 0 ⟨rfl, rfl, rfl, rfl, trivial⟩ ⟨E, Nat.le_refl _, Nat.zero_le _, (mk_zero xs [.int .i64 0, .bool false] xs.length) ▸ h1⟩ ?_
  clear E h1
  rintro k w2 ⟨E, z2, hk, h1⟩
  refine S_seq ?_
  refine S_seq ?_
  refine S_reg [true, true, true, true] rfl rfl ?_
  refine J_st (R_move rfl) rfl (J_st (R_move rfl) rfl (J_st (R_len Try.underlying82 rfl (hxs.ext E).len) rfl (J_st (R_lss rfl rfl) rfl (J_done ?_))))
  refine S_cond rfl (fun hc1 => ?_) (fun hc1 => ?_)
  · have hc1n : k < xs.length := by first | (have h := of_decide_eq_true hc1; omega) | (have h := hc1; simp at h; omega)
    refine S_skip ?_
    refine S_seq ?_
    refine S_block ?_
    refine S_reg [true, true, true, true, true, true, false, true, false] rfl rfl ?_
    refine J_st (R_move rfl) rfl (J_st (R_move rfl) rfl (J_st (R_move rfl) rfl (J_st (R_move rfl) rfl ?_)))
    have hi1 : k < xs.length := (by first | assumption | omega)
    refine J_st (R_index (i := k) sl82 rfl rfl (hxs.ext E) hi1) rfl (J_st (R_loadS st148 rfl ((hxs.ext E).get hi1) rfl) rfl ?_)
    refine J_call Try.call84 rfl (c_toDone (xs[k]'hi1) _ ) rfl (fun _ w3 e2 hv => ?_)
    subst hv
    replace E := E.trans e2; replace h1 := h1.ext e2
    have z3 := e2.size
    refine J_st (R_indexB sl56 rfl rfl (by first | assumption | omega)) rfl ?_
    refine J_storeS' (cs' := mk xs [.int .i64 0, .bool false] (k + 1) xs.length) st97 rfl rfl rfl rfl h1 (mk_room xs [.int .i64 0, .bool false] rfl hc1n hc1n (by rfl)) (mk_step xs [.int .i64 0, .bool false] rfl hc1n hc1n) (fun w4 m1 h1' => ?_)
    replace h1 := h1'
    replace E := E.step m1 (fun g hg => by cases hg; omega)
    have z4 := m1.size
    refine J_done ?_
    refine S_nil (E_inB ?_)
    refine S_reg [true, true, true] rfl rfl ?_
    refine J_st (R_move rfl) rfl (J_st (R_add rfl rfl (add_one hc1n hxs.1)) rfl (J_st (R_assign rfl) rfl (J_done ?_)))
    refine S_nil (E_again (k + 1) (by omega) ⟨rfl, rfl, rfl, rfl, trivial⟩ ⟨E, (by omega), (by omega), h1⟩)
  · have hc1n : ¬ k < xs.length := by first | (have h := of_decide_eq_false hc1; omega) | (have h := hc1; simp at h; omega)
    refine S_exit (E_lp_exit (E_inB_exit ?_))
    refine S_seq ?_
    refine S_reg [true, true] rfl rfl ?_
    refine J_st (R_move rfl) rfl (J_st (R_assign rfl) rfl (J_done ?_))
    refine S_ret (E_done1 rfl rfl E ?_)
    obtain rfl : k = xs.length := by omega
    rw [mk_all] at h1
    exact Own.ofBlk h1 (by omega) (by have := h1.lt; omega) (sum_flat xs) hxs.1

set_option maxRecDepth 20000 in
theorem c_eqDoneS (vxs : Value) (xs : List Done) (vys : Value) (ys : List Done) (w : World) (hxs : RdS w vxs xs) (hys : RdS w vys ys) : Ct Try.prog 80 [vxs, vys] w (fun v _ => v = .bool (decide (xs = ys))) := by
  refine ct_of Try.func80 rfl Try.ntmps80 rfl ?_
  refine S_sub [(0, vxs), (1, vys)] ⟨rfl, rfl, trivial⟩ ?_
  have E : Ext w w := Ext.refl w
  refine S_seq ?_
  refine S_reg [true] rfl rfl ?_
  refine J_st (R_assign rfl) rfl (J_done ?_)
  refine S_seq ?_
  refine S_seq ?_
  refine S_reg [true, true, true, true, true] rfl rfl ?_
  refine J_st (R_move rfl) rfl (J_st (R_len Try.underlying56 rfl (hxs.ext E).len) rfl (J_st (R_move rfl) rfl (J_st (R_len Try.underlying56 rfl (hys.ext E).len) rfl (J_st (R_neq rfl rfl) rfl (J_done ?_)))))
  refine S_cond rfl (fun hc1 => ?_) (fun hc1 => ?_)
  · have hc1n : ¬ xs.length = ys.length := by first | (have h := of_decide_eq_true hc1; omega) | (have h := hc1; simp at h; omega)
    refine S_seq ?_
    refine S_reg [true] rfl rfl ?_
    refine J_st (R_assign rfl) rfl (J_done ?_)
    refine S_ret (E_done1 rfl rfl E ?_)
    simp [eq_len hc1n]
  · have hc1n : xs.length = ys.length := by first | (have h := of_decide_eq_false hc1; omega) | (have h := hc1; simp at h; omega)
    refine S_skip ?_
    refine S_seq ?_
    refine S_seq ?_
    refine S_reg [true] rfl rfl ?_
    refine J_st (R_assign rfl) rfl (J_done ?_)
    refine S_block ?_
    refine S_loop (fun (k : Nat) => [(0, vxs), (1, vys), (4, .bool false), (5, .int .i64 ((k : Nat) : Int))]) (fun (k : Nat) w' => Ext w w' ∧ w.heap.size ≤ w'.heap.size ∧ k ≤ xs.length ∧ xs.take k = ys.take k) (fun (k : Nat) => xs.length - k) 0 ⟨rfl, rfl, rfl, rfl, trivial⟩ ⟨E, Nat.le_refl _, Nat.zero_le _, rfl⟩ ?_
    clear E
    rintro k w1 ⟨E, z1, hk, hp⟩
    refine S_seq ?_
    refine S_seq ?_
    refine S_reg [true, true, true, true] rfl rfl ?_
    refine J_st (R_move rfl) rfl (J_st (R_move rfl) rfl (J_st (R_len Try.underlying56 rfl (hxs.ext E).len) rfl (J_st (R_lss rfl rfl) rfl (J_done ?_))))
    refine S_cond rfl (fun hc2 => ?_) (fun hc2 => ?_)
    · have hc2n : k < xs.length := by first | (have h := of_decide_eq_true hc2; omega) | (have h := hc2; simp at h; omega)
      refine S_skip ?_
      refine S_seq ?_
      refine S_block ?_
      refine S_seq ?_
      refine S_regD mixed [(0, true), (1, true), (2, true), (3, true), (4, true), (5, true), (6, true), (7, true), (8, false), (9, true)] (by decide +kernel) rfl (fun w2 e1 => ?_)
      replace E := E.trans e1
      have z2 := e1.size
      refine J_st (R_move rfl) rfl (J_st (R_move rfl) rfl ?_)
      have hi1 : k < xs.length := (by first | assumption | omega)
      refine J_st (R_index (i := k) sl56 rfl rfl (hxs.ext E) hi1) rfl (J_st (R_loadS st97 rfl ((hxs.ext E).get hi1) rfl) rfl (J_st (R_move rfl) rfl (J_st (R_move rfl) rfl ?_)))
      have hi2 : k < ys.length := (by first | assumption | omega)
      refine J_st (R_index (i := k) sl56 rfl rfl (hys.ext E) hi2) rfl (J_st (R_loadS st97 rfl ((hys.ext E).get hi2) rfl) rfl ?_)
      refine J_call Try.call89 rfl (c_eqDone (xs[k]'hi1) (ys[k]'hi2) _ ) rfl (fun _ w3 e2 hv => ?_)
      subst hv
      replace E := E.trans e2
      have z3 := e2.size
      refine J_st (R_not rfl) rfl (J_done ?_)
      refine S_cond rfl (fun hc3 => ?_) (fun hc3 => ?_)
      · refine S_seq ?_
        refine S_reg [true] rfl rfl ?_
        refine J_st (R_assign rfl) rfl (J_done ?_)
        refine S_ret (E_inB_ret (E_lp_ret (E_inB_ret (E_done1 rfl rfl E ?_))))
        exact eqS_no (by omega) (by omega) (by simpa using hc3)
      · refine S_skip ?_
        refine S_nil (E_inB ?_)
        refine S_reg [true, true, true] rfl rfl ?_
        refine J_st (R_move rfl) rfl (J_st (R_add rfl rfl (add_one hc2n hxs.1)) rfl (J_st (R_assign rfl) rfl (J_done ?_)))
        refine S_nil (E_again (k + 1) (by omega) ⟨rfl, rfl, rfl, rfl, trivial⟩ ⟨E, (by omega), (by omega), eqS_step hp (by assumption) (by omega) (by simpa using hc3)⟩)
    · have hc2n : ¬ k < xs.length := by first | (have h := of_decide_eq_false hc2; omega) | (have h := hc2; simp at h; omega)
      refine S_exit (E_lp_exit (E_inB_exit ?_))
      refine S_seq ?_
      refine S_reg [true] rfl rfl ?_
      refine J_st (R_assign rfl) rfl (J_done ?_)
      refine S_ret (E_done1 rfl rfl E ?_)
      exact eqS_yes hp hc1n (by omega)

set_option maxHeartbeats 4000000 in
set_option maxRecDepth 20000 in
theorem c_szWorker (cx : List Value) (x : Worker) (n : Int) (w : World) (hx : Dat.R w 0 w.heap.size cx x) (h0 : 0 ≤ n ∧ n ≤ 1048576) : Ct Try.prog 35 [.agg cx.toArray, .int .i64 n] w (fun v _ => v = .int .i64 (szM (cntWorker x) n)) := by
  refine ct_of Try.func35 rfl Try.ntmps35 rfl ?_
  obtain ⟨o1, o2, o3, o4, o5, o6, o7, o8, rfl, hd1, hd2, hd3, hd4, hd5, hd6, hd7, hd8⟩ := Worker.op hx
  refine S_sub [(0, .agg [o1, o2, o3, o4, o5, o6, o7, o8].toArray), (1, .int .i64 n)] ⟨rfl, rfl, trivial⟩ ?_
  have E : Ext w w := Ext.refl w
  refine S_seq ?_
  refine S_reg [false, true] rfl rfl ?_
  refine J_box rfl rfl (fun b1 w1 e1 s1 h1 => ?_)
  have g_b1 : w.heap.size ≤ b1 := by have := E.size; omega
  have y_b1 := h1.lt
  replace E := E.trans e1
  have z1 := e1.size
  refine J_st (R_assign rfl) rfl (J_done ?_)
  refine S_seq ?_
  refine S_reg [true, true, true, false, true] rfl rfl ?_
  refine J_st (R_fieldAddr0 fl84_0 rfl) rfl (J_st (R_load sc80 rfl (h1.one 0 rfl)) rfl (J_st (R_move rfl) rfl ?_))
  refine J_call Try.call57 rfl (c_szRecordS o1 x.queue n _ (hd1.rd.ext E) (by first | omega | (simp only [mkL_length]; omega) | (rw [mkL_length]))) rfl (fun _ w2 e2 hv => ?_)
  subst hv
  replace E := E.trans e2; replace h1 := h1.ext e2
  have z2 := e2.size
  refine J_st (R_assign rfl) rfl (J_done ?_)
  refine S_seq ?_
  refine S_seq ?_
  refine S_reg [true, true] rfl rfl ?_
  refine J_st (R_move rfl) rfl (J_st (R_lss rfl rfl) rfl (J_done ?_))
  refine S_cond rfl (fun hc1 => ?_) (fun hc1 => ?_)
  · have q1 := szM_no hc1 (by omega)
    refine S_seq ?_
    refine S_reg [true] rfl rfl ?_
    refine J_st (R_assign rfl) rfl (J_done ?_)
    refine S_ret (E_done1 rfl rfl E ?_)
    first | exact sz_neg (by unfold cntWorker; omega) | exact sz_fin (by unfold cntWorker; omega) (by unfold cntWorker; omega)
  · have q2 := szM_ok hc1 (by omega)
    refine S_skip ?_
    refine S_seq ?_
    refine S_reg [true, true, true, false, true] rfl rfl ?_
    refine J_st (R_fieldAddr0 fl84_1 rfl) rfl (J_st (R_load sc80 rfl (h1.one 1 rfl)) rfl (J_st (R_move rfl) rfl ?_))
    refine J_call Try.call57 rfl (c_szRecordS o2 x.staged (szM x.queue.length n) _ (hd2.rd.ext E) (by first | omega | (simp only [mkL_length]; omega) | (rw [mkL_length]))) rfl (fun _ w3 e3 hv => ?_)
    subst hv
    replace E := E.trans e3; replace h1 := h1.ext e3
    have z3 := e3.size
    refine J_st (R_assign rfl) rfl (J_done ?_)
    refine S_seq ?_
    refine S_seq ?_
    refine S_reg [true, true] rfl rfl ?_
    refine J_st (R_move rfl) rfl (J_st (R_lss rfl rfl) rfl (J_done ?_))
    refine S_cond rfl (fun hc2 => ?_) (fun hc2 => ?_)
    · have q3 := szM_no hc2 (by omega)
      refine S_seq ?_
      refine S_reg [true] rfl rfl ?_
      refine J_st (R_assign rfl) rfl (J_done ?_)
      refine S_ret (E_done1 rfl rfl E ?_)
      first | exact sz_neg (by unfold cntWorker; omega) | exact sz_fin (by unfold cntWorker; omega) (by unfold cntWorker; omega)
    · have q4 := szM_ok hc2 (by omega)
      refine S_skip ?_
      refine S_seq ?_
      refine S_reg [true, true, true, false, true] rfl rfl ?_
      refine J_st (R_fieldAddr0 fl84_2 rfl) rfl (J_st (R_load sc80 rfl (h1.one 2 rfl)) rfl (J_st (R_move rfl) rfl ?_))
      refine J_call Try.call57 rfl (c_szRecordS o3 x.inputs (szM x.staged.length (szM x.queue.length n)) _ (hd3.rd.ext E) (by first | omega | (simp only [mkL_length]; omega) | (rw [mkL_length]))) rfl (fun _ w4 e4 hv => ?_)
      subst hv
      replace E := E.trans e4; replace h1 := h1.ext e4
      have z4 := e4.size
      refine J_st (R_assign rfl) rfl (J_done ?_)
      refine S_seq ?_
      refine S_seq ?_
      refine S_reg [true, true] rfl rfl ?_
      refine J_st (R_move rfl) rfl (J_st (R_lss rfl rfl) rfl (J_done ?_))
      refine S_cond rfl (fun hc3 => ?_) (fun hc3 => ?_)
      · have q5 := szM_no hc3 (by omega)
        refine S_seq ?_
        refine S_reg [true] rfl rfl ?_
        refine J_st (R_assign rfl) rfl (J_done ?_)
        refine S_ret (E_done1 rfl rfl E ?_)
        first | exact sz_neg (by unfold cntWorker; omega) | exact sz_fin (by unfold cntWorker; omega) (by unfold cntWorker; omega)
      · have q6 := szM_ok hc3 (by omega)
        refine S_skip ?_
        refine S_seq ?_
        refine S_reg [true, true, true, false, true] rfl rfl ?_
        refine J_st (R_fieldAddr0 fl84_3 rfl) rfl (J_st (R_load sc81 rfl (h1.one 3 rfl)) rfl (J_st (R_move rfl) rfl ?_))
        refine J_call Try.call58 rfl (c_szCellS o4 x.cells (szM x.inputs.length (szM x.staged.length (szM x.queue.length n))) _ (hd4.rd.ext E) (by first | omega | (simp only [mkL_length]; omega) | (rw [mkL_length]))) rfl (fun _ w5 e5 hv => ?_)
        subst hv
        replace E := E.trans e5; replace h1 := h1.ext e5
        have z5 := e5.size
        refine J_st (R_assign rfl) rfl (J_done ?_)
        refine S_seq ?_
        refine S_seq ?_
        refine S_reg [true, true] rfl rfl ?_
        refine J_st (R_move rfl) rfl (J_st (R_lss rfl rfl) rfl (J_done ?_))
        refine S_cond rfl (fun hc4 => ?_) (fun hc4 => ?_)
        · have q7 := szM_no hc4 (by omega)
          refine S_seq ?_
          refine S_reg [true] rfl rfl ?_
          refine J_st (R_assign rfl) rfl (J_done ?_)
          refine S_ret (E_done1 rfl rfl E ?_)
          first | exact sz_neg (by unfold cntWorker; omega) | exact sz_fin (by unfold cntWorker; omega) (by unfold cntWorker; omega)
        · have q8 := szM_ok hc4 (by omega)
          refine S_skip ?_
          refine S_seq ?_
          refine S_reg [true, true, true, false, true] rfl rfl ?_
          refine J_st (R_fieldAddr0 fl84_4 rfl) rfl (J_st (R_load sc54 rfl (h1.one 4 rfl)) rfl (J_st (R_move rfl) rfl ?_))
          refine J_call Try.call59 rfl (c_szIntS o5 x.sums (szM x.cells.length (szM x.inputs.length (szM x.staged.length (szM x.queue.length n)))) _ (hd5.rd.ext E) (by first | omega | (simp only [mkL_length]; omega) | (rw [mkL_length]))) rfl (fun _ w6 e6 hv => ?_)
          subst hv
          replace E := E.trans e6; replace h1 := h1.ext e6
          have z6 := e6.size
          refine J_st (R_assign rfl) rfl (J_done ?_)
          refine S_seq ?_
          refine S_seq ?_
          refine S_reg [true, true] rfl rfl ?_
          refine J_st (R_move rfl) rfl (J_st (R_lss rfl rfl) rfl (J_done ?_))
          refine S_cond rfl (fun hc5 => ?_) (fun hc5 => ?_)
          · have q9 := szM_no hc5 (by omega)
            refine S_seq ?_
            refine S_reg [true] rfl rfl ?_
            refine J_st (R_assign rfl) rfl (J_done ?_)
            refine S_ret (E_done1 rfl rfl E ?_)
            first | exact sz_neg (by unfold cntWorker; omega) | exact sz_fin (by unfold cntWorker; omega) (by unfold cntWorker; omega)
          · have q10 := szM_ok hc5 (by omega)
            refine S_skip ?_
            refine S_seq ?_
            refine S_reg [true, true, true, false, true] rfl rfl ?_
            refine J_st (R_fieldAddr0 fl84_5 rfl) rfl (J_st (R_load sc55 rfl (h1.one 5 rfl)) rfl (J_st (R_move rfl) rfl ?_))
            refine J_call Try.call60 rfl (c_szBoolS o6 x.black (szM x.sums.length (szM x.cells.length (szM x.inputs.length (szM x.staged.length (szM x.queue.length n))))) _ (hd6.rd.ext E) (by first | omega | (simp only [mkL_length]; omega) | (rw [mkL_length]))) rfl (fun _ w7 e7 hv => ?_)
            subst hv
            replace E := E.trans e7; replace h1 := h1.ext e7
            have z7 := e7.size
            refine J_st (R_assign rfl) rfl (J_done ?_)
            refine S_seq ?_
            refine S_seq ?_
            refine S_reg [true, true] rfl rfl ?_
            refine J_st (R_move rfl) rfl (J_st (R_lss rfl rfl) rfl (J_done ?_))
            refine S_cond rfl (fun hc6 => ?_) (fun hc6 => ?_)
            · have q11 := szM_no hc6 (by omega)
              refine S_seq ?_
              refine S_reg [true] rfl rfl ?_
              refine J_st (R_assign rfl) rfl (J_done ?_)
              refine S_ret (E_done1 rfl rfl E ?_)
              first | exact sz_neg (by unfold cntWorker; omega) | exact sz_fin (by unfold cntWorker; omega) (by unfold cntWorker; omega)
            · have q12 := szM_ok hc6 (by omega)
              refine S_skip ?_
              refine S_seq ?_
              refine S_reg [true, true, true, false, true] rfl rfl ?_
              refine J_st (R_fieldAddr0 fl84_6 rfl) rfl (J_st (R_load sc55 rfl (h1.one 6 rfl)) rfl (J_st (R_move rfl) rfl ?_))
              refine J_call Try.call60 rfl (c_szBoolS o7 x.caps (szM x.black.length (szM x.sums.length (szM x.cells.length (szM x.inputs.length (szM x.staged.length (szM x.queue.length n)))))) _ (hd7.rd.ext E) (by first | omega | (simp only [mkL_length]; omega) | (rw [mkL_length]))) rfl (fun _ w8 e8 hv => ?_)
              subst hv
              replace E := E.trans e8; replace h1 := h1.ext e8
              have z8 := e8.size
              refine J_st (R_assign rfl) rfl (J_done ?_)
              refine S_seq ?_
              refine S_seq ?_
              refine S_reg [true, true] rfl rfl ?_
              refine J_st (R_move rfl) rfl (J_st (R_lss rfl rfl) rfl (J_done ?_))
              refine S_cond rfl (fun hc7 => ?_) (fun hc7 => ?_)
              · have q13 := szM_no hc7 (by omega)
                refine S_seq ?_
                refine S_reg [true] rfl rfl ?_
                refine J_st (R_assign rfl) rfl (J_done ?_)
                refine S_ret (E_done1 rfl rfl E ?_)
                first | exact sz_neg (by unfold cntWorker; omega) | exact sz_fin (by unfold cntWorker; omega) (by unfold cntWorker; omega)
              · have q14 := szM_ok hc7 (by omega)
                refine S_skip ?_
                refine S_seq ?_
                refine S_reg [true, true, true, false, true] rfl rfl ?_
                refine J_st (R_fieldAddr0 fl84_7 rfl) rfl (J_st (R_load sc82 rfl (h1.one 7 rfl)) rfl (J_st (R_move rfl) rfl ?_))
                refine J_call Try.call61 rfl (c_szDoneS o8 x.dones (szM x.caps.length (szM x.black.length (szM x.sums.length (szM x.cells.length (szM x.inputs.length (szM x.staged.length (szM x.queue.length n))))))) _ (hd8.rd.ext E) (by first | omega | (simp only [mkL_length]; omega) | (rw [mkL_length]))) rfl (fun _ w9 e9 hv => ?_)
                subst hv
                replace E := E.trans e9; replace h1 := h1.ext e9
                have z9 := e9.size
                refine J_st (R_assign rfl) rfl (J_done ?_)
                refine S_seq ?_
                refine S_seq ?_
                refine S_reg [true, true] rfl rfl ?_
                refine J_st (R_move rfl) rfl (J_st (R_lss rfl rfl) rfl (J_done ?_))
                refine S_cond rfl (fun hc8 => ?_) (fun hc8 => ?_)
                · have q15 := szM_no hc8 (by omega)
                  refine S_seq ?_
                  refine S_reg [true] rfl rfl ?_
                  refine J_st (R_assign rfl) rfl (J_done ?_)
                  refine S_ret (E_done1 rfl rfl E ?_)
                  first | exact sz_neg (by unfold cntWorker; omega) | exact sz_fin (by unfold cntWorker; omega) (by unfold cntWorker; omega)
                · have q16 := szM_ok hc8 (by omega)
                  refine S_skip ?_
                  refine S_seq ?_
                  refine S_reg [true, true] rfl rfl ?_
                  refine J_st (R_move rfl) rfl (J_st (R_assign rfl) rfl (J_done ?_))
                  refine S_ret (E_done1 rfl rfl E ?_)
                  first | exact sz_neg (by unfold cntWorker; omega) | exact sz_fin (by unfold cntWorker; omega) (by unfold cntWorker; omega)

set_option maxHeartbeats 4000000 in
set_option maxRecDepth 20000 in
theorem c_toWorker (cx : List Value) (x : Worker) (w : World) (hx : Dat.R w 0 w.heap.size cx x) (hb : cntWorker x ≤ 1048576) : Ct Try.prog 41 [.agg cx.toArray] w (fun v w' => ∃ cs, v = .agg cs.toArray ∧ Own1.O w' w.heap.size w'.heap.size cs x) := by
  unfold cntWorker at hb
  refine ct_of Try.func41 rfl Try.ntmps41 rfl ?_
  obtain ⟨o1, o2, o3, o4, o5, o6, o7, o8, rfl, hd1, hd2, hd3, hd4, hd5, hd6, hd7, hd8⟩ := Worker.op hx
  refine S_sub [(0, .agg [o1, o2, o3, o4, o5, o6, o7, o8].toArray)] ⟨rfl, trivial⟩ ?_
  have E : Ext w w := Ext.refl w
  refine S_seq ?_
  refine S_reg [false, false] rfl rfl ?_
  refine J_box rfl rfl (fun b1 w1 e1 s1 h1 => ?_)
  have g_b1 : w.heap.size ≤ b1 := by have := E.size; omega
  have y_b1 := h1.lt
  replace E := E.trans e1
  have z1 := e1.size
  refine J_alloc st58 rfl (fun b2 w2 e2 s2 h2 => ?_)
  have g_b2 : w.heap.size ≤ b2 := by have := E.size; omega
  have y_b2 := h2.lt
  replace E := E.trans e2; replace h1 := h1.ext e2
  have z2 := e2.size
  refine J_done ?_
  refine S_seq ?_
  refine S_reg [false] rfl rfl ?_
  refine J_alloc st58 rfl (fun b3 w3 e3 s3 h3 => ?_)
  have g_b3 : w.heap.size ≤ b3 := by have := E.size; omega
  have y_b3 := h3.lt
  replace E := E.trans e3; replace h1 := h1.ext e3; replace h2 := h2.ext e3
  have z3 := e3.size
  refine J_done ?_
  refine S_seq ?_
  refine S_reg [true, true, false, true, false] rfl rfl ?_
  refine J_st (R_fieldAddr0 fl84_0 rfl) rfl (J_st (R_load sc80 rfl (h1.one 0 rfl)) rfl ?_)
  refine J_call Try.call65 rfl (c_toRecordS o1 x.queue _ (hd1.rd.ext E) (by first | omega | (simp only [mkL_length]; omega) | (rw [mkL_length]))) rfl (fun v1 w4 e4 ho1 => ?_)
  have g_ho1 : w.heap.size ≤ w3.heap.size := E.size
  replace E := E.trans e4; replace h1 := h1.ext e4; replace h2 := h2.ext e4; replace h3 := h3.ext e4
  have z4 := e4.size
  refine J_st (R_fieldAddr0 fl58_0 rfl) rfl ?_
  refine J_store' (cs' := [v1, .slice none 0 0, .slice none 0 0, .slice none 0 0, .slice none 0 0, .slice none 0 0, .slice none 0 0, .slice none 0 0]) sc52 rfl rfl ho1.one h3 (Nat.le_of_ble_eq_true rfl) rfl (fun w5 m1 h3' => ?_)
  replace h3 := h3'
  replace E := E.step m1 (fun g hg => by cases hg; omega); replace h1 := h1.mod m1 (fun g hg => by cases hg; omega); replace h2 := h2.mod m1 (fun g hg => by cases hg; omega); replace ho1 := ho1.mod m1 (fun g hg => by cases hg; omega)
  have z5 := m1.size
  refine J_done ?_
  refine S_seq ?_
  refine S_reg [true, true, false, true, false] rfl rfl ?_
  refine J_st (R_fieldAddr0 fl84_1 rfl) rfl (J_st (R_load sc80 rfl (h1.one 1 rfl)) rfl ?_)
  refine J_call Try.call65 rfl (c_toRecordS o2 x.staged _ (hd2.rd.ext E) (by first | omega | (simp only [mkL_length]; omega) | (rw [mkL_length]))) rfl (fun v2 w6 e5 ho2 => ?_)
  have g_ho2 : w.heap.size ≤ w5.heap.size := E.size
  replace E := E.trans e5; replace h1 := h1.ext e5; replace h2 := h2.ext e5; replace h3 := h3.ext e5; replace ho1 := ho1.ext e5
  have z6 := e5.size
  refine J_st (R_fieldAddr0 fl58_1 rfl) rfl ?_
  refine J_store' (cs' := [v1, v2, .slice none 0 0, .slice none 0 0, .slice none 0 0, .slice none 0 0, .slice none 0 0, .slice none 0 0]) sc52 rfl rfl ho2.one h3 (Nat.le_of_ble_eq_true rfl) rfl (fun w7 m2 h3' => ?_)
  replace h3 := h3'
  replace E := E.step m2 (fun g hg => by cases hg; omega); replace h1 := h1.mod m2 (fun g hg => by cases hg; omega); replace h2 := h2.mod m2 (fun g hg => by cases hg; omega); replace ho1 := ho1.mod m2 (fun g hg => by cases hg; omega); replace ho2 := ho2.mod m2 (fun g hg => by cases hg; omega)
  have z7 := m2.size
  refine J_done ?_
  refine S_seq ?_
  refine S_reg [true, true, false, true, false] rfl rfl ?_
  refine J_st (R_fieldAddr0 fl84_2 rfl) rfl (J_st (R_load sc80 rfl (h1.one 2 rfl)) rfl ?_)
  refine J_call Try.call65 rfl (c_toRecordS o3 x.inputs _ (hd3.rd.ext E) (by first | omega | (simp only [mkL_length]; omega) | (rw [mkL_length]))) rfl (fun v3 w8 e6 ho3 => ?_)
  have g_ho3 : w.heap.size ≤ w7.heap.size := E.size
  replace E := E.trans e6; replace h1 := h1.ext e6; replace h2 := h2.ext e6; replace h3 := h3.ext e6; replace ho1 := ho1.ext e6; replace ho2 := ho2.ext e6
  have z8 := e6.size
  refine J_st (R_fieldAddr0 fl58_2 rfl) rfl ?_
  refine J_store' (cs' := [v1, v2, v3, .slice none 0 0, .slice none 0 0, .slice none 0 0, .slice none 0 0, .slice none 0 0]) sc52 rfl rfl ho3.one h3 (Nat.le_of_ble_eq_true rfl) rfl (fun w9 m3 h3' => ?_)
  replace h3 := h3'
  replace E := E.step m3 (fun g hg => by cases hg; omega); replace h1 := h1.mod m3 (fun g hg => by cases hg; omega); replace h2 := h2.mod m3 (fun g hg => by cases hg; omega); replace ho1 := ho1.mod m3 (fun g hg => by cases hg; omega); replace ho2 := ho2.mod m3 (fun g hg => by cases hg; omega); replace ho3 := ho3.mod m3 (fun g hg => by cases hg; omega)
  have z9 := m3.size
  refine J_done ?_
  refine S_seq ?_
  refine S_reg [true, true, false, true, false] rfl rfl ?_
  refine J_st (R_fieldAddr0 fl84_3 rfl) rfl (J_st (R_load sc81 rfl (h1.one 3 rfl)) rfl ?_)
  refine J_call Try.call66 rfl (c_toCellS o4 x.cells _ (hd4.rd.ext E) (by first | omega | (simp only [mkL_length]; omega) | (rw [mkL_length]))) rfl (fun v4 w10 e7 ho4 => ?_)
  have g_ho4 : w.heap.size ≤ w9.heap.size := E.size
  replace E := E.trans e7; replace h1 := h1.ext e7; replace h2 := h2.ext e7; replace h3 := h3.ext e7; replace ho1 := ho1.ext e7; replace ho2 := ho2.ext e7; replace ho3 := ho3.ext e7
  have z10 := e7.size
  refine J_st (R_fieldAddr0 fl58_3 rfl) rfl ?_
  refine J_store' (cs' := [v1, v2, v3, v4, .slice none 0 0, .slice none 0 0, .slice none 0 0, .slice none 0 0]) sc53 rfl rfl ho4.one h3 (Nat.le_of_ble_eq_true rfl) rfl (fun w11 m4 h3' => ?_)
  replace h3 := h3'
  replace E := E.step m4 (fun g hg => by cases hg; omega); replace h1 := h1.mod m4 (fun g hg => by cases hg; omega); replace h2 := h2.mod m4 (fun g hg => by cases hg; omega); replace ho1 := ho1.mod m4 (fun g hg => by cases hg; omega); replace ho2 := ho2.mod m4 (fun g hg => by cases hg; omega); replace ho3 := ho3.mod m4 (fun g hg => by cases hg; omega); replace ho4 := ho4.mod m4 (fun g hg => by cases hg; omega)
  have z11 := m4.size
  refine J_done ?_
  refine S_seq ?_
  refine S_reg [true, true, false, true, false] rfl rfl ?_
  refine J_st (R_fieldAddr0 fl84_4 rfl) rfl (J_st (R_load sc54 rfl (h1.one 4 rfl)) rfl ?_)
  refine J_call Try.call67 rfl (c_toIntS o5 x.sums _ (hd5.rd.ext E) (by first | omega | (simp only [mkL_length]; omega) | (rw [mkL_length]))) rfl (fun v5 w12 e8 ho5 => ?_)
  have g_ho5 : w.heap.size ≤ w11.heap.size := E.size
  replace E := E.trans e8; replace h1 := h1.ext e8; replace h2 := h2.ext e8; replace h3 := h3.ext e8; replace ho1 := ho1.ext e8; replace ho2 := ho2.ext e8; replace ho3 := ho3.ext e8; replace ho4 := ho4.ext e8
  have z12 := e8.size
  refine J_st (R_fieldAddr0 fl58_4 rfl) rfl ?_
  refine J_store' (cs' := [v1, v2, v3, v4, v5, .slice none 0 0, .slice none 0 0, .slice none 0 0]) sc54 rfl rfl ho5.one h3 (Nat.le_of_ble_eq_true rfl) rfl (fun w13 m5 h3' => ?_)
  replace h3 := h3'
  replace E := E.step m5 (fun g hg => by cases hg; omega); replace h1 := h1.mod m5 (fun g hg => by cases hg; omega); replace h2 := h2.mod m5 (fun g hg => by cases hg; omega); replace ho1 := ho1.mod m5 (fun g hg => by cases hg; omega); replace ho2 := ho2.mod m5 (fun g hg => by cases hg; omega); replace ho3 := ho3.mod m5 (fun g hg => by cases hg; omega); replace ho4 := ho4.mod m5 (fun g hg => by cases hg; omega); replace ho5 := ho5.mod m5 (fun g hg => by cases hg; omega)
  have z13 := m5.size
  refine J_done ?_
  refine S_seq ?_
  refine S_reg [true, true, false, true, false] rfl rfl ?_
  refine J_st (R_fieldAddr0 fl84_5 rfl) rfl (J_st (R_load sc55 rfl (h1.one 5 rfl)) rfl ?_)
  refine J_call Try.call68 rfl (c_toBoolS o6 x.black _ (hd6.rd.ext E) (by first | omega | (simp only [mkL_length]; omega) | (rw [mkL_length]))) rfl (fun v6 w14 e9 ho6 => ?_)
  have g_ho6 : w.heap.size ≤ w13.heap.size := E.size
  replace E := E.trans e9; replace h1 := h1.ext e9; replace h2 := h2.ext e9; replace h3 := h3.ext e9; replace ho1 := ho1.ext e9; replace ho2 := ho2.ext e9; replace ho3 := ho3.ext e9; replace ho4 := ho4.ext e9; replace ho5 := ho5.ext e9
  have z14 := e9.size
  refine J_st (R_fieldAddr0 fl58_5 rfl) rfl ?_
  refine J_store' (cs' := [v1, v2, v3, v4, v5, v6, .slice none 0 0, .slice none 0 0]) sc55 rfl rfl ho6.one h3 (Nat.le_of_ble_eq_true rfl) rfl (fun w15 m6 h3' => ?_)
  replace h3 := h3'
  replace E := E.step m6 (fun g hg => by cases hg; omega); replace h1 := h1.mod m6 (fun g hg => by cases hg; omega); replace h2 := h2.mod m6 (fun g hg => by cases hg; omega); replace ho1 := ho1.mod m6 (fun g hg => by cases hg; omega); replace ho2 := ho2.mod m6 (fun g hg => by cases hg; omega); replace ho3 := ho3.mod m6 (fun g hg => by cases hg; omega); replace ho4 := ho4.mod m6 (fun g hg => by cases hg; omega); replace ho5 := ho5.mod m6 (fun g hg => by cases hg; omega); replace ho6 := ho6.mod m6 (fun g hg => by cases hg; omega)
  have z15 := m6.size
  refine J_done ?_
  refine S_seq ?_
  refine S_reg [true, true, false, true, false] rfl rfl ?_
  refine J_st (R_fieldAddr0 fl84_6 rfl) rfl (J_st (R_load sc55 rfl (h1.one 6 rfl)) rfl ?_)
  refine J_call Try.call68 rfl (c_toBoolS o7 x.caps _ (hd7.rd.ext E) (by first | omega | (simp only [mkL_length]; omega) | (rw [mkL_length]))) rfl (fun v7 w16 e10 ho7 => ?_)
  have g_ho7 : w.heap.size ≤ w15.heap.size := E.size
  replace E := E.trans e10; replace h1 := h1.ext e10; replace h2 := h2.ext e10; replace h3 := h3.ext e10; replace ho1 := ho1.ext e10; replace ho2 := ho2.ext e10; replace ho3 := ho3.ext e10; replace ho4 := ho4.ext e10; replace ho5 := ho5.ext e10; replace ho6 := ho6.ext e10
  have z16 := e10.size
  refine J_st (R_fieldAddr0 fl58_6 rfl) rfl ?_
  refine J_store' (cs' := [v1, v2, v3, v4, v5, v6, v7, .slice none 0 0]) sc55 rfl rfl ho7.one h3 (Nat.le_of_ble_eq_true rfl) rfl (fun w17 m7 h3' => ?_)
  replace h3 := h3'
  replace E := E.step m7 (fun g hg => by cases hg; omega); replace h1 := h1.mod m7 (fun g hg => by cases hg; omega); replace h2 := h2.mod m7 (fun g hg => by cases hg; omega); replace ho1 := ho1.mod m7 (fun g hg => by cases hg; omega); replace ho2 := ho2.mod m7 (fun g hg => by cases hg; omega); replace ho3 := ho3.mod m7 (fun g hg => by cases hg; omega); replace ho4 := ho4.mod m7 (fun g hg => by cases hg; omega); replace ho5 := ho5.mod m7 (fun g hg => by cases hg; omega); replace ho6 := ho6.mod m7 (fun g hg => by cases hg; omega); replace ho7 := ho7.mod m7 (fun g hg => by cases hg; omega)
  have z17 := m7.size
  refine J_done ?_
  refine S_seq ?_
  refine S_reg [true, true, false, true, false] rfl rfl ?_
  refine J_st (R_fieldAddr0 fl84_7 rfl) rfl (J_st (R_load sc82 rfl (h1.one 7 rfl)) rfl ?_)
  refine J_call Try.call69 rfl (c_toDoneS o8 x.dones _ (hd8.rd.ext E) (by first | omega | (simp only [mkL_length]; omega) | (rw [mkL_length]))) rfl (fun v8 w18 e11 ho8 => ?_)
  have g_ho8 : w.heap.size ≤ w17.heap.size := E.size
  replace E := E.trans e11; replace h1 := h1.ext e11; replace h2 := h2.ext e11; replace h3 := h3.ext e11; replace ho1 := ho1.ext e11; replace ho2 := ho2.ext e11; replace ho3 := ho3.ext e11; replace ho4 := ho4.ext e11; replace ho5 := ho5.ext e11; replace ho6 := ho6.ext e11; replace ho7 := ho7.ext e11
  have z18 := e11.size
  refine J_st (R_fieldAddr0 fl58_7 rfl) rfl ?_
  refine J_store' (cs' := [v1, v2, v3, v4, v5, v6, v7, v8]) sc56 rfl rfl ho8.one h3 (Nat.le_of_ble_eq_true rfl) rfl (fun w19 m8 h3' => ?_)
  replace h3 := h3'
  replace E := E.step m8 (fun g hg => by cases hg; omega); replace h1 := h1.mod m8 (fun g hg => by cases hg; omega); replace h2 := h2.mod m8 (fun g hg => by cases hg; omega); replace ho1 := ho1.mod m8 (fun g hg => by cases hg; omega); replace ho2 := ho2.mod m8 (fun g hg => by cases hg; omega); replace ho3 := ho3.mod m8 (fun g hg => by cases hg; omega); replace ho4 := ho4.mod m8 (fun g hg => by cases hg; omega); replace ho5 := ho5.mod m8 (fun g hg => by cases hg; omega); replace ho6 := ho6.mod m8 (fun g hg => by cases hg; omega); replace ho7 := ho7.mod m8 (fun g hg => by cases hg; omega); replace ho8 := ho8.mod m8 (fun g hg => by cases hg; omega)
  have z19 := m8.size
  refine J_done ?_
  refine S_seq ?_
  refine S_reg [true, false] rfl rfl ?_
  refine J_st (R_loadS st58 rfl h3.at rfl) rfl ?_
  refine J_storeS' (cs' := [v1, v2, v3, v4, v5, v6, v7, v8]) st58 rfl rfl rfl (all_cons ho1.one (all_cons ho2.one (all_cons ho3.one (all_cons ho4.one (all_cons ho5.one (all_cons ho6.one (all_cons ho7.one (all_cons ho8.one rfl)))))))) h2 (Nat.le_of_ble_eq_true rfl) rfl (fun w20 m9 h2' => ?_)
  replace h2 := h2'
  replace E := E.step m9 (fun g hg => by cases hg; omega); replace h1 := h1.mod m9 (fun g hg => by cases hg; omega); replace h3 := h3.mod m9 (fun g hg => by cases hg; omega); replace ho1 := ho1.mod m9 (fun g hg => by cases hg; omega); replace ho2 := ho2.mod m9 (fun g hg => by cases hg; omega); replace ho3 := ho3.mod m9 (fun g hg => by cases hg; omega); replace ho4 := ho4.mod m9 (fun g hg => by cases hg; omega); replace ho5 := ho5.mod m9 (fun g hg => by cases hg; omega); replace ho6 := ho6.mod m9 (fun g hg => by cases hg; omega); replace ho7 := ho7.mod m9 (fun g hg => by cases hg; omega); replace ho8 := ho8.mod m9 (fun g hg => by cases hg; omega)
  have z20 := m9.size
  refine J_done ?_
  refine S_ret (E_doneC rfl rfl (run_loadVar_st st58 h2.at rfl) E ?_)
  exact ⟨_, rfl, Worker.mkO x ⟨⟨(Own.sep ho1 ho2 (by omega)), ⟨(Own.sep ho1 ho3 (by omega)), ⟨(Own.sep ho1 ho4 (by omega)), ⟨(Own.sep ho1 ho5 (by omega)), ⟨(Own.sep ho1 ho6 (by omega)), ⟨(Own.sep ho1 ho7 (by omega)), ⟨(Own.sep ho1 ho8 (by omega)), trivial⟩⟩⟩⟩⟩⟩⟩, ⟨⟨(Own.sep ho2 ho3 (by omega)), ⟨(Own.sep ho2 ho4 (by omega)), ⟨(Own.sep ho2 ho5 (by omega)), ⟨(Own.sep ho2 ho6 (by omega)), ⟨(Own.sep ho2 ho7 (by omega)), ⟨(Own.sep ho2 ho8 (by omega)), trivial⟩⟩⟩⟩⟩⟩, ⟨⟨(Own.sep ho3 ho4 (by omega)), ⟨(Own.sep ho3 ho5 (by omega)), ⟨(Own.sep ho3 ho6 (by omega)), ⟨(Own.sep ho3 ho7 (by omega)), ⟨(Own.sep ho3 ho8 (by omega)), trivial⟩⟩⟩⟩⟩, ⟨⟨(Own.sep ho4 ho5 (by omega)), ⟨(Own.sep ho4 ho6 (by omega)), ⟨(Own.sep ho4 ho7 (by omega)), ⟨(Own.sep ho4 ho8 (by omega)), trivial⟩⟩⟩⟩, ⟨⟨(Own.sep ho5 ho6 (by omega)), ⟨(Own.sep ho5 ho7 (by omega)), ⟨(Own.sep ho5 ho8 (by omega)), trivial⟩⟩⟩, ⟨⟨(Own.sep ho6 ho7 (by omega)), ⟨(Own.sep ho6 ho8 (by omega)), trivial⟩⟩, ⟨⟨(Own.sep ho7 ho8 (by omega)), trivial⟩, ⟨trivial, trivial⟩⟩⟩⟩⟩⟩⟩⟩ (Own.widen ho1 (by omega) (by omega)) (Own.widen ho2 (by omega) (by omega)) (Own.widen ho3 (by omega) (by omega)) (Own.widen ho4 (by omega) (by omega)) (Own.widen ho5 (by omega) (by omega)) (Own.widen ho6 (by omega) (by omega)) (Own.widen ho7 (by omega) (by omega)) (Own.widen ho8 (by omega) (by omega))⟩

set_option maxHeartbeats 4000000 in
set_option maxRecDepth 20000 in
theorem c_eqWorker (cx : List Value) (x : Worker) (cy : List Value) (y : Worker) (w : World) (hx : Dat.R w 0 w.heap.size cx x) (hy : Dat.R w 0 w.heap.size cy y) : Ct Try.prog 52 [.agg cx.toArray, .agg cy.toArray] w (fun v _ => v = .bool (decide (x = y))) := by
  refine ct_of Try.func52 rfl Try.ntmps52 rfl ?_
  obtain ⟨o1, o2, o3, o4, o5, o6, o7, o8, rfl, hd1, hd2, hd3, hd4, hd5, hd6, hd7, hd8⟩ := Worker.op hx
  obtain ⟨o9, o10, o11, o12, o13, o14, o15, o16, rfl, hd9, hd10, hd11, hd12, hd13, hd14, hd15, hd16⟩ := Worker.op hy
  refine S_sub [(0, .agg [o1, o2, o3, o4, o5, o6, o7, o8].toArray), (1, .agg [o9, o10, o11, o12, o13, o14, o15, o16].toArray)] ⟨rfl, rfl, trivial⟩ ?_
  have E : Ext w w := Ext.refl w
  refine S_seq ?_
  refine S_reg [false, false, true] rfl rfl ?_
  refine J_box rfl rfl (fun b1 w1 e1 s1 h1 => ?_)
  have g_b1 : w.heap.size ≤ b1 := by have := E.size; omega
  have y_b1 := h1.lt
  replace E := E.trans e1
  have z1 := e1.size
  refine J_box rfl rfl (fun b2 w2 e2 s2 h2 => ?_)
  have g_b2 : w.heap.size ≤ b2 := by have := E.size; omega
  have y_b2 := h2.lt
  replace E := E.trans e2; replace h1 := h1.ext e2
  have z2 := e2.size
  refine J_st (R_assign rfl) rfl (J_done ?_)
  refine S_seq ?_
  refine S_seq ?_
  refine S_reg [true, true, true, true, false, true] rfl rfl ?_
  refine J_st (R_fieldAddr0 fl58_0 rfl) rfl (J_st (R_load sc52 rfl (h1.one 0 rfl)) rfl (J_st (R_fieldAddr0 fl58_0 rfl) rfl (J_st (R_load sc52 rfl (h2.one 0 rfl)) rfl ?_)))
  refine J_call Try.call76 rfl (c_eqRecordS o1 x.queue o9 y.queue _ (hd1.rd.ext E) (hd9.rd.ext E)) rfl (fun _ w3 e3 hv => ?_)
  subst hv
  replace E := E.trans e3; replace h1 := h1.ext e3; replace h2 := h2.ext e3
  have z3 := e3.size
  refine J_st (R_not rfl) rfl (J_done ?_)
  refine S_cond rfl (fun hc1 => ?_) (fun hc1 => ?_)
  · refine S_seq ?_
    refine S_reg [true] rfl rfl ?_
    refine J_st (R_assign rfl) rfl (J_done ?_)
    refine S_ret (E_done1 rfl rfl E ?_)
    cases x; cases y; simp_all
  · refine S_skip ?_
    refine S_seq ?_
    refine S_seq ?_
    refine S_reg [true, true, true, true, false, true] rfl rfl ?_
    refine J_st (R_fieldAddr0 fl58_1 rfl) rfl (J_st (R_load sc52 rfl (h1.one 1 rfl)) rfl (J_st (R_fieldAddr0 fl58_1 rfl) rfl (J_st (R_load sc52 rfl (h2.one 1 rfl)) rfl ?_)))
    refine J_call Try.call76 rfl (c_eqRecordS o2 x.staged o10 y.staged _ (hd2.rd.ext E) (hd10.rd.ext E)) rfl (fun _ w4 e4 hv => ?_)
    subst hv
    replace E := E.trans e4; replace h1 := h1.ext e4; replace h2 := h2.ext e4
    have z4 := e4.size
    refine J_st (R_not rfl) rfl (J_done ?_)
    refine S_cond rfl (fun hc2 => ?_) (fun hc2 => ?_)
    · refine S_seq ?_
      refine S_reg [true] rfl rfl ?_
      refine J_st (R_assign rfl) rfl (J_done ?_)
      refine S_ret (E_done1 rfl rfl E ?_)
      cases x; cases y; simp_all
    · refine S_skip ?_
      refine S_seq ?_
      refine S_seq ?_
      refine S_reg [true, true, true, true, false, true] rfl rfl ?_
      refine J_st (R_fieldAddr0 fl58_2 rfl) rfl (J_st (R_load sc52 rfl (h1.one 2 rfl)) rfl (J_st (R_fieldAddr0 fl58_2 rfl) rfl (J_st (R_load sc52 rfl (h2.one 2 rfl)) rfl ?_)))
      refine J_call Try.call76 rfl (c_eqRecordS o3 x.inputs o11 y.inputs _ (hd3.rd.ext E) (hd11.rd.ext E)) rfl (fun _ w5 e5 hv => ?_)
      subst hv
      replace E := E.trans e5; replace h1 := h1.ext e5; replace h2 := h2.ext e5
      have z5 := e5.size
      refine J_st (R_not rfl) rfl (J_done ?_)
      refine S_cond rfl (fun hc3 => ?_) (fun hc3 => ?_)
      · refine S_seq ?_
        refine S_reg [true] rfl rfl ?_
        refine J_st (R_assign rfl) rfl (J_done ?_)
        refine S_ret (E_done1 rfl rfl E ?_)
        cases x; cases y; simp_all
      · refine S_skip ?_
        refine S_seq ?_
        refine S_seq ?_
        refine S_reg [true, true, true, true, false, true] rfl rfl ?_
        refine J_st (R_fieldAddr0 fl58_3 rfl) rfl (J_st (R_load sc53 rfl (h1.one 3 rfl)) rfl (J_st (R_fieldAddr0 fl58_3 rfl) rfl (J_st (R_load sc53 rfl (h2.one 3 rfl)) rfl ?_)))
        refine J_call Try.call77 rfl (c_eqCellS o4 x.cells o12 y.cells _ (hd4.rd.ext E) (hd12.rd.ext E)) rfl (fun _ w6 e6 hv => ?_)
        subst hv
        replace E := E.trans e6; replace h1 := h1.ext e6; replace h2 := h2.ext e6
        have z6 := e6.size
        refine J_st (R_not rfl) rfl (J_done ?_)
        refine S_cond rfl (fun hc4 => ?_) (fun hc4 => ?_)
        · refine S_seq ?_
          refine S_reg [true] rfl rfl ?_
          refine J_st (R_assign rfl) rfl (J_done ?_)
          refine S_ret (E_done1 rfl rfl E ?_)
          cases x; cases y; simp_all
        · refine S_skip ?_
          refine S_seq ?_
          refine S_seq ?_
          refine S_reg [true, true, true, true, false, true] rfl rfl ?_
          refine J_st (R_fieldAddr0 fl58_4 rfl) rfl (J_st (R_load sc54 rfl (h1.one 4 rfl)) rfl (J_st (R_fieldAddr0 fl58_4 rfl) rfl (J_st (R_load sc54 rfl (h2.one 4 rfl)) rfl ?_)))
          refine J_call Try.call78 rfl (c_eqIntS o5 x.sums o13 y.sums _ (hd5.rd.ext E) (hd13.rd.ext E)) rfl (fun _ w7 e7 hv => ?_)
          subst hv
          replace E := E.trans e7; replace h1 := h1.ext e7; replace h2 := h2.ext e7
          have z7 := e7.size
          refine J_st (R_not rfl) rfl (J_done ?_)
          refine S_cond rfl (fun hc5 => ?_) (fun hc5 => ?_)
          · refine S_seq ?_
            refine S_reg [true] rfl rfl ?_
            refine J_st (R_assign rfl) rfl (J_done ?_)
            refine S_ret (E_done1 rfl rfl E ?_)
            cases x; cases y; simp_all
          · refine S_skip ?_
            refine S_seq ?_
            refine S_seq ?_
            refine S_reg [true, true, true, true, false, true] rfl rfl ?_
            refine J_st (R_fieldAddr0 fl58_5 rfl) rfl (J_st (R_load sc55 rfl (h1.one 5 rfl)) rfl (J_st (R_fieldAddr0 fl58_5 rfl) rfl (J_st (R_load sc55 rfl (h2.one 5 rfl)) rfl ?_)))
            refine J_call Try.call79 rfl (c_eqBoolS o6 x.black o14 y.black _ (hd6.rd.ext E) (hd14.rd.ext E)) rfl (fun _ w8 e8 hv => ?_)
            subst hv
            replace E := E.trans e8; replace h1 := h1.ext e8; replace h2 := h2.ext e8
            have z8 := e8.size
            refine J_st (R_not rfl) rfl (J_done ?_)
            refine S_cond rfl (fun hc6 => ?_) (fun hc6 => ?_)
            · refine S_seq ?_
              refine S_reg [true] rfl rfl ?_
              refine J_st (R_assign rfl) rfl (J_done ?_)
              refine S_ret (E_done1 rfl rfl E ?_)
              cases x; cases y; simp_all
            · refine S_skip ?_
              refine S_seq ?_
              refine S_seq ?_
              refine S_reg [true, true, true, true, false, true] rfl rfl ?_
              refine J_st (R_fieldAddr0 fl58_6 rfl) rfl (J_st (R_load sc55 rfl (h1.one 6 rfl)) rfl (J_st (R_fieldAddr0 fl58_6 rfl) rfl (J_st (R_load sc55 rfl (h2.one 6 rfl)) rfl ?_)))
              refine J_call Try.call79 rfl (c_eqBoolS o7 x.caps o15 y.caps _ (hd7.rd.ext E) (hd15.rd.ext E)) rfl (fun _ w9 e9 hv => ?_)
              subst hv
              replace E := E.trans e9; replace h1 := h1.ext e9; replace h2 := h2.ext e9
              have z9 := e9.size
              refine J_st (R_not rfl) rfl (J_done ?_)
              refine S_cond rfl (fun hc7 => ?_) (fun hc7 => ?_)
              · refine S_seq ?_
                refine S_reg [true] rfl rfl ?_
                refine J_st (R_assign rfl) rfl (J_done ?_)
                refine S_ret (E_done1 rfl rfl E ?_)
                cases x; cases y; simp_all
              · refine S_skip ?_
                refine S_seq ?_
                refine S_seq ?_
                refine S_reg [true, true, true, true, false, true] rfl rfl ?_
                refine J_st (R_fieldAddr0 fl58_7 rfl) rfl (J_st (R_load sc56 rfl (h1.one 7 rfl)) rfl (J_st (R_fieldAddr0 fl58_7 rfl) rfl (J_st (R_load sc56 rfl (h2.one 7 rfl)) rfl ?_)))
                refine J_call Try.call80 rfl (c_eqDoneS o8 x.dones o16 y.dones _ (hd8.rd.ext E) (hd16.rd.ext E)) rfl (fun _ w10 e10 hv => ?_)
                subst hv
                replace E := E.trans e10; replace h1 := h1.ext e10; replace h2 := h2.ext e10
                have z10 := e10.size
                refine J_st (R_not rfl) rfl (J_done ?_)
                refine S_cond rfl (fun hc8 => ?_) (fun hc8 => ?_)
                · refine S_seq ?_
                  refine S_reg [true] rfl rfl ?_
                  refine J_st (R_assign rfl) rfl (J_done ?_)
                  refine S_ret (E_done1 rfl rfl E ?_)
                  cases x; cases y; simp_all
                · refine S_skip ?_
                  refine S_seq ?_
                  refine S_reg [true] rfl rfl ?_
                  refine J_st (R_assign rfl) rfl (J_done ?_)
                  refine S_ret (E_done1 rfl rfl E ?_)
                  cases x; cases y; simp_all

set_option maxRecDepth 20000 in
theorem c_IndexFuncDone (vxs : Value) (xs : List Done) (fp : Value) (p : Done → Bool) (w : World) (hxs : RdS w vxs xs) (hp : PredF Try.prog w fp p) : Ct Try.prog 86 [vxs, fp] w (fun v _ => v = .int .i64 (findI xs p)) := by
  refine ct_of Try.func86 rfl Try.ntmps86 rfl ?_
  obtain ⟨fid, fs, fc, rfl, hcf, hpf⟩ := hp
  refine S_sub [(0, vxs), (1, .func (.func fid) fs.toArray fc.toArray)] ⟨rfl, rfl, trivial⟩ ?_
  have E : Ext w w := Ext.refl w
  refine S_seq ?_
  refine S_reg [true] rfl rfl ?_
  refine J_st (R_assign rfl) rfl (J_done ?_)
  refine S_seq ?_
  refine S_seq ?_
  refine S_reg [true, true, true] rfl rfl ?_
  refine J_st (R_move rfl) rfl (J_st (R_len Try.underlying56 rfl (hxs.ext E).len) rfl (J_st (R_move rfl) rfl (J_done ?_)))
  refine S_block ?_
  refine S_loop (fun (k : Nat) => [(0, vxs), (1, .func (.func fid) fs.toArray fc.toArray), (4, .int .i64 0), (7, .int .i64 ((xs.length : Nat) : Int)), (8, .int .i64 ((k : Nat) : Int))]) (fun (k : Nat) w' => Ext w w' ∧ w.heap.size ≤ w'.heap.size ∧ k ≤ xs.length ∧ (xs.take k).any p = false) (fun (k : Nat) => xs.length - k) 0 ⟨rfl, rfl, rfl, rfl, rfl, trivial⟩ ⟨E, Nat.le_refl _, Nat.zero_le _, rfl⟩ ?_
  clear E
  rintro k w1 ⟨E, z1, hk, hI⟩
  refine S_seq ?_
  refine S_reg [true] rfl rfl ?_
  refine J_st (R_lss rfl rfl) rfl (J_done ?_)
  refine S_seq ?_
  refine S_cond rfl (fun hc1 => ?_) (fun hc1 => ?_)
  · have hc1n : k < xs.length := by first | (have h := of_decide_eq_true hc1; omega) | (have h := hc1; simp at h; omega)
    refine S_skip ?_
    refine S_seq ?_
    refine S_block ?_
    refine S_seq ?_
    refine S_reg [true, true] rfl rfl ?_
    refine J_st (R_move rfl) rfl (J_st (R_assign rfl) rfl (J_done ?_))
    refine S_seq ?_
    refine S_reg [true, true, true, true, true, false] rfl rfl ?_
    refine J_st (R_move rfl) rfl (J_st (R_move rfl) rfl (J_st (R_move rfl) rfl ?_))
    have hi1 : k < xs.length := (by first | assumption | omega)
    refine J_st (R_index (i := k) sl56 rfl rfl (hxs.ext E) hi1) rfl (J_st (R_loadS st97 rfl ((hxs.ext E).get hi1) rfl) rfl ?_)
    refine J_callV (fs := fs) (cs := fc) hcf rfl rfl (hpf (xs[k]'hi1) _ E) rfl (fun _ w2 e1 hv => ?_)
    subst hv
    replace E := E.trans e1
    have z2 := e1.size
    refine J_done ?_
    refine S_cond rfl (fun hc2 => ?_) (fun hc2 => ?_)
    · refine S_seq ?_
      refine S_reg [true, true] rfl rfl ?_
      refine J_st (R_move rfl) rfl (J_st (R_assign rfl) rfl (J_done ?_))
      refine S_ret (E_inB_ret (E_lp_ret (E_inB_ret (E_done1 rfl rfl E ?_))))
      exact find_yes hI (by assumption) hc2
    · refine S_skip ?_
      refine S_nil (E_inB ?_)
      refine S_reg [true, true] rfl rfl ?_
      refine J_st (R_add rfl rfl (add_one hc1n hxs.1)) rfl (J_st (R_move rfl) rfl (J_done ?_))
      refine S_nil (E_again (k + 1) (by omega) ⟨rfl, rfl, rfl, rfl, rfl, trivial⟩ ⟨E, (by omega), (by omega), any_step hI (by assumption) hc2⟩)
  · have hc1n : ¬ k < xs.length := by first | (have h := of_decide_eq_false hc1; omega) | (have h := hc1; simp at h; omega)
    refine S_exit (E_lp_exit (E_inB_exit ?_))
    refine S_seq ?_
    refine S_reg [true] rfl rfl ?_
    refine J_st (R_assign rfl) rfl (J_done ?_)
    refine S_ret (E_done1 rfl rfl E ?_)
    exact find_no hI (by omega)

set_option maxRecDepth 20000 in
theorem c_ContainsFuncDone (vxs : Value) (xs : List Done) (fp : Value) (p : Done → Bool) (w : World) (hxs : RdS w vxs xs) (hp : PredF Try.prog w fp p) : Ct Try.prog 71 [vxs, fp] w (fun v _ => v = .bool (xs.any p)) := by
  refine ct_of Try.func71 rfl Try.ntmps71 rfl ?_
  obtain ⟨fid, fs, fc, rfl, hcf, hpf⟩ := hp
  refine S_sub [(0, vxs), (1, .func (.func fid) fs.toArray fc.toArray)] ⟨rfl, rfl, trivial⟩ ?_
  have E : Ext w w := Ext.refl w
  refine S_seq ?_
  refine S_reg [true] rfl rfl ?_
  refine J_st (R_assign rfl) rfl (J_done ?_)
  refine S_seq ?_
  refine S_reg [true, true, false, true, true] rfl rfl ?_
  refine J_st (R_move rfl) rfl (J_st (R_move rfl) rfl ?_)
  refine J_call Try.call86 (by rfl) (c_IndexFuncDone vxs xs (.func (.func fid) fs.toArray fc.toArray) (p) _ (hxs.ext E) ⟨fid, fs, fc, rfl, hcf, fun y w' e => hpf y w' (E.trans e)⟩) rfl (fun _ w1 e1 hv => ?_)
  subst hv
  replace E := E.trans e1
  have z1 := e1.size
  refine J_st (R_geq rfl rfl) rfl (J_st (R_assign rfl) rfl (J_done ?_))
  refine S_ret (E_done1 rfl rfl E ?_)
  exact any_find

set_option maxRecDepth 20000 in
theorem c_doneAt1 (r : Done) (be : Nat) (e : Int) (w : World) (he : At w be 0 [.int .i64 e]) : Ct Try.prog 72 [.agg (Enc.enc r).toArray, .pointer (some ⟨be, 0, none⟩)] w (fun v _ => v = .bool (r.epoch == e)) := by
  refine ct_of Try.func72 rfl Try.ntmps72 rfl ?_
  refine S_sub [(0, .agg (Enc.enc r).toArray), (1, .pointer (some ⟨be, 0, none⟩))] ⟨rfl, rfl, trivial⟩ ?_
  have E : Ext w w := Ext.refl w
  refine S_seq ?_
  refine S_reg [false, true] rfl rfl ?_
  refine J_box rfl rfl (fun b1 w1 e1 s1 h1 => ?_)
  have g_b1 : w.heap.size ≤ b1 := by have := E.size; omega
  have y_b1 := h1.lt
  replace E := E.trans e1
  have z1 := e1.size
  refine J_st (R_assign rfl) rfl (J_done ?_)
  refine S_seq ?_
  refine S_reg [true, true, true, true, true] rfl rfl ?_
  refine J_st (R_fieldAddr0 fl97_0 rfl) rfl (J_st (R_load sc3 rfl (h1.one 0 rfl)) rfl (J_st (R_load sc3 rfl ((he.ext E).one 0 rfl)) rfl (J_st (R_eql rfl rfl) rfl (J_st (R_assign rfl) rfl (J_done ?_)))))
  refine S_ret (E_done1 rfl rfl E ?_)
  rfl

set_option maxRecDepth 20000 in
theorem c_doneAt (vxs : Value) (xs : List Done) (e : Int) (w : World) (hxs : RdS w vxs xs) : Ct Try.prog 47 [vxs, .int .i64 e] w (fun v _ => v = .bool (xs.any (fun d => d.epoch == e))) := by
  refine ct_of Try.func47 rfl Try.ntmps47 rfl ?_
  refine S_sub [(0, vxs), (1, .int .i64 e)] ⟨rfl, rfl, trivial⟩ ?_
  have E : Ext w w := Ext.refl w
  refine S_seq ?_
  refine S_reg [false, true] rfl rfl ?_
  refine J_box1 rfl rfl rfl (fun b1 w1 e1 s1 h1 => ?_)
  have g_b1 : w.heap.size ≤ b1 := by have := E.size; omega
  have y_b1 := h1.lt
  replace E := E.trans e1
  have z1 := e1.size
  refine J_st (R_assign rfl) rfl (J_done ?_)
  refine S_seq ?_
  refine S_reg [true, true, false, true] rfl rfl ?_
  refine J_st (R_move rfl) rfl (J_st (R_makeFunc rfl rfl) rfl ?_)
  refine J_call Try.call71 (by rfl) (c_ContainsFuncDone vxs xs (.func (.func 72) [].toArray [.pointer (some ⟨b1, 0, none⟩)].toArray) ((fun (y : Done) => y.epoch == e)) _ (hxs.ext E) ⟨72, [], [.pointer (some ⟨b1, 0, none⟩)], rfl, Try.call72, fun y wX eX => c_doneAt1 y b1 e wX (At.ext (Blk.at h1) eX)⟩) rfl (fun _ w2 e2 hv => ?_)
  subst hv
  replace E := E.trans e2; replace h1 := h1.ext e2
  have z2 := e2.size
  refine J_st (R_assign rfl) rfl (J_done ?_)
  refine S_ret (E_done1 rfl rfl E ?_)
  rfl

set_option maxRecDepth 20000 in
theorem c_StampOk (s : Stamp) (w : World)  : Ct Try.prog 73 [.agg (Enc.enc s).toArray] w (fun v _ => v = .bool (stampOk s)) := by
  refine ct_of Try.func73 rfl Try.ntmps73 rfl ?_
  refine S_sub [(0, .agg (Enc.enc s).toArray)] ⟨rfl, trivial⟩ ?_
  have E : Ext w w := Ext.refl w
  refine S_seq ?_
  refine S_reg [false, true] rfl rfl ?_
  refine J_box rfl rfl (fun b1 w1 e1 s1 h1 => ?_)
  have g_b1 : w.heap.size ≤ b1 := by have := E.size; omega
  have y_b1 := h1.lt
  replace E := E.trans e1
  have z1 := e1.size
  refine J_st (R_assign rfl) rfl (J_done ?_)
  refine S_seq ?_
  refine S_reg [true, true, false, true, true, true, false, true, true] rfl rfl ?_
  refine J_st (R_fieldAddr0 fl93_0 rfl) rfl (J_st (R_load sc3 rfl (h1.one 0 rfl)) rfl ?_)
  refine J_call Try.call28 rfl (c_within s.epoch 0 3 _ ) rfl (fun _ w2 e2 hv => ?_)
  subst hv
  replace E := E.trans e2; replace h1 := h1.ext e2
  have z2 := e2.size
  refine J_st (R_move rfl) rfl ?_
  refine J_cut 4 [(0, .agg (Enc.enc s).toArray), (1, .pointer (some ⟨b1, 0, none⟩)), (2, .bool false), (10, .bool ((win s.epoch 0 3) && (win s.turn 0 6)))] (fun w' => Ext w w' ∧ w2.heap.size ≤ w'.heap.size ∧ Blk w' b1 (Enc.enc s)) ?_ ?_
  · refine J_if (gd := 6) rfl rfl (fun hg1 => ?_) (fun hg1 => ?_)
    · refine J_gd rfl rfl (R_fieldAddr0 fl93_1 rfl) rfl (J_gd rfl rfl (R_load sc3 rfl (h1.one 1 rfl)) rfl ?_)
      refine J_ung rfl rfl ?_
      refine J_call Try.call28 rfl (c_within s.turn 0 6 _ ) rfl (fun _ w4 e3 hv => ?_)
      subst hv
      replace E := E.trans e3; replace h1 := h1.ext e3
      have z3 := e3.size
      refine J_st (R_pickT rfl rfl) rfl (J_cutEnd ⟨rfl, rfl, rfl, congrArg (fun b => some (Value.bool b)) (show (win s.turn 0 6) = ((win s.epoch 0 3) && (win s.turn 0 6)) by first | (rw [hg1] <;> rfl) | (simp [hg1]; done) | (simp only [nat_nlt] <;> simp)), trivial⟩ ⟨E, (by omega), h1⟩)
    · refine J_gdno rfl rfl rfl rfl (J_gdno rfl rfl rfl rfl ?_)
      refine J_ungno rfl rfl rfl rfl ?_
      refine J_st (R_pickF rfl rfl) rfl (J_cutEnd ⟨rfl, rfl, rfl, congrArg (fun b => some (Value.bool b)) (show false = ((win s.epoch 0 3) && (win s.turn 0 6)) by first | (rw [hg1] <;> rfl) | (simp [hg1]; done) | (simp only [nat_nlt] <;> simp)), trivial⟩ ⟨E, (by omega), h1⟩)
  clear E h1
  rintro w3 ⟨E, z4, h1⟩
  refine J_st (R_assign rfl) rfl (J_done ?_)
  refine S_ret (E_done1 rfl rfl E ?_)
  rfl

set_option maxRecDepth 20000 in
theorem s_StampOk (s : Stamp) (w : World)  : Ct Try.prog 63 [.agg (Enc.enc s).toArray] w (fun v _ => v = .bool (stampOk s)) := by
  refine ct_of Try.func63 rfl Try.ntmps63 rfl ?_
  refine S_sub [(0, .agg (Enc.enc s).toArray)] ⟨rfl, trivial⟩ ?_
  have E : Ext w w := Ext.refl w
  refine S_seq ?_
  refine S_reg [false, true] rfl rfl ?_
  refine J_box rfl rfl (fun b1 w1 e1 s1 h1 => ?_)
  have g_b1 : w.heap.size ≤ b1 := by have := E.size; omega
  have y_b1 := h1.lt
  replace E := E.trans e1
  have z1 := e1.size
  refine J_st (R_assign rfl) rfl (J_done ?_)
  refine S_seq ?_
  refine S_reg [true, true, false, true, true, true, false, true, true] rfl rfl ?_
  refine J_st (R_fieldAddr0 fl93_0 rfl) rfl (J_st (R_load sc3 rfl (h1.one 0 rfl)) rfl ?_)
  refine J_call Try.call18 rfl (s_l01In s.epoch 0 3 _ ) rfl (fun _ w2 e2 hv => ?_)
  subst hv
  replace E := E.trans e2; replace h1 := h1.ext e2
  have z2 := e2.size
  refine J_st (R_move rfl) rfl ?_
  refine J_cut 4 [(0, .agg (Enc.enc s).toArray), (1, .pointer (some ⟨b1, 0, none⟩)), (2, .bool false), (10, .bool ((win s.epoch 0 3) && (win s.turn 0 6)))] (fun w' => Ext w w' ∧ w2.heap.size ≤ w'.heap.size ∧ Blk w' b1 (Enc.enc s)) ?_ ?_
  · refine J_if (gd := 6) rfl rfl (fun hg1 => ?_) (fun hg1 => ?_)
    · refine J_gd rfl rfl (R_fieldAddr0 fl93_1 rfl) rfl (J_gd rfl rfl (R_load sc3 rfl (h1.one 1 rfl)) rfl ?_)
      refine J_ung rfl rfl ?_
      refine J_call Try.call18 rfl (s_l01In s.turn 0 6 _ ) rfl (fun _ w4 e3 hv => ?_)
      subst hv
      replace E := E.trans e3; replace h1 := h1.ext e3
      have z3 := e3.size
      refine J_st (R_pickT rfl rfl) rfl (J_cutEnd ⟨rfl, rfl, rfl, congrArg (fun b => some (Value.bool b)) (show (win s.turn 0 6) = ((win s.epoch 0 3) && (win s.turn 0 6)) by first | (rw [hg1] <;> rfl) | (simp [hg1]; done) | (simp only [nat_nlt] <;> simp)), trivial⟩ ⟨E, (by omega), h1⟩)
    · refine J_gdno rfl rfl rfl rfl (J_gdno rfl rfl rfl rfl ?_)
      refine J_ungno rfl rfl rfl rfl ?_
      refine J_st (R_pickF rfl rfl) rfl (J_cutEnd ⟨rfl, rfl, rfl, congrArg (fun b => some (Value.bool b)) (show false = ((win s.epoch 0 3) && (win s.turn 0 6)) by first | (rw [hg1] <;> rfl) | (simp [hg1]; done) | (simp only [nat_nlt] <;> simp)), trivial⟩ ⟨E, (by omega), h1⟩)
  clear E h1
  rintro w3 ⟨E, z4, h1⟩
  refine J_st (R_assign rfl) rfl (J_done ?_)
  refine S_ret (E_done1 rfl rfl E ?_)
  rfl

set_option maxRecDepth 20000 in
theorem c_itemOk (a : Int) (b : Int) (w : World)  : Ct Try.prog 74 [.int .i64 a, .int .i64 b] w (fun v _ => v = .bool (win a 0 99 && win b 0 999)) := by
  refine ct_of Try.func74 rfl Try.ntmps74 rfl ?_
  refine S_sub [(0, .int .i64 a), (1, .int .i64 b)] ⟨rfl, rfl, trivial⟩ ?_
  have E : Ext w w := Ext.refl w
  refine S_seq ?_
  refine S_reg [true] rfl rfl ?_
  refine J_st (R_assign rfl) rfl (J_done ?_)
  refine S_seq ?_
  refine S_reg [true, false, true, true, false, true, true] rfl rfl ?_
  refine J_st (R_move rfl) rfl ?_
  refine J_call Try.call28 rfl (c_within a 0 99 _ ) rfl (fun _ w1 e1 hv => ?_)
  subst hv
  replace E := E.trans e1
  have z1 := e1.size
  refine J_st (R_move rfl) rfl ?_
  refine J_cut 3 [(0, .int .i64 a), (1, .int .i64 b), (4, .bool false), (10, .bool ((win a 0 99) && (win b 0 999)))] (fun w' => Ext w w' ∧ w1.heap.size ≤ w'.heap.size) ?_ ?_
  · refine J_if (gd := 7) rfl rfl (fun hg1 => ?_) (fun hg1 => ?_)
    · refine J_gd rfl rfl (R_move rfl) rfl ?_
      refine J_ung rfl rfl ?_
      refine J_call Try.call28 rfl (c_within b 0 999 _ ) rfl (fun _ w3 e2 hv => ?_)
      subst hv
      replace E := E.trans e2
      have z2 := e2.size
      refine J_st (R_pickT rfl rfl) rfl (J_cutEnd ⟨rfl, rfl, rfl, congrArg (fun b => some (Value.bool b)) (show (win b 0 999) = ((win a 0 99) && (win b 0 999)) by first | (rw [hg1] <;> rfl) | (simp [hg1]; done) | (simp only [nat_nlt] <;> simp)), trivial⟩ ⟨E, (by omega)⟩)
    · refine J_gdno rfl rfl rfl rfl ?_
      refine J_ungno rfl rfl rfl rfl ?_
      refine J_st (R_pickF rfl rfl) rfl (J_cutEnd ⟨rfl, rfl, rfl, congrArg (fun b => some (Value.bool b)) (show false = ((win a 0 99) && (win b 0 999)) by first | (rw [hg1] <;> rfl) | (simp [hg1]; done) | (simp only [nat_nlt] <;> simp)), trivial⟩ ⟨E, (by omega)⟩)
  clear E
  rintro w2 ⟨E, z3⟩
  refine J_st (R_assign rfl) rfl (J_done ?_)
  refine S_ret (E_done1 rfl rfl E ?_)
  rfl

set_option maxRecDepth 20000 in
theorem c_RecordOk (r : Record) (w : World)  : Ct Try.prog 49 [.agg (Enc.enc r).toArray] w (fun v _ => v = .bool (recordOk r)) := by
  refine ct_of Try.func49 rfl Try.ntmps49 rfl ?_
  refine S_sub [(0, .agg (Enc.enc r).toArray)] ⟨rfl, trivial⟩ ?_
  have E : Ext w w := Ext.refl w
  refine S_seq ?_
  refine S_reg [false, true] rfl rfl ?_
  refine J_box rfl rfl (fun b1 w1 e1 s1 h1 => ?_)
  have g_b1 : w.heap.size ≤ b1 := by have := E.size; omega
  have y_b1 := h1.lt
  replace E := E.trans e1
  have z1 := e1.size
  refine J_st (R_assign rfl) rfl (J_done ?_)
  refine S_seq ?_
  refine S_reg [true, true, false, true, true, true, false, true, true, true, true, true, true, false, true, true] rfl rfl ?_
  refine J_st (R_fieldAddr0 fl95_0 rfl) rfl (J_st (R_load sc3 rfl (h1.one 0 rfl)) rfl ?_)
  refine J_call Try.call28 rfl (c_within r.op 0 7 _ ) rfl (fun _ w2 e2 hv => ?_)
  subst hv
  replace E := E.trans e2; replace h1 := h1.ext e2
  have z2 := e2.size
  refine J_st (R_move rfl) rfl ?_
  refine J_cut 11 [(0, .agg (Enc.enc r).toArray), (1, .pointer (some ⟨b1, 0, none⟩)), (2, .bool false), (17, .bool (((win r.op 0 7) && (stampOk r.stamp)) && (win r.key 0 99 && win r.val 0 999)))] (fun w' => Ext w w' ∧ w2.heap.size ≤ w'.heap.size ∧ Blk w' b1 (Enc.enc r)) ?_ ?_
  · refine J_if (gd := 6) rfl rfl (fun hg1 => ?_) (fun hg1 => ?_)
    · refine J_gd rfl rfl (R_fieldAddr0 fl95_1 rfl) rfl (J_gd rfl rfl (R_loadS st93 rfl (h1.part 1 [.int .i64 r.stamp.epoch, .int .i64 r.stamp.turn] rfl) rfl) rfl ?_)
      refine J_ung rfl rfl ?_
      refine J_call Try.call73 rfl (c_StampOk r.stamp _ ) rfl (fun _ w4 e3 hv => ?_)
      subst hv
      replace E := E.trans e3; replace h1 := h1.ext e3
      have z3 := e3.size
      refine J_st (R_pickT rfl rfl) rfl (J_st (R_move rfl) rfl ?_)
      refine J_if (gd := 11) rfl rfl (fun hg2 => ?_) (fun hg2 => ?_)
      · refine J_gd rfl rfl (R_fieldAddr0 fl95_2 rfl) rfl (J_gd rfl rfl (R_load sc3 rfl (h1.one 3 rfl)) rfl (J_gd rfl rfl (R_fieldAddr0 fl95_3 rfl) rfl (J_gd rfl rfl (R_load sc3 rfl (h1.one 4 rfl)) rfl ?_)))
        refine J_ung rfl rfl ?_
        refine J_call Try.call74 rfl (c_itemOk r.key r.val _ ) rfl (fun _ w5 e4 hv => ?_)
        subst hv
        replace E := E.trans e4; replace h1 := h1.ext e4
        have z4 := e4.size
        refine J_st (R_pickT rfl rfl) rfl (J_cutEnd ⟨rfl, rfl, rfl, congrArg (fun b => some (Value.bool b)) (show (win r.key 0 99 && win r.val 0 999) = (((win r.op 0 7) && (stampOk r.stamp)) && (win r.key 0 99 && win r.val 0 999)) by first | (rw [hg1, hg2] <;> rfl) | (simp [hg1, hg2]; done) | (simp only [nat_nlt] <;> simp)), trivial⟩ ⟨E, (by omega), h1⟩)
      · refine J_gdno rfl rfl rfl rfl (J_gdno rfl rfl rfl rfl (J_gdno rfl rfl rfl rfl (J_gdno rfl rfl rfl rfl ?_)))
        refine J_ungno rfl rfl rfl rfl ?_
        refine J_st (R_pickF rfl rfl) rfl (J_cutEnd ⟨rfl, rfl, rfl, congrArg (fun b => some (Value.bool b)) (show false = (((win r.op 0 7) && (stampOk r.stamp)) && (win r.key 0 99 && win r.val 0 999)) by first | (rw [hg1, hg2] <;> rfl) | (simp [hg1, hg2]; done) | (simp only [nat_nlt] <;> simp)), trivial⟩ ⟨E, (by omega), h1⟩)
    · refine J_gdno rfl rfl rfl rfl (J_gdno rfl rfl rfl rfl ?_)
      refine J_ungno rfl rfl rfl rfl ?_
      refine J_st (R_pickF rfl rfl) rfl (J_st (R_move rfl) rfl (J_gdno rfl rfl rfl rfl (J_gdno rfl rfl rfl rfl (J_gdno rfl rfl rfl rfl (J_gdno rfl rfl rfl rfl ?_)))))
      refine J_ungno rfl rfl rfl rfl ?_
      refine J_st (R_pickF rfl rfl) rfl (J_cutEnd ⟨rfl, rfl, rfl, congrArg (fun b => some (Value.bool b)) (show false = (((win r.op 0 7) && (stampOk r.stamp)) && (win r.key 0 99 && win r.val 0 999)) by first | (rw [hg1] <;> rfl) | (simp [hg1]; done) | (simp only [nat_nlt] <;> simp)), trivial⟩ ⟨E, (by omega), h1⟩)
  clear E h1
  rintro w3 ⟨E, z5, h1⟩
  refine J_st (R_assign rfl) rfl (J_done ?_)
  refine S_ret (E_done1 rfl rfl E ?_)
  rfl

set_option maxRecDepth 20000 in
theorem s_RecordOk (r : Record) (w : World)  : Ct Try.prog 39 [.agg (Enc.enc r).toArray] w (fun v _ => v = .bool (recordOk r)) := by
  refine ct_of Try.func39 rfl Try.ntmps39 rfl ?_
  refine S_sub [(0, .agg (Enc.enc r).toArray)] ⟨rfl, trivial⟩ ?_
  have E : Ext w w := Ext.refl w
  refine S_seq ?_
  refine S_reg [false, true] rfl rfl ?_
  refine J_box rfl rfl (fun b1 w1 e1 s1 h1 => ?_)
  have g_b1 : w.heap.size ≤ b1 := by have := E.size; omega
  have y_b1 := h1.lt
  replace E := E.trans e1
  have z1 := e1.size
  refine J_st (R_assign rfl) rfl (J_done ?_)
  refine S_seq ?_
  refine S_reg [true, true, false, true, true, true, false, true, true, true, true, false, true, true, true, true, false, true, true] rfl rfl ?_
  refine J_st (R_fieldAddr0 fl95_0 rfl) rfl (J_st (R_load sc3 rfl (h1.one 0 rfl)) rfl ?_)
  refine J_call Try.call18 rfl (s_l01In r.op 0 7 _ ) rfl (fun _ w2 e2 hv => ?_)
  subst hv
  replace E := E.trans e2; replace h1 := h1.ext e2
  have z2 := e2.size
  refine J_st (R_move rfl) rfl ?_
  refine J_cut 14 [(0, .agg (Enc.enc r).toArray), (1, .pointer (some ⟨b1, 0, none⟩)), (2, .bool false), (20, .bool ((((win r.op 0 7) && (stampOk r.stamp)) && (win r.key 0 99)) && (win r.val 0 999)))] (fun w' => Ext w w' ∧ w2.heap.size ≤ w'.heap.size ∧ Blk w' b1 (Enc.enc r)) ?_ ?_
  · refine J_if (gd := 6) rfl rfl (fun hg1 => ?_) (fun hg1 => ?_)
    · refine J_gd rfl rfl (R_fieldAddr0 fl95_1 rfl) rfl (J_gd rfl rfl (R_loadS st93 rfl (h1.part 1 [.int .i64 r.stamp.epoch, .int .i64 r.stamp.turn] rfl) rfl) rfl ?_)
      refine J_ung rfl rfl ?_
      refine J_call Try.call63 rfl (s_StampOk r.stamp _ ) rfl (fun _ w4 e3 hv => ?_)
      subst hv
      replace E := E.trans e3; replace h1 := h1.ext e3
      have z3 := e3.size
      refine J_st (R_pickT rfl rfl) rfl (J_st (R_move rfl) rfl ?_)
      refine J_if (gd := 11) rfl rfl (fun hg2 => ?_) (fun hg2 => ?_)
      · refine J_gd rfl rfl (R_fieldAddr0 fl95_2 rfl) rfl (J_gd rfl rfl (R_load sc3 rfl (h1.one 3 rfl)) rfl ?_)
        refine J_ung rfl rfl ?_
        refine J_call Try.call18 rfl (s_l01In r.key 0 99 _ ) rfl (fun _ w5 e4 hv => ?_)
        subst hv
        replace E := E.trans e4; replace h1 := h1.ext e4
        have z4 := e4.size
        refine J_st (R_pickT rfl rfl) rfl (J_st (R_move rfl) rfl ?_)
        refine J_if (gd := 16) rfl rfl (fun hg3 => ?_) (fun hg3 => ?_)
        · refine J_gd rfl rfl (R_fieldAddr0 fl95_3 rfl) rfl (J_gd rfl rfl (R_load sc3 rfl (h1.one 4 rfl)) rfl ?_)
          refine J_ung rfl rfl ?_
          refine J_call Try.call18 rfl (s_l01In r.val 0 999 _ ) rfl (fun _ w6 e5 hv => ?_)
          subst hv
          replace E := E.trans e5; replace h1 := h1.ext e5
          have z5 := e5.size
          refine J_st (R_pickT rfl rfl) rfl (J_cutEnd ⟨rfl, rfl, rfl, congrArg (fun b => some (Value.bool b)) (show (win r.val 0 999) = ((((win r.op 0 7) && (stampOk r.stamp)) && (win r.key 0 99)) && (win r.val 0 999)) by first | (rw [hg1, hg2, hg3] <;> rfl) | (simp [hg1, hg2, hg3]; done) | (simp only [nat_nlt] <;> simp)), trivial⟩ ⟨E, (by omega), h1⟩)
        · refine J_gdno rfl rfl rfl rfl (J_gdno rfl rfl rfl rfl ?_)
          refine J_ungno rfl rfl rfl rfl ?_
          refine J_st (R_pickF rfl rfl) rfl (J_cutEnd ⟨rfl, rfl, rfl, congrArg (fun b => some (Value.bool b)) (show false = ((((win r.op 0 7) && (stampOk r.stamp)) && (win r.key 0 99)) && (win r.val 0 999)) by first | (rw [hg1, hg2, hg3] <;> rfl) | (simp [hg1, hg2, hg3]; done) | (simp only [nat_nlt] <;> simp)), trivial⟩ ⟨E, (by omega), h1⟩)
      · refine J_gdno rfl rfl rfl rfl (J_gdno rfl rfl rfl rfl ?_)
        refine J_ungno rfl rfl rfl rfl ?_
        refine J_st (R_pickF rfl rfl) rfl (J_st (R_move rfl) rfl (J_gdno rfl rfl rfl rfl (J_gdno rfl rfl rfl rfl ?_)))
        refine J_ungno rfl rfl rfl rfl ?_
        refine J_st (R_pickF rfl rfl) rfl (J_cutEnd ⟨rfl, rfl, rfl, congrArg (fun b => some (Value.bool b)) (show false = ((((win r.op 0 7) && (stampOk r.stamp)) && (win r.key 0 99)) && (win r.val 0 999)) by first | (rw [hg1, hg2] <;> rfl) | (simp [hg1, hg2]; done) | (simp only [nat_nlt] <;> simp)), trivial⟩ ⟨E, (by omega), h1⟩)
    · refine J_gdno rfl rfl rfl rfl (J_gdno rfl rfl rfl rfl ?_)
      refine J_ungno rfl rfl rfl rfl ?_
      refine J_st (R_pickF rfl rfl) rfl (J_st (R_move rfl) rfl (J_gdno rfl rfl rfl rfl (J_gdno rfl rfl rfl rfl ?_)))
      refine J_ungno rfl rfl rfl rfl ?_
      refine J_st (R_pickF rfl rfl) rfl (J_st (R_move rfl) rfl (J_gdno rfl rfl rfl rfl (J_gdno rfl rfl rfl rfl ?_)))
      refine J_ungno rfl rfl rfl rfl ?_
      refine J_st (R_pickF rfl rfl) rfl (J_cutEnd ⟨rfl, rfl, rfl, congrArg (fun b => some (Value.bool b)) (show false = ((((win r.op 0 7) && (stampOk r.stamp)) && (win r.key 0 99)) && (win r.val 0 999)) by first | (rw [hg1] <;> rfl) | (simp [hg1]; done) | (simp only [nat_nlt] <;> simp)), trivial⟩ ⟨E, (by omega), h1⟩)
  clear E h1
  rintro w3 ⟨E, z6, h1⟩
  refine J_st (R_assign rfl) rfl (J_done ?_)
  refine S_ret (E_done1 rfl rfl E ?_)
  simp [recordOk, Bool.and_assoc]

set_option maxRecDepth 20000 in
theorem c_isNode (cg : List Value) (g : Graph) (op : Int) (w : World) (hg : Dat.R w 0 w.heap.size cg g) : Ct Try.prog 50 [.agg cg.toArray, .int .i64 op] w (fun v _ => v = .bool (isNodeM g op)) := by
  refine ct_of Try.func50 rfl Try.ntmps50 rfl ?_
  obtain ⟨o1, rfl, hd1⟩ := Graph.op hg
  refine S_sub [(0, .agg [o1, .int .i64 g.workers, .int .i64 g.cap].toArray), (1, .int .i64 op)] ⟨rfl, rfl, trivial⟩ ?_
  have E : Ext w w := Ext.refl w
  refine S_seq ?_
  refine S_reg [false, true] rfl rfl ?_
  refine J_box rfl rfl (fun b1 w1 e1 s1 h1 => ?_)
  have g_b1 : w.heap.size ≤ b1 := by have := E.size; omega
  have y_b1 := h1.lt
  replace E := E.trans e1
  have z1 := e1.size
  refine J_st (R_assign rfl) rfl (J_done ?_)
  refine S_seq ?_
  refine S_reg [true, true, true, true, true, false, true] rfl rfl ?_
  refine J_st (R_move rfl) rfl (J_st (R_fieldAddr0 fl35_0 rfl) rfl (J_st (R_load sc33 rfl (h1.one 0 rfl)) rfl (J_st (R_len Try.underlying33 rfl (hd1.ext E).len) rfl (J_st (R_sub rfl rfl rfl) rfl ?_))))
  refine J_call Try.call28 rfl (c_within op 0 (IntKind.i64.wrap (((g.nodes.length : Nat) : Int) - 1)) _ ) rfl (fun _ w2 e2 hv => ?_)
  subst hv
  replace E := E.trans e2; replace h1 := h1.ext e2
  have z2 := e2.size
  refine J_st (R_assign rfl) rfl (J_done ?_)
  refine S_ret (E_done1 rfl rfl E ?_)
  have a1 := hd1.1.1
  unfold maxLen at a1
  rw [wrap_in (by omega) (by omega)]; rfl

set_option maxRecDepth 20000 in
theorem c_opsOk (cg : List Value) (g : Graph) (vxs : Value) (xs : List Record) (w : World) (hg : Dat.R w 0 w.heap.size cg g) (hxs : RdS w vxs xs) : Ct Try.prog 27 [.agg cg.toArray, vxs] w (fun v _ => v = .bool (xs.all (opOk g))) := by
  refine ct_of Try.func27 rfl Try.ntmps27 rfl ?_
  obtain ⟨o1, rfl, hd1⟩ := Graph.op hg
  refine S_sub [(0, .agg [o1, .int .i64 g.workers, .int .i64 g.cap].toArray), (1, vxs)] ⟨rfl, rfl, trivial⟩ ?_
  have E : Ext w w := Ext.refl w
  refine S_seq ?_
  refine S_reg [false, true] rfl rfl ?_
  refine J_box rfl rfl (fun b1 w1 e1 s1 h1 => ?_)
  have g_b1 : w.heap.size ≤ b1 := by have := E.size; omega
  have y_b1 := h1.lt
  replace E := E.trans e1
  have z1 := e1.size
  refine J_st (R_assign rfl) rfl (J_done ?_)
  refine S_seq ?_
  refine S_seq ?_
  refine S_reg [true, true, true] rfl rfl ?_
  refine J_st (R_move rfl) rfl (J_st (R_len Try.underlying52 rfl (hxs.ext E).len) rfl (J_st (R_move rfl) rfl (J_done ?_)))
  refine S_block ?_
  refine S_loop (fun (k : Nat) => [(2, .pointer (some ⟨b1, 0, none⟩)), (4, .bool false), (7, vxs), (8, .int .i64 ((xs.length : Nat) : Int)), (9, .int .i64 ((k : Nat) : Int))]) (fun (k : Nat) w' => Ext w w' ∧ w1.heap.size ≤ w'.heap.size ∧ Blk w' b1 ([o1, .int .i64 g.workers, .int .i64 g.cap]) ∧ k ≤ xs.length ∧ (xs.take k).all (opOk g) = true) (fun (k : Nat) => xs.length - k) 0 ⟨rfl, rfl, rfl, rfl, rfl, trivial⟩ ⟨E, Nat.le_refl _, h1, Nat.zero_le _, rfl⟩ ?_
  clear E h1
  rintro k w2 ⟨E, z2, h1, hk, hI⟩
  refine S_seq ?_
  refine S_reg [true] rfl rfl ?_
  refine J_st (R_lss rfl rfl) rfl (J_done ?_)
  refine S_seq ?_
  refine S_cond rfl (fun hc1 => ?_) (fun hc1 => ?_)
  · have hc1n : k < xs.length := by first | (have h := of_decide_eq_true hc1; omega) | (have h := hc1; simp at h; omega)
    refine S_skip ?_
    refine S_seq ?_
    refine S_block ?_
    refine S_seq ?_
    refine S_reg [true, true, false, false] rfl rfl ?_
    have hi1 : k < xs.length := (by first | assumption | omega)
    refine J_st (R_index (i := k) sl52 rfl rfl (hxs.ext E) hi1) rfl (J_st (R_loadS st95 rfl ((hxs.ext E).get hi1) rfl) rfl ?_)
    refine J_alloc st95 rfl (fun b2 w3 e2 s2 h2 => ?_)
    have g_b2 : w.heap.size ≤ b2 := by have := E.size; omega
    have y_b2 := h2.lt
    replace E := E.trans e2; replace h1 := h1.ext e2
    have z3 := e2.size
    refine J_storeS' (cs' := [.int .i64 ((xs[k]'hi1).op), .int .i64 (((xs[k]'hi1).stamp).epoch), .int .i64 (((xs[k]'hi1).stamp).turn), .int .i64 ((xs[k]'hi1).key), .int .i64 ((xs[k]'hi1).val)]) st95 rfl rfl rfl rfl h2 (Nat.le_of_ble_eq_true rfl) rfl (fun w4 m1 h2' => ?_)
    replace h2 := h2'
    replace E := E.step m1 (fun g hg => by cases hg; omega); replace h1 := h1.mod m1 (fun g hg => by cases hg; omega)
    have z4 := m1.size
    refine J_done ?_
    refine S_seq ?_
    refine S_reg [true, false, true, true, true, true, true, false, true, true] rfl rfl ?_
    refine J_st (R_loadS st95 rfl h2.at rfl) rfl ?_
    refine J_call Try.call49 rfl (c_RecordOk (xs[k]'hi1) _ ) rfl (fun _ w5 e3 hv => ?_)
    subst hv
    replace E := E.trans e3; replace h1 := h1.ext e3; replace h2 := h2.ext e3
    have z5 := e3.size
    refine J_st (R_not rfl) rfl (J_st (R_move rfl) rfl ?_)
    refine J_cut 6 [(2, .pointer (some ⟨b1, 0, none⟩)), (4, .bool false), (6, .pointer (some ⟨b2, 0, none⟩)), (7, vxs), (8, .int .i64 ((xs.length : Nat) : Int)), (9, .int .i64 ((k : Nat) : Int)), (10, .bool (decide (((k : Nat) : Int) < ((xs.length : Nat) : Int)))), (11, .pointer (some ⟨sblk vxs, soff vxs + k * 5, none⟩)), (12, .agg (Enc.enc (xs[k]'hi1)).toArray), (22, .bool ((!(recordOk (xs[k]'hi1))) || (!(isNodeM g ((xs[k]'hi1).op)))))] (fun w' => Ext w w' ∧ w5.heap.size ≤ w'.heap.size ∧ Blk w' b1 ([o1, .int .i64 g.workers, .int .i64 g.cap]) ∧ Blk w' b2 [.int .i64 ((xs[k]'hi1).op), .int .i64 (((xs[k]'hi1).stamp).epoch), .int .i64 (((xs[k]'hi1).stamp).turn), .int .i64 ((xs[k]'hi1).key), .int .i64 ((xs[k]'hi1).val)]) ?_ ?_
    · refine J_if (gd := 16) rfl rfl (fun hg1 => ?_) (fun hg1 => ?_)
      · refine J_gdno rfl rfl rfl rfl (J_gdno rfl rfl rfl rfl (J_gdno rfl rfl rfl rfl ?_))
        refine J_ungno rfl rfl rfl rfl ?_
        refine J_gdno rfl rfl rfl rfl (J_st (R_pickT rfl rfl) rfl (J_cutEnd ⟨rfl, rfl, rfl, rfl, rfl, rfl, rfl, rfl, rfl, congrArg (fun b => some (Value.bool b)) (show true = ((!(recordOk (xs[k]'hi1))) || (!(isNodeM g ((xs[k]'hi1).op)))) by first | (rw [hg1] <;> rfl) | (simp [hg1]; done) | (simp only [nat_nlt] <;> simp)), trivial⟩ ⟨E, (by omega), h1, h2⟩))
      · refine J_gd rfl rfl (R_loadS st35 rfl h1.at rfl) rfl (J_gd rfl rfl (R_fieldAddr0 fl95_0 rfl) rfl (J_gd rfl rfl (R_load sc3 rfl (h2.one 0 rfl)) rfl ?_))
        refine J_ung rfl rfl ?_
        refine J_call Try.call50 rfl (c_isNode [o1, .int .i64 g.workers, .int .i64 g.cap] g ((xs[k]'hi1).op) _ (Graph.mkR g (RdD.any (hd1.ext E)))) rfl (fun _ w7 e4 hv => ?_)
        subst hv
        replace E := E.trans e4; replace h1 := h1.ext e4; replace h2 := h2.ext e4
        have z6 := e4.size
        refine J_gd rfl rfl (R_not rfl) rfl (J_st (R_pickF rfl rfl) rfl (J_cutEnd ⟨rfl, rfl, rfl, rfl, rfl, rfl, rfl, rfl, rfl, congrArg (fun b => some (Value.bool b)) (show (!(isNodeM g ((xs[k]'hi1).op))) = ((!(recordOk (xs[k]'hi1))) || (!(isNodeM g ((xs[k]'hi1).op)))) by first | (rw [hg1] <;> rfl) | (simp [hg1]; done) | (simp only [nat_nlt] <;> simp)), trivial⟩ ⟨E, (by omega), h1, h2⟩))
    clear E h1 h2
    rintro w6 ⟨E, z7, h1, h2⟩
    refine J_done ?_
    refine S_cond rfl (fun hc2 => ?_) (fun hc2 => ?_)
    · refine S_seq ?_
      refine S_reg [true] rfl rfl ?_
      refine J_st (R_assign rfl) rfl (J_done ?_)
      refine S_ret (E_inB_ret (E_lp_ret (E_inB_ret (E_done1 rfl rfl E ?_))))
      exact all_no (by assumption) (kx hc2)
    · refine S_skip ?_
      refine S_nil (E_inB ?_)
      refine S_reg [true, true] rfl rfl ?_
      refine J_st (R_add rfl rfl (add_one hc1n hxs.1)) rfl (J_st (R_move rfl) rfl (J_done ?_))
      refine S_nil (E_again (k + 1) (by omega) ⟨rfl, rfl, rfl, rfl, rfl, trivial⟩ ⟨E, (by omega), h1, (by omega), all_step hI (by assumption) (ky hc2)⟩)
  · have hc1n : ¬ k < xs.length := by first | (have h := of_decide_eq_false hc1; omega) | (have h := hc1; simp at h; omega)
    refine S_exit (E_lp_exit (E_inB_exit ?_))
    refine S_seq ?_
    refine S_reg [true] rfl rfl ?_
    refine J_st (R_assign rfl) rfl (J_done ?_)
    refine S_ret (E_done1 rfl rfl E ?_)
    exact all_yes hI (by omega)

set_option maxRecDepth 20000 in
theorem s_l12Records (cg : List Value) (g : Graph) (vxs : Value) (xs : List Record) (w : World) (hg : Dat.R w 0 w.heap.size cg g) (hxs : RdS w vxs xs) : Ct Try.prog 17 [.agg cg.toArray, vxs] w (fun v _ => v = .bool (xs.all (opOk g))) := by
  refine ct_of Try.func17 rfl Try.ntmps17 rfl ?_
  obtain ⟨o1, rfl, hd1⟩ := Graph.op hg
  refine S_sub [(0, .agg [o1, .int .i64 g.workers, .int .i64 g.cap].toArray), (1, vxs)] ⟨rfl, rfl, trivial⟩ ?_
  have E : Ext w w := Ext.refl w
  refine S_seq ?_
  refine S_reg [false, true] rfl rfl ?_
  refine J_box rfl rfl (fun b1 w1 e1 s1 h1 => ?_)
  have g_b1 : w.heap.size ≤ b1 := by have := E.size; omega
  have y_b1 := h1.lt
  replace E := E.trans e1
  have z1 := e1.size
  refine J_st (R_assign rfl) rfl (J_done ?_)
  refine S_seq ?_
  refine S_seq ?_
  refine S_reg [true] rfl rfl ?_
  refine J_st (R_assign rfl) rfl (J_done ?_)
  refine S_block ?_
  refine S_loop (fun (k : Nat) => [(1, vxs), (2, .pointer (some ⟨b1, 0, none⟩)), (4, .bool false), (5, .int .i64 ((k : Nat) : Int))]) (fun (k : Nat) w' => Ext w w' ∧ w1.heap.size ≤ w'.heap.size ∧ Blk w' b1 ([o1, .int .i64 g.workers, .int .i64 g.cap]) ∧ k ≤ xs.length ∧ (xs.take k).all (opOk g) = true) (fun (k : Nat) => xs.length - k) 0 ⟨rfl, rfl, rfl, rfl, trivial⟩ ⟨E, Nat.le_refl _, h1, Nat.zero_le _, rfl⟩ ?_
  clear E h1
  rintro k w2 ⟨E, z2, h1, hk, hI⟩
  refine S_seq ?_
  refine S_seq ?_
  refine S_reg [true, true, true, true] rfl rfl ?_
  refine J_st (R_move rfl) rfl (J_st (R_move rfl) rfl (J_st (R_len Try.underlying52 rfl (hxs.ext E).len) rfl (J_st (R_lss rfl rfl) rfl (J_done ?_))))
  refine S_cond rfl (fun hc1 => ?_) (fun hc1 => ?_)
  · have hc1n : k < xs.length := by first | (have h := of_decide_eq_true hc1; omega) | (have h := hc1; simp at h; omega)
    refine S_skip ?_
    refine S_seq ?_
    refine S_block ?_
    refine S_seq ?_
    refine S_regD mixed [(0, true), (1, true), (2, true), (3, true), (4, false), (5, true), (6, true), (7, true), (8, true), (9, true), (10, true), (11, true), (12, true), (13, true), (14, true), (15, true), (16, true)] (by decide +kernel) rfl (fun w3 e2 => ?_)
    replace E := E.trans e2; replace h1 := h1.ext e2
    have z3 := e2.size
    refine J_st (R_move rfl) rfl (J_st (R_move rfl) rfl ?_)
    have hi1 : k < xs.length := (by first | assumption | omega)
    refine J_st (R_index (i := k) sl52 rfl rfl (hxs.ext E) hi1) rfl (J_st (R_loadS st95 rfl ((hxs.ext E).get hi1) rfl) rfl ?_)
    refine J_call Try.call39 rfl (s_RecordOk (xs[k]'hi1) _ ) rfl (fun _ w4 e3 hv => ?_)
    subst hv
    replace E := E.trans e3; replace h1 := h1.ext e3
    have z4 := e3.size
    refine J_st (R_not rfl) rfl (J_st (R_move rfl) rfl ?_)
    refine J_cut 10 [(1, vxs), (2, .pointer (some ⟨b1, 0, none⟩)), (4, .bool false), (5, .int .i64 ((k : Nat) : Int)), (6, .int .i64 ((k : Nat) : Int)), (7, vxs), (8, .int .i64 ((xs.length : Nat) : Int)), (9, .bool (decide (((k : Nat) : Int) < ((xs.length : Nat) : Int)))), (28, .bool ((!(recordOk (xs[k]'hi1))) || (decide (((g.nodes.length : Nat) : Int) ≤ ((xs[k]'hi1).op)))))] (fun w' => w4 = w') ?_ ?_
    · refine J_if (gd := 18) rfl rfl (fun hg1 => ?_) (fun hg1 => ?_)
      · refine J_gdno rfl rfl rfl rfl (J_gdno rfl rfl rfl rfl (J_gdno rfl rfl rfl rfl (J_gdno rfl rfl rfl rfl (J_gdno rfl rfl rfl rfl (J_gdno rfl rfl rfl rfl (J_gdno rfl rfl rfl rfl (J_gdno rfl rfl rfl rfl (J_gdno rfl rfl rfl rfl (J_st (R_pickT rfl rfl) rfl (J_cutEnd ⟨rfl, rfl, rfl, rfl, rfl, rfl, rfl, rfl, congrArg (fun b => some (Value.bool b)) (show true = ((!(recordOk (xs[k]'hi1))) || (decide (((g.nodes.length : Nat) : Int) ≤ ((xs[k]'hi1).op)))) by first | (rw [hg1] <;> rfl) | (simp [hg1]; done) | (simp only [nat_nlt] <;> simp)), trivial⟩ rfl))))))))))
      · refine J_gd rfl rfl (R_move rfl) rfl (J_gd rfl rfl (R_move rfl) rfl (J_gd rfl rfl (R_index (i := k) sl52 rfl rfl (hxs.ext E) hi1) rfl (J_gd rfl rfl (R_fieldAddr fl95_0 rfl) rfl (J_gd rfl rfl (R_load sc3 rfl (((hxs.ext E).get hi1).one 0 rfl)) rfl (J_gd rfl rfl (R_fieldAddr0 fl35_0 rfl) rfl (J_gd rfl rfl (R_load sc33 rfl (h1.one 0 rfl)) rfl (J_gd rfl rfl (R_len Try.underlying33 rfl (hd1.ext E).len) rfl (J_gd rfl rfl (R_geq rfl rfl) rfl (J_st (R_pickF rfl rfl) rfl (J_cutEnd ⟨rfl, rfl, rfl, rfl, rfl, rfl, rfl, rfl, congrArg (fun b => some (Value.bool b)) (show (decide (((g.nodes.length : Nat) : Int) ≤ ((xs[k]'hi1).op))) = ((!(recordOk (xs[k]'hi1))) || (decide (((g.nodes.length : Nat) : Int) ≤ ((xs[k]'hi1).op)))) by first | (rw [hg1] <;> rfl) | (simp [hg1]; done) | (simp only [nat_nlt] <;> simp)), trivial⟩ rfl))))))))))
    rintro _ rfl
    refine J_done ?_
    refine S_cond rfl (fun hc2 => ?_) (fun hc2 => ?_)
    · refine S_seq ?_
      refine S_reg [true] rfl rfl ?_
      refine J_st (R_assign rfl) rfl (J_done ?_)
      refine S_ret (E_inB_ret (E_lp_ret (E_inB_ret (E_done1 rfl rfl E ?_))))
      exact all_no (by assumption) (op_no hc2)
    · refine S_skip ?_
      refine S_nil (E_inB ?_)
      refine S_reg [true, true, true] rfl rfl ?_
      refine J_st (R_move rfl) rfl (J_st (R_add rfl rfl (add_one hc1n hxs.1)) rfl (J_st (R_assign rfl) rfl (J_done ?_)))
      refine S_nil (E_again (k + 1) (by omega) ⟨rfl, rfl, rfl, rfl, trivial⟩ ⟨E, (by omega), h1, (by omega), all_step hI (by assumption) (op_yes hc2)⟩)
  · have hc1n : ¬ k < xs.length := by first | (have h := of_decide_eq_false hc1; omega) | (have h := hc1; simp at h; omega)
    refine S_exit (E_lp_exit (E_inB_exit ?_))
    refine S_seq ?_
    refine S_reg [true] rfl rfl ?_
    refine J_st (R_assign rfl) rfl (J_done ?_)
    refine S_ret (E_done1 rfl rfl E ?_)
    exact all_yes hI (by omega)

end Go.Proofs.Ytgafkiapefdkdaa
