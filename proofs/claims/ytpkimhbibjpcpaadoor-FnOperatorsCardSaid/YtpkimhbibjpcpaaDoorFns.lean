/- What the functions that the laws call come to: a contract each; no condition. -/
import Derived.Test.YtpkimhbibjpcpaaDoorTypes
import Derived.Test.YtpkimhbibjpcpaaDoorStr
import Derived.Test.YtpkimhbibjpcpaaDoorLay
namespace Go.Proofs.YtpkimhbibjpcpaaDoor
open Go Go.Proofs.YtpkimhbibjpcpaaDoor.X Go.Proofs
set_option maxRecDepth 20000 in
theorem s_l01In (x : Int) (lo : Int) (hi : Int) (w : World)  : Ct Tryd.prog 22 [.int .i64 x, .int .i64 lo, .int .i64 hi] w (fun v _ => v = .bool (win x lo hi)) := by
  refine ct_of Tryd.func22 rfl Tryd.ntmps22 rfl ?_
  refine S_sub [(0, .int .i64 x), (1, .int .i64 lo), (2, .int .i64 hi)] ⟨rfl, rfl, rfl, trivial⟩ ?_
  have E : Ext w w := Ext.refl w
  refine S_seq ?_
  refine S_reg [true] rfl rfl ?_
  refine J_st (R_assign rfl) rfl (J_done ?_)
  refine S_seq ?_
  refine S_reg [true, true, true, true, true, true, true, true, true] rfl rfl ?_
  refine J_st (R_move rfl) rfl (J_st (R_move rfl) rfl (J_st (R_geq rfl rfl) rfl (J_st (R_move rfl) rfl ?_)))
  refine J_cut 4 [(0, .int .i64 x), (1, .int .i64 lo), (2, .int .i64 hi), (6, .bool false), (14, .bool ((decide (lo ≤ x)) && (decide (x ≤ hi))))] (fun w' => w = w') ?_ ?_
  · refine J_if (gd := 10) rfl rfl (fun hg1 => ?_) (fun hg1 => ?_)
    · refine J_gd rfl rfl (R_move rfl) rfl (J_gd rfl rfl (R_move rfl) rfl (J_gd rfl rfl (R_leq rfl rfl) rfl (J_st (R_pickT rfl rfl) rfl (J_cutEnd ⟨rfl, rfl, rfl, rfl, congrArg (fun b => some (Value.bool b)) (show (decide (x ≤ hi)) = ((decide (lo ≤ x)) && (decide (x ≤ hi))) by first | (rw [hg1] <;> rfl) | (simp [hg1]; done) | (simp only [nat_nlt] <;> simp)), trivial⟩ rfl))))
    · refine J_gdno rfl rfl rfl rfl (J_gdno rfl rfl rfl rfl (J_gdno rfl rfl rfl rfl (J_st (R_pickF rfl rfl) rfl (J_cutEnd ⟨rfl, rfl, rfl, rfl, congrArg (fun b => some (Value.bool b)) (show false = ((decide (lo ≤ x)) && (decide (x ≤ hi))) by first | (rw [hg1] <;> rfl) | (simp [hg1]; done) | (simp only [nat_nlt] <;> simp)), trivial⟩ rfl))))
  rintro _ rfl
  refine J_st (R_assign rfl) rfl (J_done ?_)
  refine S_ret (E_done1 rfl rfl E ?_)
  rfl

set_option maxRecDepth 20000 in
theorem c_within (x : Int) (lo : Int) (hi : Int) (w : World)  : Ct Tryd.prog 24 [.int .i64 x, .int .i64 lo, .int .i64 hi] w (fun v _ => v = .bool (win x lo hi)) := by
  refine ct_of Tryd.func24 rfl Tryd.ntmps24 rfl ?_
  refine S_sub [(0, .int .i64 x), (1, .int .i64 lo), (2, .int .i64 hi)] ⟨rfl, rfl, rfl, trivial⟩ ?_
  have E : Ext w w := Ext.refl w
  refine S_seq ?_
  refine S_reg [true] rfl rfl ?_
  refine J_st (R_assign rfl) rfl (J_done ?_)
  refine S_seq ?_
  refine S_reg [true, true, true, true, true, true, true, true, true] rfl rfl ?_
  refine J_st (R_move rfl) rfl (J_st (R_move rfl) rfl (J_st (R_geq rfl rfl) rfl (J_st (R_move rfl) rfl ?_)))
  refine J_cut 4 [(0, .int .i64 x), (1, .int .i64 lo), (2, .int .i64 hi), (6, .bool false), (14, .bool ((decide (lo ≤ x)) && (decide (x ≤ hi))))] (fun w' => w = w') ?_ ?_
  · refine J_if (gd := 10) rfl rfl (fun hg1 => ?_) (fun hg1 => ?_)
    · refine J_gd rfl rfl (R_move rfl) rfl (J_gd rfl rfl (R_move rfl) rfl (J_gd rfl rfl (R_leq rfl rfl) rfl (J_st (R_pickT rfl rfl) rfl (J_cutEnd ⟨rfl, rfl, rfl, rfl, congrArg (fun b => some (Value.bool b)) (show (decide (x ≤ hi)) = ((decide (lo ≤ x)) && (decide (x ≤ hi))) by first | (rw [hg1] <;> rfl) | (simp [hg1]; done) | (simp only [nat_nlt] <;> simp)), trivial⟩ rfl))))
    · refine J_gdno rfl rfl rfl rfl (J_gdno rfl rfl rfl rfl (J_gdno rfl rfl rfl rfl (J_st (R_pickF rfl rfl) rfl (J_cutEnd ⟨rfl, rfl, rfl, rfl, congrArg (fun b => some (Value.bool b)) (show false = ((decide (lo ≤ x)) && (decide (x ≤ hi))) by first | (rw [hg1] <;> rfl) | (simp [hg1]; done) | (simp only [nat_nlt] <;> simp)), trivial⟩ rfl))))
  rintro _ rfl
  refine J_st (R_assign rfl) rfl (J_done ?_)
  refine S_ret (E_done1 rfl rfl E ?_)
  rfl

set_option maxHeartbeats 4000000 in
set_option maxRecDepth 20000 in
theorem c_NodeOk (cx : List Value) (x : Node) (w : World) (hx : Dat.R w 0 w.heap.size cx x) : Ct Tryd.prog 8 [.agg cx.toArray] w (fun v _ => v = .bool (nodeOk x)) := by
  refine ct_of Tryd.func8 rfl Tryd.ntmps8 rfl ?_
  obtain ⟨o1, rfl, hd1⟩ := Node.op hx
  refine S_sub [(0, .agg [.int .i64 x.kind, .int .i64 x.a, .int .i64 x.b, o1].toArray)] ⟨rfl, trivial⟩ ?_
  have E : Ext w w := Ext.refl w
  refine S_seq ?_
  refine S_reg [false, true] rfl rfl ?_
  refine J_box rfl rfl (fun b1 w1 e1 s1 h1 => ?_)
  have g_b1 : w.heap.size ≤ b1 := by have := E.size; omega
  have y_b1 := h1.lt
  replace E := E.trans e1
  have z1 := e1.size
  refine J_st (R_assign rfl) rfl (J_done ?_)
  refine S_seq ?_
  refine S_seq ?_
  refine S_reg [true, true] rfl rfl ?_
  refine J_st (R_fieldAddr0 fl26_0 rfl) rfl (J_st (R_load sc3 rfl (h1.one 0 rfl)) rfl (J_done ?_))
  refine S_cutG (fun (_ : Unit) => [(1, .pointer (some ⟨b1, 0, none⟩)), (2, .bool false)]) (fun (_ : Unit) w' => Ext w w' ∧ w1.heap.size ≤ w'.heap.size ∧ Blk w' b1 ([.int .i64 x.kind, .int .i64 x.a, .int .i64 x.b, o1]) ∧ kindOk x = true) ?_ ?_
  · refine S_block ?_
    refine S_seq ?_
    refine S_reg [true, true] rfl rfl ?_
    refine J_st (R_eql rfl rfl) rfl (J_st (R_assign rfl) rfl (J_done ?_))
    refine S_cond rfl (fun hc1 => ?_) (fun hc1 => ?_)
    · refine S_seq ?_
      refine S_reg [true, true, false, true, true, true, true, true, true] rfl rfl ?_
      refine J_st (R_fieldAddr0 fl26_1 rfl) rfl (J_st (R_load sc3 rfl (h1.one 1 rfl)) rfl ?_)
      refine J_call Tryd.call24 rfl (c_within x.a 0 999 _ ) rfl (fun _ w2 e2 hv => ?_)
      subst hv
      replace E := E.trans e2; replace h1 := h1.ext e2
      have z3 := e2.size
      refine J_st (R_not rfl) rfl (J_st (R_move rfl) rfl ?_)
      refine J_cut 4 [(0, .agg [.int .i64 x.kind, .int .i64 x.a, .int .i64 x.b, o1].toArray), (1, .pointer (some ⟨b1, 0, none⟩)), (2, .bool false), (5, .pointer (some ⟨b1, 0, none⟩)), (6, .int .i64 x.kind), (7, .bool (x.kind == 2)), (8, .bool (x.kind == 2)), (17, .bool ((!(win x.a 0 999)) || (x.b != 0)))] (fun w' => w2 = w') ?_ ?_
      · refine J_if (gd := 13) rfl rfl (fun hg1 => ?_) (fun hg1 => ?_)
        · refine J_gdno rfl rfl rfl rfl (J_gdno rfl rfl rfl rfl (J_gdno rfl rfl rfl rfl (J_st (R_pickT rfl rfl) rfl (J_cutEnd ⟨rfl, rfl, rfl, rfl, rfl, rfl, rfl, congrArg (fun b => some (Value.bool b)) (show true = ((!(win x.a 0 999)) || (x.b != 0)) by first | (rw [hg1] <;> rfl) | (simp [hg1]; done) | (simp only [nat_nlt] <;> simp)), trivial⟩ rfl))))
        · refine J_gd rfl rfl (R_fieldAddr0 fl26_2 rfl) rfl (J_gd rfl rfl (R_load sc3 rfl (h1.one 2 rfl)) rfl (J_gd rfl rfl (R_neq rfl rfl) rfl (J_st (R_pickF rfl rfl) rfl (J_cutEnd ⟨rfl, rfl, rfl, rfl, rfl, rfl, rfl, congrArg (fun b => some (Value.bool b)) (show (x.b != 0) = ((!(win x.a 0 999)) || (x.b != 0)) by first | (rw [hg1] <;> rfl) | (simp [hg1]; done) | (simp only [nat_nlt] <;> simp)), trivial⟩ rfl))))
      rintro _ rfl
      refine J_done ?_
      refine S_cond rfl (fun hc2 => ?_) (fun hc2 => ?_)
      · refine S_seq ?_
        refine S_reg [true] rfl rfl ?_
        refine J_st (R_assign rfl) rfl (J_done ?_)
        refine S_ret (E_inB_ret (E_cut_ret (E_done1 rfl rfl E ?_)))
        exact node_k (by rw [node_2 (by assumption)]; exact kx (by assumption))
      · refine S_skip ?_
        refine S_nil (E_inB ?_)
        refine S_nil (E_cutG () ⟨rfl, rfl, trivial⟩ ⟨E, (by omega), h1, (by rw [node_2 (by assumption)]; exact ky (by assumption))⟩)
    · refine S_seq ?_
      refine S_reg [true, true] rfl rfl ?_
      refine J_st (R_eql rfl rfl) rfl (J_st (R_assign rfl) rfl (J_done ?_))
      refine S_cond rfl (fun hc3 => ?_) (fun hc3 => ?_)
      · refine S_seq ?_
        refine S_reg [true, true, false, true, true, true, true, true, true, true, false, true, true] rfl rfl ?_
        refine J_st (R_fieldAddr0 fl26_1 rfl) rfl (J_st (R_load sc3 rfl (h1.one 1 rfl)) rfl ?_)
        refine J_call Tryd.call24 rfl (c_within x.a 1 10 _ ) rfl (fun _ w4 e3 hv => ?_)
        subst hv
        replace E := E.trans e3; replace h1 := h1.ext e3
        have z4 := e3.size
        refine J_st (R_not rfl) rfl (J_st (R_move rfl) rfl ?_)
        refine J_cut 8 [(0, .agg [.int .i64 x.kind, .int .i64 x.a, .int .i64 x.b, o1].toArray), (1, .pointer (some ⟨b1, 0, none⟩)), (2, .bool false), (5, .pointer (some ⟨b1, 0, none⟩)), (6, .int .i64 x.kind), (7, .bool (x.kind == 2)), (8, .bool (x.kind == 2)), (18, .bool (x.kind == 3)), (19, .bool (x.kind == 3)), (32, .bool ((!(win x.a 1 10)) || (!(win x.b 0 (IntKind.i64.wrap (x.a - 1))))))] (fun w' => Ext w w' ∧ w4.heap.size ≤ w'.heap.size ∧ Blk w' b1 ([.int .i64 x.kind, .int .i64 x.a, .int .i64 x.b, o1])) ?_ ?_
        · refine J_if (gd := 24) rfl rfl (fun hg2 => ?_) (fun hg2 => ?_)
          · refine J_gdno rfl rfl rfl rfl (J_gdno rfl rfl rfl rfl (J_gdno rfl rfl rfl rfl (J_gdno rfl rfl rfl rfl (J_gdno rfl rfl rfl rfl ?_))))
            refine J_ungno rfl rfl rfl rfl ?_
            refine J_gdno rfl rfl rfl rfl (J_st (R_pickT rfl rfl) rfl (J_cutEnd ⟨rfl, rfl, rfl, rfl, rfl, rfl, rfl, rfl, rfl, congrArg (fun b => some (Value.bool b)) (show true = ((!(win x.a 1 10)) || (!(win x.b 0 (IntKind.i64.wrap (x.a - 1))))) by first | (rw [hg2] <;> rfl) | (simp [hg2]; done) | (simp only [nat_nlt] <;> simp)), trivial⟩ ⟨E, (by omega), h1⟩))
          · refine J_gd rfl rfl (R_fieldAddr0 fl26_2 rfl) rfl (J_gd rfl rfl (R_load sc3 rfl (h1.one 2 rfl)) rfl (J_gd rfl rfl (R_fieldAddr0 fl26_1 rfl) rfl (J_gd rfl rfl (R_load sc3 rfl (h1.one 1 rfl)) rfl (J_gd rfl rfl (R_sub rfl rfl rfl) rfl ?_))))
            refine J_ung rfl rfl ?_
            refine J_call Tryd.call24 rfl (c_within x.b 0 (IntKind.i64.wrap (x.a - 1)) _ ) rfl (fun _ w6 e4 hv => ?_)
            subst hv
            replace E := E.trans e4; replace h1 := h1.ext e4
            have z5 := e4.size
            refine J_gd rfl rfl (R_not rfl) rfl (J_st (R_pickF rfl rfl) rfl (J_cutEnd ⟨rfl, rfl, rfl, rfl, rfl, rfl, rfl, rfl, rfl, congrArg (fun b => some (Value.bool b)) (show (!(win x.b 0 (IntKind.i64.wrap (x.a - 1)))) = ((!(win x.a 1 10)) || (!(win x.b 0 (IntKind.i64.wrap (x.a - 1))))) by first | (rw [hg2] <;> rfl) | (simp [hg2]; done) | (simp only [nat_nlt] <;> simp)), trivial⟩ ⟨E, (by omega), h1⟩))
        clear E h1
        rintro w5 ⟨E, z6, h1⟩
        refine J_done ?_
        refine S_cond rfl (fun hc4 => ?_) (fun hc4 => ?_)
        · refine S_seq ?_
          refine S_reg [true] rfl rfl ?_
          refine J_st (R_assign rfl) rfl (J_done ?_)
          refine S_ret (E_inB_ret (E_cut_ret (E_done1 rfl rfl E ?_)))
          exact node_k (by rw [node_3 (by assumption)]; exact kx (by assumption))
        · refine S_skip ?_
          refine S_nil (E_inB ?_)
          refine S_nil (E_cutG () ⟨rfl, rfl, trivial⟩ ⟨E, (by omega), h1, (by rw [node_3 (by assumption)]; exact ky (by assumption))⟩)
      · refine S_seq ?_
        refine S_reg [true, true] rfl rfl ?_
        refine J_st (R_eql rfl rfl) rfl (J_st (R_assign rfl) rfl (J_done ?_))
        refine S_cond rfl (fun hc5 => ?_) (fun hc5 => ?_)
        · refine S_seq ?_
          refine S_reg [true, true, false, true, true, true, true, true, true] rfl rfl ?_
          refine J_st (R_fieldAddr0 fl26_1 rfl) rfl (J_st (R_load sc3 rfl (h1.one 1 rfl)) rfl ?_)
          refine J_call Tryd.call24 rfl (c_within x.a 0 99 _ ) rfl (fun _ w7 e5 hv => ?_)
          subst hv
          replace E := E.trans e5; replace h1 := h1.ext e5
          have z7 := e5.size
          refine J_st (R_not rfl) rfl (J_st (R_move rfl) rfl ?_)
          refine J_cut 4 [(0, .agg [.int .i64 x.kind, .int .i64 x.a, .int .i64 x.b, o1].toArray), (1, .pointer (some ⟨b1, 0, none⟩)), (2, .bool false), (5, .pointer (some ⟨b1, 0, none⟩)), (6, .int .i64 x.kind), (7, .bool (x.kind == 2)), (8, .bool (x.kind == 2)), (18, .bool (x.kind == 3)), (19, .bool (x.kind == 3)), (33, .bool (x.kind == 4)), (34, .bool (x.kind == 4)), (43, .bool ((!(win x.a 0 99)) || (x.b != 0)))] (fun w' => w7 = w') ?_ ?_
          · refine J_if (gd := 39) rfl rfl (fun hg3 => ?_) (fun hg3 => ?_)
            · refine J_gdno rfl rfl rfl rfl (J_gdno rfl rfl rfl rfl (J_gdno rfl rfl rfl rfl (J_st (R_pickT rfl rfl) rfl (J_cutEnd ⟨rfl, rfl, rfl, rfl, rfl, rfl, rfl, rfl, rfl, rfl, rfl, congrArg (fun b => some (Value.bool b)) (show true = ((!(win x.a 0 99)) || (x.b != 0)) by first | (rw [hg3] <;> rfl) | (simp [hg3]; done) | (simp only [nat_nlt] <;> simp)), trivial⟩ rfl))))
            · refine J_gd rfl rfl (R_fieldAddr0 fl26_2 rfl) rfl (J_gd rfl rfl (R_load sc3 rfl (h1.one 2 rfl)) rfl (J_gd rfl rfl (R_neq rfl rfl) rfl (J_st (R_pickF rfl rfl) rfl (J_cutEnd ⟨rfl, rfl, rfl, rfl, rfl, rfl, rfl, rfl, rfl, rfl, rfl, congrArg (fun b => some (Value.bool b)) (show (x.b != 0) = ((!(win x.a 0 99)) || (x.b != 0)) by first | (rw [hg3] <;> rfl) | (simp [hg3]; done) | (simp only [nat_nlt] <;> simp)), trivial⟩ rfl))))
          rintro _ rfl
          refine J_done ?_
          refine S_cond rfl (fun hc6 => ?_) (fun hc6 => ?_)
          · refine S_seq ?_
            refine S_reg [true] rfl rfl ?_
            refine J_st (R_assign rfl) rfl (J_done ?_)
            refine S_ret (E_inB_ret (E_cut_ret (E_done1 rfl rfl E ?_)))
            exact node_k (by rw [node_4 (by assumption)]; exact kx (by assumption))
          · refine S_skip ?_
            refine S_nil (E_inB ?_)
            refine S_nil (E_cutG () ⟨rfl, rfl, trivial⟩ ⟨E, (by omega), h1, (by rw [node_4 (by assumption)]; exact ky (by assumption))⟩)
        · refine S_seq ?_
          refine S_seq ?_
          refine S_reg [true, true] rfl rfl ?_
          refine J_st (R_eql rfl rfl) rfl (J_st (R_assign rfl) rfl (J_done ?_))
          refine S_cond rfl (fun hc7 => ?_) (fun hc7 => ?_)
          · refine S_skip ?_
            refine S_condTe rfl hc7 ?_
            refine S_seq ?_
            refine S_reg [true, true, true, true, true, true, true, true] rfl rfl ?_
            refine J_st (R_fieldAddr0 fl26_1 rfl) rfl (J_st (R_load sc3 rfl (h1.one 1 rfl)) rfl (J_st (R_neq rfl rfl) rfl (J_st (R_move rfl) rfl ?_)))
            refine J_cut 4 [(0, .agg [.int .i64 x.kind, .int .i64 x.a, .int .i64 x.b, o1].toArray), (1, .pointer (some ⟨b1, 0, none⟩)), (2, .bool false), (5, .pointer (some ⟨b1, 0, none⟩)), (6, .int .i64 x.kind), (7, .bool (x.kind == 2)), (8, .bool (x.kind == 2)), (18, .bool (x.kind == 3)), (19, .bool (x.kind == 3)), (33, .bool (x.kind == 4)), (34, .bool (x.kind == 4)), (44, .bool (x.kind == 1)), (45, .bool (x.kind == 1)), (57, .bool ((x.a != 0) || (x.b != 0)))] (fun w' => w1 = w') ?_ ?_
            · refine J_if (gd := 53) rfl rfl (fun hg4 => ?_) (fun hg4 => ?_)
              · refine J_gdno rfl rfl rfl rfl (J_gdno rfl rfl rfl rfl (J_gdno rfl rfl rfl rfl (J_st (R_pickT rfl rfl) rfl (J_cutEnd ⟨rfl, rfl, rfl, rfl, rfl, rfl, rfl, rfl, rfl, rfl, rfl, rfl, rfl, congrArg (fun b => some (Value.bool b)) (show true = ((x.a != 0) || (x.b != 0)) by first | (rw [hg4] <;> rfl) | (simp [hg4]; done) | (simp only [nat_nlt] <;> simp)), trivial⟩ rfl))))
              · refine J_gd rfl rfl (R_fieldAddr0 fl26_2 rfl) rfl (J_gd rfl rfl (R_load sc3 rfl (h1.one 2 rfl)) rfl (J_gd rfl rfl (R_neq rfl rfl) rfl (J_st (R_pickF rfl rfl) rfl (J_cutEnd ⟨rfl, rfl, rfl, rfl, rfl, rfl, rfl, rfl, rfl, rfl, rfl, rfl, rfl, congrArg (fun b => some (Value.bool b)) (show (x.b != 0) = ((x.a != 0) || (x.b != 0)) by first | (rw [hg4] <;> rfl) | (simp [hg4]; done) | (simp only [nat_nlt] <;> simp)), trivial⟩ rfl))))
            rintro _ rfl
            refine J_done ?_
            refine S_cond rfl (fun hc8 => ?_) (fun hc8 => ?_)
            · refine S_seq ?_
              refine S_reg [true] rfl rfl ?_
              refine J_st (R_assign rfl) rfl (J_done ?_)
              refine S_ret (E_inB_ret (E_cut_ret (E_done1 rfl rfl E ?_)))
              exact node_k (by rw [node_0 (by assumption) (by assumption) (by assumption)]; exact kx0 (by assumption))
            · refine S_skip ?_
              refine S_nil (E_inB ?_)
              refine S_nil (E_cutG () ⟨rfl, rfl, trivial⟩ ⟨E, (by omega), h1, (by rw [node_0 (by assumption) (by assumption) (by assumption)]; exact ky0 (by assumption) (win_kind (by simp at *; omega)))⟩)
          · refine S_seq ?_
            refine S_reg [true, true] rfl rfl ?_
            refine J_st (R_eql rfl rfl) rfl (J_st (R_assign rfl) rfl (J_done ?_))
            refine S_cond rfl (fun hc9 => ?_) (fun hc9 => ?_)
            · refine S_skip ?_
              refine S_condTe rfl hc9 ?_
              refine S_seq ?_
              refine S_reg [true, true, true, true, true, true, true, true] rfl rfl ?_
              refine J_st (R_fieldAddr0 fl26_1 rfl) rfl (J_st (R_load sc3 rfl (h1.one 1 rfl)) rfl (J_st (R_neq rfl rfl) rfl (J_st (R_move rfl) rfl ?_)))
              refine J_cut 4 [(0, .agg [.int .i64 x.kind, .int .i64 x.a, .int .i64 x.b, o1].toArray), (1, .pointer (some ⟨b1, 0, none⟩)), (2, .bool false), (5, .pointer (some ⟨b1, 0, none⟩)), (6, .int .i64 x.kind), (7, .bool (x.kind == 2)), (8, .bool (x.kind == 2)), (18, .bool (x.kind == 3)), (19, .bool (x.kind == 3)), (33, .bool (x.kind == 4)), (34, .bool (x.kind == 4)), (44, .bool (x.kind == 5)), (45, .bool (x.kind == 1)), (46, .bool (x.kind == 5)), (57, .bool ((x.a != 0) || (x.b != 0)))] (fun w' => w1 = w') ?_ ?_
              · refine J_if (gd := 53) rfl rfl (fun hg5 => ?_) (fun hg5 => ?_)
                · refine J_gdno rfl rfl rfl rfl (J_gdno rfl rfl rfl rfl (J_gdno rfl rfl rfl rfl (J_st (R_pickT rfl rfl) rfl (J_cutEnd ⟨rfl, rfl, rfl, rfl, rfl, rfl, rfl, rfl, rfl, rfl, rfl, rfl, rfl, rfl, congrArg (fun b => some (Value.bool b)) (show true = ((x.a != 0) || (x.b != 0)) by first | (rw [hg5] <;> rfl) | (simp [hg5]; done) | (simp only [nat_nlt] <;> simp)), trivial⟩ rfl))))
                · refine J_gd rfl rfl (R_fieldAddr0 fl26_2 rfl) rfl (J_gd rfl rfl (R_load sc3 rfl (h1.one 2 rfl)) rfl (J_gd rfl rfl (R_neq rfl rfl) rfl (J_st (R_pickF rfl rfl) rfl (J_cutEnd ⟨rfl, rfl, rfl, rfl, rfl, rfl, rfl, rfl, rfl, rfl, rfl, rfl, rfl, rfl, congrArg (fun b => some (Value.bool b)) (show (x.b != 0) = ((x.a != 0) || (x.b != 0)) by first | (rw [hg5] <;> rfl) | (simp [hg5]; done) | (simp only [nat_nlt] <;> simp)), trivial⟩ rfl))))
              rintro _ rfl
              refine J_done ?_
              refine S_cond rfl (fun hc10 => ?_) (fun hc10 => ?_)
              · refine S_seq ?_
                refine S_reg [true] rfl rfl ?_
                refine J_st (R_assign rfl) rfl (J_done ?_)
                refine S_ret (E_inB_ret (E_cut_ret (E_done1 rfl rfl E ?_)))
                exact node_k (by rw [node_0 (by assumption) (by assumption) (by assumption)]; exact kx0 (by assumption))
              · refine S_skip ?_
                refine S_nil (E_inB ?_)
                refine S_nil (E_cutG () ⟨rfl, rfl, trivial⟩ ⟨E, (by omega), h1, (by rw [node_0 (by assumption) (by assumption) (by assumption)]; exact ky0 (by assumption) (win_kind (by simp at *; omega)))⟩)
            · refine S_seq ?_
              refine S_reg [true, true] rfl rfl ?_
              refine J_st (R_eql rfl rfl) rfl (J_st (R_assign rfl) rfl (J_done ?_))
              refine S_cond rfl (fun hc11 => ?_) (fun hc11 => ?_)
              · refine S_skip ?_
                refine S_condTe rfl hc11 ?_
                refine S_seq ?_
                refine S_reg [true, true, true, true, true, true, true, true] rfl rfl ?_
                refine J_st (R_fieldAddr0 fl26_1 rfl) rfl (J_st (R_load sc3 rfl (h1.one 1 rfl)) rfl (J_st (R_neq rfl rfl) rfl (J_st (R_move rfl) rfl ?_)))
                refine J_cut 4 [(0, .agg [.int .i64 x.kind, .int .i64 x.a, .int .i64 x.b, o1].toArray), (1, .pointer (some ⟨b1, 0, none⟩)), (2, .bool false), (5, .pointer (some ⟨b1, 0, none⟩)), (6, .int .i64 x.kind), (7, .bool (x.kind == 2)), (8, .bool (x.kind == 2)), (18, .bool (x.kind == 3)), (19, .bool (x.kind == 3)), (33, .bool (x.kind == 4)), (34, .bool (x.kind == 4)), (44, .bool (x.kind == 6)), (45, .bool (x.kind == 1)), (46, .bool (x.kind == 5)), (47, .bool (x.kind == 6)), (57, .bool ((x.a != 0) || (x.b != 0)))] (fun w' => w1 = w') ?_ ?_
                · refine J_if (gd := 53) rfl rfl (fun hg6 => ?_) (fun hg6 => ?_)
                  · refine J_gdno rfl rfl rfl rfl (J_gdno rfl rfl rfl rfl (J_gdno rfl rfl rfl rfl (J_st (R_pickT rfl rfl) rfl (J_cutEnd ⟨rfl, rfl, rfl, rfl, rfl, rfl, rfl, rfl, rfl, rfl, rfl, rfl, rfl, rfl, rfl, congrArg (fun b => some (Value.bool b)) (show true = ((x.a != 0) || (x.b != 0)) by first | (rw [hg6] <;> rfl) | (simp [hg6]; done) | (simp only [nat_nlt] <;> simp)), trivial⟩ rfl))))
                  · refine J_gd rfl rfl (R_fieldAddr0 fl26_2 rfl) rfl (J_gd rfl rfl (R_load sc3 rfl (h1.one 2 rfl)) rfl (J_gd rfl rfl (R_neq rfl rfl) rfl (J_st (R_pickF rfl rfl) rfl (J_cutEnd ⟨rfl, rfl, rfl, rfl, rfl, rfl, rfl, rfl, rfl, rfl, rfl, rfl, rfl, rfl, rfl, congrArg (fun b => some (Value.bool b)) (show (x.b != 0) = ((x.a != 0) || (x.b != 0)) by first | (rw [hg6] <;> rfl) | (simp [hg6]; done) | (simp only [nat_nlt] <;> simp)), trivial⟩ rfl))))
                rintro _ rfl
                refine J_done ?_
                refine S_cond rfl (fun hc12 => ?_) (fun hc12 => ?_)
                · refine S_seq ?_
                  refine S_reg [true] rfl rfl ?_
                  refine J_st (R_assign rfl) rfl (J_done ?_)
                  refine S_ret (E_inB_ret (E_cut_ret (E_done1 rfl rfl E ?_)))
                  exact node_k (by rw [node_0 (by assumption) (by assumption) (by assumption)]; exact kx0 (by assumption))
                · refine S_skip ?_
                  refine S_nil (E_inB ?_)
                  refine S_nil (E_cutG () ⟨rfl, rfl, trivial⟩ ⟨E, (by omega), h1, (by rw [node_0 (by assumption) (by assumption) (by assumption)]; exact ky0 (by assumption) (win_kind (by simp at *; omega)))⟩)
              · refine S_seq ?_
                refine S_reg [true, true] rfl rfl ?_
                refine J_st (R_eql rfl rfl) rfl (J_st (R_assign rfl) rfl (J_done ?_))
                refine S_cond rfl (fun hc13 => ?_) (fun hc13 => ?_)
                · refine S_skip ?_
                  refine S_condTe rfl hc13 ?_
                  refine S_seq ?_
                  refine S_reg [true, true, true, true, true, true, true, true] rfl rfl ?_
                  refine J_st (R_fieldAddr0 fl26_1 rfl) rfl (J_st (R_load sc3 rfl (h1.one 1 rfl)) rfl (J_st (R_neq rfl rfl) rfl (J_st (R_move rfl) rfl ?_)))
                  refine J_cut 4 [(0, .agg [.int .i64 x.kind, .int .i64 x.a, .int .i64 x.b, o1].toArray), (1, .pointer (some ⟨b1, 0, none⟩)), (2, .bool false), (5, .pointer (some ⟨b1, 0, none⟩)), (6, .int .i64 x.kind), (7, .bool (x.kind == 2)), (8, .bool (x.kind == 2)), (18, .bool (x.kind == 3)), (19, .bool (x.kind == 3)), (33, .bool (x.kind == 4)), (34, .bool (x.kind == 4)), (44, .bool (x.kind == 7)), (45, .bool (x.kind == 1)), (46, .bool (x.kind == 5)), (47, .bool (x.kind == 6)), (48, .bool (x.kind == 7)), (57, .bool ((x.a != 0) || (x.b != 0)))] (fun w' => w1 = w') ?_ ?_
                  · refine J_if (gd := 53) rfl rfl (fun hg7 => ?_) (fun hg7 => ?_)
                    · refine J_gdno rfl rfl rfl rfl (J_gdno rfl rfl rfl rfl (J_gdno rfl rfl rfl rfl (J_st (R_pickT rfl rfl) rfl (J_cutEnd ⟨rfl, rfl, rfl, rfl, rfl, rfl, rfl, rfl, rfl, rfl, rfl, rfl, rfl, rfl, rfl, rfl, congrArg (fun b => some (Value.bool b)) (show true = ((x.a != 0) || (x.b != 0)) by first | (rw [hg7] <;> rfl) | (simp [hg7]; done) | (simp only [nat_nlt] <;> simp)), trivial⟩ rfl))))
                    · refine J_gd rfl rfl (R_fieldAddr0 fl26_2 rfl) rfl (J_gd rfl rfl (R_load sc3 rfl (h1.one 2 rfl)) rfl (J_gd rfl rfl (R_neq rfl rfl) rfl (J_st (R_pickF rfl rfl) rfl (J_cutEnd ⟨rfl, rfl, rfl, rfl, rfl, rfl, rfl, rfl, rfl, rfl, rfl, rfl, rfl, rfl, rfl, rfl, congrArg (fun b => some (Value.bool b)) (show (x.b != 0) = ((x.a != 0) || (x.b != 0)) by first | (rw [hg7] <;> rfl) | (simp [hg7]; done) | (simp only [nat_nlt] <;> simp)), trivial⟩ rfl))))
                  rintro _ rfl
                  refine J_done ?_
                  refine S_cond rfl (fun hc14 => ?_) (fun hc14 => ?_)
                  · refine S_seq ?_
                    refine S_reg [true] rfl rfl ?_
                    refine J_st (R_assign rfl) rfl (J_done ?_)
                    refine S_ret (E_inB_ret (E_cut_ret (E_done1 rfl rfl E ?_)))
                    exact node_k (by rw [node_0 (by assumption) (by assumption) (by assumption)]; exact kx0 (by assumption))
                  · refine S_skip ?_
                    refine S_nil (E_inB ?_)
                    refine S_nil (E_cutG () ⟨rfl, rfl, trivial⟩ ⟨E, (by omega), h1, (by rw [node_0 (by assumption) (by assumption) (by assumption)]; exact ky0 (by assumption) (win_kind (by simp at *; omega)))⟩)
                · refine S_reg [true, true] rfl rfl ?_
                  refine J_st (R_eql rfl rfl) rfl (J_st (R_assign rfl) rfl (J_done ?_))
                  refine S_cond rfl (fun hc15 => ?_) (fun hc15 => ?_)
                  · refine S_seq ?_
                    refine S_reg [true, true, true, true, true, true, true, true] rfl rfl ?_
                    refine J_st (R_fieldAddr0 fl26_1 rfl) rfl (J_st (R_load sc3 rfl (h1.one 1 rfl)) rfl (J_st (R_neq rfl rfl) rfl (J_st (R_move rfl) rfl ?_)))
                    refine J_cut 4 [(0, .agg [.int .i64 x.kind, .int .i64 x.a, .int .i64 x.b, o1].toArray), (1, .pointer (some ⟨b1, 0, none⟩)), (2, .bool false), (5, .pointer (some ⟨b1, 0, none⟩)), (6, .int .i64 x.kind), (7, .bool (x.kind == 2)), (8, .bool (x.kind == 2)), (18, .bool (x.kind == 3)), (19, .bool (x.kind == 3)), (33, .bool (x.kind == 4)), (34, .bool (x.kind == 4)), (44, .bool (x.kind == 8)), (45, .bool (x.kind == 1)), (46, .bool (x.kind == 5)), (47, .bool (x.kind == 6)), (48, .bool (x.kind == 7)), (49, .bool (x.kind == 8)), (57, .bool ((x.a != 0) || (x.b != 0)))] (fun w' => w1 = w') ?_ ?_
                    · refine J_if (gd := 53) rfl rfl (fun hg8 => ?_) (fun hg8 => ?_)
                      · refine J_gdno rfl rfl rfl rfl (J_gdno rfl rfl rfl rfl (J_gdno rfl rfl rfl rfl (J_st (R_pickT rfl rfl) rfl (J_cutEnd ⟨rfl, rfl, rfl, rfl, rfl, rfl, rfl, rfl, rfl, rfl, rfl, rfl, rfl, rfl, rfl, rfl, rfl, congrArg (fun b => some (Value.bool b)) (show true = ((x.a != 0) || (x.b != 0)) by first | (rw [hg8] <;> rfl) | (simp [hg8]; done) | (simp only [nat_nlt] <;> simp)), trivial⟩ rfl))))
                      · refine J_gd rfl rfl (R_fieldAddr0 fl26_2 rfl) rfl (J_gd rfl rfl (R_load sc3 rfl (h1.one 2 rfl)) rfl (J_gd rfl rfl (R_neq rfl rfl) rfl (J_st (R_pickF rfl rfl) rfl (J_cutEnd ⟨rfl, rfl, rfl, rfl, rfl, rfl, rfl, rfl, rfl, rfl, rfl, rfl, rfl, rfl, rfl, rfl, rfl, congrArg (fun b => some (Value.bool b)) (show (x.b != 0) = ((x.a != 0) || (x.b != 0)) by first | (rw [hg8] <;> rfl) | (simp [hg8]; done) | (simp only [nat_nlt] <;> simp)), trivial⟩ rfl))))
                    rintro _ rfl
                    refine J_done ?_
                    refine S_cond rfl (fun hc16 => ?_) (fun hc16 => ?_)
                    · refine S_seq ?_
                      refine S_reg [true] rfl rfl ?_
                      refine J_st (R_assign rfl) rfl (J_done ?_)
                      refine S_ret (E_inB_ret (E_cut_ret (E_done1 rfl rfl E ?_)))
                      exact node_k (by rw [node_0 (by assumption) (by assumption) (by assumption)]; exact kx0 (by assumption))
                    · refine S_skip ?_
                      refine S_nil (E_inB ?_)
                      refine S_nil (E_cutG () ⟨rfl, rfl, trivial⟩ ⟨E, (by omega), h1, (by rw [node_0 (by assumption) (by assumption) (by assumption)]; exact ky0 (by assumption) (win_kind (by simp at *; omega)))⟩)
                  · refine S_seq ?_
                    refine S_reg [true] rfl rfl ?_
                    refine J_st (R_assign rfl) rfl (J_done ?_)
                    refine S_ret (E_inB_ret (E_cut_ret (E_done1 rfl rfl E ?_)))
                    exact node_k (by rw [node_0 (by assumption) (by assumption) (by assumption), win_not (by simp at *; omega)]; rfl)
  · clear E h1
    rintro _ w14 ⟨E, z2, h1, hkk⟩
    refine S_seq ?_
    refine S_seq ?_
    refine S_regD mixed [(0, true), (1, true), (2, true), (3, true), (4, true), (5, true), (6, true), (7, true), (8, true), (9, true), (10, true), (11, true), (12, true), (13, true), (14, true), (15, true), (16, true), (17, true), (18, true), (19, true), (20, true), (21, true), (22, true), (23, true), (24, true), (25, true), (26, true), (27, true), (28, true), (29, true), (30, true), (31, true)] (by decide +kernel) rfl (fun w15 e6 => ?_)
    replace E := E.trans e6; replace h1 := h1.ext e6
    have z8 := e6.size
    refine J_st (R_fieldAddr0 fl26_3 rfl) rfl (J_st (R_load sc24 rfl (h1.one 3 rfl)) rfl (J_st (R_len Tryd.underlying24 rfl (hd1.ext E).len) rfl (J_st (R_gtr rfl rfl) rfl (J_st (R_move rfl) rfl ?_))))
    refine J_cut 27 [(1, .pointer (some ⟨b1, 0, none⟩)), (2, .bool false), (89, .bool (((decide (2 < ((x.outs.length : Nat) : Int))) || ((x.kind == 8) && (decide (0 < ((x.outs.length : Nat) : Int))))) || ((((x.outs.length : Nat) : Int) == 2) && ((List.getD x.outs 0 default) == (List.getD x.outs 1 default)))))] (fun w' => w15 = w') ?_ ?_
    · refine J_if (gd := 62) rfl rfl (fun hg9 => ?_) (fun hg9 => ?_)
      · have hg9n : x.outs.length > 2 := by first | (have h := of_decide_eq_true hg9; omega) | (have h := hg9; simp at h; omega)
        refine J_gdno rfl rfl rfl rfl (J_gdno rfl rfl rfl rfl (J_gdno rfl rfl rfl rfl (J_gdno rfl rfl rfl rfl (J_gdx rfl rfl rfl (J_gdx rfl rfl rfl (J_gdx rfl rfl rfl (J_gdx rfl rfl rfl (J_gdno rfl rfl rfl rfl (J_st (R_pickT rfl rfl) rfl (J_st (R_move rfl) rfl (J_gdno rfl rfl rfl rfl (J_gdno rfl rfl rfl rfl (J_gdno rfl rfl rfl rfl (J_gdno rfl rfl rfl rfl (J_gdno rfl rfl rfl rfl (J_gdx rfl rfl rfl (J_gdx rfl rfl rfl (J_gdx rfl rfl rfl (J_gdx rfl rfl rfl (J_gdx rfl rfl rfl (J_gdx rfl rfl rfl (J_gdx rfl rfl rfl (J_gdx rfl rfl rfl (J_gdx rfl rfl rfl (J_gdno rfl rfl rfl rfl (J_st (R_pickT rfl rfl) rfl (J_cutEnd ⟨rfl, rfl, congrArg (fun b => some (Value.bool b)) (show true = (((decide (2 < ((x.outs.length : Nat) : Int))) || ((x.kind == 8) && (decide (0 < ((x.outs.length : Nat) : Int))))) || ((((x.outs.length : Nat) : Int) == 2) && ((List.getD x.outs 0 default) == (List.getD x.outs 1 default)))) by first | (rw [hg9] <;> rfl) | (simp [hg9]; done) | (simp only [nat_nlt] <;> simp)), trivial⟩ rfl)))))))))))))))))))))))))))
      · have hg9n : ¬ x.outs.length > 2 := by first | (have h := of_decide_eq_false hg9; omega) | (have h := hg9; simp at h; omega)
        refine J_gd rfl rfl (R_fieldAddr0 fl26_0 rfl) rfl (J_gd rfl rfl (R_load sc3 rfl (h1.one 0 rfl)) rfl (J_gd rfl rfl (R_eql rfl rfl) rfl (J_gd rfl rfl (R_move rfl) rfl ?_)))
        refine J_if (gd := 66) rfl rfl (fun hg10 => ?_) (fun hg10 => ?_)
        · refine J_gd rfl rfl (R_fieldAddr0 fl26_3 rfl) rfl (J_gd rfl rfl (R_load sc24 rfl (h1.one 3 rfl)) rfl (J_gd rfl rfl (R_len Tryd.underlying24 rfl (hd1.ext E).len) rfl (J_gd rfl rfl (R_gtr rfl rfl) rfl (J_gd rfl rfl (R_pickT rfl rfl) rfl (J_st (R_pickF rfl rfl) rfl (J_st (R_move rfl) rfl ?_))))))
          refine J_if (gd := 73) rfl rfl (fun hg11 => ?_) (fun hg11 => ?_)
          · have hg11n : x.outs.length > 0 := by first | (have h := of_decide_eq_true hg11; omega) | (have h := hg11; simp at h; omega)
            refine J_gdno rfl rfl rfl rfl (J_gdno rfl rfl rfl rfl (J_gdno rfl rfl rfl rfl (J_gdno rfl rfl rfl rfl (J_gdno rfl rfl rfl rfl (J_gdx rfl rfl rfl (J_gdx rfl rfl rfl (J_gdx rfl rfl rfl (J_gdx rfl rfl rfl (J_gdx rfl rfl rfl (J_gdx rfl rfl rfl (J_gdx rfl rfl rfl (J_gdx rfl rfl rfl (J_gdx rfl rfl rfl (J_gdno rfl rfl rfl rfl (J_st (R_pickT rfl rfl) rfl (J_cutEnd ⟨rfl, rfl, congrArg (fun b => some (Value.bool b)) (show true = (((decide (2 < ((x.outs.length : Nat) : Int))) || ((x.kind == 8) && (decide (0 < ((x.outs.length : Nat) : Int))))) || ((((x.outs.length : Nat) : Int) == 2) && ((List.getD x.outs 0 default) == (List.getD x.outs 1 default)))) by first | (rw [hg9, hg10, hg11] <;> rfl) | (simp [hg9, hg10, hg11]; done) | (simp only [nat_nlt] <;> simp)), trivial⟩ rfl))))))))))))))))
          · have hg11n : ¬ x.outs.length > 0 := by first | (have h := of_decide_eq_false hg11; omega) | (have h := hg11; simp at h; omega)
            refine J_gd rfl rfl (R_fieldAddr0 fl26_3 rfl) rfl (J_gd rfl rfl (R_load sc24 rfl (h1.one 3 rfl)) rfl (J_gd rfl rfl (R_len Tryd.underlying24 rfl (hd1.ext E).len) rfl (J_gd rfl rfl (R_eql rfl rfl) rfl (J_gd rfl rfl (R_move rfl) rfl ?_))))
            refine J_if (gd := 78) rfl rfl (fun hg12 => ?_) (fun hg12 => ?_)
            · have hg12n : x.outs.length = 2 := by first | (have h := of_decide_eq_true hg12; omega) | (have h := hg12; simp at h; omega)
              refine J_gd rfl rfl (R_fieldAddr0 fl26_3 rfl) rfl (J_gd rfl rfl (R_load sc24 rfl (h1.one 3 rfl)) rfl (J_gd rfl rfl (R_index (i := 0) sl24 rfl rfl (hd1.rd.ext E) (by first | assumption | omega | (simp only [List.length_set]; first | assumption | omega) | (simp only [List.getElem_set_self, List.length_set]; first | assumption | omega) | (simp only [setW, setLk, List.length_set]; first | assumption | omega) | (simp; done) | (simp only [List.length_cons, List.length_nil]; omega))) rfl (J_gd rfl rfl (R_load sc3 rfl ((RdS.getD (hd1.rd.ext E) (i := 0) (by first | assumption | omega | (simp only [List.length_set]; first | assumption | omega) | (simp only [List.getElem_set_self, List.length_set]; first | assumption | omega) | (simp only [setW, setLk, List.length_set]; first | assumption | omega) | (simp; done) | (simp only [List.length_cons, List.length_nil]; omega))).one 0 rfl)) rfl (J_gd rfl rfl (R_fieldAddr0 fl26_3 rfl) rfl (J_gd rfl rfl (R_load sc24 rfl (h1.one 3 rfl)) rfl (J_gd rfl rfl (R_index (i := 1) sl24 rfl rfl (hd1.rd.ext E) (by first | assumption | omega | (simp only [List.length_set]; first | assumption | omega) | (simp only [List.getElem_set_self, List.length_set]; first | assumption | omega) | (simp only [setW, setLk, List.length_set]; first | assumption | omega) | (simp; done) | (simp only [List.length_cons, List.length_nil]; omega))) rfl (J_gd rfl rfl (R_load sc3 rfl ((RdS.getD (hd1.rd.ext E) (i := 1) (by first | assumption | omega | (simp only [List.length_set]; first | assumption | omega) | (simp only [List.getElem_set_self, List.length_set]; first | assumption | omega) | (simp only [setW, setLk, List.length_set]; first | assumption | omega) | (simp; done) | (simp only [List.length_cons, List.length_nil]; omega))).one 0 rfl)) rfl (J_gd rfl rfl (R_eql rfl rfl) rfl (J_gd rfl rfl (R_pickT rfl rfl) rfl (J_st (R_pickF rfl rfl) rfl (J_cutEnd ⟨rfl, rfl, congrArg (fun b => some (Value.bool b)) (show ((List.getD x.outs 0 default) == (List.getD x.outs 1 default)) = (((decide (2 < ((x.outs.length : Nat) : Int))) || ((x.kind == 8) && (decide (0 < ((x.outs.length : Nat) : Int))))) || ((((x.outs.length : Nat) : Int) == 2) && ((List.getD x.outs 0 default) == (List.getD x.outs 1 default)))) by first | (rw [hg9, hg10, hg11, hg12] <;> rfl) | (simp [hg9, hg10, hg11, hg12]; done) | (simp only [nat_nlt] <;> simp)), trivial⟩ rfl)))))))))))
            · have hg12n : ¬ x.outs.length = 2 := by first | (have h := of_decide_eq_false hg12; omega) | (have h := hg12; simp at h; omega)
              refine J_gdno rfl rfl rfl rfl (J_gdno rfl rfl rfl rfl (J_gdno rfl rfl rfl rfl (J_gdno rfl rfl rfl rfl (J_gdno rfl rfl rfl rfl (J_gdno rfl rfl rfl rfl (J_gdno rfl rfl rfl rfl (J_gdno rfl rfl rfl rfl (J_gdno rfl rfl rfl rfl (J_gd rfl rfl (R_pickF rfl rfl) rfl (J_st (R_pickF rfl rfl) rfl (J_cutEnd ⟨rfl, rfl, congrArg (fun b => some (Value.bool b)) (show false = (((decide (2 < ((x.outs.length : Nat) : Int))) || ((x.kind == 8) && (decide (0 < ((x.outs.length : Nat) : Int))))) || ((((x.outs.length : Nat) : Int) == 2) && ((List.getD x.outs 0 default) == (List.getD x.outs 1 default)))) by first | (rw [hg9, hg10, hg11, hg12] <;> rfl) | (simp [hg9, hg10, hg11, hg12]; done) | (simp only [nat_nlt] <;> simp)), trivial⟩ rfl)))))))))))
        · refine J_gdno rfl rfl rfl rfl (J_gdno rfl rfl rfl rfl (J_gdno rfl rfl rfl rfl (J_gdno rfl rfl rfl rfl (J_gd rfl rfl (R_pickF rfl rfl) rfl (J_st (R_pickF rfl rfl) rfl (J_st (R_move rfl) rfl (J_gd rfl rfl (R_fieldAddr0 fl26_3 rfl) rfl (J_gd rfl rfl (R_load sc24 rfl (h1.one 3 rfl)) rfl (J_gd rfl rfl (R_len Tryd.underlying24 rfl (hd1.ext E).len) rfl (J_gd rfl rfl (R_eql rfl rfl) rfl (J_gd rfl rfl (R_move rfl) rfl ?_)))))))))))
          refine J_if (gd := 78) rfl rfl (fun hg13 => ?_) (fun hg13 => ?_)
          · have hg13n : x.outs.length = 2 := by first | (have h := of_decide_eq_true hg13; omega) | (have h := hg13; simp at h; omega)
            refine J_gd rfl rfl (R_fieldAddr0 fl26_3 rfl) rfl (J_gd rfl rfl (R_load sc24 rfl (h1.one 3 rfl)) rfl (J_gd rfl rfl (R_index (i := 0) sl24 rfl rfl (hd1.rd.ext E) (by first | assumption | omega | (simp only [List.length_set]; first | assumption | omega) | (simp only [List.getElem_set_self, List.length_set]; first | assumption | omega) | (simp only [setW, setLk, List.length_set]; first | assumption | omega) | (simp; done) | (simp only [List.length_cons, List.length_nil]; omega))) rfl (J_gd rfl rfl (R_load sc3 rfl ((RdS.getD (hd1.rd.ext E) (i := 0) (by first | assumption | omega | (simp only [List.length_set]; first | assumption | omega) | (simp only [List.getElem_set_self, List.length_set]; first | assumption | omega) | (simp only [setW, setLk, List.length_set]; first | assumption | omega) | (simp; done) | (simp only [List.length_cons, List.length_nil]; omega))).one 0 rfl)) rfl (J_gd rfl rfl (R_fieldAddr0 fl26_3 rfl) rfl (J_gd rfl rfl (R_load sc24 rfl (h1.one 3 rfl)) rfl (J_gd rfl rfl (R_index (i := 1) sl24 rfl rfl (hd1.rd.ext E) (by first | assumption | omega | (simp only [List.length_set]; first | assumption | omega) | (simp only [List.getElem_set_self, List.length_set]; first | assumption | omega) | (simp only [setW, setLk, List.length_set]; first | assumption | omega) | (simp; done) | (simp only [List.length_cons, List.length_nil]; omega))) rfl (J_gd rfl rfl (R_load sc3 rfl ((RdS.getD (hd1.rd.ext E) (i := 1) (by first | assumption | omega | (simp only [List.length_set]; first | assumption | omega) | (simp only [List.getElem_set_self, List.length_set]; first | assumption | omega) | (simp only [setW, setLk, List.length_set]; first | assumption | omega) | (simp; done) | (simp only [List.length_cons, List.length_nil]; omega))).one 0 rfl)) rfl (J_gd rfl rfl (R_eql rfl rfl) rfl (J_gd rfl rfl (R_pickT rfl rfl) rfl (J_st (R_pickF rfl rfl) rfl (J_cutEnd ⟨rfl, rfl, congrArg (fun b => some (Value.bool b)) (show ((List.getD x.outs 0 default) == (List.getD x.outs 1 default)) = (((decide (2 < ((x.outs.length : Nat) : Int))) || ((x.kind == 8) && (decide (0 < ((x.outs.length : Nat) : Int))))) || ((((x.outs.length : Nat) : Int) == 2) && ((List.getD x.outs 0 default) == (List.getD x.outs 1 default)))) by first | (rw [hg9, hg10, hg13] <;> rfl) | (simp [hg9, hg10, hg13]; done) | (simp only [nat_nlt] <;> simp)), trivial⟩ rfl)))))))))))
          · have hg13n : ¬ x.outs.length = 2 := by first | (have h := of_decide_eq_false hg13; omega) | (have h := hg13; simp at h; omega)
            refine J_gdno rfl rfl rfl rfl (J_gdno rfl rfl rfl rfl (J_gdno rfl rfl rfl rfl (J_gdno rfl rfl rfl rfl (J_gdno rfl rfl rfl rfl (J_gdno rfl rfl rfl rfl (J_gdno rfl rfl rfl rfl (J_gdno rfl rfl rfl rfl (J_gdno rfl rfl rfl rfl (J_gd rfl rfl (R_pickF rfl rfl) rfl (J_st (R_pickF rfl rfl) rfl (J_cutEnd ⟨rfl, rfl, congrArg (fun b => some (Value.bool b)) (show false = (((decide (2 < ((x.outs.length : Nat) : Int))) || ((x.kind == 8) && (decide (0 < ((x.outs.length : Nat) : Int))))) || ((((x.outs.length : Nat) : Int) == 2) && ((List.getD x.outs 0 default) == (List.getD x.outs 1 default)))) by first | (rw [hg9, hg10, hg13] <;> rfl) | (simp [hg9, hg10, hg13]; done) | (simp only [nat_nlt] <;> simp)), trivial⟩ rfl)))))))))))
    rintro _ rfl
    refine J_done ?_
    refine S_cond rfl (fun hc17 => ?_) (fun hc17 => ?_)
    · refine S_seq ?_
      refine S_reg [true] rfl rfl ?_
      refine J_st (R_assign rfl) rfl (J_done ?_)
      refine S_ret (E_done1 rfl rfl E ?_)
      exact node_t (by assumption)
    · refine S_skip ?_
      refine S_seq ?_
      refine S_seq ?_
      refine S_reg [true, true, true, true] rfl rfl ?_
      refine J_st (R_fieldAddr0 fl26_3 rfl) rfl (J_st (R_load sc24 rfl (h1.one 3 rfl)) rfl (J_st (R_len Tryd.underlying24 rfl (hd1.ext E).len) rfl (J_st (R_move rfl) rfl (J_done ?_))))
      refine S_block ?_
      refine S_loop (fun (k : Nat) => [(2, .bool false), (91, o1), (92, .int .i64 ((x.outs.length : Nat) : Int)), (93, .int .i64 ((k : Nat) : Int))]) (fun (k : Nat) w' => Ext w w' ∧ w15.heap.size ≤ w'.heap.size ∧ Blk w' b1 ([.int .i64 x.kind, .int .i64 x.a, .int .i64 x.b, o1]) ∧ k ≤ x.outs.length ∧ (x.outs.take k).all (win · 0 7) = true) (fun (k : Nat) => x.outs.length - k) 0 ⟨rfl, rfl, rfl, rfl, trivial⟩ ⟨E, Nat.le_refl _, h1, Nat.zero_le _, rfl⟩ ?_
      clear E h1
      rintro k w17 ⟨E, z9, h1, hk, hI⟩
      refine S_seq ?_
      refine S_reg [true] rfl rfl ?_
      refine J_st (R_lss rfl rfl) rfl (J_done ?_)
      refine S_seq ?_
      refine S_cond rfl (fun hc18 => ?_) (fun hc18 => ?_)
      · have hc18n : k < x.outs.length := by first | (have h := of_decide_eq_true hc18; omega) | (have h := hc18; simp at h; omega)
        refine S_skip ?_
        refine S_seq ?_
        refine S_block ?_
        refine S_seq ?_
        refine S_reg [true, true, true] rfl rfl ?_
        have hi1 : k < x.outs.length := (by first | assumption | omega | (simp only [List.length_set]; first | assumption | omega) | (simp only [List.getElem_set_self, List.length_set]; first | assumption | omega) | (simp only [setW, setLk, List.length_set]; first | assumption | omega) | (simp; done) | (simp only [List.length_cons, List.length_nil]; omega))
        refine J_st (R_index (i := k) sl24 rfl rfl (hd1.rd.ext E) hi1) rfl (J_st (R_load sc3 rfl (((hd1.rd.ext E).get hi1).one 0 rfl)) rfl (J_st (R_assign rfl) rfl (J_done ?_)))
        refine S_seq ?_
        refine S_reg [true, false, true] rfl rfl ?_
        refine J_st (R_move rfl) rfl ?_
        refine J_call Tryd.call24 rfl (c_within (x.outs[k]'hi1) 0 7 _ ) rfl (fun _ w18 e7 hv => ?_)
        subst hv
        replace E := E.trans e7; replace h1 := h1.ext e7
        have z10 := e7.size
        refine J_st (R_not rfl) rfl (J_done ?_)
        refine S_cond rfl (fun hc19 => ?_) (fun hc19 => ?_)
        · refine S_seq ?_
          refine S_reg [true] rfl rfl ?_
          refine J_st (R_assign rfl) rfl (J_done ?_)
          refine S_ret (E_inB_ret (E_lp_ret (E_inB_ret (E_done1 rfl rfl E ?_))))
          exact node_l (by assumption)
        · refine S_skip ?_
          refine S_nil (E_inB ?_)
          refine S_reg [true, true] rfl rfl ?_
          refine J_st (R_add rfl rfl (add_one hc18n (hd1.ext E).1.1)) rfl (J_st (R_move rfl) rfl (J_done ?_))
          refine S_nil (E_again (k + 1) (by omega) ⟨rfl, rfl, rfl, rfl, trivial⟩ ⟨E, (by omega), h1, (by omega), all_step hI (by assumption) (by simpa using (show (!(win x.outs[k] 0 7)) = false by assumption))⟩)
      · have hc18n : ¬ k < x.outs.length := by first | (have h := of_decide_eq_false hc18; omega) | (have h := hc18; simp at h; omega)
        refine S_exit (E_lp_exit (E_inB_exit ?_))
        refine S_seq ?_
        refine S_reg [true] rfl rfl ?_
        refine J_st (R_assign rfl) rfl (J_done ?_)
        refine S_ret (E_done1 rfl rfl E ?_)
        exact node_y hkk (by assumption) hI (by omega)

set_option maxHeartbeats 4000000 in
set_option maxRecDepth 20000 in
theorem s_NodeOk (cx : List Value) (x : Node) (w : World) (hx : Dat.R w 0 w.heap.size cx x) : Ct Tryd.prog 9 [.agg cx.toArray] w (fun v _ => v = .bool (nodeOk x)) := by
  refine ct_of Tryd.func9 rfl Tryd.ntmps9 rfl ?_
  obtain ⟨o1, rfl, hd1⟩ := Node.op hx
  refine S_sub [(0, .agg [.int .i64 x.kind, .int .i64 x.a, .int .i64 x.b, o1].toArray)] ⟨rfl, trivial⟩ ?_
  have E : Ext w w := Ext.refl w
  refine S_seq ?_
  refine S_reg [false, true] rfl rfl ?_
  refine J_box rfl rfl (fun b1 w1 e1 s1 h1 => ?_)
  have g_b1 : w.heap.size ≤ b1 := by have := E.size; omega
  have y_b1 := h1.lt
  replace E := E.trans e1
  have z1 := e1.size
  refine J_st (R_assign rfl) rfl (J_done ?_)
  refine S_seq ?_
  refine S_reg [true, true, true, true] rfl rfl ?_
  refine J_st (R_fieldAddr0 fl26_1 rfl) rfl (J_st (R_load sc3 rfl (h1.one 1 rfl)) rfl (J_st (R_eql rfl rfl) rfl (J_st (R_assign rfl) rfl (J_done ?_))))
  refine S_seq ?_
  refine S_reg [true, true, true, true] rfl rfl ?_
  refine J_st (R_fieldAddr0 fl26_2 rfl) rfl (J_st (R_load sc3 rfl (h1.one 2 rfl)) rfl (J_st (R_eql rfl rfl) rfl (J_st (R_assign rfl) rfl (J_done ?_))))
  refine S_seq ?_
  refine S_seq ?_
  refine S_reg [true, true] rfl rfl ?_
  refine J_st (R_fieldAddr0 fl26_0 rfl) rfl (J_st (R_load sc3 rfl (h1.one 0 rfl)) rfl (J_done ?_))
  refine S_cutG (fun (xq : Bool × Bool) => let ⟨p0, q0⟩ := xq; [(1, .pointer (some ⟨b1, 0, none⟩)), (2, .bool false), (3, .bool p0), (4, .bool q0)]) (fun (xq : Bool × Bool) w' => let ⟨p0, q0⟩ := xq; Ext w w' ∧ w1.heap.size ≤ w'.heap.size ∧ Blk w' b1 ([.int .i64 x.kind, .int .i64 x.a, .int .i64 x.b, o1]) ∧ kindOk x = (win x.kind 1 8 && p0 && q0)) ?_ ?_
  · refine S_block ?_
    refine S_seq ?_
    refine S_reg [true, true] rfl rfl ?_
    refine J_st (R_eql rfl rfl) rfl (J_st (R_assign rfl) rfl (J_done ?_))
    refine S_cond rfl (fun hc1 => ?_) (fun hc1 => ?_)
    · refine S_reg [true, true, false, true] rfl rfl ?_
      refine J_st (R_fieldAddr0 fl26_1 rfl) rfl (J_st (R_load sc3 rfl (h1.one 1 rfl)) rfl ?_)
      refine J_call Tryd.call22 rfl (s_l01In x.a 0 999 _ ) rfl (fun _ w2 e2 hv => ?_)
      subst hv
      replace E := E.trans e2; replace h1 := h1.ext e2
      have z3 := e2.size
      refine J_st (R_assign rfl) rfl (J_done ?_)
      refine S_nil (E_inB ?_)
      refine S_nil (E_cutG (win x.a 0 999, x.b == 0) ⟨rfl, rfl, rfl, rfl, trivial⟩ ⟨E, (by omega), h1, (by rw [node_2 (by assumption), win_kind (n := x.kind) (by have := eq_of_beq (show (x.kind == 2) = true by assumption); omega), Bool.true_and])⟩)
    · refine S_seq ?_
      refine S_reg [true, true] rfl rfl ?_
      refine J_st (R_eql rfl rfl) rfl (J_st (R_assign rfl) rfl (J_done ?_))
      refine S_cond rfl (fun hc2 => ?_) (fun hc2 => ?_)
      · refine S_seq ?_
        refine S_reg [true, true, false, true] rfl rfl ?_
        refine J_st (R_fieldAddr0 fl26_1 rfl) rfl (J_st (R_load sc3 rfl (h1.one 1 rfl)) rfl ?_)
        refine J_call Tryd.call22 rfl (s_l01In x.a 1 10 _ ) rfl (fun _ w3 e3 hv => ?_)
        subst hv
        replace E := E.trans e3; replace h1 := h1.ext e3
        have z4 := e3.size
        refine J_st (R_assign rfl) rfl (J_done ?_)
        refine S_reg [true, true, true, true, true, false, true] rfl rfl ?_
        refine J_st (R_fieldAddr0 fl26_2 rfl) rfl (J_st (R_load sc3 rfl (h1.one 2 rfl)) rfl (J_st (R_fieldAddr0 fl26_1 rfl) rfl (J_st (R_load sc3 rfl (h1.one 1 rfl)) rfl (J_st (R_sub rfl rfl rfl) rfl ?_))))
        refine J_call Tryd.call22 rfl (s_l01In x.b 0 (IntKind.i64.wrap (x.a - 1)) _ ) rfl (fun _ w4 e4 hv => ?_)
        subst hv
        replace E := E.trans e4; replace h1 := h1.ext e4
        have z5 := e4.size
        refine J_st (R_assign rfl) rfl (J_done ?_)
        refine S_nil (E_inB ?_)
        refine S_nil (E_cutG (win x.a 1 10, win x.b 0 (IntKind.i64.wrap (x.a - 1))) ⟨rfl, rfl, rfl, rfl, trivial⟩ ⟨E, (by omega), h1, (by rw [node_3 (by assumption), win_kind (n := x.kind) (by have := eq_of_beq (show (x.kind == 3) = true by assumption); omega), Bool.true_and])⟩)
      · refine S_seq ?_
        refine S_reg [true, true] rfl rfl ?_
        refine J_st (R_eql rfl rfl) rfl (J_st (R_assign rfl) rfl (J_done ?_))
        refine S_cond rfl (fun hc3 => ?_) (fun hc3 => ?_)
        · refine S_reg [true, true, false, true] rfl rfl ?_
          refine J_st (R_fieldAddr0 fl26_1 rfl) rfl (J_st (R_load sc3 rfl (h1.one 1 rfl)) rfl ?_)
          refine J_call Tryd.call22 rfl (s_l01In x.a 0 99 _ ) rfl (fun _ w5 e5 hv => ?_)
          subst hv
          replace E := E.trans e5; replace h1 := h1.ext e5
          have z6 := e5.size
          refine J_st (R_assign rfl) rfl (J_done ?_)
          refine S_nil (E_inB ?_)
          refine S_nil (E_cutG (win x.a 0 99, x.b == 0) ⟨rfl, rfl, rfl, rfl, trivial⟩ ⟨E, (by omega), h1, (by rw [node_4 (by assumption), win_kind (n := x.kind) (by have := eq_of_beq (show (x.kind == 4) = true by assumption); omega), Bool.true_and])⟩)
        · refine S_skip ?_
          refine S_nil (E_inB ?_)
          refine S_nil (E_cutG (x.a == 0, x.b == 0) ⟨rfl, rfl, rfl, rfl, trivial⟩ ⟨E, (by omega), h1, (node_0 (by assumption) (by assumption) (by assumption))⟩)
  · clear E h1
    rintro ⟨p0, q0⟩ w6 ⟨E, z2, h1, hpq⟩
    refine S_sub [(1, .pointer (some ⟨b1, 0, none⟩)), (2, .bool false), (3, .bool p0), (4, .bool q0)] ⟨rfl, rfl, rfl, rfl, trivial⟩ ?_
    refine S_seq ?_
    refine S_seq ?_
    refine S_reg [true, true, false, true, true, true, true, true, true, true, true, true, true, true, true, true, true, true, true, true, true, true, true, true, true, true, true, true, true] rfl rfl ?_
    refine J_st (R_fieldAddr0 fl26_0 rfl) rfl (J_st (R_load sc3 rfl (h1.one 0 rfl)) rfl ?_)
    refine J_call Tryd.call22 rfl (s_l01In x.kind 1 8 _ ) rfl (fun _ w7 e6 hv => ?_)
    subst hv
    replace E := E.trans e6; replace h1 := h1.ext e6
    have z7 := e6.size
    refine J_st (R_not rfl) rfl (J_st (R_move rfl) rfl ?_)
    refine J_cut 24 [(1, .pointer (some ⟨b1, 0, none⟩)), (2, .bool false), (3, .bool p0), (4, .bool q0), (63, .bool (((((!(win x.kind 1 8)) || (!p0)) || (!q0)) || (decide (2 < ((x.outs.length : Nat) : Int)))) || ((x.kind == 8) && (decide (0 < ((x.outs.length : Nat) : Int))))))] (fun w' => w7 = w') ?_ ?_
    · refine J_if (gd := 39) rfl rfl (fun hg1 => ?_) (fun hg1 => ?_)
      · refine J_gdno rfl rfl rfl rfl (J_gdno rfl rfl rfl rfl (J_st (R_pickT rfl rfl) rfl (J_st (R_move rfl) rfl (J_gdno rfl rfl rfl rfl (J_gdno rfl rfl rfl rfl (J_st (R_pickT rfl rfl) rfl (J_st (R_move rfl) rfl (J_gdno rfl rfl rfl rfl (J_gdno rfl rfl rfl rfl (J_gdno rfl rfl rfl rfl (J_gdno rfl rfl rfl rfl (J_st (R_pickT rfl rfl) rfl (J_st (R_move rfl) rfl (J_gdno rfl rfl rfl rfl (J_gdno rfl rfl rfl rfl (J_gdno rfl rfl rfl rfl (J_gdno rfl rfl rfl rfl (J_gdx rfl rfl rfl (J_gdx rfl rfl rfl (J_gdx rfl rfl rfl (J_gdx rfl rfl rfl (J_gdno rfl rfl rfl rfl (J_st (R_pickT rfl rfl) rfl (J_cutEnd ⟨rfl, rfl, rfl, rfl, congrArg (fun b => some (Value.bool b)) (show true = (((((!(win x.kind 1 8)) || (!p0)) || (!q0)) || (decide (2 < ((x.outs.length : Nat) : Int)))) || ((x.kind == 8) && (decide (0 < ((x.outs.length : Nat) : Int))))) by first | (rw [hg1] <;> rfl) | (simp [hg1]; done) | (simp only [nat_nlt] <;> simp)), trivial⟩ rfl))))))))))))))))))))))))
      · refine J_gd rfl rfl (R_move rfl) rfl (J_gd rfl rfl (R_not rfl) rfl (J_st (R_pickF rfl rfl) rfl (J_st (R_move rfl) rfl ?_)))
        refine J_if (gd := 43) rfl rfl (fun hg2 => ?_) (fun hg2 => ?_)
        · refine J_gdno rfl rfl rfl rfl (J_gdno rfl rfl rfl rfl (J_st (R_pickT rfl rfl) rfl (J_st (R_move rfl) rfl (J_gdno rfl rfl rfl rfl (J_gdno rfl rfl rfl rfl (J_gdno rfl rfl rfl rfl (J_gdno rfl rfl rfl rfl (J_st (R_pickT rfl rfl) rfl (J_st (R_move rfl) rfl (J_gdno rfl rfl rfl rfl (J_gdno rfl rfl rfl rfl (J_gdno rfl rfl rfl rfl (J_gdno rfl rfl rfl rfl (J_gdx rfl rfl rfl (J_gdx rfl rfl rfl (J_gdx rfl rfl rfl (J_gdx rfl rfl rfl (J_gdno rfl rfl rfl rfl (J_st (R_pickT rfl rfl) rfl (J_cutEnd ⟨rfl, rfl, rfl, rfl, congrArg (fun b => some (Value.bool b)) (show true = (((((!(win x.kind 1 8)) || (!p0)) || (!q0)) || (decide (2 < ((x.outs.length : Nat) : Int)))) || ((x.kind == 8) && (decide (0 < ((x.outs.length : Nat) : Int))))) by first | (rw [hg1, hg2] <;> rfl) | (simp [hg1, hg2]; done) | (simp only [nat_nlt] <;> simp)), trivial⟩ rfl))))))))))))))))))))
        · refine J_gd rfl rfl (R_move rfl) rfl (J_gd rfl rfl (R_not rfl) rfl (J_st (R_pickF rfl rfl) rfl (J_st (R_move rfl) rfl ?_)))
          refine J_if (gd := 47) rfl rfl (fun hg3 => ?_) (fun hg3 => ?_)
          · refine J_gdno rfl rfl rfl rfl (J_gdno rfl rfl rfl rfl (J_gdno rfl rfl rfl rfl (J_gdno rfl rfl rfl rfl (J_st (R_pickT rfl rfl) rfl (J_st (R_move rfl) rfl (J_gdno rfl rfl rfl rfl (J_gdno rfl rfl rfl rfl (J_gdno rfl rfl rfl rfl (J_gdno rfl rfl rfl rfl (J_gdx rfl rfl rfl (J_gdx rfl rfl rfl (J_gdx rfl rfl rfl (J_gdx rfl rfl rfl (J_gdno rfl rfl rfl rfl (J_st (R_pickT rfl rfl) rfl (J_cutEnd ⟨rfl, rfl, rfl, rfl, congrArg (fun b => some (Value.bool b)) (show true = (((((!(win x.kind 1 8)) || (!p0)) || (!q0)) || (decide (2 < ((x.outs.length : Nat) : Int)))) || ((x.kind == 8) && (decide (0 < ((x.outs.length : Nat) : Int))))) by first | (rw [hg1, hg2, hg3] <;> rfl) | (simp [hg1, hg2, hg3]; done) | (simp only [nat_nlt] <;> simp)), trivial⟩ rfl))))))))))))))))
          · refine J_gd rfl rfl (R_fieldAddr0 fl26_3 rfl) rfl (J_gd rfl rfl (R_load sc24 rfl (h1.one 3 rfl)) rfl (J_gd rfl rfl (R_len Tryd.underlying24 rfl (hd1.ext E).len) rfl (J_gd rfl rfl (R_gtr rfl rfl) rfl (J_st (R_pickF rfl rfl) rfl (J_st (R_move rfl) rfl ?_)))))
            refine J_if (gd := 53) rfl rfl (fun hg4 => ?_) (fun hg4 => ?_)
            · have hg4n : x.outs.length > 2 := by first | (have h := of_decide_eq_true hg4; omega) | (have h := hg4; simp at h; omega)
              refine J_gdno rfl rfl rfl rfl (J_gdno rfl rfl rfl rfl (J_gdno rfl rfl rfl rfl (J_gdno rfl rfl rfl rfl (J_gdx rfl rfl rfl (J_gdx rfl rfl rfl (J_gdx rfl rfl rfl (J_gdx rfl rfl rfl (J_gdno rfl rfl rfl rfl (J_st (R_pickT rfl rfl) rfl (J_cutEnd ⟨rfl, rfl, rfl, rfl, congrArg (fun b => some (Value.bool b)) (show true = (((((!(win x.kind 1 8)) || (!p0)) || (!q0)) || (decide (2 < ((x.outs.length : Nat) : Int)))) || ((x.kind == 8) && (decide (0 < ((x.outs.length : Nat) : Int))))) by first | (rw [hg1, hg2, hg3, hg4] <;> rfl) | (simp [hg1, hg2, hg3, hg4]; done) | (simp only [nat_nlt] <;> simp)), trivial⟩ rfl))))))))))
            · have hg4n : ¬ x.outs.length > 2 := by first | (have h := of_decide_eq_false hg4; omega) | (have h := hg4; simp at h; omega)
              refine J_gd rfl rfl (R_fieldAddr0 fl26_0 rfl) rfl (J_gd rfl rfl (R_load sc3 rfl (h1.one 0 rfl)) rfl (J_gd rfl rfl (R_eql rfl rfl) rfl (J_gd rfl rfl (R_move rfl) rfl ?_)))
              refine J_if (gd := 57) rfl rfl (fun hg5 => ?_) (fun hg5 => ?_)
              · refine J_gd rfl rfl (R_fieldAddr0 fl26_3 rfl) rfl (J_gd rfl rfl (R_load sc24 rfl (h1.one 3 rfl)) rfl (J_gd rfl rfl (R_len Tryd.underlying24 rfl (hd1.ext E).len) rfl (J_gd rfl rfl (R_gtr rfl rfl) rfl (J_gd rfl rfl (R_pickT rfl rfl) rfl (J_st (R_pickF rfl rfl) rfl (J_cutEnd ⟨rfl, rfl, rfl, rfl, congrArg (fun b => some (Value.bool b)) (show (decide (0 < ((x.outs.length : Nat) : Int))) = (((((!(win x.kind 1 8)) || (!p0)) || (!q0)) || (decide (2 < ((x.outs.length : Nat) : Int)))) || ((x.kind == 8) && (decide (0 < ((x.outs.length : Nat) : Int))))) by first | (rw [hg1, hg2, hg3, hg4, hg5] <;> rfl) | (simp [hg1, hg2, hg3, hg4, hg5]; done) | (simp only [nat_nlt] <;> simp)), trivial⟩ rfl))))))
              · refine J_gdno rfl rfl rfl rfl (J_gdno rfl rfl rfl rfl (J_gdno rfl rfl rfl rfl (J_gdno rfl rfl rfl rfl (J_gd rfl rfl (R_pickF rfl rfl) rfl (J_st (R_pickF rfl rfl) rfl (J_cutEnd ⟨rfl, rfl, rfl, rfl, congrArg (fun b => some (Value.bool b)) (show false = (((((!(win x.kind 1 8)) || (!p0)) || (!q0)) || (decide (2 < ((x.outs.length : Nat) : Int)))) || ((x.kind == 8) && (decide (0 < ((x.outs.length : Nat) : Int))))) by first | (rw [hg1, hg2, hg3, hg4, hg5] <;> rfl) | (simp [hg1, hg2, hg3, hg4, hg5]; done) | (simp only [nat_nlt] <;> simp)), trivial⟩ rfl))))))
    rintro _ rfl
    refine J_done ?_
    refine S_cond rfl (fun hc4 => ?_) (fun hc4 => ?_)
    · refine S_seq ?_
      refine S_reg [true] rfl rfl ?_
      refine J_st (R_assign rfl) rfl (J_done ?_)
      refine S_ret (E_done1 rfl rfl E ?_)
      exact node_s hpq (by assumption)
    · refine S_skip ?_
      refine S_seq ?_
      refine S_seq ?_
      refine S_reg [true] rfl rfl ?_
      refine J_st (R_assign rfl) rfl (J_done ?_)
      refine S_block ?_
      refine S_loop (fun (k : Nat) => [(1, .pointer (some ⟨b1, 0, none⟩)), (2, .bool false), (5, .int .i64 ((k : Nat) : Int))]) (fun (k : Nat) w' => Ext w w' ∧ w7.heap.size ≤ w'.heap.size ∧ Blk w' b1 ([.int .i64 x.kind, .int .i64 x.a, .int .i64 x.b, o1]) ∧ k ≤ x.outs.length ∧ (x.outs.take k).all (win · 0 7) = true ∧ (1 < k → ((List.getD x.outs 0 default) == (List.getD x.outs 1 default)) = false)) (fun (k : Nat) => x.outs.length - k) 0 ⟨rfl, rfl, rfl, trivial⟩ ⟨E, Nat.le_refl _, h1, Nat.zero_le _, rfl, (by omega)⟩ ?_
      clear E h1
      rintro k w9 ⟨E, z8, h1, hk, hI, hJ⟩
      refine S_seq ?_
      refine S_seq ?_
      refine S_reg [true, true, true, true, true] rfl rfl ?_
      refine J_st (R_move rfl) rfl (J_st (R_fieldAddr0 fl26_3 rfl) rfl (J_st (R_load sc24 rfl (h1.one 3 rfl)) rfl (J_st (R_len Tryd.underlying24 rfl (hd1.ext E).len) rfl (J_st (R_lss rfl rfl) rfl (J_done ?_)))))
      refine S_cond rfl (fun hc5 => ?_) (fun hc5 => ?_)
      · have hc5n : k < x.outs.length := by first | (have h := of_decide_eq_true hc5; omega) | (have h := hc5; simp at h; omega)
        refine S_skip ?_
        refine S_seq ?_
        refine S_block ?_
        refine S_seq ?_
        refine S_regD mixed [(0, true), (1, true), (2, true), (3, true), (4, true), (5, false), (6, true), (7, true), (8, true), (9, true), (10, true), (11, true), (12, true), (13, true), (14, true), (15, true), (16, true), (17, true), (18, true), (19, true), (20, true), (21, true)] (by decide +kernel) rfl (fun w10 e7 => ?_)
        replace E := E.trans e7; replace h1 := h1.ext e7
        have z9 := e7.size
        refine J_st (R_fieldAddr0 fl26_3 rfl) rfl (J_st (R_load sc24 rfl (h1.one 3 rfl)) rfl (J_st (R_move rfl) rfl ?_))
        have hi1 : k < x.outs.length := (by first | assumption | omega | (simp only [List.length_set]; first | assumption | omega) | (simp only [List.getElem_set_self, List.length_set]; first | assumption | omega) | (simp only [setW, setLk, List.length_set]; first | assumption | omega) | (simp; done) | (simp only [List.length_cons, List.length_nil]; omega))
        refine J_st (R_index (i := k) sl24 rfl rfl (hd1.rd.ext E) hi1) rfl (J_st (R_load sc3 rfl (((hd1.rd.ext E).get hi1).one 0 rfl)) rfl ?_)
        refine J_call Tryd.call22 rfl (s_l01In (x.outs[k]'hi1) 0 7 _ ) rfl (fun _ w11 e8 hv => ?_)
        subst hv
        replace E := E.trans e8; replace h1 := h1.ext e8
        have z10 := e8.size
        refine J_st (R_not rfl) rfl (J_st (R_move rfl) rfl ?_)
        refine J_cut 14 [(1, .pointer (some ⟨b1, 0, none⟩)), (2, .bool false), (5, .int .i64 ((k : Nat) : Int)), (64, .int .i64 ((k : Nat) : Int)), (65, .pointer (some ⟨b1, 3, none⟩)), (66, o1), (67, .int .i64 ((x.outs.length : Nat) : Int)), (68, .bool (decide (((k : Nat) : Int) < ((x.outs.length : Nat) : Int)))), (92, .bool ((!(win (x.outs[k]'hi1) 0 7)) || ((decide (0 < ((k : Nat) : Int))) && ((List.getD x.outs 0 default) == (List.getD x.outs 1 default)))))] (fun w' => w11 = w') ?_ ?_
        · refine J_if (gd := 78) rfl rfl (fun hg6 => ?_) (fun hg6 => ?_)
          · refine J_gdno rfl rfl rfl rfl (J_gdno rfl rfl rfl rfl (J_gdno rfl rfl rfl rfl (J_gdx rfl rfl rfl (J_gdx rfl rfl rfl (J_gdx rfl rfl rfl (J_gdx rfl rfl rfl (J_gdx rfl rfl rfl (J_gdx rfl rfl rfl (J_gdx rfl rfl rfl (J_gdx rfl rfl rfl (J_gdx rfl rfl rfl (J_gdno rfl rfl rfl rfl (J_st (R_pickT rfl rfl) rfl (J_cutEnd ⟨rfl, rfl, rfl, rfl, rfl, rfl, rfl, rfl, congrArg (fun b => some (Value.bool b)) (show true = ((!(win (x.outs[k]'hi1) 0 7)) || ((decide (0 < ((k : Nat) : Int))) && ((List.getD x.outs 0 default) == (List.getD x.outs 1 default)))) by first | (rw [hg6] <;> rfl) | (simp [hg6]; done) | (simp only [nat_nlt] <;> simp)), trivial⟩ rfl))))))))))))))
          · refine J_gd rfl rfl (R_move rfl) rfl (J_gd rfl rfl (R_gtr rfl rfl) rfl (J_gd rfl rfl (R_move rfl) rfl ?_))
            refine J_if (gd := 81) rfl rfl (fun hg7 => ?_) (fun hg7 => ?_)
            · have hg7n : k > 0 := by first | (have h := of_decide_eq_true hg7; omega) | (have h := hg7; simp at h; omega)
              refine J_gd rfl rfl (R_fieldAddr0 fl26_3 rfl) rfl (J_gd rfl rfl (R_load sc24 rfl (h1.one 3 rfl)) rfl (J_gd rfl rfl (R_index (i := 0) sl24 rfl rfl (hd1.rd.ext E) (by first | assumption | omega | (simp only [List.length_set]; first | assumption | omega) | (simp only [List.getElem_set_self, List.length_set]; first | assumption | omega) | (simp only [setW, setLk, List.length_set]; first | assumption | omega) | (simp; done) | (simp only [List.length_cons, List.length_nil]; omega))) rfl (J_gd rfl rfl (R_load sc3 rfl ((RdS.getD (hd1.rd.ext E) (i := 0) (by first | assumption | omega | (simp only [List.length_set]; first | assumption | omega) | (simp only [List.getElem_set_self, List.length_set]; first | assumption | omega) | (simp only [setW, setLk, List.length_set]; first | assumption | omega) | (simp; done) | (simp only [List.length_cons, List.length_nil]; omega))).one 0 rfl)) rfl (J_gd rfl rfl (R_fieldAddr0 fl26_3 rfl) rfl (J_gd rfl rfl (R_load sc24 rfl (h1.one 3 rfl)) rfl (J_gd rfl rfl (R_index (i := 1) sl24 rfl rfl (hd1.rd.ext E) (by first | assumption | omega | (simp only [List.length_set]; first | assumption | omega) | (simp only [List.getElem_set_self, List.length_set]; first | assumption | omega) | (simp only [setW, setLk, List.length_set]; first | assumption | omega) | (simp; done) | (simp only [List.length_cons, List.length_nil]; omega))) rfl (J_gd rfl rfl (R_load sc3 rfl ((RdS.getD (hd1.rd.ext E) (i := 1) (by first | assumption | omega | (simp only [List.length_set]; first | assumption | omega) | (simp only [List.getElem_set_self, List.length_set]; first | assumption | omega) | (simp only [setW, setLk, List.length_set]; first | assumption | omega) | (simp; done) | (simp only [List.length_cons, List.length_nil]; omega))).one 0 rfl)) rfl (J_gd rfl rfl (R_eql rfl rfl) rfl (J_gd rfl rfl (R_pickT rfl rfl) rfl (J_st (R_pickF rfl rfl) rfl (J_cutEnd ⟨rfl, rfl, rfl, rfl, rfl, rfl, rfl, rfl, congrArg (fun b => some (Value.bool b)) (show ((List.getD x.outs 0 default) == (List.getD x.outs 1 default)) = ((!(win (x.outs[k]'hi1) 0 7)) || ((decide (0 < ((k : Nat) : Int))) && ((List.getD x.outs 0 default) == (List.getD x.outs 1 default)))) by first | (rw [hg6, hg7] <;> rfl) | (simp [hg6, hg7]; done) | (simp only [nat_nlt] <;> simp)), trivial⟩ rfl)))))))))))
            · have hg7n : ¬ k > 0 := by first | (have h := of_decide_eq_false hg7; omega) | (have h := hg7; simp at h; omega)
              refine J_gdno rfl rfl rfl rfl (J_gdno rfl rfl rfl rfl (J_gdno rfl rfl rfl rfl (J_gdno rfl rfl rfl rfl (J_gdno rfl rfl rfl rfl (J_gdno rfl rfl rfl rfl (J_gdno rfl rfl rfl rfl (J_gdno rfl rfl rfl rfl (J_gdno rfl rfl rfl rfl (J_gd rfl rfl (R_pickF rfl rfl) rfl (J_st (R_pickF rfl rfl) rfl (J_cutEnd ⟨rfl, rfl, rfl, rfl, rfl, rfl, rfl, rfl, congrArg (fun b => some (Value.bool b)) (show false = ((!(win (x.outs[k]'hi1) 0 7)) || ((decide (0 < ((k : Nat) : Int))) && ((List.getD x.outs 0 default) == (List.getD x.outs 1 default)))) by first | (rw [hg6, hg7] <;> rfl) | (simp [hg6, hg7]; done) | (simp only [nat_nlt] <;> simp)), trivial⟩ rfl)))))))))))
        rintro _ rfl
        refine J_done ?_
        refine S_cond rfl (fun hc6 => ?_) (fun hc6 => ?_)
        · refine S_seq ?_
          refine S_reg [true] rfl rfl ?_
          refine J_st (R_assign rfl) rfl (J_done ?_)
          refine S_ret (E_inB_ret (E_lp_ret (E_inB_ret (E_done1 rfl rfl E ?_))))
          exact node_d (by assumption) (node_p (p := p0) (q := q0) (by assumption) hpq).2
        · refine S_skip ?_
          refine S_nil (E_inB ?_)
          refine S_reg [true, true, true] rfl rfl ?_
          refine J_st (R_move rfl) rfl (J_st (R_add rfl rfl (add_one hc5n (hd1.ext E).1.1)) rfl (J_st (R_assign rfl) rfl (J_done ?_)))
          refine S_nil (E_again (k + 1) (by omega) ⟨rfl, rfl, rfl, trivial⟩ ⟨E, (by omega), h1, (by omega), all_step hI (by assumption) (nodeL (by assumption)), nodeJ (by assumption)⟩)
      · have hc5n : ¬ k < x.outs.length := by first | (have h := of_decide_eq_false hc5; omega) | (have h := hc5; simp at h; omega)
        refine S_exit (E_lp_exit (E_inB_exit ?_))
        refine S_seq ?_
        refine S_reg [true] rfl rfl ?_
        refine J_st (R_assign rfl) rfl (J_done ?_)
        refine S_ret (E_done1 rfl rfl E ?_)
        exact node_z (p := p0) (q := q0) (by assumption) hpq hI hJ (by omega)

set_option maxRecDepth 20000 in
theorem c_itemOk (a : Int) (b : Int) (w : World)  : Ct Tryd.prog 21 [.int .i64 a, .int .i64 b] w (fun v _ => v = .bool (win a 0 99 && win b 0 999)) := by
  refine ct_of Tryd.func21 rfl Tryd.ntmps21 rfl ?_
  refine S_sub [(0, .int .i64 a), (1, .int .i64 b)] ⟨rfl, rfl, trivial⟩ ?_
  have E : Ext w w := Ext.refl w
  refine S_seq ?_
  refine S_reg [true] rfl rfl ?_
  refine J_st (R_assign rfl) rfl (J_done ?_)
  refine S_seq ?_
  refine S_reg [true, false, true, true, false, true, true] rfl rfl ?_
  refine J_st (R_move rfl) rfl ?_
  refine J_call Tryd.call24 rfl (c_within a 0 99 _ ) rfl (fun _ w1 e1 hv => ?_)
  subst hv
  replace E := E.trans e1
  have z1 := e1.size
  refine J_st (R_move rfl) rfl ?_
  refine J_cut 3 [(0, .int .i64 a), (1, .int .i64 b), (4, .bool false), (10, .bool ((win a 0 99) && (win b 0 999)))] (fun w' => Ext w w' ∧ w1.heap.size ≤ w'.heap.size) ?_ ?_
  · refine J_if (gd := 7) rfl rfl (fun hg1 => ?_) (fun hg1 => ?_)
    · refine J_gd rfl rfl (R_move rfl) rfl ?_
      refine J_ung rfl rfl ?_
      refine J_call Tryd.call24 rfl (c_within b 0 999 _ ) rfl (fun _ w3 e2 hv => ?_)
      subst hv
      replace E := E.trans e2
      have z2 := e2.size
      refine J_st (R_pickT rfl rfl) rfl (J_cutEnd ⟨rfl, rfl, rfl, congrArg (fun b => some (Value.bool b)) (show (win b 0 999) = ((win a 0 99) && (win b 0 999)) by first | (rw [hg1] <;> rfl) | (simp [hg1]; done) | (simp only [nat_nlt] <;> simp)), trivial⟩ ⟨E, (by omega)⟩)
    · refine J_gdno rfl rfl rfl rfl ?_
      refine J_ungno rfl rfl rfl rfl ?_
      refine J_st (R_pickF rfl rfl) rfl (J_cutEnd ⟨rfl, rfl, rfl, congrArg (fun b => some (Value.bool b)) (show false = ((win a 0 99) && (win b 0 999)) by first | (rw [hg1] <;> rfl) | (simp [hg1]; done) | (simp only [nat_nlt] <;> simp)), trivial⟩ ⟨E, (by omega)⟩)
  clear E
  rintro w2 ⟨E, z3⟩
  refine J_st (R_assign rfl) rfl (J_done ?_)
  refine S_ret (E_done1 rfl rfl E ?_)
  rfl

set_option maxRecDepth 20000 in
theorem s_l02Less (a : Int) (b : Int) (w : World)  : Ct Tryd.prog 23 [.int .i64 a, .int .i64 b] w (fun v _ => v = .int .i64 (if b < a then b else a)) := by
  refine ct_of Tryd.func23 rfl Tryd.ntmps23 rfl ?_
  refine S_sub [(0, .int .i64 a), (1, .int .i64 b)] ⟨rfl, rfl, trivial⟩ ?_
  have E : Ext w w := Ext.refl w
  refine S_seq ?_
  refine S_reg [true] rfl rfl ?_
  refine J_st (R_assign rfl) rfl (J_done ?_)
  refine S_seq ?_
  refine S_seq ?_
  refine S_reg [true, true, true] rfl rfl ?_
  refine J_st (R_move rfl) rfl (J_st (R_move rfl) rfl (J_st (R_lss rfl rfl) rfl (J_done ?_)))
  refine S_cond rfl (fun hc1 => ?_) (fun hc1 => ?_)
  · refine S_seq ?_
    refine S_reg [true, true] rfl rfl ?_
    refine J_st (R_move rfl) rfl (J_st (R_assign rfl) rfl (J_done ?_))
    refine S_ret (E_done1 rfl rfl E ?_)
    rw [if_pos (of_decide_eq_true hc1)]
  · refine S_skip ?_
    refine S_seq ?_
    refine S_reg [true, true] rfl rfl ?_
    refine J_st (R_move rfl) rfl (J_st (R_assign rfl) rfl (J_done ?_))
    refine S_ret (E_done1 rfl rfl E ?_)
    rw [if_neg (of_decide_eq_false hc1)]

set_option maxRecDepth 20000 in
theorem c_Changed (cx : List Value) (x : Node) (a : Int) (b : Int) (w : World) (hx : Dat.R w 0 w.heap.size cx x) : Ct Tryd.prog 6 [.agg cx.toArray, .int .i64 a, .int .i64 b] w (fun v _ => v = .tuple [.int .i64 ((changedM x a b).1), .int .i64 ((changedM x a b).2.1), .bool ((changedM x a b).2.2)].toArray) := by
  refine ct_of Tryd.func6 rfl Tryd.ntmps6 rfl ?_
  obtain ⟨o1, rfl, hd1⟩ := Node.op hx
  refine S_sub [(0, .agg [.int .i64 x.kind, .int .i64 x.a, .int .i64 x.b, o1].toArray), (1, .int .i64 a), (2, .int .i64 b)] ⟨rfl, rfl, rfl, trivial⟩ ?_
  have E : Ext w w := Ext.refl w
  refine S_seq ?_
  refine S_reg [false, true, true, true] rfl rfl ?_
  refine J_box rfl rfl (fun b1 w1 e1 s1 h1 => ?_)
  have g_b1 : w.heap.size ≤ b1 := by have := E.size; omega
  have y_b1 := h1.lt
  replace E := E.trans e1
  have z1 := e1.size
  refine J_st (R_assign rfl) rfl (J_st (R_assign rfl) rfl (J_st (R_assign rfl) rfl (J_done ?_)))
  refine S_seq ?_
  refine S_seq ?_
  refine S_reg [true, false, true, true, true, true, false, true, true] rfl rfl ?_
  refine J_st (R_loadS st26 rfl h1.at rfl) rfl ?_
  refine J_call Tryd.call8 rfl (c_NodeOk [.int .i64 x.kind, .int .i64 x.a, .int .i64 x.b, o1] x _ (Node.mkR x (RdD.any (hd1.ext E)))) rfl (fun _ w2 e2 hv => ?_)
  subst hv
  replace E := E.trans e2; replace h1 := h1.ext e2
  have z2 := e2.size
  refine J_st (R_not rfl) rfl (J_st (R_move rfl) rfl ?_)
  refine J_cut 5 [(0, .agg [.int .i64 x.kind, .int .i64 x.a, .int .i64 x.b, o1].toArray), (1, .int .i64 a), (2, .int .i64 b), (3, .pointer (some ⟨b1, 0, none⟩)), (6, .int .i64 0), (7, .int .i64 0), (8, .bool false), (17, .bool ((!(nodeOk x)) || (!(win a 0 99 && win b 0 999))))] (fun w' => Ext w w' ∧ w2.heap.size ≤ w'.heap.size ∧ Blk w' b1 ([.int .i64 x.kind, .int .i64 x.a, .int .i64 x.b, o1])) ?_ ?_
  · refine J_if (gd := 12) rfl rfl (fun hg1 => ?_) (fun hg1 => ?_)
    · refine J_gdno rfl rfl rfl rfl (J_gdno rfl rfl rfl rfl ?_)
      refine J_ungno rfl rfl rfl rfl ?_
      refine J_gdno rfl rfl rfl rfl (J_st (R_pickT rfl rfl) rfl (J_cutEnd ⟨rfl, rfl, rfl, rfl, rfl, rfl, rfl, congrArg (fun b => some (Value.bool b)) (show true = ((!(nodeOk x)) || (!(win a 0 99 && win b 0 999))) by first | (rw [hg1] <;> rfl) | (simp [hg1]; done) | (simp only [nat_nlt] <;> simp)), trivial⟩ ⟨E, (by omega), h1⟩))
    · refine J_gd rfl rfl (R_move rfl) rfl (J_gd rfl rfl (R_move rfl) rfl ?_)
      refine J_ung rfl rfl ?_
      refine J_call Tryd.call21 rfl (c_itemOk a b _ ) rfl (fun _ w4 e3 hv => ?_)
      subst hv
      replace E := E.trans e3; replace h1 := h1.ext e3
      have z3 := e3.size
      refine J_gd rfl rfl (R_not rfl) rfl (J_st (R_pickF rfl rfl) rfl (J_cutEnd ⟨rfl, rfl, rfl, rfl, rfl, rfl, rfl, congrArg (fun b => some (Value.bool b)) (show (!(win a 0 99 && win b 0 999)) = ((!(nodeOk x)) || (!(win a 0 99 && win b 0 999))) by first | (rw [hg1] <;> rfl) | (simp [hg1]; done) | (simp only [nat_nlt] <;> simp)), trivial⟩ ⟨E, (by omega), h1⟩))
  clear E h1
  rintro w3 ⟨E, z4, h1⟩
  refine J_done ?_
  refine S_cond rfl (fun hc1 => ?_) (fun hc1 => ?_)
  · refine S_seq ?_
    refine S_reg [true, true, true, true, true] rfl rfl ?_
    refine J_st (R_move rfl) rfl (J_st (R_move rfl) rfl (J_st (R_assign rfl) rfl (J_st (R_assign rfl) rfl (J_st (R_assign rfl) rfl (J_done ?_)))))
    refine S_ret (E_doneN (l := [.tmp 6, .tmp 7, .tmp 8]) (vs := [.int .i64 a, .int .i64 b, .bool false]) rfl ⟨.tmp rfl, .tmp rfl, .tmp rfl, trivial⟩ rfl E ?_)
    rw [ch_0 (by assumption)]
  · have hno := ch_ok hc1
    refine S_skip ?_
    refine S_seq ?_
    refine S_seq ?_
    refine S_reg [true, true] rfl rfl ?_
    refine J_st (R_fieldAddr0 fl26_0 rfl) rfl (J_st (R_load sc3 rfl (h1.one 0 rfl)) rfl (J_done ?_))
    refine S_block ?_
    refine S_seq ?_
    refine S_reg [true, true] rfl rfl ?_
    refine J_st (R_eql rfl rfl) rfl (J_st (R_assign rfl) rfl (J_done ?_))
    refine S_cond rfl (fun hc2 => ?_) (fun hc2 => ?_)
    · refine S_seq ?_
      refine S_regD mixed [(0, true), (1, true), (2, true), (3, true), (4, true), (5, true), (6, true), (7, true), (8, true)] (by decide +kernel) rfl (fun w5 e4 => ?_)
      replace E := E.trans e4; replace h1 := h1.ext e4
      have z5 := e4.size
      refine J_st (R_move rfl) rfl (J_st (R_move rfl) rfl (J_st (R_fieldAddr0 fl26_1 rfl) rfl (J_st (R_load sc3 rfl (h1.one 1 rfl)) rfl (J_st (R_add rfl rfl rfl) rfl (J_st (R_min rfl rfl) rfl (J_st (R_assign rfl) rfl (J_st (R_assign rfl) rfl (J_st (R_assign rfl) rfl (J_done ?_)))))))))
      refine S_ret (E_inB_ret (E_doneN (l := [.tmp 6, .tmp 7, .tmp 8]) (vs := [.int .i64 a, .int .i64 (if (IntKind.i64.wrap (b + x.a)) < 999 then (IntKind.i64.wrap (b + x.a)) else 999), .bool true]) rfl ⟨.tmp rfl, .tmp rfl, .tmp rfl, trivial⟩ rfl E ?_))
      rw [ch_2 (by assumption) (by assumption)]
    · refine S_seq ?_
      refine S_reg [true, true] rfl rfl ?_
      refine J_st (R_eql rfl rfl) rfl (J_st (R_assign rfl) rfl (J_done ?_))
      refine S_cond rfl (fun hc3 => ?_) (fun hc3 => ?_)
      · refine S_seq ?_
        refine S_reg [true, true, true, true, true, true, true, true, true] rfl rfl ?_
        refine J_st (R_move rfl) rfl (J_st (R_fieldAddr0 fl26_1 rfl) rfl (J_st (R_load sc3 rfl (h1.one 1 rfl)) rfl (J_st (R_add rfl rfl rfl) rfl (J_st (R_rem rfl rfl (by decide) rfl) rfl (J_st (R_move rfl) rfl (J_st (R_assign rfl) rfl (J_st (R_assign rfl) rfl (J_st (R_assign rfl) rfl (J_done ?_)))))))))
        refine S_ret (E_inB_ret (E_doneN (l := [.tmp 6, .tmp 7, .tmp 8]) (vs := [.int .i64 (Int.tmod (IntKind.i64.wrap (a + x.a)) 100), .int .i64 b, .bool true]) rfl ⟨.tmp rfl, .tmp rfl, .tmp rfl, trivial⟩ rfl E ?_))
        rw [ch_4 (by assumption) (by assumption)]
      · refine S_seq ?_
        refine S_reg [true, true] rfl rfl ?_
        refine J_st (R_eql rfl rfl) rfl (J_st (R_assign rfl) rfl (J_done ?_))
        refine S_cond rfl (fun hc4 => ?_) (fun hc4 => ?_)
        · have hna := node_a3 hno hc4
          refine S_seq ?_
          refine S_regD mixed [(0, true), (1, true), (2, true), (3, true), (4, true), (5, true), (6, true), (7, true), (8, true), (9, true), (10, true), (11, true)] (by decide +kernel) rfl (fun w6 e5 => ?_)
          replace E := E.trans e5; replace h1 := h1.ext e5
          have z6 := e5.size
          refine J_st (R_move rfl) rfl (J_st (R_move rfl) rfl (J_st (R_move rfl) rfl (J_st (R_fieldAddr0 fl26_1 rfl) rfl (J_st (R_load sc3 rfl (h1.one 1 rfl)) rfl (J_st (R_rem rfl rfl (by omega) rfl) rfl (J_st (R_fieldAddr0 fl26_2 rfl) rfl (J_st (R_load sc3 rfl (h1.one 2 rfl)) rfl (J_st (R_eql rfl rfl) rfl (J_st (R_assign rfl) rfl (J_st (R_assign rfl) rfl (J_st (R_assign rfl) rfl (J_done ?_))))))))))))
          refine S_ret (E_inB_ret (E_doneN (l := [.tmp 6, .tmp 7, .tmp 8]) (vs := [.int .i64 a, .int .i64 b, .bool ((Int.tmod a x.a) == x.b)]) rfl ⟨.tmp rfl, .tmp rfl, .tmp rfl, trivial⟩ rfl E ?_))
          rw [ch_3 (by assumption) (by assumption)]
        · refine S_skip ?_
          refine S_nil (E_inB ?_)
          refine S_seq ?_
          refine S_regD mixed [(0, true), (1, true), (2, true), (3, true), (4, true), (5, true), (6, true), (7, true)] (by decide +kernel) rfl (fun w7 e6 => ?_)
          replace E := E.trans e6; replace h1 := h1.ext e6
          have z7 := e6.size
          refine J_st (R_move rfl) rfl (J_st (R_move rfl) rfl (J_st (R_fieldAddr0 fl26_0 rfl) rfl (J_st (R_load sc3 rfl (h1.one 0 rfl)) rfl (J_st (R_neq rfl rfl) rfl (J_st (R_assign rfl) rfl (J_st (R_assign rfl) rfl (J_st (R_assign rfl) rfl (J_done ?_))))))))
          refine S_ret (E_doneN (l := [.tmp 6, .tmp 7, .tmp 8]) (vs := [.int .i64 a, .int .i64 b, .bool (x.kind != 8)]) rfl ⟨.tmp rfl, .tmp rfl, .tmp rfl, trivial⟩ rfl E ?_)
          rw [ch_o (by assumption) (by assumption) (by assumption) (by assumption)]

set_option maxRecDepth 20000 in
theorem s_Changed (cx : List Value) (x : Node) (a : Int) (b : Int) (w : World) (hx : Dat.R w 0 w.heap.size cx x) : Ct Tryd.prog 7 [.agg cx.toArray, .int .i64 a, .int .i64 b] w (fun v _ => v = .tuple [.int .i64 ((changedM x a b).1), .int .i64 ((changedM x a b).2.1), .bool ((changedM x a b).2.2)].toArray) := by
  refine ct_of Tryd.func7 rfl Tryd.ntmps7 rfl ?_
  obtain ⟨o1, rfl, hd1⟩ := Node.op hx
  refine S_sub [(0, .agg [.int .i64 x.kind, .int .i64 x.a, .int .i64 x.b, o1].toArray), (1, .int .i64 a), (2, .int .i64 b)] ⟨rfl, rfl, rfl, trivial⟩ ?_
  have E : Ext w w := Ext.refl w
  refine S_seq ?_
  refine S_reg [false, true, true, true] rfl rfl ?_
  refine J_box rfl rfl (fun b1 w1 e1 s1 h1 => ?_)
  have g_b1 : w.heap.size ≤ b1 := by have := E.size; omega
  have y_b1 := h1.lt
  replace E := E.trans e1
  have z1 := e1.size
  refine J_st (R_assign rfl) rfl (J_st (R_assign rfl) rfl (J_st (R_assign rfl) rfl (J_done ?_)))
  refine S_seq ?_
  refine S_seq ?_
  refine S_reg [true, false, true, true, true, false, true, true, true, true, false, true, true] rfl rfl ?_
  refine J_st (R_loadS st26 rfl h1.at rfl) rfl ?_
  refine J_call Tryd.call9 rfl (s_NodeOk [.int .i64 x.kind, .int .i64 x.a, .int .i64 x.b, o1] x _ (Node.mkR x (RdD.any (hd1.ext E)))) rfl (fun _ w2 e2 hv => ?_)
  subst hv
  replace E := E.trans e2; replace h1 := h1.ext e2
  have z2 := e2.size
  refine J_st (R_not rfl) rfl (J_st (R_move rfl) rfl ?_)
  refine J_cut 9 [(0, .agg [.int .i64 x.kind, .int .i64 x.a, .int .i64 x.b, o1].toArray), (1, .int .i64 a), (2, .int .i64 b), (3, .pointer (some ⟨b1, 0, none⟩)), (6, .int .i64 0), (7, .int .i64 0), (8, .bool false), (21, .bool (((!(nodeOk x)) || (!(win a 0 99))) || (!(win b 0 999))))] (fun w' => Ext w w' ∧ w2.heap.size ≤ w'.heap.size ∧ Blk w' b1 ([.int .i64 x.kind, .int .i64 x.a, .int .i64 x.b, o1])) ?_ ?_
  · refine J_if (gd := 12) rfl rfl (fun hg1 => ?_) (fun hg1 => ?_)
    · refine J_gdno rfl rfl rfl rfl ?_
      refine J_ungno rfl rfl rfl rfl ?_
      refine J_gdno rfl rfl rfl rfl (J_st (R_pickT rfl rfl) rfl (J_st (R_move rfl) rfl (J_gdno rfl rfl rfl rfl ?_)))
      refine J_ungno rfl rfl rfl rfl ?_
      refine J_gdno rfl rfl rfl rfl (J_st (R_pickT rfl rfl) rfl (J_cutEnd ⟨rfl, rfl, rfl, rfl, rfl, rfl, rfl, congrArg (fun b => some (Value.bool b)) (show true = (((!(nodeOk x)) || (!(win a 0 99))) || (!(win b 0 999))) by first | (rw [hg1] <;> rfl) | (simp [hg1]; done) | (simp only [nat_nlt] <;> simp)), trivial⟩ ⟨E, (by omega), h1⟩))
    · refine J_gd rfl rfl (R_move rfl) rfl ?_
      refine J_ung rfl rfl ?_
      refine J_call Tryd.call22 rfl (s_l01In a 0 99 _ ) rfl (fun _ w4 e3 hv => ?_)
      subst hv
      replace E := E.trans e3; replace h1 := h1.ext e3
      have z3 := e3.size
      refine J_gd rfl rfl (R_not rfl) rfl (J_st (R_pickF rfl rfl) rfl (J_st (R_move rfl) rfl ?_))
      refine J_if (gd := 17) rfl rfl (fun hg2 => ?_) (fun hg2 => ?_)
      · refine J_gdno rfl rfl rfl rfl ?_
        refine J_ungno rfl rfl rfl rfl ?_
        refine J_gdno rfl rfl rfl rfl (J_st (R_pickT rfl rfl) rfl (J_cutEnd ⟨rfl, rfl, rfl, rfl, rfl, rfl, rfl, congrArg (fun b => some (Value.bool b)) (show true = (((!(nodeOk x)) || (!(win a 0 99))) || (!(win b 0 999))) by first | (rw [hg1, hg2] <;> rfl) | (simp [hg1, hg2]; done) | (simp only [nat_nlt] <;> simp)), trivial⟩ ⟨E, (by omega), h1⟩))
      · refine J_gd rfl rfl (R_move rfl) rfl ?_
        refine J_ung rfl rfl ?_
        refine J_call Tryd.call22 rfl (s_l01In b 0 999 _ ) rfl (fun _ w5 e4 hv => ?_)
        subst hv
        replace E := E.trans e4; replace h1 := h1.ext e4
        have z4 := e4.size
        refine J_gd rfl rfl (R_not rfl) rfl (J_st (R_pickF rfl rfl) rfl (J_cutEnd ⟨rfl, rfl, rfl, rfl, rfl, rfl, rfl, congrArg (fun b => some (Value.bool b)) (show (!(win b 0 999)) = (((!(nodeOk x)) || (!(win a 0 99))) || (!(win b 0 999))) by first | (rw [hg1, hg2] <;> rfl) | (simp [hg1, hg2]; done) | (simp only [nat_nlt] <;> simp)), trivial⟩ ⟨E, (by omega), h1⟩))
  clear E h1
  rintro w3 ⟨E, z5, h1⟩
  refine J_done ?_
  refine S_cond rfl (fun hc1 => ?_) (fun hc1 => ?_)
  · replace hc1 := ch_st hc1
    refine S_seq ?_
    refine S_reg [true, true, true, true, true] rfl rfl ?_
    refine J_st (R_move rfl) rfl (J_st (R_move rfl) rfl (J_st (R_assign rfl) rfl (J_st (R_assign rfl) rfl (J_st (R_assign rfl) rfl (J_done ?_)))))
    refine S_ret (E_doneN (l := [.tmp 6, .tmp 7, .tmp 8]) (vs := [.int .i64 a, .int .i64 b, .bool false]) rfl ⟨.tmp rfl, .tmp rfl, .tmp rfl, trivial⟩ rfl E ?_)
    rw [ch_0 (by assumption)]
  · replace hc1 := ch_s hc1
    have hno := ch_ok hc1
    refine S_skip ?_
    refine S_seq ?_
    refine S_seq ?_
    refine S_reg [true, true] rfl rfl ?_
    refine J_st (R_fieldAddr0 fl26_0 rfl) rfl (J_st (R_load sc3 rfl (h1.one 0 rfl)) rfl (J_done ?_))
    refine S_block ?_
    refine S_seq ?_
    refine S_reg [true, true] rfl rfl ?_
    refine J_st (R_eql rfl rfl) rfl (J_st (R_assign rfl) rfl (J_done ?_))
    refine S_cond rfl (fun hc2 => ?_) (fun hc2 => ?_)
    · refine S_seq ?_
      refine S_reg [true, true, true, true, true, false, true, true, true] rfl rfl ?_
      refine J_st (R_move rfl) rfl (J_st (R_move rfl) rfl (J_st (R_fieldAddr0 fl26_1 rfl) rfl (J_st (R_load sc3 rfl (h1.one 1 rfl)) rfl (J_st (R_add rfl rfl rfl) rfl ?_))))
      refine J_call Tryd.call23 rfl (s_l02Less (IntKind.i64.wrap (b + x.a)) 999 _ ) rfl (fun _ w6 e5 hv => ?_)
      subst hv
      replace E := E.trans e5; replace h1 := h1.ext e5
      have z6 := e5.size
      refine J_st (R_assign rfl) rfl (J_st (R_assign rfl) rfl (J_st (R_assign rfl) rfl (J_done ?_)))
      refine S_ret (E_inB_ret (E_doneN (l := [.tmp 6, .tmp 7, .tmp 8]) (vs := [.int .i64 a, .int .i64 (if 999 < (IntKind.i64.wrap (b + x.a)) then 999 else (IntKind.i64.wrap (b + x.a))), .bool true]) rfl ⟨.tmp rfl, .tmp rfl, .tmp rfl, trivial⟩ rfl E ?_))
      rw [ch_2 (by assumption) (by assumption), min_999]
    · refine S_seq ?_
      refine S_reg [true, true] rfl rfl ?_
      refine J_st (R_eql rfl rfl) rfl (J_st (R_assign rfl) rfl (J_done ?_))
      refine S_cond rfl (fun hc3 => ?_) (fun hc3 => ?_)
      · refine S_seq ?_
        refine S_reg [true, true, true, true, true, true, true, true, true] rfl rfl ?_
        refine J_st (R_move rfl) rfl (J_st (R_fieldAddr0 fl26_1 rfl) rfl (J_st (R_load sc3 rfl (h1.one 1 rfl)) rfl (J_st (R_add rfl rfl rfl) rfl (J_st (R_rem rfl rfl (by decide) rfl) rfl (J_st (R_move rfl) rfl (J_st (R_assign rfl) rfl (J_st (R_assign rfl) rfl (J_st (R_assign rfl) rfl (J_done ?_)))))))))
        refine S_ret (E_inB_ret (E_doneN (l := [.tmp 6, .tmp 7, .tmp 8]) (vs := [.int .i64 (Int.tmod (IntKind.i64.wrap (a + x.a)) 100), .int .i64 b, .bool true]) rfl ⟨.tmp rfl, .tmp rfl, .tmp rfl, trivial⟩ rfl E ?_))
        rw [ch_4 (by assumption) (by assumption)]
      · refine S_seq ?_
        refine S_reg [true, true] rfl rfl ?_
        refine J_st (R_eql rfl rfl) rfl (J_st (R_assign rfl) rfl (J_done ?_))
        refine S_cond rfl (fun hc4 => ?_) (fun hc4 => ?_)
        · have hna := node_a3 hno hc4
          refine S_seq ?_
          refine S_regD mixed [(0, true), (1, true), (2, true), (3, true), (4, true), (5, true), (6, true), (7, true), (8, true), (9, true), (10, true), (11, true)] (by decide +kernel) rfl (fun w7 e6 => ?_)
          replace E := E.trans e6; replace h1 := h1.ext e6
          have z7 := e6.size
          refine J_st (R_move rfl) rfl (J_st (R_move rfl) rfl (J_st (R_move rfl) rfl (J_st (R_fieldAddr0 fl26_1 rfl) rfl (J_st (R_load sc3 rfl (h1.one 1 rfl)) rfl (J_st (R_rem rfl rfl (by omega) rfl) rfl (J_st (R_fieldAddr0 fl26_2 rfl) rfl (J_st (R_load sc3 rfl (h1.one 2 rfl)) rfl (J_st (R_eql rfl rfl) rfl (J_st (R_assign rfl) rfl (J_st (R_assign rfl) rfl (J_st (R_assign rfl) rfl (J_done ?_))))))))))))
          refine S_ret (E_inB_ret (E_doneN (l := [.tmp 6, .tmp 7, .tmp 8]) (vs := [.int .i64 a, .int .i64 b, .bool ((Int.tmod a x.a) == x.b)]) rfl ⟨.tmp rfl, .tmp rfl, .tmp rfl, trivial⟩ rfl E ?_))
          rw [ch_3 (by assumption) (by assumption)]
        · refine S_skip ?_
          refine S_nil (E_inB ?_)
          refine S_seq ?_
          refine S_regD mixed [(0, true), (1, true), (2, true), (3, true), (4, true), (5, true), (6, true), (7, true)] (by decide +kernel) rfl (fun w8 e7 => ?_)
          replace E := E.trans e7; replace h1 := h1.ext e7
          have z8 := e7.size
          refine J_st (R_move rfl) rfl (J_st (R_move rfl) rfl (J_st (R_fieldAddr0 fl26_0 rfl) rfl (J_st (R_load sc3 rfl (h1.one 0 rfl)) rfl (J_st (R_neq rfl rfl) rfl (J_st (R_assign rfl) rfl (J_st (R_assign rfl) rfl (J_st (R_assign rfl) rfl (J_done ?_))))))))
          refine S_ret (E_doneN (l := [.tmp 6, .tmp 7, .tmp 8]) (vs := [.int .i64 a, .int .i64 b, .bool (x.kind != 8)]) rfl ⟨.tmp rfl, .tmp rfl, .tmp rfl, trivial⟩ rfl E ?_)
          rw [ch_o (by assumption) (by assumption) (by assumption) (by assumption)]

set_option maxRecDepth 20000 in
theorem s_Remembers (k : Int) (w : World)  : Ct Tryd.prog 16 [.int .i64 k] w (fun v _ => v = .bool (((k == 5) || (k == 6)) || (k == 8))) := by
  refine ct_of Tryd.func16 rfl Tryd.ntmps16 rfl ?_
  refine S_sub [(0, .int .i64 k)] ⟨rfl, trivial⟩ ?_
  have E : Ext w w := Ext.refl w
  refine S_seq ?_
  refine S_reg [true] rfl rfl ?_
  refine J_st (R_assign rfl) rfl (J_done ?_)
  refine S_seq ?_
  refine S_reg [true, true, true, true, true, true, true, true, true, true, true] rfl rfl ?_
  refine J_st (R_move rfl) rfl (J_st (R_eql rfl rfl) rfl (J_st (R_move rfl) rfl ?_))
  refine J_cut 7 [(0, .int .i64 k), (2, .bool false), (12, .bool (((k == 5) || (k == 6)) || (k == 8)))] (fun w' => w = w') ?_ ?_
  · refine J_if (gd := 5) rfl rfl (fun hg1 => ?_) (fun hg1 => ?_)
    · refine J_gdno rfl rfl rfl rfl (J_gdno rfl rfl rfl rfl (J_st (R_pickT rfl rfl) rfl (J_st (R_move rfl) rfl (J_gdno rfl rfl rfl rfl (J_gdno rfl rfl rfl rfl (J_st (R_pickT rfl rfl) rfl (J_cutEnd ⟨rfl, rfl, congrArg (fun b => some (Value.bool b)) (show true = (((k == 5) || (k == 6)) || (k == 8)) by first | (rw [hg1] <;> rfl) | (simp [hg1]; done) | (simp only [nat_nlt] <;> simp)), trivial⟩ rfl)))))))
    · refine J_gd rfl rfl (R_move rfl) rfl (J_gd rfl rfl (R_eql rfl rfl) rfl (J_st (R_pickF rfl rfl) rfl (J_st (R_move rfl) rfl ?_)))
      refine J_if (gd := 9) rfl rfl (fun hg2 => ?_) (fun hg2 => ?_)
      · refine J_gdno rfl rfl rfl rfl (J_gdno rfl rfl rfl rfl (J_st (R_pickT rfl rfl) rfl (J_cutEnd ⟨rfl, rfl, congrArg (fun b => some (Value.bool b)) (show true = (((k == 5) || (k == 6)) || (k == 8)) by first | (rw [hg1, hg2] <;> rfl) | (simp [hg1, hg2]; done) | (simp only [nat_nlt] <;> simp)), trivial⟩ rfl)))
      · refine J_gd rfl rfl (R_move rfl) rfl (J_gd rfl rfl (R_eql rfl rfl) rfl (J_st (R_pickF rfl rfl) rfl (J_cutEnd ⟨rfl, rfl, congrArg (fun b => some (Value.bool b)) (show (k == 8) = (((k == 5) || (k == 6)) || (k == 8)) by first | (rw [hg1, hg2] <;> rfl) | (simp [hg1, hg2]; done) | (simp only [nat_nlt] <;> simp)), trivial⟩ rfl)))
  rintro _ rfl
  refine J_st (R_assign rfl) rfl (J_done ?_)
  refine S_ret (E_done1 rfl rfl E ?_)
  rfl

set_option maxRecDepth 20000 in
theorem s_l01New (vcode : Value) (code : List Byt) (w : World) (hcode : RdS w vcode code) : Ct Tryd.prog 18 [vcode] w (fun v w' => ∃ b, v = .pointer (some ⟨b, 0, none⟩) ∧ w.heap.size ≤ b ∧ CurO w' b vcode code) := by
  have hmx := hcode.1
  unfold maxLen at hmx
  refine ct_of Tryd.func18 rfl Tryd.ntmps18 rfl ?_
  refine S_sub [(0, vcode)] ⟨rfl, trivial⟩ ?_
  have E : Ext w w := Ext.refl w
  refine S_seq ?_
  refine S_reg [true] rfl rfl ?_
  refine J_st (R_assign rfl) rfl (J_done ?_)
  refine S_seq ?_
  refine S_reg [true, true, true, true] rfl rfl ?_
  refine J_st (R_move rfl) rfl (J_st (R_len Tryd.underlying22 rfl (hcode.ext E).len) rfl (J_st (R_add rfl rfl rfl) rfl (J_st (R_assign rfl) rfl (J_done ?_))))
  refine S_seq ?_
  refine S_seq ?_
  refine S_reg [true] rfl rfl ?_
  refine J_st (R_assign rfl) rfl (J_done ?_)
  refine S_block ?_
  refine S_loop (fun (xq : Nat × Int) => let ⟨k, hh⟩ := xq; [(0, vcode), (2, .pointer none), (3, .int .i64 hh), (4, .int .i64 ((k : Nat) : Int))]) (fun (xq : Nat × Int) w' => let ⟨k, hh⟩ := xq; Ext w w' ∧ w.heap.size ≤ w'.heap.size ∧ k ≤ code.length) (fun (xq : Nat × Int) => let ⟨k, hh⟩ := xq; code.length - k) (0, IntKind.i64.wrap (94701 + ((code.length : Nat) : Int))) ⟨rfl, rfl, rfl, rfl, trivial⟩ ⟨E, Nat.le_refl _, Nat.zero_le _⟩ ?_
  clear E
  rintro ⟨k, hh⟩ w1 ⟨E, z1, hk⟩
  refine S_sub [(0, vcode), (2, .pointer none), (3, .int .i64 hh), (4, .int .i64 ((k : Nat) : Int))] ⟨rfl, rfl, rfl, rfl, trivial⟩ ?_
  refine S_seq ?_
  refine S_seq ?_
  refine S_reg [true, true, true, true, true, true, true, true] rfl rfl ?_
  refine J_st (R_move rfl) rfl (J_st (R_move rfl) rfl (J_st (R_len Tryd.underlying22 rfl (hcode.ext E).len) rfl (J_st (R_lss rfl rfl) rfl (J_st (R_move rfl) rfl ?_))))
  refine J_cut 3 [(0, vcode), (2, .pointer none), (3, .int .i64 hh), (4, .int .i64 ((k : Nat) : Int)), (15, .bool ((decide (((k : Nat) : Int) < ((code.length : Nat) : Int))) && (decide (((k : Nat) : Int) < 4000))))] (fun w' => w1 = w') ?_ ?_
  · refine J_if (gd := 12) rfl rfl (fun hg1 => ?_) (fun hg1 => ?_)
    · have hg1n : k < code.length := by first | (have h := of_decide_eq_true hg1; omega) | (have h := hg1; simp at h; omega)
      refine J_gd rfl rfl (R_move rfl) rfl (J_gd rfl rfl (R_lss rfl rfl) rfl (J_st (R_pickT rfl rfl) rfl (J_cutEnd ⟨rfl, rfl, rfl, rfl, congrArg (fun b => some (Value.bool b)) (show (decide (((k : Nat) : Int) < 4000)) = ((decide (((k : Nat) : Int) < ((code.length : Nat) : Int))) && (decide (((k : Nat) : Int) < 4000))) by first | (rw [hg1] <;> rfl) | (simp [hg1]; done) | (simp only [nat_nlt] <;> simp)), trivial⟩ rfl)))
    · have hg1n : ¬ k < code.length := by first | (have h := of_decide_eq_false hg1; omega) | (have h := hg1; simp at h; omega)
      refine J_gdno rfl rfl rfl rfl (J_gdno rfl rfl rfl rfl (J_st (R_pickF rfl rfl) rfl (J_cutEnd ⟨rfl, rfl, rfl, rfl, congrArg (fun b => some (Value.bool b)) (show false = ((decide (((k : Nat) : Int) < ((code.length : Nat) : Int))) && (decide (((k : Nat) : Int) < 4000))) by first | (rw [hg1] <;> rfl) | (simp [hg1]; done) | (simp only [nat_nlt] <;> simp)), trivial⟩ rfl)))
  rintro _ rfl
  refine J_done ?_
  refine S_cond rfl (fun hc1 => ?_) (fun hc1 => ?_)
  · have hlt : k < code.length := by have h := (Bool.and_eq_true _ _ ▸ hc1).1; have h2 := of_decide_eq_true h; omega
    refine S_skip ?_
    refine S_seq ?_
    refine S_block ?_
    refine S_reg [true, true, true, true, true, true, true, true, true, true, true] rfl rfl ?_
    refine J_st (R_move rfl) rfl (J_st (R_mul rfl rfl rfl) rfl (J_st (R_move rfl) rfl (J_st (R_move rfl) rfl ?_)))
    have hi1 : k < code.length := (by first | assumption | omega | (simp only [List.length_set]; first | assumption | omega) | (simp only [List.getElem_set_self, List.length_set]; first | assumption | omega) | (simp only [setW, setLk, List.length_set]; first | assumption | omega) | (simp; done) | (simp only [List.length_cons, List.length_nil]; omega))
    refine J_st (R_index (i := k) sl22 rfl rfl (hcode.ext E) hi1) rfl (J_st (R_load sc5 rfl (((hcode.ext E).get hi1).one 0 rfl)) rfl (J_st (R_conv Tryd.underlying5 Tryd.underlying3 rfl) rfl (J_st (R_add rfl rfl rfl) rfl (J_st (R_add rfl rfl rfl) rfl (J_st (R_and rfl rfl) rfl (J_st (R_assign rfl) rfl (J_done ?_)))))))
    refine S_nil (E_inB ?_)
    refine S_reg [true, true, true] rfl rfl ?_
    refine J_st (R_move rfl) rfl (J_st (R_add rfl rfl (add_nat (by unfold maxLen; omega))) rfl (J_st (R_assign rfl) rfl (J_done ?_)))
    refine S_nil (E_again (k + 1, andB .i64 (IntKind.i64.wrap ((IntKind.i64.wrap ((IntKind.i64.wrap (hh * 131)) + (IntKind.i64.wrap ((code[k]'hi1).v)))) + 7)) 1073741823) (by simp; omega) ⟨rfl, rfl, rfl, rfl, trivial⟩ ⟨E, (by omega), (by omega)⟩)
  · refine S_exit (E_lp_exit (E_inB_exit ?_))
    refine S_seq ?_
    refine S_reg [true, true, true, false, true] rfl rfl ?_
    refine J_st (R_move rfl) rfl (J_st (R_move rfl) rfl ?_)
    have hbl1 : ∀ w, (Instr.build 47 ([(0, vcode), (2, .int .i64 hh)]).toArray).run Tryd.prog w = .ok (.agg [vcode, .int .i64 0, .int .i64 hh].toArray) w := by clear E; obtain ⟨_, _, _, rfl⟩ := SlLen.shape (RdL.len hcode); intro w; kernel_rfl
    refine J_st (R_buildC [vcode, .int .i64 0, .int .i64 hh] rfl hbl1) rfl ?_
    refine J_box rfl rfl (fun b1 w3 e1 s1 h1 => ?_)
    have g_b1 : w.heap.size ≤ b1 := by have := E.size; omega
    have y_b1 := h1.lt
    replace E := E.trans e1
    have z2 := e1.size
    refine J_st (R_assign rfl) rfl (J_done ?_)
    refine S_ret (E_done1 rfl rfl E ?_)
    exact ⟨_, rfl, (by omega), 0, _, h1, Nat.zero_le _⟩

set_option maxRecDepth 20000 in
theorem s_l01Byte (lo : Nat) (vb : Value) (bs : List Byt) (w : World) (hcu : CurO w lo vb bs) (hbs : RdD w 0 lo vb bs) : CtR Tryd.prog 31 [.pointer (some ⟨lo, 0, none⟩)] w lo (lo + 1) (fun v w' => ∃ (dr0 : Int), 0 ≤ dr0 ∧ dr0 ≤ 255 ∧ CurO w' lo vb bs ∧ v = .int .i64 dr0) := by
  have y_lo := CurO.lt hcu
  refine ctR_of Tryd.func31 rfl Tryd.ntmps31 rfl ?_
  obtain ⟨icu, hcn, hblk, hicu⟩ := hcu
  refine S_sub [(0, .pointer (some ⟨lo, 0, none⟩))] ⟨rfl, trivial⟩ ?_
  have E : ModR w w lo (lo + 1) := ModR.refl w lo (lo + 1)
  refine S_seq ?_
  refine S_reg [true] rfl rfl ?_
  refine J_st (R_assign rfl) rfl (J_done ?_)
  refine S_seq ?_
  refine S_reg [true, true, true, true, true, true, true, true, true, false] rfl rfl ?_
  refine J_st (R_move rfl) rfl (J_st (R_move rfl) rfl (J_st (R_nilCheck rfl) rfl (J_st (R_fieldAddr0 fl47_2 rfl) rfl (J_st (R_load sc3 rfl (hblk.one 2 rfl)) rfl (J_st (R_mul rfl rfl rfl) rfl (J_st (R_add rfl rfl rfl) rfl (J_st (R_nilCheck rfl) rfl (J_st (R_fieldAddr0 fl47_2 rfl) rfl ?_))))))))
  refine J_store' (cs' := [vb, .int .i64 ((icu : Nat) : Int), .int .i64 (IntKind.i64.wrap ((IntKind.i64.wrap (hcn * 6364136223846793005)) + 1442695040888963407))]) sc3 rfl rfl rfl hblk (Nat.le_of_ble_eq_true rfl) rfl (fun w1 m1 hblk' => ?_)
  replace hblk := hblk'
  replace E := E.mod m1 (fun g hg => by cases hg; omega); replace hbs := hbs.mod m1 (fun g hg => by cases hg; omega)
  have z1 := m1.size
  refine J_done ?_
  refine S_seq ?_
  refine S_regD mixed [(0, true), (1, true), (2, true), (3, true), (4, true), (5, true), (6, true), (7, true), (8, true), (9, true), (10, true), (11, true), (12, true)] (by decide +kernel) rfl (fun w2 e1 => ?_)
  replace E := E.ext e1; replace hblk := hblk.ext e1; replace hbs := hbs.ext e1
  have z2 := e1.size
  refine J_st (R_move rfl) rfl (J_st (R_nilCheck rfl) rfl (J_st (R_fieldAddr0 fl47_2 rfl) rfl (J_st (R_load sc3 rfl (hblk.one 2 rfl)) rfl (J_st (R_shr rfl rfl (by decide)) rfl (J_st (R_move rfl) rfl (J_st (R_nilCheck rfl) rfl (J_st (R_fieldAddr0 fl47_2 rfl) rfl (J_st (R_load sc3 rfl (hblk.one 2 rfl)) rfl (J_st (R_shr rfl rfl (by decide)) rfl (J_st (R_xor rfl rfl) rfl (J_st (R_and rfl rfl) rfl (J_st (R_assign rfl) rfl (J_done ?_)))))))))))))
  refine S_seq ?_
  refine S_seq ?_
  refine S_regD mixed [(0, true), (1, true), (2, true), (3, true), (4, true), (5, true), (6, true), (7, true), (8, true), (9, true)] (by decide +kernel) rfl (fun w3 e2 => ?_)
  replace E := E.ext e2; replace hblk := hblk.ext e2; replace hbs := hbs.ext e2
  have z3 := e2.size
  refine J_st (R_move rfl) rfl (J_st (R_nilCheck rfl) rfl (J_st (R_fieldAddr0 fl47_1 rfl) rfl (J_st (R_load sc3 rfl (hblk.one 1 rfl)) rfl (J_st (R_move rfl) rfl (J_st (R_nilCheck rfl) rfl (J_st (R_fieldAddr0 fl47_0 rfl) rfl (J_st (R_load sc22 rfl (hblk.one 0 rfl)) rfl (J_st (R_len Tryd.underlying22 rfl hbs.len) rfl (J_st (R_lss rfl rfl) rfl (J_done ?_))))))))))
  refine S_cond rfl (fun hc1 => ?_) (fun hc1 => ?_)
  · have hc1n : icu < bs.length := by first | (have h := of_decide_eq_true hc1; omega) | (have h := hc1; simp at h; omega)
    refine S_seq ?_
    refine S_regD mixed [(0, true), (1, true), (2, true), (3, true), (4, true), (5, true), (6, true), (7, true), (8, true), (9, true), (10, true), (11, true), (12, true), (13, true), (14, true)] (by decide +kernel) rfl (fun w4 e3 => ?_)
    replace E := E.ext e3; replace hblk := hblk.ext e3; replace hbs := hbs.ext e3
    have z4 := e3.size
    refine J_st (R_move rfl) rfl (J_st (R_move rfl) rfl (J_st (R_nilCheck rfl) rfl (J_st (R_fieldAddr0 fl47_0 rfl) rfl (J_st (R_load sc22 rfl (hblk.one 0 rfl)) rfl (J_st (R_move rfl) rfl (J_st (R_nilCheck rfl) rfl (J_st (R_fieldAddr0 fl47_1 rfl) rfl (J_st (R_load sc3 rfl (hblk.one 1 rfl)) rfl ?_))))))))
    have hi1 : icu < bs.length := (by first | assumption | omega | (simp only [List.length_set]; first | assumption | omega) | (simp only [List.getElem_set_self, List.length_set]; first | assumption | omega) | (simp only [setW, setLk, List.length_set]; first | assumption | omega) | (simp; done) | (simp only [List.length_cons, List.length_nil]; omega))
    refine J_st (R_index (i := icu) sl22 rfl rfl (RdD.rd hbs) hi1) rfl (J_st (R_load sc5 rfl (((RdD.rd hbs).get hi1).one 0 rfl)) rfl (J_st (R_conv Tryd.underlying5 Tryd.underlying3 rfl) rfl (J_st (R_add rfl rfl rfl) rfl (J_st (R_and rfl rfl) rfl (J_st (R_assign rfl) rfl (J_done ?_))))))
    refine S_reg [true, true, true, true, true, true, true, true, false] rfl rfl ?_
    refine J_st (R_move rfl) rfl (J_st (R_move rfl) rfl (J_st (R_nilCheck rfl) rfl (J_st (R_fieldAddr0 fl47_1 rfl) rfl (J_st (R_load sc3 rfl (hblk.one 1 rfl)) rfl (J_st (R_add rfl rfl (add_one hc1n hbs.1.1)) rfl (J_st (R_nilCheck rfl) rfl (J_st (R_fieldAddr0 fl47_1 rfl) rfl ?_)))))))
    refine J_store' (cs' := [vb, .int .i64 ((icu + 1 : Nat) : Int), .int .i64 (IntKind.i64.wrap ((IntKind.i64.wrap (hcn * 6364136223846793005)) + 1442695040888963407))]) sc3 rfl rfl rfl hblk (Nat.le_of_ble_eq_true rfl) rfl (fun w5 m2 hblk' => ?_)
    replace hblk := hblk'
    replace E := E.mod m2 (fun g hg => by cases hg; omega); replace hbs := hbs.mod m2 (fun g hg => by cases hg; omega)
    have z5 := m2.size
    refine J_done ?_
    refine S_seq ?_
    refine S_reg [true, true] rfl rfl ?_
    refine J_st (R_move rfl) rfl (J_st (R_assign rfl) rfl (J_done ?_))
    refine S_ret (E_done1 rfl rfl E ?_)
    exact ⟨(andB .i64 (IntKind.i64.wrap ((andB .i64 (xorB .i64 (shrB .i64 (IntKind.i64.wrap ((IntKind.i64.wrap (hcn * 6364136223846793005)) + 1442695040888963407)) 33) (shrB .i64 (IntKind.i64.wrap ((IntKind.i64.wrap (hcn * 6364136223846793005)) + 1442695040888963407)) 45)) 255) + (IntKind.i64.wrap ((bs[icu]'hi1).v)))) 255), (andB_255 _).1, (andB_255 _).2, ⟨icu + 1, _, hblk, (by omega)⟩, rfl⟩
  · have hc1n : ¬ icu < bs.length := by first | (have h := of_decide_eq_false hc1; omega) | (have h := hc1; simp at h; omega)
    refine S_skip ?_
    refine S_seq ?_
    refine S_reg [true, true] rfl rfl ?_
    refine J_st (R_move rfl) rfl (J_st (R_assign rfl) rfl (J_done ?_))
    refine S_ret (E_done1 rfl rfl E ?_)
    exact ⟨(andB .i64 (xorB .i64 (shrB .i64 (IntKind.i64.wrap ((IntKind.i64.wrap (hcn * 6364136223846793005)) + 1442695040888963407)) 33) (shrB .i64 (IntKind.i64.wrap ((IntKind.i64.wrap (hcn * 6364136223846793005)) + 1442695040888963407)) 45)) 255), (andB_255 _).1, (andB_255 _).2, ⟨icu, _, hblk, (by omega)⟩, rfl⟩

set_option maxRecDepth 20000 in
theorem s_l01Below (lo : Nat) (vb : Value) (bs : List Byt) (n : Int) (w : World) (hcu : CurO w lo vb bs) (hbs : RdD w 0 lo vb bs) : CtR Tryd.prog 27 [.pointer (some ⟨lo, 0, none⟩), .int .i64 n] w lo (lo + 1) (fun v w' => ∃ (dr0 : Nat), (0 < n → ((dr0 : Nat) : Int) < n) ∧ (n ≤ 0 → dr0 = 0) ∧ CurO w' lo vb bs ∧ v = .int .i64 ((dr0 : Nat) : Int)) := by
  have y_lo := CurO.lt hcu
  refine ctR_of Tryd.func27 rfl Tryd.ntmps27 rfl ?_
  refine S_sub [(0, .pointer (some ⟨lo, 0, none⟩)), (1, .int .i64 n)] ⟨rfl, rfl, trivial⟩ ?_
  have E : ModR w w lo (lo + 1) := ModR.refl w lo (lo + 1)
  refine S_seq ?_
  refine S_reg [true] rfl rfl ?_
  refine J_st (R_assign rfl) rfl (J_done ?_)
  refine S_seq ?_
  refine S_seq ?_
  refine S_reg [true, true] rfl rfl ?_
  refine J_st (R_move rfl) rfl (J_st (R_leq rfl rfl) rfl (J_done ?_))
  refine S_cond rfl (fun hc1 => ?_) (fun hc1 => ?_)
  · have hnp : n ≤ 0 := by exact of_decide_eq_true hc1
    refine S_seq ?_
    refine S_reg [true] rfl rfl ?_
    refine J_st (R_assign rfl) rfl (J_done ?_)
    refine S_ret (E_done1 rfl rfl E ?_)
    exact ⟨0, (fun h => by omega), (fun _ => rfl), hcu, rfl⟩
  · have hnp : ¬ n ≤ 0 := by exact of_decide_eq_false hc1
    refine S_skip ?_
    refine S_seq ?_
    refine S_seq ?_
    refine S_reg [true, true] rfl rfl ?_
    refine J_st (R_move rfl) rfl (J_st (R_leq rfl rfl) rfl (J_done ?_))
    refine S_cond rfl (fun hc2 => ?_) (fun hc2 => ?_)
    · refine S_seq ?_
      refine S_reg [true, false, true, true, true] rfl rfl ?_
      refine J_st (R_move rfl) rfl ?_
      refine J_callR Tryd.call31 rfl rfl (s_l01Byte lo vb bs _ hcu (RdD.modR hbs E (.inl (Nat.le_refl _)))) rfl (fun _ w1 e1 hv => ?_)
      obtain ⟨dx1, q1, q2, hcu', hv⟩ := hv
      replace hcu := hcu'
      subst hv
      replace E := E.trans e1 (by omega) (by omega)
      have z1 := e1.size
      refine J_st (R_move rfl) rfl (J_st (R_rem rfl rfl (by omega) rfl) rfl (J_st (R_assign rfl) rfl (J_done ?_)))
      refine S_ret (E_done1 rfl rfl E ?_)
      have htm := tmod_nat (n := n) q1 hnp
      exact ⟨_, (fun _ => by rw [htm.1]; exact htm.2), (fun h => absurd h hnp), hcu, congrArg (Value.int .i64) htm.1.symm⟩
    · refine S_skip ?_
      refine S_seq ?_
      refine S_reg [true, false, true] rfl rfl ?_
      refine J_st (R_move rfl) rfl ?_
      refine J_callR Tryd.call31 rfl rfl (s_l01Byte lo vb bs _ hcu (RdD.modR hbs E (.inl (Nat.le_refl _)))) rfl (fun _ w2 e2 hv => ?_)
      obtain ⟨dx2, q3, q4, hcu', hv⟩ := hv
      replace hcu := hcu'
      subst hv
      replace E := E.trans e2 (by omega) (by omega)
      have z2 := e2.size
      refine J_st (R_assign rfl) rfl (J_done ?_)
      refine S_seq ?_
      refine S_reg [true, false, true] rfl rfl ?_
      refine J_st (R_move rfl) rfl ?_
      refine J_callR Tryd.call31 rfl rfl (s_l01Byte lo vb bs _ hcu (RdD.modR hbs E (.inl (Nat.le_refl _)))) rfl (fun _ w3 e3 hv => ?_)
      obtain ⟨dx3, q5, q6, hcu', hv⟩ := hv
      replace hcu := hcu'
      subst hv
      replace E := E.trans e3 (by omega) (by omega)
      have z3 := e3.size
      refine J_st (R_assign rfl) rfl (J_done ?_)
      refine S_seq ?_
      refine S_reg [true, false, true] rfl rfl ?_
      refine J_st (R_move rfl) rfl ?_
      refine J_callR Tryd.call31 rfl rfl (s_l01Byte lo vb bs _ hcu (RdD.modR hbs E (.inl (Nat.le_refl _)))) rfl (fun _ w4 e4 hv => ?_)
      obtain ⟨dx4, q7, q8, hcu', hv⟩ := hv
      replace hcu := hcu'
      subst hv
      replace E := E.trans e4 (by omega) (by omega)
      have z4 := e4.size
      refine J_st (R_assign rfl) rfl (J_done ?_)
      refine S_seq ?_
      refine S_reg [true, false, true] rfl rfl ?_
      refine J_st (R_move rfl) rfl ?_
      refine J_callR Tryd.call31 rfl rfl (s_l01Byte lo vb bs _ hcu (RdD.modR hbs E (.inl (Nat.le_refl _)))) rfl (fun _ w5 e5 hv => ?_)
      obtain ⟨dx5, q9, q10, hcu', hv⟩ := hv
      replace hcu := hcu'
      subst hv
      replace E := E.trans e5 (by omega) (by omega)
      have z5 := e5.size
      refine J_st (R_assign rfl) rfl (J_done ?_)
      refine S_seq ?_
      refine S_reg [true, true, true, true, true, true, true, true, true, true, true, true, true] rfl rfl ?_
      refine J_st (R_move rfl) rfl (J_st (R_mul rfl rfl rfl) rfl (J_st (R_move rfl) rfl (J_st (R_mul rfl rfl rfl) rfl (J_st (R_add rfl rfl rfl) rfl (J_st (R_move rfl) rfl (J_st (R_mul rfl rfl rfl) rfl (J_st (R_add rfl rfl rfl) rfl (J_st (R_move rfl) rfl (J_st (R_add rfl rfl rfl) rfl (J_st (R_move rfl) rfl (J_st (R_rem rfl rfl (by omega) rfl) rfl (J_st (R_assign rfl) rfl (J_done ?_)))))))))))))
      refine S_ret (E_done1 rfl rfl E ?_)
      have htm := tmod_nat (n := n) (four_nn q3 q4 q5 q6 q7 q8 q9 q10) hnp
      exact ⟨_, (fun _ => by rw [htm.1]; exact htm.2), (fun h => absurd h hnp), hcu, congrArg (Value.int .i64) htm.1.symm⟩

set_option maxRecDepth 20000 in
theorem s_l01PickInt (lo : Nat) (vb : Value) (bs : List Byt) (vxs : Value) (xs : List Int) (w : World) (hcu : CurO w lo vb bs) (hbs : RdD w 0 lo vb bs) (hxs : Stab w lo (fun w' => RdS w' vxs xs)) (hne : 0 < xs.length) : CtR Tryd.prog 20 [.pointer (some ⟨lo, 0, none⟩), vxs] w lo (lo + 1) (fun v w' => ∃ (dr0 : Int), dr0 ∈ xs ∧ CurO w' lo vb bs ∧ v = .int .i64 dr0) := by
  have y_lo := CurO.lt hcu
  refine ctR_of Tryd.func20 rfl Tryd.ntmps20 rfl ?_
  refine S_sub [(0, .pointer (some ⟨lo, 0, none⟩)), (1, vxs)] ⟨rfl, rfl, trivial⟩ ?_
  have E : ModR w w lo (lo + 1) := ModR.refl w lo (lo + 1)
  refine S_seq ?_
  refine S_reg [true] rfl rfl ?_
  refine J_st (R_assign rfl) rfl (J_done ?_)
  refine S_seq ?_
  refine S_reg [true, true, true, true, false, true, true, true] rfl rfl ?_
  refine J_st (R_move rfl) rfl (J_st (R_move rfl) rfl (J_st (R_move rfl) rfl (J_st (R_len Tryd.underlying24 rfl (hxs _ E).len) rfl ?_)))
  refine J_callR Tryd.call27 rfl rfl (s_l01Below lo vb bs ((xs.length : Nat) : Int) _ hcu (RdD.modR hbs E (.inl (Nat.le_refl _)))) rfl (fun _ w1 e1 hv => ?_)
  obtain ⟨dx1, q1, q2, hcu', hv⟩ := hv
  replace hcu := hcu'
  subst hv
  replace E := E.trans e1 (by omega) (by omega)
  have z1 := e1.size
  have hi1 : dx1 < xs.length := (by first | assumption | omega | (simp only [List.length_set]; first | assumption | omega) | (simp only [List.getElem_set_self, List.length_set]; first | assumption | omega) | (simp only [setW, setLk, List.length_set]; first | assumption | omega) | (simp; done) | (simp only [List.length_cons, List.length_nil]; omega))
  refine J_st (R_index (i := dx1) sl24 rfl rfl (hxs _ E) hi1) rfl (J_st (R_load sc3 rfl (((hxs _ E).get hi1).one 0 rfl)) rfl (J_st (R_assign rfl) rfl (J_done ?_)))
  refine S_ret (E_done1 rfl rfl E ?_)
  exact ⟨(xs[dx1]'hi1), (List.getElem_mem _), hcu, rfl⟩

set_option maxRecDepth 20000 in
theorem l_big (vcode : Value) (code : List Byt) (w : World) (hcode : RdS w vcode code) : Ct Tryd.prog 4 [vcode] w (fun v _ => v = .bool (decide (((code.length : Nat) : Int) > 1048576))) := by
  refine ct_of Tryd.func4 rfl Tryd.ntmps4 rfl ?_
  refine S_sub [(0, vcode)] ⟨rfl, trivial⟩ ?_
  have E : Ext w w := Ext.refl w
  refine S_seq ?_
  refine S_reg [true] rfl rfl ?_
  refine J_st (R_assign rfl) rfl (J_done ?_)
  refine S_seq ?_
  refine S_reg [true, true, true, true] rfl rfl ?_
  refine J_st (R_move rfl) rfl (J_st (R_len Tryd.underlying22 rfl (hcode.ext E).len) rfl (J_st (R_gtr rfl rfl) rfl (J_st (R_assign rfl) rfl (J_done ?_))))
  refine S_ret (E_done1 rfl rfl E ?_)
  rfl

set_option maxHeartbeats 4000000 in
set_option maxRecDepth 20000 in
theorem s_l07Node (lo : Nat) (vb : Value) (bs : List Byt) (w : World) (hcu : CurO w lo vb bs) (hbs : RdD w 0 lo vb bs) : CtR Tryd.prog 28 [.pointer (some ⟨lo, 0, none⟩)] w lo (lo + 1) (fun v w' => ∃ (dr0 : Node), dr0.outs.length ≤ 2 ∧ rgN dr0 ∧ CurO w' lo vb bs ∧ ∃ cs, v = .agg cs.toArray ∧ Own1.O w' w.heap.size w'.heap.size cs dr0) := by
  have y_lo := CurO.lt hcu
  refine ctR_of Tryd.func28 rfl Tryd.ntmps28 rfl ?_
  refine S_sub [(0, .pointer (some ⟨lo, 0, none⟩))] ⟨rfl, trivial⟩ ?_
  have E : ModR w w lo (lo + 1) := ModR.refl w lo (lo + 1)
  refine S_seq ?_
  refine S_reg [false] rfl rfl ?_
  refine J_alloc st26 rfl (fun b1 w1 e1 s1 h1 => ?_)
  have g_b1 : w.heap.size ≤ b1 := by have := E.size; omega
  have y_b1 := h1.lt
  replace E := E.ext e1; replace hcu := hcu.ext e1
  have z1 := e1.size
  refine J_done ?_
  refine S_seq ?_
  refine S_reg [true, false, true, true, false, false] rfl rfl ?_
  refine J_st (R_move rfl) rfl ?_
  refine J_callR Tryd.call27 rfl rfl (s_l01Below lo vb bs 8 _ hcu (RdD.modR hbs E (.inl (Nat.le_refl _)))) rfl (fun _ w2 e2 hv => ?_)
  obtain ⟨dx1, q1, q2, hcu', hv⟩ := hv
  replace hcu := hcu'
  subst hv
  replace E := E.trans e2 (by omega) (by omega); replace h1 := h1.modR e2 (by omega)
  have z2 := e2.size
  refine J_st (R_add rfl rfl rfl) rfl ?_
  have hbl1 : ∀ w, (Instr.build 26 ([(0, .int .i64 (IntKind.i64.wrap (1 + ((dx1 : Nat) : Int))))]).toArray).run Tryd.prog w = .ok (.agg [.int .i64 (IntKind.i64.wrap (1 + ((dx1 : Nat) : Int))), .int .i64 0, .int .i64 0, .slice none 0 0].toArray) w := by clear E; intro w; kernel_rfl
  refine J_st (R_buildC [.int .i64 (IntKind.i64.wrap (1 + ((dx1 : Nat) : Int))), .int .i64 0, .int .i64 0, .slice none 0 0] rfl hbl1) rfl ?_
  refine J_alloc st26 rfl (fun b2 w3 e3 s2 h2 => ?_)
  have g_b2 : w.heap.size ≤ b2 := by have := E.size; omega
  have y_b2 := h2.lt
  replace E := E.ext e3; replace hcu := hcu.ext e3; replace h1 := h1.ext e3
  have z3 := e3.size
  refine J_storeS' (cs' := [.int .i64 (IntKind.i64.wrap (1 + ((dx1 : Nat) : Int))), .int .i64 0, .int .i64 0, .slice none 0 0]) st26 rfl rfl rfl rfl h2 (Nat.le_of_ble_eq_true rfl) rfl (fun w4 m1 h2' => ?_)
  replace h2 := h2'
  replace E := E.mod m1 (fun g hg => by cases hg; omega); replace hcu := hcu.mod m1 (fun g hg => by cases hg; omega); replace h1 := h1.mod m1 (fun g hg => by cases hg; omega)
  have z4 := m1.size
  refine J_done ?_
  refine S_seq ?_
  refine S_seq ?_
  refine S_reg [true, true] rfl rfl ?_
  refine J_st (R_fieldAddr0 fl26_0 rfl) rfl (J_st (R_load sc3 rfl (h2.one 0 rfl)) rfl (J_done ?_))
  refine S_block ?_
  refine S_seq ?_
  refine S_reg [true, true] rfl rfl ?_
  refine J_st (R_eql rfl rfl) rfl (J_st (R_assign rfl) rfl (J_done ?_))
  refine S_cond rfl (fun hc1 => ?_) (fun hc1 => ?_)
  · refine S_reg [true, false, false, true, false] rfl rfl ?_
    refine J_st (R_move rfl) rfl ?_
    refine J_buildSlice (vs := [.int .i64 0, .int .i64 1, .int .i64 3, .int .i64 10, .int .i64 999]) (css := [[.int .i64 0], [.int .i64 1], [.int .i64 3], [.int .i64 10], [.int .i64 999]]) sl24 rfl rfl ⟨⟨rfl, rfl⟩, ⟨rfl, rfl⟩, ⟨rfl, rfl⟩, ⟨rfl, rfl⟩, ⟨rfl, rfl⟩, trivial⟩ rfl rfl (fun b3 w5 e4 s3 h3 => ?_)
    replace h3 : Blk w5 b3 [.int .i64 0, .int .i64 1, .int .i64 3, .int .i64 10, .int .i64 999] := h3
    have g_b3 : w.heap.size ≤ b3 := by have := E.size; omega
    have y_b3 := h3.lt
    replace E := E.ext e4; replace hcu := hcu.ext e4; replace h1 := h1.ext e4; replace h2 := h2.ext e4
    have z5 := e4.size
    refine J_callR Tryd.call20 rfl rfl (s_l01PickInt lo vb bs (.slice (some ⟨b3, 0, none⟩) 5 5) [0, 1, 3, 10, 999] _ hcu (RdD.modR hbs E (.inl (Nat.le_refl _))) (fun wX eX => (Blk.rd (α := Int) (xs := [0, 1, 3, 10, 999]) (by decide) (Blk.modR h3 eX (by omega)) rfl (by simp [maxLen]))) (by decide)) rfl (fun _ w6 e5 hv => ?_)
    obtain ⟨dx2, q3, hcu', hv⟩ := hv
    replace hcu := hcu'
    subst hv
    replace E := E.trans e5 (by omega) (by omega); replace h1 := h1.modR e5 (by omega); replace h2 := h2.modR e5 (by omega); replace h3 := h3.modR e5 (by omega)
    have z6 := e5.size
    refine J_st (R_fieldAddr0 fl26_1 rfl) rfl ?_
    refine J_store' (cs' := [.int .i64 (IntKind.i64.wrap (1 + ((dx1 : Nat) : Int))), .int .i64 dx2, .int .i64 0, .slice none 0 0]) sc3 rfl rfl rfl h2 (Nat.le_of_ble_eq_true rfl) rfl (fun w7 m2 h2' => ?_)
    replace h2 := h2'
    replace E := E.mod m2 (fun g hg => by cases hg; omega); replace hcu := hcu.mod m2 (fun g hg => by cases hg; omega); replace h1 := h1.mod m2 (fun g hg => by cases hg; omega); replace h3 := h3.mod m2 (fun g hg => by cases hg; omega)
    have z7 := m2.size
    refine J_done ?_
    refine S_nil (E_inB ?_)
    refine S_seq ?_
    refine S_seq ?_
    refine S_reg [true, true, true] rfl rfl ?_
    refine J_st (R_fieldAddr0 fl26_0 rfl) rfl (J_st (R_load sc3 rfl (h2.one 0 rfl)) rfl (J_st (R_neq rfl rfl) rfl (J_done ?_)))
    refine S_cond rfl (fun hc2 => ?_) (fun hc2 => ?_)
    · refine S_seq ?_
      refine S_reg [true] rfl rfl ?_
      refine J_st (R_assign rfl) rfl (J_done ?_)
      refine S_block ?_
      refine S_loop (fun (xq : Nat × Value × List Int) => let ⟨k, vo, ls⟩ := xq; [(0, .pointer (some ⟨lo, 0, none⟩)), (2, .pointer (some ⟨b1, 0, none⟩)), (3, .pointer (some ⟨b2, 0, none⟩)), (4, .int .i64 ((k : Nat) : Int)), (9, .pointer (some ⟨b2, 0, none⟩)), (16, .pointer (some ⟨b2, 1, none⟩)), (34, .pointer (some ⟨b2, 0, none⟩))]) (fun (xq : Nat × Value × List Int) w' => let ⟨k, vo, ls⟩ := xq; ModR w w' lo (lo + 1) ∧ w7.heap.size ≤ w'.heap.size ∧ CurO w' lo vb bs ∧ Blk w' b1 [.int .i64 0, .int .i64 0, .int .i64 0, .slice none 0 0] ∧ Blk w' b3 [.int .i64 0, .int .i64 1, .int .i64 3, .int .i64 10, .int .i64 999] ∧ k ≤ 2 ∧ ls.length ≤ k ∧ (∀ y ∈ ls, rg y) ∧ Own w' w7.heap.size w'.heap.size 1 vo (List.flatMap (Enc.enc (α := Int)) ls) ∧ Blk w' b2 [.int .i64 (IntKind.i64.wrap (1 + ((dx1 : Nat) : Int))), .int .i64 dx2, .int .i64 0, vo]) (fun (xq : Nat × Value × List Int) => let ⟨k, vo, ls⟩ := xq; 2 - k) (0, .slice none 0 0, []) ⟨rfl, rfl, rfl, rfl, rfl, rfl, rfl, trivial⟩ ⟨E, Nat.le_refl _, hcu, h1, h3, Nat.zero_le _, Nat.le_refl _, (fun y hy => by cases hy), (Own.nil _ _ _ _), h2⟩ ?_
      clear E hcu h1 h2 h3
      rintro ⟨k, vo, ls⟩ w8 ⟨E, z8, hcu, h1, h3, hk, hls, hlr, ho, h2⟩
      refine S_sub [(0, .pointer (some ⟨lo, 0, none⟩)), (2, .pointer (some ⟨b1, 0, none⟩)), (3, .pointer (some ⟨b2, 0, none⟩)), (4, .int .i64 ((k : Nat) : Int)), (9, .pointer (some ⟨b2, 0, none⟩)), (16, .pointer (some ⟨b2, 1, none⟩)), (34, .pointer (some ⟨b2, 0, none⟩))] ⟨rfl, rfl, rfl, rfl, rfl, rfl, rfl, trivial⟩ ?_
      refine S_seq ?_
      refine S_seq ?_
      refine S_reg [true, true, false, true] rfl rfl ?_
      refine J_st (R_move rfl) rfl (J_st (R_move rfl) rfl ?_)
      refine J_callR Tryd.call27 rfl rfl (s_l01Below lo vb bs 3 _ hcu (RdD.modR hbs E (.inl (Nat.le_refl _)))) rfl (fun _ w9 e6 hv => ?_)
      obtain ⟨dx3, q4, q5, hcu', hv⟩ := hv
      replace hcu := hcu'
      subst hv
      replace E := E.trans e6 (by omega) (by omega); replace h1 := h1.modR e6 (by omega); replace h3 := h3.modR e6 (by omega); replace ho := ho.modR e6 (by omega); replace h2 := h2.modR e6 (by omega)
      have z9 := e6.size
      refine J_st (R_lss rfl rfl) rfl (J_done ?_)
      refine S_cond rfl (fun hc3 => ?_) (fun hc3 => ?_)
      · have hc3n : k < dx3 := by first | (have h := of_decide_eq_true hc3; omega) | (have h := hc3; simp at h; omega)
        refine S_skip ?_
        refine S_seq ?_
        refine S_block ?_
        refine S_regW mixed [0, 2, 3, 4, 5, 7, 10] [(0, true), (1, true), (2, true), (3, true), (4, true), (5, true), (6, false), (7, true), (8, false), (9, false), (10, true)] [(11, false)] (by decide +kernel) rfl rfl (fun w' => ModR w w' lo (lo + 1) ∧ w9.heap.size ≤ w'.heap.size ∧ CurO w' lo vb bs ∧ Blk w' b1 [.int .i64 0, .int .i64 0, .int .i64 0, .slice none 0 0] ∧ Blk w' b3 [.int .i64 0, .int .i64 1, .int .i64 3, .int .i64 10, .int .i64 999] ∧ Blk w' b2 [.int .i64 (IntKind.i64.wrap (1 + ((dx1 : Nat) : Int))), .int .i64 dx2, .int .i64 0, vo]) (fun w10 e7 => ?_)
        replace E := E.ext e7; replace hcu := hcu.ext e7; replace h1 := h1.ext e7; replace h3 := h3.ext e7; replace ho := ho.ext e7; replace h2 := h2.ext e7
        have z10 := e7.size
        refine ⟨⟨E, (by omega), hcu, h1, h3, h2⟩, ?_⟩
        refine JC_pu rfl (fun wX => R_fieldAddr0 fl26_3 rfl) rfl ?_
        refine JC_st rfl (fun wX hX => by obtain ⟨E, zX, hcu, h1, h3, h2⟩ := hX; exact R_load sc24 rfl (h2.one 3 rfl)) rfl ?_
        refine JC_pu rfl (fun wX => R_move rfl) rfl ?_
        refine JC_pu rfl (fun wX => R_mul rfl rfl rfl) rfl ?_
        refine JC_pu rfl (fun wX => R_add rfl rfl rfl) rfl ?_
        refine JC_pu rfl (fun wX => R_move rfl) rfl ?_
        refine JC_un rfl ?_
        refine J_callR Tryd.call27 rfl rfl (s_l01Below lo vb bs 2 _ hcu (RdD.modR hbs E (.inl (Nat.le_refl _)))) rfl (fun _ w11 e8 hv => ?_)
        obtain ⟨dx4, q6, q7, hcu', hv⟩ := hv
        replace hcu := hcu'
        subst hv
        replace E := E.trans e8 (by omega) (by omega); replace h1 := h1.modR e8 (by omega); replace h3 := h3.modR e8 (by omega); replace ho := ho.modR e8 (by omega); replace h2 := h2.modR e8 (by omega)
        have z11 := e8.size
        refine JC_next ⟨E, (by omega), hcu, h1, h3, h2⟩ ?_
        refine JC_pu rfl (fun wX => R_add rfl rfl rfl) rfl ?_
        refine JC_un rfl ?_
        refine J_buildSlice (vs := [.int .i64 (IntKind.i64.wrap ((IntKind.i64.wrap (1 + (IntKind.i64.wrap (((k : Nat) : Int) * 2)))) + ((dx4 : Nat) : Int)))]) (css := [[.int .i64 (IntKind.i64.wrap ((IntKind.i64.wrap (1 + (IntKind.i64.wrap (((k : Nat) : Int) * 2)))) + ((dx4 : Nat) : Int)))]]) sl24 rfl rfl ⟨⟨rfl, rfl⟩, trivial⟩ rfl rfl (fun b4 w12 e9 s4 h4 => ?_)
        replace h4 : Blk w12 b4 [.int .i64 (IntKind.i64.wrap ((IntKind.i64.wrap (1 + (IntKind.i64.wrap (((k : Nat) : Int) * 2)))) + ((dx4 : Nat) : Int)))] := h4
        have g_b4 : w.heap.size ≤ b4 := by have := E.size; omega
        have y_b4 := h4.lt
        replace E := E.ext e9; replace hcu := hcu.ext e9; replace h1 := h1.ext e9; replace h3 := h3.ext e9; replace ho := ho.ext e9; replace h2 := h2.ext e9
        have z12 := e9.size
        refine JC_next ⟨E, (by omega), hcu, h1, h3, h2⟩ ?_
        refine JC_un rfl ?_
        refine J_append sl24 rfl rfl ho (Src.ofBlk h4 rfl) rfl (by simp only [sum_flat, List.length_cons, List.length_nil]; simp only [Enc.sz]; omega) (by decide) (by omega) (by omega) rfl rfl (fun v1 w13 m3 ho1 => ?_)
        replace E := E.mod m3 (fun g hg => by have := Own.blk ho g hg; omega); replace hcu := hcu.mod m3 (fun g hg => by have := Own.blk ho g hg; omega); replace h1 := h1.mod m3 (fun g hg => by have := Own.blk ho g hg; omega); replace h3 := h3.mod m3 (fun g hg => by have := Own.blk ho g hg; omega); replace h2 := h2.mod m3 (fun g hg => by have := Own.blk ho g hg; omega)
        have z13 := m3.size
        refine JC_next ⟨E, (by omega), hcu, h1, h3, h2⟩ ?_
        refine JC_pu rfl (fun wX => R_fieldAddr0 fl26_3 rfl) rfl ?_
        refine JC_end ?_
        refine J_store' (cs' := [.int .i64 (IntKind.i64.wrap (1 + ((dx1 : Nat) : Int))), .int .i64 dx2, .int .i64 0, v1]) sc24 rfl rfl ho1.one h2 (Nat.le_of_ble_eq_true rfl) rfl (fun w14 m4 h2' => ?_)
        replace h2 := h2'
        replace E := E.mod m4 (fun g hg => by cases hg; omega); replace hcu := hcu.mod m4 (fun g hg => by cases hg; omega); replace h1 := h1.mod m4 (fun g hg => by cases hg; omega); replace h3 := h3.mod m4 (fun g hg => by cases hg; omega); replace ho1 := ho1.mod m4 (fun g hg => by cases hg; omega)
        have z14 := m4.size
        refine J_done ?_
        refine S_nil (E_inB ?_)
        refine S_reg [true, true, true] rfl rfl ?_
        refine J_st (R_move rfl) rfl (J_st (R_add rfl rfl (add_nat (by unfold maxLen; omega))) rfl (J_st (R_assign rfl) rfl (J_done ?_)))
        refine S_nil (E_again (k + 1, v1, (ls ++ [IntKind.i64.wrap ((IntKind.i64.wrap (1 + (IntKind.i64.wrap (((k : Nat) : Int) * 2)))) + ((dx4 : Nat) : Int))])) (by simp; omega) ⟨rfl, rfl, rfl, rfl, rfl, rfl, rfl, trivial⟩ ⟨E, (by omega), hcu, h1, h3, (by omega), (by simp; omega), (rg_app hlr (wrap_rg _)), Own.fin ho1 (by omega) (by omega) (by simp [Enc.enc]), h2⟩)
      · have hc3n : ¬ k < dx3 := by first | (have h := of_decide_eq_false hc3; omega) | (have h := hc3; simp at h; omega)
        refine S_exit (E_lp_exit (E_inB_exit ?_))
        refine S_seq ?_
        refine S_reg [true, false] rfl rfl ?_
        refine J_st (R_loadS st26 rfl h2.at rfl) rfl ?_
        refine J_storeS' (cs' := [.int .i64 (IntKind.i64.wrap (1 + ((dx1 : Nat) : Int))), .int .i64 dx2, .int .i64 0, vo]) st26 rfl rfl rfl (all_cons rfl (all_cons rfl (all_cons rfl (all_cons ho.one rfl)))) h1 (Nat.le_of_ble_eq_true rfl) rfl (fun w15 m5 h1' => ?_)
        replace h1 := h1'
        replace E := E.mod m5 (fun g hg => by cases hg; omega); replace hcu := hcu.mod m5 (fun g hg => by cases hg; omega); replace h3 := h3.mod m5 (fun g hg => by cases hg; omega); replace ho := ho.mod m5 (fun g hg => by cases hg; omega); replace h2 := h2.mod m5 (fun g hg => by cases hg; omega)
        have z15 := m5.size
        refine J_done ?_
        refine S_ret (E_doneC rfl rfl (run_loadVar_st st26 h1.at rfl) E ?_)
        exact ⟨(⟨IntKind.i64.wrap (1 + ((dx1 : Nat) : Int)), dx2, 0, ls⟩ : Node), (by first | (simp; done) | (show ls.length ≤ 2; omega) | omega | (simp; omega)), ⟨(rg_mem (x := dx2) (by assumption) (by simp [rg])), (show rg 0 from by unfold rg; omega), hlr⟩, hcu, ⟨_, rfl, Node.mkO (⟨IntKind.i64.wrap (1 + ((dx1 : Nat) : Int)), dx2, 0, ls⟩ : Node) ⟨trivial, trivial⟩ (Own.widen ho (by omega) (by omega))⟩⟩
    · refine S_skip ?_
      refine S_seq ?_
      refine S_reg [true, false] rfl rfl ?_
      refine J_st (R_loadS st26 rfl h2.at rfl) rfl ?_
      refine J_storeS' (cs' := [.int .i64 (IntKind.i64.wrap (1 + ((dx1 : Nat) : Int))), .int .i64 dx2, .int .i64 0, .slice none 0 0]) st26 rfl rfl rfl rfl h1 (Nat.le_of_ble_eq_true rfl) rfl (fun w16 m6 h1' => ?_)
      replace h1 := h1'
      replace E := E.mod m6 (fun g hg => by cases hg; omega); replace hcu := hcu.mod m6 (fun g hg => by cases hg; omega); replace h2 := h2.mod m6 (fun g hg => by cases hg; omega); replace h3 := h3.mod m6 (fun g hg => by cases hg; omega)
      have z16 := m6.size
      refine J_done ?_
      refine S_ret (E_doneC rfl rfl (run_loadVar_st st26 h1.at rfl) E ?_)
      exact ⟨(⟨IntKind.i64.wrap (1 + ((dx1 : Nat) : Int)), dx2, 0, []⟩ : Node), (by first | (simp; done) | (show ls.length ≤ 2; omega) | omega | (simp; omega)), ⟨(rg_mem (x := dx2) (by assumption) (by simp [rg])), (show rg 0 from by unfold rg; omega), (fun y hy => by cases hy)⟩, hcu, ⟨_, rfl, Node.mkO (⟨IntKind.i64.wrap (1 + ((dx1 : Nat) : Int)), dx2, 0, []⟩ : Node) ⟨trivial, trivial⟩ (Own.nil _ _ _ _)⟩⟩
  · refine S_seq ?_
    refine S_reg [true, true] rfl rfl ?_
    refine J_st (R_eql rfl rfl) rfl (J_st (R_assign rfl) rfl (J_done ?_))
    refine S_cond rfl (fun hc4 => ?_) (fun hc4 => ?_)
    · refine S_seq ?_
      refine S_reg [true, false, true, true, false] rfl rfl ?_
      refine J_st (R_move rfl) rfl ?_
      refine J_callR Tryd.call27 rfl rfl (s_l01Below lo vb bs 4 _ hcu (RdD.modR hbs E (.inl (Nat.le_refl _)))) rfl (fun _ w17 e10 hv => ?_)
      obtain ⟨dx5, q8, q9, hcu', hv⟩ := hv
      replace hcu := hcu'
      subst hv
      replace E := E.trans e10 (by omega) (by omega); replace h1 := h1.modR e10 (by omega); replace h2 := h2.modR e10 (by omega)
      have z17 := e10.size
      refine J_st (R_add rfl rfl rfl) rfl (J_st (R_fieldAddr0 fl26_1 rfl) rfl ?_)
      refine J_store' (cs' := [.int .i64 (IntKind.i64.wrap (1 + ((dx1 : Nat) : Int))), .int .i64 (IntKind.i64.wrap (1 + ((dx5 : Nat) : Int))), .int .i64 0, .slice none 0 0]) sc3 rfl rfl rfl h2 (Nat.le_of_ble_eq_true rfl) rfl (fun w18 m7 h2' => ?_)
      replace h2 := h2'
      replace E := E.mod m7 (fun g hg => by cases hg; omega); replace hcu := hcu.mod m7 (fun g hg => by cases hg; omega); replace h1 := h1.mod m7 (fun g hg => by cases hg; omega)
      have z18 := m7.size
      refine J_done ?_
      refine S_reg [true, true, true, false, true, false] rfl rfl ?_
      refine J_st (R_move rfl) rfl (J_st (R_fieldAddr0 fl26_1 rfl) rfl (J_st (R_load sc3 rfl (h2.one 1 rfl)) rfl ?_))
      refine J_callR Tryd.call27 rfl rfl (s_l01Below lo vb bs (IntKind.i64.wrap (1 + ((dx5 : Nat) : Int))) _ hcu (RdD.modR hbs E (.inl (Nat.le_refl _)))) rfl (fun _ w19 e11 hv => ?_)
      obtain ⟨dx6, q10, q11, hcu', hv⟩ := hv
      replace hcu := hcu'
      subst hv
      replace E := E.trans e11 (by omega) (by omega); replace h1 := h1.modR e11 (by omega); replace h2 := h2.modR e11 (by omega)
      have z19 := e11.size
      refine J_st (R_fieldAddr0 fl26_2 rfl) rfl ?_
      refine J_store' (cs' := [.int .i64 (IntKind.i64.wrap (1 + ((dx1 : Nat) : Int))), .int .i64 (IntKind.i64.wrap (1 + ((dx5 : Nat) : Int))), .int .i64 ((dx6 : Nat) : Int), .slice none 0 0]) sc3 rfl rfl rfl h2 (Nat.le_of_ble_eq_true rfl) rfl (fun w20 m8 h2' => ?_)
      replace h2 := h2'
      replace E := E.mod m8 (fun g hg => by cases hg; omega); replace hcu := hcu.mod m8 (fun g hg => by cases hg; omega); replace h1 := h1.mod m8 (fun g hg => by cases hg; omega)
      have z20 := m8.size
      refine J_done ?_
      refine S_nil (E_inB ?_)
      refine S_seq ?_
      refine S_seq ?_
      refine S_reg [true, true, true] rfl rfl ?_
      refine J_st (R_fieldAddr0 fl26_0 rfl) rfl (J_st (R_load sc3 rfl (h2.one 0 rfl)) rfl (J_st (R_neq rfl rfl) rfl (J_done ?_)))
      refine S_cond rfl (fun hc5 => ?_) (fun hc5 => ?_)
      · refine S_seq ?_
        refine S_reg [true] rfl rfl ?_
        refine J_st (R_assign rfl) rfl (J_done ?_)
        refine S_block ?_
        refine S_loop (fun (xq : Nat × Value × List Int) => let ⟨k, vo, ls⟩ := xq; [(0, .pointer (some ⟨lo, 0, none⟩)), (2, .pointer (some ⟨b1, 0, none⟩)), (3, .pointer (some ⟨b2, 0, none⟩)), (4, .int .i64 ((k : Nat) : Int)), (9, .pointer (some ⟨b2, 0, none⟩)), (22, .pointer (some ⟨b2, 1, none⟩)), (24, .pointer (some ⟨b2, 1, none⟩)), (27, .pointer (some ⟨b2, 2, none⟩)), (34, .pointer (some ⟨b2, 0, none⟩))]) (fun (xq : Nat × Value × List Int) w' => let ⟨k, vo, ls⟩ := xq; ModR w w' lo (lo + 1) ∧ w20.heap.size ≤ w'.heap.size ∧ CurO w' lo vb bs ∧ Blk w' b1 [.int .i64 0, .int .i64 0, .int .i64 0, .slice none 0 0] ∧ k ≤ 2 ∧ ls.length ≤ k ∧ (∀ y ∈ ls, rg y) ∧ Own w' w20.heap.size w'.heap.size 1 vo (List.flatMap (Enc.enc (α := Int)) ls) ∧ Blk w' b2 [.int .i64 (IntKind.i64.wrap (1 + ((dx1 : Nat) : Int))), .int .i64 (IntKind.i64.wrap (1 + ((dx5 : Nat) : Int))), .int .i64 ((dx6 : Nat) : Int), vo]) (fun (xq : Nat × Value × List Int) => let ⟨k, vo, ls⟩ := xq; 2 - k) (0, .slice none 0 0, []) ⟨rfl, rfl, rfl, rfl, rfl, rfl, rfl, rfl, rfl, trivial⟩ ⟨E, Nat.le_refl _, hcu, h1, Nat.zero_le _, Nat.le_refl _, (fun y hy => by cases hy), (Own.nil _ _ _ _), h2⟩ ?_
        clear E hcu h1 h2
        rintro ⟨k, vo, ls⟩ w21 ⟨E, z21, hcu, h1, hk, hls, hlr, ho, h2⟩
        refine S_sub [(0, .pointer (some ⟨lo, 0, none⟩)), (2, .pointer (some ⟨b1, 0, none⟩)), (3, .pointer (some ⟨b2, 0, none⟩)), (4, .int .i64 ((k : Nat) : Int)), (9, .pointer (some ⟨b2, 0, none⟩)), (22, .pointer (some ⟨b2, 1, none⟩)), (24, .pointer (some ⟨b2, 1, none⟩)), (27, .pointer (some ⟨b2, 2, none⟩)), (34, .pointer (some ⟨b2, 0, none⟩))] ⟨rfl, rfl, rfl, rfl, rfl, rfl, rfl, rfl, rfl, trivial⟩ ?_
        refine S_seq ?_
        refine S_seq ?_
        refine S_reg [true, true, false, true] rfl rfl ?_
        refine J_st (R_move rfl) rfl (J_st (R_move rfl) rfl ?_)
        refine J_callR Tryd.call27 rfl rfl (s_l01Below lo vb bs 3 _ hcu (RdD.modR hbs E (.inl (Nat.le_refl _)))) rfl (fun _ w22 e12 hv => ?_)
        obtain ⟨dx7, q12, q13, hcu', hv⟩ := hv
        replace hcu := hcu'
        subst hv
        replace E := E.trans e12 (by omega) (by omega); replace h1 := h1.modR e12 (by omega); replace ho := ho.modR e12 (by omega); replace h2 := h2.modR e12 (by omega)
        have z22 := e12.size
        refine J_st (R_lss rfl rfl) rfl (J_done ?_)
        refine S_cond rfl (fun hc6 => ?_) (fun hc6 => ?_)
        · have hc6n : k < dx7 := by first | (have h := of_decide_eq_true hc6; omega) | (have h := hc6; simp at h; omega)
          refine S_skip ?_
          refine S_seq ?_
          refine S_block ?_
          refine S_regW mixed [0, 2, 3, 4, 5, 7, 10] [(0, true), (1, true), (2, true), (3, true), (4, true), (5, true), (6, false), (7, true), (8, false), (9, false), (10, true)] [(11, false)] (by decide +kernel) rfl rfl (fun w' => ModR w w' lo (lo + 1) ∧ w22.heap.size ≤ w'.heap.size ∧ CurO w' lo vb bs ∧ Blk w' b1 [.int .i64 0, .int .i64 0, .int .i64 0, .slice none 0 0] ∧ Blk w' b2 [.int .i64 (IntKind.i64.wrap (1 + ((dx1 : Nat) : Int))), .int .i64 (IntKind.i64.wrap (1 + ((dx5 : Nat) : Int))), .int .i64 ((dx6 : Nat) : Int), vo]) (fun w23 e13 => ?_)
          replace E := E.ext e13; replace hcu := hcu.ext e13; replace h1 := h1.ext e13; replace ho := ho.ext e13; replace h2 := h2.ext e13
          have z23 := e13.size
          refine ⟨⟨E, (by omega), hcu, h1, h2⟩, ?_⟩
          refine JC_pu rfl (fun wX => R_fieldAddr0 fl26_3 rfl) rfl ?_
          refine JC_st rfl (fun wX hX => by obtain ⟨E, zX, hcu, h1, h2⟩ := hX; exact R_load sc24 rfl (h2.one 3 rfl)) rfl ?_
          refine JC_pu rfl (fun wX => R_move rfl) rfl ?_
          refine JC_pu rfl (fun wX => R_mul rfl rfl rfl) rfl ?_
          refine JC_pu rfl (fun wX => R_add rfl rfl rfl) rfl ?_
          refine JC_pu rfl (fun wX => R_move rfl) rfl ?_
          refine JC_un rfl ?_
          refine J_callR Tryd.call27 rfl rfl (s_l01Below lo vb bs 2 _ hcu (RdD.modR hbs E (.inl (Nat.le_refl _)))) rfl (fun _ w24 e14 hv => ?_)
          obtain ⟨dx8, q14, q15, hcu', hv⟩ := hv
          replace hcu := hcu'
          subst hv
          replace E := E.trans e14 (by omega) (by omega); replace h1 := h1.modR e14 (by omega); replace ho := ho.modR e14 (by omega); replace h2 := h2.modR e14 (by omega)
          have z24 := e14.size
          refine JC_next ⟨E, (by omega), hcu, h1, h2⟩ ?_
          refine JC_pu rfl (fun wX => R_add rfl rfl rfl) rfl ?_
          refine JC_un rfl ?_
          refine J_buildSlice (vs := [.int .i64 (IntKind.i64.wrap ((IntKind.i64.wrap (1 + (IntKind.i64.wrap (((k : Nat) : Int) * 2)))) + ((dx8 : Nat) : Int)))]) (css := [[.int .i64 (IntKind.i64.wrap ((IntKind.i64.wrap (1 + (IntKind.i64.wrap (((k : Nat) : Int) * 2)))) + ((dx8 : Nat) : Int)))]]) sl24 rfl rfl ⟨⟨rfl, rfl⟩, trivial⟩ rfl rfl (fun b5 w25 e15 s5 h5 => ?_)
          replace h5 : Blk w25 b5 [.int .i64 (IntKind.i64.wrap ((IntKind.i64.wrap (1 + (IntKind.i64.wrap (((k : Nat) : Int) * 2)))) + ((dx8 : Nat) : Int)))] := h5
          have g_b5 : w.heap.size ≤ b5 := by have := E.size; omega
          have y_b5 := h5.lt
          replace E := E.ext e15; replace hcu := hcu.ext e15; replace h1 := h1.ext e15; replace ho := ho.ext e15; replace h2 := h2.ext e15
          have z25 := e15.size
          refine JC_next ⟨E, (by omega), hcu, h1, h2⟩ ?_
          refine JC_un rfl ?_
          refine J_append sl24 rfl rfl ho (Src.ofBlk h5 rfl) rfl (by simp only [sum_flat, List.length_cons, List.length_nil]; simp only [Enc.sz]; omega) (by decide) (by omega) (by omega) rfl rfl (fun v2 w26 m9 ho2 => ?_)
          replace E := E.mod m9 (fun g hg => by have := Own.blk ho g hg; omega); replace hcu := hcu.mod m9 (fun g hg => by have := Own.blk ho g hg; omega); replace h1 := h1.mod m9 (fun g hg => by have := Own.blk ho g hg; omega); replace h2 := h2.mod m9 (fun g hg => by have := Own.blk ho g hg; omega)
          have z26 := m9.size
          refine JC_next ⟨E, (by omega), hcu, h1, h2⟩ ?_
          refine JC_pu rfl (fun wX => R_fieldAddr0 fl26_3 rfl) rfl ?_
          refine JC_end ?_
          refine J_store' (cs' := [.int .i64 (IntKind.i64.wrap (1 + ((dx1 : Nat) : Int))), .int .i64 (IntKind.i64.wrap (1 + ((dx5 : Nat) : Int))), .int .i64 ((dx6 : Nat) : Int), v2]) sc24 rfl rfl ho2.one h2 (Nat.le_of_ble_eq_true rfl) rfl (fun w27 m10 h2' => ?_)
          replace h2 := h2'
          replace E := E.mod m10 (fun g hg => by cases hg; omega); replace hcu := hcu.mod m10 (fun g hg => by cases hg; omega); replace h1 := h1.mod m10 (fun g hg => by cases hg; omega); replace ho2 := ho2.mod m10 (fun g hg => by cases hg; omega)
          have z27 := m10.size
          refine J_done ?_
          refine S_nil (E_inB ?_)
          refine S_reg [true, true, true] rfl rfl ?_
          refine J_st (R_move rfl) rfl (J_st (R_add rfl rfl (add_nat (by unfold maxLen; omega))) rfl (J_st (R_assign rfl) rfl (J_done ?_)))
          refine S_nil (E_again (k + 1, v2, (ls ++ [IntKind.i64.wrap ((IntKind.i64.wrap (1 + (IntKind.i64.wrap (((k : Nat) : Int) * 2)))) + ((dx8 : Nat) : Int))])) (by simp; omega) ⟨rfl, rfl, rfl, rfl, rfl, rfl, rfl, rfl, rfl, trivial⟩ ⟨E, (by omega), hcu, h1, (by omega), (by simp; omega), (rg_app hlr (wrap_rg _)), Own.fin ho2 (by omega) (by omega) (by simp [Enc.enc]), h2⟩)
        · have hc6n : ¬ k < dx7 := by first | (have h := of_decide_eq_false hc6; omega) | (have h := hc6; simp at h; omega)
          refine S_exit (E_lp_exit (E_inB_exit ?_))
          refine S_seq ?_
          refine S_reg [true, false] rfl rfl ?_
          refine J_st (R_loadS st26 rfl h2.at rfl) rfl ?_
          refine J_storeS' (cs' := [.int .i64 (IntKind.i64.wrap (1 + ((dx1 : Nat) : Int))), .int .i64 (IntKind.i64.wrap (1 + ((dx5 : Nat) : Int))), .int .i64 ((dx6 : Nat) : Int), vo]) st26 rfl rfl rfl (all_cons rfl (all_cons rfl (all_cons rfl (all_cons ho.one rfl)))) h1 (Nat.le_of_ble_eq_true rfl) rfl (fun w28 m11 h1' => ?_)
          replace h1 := h1'
          replace E := E.mod m11 (fun g hg => by cases hg; omega); replace hcu := hcu.mod m11 (fun g hg => by cases hg; omega); replace ho := ho.mod m11 (fun g hg => by cases hg; omega); replace h2 := h2.mod m11 (fun g hg => by cases hg; omega)
          have z28 := m11.size
          refine J_done ?_
          refine S_ret (E_doneC rfl rfl (run_loadVar_st st26 h1.at rfl) E ?_)
          exact ⟨(⟨IntKind.i64.wrap (1 + ((dx1 : Nat) : Int)), IntKind.i64.wrap (1 + ((dx5 : Nat) : Int)), ((dx6 : Nat) : Int), ls⟩ : Node), (by first | (simp; done) | (show ls.length ≤ 2; omega) | omega | (simp; omega)), ⟨(wrap_rg _), (show rg ((dx6 : Nat) : Int) from by have hw : rg (IntKind.i64.wrap (1 + ((dx5 : Nat) : Int))) := wrap_rg _; unfold rg at hw ⊢; omega), hlr⟩, hcu, ⟨_, rfl, Node.mkO (⟨IntKind.i64.wrap (1 + ((dx1 : Nat) : Int)), IntKind.i64.wrap (1 + ((dx5 : Nat) : Int)), ((dx6 : Nat) : Int), ls⟩ : Node) ⟨trivial, trivial⟩ (Own.widen ho (by omega) (by omega))⟩⟩
      · refine S_skip ?_
        refine S_seq ?_
        refine S_reg [true, false] rfl rfl ?_
        refine J_st (R_loadS st26 rfl h2.at rfl) rfl ?_
        refine J_storeS' (cs' := [.int .i64 (IntKind.i64.wrap (1 + ((dx1 : Nat) : Int))), .int .i64 (IntKind.i64.wrap (1 + ((dx5 : Nat) : Int))), .int .i64 ((dx6 : Nat) : Int), .slice none 0 0]) st26 rfl rfl rfl rfl h1 (Nat.le_of_ble_eq_true rfl) rfl (fun w29 m12 h1' => ?_)
        replace h1 := h1'
        replace E := E.mod m12 (fun g hg => by cases hg; omega); replace hcu := hcu.mod m12 (fun g hg => by cases hg; omega); replace h2 := h2.mod m12 (fun g hg => by cases hg; omega)
        have z29 := m12.size
        refine J_done ?_
        refine S_ret (E_doneC rfl rfl (run_loadVar_st st26 h1.at rfl) E ?_)
        exact ⟨(⟨IntKind.i64.wrap (1 + ((dx1 : Nat) : Int)), IntKind.i64.wrap (1 + ((dx5 : Nat) : Int)), ((dx6 : Nat) : Int), []⟩ : Node), (by first | (simp; done) | (show ls.length ≤ 2; omega) | omega | (simp; omega)), ⟨(wrap_rg _), (show rg ((dx6 : Nat) : Int) from by have hw : rg (IntKind.i64.wrap (1 + ((dx5 : Nat) : Int))) := wrap_rg _; unfold rg at hw ⊢; omega), (fun y hy => by cases hy)⟩, hcu, ⟨_, rfl, Node.mkO (⟨IntKind.i64.wrap (1 + ((dx1 : Nat) : Int)), IntKind.i64.wrap (1 + ((dx5 : Nat) : Int)), ((dx6 : Nat) : Int), []⟩ : Node) ⟨trivial, trivial⟩ (Own.nil _ _ _ _)⟩⟩
    · refine S_seq ?_
      refine S_reg [true, true] rfl rfl ?_
      refine J_st (R_eql rfl rfl) rfl (J_st (R_assign rfl) rfl (J_done ?_))
      refine S_cond rfl (fun hc7 => ?_) (fun hc7 => ?_)
      · refine S_reg [true, false, false, true, false] rfl rfl ?_
        refine J_st (R_move rfl) rfl ?_
        refine J_buildSlice (vs := [.int .i64 0, .int .i64 1, .int .i64 2, .int .i64 3, .int .i64 50, .int .i64 99]) (css := [[.int .i64 0], [.int .i64 1], [.int .i64 2], [.int .i64 3], [.int .i64 50], [.int .i64 99]]) sl24 rfl rfl ⟨⟨rfl, rfl⟩, ⟨rfl, rfl⟩, ⟨rfl, rfl⟩, ⟨rfl, rfl⟩, ⟨rfl, rfl⟩, ⟨rfl, rfl⟩, trivial⟩ rfl rfl (fun b6 w30 e16 s6 h6 => ?_)
        replace h6 : Blk w30 b6 [.int .i64 0, .int .i64 1, .int .i64 2, .int .i64 3, .int .i64 50, .int .i64 99] := h6
        have g_b6 : w.heap.size ≤ b6 := by have := E.size; omega
        have y_b6 := h6.lt
        replace E := E.ext e16; replace hcu := hcu.ext e16; replace h1 := h1.ext e16; replace h2 := h2.ext e16
        have z30 := e16.size
        refine J_callR Tryd.call20 rfl rfl (s_l01PickInt lo vb bs (.slice (some ⟨b6, 0, none⟩) 6 6) [0, 1, 2, 3, 50, 99] _ hcu (RdD.modR hbs E (.inl (Nat.le_refl _))) (fun wX eX => (Blk.rd (α := Int) (xs := [0, 1, 2, 3, 50, 99]) (by decide) (Blk.modR h6 eX (by omega)) rfl (by simp [maxLen]))) (by decide)) rfl (fun _ w31 e17 hv => ?_)
        obtain ⟨dx9, q16, hcu', hv⟩ := hv
        replace hcu := hcu'
        subst hv
        replace E := E.trans e17 (by omega) (by omega); replace h1 := h1.modR e17 (by omega); replace h2 := h2.modR e17 (by omega); replace h6 := h6.modR e17 (by omega)
        have z31 := e17.size
        refine J_st (R_fieldAddr0 fl26_1 rfl) rfl ?_
        refine J_store' (cs' := [.int .i64 (IntKind.i64.wrap (1 + ((dx1 : Nat) : Int))), .int .i64 dx9, .int .i64 0, .slice none 0 0]) sc3 rfl rfl rfl h2 (Nat.le_of_ble_eq_true rfl) rfl (fun w32 m13 h2' => ?_)
        replace h2 := h2'
        replace E := E.mod m13 (fun g hg => by cases hg; omega); replace hcu := hcu.mod m13 (fun g hg => by cases hg; omega); replace h1 := h1.mod m13 (fun g hg => by cases hg; omega); replace h6 := h6.mod m13 (fun g hg => by cases hg; omega)
        have z32 := m13.size
        refine J_done ?_
        refine S_nil (E_inB ?_)
        refine S_seq ?_
        refine S_seq ?_
        refine S_reg [true, true, true] rfl rfl ?_
        refine J_st (R_fieldAddr0 fl26_0 rfl) rfl (J_st (R_load sc3 rfl (h2.one 0 rfl)) rfl (J_st (R_neq rfl rfl) rfl (J_done ?_)))
        refine S_cond rfl (fun hc8 => ?_) (fun hc8 => ?_)
        · refine S_seq ?_
          refine S_reg [true] rfl rfl ?_
          refine J_st (R_assign rfl) rfl (J_done ?_)
          refine S_block ?_
          refine S_loop (fun (xq : Nat × Value × List Int) => let ⟨k, vo, ls⟩ := xq; [(0, .pointer (some ⟨lo, 0, none⟩)), (2, .pointer (some ⟨b1, 0, none⟩)), (3, .pointer (some ⟨b2, 0, none⟩)), (4, .int .i64 ((k : Nat) : Int)), (9, .pointer (some ⟨b2, 0, none⟩)), (33, .pointer (some ⟨b2, 1, none⟩)), (34, .pointer (some ⟨b2, 0, none⟩))]) (fun (xq : Nat × Value × List Int) w' => let ⟨k, vo, ls⟩ := xq; ModR w w' lo (lo + 1) ∧ w32.heap.size ≤ w'.heap.size ∧ CurO w' lo vb bs ∧ Blk w' b1 [.int .i64 0, .int .i64 0, .int .i64 0, .slice none 0 0] ∧ Blk w' b6 [.int .i64 0, .int .i64 1, .int .i64 2, .int .i64 3, .int .i64 50, .int .i64 99] ∧ k ≤ 2 ∧ ls.length ≤ k ∧ (∀ y ∈ ls, rg y) ∧ Own w' w32.heap.size w'.heap.size 1 vo (List.flatMap (Enc.enc (α := Int)) ls) ∧ Blk w' b2 [.int .i64 (IntKind.i64.wrap (1 + ((dx1 : Nat) : Int))), .int .i64 dx9, .int .i64 0, vo]) (fun (xq : Nat × Value × List Int) => let ⟨k, vo, ls⟩ := xq; 2 - k) (0, .slice none 0 0, []) ⟨rfl, rfl, rfl, rfl, rfl, rfl, rfl, trivial⟩ ⟨E, Nat.le_refl _, hcu, h1, h6, Nat.zero_le _, Nat.le_refl _, (fun y hy => by cases hy), (Own.nil _ _ _ _), h2⟩ ?_
          clear E hcu h1 h2 h6
          rintro ⟨k, vo, ls⟩ w33 ⟨E, z33, hcu, h1, h6, hk, hls, hlr, ho, h2⟩
          refine S_sub [(0, .pointer (some ⟨lo, 0, none⟩)), (2, .pointer (some ⟨b1, 0, none⟩)), (3, .pointer (some ⟨b2, 0, none⟩)), (4, .int .i64 ((k : Nat) : Int)), (9, .pointer (some ⟨b2, 0, none⟩)), (33, .pointer (some ⟨b2, 1, none⟩)), (34, .pointer (some ⟨b2, 0, none⟩))] ⟨rfl, rfl, rfl, rfl, rfl, rfl, rfl, trivial⟩ ?_
          refine S_seq ?_
          refine S_seq ?_
          refine S_reg [true, true, false, true] rfl rfl ?_
          refine J_st (R_move rfl) rfl (J_st (R_move rfl) rfl ?_)
          refine J_callR Tryd.call27 rfl rfl (s_l01Below lo vb bs 3 _ hcu (RdD.modR hbs E (.inl (Nat.le_refl _)))) rfl (fun _ w34 e18 hv => ?_)
          obtain ⟨dx10, q17, q18, hcu', hv⟩ := hv
          replace hcu := hcu'
          subst hv
          replace E := E.trans e18 (by omega) (by omega); replace h1 := h1.modR e18 (by omega); replace h6 := h6.modR e18 (by omega); replace ho := ho.modR e18 (by omega); replace h2 := h2.modR e18 (by omega)
          have z34 := e18.size
          refine J_st (R_lss rfl rfl) rfl (J_done ?_)
          refine S_cond rfl (fun hc9 => ?_) (fun hc9 => ?_)
          · have hc9n : k < dx10 := by first | (have h := of_decide_eq_true hc9; omega) | (have h := hc9; simp at h; omega)
            refine S_skip ?_
            refine S_seq ?_
            refine S_block ?_
            refine S_regW mixed [0, 2, 3, 4, 5, 7, 10] [(0, true), (1, true), (2, true), (3, true), (4, true), (5, true), (6, false), (7, true), (8, false), (9, false), (10, true)] [(11, false)] (by decide +kernel) rfl rfl (fun w' => ModR w w' lo (lo + 1) ∧ w34.heap.size ≤ w'.heap.size ∧ CurO w' lo vb bs ∧ Blk w' b1 [.int .i64 0, .int .i64 0, .int .i64 0, .slice none 0 0] ∧ Blk w' b6 [.int .i64 0, .int .i64 1, .int .i64 2, .int .i64 3, .int .i64 50, .int .i64 99] ∧ Blk w' b2 [.int .i64 (IntKind.i64.wrap (1 + ((dx1 : Nat) : Int))), .int .i64 dx9, .int .i64 0, vo]) (fun w35 e19 => ?_)
            replace E := E.ext e19; replace hcu := hcu.ext e19; replace h1 := h1.ext e19; replace h6 := h6.ext e19; replace ho := ho.ext e19; replace h2 := h2.ext e19
            have z35 := e19.size
            refine ⟨⟨E, (by omega), hcu, h1, h6, h2⟩, ?_⟩
            refine JC_pu rfl (fun wX => R_fieldAddr0 fl26_3 rfl) rfl ?_
            refine JC_st rfl (fun wX hX => by obtain ⟨E, zX, hcu, h1, h6, h2⟩ := hX; exact R_load sc24 rfl (h2.one 3 rfl)) rfl ?_
            refine JC_pu rfl (fun wX => R_move rfl) rfl ?_
            refine JC_pu rfl (fun wX => R_mul rfl rfl rfl) rfl ?_
            refine JC_pu rfl (fun wX => R_add rfl rfl rfl) rfl ?_
            refine JC_pu rfl (fun wX => R_move rfl) rfl ?_
            refine JC_un rfl ?_
            refine J_callR Tryd.call27 rfl rfl (s_l01Below lo vb bs 2 _ hcu (RdD.modR hbs E (.inl (Nat.le_refl _)))) rfl (fun _ w36 e20 hv => ?_)
            obtain ⟨dx11, q19, q20, hcu', hv⟩ := hv
            replace hcu := hcu'
            subst hv
            replace E := E.trans e20 (by omega) (by omega); replace h1 := h1.modR e20 (by omega); replace h6 := h6.modR e20 (by omega); replace ho := ho.modR e20 (by omega); replace h2 := h2.modR e20 (by omega)
            have z36 := e20.size
            refine JC_next ⟨E, (by omega), hcu, h1, h6, h2⟩ ?_
            refine JC_pu rfl (fun wX => R_add rfl rfl rfl) rfl ?_
            refine JC_un rfl ?_
            refine J_buildSlice (vs := [.int .i64 (IntKind.i64.wrap ((IntKind.i64.wrap (1 + (IntKind.i64.wrap (((k : Nat) : Int) * 2)))) + ((dx11 : Nat) : Int)))]) (css := [[.int .i64 (IntKind.i64.wrap ((IntKind.i64.wrap (1 + (IntKind.i64.wrap (((k : Nat) : Int) * 2)))) + ((dx11 : Nat) : Int)))]]) sl24 rfl rfl ⟨⟨rfl, rfl⟩, trivial⟩ rfl rfl (fun b7 w37 e21 s7 h7 => ?_)
            replace h7 : Blk w37 b7 [.int .i64 (IntKind.i64.wrap ((IntKind.i64.wrap (1 + (IntKind.i64.wrap (((k : Nat) : Int) * 2)))) + ((dx11 : Nat) : Int)))] := h7
            have g_b7 : w.heap.size ≤ b7 := by have := E.size; omega
            have y_b7 := h7.lt
            replace E := E.ext e21; replace hcu := hcu.ext e21; replace h1 := h1.ext e21; replace h6 := h6.ext e21; replace ho := ho.ext e21; replace h2 := h2.ext e21
            have z37 := e21.size
            refine JC_next ⟨E, (by omega), hcu, h1, h6, h2⟩ ?_
            refine JC_un rfl ?_
            refine J_append sl24 rfl rfl ho (Src.ofBlk h7 rfl) rfl (by simp only [sum_flat, List.length_cons, List.length_nil]; simp only [Enc.sz]; omega) (by decide) (by omega) (by omega) rfl rfl (fun v3 w38 m14 ho3 => ?_)
            replace E := E.mod m14 (fun g hg => by have := Own.blk ho g hg; omega); replace hcu := hcu.mod m14 (fun g hg => by have := Own.blk ho g hg; omega); replace h1 := h1.mod m14 (fun g hg => by have := Own.blk ho g hg; omega); replace h6 := h6.mod m14 (fun g hg => by have := Own.blk ho g hg; omega); replace h2 := h2.mod m14 (fun g hg => by have := Own.blk ho g hg; omega)
            have z38 := m14.size
            refine JC_next ⟨E, (by omega), hcu, h1, h6, h2⟩ ?_
            refine JC_pu rfl (fun wX => R_fieldAddr0 fl26_3 rfl) rfl ?_
            refine JC_end ?_
            refine J_store' (cs' := [.int .i64 (IntKind.i64.wrap (1 + ((dx1 : Nat) : Int))), .int .i64 dx9, .int .i64 0, v3]) sc24 rfl rfl ho3.one h2 (Nat.le_of_ble_eq_true rfl) rfl (fun w39 m15 h2' => ?_)
            replace h2 := h2'
            replace E := E.mod m15 (fun g hg => by cases hg; omega); replace hcu := hcu.mod m15 (fun g hg => by cases hg; omega); replace h1 := h1.mod m15 (fun g hg => by cases hg; omega); replace h6 := h6.mod m15 (fun g hg => by cases hg; omega); replace ho3 := ho3.mod m15 (fun g hg => by cases hg; omega)
            have z39 := m15.size
            refine J_done ?_
            refine S_nil (E_inB ?_)
            refine S_reg [true, true, true] rfl rfl ?_
            refine J_st (R_move rfl) rfl (J_st (R_add rfl rfl (add_nat (by unfold maxLen; omega))) rfl (J_st (R_assign rfl) rfl (J_done ?_)))
            refine S_nil (E_again (k + 1, v3, (ls ++ [IntKind.i64.wrap ((IntKind.i64.wrap (1 + (IntKind.i64.wrap (((k : Nat) : Int) * 2)))) + ((dx11 : Nat) : Int))])) (by simp; omega) ⟨rfl, rfl, rfl, rfl, rfl, rfl, rfl, trivial⟩ ⟨E, (by omega), hcu, h1, h6, (by omega), (by simp; omega), (rg_app hlr (wrap_rg _)), Own.fin ho3 (by omega) (by omega) (by simp [Enc.enc]), h2⟩)
          · have hc9n : ¬ k < dx10 := by first | (have h := of_decide_eq_false hc9; omega) | (have h := hc9; simp at h; omega)
            refine S_exit (E_lp_exit (E_inB_exit ?_))
            refine S_seq ?_
            refine S_reg [true, false] rfl rfl ?_
            refine J_st (R_loadS st26 rfl h2.at rfl) rfl ?_
            refine J_storeS' (cs' := [.int .i64 (IntKind.i64.wrap (1 + ((dx1 : Nat) : Int))), .int .i64 dx9, .int .i64 0, vo]) st26 rfl rfl rfl (all_cons rfl (all_cons rfl (all_cons rfl (all_cons ho.one rfl)))) h1 (Nat.le_of_ble_eq_true rfl) rfl (fun w40 m16 h1' => ?_)
            replace h1 := h1'
            replace E := E.mod m16 (fun g hg => by cases hg; omega); replace hcu := hcu.mod m16 (fun g hg => by cases hg; omega); replace h6 := h6.mod m16 (fun g hg => by cases hg; omega); replace ho := ho.mod m16 (fun g hg => by cases hg; omega); replace h2 := h2.mod m16 (fun g hg => by cases hg; omega)
            have z40 := m16.size
            refine J_done ?_
            refine S_ret (E_doneC rfl rfl (run_loadVar_st st26 h1.at rfl) E ?_)
            exact ⟨(⟨IntKind.i64.wrap (1 + ((dx1 : Nat) : Int)), dx9, 0, ls⟩ : Node), (by first | (simp; done) | (show ls.length ≤ 2; omega) | omega | (simp; omega)), ⟨(rg_mem (x := dx9) (by assumption) (by simp [rg])), (show rg 0 from by unfold rg; omega), hlr⟩, hcu, ⟨_, rfl, Node.mkO (⟨IntKind.i64.wrap (1 + ((dx1 : Nat) : Int)), dx9, 0, ls⟩ : Node) ⟨trivial, trivial⟩ (Own.widen ho (by omega) (by omega))⟩⟩
        · refine S_skip ?_
          refine S_seq ?_
          refine S_reg [true, false] rfl rfl ?_
          refine J_st (R_loadS st26 rfl h2.at rfl) rfl ?_
          refine J_storeS' (cs' := [.int .i64 (IntKind.i64.wrap (1 + ((dx1 : Nat) : Int))), .int .i64 dx9, .int .i64 0, .slice none 0 0]) st26 rfl rfl rfl rfl h1 (Nat.le_of_ble_eq_true rfl) rfl (fun w41 m17 h1' => ?_)
          replace h1 := h1'
          replace E := E.mod m17 (fun g hg => by cases hg; omega); replace hcu := hcu.mod m17 (fun g hg => by cases hg; omega); replace h2 := h2.mod m17 (fun g hg => by cases hg; omega); replace h6 := h6.mod m17 (fun g hg => by cases hg; omega)
          have z41 := m17.size
          refine J_done ?_
          refine S_ret (E_doneC rfl rfl (run_loadVar_st st26 h1.at rfl) E ?_)
          exact ⟨(⟨IntKind.i64.wrap (1 + ((dx1 : Nat) : Int)), dx9, 0, []⟩ : Node), (by first | (simp; done) | (show ls.length ≤ 2; omega) | omega | (simp; omega)), ⟨(rg_mem (x := dx9) (by assumption) (by simp [rg])), (show rg 0 from by unfold rg; omega), (fun y hy => by cases hy)⟩, hcu, ⟨_, rfl, Node.mkO (⟨IntKind.i64.wrap (1 + ((dx1 : Nat) : Int)), dx9, 0, []⟩ : Node) ⟨trivial, trivial⟩ (Own.nil _ _ _ _)⟩⟩
      · refine S_skip ?_
        refine S_nil (E_inB ?_)
        refine S_seq ?_
        refine S_seq ?_
        refine S_reg [true, true, true] rfl rfl ?_
        refine J_st (R_fieldAddr0 fl26_0 rfl) rfl (J_st (R_load sc3 rfl (h2.one 0 rfl)) rfl (J_st (R_neq rfl rfl) rfl (J_done ?_)))
        refine S_cond rfl (fun hc10 => ?_) (fun hc10 => ?_)
        · refine S_seq ?_
          refine S_reg [true] rfl rfl ?_
          refine J_st (R_assign rfl) rfl (J_done ?_)
          refine S_block ?_
          refine S_loop (fun (xq : Nat × Value × List Int) => let ⟨k, vo, ls⟩ := xq; [(0, .pointer (some ⟨lo, 0, none⟩)), (2, .pointer (some ⟨b1, 0, none⟩)), (3, .pointer (some ⟨b2, 0, none⟩)), (4, .int .i64 ((k : Nat) : Int)), (9, .pointer (some ⟨b2, 0, none⟩)), (34, .pointer (some ⟨b2, 0, none⟩))]) (fun (xq : Nat × Value × List Int) w' => let ⟨k, vo, ls⟩ := xq; ModR w w' lo (lo + 1) ∧ w4.heap.size ≤ w'.heap.size ∧ CurO w' lo vb bs ∧ Blk w' b1 [.int .i64 0, .int .i64 0, .int .i64 0, .slice none 0 0] ∧ k ≤ 2 ∧ ls.length ≤ k ∧ (∀ y ∈ ls, rg y) ∧ Own w' w4.heap.size w'.heap.size 1 vo (List.flatMap (Enc.enc (α := Int)) ls) ∧ Blk w' b2 [.int .i64 (IntKind.i64.wrap (1 + ((dx1 : Nat) : Int))), .int .i64 0, .int .i64 0, vo]) (fun (xq : Nat × Value × List Int) => let ⟨k, vo, ls⟩ := xq; 2 - k) (0, .slice none 0 0, []) ⟨rfl, rfl, rfl, rfl, rfl, rfl, trivial⟩ ⟨E, Nat.le_refl _, hcu, h1, Nat.zero_le _, Nat.le_refl _, (fun y hy => by cases hy), (Own.nil _ _ _ _), h2⟩ ?_
          clear E hcu h1 h2
          rintro ⟨k, vo, ls⟩ w42 ⟨E, z42, hcu, h1, hk, hls, hlr, ho, h2⟩
          refine S_sub [(0, .pointer (some ⟨lo, 0, none⟩)), (2, .pointer (some ⟨b1, 0, none⟩)), (3, .pointer (some ⟨b2, 0, none⟩)), (4, .int .i64 ((k : Nat) : Int)), (9, .pointer (some ⟨b2, 0, none⟩)), (34, .pointer (some ⟨b2, 0, none⟩))] ⟨rfl, rfl, rfl, rfl, rfl, rfl, trivial⟩ ?_
          refine S_seq ?_
          refine S_seq ?_
          refine S_reg [true, true, false, true] rfl rfl ?_
          refine J_st (R_move rfl) rfl (J_st (R_move rfl) rfl ?_)
          refine J_callR Tryd.call27 rfl rfl (s_l01Below lo vb bs 3 _ hcu (RdD.modR hbs E (.inl (Nat.le_refl _)))) rfl (fun _ w43 e22 hv => ?_)
          obtain ⟨dx12, q21, q22, hcu', hv⟩ := hv
          replace hcu := hcu'
          subst hv
          replace E := E.trans e22 (by omega) (by omega); replace h1 := h1.modR e22 (by omega); replace ho := ho.modR e22 (by omega); replace h2 := h2.modR e22 (by omega)
          have z43 := e22.size
          refine J_st (R_lss rfl rfl) rfl (J_done ?_)
          refine S_cond rfl (fun hc11 => ?_) (fun hc11 => ?_)
          · have hc11n : k < dx12 := by first | (have h := of_decide_eq_true hc11; omega) | (have h := hc11; simp at h; omega)
            refine S_skip ?_
            refine S_seq ?_
            refine S_block ?_
            refine S_regW mixed [0, 2, 3, 4, 5, 7, 10] [(0, true), (1, true), (2, true), (3, true), (4, true), (5, true), (6, false), (7, true), (8, false), (9, false), (10, true)] [(11, false)] (by decide +kernel) rfl rfl (fun w' => ModR w w' lo (lo + 1) ∧ w43.heap.size ≤ w'.heap.size ∧ CurO w' lo vb bs ∧ Blk w' b1 [.int .i64 0, .int .i64 0, .int .i64 0, .slice none 0 0] ∧ Blk w' b2 [.int .i64 (IntKind.i64.wrap (1 + ((dx1 : Nat) : Int))), .int .i64 0, .int .i64 0, vo]) (fun w44 e23 => ?_)
            replace E := E.ext e23; replace hcu := hcu.ext e23; replace h1 := h1.ext e23; replace ho := ho.ext e23; replace h2 := h2.ext e23
            have z44 := e23.size
            refine ⟨⟨E, (by omega), hcu, h1, h2⟩, ?_⟩
            refine JC_pu rfl (fun wX => R_fieldAddr0 fl26_3 rfl) rfl ?_
            refine JC_st rfl (fun wX hX => by obtain ⟨E, zX, hcu, h1, h2⟩ := hX; exact R_load sc24 rfl (h2.one 3 rfl)) rfl ?_
            refine JC_pu rfl (fun wX => R_move rfl) rfl ?_
            refine JC_pu rfl (fun wX => R_mul rfl rfl rfl) rfl ?_
            refine JC_pu rfl (fun wX => R_add rfl rfl rfl) rfl ?_
            refine JC_pu rfl (fun wX => R_move rfl) rfl ?_
            refine JC_un rfl ?_
            refine J_callR Tryd.call27 rfl rfl (s_l01Below lo vb bs 2 _ hcu (RdD.modR hbs E (.inl (Nat.le_refl _)))) rfl (fun _ w45 e24 hv => ?_)
            obtain ⟨dx13, q23, q24, hcu', hv⟩ := hv
            replace hcu := hcu'
            subst hv
            replace E := E.trans e24 (by omega) (by omega); replace h1 := h1.modR e24 (by omega); replace ho := ho.modR e24 (by omega); replace h2 := h2.modR e24 (by omega)
            have z45 := e24.size
            refine JC_next ⟨E, (by omega), hcu, h1, h2⟩ ?_
            refine JC_pu rfl (fun wX => R_add rfl rfl rfl) rfl ?_
            refine JC_un rfl ?_
            refine J_buildSlice (vs := [.int .i64 (IntKind.i64.wrap ((IntKind.i64.wrap (1 + (IntKind.i64.wrap (((k : Nat) : Int) * 2)))) + ((dx13 : Nat) : Int)))]) (css := [[.int .i64 (IntKind.i64.wrap ((IntKind.i64.wrap (1 + (IntKind.i64.wrap (((k : Nat) : Int) * 2)))) + ((dx13 : Nat) : Int)))]]) sl24 rfl rfl ⟨⟨rfl, rfl⟩, trivial⟩ rfl rfl (fun b8 w46 e25 s8 h8 => ?_)
            replace h8 : Blk w46 b8 [.int .i64 (IntKind.i64.wrap ((IntKind.i64.wrap (1 + (IntKind.i64.wrap (((k : Nat) : Int) * 2)))) + ((dx13 : Nat) : Int)))] := h8
            have g_b8 : w.heap.size ≤ b8 := by have := E.size; omega
            have y_b8 := h8.lt
            replace E := E.ext e25; replace hcu := hcu.ext e25; replace h1 := h1.ext e25; replace ho := ho.ext e25; replace h2 := h2.ext e25
            have z46 := e25.size
            refine JC_next ⟨E, (by omega), hcu, h1, h2⟩ ?_
            refine JC_un rfl ?_
            refine J_append sl24 rfl rfl ho (Src.ofBlk h8 rfl) rfl (by simp only [sum_flat, List.length_cons, List.length_nil]; simp only [Enc.sz]; omega) (by decide) (by omega) (by omega) rfl rfl (fun v4 w47 m18 ho4 => ?_)
            replace E := E.mod m18 (fun g hg => by have := Own.blk ho g hg; omega); replace hcu := hcu.mod m18 (fun g hg => by have := Own.blk ho g hg; omega); replace h1 := h1.mod m18 (fun g hg => by have := Own.blk ho g hg; omega); replace h2 := h2.mod m18 (fun g hg => by have := Own.blk ho g hg; omega)
            have z47 := m18.size
            refine JC_next ⟨E, (by omega), hcu, h1, h2⟩ ?_
            refine JC_pu rfl (fun wX => R_fieldAddr0 fl26_3 rfl) rfl ?_
            refine JC_end ?_
            refine J_store' (cs' := [.int .i64 (IntKind.i64.wrap (1 + ((dx1 : Nat) : Int))), .int .i64 0, .int .i64 0, v4]) sc24 rfl rfl ho4.one h2 (Nat.le_of_ble_eq_true rfl) rfl (fun w48 m19 h2' => ?_)
            replace h2 := h2'
            replace E := E.mod m19 (fun g hg => by cases hg; omega); replace hcu := hcu.mod m19 (fun g hg => by cases hg; omega); replace h1 := h1.mod m19 (fun g hg => by cases hg; omega); replace ho4 := ho4.mod m19 (fun g hg => by cases hg; omega)
            have z48 := m19.size
            refine J_done ?_
            refine S_nil (E_inB ?_)
            refine S_reg [true, true, true] rfl rfl ?_
            refine J_st (R_move rfl) rfl (J_st (R_add rfl rfl (add_nat (by unfold maxLen; omega))) rfl (J_st (R_assign rfl) rfl (J_done ?_)))
            refine S_nil (E_again (k + 1, v4, (ls ++ [IntKind.i64.wrap ((IntKind.i64.wrap (1 + (IntKind.i64.wrap (((k : Nat) : Int) * 2)))) + ((dx13 : Nat) : Int))])) (by simp; omega) ⟨rfl, rfl, rfl, rfl, rfl, rfl, trivial⟩ ⟨E, (by omega), hcu, h1, (by omega), (by simp; omega), (rg_app hlr (wrap_rg _)), Own.fin ho4 (by omega) (by omega) (by simp [Enc.enc]), h2⟩)
          · have hc11n : ¬ k < dx12 := by first | (have h := of_decide_eq_false hc11; omega) | (have h := hc11; simp at h; omega)
            refine S_exit (E_lp_exit (E_inB_exit ?_))
            refine S_seq ?_
            refine S_reg [true, false] rfl rfl ?_
            refine J_st (R_loadS st26 rfl h2.at rfl) rfl ?_
            refine J_storeS' (cs' := [.int .i64 (IntKind.i64.wrap (1 + ((dx1 : Nat) : Int))), .int .i64 0, .int .i64 0, vo]) st26 rfl rfl rfl (all_cons rfl (all_cons rfl (all_cons rfl (all_cons ho.one rfl)))) h1 (Nat.le_of_ble_eq_true rfl) rfl (fun w49 m20 h1' => ?_)
            replace h1 := h1'
            replace E := E.mod m20 (fun g hg => by cases hg; omega); replace hcu := hcu.mod m20 (fun g hg => by cases hg; omega); replace ho := ho.mod m20 (fun g hg => by cases hg; omega); replace h2 := h2.mod m20 (fun g hg => by cases hg; omega)
            have z49 := m20.size
            refine J_done ?_
            refine S_ret (E_doneC rfl rfl (run_loadVar_st st26 h1.at rfl) E ?_)
            exact ⟨(⟨IntKind.i64.wrap (1 + ((dx1 : Nat) : Int)), 0, 0, ls⟩ : Node), (by first | (simp; done) | (show ls.length ≤ 2; omega) | omega | (simp; omega)), ⟨(show rg 0 from by unfold rg; omega), (show rg 0 from by unfold rg; omega), hlr⟩, hcu, ⟨_, rfl, Node.mkO (⟨IntKind.i64.wrap (1 + ((dx1 : Nat) : Int)), 0, 0, ls⟩ : Node) ⟨trivial, trivial⟩ (Own.widen ho (by omega) (by omega))⟩⟩
        · refine S_skip ?_
          refine S_seq ?_
          refine S_reg [true, false] rfl rfl ?_
          refine J_st (R_loadS st26 rfl h2.at rfl) rfl ?_
          refine J_storeS' (cs' := [.int .i64 (IntKind.i64.wrap (1 + ((dx1 : Nat) : Int))), .int .i64 0, .int .i64 0, .slice none 0 0]) st26 rfl rfl rfl rfl h1 (Nat.le_of_ble_eq_true rfl) rfl (fun w50 m21 h1' => ?_)
          replace h1 := h1'
          replace E := E.mod m21 (fun g hg => by cases hg; omega); replace hcu := hcu.mod m21 (fun g hg => by cases hg; omega); replace h2 := h2.mod m21 (fun g hg => by cases hg; omega)
          have z50 := m21.size
          refine J_done ?_
          refine S_ret (E_doneC rfl rfl (run_loadVar_st st26 h1.at rfl) E ?_)
          exact ⟨(⟨IntKind.i64.wrap (1 + ((dx1 : Nat) : Int)), 0, 0, []⟩ : Node), (by first | (simp; done) | (show ls.length ≤ 2; omega) | omega | (simp; omega)), ⟨(show rg 0 from by unfold rg; omega), (show rg 0 from by unfold rg; omega), (fun y hy => by cases hy)⟩, hcu, ⟨_, rfl, Node.mkO (⟨IntKind.i64.wrap (1 + ((dx1 : Nat) : Int)), 0, 0, []⟩ : Node) ⟨trivial, trivial⟩ (Own.nil _ _ _ _)⟩⟩

set_option maxHeartbeats 4000000 in
set_option maxRecDepth 20000 in
theorem s_l07Any (lo : Nat) (vb : Value) (bs : List Byt) (w : World) (hcu : CurO w lo vb bs) (hbs : RdD w 0 lo vb bs) : CtR Tryd.prog 19 [.pointer (some ⟨lo, 0, none⟩)] w lo (lo + 1) (fun v w' => ∃ (dr0 : Node), dr0.outs.length ≤ 3 ∧ rgN dr0 ∧ CurO w' lo vb bs ∧ ∃ cs, v = .agg cs.toArray ∧ Own1.O w' w.heap.size w'.heap.size cs dr0) := by
  have y_lo := CurO.lt hcu
  refine ctR_of Tryd.func19 rfl Tryd.ntmps19 rfl ?_
  refine S_sub [(0, .pointer (some ⟨lo, 0, none⟩))] ⟨rfl, trivial⟩ ?_
  have E : ModR w w lo (lo + 1) := ModR.refl w lo (lo + 1)
  refine S_seq ?_
  refine S_reg [false] rfl rfl ?_
  refine J_alloc st26 rfl (fun b1 w1 e1 s1 h1 => ?_)
  have g_b1 : w.heap.size ≤ b1 := by have := E.size; omega
  have y_b1 := h1.lt
  replace E := E.ext e1; replace hcu := hcu.ext e1
  have z1 := e1.size
  refine J_done ?_
  refine S_seq ?_
  refine S_reg [true, false, false, false] rfl rfl ?_
  refine J_st (R_move rfl) rfl ?_
  refine J_callR Tryd.call28 rfl rfl (s_l07Node lo vb bs _ hcu (RdD.modR hbs E (.inl (Nat.le_refl _)))) rfl (fun _ w2 e2 ho1 => ?_)
  obtain ⟨dx1, q1, q2, hcu', ho1⟩ := ho1
  replace hcu := hcu'
  obtain ⟨_, rfl, ho1⟩ := ho1
  have g_ho1 : w.heap.size ≤ w1.heap.size := E.size
  replace E := E.trans e2 (by omega) (by omega); replace h1 := h1.modR e2 (by omega)
  have z2 := e2.size
  obtain ⟨o1, rfl, sp1, hw1⟩ := Node.opO ho1
  refine J_alloc st26 rfl (fun b2 w3 e3 s2 h2 => ?_)
  have g_b2 : w.heap.size ≤ b2 := by have := E.size; omega
  have y_b2 := h2.lt
  replace E := E.ext e3; replace hcu := hcu.ext e3; replace h1 := h1.ext e3; replace hw1 := hw1.ext e3
  have z3 := e3.size
  refine J_storeS' (cs' := [.int .i64 dx1.kind, .int .i64 dx1.a, .int .i64 dx1.b, o1]) st26 rfl rfl rfl (all_cons rfl (all_cons rfl (all_cons rfl (all_cons hw1.one rfl)))) h2 (Nat.le_of_ble_eq_true rfl) rfl (fun w4 m1 h2' => ?_)
  replace h2 := h2'
  replace E := E.mod m1 (fun g hg => by cases hg; omega); replace hcu := hcu.mod m1 (fun g hg => by cases hg; omega); replace h1 := h1.mod m1 (fun g hg => by cases hg; omega); replace hw1 := hw1.mod m1 (fun g hg => by cases hg; omega)
  have z4 := m1.size
  refine J_done ?_
  refine S_seq ?_
  refine S_seq ?_
  refine S_reg [true, false] rfl rfl ?_
  refine J_st (R_move rfl) rfl ?_
  refine J_callR Tryd.call27 rfl rfl (s_l01Below lo vb bs 12 _ hcu (RdD.modR hbs E (.inl (Nat.le_refl _)))) rfl (fun _ w5 e4 hv => ?_)
  obtain ⟨dx2, q3, q4, hcu', hv⟩ := hv
  replace hcu := hcu'
  subst hv
  replace E := E.trans e4 (by omega) (by omega); replace h1 := h1.modR e4 (by omega); replace hw1 := hw1.modR e4 (by omega); replace h2 := h2.modR e4 (by omega)
  have z5 := e4.size
  refine J_done ?_
  refine S_block ?_
  refine S_seq ?_
  refine S_reg [true, true] rfl rfl ?_
  refine J_st (R_eql rfl rfl) rfl (J_st (R_assign rfl) rfl (J_done ?_))
  refine S_cond rfl (fun hc1 => ?_) (fun hc1 => ?_)
  · have hc1n : dx2 = 0 := by first | (have h := of_decide_eq_true hc1; omega) | (have h := hc1; simp at h; omega)
    refine S_reg [true, false, true, true, false] rfl rfl ?_
    refine J_st (R_move rfl) rfl ?_
    refine J_callR Tryd.call27 rfl rfl (s_l01Below lo vb bs 11 _ hcu (RdD.modR hbs E (.inl (Nat.le_refl _)))) rfl (fun _ w6 e5 hv => ?_)
    obtain ⟨dx3, q5, q6, hcu', hv⟩ := hv
    replace hcu := hcu'
    subst hv
    replace E := E.trans e5 (by omega) (by omega); replace h1 := h1.modR e5 (by omega); replace hw1 := hw1.modR e5 (by omega); replace h2 := h2.modR e5 (by omega)
    have z6 := e5.size
    refine J_st (R_sub rfl rfl rfl) rfl (J_st (R_fieldAddr0 fl26_0 rfl) rfl ?_)
    refine J_store' (cs' := [.int .i64 (IntKind.i64.wrap (((dx3 : Nat) : Int) - 1)), .int .i64 dx1.a, .int .i64 dx1.b, o1]) sc3 rfl rfl rfl h2 (Nat.le_of_ble_eq_true rfl) rfl (fun w7 m2 h2' => ?_)
    replace h2 := h2'
    replace E := E.mod m2 (fun g hg => by cases hg; omega); replace hcu := hcu.mod m2 (fun g hg => by cases hg; omega); replace h1 := h1.mod m2 (fun g hg => by cases hg; omega); replace hw1 := hw1.mod m2 (fun g hg => by cases hg; omega)
    have z7 := m2.size
    refine J_done ?_
    refine S_nil (E_inB ?_)
    refine S_seq ?_
    refine S_reg [true, false] rfl rfl ?_
    refine J_st (R_loadS st26 rfl h2.at rfl) rfl ?_
    refine J_storeS' (cs' := [.int .i64 (IntKind.i64.wrap (((dx3 : Nat) : Int) - 1)), .int .i64 dx1.a, .int .i64 dx1.b, o1]) st26 rfl rfl rfl (all_cons rfl (all_cons rfl (all_cons rfl (all_cons hw1.one rfl)))) h1 (Nat.le_of_ble_eq_true rfl) rfl (fun w8 m3 h1' => ?_)
    replace h1 := h1'
    replace E := E.mod m3 (fun g hg => by cases hg; omega); replace hcu := hcu.mod m3 (fun g hg => by cases hg; omega); replace hw1 := hw1.mod m3 (fun g hg => by cases hg; omega); replace h2 := h2.mod m3 (fun g hg => by cases hg; omega)
    have z8 := m3.size
    refine J_done ?_
    refine S_ret (E_doneC rfl rfl (run_loadVar_st st26 h1.at rfl) E ?_)
    exact ⟨(⟨IntKind.i64.wrap (((dx3 : Nat) : Int) - 1), dx1.a, dx1.b, dx1.outs⟩ : Node), (by first | (simp; done) | (show ls.length ≤ 2; omega) | omega | (simp; omega)), ⟨(rgN_a (x := dx1) (by assumption)), (rgN_b (x := dx1) (by assumption)), (rgN_o (x := dx1) (by assumption))⟩, hcu, ⟨_, rfl, Node.mkO (⟨IntKind.i64.wrap (((dx3 : Nat) : Int) - 1), dx1.a, dx1.b, dx1.outs⟩ : Node) sp1 (Own.widen hw1 (by omega) (by omega))⟩⟩
  · have hc1n : ¬ dx2 = 0 := by first | (have h := of_decide_eq_false hc1; omega) | (have h := hc1; simp at h; omega)
    refine S_seq ?_
    refine S_reg [true, true] rfl rfl ?_
    refine J_st (R_eql rfl rfl) rfl (J_st (R_assign rfl) rfl (J_done ?_))
    refine S_cond rfl (fun hc2 => ?_) (fun hc2 => ?_)
    · have hc2n : dx2 = 1 := by first | (have h := of_decide_eq_true hc2; omega) | (have h := hc2; simp at h; omega)
      refine S_reg [true, false, false, true, false] rfl rfl ?_
      refine J_st (R_move rfl) rfl ?_
      refine J_buildSlice (vs := [.int .i64 (-1), .int .i64 0, .int .i64 1000, .int .i64 100, .int .i64 11]) (css := [[.int .i64 (-1)], [.int .i64 0], [.int .i64 1000], [.int .i64 100], [.int .i64 11]]) sl24 rfl rfl ⟨⟨rfl, rfl⟩, ⟨rfl, rfl⟩, ⟨rfl, rfl⟩, ⟨rfl, rfl⟩, ⟨rfl, rfl⟩, trivial⟩ rfl rfl (fun b3 w9 e6 s3 h3 => ?_)
      replace h3 : Blk w9 b3 [.int .i64 (-1), .int .i64 0, .int .i64 1000, .int .i64 100, .int .i64 11] := h3
      have g_b3 : w.heap.size ≤ b3 := by have := E.size; omega
      have y_b3 := h3.lt
      replace E := E.ext e6; replace hcu := hcu.ext e6; replace h1 := h1.ext e6; replace hw1 := hw1.ext e6; replace h2 := h2.ext e6
      have z9 := e6.size
      refine J_callR Tryd.call20 rfl rfl (s_l01PickInt lo vb bs (.slice (some ⟨b3, 0, none⟩) 5 5) [(-1), 0, 1000, 100, 11] _ hcu (RdD.modR hbs E (.inl (Nat.le_refl _))) (fun wX eX => (Blk.rd (α := Int) (xs := [(-1), 0, 1000, 100, 11]) (by decide) (Blk.modR h3 eX (by omega)) rfl (by simp [maxLen]))) (by decide)) rfl (fun _ w10 e7 hv => ?_)
      obtain ⟨dx4, q7, hcu', hv⟩ := hv
      replace hcu := hcu'
      subst hv
      replace E := E.trans e7 (by omega) (by omega); replace h1 := h1.modR e7 (by omega); replace hw1 := hw1.modR e7 (by omega); replace h2 := h2.modR e7 (by omega); replace h3 := h3.modR e7 (by omega)
      have z10 := e7.size
      refine J_st (R_fieldAddr0 fl26_1 rfl) rfl ?_
      refine J_store' (cs' := [.int .i64 dx1.kind, .int .i64 dx4, .int .i64 dx1.b, o1]) sc3 rfl rfl rfl h2 (Nat.le_of_ble_eq_true rfl) rfl (fun w11 m4 h2' => ?_)
      replace h2 := h2'
      replace E := E.mod m4 (fun g hg => by cases hg; omega); replace hcu := hcu.mod m4 (fun g hg => by cases hg; omega); replace h1 := h1.mod m4 (fun g hg => by cases hg; omega); replace hw1 := hw1.mod m4 (fun g hg => by cases hg; omega); replace h3 := h3.mod m4 (fun g hg => by cases hg; omega)
      have z11 := m4.size
      refine J_done ?_
      refine S_nil (E_inB ?_)
      refine S_seq ?_
      refine S_reg [true, false] rfl rfl ?_
      refine J_st (R_loadS st26 rfl h2.at rfl) rfl ?_
      refine J_storeS' (cs' := [.int .i64 dx1.kind, .int .i64 dx4, .int .i64 dx1.b, o1]) st26 rfl rfl rfl (all_cons rfl (all_cons rfl (all_cons rfl (all_cons hw1.one rfl)))) h1 (Nat.le_of_ble_eq_true rfl) rfl (fun w12 m5 h1' => ?_)
      replace h1 := h1'
      replace E := E.mod m5 (fun g hg => by cases hg; omega); replace hcu := hcu.mod m5 (fun g hg => by cases hg; omega); replace hw1 := hw1.mod m5 (fun g hg => by cases hg; omega); replace h2 := h2.mod m5 (fun g hg => by cases hg; omega); replace h3 := h3.mod m5 (fun g hg => by cases hg; omega)
      have z12 := m5.size
      refine J_done ?_
      refine S_ret (E_doneC rfl rfl (run_loadVar_st st26 h1.at rfl) E ?_)
      exact ⟨(⟨dx1.kind, dx4, dx1.b, dx1.outs⟩ : Node), (by first | (simp; done) | (show ls.length ≤ 2; omega) | omega | (simp; omega)), ⟨(rg_mem (x := dx4) (by assumption) (by simp [rg])), (rgN_b (x := dx1) (by assumption)), (rgN_o (x := dx1) (by assumption))⟩, hcu, ⟨_, rfl, Node.mkO (⟨dx1.kind, dx4, dx1.b, dx1.outs⟩ : Node) sp1 (Own.widen hw1 (by omega) (by omega))⟩⟩
    · have hc2n : ¬ dx2 = 1 := by first | (have h := of_decide_eq_false hc2; omega) | (have h := hc2; simp at h; omega)
      refine S_seq ?_
      refine S_reg [true, true] rfl rfl ?_
      refine J_st (R_eql rfl rfl) rfl (J_st (R_assign rfl) rfl (J_done ?_))
      refine S_cond rfl (fun hc3 => ?_) (fun hc3 => ?_)
      · have hc3n : dx2 = 2 := by first | (have h := of_decide_eq_true hc3; omega) | (have h := hc3; simp at h; omega)
        refine S_reg [true, false, false, true, false] rfl rfl ?_
        refine J_st (R_move rfl) rfl ?_
        refine J_buildSlice (vs := [.int .i64 (-1), .int .i64 1, .int .i64 3]) (css := [[.int .i64 (-1)], [.int .i64 1], [.int .i64 3]]) sl24 rfl rfl ⟨⟨rfl, rfl⟩, ⟨rfl, rfl⟩, ⟨rfl, rfl⟩, trivial⟩ rfl rfl (fun b4 w13 e8 s4 h4 => ?_)
        replace h4 : Blk w13 b4 [.int .i64 (-1), .int .i64 1, .int .i64 3] := h4
        have g_b4 : w.heap.size ≤ b4 := by have := E.size; omega
        have y_b4 := h4.lt
        replace E := E.ext e8; replace hcu := hcu.ext e8; replace h1 := h1.ext e8; replace hw1 := hw1.ext e8; replace h2 := h2.ext e8
        have z13 := e8.size
        refine J_callR Tryd.call20 rfl rfl (s_l01PickInt lo vb bs (.slice (some ⟨b4, 0, none⟩) 3 3) [(-1), 1, 3] _ hcu (RdD.modR hbs E (.inl (Nat.le_refl _))) (fun wX eX => (Blk.rd (α := Int) (xs := [(-1), 1, 3]) (by decide) (Blk.modR h4 eX (by omega)) rfl (by simp [maxLen]))) (by decide)) rfl (fun _ w14 e9 hv => ?_)
        obtain ⟨dx5, q8, hcu', hv⟩ := hv
        replace hcu := hcu'
        subst hv
        replace E := E.trans e9 (by omega) (by omega); replace h1 := h1.modR e9 (by omega); replace hw1 := hw1.modR e9 (by omega); replace h2 := h2.modR e9 (by omega); replace h4 := h4.modR e9 (by omega)
        have z14 := e9.size
        refine J_st (R_fieldAddr0 fl26_2 rfl) rfl ?_
        refine J_store' (cs' := [.int .i64 dx1.kind, .int .i64 dx1.a, .int .i64 dx5, o1]) sc3 rfl rfl rfl h2 (Nat.le_of_ble_eq_true rfl) rfl (fun w15 m6 h2' => ?_)
        replace h2 := h2'
        replace E := E.mod m6 (fun g hg => by cases hg; omega); replace hcu := hcu.mod m6 (fun g hg => by cases hg; omega); replace h1 := h1.mod m6 (fun g hg => by cases hg; omega); replace hw1 := hw1.mod m6 (fun g hg => by cases hg; omega); replace h4 := h4.mod m6 (fun g hg => by cases hg; omega)
        have z15 := m6.size
        refine J_done ?_
        refine S_nil (E_inB ?_)
        refine S_seq ?_
        refine S_reg [true, false] rfl rfl ?_
        refine J_st (R_loadS st26 rfl h2.at rfl) rfl ?_
        refine J_storeS' (cs' := [.int .i64 dx1.kind, .int .i64 dx1.a, .int .i64 dx5, o1]) st26 rfl rfl rfl (all_cons rfl (all_cons rfl (all_cons rfl (all_cons hw1.one rfl)))) h1 (Nat.le_of_ble_eq_true rfl) rfl (fun w16 m7 h1' => ?_)
        replace h1 := h1'
        replace E := E.mod m7 (fun g hg => by cases hg; omega); replace hcu := hcu.mod m7 (fun g hg => by cases hg; omega); replace hw1 := hw1.mod m7 (fun g hg => by cases hg; omega); replace h2 := h2.mod m7 (fun g hg => by cases hg; omega); replace h4 := h4.mod m7 (fun g hg => by cases hg; omega)
        have z16 := m7.size
        refine J_done ?_
        refine S_ret (E_doneC rfl rfl (run_loadVar_st st26 h1.at rfl) E ?_)
        exact ⟨(⟨dx1.kind, dx1.a, dx5, dx1.outs⟩ : Node), (by first | (simp; done) | (show ls.length ≤ 2; omega) | omega | (simp; omega)), ⟨(rgN_a (x := dx1) (by assumption)), (rg_mem (x := dx5) (by assumption) (by simp [rg])), (rgN_o (x := dx1) (by assumption))⟩, hcu, ⟨_, rfl, Node.mkO (⟨dx1.kind, dx1.a, dx5, dx1.outs⟩ : Node) sp1 (Own.widen hw1 (by omega) (by omega))⟩⟩
      · have hc3n : ¬ dx2 = 2 := by first | (have h := of_decide_eq_false hc3; omega) | (have h := hc3; simp at h; omega)
        refine S_seq ?_
        refine S_reg [true, true] rfl rfl ?_
        refine J_st (R_eql rfl rfl) rfl (J_st (R_assign rfl) rfl (J_done ?_))
        refine S_cond rfl (fun hc4 => ?_) (fun hc4 => ?_)
        · have hc4n : dx2 = 3 := by first | (have h := of_decide_eq_true hc4; omega) | (have h := hc4; simp at h; omega)
          refine S_regW mixed [0, 2, 7] [(0, true), (1, true), (2, true), (3, false), (4, false), (5, false), (6, false), (7, true)] [(8, false)] (by decide +kernel) rfl rfl (fun w' => ModR w w' lo (lo + 1) ∧ w5.heap.size ≤ w'.heap.size ∧ CurO w' lo vb bs ∧ Blk w' b1 [.int .i64 0, .int .i64 0, .int .i64 0, .slice none 0 0] ∧ Blk w' b2 [.int .i64 dx1.kind, .int .i64 dx1.a, .int .i64 dx1.b, o1]) (fun w17 e10 => ?_)
          replace E := E.ext e10; replace hcu := hcu.ext e10; replace h1 := h1.ext e10; replace hw1 := hw1.ext e10; replace h2 := h2.ext e10
          have z17 := e10.size
          refine ⟨⟨E, (by omega), hcu, h1, h2⟩, ?_⟩
          refine JC_pu rfl (fun wX => R_fieldAddr0 fl26_3 rfl) rfl ?_
          refine JC_st rfl (fun wX hX => by obtain ⟨E, zX, hcu, h1, h2⟩ := hX; exact R_load sc24 rfl (h2.one 3 rfl)) rfl ?_
          refine JC_pu rfl (fun wX => R_move rfl) rfl ?_
          refine JC_un rfl ?_
          refine J_buildSlice (vs := [.int .i64 1, .int .i64 7, .int .i64 8, .int .i64 (-1)]) (css := [[.int .i64 1], [.int .i64 7], [.int .i64 8], [.int .i64 (-1)]]) sl24 rfl rfl ⟨⟨rfl, rfl⟩, ⟨rfl, rfl⟩, ⟨rfl, rfl⟩, ⟨rfl, rfl⟩, trivial⟩ rfl rfl (fun b5 w18 e11 s5 h5 => ?_)
          replace h5 : Blk w18 b5 [.int .i64 1, .int .i64 7, .int .i64 8, .int .i64 (-1)] := h5
          have g_b5 : w.heap.size ≤ b5 := by have := E.size; omega
          have y_b5 := h5.lt
          replace E := E.ext e11; replace hcu := hcu.ext e11; replace h1 := h1.ext e11; replace hw1 := hw1.ext e11; replace h2 := h2.ext e11
          have z18 := e11.size
          refine JC_next ⟨E, (by omega), hcu, h1, h2⟩ ?_
          refine JC_un rfl ?_
          refine J_callR Tryd.call20 rfl rfl (s_l01PickInt lo vb bs (.slice (some ⟨b5, 0, none⟩) 4 4) [1, 7, 8, (-1)] _ hcu (RdD.modR hbs E (.inl (Nat.le_refl _))) (fun wX eX => (Blk.rd (α := Int) (xs := [1, 7, 8, (-1)]) (by decide) (Blk.modR h5 eX (by omega)) rfl (by simp [maxLen]))) (by decide)) rfl (fun _ w19 e12 hv => ?_)
          obtain ⟨dx6, q9, hcu', hv⟩ := hv
          replace hcu := hcu'
          subst hv
          replace E := E.trans e12 (by omega) (by omega); replace h1 := h1.modR e12 (by omega); replace hw1 := hw1.modR e12 (by omega); replace h2 := h2.modR e12 (by omega); replace h5 := h5.modR e12 (by omega)
          have z19 := e12.size
          refine JC_next ⟨E, (by omega), hcu, h1, h2⟩ ?_
          refine JC_un rfl ?_
          refine J_buildSlice (vs := [.int .i64 dx6]) (css := [[.int .i64 dx6]]) sl24 rfl rfl ⟨⟨rfl, rfl⟩, trivial⟩ rfl rfl (fun b6 w20 e13 s6 h6 => ?_)
          replace h6 : Blk w20 b6 [.int .i64 dx6] := h6
          have g_b6 : w.heap.size ≤ b6 := by have := E.size; omega
          have y_b6 := h6.lt
          replace E := E.ext e13; replace hcu := hcu.ext e13; replace h1 := h1.ext e13; replace hw1 := hw1.ext e13; replace h2 := h2.ext e13; replace h5 := h5.ext e13
          have z20 := e13.size
          refine JC_next ⟨E, (by omega), hcu, h1, h2⟩ ?_
          refine JC_un rfl ?_
          refine J_appendB sl24 rfl rfl hw1 (Src.ofBlk h6 rfl) rfl (by simp only [sum_flat, List.length_cons, List.length_nil]; simp only [Enc.sz]; omega) (by decide) (by omega) (by omega) rfl rfl (fun v1 w21 m8 ho2 hb1 => ?_)
          have hn1 : ∀ g, Value.ownBlock v1 = some g → g < w2.heap.size ∨ w20.heap.size ≤ g := fun g hg => (hb1 g hg).elim (fun h => .inl (by have := Own.blk hw1 g h; omega)) (fun h => .inr h)
          have sq1 := sp1
          replace sp1 := SepL.set hb1 0 rfl sp1 ⟨(Own.lt hw1), trivial⟩
          replace sp1 : SepL [v1] := sp1
          replace E := E.mod m8 (fun g hg => by have := Own.blk hw1 g hg; omega); replace hcu := hcu.mod m8 (fun g hg => by have := Own.blk hw1 g hg; omega); replace h1 := h1.mod m8 (fun g hg => by have := Own.blk hw1 g hg; omega); replace h2 := h2.mod m8 (fun g hg => by have := Own.blk hw1 g hg; omega); replace h5 := h5.mod m8 (fun g hg => by have := Own.blk hw1 g hg; omega)
          have z21 := m8.size
          replace ho2 : Own w21 w1.heap.size w21.heap.size 1 v1 (List.flatMap (Enc.enc (α := Int)) (dx1.outs ++ [dx6])) := by rw [List.flatMap_append]; exact ho2
          refine JC_next ⟨E, (by omega), hcu, h1, h2⟩ ?_
          refine JC_pu rfl (fun wX => R_fieldAddr0 fl26_3 rfl) rfl ?_
          refine JC_end ?_
          refine J_store' (cs' := [.int .i64 dx1.kind, .int .i64 dx1.a, .int .i64 dx1.b, v1]) sc24 rfl rfl ho2.one h2 (Nat.le_of_ble_eq_true rfl) rfl (fun w22 m9 h2' => ?_)
          replace h2 := h2'
          replace E := E.mod m9 (fun g hg => by cases hg; omega); replace hcu := hcu.mod m9 (fun g hg => by cases hg; omega); replace h1 := h1.mod m9 (fun g hg => by cases hg; omega); replace h5 := h5.mod m9 (fun g hg => by cases hg; omega); replace ho2 := Own.modN ho2 m9 (fun g hg hv => by have hN := hn1 g hv; have hB := Own.blk ho2 g hv; cases hg; omega)
          have z22 := m9.size
          refine J_done ?_
          refine S_nil (E_inB ?_)
          refine S_seq ?_
          refine S_reg [true, false] rfl rfl ?_
          refine J_st (R_loadS st26 rfl h2.at rfl) rfl ?_
          refine J_storeS' (cs' := [.int .i64 dx1.kind, .int .i64 dx1.a, .int .i64 dx1.b, v1]) st26 rfl rfl rfl (all_cons rfl (all_cons rfl (all_cons rfl (all_cons ho2.one rfl)))) h1 (Nat.le_of_ble_eq_true rfl) rfl (fun w23 m10 h1' => ?_)
          replace h1 := h1'
          replace E := E.mod m10 (fun g hg => by cases hg; omega); replace hcu := hcu.mod m10 (fun g hg => by cases hg; omega); replace h2 := h2.mod m10 (fun g hg => by cases hg; omega); replace h5 := h5.mod m10 (fun g hg => by cases hg; omega); replace ho2 := Own.modN ho2 m10 (fun g hg hv => by have hN := hn1 g hv; have hB := Own.blk ho2 g hv; cases hg; omega)
          have z23 := m10.size
          refine J_done ?_
          refine S_ret (E_doneC rfl rfl (run_loadVar_st st26 h1.at rfl) E ?_)
          exact ⟨(⟨dx1.kind, dx1.a, dx1.b, dx1.outs ++ [dx6]⟩ : Node), (by first | (simp; done) | (show ls.length ≤ 2; omega) | omega | (simp; omega)), ⟨(rgN_a (x := dx1) (by assumption)), (rgN_b (x := dx1) (by assumption)), (rg_app (rgN_o (x := dx1) (by assumption)) (rg_mem (x := dx6) (by assumption) (by simp [rg])))⟩, hcu, ⟨_, rfl, Node.mkO (⟨dx1.kind, dx1.a, dx1.b, dx1.outs ++ [dx6]⟩ : Node) sp1 (Own.widen ho2 (by omega) (by omega))⟩⟩
        · have hc4n : ¬ dx2 = 3 := by first | (have h := of_decide_eq_false hc4; omega) | (have h := hc4; simp at h; omega)
          refine S_skip ?_
          refine S_nil (E_inB ?_)
          refine S_seq ?_
          refine S_reg [true, false] rfl rfl ?_
          refine J_st (R_loadS st26 rfl h2.at rfl) rfl ?_
          refine J_storeS' (cs' := [.int .i64 dx1.kind, .int .i64 dx1.a, .int .i64 dx1.b, o1]) st26 rfl rfl rfl (all_cons rfl (all_cons rfl (all_cons rfl (all_cons hw1.one rfl)))) h1 (Nat.le_of_ble_eq_true rfl) rfl (fun w24 m11 h1' => ?_)
          replace h1 := h1'
          replace E := E.mod m11 (fun g hg => by cases hg; omega); replace hcu := hcu.mod m11 (fun g hg => by cases hg; omega); replace hw1 := hw1.mod m11 (fun g hg => by cases hg; omega); replace h2 := h2.mod m11 (fun g hg => by cases hg; omega)
          have z24 := m11.size
          refine J_done ?_
          refine S_ret (E_doneC rfl rfl (run_loadVar_st st26 h1.at rfl) E ?_)
          exact ⟨dx1, (by first | (simp; done) | (show ls.length ≤ 2; omega) | omega | (simp; omega)), ⟨(rgN_a (x := dx1) (by assumption)), (rgN_b (x := dx1) (by assumption)), (rgN_o (x := dx1) (by assumption))⟩, hcu, ⟨_, rfl, Node.mkO dx1 sp1 (Own.widen hw1 (by omega) (by omega))⟩⟩

set_option maxRecDepth 20000 in
theorem s_DrawPlaces (vcode : Value) (code : List Byt) (w : World) (hcode : RdS w vcode code) : Ct Tryd.prog 17 [vcode] w (fun v w' => ∃ (dr0 : List Int), dr0.length = 12 ∧ (∀ y ∈ dr0, 0 ≤ y ∧ y < 10000) ∧ Own w' w.heap.size w'.heap.size 1 v (List.flatMap (Enc.enc (α := Int)) dr0)) := by
  refine ct_of Tryd.func17 rfl Tryd.ntmps17 rfl ?_
  refine S_sub [(0, vcode)] ⟨rfl, trivial⟩ ?_
  have E : Ext w w := Ext.refl w
  refine S_seq ?_
  refine S_reg [true] rfl rfl ?_
  refine J_st (R_assign rfl) rfl (J_done ?_)
  refine S_seq ?_
  refine S_reg [true, false, true] rfl rfl ?_
  refine J_st (R_move rfl) rfl ?_
  refine J_call Tryd.call18 rfl (s_l01New vcode code _ (hcode.ext E)) rfl (fun _ w1 e1 hcu1 => ?_)
  obtain ⟨bc1, rfl, ybc1, hcu1⟩ := hcu1
  have g_bc1 : w.heap.size ≤ bc1 := Nat.le_trans E.size ybc1
  have y_bc1 := CurO.lt hcu1
  replace E := E.trans e1
  have z1 := e1.size
  refine J_st (R_assign rfl) rfl (J_done ?_)
  refine S_seq ?_
  refine S_reg [false, true] rfl rfl ?_
  refine J_buildSlice (vs := []) (css := []) sl24 rfl rfl trivial rfl rfl (fun b1 w2 e2 s1 h1 => ?_)
  replace h1 : Blk w2 b1 [] := h1
  have g_b1 : w.heap.size ≤ b1 := by have := E.size; omega
  have y_b1 := h1.lt
  replace E := E.trans e2; replace hcu1 := hcu1.ext e2
  have z2 := e2.size
  refine J_st (R_assign rfl) rfl (J_done ?_)
  refine S_seq ?_
  refine S_seq ?_
  refine S_reg [true] rfl rfl ?_
  refine J_st (R_assign rfl) rfl (J_done ?_)
  refine S_block ?_
  refine S_loop (fun (xq : Nat × Value × List Int) => let ⟨k, vo, ls⟩ := xq; [(2, .slice none 0 0), (3, .pointer (some ⟨bc1, 0, none⟩)), (4, vo), (5, .int .i64 ((k : Nat) : Int))]) (fun (xq : Nat × Value × List Int) w' => let ⟨k, vo, ls⟩ := xq; Ext w w' ∧ w2.heap.size ≤ w'.heap.size ∧ CurO w' bc1 vcode code ∧ k ≤ 12 ∧ ls.length = k ∧ (∀ y ∈ ls, 0 ≤ y ∧ y < 10000) ∧ Own w' b1 w'.heap.size 1 vo (List.flatMap (Enc.enc (α := Int)) ls)) (fun (xq : Nat × Value × List Int) => let ⟨k, vo, ls⟩ := xq; 12 - k) (0, .slice (some ⟨b1, 0, none⟩) 0 0, []) ⟨rfl, rfl, rfl, rfl, trivial⟩ ⟨E, Nat.le_refl _, hcu1, Nat.zero_le _, rfl, (fun y hy => by cases hy), Own.fin (Own.ofBlk (lo := b1) (hi := b1 + 1) (sz := 1) h1 (Nat.le_refl _) (Nat.lt_succ_self _) (by simp) (by simp [maxLen])) (by omega) (by omega) rfl⟩ ?_
  clear E hcu1 h1
  rintro ⟨k, vo, ls⟩ w3 ⟨E, z3, hcu1, hk, hls, hlr, ho⟩
  refine S_sub [(2, .slice none 0 0), (3, .pointer (some ⟨bc1, 0, none⟩)), (4, vo), (5, .int .i64 ((k : Nat) : Int))] ⟨rfl, rfl, rfl, rfl, trivial⟩ ?_
  refine S_seq ?_
  refine S_seq ?_
  refine S_reg [true, true] rfl rfl ?_
  refine J_st (R_move rfl) rfl (J_st (R_lss rfl rfl) rfl (J_done ?_))
  refine S_cond rfl (fun hc1 => ?_) (fun hc1 => ?_)
  · have hc1n : k < 12 := by first | (have h := of_decide_eq_true hc1; omega) | (have h := hc1; simp at h; omega)
    refine S_skip ?_
    refine S_seq ?_
    refine S_block ?_
    refine S_reg [true, true, false, false, false, true] rfl rfl ?_
    refine J_st (R_move rfl) rfl (J_st (R_move rfl) rfl ?_)
    refine J_callR Tryd.call27 rfl rfl (s_l01Below bc1 vcode code 10000 _ hcu1 (RdD.widen (RdD.ext (RdS.rdD hcode) E) (Nat.le_refl _) (by omega))) rfl (fun _ w4 e3 hv => ?_)
    obtain ⟨dx1, q1, q2, hcu1', hv⟩ := hv
    replace hcu1 := hcu1'
    subst hv
    replace E := E.stepR e3 (by omega); replace ho := ho.modR e3 (by omega)
    have z4 := e3.size
    refine J_buildSlice (vs := [.int .i64 ((dx1 : Nat) : Int)]) (css := [[.int .i64 ((dx1 : Nat) : Int)]]) sl24 rfl rfl ⟨⟨rfl, rfl⟩, trivial⟩ rfl rfl (fun b2 w5 e4 s2 h2 => ?_)
    replace h2 : Blk w5 b2 [.int .i64 ((dx1 : Nat) : Int)] := h2
    have g_b2 : w.heap.size ≤ b2 := by have := E.size; omega
    have y_b2 := h2.lt
    replace E := E.trans e4; replace hcu1 := hcu1.ext e4; replace ho := ho.ext e4
    have z5 := e4.size
    refine J_append sl24 rfl rfl ho (Src.ofBlk h2 rfl) rfl (by simp only [sum_flat, List.length_cons, List.length_nil]; simp only [Enc.sz]; omega) (by decide) (by omega) (by omega) rfl rfl (fun v1 w6 m1 ho1 => ?_)
    replace E := E.step m1 (fun g hg => by have := Own.blk ho g hg; omega); replace hcu1 := hcu1.mod m1 (fun g hg => by have := Own.blk ho g hg; omega)
    have z6 := m1.size
    refine J_st (R_assign rfl) rfl (J_done ?_)
    refine S_nil (E_inB ?_)
    refine S_reg [true, true, true] rfl rfl ?_
    refine J_st (R_move rfl) rfl (J_st (R_add rfl rfl (add_nat (by unfold maxLen; omega))) rfl (J_st (R_assign rfl) rfl (J_done ?_)))
    refine S_nil (E_again (k + 1, v1, (ls ++ [((dx1 : Nat) : Int)])) (by simp; omega) ⟨rfl, rfl, rfl, rfl, trivial⟩ ⟨E, (by omega), hcu1, (by omega), (by simp; omega), (fun y hy => (List.mem_append.1 hy).elim (hlr y) (fun h => by simp at h; subst h; omega)), Own.fin ho1 (by omega) (by omega) (by simp [Enc.enc])⟩)
  · have hc1n : ¬ k < 12 := by first | (have h := of_decide_eq_false hc1; omega) | (have h := hc1; simp at h; omega)
    refine S_exit (E_lp_exit (E_inB_exit ?_))
    refine S_seq ?_
    refine S_reg [true, true] rfl rfl ?_
    refine J_st (R_move rfl) rfl (J_st (R_assign rfl) rfl (J_done ?_))
    refine S_ret (E_done1 rfl rfl E ?_)
    exact ⟨ls, (by omega), (by assumption), Own.fin ho (by have := E.size; omega) (by omega) (by first | (simp [*]; done) | (simp [*]; rfl))⟩

set_option maxRecDepth 20000 in
theorem c_Itoa (n : Int) (w : World) (hr : rg n) (htab : Lib.TabIs Tryd.prog w "internal/strconv.uint64pow10" .u64 Lib.pow10Tab) : Ct Tryd.prog 29 [.int .i64 n] w (fun v _ => v = str (Lib.itoa n)) := by
  exact ct_grow (Any.strconv_Itoa Tryd.laysItoa n hr.1 hr.2 w htab)

set_option maxRecDepth 20000 in
theorem c_Decimal (n : Int) (w : World) (hr : rg n) (htab : Lib.TabIs Tryd.prog w "internal/strconv.uint64pow10" .u64 Lib.pow10Tab) : Ct Tryd.prog 25 [.int .i64 n] w (fun v _ => v = str (Lib.itoa n)) := by
  refine ct_of Tryd.func25 rfl Tryd.ntmps25 rfl ?_
  refine S_sub [(0, .int .i64 n)] ⟨rfl, trivial⟩ ?_
  have E : Ext w w := Ext.refl w
  refine S_seq ?_
  refine S_reg [true] rfl rfl ?_
  refine J_st (R_assign rfl) rfl (J_done ?_)
  refine S_seq ?_
  refine S_reg [true, false, true] rfl rfl ?_
  refine J_st (R_move rfl) rfl ?_
  refine J_call Tryd.call29 rfl (c_Itoa n _ hr (tab_ext htab E)) rfl (fun _ w1 e1 hv => ?_)
  subst hv
  replace E := E.trans e1
  have z1 := e1.size
  refine J_st (R_assign rfl) rfl (J_done ?_)
  refine S_ret (E_done1 rfl rfl E ?_)
  rfl

set_option maxRecDepth 20000 in
theorem s_l01Figure (x : Int) (w : World) (h0 : 0 ≤ x) (h9 : x ≤ 9) : Ct Tryd.prog 30 [.int .i64 x] w (fun v _ => v = .int .u8 (48 + x)) := by
  refine ct_of Tryd.func30 rfl Tryd.ntmps30 rfl ?_
  refine S_sub [(0, .int .i64 x)] ⟨rfl, trivial⟩ ?_
  have E : Ext w w := Ext.refl w
  refine S_seq ?_
  refine S_reg [true] rfl rfl ?_
  refine J_st (R_assign rfl) rfl (J_done ?_)
  refine S_seq ?_
  refine S_seq ?_
  refine S_reg [true, true] rfl rfl ?_
  refine J_st (R_move rfl) rfl (J_st (R_lss rfl rfl) rfl (J_done ?_))
  refine S_cond rfl (fun hc1 => ?_) (fun hc1 => ?_)
  · refine S_seq ?_
    refine S_reg [true, true, true, true] rfl rfl ?_
    refine J_st (R_move rfl) rfl (J_st (R_add rfl rfl rfl) rfl (J_st (R_conv Tryd.underlying3 Tryd.underlying5 rfl) rfl (J_st (R_assign rfl) rfl (J_done ?_))))
    refine S_ret (E_done1 rfl rfl E ?_)
    rw [fig_u8 h0 h9]
  · refine S_skip ?_
    refine S_seq ?_
    refine S_reg [true, true, true, true, true] rfl rfl ?_
    refine J_st (R_move rfl) rfl (J_st (R_add rfl rfl rfl) rfl (J_st (R_sub rfl rfl rfl) rfl (J_st (R_conv Tryd.underlying3 Tryd.underlying5 rfl) rfl (J_st (R_assign rfl) rfl (J_done ?_)))))
    refine S_ret (E_done1 rfl rfl E ?_)
    exact absurd (of_decide_eq_false hc1) (by omega)

set_option maxRecDepth 20000 in
theorem s_Decimal (n : Int) (w : World) (hr : rg n) : Ct Tryd.prog 26 [.int .i64 n] w (fun v _ => v = str (Lib.itoa n)) := by
  refine ct_of Tryd.func26 rfl Tryd.ntmps26 rfl ?_
  refine S_sub [(0, .int .i64 n)] ⟨rfl, trivial⟩ ?_
  have E : Ext w w := Ext.refl w
  refine S_seq ?_
  refine S_reg [true] rfl rfl ?_
  refine J_st (R_assign rfl) rfl (J_done ?_)
  refine S_seq ?_
  refine S_seq ?_
  refine S_reg [true, true] rfl rfl ?_
  refine J_st (R_move rfl) rfl (J_st (R_eql rfl rfl) rfl (J_done ?_))
  refine S_cond rfl (fun hc1 => ?_) (fun hc1 => ?_)
  · refine S_seq ?_
    refine S_reg [true] rfl rfl ?_
    refine J_st (R_assign rfl) rfl (J_done ?_)
    refine S_ret (E_done1 rfl rfl E ?_)
    rw [eq_of_beq hc1, itoa_zero]
  · refine S_skip ?_
    refine S_seq ?_
    refine S_reg [true, true, true] rfl rfl ?_
    refine J_st (R_move rfl) rfl (J_st (R_lss rfl rfl) rfl (J_st (R_assign rfl) rfl (J_done ?_)))
    refine S_seq ?_
    refine S_reg [true] rfl rfl ?_
    refine J_st (R_assign rfl) rfl (J_done ?_)
    refine S_seq ?_
    refine S_block ?_
    refine S_loop (fun (xq : Int × List UInt8) => let ⟨cur, ss⟩ := xq; [(0, .int .i64 cur), (2, str []), (3, .bool (decide (n < 0))), (4, str ss)]) (fun (xq : Int × List UInt8) w' => let ⟨cur, ss⟩ := xq; Ext w w' ∧ w.heap.size ≤ w'.heap.size ∧ rg cur ∧ decT cur ss = decT n []) (fun (xq : Int × List UInt8) => let ⟨cur, ss⟩ := xq; cur.natAbs) (n, []) ⟨rfl, rfl, rfl, rfl, trivial⟩ ⟨E, Nat.le_refl _, hr, rfl⟩ ?_
    clear E
    rintro ⟨cur, ss⟩ w1 ⟨E, z1, hcr, hI⟩
    refine S_sub [(0, .int .i64 cur), (2, str []), (3, .bool (decide (n < 0))), (4, str ss)] ⟨rfl, rfl, rfl, rfl, trivial⟩ ?_
    refine S_seq ?_
    refine S_seq ?_
    refine S_reg [true, true] rfl rfl ?_
    refine J_st (R_move rfl) rfl (J_st (R_neq rfl rfl) rfl (J_done ?_))
    refine S_cond rfl (fun hc2 => ?_) (fun hc2 => ?_)
    · refine S_skip ?_
      refine S_block ?_
      refine S_seq ?_
      refine S_reg [true, true, true] rfl rfl ?_
      refine J_st (R_move rfl) rfl (J_st (R_rem rfl rfl (by decide) rfl) rfl (J_st (R_assign rfl) rfl (J_done ?_)))
      refine S_seq ?_
      refine S_seq ?_
      refine S_reg [true, true] rfl rfl ?_
      refine J_st (R_move rfl) rfl (J_st (R_lss rfl rfl) rfl (J_done ?_))
      refine S_cond rfl (fun hc3 => ?_) (fun hc3 => ?_)
      · refine S_reg [true, true, true] rfl rfl ?_
        refine J_st (R_move rfl) rfl (J_st (R_neg rfl) rfl (J_st (R_assign rfl) rfl (J_done ?_)))
        refine S_seq ?_
        refine S_reg [true, false, false, true, true, true, true] rfl rfl ?_
        refine J_st (R_move rfl) rfl ?_
        refine J_call Tryd.call30 rfl (s_l01Figure (IntKind.i64.wrap (0 - (Int.tmod cur 10))) _ (dig_neg hc3).1.1 (dig_neg hc3).1.2) rfl (fun _ w2 e1 hv => ?_)
        subst hv
        replace E := E.trans e1
        have z2 := e1.size
        refine J_buildSlice (vs := [.int .u8 (48 + (IntKind.i64.wrap (0 - (Int.tmod cur 10))))]) (css := [[.int .u8 (48 + (IntKind.i64.wrap (0 - (Int.tmod cur 10))))]]) sl22 rfl rfl ⟨⟨rfl, rfl⟩, trivial⟩ rfl rfl (fun b1 w3 e2 s1 h1 => ?_)
        replace h1 : Blk w3 b1 [.int .u8 (48 + (IntKind.i64.wrap (0 - (Int.tmod cur 10))))] := h1
        have g_b1 : w.heap.size ≤ b1 := by have := E.size; omega
        have y_b1 := h1.lt
        replace E := E.trans e2
        have z3 := e2.size
        refine J_st (R_conv1 Tryd.underlying22 Tryd.underlying5 Tryd.underlying9 rfl h1 (by have := (dig_neg hc3).1; omega) (by have := (dig_neg hc3).1; omega)) rfl (J_st (R_move rfl) rfl (J_st (R_sadd rfl rfl (by have := dec_len hr hI; simp only [List.length_cons, List.length_nil, maxLen]; omega)) rfl (J_st (R_assign rfl) rfl (J_done ?_))))
        refine S_reg [true, true, true] rfl rfl ?_
        refine J_st (R_move rfl) rfl (J_st (R_quo rfl rfl (by decide) rfl) rfl (J_st (R_assign rfl) rfl (J_done ?_)))
        refine S_nil (E_inB ?_)
        refine S_nil (E_again (IntKind.i64.wrap (Int.tdiv cur 10), [UInt8.ofNat (Int.toNat (48 + (IntKind.i64.wrap (0 - (Int.tmod cur 10)))))] ++ ss) (dec_next hcr hc2 hI (dig_neg hc3).2).2.2 ⟨rfl, rfl, rfl, rfl, trivial⟩ ⟨E, (by omega), (dec_next hcr hc2 hI (dig_neg hc3).2).1, (dec_next hcr hc2 hI (dig_neg hc3).2).2.1⟩)
      · refine S_skip ?_
        refine S_seq ?_
        refine S_reg [true, false, false, true, true, true, true] rfl rfl ?_
        refine J_st (R_move rfl) rfl ?_
        refine J_call Tryd.call30 rfl (s_l01Figure (Int.tmod cur 10) _ (dig_pos hc3).1.1 (dig_pos hc3).1.2) rfl (fun _ w4 e3 hv => ?_)
        subst hv
        replace E := E.trans e3
        have z4 := e3.size
        refine J_buildSlice (vs := [.int .u8 (48 + (Int.tmod cur 10))]) (css := [[.int .u8 (48 + (Int.tmod cur 10))]]) sl22 rfl rfl ⟨⟨rfl, rfl⟩, trivial⟩ rfl rfl (fun b2 w5 e4 s2 h2 => ?_)
        replace h2 : Blk w5 b2 [.int .u8 (48 + (Int.tmod cur 10))] := h2
        have g_b2 : w.heap.size ≤ b2 := by have := E.size; omega
        have y_b2 := h2.lt
        replace E := E.trans e4
        have z5 := e4.size
        refine J_st (R_conv1 Tryd.underlying22 Tryd.underlying5 Tryd.underlying9 rfl h2 (by have := (dig_pos hc3).1; omega) (by have := (dig_pos hc3).1; omega)) rfl (J_st (R_move rfl) rfl (J_st (R_sadd rfl rfl (by have := dec_len hr hI; simp only [List.length_cons, List.length_nil, maxLen]; omega)) rfl (J_st (R_assign rfl) rfl (J_done ?_))))
        refine S_reg [true, true, true] rfl rfl ?_
        refine J_st (R_move rfl) rfl (J_st (R_quo rfl rfl (by decide) rfl) rfl (J_st (R_assign rfl) rfl (J_done ?_)))
        refine S_nil (E_inB ?_)
        refine S_nil (E_again (IntKind.i64.wrap (Int.tdiv cur 10), [UInt8.ofNat (Int.toNat (48 + (Int.tmod cur 10)))] ++ ss) (dec_next hcr hc2 hI (dig_pos hc3).2).2.2 ⟨rfl, rfl, rfl, rfl, trivial⟩ ⟨E, (by omega), (dec_next hcr hc2 hI (dig_pos hc3).2).1, (dec_next hcr hc2 hI (dig_pos hc3).2).2.1⟩)
    · refine S_exit (E_lp_exit (E_inB_exit ?_))
      refine S_seq ?_
      refine S_seq ?_
      refine S_reg [true] rfl rfl ?_
      refine J_st (R_move rfl) rfl (J_done ?_)
      refine S_cond rfl (fun hc4 => ?_) (fun hc4 => ?_)
      · refine S_seq ?_
        refine S_reg [true, true, true] rfl rfl ?_
        refine J_st (R_move rfl) rfl (J_st (R_sadd rfl rfl (by have := dec_len hr hI; simp only [List.length_cons, List.length_nil, maxLen]; omega)) rfl (J_st (R_assign rfl) rfl (J_done ?_)))
        refine S_ret (E_done1 rfl rfl E ?_)
        exact dec_finN hc1 hc2 hI (by assumption)
      · refine S_skip ?_
        refine S_seq ?_
        refine S_reg [true, true] rfl rfl ?_
        refine J_st (R_move rfl) rfl (J_st (R_assign rfl) rfl (J_done ?_))
        refine S_ret (E_done1 rfl rfl E ?_)
        exact dec_fin hc1 hc2 hI (by assumption)

set_option maxRecDepth 20000 in
theorem c_KindName (kind : Int) (w : World)  : Ct Tryd.prog 13 [.int .i64 kind] w (fun v _ => v = str (kindName kind)) := by
  refine ct_of Tryd.func13 rfl Tryd.ntmps13 rfl ?_
  refine S_sub [(0, .int .i64 kind)] ⟨rfl, trivial⟩ ?_
  have E : Ext w w := Ext.refl w
  refine S_seq ?_
  refine S_reg [true] rfl rfl ?_
  refine J_st (R_assign rfl) rfl (J_done ?_)
  refine S_seq ?_
  refine S_reg [false, true] rfl rfl ?_
  refine J_buildSlice (vs := [str [105, 110], str [97, 100, 100], str [107, 101, 101, 112], str [109, 111, 118, 101], str [109, 105, 110], str [110, 101, 119], str [98, 97, 99, 107], str [111, 117, 116]]) (css := [[str [105, 110]], [str [97, 100, 100]], [str [107, 101, 101, 112]], [str [109, 111, 118, 101]], [str [109, 105, 110]], [str [110, 101, 119]], [str [98, 97, 99, 107]], [str [111, 117, 116]]]) sl45 rfl rfl ⟨⟨rfl, rfl⟩, ⟨rfl, rfl⟩, ⟨rfl, rfl⟩, ⟨rfl, rfl⟩, ⟨rfl, rfl⟩, ⟨rfl, rfl⟩, ⟨rfl, rfl⟩, ⟨rfl, rfl⟩, trivial⟩ rfl rfl (fun b1 w1 e1 s1 h1 => ?_)
  replace h1 : Blk w1 b1 [str [105, 110], str [97, 100, 100], str [107, 101, 101, 112], str [109, 111, 118, 101], str [109, 105, 110], str [110, 101, 119], str [98, 97, 99, 107], str [111, 117, 116]] := h1
  have g_b1 : w.heap.size ≤ b1 := by have := E.size; omega
  have y_b1 := h1.lt
  replace E := E.trans e1
  have z1 := e1.size
  refine J_st (R_assign rfl) rfl (J_done ?_)
  refine S_seq ?_
  refine S_seq ?_
  refine S_reg [true, false, true] rfl rfl ?_
  refine J_st (R_move rfl) rfl ?_
  refine J_call Tryd.call24 rfl (c_within kind 1 8 _ ) rfl (fun _ w2 e2 hv => ?_)
  subst hv
  replace E := E.trans e2; replace h1 := h1.ext e2
  have z2 := e2.size
  refine J_st (R_not rfl) rfl (J_done ?_)
  refine S_cond rfl (fun hc1 => ?_) (fun hc1 => ?_)
  · refine S_seq ?_
    refine S_reg [true] rfl rfl ?_
    refine J_st (R_assign rfl) rfl (J_done ?_)
    refine S_ret (E_done1 rfl rfl E ?_)
    exact kn_no hc1
  · have hkr := kn_rg hc1
    refine S_skip ?_
    refine S_seq ?_
    refine S_reg [true, true, true, true, true, true] rfl rfl ?_
    refine J_st (R_move rfl) rfl (J_st (R_move rfl) rfl (J_st (R_sub rfl rfl (wrap_in (by omega) (by omega))) rfl ?_))
    have hi1 : (Int.toNat (kind - 1)) < [(⟨[105, 110]⟩ : Str), (⟨[97, 100, 100]⟩ : Str), (⟨[107, 101, 101, 112]⟩ : Str), (⟨[109, 111, 118, 101]⟩ : Str), (⟨[109, 105, 110]⟩ : Str), (⟨[110, 101, 119]⟩ : Str), (⟨[98, 97, 99, 107]⟩ : Str), (⟨[111, 117, 116]⟩ : Str)].length := (by first | assumption | omega | (simp only [List.length_set]; first | assumption | omega) | (simp only [List.getElem_set_self, List.length_set]; first | assumption | omega) | (simp only [setW, setLk, List.length_set]; first | assumption | omega) | (simp; done) | (simp only [List.length_cons, List.length_nil]; omega))
    refine J_st (R_indexZ (i := (Int.toNat (kind - 1))) sl45 rfl rfl (Blk.rd (α := Str) (xs := [(⟨[105, 110]⟩ : Str), (⟨[97, 100, 100]⟩ : Str), (⟨[107, 101, 101, 112]⟩ : Str), (⟨[109, 111, 118, 101]⟩ : Str), (⟨[109, 105, 110]⟩ : Str), (⟨[110, 101, 119]⟩ : Str), (⟨[98, 97, 99, 107]⟩ : Str), (⟨[111, 117, 116]⟩ : Str)]) (by decide) h1 rfl (by simp [maxLen])) (by omega) hi1) rfl (J_st (R_load sc9 rfl (((Blk.rd (α := Str) (xs := [(⟨[105, 110]⟩ : Str), (⟨[97, 100, 100]⟩ : Str), (⟨[107, 101, 101, 112]⟩ : Str), (⟨[109, 111, 118, 101]⟩ : Str), (⟨[109, 105, 110]⟩ : Str), (⟨[110, 101, 119]⟩ : Str), (⟨[98, 97, 99, 107]⟩ : Str), (⟨[111, 117, 116]⟩ : Str)]) (by decide) h1 rfl (by simp [maxLen])).get hi1).one 0 rfl)) rfl (J_st (R_assign rfl) rfl (J_done ?_)))
    refine S_ret (E_done1 rfl rfl E ?_)
    exact kn_impl hkr

set_option maxRecDepth 20000 in
theorem s_KindName (kind : Int) (w : World)  : Ct Tryd.prog 14 [.int .i64 kind] w (fun v _ => v = str (kindName kind)) := by
  refine ct_of Tryd.func14 rfl Tryd.ntmps14 rfl ?_
  refine S_sub [(0, .int .i64 kind)] ⟨rfl, trivial⟩ ?_
  have E : Ext w w := Ext.refl w
  refine S_seq ?_
  refine S_reg [true] rfl rfl ?_
  refine J_st (R_assign rfl) rfl (J_done ?_)
  refine S_seq ?_
  refine S_seq ?_
  refine S_reg [true, false, true] rfl rfl ?_
  refine J_st (R_move rfl) rfl ?_
  refine J_call Tryd.call22 rfl (s_l01In kind 1 8 _ ) rfl (fun _ w1 e1 hv => ?_)
  subst hv
  replace E := E.trans e1
  have z1 := e1.size
  refine J_st (R_not rfl) rfl (J_done ?_)
  refine S_cond rfl (fun hc1 => ?_) (fun hc1 => ?_)
  · refine S_seq ?_
    refine S_reg [true] rfl rfl ?_
    refine J_st (R_assign rfl) rfl (J_done ?_)
    refine S_ret (E_done1 rfl rfl E ?_)
    exact kn_no hc1
  · have hkr := kn_rg hc1
    refine S_skip ?_
    refine S_seq ?_
    refine S_reg [false, true, true, true, true] rfl rfl ?_
    refine J_buildSlice (vs := [str [], str [105, 110], str [97, 100, 100], str [107, 101, 101, 112], str [109, 111, 118, 101], str [109, 105, 110], str [110, 101, 119], str [98, 97, 99, 107], str [111, 117, 116]]) (css := [[str []], [str [105, 110]], [str [97, 100, 100]], [str [107, 101, 101, 112]], [str [109, 111, 118, 101]], [str [109, 105, 110]], [str [110, 101, 119]], [str [98, 97, 99, 107]], [str [111, 117, 116]]]) sl45 rfl rfl ⟨⟨rfl, rfl⟩, ⟨rfl, rfl⟩, ⟨rfl, rfl⟩, ⟨rfl, rfl⟩, ⟨rfl, rfl⟩, ⟨rfl, rfl⟩, ⟨rfl, rfl⟩, ⟨rfl, rfl⟩, ⟨rfl, rfl⟩, trivial⟩ rfl rfl (fun b1 w2 e2 s1 h1 => ?_)
    replace h1 : Blk w2 b1 [str [], str [105, 110], str [97, 100, 100], str [107, 101, 101, 112], str [109, 111, 118, 101], str [109, 105, 110], str [110, 101, 119], str [98, 97, 99, 107], str [111, 117, 116]] := h1
    have g_b1 : w.heap.size ≤ b1 := by have := E.size; omega
    have y_b1 := h1.lt
    replace E := E.trans e2
    have z2 := e2.size
    refine J_st (R_move rfl) rfl ?_
    have hi1 : (Int.toNat kind) < [(⟨[]⟩ : Str), (⟨[105, 110]⟩ : Str), (⟨[97, 100, 100]⟩ : Str), (⟨[107, 101, 101, 112]⟩ : Str), (⟨[109, 111, 118, 101]⟩ : Str), (⟨[109, 105, 110]⟩ : Str), (⟨[110, 101, 119]⟩ : Str), (⟨[98, 97, 99, 107]⟩ : Str), (⟨[111, 117, 116]⟩ : Str)].length := (by first | assumption | omega | (simp only [List.length_set]; first | assumption | omega) | (simp only [List.getElem_set_self, List.length_set]; first | assumption | omega) | (simp only [setW, setLk, List.length_set]; first | assumption | omega) | (simp; done) | (simp only [List.length_cons, List.length_nil]; omega))
    refine J_st (R_indexZ (i := (Int.toNat kind)) sl45 rfl rfl (Blk.rd (α := Str) (xs := [(⟨[]⟩ : Str), (⟨[105, 110]⟩ : Str), (⟨[97, 100, 100]⟩ : Str), (⟨[107, 101, 101, 112]⟩ : Str), (⟨[109, 111, 118, 101]⟩ : Str), (⟨[109, 105, 110]⟩ : Str), (⟨[110, 101, 119]⟩ : Str), (⟨[98, 97, 99, 107]⟩ : Str), (⟨[111, 117, 116]⟩ : Str)]) (by decide) h1 rfl (by simp [maxLen])) (by omega) hi1) rfl (J_st (R_load sc9 rfl (((Blk.rd (α := Str) (xs := [(⟨[]⟩ : Str), (⟨[105, 110]⟩ : Str), (⟨[97, 100, 100]⟩ : Str), (⟨[107, 101, 101, 112]⟩ : Str), (⟨[109, 111, 118, 101]⟩ : Str), (⟨[109, 105, 110]⟩ : Str), (⟨[110, 101, 119]⟩ : Str), (⟨[98, 97, 99, 107]⟩ : Str), (⟨[111, 117, 116]⟩ : Str)]) (by decide) h1 rfl (by simp [maxLen])).get hi1).one 0 rfl)) rfl (J_st (R_assign rfl) rfl (J_done ?_)))
    refine S_ret (E_done1 rfl rfl E ?_)
    exact kn_spec hkr

set_option maxRecDepth 20000 in
theorem c_NodeText (cx : List Value) (x : Node) (w : World) (hx : Dat.R w 0 w.heap.size cx x) (hb : x.outs.length ≤ 1048576) (hrn : rgN x) (htab : Lib.TabIs Tryd.prog w "internal/strconv.uint64pow10" .u64 Lib.pow10Tab) : Ct Tryd.prog 10 [.agg cx.toArray] w (fun v _ => v = str (nodeText x x.outs.length)) := by
  have hh := nt_hlen hrn
  refine ct_of Tryd.func10 rfl Tryd.ntmps10 rfl ?_
  obtain ⟨o1, rfl, hd1⟩ := Node.op hx
  refine S_sub [(0, .agg [.int .i64 x.kind, .int .i64 x.a, .int .i64 x.b, o1].toArray)] ⟨rfl, trivial⟩ ?_
  have E : Ext w w := Ext.refl w
  refine S_seq ?_
  refine S_reg [false, true] rfl rfl ?_
  refine J_box rfl rfl (fun b1 w1 e1 s1 h1 => ?_)
  have g_b1 : w.heap.size ≤ b1 := by have := E.size; omega
  have y_b1 := h1.lt
  replace E := E.trans e1
  have z1 := e1.size
  refine J_st (R_assign rfl) rfl (J_done ?_)
  refine S_seq ?_
  refine S_regD mixed [(0, true), (1, true), (4, true), (5, true), (9, true), (10, true), (2, false), (3, true), (6, false), (7, true), (8, true), (11, false), (12, true), (13, true)] (by decide +kernel) rfl (fun w2 e2 => ?_)
  replace E := E.trans e2; replace h1 := h1.ext e2
  have z2 := e2.size
  refine J_st (R_fieldAddr0 fl26_0 rfl) rfl (J_st (R_load sc3 rfl (h1.one 0 rfl)) rfl (J_st (R_fieldAddr0 fl26_1 rfl) rfl (J_st (R_load sc3 rfl (h1.one 1 rfl)) rfl (J_st (R_fieldAddr0 fl26_2 rfl) rfl (J_st (R_load sc3 rfl (h1.one 2 rfl)) rfl ?_)))))
  refine J_call Tryd.call13 rfl (c_KindName x.kind _ ) rfl (fun _ w3 e3 hv => ?_)
  subst hv
  replace E := E.trans e3; replace h1 := h1.ext e3
  have z3 := e3.size
  refine J_st (R_sadd rfl rfl (by simp only [List.length_append, List.length_cons, List.length_nil, maxLen]; omega)) rfl ?_
  refine J_call Tryd.call25 rfl (c_Decimal x.a _ (rgN_a hrn) (tab_ext htab E)) rfl (fun _ w4 e4 hv => ?_)
  subst hv
  replace E := E.trans e4; replace h1 := h1.ext e4
  have z4 := e4.size
  refine J_st (R_sadd rfl rfl (by simp only [List.length_append, List.length_cons, List.length_nil, maxLen]; omega)) rfl (J_st (R_sadd rfl rfl (by simp only [List.length_append, List.length_cons, List.length_nil, maxLen]; omega)) rfl ?_)
  refine J_call Tryd.call25 rfl (c_Decimal x.b _ (rgN_b hrn) (tab_ext htab E)) rfl (fun _ w5 e5 hv => ?_)
  subst hv
  replace E := E.trans e5; replace h1 := h1.ext e5
  have z5 := e5.size
  refine J_st (R_sadd rfl rfl (by simp only [List.length_append, List.length_cons, List.length_nil, maxLen]; omega)) rfl (J_st (R_assign rfl) rfl (J_done ?_))
  refine S_seq ?_
  refine S_seq ?_
  refine S_reg [true, true, true, true] rfl rfl ?_
  refine J_st (R_fieldAddr0 fl26_3 rfl) rfl (J_st (R_load sc24 rfl (h1.one 3 rfl)) rfl (J_st (R_len Tryd.underlying24 rfl (hd1.ext E).len) rfl (J_st (R_move rfl) rfl (J_done ?_))))
  refine S_block ?_
  refine S_loop (fun (xq : Nat × List UInt8) => let ⟨k, ss⟩ := xq; [(2, str []), (3, str ss), (20, o1), (21, .int .i64 ((x.outs.length : Nat) : Int)), (22, .int .i64 ((k : Nat) : Int))]) (fun (xq : Nat × List UInt8) w' => let ⟨k, ss⟩ := xq; Ext w w' ∧ w5.heap.size ≤ w'.heap.size ∧ Blk w' b1 ([.int .i64 x.kind, .int .i64 x.a, .int .i64 x.b, o1]) ∧ k ≤ x.outs.length ∧ ss = nodeText x k) (fun (xq : Nat × List UInt8) => let ⟨k, ss⟩ := xq; x.outs.length - k) (0, ((((kindName x.kind) ++ [32]) ++ (Lib.itoa x.a)) ++ [32]) ++ (Lib.itoa x.b)) ⟨rfl, rfl, rfl, rfl, rfl, trivial⟩ ⟨E, Nat.le_refl _, h1, Nat.zero_le _, (nt_zero x)⟩ ?_
  clear E h1
  rintro ⟨k, ss⟩ w6 ⟨E, z6, h1, hk, hs⟩
  refine S_sub [(2, str []), (3, str ss), (20, o1), (21, .int .i64 ((x.outs.length : Nat) : Int)), (22, .int .i64 ((k : Nat) : Int))] ⟨rfl, rfl, rfl, rfl, rfl, trivial⟩ ?_
  have hnl : ss.length ≤ 100 + 22 * k := by rw [hs]; exact nt_len hrn hk
  refine S_seq ?_
  refine S_reg [true] rfl rfl ?_
  refine J_st (R_lss rfl rfl) rfl (J_done ?_)
  refine S_seq ?_
  refine S_cond rfl (fun hc1 => ?_) (fun hc1 => ?_)
  · have hc1n : k < x.outs.length := by first | (have h := of_decide_eq_true hc1; omega) | (have h := hc1; simp at h; omega)
    refine S_skip ?_
    refine S_seq ?_
    refine S_block ?_
    refine S_seq ?_
    refine S_reg [true, true, true] rfl rfl ?_
    have hi1 : k < x.outs.length := (by first | assumption | omega | (simp only [List.length_set]; first | assumption | omega) | (simp only [List.getElem_set_self, List.length_set]; first | assumption | omega) | (simp only [setW, setLk, List.length_set]; first | assumption | omega) | (simp; done) | (simp only [List.length_cons, List.length_nil]; omega))
    refine J_st (R_index (i := k) sl24 rfl rfl (hd1.rd.ext E) hi1) rfl (J_st (R_load sc3 rfl (((hd1.rd.ext E).get hi1).one 0 rfl)) rfl (J_st (R_assign rfl) rfl (J_done ?_)))
    refine S_reg [true, true, false, true, true, true] rfl rfl ?_
    refine J_st (R_move rfl) rfl (J_st (R_move rfl) rfl ?_)
    refine J_call Tryd.call25 rfl (c_Decimal (x.outs[k]'hi1) _ (hrn.2.2 _ (List.getElem_mem hi1)) (tab_ext htab E)) rfl (fun _ w7 e6 hv => ?_)
    subst hv
    replace E := E.trans e6; replace h1 := h1.ext e6
    have z7 := e6.size
    refine J_st (R_sadd rfl rfl (by simp only [List.length_append, List.length_cons, List.length_nil, maxLen]; have := itoa_len (hrn.2.2 _ (List.getElem_mem hi1)); omega)) rfl (J_st (R_sadd rfl rfl (by simp only [List.length_append, List.length_cons, List.length_nil, maxLen]; have := itoa_len (hrn.2.2 _ (List.getElem_mem hi1)); omega)) rfl (J_st (R_assign rfl) rfl (J_done ?_)))
    refine S_nil (E_inB ?_)
    refine S_reg [true, true] rfl rfl ?_
    refine J_st (R_add rfl rfl (add_nat (by unfold maxLen; omega))) rfl (J_st (R_move rfl) rfl (J_done ?_))
    refine S_nil (E_again (k + 1, ss ++ ([32] ++ (Lib.itoa (x.outs[k]'hi1)))) (by simp; omega) ⟨rfl, rfl, rfl, rfl, rfl, trivial⟩ ⟨E, (by omega), h1, (by omega), nt_step hs (by assumption)⟩)
  · have hc1n : ¬ k < x.outs.length := by first | (have h := of_decide_eq_false hc1; omega) | (have h := hc1; simp at h; omega)
    refine S_exit (E_lp_exit (E_inB_exit ?_))
    refine S_seq ?_
    refine S_reg [true, true] rfl rfl ?_
    refine J_st (R_move rfl) rfl (J_st (R_assign rfl) rfl (J_done ?_))
    refine S_ret (E_done1 rfl rfl E ?_)
    exact nt_all hs (by omega)

set_option maxRecDepth 20000 in
theorem s_NodeText (cx : List Value) (x : Node) (w : World) (hx : Dat.R w 0 w.heap.size cx x) (hb : x.outs.length ≤ 1048576) (hrn : rgN x) : Ct Tryd.prog 11 [.agg cx.toArray] w (fun v _ => v = str (nodeText x x.outs.length)) := by
  have hh := nt_hlen hrn
  refine ct_of Tryd.func11 rfl Tryd.ntmps11 rfl ?_
  obtain ⟨o1, rfl, hd1⟩ := Node.op hx
  refine S_sub [(0, .agg [.int .i64 x.kind, .int .i64 x.a, .int .i64 x.b, o1].toArray)] ⟨rfl, trivial⟩ ?_
  have E : Ext w w := Ext.refl w
  refine S_seq ?_
  refine S_reg [false, true] rfl rfl ?_
  refine J_box rfl rfl (fun b1 w1 e1 s1 h1 => ?_)
  have g_b1 : w.heap.size ≤ b1 := by have := E.size; omega
  have y_b1 := h1.lt
  replace E := E.trans e1
  have z1 := e1.size
  refine J_st (R_assign rfl) rfl (J_done ?_)
  refine S_seq ?_
  refine S_regD mixed [(0, true), (1, true), (4, true), (5, true), (9, true), (10, true), (2, false), (3, true), (6, false), (7, true), (8, true), (11, false), (12, true), (13, true)] (by decide +kernel) rfl (fun w2 e2 => ?_)
  replace E := E.trans e2; replace h1 := h1.ext e2
  have z2 := e2.size
  refine J_st (R_fieldAddr0 fl26_0 rfl) rfl (J_st (R_load sc3 rfl (h1.one 0 rfl)) rfl (J_st (R_fieldAddr0 fl26_1 rfl) rfl (J_st (R_load sc3 rfl (h1.one 1 rfl)) rfl (J_st (R_fieldAddr0 fl26_2 rfl) rfl (J_st (R_load sc3 rfl (h1.one 2 rfl)) rfl ?_)))))
  refine J_call Tryd.call14 rfl (s_KindName x.kind _ ) rfl (fun _ w3 e3 hv => ?_)
  subst hv
  replace E := E.trans e3; replace h1 := h1.ext e3
  have z3 := e3.size
  refine J_st (R_sadd rfl rfl (by simp only [List.length_append, List.length_cons, List.length_nil, maxLen]; omega)) rfl ?_
  refine J_call Tryd.call26 rfl (s_Decimal x.a _ (rgN_a hrn)) rfl (fun _ w4 e4 hv => ?_)
  subst hv
  replace E := E.trans e4; replace h1 := h1.ext e4
  have z4 := e4.size
  refine J_st (R_sadd rfl rfl (by simp only [List.length_append, List.length_cons, List.length_nil, maxLen]; omega)) rfl (J_st (R_sadd rfl rfl (by simp only [List.length_append, List.length_cons, List.length_nil, maxLen]; omega)) rfl ?_)
  refine J_call Tryd.call26 rfl (s_Decimal x.b _ (rgN_b hrn)) rfl (fun _ w5 e5 hv => ?_)
  subst hv
  replace E := E.trans e5; replace h1 := h1.ext e5
  have z5 := e5.size
  refine J_st (R_sadd rfl rfl (by simp only [List.length_append, List.length_cons, List.length_nil, maxLen]; omega)) rfl (J_st (R_assign rfl) rfl (J_done ?_))
  refine S_seq ?_
  refine S_seq ?_
  refine S_reg [true] rfl rfl ?_
  refine J_st (R_assign rfl) rfl (J_done ?_)
  refine S_block ?_
  refine S_loop (fun (xq : Nat × List UInt8) => let ⟨k, ss⟩ := xq; [(1, .pointer (some ⟨b1, 0, none⟩)), (2, str []), (3, str ss), (4, .int .i64 ((k : Nat) : Int))]) (fun (xq : Nat × List UInt8) w' => let ⟨k, ss⟩ := xq; Ext w w' ∧ w5.heap.size ≤ w'.heap.size ∧ Blk w' b1 ([.int .i64 x.kind, .int .i64 x.a, .int .i64 x.b, o1]) ∧ k ≤ x.outs.length ∧ ss = nodeText x k) (fun (xq : Nat × List UInt8) => let ⟨k, ss⟩ := xq; x.outs.length - k) (0, ((((kindName x.kind) ++ [32]) ++ (Lib.itoa x.a)) ++ [32]) ++ (Lib.itoa x.b)) ⟨rfl, rfl, rfl, rfl, trivial⟩ ⟨E, Nat.le_refl _, h1, Nat.zero_le _, (nt_zero x)⟩ ?_
  clear E h1
  rintro ⟨k, ss⟩ w6 ⟨E, z6, h1, hk, hs⟩
  refine S_sub [(1, .pointer (some ⟨b1, 0, none⟩)), (2, str []), (3, str ss), (4, .int .i64 ((k : Nat) : Int))] ⟨rfl, rfl, rfl, rfl, trivial⟩ ?_
  have hnl : ss.length ≤ 100 + 22 * k := by rw [hs]; exact nt_len hrn hk
  refine S_seq ?_
  refine S_seq ?_
  refine S_reg [true, true, true, true, true] rfl rfl ?_
  refine J_st (R_move rfl) rfl (J_st (R_fieldAddr0 fl26_3 rfl) rfl (J_st (R_load sc24 rfl (h1.one 3 rfl)) rfl (J_st (R_len Tryd.underlying24 rfl (hd1.ext E).len) rfl (J_st (R_lss rfl rfl) rfl (J_done ?_)))))
  refine S_cond rfl (fun hc1 => ?_) (fun hc1 => ?_)
  · have hc1n : k < x.outs.length := by first | (have h := of_decide_eq_true hc1; omega) | (have h := hc1; simp at h; omega)
    refine S_skip ?_
    refine S_seq ?_
    refine S_block ?_
    refine S_reg [true, true, true, true, true, true, true, false, true, true] rfl rfl ?_
    refine J_st (R_move rfl) rfl (J_st (R_sadd rfl rfl (by simp only [List.length_append, List.length_cons, List.length_nil, maxLen]; omega)) rfl (J_st (R_fieldAddr0 fl26_3 rfl) rfl (J_st (R_load sc24 rfl (h1.one 3 rfl)) rfl (J_st (R_move rfl) rfl ?_))))
    have hi1 : k < x.outs.length := (by first | assumption | omega | (simp only [List.length_set]; first | assumption | omega) | (simp only [List.getElem_set_self, List.length_set]; first | assumption | omega) | (simp only [setW, setLk, List.length_set]; first | assumption | omega) | (simp; done) | (simp only [List.length_cons, List.length_nil]; omega))
    refine J_st (R_index (i := k) sl24 rfl rfl (hd1.rd.ext E) hi1) rfl (J_st (R_load sc3 rfl (((hd1.rd.ext E).get hi1).one 0 rfl)) rfl ?_)
    refine J_call Tryd.call26 rfl (s_Decimal (x.outs[k]'hi1) _ (hrn.2.2 _ (List.getElem_mem hi1))) rfl (fun _ w7 e6 hv => ?_)
    subst hv
    replace E := E.trans e6; replace h1 := h1.ext e6
    have z7 := e6.size
    refine J_st (R_sadd rfl rfl (by simp only [List.length_append, List.length_cons, List.length_nil, maxLen]; have := itoa_len (hrn.2.2 _ (List.getElem_mem hi1)); omega)) rfl (J_st (R_assign rfl) rfl (J_done ?_))
    refine S_nil (E_inB ?_)
    refine S_reg [true, true, true] rfl rfl ?_
    refine J_st (R_move rfl) rfl (J_st (R_add rfl rfl (add_nat (by unfold maxLen; omega))) rfl (J_st (R_assign rfl) rfl (J_done ?_)))
    refine S_nil (E_again (k + 1, (ss ++ [32]) ++ (Lib.itoa (x.outs[k]'hi1))) (by simp; omega) ⟨rfl, rfl, rfl, rfl, trivial⟩ ⟨E, (by omega), h1, (by omega), nt_stepS hs (by assumption)⟩)
  · have hc1n : ¬ k < x.outs.length := by first | (have h := of_decide_eq_false hc1; omega) | (have h := hc1; simp at h; omega)
    refine S_exit (E_lp_exit (E_inB_exit ?_))
    refine S_seq ?_
    refine S_reg [true, true] rfl rfl ?_
    refine J_st (R_move rfl) rfl (J_st (R_assign rfl) rfl (J_done ?_))
    refine S_ret (E_done1 rfl rfl E ?_)
    exact nt_all hs (by omega)

set_option maxRecDepth 20000 in
theorem s_DrawChanged (vcode : Value) (code : List Byt) (w : World) (hcode : RdS w vcode code) : Ct Tryd.prog 5 [vcode] w (fun v w' => ∃ (dr0 : Node) (dr1 : Int) (dr2 : Int), dr0.outs.length ≤ 3 ∧ rgN dr0 ∧ ∃ c0, v = .tuple [.agg c0.toArray, .int .i64 dr1, .int .i64 dr2].toArray ∧ Own1.O w' w.heap.size w'.heap.size c0 dr0) := by
  refine ct_of Tryd.func5 rfl Tryd.ntmps5 rfl ?_
  refine S_sub [(0, vcode)] ⟨rfl, trivial⟩ ?_
  have E : Ext w w := Ext.refl w
  refine S_seq ?_
  refine S_reg [false, true, true] rfl rfl ?_
  refine J_alloc st26 rfl (fun b1 w1 e1 s1 h1 => ?_)
  have g_b1 : w.heap.size ≤ b1 := by have := E.size; omega
  have y_b1 := h1.lt
  replace E := E.trans e1
  have z1 := e1.size
  refine J_st (R_assign rfl) rfl (J_st (R_assign rfl) rfl (J_done ?_))
  refine S_seq ?_
  refine S_reg [true, false, true] rfl rfl ?_
  refine J_st (R_move rfl) rfl ?_
  refine J_call Tryd.call18 rfl (s_l01New vcode code _ (hcode.ext E)) rfl (fun _ w2 e2 hcu1 => ?_)
  obtain ⟨bc1, rfl, ybc1, hcu1⟩ := hcu1
  have g_bc1 : w.heap.size ≤ bc1 := Nat.le_trans E.size ybc1
  have y_bc1 := CurO.lt hcu1
  replace E := E.trans e2; replace h1 := h1.ext e2
  have z2 := e2.size
  refine J_st (R_assign rfl) rfl (J_done ?_)
  refine S_seq ?_
  refine S_reg [true, false, true, false, false, true, false, false, false, true, true] rfl rfl ?_
  refine J_st (R_move rfl) rfl ?_
  refine J_callR Tryd.call19 rfl rfl (s_l07Any bc1 vcode code _ hcu1 (RdD.widen (RdD.ext (RdS.rdD hcode) E) (Nat.le_refl _) (by omega))) rfl (fun _ w3 e3 ho1 => ?_)
  obtain ⟨dx1, q1, q2, hcu1', ho1⟩ := ho1
  replace hcu1 := hcu1'
  obtain ⟨_, rfl, ho1⟩ := ho1
  have g_ho1 : w.heap.size ≤ w2.heap.size := E.size
  replace E := E.stepR e3 (by omega); replace h1 := h1.modR e3 (by omega)
  have z3 := e3.size
  obtain ⟨o1, rfl, sp1, hw1⟩ := Node.opO ho1
  refine J_st (R_move rfl) rfl ?_
  refine J_buildSlice (vs := [.int .i64 0, .int .i64 1, .int .i64 7, .int .i64 50, .int .i64 99, .int .i64 100, .int .i64 (-1)]) (css := [[.int .i64 0], [.int .i64 1], [.int .i64 7], [.int .i64 50], [.int .i64 99], [.int .i64 100], [.int .i64 (-1)]]) sl24 rfl rfl ⟨⟨rfl, rfl⟩, ⟨rfl, rfl⟩, ⟨rfl, rfl⟩, ⟨rfl, rfl⟩, ⟨rfl, rfl⟩, ⟨rfl, rfl⟩, ⟨rfl, rfl⟩, trivial⟩ rfl rfl (fun b2 w4 e4 s2 h2 => ?_)
  replace h2 : Blk w4 b2 [.int .i64 0, .int .i64 1, .int .i64 7, .int .i64 50, .int .i64 99, .int .i64 100, .int .i64 (-1)] := h2
  have g_b2 : w.heap.size ≤ b2 := by have := E.size; omega
  have y_b2 := h2.lt
  replace E := E.trans e4; replace h1 := h1.ext e4; replace hcu1 := hcu1.ext e4; replace hw1 := hw1.ext e4
  have z4 := e4.size
  refine J_callR Tryd.call20 rfl rfl (s_l01PickInt bc1 vcode code (.slice (some ⟨b2, 0, none⟩) 7 7) [0, 1, 7, 50, 99, 100, (-1)] _ hcu1 (RdD.widen (RdD.ext (RdS.rdD hcode) E) (Nat.le_refl _) (by omega)) (fun wX eX => (Blk.rd (α := Int) (xs := [0, 1, 7, 50, 99, 100, (-1)]) (by decide) (Blk.modR h2 eX (by omega)) rfl (by simp [maxLen]))) (by decide)) rfl (fun _ w5 e5 hv => ?_)
  obtain ⟨dx2, q3, hcu1', hv⟩ := hv
  replace hcu1 := hcu1'
  subst hv
  replace E := E.stepR e5 (by omega); replace h1 := h1.modR e5 (by omega); replace hw1 := hw1.modR e5 (by omega); replace h2 := h2.modR e5 (by omega)
  have z5 := e5.size
  refine J_st (R_move rfl) rfl ?_
  refine J_buildSlice (vs := [.int .i64 0, .int .i64 1, .int .i64 500, .int .i64 999, .int .i64 1000, .int .i64 (-1)]) (css := [[.int .i64 0], [.int .i64 1], [.int .i64 500], [.int .i64 999], [.int .i64 1000], [.int .i64 (-1)]]) sl24 rfl rfl ⟨⟨rfl, rfl⟩, ⟨rfl, rfl⟩, ⟨rfl, rfl⟩, ⟨rfl, rfl⟩, ⟨rfl, rfl⟩, ⟨rfl, rfl⟩, trivial⟩ rfl rfl (fun b3 w6 e6 s3 h3 => ?_)
  replace h3 : Blk w6 b3 [.int .i64 0, .int .i64 1, .int .i64 500, .int .i64 999, .int .i64 1000, .int .i64 (-1)] := h3
  have g_b3 : w.heap.size ≤ b3 := by have := E.size; omega
  have y_b3 := h3.lt
  replace E := E.trans e6; replace h1 := h1.ext e6; replace hcu1 := hcu1.ext e6; replace hw1 := hw1.ext e6; replace h2 := h2.ext e6
  have z6 := e6.size
  refine J_callR Tryd.call20 rfl rfl (s_l01PickInt bc1 vcode code (.slice (some ⟨b3, 0, none⟩) 6 6) [0, 1, 500, 999, 1000, (-1)] _ hcu1 (RdD.widen (RdD.ext (RdS.rdD hcode) E) (Nat.le_refl _) (by omega)) (fun wX eX => (Blk.rd (α := Int) (xs := [0, 1, 500, 999, 1000, (-1)]) (by decide) (Blk.modR h3 eX (by omega)) rfl (by simp [maxLen]))) (by decide)) rfl (fun _ w7 e7 hv => ?_)
  obtain ⟨dx3, q4, hcu1', hv⟩ := hv
  replace hcu1 := hcu1'
  subst hv
  replace E := E.stepR e7 (by omega); replace h1 := h1.modR e7 (by omega); replace hw1 := hw1.modR e7 (by omega); replace h2 := h2.modR e7 (by omega); replace h3 := h3.modR e7 (by omega)
  have z7 := e7.size
  refine J_storeS' (cs' := [.int .i64 dx1.kind, .int .i64 dx1.a, .int .i64 dx1.b, o1]) st26 rfl rfl rfl (all_cons rfl (all_cons rfl (all_cons rfl (all_cons hw1.one rfl)))) h1 (Nat.le_of_ble_eq_true rfl) rfl (fun w8 m1 h1' => ?_)
  replace h1 := h1'
  replace E := E.step m1 (fun g hg => by cases hg; omega); replace hcu1 := hcu1.mod m1 (fun g hg => by cases hg; omega); replace hw1 := hw1.mod m1 (fun g hg => by cases hg; omega); replace h2 := h2.mod m1 (fun g hg => by cases hg; omega); replace h3 := h3.mod m1 (fun g hg => by cases hg; omega)
  have z8 := m1.size
  refine J_st (R_assign rfl) rfl (J_st (R_assign rfl) rfl (J_done ?_))
  refine S_ret (E_doneN (l := [.cell 2 26, .tmp 3, .tmp 4]) (vs := [.agg [.int .i64 dx1.kind, .int .i64 dx1.a, .int .i64 dx1.b, o1].toArray, .int .i64 dx2, .int .i64 dx3]) rfl ⟨.cell rfl (run_loadVar_st st26 h1.at rfl), .tmp rfl, .tmp rfl, trivial⟩ rfl E ?_)
  exact ⟨dx1, dx2, dx3, (by assumption), (by assumption), ⟨_, rfl, (Node.mkO dx1 sp1 (Own.widen hw1 (by omega) (by omega)))⟩⟩

set_option maxRecDepth 20000 in
theorem s_DrawKindName (vcode : Value) (code : List Byt) (w : World) (hcode : RdS w vcode code) : Ct Tryd.prog 12 [vcode] w (fun v _ => ∃ (dr0 : Int), v = .int .i64 dr0) := by
  refine ct_of Tryd.func12 rfl Tryd.ntmps12 rfl ?_
  refine S_sub [(0, vcode)] ⟨rfl, trivial⟩ ?_
  have E : Ext w w := Ext.refl w
  refine S_seq ?_
  refine S_reg [true] rfl rfl ?_
  refine J_st (R_assign rfl) rfl (J_done ?_)
  refine S_seq ?_
  refine S_reg [true, false, false, true, true] rfl rfl ?_
  refine J_st (R_move rfl) rfl ?_
  refine J_call Tryd.call18 rfl (s_l01New vcode code _ (hcode.ext E)) rfl (fun _ w1 e1 hcu1 => ?_)
  obtain ⟨bc1, rfl, ybc1, hcu1⟩ := hcu1
  have g_bc1 : w.heap.size ≤ bc1 := Nat.le_trans E.size ybc1
  have y_bc1 := CurO.lt hcu1
  replace E := E.trans e1
  have z1 := e1.size
  refine J_callR Tryd.call27 rfl rfl (s_l01Below bc1 vcode code 11 _ hcu1 (RdD.widen (RdD.ext (RdS.rdD hcode) E) (Nat.le_refl _) (by omega))) rfl (fun _ w2 e2 hv => ?_)
  obtain ⟨dx1, q1, q2, hcu1', hv⟩ := hv
  replace hcu1 := hcu1'
  subst hv
  replace E := E.stepR e2 (by omega)
  have z2 := e2.size
  refine J_st (R_sub rfl rfl rfl) rfl (J_st (R_assign rfl) rfl (J_done ?_))
  refine S_ret (E_done1 rfl rfl E ?_)
  exact ⟨(IntKind.i64.wrap (((dx1 : Nat) : Int) - 1)), rfl⟩

set_option maxRecDepth 20000 in
theorem c_Remembers (k : Int) (w : World)  : Ct Tryd.prog 15 [.int .i64 k] w (fun v _ => v = .bool (((k == 5) || (k == 6)) || (k == 8))) := by
  refine ct_of Tryd.func15 rfl Tryd.ntmps15 rfl ?_
  refine S_sub [(0, .int .i64 k)] ⟨rfl, trivial⟩ ?_
  have E : Ext w w := Ext.refl w
  refine S_seq ?_
  refine S_reg [true] rfl rfl ?_
  refine J_st (R_assign rfl) rfl (J_done ?_)
  refine S_seq ?_
  refine S_reg [true, true, true, true, true, true, true, true, true, true, true] rfl rfl ?_
  refine J_st (R_move rfl) rfl (J_st (R_eql rfl rfl) rfl (J_st (R_move rfl) rfl ?_))
  refine J_cut 7 [(0, .int .i64 k), (2, .bool false), (12, .bool (((k == 5) || (k == 6)) || (k == 8)))] (fun w' => w = w') ?_ ?_
  · refine J_if (gd := 5) rfl rfl (fun hg1 => ?_) (fun hg1 => ?_)
    · refine J_gdno rfl rfl rfl rfl (J_gdno rfl rfl rfl rfl (J_st (R_pickT rfl rfl) rfl (J_st (R_move rfl) rfl (J_gdno rfl rfl rfl rfl (J_gdno rfl rfl rfl rfl (J_st (R_pickT rfl rfl) rfl (J_cutEnd ⟨rfl, rfl, congrArg (fun b => some (Value.bool b)) (show true = (((k == 5) || (k == 6)) || (k == 8)) by first | (rw [hg1] <;> rfl) | (simp [hg1]; done) | (simp only [nat_nlt] <;> simp)), trivial⟩ rfl)))))))
    · refine J_gd rfl rfl (R_move rfl) rfl (J_gd rfl rfl (R_eql rfl rfl) rfl (J_st (R_pickF rfl rfl) rfl (J_st (R_move rfl) rfl ?_)))
      refine J_if (gd := 9) rfl rfl (fun hg2 => ?_) (fun hg2 => ?_)
      · refine J_gdno rfl rfl rfl rfl (J_gdno rfl rfl rfl rfl (J_st (R_pickT rfl rfl) rfl (J_cutEnd ⟨rfl, rfl, congrArg (fun b => some (Value.bool b)) (show true = (((k == 5) || (k == 6)) || (k == 8)) by first | (rw [hg1, hg2] <;> rfl) | (simp [hg1, hg2]; done) | (simp only [nat_nlt] <;> simp)), trivial⟩ rfl)))
      · refine J_gd rfl rfl (R_move rfl) rfl (J_gd rfl rfl (R_eql rfl rfl) rfl (J_st (R_pickF rfl rfl) rfl (J_cutEnd ⟨rfl, rfl, congrArg (fun b => some (Value.bool b)) (show (k == 8) = (((k == 5) || (k == 6)) || (k == 8)) by first | (rw [hg1, hg2] <;> rfl) | (simp [hg1, hg2]; done) | (simp only [nat_nlt] <;> simp)), trivial⟩ rfl)))
  rintro _ rfl
  refine J_st (R_assign rfl) rfl (J_done ?_)
  refine S_ret (E_done1 rfl rfl E ?_)
  rfl

end Go.Proofs.YtpkimhbibjpcpaaDoor
