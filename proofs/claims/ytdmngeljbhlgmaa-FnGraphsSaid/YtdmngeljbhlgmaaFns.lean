/- What the functions that the laws call come to: a contract each; no condition. -/
import Derived.Test.YtdmngeljbhlgmaaTypes
namespace Go.Proofs.Ytdmngeljbhlgmaa
open Go Go.Proofs.Ytdmngeljbhlgmaa.X Go.Proofs
set_option maxRecDepth 20000 in
theorem s_l01In (x : Int) (lo : Int) (hi : Int) (w : World)  : Ct Try.prog 51 [.int .i64 x, .int .i64 lo, .int .i64 hi] w (fun v _ => v = .bool (win x lo hi)) := by
  refine ct_of Try.func51 rfl Try.ntmps51 rfl ?_
  refine S_sub [(0, .int .i64 x), (1, .int .i64 lo), (2, .int .i64 hi)] ⟨rfl, rfl, rfl, trivial⟩ ?_
  have E : Ext w w := Ext.refl w
  refine S_seq ?_
  refine S_reg [true] rfl rfl ?_
  refine J_st (R_assign rfl) rfl (J_done ?_)
  refine S_seq ?_
  refine S_reg [true, true, true, true, true, true, true, true, true] rfl rfl ?_
  refine J_st (R_move rfl) rfl (J_st (R_move rfl) rfl (J_st (R_geq rfl rfl) rfl (J_st (R_move rfl) rfl ?_)))
  refine J_cut 4 [(0, .int .i64 x), (1, .int .i64 lo), (2, .int .i64 hi), (6, .bool false), (14, .bool ((decide (lo ≤ x)) && (decide (x ≤ hi))))] (fun w' => w = w') ?_ ?_
  · refine J_if (gd := 10) rfl rfl (fun hg1 => ?_) (fun hg1 => ?_)
    · refine J_gd rfl rfl (R_move rfl) rfl (J_gd rfl rfl (R_move rfl) rfl (J_gd rfl rfl (R_leq rfl rfl) rfl (J_st (R_pickT rfl rfl) rfl (J_cutEnd ⟨rfl, rfl, rfl, rfl, congrArg (fun b => some (Value.bool b)) (show (decide (x ≤ hi)) = ((decide (lo ≤ x)) && (decide (x ≤ hi))) by first | (rw [hg1] <;> rfl) | (simp [hg1]; done) | (simp only [nat_nlt] <;> simp)), trivial⟩ rfl))))
    · refine J_gdno rfl rfl rfl rfl (J_gdno rfl rfl rfl rfl (J_gdno rfl rfl rfl rfl (J_st (R_pickF rfl rfl) rfl (J_cutEnd ⟨rfl, rfl, rfl, rfl, congrArg (fun b => some (Value.bool b)) (show false = ((decide (lo ≤ x)) && (decide (x ≤ hi))) by first | (rw [hg1] <;> rfl) | (simp [hg1]; done) | (simp only [nat_nlt] <;> simp)), trivial⟩ rfl))))
  rintro _ rfl
  refine J_st (R_assign rfl) rfl (J_done ?_)
  refine S_ret (E_done1 rfl rfl E ?_)
  rfl

set_option maxRecDepth 20000 in
theorem c_within (x : Int) (lo : Int) (hi : Int) (w : World)  : Ct Try.prog 49 [.int .i64 x, .int .i64 lo, .int .i64 hi] w (fun v _ => v = .bool (win x lo hi)) := by
  refine ct_of Try.func49 rfl Try.ntmps49 rfl ?_
  refine S_sub [(0, .int .i64 x), (1, .int .i64 lo), (2, .int .i64 hi)] ⟨rfl, rfl, rfl, trivial⟩ ?_
  have E : Ext w w := Ext.refl w
  refine S_seq ?_
  refine S_reg [true] rfl rfl ?_
  refine J_st (R_assign rfl) rfl (J_done ?_)
  refine S_seq ?_
  refine S_reg [true, true, true, true, true, true, true, true, true] rfl rfl ?_
  refine J_st (R_move rfl) rfl (J_st (R_move rfl) rfl (J_st (R_geq rfl rfl) rfl (J_st (R_move rfl) rfl ?_)))
  refine J_cut 4 [(0, .int .i64 x), (1, .int .i64 lo), (2, .int .i64 hi), (6, .bool false), (14, .bool ((decide (lo ≤ x)) && (decide (x ≤ hi))))] (fun w' => w = w') ?_ ?_
  · refine J_if (gd := 10) rfl rfl (fun hg1 => ?_) (fun hg1 => ?_)
    · refine J_gd rfl rfl (R_move rfl) rfl (J_gd rfl rfl (R_move rfl) rfl (J_gd rfl rfl (R_leq rfl rfl) rfl (J_st (R_pickT rfl rfl) rfl (J_cutEnd ⟨rfl, rfl, rfl, rfl, congrArg (fun b => some (Value.bool b)) (show (decide (x ≤ hi)) = ((decide (lo ≤ x)) && (decide (x ≤ hi))) by first | (rw [hg1] <;> rfl) | (simp [hg1]; done) | (simp only [nat_nlt] <;> simp)), trivial⟩ rfl))))
    · refine J_gdno rfl rfl rfl rfl (J_gdno rfl rfl rfl rfl (J_gdno rfl rfl rfl rfl (J_st (R_pickF rfl rfl) rfl (J_cutEnd ⟨rfl, rfl, rfl, rfl, congrArg (fun b => some (Value.bool b)) (show false = ((decide (lo ≤ x)) && (decide (x ≤ hi))) by first | (rw [hg1] <;> rfl) | (simp [hg1]; done) | (simp only [nat_nlt] <;> simp)), trivial⟩ rfl))))
  rintro _ rfl
  refine J_st (R_assign rfl) rfl (J_done ?_)
  refine S_ret (E_done1 rfl rfl E ?_)
  rfl

set_option maxRecDepth 20000 in
theorem c_slicesEqual (vxs : Value) (xs : List Int) (vys : Value) (ys : List Int) (w : World) (hxs : RdS w vxs xs) (hys : RdS w vys ys) : Ct Try.prog 83 [vxs, vys] w (fun v _ => v = .bool (decide (xs = ys))) := by
  refine ct_of Try.func83 rfl Try.ntmps83 rfl ?_
  refine S_sub [(0, vxs), (1, vys)] ⟨rfl, rfl, trivial⟩ ?_
  have E : Ext w w := Ext.refl w
  refine S_seq ?_
  refine S_reg [true] rfl rfl ?_
  refine J_st (R_assign rfl) rfl (J_done ?_)
  refine S_seq ?_
  refine S_seq ?_
  refine S_reg [true, true, true, true, true] rfl rfl ?_
  refine J_st (R_move rfl) rfl (J_st (R_len Try.underlying30 rfl (hxs.ext E).len) rfl (J_st (R_move rfl) rfl (J_st (R_len Try.underlying30 rfl (hys.ext E).len) rfl (J_st (R_neq rfl rfl) rfl (J_done ?_)))))
  refine S_cond rfl (fun hc1 => ?_) (fun hc1 => ?_)
  · have hc1n : ¬ xs.length = ys.length := by first | (have h := of_decide_eq_true hc1; omega) | (have h := hc1; simp at h; omega)
    refine S_seq ?_
    refine S_reg [true] rfl rfl ?_
    refine J_st (R_assign rfl) rfl (J_done ?_)
    refine S_ret (E_done1 rfl rfl E ?_)
    simp [eq_len hc1n]
  · have hc1n : xs.length = ys.length := by first | (have h := of_decide_eq_false hc1; omega) | (have h := hc1; simp at h; omega)
    refine S_skip ?_
    refine S_seq ?_
    refine S_seq ?_
    refine S_reg [true, true, true] rfl rfl ?_
    refine J_st (R_move rfl) rfl (J_st (R_len Try.underlying30 rfl (hxs.ext E).len) rfl (J_st (R_move rfl) rfl (J_done ?_)))
    refine S_block ?_
    refine S_loop (fun (k : Nat) => [(0, vxs), (1, vys), (4, .bool false), (12, .int .i64 ((xs.length : Nat) : Int)), (13, .int .i64 ((k : Nat) : Int))]) (fun (k : Nat) w' => Ext w w' ∧ w.heap.size ≤ w'.heap.size ∧ k ≤ xs.length ∧ xs.take k = ys.take k) (fun (k : Nat) => xs.length - k) 0 ⟨rfl, rfl, rfl, rfl, rfl, trivial⟩ ⟨E, Nat.le_refl _, Nat.zero_le _, rfl⟩ ?_
    clear E
    rintro k w1 ⟨E, z1, hk, hp⟩
    refine S_seq ?_
    refine S_reg [true] rfl rfl ?_
    refine J_st (R_lss rfl rfl) rfl (J_done ?_)
    refine S_seq ?_
    refine S_cond rfl (fun hc2 => ?_) (fun hc2 => ?_)
    · have hc2n : k < xs.length := by first | (have h := of_decide_eq_true hc2; omega) | (have h := hc2; simp at h; omega)
      refine S_skip ?_
      refine S_seq ?_
      refine S_block ?_
      refine S_seq ?_
      refine S_reg [true, true] rfl rfl ?_
      refine J_st (R_move rfl) rfl (J_st (R_assign rfl) rfl (J_done ?_))
      refine S_seq ?_
      refine S_regD mixed [(0, true), (1, true), (2, true), (3, true), (4, true), (5, true), (6, true), (7, true), (8, true)] (by decide +kernel) rfl (fun w2 e1 => ?_)
      replace E := E.trans e1
      have z2 := e1.size
      refine J_st (R_move rfl) rfl (J_st (R_move rfl) rfl ?_)
      have hi1 : k < xs.length := (by first | assumption | omega | (simp only [List.length_set]; first | assumption | omega) | (simp only [List.getElem_set_self, List.length_set]; first | assumption | omega) | (simp only [setW, setLk, List.length_set]; first | assumption | omega) | (simp; done))
      refine J_st (R_index (i := k) sl30 rfl rfl (hxs.ext E) hi1) rfl (J_st (R_load sc3 rfl (((hxs.ext E).get hi1).one 0 rfl)) rfl (J_st (R_move rfl) rfl (J_st (R_move rfl) rfl ?_)))
      have hi2 : k < ys.length := (by first | assumption | omega | (simp only [List.length_set]; first | assumption | omega) | (simp only [List.getElem_set_self, List.length_set]; first | assumption | omega) | (simp only [setW, setLk, List.length_set]; first | assumption | omega) | (simp; done))
      refine J_st (R_index (i := k) sl30 rfl rfl (hys.ext E) hi2) rfl (J_st (R_load sc3 rfl (((hys.ext E).get hi2).one 0 rfl)) rfl (J_st (R_neq rfl rfl) rfl (J_done ?_)))
      refine S_cond rfl (fun hc3 => ?_) (fun hc3 => ?_)
      · refine S_seq ?_
        refine S_reg [true] rfl rfl ?_
        refine J_st (R_assign rfl) rfl (J_done ?_)
        refine S_ret (E_inB_ret (E_lp_ret (E_inB_ret (E_done1 rfl rfl E ?_))))
        exact eqS_no (by omega) (by omega) (by simpa using hc3)
      · refine S_skip ?_
        refine S_nil (E_inB ?_)
        refine S_reg [true, true] rfl rfl ?_
        refine J_st (R_add rfl rfl (add_one hc2n hxs.1)) rfl (J_st (R_move rfl) rfl (J_done ?_))
        refine S_nil (E_again (k + 1) (by omega) ⟨rfl, rfl, rfl, rfl, rfl, trivial⟩ ⟨E, (by omega), (by omega), eqS_step hp (by assumption) (by omega) (by simpa using hc3)⟩)
    · have hc2n : ¬ k < xs.length := by first | (have h := of_decide_eq_false hc2; omega) | (have h := hc2; simp at h; omega)
      refine S_exit (E_lp_exit (E_inB_exit ?_))
      refine S_seq ?_
      refine S_reg [true] rfl rfl ?_
      refine J_st (R_assign rfl) rfl (J_done ?_)
      refine S_ret (E_done1 rfl rfl E ?_)
      exact eqS_yes hp hc1n (by omega)

set_option maxRecDepth 20000 in
theorem c_sameNode (cx : List Value) (x : Node) (cy : List Value) (y : Node) (w : World) (hx : Dat.R w 0 w.heap.size cx x) (hy : Dat.R w 0 w.heap.size cy y) : Ct Try.prog 63 [.agg cx.toArray, .agg cy.toArray] w (fun v _ => v = .bool (decide (x = y))) := by
  refine ct_of Try.func63 rfl Try.ntmps63 rfl ?_
  obtain ⟨o1, rfl, hd1⟩ := Node.op hx
  obtain ⟨o2, rfl, hd2⟩ := Node.op hy
  refine S_sub [(0, .agg [.int .i64 x.kind, .int .i64 x.a, .int .i64 x.b, o1].toArray), (1, .agg [.int .i64 y.kind, .int .i64 y.a, .int .i64 y.b, o2].toArray)] ⟨rfl, rfl, trivial⟩ ?_
  have E : Ext w w := Ext.refl w
  refine S_seq ?_
  refine S_reg [false, false, true] rfl rfl ?_
  refine J_box rfl rfl (fun b1 w1 e1 s1 h1 => ?_)
  have g_b1 : w.heap.size ≤ b1 := by have := E.size; omega
  have y_b1 := h1.lt
  replace E := E.trans e1
  have z1 := e1.size
  refine J_box rfl rfl (fun b2 w2 e2 s2 h2 => ?_)
  have g_b2 : w.heap.size ≤ b2 := by have := E.size; omega
  have y_b2 := h2.lt
  replace E := E.trans e2; replace h1 := h1.ext e2
  have z2 := e2.size
  refine J_st (R_assign rfl) rfl (J_done ?_)
  refine S_seq ?_
  refine S_reg [true, true, true, true, true, true, true, true, true, true, true, true, true, true, true, true, true, true, true, true, true, true, true, true, false, true, true] rfl rfl ?_
  refine J_st (R_fieldAddr0 fl37_0 rfl) rfl (J_st (R_load sc3 rfl (h1.one 0 rfl)) rfl (J_st (R_fieldAddr0 fl37_0 rfl) rfl (J_st (R_load sc3 rfl (h2.one 0 rfl)) rfl (J_st (R_eql rfl rfl) rfl (J_st (R_move rfl) rfl ?_)))))
  refine J_cut 20 [(0, .agg [.int .i64 x.kind, .int .i64 x.a, .int .i64 x.b, o1].toArray), (1, .agg [.int .i64 y.kind, .int .i64 y.a, .int .i64 y.b, o2].toArray), (2, .pointer (some ⟨b1, 0, none⟩)), (3, .pointer (some ⟨b2, 0, none⟩)), (4, .bool false), (30, .bool ((((x.kind == y.kind) && (x.a == y.a)) && (x.b == y.b)) && (decide (x.outs = y.outs))))] (fun w' => Ext w w' ∧ w2.heap.size ≤ w'.heap.size ∧ Blk w' b1 ([.int .i64 x.kind, .int .i64 x.a, .int .i64 x.b, o1]) ∧ Blk w' b2 ([.int .i64 y.kind, .int .i64 y.a, .int .i64 y.b, o2])) ?_ ?_
  · refine J_if (gd := 10) rfl rfl (fun hg1 => ?_) (fun hg1 => ?_)
    · refine J_gd rfl rfl (R_fieldAddr0 fl37_1 rfl) rfl (J_gd rfl rfl (R_load sc3 rfl (h1.one 1 rfl)) rfl (J_gd rfl rfl (R_fieldAddr0 fl37_1 rfl) rfl (J_gd rfl rfl (R_load sc3 rfl (h2.one 1 rfl)) rfl (J_gd rfl rfl (R_eql rfl rfl) rfl (J_st (R_pickT rfl rfl) rfl (J_st (R_move rfl) rfl ?_))))))
      refine J_if (gd := 17) rfl rfl (fun hg2 => ?_) (fun hg2 => ?_)
      · refine J_gd rfl rfl (R_fieldAddr0 fl37_2 rfl) rfl (J_gd rfl rfl (R_load sc3 rfl (h1.one 2 rfl)) rfl (J_gd rfl rfl (R_fieldAddr0 fl37_2 rfl) rfl (J_gd rfl rfl (R_load sc3 rfl (h2.one 2 rfl)) rfl (J_gd rfl rfl (R_eql rfl rfl) rfl (J_st (R_pickT rfl rfl) rfl (J_st (R_move rfl) rfl ?_))))))
        refine J_if (gd := 24) rfl rfl (fun hg3 => ?_) (fun hg3 => ?_)
        · refine J_gd rfl rfl (R_fieldAddr0 fl37_3 rfl) rfl (J_gd rfl rfl (R_load sc30 rfl (h1.one 3 rfl)) rfl (J_gd rfl rfl (R_fieldAddr0 fl37_3 rfl) rfl (J_gd rfl rfl (R_load sc30 rfl (h2.one 3 rfl)) rfl ?_)))
          refine J_ung rfl rfl ?_
          refine J_call Try.call83 rfl (c_slicesEqual o1 x.outs o2 y.outs _ (hd1.rd.ext E) (hd2.rd.ext E)) rfl (fun _ w4 e3 hv => ?_)
          subst hv
          replace E := E.trans e3; replace h1 := h1.ext e3; replace h2 := h2.ext e3
          have z3 := e3.size
          refine J_st (R_pickT rfl rfl) rfl (J_cutEnd ⟨rfl, rfl, rfl, rfl, rfl, congrArg (fun b => some (Value.bool b)) (show (decide (x.outs = y.outs)) = ((((x.kind == y.kind) && (x.a == y.a)) && (x.b == y.b)) && (decide (x.outs = y.outs))) by first | (rw [hg1, hg2, hg3] <;> rfl) | (simp [hg1, hg2, hg3]; done) | (simp only [nat_nlt] <;> simp)), trivial⟩ ⟨E, (by omega), h1, h2⟩)
        · refine J_gdno rfl rfl rfl rfl (J_gdno rfl rfl rfl rfl (J_gdno rfl rfl rfl rfl (J_gdno rfl rfl rfl rfl ?_)))
          refine J_ungno rfl rfl rfl rfl ?_
          refine J_st (R_pickF rfl rfl) rfl (J_cutEnd ⟨rfl, rfl, rfl, rfl, rfl, congrArg (fun b => some (Value.bool b)) (show false = ((((x.kind == y.kind) && (x.a == y.a)) && (x.b == y.b)) && (decide (x.outs = y.outs))) by first | (rw [hg1, hg2, hg3] <;> rfl) | (simp [hg1, hg2, hg3]; done) | (simp only [nat_nlt] <;> simp)), trivial⟩ ⟨E, (by omega), h1, h2⟩)
      · refine J_gdno rfl rfl rfl rfl (J_gdno rfl rfl rfl rfl (J_gdno rfl rfl rfl rfl (J_gdno rfl rfl rfl rfl (J_gdno rfl rfl rfl rfl (J_st (R_pickF rfl rfl) rfl (J_st (R_move rfl) rfl (J_gdno rfl rfl rfl rfl (J_gdno rfl rfl rfl rfl (J_gdno rfl rfl rfl rfl (J_gdno rfl rfl rfl rfl ?_))))))))))
        refine J_ungno rfl rfl rfl rfl ?_
        refine J_st (R_pickF rfl rfl) rfl (J_cutEnd ⟨rfl, rfl, rfl, rfl, rfl, congrArg (fun b => some (Value.bool b)) (show false = ((((x.kind == y.kind) && (x.a == y.a)) && (x.b == y.b)) && (decide (x.outs = y.outs))) by first | (rw [hg1, hg2] <;> rfl) | (simp [hg1, hg2]; done) | (simp only [nat_nlt] <;> simp)), trivial⟩ ⟨E, (by omega), h1, h2⟩)
    · refine J_gdno rfl rfl rfl rfl (J_gdno rfl rfl rfl rfl (J_gdno rfl rfl rfl rfl (J_gdno rfl rfl rfl rfl (J_gdno rfl rfl rfl rfl (J_st (R_pickF rfl rfl) rfl (J_st (R_move rfl) rfl (J_gdno rfl rfl rfl rfl (J_gdno rfl rfl rfl rfl (J_gdno rfl rfl rfl rfl (J_gdno rfl rfl rfl rfl (J_gdno rfl rfl rfl rfl (J_st (R_pickF rfl rfl) rfl (J_st (R_move rfl) rfl (J_gdno rfl rfl rfl rfl (J_gdno rfl rfl rfl rfl (J_gdno rfl rfl rfl rfl (J_gdno rfl rfl rfl rfl ?_)))))))))))))))))
      refine J_ungno rfl rfl rfl rfl ?_
      refine J_st (R_pickF rfl rfl) rfl (J_cutEnd ⟨rfl, rfl, rfl, rfl, rfl, congrArg (fun b => some (Value.bool b)) (show false = ((((x.kind == y.kind) && (x.a == y.a)) && (x.b == y.b)) && (decide (x.outs = y.outs))) by first | (rw [hg1] <;> rfl) | (simp [hg1]; done) | (simp only [nat_nlt] <;> simp)), trivial⟩ ⟨E, (by omega), h1, h2⟩)
  clear E h1 h2
  rintro w3 ⟨E, z4, h1, h2⟩
  refine J_st (R_assign rfl) rfl (J_done ?_)
  refine S_ret (E_done1 rfl rfl E ?_)
  refine congrArg Value.bool (Bool.eq_iff_iff.2 ?_); cases x; cases y; simp [and_assoc]

set_option maxRecDepth 20000 in
theorem c_EqualFuncNode (vxs : Value) (xs : List Node) (vys : Value) (ys : List Node) (w : World) (hxs : RdD w 0 w.heap.size vxs xs) (hys : RdD w 0 w.heap.size vys ys) : Ct Try.prog 62 [vxs, vys, .func (.func 63) #[] #[]] w (fun v _ => v = .bool (decide (xs = ys))) := by
  refine ct_of Try.func62 rfl Try.ntmps62 rfl ?_
  refine S_sub [(0, vxs), (1, vys), (2, .func (.func 63) #[] #[])] ⟨rfl, rfl, rfl, trivial⟩ ?_
  have E : Ext w w := Ext.refl w
  refine S_seq ?_
  refine S_reg [true] rfl rfl ?_
  refine J_st (R_assign rfl) rfl (J_done ?_)
  refine S_seq ?_
  refine S_seq ?_
  refine S_reg [true, true, true, true, true] rfl rfl ?_
  refine J_st (R_move rfl) rfl (J_st (R_len Try.underlying24 rfl (hxs.ext E).len) rfl (J_st (R_move rfl) rfl (J_st (R_len Try.underlying24 rfl (hys.ext E).len) rfl (J_st (R_neq rfl rfl) rfl (J_done ?_)))))
  refine S_cond rfl (fun hc1 => ?_) (fun hc1 => ?_)
  · have hc1n : ¬ xs.length = ys.length := by first | (have h := of_decide_eq_true hc1; omega) | (have h := hc1; simp at h; omega)
    refine S_seq ?_
    refine S_reg [true] rfl rfl ?_
    refine J_st (R_assign rfl) rfl (J_done ?_)
    refine S_ret (E_done1 rfl rfl E ?_)
    simp [eq_len hc1n]
  · have hc1n : xs.length = ys.length := by first | (have h := of_decide_eq_false hc1; omega) | (have h := hc1; simp at h; omega)
    refine S_skip ?_
    refine S_seq ?_
    refine S_seq ?_
    refine S_reg [true, true, true] rfl rfl ?_
    refine J_st (R_move rfl) rfl (J_st (R_len Try.underlying24 rfl (hxs.ext E).len) rfl (J_st (R_move rfl) rfl (J_done ?_)))
    refine S_block ?_
    refine S_loop (fun (k : Nat) => [(1, vys), (2, .func (.func 63) #[] #[]), (6, .bool false), (15, vxs), (16, .int .i64 ((xs.length : Nat) : Int)), (17, .int .i64 ((k : Nat) : Int))]) (fun (k : Nat) w' => Ext w w' ∧ w.heap.size ≤ w'.heap.size ∧ k ≤ xs.length ∧ xs.take k = ys.take k) (fun (k : Nat) => xs.length - k) 0 ⟨rfl, rfl, rfl, rfl, rfl, rfl, trivial⟩ ⟨E, Nat.le_refl _, Nat.zero_le _, rfl⟩ ?_
    clear E
    rintro k w1 ⟨E, z1, hk, hp⟩
    refine S_seq ?_
    refine S_reg [true] rfl rfl ?_
    refine J_st (R_lss rfl rfl) rfl (J_done ?_)
    refine S_seq ?_
    refine S_cond rfl (fun hc2 => ?_) (fun hc2 => ?_)
    · have hc2n : k < xs.length := by first | (have h := of_decide_eq_true hc2; omega) | (have h := hc2; simp at h; omega)
      refine S_skip ?_
      refine S_seq ?_
      refine S_block ?_
      refine S_seq ?_
      refine S_reg [true, true, true, false, true, false] rfl rfl ?_
      refine J_st (R_move rfl) rfl ?_
      have hi1 : k < xs.length := (by first | assumption | omega | (simp only [List.length_set]; first | assumption | omega) | (simp only [List.getElem_set_self, List.length_set]; first | assumption | omega) | (simp only [setW, setLk, List.length_set]; first | assumption | omega) | (simp; done))
      obtain ⟨_, hr1, ha1⟩ := RdD.get hxs hi1
      obtain ⟨o1, rfl, hd1⟩ := Node.op hr1
      replace ha1 : At w (sblk vxs) (soff vxs + k * 4) [.int .i64 ((xs[k]'hi1).kind), .int .i64 ((xs[k]'hi1).a), .int .i64 ((xs[k]'hi1).b), o1] := ha1
      refine J_st (R_index (i := k) sl24 rfl rfl (hxs.ext E).1 hi1) rfl (J_st (R_loadS st37 rfl (ha1.ext E) rfl) rfl ?_)
      refine J_alloc st37 rfl (fun b1 w2 e1 s1 h1 => ?_)
      have g_b1 : w.heap.size ≤ b1 := by have := E.size; omega
      have y_b1 := h1.lt
      replace E := E.trans e1
      have z2 := e1.size
      refine J_st (R_assign rfl) rfl ?_
      refine J_storeS' (cs' := [.int .i64 ((xs[k]'hi1).kind), .int .i64 ((xs[k]'hi1).a), .int .i64 ((xs[k]'hi1).b), o1]) st37 rfl rfl rfl (all_cons rfl (all_cons rfl (all_cons rfl (all_cons (RdD.one (hd1.ext E)) rfl)))) h1 (Nat.le_of_ble_eq_true rfl) rfl (fun w3 m1 h1' => ?_)
      replace h1 := h1'
      replace E := E.step m1 (fun g hg => by cases hg; omega)
      have z3 := m1.size
      refine J_done ?_
      refine S_seq ?_
      refine S_reg [true, true, true, true, false, false] rfl rfl ?_
      refine J_st (R_move rfl) rfl (J_st (R_move rfl) rfl ?_)
      have hi2 : k < ys.length := (by first | assumption | omega | (simp only [List.length_set]; first | assumption | omega) | (simp only [List.getElem_set_self, List.length_set]; first | assumption | omega) | (simp only [setW, setLk, List.length_set]; first | assumption | omega) | (simp; done))
      obtain ⟨_, hr2, ha2⟩ := RdD.get hys hi2
      obtain ⟨o2, rfl, hd2⟩ := Node.op hr2
      replace ha2 : At w (sblk vys) (soff vys + k * 4) [.int .i64 ((ys[k]'hi2).kind), .int .i64 ((ys[k]'hi2).a), .int .i64 ((ys[k]'hi2).b), o2] := ha2
      refine J_st (R_index (i := k) sl24 rfl rfl (hys.ext E).1 hi2) rfl (J_st (R_loadS st37 rfl (ha2.ext E) rfl) rfl ?_)
      refine J_alloc st37 rfl (fun b2 w4 e2 s2 h2 => ?_)
      have g_b2 : w.heap.size ≤ b2 := by have := E.size; omega
      have y_b2 := h2.lt
      replace E := E.trans e2; replace h1 := h1.ext e2
      have z4 := e2.size
      refine J_storeS' (cs' := [.int .i64 ((ys[k]'hi2).kind), .int .i64 ((ys[k]'hi2).a), .int .i64 ((ys[k]'hi2).b), o2]) st37 rfl rfl rfl (all_cons rfl (all_cons rfl (all_cons rfl (all_cons (RdD.one (hd2.ext E)) rfl)))) h2 (Nat.le_of_ble_eq_true rfl) rfl (fun w5 m2 h2' => ?_)
      replace h2 := h2'
      replace E := E.step m2 (fun g hg => by cases hg; omega); replace h1 := h1.mod m2 (fun g hg => by cases hg; omega)
      have z5 := m2.size
      refine J_done ?_
      refine S_seq ?_
      refine S_reg [true, true, true, false, true] rfl rfl ?_
      refine J_st (R_move rfl) rfl (J_st (R_loadS st37 rfl h1.at rfl) rfl (J_st (R_loadS st37 rfl h2.at rfl) rfl ?_))
      refine J_callV (fs := []) (cs := []) Try.call63 rfl rfl (c_sameNode [.int .i64 ((xs[k]'hi1).kind), .int .i64 ((xs[k]'hi1).a), .int .i64 ((xs[k]'hi1).b), o1] (xs[k]'hi1) [.int .i64 ((ys[k]'hi2).kind), .int .i64 ((ys[k]'hi2).a), .int .i64 ((ys[k]'hi2).b), o2] (ys[k]'hi2) _ (Node.mkR (xs[k]'hi1) (RdD.any (hd1.ext E))) (Node.mkR (ys[k]'hi2) (RdD.any (hd2.ext E)))) rfl (fun _ w6 e3 hv => ?_)
      subst hv
      replace E := E.trans e3; replace h1 := h1.ext e3; replace h2 := h2.ext e3
      have z6 := e3.size
      refine J_st (R_not rfl) rfl (J_done ?_)
      refine S_cond rfl (fun hc3 => ?_) (fun hc3 => ?_)
      · refine S_seq ?_
        refine S_reg [true] rfl rfl ?_
        refine J_st (R_assign rfl) rfl (J_done ?_)
        refine S_ret (E_inB_ret (E_lp_ret (E_inB_ret (E_done1 rfl rfl E ?_))))
        exact eqS_no (by omega) (by omega) (by simpa using hc3)
      · refine S_skip ?_
        refine S_nil (E_inB ?_)
        refine S_reg [true, true] rfl rfl ?_
        refine J_st (R_add rfl rfl (add_one hc2n (hxs.ext E).1.1)) rfl (J_st (R_move rfl) rfl (J_done ?_))
        refine S_nil (E_again (k + 1) (by omega) ⟨rfl, rfl, rfl, rfl, rfl, rfl, trivial⟩ ⟨E, (by omega), (by omega), eqS_step hp (by assumption) (by omega) (by simpa using hc3)⟩)
    · have hc2n : ¬ k < xs.length := by first | (have h := of_decide_eq_false hc2; omega) | (have h := hc2; simp at h; omega)
      refine S_exit (E_lp_exit (E_inB_exit ?_))
      refine S_seq ?_
      refine S_reg [true] rfl rfl ?_
      refine J_st (R_assign rfl) rfl (J_done ?_)
      refine S_ret (E_done1 rfl rfl E ?_)
      exact eqS_yes hp hc1n (by omega)

set_option maxRecDepth 20000 in
theorem c_SameGraph (cx : List Value) (x : Graph) (cy : List Value) (y : Graph) (w : World) (hx : Dat.R w 0 w.heap.size cx x) (hy : Dat.R w 0 w.heap.size cy y) : Ct Try.prog 23 [.agg cx.toArray, .agg cy.toArray] w (fun v _ => v = .bool (decide (x = y))) := by
  refine ct_of Try.func23 rfl Try.ntmps23 rfl ?_
  obtain ⟨o1, rfl, hd1⟩ := Graph.op hx
  obtain ⟨o2, rfl, hd2⟩ := Graph.op hy
  refine S_sub [(0, .agg [o1, .int .i64 x.workers, .int .i64 x.cap].toArray), (1, .agg [o2, .int .i64 y.workers, .int .i64 y.cap].toArray)] ⟨rfl, rfl, trivial⟩ ?_
  have E : Ext w w := Ext.refl w
  refine S_seq ?_
  refine S_reg [false, false, true] rfl rfl ?_
  refine J_box rfl rfl (fun b1 w1 e1 s1 h1 => ?_)
  have g_b1 : w.heap.size ≤ b1 := by have := E.size; omega
  have y_b1 := h1.lt
  replace E := E.trans e1
  have z1 := e1.size
  refine J_box rfl rfl (fun b2 w2 e2 s2 h2 => ?_)
  have g_b2 : w.heap.size ≤ b2 := by have := E.size; omega
  have y_b2 := h2.lt
  replace E := E.trans e2; replace h1 := h1.ext e2
  have z2 := e2.size
  refine J_st (R_assign rfl) rfl (J_done ?_)
  refine S_seq ?_
  refine S_reg [true, true, true, true, false, true, true, true, true, true, true, true, true, true, true, true, true, true, true, true] rfl rfl ?_
  refine J_st (R_fieldAddr0 fl26_0 rfl) rfl (J_st (R_load sc24 rfl (h1.one 0 rfl)) rfl (J_st (R_fieldAddr0 fl26_0 rfl) rfl (J_st (R_load sc24 rfl (h2.one 0 rfl)) rfl ?_)))
  refine J_call Try.call62 rfl (c_EqualFuncNode o1 x.nodes o2 y.nodes _ (RdD.any (hd1.ext E)) (RdD.any (hd2.ext E))) rfl (fun _ w3 e3 hv => ?_)
  subst hv
  replace E := E.trans e3; replace h1 := h1.ext e3; replace h2 := h2.ext e3
  have z3 := e3.size
  refine J_st (R_move rfl) rfl ?_
  refine J_cut 13 [(0, .agg [o1, .int .i64 x.workers, .int .i64 x.cap].toArray), (1, .agg [o2, .int .i64 y.workers, .int .i64 y.cap].toArray), (2, .pointer (some ⟨b1, 0, none⟩)), (3, .pointer (some ⟨b2, 0, none⟩)), (4, .bool false), (23, .bool (((decide (x.nodes = y.nodes)) && (x.workers == y.workers)) && (x.cap == y.cap)))] (fun w' => w3 = w') ?_ ?_
  · refine J_if (gd := 10) rfl rfl (fun hg1 => ?_) (fun hg1 => ?_)
    · refine J_gd rfl rfl (R_fieldAddr0 fl26_1 rfl) rfl (J_gd rfl rfl (R_load sc3 rfl (h1.one 1 rfl)) rfl (J_gd rfl rfl (R_fieldAddr0 fl26_1 rfl) rfl (J_gd rfl rfl (R_load sc3 rfl (h2.one 1 rfl)) rfl (J_gd rfl rfl (R_eql rfl rfl) rfl (J_st (R_pickT rfl rfl) rfl (J_st (R_move rfl) rfl ?_))))))
      refine J_if (gd := 17) rfl rfl (fun hg2 => ?_) (fun hg2 => ?_)
      · refine J_gd rfl rfl (R_fieldAddr0 fl26_2 rfl) rfl (J_gd rfl rfl (R_load sc3 rfl (h1.one 2 rfl)) rfl (J_gd rfl rfl (R_fieldAddr0 fl26_2 rfl) rfl (J_gd rfl rfl (R_load sc3 rfl (h2.one 2 rfl)) rfl (J_gd rfl rfl (R_eql rfl rfl) rfl (J_st (R_pickT rfl rfl) rfl (J_cutEnd ⟨rfl, rfl, rfl, rfl, rfl, congrArg (fun b => some (Value.bool b)) (show (x.cap == y.cap) = (((decide (x.nodes = y.nodes)) && (x.workers == y.workers)) && (x.cap == y.cap)) by first | (rw [hg1, hg2] <;> rfl) | (simp [hg1, hg2]; done) | (simp only [nat_nlt] <;> simp)), trivial⟩ rfl))))))
      · refine J_gdno rfl rfl rfl rfl (J_gdno rfl rfl rfl rfl (J_gdno rfl rfl rfl rfl (J_gdno rfl rfl rfl rfl (J_gdno rfl rfl rfl rfl (J_st (R_pickF rfl rfl) rfl (J_cutEnd ⟨rfl, rfl, rfl, rfl, rfl, congrArg (fun b => some (Value.bool b)) (show false = (((decide (x.nodes = y.nodes)) && (x.workers == y.workers)) && (x.cap == y.cap)) by first | (rw [hg1, hg2] <;> rfl) | (simp [hg1, hg2]; done) | (simp only [nat_nlt] <;> simp)), trivial⟩ rfl))))))
    · refine J_gdno rfl rfl rfl rfl (J_gdno rfl rfl rfl rfl (J_gdno rfl rfl rfl rfl (J_gdno rfl rfl rfl rfl (J_gdno rfl rfl rfl rfl (J_st (R_pickF rfl rfl) rfl (J_st (R_move rfl) rfl (J_gdno rfl rfl rfl rfl (J_gdno rfl rfl rfl rfl (J_gdno rfl rfl rfl rfl (J_gdno rfl rfl rfl rfl (J_gdno rfl rfl rfl rfl (J_st (R_pickF rfl rfl) rfl (J_cutEnd ⟨rfl, rfl, rfl, rfl, rfl, congrArg (fun b => some (Value.bool b)) (show false = (((decide (x.nodes = y.nodes)) && (x.workers == y.workers)) && (x.cap == y.cap)) by first | (rw [hg1] <;> rfl) | (simp [hg1]; done) | (simp only [nat_nlt] <;> simp)), trivial⟩ rfl)))))))))))))
  rintro _ rfl
  refine J_st (R_assign rfl) rfl (J_done ?_)
  refine S_ret (E_done1 rfl rfl E ?_)
  refine congrArg Value.bool (Bool.eq_iff_iff.2 ?_); cases x; cases y; simp [and_assoc]

set_option maxHeartbeats 4000000 in
set_option maxRecDepth 20000 in
theorem c_NodeOk (cx : List Value) (x : Node) (w : World) (hx : Dat.R w 0 w.heap.size cx x) : Ct Try.prog 50 [.agg cx.toArray] w (fun v _ => v = .bool (nodeOk x)) := by
  refine ct_of Try.func50 rfl Try.ntmps50 rfl ?_
  obtain ⟨o1, rfl, hd1⟩ := Node.op hx
  refine S_sub [(0, .agg [.int .i64 x.kind, .int .i64 x.a, .int .i64 x.b, o1].toArray)] ⟨rfl, trivial⟩ ?_
  have E : Ext w w := Ext.refl w
  refine S_seq ?_
  refine S_reg [false, true] rfl rfl ?_
  refine J_box rfl rfl (fun b1 w1 e1 s1 h1 => ?_)
  have g_b1 : w.heap.size ≤ b1 := by have := E.size; omega
  have y_b1 := h1.lt
  replace E := E.trans e1
  have z1 := e1.size
  refine J_st (R_assign rfl) rfl (J_done ?_)
  refine S_seq ?_
  refine S_seq ?_
  refine S_reg [true, true] rfl rfl ?_
  refine J_st (R_fieldAddr0 fl37_0 rfl) rfl (J_st (R_load sc3 rfl (h1.one 0 rfl)) rfl (J_done ?_))
  refine S_cutG (fun (_ : Unit) => [(1, .pointer (some ⟨b1, 0, none⟩)), (2, .bool false)]) (fun (_ : Unit) w' => Ext w w' ∧ w1.heap.size ≤ w'.heap.size ∧ Blk w' b1 ([.int .i64 x.kind, .int .i64 x.a, .int .i64 x.b, o1]) ∧ kindOk x = true) ?_ ?_
  · refine S_block ?_
    refine S_seq ?_
    refine S_reg [true, true] rfl rfl ?_
    refine J_st (R_eql rfl rfl) rfl (J_st (R_assign rfl) rfl (J_done ?_))
    refine S_cond rfl (fun hc1 => ?_) (fun hc1 => ?_)
    · refine S_seq ?_
      refine S_reg [true, true, false, true, true, true, true, true, true] rfl rfl ?_
      refine J_st (R_fieldAddr0 fl37_1 rfl) rfl (J_st (R_load sc3 rfl (h1.one 1 rfl)) rfl ?_)
      refine J_call Try.call49 rfl (c_within x.a 0 999 _ ) rfl (fun _ w2 e2 hv => ?_)
      subst hv
      replace E := E.trans e2; replace h1 := h1.ext e2
      have z3 := e2.size
      refine J_st (R_not rfl) rfl (J_st (R_move rfl) rfl ?_)
      refine J_cut 4 [(0, .agg [.int .i64 x.kind, .int .i64 x.a, .int .i64 x.b, o1].toArray), (1, .pointer (some ⟨b1, 0, none⟩)), (2, .bool false), (5, .pointer (some ⟨b1, 0, none⟩)), (6, .int .i64 x.kind), (7, .bool (x.kind == 2)), (8, .bool (x.kind == 2)), (17, .bool ((!(win x.a 0 999)) || (x.b != 0)))] (fun w' => w2 = w') ?_ ?_
      · refine J_if (gd := 13) rfl rfl (fun hg1 => ?_) (fun hg1 => ?_)
        · refine J_gdno rfl rfl rfl rfl (J_gdno rfl rfl rfl rfl (J_gdno rfl rfl rfl rfl (J_st (R_pickT rfl rfl) rfl (J_cutEnd ⟨rfl, rfl, rfl, rfl, rfl, rfl, rfl, congrArg (fun b => some (Value.bool b)) (show true = ((!(win x.a 0 999)) || (x.b != 0)) by first | (rw [hg1] <;> rfl) | (simp [hg1]; done) | (simp only [nat_nlt] <;> simp)), trivial⟩ rfl))))
        · refine J_gd rfl rfl (R_fieldAddr0 fl37_2 rfl) rfl (J_gd rfl rfl (R_load sc3 rfl (h1.one 2 rfl)) rfl (J_gd rfl rfl (R_neq rfl rfl) rfl (J_st (R_pickF rfl rfl) rfl (J_cutEnd ⟨rfl, rfl, rfl, rfl, rfl, rfl, rfl, congrArg (fun b => some (Value.bool b)) (show (x.b != 0) = ((!(win x.a 0 999)) || (x.b != 0)) by first | (rw [hg1] <;> rfl) | (simp [hg1]; done) | (simp only [nat_nlt] <;> simp)), trivial⟩ rfl))))
      rintro _ rfl
      refine J_done ?_
      refine S_cond rfl (fun hc2 => ?_) (fun hc2 => ?_)
      · refine S_seq ?_
        refine S_reg [true] rfl rfl ?_
        refine J_st (R_assign rfl) rfl (J_done ?_)
        refine S_ret (E_inB_ret (E_cut_ret (E_done1 rfl rfl E ?_)))
        exact node_k (by rw [node_2 (by assumption)]; exact kx (by assumption))
      · refine S_skip ?_
        refine S_nil (E_inB ?_)
        refine S_nil (E_cutG () ⟨rfl, rfl, trivial⟩ ⟨E, (by omega), h1, (by rw [node_2 (by assumption)]; exact ky (by assumption))⟩)
    · refine S_seq ?_
      refine S_reg [true, true] rfl rfl ?_
      refine J_st (R_eql rfl rfl) rfl (J_st (R_assign rfl) rfl (J_done ?_))
      refine S_cond rfl (fun hc3 => ?_) (fun hc3 => ?_)
      · refine S_seq ?_
        refine S_reg [true, true, false, true, true, true, true, true, true, true, false, true, true] rfl rfl ?_
        refine J_st (R_fieldAddr0 fl37_1 rfl) rfl (J_st (R_load sc3 rfl (h1.one 1 rfl)) rfl ?_)
        refine J_call Try.call49 rfl (c_within x.a 1 10 _ ) rfl (fun _ w4 e3 hv => ?_)
        subst hv
        replace E := E.trans e3; replace h1 := h1.ext e3
        have z4 := e3.size
        refine J_st (R_not rfl) rfl (J_st (R_move rfl) rfl ?_)
        refine J_cut 8 [(0, .agg [.int .i64 x.kind, .int .i64 x.a, .int .i64 x.b, o1].toArray), (1, .pointer (some ⟨b1, 0, none⟩)), (2, .bool false), (5, .pointer (some ⟨b1, 0, none⟩)), (6, .int .i64 x.kind), (7, .bool (x.kind == 2)), (8, .bool (x.kind == 2)), (18, .bool (x.kind == 3)), (19, .bool (x.kind == 3)), (32, .bool ((!(win x.a 1 10)) || (!(win x.b 0 (IntKind.i64.wrap (x.a - 1))))))] (fun w' => Ext w w' ∧ w4.heap.size ≤ w'.heap.size ∧ Blk w' b1 ([.int .i64 x.kind, .int .i64 x.a, .int .i64 x.b, o1])) ?_ ?_
        · refine J_if (gd := 24) rfl rfl (fun hg2 => ?_) (fun hg2 => ?_)
          · refine J_gdno rfl rfl rfl rfl (J_gdno rfl rfl rfl rfl (J_gdno rfl rfl rfl rfl (J_gdno rfl rfl rfl rfl (J_gdno rfl rfl rfl rfl ?_))))
            refine J_ungno rfl rfl rfl rfl ?_
            refine J_gdno rfl rfl rfl rfl (J_st (R_pickT rfl rfl) rfl (J_cutEnd ⟨rfl, rfl, rfl, rfl, rfl, rfl, rfl, rfl, rfl, congrArg (fun b => some (Value.bool b)) (show true = ((!(win x.a 1 10)) || (!(win x.b 0 (IntKind.i64.wrap (x.a - 1))))) by first | (rw [hg2] <;> rfl) | (simp [hg2]; done) | (simp only [nat_nlt] <;> simp)), trivial⟩ ⟨E, (by omega), h1⟩))
          · refine J_gd rfl rfl (R_fieldAddr0 fl37_2 rfl) rfl (J_gd rfl rfl (R_load sc3 rfl (h1.one 2 rfl)) rfl (J_gd rfl rfl (R_fieldAddr0 fl37_1 rfl) rfl (J_gd rfl rfl (R_load sc3 rfl (h1.one 1 rfl)) rfl (J_gd rfl rfl (R_sub rfl rfl rfl) rfl ?_))))
            refine J_ung rfl rfl ?_
            refine J_call Try.call49 rfl (c_within x.b 0 (IntKind.i64.wrap (x.a - 1)) _ ) rfl (fun _ w6 e4 hv => ?_)
            subst hv
            replace E := E.trans e4; replace h1 := h1.ext e4
            have z5 := e4.size
            refine J_gd rfl rfl (R_not rfl) rfl (J_st (R_pickF rfl rfl) rfl (J_cutEnd ⟨rfl, rfl, rfl, rfl, rfl, rfl, rfl, rfl, rfl, congrArg (fun b => some (Value.bool b)) (show (!(win x.b 0 (IntKind.i64.wrap (x.a - 1)))) = ((!(win x.a 1 10)) || (!(win x.b 0 (IntKind.i64.wrap (x.a - 1))))) by first | (rw [hg2] <;> rfl) | (simp [hg2]; done) | (simp only [nat_nlt] <;> simp)), trivial⟩ ⟨E, (by omega), h1⟩))
        clear E h1
        rintro w5 ⟨E, z6, h1⟩
        refine J_done ?_
        refine S_cond rfl (fun hc4 => ?_) (fun hc4 => ?_)
        · refine S_seq ?_
          refine S_reg [true] rfl rfl ?_
          refine J_st (R_assign rfl) rfl (J_done ?_)
          refine S_ret (E_inB_ret (E_cut_ret (E_done1 rfl rfl E ?_)))
          exact node_k (by rw [node_3 (by assumption)]; exact kx (by assumption))
        · refine S_skip ?_
          refine S_nil (E_inB ?_)
          refine S_nil (E_cutG () ⟨rfl, rfl, trivial⟩ ⟨E, (by omega), h1, (by rw [node_3 (by assumption)]; exact ky (by assumption))⟩)
      · refine S_seq ?_
        refine S_reg [true, true] rfl rfl ?_
        refine J_st (R_eql rfl rfl) rfl (J_st (R_assign rfl) rfl (J_done ?_))
        refine S_cond rfl (fun hc5 => ?_) (fun hc5 => ?_)
        · refine S_seq ?_
          refine S_reg [true, true, false, true, true, true, true, true, true] rfl rfl ?_
          refine J_st (R_fieldAddr0 fl37_1 rfl) rfl (J_st (R_load sc3 rfl (h1.one 1 rfl)) rfl ?_)
          refine J_call Try.call49 rfl (c_within x.a 0 99 _ ) rfl (fun _ w7 e5 hv => ?_)
          subst hv
          replace E := E.trans e5; replace h1 := h1.ext e5
          have z7 := e5.size
          refine J_st (R_not rfl) rfl (J_st (R_move rfl) rfl ?_)
          refine J_cut 4 [(0, .agg [.int .i64 x.kind, .int .i64 x.a, .int .i64 x.b, o1].toArray), (1, .pointer (some ⟨b1, 0, none⟩)), (2, .bool false), (5, .pointer (some ⟨b1, 0, none⟩)), (6, .int .i64 x.kind), (7, .bool (x.kind == 2)), (8, .bool (x.kind == 2)), (18, .bool (x.kind == 3)), (19, .bool (x.kind == 3)), (33, .bool (x.kind == 4)), (34, .bool (x.kind == 4)), (43, .bool ((!(win x.a 0 99)) || (x.b != 0)))] (fun w' => w7 = w') ?_ ?_
          · refine J_if (gd := 39) rfl rfl (fun hg3 => ?_) (fun hg3 => ?_)
            · refine J_gdno rfl rfl rfl rfl (J_gdno rfl rfl rfl rfl (J_gdno rfl rfl rfl rfl (J_st (R_pickT rfl rfl) rfl (J_cutEnd ⟨rfl, rfl, rfl, rfl, rfl, rfl, rfl, rfl, rfl, rfl, rfl, congrArg (fun b => some (Value.bool b)) (show true = ((!(win x.a 0 99)) || (x.b != 0)) by first | (rw [hg3] <;> rfl) | (simp [hg3]; done) | (simp only [nat_nlt] <;> simp)), trivial⟩ rfl))))
            · refine J_gd rfl rfl (R_fieldAddr0 fl37_2 rfl) rfl (J_gd rfl rfl (R_load sc3 rfl (h1.one 2 rfl)) rfl (J_gd rfl rfl (R_neq rfl rfl) rfl (J_st (R_pickF rfl rfl) rfl (J_cutEnd ⟨rfl, rfl, rfl, rfl, rfl, rfl, rfl, rfl, rfl, rfl, rfl, congrArg (fun b => some (Value.bool b)) (show (x.b != 0) = ((!(win x.a 0 99)) || (x.b != 0)) by first | (rw [hg3] <;> rfl) | (simp [hg3]; done) | (simp only [nat_nlt] <;> simp)), trivial⟩ rfl))))
          rintro _ rfl
          refine J_done ?_
          refine S_cond rfl (fun hc6 => ?_) (fun hc6 => ?_)
          · refine S_seq ?_
            refine S_reg [true] rfl rfl ?_
            refine J_st (R_assign rfl) rfl (J_done ?_)
            refine S_ret (E_inB_ret (E_cut_ret (E_done1 rfl rfl E ?_)))
            exact node_k (by rw [node_4 (by assumption)]; exact kx (by assumption))
          · refine S_skip ?_
            refine S_nil (E_inB ?_)
            refine S_nil (E_cutG () ⟨rfl, rfl, trivial⟩ ⟨E, (by omega), h1, (by rw [node_4 (by assumption)]; exact ky (by assumption))⟩)
        · refine S_seq ?_
          refine S_seq ?_
          refine S_reg [true, true] rfl rfl ?_
          refine J_st (R_eql rfl rfl) rfl (J_st (R_assign rfl) rfl (J_done ?_))
          refine S_cond rfl (fun hc7 => ?_) (fun hc7 => ?_)
          · refine S_skip ?_
            refine S_condTe rfl hc7 ?_
            refine S_seq ?_
            refine S_reg [true, true, true, true, true, true, true, true] rfl rfl ?_
            refine J_st (R_fieldAddr0 fl37_1 rfl) rfl (J_st (R_load sc3 rfl (h1.one 1 rfl)) rfl (J_st (R_neq rfl rfl) rfl (J_st (R_move rfl) rfl ?_)))
            refine J_cut 4 [(0, .agg [.int .i64 x.kind, .int .i64 x.a, .int .i64 x.b, o1].toArray), (1, .pointer (some ⟨b1, 0, none⟩)), (2, .bool false), (5, .pointer (some ⟨b1, 0, none⟩)), (6, .int .i64 x.kind), (7, .bool (x.kind == 2)), (8, .bool (x.kind == 2)), (18, .bool (x.kind == 3)), (19, .bool (x.kind == 3)), (33, .bool (x.kind == 4)), (34, .bool (x.kind == 4)), (44, .bool (x.kind == 1)), (45, .bool (x.kind == 1)), (57, .bool ((x.a != 0) || (x.b != 0)))] (fun w' => w1 = w') ?_ ?_
            · refine J_if (gd := 53) rfl rfl (fun hg4 => ?_) (fun hg4 => ?_)
              · refine J_gdno rfl rfl rfl rfl (J_gdno rfl rfl rfl rfl (J_gdno rfl rfl rfl rfl (J_st (R_pickT rfl rfl) rfl (J_cutEnd ⟨rfl, rfl, rfl, rfl, rfl, rfl, rfl, rfl, rfl, rfl, rfl, rfl, rfl, congrArg (fun b => some (Value.bool b)) (show true = ((x.a != 0) || (x.b != 0)) by first | (rw [hg4] <;> rfl) | (simp [hg4]; done) | (simp only [nat_nlt] <;> simp)), trivial⟩ rfl))))
              · refine J_gd rfl rfl (R_fieldAddr0 fl37_2 rfl) rfl (J_gd rfl rfl (R_load sc3 rfl (h1.one 2 rfl)) rfl (J_gd rfl rfl (R_neq rfl rfl) rfl (J_st (R_pickF rfl rfl) rfl (J_cutEnd ⟨rfl, rfl, rfl, rfl, rfl, rfl, rfl, rfl, rfl, rfl, rfl, rfl, rfl, congrArg (fun b => some (Value.bool b)) (show (x.b != 0) = ((x.a != 0) || (x.b != 0)) by first | (rw [hg4] <;> rfl) | (simp [hg4]; done) | (simp only [nat_nlt] <;> simp)), trivial⟩ rfl))))
            rintro _ rfl
            refine J_done ?_
            refine S_cond rfl (fun hc8 => ?_) (fun hc8 => ?_)
            · refine S_seq ?_
              refine S_reg [true] rfl rfl ?_
              refine J_st (R_assign rfl) rfl (J_done ?_)
              refine S_ret (E_inB_ret (E_cut_ret (E_done1 rfl rfl E ?_)))
              exact node_k (by rw [node_0 (by assumption) (by assumption) (by assumption)]; exact kx0 (by assumption))
            · refine S_skip ?_
              refine S_nil (E_inB ?_)
              refine S_nil (E_cutG () ⟨rfl, rfl, trivial⟩ ⟨E, (by omega), h1, (by rw [node_0 (by assumption) (by assumption) (by assumption)]; exact ky0 (by assumption) (win_kind (by simp at *; omega)))⟩)
          · refine S_seq ?_
            refine S_reg [true, true] rfl rfl ?_
            refine J_st (R_eql rfl rfl) rfl (J_st (R_assign rfl) rfl (J_done ?_))
            refine S_cond rfl (fun hc9 => ?_) (fun hc9 => ?_)
            · refine S_skip ?_
              refine S_condTe rfl hc9 ?_
              refine S_seq ?_
              refine S_reg [true, true, true, true, true, true, true, true] rfl rfl ?_
              refine J_st (R_fieldAddr0 fl37_1 rfl) rfl (J_st (R_load sc3 rfl (h1.one 1 rfl)) rfl (J_st (R_neq rfl rfl) rfl (J_st (R_move rfl) rfl ?_)))
              refine J_cut 4 [(0, .agg [.int .i64 x.kind, .int .i64 x.a, .int .i64 x.b, o1].toArray), (1, .pointer (some ⟨b1, 0, none⟩)), (2, .bool false), (5, .pointer (some ⟨b1, 0, none⟩)), (6, .int .i64 x.kind), (7, .bool (x.kind == 2)), (8, .bool (x.kind == 2)), (18, .bool (x.kind == 3)), (19, .bool (x.kind == 3)), (33, .bool (x.kind == 4)), (34, .bool (x.kind == 4)), (44, .bool (x.kind == 5)), (45, .bool (x.kind == 1)), (46, .bool (x.kind == 5)), (57, .bool ((x.a != 0) || (x.b != 0)))] (fun w' => w1 = w') ?_ ?_
              · refine J_if (gd := 53) rfl rfl (fun hg5 => ?_) (fun hg5 => ?_)
                · refine J_gdno rfl rfl rfl rfl (J_gdno rfl rfl rfl rfl (J_gdno rfl rfl rfl rfl (J_st (R_pickT rfl rfl) rfl (J_cutEnd ⟨rfl, rfl, rfl, rfl, rfl, rfl, rfl, rfl, rfl, rfl, rfl, rfl, rfl, rfl, congrArg (fun b => some (Value.bool b)) (show true = ((x.a != 0) || (x.b != 0)) by first | (rw [hg5] <;> rfl) | (simp [hg5]; done) | (simp only [nat_nlt] <;> simp)), trivial⟩ rfl))))
                · refine J_gd rfl rfl (R_fieldAddr0 fl37_2 rfl) rfl (J_gd rfl rfl (R_load sc3 rfl (h1.one 2 rfl)) rfl (J_gd rfl rfl (R_neq rfl rfl) rfl (J_st (R_pickF rfl rfl) rfl (J_cutEnd ⟨rfl, rfl, rfl, rfl, rfl, rfl, rfl, rfl, rfl, rfl, rfl, rfl, rfl, rfl, congrArg (fun b => some (Value.bool b)) (show (x.b != 0) = ((x.a != 0) || (x.b != 0)) by first | (rw [hg5] <;> rfl) | (simp [hg5]; done) | (simp only [nat_nlt] <;> simp)), trivial⟩ rfl))))
              rintro _ rfl
              refine J_done ?_
              refine S_cond rfl (fun hc10 => ?_) (fun hc10 => ?_)
              · refine S_seq ?_
                refine S_reg [true] rfl rfl ?_
                refine J_st (R_assign rfl) rfl (J_done ?_)
                refine S_ret (E_inB_ret (E_cut_ret (E_done1 rfl rfl E ?_)))
                exact node_k (by rw [node_0 (by assumption) (by assumption) (by assumption)]; exact kx0 (by assumption))
              · refine S_skip ?_
                refine S_nil (E_inB ?_)
                refine S_nil (E_cutG () ⟨rfl, rfl, trivial⟩ ⟨E, (by omega), h1, (by rw [node_0 (by assumption) (by assumption) (by assumption)]; exact ky0 (by assumption) (win_kind (by simp at *; omega)))⟩)
            · refine S_seq ?_
              refine S_reg [true, true] rfl rfl ?_
              refine J_st (R_eql rfl rfl) rfl (J_st (R_assign rfl) rfl (J_done ?_))
              refine S_cond rfl (fun hc11 => ?_) (fun hc11 => ?_)
              · refine S_skip ?_
                refine S_condTe rfl hc11 ?_
                refine S_seq ?_
                refine S_reg [true, true, true, true, true, true, true, true] rfl rfl ?_
                refine J_st (R_fieldAddr0 fl37_1 rfl) rfl (J_st (R_load sc3 rfl (h1.one 1 rfl)) rfl (J_st (R_neq rfl rfl) rfl (J_st (R_move rfl) rfl ?_)))
                refine J_cut 4 [(0, .agg [.int .i64 x.kind, .int .i64 x.a, .int .i64 x.b, o1].toArray), (1, .pointer (some ⟨b1, 0, none⟩)), (2, .bool false), (5, .pointer (some ⟨b1, 0, none⟩)), (6, .int .i64 x.kind), (7, .bool (x.kind == 2)), (8, .bool (x.kind == 2)), (18, .bool (x.kind == 3)), (19, .bool (x.kind == 3)), (33, .bool (x.kind == 4)), (34, .bool (x.kind == 4)), (44, .bool (x.kind == 6)), (45, .bool (x.kind == 1)), (46, .bool (x.kind == 5)), (47, .bool (x.kind == 6)), (57, .bool ((x.a != 0) || (x.b != 0)))] (fun w' => w1 = w') ?_ ?_
                · refine J_if (gd := 53) rfl rfl (fun hg6 => ?_) (fun hg6 => ?_)
                  · refine J_gdno rfl rfl rfl rfl (J_gdno rfl rfl rfl rfl (J_gdno rfl rfl rfl rfl (J_st (R_pickT rfl rfl) rfl (J_cutEnd ⟨rfl, rfl, rfl, rfl, rfl, rfl, rfl, rfl, rfl, rfl, rfl, rfl, rfl, rfl, rfl, congrArg (fun b => some (Value.bool b)) (show true = ((x.a != 0) || (x.b != 0)) by first | (rw [hg6] <;> rfl) | (simp [hg6]; done) | (simp only [nat_nlt] <;> simp)), trivial⟩ rfl))))
                  · refine J_gd rfl rfl (R_fieldAddr0 fl37_2 rfl) rfl (J_gd rfl rfl (R_load sc3 rfl (h1.one 2 rfl)) rfl (J_gd rfl rfl (R_neq rfl rfl) rfl (J_st (R_pickF rfl rfl) rfl (J_cutEnd ⟨rfl, rfl, rfl, rfl, rfl, rfl, rfl, rfl, rfl, rfl, rfl, rfl, rfl, rfl, rfl, congrArg (fun b => some (Value.bool b)) (show (x.b != 0) = ((x.a != 0) || (x.b != 0)) by first | (rw [hg6] <;> rfl) | (simp [hg6]; done) | (simp only [nat_nlt] <;> simp)), trivial⟩ rfl))))
                rintro _ rfl
                refine J_done ?_
                refine S_cond rfl (fun hc12 => ?_) (fun hc12 => ?_)
                · refine S_seq ?_
                  refine S_reg [true] rfl rfl ?_
                  refine J_st (R_assign rfl) rfl (J_done ?_)
                  refine S_ret (E_inB_ret (E_cut_ret (E_done1 rfl rfl E ?_)))
                  exact node_k (by rw [node_0 (by assumption) (by assumption) (by assumption)]; exact kx0 (by assumption))
                · refine S_skip ?_
                  refine S_nil (E_inB ?_)
                  refine S_nil (E_cutG () ⟨rfl, rfl, trivial⟩ ⟨E, (by omega), h1, (by rw [node_0 (by assumption) (by assumption) (by assumption)]; exact ky0 (by assumption) (win_kind (by simp at *; omega)))⟩)
              · refine S_seq ?_
                refine S_reg [true, true] rfl rfl ?_
                refine J_st (R_eql rfl rfl) rfl (J_st (R_assign rfl) rfl (J_done ?_))
                refine S_cond rfl (fun hc13 => ?_) (fun hc13 => ?_)
                · refine S_skip ?_
                  refine S_condTe rfl hc13 ?_
                  refine S_seq ?_
                  refine S_reg [true, true, true, true, true, true, true, true] rfl rfl ?_
                  refine J_st (R_fieldAddr0 fl37_1 rfl) rfl (J_st (R_load sc3 rfl (h1.one 1 rfl)) rfl (J_st (R_neq rfl rfl) rfl (J_st (R_move rfl) rfl ?_)))
                  refine J_cut 4 [(0, .agg [.int .i64 x.kind, .int .i64 x.a, .int .i64 x.b, o1].toArray), (1, .pointer (some ⟨b1, 0, none⟩)), (2, .bool false), (5, .pointer (some ⟨b1, 0, none⟩)), (6, .int .i64 x.kind), (7, .bool (x.kind == 2)), (8, .bool (x.kind == 2)), (18, .bool (x.kind == 3)), (19, .bool (x.kind == 3)), (33, .bool (x.kind == 4)), (34, .bool (x.kind == 4)), (44, .bool (x.kind == 7)), (45, .bool (x.kind == 1)), (46, .bool (x.kind == 5)), (47, .bool (x.kind == 6)), (48, .bool (x.kind == 7)), (57, .bool ((x.a != 0) || (x.b != 0)))] (fun w' => w1 = w') ?_ ?_
                  · refine J_if (gd := 53) rfl rfl (fun hg7 => ?_) (fun hg7 => ?_)
                    · refine J_gdno rfl rfl rfl rfl (J_gdno rfl rfl rfl rfl (J_gdno rfl rfl rfl rfl (J_st (R_pickT rfl rfl) rfl (J_cutEnd ⟨rfl, rfl, rfl, rfl, rfl, rfl, rfl, rfl, rfl, rfl, rfl, rfl, rfl, rfl, rfl, rfl, congrArg (fun b => some (Value.bool b)) (show true = ((x.a != 0) || (x.b != 0)) by first | (rw [hg7] <;> rfl) | (simp [hg7]; done) | (simp only [nat_nlt] <;> simp)), trivial⟩ rfl))))
                    · refine J_gd rfl rfl (R_fieldAddr0 fl37_2 rfl) rfl (J_gd rfl rfl (R_load sc3 rfl (h1.one 2 rfl)) rfl (J_gd rfl rfl (R_neq rfl rfl) rfl (J_st (R_pickF rfl rfl) rfl (J_cutEnd ⟨rfl, rfl, rfl, rfl, rfl, rfl, rfl, rfl, rfl, rfl, rfl, rfl, rfl, rfl, rfl, rfl, congrArg (fun b => some (Value.bool b)) (show (x.b != 0) = ((x.a != 0) || (x.b != 0)) by first | (rw [hg7] <;> rfl) | (simp [hg7]; done) | (simp only [nat_nlt] <;> simp)), trivial⟩ rfl))))
                  rintro _ rfl
                  refine J_done ?_
                  refine S_cond rfl (fun hc14 => ?_) (fun hc14 => ?_)
                  · refine S_seq ?_
                    refine S_reg [true] rfl rfl ?_
                    refine J_st (R_assign rfl) rfl (J_done ?_)
                    refine S_ret (E_inB_ret (E_cut_ret (E_done1 rfl rfl E ?_)))
                    exact node_k (by rw [node_0 (by assumption) (by assumption) (by assumption)]; exact kx0 (by assumption))
                  · refine S_skip ?_
                    refine S_nil (E_inB ?_)
                    refine S_nil (E_cutG () ⟨rfl, rfl, trivial⟩ ⟨E, (by omega), h1, (by rw [node_0 (by assumption) (by assumption) (by assumption)]; exact ky0 (by assumption) (win_kind (by simp at *; omega)))⟩)
                · refine S_reg [true, true] rfl rfl ?_
                  refine J_st (R_eql rfl rfl) rfl (J_st (R_assign rfl) rfl (J_done ?_))
                  refine S_cond rfl (fun hc15 => ?_) (fun hc15 => ?_)
                  · refine S_seq ?_
                    refine S_reg [true, true, true, true, true, true, true, true] rfl rfl ?_
                    refine J_st (R_fieldAddr0 fl37_1 rfl) rfl (J_st (R_load sc3 rfl (h1.one 1 rfl)) rfl (J_st (R_neq rfl rfl) rfl (J_st (R_move rfl) rfl ?_)))
                    refine J_cut 4 [(0, .agg [.int .i64 x.kind, .int .i64 x.a, .int .i64 x.b, o1].toArray), (1, .pointer (some ⟨b1, 0, none⟩)), (2, .bool false), (5, .pointer (some ⟨b1, 0, none⟩)), (6, .int .i64 x.kind), (7, .bool (x.kind == 2)), (8, .bool (x.kind == 2)), (18, .bool (x.kind == 3)), (19, .bool (x.kind == 3)), (33, .bool (x.kind == 4)), (34, .bool (x.kind == 4)), (44, .bool (x.kind == 8)), (45, .bool (x.kind == 1)), (46, .bool (x.kind == 5)), (47, .bool (x.kind == 6)), (48, .bool (x.kind == 7)), (49, .bool (x.kind == 8)), (57, .bool ((x.a != 0) || (x.b != 0)))] (fun w' => w1 = w') ?_ ?_
                    · refine J_if (gd := 53) rfl rfl (fun hg8 => ?_) (fun hg8 => ?_)
                      · refine J_gdno rfl rfl rfl rfl (J_gdno rfl rfl rfl rfl (J_gdno rfl rfl rfl rfl (J_st (R_pickT rfl rfl) rfl (J_cutEnd ⟨rfl, rfl, rfl, rfl, rfl, rfl, rfl, rfl, rfl, rfl, rfl, rfl, rfl, rfl, rfl, rfl, rfl, congrArg (fun b => some (Value.bool b)) (show true = ((x.a != 0) || (x.b != 0)) by first | (rw [hg8] <;> rfl) | (simp [hg8]; done) | (simp only [nat_nlt] <;> simp)), trivial⟩ rfl))))
                      · refine J_gd rfl rfl (R_fieldAddr0 fl37_2 rfl) rfl (J_gd rfl rfl (R_load sc3 rfl (h1.one 2 rfl)) rfl (J_gd rfl rfl (R_neq rfl rfl) rfl (J_st (R_pickF rfl rfl) rfl (J_cutEnd ⟨rfl, rfl, rfl, rfl, rfl, rfl, rfl, rfl, rfl, rfl, rfl, rfl, rfl, rfl, rfl, rfl, rfl, congrArg (fun b => some (Value.bool b)) (show (x.b != 0) = ((x.a != 0) || (x.b != 0)) by first | (rw [hg8] <;> rfl) | (simp [hg8]; done) | (simp only [nat_nlt] <;> simp)), trivial⟩ rfl))))
                    rintro _ rfl
                    refine J_done ?_
                    refine S_cond rfl (fun hc16 => ?_) (fun hc16 => ?_)
                    · refine S_seq ?_
                      refine S_reg [true] rfl rfl ?_
                      refine J_st (R_assign rfl) rfl (J_done ?_)
                      refine S_ret (E_inB_ret (E_cut_ret (E_done1 rfl rfl E ?_)))
                      exact node_k (by rw [node_0 (by assumption) (by assumption) (by assumption)]; exact kx0 (by assumption))
                    · refine S_skip ?_
                      refine S_nil (E_inB ?_)
                      refine S_nil (E_cutG () ⟨rfl, rfl, trivial⟩ ⟨E, (by omega), h1, (by rw [node_0 (by assumption) (by assumption) (by assumption)]; exact ky0 (by assumption) (win_kind (by simp at *; omega)))⟩)
                  · refine S_seq ?_
                    refine S_reg [true] rfl rfl ?_
                    refine J_st (R_assign rfl) rfl (J_done ?_)
                    refine S_ret (E_inB_ret (E_cut_ret (E_done1 rfl rfl E ?_)))
                    exact node_k (by rw [node_0 (by assumption) (by assumption) (by assumption), win_not (by simp at *; omega)]; rfl)
  · clear E h1
    rintro _ w14 ⟨E, z2, h1, hkk⟩
    refine S_seq ?_
    refine S_seq ?_
    refine S_regD mixed [(0, true), (1, true), (2, true), (3, true), (4, true), (5, true), (6, true), (7, true), (8, true), (9, true), (10, true), (11, true), (12, true), (13, true), (14, true), (15, true), (16, true), (17, true), (18, true), (19, true), (20, true), (21, true), (22, true), (23, true), (24, true), (25, true), (26, true), (27, true), (28, true), (29, true), (30, true), (31, true)] (by decide +kernel) rfl (fun w15 e6 => ?_)
    replace E := E.trans e6; replace h1 := h1.ext e6
    have z8 := e6.size
    refine J_st (R_fieldAddr0 fl37_3 rfl) rfl (J_st (R_load sc30 rfl (h1.one 3 rfl)) rfl (J_st (R_len Try.underlying30 rfl (hd1.ext E).len) rfl (J_st (R_gtr rfl rfl) rfl (J_st (R_move rfl) rfl ?_))))
    refine J_cut 27 [(1, .pointer (some ⟨b1, 0, none⟩)), (2, .bool false), (89, .bool (((decide (2 < ((x.outs.length : Nat) : Int))) || ((x.kind == 8) && (decide (0 < ((x.outs.length : Nat) : Int))))) || ((((x.outs.length : Nat) : Int) == 2) && ((List.getD x.outs 0 default) == (List.getD x.outs 1 default)))))] (fun w' => w15 = w') ?_ ?_
    · refine J_if (gd := 62) rfl rfl (fun hg9 => ?_) (fun hg9 => ?_)
      · have hg9n : x.outs.length > 2 := by first | (have h := of_decide_eq_true hg9; omega) | (have h := hg9; simp at h; omega)
        refine J_gdno rfl rfl rfl rfl (J_gdno rfl rfl rfl rfl (J_gdno rfl rfl rfl rfl (J_gdno rfl rfl rfl rfl (J_gdx rfl rfl rfl (J_gdx rfl rfl rfl (J_gdx rfl rfl rfl (J_gdx rfl rfl rfl (J_gdno rfl rfl rfl rfl (J_st (R_pickT rfl rfl) rfl (J_st (R_move rfl) rfl (J_gdno rfl rfl rfl rfl (J_gdno rfl rfl rfl rfl (J_gdno rfl rfl rfl rfl (J_gdno rfl rfl rfl rfl (J_gdno rfl rfl rfl rfl (J_gdx rfl rfl rfl (J_gdx rfl rfl rfl (J_gdx rfl rfl rfl (J_gdx rfl rfl rfl (J_gdx rfl rfl rfl (J_gdx rfl rfl rfl (J_gdx rfl rfl rfl (J_gdx rfl rfl rfl (J_gdx rfl rfl rfl (J_gdno rfl rfl rfl rfl (J_st (R_pickT rfl rfl) rfl (J_cutEnd ⟨rfl, rfl, congrArg (fun b => some (Value.bool b)) (show true = (((decide (2 < ((x.outs.length : Nat) : Int))) || ((x.kind == 8) && (decide (0 < ((x.outs.length : Nat) : Int))))) || ((((x.outs.length : Nat) : Int) == 2) && ((List.getD x.outs 0 default) == (List.getD x.outs 1 default)))) by first | (rw [hg9] <;> rfl) | (simp [hg9]; done) | (simp only [nat_nlt] <;> simp)), trivial⟩ rfl)))))))))))))))))))))))))))
      · have hg9n : ¬ x.outs.length > 2 := by first | (have h := of_decide_eq_false hg9; omega) | (have h := hg9; simp at h; omega)
        refine J_gd rfl rfl (R_fieldAddr0 fl37_0 rfl) rfl (J_gd rfl rfl (R_load sc3 rfl (h1.one 0 rfl)) rfl (J_gd rfl rfl (R_eql rfl rfl) rfl (J_gd rfl rfl (R_move rfl) rfl ?_)))
        refine J_if (gd := 66) rfl rfl (fun hg10 => ?_) (fun hg10 => ?_)
        · refine J_gd rfl rfl (R_fieldAddr0 fl37_3 rfl) rfl (J_gd rfl rfl (R_load sc30 rfl (h1.one 3 rfl)) rfl (J_gd rfl rfl (R_len Try.underlying30 rfl (hd1.ext E).len) rfl (J_gd rfl rfl (R_gtr rfl rfl) rfl (J_gd rfl rfl (R_pickT rfl rfl) rfl (J_st (R_pickF rfl rfl) rfl (J_st (R_move rfl) rfl ?_))))))
          refine J_if (gd := 73) rfl rfl (fun hg11 => ?_) (fun hg11 => ?_)
          · have hg11n : x.outs.length > 0 := by first | (have h := of_decide_eq_true hg11; omega) | (have h := hg11; simp at h; omega)
            refine J_gdno rfl rfl rfl rfl (J_gdno rfl rfl rfl rfl (J_gdno rfl rfl rfl rfl (J_gdno rfl rfl rfl rfl (J_gdno rfl rfl rfl rfl (J_gdx rfl rfl rfl (J_gdx rfl rfl rfl (J_gdx rfl rfl rfl (J_gdx rfl rfl rfl (J_gdx rfl rfl rfl (J_gdx rfl rfl rfl (J_gdx rfl rfl rfl (J_gdx rfl rfl rfl (J_gdx rfl rfl rfl (J_gdno rfl rfl rfl rfl (J_st (R_pickT rfl rfl) rfl (J_cutEnd ⟨rfl, rfl, congrArg (fun b => some (Value.bool b)) (show true = (((decide (2 < ((x.outs.length : Nat) : Int))) || ((x.kind == 8) && (decide (0 < ((x.outs.length : Nat) : Int))))) || ((((x.outs.length : Nat) : Int) == 2) && ((List.getD x.outs 0 default) == (List.getD x.outs 1 default)))) by first | (rw [hg9, hg10, hg11] <;> rfl) | (simp [hg9, hg10, hg11]; done) | (simp only [nat_nlt] <;> simp)), trivial⟩ rfl))))))))))))))))
          · have hg11n : ¬ x.outs.length > 0 := by first | (have h := of_decide_eq_false hg11; omega) | (have h := hg11; simp at h; omega)
            refine J_gd rfl rfl (R_fieldAddr0 fl37_3 rfl) rfl (J_gd rfl rfl (R_load sc30 rfl (h1.one 3 rfl)) rfl (J_gd rfl rfl (R_len Try.underlying30 rfl (hd1.ext E).len) rfl (J_gd rfl rfl (R_eql rfl rfl) rfl (J_gd rfl rfl (R_move rfl) rfl ?_))))
            refine J_if (gd := 78) rfl rfl (fun hg12 => ?_) (fun hg12 => ?_)
            · have hg12n : x.outs.length = 2 := by first | (have h := of_decide_eq_true hg12; omega) | (have h := hg12; simp at h; omega)
              refine J_gd rfl rfl (R_fieldAddr0 fl37_3 rfl) rfl (J_gd rfl rfl (R_load sc30 rfl (h1.one 3 rfl)) rfl (J_gd rfl rfl (R_index (i := 0) sl30 rfl rfl (hd1.rd.ext E) (by first | assumption | omega | (simp only [List.length_set]; first | assumption | omega) | (simp only [List.getElem_set_self, List.length_set]; first | assumption | omega) | (simp only [setW, setLk, List.length_set]; first | assumption | omega) | (simp; done))) rfl (J_gd rfl rfl (R_load sc3 rfl ((RdS.getD (hd1.rd.ext E) (i := 0) (by first | assumption | omega | (simp only [List.length_set]; first | assumption | omega) | (simp only [List.getElem_set_self, List.length_set]; first | assumption | omega) | (simp only [setW, setLk, List.length_set]; first | assumption | omega) | (simp; done))).one 0 rfl)) rfl (J_gd rfl rfl (R_fieldAddr0 fl37_3 rfl) rfl (J_gd rfl rfl (R_load sc30 rfl (h1.one 3 rfl)) rfl (J_gd rfl rfl (R_index (i := 1) sl30 rfl rfl (hd1.rd.ext E) (by first | assumption | omega | (simp only [List.length_set]; first | assumption | omega) | (simp only [List.getElem_set_self, List.length_set]; first | assumption | omega) | (simp only [setW, setLk, List.length_set]; first | assumption | omega) | (simp; done))) rfl (J_gd rfl rfl (R_load sc3 rfl ((RdS.getD (hd1.rd.ext E) (i := 1) (by first | assumption | omega | (simp only [List.length_set]; first | assumption | omega) | (simp only [List.getElem_set_self, List.length_set]; first | assumption | omega) | (simp only [setW, setLk, List.length_set]; first | assumption | omega) | (simp; done))).one 0 rfl)) rfl (J_gd rfl rfl (R_eql rfl rfl) rfl (J_gd rfl rfl (R_pickT rfl rfl) rfl (J_st (R_pickF rfl rfl) rfl (J_cutEnd ⟨rfl, rfl, congrArg (fun b => some (Value.bool b)) (show ((List.getD x.outs 0 default) == (List.getD x.outs 1 default)) = (((decide (2 < ((x.outs.length : Nat) : Int))) || ((x.kind == 8) && (decide (0 < ((x.outs.length : Nat) : Int))))) || ((((x.outs.length : Nat) : Int) == 2) && ((List.getD x.outs 0 default) == (List.getD x.outs 1 default)))) by first | (rw [hg9, hg10, hg11, hg12] <;> rfl) | (simp [hg9, hg10, hg11, hg12]; done) | (simp only [nat_nlt] <;> simp)), trivial⟩ rfl)))))))))))
            · have hg12n : ¬ x.outs.length = 2 := by first | (have h := of_decide_eq_false hg12; omega) | (have h := hg12; simp at h; omega)
              refine J_gdno rfl rfl rfl rfl (J_gdno rfl rfl rfl rfl (J_gdno rfl rfl rfl rfl (J_gdno rfl rfl rfl rfl (J_gdno rfl rfl rfl rfl (J_gdno rfl rfl rfl rfl (J_gdno rfl rfl rfl rfl (J_gdno rfl rfl rfl rfl (J_gdno rfl rfl rfl rfl (J_gd rfl rfl (R_pickF rfl rfl) rfl (J_st (R_pickF rfl rfl) rfl (J_cutEnd ⟨rfl, rfl, congrArg (fun b => some (Value.bool b)) (show false = (((decide (2 < ((x.outs.length : Nat) : Int))) || ((x.kind == 8) && (decide (0 < ((x.outs.length : Nat) : Int))))) || ((((x.outs.length : Nat) : Int) == 2) && ((List.getD x.outs 0 default) == (List.getD x.outs 1 default)))) by first | (rw [hg9, hg10, hg11, hg12] <;> rfl) | (simp [hg9, hg10, hg11, hg12]; done) | (simp only [nat_nlt] <;> simp)), trivial⟩ rfl)))))))))))
        · refine J_gdno rfl rfl rfl rfl (J_gdno rfl rfl rfl rfl (J_gdno rfl rfl rfl rfl (J_gdno rfl rfl rfl rfl (J_gd rfl rfl (R_pickF rfl rfl) rfl (J_st (R_pickF rfl rfl) rfl (J_st (R_move rfl) rfl (J_gd rfl rfl (R_fieldAddr0 fl37_3 rfl) rfl (J_gd rfl rfl (R_load sc30 rfl (h1.one 3 rfl)) rfl (J_gd rfl rfl (R_len Try.underlying30 rfl (hd1.ext E).len) rfl (J_gd rfl rfl (R_eql rfl rfl) rfl (J_gd rfl rfl (R_move rfl) rfl ?_)))))))))))
          refine J_if (gd := 78) rfl rfl (fun hg13 => ?_) (fun hg13 => ?_)
          · have hg13n : x.outs.length = 2 := by first | (have h := of_decide_eq_true hg13; omega) | (have h := hg13; simp at h; omega)
            refine J_gd rfl rfl (R_fieldAddr0 fl37_3 rfl) rfl (J_gd rfl rfl (R_load sc30 rfl (h1.one 3 rfl)) rfl (J_gd rfl rfl (R_index (i := 0) sl30 rfl rfl (hd1.rd.ext E) (by first | assumption | omega | (simp only [List.length_set]; first | assumption | omega) | (simp only [List.getElem_set_self, List.length_set]; first | assumption | omega) | (simp only [setW, setLk, List.length_set]; first | assumption | omega) | (simp; done))) rfl (J_gd rfl rfl (R_load sc3 rfl ((RdS.getD (hd1.rd.ext E) (i := 0) (by first | assumption | omega | (simp only [List.length_set]; first | assumption | omega) | (simp only [List.getElem_set_self, List.length_set]; first | assumption | omega) | (simp only [setW, setLk, List.length_set]; first | assumption | omega) | (simp; done))).one 0 rfl)) rfl (J_gd rfl rfl (R_fieldAddr0 fl37_3 rfl) rfl (J_gd rfl rfl (R_load sc30 rfl (h1.one 3 rfl)) rfl (J_gd rfl rfl (R_index (i := 1) sl30 rfl rfl (hd1.rd.ext E) (by first | assumption | omega | (simp only [List.length_set]; first | assumption | omega) | (simp only [List.getElem_set_self, List.length_set]; first | assumption | omega) | (simp only [setW, setLk, List.length_set]; first | assumption | omega) | (simp; done))) rfl (J_gd rfl rfl (R_load sc3 rfl ((RdS.getD (hd1.rd.ext E) (i := 1) (by first | assumption | omega | (simp only [List.length_set]; first | assumption | omega) | (simp only [List.getElem_set_self, List.length_set]; first | assumption | omega) | (simp only [setW, setLk, List.length_set]; first | assumption | omega) | (simp; done))).one 0 rfl)) rfl (J_gd rfl rfl (R_eql rfl rfl) rfl (J_gd rfl rfl (R_pickT rfl rfl) rfl (J_st (R_pickF rfl rfl) rfl (J_cutEnd ⟨rfl, rfl, congrArg (fun b => some (Value.bool b)) (show ((List.getD x.outs 0 default) == (List.getD x.outs 1 default)) = (((decide (2 < ((x.outs.length : Nat) : Int))) || ((x.kind == 8) && (decide (0 < ((x.outs.length : Nat) : Int))))) || ((((x.outs.length : Nat) : Int) == 2) && ((List.getD x.outs 0 default) == (List.getD x.outs 1 default)))) by first | (rw [hg9, hg10, hg13] <;> rfl) | (simp [hg9, hg10, hg13]; done) | (simp only [nat_nlt] <;> simp)), trivial⟩ rfl)))))))))))
          · have hg13n : ¬ x.outs.length = 2 := by first | (have h := of_decide_eq_false hg13; omega) | (have h := hg13; simp at h; omega)
            refine J_gdno rfl rfl rfl rfl (J_gdno rfl rfl rfl rfl (J_gdno rfl rfl rfl rfl (J_gdno rfl rfl rfl rfl (J_gdno rfl rfl rfl rfl (J_gdno rfl rfl rfl rfl (J_gdno rfl rfl rfl rfl (J_gdno rfl rfl rfl rfl (J_gdno rfl rfl rfl rfl (J_gd rfl rfl (R_pickF rfl rfl) rfl (J_st (R_pickF rfl rfl) rfl (J_cutEnd ⟨rfl, rfl, congrArg (fun b => some (Value.bool b)) (show false = (((decide (2 < ((x.outs.length : Nat) : Int))) || ((x.kind == 8) && (decide (0 < ((x.outs.length : Nat) : Int))))) || ((((x.outs.length : Nat) : Int) == 2) && ((List.getD x.outs 0 default) == (List.getD x.outs 1 default)))) by first | (rw [hg9, hg10, hg13] <;> rfl) | (simp [hg9, hg10, hg13]; done) | (simp only [nat_nlt] <;> simp)), trivial⟩ rfl)))))))))))
    rintro _ rfl
    refine J_done ?_
    refine S_cond rfl (fun hc17 => ?_) (fun hc17 => ?_)
    · refine S_seq ?_
      refine S_reg [true] rfl rfl ?_
      refine J_st (R_assign rfl) rfl (J_done ?_)
      refine S_ret (E_done1 rfl rfl E ?_)
      exact node_t (by assumption)
    · refine S_skip ?_
      refine S_seq ?_
      refine S_seq ?_
      refine S_reg [true, true, true, true] rfl rfl ?_
      refine J_st (R_fieldAddr0 fl37_3 rfl) rfl (J_st (R_load sc30 rfl (h1.one 3 rfl)) rfl (J_st (R_len Try.underlying30 rfl (hd1.ext E).len) rfl (J_st (R_move rfl) rfl (J_done ?_))))
      refine S_block ?_
      refine S_loop (fun (k : Nat) => [(2, .bool false), (91, o1), (92, .int .i64 ((x.outs.length : Nat) : Int)), (93, .int .i64 ((k : Nat) : Int))]) (fun (k : Nat) w' => Ext w w' ∧ w15.heap.size ≤ w'.heap.size ∧ Blk w' b1 ([.int .i64 x.kind, .int .i64 x.a, .int .i64 x.b, o1]) ∧ k ≤ x.outs.length ∧ (x.outs.take k).all (win · 0 7) = true) (fun (k : Nat) => x.outs.length - k) 0 ⟨rfl, rfl, rfl, rfl, trivial⟩ ⟨E, Nat.le_refl _, h1, Nat.zero_le _, rfl⟩ ?_
      clear E h1
      rintro k w17 ⟨E, z9, h1, hk, hI⟩
      refine S_seq ?_
      refine S_reg [true] rfl rfl ?_
      refine J_st (R_lss rfl rfl) rfl (J_done ?_)
      refine S_seq ?_
      refine S_cond rfl (fun hc18 => ?_) (fun hc18 => ?_)
      · have hc18n : k < x.outs.length := by first | (have h := of_decide_eq_true hc18; omega) | (have h := hc18; simp at h; omega)
        refine S_skip ?_
        refine S_seq ?_
        refine S_block ?_
        refine S_seq ?_
        refine S_reg [true, true, true] rfl rfl ?_
        have hi1 : k < x.outs.length := (by first | assumption | omega | (simp only [List.length_set]; first | assumption | omega) | (simp only [List.getElem_set_self, List.length_set]; first | assumption | omega) | (simp only [setW, setLk, List.length_set]; first | assumption | omega) | (simp; done))
        refine J_st (R_index (i := k) sl30 rfl rfl (hd1.rd.ext E) hi1) rfl (J_st (R_load sc3 rfl (((hd1.rd.ext E).get hi1).one 0 rfl)) rfl (J_st (R_assign rfl) rfl (J_done ?_)))
        refine S_seq ?_
        refine S_reg [true, false, true] rfl rfl ?_
        refine J_st (R_move rfl) rfl ?_
        refine J_call Try.call49 rfl (c_within (x.outs[k]'hi1) 0 7 _ ) rfl (fun _ w18 e7 hv => ?_)
        subst hv
        replace E := E.trans e7; replace h1 := h1.ext e7
        have z10 := e7.size
        refine J_st (R_not rfl) rfl (J_done ?_)
        refine S_cond rfl (fun hc19 => ?_) (fun hc19 => ?_)
        · refine S_seq ?_
          refine S_reg [true] rfl rfl ?_
          refine J_st (R_assign rfl) rfl (J_done ?_)
          refine S_ret (E_inB_ret (E_lp_ret (E_inB_ret (E_done1 rfl rfl E ?_))))
          exact node_l (by assumption)
        · refine S_skip ?_
          refine S_nil (E_inB ?_)
          refine S_reg [true, true] rfl rfl ?_
          refine J_st (R_add rfl rfl (add_one hc18n (hd1.ext E).1.1)) rfl (J_st (R_move rfl) rfl (J_done ?_))
          refine S_nil (E_again (k + 1) (by omega) ⟨rfl, rfl, rfl, rfl, trivial⟩ ⟨E, (by omega), h1, (by omega), all_step hI (by assumption) (by simpa using (show (!(win x.outs[k] 0 7)) = false by assumption))⟩)
      · have hc18n : ¬ k < x.outs.length := by first | (have h := of_decide_eq_false hc18; omega) | (have h := hc18; simp at h; omega)
        refine S_exit (E_lp_exit (E_inB_exit ?_))
        refine S_seq ?_
        refine S_reg [true] rfl rfl ?_
        refine J_st (R_assign rfl) rfl (J_done ?_)
        refine S_ret (E_done1 rfl rfl E ?_)
        exact node_y hkk (by assumption) hI (by omega)

set_option maxHeartbeats 4000000 in
set_option maxRecDepth 20000 in
theorem s_NodeOk (cx : List Value) (x : Node) (w : World) (hx : Dat.R w 0 w.heap.size cx x) : Ct Try.prog 52 [.agg cx.toArray] w (fun v _ => v = .bool (nodeOk x)) := by
  refine ct_of Try.func52 rfl Try.ntmps52 rfl ?_
  obtain ⟨o1, rfl, hd1⟩ := Node.op hx
  refine S_sub [(0, .agg [.int .i64 x.kind, .int .i64 x.a, .int .i64 x.b, o1].toArray)] ⟨rfl, trivial⟩ ?_
  have E : Ext w w := Ext.refl w
  refine S_seq ?_
  refine S_reg [false, true] rfl rfl ?_
  refine J_box rfl rfl (fun b1 w1 e1 s1 h1 => ?_)
  have g_b1 : w.heap.size ≤ b1 := by have := E.size; omega
  have y_b1 := h1.lt
  replace E := E.trans e1
  have z1 := e1.size
  refine J_st (R_assign rfl) rfl (J_done ?_)
  refine S_seq ?_
  refine S_reg [true, true, true, true] rfl rfl ?_
  refine J_st (R_fieldAddr0 fl37_1 rfl) rfl (J_st (R_load sc3 rfl (h1.one 1 rfl)) rfl (J_st (R_eql rfl rfl) rfl (J_st (R_assign rfl) rfl (J_done ?_))))
  refine S_seq ?_
  refine S_reg [true, true, true, true] rfl rfl ?_
  refine J_st (R_fieldAddr0 fl37_2 rfl) rfl (J_st (R_load sc3 rfl (h1.one 2 rfl)) rfl (J_st (R_eql rfl rfl) rfl (J_st (R_assign rfl) rfl (J_done ?_))))
  refine S_seq ?_
  refine S_seq ?_
  refine S_reg [true, true] rfl rfl ?_
  refine J_st (R_fieldAddr0 fl37_0 rfl) rfl (J_st (R_load sc3 rfl (h1.one 0 rfl)) rfl (J_done ?_))
  refine S_cutG (fun (xq : Bool × Bool) => let ⟨p0, q0⟩ := xq; [(1, .pointer (some ⟨b1, 0, none⟩)), (2, .bool false), (3, .bool p0), (4, .bool q0)]) (fun (xq : Bool × Bool) w' => let ⟨p0, q0⟩ := xq; Ext w w' ∧ w1.heap.size ≤ w'.heap.size ∧ Blk w' b1 ([.int .i64 x.kind, .int .i64 x.a, .int .i64 x.b, o1]) ∧ kindOk x = (win x.kind 1 8 && p0 && q0)) ?_ ?_
  · refine S_block ?_
    refine S_seq ?_
    refine S_reg [true, true] rfl rfl ?_
    refine J_st (R_eql rfl rfl) rfl (J_st (R_assign rfl) rfl (J_done ?_))
    refine S_cond rfl (fun hc1 => ?_) (fun hc1 => ?_)
    · refine S_reg [true, true, false, true] rfl rfl ?_
      refine J_st (R_fieldAddr0 fl37_1 rfl) rfl (J_st (R_load sc3 rfl (h1.one 1 rfl)) rfl ?_)
      refine J_call Try.call51 rfl (s_l01In x.a 0 999 _ ) rfl (fun _ w2 e2 hv => ?_)
      subst hv
      replace E := E.trans e2; replace h1 := h1.ext e2
      have z3 := e2.size
      refine J_st (R_assign rfl) rfl (J_done ?_)
      refine S_nil (E_inB ?_)
      refine S_nil (E_cutG (win x.a 0 999, x.b == 0) ⟨rfl, rfl, rfl, rfl, trivial⟩ ⟨E, (by omega), h1, (by rw [node_2 (by assumption), win_kind (n := x.kind) (by have := eq_of_beq (show (x.kind == 2) = true by assumption); omega), Bool.true_and])⟩)
    · refine S_seq ?_
      refine S_reg [true, true] rfl rfl ?_
      refine J_st (R_eql rfl rfl) rfl (J_st (R_assign rfl) rfl (J_done ?_))
      refine S_cond rfl (fun hc2 => ?_) (fun hc2 => ?_)
      · refine S_seq ?_
        refine S_reg [true, true, false, true] rfl rfl ?_
        refine J_st (R_fieldAddr0 fl37_1 rfl) rfl (J_st (R_load sc3 rfl (h1.one 1 rfl)) rfl ?_)
        refine J_call Try.call51 rfl (s_l01In x.a 1 10 _ ) rfl (fun _ w3 e3 hv => ?_)
        subst hv
        replace E := E.trans e3; replace h1 := h1.ext e3
        have z4 := e3.size
        refine J_st (R_assign rfl) rfl (J_done ?_)
        refine S_reg [true, true, true, true, true, false, true] rfl rfl ?_
        refine J_st (R_fieldAddr0 fl37_2 rfl) rfl (J_st (R_load sc3 rfl (h1.one 2 rfl)) rfl (J_st (R_fieldAddr0 fl37_1 rfl) rfl (J_st (R_load sc3 rfl (h1.one 1 rfl)) rfl (J_st (R_sub rfl rfl rfl) rfl ?_))))
        refine J_call Try.call51 rfl (s_l01In x.b 0 (IntKind.i64.wrap (x.a - 1)) _ ) rfl (fun _ w4 e4 hv => ?_)
        subst hv
        replace E := E.trans e4; replace h1 := h1.ext e4
        have z5 := e4.size
        refine J_st (R_assign rfl) rfl (J_done ?_)
        refine S_nil (E_inB ?_)
        refine S_nil (E_cutG (win x.a 1 10, win x.b 0 (IntKind.i64.wrap (x.a - 1))) ⟨rfl, rfl, rfl, rfl, trivial⟩ ⟨E, (by omega), h1, (by rw [node_3 (by assumption), win_kind (n := x.kind) (by have := eq_of_beq (show (x.kind == 3) = true by assumption); omega), Bool.true_and])⟩)
      · refine S_seq ?_
        refine S_reg [true, true] rfl rfl ?_
        refine J_st (R_eql rfl rfl) rfl (J_st (R_assign rfl) rfl (J_done ?_))
        refine S_cond rfl (fun hc3 => ?_) (fun hc3 => ?_)
        · refine S_reg [true, true, false, true] rfl rfl ?_
          refine J_st (R_fieldAddr0 fl37_1 rfl) rfl (J_st (R_load sc3 rfl (h1.one 1 rfl)) rfl ?_)
          refine J_call Try.call51 rfl (s_l01In x.a 0 99 _ ) rfl (fun _ w5 e5 hv => ?_)
          subst hv
          replace E := E.trans e5; replace h1 := h1.ext e5
          have z6 := e5.size
          refine J_st (R_assign rfl) rfl (J_done ?_)
          refine S_nil (E_inB ?_)
          refine S_nil (E_cutG (win x.a 0 99, x.b == 0) ⟨rfl, rfl, rfl, rfl, trivial⟩ ⟨E, (by omega), h1, (by rw [node_4 (by assumption), win_kind (n := x.kind) (by have := eq_of_beq (show (x.kind == 4) = true by assumption); omega), Bool.true_and])⟩)
        · refine S_skip ?_
          refine S_nil (E_inB ?_)
          refine S_nil (E_cutG (x.a == 0, x.b == 0) ⟨rfl, rfl, rfl, rfl, trivial⟩ ⟨E, (by omega), h1, (node_0 (by assumption) (by assumption) (by assumption))⟩)
  · clear E h1
    rintro ⟨p0, q0⟩ w6 ⟨E, z2, h1, hpq⟩
    refine S_sub [(1, .pointer (some ⟨b1, 0, none⟩)), (2, .bool false), (3, .bool p0), (4, .bool q0)] ⟨rfl, rfl, rfl, rfl, trivial⟩ ?_
    refine S_seq ?_
    refine S_seq ?_
    refine S_reg [true, true, false, true, true, true, true, true, true, true, true, true, true, true, true, true, true, true, true, true, true, true, true, true, true, true, true, true, true] rfl rfl ?_
    refine J_st (R_fieldAddr0 fl37_0 rfl) rfl (J_st (R_load sc3 rfl (h1.one 0 rfl)) rfl ?_)
    refine J_call Try.call51 rfl (s_l01In x.kind 1 8 _ ) rfl (fun _ w7 e6 hv => ?_)
    subst hv
    replace E := E.trans e6; replace h1 := h1.ext e6
    have z7 := e6.size
    refine J_st (R_not rfl) rfl (J_st (R_move rfl) rfl ?_)
    refine J_cut 24 [(1, .pointer (some ⟨b1, 0, none⟩)), (2, .bool false), (3, .bool p0), (4, .bool q0), (63, .bool (((((!(win x.kind 1 8)) || (!p0)) || (!q0)) || (decide (2 < ((x.outs.length : Nat) : Int)))) || ((x.kind == 8) && (decide (0 < ((x.outs.length : Nat) : Int))))))] (fun w' => w7 = w') ?_ ?_
    · refine J_if (gd := 39) rfl rfl (fun hg1 => ?_) (fun hg1 => ?_)
      · refine J_gdno rfl rfl rfl rfl (J_gdno rfl rfl rfl rfl (J_st (R_pickT rfl rfl) rfl (J_st (R_move rfl) rfl (J_gdno rfl rfl rfl rfl (J_gdno rfl rfl rfl rfl (J_st (R_pickT rfl rfl) rfl (J_st (R_move rfl) rfl (J_gdno rfl rfl rfl rfl (J_gdno rfl rfl rfl rfl (J_gdno rfl rfl rfl rfl (J_gdno rfl rfl rfl rfl (J_st (R_pickT rfl rfl) rfl (J_st (R_move rfl) rfl (J_gdno rfl rfl rfl rfl (J_gdno rfl rfl rfl rfl (J_gdno rfl rfl rfl rfl (J_gdno rfl rfl rfl rfl (J_gdx rfl rfl rfl (J_gdx rfl rfl rfl (J_gdx rfl rfl rfl (J_gdx rfl rfl rfl (J_gdno rfl rfl rfl rfl (J_st (R_pickT rfl rfl) rfl (J_cutEnd ⟨rfl, rfl, rfl, rfl, congrArg (fun b => some (Value.bool b)) (show true = (((((!(win x.kind 1 8)) || (!p0)) || (!q0)) || (decide (2 < ((x.outs.length : Nat) : Int)))) || ((x.kind == 8) && (decide (0 < ((x.outs.length : Nat) : Int))))) by first | (rw [hg1] <;> rfl) | (simp [hg1]; done) | (simp only [nat_nlt] <;> simp)), trivial⟩ rfl))))))))))))))))))))))))
      · refine J_gd rfl rfl (R_move rfl) rfl (J_gd rfl rfl (R_not rfl) rfl (J_st (R_pickF rfl rfl) rfl (J_st (R_move rfl) rfl ?_)))
        refine J_if (gd := 43) rfl rfl (fun hg2 => ?_) (fun hg2 => ?_)
        · refine J_gdno rfl rfl rfl rfl (J_gdno rfl rfl rfl rfl (J_st (R_pickT rfl rfl) rfl (J_st (R_move rfl) rfl (J_gdno rfl rfl rfl rfl (J_gdno rfl rfl rfl rfl (J_gdno rfl rfl rfl rfl (J_gdno rfl rfl rfl rfl (J_st (R_pickT rfl rfl) rfl (J_st (R_move rfl) rfl (J_gdno rfl rfl rfl rfl (J_gdno rfl rfl rfl rfl (J_gdno rfl rfl rfl rfl (J_gdno rfl rfl rfl rfl (J_gdx rfl rfl rfl (J_gdx rfl rfl rfl (J_gdx rfl rfl rfl (J_gdx rfl rfl rfl (J_gdno rfl rfl rfl rfl (J_st (R_pickT rfl rfl) rfl (J_cutEnd ⟨rfl, rfl, rfl, rfl, congrArg (fun b => some (Value.bool b)) (show true = (((((!(win x.kind 1 8)) || (!p0)) || (!q0)) || (decide (2 < ((x.outs.length : Nat) : Int)))) || ((x.kind == 8) && (decide (0 < ((x.outs.length : Nat) : Int))))) by first | (rw [hg1, hg2] <;> rfl) | (simp [hg1, hg2]; done) | (simp only [nat_nlt] <;> simp)), trivial⟩ rfl))))))))))))))))))))
        · refine J_gd rfl rfl (R_move rfl) rfl (J_gd rfl rfl (R_not rfl) rfl (J_st (R_pickF rfl rfl) rfl (J_st (R_move rfl) rfl ?_)))
          refine J_if (gd := 47) rfl rfl (fun hg3 => ?_) (fun hg3 => ?_)
          · refine J_gdno rfl rfl rfl rfl (J_gdno rfl rfl rfl rfl (J_gdno rfl rfl rfl rfl (J_gdno rfl rfl rfl rfl (J_st (R_pickT rfl rfl) rfl (J_st (R_move rfl) rfl (J_gdno rfl rfl rfl rfl (J_gdno rfl rfl rfl rfl (J_gdno rfl rfl rfl rfl (J_gdno rfl rfl rfl rfl (J_gdx rfl rfl rfl (J_gdx rfl rfl rfl (J_gdx rfl rfl rfl (J_gdx rfl rfl rfl (J_gdno rfl rfl rfl rfl (J_st (R_pickT rfl rfl) rfl (J_cutEnd ⟨rfl, rfl, rfl, rfl, congrArg (fun b => some (Value.bool b)) (show true = (((((!(win x.kind 1 8)) || (!p0)) || (!q0)) || (decide (2 < ((x.outs.length : Nat) : Int)))) || ((x.kind == 8) && (decide (0 < ((x.outs.length : Nat) : Int))))) by first | (rw [hg1, hg2, hg3] <;> rfl) | (simp [hg1, hg2, hg3]; done) | (simp only [nat_nlt] <;> simp)), trivial⟩ rfl))))))))))))))))
          · refine J_gd rfl rfl (R_fieldAddr0 fl37_3 rfl) rfl (J_gd rfl rfl (R_load sc30 rfl (h1.one 3 rfl)) rfl (J_gd rfl rfl (R_len Try.underlying30 rfl (hd1.ext E).len) rfl (J_gd rfl rfl (R_gtr rfl rfl) rfl (J_st (R_pickF rfl rfl) rfl (J_st (R_move rfl) rfl ?_)))))
            refine J_if (gd := 53) rfl rfl (fun hg4 => ?_) (fun hg4 => ?_)
            · have hg4n : x.outs.length > 2 := by first | (have h := of_decide_eq_true hg4; omega) | (have h := hg4; simp at h; omega)
              refine J_gdno rfl rfl rfl rfl (J_gdno rfl rfl rfl rfl (J_gdno rfl rfl rfl rfl (J_gdno rfl rfl rfl rfl (J_gdx rfl rfl rfl (J_gdx rfl rfl rfl (J_gdx rfl rfl rfl (J_gdx rfl rfl rfl (J_gdno rfl rfl rfl rfl (J_st (R_pickT rfl rfl) rfl (J_cutEnd ⟨rfl, rfl, rfl, rfl, congrArg (fun b => some (Value.bool b)) (show true = (((((!(win x.kind 1 8)) || (!p0)) || (!q0)) || (decide (2 < ((x.outs.length : Nat) : Int)))) || ((x.kind == 8) && (decide (0 < ((x.outs.length : Nat) : Int))))) by first | (rw [hg1, hg2, hg3, hg4] <;> rfl) | (simp [hg1, hg2, hg3, hg4]; done) | (simp only [nat_nlt] <;> simp)), trivial⟩ rfl))))))))))
            · have hg4n : ¬ x.outs.length > 2 := by first | (have h := of_decide_eq_false hg4; omega) | (have h := hg4; simp at h; omega)
              refine J_gd rfl rfl (R_fieldAddr0 fl37_0 rfl) rfl (J_gd rfl rfl (R_load sc3 rfl (h1.one 0 rfl)) rfl (J_gd rfl rfl (R_eql rfl rfl) rfl (J_gd rfl rfl (R_move rfl) rfl ?_)))
              refine J_if (gd := 57) rfl rfl (fun hg5 => ?_) (fun hg5 => ?_)
              · refine J_gd rfl rfl (R_fieldAddr0 fl37_3 rfl) rfl (J_gd rfl rfl (R_load sc30 rfl (h1.one 3 rfl)) rfl (J_gd rfl rfl (R_len Try.underlying30 rfl (hd1.ext E).len) rfl (J_gd rfl rfl (R_gtr rfl rfl) rfl (J_gd rfl rfl (R_pickT rfl rfl) rfl (J_st (R_pickF rfl rfl) rfl (J_cutEnd ⟨rfl, rfl, rfl, rfl, congrArg (fun b => some (Value.bool b)) (show (decide (0 < ((x.outs.length : Nat) : Int))) = (((((!(win x.kind 1 8)) || (!p0)) || (!q0)) || (decide (2 < ((x.outs.length : Nat) : Int)))) || ((x.kind == 8) && (decide (0 < ((x.outs.length : Nat) : Int))))) by first | (rw [hg1, hg2, hg3, hg4, hg5] <;> rfl) | (simp [hg1, hg2, hg3, hg4, hg5]; done) | (simp only [nat_nlt] <;> simp)), trivial⟩ rfl))))))
              · refine J_gdno rfl rfl rfl rfl (J_gdno rfl rfl rfl rfl (J_gdno rfl rfl rfl rfl (J_gdno rfl rfl rfl rfl (J_gd rfl rfl (R_pickF rfl rfl) rfl (J_st (R_pickF rfl rfl) rfl (J_cutEnd ⟨rfl, rfl, rfl, rfl, congrArg (fun b => some (Value.bool b)) (show false = (((((!(win x.kind 1 8)) || (!p0)) || (!q0)) || (decide (2 < ((x.outs.length : Nat) : Int)))) || ((x.kind == 8) && (decide (0 < ((x.outs.length : Nat) : Int))))) by first | (rw [hg1, hg2, hg3, hg4, hg5] <;> rfl) | (simp [hg1, hg2, hg3, hg4, hg5]; done) | (simp only [nat_nlt] <;> simp)), trivial⟩ rfl))))))
    rintro _ rfl
    refine J_done ?_
    refine S_cond rfl (fun hc4 => ?_) (fun hc4 => ?_)
    · refine S_seq ?_
      refine S_reg [true] rfl rfl ?_
      refine J_st (R_assign rfl) rfl (J_done ?_)
      refine S_ret (E_done1 rfl rfl E ?_)
      exact node_s hpq (by assumption)
    · refine S_skip ?_
      refine S_seq ?_
      refine S_seq ?_
      refine S_reg [true] rfl rfl ?_
      refine J_st (R_assign rfl) rfl (J_done ?_)
      refine S_block ?_
      refine S_loop (fun (k : Nat) => [(1, .pointer (some ⟨b1, 0, none⟩)), (2, .bool false), (5, .int .i64 ((k : Nat) : Int))]) (fun (k : Nat) w' => Ext w w' ∧ w7.heap.size ≤ w'.heap.size ∧ Blk w' b1 ([.int .i64 x.kind, .int .i64 x.a, .int .i64 x.b, o1]) ∧ k ≤ x.outs.length ∧ (x.outs.take k).all (win · 0 7) = true ∧ (1 < k → ((List.getD x.outs 0 default) == (List.getD x.outs 1 default)) = false)) (fun (k : Nat) => x.outs.length - k) 0 ⟨rfl, rfl, rfl, trivial⟩ ⟨E, Nat.le_refl _, h1, Nat.zero_le _, rfl, (by omega)⟩ ?_
      clear E h1
      rintro k w9 ⟨E, z8, h1, hk, hI, hJ⟩
      refine S_seq ?_
      refine S_seq ?_
      refine S_reg [true, true, true, true, true] rfl rfl ?_
      refine J_st (R_move rfl) rfl (J_st (R_fieldAddr0 fl37_3 rfl) rfl (J_st (R_load sc30 rfl (h1.one 3 rfl)) rfl (J_st (R_len Try.underlying30 rfl (hd1.ext E).len) rfl (J_st (R_lss rfl rfl) rfl (J_done ?_)))))
      refine S_cond rfl (fun hc5 => ?_) (fun hc5 => ?_)
      · have hc5n : k < x.outs.length := by first | (have h := of_decide_eq_true hc5; omega) | (have h := hc5; simp at h; omega)
        refine S_skip ?_
        refine S_seq ?_
        refine S_block ?_
        refine S_seq ?_
        refine S_regD mixed [(0, true), (1, true), (2, true), (3, true), (4, true), (5, false), (6, true), (7, true), (8, true), (9, true), (10, true), (11, true), (12, true), (13, true), (14, true), (15, true), (16, true), (17, true), (18, true), (19, true), (20, true), (21, true)] (by decide +kernel) rfl (fun w10 e7 => ?_)
        replace E := E.trans e7; replace h1 := h1.ext e7
        have z9 := e7.size
        refine J_st (R_fieldAddr0 fl37_3 rfl) rfl (J_st (R_load sc30 rfl (h1.one 3 rfl)) rfl (J_st (R_move rfl) rfl ?_))
        have hi1 : k < x.outs.length := (by first | assumption | omega | (simp only [List.length_set]; first | assumption | omega) | (simp only [List.getElem_set_self, List.length_set]; first | assumption | omega) | (simp only [setW, setLk, List.length_set]; first | assumption | omega) | (simp; done))
        refine J_st (R_index (i := k) sl30 rfl rfl (hd1.rd.ext E) hi1) rfl (J_st (R_load sc3 rfl (((hd1.rd.ext E).get hi1).one 0 rfl)) rfl ?_)
        refine J_call Try.call51 rfl (s_l01In (x.outs[k]'hi1) 0 7 _ ) rfl (fun _ w11 e8 hv => ?_)
        subst hv
        replace E := E.trans e8; replace h1 := h1.ext e8
        have z10 := e8.size
        refine J_st (R_not rfl) rfl (J_st (R_move rfl) rfl ?_)
        refine J_cut 14 [(1, .pointer (some ⟨b1, 0, none⟩)), (2, .bool false), (5, .int .i64 ((k : Nat) : Int)), (64, .int .i64 ((k : Nat) : Int)), (65, .pointer (some ⟨b1, 3, none⟩)), (66, o1), (67, .int .i64 ((x.outs.length : Nat) : Int)), (68, .bool (decide (((k : Nat) : Int) < ((x.outs.length : Nat) : Int)))), (92, .bool ((!(win (x.outs[k]'hi1) 0 7)) || ((decide (0 < ((k : Nat) : Int))) && ((List.getD x.outs 0 default) == (List.getD x.outs 1 default)))))] (fun w' => w11 = w') ?_ ?_
        · refine J_if (gd := 78) rfl rfl (fun hg6 => ?_) (fun hg6 => ?_)
          · refine J_gdno rfl rfl rfl rfl (J_gdno rfl rfl rfl rfl (J_gdno rfl rfl rfl rfl (J_gdx rfl rfl rfl (J_gdx rfl rfl rfl (J_gdx rfl rfl rfl (J_gdx rfl rfl rfl (J_gdx rfl rfl rfl (J_gdx rfl rfl rfl (J_gdx rfl rfl rfl (J_gdx rfl rfl rfl (J_gdx rfl rfl rfl (J_gdno rfl rfl rfl rfl (J_st (R_pickT rfl rfl) rfl (J_cutEnd ⟨rfl, rfl, rfl, rfl, rfl, rfl, rfl, rfl, congrArg (fun b => some (Value.bool b)) (show true = ((!(win (x.outs[k]'hi1) 0 7)) || ((decide (0 < ((k : Nat) : Int))) && ((List.getD x.outs 0 default) == (List.getD x.outs 1 default)))) by first | (rw [hg6] <;> rfl) | (simp [hg6]; done) | (simp only [nat_nlt] <;> simp)), trivial⟩ rfl))))))))))))))
          · refine J_gd rfl rfl (R_move rfl) rfl (J_gd rfl rfl (R_gtr rfl rfl) rfl (J_gd rfl rfl (R_move rfl) rfl ?_))
            refine J_if (gd := 81) rfl rfl (fun hg7 => ?_) (fun hg7 => ?_)
            · have hg7n : k > 0 := by first | (have h := of_decide_eq_true hg7; omega) | (have h := hg7; simp at h; omega)
              refine J_gd rfl rfl (R_fieldAddr0 fl37_3 rfl) rfl (J_gd rfl rfl (R_load sc30 rfl (h1.one 3 rfl)) rfl (J_gd rfl rfl (R_index (i := 0) sl30 rfl rfl (hd1.rd.ext E) (by first | assumption | omega | (simp only [List.length_set]; first | assumption | omega) | (simp only [List.getElem_set_self, List.length_set]; first | assumption | omega) | (simp only [setW, setLk, List.length_set]; first | assumption | omega) | (simp; done))) rfl (J_gd rfl rfl (R_load sc3 rfl ((RdS.getD (hd1.rd.ext E) (i := 0) (by first | assumption | omega | (simp only [List.length_set]; first | assumption | omega) | (simp only [List.getElem_set_self, List.length_set]; first | assumption | omega) | (simp only [setW, setLk, List.length_set]; first | assumption | omega) | (simp; done))).one 0 rfl)) rfl (J_gd rfl rfl (R_fieldAddr0 fl37_3 rfl) rfl (J_gd rfl rfl (R_load sc30 rfl (h1.one 3 rfl)) rfl (J_gd rfl rfl (R_index (i := 1) sl30 rfl rfl (hd1.rd.ext E) (by first | assumption | omega | (simp only [List.length_set]; first | assumption | omega) | (simp only [List.getElem_set_self, List.length_set]; first | assumption | omega) | (simp only [setW, setLk, List.length_set]; first | assumption | omega) | (simp; done))) rfl (J_gd rfl rfl (R_load sc3 rfl ((RdS.getD (hd1.rd.ext E) (i := 1) (by first | assumption | omega | (simp only [List.length_set]; first | assumption | omega) | (simp only [List.getElem_set_self, List.length_set]; first | assumption | omega) | (simp only [setW, setLk, List.length_set]; first | assumption | omega) | (simp; done))).one 0 rfl)) rfl (J_gd rfl rfl (R_eql rfl rfl) rfl (J_gd rfl rfl (R_pickT rfl rfl) rfl (J_st (R_pickF rfl rfl) rfl (J_cutEnd ⟨rfl, rfl, rfl, rfl, rfl, rfl, rfl, rfl, congrArg (fun b => some (Value.bool b)) (show ((List.getD x.outs 0 default) == (List.getD x.outs 1 default)) = ((!(win (x.outs[k]'hi1) 0 7)) || ((decide (0 < ((k : Nat) : Int))) && ((List.getD x.outs 0 default) == (List.getD x.outs 1 default)))) by first | (rw [hg6, hg7] <;> rfl) | (simp [hg6, hg7]; done) | (simp only [nat_nlt] <;> simp)), trivial⟩ rfl)))))))))))
            · have hg7n : ¬ k > 0 := by first | (have h := of_decide_eq_false hg7; omega) | (have h := hg7; simp at h; omega)
              refine J_gdno rfl rfl rfl rfl (J_gdno rfl rfl rfl rfl (J_gdno rfl rfl rfl rfl (J_gdno rfl rfl rfl rfl (J_gdno rfl rfl rfl rfl (J_gdno rfl rfl rfl rfl (J_gdno rfl rfl rfl rfl (J_gdno rfl rfl rfl rfl (J_gdno rfl rfl rfl rfl (J_gd rfl rfl (R_pickF rfl rfl) rfl (J_st (R_pickF rfl rfl) rfl (J_cutEnd ⟨rfl, rfl, rfl, rfl, rfl, rfl, rfl, rfl, congrArg (fun b => some (Value.bool b)) (show false = ((!(win (x.outs[k]'hi1) 0 7)) || ((decide (0 < ((k : Nat) : Int))) && ((List.getD x.outs 0 default) == (List.getD x.outs 1 default)))) by first | (rw [hg6, hg7] <;> rfl) | (simp [hg6, hg7]; done) | (simp only [nat_nlt] <;> simp)), trivial⟩ rfl)))))))))))
        rintro _ rfl
        refine J_done ?_
        refine S_cond rfl (fun hc6 => ?_) (fun hc6 => ?_)
        · refine S_seq ?_
          refine S_reg [true] rfl rfl ?_
          refine J_st (R_assign rfl) rfl (J_done ?_)
          refine S_ret (E_inB_ret (E_lp_ret (E_inB_ret (E_done1 rfl rfl E ?_))))
          exact node_d (by assumption) (node_p (p := p0) (q := q0) (by assumption) hpq).2
        · refine S_skip ?_
          refine S_nil (E_inB ?_)
          refine S_reg [true, true, true] rfl rfl ?_
          refine J_st (R_move rfl) rfl (J_st (R_add rfl rfl (add_one hc5n (hd1.ext E).1.1)) rfl (J_st (R_assign rfl) rfl (J_done ?_)))
          refine S_nil (E_again (k + 1) (by omega) ⟨rfl, rfl, rfl, trivial⟩ ⟨E, (by omega), h1, (by omega), all_step hI (by assumption) (nodeL (by assumption)), nodeJ (by assumption)⟩)
      · have hc5n : ¬ k < x.outs.length := by first | (have h := of_decide_eq_false hc5; omega) | (have h := hc5; simp at h; omega)
        refine S_exit (E_lp_exit (E_inB_exit ?_))
        refine S_seq ?_
        refine S_reg [true] rfl rfl ?_
        refine J_st (R_assign rfl) rfl (J_done ?_)
        refine S_ret (E_done1 rfl rfl E ?_)
        exact node_z (p := p0) (q := q0) (by assumption) hpq hI hJ (by omega)

set_option maxHeartbeats 4000000 in
set_option maxRecDepth 20000 in
theorem c_GraphOk (cg : List Value) (g : Graph) (w : World) (hg : Dat.R w 0 w.heap.size cg g) : Ct Try.prog 8 [.agg cg.toArray] w (fun v _ => v = .bool (graphOk g)) := by
  refine ct_of Try.func8 rfl Try.ntmps8 rfl ?_
  obtain ⟨o1, rfl, hd1⟩ := Graph.op hg
  refine S_sub [(0, .agg [o1, .int .i64 g.workers, .int .i64 g.cap].toArray)] ⟨rfl, trivial⟩ ?_
  have E : Ext w w := Ext.refl w
  refine S_seq ?_
  refine S_reg [false, true] rfl rfl ?_
  refine J_box rfl rfl (fun b1 w1 e1 s1 h1 => ?_)
  have g_b1 : w.heap.size ≤ b1 := by have := E.size; omega
  have y_b1 := h1.lt
  replace E := E.trans e1
  have z1 := e1.size
  refine J_st (R_assign rfl) rfl (J_done ?_)
  refine S_seq ?_
  refine S_seq ?_
  refine S_reg [true, true, true, false, true, true, true, true, false, true, true, true, true, true, false, true, true] rfl rfl ?_
  refine J_st (R_fieldAddr0 fl26_0 rfl) rfl (J_st (R_load sc24 rfl (h1.one 0 rfl)) rfl (J_st (R_len Try.underlying24 rfl (hd1.ext E).len) rfl ?_))
  refine J_call Try.call49 rfl (c_within ((g.nodes.length : Nat) : Int) 1 8 _ ) rfl (fun _ w2 e2 hv => ?_)
  subst hv
  replace E := E.trans e2; replace h1 := h1.ext e2
  have z2 := e2.size
  refine J_st (R_not rfl) rfl (J_st (R_move rfl) rfl ?_)
  refine J_cut 11 [(0, .agg [o1, .int .i64 g.workers, .int .i64 g.cap].toArray), (1, .pointer (some ⟨b1, 0, none⟩)), (2, .bool false), (24, .bool (((!(win ((g.nodes.length : Nat) : Int) 1 8)) || (!(win g.workers 1 4))) || (!(win g.cap 1 4))))] (fun w' => Ext w w' ∧ w2.heap.size ≤ w'.heap.size ∧ Blk w' b1 ([o1, .int .i64 g.workers, .int .i64 g.cap])) ?_ ?_
  · refine J_if (gd := 13) rfl rfl (fun hg1 => ?_) (fun hg1 => ?_)
    · refine J_gdno rfl rfl rfl rfl (J_gdno rfl rfl rfl rfl ?_)
      refine J_ungno rfl rfl rfl rfl ?_
      refine J_gdno rfl rfl rfl rfl (J_st (R_pickT rfl rfl) rfl (J_st (R_move rfl) rfl (J_gdno rfl rfl rfl rfl (J_gdno rfl rfl rfl rfl ?_))))
      refine J_ungno rfl rfl rfl rfl ?_
      refine J_gdno rfl rfl rfl rfl (J_st (R_pickT rfl rfl) rfl (J_cutEnd ⟨rfl, rfl, rfl, congrArg (fun b => some (Value.bool b)) (show true = (((!(win ((g.nodes.length : Nat) : Int) 1 8)) || (!(win g.workers 1 4))) || (!(win g.cap 1 4))) by first | (rw [hg1] <;> rfl) | (simp [hg1]; done) | (simp only [nat_nlt] <;> simp)), trivial⟩ ⟨E, (by omega), h1⟩))
    · refine J_gd rfl rfl (R_fieldAddr0 fl26_1 rfl) rfl (J_gd rfl rfl (R_load sc3 rfl (h1.one 1 rfl)) rfl ?_)
      refine J_ung rfl rfl ?_
      refine J_call Try.call49 rfl (c_within g.workers 1 4 _ ) rfl (fun _ w4 e3 hv => ?_)
      subst hv
      replace E := E.trans e3; replace h1 := h1.ext e3
      have z3 := e3.size
      refine J_gd rfl rfl (R_not rfl) rfl (J_st (R_pickF rfl rfl) rfl (J_st (R_move rfl) rfl ?_))
      refine J_if (gd := 19) rfl rfl (fun hg2 => ?_) (fun hg2 => ?_)
      · refine J_gdno rfl rfl rfl rfl (J_gdno rfl rfl rfl rfl ?_)
        refine J_ungno rfl rfl rfl rfl ?_
        refine J_gdno rfl rfl rfl rfl (J_st (R_pickT rfl rfl) rfl (J_cutEnd ⟨rfl, rfl, rfl, congrArg (fun b => some (Value.bool b)) (show true = (((!(win ((g.nodes.length : Nat) : Int) 1 8)) || (!(win g.workers 1 4))) || (!(win g.cap 1 4))) by first | (rw [hg1, hg2] <;> rfl) | (simp [hg1, hg2]; done) | (simp only [nat_nlt] <;> simp)), trivial⟩ ⟨E, (by omega), h1⟩))
      · refine J_gd rfl rfl (R_fieldAddr0 fl26_2 rfl) rfl (J_gd rfl rfl (R_load sc3 rfl (h1.one 2 rfl)) rfl ?_)
        refine J_ung rfl rfl ?_
        refine J_call Try.call49 rfl (c_within g.cap 1 4 _ ) rfl (fun _ w5 e4 hv => ?_)
        subst hv
        replace E := E.trans e4; replace h1 := h1.ext e4
        have z4 := e4.size
        refine J_gd rfl rfl (R_not rfl) rfl (J_st (R_pickF rfl rfl) rfl (J_cutEnd ⟨rfl, rfl, rfl, congrArg (fun b => some (Value.bool b)) (show (!(win g.cap 1 4)) = (((!(win ((g.nodes.length : Nat) : Int) 1 8)) || (!(win g.workers 1 4))) || (!(win g.cap 1 4))) by first | (rw [hg1, hg2] <;> rfl) | (simp [hg1, hg2]; done) | (simp only [nat_nlt] <;> simp)), trivial⟩ ⟨E, (by omega), h1⟩))
  clear E h1
  rintro w3 ⟨E, z5, h1⟩
  refine J_done ?_
  refine S_cond rfl (fun hc1 => ?_) (fun hc1 => ?_)
  · refine S_seq ?_
    refine S_reg [true] rfl rfl ?_
    refine J_st (R_assign rfl) rfl (J_done ?_)
    refine S_ret (E_done1 rfl rfl E ?_)
    exact graph_h (by assumption)
  · refine S_skip ?_
    refine S_seq ?_
    refine S_seq ?_
    refine S_reg [true, true, true, true] rfl rfl ?_
    refine J_st (R_fieldAddr0 fl26_0 rfl) rfl (J_st (R_load sc24 rfl (h1.one 0 rfl)) rfl (J_st (R_len Try.underlying24 rfl (hd1.ext E).len) rfl (J_st (R_move rfl) rfl (J_done ?_))))
    refine S_block ?_
    refine S_loop (fun (i : Nat) => [(1, .pointer (some ⟨b1, 0, none⟩)), (2, .bool false), (26, o1), (27, .int .i64 ((g.nodes.length : Nat) : Int)), (28, .int .i64 ((i : Nat) : Int))]) (fun (i : Nat) w' => Ext w w' ∧ w3.heap.size ≤ w'.heap.size ∧ Blk w' b1 ([o1, .int .i64 g.workers, .int .i64 g.cap]) ∧ i ≤ g.nodes.length ∧ (∀ j, j < i → nodeAtOk g j (List.getD g.nodes j default) = true)) (fun (i : Nat) => g.nodes.length - i) 0 ⟨rfl, rfl, rfl, rfl, rfl, trivial⟩ ⟨E, Nat.le_refl _, h1, Nat.zero_le _, (fun j hj => by omega)⟩ ?_
    clear E h1
    rintro i w6 ⟨E, z6, h1, hle, hp⟩
    refine S_seq ?_
    refine S_reg [true] rfl rfl ?_
    refine J_st (R_lss rfl rfl) rfl (J_done ?_)
    refine S_seq ?_
    refine S_cond rfl (fun hc2 => ?_) (fun hc2 => ?_)
    · have hc2n : i < g.nodes.length := by first | (have h := of_decide_eq_true hc2; omega) | (have h := hc2; simp at h; omega)
      refine S_skip ?_
      refine S_seq ?_
      refine S_block ?_
      refine S_seq ?_
      refine S_reg [true, true, true, false, true, false] rfl rfl ?_
      refine J_st (R_move rfl) rfl ?_
      have hi1 : i < g.nodes.length := (by first | assumption | omega | (simp only [List.length_set]; first | assumption | omega) | (simp only [List.getElem_set_self, List.length_set]; first | assumption | omega) | (simp only [setW, setLk, List.length_set]; first | assumption | omega) | (simp; done))
      obtain ⟨_, hr1, ha1⟩ := RdD.get hd1 hi1
      obtain ⟨o2, rfl, hd2⟩ := Node.op hr1
      replace ha1 : At w (sblk o1) (soff o1 + i * 4) [.int .i64 ((g.nodes[i]'hi1).kind), .int .i64 ((g.nodes[i]'hi1).a), .int .i64 ((g.nodes[i]'hi1).b), o2] := ha1
      refine J_st (R_index (i := i) sl24 rfl rfl (hd1.ext E).1 hi1) rfl (J_st (R_loadS st37 rfl (ha1.ext E) rfl) rfl ?_)
      refine J_alloc st37 rfl (fun b2 w7 e5 s2 h2 => ?_)
      have g_b2 : w.heap.size ≤ b2 := by have := E.size; omega
      have y_b2 := h2.lt
      replace E := E.trans e5; replace h1 := h1.ext e5
      have z7 := e5.size
      refine J_st (R_assign rfl) rfl ?_
      refine J_storeS' (cs' := [.int .i64 ((g.nodes[i]'hi1).kind), .int .i64 ((g.nodes[i]'hi1).a), .int .i64 ((g.nodes[i]'hi1).b), o2]) st37 rfl rfl rfl (all_cons rfl (all_cons rfl (all_cons rfl (all_cons (RdD.one (hd2.ext E)) rfl)))) h2 (Nat.le_of_ble_eq_true rfl) rfl (fun w8 m1 h2' => ?_)
      replace h2 := h2'
      replace E := E.step m1 (fun g hg => by cases hg; omega); replace h1 := h1.mod m1 (fun g hg => by cases hg; omega)
      have z8 := m1.size
      refine J_done ?_
      refine S_seq ?_
      refine S_seq ?_
      refine S_reg [true, false, true, true, true, true, true, true, true, true, true] rfl rfl ?_
      refine J_st (R_loadS st37 rfl h2.at rfl) rfl ?_
      refine J_call Try.call50 rfl (c_NodeOk [.int .i64 ((g.nodes[i]'hi1).kind), .int .i64 ((g.nodes[i]'hi1).a), .int .i64 ((g.nodes[i]'hi1).b), o2] (g.nodes[i]'hi1) _ (Node.mkR (g.nodes[i]'hi1) (RdD.any (hd2.ext E)))) rfl (fun _ w9 e6 hv => ?_)
      subst hv
      replace E := E.trans e6; replace h1 := h1.ext e6; replace h2 := h2.ext e6
      have z9 := e6.size
      refine J_st (R_not rfl) rfl (J_st (R_move rfl) rfl ?_)
      refine J_cut 7 [(1, .pointer (some ⟨b1, 0, none⟩)), (2, .bool false), (3, .int .i64 ((i : Nat) : Int)), (4, .pointer (some ⟨b2, 0, none⟩)), (26, o1), (27, .int .i64 ((g.nodes.length : Nat) : Int)), (28, .int .i64 ((i : Nat) : Int)), (29, .bool (decide (((i : Nat) : Int) < ((g.nodes.length : Nat) : Int)))), (30, .int .i64 ((i : Nat) : Int)), (31, .pointer (some ⟨sblk o1, soff o1 + i * 4, none⟩)), (32, .agg [.int .i64 ((g.nodes[i]'hi1).kind), .int .i64 ((g.nodes[i]'hi1).a), .int .i64 ((g.nodes[i]'hi1).b), o2].toArray), (43, .bool ((!(nodeOk (g.nodes[i]'hi1))) || (!((((g.nodes[i]'hi1).kind) == 1) == (((i : Nat) : Int) == 0)))))] (fun w' => w9 = w') ?_ ?_
      · refine J_if (gd := 36) rfl rfl (fun hg3 => ?_) (fun hg3 => ?_)
        · refine J_gdno rfl rfl rfl rfl (J_gdno rfl rfl rfl rfl (J_gdno rfl rfl rfl rfl (J_gdno rfl rfl rfl rfl (J_gdno rfl rfl rfl rfl (J_gdno rfl rfl rfl rfl (J_st (R_pickT rfl rfl) rfl (J_cutEnd ⟨rfl, rfl, rfl, rfl, rfl, rfl, rfl, rfl, rfl, rfl, rfl, congrArg (fun b => some (Value.bool b)) (show true = ((!(nodeOk (g.nodes[i]'hi1))) || (!((((g.nodes[i]'hi1).kind) == 1) == (((i : Nat) : Int) == 0)))) by first | (rw [hg3] <;> rfl) | (simp [hg3]; done) | (simp only [nat_nlt] <;> simp)), trivial⟩ rfl)))))))
        · refine J_gd rfl rfl (R_fieldAddr0 fl37_0 rfl) rfl (J_gd rfl rfl (R_load sc3 rfl (h2.one 0 rfl)) rfl (J_gd rfl rfl (R_eql rfl rfl) rfl (J_gd rfl rfl (R_move rfl) rfl (J_gd rfl rfl (R_eql rfl rfl) rfl (J_gd rfl rfl (R_neqB (Try.underlying4) rfl rfl) rfl (J_st (R_pickF rfl rfl) rfl (J_cutEnd ⟨rfl, rfl, rfl, rfl, rfl, rfl, rfl, rfl, rfl, rfl, rfl, congrArg (fun b => some (Value.bool b)) (show (!((((g.nodes[i]'hi1).kind) == 1) == (((i : Nat) : Int) == 0))) = ((!(nodeOk (g.nodes[i]'hi1))) || (!((((g.nodes[i]'hi1).kind) == 1) == (((i : Nat) : Int) == 0)))) by first | (rw [hg3] <;> rfl) | (simp [hg3]; done) | (simp only [nat_nlt] <;> simp)), trivial⟩ rfl)))))))
      rintro _ rfl
      refine J_done ?_
      refine S_cond rfl (fun hc3 => ?_) (fun hc3 => ?_)
      · refine S_seq ?_
        refine S_reg [true] rfl rfl ?_
        refine J_st (R_assign rfl) rfl (J_done ?_)
        refine S_ret (E_inB_ret (E_lp_ret (E_inB_ret (E_done1 rfl rfl E ?_))))
        exact graph_a (by assumption)
      · refine S_skip ?_
        refine S_seq ?_
        refine S_reg [true, true, true, true] rfl rfl ?_
        refine J_st (R_fieldAddr0 fl37_3 rfl) rfl (J_st (R_load sc30 rfl (h2.one 3 rfl)) rfl (J_st (R_len Try.underlying30 rfl (hd2.ext E).len) rfl (J_st (R_move rfl) rfl (J_done ?_))))
        refine S_block ?_
        refine S_loop (fun (k : Nat) => [(1, .pointer (some ⟨b1, 0, none⟩)), (2, .bool false), (3, .int .i64 ((i : Nat) : Int)), (4, .pointer (some ⟨b2, 0, none⟩)), (26, o1), (27, .int .i64 ((g.nodes.length : Nat) : Int)), (28, .int .i64 ((i : Nat) : Int)), (45, o2), (46, .int .i64 ((((g.nodes[i]'hi1).outs).length : Nat) : Int)), (47, .int .i64 ((k : Nat) : Int))]) (fun (k : Nat) w' => Ext w w' ∧ w9.heap.size ≤ w'.heap.size ∧ Blk w' b1 ([o1, .int .i64 g.workers, .int .i64 g.cap]) ∧ Blk w' b2 [.int .i64 ((g.nodes[i]'hi1).kind), .int .i64 ((g.nodes[i]'hi1).a), .int .i64 ((g.nodes[i]'hi1).b), o2] ∧ k ≤ (g.nodes[i]'hi1).outs.length ∧ ((g.nodes[i]'hi1).outs.take k).all (fun to => !edgeBad g i (g.nodes[i]'hi1) to) = true) (fun (k : Nat) => (g.nodes[i]'hi1).outs.length - k) 0 ⟨rfl, rfl, rfl, rfl, rfl, rfl, rfl, rfl, rfl, rfl, trivial⟩ ⟨E, Nat.le_refl _, h1, h2, Nat.zero_le _, rfl⟩ ?_
        clear E h1 h2
        rintro k w11 ⟨E, z10, h1, h2, hk, hI⟩
        refine S_seq ?_
        refine S_reg [true] rfl rfl ?_
        refine J_st (R_lss rfl rfl) rfl (J_done ?_)
        refine S_seq ?_
        refine S_cond rfl (fun hc4 => ?_) (fun hc4 => ?_)
        · have hc4n : k < ((g.nodes[i]'hi1).outs).length := by first | (have h := of_decide_eq_true hc4; omega) | (have h := hc4; simp at h; omega)
          refine S_skip ?_
          refine S_seq ?_
          refine S_block ?_
          refine S_seq ?_
          refine S_reg [true, true, true] rfl rfl ?_
          have hi2 : k < ((g.nodes[i]'hi1).outs).length := (by first | assumption | omega | (simp only [List.length_set]; first | assumption | omega) | (simp only [List.getElem_set_self, List.length_set]; first | assumption | omega) | (simp only [setW, setLk, List.length_set]; first | assumption | omega) | (simp; done))
          refine J_st (R_index (i := k) sl30 rfl rfl (hd2.rd.ext E) hi2) rfl (J_st (R_load sc3 rfl (((hd2.rd.ext E).get hi2).one 0 rfl)) rfl (J_st (R_assign rfl) rfl (J_done ?_)))
          refine S_seq ?_
          refine S_seq ?_
          refine S_reg [true, true, true, true, true] rfl rfl ?_
          refine J_st (R_move rfl) rfl (J_st (R_fieldAddr0 fl26_0 rfl) rfl (J_st (R_load sc24 rfl (h1.one 0 rfl)) rfl (J_st (R_len Try.underlying24 rfl (hd1.ext E).len) rfl (J_st (R_geq rfl rfl) rfl (J_done ?_)))))
          refine S_cond rfl (fun hc5 => ?_) (fun hc5 => ?_)
          · refine S_seq ?_
            refine S_reg [true] rfl rfl ?_
            refine J_st (R_assign rfl) rfl (J_done ?_)
            refine S_ret (E_inB_ret (E_lp_ret (E_inB_ret (E_inB_ret (E_lp_ret (E_inB_ret (E_done1 rfl rfl E ?_)))))))
            exact graph_e (edge_a (by assumption))
          · have hto := graph_to (h1 := hi1) (h2 := hi2) (by assumption)
            have htl := Int.not_le.1 (of_decide_eq_false hc5)
            refine S_skip ?_
            refine S_seq ?_
            refine S_reg [true, true, true, true, true, true, true] rfl rfl ?_
            refine J_st (R_fieldAddr0 fl26_0 rfl) rfl (J_st (R_load sc24 rfl (h1.one 0 rfl)) rfl (J_st (R_move rfl) rfl ?_))
            have hi3 : (Int.toNat (((g.nodes[i]'hi1).outs)[k]'hi2)) < g.nodes.length := (by first | assumption | omega | (simp only [List.length_set]; first | assumption | omega) | (simp only [List.getElem_set_self, List.length_set]; first | assumption | omega) | (simp only [setW, setLk, List.length_set]; first | assumption | omega) | (simp; done))
            obtain ⟨_, hr2, ha2⟩ := RdD.get hd1 hi3
            obtain ⟨o3, rfl, hd3⟩ := Node.op hr2
            replace ha2 : At w (sblk o1) (soff o1 + (Int.toNat (((g.nodes[i]'hi1).outs)[k]'hi2)) * 4) [.int .i64 ((g.nodes[(Int.toNat (((g.nodes[i]'hi1).outs)[k]'hi2))]'hi3).kind), .int .i64 ((g.nodes[(Int.toNat (((g.nodes[i]'hi1).outs)[k]'hi2))]'hi3).a), .int .i64 ((g.nodes[(Int.toNat (((g.nodes[i]'hi1).outs)[k]'hi2))]'hi3).b), o3] := ha2
            refine J_st (R_indexZ (i := (Int.toNat (((g.nodes[i]'hi1).outs)[k]'hi2))) sl24 rfl rfl (hd1.ext E).1 (by omega) hi3) rfl (J_st (R_fieldAddr fl37_0 rfl) rfl (J_st (R_load sc3 rfl ((ha2.ext E).one 0 rfl)) rfl (J_st (R_assign rfl) rfl (J_done ?_))))
            refine S_seq ?_
            refine S_reg [true, true, true, true, true, true, true, true, true, true, true, true, true, true, true, true, true, true, true, true, true, true, true, true, true, true] rfl rfl ?_
            refine J_st (R_fieldAddr0 fl37_0 rfl) rfl (J_st (R_load sc3 rfl (h2.one 0 rfl)) rfl (J_st (R_eql rfl rfl) rfl (J_st (R_move rfl) rfl ?_)))
            refine J_cut 22 [(1, .pointer (some ⟨b1, 0, none⟩)), (2, .bool false), (3, .int .i64 ((i : Nat) : Int)), (4, .pointer (some ⟨b2, 0, none⟩)), (6, .int .i64 (((g.nodes[i]'hi1).outs)[k]'hi2)), (7, .int .i64 ((g.nodes[(Int.toNat (((g.nodes[i]'hi1).outs)[k]'hi2))]'hi3).kind)), (26, o1), (27, .int .i64 ((g.nodes.length : Nat) : Int)), (28, .int .i64 ((i : Nat) : Int)), (45, o2), (46, .int .i64 ((((g.nodes[i]'hi1).outs).length : Nat) : Int)), (47, .int .i64 ((k : Nat) : Int)), (48, .bool (decide (((k : Nat) : Int) < ((((g.nodes[i]'hi1).outs).length : Nat) : Int)))), (49, .pointer (some ⟨sblk o2, soff o2 + k * 1, none⟩)), (50, .int .i64 (((g.nodes[i]'hi1).outs)[k]'hi2)), (51, .int .i64 (((g.nodes[i]'hi1).outs)[k]'hi2)), (52, .pointer (some ⟨b1, 0, none⟩)), (53, o1), (54, .int .i64 ((g.nodes.length : Nat) : Int)), (55, .bool (decide (((g.nodes.length : Nat) : Int) ≤ (((g.nodes[i]'hi1).outs)[k]'hi2)))), (56, .pointer (some ⟨b1, 0, none⟩)), (57, o1), (58, .int .i64 (((g.nodes[i]'hi1).outs)[k]'hi2)), (59, .pointer (some ⟨sblk o1, soff o1 + (Int.toNat (((g.nodes[i]'hi1).outs)[k]'hi2)) * 4, none⟩)), (60, .pointer (some ⟨(sblk o1), soff o1 + (Int.toNat (((g.nodes[i]'hi1).outs)[k]'hi2)) * 4 + 0, none⟩)), (61, .int .i64 ((g.nodes[(Int.toNat (((g.nodes[i]'hi1).outs)[k]'hi2))]'hi3).kind)), (87, .bool (((((g.nodes[i]'hi1).kind) == 7) && ((decide (((i : Nat) : Int) < (((g.nodes[i]'hi1).outs)[k]'hi2))) || ((((g.nodes[(Int.toNat (((g.nodes[i]'hi1).outs)[k]'hi2))]'hi3).kind) != 5) && (((g.nodes[(Int.toNat (((g.nodes[i]'hi1).outs)[k]'hi2))]'hi3).kind) != 6)))) || ((((g.nodes[i]'hi1).kind) != 7) && (decide ((((g.nodes[i]'hi1).outs)[k]'hi2) ≤ ((i : Nat) : Int))))))] (fun w' => w11 = w') ?_ ?_
            · refine J_if (gd := 65) rfl rfl (fun hg4 => ?_) (fun hg4 => ?_)
              · refine J_gd rfl rfl (R_move rfl) rfl (J_gd rfl rfl (R_move rfl) rfl (J_gd rfl rfl (R_gtr rfl rfl) rfl (J_gd rfl rfl (R_move rfl) rfl ?_)))
                refine J_if (gd := 69) rfl rfl (fun hg5 => ?_) (fun hg5 => ?_)
                · refine J_gdno rfl rfl rfl rfl (J_gdno rfl rfl rfl rfl (J_gdno rfl rfl rfl rfl (J_gdx rfl rfl rfl (J_gdx rfl rfl rfl (J_gdno rfl rfl rfl rfl (J_gd rfl rfl (R_pickT rfl rfl) rfl (J_st (R_pickT rfl rfl) rfl (J_st (R_move rfl) rfl (J_gdno rfl rfl rfl rfl (J_gdno rfl rfl rfl rfl (J_gdno rfl rfl rfl rfl (J_gdno rfl rfl rfl rfl (J_gdx rfl rfl rfl (J_gdx rfl rfl rfl (J_gdx rfl rfl rfl (J_gdno rfl rfl rfl rfl (J_st (R_pickT rfl rfl) rfl (J_cutEnd ⟨rfl, rfl, rfl, rfl, rfl, rfl, rfl, rfl, rfl, rfl, rfl, rfl, rfl, rfl, rfl, rfl, rfl, rfl, rfl, rfl, rfl, rfl, rfl, rfl, rfl, rfl, congrArg (fun b => some (Value.bool b)) (show true = (((((g.nodes[i]'hi1).kind) == 7) && ((decide (((i : Nat) : Int) < (((g.nodes[i]'hi1).outs)[k]'hi2))) || ((((g.nodes[(Int.toNat (((g.nodes[i]'hi1).outs)[k]'hi2))]'hi3).kind) != 5) && (((g.nodes[(Int.toNat (((g.nodes[i]'hi1).outs)[k]'hi2))]'hi3).kind) != 6)))) || ((((g.nodes[i]'hi1).kind) != 7) && (decide ((((g.nodes[i]'hi1).outs)[k]'hi2) ≤ ((i : Nat) : Int))))) by first | (rw [hg4, hg5] <;> rfl) | (simp [hg4, hg5]; done) | (simp only [nat_nlt] <;> simp)), trivial⟩ rfl))))))))))))))))))
                · refine J_gd rfl rfl (R_move rfl) rfl (J_gd rfl rfl (R_neq rfl rfl) rfl (J_gd rfl rfl (R_move rfl) rfl ?_))
                  refine J_if (gd := 72) rfl rfl (fun hg6 => ?_) (fun hg6 => ?_)
                  · refine J_gd rfl rfl (R_move rfl) rfl (J_gd rfl rfl (R_neq rfl rfl) rfl (J_gd rfl rfl (R_pickT rfl rfl) rfl (J_gd rfl rfl (R_pickF rfl rfl) rfl (J_st (R_pickT rfl rfl) rfl (J_st (R_move rfl) rfl ?_)))))
                    refine J_if (gd := 78) rfl rfl (fun hg7 => ?_) (fun hg7 => ?_)
                    · refine J_gdno rfl rfl rfl rfl (J_gdno rfl rfl rfl rfl (J_gdno rfl rfl rfl rfl (J_gdno rfl rfl rfl rfl (J_gdx rfl rfl rfl (J_gdx rfl rfl rfl (J_gdx rfl rfl rfl (J_gdno rfl rfl rfl rfl (J_st (R_pickT rfl rfl) rfl (J_cutEnd ⟨rfl, rfl, rfl, rfl, rfl, rfl, rfl, rfl, rfl, rfl, rfl, rfl, rfl, rfl, rfl, rfl, rfl, rfl, rfl, rfl, rfl, rfl, rfl, rfl, rfl, rfl, congrArg (fun b => some (Value.bool b)) (show true = (((((g.nodes[i]'hi1).kind) == 7) && ((decide (((i : Nat) : Int) < (((g.nodes[i]'hi1).outs)[k]'hi2))) || ((((g.nodes[(Int.toNat (((g.nodes[i]'hi1).outs)[k]'hi2))]'hi3).kind) != 5) && (((g.nodes[(Int.toNat (((g.nodes[i]'hi1).outs)[k]'hi2))]'hi3).kind) != 6)))) || ((((g.nodes[i]'hi1).kind) != 7) && (decide ((((g.nodes[i]'hi1).outs)[k]'hi2) ≤ ((i : Nat) : Int))))) by first | (rw [hg4, hg5, hg6, hg7] <;> rfl) | (simp [hg4, hg5, hg6, hg7]; done) | (simp only [nat_nlt] <;> simp)), trivial⟩ rfl)))))))))
                    · refine J_gd rfl rfl (R_fieldAddr0 fl37_0 rfl) rfl (J_gd rfl rfl (R_load sc3 rfl (h2.one 0 rfl)) rfl (J_gd rfl rfl (R_neq rfl rfl) rfl (J_gd rfl rfl (R_move rfl) rfl ?_)))
                      refine J_if (gd := 82) rfl rfl (fun hg8 => ?_) (fun hg8 => ?_)
                      · refine J_gd rfl rfl (R_move rfl) rfl (J_gd rfl rfl (R_move rfl) rfl (J_gd rfl rfl (R_leq rfl rfl) rfl (J_gd rfl rfl (R_pickT rfl rfl) rfl (J_st (R_pickF rfl rfl) rfl (J_cutEnd ⟨rfl, rfl, rfl, rfl, rfl, rfl, rfl, rfl, rfl, rfl, rfl, rfl, rfl, rfl, rfl, rfl, rfl, rfl, rfl, rfl, rfl, rfl, rfl, rfl, rfl, rfl, congrArg (fun b => some (Value.bool b)) (show (decide ((((g.nodes[i]'hi1).outs)[k]'hi2) ≤ ((i : Nat) : Int))) = (((((g.nodes[i]'hi1).kind) == 7) && ((decide (((i : Nat) : Int) < (((g.nodes[i]'hi1).outs)[k]'hi2))) || ((((g.nodes[(Int.toNat (((g.nodes[i]'hi1).outs)[k]'hi2))]'hi3).kind) != 5) && (((g.nodes[(Int.toNat (((g.nodes[i]'hi1).outs)[k]'hi2))]'hi3).kind) != 6)))) || ((((g.nodes[i]'hi1).kind) != 7) && (decide ((((g.nodes[i]'hi1).outs)[k]'hi2) ≤ ((i : Nat) : Int))))) by first | (rw [hg4, hg5, hg6, hg7, hg8] <;> rfl) | (simp [hg4, hg5, hg6, hg7, hg8]; done) | (simp only [nat_nlt] <;> simp)), trivial⟩ rfl)))))
                      · refine J_gdno rfl rfl rfl rfl (J_gdno rfl rfl rfl rfl (J_gdno rfl rfl rfl rfl (J_gd rfl rfl (R_pickF rfl rfl) rfl (J_st (R_pickF rfl rfl) rfl (J_cutEnd ⟨rfl, rfl, rfl, rfl, rfl, rfl, rfl, rfl, rfl, rfl, rfl, rfl, rfl, rfl, rfl, rfl, rfl, rfl, rfl, rfl, rfl, rfl, rfl, rfl, rfl, rfl, congrArg (fun b => some (Value.bool b)) (show false = (((((g.nodes[i]'hi1).kind) == 7) && ((decide (((i : Nat) : Int) < (((g.nodes[i]'hi1).outs)[k]'hi2))) || ((((g.nodes[(Int.toNat (((g.nodes[i]'hi1).outs)[k]'hi2))]'hi3).kind) != 5) && (((g.nodes[(Int.toNat (((g.nodes[i]'hi1).outs)[k]'hi2))]'hi3).kind) != 6)))) || ((((g.nodes[i]'hi1).kind) != 7) && (decide ((((g.nodes[i]'hi1).outs)[k]'hi2) ≤ ((i : Nat) : Int))))) by first | (rw [hg4, hg5, hg6, hg7, hg8] <;> rfl) | (simp [hg4, hg5, hg6, hg7, hg8]; done) | (simp only [nat_nlt] <;> simp)), trivial⟩ rfl)))))
                  · refine J_gdno rfl rfl rfl rfl (J_gdno rfl rfl rfl rfl (J_gd rfl rfl (R_pickF rfl rfl) rfl (J_gd rfl rfl (R_pickF rfl rfl) rfl (J_st (R_pickT rfl rfl) rfl (J_st (R_move rfl) rfl (J_gd rfl rfl (R_fieldAddr0 fl37_0 rfl) rfl (J_gd rfl rfl (R_load sc3 rfl (h2.one 0 rfl)) rfl (J_gd rfl rfl (R_neq rfl rfl) rfl (J_gd rfl rfl (R_move rfl) rfl ?_)))))))))
                    refine J_if (gd := 82) rfl rfl (fun hg9 => ?_) (fun hg9 => ?_)
                    · refine J_gd rfl rfl (R_move rfl) rfl (J_gd rfl rfl (R_move rfl) rfl (J_gd rfl rfl (R_leq rfl rfl) rfl (J_gd rfl rfl (R_pickT rfl rfl) rfl (J_st (R_pickF rfl rfl) rfl (J_cutEnd ⟨rfl, rfl, rfl, rfl, rfl, rfl, rfl, rfl, rfl, rfl, rfl, rfl, rfl, rfl, rfl, rfl, rfl, rfl, rfl, rfl, rfl, rfl, rfl, rfl, rfl, rfl, congrArg (fun b => some (Value.bool b)) (show (decide ((((g.nodes[i]'hi1).outs)[k]'hi2) ≤ ((i : Nat) : Int))) = (((((g.nodes[i]'hi1).kind) == 7) && ((decide (((i : Nat) : Int) < (((g.nodes[i]'hi1).outs)[k]'hi2))) || ((((g.nodes[(Int.toNat (((g.nodes[i]'hi1).outs)[k]'hi2))]'hi3).kind) != 5) && (((g.nodes[(Int.toNat (((g.nodes[i]'hi1).outs)[k]'hi2))]'hi3).kind) != 6)))) || ((((g.nodes[i]'hi1).kind) != 7) && (decide ((((g.nodes[i]'hi1).outs)[k]'hi2) ≤ ((i : Nat) : Int))))) by first | (rw [hg4, hg5, hg6, hg9] <;> rfl) | (simp [hg4, hg5, hg6, hg9]; done) | (simp only [nat_nlt] <;> simp)), trivial⟩ rfl)))))
                    · refine J_gdno rfl rfl rfl rfl (J_gdno rfl rfl rfl rfl (J_gdno rfl rfl rfl rfl (J_gd rfl rfl (R_pickF rfl rfl) rfl (J_st (R_pickF rfl rfl) rfl (J_cutEnd ⟨rfl, rfl, rfl, rfl, rfl, rfl, rfl, rfl, rfl, rfl, rfl, rfl, rfl, rfl, rfl, rfl, rfl, rfl, rfl, rfl, rfl, rfl, rfl, rfl, rfl, rfl, congrArg (fun b => some (Value.bool b)) (show false = (((((g.nodes[i]'hi1).kind) == 7) && ((decide (((i : Nat) : Int) < (((g.nodes[i]'hi1).outs)[k]'hi2))) || ((((g.nodes[(Int.toNat (((g.nodes[i]'hi1).outs)[k]'hi2))]'hi3).kind) != 5) && (((g.nodes[(Int.toNat (((g.nodes[i]'hi1).outs)[k]'hi2))]'hi3).kind) != 6)))) || ((((g.nodes[i]'hi1).kind) != 7) && (decide ((((g.nodes[i]'hi1).outs)[k]'hi2) ≤ ((i : Nat) : Int))))) by first | (rw [hg4, hg5, hg6, hg9] <;> rfl) | (simp [hg4, hg5, hg6, hg9]; done) | (simp only [nat_nlt] <;> simp)), trivial⟩ rfl)))))
              · refine J_gdno rfl rfl rfl rfl (J_gdno rfl rfl rfl rfl (J_gdno rfl rfl rfl rfl (J_gdno rfl rfl rfl rfl (J_gdx rfl rfl rfl (J_gdx rfl rfl rfl (J_gdx rfl rfl rfl (J_gdx rfl rfl rfl (J_gdx rfl rfl rfl (J_gdx rfl rfl rfl (J_gdno rfl rfl rfl rfl (J_st (R_pickF rfl rfl) rfl (J_st (R_move rfl) rfl (J_gd rfl rfl (R_fieldAddr0 fl37_0 rfl) rfl (J_gd rfl rfl (R_load sc3 rfl (h2.one 0 rfl)) rfl (J_gd rfl rfl (R_neq rfl rfl) rfl (J_gd rfl rfl (R_move rfl) rfl ?_))))))))))))))))
                refine J_if (gd := 82) rfl rfl (fun hg10 => ?_) (fun hg10 => ?_)
                · refine J_gd rfl rfl (R_move rfl) rfl (J_gd rfl rfl (R_move rfl) rfl (J_gd rfl rfl (R_leq rfl rfl) rfl (J_gd rfl rfl (R_pickT rfl rfl) rfl (J_st (R_pickF rfl rfl) rfl (J_cutEnd ⟨rfl, rfl, rfl, rfl, rfl, rfl, rfl, rfl, rfl, rfl, rfl, rfl, rfl, rfl, rfl, rfl, rfl, rfl, rfl, rfl, rfl, rfl, rfl, rfl, rfl, rfl, congrArg (fun b => some (Value.bool b)) (show (decide ((((g.nodes[i]'hi1).outs)[k]'hi2) ≤ ((i : Nat) : Int))) = (((((g.nodes[i]'hi1).kind) == 7) && ((decide (((i : Nat) : Int) < (((g.nodes[i]'hi1).outs)[k]'hi2))) || ((((g.nodes[(Int.toNat (((g.nodes[i]'hi1).outs)[k]'hi2))]'hi3).kind) != 5) && (((g.nodes[(Int.toNat (((g.nodes[i]'hi1).outs)[k]'hi2))]'hi3).kind) != 6)))) || ((((g.nodes[i]'hi1).kind) != 7) && (decide ((((g.nodes[i]'hi1).outs)[k]'hi2) ≤ ((i : Nat) : Int))))) by first | (rw [hg4, hg10] <;> rfl) | (simp [hg4, hg10]; done) | (simp only [nat_nlt] <;> simp)), trivial⟩ rfl)))))
                · refine J_gdno rfl rfl rfl rfl (J_gdno rfl rfl rfl rfl (J_gdno rfl rfl rfl rfl (J_gd rfl rfl (R_pickF rfl rfl) rfl (J_st (R_pickF rfl rfl) rfl (J_cutEnd ⟨rfl, rfl, rfl, rfl, rfl, rfl, rfl, rfl, rfl, rfl, rfl, rfl, rfl, rfl, rfl, rfl, rfl, rfl, rfl, rfl, rfl, rfl, rfl, rfl, rfl, rfl, congrArg (fun b => some (Value.bool b)) (show false = (((((g.nodes[i]'hi1).kind) == 7) && ((decide (((i : Nat) : Int) < (((g.nodes[i]'hi1).outs)[k]'hi2))) || ((((g.nodes[(Int.toNat (((g.nodes[i]'hi1).outs)[k]'hi2))]'hi3).kind) != 5) && (((g.nodes[(Int.toNat (((g.nodes[i]'hi1).outs)[k]'hi2))]'hi3).kind) != 6)))) || ((((g.nodes[i]'hi1).kind) != 7) && (decide ((((g.nodes[i]'hi1).outs)[k]'hi2) ≤ ((i : Nat) : Int))))) by first | (rw [hg4, hg10] <;> rfl) | (simp [hg4, hg10]; done) | (simp only [nat_nlt] <;> simp)), trivial⟩ rfl)))))
            rintro _ rfl
            refine J_done ?_
            refine S_cond rfl (fun hc6 => ?_) (fun hc6 => ?_)
            · refine S_seq ?_
              refine S_reg [true] rfl rfl ?_
              refine J_st (R_assign rfl) rfl (J_done ?_)
              refine S_ret (E_inB_ret (E_lp_ret (E_inB_ret (E_inB_ret (E_lp_ret (E_inB_ret (E_done1 rfl rfl E ?_)))))))
              exact graph_e (edge_b (congrArg Node.kind (getD_at _)).symm (by assumption))
            · refine S_skip ?_
              refine S_nil (E_inB ?_)
              refine S_reg [true, true] rfl rfl ?_
              refine J_st (R_add rfl rfl (add_one hc4n (hd2.ext E).1.1)) rfl (J_st (R_move rfl) rfl (J_done ?_))
              refine S_nil (E_again (k + 1) (by omega) ⟨rfl, rfl, rfl, rfl, rfl, rfl, rfl, rfl, rfl, rfl, trivial⟩ ⟨E, (by omega), h1, h2, (by omega), all_step hI (by assumption) (edge_n (congrArg Node.kind (getD_at _)).symm (by assumption) (by assumption))⟩)
        · have hc4n : ¬ k < ((g.nodes[i]'hi1).outs).length := by first | (have h := of_decide_eq_false hc4; omega) | (have h := hc4; simp at h; omega)
          refine S_exit (E_lp_exit (E_inB_exit ?_))
          refine S_nil (E_inB ?_)
          refine S_reg [true, true] rfl rfl ?_
          refine J_st (R_add rfl rfl (add_one hc2n (hd1.ext E).1.1)) rfl (J_st (R_move rfl) rfl (J_done ?_))
          refine S_nil (E_again (i + 1) (by omega) ⟨rfl, rfl, rfl, rfl, rfl, trivial⟩ ⟨E, (by omega), h1, (by omega), graph_s (h1 := hi1) (by assumption) hI (by omega) hp⟩)
    · have hc2n : ¬ i < g.nodes.length := by first | (have h := of_decide_eq_false hc2; omega) | (have h := hc2; simp at h; omega)
      refine S_exit (E_lp_exit (E_inB_exit ?_))
      refine S_seq ?_
      refine S_reg [true] rfl rfl ?_
      refine J_st (R_assign rfl) rfl (J_done ?_)
      refine S_ret (E_done1 rfl rfl E ?_)
      exact graph_y (by assumption) hp (by omega)

set_option maxHeartbeats 4000000 in
set_option maxRecDepth 20000 in
theorem s_GraphOk (cg : List Value) (g : Graph) (w : World) (hg : Dat.R w 0 w.heap.size cg g) : Ct Try.prog 9 [.agg cg.toArray] w (fun v _ => v = .bool (graphOk g)) := by
  refine ct_of Try.func9 rfl Try.ntmps9 rfl ?_
  obtain ⟨o1, rfl, hd1⟩ := Graph.op hg
  refine S_sub [(0, .agg [o1, .int .i64 g.workers, .int .i64 g.cap].toArray)] ⟨rfl, trivial⟩ ?_
  have E : Ext w w := Ext.refl w
  refine S_seq ?_
  refine S_reg [false, true] rfl rfl ?_
  refine J_box rfl rfl (fun b1 w1 e1 s1 h1 => ?_)
  have g_b1 : w.heap.size ≤ b1 := by have := E.size; omega
  have y_b1 := h1.lt
  replace E := E.trans e1
  have z1 := e1.size
  refine J_st (R_assign rfl) rfl (J_done ?_)
  refine S_seq ?_
  refine S_seq ?_
  refine S_reg [true, true, true, false, true, true, true, true, false, true, true, true, true, true, false, true, true] rfl rfl ?_
  refine J_st (R_fieldAddr0 fl26_0 rfl) rfl (J_st (R_load sc24 rfl (h1.one 0 rfl)) rfl (J_st (R_len Try.underlying24 rfl (hd1.ext E).len) rfl ?_))
  refine J_call Try.call51 rfl (s_l01In ((g.nodes.length : Nat) : Int) 1 8 _ ) rfl (fun _ w2 e2 hv => ?_)
  subst hv
  replace E := E.trans e2; replace h1 := h1.ext e2
  have z2 := e2.size
  refine J_st (R_not rfl) rfl (J_st (R_move rfl) rfl ?_)
  refine J_cut 11 [(0, .agg [o1, .int .i64 g.workers, .int .i64 g.cap].toArray), (1, .pointer (some ⟨b1, 0, none⟩)), (2, .bool false), (24, .bool (((!(win ((g.nodes.length : Nat) : Int) 1 8)) || (!(win g.workers 1 4))) || (!(win g.cap 1 4))))] (fun w' => Ext w w' ∧ w2.heap.size ≤ w'.heap.size ∧ Blk w' b1 ([o1, .int .i64 g.workers, .int .i64 g.cap])) ?_ ?_
  · refine J_if (gd := 13) rfl rfl (fun hg1 => ?_) (fun hg1 => ?_)
    · refine J_gdno rfl rfl rfl rfl (J_gdno rfl rfl rfl rfl ?_)
      refine J_ungno rfl rfl rfl rfl ?_
      refine J_gdno rfl rfl rfl rfl (J_st (R_pickT rfl rfl) rfl (J_st (R_move rfl) rfl (J_gdno rfl rfl rfl rfl (J_gdno rfl rfl rfl rfl ?_))))
      refine J_ungno rfl rfl rfl rfl ?_
      refine J_gdno rfl rfl rfl rfl (J_st (R_pickT rfl rfl) rfl (J_cutEnd ⟨rfl, rfl, rfl, congrArg (fun b => some (Value.bool b)) (show true = (((!(win ((g.nodes.length : Nat) : Int) 1 8)) || (!(win g.workers 1 4))) || (!(win g.cap 1 4))) by first | (rw [hg1] <;> rfl) | (simp [hg1]; done) | (simp only [nat_nlt] <;> simp)), trivial⟩ ⟨E, (by omega), h1⟩))
    · refine J_gd rfl rfl (R_fieldAddr0 fl26_1 rfl) rfl (J_gd rfl rfl (R_load sc3 rfl (h1.one 1 rfl)) rfl ?_)
      refine J_ung rfl rfl ?_
      refine J_call Try.call51 rfl (s_l01In g.workers 1 4 _ ) rfl (fun _ w4 e3 hv => ?_)
      subst hv
      replace E := E.trans e3; replace h1 := h1.ext e3
      have z3 := e3.size
      refine J_gd rfl rfl (R_not rfl) rfl (J_st (R_pickF rfl rfl) rfl (J_st (R_move rfl) rfl ?_))
      refine J_if (gd := 19) rfl rfl (fun hg2 => ?_) (fun hg2 => ?_)
      · refine J_gdno rfl rfl rfl rfl (J_gdno rfl rfl rfl rfl ?_)
        refine J_ungno rfl rfl rfl rfl ?_
        refine J_gdno rfl rfl rfl rfl (J_st (R_pickT rfl rfl) rfl (J_cutEnd ⟨rfl, rfl, rfl, congrArg (fun b => some (Value.bool b)) (show true = (((!(win ((g.nodes.length : Nat) : Int) 1 8)) || (!(win g.workers 1 4))) || (!(win g.cap 1 4))) by first | (rw [hg1, hg2] <;> rfl) | (simp [hg1, hg2]; done) | (simp only [nat_nlt] <;> simp)), trivial⟩ ⟨E, (by omega), h1⟩))
      · refine J_gd rfl rfl (R_fieldAddr0 fl26_2 rfl) rfl (J_gd rfl rfl (R_load sc3 rfl (h1.one 2 rfl)) rfl ?_)
        refine J_ung rfl rfl ?_
        refine J_call Try.call51 rfl (s_l01In g.cap 1 4 _ ) rfl (fun _ w5 e4 hv => ?_)
        subst hv
        replace E := E.trans e4; replace h1 := h1.ext e4
        have z4 := e4.size
        refine J_gd rfl rfl (R_not rfl) rfl (J_st (R_pickF rfl rfl) rfl (J_cutEnd ⟨rfl, rfl, rfl, congrArg (fun b => some (Value.bool b)) (show (!(win g.cap 1 4)) = (((!(win ((g.nodes.length : Nat) : Int) 1 8)) || (!(win g.workers 1 4))) || (!(win g.cap 1 4))) by first | (rw [hg1, hg2] <;> rfl) | (simp [hg1, hg2]; done) | (simp only [nat_nlt] <;> simp)), trivial⟩ ⟨E, (by omega), h1⟩))
  clear E h1
  rintro w3 ⟨E, z5, h1⟩
  refine J_done ?_
  refine S_cond rfl (fun hc1 => ?_) (fun hc1 => ?_)
  · refine S_seq ?_
    refine S_reg [true] rfl rfl ?_
    refine J_st (R_assign rfl) rfl (J_done ?_)
    refine S_ret (E_done1 rfl rfl E ?_)
    exact graph_h (by assumption)
  · refine S_skip ?_
    refine S_seq ?_
    refine S_seq ?_
    refine S_reg [true] rfl rfl ?_
    refine J_st (R_assign rfl) rfl (J_done ?_)
    refine S_block ?_
    refine S_loop (fun (i : Nat) => [(1, .pointer (some ⟨b1, 0, none⟩)), (2, .bool false), (3, .int .i64 ((i : Nat) : Int))]) (fun (i : Nat) w' => Ext w w' ∧ w3.heap.size ≤ w'.heap.size ∧ Blk w' b1 ([o1, .int .i64 g.workers, .int .i64 g.cap]) ∧ i ≤ g.nodes.length ∧ (∀ j, j < i → nodeAtOk g j (List.getD g.nodes j default) = true)) (fun (i : Nat) => g.nodes.length - i) 0 ⟨rfl, rfl, rfl, trivial⟩ ⟨E, Nat.le_refl _, h1, Nat.zero_le _, (fun j hj => by omega)⟩ ?_
    clear E h1
    rintro i w6 ⟨E, z6, h1, hle, hp⟩
    refine S_seq ?_
    refine S_seq ?_
    refine S_reg [true, true, true, true, true] rfl rfl ?_
    refine J_st (R_move rfl) rfl (J_st (R_fieldAddr0 fl26_0 rfl) rfl (J_st (R_load sc24 rfl (h1.one 0 rfl)) rfl (J_st (R_len Try.underlying24 rfl (hd1.ext E).len) rfl (J_st (R_lss rfl rfl) rfl (J_done ?_)))))
    refine S_cond rfl (fun hc2 => ?_) (fun hc2 => ?_)
    · have hc2n : i < g.nodes.length := by first | (have h := of_decide_eq_true hc2; omega) | (have h := hc2; simp at h; omega)
      refine S_skip ?_
      refine S_seq ?_
      refine S_block ?_
      refine S_seq ?_
      refine S_reg [true, true, true, true, true, false, false] rfl rfl ?_
      refine J_st (R_fieldAddr0 fl26_0 rfl) rfl (J_st (R_load sc24 rfl (h1.one 0 rfl)) rfl (J_st (R_move rfl) rfl ?_))
      have hi1 : i < g.nodes.length := (by first | assumption | omega | (simp only [List.length_set]; first | assumption | omega) | (simp only [List.getElem_set_self, List.length_set]; first | assumption | omega) | (simp only [setW, setLk, List.length_set]; first | assumption | omega) | (simp; done))
      obtain ⟨_, hr1, ha1⟩ := RdD.get hd1 hi1
      obtain ⟨o2, rfl, hd2⟩ := Node.op hr1
      replace ha1 : At w (sblk o1) (soff o1 + i * 4) [.int .i64 ((g.nodes[i]'hi1).kind), .int .i64 ((g.nodes[i]'hi1).a), .int .i64 ((g.nodes[i]'hi1).b), o2] := ha1
      refine J_st (R_index (i := i) sl24 rfl rfl (hd1.ext E).1 hi1) rfl (J_st (R_loadS st37 rfl (ha1.ext E) rfl) rfl ?_)
      refine J_alloc st37 rfl (fun b2 w7 e5 s2 h2 => ?_)
      have g_b2 : w.heap.size ≤ b2 := by have := E.size; omega
      have y_b2 := h2.lt
      replace E := E.trans e5; replace h1 := h1.ext e5
      have z7 := e5.size
      refine J_storeS' (cs' := [.int .i64 ((g.nodes[i]'hi1).kind), .int .i64 ((g.nodes[i]'hi1).a), .int .i64 ((g.nodes[i]'hi1).b), o2]) st37 rfl rfl rfl (all_cons rfl (all_cons rfl (all_cons rfl (all_cons (RdD.one (hd2.ext E)) rfl)))) h2 (Nat.le_of_ble_eq_true rfl) rfl (fun w8 m1 h2' => ?_)
      replace h2 := h2'
      replace E := E.step m1 (fun g hg => by cases hg; omega); replace h1 := h1.mod m1 (fun g hg => by cases hg; omega)
      have z8 := m1.size
      refine J_done ?_
      refine S_seq ?_
      refine S_seq ?_
      refine S_reg [true, false, true, true, true, true, true, true, true, true, true] rfl rfl ?_
      refine J_st (R_loadS st37 rfl h2.at rfl) rfl ?_
      refine J_call Try.call52 rfl (s_NodeOk [.int .i64 ((g.nodes[i]'hi1).kind), .int .i64 ((g.nodes[i]'hi1).a), .int .i64 ((g.nodes[i]'hi1).b), o2] (g.nodes[i]'hi1) _ (Node.mkR (g.nodes[i]'hi1) (RdD.any (hd2.ext E)))) rfl (fun _ w9 e6 hv => ?_)
      subst hv
      replace E := E.trans e6; replace h1 := h1.ext e6; replace h2 := h2.ext e6
      have z9 := e6.size
      refine J_st (R_not rfl) rfl (J_st (R_move rfl) rfl ?_)
      refine J_cut 7 [(1, .pointer (some ⟨b1, 0, none⟩)), (2, .bool false), (3, .int .i64 ((i : Nat) : Int)), (4, .pointer (some ⟨b2, 0, none⟩)), (25, .int .i64 ((i : Nat) : Int)), (26, .pointer (some ⟨b1, 0, none⟩)), (27, o1), (28, .int .i64 ((g.nodes.length : Nat) : Int)), (29, .bool (decide (((i : Nat) : Int) < ((g.nodes.length : Nat) : Int)))), (32, .pointer (some ⟨b1, 0, none⟩)), (33, o1), (34, .int .i64 ((i : Nat) : Int)), (35, .pointer (some ⟨sblk o1, soff o1 + i * 4, none⟩)), (36, .agg [.int .i64 ((g.nodes[i]'hi1).kind), .int .i64 ((g.nodes[i]'hi1).a), .int .i64 ((g.nodes[i]'hi1).b), o2].toArray), (47, .bool ((!(nodeOk (g.nodes[i]'hi1))) || (!((((g.nodes[i]'hi1).kind) == 1) == (((i : Nat) : Int) == 0)))))] (fun w' => w9 = w') ?_ ?_
      · refine J_if (gd := 40) rfl rfl (fun hg3 => ?_) (fun hg3 => ?_)
        · refine J_gdno rfl rfl rfl rfl (J_gdno rfl rfl rfl rfl (J_gdno rfl rfl rfl rfl (J_gdno rfl rfl rfl rfl (J_gdno rfl rfl rfl rfl (J_gdno rfl rfl rfl rfl (J_st (R_pickT rfl rfl) rfl (J_cutEnd ⟨rfl, rfl, rfl, rfl, rfl, rfl, rfl, rfl, rfl, rfl, rfl, rfl, rfl, rfl, congrArg (fun b => some (Value.bool b)) (show true = ((!(nodeOk (g.nodes[i]'hi1))) || (!((((g.nodes[i]'hi1).kind) == 1) == (((i : Nat) : Int) == 0)))) by first | (rw [hg3] <;> rfl) | (simp [hg3]; done) | (simp only [nat_nlt] <;> simp)), trivial⟩ rfl)))))))
        · refine J_gd rfl rfl (R_fieldAddr0 fl37_0 rfl) rfl (J_gd rfl rfl (R_load sc3 rfl (h2.one 0 rfl)) rfl (J_gd rfl rfl (R_eql rfl rfl) rfl (J_gd rfl rfl (R_move rfl) rfl (J_gd rfl rfl (R_eql rfl rfl) rfl (J_gd rfl rfl (R_neqB (Try.underlying4) rfl rfl) rfl (J_st (R_pickF rfl rfl) rfl (J_cutEnd ⟨rfl, rfl, rfl, rfl, rfl, rfl, rfl, rfl, rfl, rfl, rfl, rfl, rfl, rfl, congrArg (fun b => some (Value.bool b)) (show (!((((g.nodes[i]'hi1).kind) == 1) == (((i : Nat) : Int) == 0))) = ((!(nodeOk (g.nodes[i]'hi1))) || (!((((g.nodes[i]'hi1).kind) == 1) == (((i : Nat) : Int) == 0)))) by first | (rw [hg3] <;> rfl) | (simp [hg3]; done) | (simp only [nat_nlt] <;> simp)), trivial⟩ rfl)))))))
      rintro _ rfl
      refine J_done ?_
      refine S_cond rfl (fun hc3 => ?_) (fun hc3 => ?_)
      · refine S_seq ?_
        refine S_reg [true] rfl rfl ?_
        refine J_st (R_assign rfl) rfl (J_done ?_)
        refine S_ret (E_inB_ret (E_lp_ret (E_inB_ret (E_done1 rfl rfl E ?_))))
        exact graph_a (by assumption)
      · refine S_skip ?_
        refine S_seq ?_
        refine S_reg [true] rfl rfl ?_
        refine J_st (R_assign rfl) rfl (J_done ?_)
        refine S_block ?_
        refine S_loop (fun (k : Nat) => [(1, .pointer (some ⟨b1, 0, none⟩)), (2, .bool false), (3, .int .i64 ((i : Nat) : Int)), (4, .pointer (some ⟨b2, 0, none⟩)), (5, .int .i64 ((k : Nat) : Int))]) (fun (k : Nat) w' => Ext w w' ∧ w9.heap.size ≤ w'.heap.size ∧ Blk w' b1 ([o1, .int .i64 g.workers, .int .i64 g.cap]) ∧ Blk w' b2 [.int .i64 ((g.nodes[i]'hi1).kind), .int .i64 ((g.nodes[i]'hi1).a), .int .i64 ((g.nodes[i]'hi1).b), o2] ∧ k ≤ (g.nodes[i]'hi1).outs.length ∧ ((g.nodes[i]'hi1).outs.take k).all (fun to => !edgeBad g i (g.nodes[i]'hi1) to) = true) (fun (k : Nat) => (g.nodes[i]'hi1).outs.length - k) 0 ⟨rfl, rfl, rfl, rfl, rfl, trivial⟩ ⟨E, Nat.le_refl _, h1, h2, Nat.zero_le _, rfl⟩ ?_
        clear E h1 h2
        rintro k w11 ⟨E, z10, h1, h2, hk, hI⟩
        refine S_seq ?_
        refine S_seq ?_
        refine S_reg [true, true, true, true, true] rfl rfl ?_
        refine J_st (R_move rfl) rfl (J_st (R_fieldAddr0 fl37_3 rfl) rfl (J_st (R_load sc30 rfl (h2.one 3 rfl)) rfl (J_st (R_len Try.underlying30 rfl (hd2.ext E).len) rfl (J_st (R_lss rfl rfl) rfl (J_done ?_)))))
        refine S_cond rfl (fun hc4 => ?_) (fun hc4 => ?_)
        · have hc4n : k < ((g.nodes[i]'hi1).outs).length := by first | (have h := of_decide_eq_true hc4; omega) | (have h := hc4; simp at h; omega)
          refine S_skip ?_
          refine S_seq ?_
          refine S_block ?_
          refine S_seq ?_
          refine S_reg [true, true, true, true, true, true] rfl rfl ?_
          refine J_st (R_fieldAddr0 fl37_3 rfl) rfl (J_st (R_load sc30 rfl (h2.one 3 rfl)) rfl (J_st (R_move rfl) rfl ?_))
          have hi2 : k < ((g.nodes[i]'hi1).outs).length := (by first | assumption | omega | (simp only [List.length_set]; first | assumption | omega) | (simp only [List.getElem_set_self, List.length_set]; first | assumption | omega) | (simp only [setW, setLk, List.length_set]; first | assumption | omega) | (simp; done))
          refine J_st (R_index (i := k) sl30 rfl rfl (hd2.rd.ext E) hi2) rfl (J_st (R_load sc3 rfl (((hd2.rd.ext E).get hi2).one 0 rfl)) rfl (J_st (R_assign rfl) rfl (J_done ?_)))
          refine S_seq ?_
          refine S_seq ?_
          refine S_reg [true, true, true, true, true, true, true, true, true, true, true, true, true, true, true] rfl rfl ?_
          refine J_st (R_move rfl) rfl (J_st (R_fieldAddr0 fl26_0 rfl) rfl (J_st (R_load sc24 rfl (h1.one 0 rfl)) rfl (J_st (R_len Try.underlying24 rfl (hd1.ext E).len) rfl (J_st (R_geq rfl rfl) rfl (J_st (R_move rfl) rfl ?_)))))
          refine J_cut 9 [(1, .pointer (some ⟨b1, 0, none⟩)), (2, .bool false), (3, .int .i64 ((i : Nat) : Int)), (4, .pointer (some ⟨b2, 0, none⟩)), (5, .int .i64 ((k : Nat) : Int)), (6, .int .i64 (((g.nodes[i]'hi1).outs)[k]'hi2)), (48, .int .i64 ((k : Nat) : Int)), (49, .pointer (some ⟨b2, 3, none⟩)), (50, o2), (51, .int .i64 ((((g.nodes[i]'hi1).outs).length : Nat) : Int)), (52, .bool (decide (((k : Nat) : Int) < ((((g.nodes[i]'hi1).outs).length : Nat) : Int)))), (55, .pointer (some ⟨b2, 3, none⟩)), (56, o2), (57, .int .i64 ((k : Nat) : Int)), (58, .pointer (some ⟨sblk o2, soff o2 + k * 1, none⟩)), (59, .int .i64 (((g.nodes[i]'hi1).outs)[k]'hi2)), (74, .bool ((decide (((g.nodes.length : Nat) : Int) ≤ (((g.nodes[i]'hi1).outs)[k]'hi2))) || ((((g.nodes[i]'hi1).kind) != 7) && (decide ((((g.nodes[i]'hi1).outs)[k]'hi2) ≤ ((i : Nat) : Int))))))] (fun w' => w11 = w') ?_ ?_
          · refine J_if (gd := 65) rfl rfl (fun hg4 => ?_) (fun hg4 => ?_)
            · refine J_gdno rfl rfl rfl rfl (J_gdno rfl rfl rfl rfl (J_gdno rfl rfl rfl rfl (J_gdno rfl rfl rfl rfl (J_gdx rfl rfl rfl (J_gdx rfl rfl rfl (J_gdx rfl rfl rfl (J_gdno rfl rfl rfl rfl (J_st (R_pickT rfl rfl) rfl (J_cutEnd ⟨rfl, rfl, rfl, rfl, rfl, rfl, rfl, rfl, rfl, rfl, rfl, rfl, rfl, rfl, rfl, rfl, congrArg (fun b => some (Value.bool b)) (show true = ((decide (((g.nodes.length : Nat) : Int) ≤ (((g.nodes[i]'hi1).outs)[k]'hi2))) || ((((g.nodes[i]'hi1).kind) != 7) && (decide ((((g.nodes[i]'hi1).outs)[k]'hi2) ≤ ((i : Nat) : Int))))) by first | (rw [hg4] <;> rfl) | (simp [hg4]; done) | (simp only [nat_nlt] <;> simp)), trivial⟩ rfl)))))))))
            · have hto := graph_to (h1 := hi1) (h2 := hi2) (by assumption)
              have htl := Int.not_le.1 (of_decide_eq_false hg4)
              refine J_gd rfl rfl (R_fieldAddr0 fl37_0 rfl) rfl (J_gd rfl rfl (R_load sc3 rfl (h2.one 0 rfl)) rfl (J_gd rfl rfl (R_neq rfl rfl) rfl (J_gd rfl rfl (R_move rfl) rfl ?_)))
              refine J_if (gd := 69) rfl rfl (fun hg5 => ?_) (fun hg5 => ?_)
              · refine J_gd rfl rfl (R_move rfl) rfl (J_gd rfl rfl (R_move rfl) rfl (J_gd rfl rfl (R_leq rfl rfl) rfl (J_gd rfl rfl (R_pickT rfl rfl) rfl (J_st (R_pickF rfl rfl) rfl (J_cutEnd ⟨rfl, rfl, rfl, rfl, rfl, rfl, rfl, rfl, rfl, rfl, rfl, rfl, rfl, rfl, rfl, rfl, congrArg (fun b => some (Value.bool b)) (show (decide ((((g.nodes[i]'hi1).outs)[k]'hi2) ≤ ((i : Nat) : Int))) = ((decide (((g.nodes.length : Nat) : Int) ≤ (((g.nodes[i]'hi1).outs)[k]'hi2))) || ((((g.nodes[i]'hi1).kind) != 7) && (decide ((((g.nodes[i]'hi1).outs)[k]'hi2) ≤ ((i : Nat) : Int))))) by first | (rw [hg4, hg5] <;> rfl) | (simp [hg4, hg5]; done) | (simp only [nat_nlt] <;> simp)), trivial⟩ rfl)))))
              · refine J_gdno rfl rfl rfl rfl (J_gdno rfl rfl rfl rfl (J_gdno rfl rfl rfl rfl (J_gd rfl rfl (R_pickF rfl rfl) rfl (J_st (R_pickF rfl rfl) rfl (J_cutEnd ⟨rfl, rfl, rfl, rfl, rfl, rfl, rfl, rfl, rfl, rfl, rfl, rfl, rfl, rfl, rfl, rfl, congrArg (fun b => some (Value.bool b)) (show false = ((decide (((g.nodes.length : Nat) : Int) ≤ (((g.nodes[i]'hi1).outs)[k]'hi2))) || ((((g.nodes[i]'hi1).kind) != 7) && (decide ((((g.nodes[i]'hi1).outs)[k]'hi2) ≤ ((i : Nat) : Int))))) by first | (rw [hg4, hg5] <;> rfl) | (simp [hg4, hg5]; done) | (simp only [nat_nlt] <;> simp)), trivial⟩ rfl)))))
          rintro _ rfl
          refine J_done ?_
          refine S_cond rfl (fun hc5 => ?_) (fun hc5 => ?_)
          · refine S_seq ?_
            refine S_reg [true] rfl rfl ?_
            refine J_st (R_assign rfl) rfl (J_done ?_)
            refine S_ret (E_inB_ret (E_lp_ret (E_inB_ret (E_inB_ret (E_lp_ret (E_inB_ret (E_done1 rfl rfl E ?_)))))))
            exact graph_e (edge_s1 (by assumption))
          · have hto := graph_to (h1 := hi1) (h2 := hi2) (by assumption)
            have htl := edge_lt hc5
            refine S_skip ?_
            refine S_seq ?_
            refine S_reg [true, true, true, true, true, true, true] rfl rfl ?_
            refine J_st (R_fieldAddr0 fl26_0 rfl) rfl (J_st (R_load sc24 rfl (h1.one 0 rfl)) rfl (J_st (R_move rfl) rfl ?_))
            have hi3 : (Int.toNat (((g.nodes[i]'hi1).outs)[k]'hi2)) < g.nodes.length := (by first | assumption | omega | (simp only [List.length_set]; first | assumption | omega) | (simp only [List.getElem_set_self, List.length_set]; first | assumption | omega) | (simp only [setW, setLk, List.length_set]; first | assumption | omega) | (simp; done))
            obtain ⟨_, hr2, ha2⟩ := RdD.get hd1 hi3
            obtain ⟨o3, rfl, hd3⟩ := Node.op hr2
            replace ha2 : At w (sblk o1) (soff o1 + (Int.toNat (((g.nodes[i]'hi1).outs)[k]'hi2)) * 4) [.int .i64 ((g.nodes[(Int.toNat (((g.nodes[i]'hi1).outs)[k]'hi2))]'hi3).kind), .int .i64 ((g.nodes[(Int.toNat (((g.nodes[i]'hi1).outs)[k]'hi2))]'hi3).a), .int .i64 ((g.nodes[(Int.toNat (((g.nodes[i]'hi1).outs)[k]'hi2))]'hi3).b), o3] := ha2
            refine J_st (R_indexZ (i := (Int.toNat (((g.nodes[i]'hi1).outs)[k]'hi2))) sl24 rfl rfl (hd1.ext E).1 (by omega) hi3) rfl (J_st (R_fieldAddr fl37_0 rfl) rfl (J_st (R_load sc3 rfl ((ha2.ext E).one 0 rfl)) rfl (J_st (R_assign rfl) rfl (J_done ?_))))
            refine S_seq ?_
            refine S_reg [true, true, true, true, true, true, true, true, true, true, true, true, true, true, true, true] rfl rfl ?_
            refine J_st (R_fieldAddr0 fl37_0 rfl) rfl (J_st (R_load sc3 rfl (h2.one 0 rfl)) rfl (J_st (R_eql rfl rfl) rfl (J_st (R_move rfl) rfl ?_)))
            refine J_cut 12 [(1, .pointer (some ⟨b1, 0, none⟩)), (2, .bool false), (3, .int .i64 ((i : Nat) : Int)), (4, .pointer (some ⟨b2, 0, none⟩)), (5, .int .i64 ((k : Nat) : Int)), (6, .int .i64 (((g.nodes[i]'hi1).outs)[k]'hi2)), (7, .int .i64 ((g.nodes[(Int.toNat (((g.nodes[i]'hi1).outs)[k]'hi2))]'hi3).kind)), (48, .int .i64 ((k : Nat) : Int)), (49, .pointer (some ⟨b2, 3, none⟩)), (50, o2), (51, .int .i64 ((((g.nodes[i]'hi1).outs).length : Nat) : Int)), (52, .bool (decide (((k : Nat) : Int) < ((((g.nodes[i]'hi1).outs).length : Nat) : Int)))), (55, .pointer (some ⟨b2, 3, none⟩)), (56, o2), (57, .int .i64 ((k : Nat) : Int)), (58, .pointer (some ⟨sblk o2, soff o2 + k * 1, none⟩)), (59, .int .i64 (((g.nodes[i]'hi1).outs)[k]'hi2)), (74, .bool ((decide (((g.nodes.length : Nat) : Int) ≤ (((g.nodes[i]'hi1).outs)[k]'hi2))) || ((((g.nodes[i]'hi1).kind) != 7) && (decide ((((g.nodes[i]'hi1).outs)[k]'hi2) ≤ ((i : Nat) : Int)))))), (75, .pointer (some ⟨b1, 0, none⟩)), (76, o1), (77, .int .i64 (((g.nodes[i]'hi1).outs)[k]'hi2)), (78, .pointer (some ⟨sblk o1, soff o1 + (Int.toNat (((g.nodes[i]'hi1).outs)[k]'hi2)) * 4, none⟩)), (79, .pointer (some ⟨(sblk o1), soff o1 + (Int.toNat (((g.nodes[i]'hi1).outs)[k]'hi2)) * 4 + 0, none⟩)), (80, .int .i64 ((g.nodes[(Int.toNat (((g.nodes[i]'hi1).outs)[k]'hi2))]'hi3).kind)), (96, .bool ((((g.nodes[i]'hi1).kind) == 7) && ((decide (((i : Nat) : Int) < (((g.nodes[i]'hi1).outs)[k]'hi2))) || ((((g.nodes[(Int.toNat (((g.nodes[i]'hi1).outs)[k]'hi2))]'hi3).kind) != 5) && (((g.nodes[(Int.toNat (((g.nodes[i]'hi1).outs)[k]'hi2))]'hi3).kind) != 6)))))] (fun w' => w11 = w') ?_ ?_
            · refine J_if (gd := 84) rfl rfl (fun hg6 => ?_) (fun hg6 => ?_)
              · refine J_gd rfl rfl (R_move rfl) rfl (J_gd rfl rfl (R_move rfl) rfl (J_gd rfl rfl (R_gtr rfl rfl) rfl (J_gd rfl rfl (R_move rfl) rfl ?_)))
                refine J_if (gd := 88) rfl rfl (fun hg7 => ?_) (fun hg7 => ?_)
                · refine J_gdno rfl rfl rfl rfl (J_gdno rfl rfl rfl rfl (J_gdno rfl rfl rfl rfl (J_gdx rfl rfl rfl (J_gdx rfl rfl rfl (J_gdno rfl rfl rfl rfl (J_gd rfl rfl (R_pickT rfl rfl) rfl (J_st (R_pickT rfl rfl) rfl (J_cutEnd ⟨rfl, rfl, rfl, rfl, rfl, rfl, rfl, rfl, rfl, rfl, rfl, rfl, rfl, rfl, rfl, rfl, rfl, rfl, rfl, rfl, rfl, rfl, rfl, rfl, congrArg (fun b => some (Value.bool b)) (show true = ((((g.nodes[i]'hi1).kind) == 7) && ((decide (((i : Nat) : Int) < (((g.nodes[i]'hi1).outs)[k]'hi2))) || ((((g.nodes[(Int.toNat (((g.nodes[i]'hi1).outs)[k]'hi2))]'hi3).kind) != 5) && (((g.nodes[(Int.toNat (((g.nodes[i]'hi1).outs)[k]'hi2))]'hi3).kind) != 6)))) by first | (rw [hg6, hg7] <;> rfl) | (simp [hg6, hg7]; done) | (simp only [nat_nlt] <;> simp)), trivial⟩ rfl))))))))
                · refine J_gd rfl rfl (R_move rfl) rfl (J_gd rfl rfl (R_neq rfl rfl) rfl (J_gd rfl rfl (R_move rfl) rfl ?_))
                  refine J_if (gd := 91) rfl rfl (fun hg8 => ?_) (fun hg8 => ?_)
                  · refine J_gd rfl rfl (R_move rfl) rfl (J_gd rfl rfl (R_neq rfl rfl) rfl (J_gd rfl rfl (R_pickT rfl rfl) rfl (J_gd rfl rfl (R_pickF rfl rfl) rfl (J_st (R_pickT rfl rfl) rfl (J_cutEnd ⟨rfl, rfl, rfl, rfl, rfl, rfl, rfl, rfl, rfl, rfl, rfl, rfl, rfl, rfl, rfl, rfl, rfl, rfl, rfl, rfl, rfl, rfl, rfl, rfl, congrArg (fun b => some (Value.bool b)) (show (((g.nodes[(Int.toNat (((g.nodes[i]'hi1).outs)[k]'hi2))]'hi3).kind) != 6) = ((((g.nodes[i]'hi1).kind) == 7) && ((decide (((i : Nat) : Int) < (((g.nodes[i]'hi1).outs)[k]'hi2))) || ((((g.nodes[(Int.toNat (((g.nodes[i]'hi1).outs)[k]'hi2))]'hi3).kind) != 5) && (((g.nodes[(Int.toNat (((g.nodes[i]'hi1).outs)[k]'hi2))]'hi3).kind) != 6)))) by first | (rw [hg6, hg7, hg8] <;> rfl) | (simp [hg6, hg7, hg8]; done) | (simp only [nat_nlt] <;> simp)), trivial⟩ rfl)))))
                  · refine J_gdno rfl rfl rfl rfl (J_gdno rfl rfl rfl rfl (J_gd rfl rfl (R_pickF rfl rfl) rfl (J_gd rfl rfl (R_pickF rfl rfl) rfl (J_st (R_pickT rfl rfl) rfl (J_cutEnd ⟨rfl, rfl, rfl, rfl, rfl, rfl, rfl, rfl, rfl, rfl, rfl, rfl, rfl, rfl, rfl, rfl, rfl, rfl, rfl, rfl, rfl, rfl, rfl, rfl, congrArg (fun b => some (Value.bool b)) (show false = ((((g.nodes[i]'hi1).kind) == 7) && ((decide (((i : Nat) : Int) < (((g.nodes[i]'hi1).outs)[k]'hi2))) || ((((g.nodes[(Int.toNat (((g.nodes[i]'hi1).outs)[k]'hi2))]'hi3).kind) != 5) && (((g.nodes[(Int.toNat (((g.nodes[i]'hi1).outs)[k]'hi2))]'hi3).kind) != 6)))) by first | (rw [hg6, hg7, hg8] <;> rfl) | (simp [hg6, hg7, hg8]; done) | (simp only [nat_nlt] <;> simp)), trivial⟩ rfl)))))
              · refine J_gdno rfl rfl rfl rfl (J_gdno rfl rfl rfl rfl (J_gdno rfl rfl rfl rfl (J_gdno rfl rfl rfl rfl (J_gdx rfl rfl rfl (J_gdx rfl rfl rfl (J_gdx rfl rfl rfl (J_gdx rfl rfl rfl (J_gdx rfl rfl rfl (J_gdx rfl rfl rfl (J_gdno rfl rfl rfl rfl (J_st (R_pickF rfl rfl) rfl (J_cutEnd ⟨rfl, rfl, rfl, rfl, rfl, rfl, rfl, rfl, rfl, rfl, rfl, rfl, rfl, rfl, rfl, rfl, rfl, rfl, rfl, rfl, rfl, rfl, rfl, rfl, congrArg (fun b => some (Value.bool b)) (show false = ((((g.nodes[i]'hi1).kind) == 7) && ((decide (((i : Nat) : Int) < (((g.nodes[i]'hi1).outs)[k]'hi2))) || ((((g.nodes[(Int.toNat (((g.nodes[i]'hi1).outs)[k]'hi2))]'hi3).kind) != 5) && (((g.nodes[(Int.toNat (((g.nodes[i]'hi1).outs)[k]'hi2))]'hi3).kind) != 6)))) by first | (rw [hg6] <;> rfl) | (simp [hg6]; done) | (simp only [nat_nlt] <;> simp)), trivial⟩ rfl))))))))))))
            rintro _ rfl
            refine J_done ?_
            refine S_cond rfl (fun hc6 => ?_) (fun hc6 => ?_)
            · refine S_seq ?_
              refine S_reg [true] rfl rfl ?_
              refine J_st (R_assign rfl) rfl (J_done ?_)
              refine S_ret (E_inB_ret (E_lp_ret (E_inB_ret (E_inB_ret (E_lp_ret (E_inB_ret (E_done1 rfl rfl E ?_)))))))
              exact graph_e (edge_s2 (congrArg Node.kind (getD_at _)).symm (by assumption))
            · refine S_skip ?_
              refine S_nil (E_inB ?_)
              refine S_reg [true, true, true] rfl rfl ?_
              refine J_st (R_move rfl) rfl (J_st (R_add rfl rfl (add_one hc4n (hd2.ext E).1.1)) rfl (J_st (R_assign rfl) rfl (J_done ?_)))
              refine S_nil (E_again (k + 1) (by omega) ⟨rfl, rfl, rfl, rfl, rfl, trivial⟩ ⟨E, (by omega), h1, h2, (by omega), all_step hI (by assumption) (edge_sn (congrArg Node.kind (getD_at _)).symm (by assumption) (by assumption))⟩)
        · have hc4n : ¬ k < ((g.nodes[i]'hi1).outs).length := by first | (have h := of_decide_eq_false hc4; omega) | (have h := hc4; simp at h; omega)
          refine S_exit (E_lp_exit (E_inB_exit ?_))
          refine S_nil (E_inB ?_)
          refine S_reg [true, true, true] rfl rfl ?_
          refine J_st (R_move rfl) rfl (J_st (R_add rfl rfl (add_one hc2n (hd1.ext E).1.1)) rfl (J_st (R_assign rfl) rfl (J_done ?_)))
          refine S_nil (E_again (i + 1) (by omega) ⟨rfl, rfl, rfl, trivial⟩ ⟨E, (by omega), h1, (by omega), graph_s (h1 := hi1) (by assumption) hI (by omega) hp⟩)
    · have hc2n : ¬ i < g.nodes.length := by first | (have h := of_decide_eq_false hc2; omega) | (have h := hc2; simp at h; omega)
      refine S_exit (E_lp_exit (E_inB_exit ?_))
      refine S_seq ?_
      refine S_reg [true] rfl rfl ?_
      refine J_st (R_assign rfl) rfl (J_done ?_)
      refine S_ret (E_done1 rfl rfl E ?_)
      exact graph_y (by assumption) hp (by omega)

set_option maxRecDepth 20000 in
theorem c_isNode (cg : List Value) (g : Graph) (op : Int) (w : World) (hg : Dat.R w 0 w.heap.size cg g) : Ct Try.prog 55 [.agg cg.toArray, .int .i64 op] w (fun v _ => v = .bool (isNodeM g op)) := by
  refine ct_of Try.func55 rfl Try.ntmps55 rfl ?_
  obtain ⟨o1, rfl, hd1⟩ := Graph.op hg
  refine S_sub [(0, .agg [o1, .int .i64 g.workers, .int .i64 g.cap].toArray), (1, .int .i64 op)] ⟨rfl, rfl, trivial⟩ ?_
  have E : Ext w w := Ext.refl w
  refine S_seq ?_
  refine S_reg [false, true] rfl rfl ?_
  refine J_box rfl rfl (fun b1 w1 e1 s1 h1 => ?_)
  have g_b1 : w.heap.size ≤ b1 := by have := E.size; omega
  have y_b1 := h1.lt
  replace E := E.trans e1
  have z1 := e1.size
  refine J_st (R_assign rfl) rfl (J_done ?_)
  refine S_seq ?_
  refine S_reg [true, true, true, true, true, false, true] rfl rfl ?_
  refine J_st (R_move rfl) rfl (J_st (R_fieldAddr0 fl26_0 rfl) rfl (J_st (R_load sc24 rfl (h1.one 0 rfl)) rfl (J_st (R_len Try.underlying24 rfl (hd1.ext E).len) rfl (J_st (R_sub rfl rfl rfl) rfl ?_))))
  refine J_call Try.call49 rfl (c_within op 0 (IntKind.i64.wrap (((g.nodes.length : Nat) : Int) - 1)) _ ) rfl (fun _ w2 e2 hv => ?_)
  subst hv
  replace E := E.trans e2; replace h1 := h1.ext e2
  have z2 := e2.size
  refine J_st (R_assign rfl) rfl (J_done ?_)
  refine S_ret (E_done1 rfl rfl E ?_)
  have a1 := hd1.1.1
  unfold maxLen at a1
  rw [wrap_in (by omega) (by omega)]; rfl

set_option maxRecDepth 20000 in
theorem c_copyNode (cx : List Value) (x : Node) (w : World) (hx : Dat.R w 0 w.heap.size cx x) (hb : x.outs.length ≤ 1048576) : Ct Try.prog 56 [.agg cx.toArray] w (fun v w' => ∃ cs, v = .agg cs.toArray ∧ Own1.O w' w.heap.size w'.heap.size cs x) := by
  refine ct_of Try.func56 rfl Try.ntmps56 rfl ?_
  obtain ⟨o1, rfl, hd1⟩ := Node.op hx
  refine S_sub [(0, .agg [.int .i64 x.kind, .int .i64 x.a, .int .i64 x.b, o1].toArray)] ⟨rfl, trivial⟩ ?_
  have E : Ext w w := Ext.refl w
  refine S_seq ?_
  refine S_reg [false, false] rfl rfl ?_
  refine J_box rfl rfl (fun b1 w1 e1 s1 h1 => ?_)
  have g_b1 : w.heap.size ≤ b1 := by have := E.size; omega
  have y_b1 := h1.lt
  replace E := E.trans e1
  have z1 := e1.size
  refine J_alloc st37 rfl (fun b2 w2 e2 s2 h2 => ?_)
  have g_b2 : w.heap.size ≤ b2 := by have := E.size; omega
  have y_b2 := h2.lt
  replace E := E.trans e2; replace h1 := h1.ext e2
  have z2 := e2.size
  refine J_done ?_
  refine S_seq ?_
  refine S_reg [true, true, false, true, false] rfl rfl ?_
  refine J_st (R_fieldAddr0 fl37_3 rfl) rfl (J_st (R_load sc30 rfl (h1.one 3 rfl)) rfl ?_)
  refine J_append sl30 rfl rfl (Own.nil w2 w2.heap.size w2.heap.size 1) (RdS.src (hd1.rd.ext E)) (flat_one _) (by simp only [sum_flat, List.length_nil]; simp only [Enc.sz]; omega) (by decide) (by omega) (by omega) rfl rfl (fun v1 w3 m1 ho1 => ?_)
  replace E := E.step m1 (fun g hg => by have := Own.blk (Own.nil w2 w2.heap.size w2.heap.size 1) g hg; omega); replace h1 := h1.mod m1 (fun g hg => by have := Own.blk (Own.nil w2 w2.heap.size w2.heap.size 1) g hg; omega); replace h2 := h2.mod m1 (fun g hg => by have := Own.blk (Own.nil w2 w2.heap.size w2.heap.size 1) g hg; omega)
  have z3 := m1.size
  refine J_st (R_fieldAddr0 fl37_3 rfl) rfl ?_
  refine J_store' (cs' := [.int .i64 x.kind, .int .i64 x.a, .int .i64 x.b, v1]) sc30 rfl rfl ho1.one h1 (Nat.le_of_ble_eq_true rfl) rfl (fun w4 m2 h1' => ?_)
  replace h1 := h1'
  replace E := E.step m2 (fun g hg => by cases hg; omega); replace h2 := h2.mod m2 (fun g hg => by cases hg; omega); replace ho1 := ho1.mod m2 (fun g hg => by cases hg; omega)
  have z4 := m2.size
  refine J_done ?_
  refine S_seq ?_
  refine S_reg [true, false] rfl rfl ?_
  refine J_st (R_loadS st37 rfl h1.at rfl) rfl ?_
  refine J_storeS' (cs' := [.int .i64 x.kind, .int .i64 x.a, .int .i64 x.b, v1]) st37 rfl rfl rfl (all_cons rfl (all_cons rfl (all_cons rfl (all_cons ho1.one rfl)))) h2 (Nat.le_of_ble_eq_true rfl) rfl (fun w5 m3 h2' => ?_)
  replace h2 := h2'
  replace E := E.step m3 (fun g hg => by cases hg; omega); replace h1 := h1.mod m3 (fun g hg => by cases hg; omega); replace ho1 := ho1.mod m3 (fun g hg => by cases hg; omega)
  have z5 := m3.size
  refine J_done ?_
  refine S_ret (E_doneC rfl rfl (run_loadVar_st st37 h2.at rfl) E ?_)
  exact ⟨_, rfl, Node.mkO (⟨x.kind, x.a, x.b, [] ++ x.outs⟩ : Node) ⟨trivial, trivial⟩ (Own.widen ho1 (by omega) (by omega))⟩

set_option maxRecDepth 20000 in
theorem c_NodeOf (cg : List Value) (g : Graph) (op : Int) (w : World) (hg : Dat.R w 0 w.heap.size cg g) (hb : cntGraph g ≤ 1048576) : Ct Try.prog 17 [.agg cg.toArray, .int .i64 op] w (fun v w' => ∃ c0, v = .tuple [.agg c0.toArray, .bool ((nodeOf g op).2)].toArray ∧ Own1.O w' w.heap.size w'.heap.size c0 ((nodeOf g op).1)) := by
  refine ct_of Try.func17 rfl Try.ntmps17 rfl ?_
  obtain ⟨o1, rfl, hd1⟩ := Graph.op hg
  refine S_sub [(0, .agg [o1, .int .i64 g.workers, .int .i64 g.cap].toArray), (1, .int .i64 op)] ⟨rfl, rfl, trivial⟩ ?_
  have E : Ext w w := Ext.refl w
  refine S_seq ?_
  refine S_reg [false, false, true] rfl rfl ?_
  refine J_box rfl rfl (fun b1 w1 e1 s1 h1 => ?_)
  have g_b1 : w.heap.size ≤ b1 := by have := E.size; omega
  have y_b1 := h1.lt
  replace E := E.trans e1
  have z1 := e1.size
  refine J_alloc st37 rfl (fun b2 w2 e2 s2 h2 => ?_)
  have g_b2 : w.heap.size ≤ b2 := by have := E.size; omega
  have y_b2 := h2.lt
  replace E := E.trans e2; replace h1 := h1.ext e2
  have z2 := e2.size
  refine J_st (R_assign rfl) rfl (J_done ?_)
  refine S_seq ?_
  refine S_seq ?_
  refine S_reg [true, true, false, true] rfl rfl ?_
  refine J_st (R_loadS st26 rfl h1.at rfl) rfl (J_st (R_move rfl) rfl ?_)
  refine J_call Try.call55 rfl (c_isNode [o1, .int .i64 g.workers, .int .i64 g.cap] g op _ (Graph.mkR g (RdD.any (hd1.ext E)))) rfl (fun _ w3 e3 hv => ?_)
  subst hv
  replace E := E.trans e3; replace h1 := h1.ext e3; replace h2 := h2.ext e3
  have z3 := e3.size
  refine J_st (R_not rfl) rfl (J_done ?_)
  refine S_cond rfl (fun hc1 => ?_) (fun hc1 => ?_)
  · refine S_seq ?_
    refine S_reg [true, false, true] rfl rfl ?_
    have hbl1 : ∀ w, (Instr.build 37 ([]).toArray).run Try.prog w = .ok (.agg [.int .i64 0, .int .i64 0, .int .i64 0, .slice none 0 0].toArray) w := by clear E; intro w; kernel_rfl
    refine J_st (R_buildC [.int .i64 0, .int .i64 0, .int .i64 0, .slice none 0 0] rfl hbl1) rfl ?_
    refine J_storeS' (cs' := [.int .i64 0, .int .i64 0, .int .i64 0, .slice none 0 0]) st37 rfl rfl rfl rfl h2 (Nat.le_of_ble_eq_true rfl) rfl (fun w4 m1 h2' => ?_)
    replace h2 := h2'
    replace E := E.step m1 (fun g hg => by cases hg; omega); replace h1 := h1.mod m1 (fun g hg => by cases hg; omega)
    have z4 := m1.size
    refine J_st (R_assign rfl) rfl (J_done ?_)
    refine S_ret (E_doneN (l := [.cell 4 37, .tmp 5]) (vs := [.agg [.int .i64 0, .int .i64 0, .int .i64 0, .slice none 0 0].toArray, .bool false]) rfl ⟨.cell rfl (run_loadVar_st st37 h2.at rfl), .tmp rfl, trivial⟩ rfl E ?_)
    rw [nodeOf_no (by simpa [isNodeM] using hc1)]
    exact ⟨_, rfl, (Node.mkO (⟨0, 0, 0, []⟩ : Node) ⟨trivial, trivial⟩ (Own.nil _ _ _ _))⟩
  · have hop := isNode_of (by simpa using hc1)
    refine S_skip ?_
    refine S_seq ?_
    refine S_reg [true, true, true, true, true, false, false, true] rfl rfl ?_
    refine J_st (R_fieldAddr0 fl26_0 rfl) rfl (J_st (R_load sc24 rfl (h1.one 0 rfl)) rfl (J_st (R_move rfl) rfl ?_))
    have hi1 : (Int.toNat op) < g.nodes.length := (by first | assumption | omega | (simp only [List.length_set]; first | assumption | omega) | (simp only [List.getElem_set_self, List.length_set]; first | assumption | omega) | (simp only [setW, setLk, List.length_set]; first | assumption | omega) | (simp; done))
    obtain ⟨_, hr1, ha1⟩ := RdD.get hd1 hi1
    obtain ⟨o2, rfl, hd2⟩ := Node.op hr1
    replace ha1 : At w (sblk o1) (soff o1 + (Int.toNat op) * 4) [.int .i64 ((g.nodes[(Int.toNat op)]'hi1).kind), .int .i64 ((g.nodes[(Int.toNat op)]'hi1).a), .int .i64 ((g.nodes[(Int.toNat op)]'hi1).b), o2] := ha1
    refine J_st (R_indexZ (i := (Int.toNat op)) sl24 rfl rfl (hd1.ext E).1 (by omega) hi1) rfl (J_st (R_loadS st37 rfl (ha1.ext E) rfl) rfl ?_)
    refine J_call Try.call56 rfl (c_copyNode [.int .i64 ((g.nodes[(Int.toNat op)]'hi1).kind), .int .i64 ((g.nodes[(Int.toNat op)]'hi1).a), .int .i64 ((g.nodes[(Int.toNat op)]'hi1).b), o2] (g.nodes[(Int.toNat op)]'hi1) _ (Node.mkR (g.nodes[(Int.toNat op)]'hi1) (RdD.any (hd2.ext E))) (outs_le hb (List.getElem_mem _))) rfl (fun _ w5 e4 ho1 => ?_)
    obtain ⟨_, rfl, ho1⟩ := ho1
    have g_ho1 : w.heap.size ≤ w3.heap.size := E.size
    replace E := E.trans e4; replace h1 := h1.ext e4; replace h2 := h2.ext e4
    have z5 := e4.size
    obtain ⟨o3, rfl, sp1, hw1⟩ := Node.opO ho1
    refine J_storeS' (cs' := [.int .i64 ((g.nodes[(Int.toNat op)]'hi1).kind), .int .i64 ((g.nodes[(Int.toNat op)]'hi1).a), .int .i64 ((g.nodes[(Int.toNat op)]'hi1).b), o3]) st37 rfl rfl rfl (all_cons rfl (all_cons rfl (all_cons rfl (all_cons hw1.one rfl)))) h2 (Nat.le_of_ble_eq_true rfl) rfl (fun w6 m2 h2' => ?_)
    replace h2 := h2'
    replace E := E.step m2 (fun g hg => by cases hg; omega); replace h1 := h1.mod m2 (fun g hg => by cases hg; omega); replace hw1 := hw1.mod m2 (fun g hg => by cases hg; omega)
    have z6 := m2.size
    refine J_st (R_assign rfl) rfl (J_done ?_)
    refine S_ret (E_doneN (l := [.cell 4 37, .tmp 5]) (vs := [.agg [.int .i64 ((g.nodes[(Int.toNat op)]'hi1).kind), .int .i64 ((g.nodes[(Int.toNat op)]'hi1).a), .int .i64 ((g.nodes[(Int.toNat op)]'hi1).b), o3].toArray, .bool true]) rfl ⟨.cell rfl (run_loadVar_st st37 h2.at rfl), .tmp rfl, trivial⟩ rfl E ?_)
    rw [nodeOf_yes (by assumption) ]
    exact ⟨_, rfl, (Node.mkO (g.nodes[(Int.toNat op)]'hi1) sp1 (Own.widen hw1 (by omega) (by omega)))⟩

set_option maxRecDepth 20000 in
theorem s_NodeOf (cg : List Value) (g : Graph) (op : Int) (w : World) (hg : Dat.R w 0 w.heap.size cg g) (hb : cntGraph g ≤ 1048576) : Ct Try.prog 18 [.agg cg.toArray, .int .i64 op] w (fun v w' => ∃ c0, v = .tuple [.agg c0.toArray, .bool ((nodeOf g op).2)].toArray ∧ Own1.O w' w.heap.size w'.heap.size c0 ((nodeOf g op).1)) := by
  refine ct_of Try.func18 rfl Try.ntmps18 rfl ?_
  obtain ⟨o1, rfl, hd1⟩ := Graph.op hg
  refine S_sub [(0, .agg [o1, .int .i64 g.workers, .int .i64 g.cap].toArray), (1, .int .i64 op)] ⟨rfl, rfl, trivial⟩ ?_
  have E : Ext w w := Ext.refl w
  refine S_seq ?_
  refine S_reg [false, false, true] rfl rfl ?_
  refine J_box rfl rfl (fun b1 w1 e1 s1 h1 => ?_)
  have g_b1 : w.heap.size ≤ b1 := by have := E.size; omega
  have y_b1 := h1.lt
  replace E := E.trans e1
  have z1 := e1.size
  refine J_alloc st37 rfl (fun b2 w2 e2 s2 h2 => ?_)
  have g_b2 : w.heap.size ≤ b2 := by have := E.size; omega
  have y_b2 := h2.lt
  replace E := E.trans e2; replace h1 := h1.ext e2
  have z2 := e2.size
  refine J_st (R_assign rfl) rfl (J_done ?_)
  refine S_seq ?_
  refine S_seq ?_
  refine S_reg [true, true, true, true, true, false, true] rfl rfl ?_
  refine J_st (R_move rfl) rfl (J_st (R_fieldAddr0 fl26_0 rfl) rfl (J_st (R_load sc24 rfl (h1.one 0 rfl)) rfl (J_st (R_len Try.underlying24 rfl (hd1.ext E).len) rfl (J_st (R_sub rfl rfl rfl) rfl ?_))))
  refine J_call Try.call51 rfl (s_l01In op 0 (IntKind.i64.wrap (((g.nodes.length : Nat) : Int) - 1)) _ ) rfl (fun _ w3 e3 hv => ?_)
  subst hv
  replace E := E.trans e3; replace h1 := h1.ext e3; replace h2 := h2.ext e3
  have z3 := e3.size
  refine J_st (R_not rfl) rfl (J_done ?_)
  refine S_cond rfl (fun hc1 => ?_) (fun hc1 => ?_)
  · rw [isN_w hd1.1.1] at hc1
    refine S_seq ?_
    refine S_reg [true, false, true] rfl rfl ?_
    have hbl1 : ∀ w, (Instr.build 37 ([]).toArray).run Try.prog w = .ok (.agg [.int .i64 0, .int .i64 0, .int .i64 0, .slice none 0 0].toArray) w := by clear E; intro w; kernel_rfl
    refine J_st (R_buildC [.int .i64 0, .int .i64 0, .int .i64 0, .slice none 0 0] rfl hbl1) rfl ?_
    refine J_storeS' (cs' := [.int .i64 0, .int .i64 0, .int .i64 0, .slice none 0 0]) st37 rfl rfl rfl rfl h2 (Nat.le_of_ble_eq_true rfl) rfl (fun w4 m1 h2' => ?_)
    replace h2 := h2'
    replace E := E.step m1 (fun g hg => by cases hg; omega); replace h1 := h1.mod m1 (fun g hg => by cases hg; omega)
    have z4 := m1.size
    refine J_st (R_assign rfl) rfl (J_done ?_)
    refine S_ret (E_doneN (l := [.cell 4 37, .tmp 5]) (vs := [.agg [.int .i64 0, .int .i64 0, .int .i64 0, .slice none 0 0].toArray, .bool false]) rfl ⟨.cell rfl (run_loadVar_st st37 h2.at rfl), .tmp rfl, trivial⟩ rfl E ?_)
    rw [nodeOf_no (by simpa [isNodeM] using hc1)]
    exact ⟨_, rfl, (Node.mkO (⟨0, 0, 0, []⟩ : Node) ⟨trivial, trivial⟩ (Own.nil _ _ _ _))⟩
  · rw [isN_w hd1.1.1] at hc1
    have hop := isNode_of (by simpa [isNodeM] using hc1)
    refine S_skip ?_
    refine S_seq ?_
    refine S_reg [true, true, true, true, true, false, false] rfl rfl ?_
    refine J_st (R_fieldAddr0 fl26_0 rfl) rfl (J_st (R_load sc24 rfl (h1.one 0 rfl)) rfl (J_st (R_move rfl) rfl ?_))
    have hi1 : (Int.toNat op) < g.nodes.length := (by first | assumption | omega | (simp only [List.length_set]; first | assumption | omega) | (simp only [List.getElem_set_self, List.length_set]; first | assumption | omega) | (simp only [setW, setLk, List.length_set]; first | assumption | omega) | (simp; done))
    obtain ⟨_, hr1, ha1⟩ := RdD.get hd1 hi1
    obtain ⟨o2, rfl, hd2⟩ := Node.op hr1
    replace ha1 : At w (sblk o1) (soff o1 + (Int.toNat op) * 4) [.int .i64 ((g.nodes[(Int.toNat op)]'hi1).kind), .int .i64 ((g.nodes[(Int.toNat op)]'hi1).a), .int .i64 ((g.nodes[(Int.toNat op)]'hi1).b), o2] := ha1
    refine J_st (R_indexZ (i := (Int.toNat op)) sl24 rfl rfl (hd1.ext E).1 (by omega) hi1) rfl (J_st (R_loadS st37 rfl (ha1.ext E) rfl) rfl ?_)
    refine J_alloc st37 rfl (fun b3 w5 e4 s3 h3 => ?_)
    have g_b3 : w.heap.size ≤ b3 := by have := E.size; omega
    have y_b3 := h3.lt
    replace E := E.trans e4; replace h1 := h1.ext e4; replace h2 := h2.ext e4
    have z5 := e4.size
    refine J_storeS' (cs' := [.int .i64 ((g.nodes[(Int.toNat op)]'hi1).kind), .int .i64 ((g.nodes[(Int.toNat op)]'hi1).a), .int .i64 ((g.nodes[(Int.toNat op)]'hi1).b), o2]) st37 rfl rfl rfl (all_cons rfl (all_cons rfl (all_cons rfl (all_cons (RdD.one (hd2.ext E)) rfl)))) h3 (Nat.le_of_ble_eq_true rfl) rfl (fun w6 m2 h3' => ?_)
    replace h3 := h3'
    replace E := E.step m2 (fun g hg => by cases hg; omega); replace h1 := h1.mod m2 (fun g hg => by cases hg; omega); replace h2 := h2.mod m2 (fun g hg => by cases hg; omega)
    have z6 := m2.size
    refine J_done ?_
    refine S_seq ?_
    refine S_reg [false, true, true, false, true, false] rfl rfl ?_
    refine J_buildSlice (vs := []) (css := []) sl30 rfl rfl trivial rfl rfl (fun b4 w7 e5 s4 h4 => ?_)
    replace h4 : Blk w7 b4 [] := h4
    have g_b4 : w.heap.size ≤ b4 := by have := E.size; omega
    have y_b4 := h4.lt
    replace E := E.trans e5; replace h1 := h1.ext e5; replace h2 := h2.ext e5; replace h3 := h3.ext e5
    have z7 := e5.size
    refine J_st (R_fieldAddr0 fl37_3 rfl) rfl (J_st (R_load sc30 rfl (h3.one 3 rfl)) rfl ?_)
    refine J_append sl30 rfl rfl (Own.ofBlk (lo := b4) (hi := b4 + 1) (sz := 1) h4 (Nat.le_refl _) (Nat.lt_succ_self _) (by simp) (by simp [maxLen])) (RdS.src (hd2.rd.ext E)) (flat_one _) (by have h := outs_le hb (List.getElem_mem (l := g.nodes) (n := Int.toNat op) (by omega)); rw [sum_flat]; simp only [List.length_nil, show Enc.sz Int = 1 from rfl]; omega) (by decide) (by omega) (by omega) rfl rfl (fun v1 w8 m3 ho1 => ?_)
    replace E := E.step m3 (fun g hg => by have := Own.blk (Own.ofBlk (lo := b4) (hi := b4 + 1) (sz := 1) h4 (Nat.le_refl _) (Nat.lt_succ_self _) (by simp) (by simp [maxLen])) g hg; omega); replace h1 := h1.mod m3 (fun g hg => by have := Own.blk (Own.ofBlk (lo := b4) (hi := b4 + 1) (sz := 1) h4 (Nat.le_refl _) (Nat.lt_succ_self _) (by simp) (by simp [maxLen])) g hg; omega); replace h2 := h2.mod m3 (fun g hg => by have := Own.blk (Own.ofBlk (lo := b4) (hi := b4 + 1) (sz := 1) h4 (Nat.le_refl _) (Nat.lt_succ_self _) (by simp) (by simp [maxLen])) g hg; omega); replace h3 := h3.mod m3 (fun g hg => by have := Own.blk (Own.ofBlk (lo := b4) (hi := b4 + 1) (sz := 1) h4 (Nat.le_refl _) (Nat.lt_succ_self _) (by simp) (by simp [maxLen])) g hg; omega)
    have z8 := m3.size
    refine J_st (R_fieldAddr0 fl37_3 rfl) rfl ?_
    refine J_store' (cs' := [.int .i64 ((g.nodes[(Int.toNat op)]'hi1).kind), .int .i64 ((g.nodes[(Int.toNat op)]'hi1).a), .int .i64 ((g.nodes[(Int.toNat op)]'hi1).b), v1]) sc30 rfl rfl ho1.one h3 (Nat.le_of_ble_eq_true rfl) rfl (fun w9 m4 h3' => ?_)
    replace h3 := h3'
    replace E := E.step m4 (fun g hg => by cases hg; omega); replace h1 := h1.mod m4 (fun g hg => by cases hg; omega); replace h2 := h2.mod m4 (fun g hg => by cases hg; omega); replace ho1 := ho1.mod m4 (fun g hg => by cases hg; omega)
    have z9 := m4.size
    refine J_done ?_
    refine S_seq ?_
    refine S_reg [true, false, true] rfl rfl ?_
    refine J_st (R_loadS st37 rfl h3.at rfl) rfl ?_
    refine J_storeS' (cs' := [.int .i64 ((g.nodes[(Int.toNat op)]'hi1).kind), .int .i64 ((g.nodes[(Int.toNat op)]'hi1).a), .int .i64 ((g.nodes[(Int.toNat op)]'hi1).b), v1]) st37 rfl rfl rfl (all_cons rfl (all_cons rfl (all_cons rfl (all_cons ho1.one rfl)))) h2 (Nat.le_of_ble_eq_true rfl) rfl (fun w10 m5 h2' => ?_)
    replace h2 := h2'
    replace E := E.step m5 (fun g hg => by cases hg; omega); replace h1 := h1.mod m5 (fun g hg => by cases hg; omega); replace h3 := h3.mod m5 (fun g hg => by cases hg; omega); replace ho1 := ho1.mod m5 (fun g hg => by cases hg; omega)
    have z10 := m5.size
    refine J_st (R_assign rfl) rfl (J_done ?_)
    refine S_ret (E_doneN (l := [.cell 4 37, .tmp 5]) (vs := [.agg [.int .i64 ((g.nodes[(Int.toNat op)]'hi1).kind), .int .i64 ((g.nodes[(Int.toNat op)]'hi1).a), .int .i64 ((g.nodes[(Int.toNat op)]'hi1).b), v1].toArray, .bool true]) rfl ⟨.cell rfl (run_loadVar_st st37 h2.at rfl), .tmp rfl, trivial⟩ rfl E ?_)
    rw [nodeOf_yes (by assumption) ]
    exact ⟨_, rfl, (Node.mkO (⟨(g.nodes[(Int.toNat op)]'hi1).kind, (g.nodes[(Int.toNat op)]'hi1).a, (g.nodes[(Int.toNat op)]'hi1).b, [] ++ ((g.nodes[(Int.toNat op)]'hi1).outs)⟩ : Node) ⟨trivial, trivial⟩ (Own.widen ho1 (by omega) (by omega)))⟩

set_option maxRecDepth 20000 in
theorem c_slicesIndexInt (vxs : Value) (xs : List Int) (x : Int) (w : World) (hxs : RdS w vxs xs) : Ct Try.prog 82 [vxs, .int .i64 x] w (fun v _ => v = .int .i64 (idxI xs x)) := by
  refine ct_of Try.func82 rfl Try.ntmps82 rfl ?_
  refine S_sub [(0, vxs), (1, .int .i64 x)] ⟨rfl, rfl, trivial⟩ ?_
  have E : Ext w w := Ext.refl w
  refine S_seq ?_
  refine S_reg [true] rfl rfl ?_
  refine J_st (R_assign rfl) rfl (J_done ?_)
  refine S_seq ?_
  refine S_seq ?_
  refine S_reg [true, true, true] rfl rfl ?_
  refine J_st (R_move rfl) rfl (J_st (R_len Try.underlying30 rfl (hxs.ext E).len) rfl (J_st (R_move rfl) rfl (J_done ?_)))
  refine S_block ?_
  refine S_loop (fun (k : Nat) => [(0, vxs), (1, .int .i64 x), (4, .int .i64 0), (7, .int .i64 ((xs.length : Nat) : Int)), (8, .int .i64 ((k : Nat) : Int))]) (fun (k : Nat) w' => Ext w w' ∧ w.heap.size ≤ w'.heap.size ∧ k ≤ xs.length ∧ x ∉ xs.take k) (fun (k : Nat) => xs.length - k) 0 ⟨rfl, rfl, rfl, rfl, rfl, trivial⟩ ⟨E, Nat.le_refl _, Nat.zero_le _, (by simp)⟩ ?_
  clear E
  rintro k w1 ⟨E, z1, hk, hI⟩
  refine S_seq ?_
  refine S_reg [true] rfl rfl ?_
  refine J_st (R_lss rfl rfl) rfl (J_done ?_)
  refine S_seq ?_
  refine S_cond rfl (fun hc1 => ?_) (fun hc1 => ?_)
  · have hc1n : k < xs.length := by first | (have h := of_decide_eq_true hc1; omega) | (have h := hc1; simp at h; omega)
    refine S_skip ?_
    refine S_seq ?_
    refine S_block ?_
    refine S_seq ?_
    refine S_reg [true, true] rfl rfl ?_
    refine J_st (R_move rfl) rfl (J_st (R_assign rfl) rfl (J_done ?_))
    refine S_seq ?_
    refine S_reg [true, true, true, true, true, true] rfl rfl ?_
    refine J_st (R_move rfl) rfl (J_st (R_move rfl) rfl (J_st (R_move rfl) rfl ?_))
    have hi1 : k < xs.length := (by first | assumption | omega | (simp only [List.length_set]; first | assumption | omega) | (simp only [List.getElem_set_self, List.length_set]; first | assumption | omega) | (simp only [setW, setLk, List.length_set]; first | assumption | omega) | (simp; done))
    refine J_st (R_index (i := k) sl30 rfl rfl (hxs.ext E) hi1) rfl (J_st (R_load sc3 rfl (((hxs.ext E).get hi1).one 0 rfl)) rfl (J_st (R_eql rfl rfl) rfl (J_done ?_)))
    refine S_cond rfl (fun hc2 => ?_) (fun hc2 => ?_)
    · refine S_seq ?_
      refine S_reg [true, true] rfl rfl ?_
      refine J_st (R_move rfl) rfl (J_st (R_assign rfl) rfl (J_done ?_))
      refine S_ret (E_inB_ret (E_lp_ret (E_inB_ret (E_done1 rfl rfl E ?_))))
      exact idx_yes hI hc1n (by have h := hc2; simp at h; omega)
    · refine S_skip ?_
      refine S_nil (E_inB ?_)
      refine S_reg [true, true] rfl rfl ?_
      refine J_st (R_add rfl rfl (add_one hc1n hxs.1)) rfl (J_st (R_move rfl) rfl (J_done ?_))
      refine S_nil (E_again (k + 1) (by omega) ⟨rfl, rfl, rfl, rfl, rfl, trivial⟩ ⟨E, (by omega), (by omega), has_step hI (by assumption) (by have h := hc2; simp at h; omega)⟩)
  · have hc1n : ¬ k < xs.length := by first | (have h := of_decide_eq_false hc1; omega) | (have h := hc1; simp at h; omega)
    refine S_exit (E_lp_exit (E_inB_exit ?_))
    refine S_seq ?_
    refine S_reg [true] rfl rfl ?_
    refine J_st (R_assign rfl) rfl (J_done ?_)
    refine S_ret (E_done1 rfl rfl E ?_)
    exact idx_no hI (by omega)

set_option maxRecDepth 20000 in
theorem c_slicesContainsInt (vxs : Value) (xs : List Int) (x : Int) (w : World) (hxs : RdS w vxs xs) : Ct Try.prog 59 [vxs, .int .i64 x] w (fun v _ => v = .bool (decide (x ∈ xs))) := by
  refine ct_of Try.func59 rfl Try.ntmps59 rfl ?_
  refine S_sub [(0, vxs), (1, .int .i64 x)] ⟨rfl, rfl, trivial⟩ ?_
  have E : Ext w w := Ext.refl w
  refine S_seq ?_
  refine S_reg [true] rfl rfl ?_
  refine J_st (R_assign rfl) rfl (J_done ?_)
  refine S_seq ?_
  refine S_reg [true, true, false, true, true] rfl rfl ?_
  refine J_st (R_move rfl) rfl (J_st (R_move rfl) rfl ?_)
  refine J_call Try.call82 rfl (c_slicesIndexInt vxs xs x _ (hxs.ext E)) rfl (fun _ w1 e1 hv => ?_)
  subst hv
  replace E := E.trans e1
  have z1 := e1.size
  refine J_st (R_geq rfl rfl) rfl (J_st (R_assign rfl) rfl (J_done ?_))
  refine S_ret (E_done1 rfl rfl E ?_)
  exact has_idx

set_option maxRecDepth 20000 in
theorem s_l08Has (vxs : Value) (xs : List Int) (x : Int) (w : World) (hxs : RdS w vxs xs) : Ct Try.prog 60 [vxs, .int .i64 x] w (fun v _ => v = .bool (decide (x ∈ xs))) := by
  refine ct_of Try.func60 rfl Try.ntmps60 rfl ?_
  refine S_sub [(0, vxs), (1, .int .i64 x)] ⟨rfl, rfl, trivial⟩ ?_
  have E : Ext w w := Ext.refl w
  refine S_seq ?_
  refine S_reg [true] rfl rfl ?_
  refine J_st (R_assign rfl) rfl (J_done ?_)
  refine S_seq ?_
  refine S_seq ?_
  refine S_reg [true] rfl rfl ?_
  refine J_st (R_assign rfl) rfl (J_done ?_)
  refine S_block ?_
  refine S_loop (fun (k : Nat) => [(0, vxs), (1, .int .i64 x), (4, .bool false), (5, .int .i64 ((k : Nat) : Int))]) (fun (k : Nat) w' => Ext w w' ∧ w.heap.size ≤ w'.heap.size ∧ k ≤ xs.length ∧ x ∉ xs.take k) (fun (k : Nat) => xs.length - k) 0 ⟨rfl, rfl, rfl, rfl, trivial⟩ ⟨E, Nat.le_refl _, Nat.zero_le _, (by simp)⟩ ?_
  clear E
  rintro k w1 ⟨E, z1, hk, hI⟩
  refine S_seq ?_
  refine S_seq ?_
  refine S_reg [true, true, true, true] rfl rfl ?_
  refine J_st (R_move rfl) rfl (J_st (R_move rfl) rfl (J_st (R_len Try.underlying30 rfl (hxs.ext E).len) rfl (J_st (R_lss rfl rfl) rfl (J_done ?_))))
  refine S_cond rfl (fun hc1 => ?_) (fun hc1 => ?_)
  · have hc1n : k < xs.length := by first | (have h := of_decide_eq_true hc1; omega) | (have h := hc1; simp at h; omega)
    refine S_skip ?_
    refine S_seq ?_
    refine S_block ?_
    refine S_seq ?_
    refine S_reg [true, true, true, true, true, true] rfl rfl ?_
    refine J_st (R_move rfl) rfl (J_st (R_move rfl) rfl ?_)
    have hi1 : k < xs.length := (by first | assumption | omega | (simp only [List.length_set]; first | assumption | omega) | (simp only [List.getElem_set_self, List.length_set]; first | assumption | omega) | (simp only [setW, setLk, List.length_set]; first | assumption | omega) | (simp; done))
    refine J_st (R_index (i := k) sl30 rfl rfl (hxs.ext E) hi1) rfl (J_st (R_load sc3 rfl (((hxs.ext E).get hi1).one 0 rfl)) rfl (J_st (R_move rfl) rfl (J_st (R_eql rfl rfl) rfl (J_done ?_))))
    refine S_cond rfl (fun hc2 => ?_) (fun hc2 => ?_)
    · refine S_seq ?_
      refine S_reg [true] rfl rfl ?_
      refine J_st (R_assign rfl) rfl (J_done ?_)
      refine S_ret (E_inB_ret (E_lp_ret (E_inB_ret (E_done1 rfl rfl E ?_))))
      exact has_yes hc1n (by simpa using hc2)
    · refine S_skip ?_
      refine S_nil (E_inB ?_)
      refine S_reg [true, true, true] rfl rfl ?_
      refine J_st (R_move rfl) rfl (J_st (R_add rfl rfl (add_one hc1n hxs.1)) rfl (J_st (R_assign rfl) rfl (J_done ?_)))
      refine S_nil (E_again (k + 1) (by omega) ⟨rfl, rfl, rfl, rfl, trivial⟩ ⟨E, (by omega), (by omega), has_step hI (by assumption) (by simpa using hc2)⟩)
  · have hc1n : ¬ k < xs.length := by first | (have h := of_decide_eq_false hc1; omega) | (have h := hc1; simp at h; omega)
    refine S_exit (E_lp_exit (E_inB_exit ?_))
    refine S_seq ?_
    refine S_reg [true] rfl rfl ?_
    refine J_st (R_assign rfl) rfl (J_done ?_)
    refine S_ret (E_done1 rfl rfl E ?_)
    exact has_no hI (by omega)

set_option maxHeartbeats 4000000 in
set_option maxRecDepth 20000 in
theorem c_Reaches (cg : List Value) (g : Graph) (a : Int) (b : Int) (w : World) (hg : Dat.R w 0 w.heap.size cg g) : Ct Try.prog 20 [.agg cg.toArray, .int .i64 a, .int .i64 b] w (fun v _ => v = .bool (reaches g a b)) := by
  refine ct_of Try.func20 rfl Try.ntmps20 rfl ?_
  obtain ⟨o1, rfl, hd1⟩ := Graph.op hg
  refine S_sub [(0, .agg [o1, .int .i64 g.workers, .int .i64 g.cap].toArray), (1, .int .i64 a), (2, .int .i64 b)] ⟨rfl, rfl, rfl, trivial⟩ ?_
  have E : Ext w w := Ext.refl w
  refine S_seq ?_
  refine S_reg [false, true] rfl rfl ?_
  refine J_box rfl rfl (fun b1 w1 e1 s1 h1 => ?_)
  have g_b1 : w.heap.size ≤ b1 := by have := E.size; omega
  have y_b1 := h1.lt
  replace E := E.trans e1
  have z1 := e1.size
  refine J_st (R_assign rfl) rfl (J_done ?_)
  refine S_seq ?_
  refine S_seq ?_
  refine S_reg [true, false, true, true, true, true, false, true, true] rfl rfl ?_
  refine J_st (R_loadS st26 rfl h1.at rfl) rfl ?_
  refine J_call Try.call8 rfl (c_GraphOk [o1, .int .i64 g.workers, .int .i64 g.cap] g _ (Graph.mkR g (RdD.any (hd1.ext E)))) rfl (fun _ w2 e2 hv => ?_)
  subst hv
  replace E := E.trans e2; replace h1 := h1.ext e2
  have z2 := e2.size
  refine J_st (R_not rfl) rfl (J_st (R_move rfl) rfl ?_)
  refine J_cut 5 [(0, .agg [o1, .int .i64 g.workers, .int .i64 g.cap].toArray), (1, .int .i64 a), (2, .int .i64 b), (3, .pointer (some ⟨b1, 0, none⟩)), (6, .bool false), (19, .bool ((!(graphOk g)) || (!(isNodeM g a))))] (fun w' => Ext w w' ∧ w2.heap.size ≤ w'.heap.size ∧ Blk w' b1 ([o1, .int .i64 g.workers, .int .i64 g.cap])) ?_ ?_
  · refine J_if (gd := 14) rfl rfl (fun hg1 => ?_) (fun hg1 => ?_)
    · refine J_gdno rfl rfl rfl rfl (J_gdno rfl rfl rfl rfl ?_)
      refine J_ungno rfl rfl rfl rfl ?_
      refine J_gdno rfl rfl rfl rfl (J_st (R_pickT rfl rfl) rfl (J_cutEnd ⟨rfl, rfl, rfl, rfl, rfl, congrArg (fun b => some (Value.bool b)) (show true = ((!(graphOk g)) || (!(isNodeM g a))) by first | (rw [hg1] <;> rfl) | (simp [hg1]; done) | (simp only [nat_nlt] <;> simp)), trivial⟩ ⟨E, (by omega), h1⟩))
    · refine J_gd rfl rfl (R_loadS st26 rfl h1.at rfl) rfl (J_gd rfl rfl (R_move rfl) rfl ?_)
      refine J_ung rfl rfl ?_
      refine J_call Try.call55 rfl (c_isNode [o1, .int .i64 g.workers, .int .i64 g.cap] g a _ (Graph.mkR g (RdD.any (hd1.ext E)))) rfl (fun _ w4 e3 hv => ?_)
      subst hv
      replace E := E.trans e3; replace h1 := h1.ext e3
      have z3 := e3.size
      refine J_gd rfl rfl (R_not rfl) rfl (J_st (R_pickF rfl rfl) rfl (J_cutEnd ⟨rfl, rfl, rfl, rfl, rfl, congrArg (fun b => some (Value.bool b)) (show (!(isNodeM g a)) = ((!(graphOk g)) || (!(isNodeM g a))) by first | (rw [hg1] <;> rfl) | (simp [hg1]; done) | (simp only [nat_nlt] <;> simp)), trivial⟩ ⟨E, (by omega), h1⟩))
  clear E h1
  rintro w3 ⟨E, z4, h1⟩
  refine J_done ?_
  refine S_cond rfl (fun hc1 => ?_) (fun hc1 => ?_)
  · refine S_seq ?_
    refine S_reg [true] rfl rfl ?_
    refine J_st (R_assign rfl) rfl (J_done ?_)
    refine S_ret (E_done1 rfl rfl E ?_)
    exact bf fun h => reaches_no h hc1
  · have hq2 := or2 hc1
    have hgo := hq2.1
    have hop := isNode_of hq2.2
    have hf0 := outs_two (i := Int.toNat a) hgo (by omega)
    have hf1 := getD_at (xs := g.nodes) hop.2.2 ▸ hf0
    refine S_skip ?_
    refine S_seq ?_
    refine S_reg [true, true, true, true, true, true, false, true] rfl rfl ?_
    refine J_st (R_fieldAddr0 fl26_0 rfl) rfl (J_st (R_load sc24 rfl (h1.one 0 rfl)) rfl (J_st (R_move rfl) rfl ?_))
    have hi1 : (Int.toNat a) < g.nodes.length := (by first | assumption | omega | (simp only [List.length_set]; first | assumption | omega) | (simp only [List.getElem_set_self, List.length_set]; first | assumption | omega) | (simp only [setW, setLk, List.length_set]; first | assumption | omega) | (simp; done))
    obtain ⟨_, hr1, ha1⟩ := RdD.get hd1 hi1
    obtain ⟨o2, rfl, hd2⟩ := Node.op hr1
    replace ha1 : At w (sblk o1) (soff o1 + (Int.toNat a) * 4) [.int .i64 ((g.nodes[(Int.toNat a)]'hi1).kind), .int .i64 ((g.nodes[(Int.toNat a)]'hi1).a), .int .i64 ((g.nodes[(Int.toNat a)]'hi1).b), o2] := ha1
    refine J_st (R_indexZ (i := (Int.toNat a)) sl24 rfl rfl (hd1.ext E).1 (by omega) hi1) rfl (J_st (R_fieldAddr fl37_3 rfl) rfl (J_st (R_load sc30 rfl ((ha1.ext E).one 3 rfl)) rfl ?_))
    refine J_append sl30 rfl rfl (Own.nil w3 w3.heap.size w3.heap.size 1) (RdS.src (hd2.rd.ext E)) (flat_one _) (by simp only [sum_flat, List.length_nil, List.length_cons, show Enc.sz Int = 1 from rfl]; omega) (by decide) (by omega) (by omega) rfl rfl (fun v1 w5 m1 ho1 => ?_)
    replace E := E.step m1 (fun g hg => by have := Own.blk (Own.nil w3 w3.heap.size w3.heap.size 1) g hg; omega); replace h1 := h1.mod m1 (fun g hg => by have := Own.blk (Own.nil w3 w3.heap.size w3.heap.size 1) g hg; omega)
    have z5 := m1.size
    refine J_st (R_assign rfl) rfl (J_done ?_)
    refine S_seq ?_
    refine S_seq ?_
    refine S_reg [true] rfl rfl ?_
    refine J_st (R_assign rfl) rfl (J_done ?_)
    refine S_block ?_
    refine S_loop (fun (xq : Nat × List Int × Value) => let ⟨i, f, vo⟩ := xq; [(2, .int .i64 b), (3, .pointer (some ⟨b1, 0, none⟩)), (6, .bool false), (7, vo), (8, .int .i64 ((i : Nat) : Int))]) (fun (xq : Nat × List Int × Value) w' => let ⟨i, f, vo⟩ := xq; Ext w w' ∧ w5.heap.size ≤ w'.heap.size ∧ Blk w' b1 ([o1, .int .i64 g.workers, .int .i64 g.cap]) ∧ GoodF g (List.getD g.nodes (Int.toNat a) default).outs f ∧ reachGo g (10 - i) i f = reachL g a ∧ Own w' w3.heap.size w'.heap.size 1 vo (List.flatMap (Enc.enc (α := Int)) f)) (fun (xq : Nat × List Int × Value) => let ⟨i, f, vo⟩ := xq; 11 - i) (0, (g.nodes[(Int.toNat a)]'hi1).outs, v1) ⟨rfl, rfl, rfl, rfl, rfl, trivial⟩ ⟨E, Nat.le_refl _, h1, (goodF_start (by omega) hgo), (reach_start (by omega)), Own.fin ho1 (Nat.le_refl _) (by omega) (by simp)⟩ ?_
    clear E h1 ho1
    rintro ⟨i, f, vo⟩ w6 ⟨E, z6, h1, hG, hR, ho⟩
    refine S_sub [(2, .int .i64 b), (3, .pointer (some ⟨b1, 0, none⟩)), (6, .bool false), (7, vo), (8, .int .i64 ((i : Nat) : Int))] ⟨rfl, rfl, rfl, rfl, rfl, trivial⟩ ?_
    refine S_seq ?_
    refine S_seq ?_
    refine S_reg [true, true, true, true] rfl rfl ?_
    refine J_st (R_move rfl) rfl (J_st (R_move rfl) rfl (J_st (R_len Try.underlying30 rfl (Own.len (by decide) ho)) rfl (J_st (R_lss rfl rfl) rfl (J_done ?_))))
    refine S_cond rfl (fun hc2 => ?_) (fun hc2 => ?_)
    · have hb := hG.2 _ (List.getElem_mem (l := f) (n := i) (by have h := of_decide_eq_true hc2; omega))
      have hlf := goodF_len hG hgo hf0
      have hc2n : i < f.length := by first | (have h := of_decide_eq_true hc2; omega) | (have h := hc2; simp at h; omega)
      refine S_skip ?_
      refine S_seq ?_
      refine S_block ?_
      refine S_seq ?_
      refine S_regD mixed [(0, true), (1, true), (2, true), (3, true), (4, true), (5, true), (6, true), (7, true), (8, true), (9, true), (10, true)] (by decide +kernel) rfl (fun w7 e4 => ?_)
      replace E := E.trans e4; replace h1 := h1.ext e4; replace ho := ho.ext e4
      have z7 := e4.size
      refine J_st (R_fieldAddr0 fl26_0 rfl) rfl (J_st (R_load sc24 rfl (h1.one 0 rfl)) rfl (J_st (R_move rfl) rfl (J_st (R_move rfl) rfl ?_)))
      have hi2 : i < f.length := (by first | assumption | omega | (simp only [List.length_set]; first | assumption | omega) | (simp only [List.getElem_set_self, List.length_set]; first | assumption | omega) | (simp only [setW, setLk, List.length_set]; first | assumption | omega) | (simp; done))
      refine J_st (R_index (i := i) sl30 rfl rfl (Own.rd (by decide) ho) hi2) rfl (J_st (R_load sc3 rfl (((Own.rd (by decide) ho).get hi2).one 0 rfl)) rfl ?_)
      have hi3 : (Int.toNat (f[i]'hi2)) < g.nodes.length := (by first | assumption | omega | (simp only [List.length_set]; first | assumption | omega) | (simp only [List.getElem_set_self, List.length_set]; first | assumption | omega) | (simp only [setW, setLk, List.length_set]; first | assumption | omega) | (simp; done))
      obtain ⟨_, hr2, ha2⟩ := RdD.get hd1 hi3
      obtain ⟨o3, rfl, hd3⟩ := Node.op hr2
      replace ha2 : At w (sblk o1) (soff o1 + (Int.toNat (f[i]'hi2)) * 4) [.int .i64 ((g.nodes[(Int.toNat (f[i]'hi2))]'hi3).kind), .int .i64 ((g.nodes[(Int.toNat (f[i]'hi2))]'hi3).a), .int .i64 ((g.nodes[(Int.toNat (f[i]'hi2))]'hi3).b), o3] := ha2
      refine J_st (R_indexZ (i := (Int.toNat (f[i]'hi2))) sl24 rfl rfl (hd1.ext E).1 (by omega) hi3) rfl (J_st (R_fieldAddr fl37_3 rfl) rfl (J_st (R_load sc30 rfl ((ha2.ext E).one 3 rfl)) rfl (J_st (R_len Try.underlying30 rfl (hd3.ext E).len) rfl (J_st (R_move rfl) rfl (J_done ?_)))))
      refine S_block ?_
      refine S_loop (fun (xq : Nat × List Int × Value) => let ⟨j, f2, vp⟩ := xq; [(2, .int .i64 b), (3, .pointer (some ⟨b1, 0, none⟩)), (6, .bool false), (7, vp), (8, .int .i64 ((i : Nat) : Int)), (41, o3), (42, .int .i64 ((((g.nodes[(Int.toNat (f[i]'hi2))]'hi3).outs).length : Nat) : Int)), (43, .int .i64 ((j : Nat) : Int))]) (fun (xq : Nat × List Int × Value) w' => let ⟨j, f2, vp⟩ := xq; Ext w w' ∧ w7.heap.size ≤ w'.heap.size ∧ Blk w' b1 ([o1, .int .i64 g.workers, .int .i64 g.cap]) ∧ j ≤ (g.nodes[(Int.toNat (f[i]'hi2))]'hi3).outs.length ∧ f2 = addOuts f ((g.nodes[(Int.toNat (f[i]'hi2))]'hi3).outs.take j) ∧ Own w' w3.heap.size w'.heap.size 1 vp (List.flatMap (Enc.enc (α := Int)) f2)) (fun (xq : Nat × List Int × Value) => let ⟨j, f2, vp⟩ := xq; (g.nodes[(Int.toNat (f[i]'hi2))]'hi3).outs.length - j) (0, f, vo) ⟨rfl, rfl, rfl, rfl, rfl, rfl, rfl, rfl, trivial⟩ ⟨E, Nat.le_refl _, h1, Nat.zero_le _, rfl, Own.fin ho (by omega) (by omega) rfl⟩ ?_
      clear E h1 ho
      rintro ⟨j, f2, vp⟩ w8 ⟨E, z8, h1, hj, hF, hp⟩
      refine S_sub [(2, .int .i64 b), (3, .pointer (some ⟨b1, 0, none⟩)), (6, .bool false), (7, vp), (8, .int .i64 ((i : Nat) : Int)), (41, o3), (42, .int .i64 ((((g.nodes[(Int.toNat (f[i]'hi2))]'hi3).outs).length : Nat) : Int)), (43, .int .i64 ((j : Nat) : Int))] ⟨rfl, rfl, rfl, rfl, rfl, rfl, rfl, rfl, trivial⟩ ?_
      have hL := good2 hG hgo hb hf0 hF
      refine S_seq ?_
      refine S_reg [true] rfl rfl ?_
      refine J_st (R_lss rfl rfl) rfl (J_done ?_)
      refine S_seq ?_
      refine S_cond rfl (fun hc3 => ?_) (fun hc3 => ?_)
      · have hc3n : j < ((g.nodes[(Int.toNat (f[i]'hi2))]'hi3).outs).length := by first | (have h := of_decide_eq_true hc3; omega) | (have h := hc3; simp at h; omega)
        refine S_skip ?_
        refine S_seq ?_
        refine S_block ?_
        refine S_seq ?_
        refine S_reg [true, true, true] rfl rfl ?_
        have hi4 : j < ((g.nodes[(Int.toNat (f[i]'hi2))]'hi3).outs).length := (by first | assumption | omega | (simp only [List.length_set]; first | assumption | omega) | (simp only [List.getElem_set_self, List.length_set]; first | assumption | omega) | (simp only [setW, setLk, List.length_set]; first | assumption | omega) | (simp; done))
        refine J_st (R_index (i := j) sl30 rfl rfl (hd3.rd.ext E) hi4) rfl (J_st (R_load sc3 rfl (((hd3.rd.ext E).get hi4).one 0 rfl)) rfl (J_st (R_assign rfl) rfl (J_done ?_)))
        refine S_seq ?_
        refine S_reg [true, true, false, true] rfl rfl ?_
        refine J_st (R_move rfl) rfl (J_st (R_move rfl) rfl ?_)
        refine J_call Try.call59 rfl (c_slicesContainsInt vp f2 (((g.nodes[(Int.toNat (f[i]'hi2))]'hi3).outs)[j]'hi4) _ (Own.rd (by decide) hp)) rfl (fun _ w9 e5 hv => ?_)
        subst hv
        replace E := E.trans e5; replace h1 := h1.ext e5; replace hp := hp.ext e5
        have z9 := e5.size
        refine J_st (R_not rfl) rfl (J_done ?_)
        refine S_cond rfl (fun hc4 => ?_) (fun hc4 => ?_)
        · refine S_reg [true, true, false, false, true] rfl rfl ?_
          refine J_st (R_move rfl) rfl (J_st (R_move rfl) rfl ?_)
          refine J_buildSlice (vs := [.int .i64 (((g.nodes[(Int.toNat (f[i]'hi2))]'hi3).outs)[j]'hi4)]) (css := [[.int .i64 (((g.nodes[(Int.toNat (f[i]'hi2))]'hi3).outs)[j]'hi4)]]) sl30 rfl rfl ⟨⟨rfl, rfl⟩, trivial⟩ rfl rfl (fun b2 w10 e6 s2 h2 => ?_)
          replace h2 : Blk w10 b2 [.int .i64 (((g.nodes[(Int.toNat (f[i]'hi2))]'hi3).outs)[j]'hi4)] := h2
          have g_b2 : w.heap.size ≤ b2 := by have := E.size; omega
          have y_b2 := h2.lt
          replace E := E.trans e6; replace h1 := h1.ext e6; replace hp := hp.ext e6
          have z10 := e6.size
          refine J_append sl30 rfl rfl hp (Src.ofBlk h2 rfl) rfl (by simp only [sum_flat, List.length_nil, List.length_cons, show Enc.sz Int = 1 from rfl]; omega) (by decide) (by omega) (by omega) rfl rfl (fun v2 w11 m2 ho2 => ?_)
          replace E := E.step m2 (fun g hg => by have := Own.blk hp g hg; omega); replace h1 := h1.mod m2 (fun g hg => by have := Own.blk hp g hg; omega)
          have z11 := m2.size
          refine J_st (R_assign rfl) rfl (J_done ?_)
          refine S_nil (E_inB ?_)
          refine S_reg [true, true] rfl rfl ?_
          refine J_st (R_add rfl rfl (add_one hc3n (hd3.ext E).1.1)) rfl (J_st (R_move rfl) rfl (J_done ?_))
          refine S_nil (E_again (j + 1, f2 ++ [(((g.nodes[(Int.toNat (f[i]'hi2))]'hi3).outs)[j]'hi4)], v2) (by dsimp only; omega) ⟨rfl, rfl, rfl, rfl, rfl, rfl, rfl, rfl, trivial⟩ ⟨E, (by omega), h1, (by omega), (addOuts_yes hF (by assumption) (by simpa using hc4)), Own.fin ho2 (Nat.le_refl _) (by omega) (by first | rfl | (simp; done) | (simp; rfl))⟩)
        · refine S_skip ?_
          refine S_nil (E_inB ?_)
          refine S_reg [true, true] rfl rfl ?_
          refine J_st (R_add rfl rfl (add_one hc3n (hd3.ext E).1.1)) rfl (J_st (R_move rfl) rfl (J_done ?_))
          refine S_nil (E_again (j + 1, f2, vp) (by dsimp only; omega) ⟨rfl, rfl, rfl, rfl, rfl, rfl, rfl, rfl, trivial⟩ ⟨E, (by omega), h1, (by omega), (addOuts_no hF (by assumption) (by simpa using hc4)), Own.fin hp (Nat.le_refl _) (by omega) (by first | rfl | (simp; done) | (simp; rfl))⟩)
      · have hc3n : ¬ j < ((g.nodes[(Int.toNat (f[i]'hi2))]'hi3).outs).length := by first | (have h := of_decide_eq_false hc3; omega) | (have h := hc3; simp at h; omega)
        refine S_exit (E_lp_exit (E_inB_exit ?_))
        refine S_nil (E_inB ?_)
        refine S_reg [true, true, true] rfl rfl ?_
        refine J_st (R_move rfl) rfl (J_st (R_add rfl rfl (add_one hc2n (by first | assumption | (unfold maxLen; omega)))) rfl (J_st (R_assign rfl) rfl (J_done ?_)))
        refine S_nil (E_again (i + 1, f2, vp) (by have := goodF_len hG hgo hf0; dsimp only; omega) ⟨rfl, rfl, rfl, rfl, rfl, trivial⟩ ⟨E, (by omega), h1, (goodF_step hG hgo hb hF), (reach_step hR (by assumption) (by have := goodF_len hG hgo hf0; omega) hb hF (by omega)), hp⟩)
    · have hc2n : ¬ i < f.length := by first | (have h := of_decide_eq_false hc2; omega) | (have h := hc2; simp at h; omega)
      refine S_exit (E_lp_exit (E_inB_exit ?_))
      refine S_seq ?_
      refine S_reg [true, true, false, true] rfl rfl ?_
      refine J_st (R_move rfl) rfl (J_st (R_move rfl) rfl ?_)
      refine J_call Try.call59 rfl (c_slicesContainsInt vo f b _ (Own.rd (by decide) ho)) rfl (fun _ w12 e7 hv => ?_)
      subst hv
      replace E := E.trans e7; replace h1 := h1.ext e7; replace ho := ho.ext e7
      have z12 := e7.size
      refine J_st (R_assign rfl) rfl (J_done ?_)
      refine S_ret (E_done1 rfl rfl E ?_)
      exact reaches_yes hq2 (reach_end hR (by omega))

set_option maxHeartbeats 4000000 in
set_option maxRecDepth 20000 in
theorem s_l08From (cg : List Value) (g : Graph) (a : Int) (w : World) (hg : Dat.R w 0 w.heap.size cg g) (hq2 : graphOk g = true ∧ isNodeM g a = true) : Ct Try.prog 61 [.agg cg.toArray, .int .i64 a] w (fun v w' => Own w' w.heap.size w'.heap.size 1 v (List.flatMap (Enc.enc (α := Int)) (reachL g a))) := by
  have hgo := hq2.1
  have hop := isNode_of hq2.2
  have hf0 := outs_two (i := Int.toNat a) hgo (by omega)
  have hf1 := getD_at (xs := g.nodes) hop.2.2 ▸ hf0
  refine ct_of Try.func61 rfl Try.ntmps61 rfl ?_
  obtain ⟨o1, rfl, hd1⟩ := Graph.op hg
  refine S_sub [(0, .agg [o1, .int .i64 g.workers, .int .i64 g.cap].toArray), (1, .int .i64 a)] ⟨rfl, rfl, trivial⟩ ?_
  have E : Ext w w := Ext.refl w
  refine S_seq ?_
  refine S_reg [false, true] rfl rfl ?_
  refine J_box rfl rfl (fun b1 w1 e1 s1 h1 => ?_)
  have g_b1 : w.heap.size ≤ b1 := by have := E.size; omega
  have y_b1 := h1.lt
  replace E := E.trans e1
  have z1 := e1.size
  refine J_st (R_assign rfl) rfl (J_done ?_)
  refine S_seq ?_
  refine S_reg [false, true, true, true, true, true, true, false, true] rfl rfl ?_
  refine J_buildSlice (vs := []) (css := []) sl30 rfl rfl trivial rfl rfl (fun b2 w2 e2 s2 h2 => ?_)
  replace h2 : Blk w2 b2 [] := h2
  have g_b2 : w.heap.size ≤ b2 := by have := E.size; omega
  have y_b2 := h2.lt
  replace E := E.trans e2; replace h1 := h1.ext e2
  have z2 := e2.size
  refine J_st (R_fieldAddr0 fl26_0 rfl) rfl (J_st (R_load sc24 rfl (h1.one 0 rfl)) rfl (J_st (R_move rfl) rfl ?_))
  have hi1 : (Int.toNat a) < g.nodes.length := (by first | assumption | omega | (simp only [List.length_set]; first | assumption | omega) | (simp only [List.getElem_set_self, List.length_set]; first | assumption | omega) | (simp only [setW, setLk, List.length_set]; first | assumption | omega) | (simp; done))
  obtain ⟨_, hr1, ha1⟩ := RdD.get hd1 hi1
  obtain ⟨o2, rfl, hd2⟩ := Node.op hr1
  replace ha1 : At w (sblk o1) (soff o1 + (Int.toNat a) * 4) [.int .i64 ((g.nodes[(Int.toNat a)]'hi1).kind), .int .i64 ((g.nodes[(Int.toNat a)]'hi1).a), .int .i64 ((g.nodes[(Int.toNat a)]'hi1).b), o2] := ha1
  refine J_st (R_indexZ (i := (Int.toNat a)) sl24 rfl rfl (hd1.ext E).1 (by omega) hi1) rfl (J_st (R_fieldAddr fl37_3 rfl) rfl (J_st (R_load sc30 rfl ((ha1.ext E).one 3 rfl)) rfl ?_))
  refine J_append sl30 rfl rfl (Own.ofBlk (lo := b2) (hi := b2 + 1) (sz := 1) h2 (Nat.le_refl _) (Nat.lt_succ_self _) (by simp) (by simp [maxLen])) (RdS.src (hd2.rd.ext E)) (flat_one _) (by simp only [sum_flat, List.length_nil, List.length_cons, show Enc.sz Int = 1 from rfl]; omega) (by decide) (by omega) (by omega) rfl rfl (fun v1 w3 m1 ho1 => ?_)
  replace E := E.step m1 (fun g hg => by have := Own.blk (Own.ofBlk (lo := b2) (hi := b2 + 1) (sz := 1) h2 (Nat.le_refl _) (Nat.lt_succ_self _) (by simp) (by simp [maxLen])) g hg; omega); replace h1 := h1.mod m1 (fun g hg => by have := Own.blk (Own.ofBlk (lo := b2) (hi := b2 + 1) (sz := 1) h2 (Nat.le_refl _) (Nat.lt_succ_self _) (by simp) (by simp [maxLen])) g hg; omega)
  have z3 := m1.size
  refine J_st (R_assign rfl) rfl (J_done ?_)
  refine S_seq ?_
  refine S_seq ?_
  refine S_reg [true] rfl rfl ?_
  refine J_st (R_assign rfl) rfl (J_done ?_)
  refine S_block ?_
  refine S_loop (fun (xq : Nat × List Int × Value) => let ⟨i, f, vo⟩ := xq; [(2, .pointer (some ⟨b1, 0, none⟩)), (4, .slice none 0 0), (5, vo), (6, .int .i64 ((i : Nat) : Int))]) (fun (xq : Nat × List Int × Value) w' => let ⟨i, f, vo⟩ := xq; Ext w w' ∧ w3.heap.size ≤ w'.heap.size ∧ Blk w' b1 ([o1, .int .i64 g.workers, .int .i64 g.cap]) ∧ GoodF g (List.getD g.nodes (Int.toNat a) default).outs f ∧ reachGo g (10 - i) i f = reachL g a ∧ Own w' b2 w'.heap.size 1 vo (List.flatMap (Enc.enc (α := Int)) f)) (fun (xq : Nat × List Int × Value) => let ⟨i, f, vo⟩ := xq; 11 - i) (0, (g.nodes[(Int.toNat a)]'hi1).outs, v1) ⟨rfl, rfl, rfl, rfl, trivial⟩ ⟨E, Nat.le_refl _, h1, (goodF_start (by omega) hgo), (reach_start (by omega)), Own.fin ho1 (Nat.le_refl _) (by omega) (by simp)⟩ ?_
  clear E h1 ho1
  rintro ⟨i, f, vo⟩ w4 ⟨E, z4, h1, hG, hR, ho⟩
  refine S_sub [(2, .pointer (some ⟨b1, 0, none⟩)), (4, .slice none 0 0), (5, vo), (6, .int .i64 ((i : Nat) : Int))] ⟨rfl, rfl, rfl, rfl, trivial⟩ ?_
  refine S_seq ?_
  refine S_seq ?_
  refine S_reg [true, true, true, true] rfl rfl ?_
  refine J_st (R_move rfl) rfl (J_st (R_move rfl) rfl (J_st (R_len Try.underlying30 rfl (Own.len (by decide) ho)) rfl (J_st (R_lss rfl rfl) rfl (J_done ?_))))
  refine S_cond rfl (fun hc1 => ?_) (fun hc1 => ?_)
  · have hb := hG.2 _ (List.getElem_mem (l := f) (n := i) (by have h := of_decide_eq_true hc1; omega))
    have hlf := goodF_len hG hgo hf0
    have hc1n : i < f.length := by first | (have h := of_decide_eq_true hc1; omega) | (have h := hc1; simp at h; omega)
    refine S_skip ?_
    refine S_seq ?_
    refine S_block ?_
    refine S_seq ?_
    refine S_regD mixed [(0, true), (1, true), (2, true), (3, true), (4, true), (5, true), (6, true), (7, true), (8, true), (9, true)] (by decide +kernel) rfl (fun w5 e3 => ?_)
    replace E := E.trans e3; replace h1 := h1.ext e3; replace ho := ho.ext e3
    have z5 := e3.size
    refine J_st (R_fieldAddr0 fl26_0 rfl) rfl (J_st (R_load sc24 rfl (h1.one 0 rfl)) rfl (J_st (R_move rfl) rfl (J_st (R_move rfl) rfl ?_)))
    have hi2 : i < f.length := (by first | assumption | omega | (simp only [List.length_set]; first | assumption | omega) | (simp only [List.getElem_set_self, List.length_set]; first | assumption | omega) | (simp only [setW, setLk, List.length_set]; first | assumption | omega) | (simp; done))
    refine J_st (R_index (i := i) sl30 rfl rfl (Own.rd (by decide) ho) hi2) rfl (J_st (R_load sc3 rfl (((Own.rd (by decide) ho).get hi2).one 0 rfl)) rfl ?_)
    have hi3 : (Int.toNat (f[i]'hi2)) < g.nodes.length := (by first | assumption | omega | (simp only [List.length_set]; first | assumption | omega) | (simp only [List.getElem_set_self, List.length_set]; first | assumption | omega) | (simp only [setW, setLk, List.length_set]; first | assumption | omega) | (simp; done))
    obtain ⟨_, hr2, ha2⟩ := RdD.get hd1 hi3
    obtain ⟨o3, rfl, hd3⟩ := Node.op hr2
    replace ha2 : At w (sblk o1) (soff o1 + (Int.toNat (f[i]'hi2)) * 4) [.int .i64 ((g.nodes[(Int.toNat (f[i]'hi2))]'hi3).kind), .int .i64 ((g.nodes[(Int.toNat (f[i]'hi2))]'hi3).a), .int .i64 ((g.nodes[(Int.toNat (f[i]'hi2))]'hi3).b), o3] := ha2
    refine J_st (R_indexZ (i := (Int.toNat (f[i]'hi2))) sl24 rfl rfl (hd1.ext E).1 (by omega) hi3) rfl (J_st (R_fieldAddr fl37_3 rfl) rfl (J_st (R_load sc30 rfl ((ha2.ext E).one 3 rfl)) rfl (J_st (R_assign rfl) rfl (J_done ?_))))
    refine S_seq ?_
    refine S_reg [true] rfl rfl ?_
    refine J_st (R_assign rfl) rfl (J_done ?_)
    refine S_block ?_
    refine S_loop (fun (xq : Nat × List Int × Value) => let ⟨j, f2, vp⟩ := xq; [(2, .pointer (some ⟨b1, 0, none⟩)), (4, .slice none 0 0), (5, vp), (6, .int .i64 ((i : Nat) : Int)), (7, o3), (8, .int .i64 ((j : Nat) : Int))]) (fun (xq : Nat × List Int × Value) w' => let ⟨j, f2, vp⟩ := xq; Ext w w' ∧ w5.heap.size ≤ w'.heap.size ∧ Blk w' b1 ([o1, .int .i64 g.workers, .int .i64 g.cap]) ∧ j ≤ (g.nodes[(Int.toNat (f[i]'hi2))]'hi3).outs.length ∧ f2 = addOuts f ((g.nodes[(Int.toNat (f[i]'hi2))]'hi3).outs.take j) ∧ Own w' b2 w'.heap.size 1 vp (List.flatMap (Enc.enc (α := Int)) f2)) (fun (xq : Nat × List Int × Value) => let ⟨j, f2, vp⟩ := xq; (g.nodes[(Int.toNat (f[i]'hi2))]'hi3).outs.length - j) (0, f, vo) ⟨rfl, rfl, rfl, rfl, rfl, rfl, trivial⟩ ⟨E, Nat.le_refl _, h1, Nat.zero_le _, rfl, Own.fin ho (by omega) (by omega) rfl⟩ ?_
    clear E h1 ho
    rintro ⟨j, f2, vp⟩ w6 ⟨E, z6, h1, hj, hF, hp⟩
    refine S_sub [(2, .pointer (some ⟨b1, 0, none⟩)), (4, .slice none 0 0), (5, vp), (6, .int .i64 ((i : Nat) : Int)), (7, o3), (8, .int .i64 ((j : Nat) : Int))] ⟨rfl, rfl, rfl, rfl, rfl, rfl, trivial⟩ ?_
    have hL := good2 hG hgo hb hf0 hF
    refine S_seq ?_
    refine S_seq ?_
    refine S_reg [true, true, true, true] rfl rfl ?_
    refine J_st (R_move rfl) rfl (J_st (R_move rfl) rfl (J_st (R_len Try.underlying30 rfl (hd3.ext E).len) rfl (J_st (R_lss rfl rfl) rfl (J_done ?_))))
    refine S_cond rfl (fun hc2 => ?_) (fun hc2 => ?_)
    · have hc2n : j < ((g.nodes[(Int.toNat (f[i]'hi2))]'hi3).outs).length := by first | (have h := of_decide_eq_true hc2; omega) | (have h := hc2; simp at h; omega)
      refine S_skip ?_
      refine S_seq ?_
      refine S_block ?_
      refine S_seq ?_
      refine S_reg [true, true, true, true, true, false, true] rfl rfl ?_
      refine J_st (R_move rfl) rfl (J_st (R_move rfl) rfl (J_st (R_move rfl) rfl ?_))
      have hi4 : j < ((g.nodes[(Int.toNat (f[i]'hi2))]'hi3).outs).length := (by first | assumption | omega | (simp only [List.length_set]; first | assumption | omega) | (simp only [List.getElem_set_self, List.length_set]; first | assumption | omega) | (simp only [setW, setLk, List.length_set]; first | assumption | omega) | (simp; done))
      refine J_st (R_index (i := j) sl30 rfl rfl (hd3.rd.ext E) hi4) rfl (J_st (R_load sc3 rfl (((hd3.rd.ext E).get hi4).one 0 rfl)) rfl ?_)
      refine J_call Try.call60 rfl (s_l08Has vp f2 (((g.nodes[(Int.toNat (f[i]'hi2))]'hi3).outs)[j]'hi4) _ (Own.rd (by decide) hp)) rfl (fun _ w7 e4 hv => ?_)
      subst hv
      replace E := E.trans e4; replace h1 := h1.ext e4; replace hp := hp.ext e4
      have z7 := e4.size
      refine J_st (R_not rfl) rfl (J_done ?_)
      refine S_cond rfl (fun hc3 => ?_) (fun hc3 => ?_)
      · refine S_reg [true, true, true, true, true, false, false, true] rfl rfl ?_
        refine J_st (R_move rfl) rfl (J_st (R_move rfl) rfl (J_st (R_move rfl) rfl (J_st (R_index (i := j) sl30 rfl rfl (hd3.rd.ext E) hi4) rfl (J_st (R_load sc3 rfl (((hd3.rd.ext E).get hi4).one 0 rfl)) rfl ?_))))
        refine J_buildSlice (vs := [.int .i64 (((g.nodes[(Int.toNat (f[i]'hi2))]'hi3).outs)[j]'hi4)]) (css := [[.int .i64 (((g.nodes[(Int.toNat (f[i]'hi2))]'hi3).outs)[j]'hi4)]]) sl30 rfl rfl ⟨⟨rfl, rfl⟩, trivial⟩ rfl rfl (fun b3 w8 e5 s3 h3 => ?_)
        replace h3 : Blk w8 b3 [.int .i64 (((g.nodes[(Int.toNat (f[i]'hi2))]'hi3).outs)[j]'hi4)] := h3
        have g_b3 : w.heap.size ≤ b3 := by have := E.size; omega
        have y_b3 := h3.lt
        replace E := E.trans e5; replace h1 := h1.ext e5; replace hp := hp.ext e5
        have z8 := e5.size
        refine J_append sl30 rfl rfl hp (Src.ofBlk h3 rfl) rfl (by simp only [sum_flat, List.length_nil, List.length_cons, show Enc.sz Int = 1 from rfl]; omega) (by decide) (by omega) (by omega) rfl rfl (fun v2 w9 m2 ho2 => ?_)
        replace E := E.step m2 (fun g hg => by have := Own.blk hp g hg; omega); replace h1 := h1.mod m2 (fun g hg => by have := Own.blk hp g hg; omega)
        have z9 := m2.size
        refine J_st (R_assign rfl) rfl (J_done ?_)
        refine S_nil (E_inB ?_)
        refine S_reg [true, true, true] rfl rfl ?_
        refine J_st (R_move rfl) rfl (J_st (R_add rfl rfl (add_one hc2n (hd3.ext E).1.1)) rfl (J_st (R_assign rfl) rfl (J_done ?_)))
        refine S_nil (E_again (j + 1, f2 ++ [(((g.nodes[(Int.toNat (f[i]'hi2))]'hi3).outs)[j]'hi4)], v2) (by dsimp only; omega) ⟨rfl, rfl, rfl, rfl, rfl, rfl, trivial⟩ ⟨E, (by omega), h1, (by omega), (addOuts_yes hF (by assumption) (by simpa using hc3)), Own.fin ho2 (Nat.le_refl _) (by omega) (by first | rfl | (simp; done) | (simp; rfl))⟩)
      · refine S_skip ?_
        refine S_nil (E_inB ?_)
        refine S_reg [true, true, true] rfl rfl ?_
        refine J_st (R_move rfl) rfl (J_st (R_add rfl rfl (add_one hc2n (hd3.ext E).1.1)) rfl (J_st (R_assign rfl) rfl (J_done ?_)))
        refine S_nil (E_again (j + 1, f2, vp) (by dsimp only; omega) ⟨rfl, rfl, rfl, rfl, rfl, rfl, trivial⟩ ⟨E, (by omega), h1, (by omega), (addOuts_no hF (by assumption) (by simpa using hc3)), Own.fin hp (Nat.le_refl _) (by omega) (by first | rfl | (simp; done) | (simp; rfl))⟩)
    · have hc2n : ¬ j < ((g.nodes[(Int.toNat (f[i]'hi2))]'hi3).outs).length := by first | (have h := of_decide_eq_false hc2; omega) | (have h := hc2; simp at h; omega)
      refine S_exit (E_lp_exit (E_inB_exit ?_))
      refine S_nil (E_inB ?_)
      refine S_reg [true, true, true] rfl rfl ?_
      refine J_st (R_move rfl) rfl (J_st (R_add rfl rfl (add_one hc1n (by first | assumption | (unfold maxLen; omega)))) rfl (J_st (R_assign rfl) rfl (J_done ?_)))
      refine S_nil (E_again (i + 1, f2, vp) (by have := goodF_len hG hgo hf0; dsimp only; omega) ⟨rfl, rfl, rfl, rfl, trivial⟩ ⟨E, (by omega), h1, (goodF_step hG hgo hb hF), (reach_step hR (by assumption) (by have := goodF_len hG hgo hf0; omega) hb hF (by omega)), hp⟩)
  · have hc1n : ¬ i < f.length := by first | (have h := of_decide_eq_false hc1; omega) | (have h := hc1; simp at h; omega)
    refine S_exit (E_lp_exit (E_inB_exit ?_))
    refine S_seq ?_
    refine S_reg [true, true] rfl rfl ?_
    refine J_st (R_move rfl) rfl (J_st (R_assign rfl) rfl (J_done ?_))
    refine S_ret (E_done1 rfl rfl E ?_)
    exact Own.fin ho (by omega) (by omega) (by rw [reach_end hR (by omega)])

set_option maxRecDepth 20000 in
theorem s_Reaches (cg : List Value) (g : Graph) (a : Int) (b : Int) (w : World) (hg : Dat.R w 0 w.heap.size cg g) : Ct Try.prog 21 [.agg cg.toArray, .int .i64 a, .int .i64 b] w (fun v _ => v = .bool (reaches g a b)) := by
  refine ct_of Try.func21 rfl Try.ntmps21 rfl ?_
  obtain ⟨o1, rfl, hd1⟩ := Graph.op hg
  refine S_sub [(0, .agg [o1, .int .i64 g.workers, .int .i64 g.cap].toArray), (1, .int .i64 a), (2, .int .i64 b)] ⟨rfl, rfl, rfl, trivial⟩ ?_
  have E : Ext w w := Ext.refl w
  refine S_seq ?_
  refine S_reg [false, true] rfl rfl ?_
  refine J_box rfl rfl (fun b1 w1 e1 s1 h1 => ?_)
  have g_b1 : w.heap.size ≤ b1 := by have := E.size; omega
  have y_b1 := h1.lt
  replace E := E.trans e1
  have z1 := e1.size
  refine J_st (R_assign rfl) rfl (J_done ?_)
  refine S_seq ?_
  refine S_reg [true, false, true, true, true, true, true, true, false, true, true, true, true, false, true, false, true, true] rfl rfl ?_
  refine J_st (R_loadS st26 rfl h1.at rfl) rfl ?_
  refine J_call Try.call9 rfl (s_GraphOk [o1, .int .i64 g.workers, .int .i64 g.cap] g _ (Graph.mkR g (RdD.any (hd1.ext E)))) rfl (fun _ w2 e2 hv => ?_)
  subst hv
  replace E := E.trans e2; replace h1 := h1.ext e2
  have z2 := e2.size
  refine J_st (R_move rfl) rfl ?_
  refine J_cut 14 [(0, .agg [o1, .int .i64 g.workers, .int .i64 g.cap].toArray), (1, .int .i64 a), (2, .int .i64 b), (3, .pointer (some ⟨b1, 0, none⟩)), (6, .bool false), (23, .bool (((graphOk g) && (win a 0 (IntKind.i64.wrap (((g.nodes.length : Nat) : Int) - 1)))) && (decide (b ∈ (reachL g a)))))] (fun w' => Ext w w' ∧ w2.heap.size ≤ w'.heap.size ∧ Blk w' b1 ([o1, .int .i64 g.workers, .int .i64 g.cap])) ?_ ?_
  · refine J_if (gd := 9) rfl rfl (fun hg1 => ?_) (fun hg1 => ?_)
    · refine J_gd rfl rfl (R_move rfl) rfl (J_gd rfl rfl (R_fieldAddr0 fl26_0 rfl) rfl (J_gd rfl rfl (R_load sc24 rfl (h1.one 0 rfl)) rfl (J_gd rfl rfl (R_len Try.underlying24 rfl (hd1.ext E).len) rfl (J_gd rfl rfl (R_sub rfl rfl rfl) rfl ?_))))
      refine J_ung rfl rfl ?_
      refine J_call Try.call51 rfl (s_l01In a 0 (IntKind.i64.wrap (((g.nodes.length : Nat) : Int) - 1)) _ ) rfl (fun _ w4 e3 hv => ?_)
      subst hv
      replace E := E.trans e3; replace h1 := h1.ext e3
      have z3 := e3.size
      refine J_st (R_pickT rfl rfl) rfl (J_st (R_move rfl) rfl ?_)
      refine J_if (gd := 17) rfl rfl (fun hg2 => ?_) (fun hg2 => ?_)
      · refine J_gd rfl rfl (R_loadS st26 rfl h1.at rfl) rfl (J_gd rfl rfl (R_move rfl) rfl ?_)
        refine J_ung rfl rfl ?_
        refine J_call Try.call61 rfl (s_l08From [o1, .int .i64 g.workers, .int .i64 g.cap] g a _ (Graph.mkR g (RdD.any (hd1.ext E))) (reach_pre (by rw [hg1, hg2]; rfl) hd1.1.1)) rfl (fun v1 w5 e4 ho1 => ?_)
        have g_ho1 : w.heap.size ≤ w4.heap.size := E.size
        replace E := E.trans e4; replace h1 := h1.ext e4
        have z4 := e4.size
        refine J_gd rfl rfl (R_move rfl) rfl ?_
        refine J_ung rfl rfl ?_
        refine J_call Try.call60 rfl (s_l08Has v1 (reachL g a) b _ (Own.rd (by decide) ho1)) rfl (fun _ w6 e5 hv => ?_)
        subst hv
        replace E := E.trans e5; replace h1 := h1.ext e5; replace ho1 := ho1.ext e5
        have z5 := e5.size
        refine J_st (R_pickT rfl rfl) rfl (J_cutEnd ⟨rfl, rfl, rfl, rfl, rfl, congrArg (fun b => some (Value.bool b)) (show (decide (b ∈ (reachL g a))) = (((graphOk g) && (win a 0 (IntKind.i64.wrap (((g.nodes.length : Nat) : Int) - 1)))) && (decide (b ∈ (reachL g a)))) by first | (rw [hg1, hg2] <;> rfl) | (simp [hg1, hg2]; done) | (simp only [nat_nlt] <;> simp)), trivial⟩ ⟨E, (by omega), h1⟩)
      · refine J_gdno rfl rfl rfl rfl (J_gdno rfl rfl rfl rfl ?_)
        refine J_ungno rfl rfl rfl rfl ?_
        refine J_gdno rfl rfl rfl rfl ?_
        refine J_ungno rfl rfl rfl rfl ?_
        refine J_st (R_pickF rfl rfl) rfl (J_cutEnd ⟨rfl, rfl, rfl, rfl, rfl, congrArg (fun b => some (Value.bool b)) (show false = (((graphOk g) && (win a 0 (IntKind.i64.wrap (((g.nodes.length : Nat) : Int) - 1)))) && (decide (b ∈ (reachL g a)))) by first | (rw [hg1, hg2] <;> rfl) | (simp [hg1, hg2]; done) | (simp only [nat_nlt] <;> simp)), trivial⟩ ⟨E, (by omega), h1⟩)
    · refine J_gdno rfl rfl rfl rfl (J_gdno rfl rfl rfl rfl (J_gdno rfl rfl rfl rfl (J_gdno rfl rfl rfl rfl (J_gdno rfl rfl rfl rfl ?_))))
      refine J_ungno rfl rfl rfl rfl ?_
      refine J_st (R_pickF rfl rfl) rfl (J_st (R_move rfl) rfl (J_gdno rfl rfl rfl rfl (J_gdno rfl rfl rfl rfl ?_)))
      refine J_ungno rfl rfl rfl rfl ?_
      refine J_gdno rfl rfl rfl rfl ?_
      refine J_ungno rfl rfl rfl rfl ?_
      refine J_st (R_pickF rfl rfl) rfl (J_cutEnd ⟨rfl, rfl, rfl, rfl, rfl, congrArg (fun b => some (Value.bool b)) (show false = (((graphOk g) && (win a 0 (IntKind.i64.wrap (((g.nodes.length : Nat) : Int) - 1)))) && (decide (b ∈ (reachL g a)))) by first | (rw [hg1] <;> rfl) | (simp [hg1]; done) | (simp only [nat_nlt] <;> simp)), trivial⟩ ⟨E, (by omega), h1⟩)
  clear E h1
  rintro w3 ⟨E, z6, h1⟩
  refine J_st (R_assign rfl) rfl (J_done ?_)
  refine S_ret (E_done1 rfl rfl E ?_)
  rw [isN_w hd1.1.1]; rfl

set_option maxRecDepth 20000 in
theorem c_HasLoop (cg : List Value) (g : Graph) (w : World) (hg : Dat.R w 0 w.heap.size cg g) : Ct Try.prog 13 [.agg cg.toArray] w (fun v _ => v = .bool (hasLoopM g)) := by
  refine ct_of Try.func13 rfl Try.ntmps13 rfl ?_
  obtain ⟨o1, rfl, hd1⟩ := Graph.op hg
  refine S_sub [(0, .agg [o1, .int .i64 g.workers, .int .i64 g.cap].toArray)] ⟨rfl, trivial⟩ ?_
  have E : Ext w w := Ext.refl w
  refine S_seq ?_
  refine S_reg [false, true] rfl rfl ?_
  refine J_box rfl rfl (fun b1 w1 e1 s1 h1 => ?_)
  have g_b1 : w.heap.size ≤ b1 := by have := E.size; omega
  have y_b1 := h1.lt
  replace E := E.trans e1
  have z1 := e1.size
  refine J_st (R_assign rfl) rfl (J_done ?_)
  refine S_seq ?_
  refine S_seq ?_
  refine S_reg [true, true, true, true] rfl rfl ?_
  refine J_st (R_fieldAddr0 fl26_0 rfl) rfl (J_st (R_load sc24 rfl (h1.one 0 rfl)) rfl (J_st (R_len Try.underlying24 rfl (hd1.ext E).len) rfl (J_st (R_move rfl) rfl (J_done ?_))))
  refine S_block ?_
  refine S_loop (fun (k : Nat) => [(1, .pointer (some ⟨b1, 0, none⟩)), (2, .bool false), (6, .int .i64 ((g.nodes.length : Nat) : Int)), (7, .int .i64 ((k : Nat) : Int))]) (fun (k : Nat) w' => Ext w w' ∧ w1.heap.size ≤ w'.heap.size ∧ Blk w' b1 ([o1, .int .i64 g.workers, .int .i64 g.cap]) ∧ k ≤ g.nodes.length ∧ allR k (fun j => !reaches g ((j : Nat) : Int) ((j : Nat) : Int)) = true) (fun (k : Nat) => g.nodes.length - k) 0 ⟨rfl, rfl, rfl, rfl, trivial⟩ ⟨E, Nat.le_refl _, h1, Nat.zero_le _, rfl⟩ ?_
  clear E h1
  rintro k w2 ⟨E, z2, h1, hk, hI⟩
  refine S_seq ?_
  refine S_reg [true] rfl rfl ?_
  refine J_st (R_lss rfl rfl) rfl (J_done ?_)
  refine S_seq ?_
  refine S_cond rfl (fun hc1 => ?_) (fun hc1 => ?_)
  · have hc1n : k < g.nodes.length := by first | (have h := of_decide_eq_true hc1; omega) | (have h := hc1; simp at h; omega)
    refine S_skip ?_
    refine S_seq ?_
    refine S_block ?_
    refine S_seq ?_
    refine S_reg [true, true] rfl rfl ?_
    refine J_st (R_move rfl) rfl (J_st (R_assign rfl) rfl (J_done ?_))
    refine S_seq ?_
    refine S_reg [true, true, true, false] rfl rfl ?_
    refine J_st (R_loadS st26 rfl h1.at rfl) rfl (J_st (R_move rfl) rfl (J_st (R_move rfl) rfl ?_))
    refine J_call Try.call20 rfl (c_Reaches [o1, .int .i64 g.workers, .int .i64 g.cap] g ((k : Nat) : Int) ((k : Nat) : Int) _ (Graph.mkR g (RdD.any (hd1.ext E)))) rfl (fun _ w3 e2 hv => ?_)
    subst hv
    replace E := E.trans e2; replace h1 := h1.ext e2
    have z3 := e2.size
    refine J_done ?_
    refine S_cond rfl (fun hc2 => ?_) (fun hc2 => ?_)
    · refine S_seq ?_
      refine S_reg [true] rfl rfl ?_
      refine J_st (R_assign rfl) rfl (J_done ?_)
      refine S_ret (E_inB_ret (E_lp_ret (E_inB_ret (E_done1 rfl rfl E ?_))))
      exact loop_yes (by assumption) hc2
    · refine S_skip ?_
      refine S_nil (E_inB ?_)
      refine S_reg [true, true] rfl rfl ?_
      refine J_st (R_add rfl rfl (add_one hc1n (hd1.ext E).1.1)) rfl (J_st (R_move rfl) rfl (J_done ?_))
      refine S_nil (E_again (k + 1) (by omega) ⟨rfl, rfl, rfl, rfl, trivial⟩ ⟨E, (by omega), h1, (by omega), allR_s hI (by simp only [hc2]; rfl)⟩)
  · have hc1n : ¬ k < g.nodes.length := by first | (have h := of_decide_eq_false hc1; omega) | (have h := hc1; simp at h; omega)
    refine S_exit (E_lp_exit (E_inB_exit ?_))
    refine S_seq ?_
    refine S_reg [true] rfl rfl ?_
    refine J_st (R_assign rfl) rfl (J_done ?_)
    refine S_ret (E_done1 rfl rfl E ?_)
    exact loop_no (allR_le hI (by omega))

set_option maxRecDepth 20000 in
theorem s_HasLoop (cg : List Value) (g : Graph) (w : World) (hg : Dat.R w 0 w.heap.size cg g) : Ct Try.prog 14 [.agg cg.toArray] w (fun v _ => v = .bool (hasLoopM g)) := by
  refine ct_of Try.func14 rfl Try.ntmps14 rfl ?_
  obtain ⟨o1, rfl, hd1⟩ := Graph.op hg
  refine S_sub [(0, .agg [o1, .int .i64 g.workers, .int .i64 g.cap].toArray)] ⟨rfl, trivial⟩ ?_
  have E : Ext w w := Ext.refl w
  refine S_seq ?_
  refine S_reg [false, true] rfl rfl ?_
  refine J_box rfl rfl (fun b1 w1 e1 s1 h1 => ?_)
  have g_b1 : w.heap.size ≤ b1 := by have := E.size; omega
  have y_b1 := h1.lt
  replace E := E.trans e1
  have z1 := e1.size
  refine J_st (R_assign rfl) rfl (J_done ?_)
  refine S_seq ?_
  refine S_seq ?_
  refine S_reg [true] rfl rfl ?_
  refine J_st (R_assign rfl) rfl (J_done ?_)
  refine S_block ?_
  refine S_loop (fun (k : Nat) => [(1, .pointer (some ⟨b1, 0, none⟩)), (2, .bool false), (3, .int .i64 ((k : Nat) : Int))]) (fun (k : Nat) w' => Ext w w' ∧ w1.heap.size ≤ w'.heap.size ∧ Blk w' b1 ([o1, .int .i64 g.workers, .int .i64 g.cap]) ∧ k ≤ g.nodes.length ∧ allR k (fun j => !reaches g ((j : Nat) : Int) ((j : Nat) : Int)) = true) (fun (k : Nat) => g.nodes.length - k) 0 ⟨rfl, rfl, rfl, trivial⟩ ⟨E, Nat.le_refl _, h1, Nat.zero_le _, rfl⟩ ?_
  clear E h1
  rintro k w2 ⟨E, z2, h1, hk, hI⟩
  refine S_seq ?_
  refine S_seq ?_
  refine S_reg [true, true, true, true, true] rfl rfl ?_
  refine J_st (R_move rfl) rfl (J_st (R_fieldAddr0 fl26_0 rfl) rfl (J_st (R_load sc24 rfl (h1.one 0 rfl)) rfl (J_st (R_len Try.underlying24 rfl (hd1.ext E).len) rfl (J_st (R_lss rfl rfl) rfl (J_done ?_)))))
  refine S_cond rfl (fun hc1 => ?_) (fun hc1 => ?_)
  · have hc1n : k < g.nodes.length := by first | (have h := of_decide_eq_true hc1; omega) | (have h := hc1; simp at h; omega)
    refine S_skip ?_
    refine S_seq ?_
    refine S_block ?_
    refine S_seq ?_
    refine S_reg [true, true, true, false] rfl rfl ?_
    refine J_st (R_loadS st26 rfl h1.at rfl) rfl (J_st (R_move rfl) rfl (J_st (R_move rfl) rfl ?_))
    refine J_call Try.call21 rfl (s_Reaches [o1, .int .i64 g.workers, .int .i64 g.cap] g ((k : Nat) : Int) ((k : Nat) : Int) _ (Graph.mkR g (RdD.any (hd1.ext E)))) rfl (fun _ w3 e2 hv => ?_)
    subst hv
    replace E := E.trans e2; replace h1 := h1.ext e2
    have z3 := e2.size
    refine J_done ?_
    refine S_cond rfl (fun hc2 => ?_) (fun hc2 => ?_)
    · refine S_seq ?_
      refine S_reg [true] rfl rfl ?_
      refine J_st (R_assign rfl) rfl (J_done ?_)
      refine S_ret (E_inB_ret (E_lp_ret (E_inB_ret (E_done1 rfl rfl E ?_))))
      exact loop_yes (by assumption) hc2
    · refine S_skip ?_
      refine S_nil (E_inB ?_)
      refine S_reg [true, true, true] rfl rfl ?_
      refine J_st (R_move rfl) rfl (J_st (R_add rfl rfl (add_one hc1n (hd1.ext E).1.1)) rfl (J_st (R_assign rfl) rfl (J_done ?_)))
      refine S_nil (E_again (k + 1) (by omega) ⟨rfl, rfl, rfl, trivial⟩ ⟨E, (by omega), h1, (by omega), allR_s hI (by simp only [hc2]; rfl)⟩)
  · have hc1n : ¬ k < g.nodes.length := by first | (have h := of_decide_eq_false hc1; omega) | (have h := hc1; simp at h; omega)
    refine S_exit (E_lp_exit (E_inB_exit ?_))
    refine S_seq ?_
    refine S_reg [true] rfl rfl ?_
    refine J_st (R_assign rfl) rfl (J_done ?_)
    refine S_ret (E_done1 rfl rfl E ?_)
    exact loop_no (allR_le hI (by omega))

set_option maxRecDepth 20000 in
theorem s_OutsOf (cg : List Value) (g : Graph) (w : World) (hg : Dat.R w 0 w.heap.size cg g) (hb : cntGraph g ≤ 1048576) : Ct Try.prog 12 [.agg cg.toArray] w (fun v w' => Own w' w.heap.size w'.heap.size 1 v (List.flatMap (Enc.enc (α := Int)) (outsTo g g.nodes.length))) := by
  unfold cntGraph cntL at hb
  refine ct_of Try.func12 rfl Try.ntmps12 rfl ?_
  obtain ⟨o1, rfl, hd1⟩ := Graph.op hg
  refine S_sub [(0, .agg [o1, .int .i64 g.workers, .int .i64 g.cap].toArray)] ⟨rfl, trivial⟩ ?_
  have E : Ext w w := Ext.refl w
  refine S_seq ?_
  refine S_reg [false, true] rfl rfl ?_
  refine J_box rfl rfl (fun b1 w1 e1 s1 h1 => ?_)
  have g_b1 : w.heap.size ≤ b1 := by have := E.size; omega
  have y_b1 := h1.lt
  replace E := E.trans e1
  have z1 := e1.size
  refine J_st (R_assign rfl) rfl (J_done ?_)
  refine S_seq ?_
  refine S_reg [false, true] rfl rfl ?_
  refine J_buildSlice (vs := []) (css := []) sl30 rfl rfl trivial rfl rfl (fun b2 w2 e2 s2 h2 => ?_)
  replace h2 : Blk w2 b2 [] := h2
  have g_b2 : w.heap.size ≤ b2 := by have := E.size; omega
  have y_b2 := h2.lt
  replace E := E.trans e2; replace h1 := h1.ext e2
  have z2 := e2.size
  refine J_st (R_assign rfl) rfl (J_done ?_)
  refine S_seq ?_
  refine S_seq ?_
  refine S_reg [true] rfl rfl ?_
  refine J_st (R_assign rfl) rfl (J_done ?_)
  refine S_block ?_
  refine S_loop (fun (xq : Nat × Value) => let ⟨k, vo⟩ := xq; [(1, .pointer (some ⟨b1, 0, none⟩)), (2, .slice none 0 0), (3, vo), (4, .int .i64 ((k : Nat) : Int))]) (fun (xq : Nat × Value) w' => let ⟨k, vo⟩ := xq; Ext w w' ∧ w2.heap.size ≤ w'.heap.size ∧ Blk w' b1 ([o1, .int .i64 g.workers, .int .i64 g.cap]) ∧ k ≤ g.nodes.length ∧ Own w' b2 w'.heap.size 1 vo (List.flatMap (Enc.enc (α := Int)) (outsTo g k))) (fun (xq : Nat × Value) => let ⟨k, vo⟩ := xq; g.nodes.length - k) (0, .slice (some ⟨b2, 0, none⟩) 0 0) ⟨rfl, rfl, rfl, rfl, trivial⟩ ⟨E, Nat.le_refl _, h1, Nat.zero_le _, Own.fin (Own.ofBlk (lo := b2) (hi := b2 + 1) (sz := 1) h2 (Nat.le_refl _) (Nat.lt_succ_self _) (by simp) (by simp [maxLen])) (by have := E.size; omega) (by omega) rfl⟩ ?_
  clear E h1 h2
  rintro ⟨k, vo⟩ w3 ⟨E, z3, h1, hk, ho⟩
  refine S_sub [(1, .pointer (some ⟨b1, 0, none⟩)), (2, .slice none 0 0), (3, vo), (4, .int .i64 ((k : Nat) : Int))] ⟨rfl, rfl, rfl, rfl, trivial⟩ ?_
  refine S_seq ?_
  refine S_seq ?_
  refine S_reg [true, true, true, true, true] rfl rfl ?_
  refine J_st (R_move rfl) rfl (J_st (R_fieldAddr0 fl26_0 rfl) rfl (J_st (R_load sc24 rfl (h1.one 0 rfl)) rfl (J_st (R_len Try.underlying24 rfl (hd1.ext E).len) rfl (J_st (R_lss rfl rfl) rfl (J_done ?_)))))
  refine S_cond rfl (fun hc1 => ?_) (fun hc1 => ?_)
  · have hc1n : k < g.nodes.length := by first | (have h := of_decide_eq_true hc1; omega) | (have h := hc1; simp at h; omega)
    refine S_skip ?_
    refine S_seq ?_
    refine S_block ?_
    refine S_seq ?_
    refine S_reg [true, true, true, true, true, true, true] rfl rfl ?_
    refine J_st (R_fieldAddr0 fl26_0 rfl) rfl (J_st (R_load sc24 rfl (h1.one 0 rfl)) rfl (J_st (R_move rfl) rfl ?_))
    have hi1 : k < g.nodes.length := (by first | assumption | omega | (simp only [List.length_set]; first | assumption | omega) | (simp only [List.getElem_set_self, List.length_set]; first | assumption | omega) | (simp only [setW, setLk, List.length_set]; first | assumption | omega) | (simp; done))
    obtain ⟨_, hr1, ha1⟩ := RdD.get hd1 hi1
    obtain ⟨o2, rfl, hd2⟩ := Node.op hr1
    replace ha1 : At w (sblk o1) (soff o1 + k * 4) [.int .i64 ((g.nodes[k]'hi1).kind), .int .i64 ((g.nodes[k]'hi1).a), .int .i64 ((g.nodes[k]'hi1).b), o2] := ha1
    refine J_st (R_index (i := k) sl24 rfl rfl (hd1.ext E).1 hi1) rfl (J_st (R_fieldAddr fl37_0 rfl) rfl (J_st (R_load sc3 rfl ((ha1.ext E).one 0 rfl)) rfl (J_st (R_eql rfl rfl) rfl (J_done ?_))))
    refine S_cond rfl (fun hc2 => ?_) (fun hc2 => ?_)
    · refine S_reg [true, true, false, false, true] rfl rfl ?_
      refine J_st (R_move rfl) rfl (J_st (R_move rfl) rfl ?_)
      refine J_buildSlice (vs := [.int .i64 ((k : Nat) : Int)]) (css := [[.int .i64 ((k : Nat) : Int)]]) sl30 rfl rfl ⟨⟨rfl, rfl⟩, trivial⟩ rfl rfl (fun b3 w4 e3 s3 h3 => ?_)
      replace h3 : Blk w4 b3 [.int .i64 ((k : Nat) : Int)] := h3
      have g_b3 : w.heap.size ≤ b3 := by have := E.size; omega
      have y_b3 := h3.lt
      replace E := E.trans e3; replace h1 := h1.ext e3; replace ho := ho.ext e3
      have z4 := e3.size
      refine J_append sl30 rfl rfl ho (Src.ofBlk h3 rfl) rfl (by have h := outsTo_len g k; rw [sum_flat]; simp only [show Enc.sz Int = 1 from rfl, List.length_cons, List.length_nil]; omega) (by decide) (by omega) (by omega) rfl rfl (fun v1 w5 m1 ho1 => ?_)
      replace E := E.step m1 (fun g hg => by have := Own.blk ho g hg; omega); replace h1 := h1.mod m1 (fun g hg => by have := Own.blk ho g hg; omega)
      have z5 := m1.size
      refine J_st (R_assign rfl) rfl (J_done ?_)
      refine S_nil (E_inB ?_)
      refine S_reg [true, true, true] rfl rfl ?_
      refine J_st (R_move rfl) rfl (J_st (R_add rfl rfl (add_one hc1n (hd1.ext E).1.1)) rfl (J_st (R_assign rfl) rfl (J_done ?_)))
      refine S_nil (E_again (k + 1, v1) (by simp; omega) ⟨rfl, rfl, rfl, rfl, trivial⟩ ⟨E, (by omega), h1, (by omega), Own.fin ho1 (Nat.le_refl _) (by omega) (outs_yes (by assumption) hc2)⟩)
    · refine S_skip ?_
      refine S_nil (E_inB ?_)
      refine S_reg [true, true, true] rfl rfl ?_
      refine J_st (R_move rfl) rfl (J_st (R_add rfl rfl (add_one hc1n (hd1.ext E).1.1)) rfl (J_st (R_assign rfl) rfl (J_done ?_)))
      refine S_nil (E_again (k + 1, vo) (by simp; omega) ⟨rfl, rfl, rfl, rfl, trivial⟩ ⟨E, (by omega), h1, (by omega), Own.fin ho (Nat.le_refl _) (by omega) (outs_no (by assumption) hc2)⟩)
  · have hc1n : ¬ k < g.nodes.length := by first | (have h := of_decide_eq_false hc1; omega) | (have h := hc1; simp at h; omega)
    refine S_exit (E_lp_exit (E_inB_exit ?_))
    refine S_seq ?_
    refine S_reg [true, true] rfl rfl ?_
    refine J_st (R_move rfl) rfl (J_st (R_assign rfl) rfl (J_done ?_))
    refine S_ret (E_done1 rfl rfl E ?_)
    obtain rfl : k = g.nodes.length := by omega
    exact Own.fin ho (by omega) (by omega) rfl

set_option maxRecDepth 20000 in
theorem c_OutsOf (cg : List Value) (g : Graph) (w : World) (hg : Dat.R w 0 w.heap.size cg g) (hb : cntGraph g ≤ 1048576) : Ct Try.prog 11 [.agg cg.toArray] w (fun v w' => Own w' w.heap.size w'.heap.size 1 v (List.flatMap (Enc.enc (α := Int)) (outsTo g g.nodes.length))) := by
  unfold cntGraph cntL at hb
  refine ct_of Try.func11 rfl Try.ntmps11 rfl ?_
  obtain ⟨o1, rfl, hd1⟩ := Graph.op hg
  refine S_sub [(0, .agg [o1, .int .i64 g.workers, .int .i64 g.cap].toArray)] ⟨rfl, trivial⟩ ?_
  have E : Ext w w := Ext.refl w
  refine S_seq ?_
  refine S_reg [false, true] rfl rfl ?_
  refine J_box rfl rfl (fun b1 w1 e1 s1 h1 => ?_)
  have g_b1 : w.heap.size ≤ b1 := by have := E.size; omega
  have y_b1 := h1.lt
  replace E := E.trans e1
  have z1 := e1.size
  refine J_st (R_assign rfl) rfl (J_done ?_)
  refine S_seq ?_
  refine S_reg [true] rfl rfl ?_
  refine J_st (R_assign rfl) rfl (J_done ?_)
  refine S_seq ?_
  refine S_seq ?_
  refine S_reg [true, true, true, true] rfl rfl ?_
  refine J_st (R_fieldAddr0 fl26_0 rfl) rfl (J_st (R_load sc24 rfl (h1.one 0 rfl)) rfl (J_st (R_len Try.underlying24 rfl (hd1.ext E).len) rfl (J_st (R_move rfl) rfl (J_done ?_))))
  refine S_block ?_
  refine S_loop (fun (xq : Nat × Value) => let ⟨k, vo⟩ := xq; [(2, .slice none 0 0), (3, vo), (7, o1), (8, .int .i64 ((g.nodes.length : Nat) : Int)), (9, .int .i64 ((k : Nat) : Int))]) (fun (xq : Nat × Value) w' => let ⟨k, vo⟩ := xq; Ext w w' ∧ w1.heap.size ≤ w'.heap.size ∧ Blk w' b1 ([o1, .int .i64 g.workers, .int .i64 g.cap]) ∧ k ≤ g.nodes.length ∧ Own w' w1.heap.size w'.heap.size 1 vo (List.flatMap (Enc.enc (α := Int)) (outsTo g k))) (fun (xq : Nat × Value) => let ⟨k, vo⟩ := xq; g.nodes.length - k) (0, .slice none 0 0) ⟨rfl, rfl, rfl, rfl, rfl, trivial⟩ ⟨E, Nat.le_refl _, h1, Nat.zero_le _, Own.fin (Own.nil w1 w1.heap.size w1.heap.size _) (by have := E.size; omega) (by omega) rfl⟩ ?_
  clear E h1
  rintro ⟨k, vo⟩ w2 ⟨E, z2, h1, hk, ho⟩
  refine S_sub [(2, .slice none 0 0), (3, vo), (7, o1), (8, .int .i64 ((g.nodes.length : Nat) : Int)), (9, .int .i64 ((k : Nat) : Int))] ⟨rfl, rfl, rfl, rfl, rfl, trivial⟩ ?_
  refine S_seq ?_
  refine S_reg [true] rfl rfl ?_
  refine J_st (R_lss rfl rfl) rfl (J_done ?_)
  refine S_seq ?_
  refine S_cond rfl (fun hc1 => ?_) (fun hc1 => ?_)
  · have hc1n : k < g.nodes.length := by first | (have h := of_decide_eq_true hc1; omega) | (have h := hc1; simp at h; omega)
    refine S_skip ?_
    refine S_seq ?_
    refine S_block ?_
    refine S_seq ?_
    refine S_reg [true, true, true, false, true, false] rfl rfl ?_
    refine J_st (R_move rfl) rfl ?_
    have hi1 : k < g.nodes.length := (by first | assumption | omega | (simp only [List.length_set]; first | assumption | omega) | (simp only [List.getElem_set_self, List.length_set]; first | assumption | omega) | (simp only [setW, setLk, List.length_set]; first | assumption | omega) | (simp; done))
    obtain ⟨_, hr1, ha1⟩ := RdD.get hd1 hi1
    obtain ⟨o2, rfl, hd2⟩ := Node.op hr1
    replace ha1 : At w (sblk o1) (soff o1 + k * 4) [.int .i64 ((g.nodes[k]'hi1).kind), .int .i64 ((g.nodes[k]'hi1).a), .int .i64 ((g.nodes[k]'hi1).b), o2] := ha1
    refine J_st (R_index (i := k) sl24 rfl rfl (hd1.ext E).1 hi1) rfl (J_st (R_loadS st37 rfl (ha1.ext E) rfl) rfl ?_)
    refine J_alloc st37 rfl (fun b2 w3 e2 s2 h2 => ?_)
    have g_b2 : w.heap.size ≤ b2 := by have := E.size; omega
    have y_b2 := h2.lt
    replace E := E.trans e2; replace h1 := h1.ext e2; replace ho := ho.ext e2
    have z3 := e2.size
    refine J_st (R_assign rfl) rfl ?_
    refine J_storeS' (cs' := [.int .i64 ((g.nodes[k]'hi1).kind), .int .i64 ((g.nodes[k]'hi1).a), .int .i64 ((g.nodes[k]'hi1).b), o2]) st37 rfl rfl rfl (all_cons rfl (all_cons rfl (all_cons rfl (all_cons (RdD.one (hd2.ext E)) rfl)))) h2 (Nat.le_of_ble_eq_true rfl) rfl (fun w4 m1 h2' => ?_)
    replace h2 := h2'
    replace E := E.step m1 (fun g hg => by cases hg; omega); replace h1 := h1.mod m1 (fun g hg => by cases hg; omega); replace ho := ho.mod m1 (fun g hg => by cases hg; omega)
    have z4 := m1.size
    refine J_done ?_
    refine S_seq ?_
    refine S_reg [true, true, true] rfl rfl ?_
    refine J_st (R_fieldAddr0 fl37_0 rfl) rfl (J_st (R_load sc3 rfl (h2.one 0 rfl)) rfl (J_st (R_eql rfl rfl) rfl (J_done ?_)))
    refine S_cond rfl (fun hc2 => ?_) (fun hc2 => ?_)
    · refine S_reg [true, true, false, false, true] rfl rfl ?_
      refine J_st (R_move rfl) rfl (J_st (R_move rfl) rfl ?_)
      refine J_buildSlice (vs := [.int .i64 ((k : Nat) : Int)]) (css := [[.int .i64 ((k : Nat) : Int)]]) sl30 rfl rfl ⟨⟨rfl, rfl⟩, trivial⟩ rfl rfl (fun b3 w5 e3 s3 h3 => ?_)
      replace h3 : Blk w5 b3 [.int .i64 ((k : Nat) : Int)] := h3
      have g_b3 : w.heap.size ≤ b3 := by have := E.size; omega
      have y_b3 := h3.lt
      replace E := E.trans e3; replace h1 := h1.ext e3; replace ho := ho.ext e3; replace h2 := h2.ext e3
      have z5 := e3.size
      refine J_append sl30 rfl rfl ho (Src.ofBlk h3 rfl) rfl (by have h := outsTo_len g k; rw [sum_flat]; simp only [show Enc.sz Int = 1 from rfl, List.length_cons, List.length_nil]; omega) (by decide) (by omega) (by omega) rfl rfl (fun v1 w6 m2 ho1 => ?_)
      replace E := E.step m2 (fun g hg => by have := Own.blk ho g hg; omega); replace h1 := h1.mod m2 (fun g hg => by have := Own.blk ho g hg; omega); replace h2 := h2.mod m2 (fun g hg => by have := Own.blk ho g hg; omega)
      have z6 := m2.size
      refine J_st (R_assign rfl) rfl (J_done ?_)
      refine S_nil (E_inB ?_)
      refine S_reg [true, true] rfl rfl ?_
      refine J_st (R_add rfl rfl (add_one hc1n (hd1.ext E).1.1)) rfl (J_st (R_move rfl) rfl (J_done ?_))
      refine S_nil (E_again (k + 1, v1) (by simp; omega) ⟨rfl, rfl, rfl, rfl, rfl, trivial⟩ ⟨E, (by omega), h1, (by omega), Own.fin ho1 (Nat.le_refl _) (by omega) (outs_yes (by assumption) hc2)⟩)
    · refine S_skip ?_
      refine S_nil (E_inB ?_)
      refine S_reg [true, true] rfl rfl ?_
      refine J_st (R_add rfl rfl (add_one hc1n (hd1.ext E).1.1)) rfl (J_st (R_move rfl) rfl (J_done ?_))
      refine S_nil (E_again (k + 1, vo) (by simp; omega) ⟨rfl, rfl, rfl, rfl, rfl, trivial⟩ ⟨E, (by omega), h1, (by omega), Own.fin ho (Nat.le_refl _) (by omega) (outs_no (by assumption) hc2)⟩)
  · have hc1n : ¬ k < g.nodes.length := by first | (have h := of_decide_eq_false hc1; omega) | (have h := hc1; simp at h; omega)
    refine S_exit (E_lp_exit (E_inB_exit ?_))
    refine S_seq ?_
    refine S_reg [true, true] rfl rfl ?_
    refine J_st (R_move rfl) rfl (J_st (R_assign rfl) rfl (J_done ?_))
    refine S_ret (E_done1 rfl rfl E ?_)
    obtain rfl : k = g.nodes.length := by omega
    exact Own.fin ho (by omega) (by omega) rfl

set_option maxHeartbeats 4000000 in
set_option maxRecDepth 20000 in
theorem s_l08Copy (cx : List Value) (x : Graph) (w : World) (hx : Dat.R w 0 w.heap.size cx x) (hb : cntGraph x ≤ 1048576) : Ct Try.prog 58 [.agg cx.toArray] w (fun v w' => ∃ o, v = .agg [o, .int .i64 x.workers, .int .i64 x.cap].toArray ∧ OwS w' w.heap.size w'.heap.size o x.nodes) := by
  have hb2 := hb
  unfold cntGraph cntL at hb2
  refine ct_of Try.func58 rfl Try.ntmps58 rfl ?_
  obtain ⟨o1, rfl, hd1⟩ := Graph.op hx
  refine S_sub [(0, .agg [o1, .int .i64 x.workers, .int .i64 x.cap].toArray)] ⟨rfl, trivial⟩ ?_
  have E : Ext w w := Ext.refl w
  refine S_seq ?_
  refine S_reg [false, false] rfl rfl ?_
  refine J_box rfl rfl (fun b1 w1 e1 s1 h1 => ?_)
  have g_b1 : w.heap.size ≤ b1 := by have := E.size; omega
  have y_b1 := h1.lt
  replace E := E.trans e1
  have z1 := e1.size
  refine J_alloc st26 rfl (fun b2 w2 e2 s2 h2 => ?_)
  have g_b2 : w.heap.size ≤ b2 := by have := E.size; omega
  have y_b2 := h2.lt
  replace E := E.trans e2; replace h1 := h1.ext e2
  have z2 := e2.size
  refine J_done ?_
  refine S_seq ?_
  refine S_reg [true, false, false] rfl rfl ?_
  refine J_st (R_loadS st26 rfl h1.at rfl) rfl ?_
  refine J_alloc st26 rfl (fun b3 w3 e3 s3 h3 => ?_)
  have g_b3 : w.heap.size ≤ b3 := by have := E.size; omega
  have y_b3 := h3.lt
  replace E := E.trans e3; replace h1 := h1.ext e3; replace h2 := h2.ext e3
  have z3 := e3.size
  refine J_storeS' (cs' := [o1, .int .i64 x.workers, .int .i64 x.cap]) st26 rfl rfl rfl (all_cons (RdD.one (hd1.ext E)) (all_cons rfl (all_cons rfl rfl))) h3 (Nat.le_of_ble_eq_true rfl) rfl (fun w4 m1 h3' => ?_)
  replace h3 := h3'
  replace E := E.step m1 (fun g hg => by cases hg; omega); replace h1 := h1.mod m1 (fun g hg => by cases hg; omega); replace h2 := h2.mod m1 (fun g hg => by cases hg; omega)
  have z4 := m1.size
  refine J_done ?_
  refine S_seq ?_
  refine S_reg [false, true, false] rfl rfl ?_
  refine J_buildSlice (vs := []) (css := []) sl24 rfl rfl trivial rfl rfl (fun b4 w5 e4 s4 h4 => ?_)
  replace h4 : Blk w5 b4 [] := h4
  have g_b4 : w.heap.size ≤ b4 := by have := E.size; omega
  have y_b4 := h4.lt
  replace E := E.trans e4; replace h1 := h1.ext e4; replace h2 := h2.ext e4; replace h3 := h3.ext e4
  have z5 := e4.size
  refine J_st (R_fieldAddr0 fl26_0 rfl) rfl ?_
  refine J_store' (cs' := [.slice (some ⟨b4, 0, none⟩) 0 0, .int .i64 x.workers, .int .i64 x.cap]) sc24 rfl rfl rfl h3 (Nat.le_of_ble_eq_true rfl) rfl (fun w6 m2 h3' => ?_)
  replace h3 := h3'
  replace E := E.step m2 (fun g hg => by cases hg; omega); replace h1 := h1.mod m2 (fun g hg => by cases hg; omega); replace h2 := h2.mod m2 (fun g hg => by cases hg; omega); replace h4 := h4.mod m2 (fun g hg => by cases hg; omega)
  have z6 := m2.size
  refine J_done ?_
  refine S_seq ?_
  refine S_seq ?_
  refine S_reg [true] rfl rfl ?_
  refine J_st (R_assign rfl) rfl (J_done ?_)
  refine S_block ?_
  refine S_loop (fun (xq : Nat × Value) => let ⟨k0, vo0⟩ := xq; [(1, .pointer (some ⟨b1, 0, none⟩)), (2, .pointer (some ⟨b2, 0, none⟩)), (3, .pointer (some ⟨b3, 0, none⟩)), (4, .int .i64 ((k0 : Nat) : Int)), (8, .pointer (some ⟨b3, 0, none⟩))]) (fun (xq : Nat × Value) w' => let ⟨k0, vo0⟩ := xq; Ext w w' ∧ w6.heap.size ≤ w'.heap.size ∧ Blk w' b1 ([o1, .int .i64 x.workers, .int .i64 x.cap]) ∧ Blk w' b2 [.slice none 0 0, .int .i64 0, .int .i64 0] ∧ k0 ≤ x.nodes.length ∧ OwS w' b4 w'.heap.size vo0 (x.nodes.take k0) ∧ Blk w' b3 [vo0, .int .i64 x.workers, .int .i64 x.cap]) (fun (xq : Nat × Value) => let ⟨k0, vo0⟩ := xq; x.nodes.length - k0) (0, .slice (some ⟨b4, 0, none⟩) 0 0) ⟨rfl, rfl, rfl, rfl, rfl, trivial⟩ ⟨E, Nat.le_refl _, h1, h2, Nat.zero_le _, (OwS.lit h4 (by omega)), h3⟩ ?_
  clear E h1 h2 h3 h4
  rintro ⟨k0, vo0⟩ w7 ⟨E, z7, h1, h2, hk0, hoC0, h3⟩
  refine S_sub [(1, .pointer (some ⟨b1, 0, none⟩)), (2, .pointer (some ⟨b2, 0, none⟩)), (3, .pointer (some ⟨b3, 0, none⟩)), (4, .int .i64 ((k0 : Nat) : Int)), (8, .pointer (some ⟨b3, 0, none⟩))] ⟨rfl, rfl, rfl, rfl, rfl, trivial⟩ ?_
  refine S_seq ?_
  refine S_seq ?_
  refine S_reg [true, true, true, true, true] rfl rfl ?_
  refine J_st (R_move rfl) rfl (J_st (R_fieldAddr0 fl26_0 rfl) rfl (J_st (R_load sc24 rfl (h1.one 0 rfl)) rfl (J_st (R_len Try.underlying24 rfl (hd1.ext E).len) rfl (J_st (R_lss rfl rfl) rfl (J_done ?_)))))
  refine S_cond rfl (fun hc1 => ?_) (fun hc1 => ?_)
  · have hc1n : k0 < x.nodes.length := by first | (have h := of_decide_eq_true hc1; omega) | (have h := hc1; simp at h; omega)
    refine S_skip ?_
    refine S_seq ?_
    refine S_block ?_
    refine S_seq ?_
    refine S_reg [true, true, true, true, true, false, false] rfl rfl ?_
    refine J_st (R_fieldAddr0 fl26_0 rfl) rfl (J_st (R_load sc24 rfl (h1.one 0 rfl)) rfl (J_st (R_move rfl) rfl ?_))
    have hi1 : k0 < x.nodes.length := (by first | assumption | omega | (simp only [List.length_set]; first | assumption | omega) | (simp only [List.getElem_set_self, List.length_set]; first | assumption | omega) | (simp only [setW, setLk, List.length_set]; first | assumption | omega) | (simp; done))
    obtain ⟨_, hr1, ha1⟩ := RdD.get hd1 hi1
    obtain ⟨o2, rfl, hd2⟩ := Node.op hr1
    replace ha1 : At w (sblk o1) (soff o1 + k0 * 4) [.int .i64 ((x.nodes[k0]'hi1).kind), .int .i64 ((x.nodes[k0]'hi1).a), .int .i64 ((x.nodes[k0]'hi1).b), o2] := ha1
    refine J_st (R_index (i := k0) sl24 rfl rfl (hd1.ext E).1 hi1) rfl (J_st (R_loadS st37 rfl (ha1.ext E) rfl) rfl ?_)
    refine J_alloc st37 rfl (fun b5 w8 e5 s5 h5 => ?_)
    have g_b5 : w.heap.size ≤ b5 := by have := E.size; omega
    have y_b5 := h5.lt
    replace E := E.trans e5; replace h1 := h1.ext e5; replace h2 := h2.ext e5; replace hoC0 := hoC0.ext e5; replace h3 := h3.ext e5
    have z8 := e5.size
    refine J_storeS' (cs' := [.int .i64 ((x.nodes[k0]'hi1).kind), .int .i64 ((x.nodes[k0]'hi1).a), .int .i64 ((x.nodes[k0]'hi1).b), o2]) st37 rfl rfl rfl (all_cons rfl (all_cons rfl (all_cons rfl (all_cons (RdD.one (hd2.ext E)) rfl)))) h5 (Nat.le_of_ble_eq_true rfl) rfl (fun w9 m3 h5' => ?_)
    replace h5 := h5'
    replace E := E.step m3 (fun g hg => by cases hg; omega); replace h1 := h1.mod m3 (fun g hg => by cases hg; omega); replace h2 := h2.mod m3 (fun g hg => by cases hg; omega); replace hoC0 := hoC0.mod m3 (fun g hg => by cases hg; omega); replace h3 := h3.mod m3 (fun g hg => by cases hg; omega)
    have z9 := m3.size
    refine J_done ?_
    refine S_seq ?_
    refine S_reg [false, true, true, false, true, false] rfl rfl ?_
    refine J_buildSlice (vs := []) (css := []) sl30 rfl rfl trivial rfl rfl (fun b6 w10 e6 s6 h6 => ?_)
    replace h6 : Blk w10 b6 [] := h6
    have g_b6 : w.heap.size ≤ b6 := by have := E.size; omega
    have y_b6 := h6.lt
    replace E := E.trans e6; replace h1 := h1.ext e6; replace h2 := h2.ext e6; replace hoC0 := hoC0.ext e6; replace h3 := h3.ext e6; replace h5 := h5.ext e6
    have z10 := e6.size
    refine J_st (R_fieldAddr0 fl37_3 rfl) rfl (J_st (R_load sc30 rfl (h5.one 3 rfl)) rfl ?_)
    refine J_append sl30 rfl rfl (Own.ofBlk (lo := b6) (hi := b6 + 1) (sz := 1) h6 (Nat.le_refl _) (Nat.lt_succ_self _) (by simp) (by simp [maxLen])) (RdS.src (hd2.rd.ext E)) (flat_one _) (by have h9 := outs_le hb (List.getElem_mem (by assumption)); simp only [sum_flat, List.length_nil]; simp only [Enc.sz]; omega) (by decide) (by omega) (by omega) rfl rfl (fun v1 w11 m4 ho1 => ?_)
    replace E := E.step m4 (fun g hg => by have := Own.blk (Own.ofBlk (lo := b6) (hi := b6 + 1) (sz := 1) h6 (Nat.le_refl _) (Nat.lt_succ_self _) (by simp) (by simp [maxLen])) g hg; omega); replace h1 := h1.mod m4 (fun g hg => by have := Own.blk (Own.ofBlk (lo := b6) (hi := b6 + 1) (sz := 1) h6 (Nat.le_refl _) (Nat.lt_succ_self _) (by simp) (by simp [maxLen])) g hg; omega); replace h2 := h2.mod m4 (fun g hg => by have := Own.blk (Own.ofBlk (lo := b6) (hi := b6 + 1) (sz := 1) h6 (Nat.le_refl _) (Nat.lt_succ_self _) (by simp) (by simp [maxLen])) g hg; omega); replace hoC0 := hoC0.mod m4 (fun g hg => by have := Own.blk (Own.ofBlk (lo := b6) (hi := b6 + 1) (sz := 1) h6 (Nat.le_refl _) (Nat.lt_succ_self _) (by simp) (by simp [maxLen])) g hg; omega); replace h3 := h3.mod m4 (fun g hg => by have := Own.blk (Own.ofBlk (lo := b6) (hi := b6 + 1) (sz := 1) h6 (Nat.le_refl _) (Nat.lt_succ_self _) (by simp) (by simp [maxLen])) g hg; omega); replace h5 := h5.mod m4 (fun g hg => by have := Own.blk (Own.ofBlk (lo := b6) (hi := b6 + 1) (sz := 1) h6 (Nat.le_refl _) (Nat.lt_succ_self _) (by simp) (by simp [maxLen])) g hg; omega)
    have z11 := m4.size
    refine J_st (R_fieldAddr0 fl37_3 rfl) rfl ?_
    refine J_store' (cs' := [.int .i64 ((x.nodes[k0]'hi1).kind), .int .i64 ((x.nodes[k0]'hi1).a), .int .i64 ((x.nodes[k0]'hi1).b), v1]) sc30 rfl rfl ho1.one h5 (Nat.le_of_ble_eq_true rfl) rfl (fun w12 m5 h5' => ?_)
    replace h5 := h5'
    replace E := E.step m5 (fun g hg => by cases hg; omega); replace h1 := h1.mod m5 (fun g hg => by cases hg; omega); replace h2 := h2.mod m5 (fun g hg => by cases hg; omega); replace hoC0 := hoC0.mod m5 (fun g hg => by cases hg; omega); replace h3 := h3.mod m5 (fun g hg => by cases hg; omega); replace ho1 := ho1.mod m5 (fun g hg => by cases hg; omega)
    have z12 := m5.size
    refine J_done ?_
    refine S_reg [true, true, true, false, false, true, false] rfl rfl ?_
    refine J_st (R_fieldAddr0 fl26_0 rfl) rfl (J_st (R_load sc24 rfl (h3.one 0 rfl)) rfl (J_st (R_loadS st37 rfl h5.at rfl) rfl ?_))
    refine J_buildSlice (vs := [.agg [.int .i64 ((x.nodes[k0]'hi1).kind), .int .i64 ((x.nodes[k0]'hi1).a), .int .i64 ((x.nodes[k0]'hi1).b), v1].toArray]) (css := [[.int .i64 ((x.nodes[k0]'hi1).kind), .int .i64 ((x.nodes[k0]'hi1).a), .int .i64 ((x.nodes[k0]'hi1).b), v1]]) sl24 rfl rfl ⟨⟨rfl, rfl⟩, trivial⟩ rfl rfl (fun b7 w13 e7 s7 h7 => ?_)
    replace h7 : Blk w13 b7 [.int .i64 ((x.nodes[k0]'hi1).kind), .int .i64 ((x.nodes[k0]'hi1).a), .int .i64 ((x.nodes[k0]'hi1).b), v1] := h7
    have g_b7 : w.heap.size ≤ b7 := by have := E.size; omega
    have y_b7 := h7.lt
    replace E := E.trans e7; replace h1 := h1.ext e7; replace h2 := h2.ext e7; replace hoC0 := hoC0.ext e7; replace h3 := h3.ext e7; replace h5 := h5.ext e7; replace ho1 := ho1.ext e7
    have z13 := e7.size
    refine J_appendS (lo := b4) (hi := w7.heap.size) (lo2 := b6) (hi2 := w13.heap.size) sl24 rfl rfl hoC0 (Src.ofBlk h7 rfl) (Node.mkO (⟨(x.nodes[k0]'hi1).kind, (x.nodes[k0]'hi1).a, (x.nodes[k0]'hi1).b, [] ++ ((x.nodes[k0]'hi1).outs)⟩ : Node) ⟨trivial, trivial⟩ (Own.widen ho1 (by omega) (by omega))) (by omega) (by simp only [List.length_take, show Dat.sz Node = 4 from rfl]; omega) (by decide) (by omega) (by omega) (by omega) (by omega) (by omega) rfl rfl (fun v2 w14 m6 ho2 => ?_)
    have hqb := OwS.inn hoC0
    replace E := E.step m6 (fun g hg => by have := hqb g hg; omega); replace h1 := h1.mod m6 (fun g hg => by have := hqb g hg; omega); replace h2 := h2.mod m6 (fun g hg => by have := hqb g hg; omega); replace h3 := h3.mod m6 (fun g hg => by have := hqb g hg; omega); replace h5 := h5.mod m6 (fun g hg => by have := hqb g hg; omega)
    have z14 := m6.size
    clear hqb
    refine J_st (R_fieldAddr0 fl26_0 rfl) rfl ?_
    refine J_store' (cs' := [v2, .int .i64 x.workers, .int .i64 x.cap]) sc24 rfl rfl (RdD.one (OwS.rd ho2)) h3 (Nat.le_of_ble_eq_true rfl) rfl (fun w15 m7 h3' => ?_)
    replace h3 := h3'
    replace E := E.step m7 (fun g hg => by cases hg; omega); replace h1 := h1.mod m7 (fun g hg => by cases hg; omega); replace h2 := h2.mod m7 (fun g hg => by cases hg; omega); replace h5 := h5.mod m7 (fun g hg => by cases hg; omega); replace ho2 := ho2.mod m7 (fun g hg => by cases hg; omega)
    have z15 := m7.size
    refine J_done ?_
    refine S_nil (E_inB ?_)
    refine S_reg [true, true, true] rfl rfl ?_
    refine J_st (R_move rfl) rfl (J_st (R_add rfl rfl (add_one hc1n (hd1.ext E).1.1)) rfl (J_st (R_assign rfl) rfl (J_done ?_)))
    refine S_nil (E_again (k0 + 1, v2) (by simp; omega) ⟨rfl, rfl, rfl, rfl, rfl, trivial⟩ ⟨E, (by omega), h1, h2, (by omega), (by rw [List.take_succ_eq_append_getElem (by assumption)]; exact OwS.widen ho2 (by omega) (by omega)), h3⟩)
  · have hc1n : ¬ k0 < x.nodes.length := by first | (have h := of_decide_eq_false hc1; omega) | (have h := hc1; simp at h; omega)
    refine S_exit (E_lp_exit (E_inB_exit ?_))
    refine S_seq ?_
    refine S_reg [true, false] rfl rfl ?_
    refine J_st (R_loadS st26 rfl h3.at rfl) rfl ?_
    refine J_storeS' (cs' := [vo0, .int .i64 x.workers, .int .i64 x.cap]) st26 rfl rfl rfl (all_cons (RdD.one (OwS.rd hoC0)) (all_cons rfl (all_cons rfl rfl))) h2 (Nat.le_of_ble_eq_true rfl) rfl (fun w16 m8 h2' => ?_)
    replace h2 := h2'
    replace E := E.step m8 (fun g hg => by cases hg; omega); replace h1 := h1.mod m8 (fun g hg => by cases hg; omega); replace hoC0 := hoC0.mod m8 (fun g hg => by cases hg; omega); replace h3 := h3.mod m8 (fun g hg => by cases hg; omega)
    have z16 := m8.size
    refine J_done ?_
    refine S_ret (E_doneC rfl rfl (run_loadVar_st st26 h2.at rfl) E ?_)
    rw [List.take_of_length_le (by omega)] at hoC0
    exact ⟨_, rfl, OwS.widen hoC0 (by have := E.size; omega) (by omega)⟩

set_option maxRecDepth 20000 in
theorem s_l01New (vcode : Value) (code : List Byt) (w : World) (hcode : RdS w vcode code) : Ct Try.prog 48 [vcode] w (fun v w' => ∃ b, v = .pointer (some ⟨b, 0, none⟩) ∧ w.heap.size ≤ b ∧ CurO w' b vcode code) := by
  have hmx := hcode.1
  unfold maxLen at hmx
  refine ct_of Try.func48 rfl Try.ntmps48 rfl ?_
  refine S_sub [(0, vcode)] ⟨rfl, trivial⟩ ?_
  have E : Ext w w := Ext.refl w
  refine S_seq ?_
  refine S_reg [true] rfl rfl ?_
  refine J_st (R_assign rfl) rfl (J_done ?_)
  refine S_seq ?_
  refine S_reg [true, true, true, true] rfl rfl ?_
  refine J_st (R_move rfl) rfl (J_st (R_len Try.underlying22 rfl (hcode.ext E).len) rfl (J_st (R_add rfl rfl rfl) rfl (J_st (R_assign rfl) rfl (J_done ?_))))
  refine S_seq ?_
  refine S_seq ?_
  refine S_reg [true] rfl rfl ?_
  refine J_st (R_assign rfl) rfl (J_done ?_)
  refine S_block ?_
  refine S_loop (fun (xq : Nat × Int) => let ⟨k, hh⟩ := xq; [(0, vcode), (2, .pointer none), (3, .int .i64 hh), (4, .int .i64 ((k : Nat) : Int))]) (fun (xq : Nat × Int) w' => let ⟨k, hh⟩ := xq; Ext w w' ∧ w.heap.size ≤ w'.heap.size ∧ k ≤ code.length) (fun (xq : Nat × Int) => let ⟨k, hh⟩ := xq; code.length - k) (0, IntKind.i64.wrap (94701 + ((code.length : Nat) : Int))) ⟨rfl, rfl, rfl, rfl, trivial⟩ ⟨E, Nat.le_refl _, Nat.zero_le _⟩ ?_
  clear E
  rintro ⟨k, hh⟩ w1 ⟨E, z1, hk⟩
  refine S_sub [(0, vcode), (2, .pointer none), (3, .int .i64 hh), (4, .int .i64 ((k : Nat) : Int))] ⟨rfl, rfl, rfl, rfl, trivial⟩ ?_
  refine S_seq ?_
  refine S_seq ?_
  refine S_reg [true, true, true, true, true, true, true, true] rfl rfl ?_
  refine J_st (R_move rfl) rfl (J_st (R_move rfl) rfl (J_st (R_len Try.underlying22 rfl (hcode.ext E).len) rfl (J_st (R_lss rfl rfl) rfl (J_st (R_move rfl) rfl ?_))))
  refine J_cut 3 [(0, vcode), (2, .pointer none), (3, .int .i64 hh), (4, .int .i64 ((k : Nat) : Int)), (15, .bool ((decide (((k : Nat) : Int) < ((code.length : Nat) : Int))) && (decide (((k : Nat) : Int) < 4000))))] (fun w' => w1 = w') ?_ ?_
  · refine J_if (gd := 12) rfl rfl (fun hg1 => ?_) (fun hg1 => ?_)
    · have hg1n : k < code.length := by first | (have h := of_decide_eq_true hg1; omega) | (have h := hg1; simp at h; omega)
      refine J_gd rfl rfl (R_move rfl) rfl (J_gd rfl rfl (R_lss rfl rfl) rfl (J_st (R_pickT rfl rfl) rfl (J_cutEnd ⟨rfl, rfl, rfl, rfl, congrArg (fun b => some (Value.bool b)) (show (decide (((k : Nat) : Int) < 4000)) = ((decide (((k : Nat) : Int) < ((code.length : Nat) : Int))) && (decide (((k : Nat) : Int) < 4000))) by first | (rw [hg1] <;> rfl) | (simp [hg1]; done) | (simp only [nat_nlt] <;> simp)), trivial⟩ rfl)))
    · have hg1n : ¬ k < code.length := by first | (have h := of_decide_eq_false hg1; omega) | (have h := hg1; simp at h; omega)
      refine J_gdno rfl rfl rfl rfl (J_gdno rfl rfl rfl rfl (J_st (R_pickF rfl rfl) rfl (J_cutEnd ⟨rfl, rfl, rfl, rfl, congrArg (fun b => some (Value.bool b)) (show false = ((decide (((k : Nat) : Int) < ((code.length : Nat) : Int))) && (decide (((k : Nat) : Int) < 4000))) by first | (rw [hg1] <;> rfl) | (simp [hg1]; done) | (simp only [nat_nlt] <;> simp)), trivial⟩ rfl)))
  rintro _ rfl
  refine J_done ?_
  refine S_cond rfl (fun hc1 => ?_) (fun hc1 => ?_)
  · have hlt : k < code.length := by have h := (Bool.and_eq_true _ _ ▸ hc1).1; have h2 := of_decide_eq_true h; omega
    refine S_skip ?_
    refine S_seq ?_
    refine S_block ?_
    refine S_reg [true, true, true, true, true, true, true, true, true, true, true] rfl rfl ?_
    refine J_st (R_move rfl) rfl (J_st (R_mul rfl rfl rfl) rfl (J_st (R_move rfl) rfl (J_st (R_move rfl) rfl ?_)))
    have hi1 : k < code.length := (by first | assumption | omega | (simp only [List.length_set]; first | assumption | omega) | (simp only [List.getElem_set_self, List.length_set]; first | assumption | omega) | (simp only [setW, setLk, List.length_set]; first | assumption | omega) | (simp; done))
    refine J_st (R_index (i := k) sl22 rfl rfl (hcode.ext E) hi1) rfl (J_st (R_load sc5 rfl (((hcode.ext E).get hi1).one 0 rfl)) rfl (J_st (R_conv Try.underlying5 Try.underlying3 rfl) rfl (J_st (R_add rfl rfl rfl) rfl (J_st (R_add rfl rfl rfl) rfl (J_st (R_and rfl rfl) rfl (J_st (R_assign rfl) rfl (J_done ?_)))))))
    refine S_nil (E_inB ?_)
    refine S_reg [true, true, true] rfl rfl ?_
    refine J_st (R_move rfl) rfl (J_st (R_add rfl rfl (add_nat (by unfold maxLen; omega))) rfl (J_st (R_assign rfl) rfl (J_done ?_)))
    refine S_nil (E_again (k + 1, andB .i64 (IntKind.i64.wrap ((IntKind.i64.wrap ((IntKind.i64.wrap (hh * 131)) + (IntKind.i64.wrap ((code[k]'hi1).v)))) + 7)) 1073741823) (by simp; omega) ⟨rfl, rfl, rfl, rfl, trivial⟩ ⟨E, (by omega), (by omega)⟩)
  · refine S_exit (E_lp_exit (E_inB_exit ?_))
    refine S_seq ?_
    refine S_reg [true, true, true, false, true] rfl rfl ?_
    refine J_st (R_move rfl) rfl (J_st (R_move rfl) rfl ?_)
    have hbl1 : ∀ w, (Instr.build 102 ([(0, vcode), (2, .int .i64 hh)]).toArray).run Try.prog w = .ok (.agg [vcode, .int .i64 0, .int .i64 hh].toArray) w := by clear E; obtain ⟨_, _, _, rfl⟩ := SlLen.shape (RdL.len hcode); intro w; kernel_rfl
    refine J_st (R_buildC [vcode, .int .i64 0, .int .i64 hh] rfl hbl1) rfl ?_
    refine J_box rfl rfl (fun b1 w3 e1 s1 h1 => ?_)
    have g_b1 : w.heap.size ≤ b1 := by have := E.size; omega
    have y_b1 := h1.lt
    replace E := E.trans e1
    have z2 := e1.size
    refine J_st (R_assign rfl) rfl (J_done ?_)
    refine S_ret (E_done1 rfl rfl E ?_)
    exact ⟨_, rfl, (by omega), 0, _, h1, Nat.zero_le _⟩

end Go.Proofs.Ytdmngeljbhlgmaa
