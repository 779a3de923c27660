/- What the functions that the laws call come to: a contract each; no condition. -/
import Derived.Test.YtcgfmicadcdinaaFns
namespace Go.Proofs.Ytcgfmicadcdinaa
open Go Go.Proofs.Ytcgfmicadcdinaa.X Go.Proofs
set_option maxRecDepth 20000 in
theorem s_StampOk (s : Stamp) (w : World)  : Ct Try.prog 52 [.agg (Enc.enc s).toArray] w (fun v _ => v = .bool (stampOk s)) := by
  refine ct_of Try.func52 rfl Try.ntmps52 rfl ?_
  refine S_sub [(0, .agg (Enc.enc s).toArray)] ⟨rfl, trivial⟩ ?_
  have E : Ext w w := Ext.refl w
  refine S_seq ?_
  refine S_reg [false, true] rfl rfl ?_
  refine J_box rfl rfl (fun b1 w1 e1 s1 h1 => ?_)
  have g_b1 : w.heap.size ≤ b1 := by have := E.size; omega
  have y_b1 := h1.lt
  replace E := E.trans e1
  have z1 := e1.size
  refine J_st (R_assign rfl) rfl (J_done ?_)
  refine S_seq ?_
  refine S_reg [true, true, false, true, true, true, false, true, true] rfl rfl ?_
  refine J_st (R_fieldAddr0 fl53_0 rfl) rfl (J_st (R_load sc3 rfl (h1.one 0 rfl)) rfl ?_)
  refine J_call Try.call50 rfl (s_l01In s.epoch 0 3 _ ) rfl (fun _ w2 e2 hv => ?_)
  subst hv
  replace E := E.trans e2; replace h1 := h1.ext e2
  have z2 := e2.size
  refine J_st (R_move rfl) rfl ?_
  refine J_cut 4 [(0, .agg (Enc.enc s).toArray), (1, .pointer (some ⟨b1, 0, none⟩)), (2, .bool false), (10, .bool ((win s.epoch 0 3) && (win s.turn 0 6)))] (fun w' => Ext w w' ∧ w2.heap.size ≤ w'.heap.size ∧ Blk w' b1 (Enc.enc s)) ?_ ?_
  · refine J_if (gd := 6) rfl rfl (fun hg1 => ?_) (fun hg1 => ?_)
    · refine J_gd rfl rfl (R_fieldAddr0 fl53_1 rfl) rfl (J_gd rfl rfl (R_load sc3 rfl (h1.one 1 rfl)) rfl ?_)
      refine J_ung rfl rfl ?_
      refine J_call Try.call50 rfl (s_l01In s.turn 0 6 _ ) rfl (fun _ w4 e3 hv => ?_)
      subst hv
      replace E := E.trans e3; replace h1 := h1.ext e3
      have z3 := e3.size
      refine J_st (R_pickT rfl rfl) rfl (J_cutEnd ⟨rfl, rfl, rfl, congrArg (fun b => some (Value.bool b)) (show (win s.turn 0 6) = ((win s.epoch 0 3) && (win s.turn 0 6)) by first | (rw [hg1] <;> rfl) | (simp [hg1]; done) | (simp only [nat_nlt] <;> simp)), trivial⟩ ⟨E, (by omega), h1⟩)
    · refine J_gdno rfl rfl rfl rfl (J_gdno rfl rfl rfl rfl ?_)
      refine J_ungno rfl rfl rfl rfl ?_
      refine J_st (R_pickF rfl rfl) rfl (J_cutEnd ⟨rfl, rfl, rfl, congrArg (fun b => some (Value.bool b)) (show false = ((win s.epoch 0 3) && (win s.turn 0 6)) by first | (rw [hg1] <;> rfl) | (simp [hg1]; done) | (simp only [nat_nlt] <;> simp)), trivial⟩ ⟨E, (by omega), h1⟩)
  clear E h1
  rintro w3 ⟨E, z4, h1⟩
  refine J_st (R_assign rfl) rfl (J_done ?_)
  refine S_ret (E_done1 rfl rfl E ?_)
  rfl

set_option maxRecDepth 20000 in
theorem c_itemOk (a : Int) (b : Int) (w : World)  : Ct Try.prog 60 [.int .i64 a, .int .i64 b] w (fun v _ => v = .bool (win a 0 99 && win b 0 999)) := by
  refine ct_of Try.func60 rfl Try.ntmps60 rfl ?_
  refine S_sub [(0, .int .i64 a), (1, .int .i64 b)] ⟨rfl, rfl, trivial⟩ ?_
  have E : Ext w w := Ext.refl w
  refine S_seq ?_
  refine S_reg [true] rfl rfl ?_
  refine J_st (R_assign rfl) rfl (J_done ?_)
  refine S_seq ?_
  refine S_reg [true, false, true, true, false, true, true] rfl rfl ?_
  refine J_st (R_move rfl) rfl ?_
  refine J_call Try.call57 rfl (c_within a 0 99 _ ) rfl (fun _ w1 e1 hv => ?_)
  subst hv
  replace E := E.trans e1
  have z1 := e1.size
  refine J_st (R_move rfl) rfl ?_
  refine J_cut 3 [(0, .int .i64 a), (1, .int .i64 b), (4, .bool false), (10, .bool ((win a 0 99) && (win b 0 999)))] (fun w' => Ext w w' ∧ w1.heap.size ≤ w'.heap.size) ?_ ?_
  · refine J_if (gd := 7) rfl rfl (fun hg1 => ?_) (fun hg1 => ?_)
    · refine J_gd rfl rfl (R_move rfl) rfl ?_
      refine J_ung rfl rfl ?_
      refine J_call Try.call57 rfl (c_within b 0 999 _ ) rfl (fun _ w3 e2 hv => ?_)
      subst hv
      replace E := E.trans e2
      have z2 := e2.size
      refine J_st (R_pickT rfl rfl) rfl (J_cutEnd ⟨rfl, rfl, rfl, congrArg (fun b => some (Value.bool b)) (show (win b 0 999) = ((win a 0 99) && (win b 0 999)) by first | (rw [hg1] <;> rfl) | (simp [hg1]; done) | (simp only [nat_nlt] <;> simp)), trivial⟩ ⟨E, (by omega)⟩)
    · refine J_gdno rfl rfl rfl rfl ?_
      refine J_ungno rfl rfl rfl rfl ?_
      refine J_st (R_pickF rfl rfl) rfl (J_cutEnd ⟨rfl, rfl, rfl, congrArg (fun b => some (Value.bool b)) (show false = ((win a 0 99) && (win b 0 999)) by first | (rw [hg1] <;> rfl) | (simp [hg1]; done) | (simp only [nat_nlt] <;> simp)), trivial⟩ ⟨E, (by omega)⟩)
  clear E
  rintro w2 ⟨E, z3⟩
  refine J_st (R_assign rfl) rfl (J_done ?_)
  refine S_ret (E_done1 rfl rfl E ?_)
  rfl

set_option maxRecDepth 20000 in
theorem c_RecordOk (r : Record) (w : World)  : Ct Try.prog 27 [.agg (Enc.enc r).toArray] w (fun v _ => v = .bool (recordOk r)) := by
  refine ct_of Try.func27 rfl Try.ntmps27 rfl ?_
  refine S_sub [(0, .agg (Enc.enc r).toArray)] ⟨rfl, trivial⟩ ?_
  have E : Ext w w := Ext.refl w
  refine S_seq ?_
  refine S_reg [false, true] rfl rfl ?_
  refine J_box rfl rfl (fun b1 w1 e1 s1 h1 => ?_)
  have g_b1 : w.heap.size ≤ b1 := by have := E.size; omega
  have y_b1 := h1.lt
  replace E := E.trans e1
  have z1 := e1.size
  refine J_st (R_assign rfl) rfl (J_done ?_)
  refine S_seq ?_
  refine S_reg [true, true, false, true, true, true, false, true, true, true, true, true, true, false, true, true] rfl rfl ?_
  refine J_st (R_fieldAddr0 fl55_0 rfl) rfl (J_st (R_load sc3 rfl (h1.one 0 rfl)) rfl ?_)
  refine J_call Try.call57 rfl (c_within r.op 0 7 _ ) rfl (fun _ w2 e2 hv => ?_)
  subst hv
  replace E := E.trans e2; replace h1 := h1.ext e2
  have z2 := e2.size
  refine J_st (R_move rfl) rfl ?_
  refine J_cut 11 [(0, .agg (Enc.enc r).toArray), (1, .pointer (some ⟨b1, 0, none⟩)), (2, .bool false), (17, .bool (((win r.op 0 7) && (stampOk r.stamp)) && (win r.key 0 99 && win r.val 0 999)))] (fun w' => Ext w w' ∧ w2.heap.size ≤ w'.heap.size ∧ Blk w' b1 (Enc.enc r)) ?_ ?_
  · refine J_if (gd := 6) rfl rfl (fun hg1 => ?_) (fun hg1 => ?_)
    · refine J_gd rfl rfl (R_fieldAddr0 fl55_1 rfl) rfl (J_gd rfl rfl (R_loadS st53 rfl (h1.part 1 [.int .i64 r.stamp.epoch, .int .i64 r.stamp.turn] rfl) rfl) rfl ?_)
      refine J_ung rfl rfl ?_
      refine J_call Try.call59 rfl (c_StampOk r.stamp _ ) rfl (fun _ w4 e3 hv => ?_)
      subst hv
      replace E := E.trans e3; replace h1 := h1.ext e3
      have z3 := e3.size
      refine J_st (R_pickT rfl rfl) rfl (J_st (R_move rfl) rfl ?_)
      refine J_if (gd := 11) rfl rfl (fun hg2 => ?_) (fun hg2 => ?_)
      · refine J_gd rfl rfl (R_fieldAddr0 fl55_2 rfl) rfl (J_gd rfl rfl (R_load sc3 rfl (h1.one 3 rfl)) rfl (J_gd rfl rfl (R_fieldAddr0 fl55_3 rfl) rfl (J_gd rfl rfl (R_load sc3 rfl (h1.one 4 rfl)) rfl ?_)))
        refine J_ung rfl rfl ?_
        refine J_call Try.call60 rfl (c_itemOk r.key r.val _ ) rfl (fun _ w5 e4 hv => ?_)
        subst hv
        replace E := E.trans e4; replace h1 := h1.ext e4
        have z4 := e4.size
        refine J_st (R_pickT rfl rfl) rfl (J_cutEnd ⟨rfl, rfl, rfl, congrArg (fun b => some (Value.bool b)) (show (win r.key 0 99 && win r.val 0 999) = (((win r.op 0 7) && (stampOk r.stamp)) && (win r.key 0 99 && win r.val 0 999)) by first | (rw [hg1, hg2] <;> rfl) | (simp [hg1, hg2]; done) | (simp only [nat_nlt] <;> simp)), trivial⟩ ⟨E, (by omega), h1⟩)
      · refine J_gdno rfl rfl rfl rfl (J_gdno rfl rfl rfl rfl (J_gdno rfl rfl rfl rfl (J_gdno rfl rfl rfl rfl ?_)))
        refine J_ungno rfl rfl rfl rfl ?_
        refine J_st (R_pickF rfl rfl) rfl (J_cutEnd ⟨rfl, rfl, rfl, congrArg (fun b => some (Value.bool b)) (show false = (((win r.op 0 7) && (stampOk r.stamp)) && (win r.key 0 99 && win r.val 0 999)) by first | (rw [hg1, hg2] <;> rfl) | (simp [hg1, hg2]; done) | (simp only [nat_nlt] <;> simp)), trivial⟩ ⟨E, (by omega), h1⟩)
    · refine J_gdno rfl rfl rfl rfl (J_gdno rfl rfl rfl rfl ?_)
      refine J_ungno rfl rfl rfl rfl ?_
      refine J_st (R_pickF rfl rfl) rfl (J_st (R_move rfl) rfl (J_gdno rfl rfl rfl rfl (J_gdno rfl rfl rfl rfl (J_gdno rfl rfl rfl rfl (J_gdno rfl rfl rfl rfl ?_)))))
      refine J_ungno rfl rfl rfl rfl ?_
      refine J_st (R_pickF rfl rfl) rfl (J_cutEnd ⟨rfl, rfl, rfl, congrArg (fun b => some (Value.bool b)) (show false = (((win r.op 0 7) && (stampOk r.stamp)) && (win r.key 0 99 && win r.val 0 999)) by first | (rw [hg1] <;> rfl) | (simp [hg1]; done) | (simp only [nat_nlt] <;> simp)), trivial⟩ ⟨E, (by omega), h1⟩)
  clear E h1
  rintro w3 ⟨E, z5, h1⟩
  refine J_st (R_assign rfl) rfl (J_done ?_)
  refine S_ret (E_done1 rfl rfl E ?_)
  rfl

set_option maxRecDepth 20000 in
theorem s_RecordOk (r : Record) (w : World)  : Ct Try.prog 19 [.agg (Enc.enc r).toArray] w (fun v _ => v = .bool (recordOk r)) := by
  refine ct_of Try.func19 rfl Try.ntmps19 rfl ?_
  refine S_sub [(0, .agg (Enc.enc r).toArray)] ⟨rfl, trivial⟩ ?_
  have E : Ext w w := Ext.refl w
  refine S_seq ?_
  refine S_reg [false, true] rfl rfl ?_
  refine J_box rfl rfl (fun b1 w1 e1 s1 h1 => ?_)
  have g_b1 : w.heap.size ≤ b1 := by have := E.size; omega
  have y_b1 := h1.lt
  replace E := E.trans e1
  have z1 := e1.size
  refine J_st (R_assign rfl) rfl (J_done ?_)
  refine S_seq ?_
  refine S_reg [true, true, false, true, true, true, false, true, true, true, true, false, true, true, true, true, false, true, true] rfl rfl ?_
  refine J_st (R_fieldAddr0 fl55_0 rfl) rfl (J_st (R_load sc3 rfl (h1.one 0 rfl)) rfl ?_)
  refine J_call Try.call50 rfl (s_l01In r.op 0 7 _ ) rfl (fun _ w2 e2 hv => ?_)
  subst hv
  replace E := E.trans e2; replace h1 := h1.ext e2
  have z2 := e2.size
  refine J_st (R_move rfl) rfl ?_
  refine J_cut 14 [(0, .agg (Enc.enc r).toArray), (1, .pointer (some ⟨b1, 0, none⟩)), (2, .bool false), (20, .bool ((((win r.op 0 7) && (stampOk r.stamp)) && (win r.key 0 99)) && (win r.val 0 999)))] (fun w' => Ext w w' ∧ w2.heap.size ≤ w'.heap.size ∧ Blk w' b1 (Enc.enc r)) ?_ ?_
  · refine J_if (gd := 6) rfl rfl (fun hg1 => ?_) (fun hg1 => ?_)
    · refine J_gd rfl rfl (R_fieldAddr0 fl55_1 rfl) rfl (J_gd rfl rfl (R_loadS st53 rfl (h1.part 1 [.int .i64 r.stamp.epoch, .int .i64 r.stamp.turn] rfl) rfl) rfl ?_)
      refine J_ung rfl rfl ?_
      refine J_call Try.call52 rfl (s_StampOk r.stamp _ ) rfl (fun _ w4 e3 hv => ?_)
      subst hv
      replace E := E.trans e3; replace h1 := h1.ext e3
      have z3 := e3.size
      refine J_st (R_pickT rfl rfl) rfl (J_st (R_move rfl) rfl ?_)
      refine J_if (gd := 11) rfl rfl (fun hg2 => ?_) (fun hg2 => ?_)
      · refine J_gd rfl rfl (R_fieldAddr0 fl55_2 rfl) rfl (J_gd rfl rfl (R_load sc3 rfl (h1.one 3 rfl)) rfl ?_)
        refine J_ung rfl rfl ?_
        refine J_call Try.call50 rfl (s_l01In r.key 0 99 _ ) rfl (fun _ w5 e4 hv => ?_)
        subst hv
        replace E := E.trans e4; replace h1 := h1.ext e4
        have z4 := e4.size
        refine J_st (R_pickT rfl rfl) rfl (J_st (R_move rfl) rfl ?_)
        refine J_if (gd := 16) rfl rfl (fun hg3 => ?_) (fun hg3 => ?_)
        · refine J_gd rfl rfl (R_fieldAddr0 fl55_3 rfl) rfl (J_gd rfl rfl (R_load sc3 rfl (h1.one 4 rfl)) rfl ?_)
          refine J_ung rfl rfl ?_
          refine J_call Try.call50 rfl (s_l01In r.val 0 999 _ ) rfl (fun _ w6 e5 hv => ?_)
          subst hv
          replace E := E.trans e5; replace h1 := h1.ext e5
          have z5 := e5.size
          refine J_st (R_pickT rfl rfl) rfl (J_cutEnd ⟨rfl, rfl, rfl, congrArg (fun b => some (Value.bool b)) (show (win r.val 0 999) = ((((win r.op 0 7) && (stampOk r.stamp)) && (win r.key 0 99)) && (win r.val 0 999)) by first | (rw [hg1, hg2, hg3] <;> rfl) | (simp [hg1, hg2, hg3]; done) | (simp only [nat_nlt] <;> simp)), trivial⟩ ⟨E, (by omega), h1⟩)
        · refine J_gdno rfl rfl rfl rfl (J_gdno rfl rfl rfl rfl ?_)
          refine J_ungno rfl rfl rfl rfl ?_
          refine J_st (R_pickF rfl rfl) rfl (J_cutEnd ⟨rfl, rfl, rfl, congrArg (fun b => some (Value.bool b)) (show false = ((((win r.op 0 7) && (stampOk r.stamp)) && (win r.key 0 99)) && (win r.val 0 999)) by first | (rw [hg1, hg2, hg3] <;> rfl) | (simp [hg1, hg2, hg3]; done) | (simp only [nat_nlt] <;> simp)), trivial⟩ ⟨E, (by omega), h1⟩)
      · refine J_gdno rfl rfl rfl rfl (J_gdno rfl rfl rfl rfl ?_)
        refine J_ungno rfl rfl rfl rfl ?_
        refine J_st (R_pickF rfl rfl) rfl (J_st (R_move rfl) rfl (J_gdno rfl rfl rfl rfl (J_gdno rfl rfl rfl rfl ?_)))
        refine J_ungno rfl rfl rfl rfl ?_
        refine J_st (R_pickF rfl rfl) rfl (J_cutEnd ⟨rfl, rfl, rfl, congrArg (fun b => some (Value.bool b)) (show false = ((((win r.op 0 7) && (stampOk r.stamp)) && (win r.key 0 99)) && (win r.val 0 999)) by first | (rw [hg1, hg2] <;> rfl) | (simp [hg1, hg2]; done) | (simp only [nat_nlt] <;> simp)), trivial⟩ ⟨E, (by omega), h1⟩)
    · refine J_gdno rfl rfl rfl rfl (J_gdno rfl rfl rfl rfl ?_)
      refine J_ungno rfl rfl rfl rfl ?_
      refine J_st (R_pickF rfl rfl) rfl (J_st (R_move rfl) rfl (J_gdno rfl rfl rfl rfl (J_gdno rfl rfl rfl rfl ?_)))
      refine J_ungno rfl rfl rfl rfl ?_
      refine J_st (R_pickF rfl rfl) rfl (J_st (R_move rfl) rfl (J_gdno rfl rfl rfl rfl (J_gdno rfl rfl rfl rfl ?_)))
      refine J_ungno rfl rfl rfl rfl ?_
      refine J_st (R_pickF rfl rfl) rfl (J_cutEnd ⟨rfl, rfl, rfl, congrArg (fun b => some (Value.bool b)) (show false = ((((win r.op 0 7) && (stampOk r.stamp)) && (win r.key 0 99)) && (win r.val 0 999)) by first | (rw [hg1] <;> rfl) | (simp [hg1]; done) | (simp only [nat_nlt] <;> simp)), trivial⟩ ⟨E, (by omega), h1⟩)
  clear E h1
  rintro w3 ⟨E, z6, h1⟩
  refine J_st (R_assign rfl) rfl (J_done ?_)
  refine S_ret (E_done1 rfl rfl E ?_)
  simp [recordOk, Bool.and_assoc]

set_option maxRecDepth 20000 in
theorem c_copyNode (cx : List Value) (x : Node) (w : World) (hx : Dat.R w 0 w.heap.size cx x) (hb : x.outs.length ≤ 1048576) : Ct Try.prog 61 [.agg cx.toArray] w (fun v w' => ∃ cs, v = .agg cs.toArray ∧ Own1.O w' w.heap.size w'.heap.size cs x) := by
  refine ct_of Try.func61 rfl Try.ntmps61 rfl ?_
  obtain ⟨o1, rfl, hd1⟩ := Node.op hx
  refine S_sub [(0, .agg [.int .i64 x.kind, .int .i64 x.a, .int .i64 x.b, o1].toArray)] ⟨rfl, trivial⟩ ?_
  have E : Ext w w := Ext.refl w
  refine S_seq ?_
  refine S_reg [false, false] rfl rfl ?_
  refine J_box rfl rfl (fun b1 w1 e1 s1 h1 => ?_)
  have g_b1 : w.heap.size ≤ b1 := by have := E.size; omega
  have y_b1 := h1.lt
  replace E := E.trans e1
  have z1 := e1.size
  refine J_alloc st90 rfl (fun b2 w2 e2 s2 h2 => ?_)
  have g_b2 : w.heap.size ≤ b2 := by have := E.size; omega
  have y_b2 := h2.lt
  replace E := E.trans e2; replace h1 := h1.ext e2
  have z2 := e2.size
  refine J_done ?_
  refine S_seq ?_
  refine S_reg [true, true, false, true, false] rfl rfl ?_
  refine J_st (R_fieldAddr0 fl90_3 rfl) rfl (J_st (R_load sc58 rfl (h1.one 3 rfl)) rfl ?_)
  refine J_append sl58 rfl rfl (Own.nil w2 w2.heap.size w2.heap.size 1) (RdS.src (hd1.rd.ext E)) (flat_one _) (by simp only [sum_flat, List.length_nil]; simp only [Enc.sz]; omega) (by decide) (by omega) (by omega) rfl rfl (fun v1 w3 m1 ho1 => ?_)
  replace E := E.step m1 (fun g hg => by have := Own.blk (Own.nil w2 w2.heap.size w2.heap.size 1) g hg; omega); replace h1 := h1.mod m1 (fun g hg => by have := Own.blk (Own.nil w2 w2.heap.size w2.heap.size 1) g hg; omega); replace h2 := h2.mod m1 (fun g hg => by have := Own.blk (Own.nil w2 w2.heap.size w2.heap.size 1) g hg; omega)
  have z3 := m1.size
  refine J_st (R_fieldAddr0 fl90_3 rfl) rfl ?_
  refine J_store' (cs' := [.int .i64 x.kind, .int .i64 x.a, .int .i64 x.b, v1]) sc58 rfl rfl ho1.one h1 (Nat.le_of_ble_eq_true rfl) rfl (fun w4 m2 h1' => ?_)
  replace h1 := h1'
  replace E := E.step m2 (fun g hg => by cases hg; omega); replace h2 := h2.mod m2 (fun g hg => by cases hg; omega); replace ho1 := ho1.mod m2 (fun g hg => by cases hg; omega)
  have z4 := m2.size
  refine J_done ?_
  refine S_seq ?_
  refine S_reg [true, false] rfl rfl ?_
  refine J_st (R_loadS st90 rfl h1.at rfl) rfl ?_
  refine J_storeS' (cs' := [.int .i64 x.kind, .int .i64 x.a, .int .i64 x.b, v1]) st90 rfl rfl rfl (all_cons rfl (all_cons rfl (all_cons rfl (all_cons ho1.one rfl)))) h2 (Nat.le_of_ble_eq_true rfl) rfl (fun w5 m3 h2' => ?_)
  replace h2 := h2'
  replace E := E.step m3 (fun g hg => by cases hg; omega); replace h1 := h1.mod m3 (fun g hg => by cases hg; omega); replace ho1 := ho1.mod m3 (fun g hg => by cases hg; omega)
  have z5 := m3.size
  refine J_done ?_
  refine S_ret (E_doneC rfl rfl (run_loadVar_st st90 h2.at rfl) E ?_)
  exact ⟨_, rfl, Node.mkO (⟨x.kind, x.a, x.b, [] ++ x.outs⟩ : Node) ⟨trivial, trivial⟩ (Own.widen ho1 (by omega) (by omega))⟩

set_option maxRecDepth 20000 in
theorem markRecordS (vxs : Value) (lo hi : Nat) (xs : List Record) (k : Nat) (w : World) (hxs : Own w lo hi 5 vxs (List.flatMap (Enc.enc (α := Record)) xs)) (hb : k + xs.length * 5 ≤ 1099511627776) : CtR Try.prog 14 [vxs, .int .i64 ((k : Nat) : Int)] w lo hi (fun v w' => v = .int .i64 ((k + 5 * xs.length : Nat) : Int) ∧ Own w' lo hi 5 vxs (List.flatMap (Enc.enc (α := Record)) (mkL 5 mkRecord k xs.length))) := by
  refine ctR_of Try.func14 rfl Try.ntmps14 rfl ?_
  refine S_sub [(0, vxs), (1, .int .i64 ((k : Nat) : Int))] ⟨rfl, rfl, trivial⟩ ?_
  have E : ModR w w lo hi := ModR.refl w lo hi
  refine S_seq ?_
  refine S_reg [true] rfl rfl ?_
  refine J_st (R_assign rfl) rfl (J_done ?_)
  refine S_seq ?_
  refine S_seq ?_
  refine S_reg [true] rfl rfl ?_
  refine J_st (R_assign rfl) rfl (J_done ?_)
  refine S_block ?_
  refine S_loop (fun (xq : Nat × Nat × List Record) => let ⟨i, q, bs⟩ := xq; [(0, vxs), (1, .int .i64 ((q : Nat) : Int)), (4, .int .i64 0), (5, .int .i64 ((i : Nat) : Int))]) (fun (xq : Nat × Nat × List Record) w' => let ⟨i, q, bs⟩ := xq; ModR w w' lo hi ∧ w.heap.size ≤ w'.heap.size ∧ i + bs.length = xs.length ∧ q = k + 5 * i ∧ Own w' lo hi 5 vxs (List.flatMap (Enc.enc (α := Record)) (mkL 5 mkRecord k i ++ bs))) (fun (xq : Nat × Nat × List Record) => let ⟨i, q, bs⟩ := xq; xs.length - i) (0, k, xs) ⟨rfl, rfl, rfl, rfl, trivial⟩ ⟨E, Nat.le_refl _, (by simp), (by simp), (by simpa [mkL] using hxs)⟩ ?_
  clear E hxs
  rintro ⟨i, q, bs⟩ w1 ⟨E, z1, hi, hq, hxs⟩
  refine S_sub [(0, vxs), (1, .int .i64 ((q : Nat) : Int)), (4, .int .i64 0), (5, .int .i64 ((i : Nat) : Int))] ⟨rfl, rfl, rfl, rfl, trivial⟩ ?_
  refine S_seq ?_
  refine S_seq ?_
  refine S_reg [true, true, true, true] rfl rfl ?_
  refine J_st (R_move rfl) rfl (J_st (R_move rfl) rfl (J_st (R_len Try.underlying40 rfl (Own.lenE (by decide) hxs (by simp only [List.length_append, mkL_length, List.length_cons]; omega))) rfl (J_st (R_lss rfl rfl) rfl (J_done ?_))))
  refine S_cond rfl (fun hc1 => ?_) (fun hc1 => ?_)
  · rcases bs with _ | ⟨x, bs⟩
    · exact absurd hi (by have h := hc1; simp at h ⊢; omega)
    simp only [List.length_cons] at hi
    have hc1n : i < xs.length := by first | (have h := of_decide_eq_true hc1; omega) | (have h := hc1; simp at h; omega)
    refine S_skip ?_
    refine S_seq ?_
    refine S_block ?_
    refine S_seq ?_
    refine S_reg [true, true, true, true, true, false] rfl rfl ?_
    refine J_st (R_move rfl) rfl (J_st (R_move rfl) rfl (J_st (R_move rfl) rfl (J_st (R_index sl40 rfl rfl (Own.rd (by decide) hxs) (by simp only [List.length_append, mkL_length, List.length_cons]; omega)) rfl (J_st (R_fieldAddr fl55_0 rfl) rfl ?_))))
    refine J_storeOwn (α := Record) (i := i) (f := 0) (⟨((q : Nat) : Int), x.stamp, x.key, x.val⟩ : Record) sc3 rfl rfl rfl rfl hxs (mkL_length _ _ _ _) (by decide) rfl (fun w2 m1 hxs' => ?_)
    have hq := hxs.blk
    replace hxs := hxs'
    replace E := E.mod m1 (fun g hg => by have := hq g hg; omega)
    have z2 := m1.size
    clear hq
    refine J_done ?_
    refine S_seq ?_
    refine S_reg [true, true, true] rfl rfl ?_
    refine J_st (R_move rfl) rfl (J_st (R_add rfl rfl (add_nat (by unfold maxLen; omega))) rfl (J_st (R_assign rfl) rfl (J_done ?_)))
    refine S_seq ?_
    refine S_reg [true, true, true, true, true, true, false] rfl rfl ?_
    refine J_st (R_move rfl) rfl (J_st (R_move rfl) rfl (J_st (R_move rfl) rfl (J_st (R_index sl40 rfl rfl (Own.rd (by decide) hxs) (by simp only [List.length_append, mkL_length, List.length_cons]; omega)) rfl (J_st (R_fieldAddr fl55_1 rfl) rfl (J_st (R_fieldAddr fl53_0 rfl) rfl ?_)))))
    refine J_storeOwn (α := Record) (i := i) (f := 1) (⟨((q : Nat) : Int), (⟨((q + 1 : Nat) : Int), x.stamp.turn⟩ : Stamp), x.key, x.val⟩ : Record) sc3 rfl rfl rfl rfl hxs (mkL_length _ _ _ _) (by decide) rfl (fun w3 m2 hxs' => ?_)
    have hq := hxs.blk
    replace hxs := hxs'
    replace E := E.mod m2 (fun g hg => by have := hq g hg; omega)
    have z3 := m2.size
    clear hq
    refine J_done ?_
    refine S_seq ?_
    refine S_reg [true, true, true] rfl rfl ?_
    refine J_st (R_move rfl) rfl (J_st (R_add rfl rfl (add_nat (by unfold maxLen; omega))) rfl (J_st (R_assign rfl) rfl (J_done ?_)))
    refine S_seq ?_
    refine S_reg [true, true, true, true, true, true, false] rfl rfl ?_
    refine J_st (R_move rfl) rfl (J_st (R_move rfl) rfl (J_st (R_move rfl) rfl (J_st (R_index sl40 rfl rfl (Own.rd (by decide) hxs) (by simp only [List.length_append, mkL_length, List.length_cons]; omega)) rfl (J_st (R_fieldAddr fl55_1 rfl) rfl (J_st (R_fieldAddr fl53_1 rfl) rfl ?_)))))
    refine J_storeOwn (α := Record) (i := i) (f := 2) (⟨((q : Nat) : Int), (⟨((q + 1 : Nat) : Int), ((q + 1 + 1 : Nat) : Int)⟩ : Stamp), x.key, x.val⟩ : Record) sc3 rfl rfl rfl rfl hxs (mkL_length _ _ _ _) (by decide) rfl (fun w4 m3 hxs' => ?_)
    have hq := hxs.blk
    replace hxs := hxs'
    replace E := E.mod m3 (fun g hg => by have := hq g hg; omega)
    have z4 := m3.size
    clear hq
    refine J_done ?_
    refine S_seq ?_
    refine S_reg [true, true, true] rfl rfl ?_
    refine J_st (R_move rfl) rfl (J_st (R_add rfl rfl (add_nat (by unfold maxLen; omega))) rfl (J_st (R_assign rfl) rfl (J_done ?_)))
    refine S_seq ?_
    refine S_reg [true, true, true, true, true, false] rfl rfl ?_
    refine J_st (R_move rfl) rfl (J_st (R_move rfl) rfl (J_st (R_move rfl) rfl (J_st (R_index sl40 rfl rfl (Own.rd (by decide) hxs) (by simp only [List.length_append, mkL_length, List.length_cons]; omega)) rfl (J_st (R_fieldAddr fl55_2 rfl) rfl ?_))))
    refine J_storeOwn (α := Record) (i := i) (f := 3) (⟨((q : Nat) : Int), (⟨((q + 1 : Nat) : Int), ((q + 1 + 1 : Nat) : Int)⟩ : Stamp), ((q + 1 + 1 + 1 : Nat) : Int), x.val⟩ : Record) sc3 rfl rfl rfl rfl hxs (mkL_length _ _ _ _) (by decide) rfl (fun w5 m4 hxs' => ?_)
    have hq := hxs.blk
    replace hxs := hxs'
    replace E := E.mod m4 (fun g hg => by have := hq g hg; omega)
    have z5 := m4.size
    clear hq
    refine J_done ?_
    refine S_seq ?_
    refine S_reg [true, true, true] rfl rfl ?_
    refine J_st (R_move rfl) rfl (J_st (R_add rfl rfl (add_nat (by unfold maxLen; omega))) rfl (J_st (R_assign rfl) rfl (J_done ?_)))
    refine S_seq ?_
    refine S_reg [true, true, true, true, true, false] rfl rfl ?_
    refine J_st (R_move rfl) rfl (J_st (R_move rfl) rfl (J_st (R_move rfl) rfl (J_st (R_index sl40 rfl rfl (Own.rd (by decide) hxs) (by simp only [List.length_append, mkL_length, List.length_cons]; omega)) rfl (J_st (R_fieldAddr fl55_3 rfl) rfl ?_))))
    refine J_storeOwn (α := Record) (i := i) (f := 4) (⟨((q : Nat) : Int), (⟨((q + 1 : Nat) : Int), ((q + 1 + 1 : Nat) : Int)⟩ : Stamp), ((q + 1 + 1 + 1 : Nat) : Int), ((q + 1 + 1 + 1 + 1 : Nat) : Int)⟩ : Record) sc3 rfl rfl rfl rfl hxs (mkL_length _ _ _ _) (by decide) rfl (fun w6 m5 hxs' => ?_)
    have hq := hxs.blk
    replace hxs := hxs'
    replace E := E.mod m5 (fun g hg => by have := hq g hg; omega)
    have z6 := m5.size
    clear hq
    refine J_done ?_
    refine S_reg [true, true, true] rfl rfl ?_
    refine J_st (R_move rfl) rfl (J_st (R_add rfl rfl (add_nat (by unfold maxLen; omega))) rfl (J_st (R_assign rfl) rfl (J_done ?_)))
    refine S_nil (E_inB ?_)
    refine S_reg [true, true, true] rfl rfl ?_
    refine J_st (R_move rfl) rfl (J_st (R_add rfl rfl (add_nat (by unfold maxLen; omega))) rfl (J_st (R_assign rfl) rfl (J_done ?_)))
    refine S_nil (E_again (i + 1, q + 1 + 1 + 1 + 1 + 1, bs) (by simp; omega) ⟨rfl, rfl, rfl, rfl, trivial⟩ ⟨E, (by omega), (by omega), (by omega), (by subst hq; rw [← mkL_succ]; exact hxs)⟩)
  · have hc1n : ¬ i < xs.length := by first | (have h := of_decide_eq_false hc1; omega) | (have h := hc1; simp at h; omega)
    refine S_exit (E_lp_exit (E_inB_exit ?_))
    refine S_seq ?_
    refine S_reg [true, true] rfl rfl ?_
    refine J_st (R_move rfl) rfl (J_st (R_assign rfl) rfl (J_done ?_))
    refine S_ret (E_done1 rfl rfl E ?_)
    exact ⟨by subst hq; rw [show i = xs.length from by omega], by obtain rfl : bs = [] := List.eq_nil_of_length_eq_zero (by omega); rw [show xs.length = i from by simp at hi; omega]; simpa using hxs⟩

set_option maxRecDepth 20000 in
theorem heldRecordS (vxs : Value) (xs : List Record) (k : Nat) (w : World) (hxs : RdS w vxs xs) (hm : xs = mkL 5 mkRecord k xs.length) (hb : k + xs.length * 5 ≤ 1099511627776) : Ct Try.prog 75 [vxs, .int .i64 ((k : Nat) : Int)] w (fun v _ => v = .int .i64 ((k + 5 * xs.length : Nat) : Int)) := by
  refine ct_of Try.func75 rfl Try.ntmps75 rfl ?_
  refine S_sub [(0, vxs), (1, .int .i64 ((k : Nat) : Int))] ⟨rfl, rfl, trivial⟩ ?_
  have E : Ext w w := Ext.refl w
  refine S_seq ?_
  refine S_reg [true] rfl rfl ?_
  refine J_st (R_assign rfl) rfl (J_done ?_)
  refine S_seq ?_
  refine S_seq ?_
  refine S_reg [true] rfl rfl ?_
  refine J_st (R_assign rfl) rfl (J_done ?_)
  refine S_block ?_
  refine S_loop (fun (xq : Nat × Nat) => let ⟨i, q⟩ := xq; [(0, vxs), (1, .int .i64 ((q : Nat) : Int)), (4, .int .i64 0), (5, .int .i64 ((i : Nat) : Int))]) (fun (xq : Nat × Nat) w' => let ⟨i, q⟩ := xq; Ext w w' ∧ w.heap.size ≤ w'.heap.size ∧ i ≤ xs.length ∧ q = k + 5 * i) (fun (xq : Nat × Nat) => let ⟨i, q⟩ := xq; xs.length - i) (0, k) ⟨rfl, rfl, rfl, rfl, trivial⟩ ⟨E, Nat.le_refl _, Nat.zero_le _, (by simp)⟩ ?_
  clear E
  rintro ⟨i, q⟩ w1 ⟨E, z1, hi, hq⟩
  refine S_sub [(0, vxs), (1, .int .i64 ((q : Nat) : Int)), (4, .int .i64 0), (5, .int .i64 ((i : Nat) : Int))] ⟨rfl, rfl, rfl, rfl, trivial⟩ ?_
  refine S_seq ?_
  refine S_seq ?_
  refine S_reg [true, true, true, true] rfl rfl ?_
  refine J_st (R_move rfl) rfl (J_st (R_move rfl) rfl (J_st (R_len Try.underlying40 rfl (hxs.ext E).len) rfl (J_st (R_lss rfl rfl) rfl (J_done ?_))))
  refine S_cond rfl (fun hc1 => ?_) (fun hc1 => ?_)
  · have hc1n : i < xs.length := by first | (have h := of_decide_eq_true hc1; omega) | (have h := hc1; simp at h; omega)
    refine S_skip ?_
    refine S_seq ?_
    refine S_block ?_
    refine S_seq ?_
    refine S_seq ?_
    refine S_reg [true, true, true, true, true, true, true] rfl rfl ?_
    refine J_st (R_move rfl) rfl (J_st (R_move rfl) rfl ?_)
    have hi1 : i < xs.length := (by first | assumption | omega | (simp only [List.length_set]; first | assumption | omega) | (simp only [List.getElem_set_self, List.length_set]; first | assumption | omega) | (simp only [setW, setLk, List.length_set]; first | assumption | omega))
    refine J_st (R_index (i := i) sl40 rfl rfl (hxs.ext E) hi1) rfl (J_st (R_fieldAddr fl55_0 rfl) rfl (J_st (R_load sc3 rfl (((hxs.ext E).get hi1).one 0 rfl)) rfl (J_st (R_move rfl) rfl (J_st (R_neq rfl rfl) rfl (J_done ?_)))))
    refine S_condFe rfl (by subst hq; rw [mkL_at hm (by omega)]; simp [mkRecord]) ?_
    refine S_skip ?_
    refine S_seq ?_
    refine S_reg [true, true, true] rfl rfl ?_
    refine J_st (R_move rfl) rfl (J_st (R_add rfl rfl (add_nat (by unfold maxLen; omega))) rfl (J_st (R_assign rfl) rfl (J_done ?_)))
    refine S_seq ?_
    refine S_seq ?_
    refine S_reg [true, true, true, true, true, true, true, true] rfl rfl ?_
    refine J_st (R_move rfl) rfl (J_st (R_move rfl) rfl (J_st (R_index (i := i) sl40 rfl rfl (hxs.ext E) hi1) rfl (J_st (R_fieldAddr fl55_1 rfl) rfl (J_st (R_fieldAddr fl53_0 rfl) rfl (J_st (R_load sc3 rfl (((hxs.ext E).get hi1).one 1 rfl)) rfl (J_st (R_move rfl) rfl (J_st (R_neq rfl rfl) rfl (J_done ?_))))))))
    refine S_condFe rfl (by subst hq; rw [mkL_at hm (by omega)]; simp [mkRecord]) ?_
    refine S_skip ?_
    refine S_seq ?_
    refine S_reg [true, true, true] rfl rfl ?_
    refine J_st (R_move rfl) rfl (J_st (R_add rfl rfl (add_nat (by unfold maxLen; omega))) rfl (J_st (R_assign rfl) rfl (J_done ?_)))
    refine S_seq ?_
    refine S_seq ?_
    refine S_reg [true, true, true, true, true, true, true, true] rfl rfl ?_
    refine J_st (R_move rfl) rfl (J_st (R_move rfl) rfl (J_st (R_index (i := i) sl40 rfl rfl (hxs.ext E) hi1) rfl (J_st (R_fieldAddr fl55_1 rfl) rfl (J_st (R_fieldAddr fl53_1 rfl) rfl (J_st (R_load sc3 rfl (((hxs.ext E).get hi1).one 2 rfl)) rfl (J_st (R_move rfl) rfl (J_st (R_neq rfl rfl) rfl (J_done ?_))))))))
    refine S_condFe rfl (by subst hq; rw [mkL_at hm (by omega)]; simp [mkRecord]) ?_
    refine S_skip ?_
    refine S_seq ?_
    refine S_reg [true, true, true] rfl rfl ?_
    refine J_st (R_move rfl) rfl (J_st (R_add rfl rfl (add_nat (by unfold maxLen; omega))) rfl (J_st (R_assign rfl) rfl (J_done ?_)))
    refine S_seq ?_
    refine S_seq ?_
    refine S_reg [true, true, true, true, true, true, true] rfl rfl ?_
    refine J_st (R_move rfl) rfl (J_st (R_move rfl) rfl (J_st (R_index (i := i) sl40 rfl rfl (hxs.ext E) hi1) rfl (J_st (R_fieldAddr fl55_2 rfl) rfl (J_st (R_load sc3 rfl (((hxs.ext E).get hi1).one 3 rfl)) rfl (J_st (R_move rfl) rfl (J_st (R_neq rfl rfl) rfl (J_done ?_)))))))
    refine S_condFe rfl (by subst hq; rw [mkL_at hm (by omega)]; simp [mkRecord]) ?_
    refine S_skip ?_
    refine S_seq ?_
    refine S_reg [true, true, true] rfl rfl ?_
    refine J_st (R_move rfl) rfl (J_st (R_add rfl rfl (add_nat (by unfold maxLen; omega))) rfl (J_st (R_assign rfl) rfl (J_done ?_)))
    refine S_seq ?_
    refine S_seq ?_
    refine S_reg [true, true, true, true, true, true, true] rfl rfl ?_
    refine J_st (R_move rfl) rfl (J_st (R_move rfl) rfl (J_st (R_index (i := i) sl40 rfl rfl (hxs.ext E) hi1) rfl (J_st (R_fieldAddr fl55_3 rfl) rfl (J_st (R_load sc3 rfl (((hxs.ext E).get hi1).one 4 rfl)) rfl (J_st (R_move rfl) rfl (J_st (R_neq rfl rfl) rfl (J_done ?_)))))))
    refine S_condFe rfl (by subst hq; rw [mkL_at hm (by omega)]; simp [mkRecord]) ?_
    refine S_skip ?_
    refine S_reg [true, true, true] rfl rfl ?_
    refine J_st (R_move rfl) rfl (J_st (R_add rfl rfl (add_nat (by unfold maxLen; omega))) rfl (J_st (R_assign rfl) rfl (J_done ?_)))
    refine S_nil (E_inB ?_)
    refine S_reg [true, true, true] rfl rfl ?_
    refine J_st (R_move rfl) rfl (J_st (R_add rfl rfl (add_nat (by unfold maxLen; omega))) rfl (J_st (R_assign rfl) rfl (J_done ?_)))
    refine S_nil (E_again (i + 1, q + 1 + 1 + 1 + 1 + 1) (by simp; omega) ⟨rfl, rfl, rfl, rfl, trivial⟩ ⟨E, (by omega), (by omega), (by omega)⟩)
  · have hc1n : ¬ i < xs.length := by first | (have h := of_decide_eq_false hc1; omega) | (have h := hc1; simp at h; omega)
    refine S_exit (E_lp_exit (E_inB_exit ?_))
    refine S_seq ?_
    refine S_reg [true, true] rfl rfl ?_
    refine J_st (R_move rfl) rfl (J_st (R_assign rfl) rfl (J_done ?_))
    refine S_ret (E_done1 rfl rfl E ?_)
    subst hq; rw [show i = xs.length from by omega]

set_option maxRecDepth 20000 in
theorem markIntS (vxs : Value) (lo hi : Nat) (xs : List Int) (k : Nat) (w : World) (hxs : Own w lo hi 1 vxs (List.flatMap (Enc.enc (α := Int)) xs)) (hb : k + xs.length * 1 ≤ 1099511627776) : CtR Try.prog 70 [vxs, .int .i64 ((k : Nat) : Int)] w lo hi (fun v w' => v = .int .i64 ((k + 1 * xs.length : Nat) : Int) ∧ Own w' lo hi 1 vxs (List.flatMap (Enc.enc (α := Int)) (mkL 1 mkInt k xs.length))) := by
  refine ctR_of Try.func70 rfl Try.ntmps70 rfl ?_
  refine S_sub [(0, vxs), (1, .int .i64 ((k : Nat) : Int))] ⟨rfl, rfl, trivial⟩ ?_
  have E : ModR w w lo hi := ModR.refl w lo hi
  refine S_seq ?_
  refine S_reg [true] rfl rfl ?_
  refine J_st (R_assign rfl) rfl (J_done ?_)
  refine S_seq ?_
  refine S_seq ?_
  refine S_reg [true] rfl rfl ?_
  refine J_st (R_assign rfl) rfl (J_done ?_)
  refine S_block ?_
  refine S_loop (fun (xq : Nat × Nat × List Int) => let ⟨i, q, bs⟩ := xq; [(0, vxs), (1, .int .i64 ((q : Nat) : Int)), (4, .int .i64 0), (5, .int .i64 ((i : Nat) : Int))]) (fun (xq : Nat × Nat × List Int) w' => let ⟨i, q, bs⟩ := xq; ModR w w' lo hi ∧ w.heap.size ≤ w'.heap.size ∧ i + bs.length = xs.length ∧ q = k + 1 * i ∧ Own w' lo hi 1 vxs (List.flatMap (Enc.enc (α := Int)) (mkL 1 mkInt k i ++ bs))) (fun (xq : Nat × Nat × List Int) => let ⟨i, q, bs⟩ := xq; xs.length - i) (0, k, xs) ⟨rfl, rfl, rfl, rfl, trivial⟩ ⟨E, Nat.le_refl _, (by simp), (by simp), (by simpa [mkL] using hxs)⟩ ?_
  clear E hxs
  rintro ⟨i, q, bs⟩ w1 ⟨E, z1, hi, hq, hxs⟩
  refine S_sub [(0, vxs), (1, .int .i64 ((q : Nat) : Int)), (4, .int .i64 0), (5, .int .i64 ((i : Nat) : Int))] ⟨rfl, rfl, rfl, rfl, trivial⟩ ?_
  refine S_seq ?_
  refine S_seq ?_
  refine S_reg [true, true, true, true] rfl rfl ?_
  refine J_st (R_move rfl) rfl (J_st (R_move rfl) rfl (J_st (R_len Try.underlying58 rfl (Own.lenE (by decide) hxs (by simp only [List.length_append, mkL_length, List.length_cons]; omega))) rfl (J_st (R_lss rfl rfl) rfl (J_done ?_))))
  refine S_cond rfl (fun hc1 => ?_) (fun hc1 => ?_)
  · rcases bs with _ | ⟨x, bs⟩
    · exact absurd hi (by have h := hc1; simp at h ⊢; omega)
    simp only [List.length_cons] at hi
    have hc1n : i < xs.length := by first | (have h := of_decide_eq_true hc1; omega) | (have h := hc1; simp at h; omega)
    refine S_skip ?_
    refine S_seq ?_
    refine S_block ?_
    refine S_seq ?_
    refine S_reg [true, true, true, true, false] rfl rfl ?_
    refine J_st (R_move rfl) rfl (J_st (R_move rfl) rfl (J_st (R_move rfl) rfl (J_st (R_index sl58 rfl rfl (Own.rd (by decide) hxs) (by simp only [List.length_append, mkL_length, List.length_cons]; omega)) rfl ?_)))
    refine J_storeOwn (α := Int) (i := i) (f := 0) ((q : Nat) : Int) sc3 rfl rfl rfl rfl hxs (mkL_length _ _ _ _) (by decide) rfl (fun w2 m1 hxs' => ?_)
    have hq := hxs.blk
    replace hxs := hxs'
    replace E := E.mod m1 (fun g hg => by have := hq g hg; omega)
    have z2 := m1.size
    clear hq
    refine J_done ?_
    refine S_reg [true, true, true] rfl rfl ?_
    refine J_st (R_move rfl) rfl (J_st (R_add rfl rfl (add_nat (by unfold maxLen; omega))) rfl (J_st (R_assign rfl) rfl (J_done ?_)))
    refine S_nil (E_inB ?_)
    refine S_reg [true, true, true] rfl rfl ?_
    refine J_st (R_move rfl) rfl (J_st (R_add rfl rfl (add_nat (by unfold maxLen; omega))) rfl (J_st (R_assign rfl) rfl (J_done ?_)))
    refine S_nil (E_again (i + 1, q + 1, bs) (by simp; omega) ⟨rfl, rfl, rfl, rfl, trivial⟩ ⟨E, (by omega), (by omega), (by omega), (by subst hq; rw [← mkL_succ]; exact hxs)⟩)
  · have hc1n : ¬ i < xs.length := by first | (have h := of_decide_eq_false hc1; omega) | (have h := hc1; simp at h; omega)
    refine S_exit (E_lp_exit (E_inB_exit ?_))
    refine S_seq ?_
    refine S_reg [true, true] rfl rfl ?_
    refine J_st (R_move rfl) rfl (J_st (R_assign rfl) rfl (J_done ?_))
    refine S_ret (E_done1 rfl rfl E ?_)
    exact ⟨by subst hq; rw [show i = xs.length from by omega], by obtain rfl : bs = [] := List.eq_nil_of_length_eq_zero (by omega); rw [show xs.length = i from by simp at hi; omega]; simpa using hxs⟩

set_option maxRecDepth 20000 in
theorem heldIntS (vxs : Value) (xs : List Int) (k : Nat) (w : World) (hxs : RdS w vxs xs) (hm : xs = mkL 1 mkInt k xs.length) (hb : k + xs.length * 1 ≤ 1099511627776) : Ct Try.prog 77 [vxs, .int .i64 ((k : Nat) : Int)] w (fun v _ => v = .int .i64 ((k + 1 * xs.length : Nat) : Int)) := by
  refine ct_of Try.func77 rfl Try.ntmps77 rfl ?_
  refine S_sub [(0, vxs), (1, .int .i64 ((k : Nat) : Int))] ⟨rfl, rfl, trivial⟩ ?_
  have E : Ext w w := Ext.refl w
  refine S_seq ?_
  refine S_reg [true] rfl rfl ?_
  refine J_st (R_assign rfl) rfl (J_done ?_)
  refine S_seq ?_
  refine S_seq ?_
  refine S_reg [true] rfl rfl ?_
  refine J_st (R_assign rfl) rfl (J_done ?_)
  refine S_block ?_
  refine S_loop (fun (xq : Nat × Nat) => let ⟨i, q⟩ := xq; [(0, vxs), (1, .int .i64 ((q : Nat) : Int)), (4, .int .i64 0), (5, .int .i64 ((i : Nat) : Int))]) (fun (xq : Nat × Nat) w' => let ⟨i, q⟩ := xq; Ext w w' ∧ w.heap.size ≤ w'.heap.size ∧ i ≤ xs.length ∧ q = k + 1 * i) (fun (xq : Nat × Nat) => let ⟨i, q⟩ := xq; xs.length - i) (0, k) ⟨rfl, rfl, rfl, rfl, trivial⟩ ⟨E, Nat.le_refl _, Nat.zero_le _, (by simp)⟩ ?_
  clear E
  rintro ⟨i, q⟩ w1 ⟨E, z1, hi, hq⟩
  refine S_sub [(0, vxs), (1, .int .i64 ((q : Nat) : Int)), (4, .int .i64 0), (5, .int .i64 ((i : Nat) : Int))] ⟨rfl, rfl, rfl, rfl, trivial⟩ ?_
  refine S_seq ?_
  refine S_seq ?_
  refine S_reg [true, true, true, true] rfl rfl ?_
  refine J_st (R_move rfl) rfl (J_st (R_move rfl) rfl (J_st (R_len Try.underlying58 rfl (hxs.ext E).len) rfl (J_st (R_lss rfl rfl) rfl (J_done ?_))))
  refine S_cond rfl (fun hc1 => ?_) (fun hc1 => ?_)
  · have hc1n : i < xs.length := by first | (have h := of_decide_eq_true hc1; omega) | (have h := hc1; simp at h; omega)
    refine S_skip ?_
    refine S_seq ?_
    refine S_block ?_
    refine S_seq ?_
    refine S_seq ?_
    refine S_reg [true, true, true, true, true, true] rfl rfl ?_
    refine J_st (R_move rfl) rfl (J_st (R_move rfl) rfl ?_)
    have hi1 : i < xs.length := (by first | assumption | omega | (simp only [List.length_set]; first | assumption | omega) | (simp only [List.getElem_set_self, List.length_set]; first | assumption | omega) | (simp only [setW, setLk, List.length_set]; first | assumption | omega))
    refine J_st (R_index (i := i) sl58 rfl rfl (hxs.ext E) hi1) rfl (J_st (R_load sc3 rfl (((hxs.ext E).get hi1).one 0 rfl)) rfl (J_st (R_move rfl) rfl (J_st (R_neq rfl rfl) rfl (J_done ?_))))
    refine S_condFe rfl (by subst hq; rw [mkL_at hm (by omega)]; simp [mkInt]) ?_
    refine S_skip ?_
    refine S_reg [true, true, true] rfl rfl ?_
    refine J_st (R_move rfl) rfl (J_st (R_add rfl rfl (add_nat (by unfold maxLen; omega))) rfl (J_st (R_assign rfl) rfl (J_done ?_)))
    refine S_nil (E_inB ?_)
    refine S_reg [true, true, true] rfl rfl ?_
    refine J_st (R_move rfl) rfl (J_st (R_add rfl rfl (add_nat (by unfold maxLen; omega))) rfl (J_st (R_assign rfl) rfl (J_done ?_)))
    refine S_nil (E_again (i + 1, q + 1) (by simp; omega) ⟨rfl, rfl, rfl, rfl, trivial⟩ ⟨E, (by omega), (by omega), (by omega)⟩)
  · have hc1n : ¬ i < xs.length := by first | (have h := of_decide_eq_false hc1; omega) | (have h := hc1; simp at h; omega)
    refine S_exit (E_lp_exit (E_inB_exit ?_))
    refine S_seq ?_
    refine S_reg [true, true] rfl rfl ?_
    refine J_st (R_move rfl) rfl (J_st (R_assign rfl) rfl (J_done ?_))
    refine S_ret (E_done1 rfl rfl E ?_)
    subst hq; rw [show i = xs.length from by omega]

set_option maxRecDepth 20000 in
theorem markBoolS (vxs : Value) (lo hi : Nat) (xs : List Bool) (k : Nat) (w : World) (hxs : Own w lo hi 1 vxs (List.flatMap (Enc.enc (α := Bool)) xs)) (hb : k + xs.length * 1 ≤ 1099511627776) : CtR Try.prog 72 [vxs, .int .i64 ((k : Nat) : Int)] w lo hi (fun v w' => v = .int .i64 ((k + 1 * xs.length : Nat) : Int) ∧ Own w' lo hi 1 vxs (List.flatMap (Enc.enc (α := Bool)) (mkL 1 mkBool k xs.length))) := by
  refine ctR_of Try.func72 rfl Try.ntmps72 rfl ?_
  refine S_sub [(0, vxs), (1, .int .i64 ((k : Nat) : Int))] ⟨rfl, rfl, trivial⟩ ?_
  have E : ModR w w lo hi := ModR.refl w lo hi
  refine S_seq ?_
  refine S_reg [true] rfl rfl ?_
  refine J_st (R_assign rfl) rfl (J_done ?_)
  refine S_seq ?_
  refine S_seq ?_
  refine S_reg [true] rfl rfl ?_
  refine J_st (R_assign rfl) rfl (J_done ?_)
  refine S_block ?_
  refine S_loop (fun (xq : Nat × Nat × List Bool) => let ⟨i, q, bs⟩ := xq; [(0, vxs), (1, .int .i64 ((q : Nat) : Int)), (4, .int .i64 0), (5, .int .i64 ((i : Nat) : Int))]) (fun (xq : Nat × Nat × List Bool) w' => let ⟨i, q, bs⟩ := xq; ModR w w' lo hi ∧ w.heap.size ≤ w'.heap.size ∧ i + bs.length = xs.length ∧ q = k + 1 * i ∧ Own w' lo hi 1 vxs (List.flatMap (Enc.enc (α := Bool)) (mkL 1 mkBool k i ++ bs))) (fun (xq : Nat × Nat × List Bool) => let ⟨i, q, bs⟩ := xq; xs.length - i) (0, k, xs) ⟨rfl, rfl, rfl, rfl, trivial⟩ ⟨E, Nat.le_refl _, (by simp), (by simp), (by simpa [mkL] using hxs)⟩ ?_
  clear E hxs
  rintro ⟨i, q, bs⟩ w1 ⟨E, z1, hi, hq, hxs⟩
  refine S_sub [(0, vxs), (1, .int .i64 ((q : Nat) : Int)), (4, .int .i64 0), (5, .int .i64 ((i : Nat) : Int))] ⟨rfl, rfl, rfl, rfl, trivial⟩ ?_
  refine S_seq ?_
  refine S_seq ?_
  refine S_reg [true, true, true, true] rfl rfl ?_
  refine J_st (R_move rfl) rfl (J_st (R_move rfl) rfl (J_st (R_len Try.underlying59 rfl (Own.lenE (by decide) hxs (by simp only [List.length_append, mkL_length, List.length_cons]; omega))) rfl (J_st (R_lss rfl rfl) rfl (J_done ?_))))
  refine S_cond rfl (fun hc1 => ?_) (fun hc1 => ?_)
  · rcases bs with _ | ⟨x, bs⟩
    · exact absurd hi (by have h := hc1; simp at h ⊢; omega)
    simp only [List.length_cons] at hi
    have hc1n : i < xs.length := by first | (have h := of_decide_eq_true hc1; omega) | (have h := hc1; simp at h; omega)
    refine S_skip ?_
    refine S_seq ?_
    refine S_block ?_
    refine S_seq ?_
    refine S_reg [true, true, true, true, true, true, false] rfl rfl ?_
    refine J_st (R_move rfl) rfl (J_st (R_move rfl) rfl (J_st (R_move rfl) rfl (J_st (R_rem rfl rfl (by decide) rfl) rfl (J_st (R_eql rfl rfl) rfl (J_st (R_index sl59 rfl rfl (Own.rd (by decide) hxs) (by simp only [List.length_append, mkL_length, List.length_cons]; omega)) rfl ?_)))))
    refine J_storeOwn (α := Bool) (i := i) (f := 0) ((Int.tmod ((q : Nat) : Int) 3) == 0) sc4 rfl rfl rfl rfl hxs (mkL_length _ _ _ _) (by decide) rfl (fun w2 m1 hxs' => ?_)
    have hq := hxs.blk
    replace hxs := hxs'
    replace E := E.mod m1 (fun g hg => by have := hq g hg; omega)
    have z2 := m1.size
    clear hq
    refine J_done ?_
    refine S_reg [true, true, true] rfl rfl ?_
    refine J_st (R_move rfl) rfl (J_st (R_add rfl rfl (add_nat (by unfold maxLen; omega))) rfl (J_st (R_assign rfl) rfl (J_done ?_)))
    refine S_nil (E_inB ?_)
    refine S_reg [true, true, true] rfl rfl ?_
    refine J_st (R_move rfl) rfl (J_st (R_add rfl rfl (add_nat (by unfold maxLen; omega))) rfl (J_st (R_assign rfl) rfl (J_done ?_)))
    refine S_nil (E_again (i + 1, q + 1, bs) (by simp; omega) ⟨rfl, rfl, rfl, rfl, trivial⟩ ⟨E, (by omega), (by omega), (by omega), (by subst hq; rw [← mkL_succ]; exact hxs)⟩)
  · have hc1n : ¬ i < xs.length := by first | (have h := of_decide_eq_false hc1; omega) | (have h := hc1; simp at h; omega)
    refine S_exit (E_lp_exit (E_inB_exit ?_))
    refine S_seq ?_
    refine S_reg [true, true] rfl rfl ?_
    refine J_st (R_move rfl) rfl (J_st (R_assign rfl) rfl (J_done ?_))
    refine S_ret (E_done1 rfl rfl E ?_)
    exact ⟨by subst hq; rw [show i = xs.length from by omega], by obtain rfl : bs = [] := List.eq_nil_of_length_eq_zero (by omega); rw [show xs.length = i from by simp at hi; omega]; simpa using hxs⟩

set_option maxRecDepth 20000 in
theorem heldBoolS (vxs : Value) (xs : List Bool) (k : Nat) (w : World) (hxs : RdS w vxs xs) (hm : xs = mkL 1 mkBool k xs.length) (hb : k + xs.length * 1 ≤ 1099511627776) : Ct Try.prog 78 [vxs, .int .i64 ((k : Nat) : Int)] w (fun v _ => v = .int .i64 ((k + 1 * xs.length : Nat) : Int)) := by
  refine ct_of Try.func78 rfl Try.ntmps78 rfl ?_
  refine S_sub [(0, vxs), (1, .int .i64 ((k : Nat) : Int))] ⟨rfl, rfl, trivial⟩ ?_
  have E : Ext w w := Ext.refl w
  refine S_seq ?_
  refine S_reg [true] rfl rfl ?_
  refine J_st (R_assign rfl) rfl (J_done ?_)
  refine S_seq ?_
  refine S_seq ?_
  refine S_reg [true] rfl rfl ?_
  refine J_st (R_assign rfl) rfl (J_done ?_)
  refine S_block ?_
  refine S_loop (fun (xq : Nat × Nat) => let ⟨i, q⟩ := xq; [(0, vxs), (1, .int .i64 ((q : Nat) : Int)), (4, .int .i64 0), (5, .int .i64 ((i : Nat) : Int))]) (fun (xq : Nat × Nat) w' => let ⟨i, q⟩ := xq; Ext w w' ∧ w.heap.size ≤ w'.heap.size ∧ i ≤ xs.length ∧ q = k + 1 * i) (fun (xq : Nat × Nat) => let ⟨i, q⟩ := xq; xs.length - i) (0, k) ⟨rfl, rfl, rfl, rfl, trivial⟩ ⟨E, Nat.le_refl _, Nat.zero_le _, (by simp)⟩ ?_
  clear E
  rintro ⟨i, q⟩ w1 ⟨E, z1, hi, hq⟩
  refine S_sub [(0, vxs), (1, .int .i64 ((q : Nat) : Int)), (4, .int .i64 0), (5, .int .i64 ((i : Nat) : Int))] ⟨rfl, rfl, rfl, rfl, trivial⟩ ?_
  refine S_seq ?_
  refine S_seq ?_
  refine S_reg [true, true, true, true] rfl rfl ?_
  refine J_st (R_move rfl) rfl (J_st (R_move rfl) rfl (J_st (R_len Try.underlying59 rfl (hxs.ext E).len) rfl (J_st (R_lss rfl rfl) rfl (J_done ?_))))
  refine S_cond rfl (fun hc1 => ?_) (fun hc1 => ?_)
  · have hc1n : i < xs.length := by first | (have h := of_decide_eq_true hc1; omega) | (have h := hc1; simp at h; omega)
    refine S_skip ?_
    refine S_seq ?_
    refine S_block ?_
    refine S_seq ?_
    refine S_seq ?_
    refine S_reg [true, true, true, true, true, true, true, true] rfl rfl ?_
    refine J_st (R_move rfl) rfl (J_st (R_move rfl) rfl ?_)
    have hi1 : i < xs.length := (by first | assumption | omega | (simp only [List.length_set]; first | assumption | omega) | (simp only [List.getElem_set_self, List.length_set]; first | assumption | omega) | (simp only [setW, setLk, List.length_set]; first | assumption | omega))
    refine J_st (R_index (i := i) sl59 rfl rfl (hxs.ext E) hi1) rfl (J_st (R_load sc4 rfl (((hxs.ext E).get hi1).one 0 rfl)) rfl (J_st (R_move rfl) rfl (J_st (R_rem rfl rfl (by decide) rfl) rfl (J_st (R_eql rfl rfl) rfl (J_st (R_neqB (Try.underlying4) rfl rfl) rfl (J_done ?_))))))
    refine S_condFe rfl (by subst hq; rw [mkL_at hm (by omega)]; simp [mkBool]) ?_
    refine S_skip ?_
    refine S_reg [true, true, true] rfl rfl ?_
    refine J_st (R_move rfl) rfl (J_st (R_add rfl rfl (add_nat (by unfold maxLen; omega))) rfl (J_st (R_assign rfl) rfl (J_done ?_)))
    refine S_nil (E_inB ?_)
    refine S_reg [true, true, true] rfl rfl ?_
    refine J_st (R_move rfl) rfl (J_st (R_add rfl rfl (add_nat (by unfold maxLen; omega))) rfl (J_st (R_assign rfl) rfl (J_done ?_)))
    refine S_nil (E_again (i + 1, q + 1) (by simp; omega) ⟨rfl, rfl, rfl, rfl, trivial⟩ ⟨E, (by omega), (by omega), (by omega)⟩)
  · have hc1n : ¬ i < xs.length := by first | (have h := of_decide_eq_false hc1; omega) | (have h := hc1; simp at h; omega)
    refine S_exit (E_lp_exit (E_inB_exit ?_))
    refine S_seq ?_
    refine S_reg [true, true] rfl rfl ?_
    refine J_st (R_move rfl) rfl (J_st (R_assign rfl) rfl (J_done ?_))
    refine S_ret (E_done1 rfl rfl E ?_)
    subst hq; rw [show i = xs.length from by omega]

set_option maxRecDepth 20000 in
theorem markDoneS (vxs : Value) (lo hi : Nat) (xs : List Done) (k : Nat) (w : World) (hxs : Own w lo hi 2 vxs (List.flatMap (Enc.enc (α := Done)) xs)) (hb : k + xs.length * 2 ≤ 1099511627776) : CtR Try.prog 73 [vxs, .int .i64 ((k : Nat) : Int)] w lo hi (fun v w' => v = .int .i64 ((k + 2 * xs.length : Nat) : Int) ∧ Own w' lo hi 2 vxs (List.flatMap (Enc.enc (α := Done)) (mkL 2 mkDone k xs.length))) := by
  refine ctR_of Try.func73 rfl Try.ntmps73 rfl ?_
  refine S_sub [(0, vxs), (1, .int .i64 ((k : Nat) : Int))] ⟨rfl, rfl, trivial⟩ ?_
  have E : ModR w w lo hi := ModR.refl w lo hi
  refine S_seq ?_
  refine S_reg [true] rfl rfl ?_
  refine J_st (R_assign rfl) rfl (J_done ?_)
  refine S_seq ?_
  refine S_seq ?_
  refine S_reg [true] rfl rfl ?_
  refine J_st (R_assign rfl) rfl (J_done ?_)
  refine S_block ?_
  refine S_loop (fun (xq : Nat × Nat × List Done) => let ⟨i, q, bs⟩ := xq; [(0, vxs), (1, .int .i64 ((q : Nat) : Int)), (4, .int .i64 0), (5, .int .i64 ((i : Nat) : Int))]) (fun (xq : Nat × Nat × List Done) w' => let ⟨i, q, bs⟩ := xq; ModR w w' lo hi ∧ w.heap.size ≤ w'.heap.size ∧ i + bs.length = xs.length ∧ q = k + 2 * i ∧ Own w' lo hi 2 vxs (List.flatMap (Enc.enc (α := Done)) (mkL 2 mkDone k i ++ bs))) (fun (xq : Nat × Nat × List Done) => let ⟨i, q, bs⟩ := xq; xs.length - i) (0, k, xs) ⟨rfl, rfl, rfl, rfl, trivial⟩ ⟨E, Nat.le_refl _, (by simp), (by simp), (by simpa [mkL] using hxs)⟩ ?_
  clear E hxs
  rintro ⟨i, q, bs⟩ w1 ⟨E, z1, hi, hq, hxs⟩
  refine S_sub [(0, vxs), (1, .int .i64 ((q : Nat) : Int)), (4, .int .i64 0), (5, .int .i64 ((i : Nat) : Int))] ⟨rfl, rfl, rfl, rfl, trivial⟩ ?_
  refine S_seq ?_
  refine S_seq ?_
  refine S_reg [true, true, true, true] rfl rfl ?_
  refine J_st (R_move rfl) rfl (J_st (R_move rfl) rfl (J_st (R_len Try.underlying60 rfl (Own.lenE (by decide) hxs (by simp only [List.length_append, mkL_length, List.length_cons]; omega))) rfl (J_st (R_lss rfl rfl) rfl (J_done ?_))))
  refine S_cond rfl (fun hc1 => ?_) (fun hc1 => ?_)
  · rcases bs with _ | ⟨x, bs⟩
    · exact absurd hi (by have h := hc1; simp at h ⊢; omega)
    simp only [List.length_cons] at hi
    have hc1n : i < xs.length := by first | (have h := of_decide_eq_true hc1; omega) | (have h := hc1; simp at h; omega)
    refine S_skip ?_
    refine S_seq ?_
    refine S_block ?_
    refine S_seq ?_
    refine S_reg [true, true, true, true, true, false] rfl rfl ?_
    refine J_st (R_move rfl) rfl (J_st (R_move rfl) rfl (J_st (R_move rfl) rfl (J_st (R_index sl60 rfl rfl (Own.rd (by decide) hxs) (by simp only [List.length_append, mkL_length, List.length_cons]; omega)) rfl (J_st (R_fieldAddr fl121_0 rfl) rfl ?_))))
    refine J_storeOwn (α := Done) (i := i) (f := 0) (⟨((q : Nat) : Int), x.capped⟩ : Done) sc3 rfl rfl rfl rfl hxs (mkL_length _ _ _ _) (by decide) rfl (fun w2 m1 hxs' => ?_)
    have hq := hxs.blk
    replace hxs := hxs'
    replace E := E.mod m1 (fun g hg => by have := hq g hg; omega)
    have z2 := m1.size
    clear hq
    refine J_done ?_
    refine S_seq ?_
    refine S_reg [true, true, true] rfl rfl ?_
    refine J_st (R_move rfl) rfl (J_st (R_add rfl rfl (add_nat (by unfold maxLen; omega))) rfl (J_st (R_assign rfl) rfl (J_done ?_)))
    refine S_seq ?_
    refine S_reg [true, true, true, true, true, true, true, false] rfl rfl ?_
    refine J_st (R_move rfl) rfl (J_st (R_move rfl) rfl (J_st (R_move rfl) rfl (J_st (R_rem rfl rfl (by decide) rfl) rfl (J_st (R_eql rfl rfl) rfl (J_st (R_index sl60 rfl rfl (Own.rd (by decide) hxs) (by simp only [List.length_append, mkL_length, List.length_cons]; omega)) rfl (J_st (R_fieldAddr fl121_1 rfl) rfl ?_))))))
    refine J_storeOwn (α := Done) (i := i) (f := 1) (⟨((q : Nat) : Int), (Int.tmod ((q + 1 : Nat) : Int) 3) == 0⟩ : Done) sc4 rfl rfl rfl rfl hxs (mkL_length _ _ _ _) (by decide) rfl (fun w3 m2 hxs' => ?_)
    have hq := hxs.blk
    replace hxs := hxs'
    replace E := E.mod m2 (fun g hg => by have := hq g hg; omega)
    have z3 := m2.size
    clear hq
    refine J_done ?_
    refine S_reg [true, true, true] rfl rfl ?_
    refine J_st (R_move rfl) rfl (J_st (R_add rfl rfl (add_nat (by unfold maxLen; omega))) rfl (J_st (R_assign rfl) rfl (J_done ?_)))
    refine S_nil (E_inB ?_)
    refine S_reg [true, true, true] rfl rfl ?_
    refine J_st (R_move rfl) rfl (J_st (R_add rfl rfl (add_nat (by unfold maxLen; omega))) rfl (J_st (R_assign rfl) rfl (J_done ?_)))
    refine S_nil (E_again (i + 1, q + 1 + 1, bs) (by simp; omega) ⟨rfl, rfl, rfl, rfl, trivial⟩ ⟨E, (by omega), (by omega), (by omega), (by subst hq; rw [← mkL_succ]; exact hxs)⟩)
  · have hc1n : ¬ i < xs.length := by first | (have h := of_decide_eq_false hc1; omega) | (have h := hc1; simp at h; omega)
    refine S_exit (E_lp_exit (E_inB_exit ?_))
    refine S_seq ?_
    refine S_reg [true, true] rfl rfl ?_
    refine J_st (R_move rfl) rfl (J_st (R_assign rfl) rfl (J_done ?_))
    refine S_ret (E_done1 rfl rfl E ?_)
    exact ⟨by subst hq; rw [show i = xs.length from by omega], by obtain rfl : bs = [] := List.eq_nil_of_length_eq_zero (by omega); rw [show xs.length = i from by simp at hi; omega]; simpa using hxs⟩

set_option maxRecDepth 20000 in
theorem heldDoneS (vxs : Value) (xs : List Done) (k : Nat) (w : World) (hxs : RdS w vxs xs) (hm : xs = mkL 2 mkDone k xs.length) (hb : k + xs.length * 2 ≤ 1099511627776) : Ct Try.prog 79 [vxs, .int .i64 ((k : Nat) : Int)] w (fun v _ => v = .int .i64 ((k + 2 * xs.length : Nat) : Int)) := by
  refine ct_of Try.func79 rfl Try.ntmps79 rfl ?_
  refine S_sub [(0, vxs), (1, .int .i64 ((k : Nat) : Int))] ⟨rfl, rfl, trivial⟩ ?_
  have E : Ext w w := Ext.refl w
  refine S_seq ?_
  refine S_reg [true] rfl rfl ?_
  refine J_st (R_assign rfl) rfl (J_done ?_)
  refine S_seq ?_
  refine S_seq ?_
  refine S_reg [true] rfl rfl ?_
  refine J_st (R_assign rfl) rfl (J_done ?_)
  refine S_block ?_
  refine S_loop (fun (xq : Nat × Nat) => let ⟨i, q⟩ := xq; [(0, vxs), (1, .int .i64 ((q : Nat) : Int)), (4, .int .i64 0), (5, .int .i64 ((i : Nat) : Int))]) (fun (xq : Nat × Nat) w' => let ⟨i, q⟩ := xq; Ext w w' ∧ w.heap.size ≤ w'.heap.size ∧ i ≤ xs.length ∧ q = k + 2 * i) (fun (xq : Nat × Nat) => let ⟨i, q⟩ := xq; xs.length - i) (0, k) ⟨rfl, rfl, rfl, rfl, trivial⟩ ⟨E, Nat.le_refl _, Nat.zero_le _, (by simp)⟩ ?_
  clear E
  rintro ⟨i, q⟩ w1 ⟨E, z1, hi, hq⟩
  refine S_sub [(0, vxs), (1, .int .i64 ((q : Nat) : Int)), (4, .int .i64 0), (5, .int .i64 ((i : Nat) : Int))] ⟨rfl, rfl, rfl, rfl, trivial⟩ ?_
  refine S_seq ?_
  refine S_seq ?_
  refine S_reg [true, true, true, true] rfl rfl ?_
  refine J_st (R_move rfl) rfl (J_st (R_move rfl) rfl (J_st (R_len Try.underlying60 rfl (hxs.ext E).len) rfl (J_st (R_lss rfl rfl) rfl (J_done ?_))))
  refine S_cond rfl (fun hc1 => ?_) (fun hc1 => ?_)
  · have hc1n : i < xs.length := by first | (have h := of_decide_eq_true hc1; omega) | (have h := hc1; simp at h; omega)
    refine S_skip ?_
    refine S_seq ?_
    refine S_block ?_
    refine S_seq ?_
    refine S_seq ?_
    refine S_reg [true, true, true, true, true, true, true] rfl rfl ?_
    refine J_st (R_move rfl) rfl (J_st (R_move rfl) rfl ?_)
    have hi1 : i < xs.length := (by first | assumption | omega | (simp only [List.length_set]; first | assumption | omega) | (simp only [List.getElem_set_self, List.length_set]; first | assumption | omega) | (simp only [setW, setLk, List.length_set]; first | assumption | omega))
    refine J_st (R_index (i := i) sl60 rfl rfl (hxs.ext E) hi1) rfl (J_st (R_fieldAddr fl121_0 rfl) rfl (J_st (R_load sc3 rfl (((hxs.ext E).get hi1).one 0 rfl)) rfl (J_st (R_move rfl) rfl (J_st (R_neq rfl rfl) rfl (J_done ?_)))))
    refine S_condFe rfl (by subst hq; rw [mkL_at hm (by omega)]; simp [mkDone]) ?_
    refine S_skip ?_
    refine S_seq ?_
    refine S_reg [true, true, true] rfl rfl ?_
    refine J_st (R_move rfl) rfl (J_st (R_add rfl rfl (add_nat (by unfold maxLen; omega))) rfl (J_st (R_assign rfl) rfl (J_done ?_)))
    refine S_seq ?_
    refine S_seq ?_
    refine S_reg [true, true, true, true, true, true, true, true, true] rfl rfl ?_
    refine J_st (R_move rfl) rfl (J_st (R_move rfl) rfl (J_st (R_index (i := i) sl60 rfl rfl (hxs.ext E) hi1) rfl (J_st (R_fieldAddr fl121_1 rfl) rfl (J_st (R_load sc4 rfl (((hxs.ext E).get hi1).one 1 rfl)) rfl (J_st (R_move rfl) rfl (J_st (R_rem rfl rfl (by decide) rfl) rfl (J_st (R_eql rfl rfl) rfl (J_st (R_neqB (Try.underlying4) rfl rfl) rfl (J_done ?_)))))))))
    refine S_condFe rfl (by subst hq; rw [mkL_at hm (by omega)]; simp [mkDone]) ?_
    refine S_skip ?_
    refine S_reg [true, true, true] rfl rfl ?_
    refine J_st (R_move rfl) rfl (J_st (R_add rfl rfl (add_nat (by unfold maxLen; omega))) rfl (J_st (R_assign rfl) rfl (J_done ?_)))
    refine S_nil (E_inB ?_)
    refine S_reg [true, true, true] rfl rfl ?_
    refine J_st (R_move rfl) rfl (J_st (R_add rfl rfl (add_nat (by unfold maxLen; omega))) rfl (J_st (R_assign rfl) rfl (J_done ?_)))
    refine S_nil (E_again (i + 1, q + 1 + 1) (by simp; omega) ⟨rfl, rfl, rfl, rfl, trivial⟩ ⟨E, (by omega), (by omega), (by omega)⟩)
  · have hc1n : ¬ i < xs.length := by first | (have h := of_decide_eq_false hc1; omega) | (have h := hc1; simp at h; omega)
    refine S_exit (E_lp_exit (E_inB_exit ?_))
    refine S_seq ?_
    refine S_reg [true, true] rfl rfl ?_
    refine J_st (R_move rfl) rfl (J_st (R_assign rfl) rfl (J_done ?_))
    refine S_ret (E_done1 rfl rfl E ?_)
    subst hq; rw [show i = xs.length from by omega]

set_option maxRecDepth 20000 in
theorem c_copyRecords (vxs : Value) (xs : List Record) (w : World) (hxs : RdS w vxs xs) (hb : xs.length ≤ 4194304) : Ct Try.prog 62 [vxs] w (fun v w' => Own w' w.heap.size w'.heap.size 5 v (List.flatMap (Enc.enc (α := Record)) xs)) := by
  refine ct_of Try.func62 rfl Try.ntmps62 rfl ?_
  refine S_sub [(0, vxs)] ⟨rfl, trivial⟩ ?_
  have E : Ext w w := Ext.refl w
  refine S_seq ?_
  refine S_reg [true] rfl rfl ?_
  refine J_st (R_assign rfl) rfl (J_done ?_)
  refine S_seq ?_
  refine S_reg [true, false, true] rfl rfl ?_
  refine J_st (R_move rfl) rfl ?_
  refine J_append sl40 rfl rfl (Own.nil w w.heap.size w.heap.size 5) (RdS.src (hxs.ext E)) (flat_one _) (by simp only [sum_flat, List.length_nil]; simp only [Enc.sz]; omega) (by decide) (by omega) (by omega) rfl rfl (fun v1 w1 m1 ho1 => ?_)
  replace E := E.step m1 (fun g hg => by have := Own.blk (Own.nil w w.heap.size w.heap.size 5) g hg; omega)
  have z1 := m1.size
  refine J_st (R_assign rfl) rfl (J_done ?_)
  refine S_ret (E_done1 rfl rfl E ?_)
  exact Own.fin ho1 (by have := E.size; omega) (by omega) (by simp [*])

set_option maxRecDepth 20000 in
theorem markNodeS (vxs : Value) (lo hi : Nat) (fp : List Nat) (xs : List Node) (k : Nat) (w : World) (gxs : OwF w lo hi vxs xs fp) (hhi : hi ≤ w.heap.size) (hb : k + 4 * cntL cntNode xs ≤ 1099511627776) : CtR Try.prog 39 [vxs, .int .i64 ((k : Nat) : Int)] w lo hi (fun v w' => v = .int .i64 (((numA numN1) k xs : Nat) : Int) ∧ OwF w' lo hi vxs ((markA numN1 markN1) k xs) fp ∧ Kq w w' fp) := by
  have hxs : OwK w fp w lo hi vxs xs := ⟨gxs, Kq.refl _ _⟩
  have hmx : xs.length ≤ maxLen := hxs.rd.1.1
  unfold maxLen at hmx
  refine ctR_of Try.func39 rfl Try.ntmps39 rfl ?_
  refine S_sub [(0, vxs), (1, .int .i64 ((k : Nat) : Int))] ⟨rfl, rfl, trivial⟩ ?_
  have E : ModR w w lo hi := ModR.refl w lo hi
  refine S_seq ?_
  refine S_reg [true] rfl rfl ?_
  refine J_st (R_assign rfl) rfl (J_done ?_)
  refine S_seq ?_
  refine S_seq ?_
  refine S_reg [true] rfl rfl ?_
  refine J_st (R_assign rfl) rfl (J_done ?_)
  refine S_block ?_
  refine S_loop (fun (xq : Nat × Nat) => let ⟨i, q⟩ := xq; [(0, vxs), (1, .int .i64 ((q : Nat) : Int)), (4, .int .i64 0), (5, .int .i64 ((i : Nat) : Int))]) (fun (xq : Nat × Nat) w' => let ⟨i, q⟩ := xq; ModR w w' lo hi ∧ w.heap.size ≤ w'.heap.size ∧ i ≤ xs.length ∧ q = (numA numN1) k (xs.take i) ∧ OwK w fp w' lo hi vxs ((markA numN1 markN1) k (xs.take i) ++ xs.drop i)) (fun (xq : Nat × Nat) => let ⟨i, q⟩ := xq; xs.length - i) (0, k) ⟨rfl, rfl, rfl, rfl, trivial⟩ ⟨E, Nat.le_refl _, Nat.zero_le _, rfl, (by simpa [markA] using hxs)⟩ ?_
  clear E hxs
  rintro ⟨i, q⟩ w1 ⟨E, z1, hi0, hq, hxs⟩
  refine S_sub [(0, vxs), (1, .int .i64 ((q : Nat) : Int)), (4, .int .i64 0), (5, .int .i64 ((i : Nat) : Int))] ⟨rfl, rfl, rfl, rfl, trivial⟩ ?_
  refine S_seq ?_
  refine S_seq ?_
  refine S_reg [true, true, true, true] rfl rfl ?_
  refine J_st (R_move rfl) rfl (J_st (R_move rfl) rfl (J_st (R_len Try.underlying28 rfl (OwK.lenE (n := xs.length) hxs (by simp [markA_length]; omega))) rfl (J_st (R_lss rfl rfl) rfl (J_done ?_))))
  refine S_cond rfl (fun hc1 => ?_) (fun hc1 => ?_)
  · have hlt : i < xs.length := by have h := of_decide_eq_true hc1; omega
    rw [drop_split hlt] at hxs
    obtain ⟨_, ho1, hrow⟩ := OwK.focus hxs
    obtain ⟨o1, rfl, sp1, hw1⟩ := Node.opO ho1
    clear hxs
    have hl0 : ((markA numN1 markN1) k (xs.take i)).length = i := by rw [markA_length]; simp; omega
    have hn0 : i + 1 + (xs.drop (i + 1)).length = xs.length := by simp; omega
    have hqk := numA_le (k := k) numN1_bd hlt; rw [← hq] at hqk; unfold numN1 at hqk
    have hc1n : i < xs.length := by first | (have h := of_decide_eq_true hc1; omega) | (have h := hc1; simp at h; omega)
    refine S_skip ?_
    refine S_seq ?_
    refine S_block ?_
    refine S_seq ?_
    refine S_reg [true, true, true, true, true, false] rfl rfl ?_
    refine J_st (R_move rfl) rfl (J_st (R_move rfl) rfl (J_st (R_move rfl) rfl (J_st (R_index (i := i) sl28 rfl rfl (RowK.same1 hrow hl0 hn0) (by simp; omega)) rfl (J_st (R_fieldAddr fl90_0 rfl) rfl ?_))))
    have hq1 := RowK.sep hrow (u := o1) (by simp)
    have hqb := RowK.blk hrow
    refine J_storeRowK (i := i) (f := 0) (cs' := [.int .i64 ((q : Nat) : Int), .int .i64 ((xs[i]'hlt).a), .int .i64 ((xs[i]'hlt).b), o1]) sc3 rfl rfl rfl rfl hrow hl0 (by decide) rfl rfl (fun w2 m1 hrow' => ?_)
    replace hrow := hrow'
    replace E := E.mod m1 (fun g hg => by have := hqb g hg; omega); replace hw1 := Own.modS hw1 m1 hq1
    have z2 := m1.size
    clear hqb hq1
    refine J_done ?_
    refine S_seq ?_
    refine S_reg [true, true, true] rfl rfl ?_
    refine J_st (R_move rfl) rfl (J_st (R_add rfl rfl (add_nat (by unfold maxLen; omega))) rfl (J_st (R_assign rfl) rfl (J_done ?_)))
    refine S_seq ?_
    refine S_reg [true, true, true, true, true, false] rfl rfl ?_
    refine J_st (R_move rfl) rfl (J_st (R_move rfl) rfl (J_st (R_move rfl) rfl (J_st (R_index (i := i) sl28 rfl rfl (RowK.same1 hrow hl0 hn0) (by simp; omega)) rfl (J_st (R_fieldAddr fl90_1 rfl) rfl ?_))))
    have hq2 := RowK.sep hrow (u := o1) (by simp)
    have hqb := RowK.blk hrow
    refine J_storeRowK (i := i) (f := 1) (cs' := [.int .i64 ((q : Nat) : Int), .int .i64 ((q + 1 : Nat) : Int), .int .i64 ((xs[i]'hlt).b), o1]) sc3 rfl rfl rfl rfl hrow hl0 (by decide) rfl rfl (fun w3 m2 hrow' => ?_)
    replace hrow := hrow'
    replace E := E.mod m2 (fun g hg => by have := hqb g hg; omega); replace hw1 := Own.modS hw1 m2 hq2
    have z3 := m2.size
    clear hqb hq2
    refine J_done ?_
    refine S_seq ?_
    refine S_reg [true, true, true] rfl rfl ?_
    refine J_st (R_move rfl) rfl (J_st (R_add rfl rfl (add_nat (by unfold maxLen; omega))) rfl (J_st (R_assign rfl) rfl (J_done ?_)))
    refine S_seq ?_
    refine S_reg [true, true, true, true, true, false] rfl rfl ?_
    refine J_st (R_move rfl) rfl (J_st (R_move rfl) rfl (J_st (R_move rfl) rfl (J_st (R_index (i := i) sl28 rfl rfl (RowK.same1 hrow hl0 hn0) (by simp; omega)) rfl (J_st (R_fieldAddr fl90_2 rfl) rfl ?_))))
    have hq3 := RowK.sep hrow (u := o1) (by simp)
    have hqb := RowK.blk hrow
    refine J_storeRowK (i := i) (f := 2) (cs' := [.int .i64 ((q : Nat) : Int), .int .i64 ((q + 1 : Nat) : Int), .int .i64 ((q + 1 + 1 : Nat) : Int), o1]) sc3 rfl rfl rfl rfl hrow hl0 (by decide) rfl rfl (fun w4 m3 hrow' => ?_)
    replace hrow := hrow'
    replace E := E.mod m3 (fun g hg => by have := hqb g hg; omega); replace hw1 := Own.modS hw1 m3 hq3
    have z4 := m3.size
    clear hqb hq3
    refine J_done ?_
    refine S_seq ?_
    refine S_reg [true, true, true] rfl rfl ?_
    refine J_st (R_move rfl) rfl (J_st (R_add rfl rfl (add_nat (by unfold maxLen; omega))) rfl (J_st (R_assign rfl) rfl (J_done ?_)))
    refine S_reg [true, true, true, true, true, true, false, true] rfl rfl ?_
    refine J_st (R_move rfl) rfl (J_st (R_move rfl) rfl (J_st (R_index (i := i) sl28 rfl rfl (RowK.same1 hrow hl0 hn0) (by simp; omega)) rfl (J_st (R_fieldAddr fl90_3 rfl) rfl (J_st (R_load sc58 rfl ((RowK.at hrow hl0).one 3 rfl)) rfl (J_st (R_move rfl) rfl ?_)))))
    refine J_callR Try.call70 rfl rfl (markIntS o1 (bl o1) (bh o1) ((xs[i]'hlt).outs) (q + 1 + 1 + 1) _ (Own.tight hw1) (by first | omega | (simp only [mkL_length]; omega) | (rw [mkL_length]; done) | (simp only [mkL_length]; done))) rfl (fun _ w5 e1 hv => ?_)
    obtain ⟨rfl, hw1'⟩ := hv
    have e1c := ModR.loose e1 (Own.blk hw1)
    replace hw1 := Own.loose hw1' (Own.blk hw1)
    clear hw1'
    replace E := E.trans e1c (by omega) (by omega); replace hrow := RowK.modRS hrow e1 (by simp)
    have z5 := e1c.size
    refine J_st (R_assign rfl) rfl (J_done ?_)
    refine S_nil (E_inB ?_)
    refine S_reg [true, true, true] rfl rfl ?_
    refine J_st (R_move rfl) rfl (J_st (R_add rfl rfl (add_nat (by unfold maxLen; omega))) rfl (J_st (R_assign rfl) rfl (J_done ?_)))
    have hxs := RowK.close hrow (Node.mkO (⟨((q : Nat) : Int), ((q + 1 : Nat) : Int), ((q + 1 + 1 : Nat) : Int), mkL 1 mkInt (q + 1 + 1 + 1) ((xs[i]'hlt).outs).length⟩ : Node) sp1 (Own.widen hw1 (by omega) (by omega)))
    refine S_nil (E_again (i + 1, (q + 1 + 1 + 1) + 1 * ((xs[i]'hlt).outs).length) (by simp; omega) ⟨rfl, rfl, rfl, rfl, trivial⟩ ⟨E, (by omega), (by omega), (by rw [numA_take hlt, ← hq]; rfl), (by rw [markA_take hlt, ← hq]; exact hxs)⟩)
  · have hc1n : ¬ i < xs.length := by first | (have h := of_decide_eq_false hc1; omega) | (have h := hc1; simp at h; omega)
    refine S_exit (E_lp_exit (E_inB_exit ?_))
    refine S_seq ?_
    refine S_reg [true, true] rfl rfl ?_
    refine J_st (R_move rfl) rfl (J_st (R_assign rfl) rfl (J_done ?_))
    refine S_ret (E_done1 rfl rfl E ?_)
    have hi9 : xs.length ≤ i := by have h := of_decide_eq_false hc1; omega
    rw [List.take_of_length_le hi9] at hq hxs
    rw [List.drop_of_length_le hi9, List.append_nil] at hxs
    exact ⟨by rw [hq], hxs.1, hxs.2⟩

set_option maxRecDepth 20000 in
theorem markGraph (ox : Value) (lo hi : Nat) (fp : List Nat) (x : Graph) (k : Nat) (w : World) (hx : OwF w lo hi ox x.nodes fp) (hhi : hi ≤ w.heap.size) (hb : k + 4 * cntGraph x ≤ 1099511627776) : CtR Try.prog 13 [.agg [ox, .int .i64 x.workers, .int .i64 x.cap].toArray, .int .i64 ((k : Nat) : Int)] w lo hi (fun v w' => v = .int .i64 ((numA numN1 k x.nodes : Nat) : Int) ∧ OwF w' lo hi ox (markA numN1 markN1 k x.nodes) fp ∧ Kq w w' fp) := by
  unfold cntGraph at hb
  refine ctR_of Try.func13 rfl Try.ntmps13 rfl ?_
  refine S_sub [(0, .agg [ox, .int .i64 x.workers, .int .i64 x.cap].toArray), (1, .int .i64 ((k : Nat) : Int))] ⟨rfl, rfl, trivial⟩ ?_
  have E : ModR w w lo hi := ModR.refl w lo hi
  refine S_seq ?_
  refine S_reg [false, true] rfl rfl ?_
  refine J_box rfl rfl (fun b1 w1 e1 s1 h1 => ?_)
  have g_b1 : w.heap.size ≤ b1 := by have := E.size; omega
  have y_b1 := h1.lt
  replace E := E.ext e1; replace hx := hx.ext e1
  have z1 := e1.size
  refine J_st (R_assign rfl) rfl (J_done ?_)
  refine S_seq ?_
  refine S_reg [true, true, true, false, true] rfl rfl ?_
  refine J_st (R_fieldAddr0 fl30_0 rfl) rfl (J_st (R_load sc28 rfl (h1.one 0 rfl)) rfl (J_st (R_move rfl) rfl ?_))
  refine J_callR Try.call39 rfl rfl (markNodeS ox lo hi fp x.nodes k _ hx (by omega) (by first | omega | (simp only [mkL_length]; omega) | (rw [mkL_length]; done) | (simp only [mkL_length]; done))) rfl (fun _ w2 e2 hv => ?_)
  obtain ⟨rfl, hx', kq1⟩ := hv
  replace hx := hx'
  replace E := E.trans e2 (by omega) (by omega); replace h1 := h1.modR e2 (by omega)
  have z2 := e2.size
  refine J_st (R_assign rfl) rfl (J_done ?_)
  refine S_seq ?_
  refine S_reg [true, true] rfl rfl ?_
  refine J_st (R_move rfl) rfl (J_st (R_assign rfl) rfl (J_done ?_))
  refine S_ret (E_done1 rfl rfl E ?_)
  exact ⟨rfl, hx, (by first | exact kq1 | exact Kq.trans (Ext.kq e1 _) kq1)⟩

set_option maxHeartbeats 4000000 in
set_option maxRecDepth 20000 in
theorem s_WorkerNew (vxs : Value) (xs : List Record) (w : World) (hxs : RdS w vxs xs) (hb : xs.length ≤ 1048576) : Ct Try.prog 21 [vxs] w (fun v w' => ∃ cs, v = .agg cs.toArray ∧ Own1.O w' w.heap.size w'.heap.size cs (workerNew xs)) := by
  refine ct_of Try.func21 rfl Try.ntmps21 rfl ?_
  refine S_sub [(0, vxs)] ⟨rfl, trivial⟩ ?_
  have E : Ext w w := Ext.refl w
  refine S_seq ?_
  refine S_reg [false] rfl rfl ?_
  refine J_alloc st62 rfl (fun b1 w1 e1 s1 h1 => ?_)
  have g_b1 : w.heap.size ≤ b1 := by have := E.size; omega
  have y_b1 := h1.lt
  replace E := E.trans e1
  have z1 := e1.size
  refine J_done ?_
  refine S_seq ?_
  refine S_reg [true] rfl rfl ?_
  refine J_st (R_assign rfl) rfl (J_done ?_)
  refine S_seq ?_
  refine S_regP mixed [(1, true), (3, true), (5, true), (7, true)] [⟨0, 4, 5, [], true, none, none⟩, ⟨2, 6, 5, List.flatMap (Enc.enc (α := Record)) xs, false, some (0, 4), none⟩, ⟨4, 8, 1, [.int .i64 0, .int .i64 0, .int .i64 0, .int .i64 0], false, none, none⟩, ⟨6, 10, 1, [.bool false, .bool false, .bool false, .bool false], false, none, none⟩, ⟨8, 12, 1, [.bool false, .bool false, .bool false, .bool false], false, none, none⟩] [(9, true), (10, false)] (by kernel_rfl) rfl rfl [(0, vxs), (2, .pointer (some ⟨b1, 0, none⟩)), (3, .int .i64 4), (5, vxs), (7, .int .i64 4), (9, .int .i64 4), (11, .int .i64 4)] (fun w' => Ext w w' ∧ w1.heap.size ≤ w'.heap.size ∧ Blk w' b1 [.slice none 0 0, .slice none 0 0, .slice none 0 0, .slice none 0 0, .slice none 0 0, .slice none 0 0, .slice none 0 0, .slice none 0 0]) (fun w2 e2 => ?_) (fun w2 hphi_w2 => ?_)
  · replace E := E.trans e2; replace h1 := h1.ext e2
    have z2 := e2.size
    refine J_st (R_move rfl) rfl (J_st (R_move rfl) rfl (J_st (R_move rfl) rfl (J_st (R_move rfl) rfl (J_cutEnd ⟨rfl, rfl, rfl, rfl, rfl, rfl, rfl, trivial⟩ ⟨E, (by omega), h1⟩))))
  clear E h1
  obtain ⟨E, z3, h1⟩ := hphi_w2
  refine ⟨⟨⟨_, rfl, rfl, rfl, rfl, ?_⟩, ⟨_, rfl, rfl, rfl, rfl, ?_⟩, ⟨_, rfl, rfl, rfl, rfl, ?_⟩, ⟨_, rfl, rfl, rfl, rfl, ?_⟩, ⟨_, rfl, rfl, rfl, rfl, ?_⟩, trivial⟩, fun w3 e3 => ?_⟩
  · exact step_lit sl40
  · exact step_app sl40 rfl (fun _ eX => RdS.src (RdS.ext (hxs.ext E) eX)) (flat_one _) (by simp only [sum_flat, List.length_nil]; simp only [Enc.sz]; omega) (by decide)
  · exact step_make (m := 4) sl58 rfl rfl (by decide) (by decide) rfl rfl
  · exact step_make (m := 4) sl59 rfl rfl (by decide) (by decide) rfl rfl
  · exact step_make (m := 4) sl59 rfl rfl (by decide) (by decide) rfl rfl
  intro v1 f1 ho1 v2 f2 ho2 v3 f3 ho3 v4 f4 ho4 v5 f5 ho5 sp1
  obtain ⟨ho1, rfl⟩ := ho1
  obtain ⟨ho2, rfl⟩ := ho2
  obtain ⟨ho3, rfl⟩ := ho3
  obtain ⟨ho4, rfl⟩ := ho4
  obtain ⟨ho5, rfl⟩ := ho5
  replace sp1 : SepL [v2, v3, v4, v5] := DjL.toSep (vs := [v2, v3, v4, v5]) sp1
  have g_sp1 : w.heap.size ≤ w2.heap.size := E.size
  replace E := E.trans e3; replace h1 := h1.ext e3
  have z4 := e3.size
  clear ho1
  replace ho2 : Own w3 w2.heap.size w3.heap.size 5 v2 (List.flatMap (Enc.enc (α := Record)) xs) := ho2
  replace ho3 : Own w3 w2.heap.size w3.heap.size 1 v3 (List.flatMap (Enc.enc (α := Int)) [0, 0, 0, 0]) := ho3
  replace ho4 : Own w3 w2.heap.size w3.heap.size 1 v4 (List.flatMap (Enc.enc (α := Bool)) [false, false, false, false]) := ho4
  replace ho5 : Own w3 w2.heap.size w3.heap.size 1 v5 (List.flatMap (Enc.enc (α := Bool)) [false, false, false, false]) := ho5
  refine J_sub [(0, vxs), (2, .pointer (some ⟨b1, 0, none⟩)), (3, .int .i64 4), (5, vxs), (6, v2), (7, .int .i64 4), (8, v3), (9, .int .i64 4), (10, v4), (11, .int .i64 4), (12, v5)] ⟨rfl, rfl, rfl, rfl, rfl, rfl, rfl, rfl, rfl, rfl, rfl, trivial⟩ ?_
  have hbl1 : ∀ w, (Instr.build 62 ([(2, v2), (4, v3), (5, v4), (6, v5)]).toArray).run Try.prog w = .ok (.agg [.slice none 0 0, .slice none 0 0, v2, .slice none 0 0, v3, v4, v5, .slice none 0 0].toArray) w := by clear E; obtain ⟨_, _, _, rfl⟩ := Own.shape ho2; obtain ⟨_, _, _, rfl⟩ := Own.shape ho3; obtain ⟨_, _, _, rfl⟩ := Own.shape ho4; obtain ⟨_, _, _, rfl⟩ := Own.shape ho5; intro w; kernel_rfl
  refine J_st (R_buildC [.slice none 0 0, .slice none 0 0, v2, .slice none 0 0, v3, v4, v5, .slice none 0 0] rfl hbl1) rfl ?_
  refine J_storeS' (cs' := [.slice none 0 0, .slice none 0 0, v2, .slice none 0 0, v3, v4, v5, .slice none 0 0]) st62 rfl rfl rfl (all_cons rfl (all_cons rfl (all_cons ho2.one (all_cons rfl (all_cons ho3.one (all_cons ho4.one (all_cons ho5.one (all_cons rfl rfl)))))))) h1 (Nat.le_of_ble_eq_true rfl) rfl (fun w4 m1 h1' => ?_)
  replace h1 := h1'
  replace E := E.step m1 (fun g hg => by cases hg; omega); replace ho2 := ho2.mod m1 (fun g hg => by cases hg; omega); replace ho3 := ho3.mod m1 (fun g hg => by cases hg; omega); replace ho4 := ho4.mod m1 (fun g hg => by cases hg; omega); replace ho5 := ho5.mod m1 (fun g hg => by cases hg; omega)
  have z5 := m1.size
  refine J_done ?_
  refine S_ret (E_doneC rfl rfl (run_loadVar_st st62 h1.at rfl) E ?_)
  exact ⟨_, rfl, Worker.mkO (⟨[], [], xs, [], [0, 0, 0, 0], [false, false, false, false], [false, false, false, false], []⟩ : Worker) ⟨⟨(Sep.nilL _), ⟨(Sep.nilL _), ⟨(Sep.nilL _), ⟨(Sep.nilL _), ⟨(Sep.nilL _), ⟨(Sep.nilL _), ⟨(Sep.nilL _), trivial⟩⟩⟩⟩⟩⟩⟩, ⟨⟨(Sep.nilL _), ⟨(Sep.nilL _), ⟨(Sep.nilL _), ⟨(Sep.nilL _), ⟨(Sep.nilL _), ⟨(Sep.nilL _), trivial⟩⟩⟩⟩⟩⟩, ⟨⟨(Sep.nilR _), ⟨sp1.1.1, ⟨sp1.1.2.1, ⟨sp1.1.2.2.1, ⟨(Sep.nilR _), trivial⟩⟩⟩⟩⟩, ⟨⟨(Sep.nilL _), ⟨(Sep.nilL _), ⟨(Sep.nilL _), ⟨(Sep.nilL _), trivial⟩⟩⟩⟩, ⟨⟨sp1.2.1.1, ⟨sp1.2.1.2.1, ⟨(Sep.nilR _), trivial⟩⟩⟩, ⟨⟨sp1.2.2.1.1, ⟨(Sep.nilR _), trivial⟩⟩, ⟨⟨(Sep.nilR _), trivial⟩, ⟨trivial, trivial⟩⟩⟩⟩⟩⟩⟩⟩ (Own.nil _ _ _ _) (Own.nil _ _ _ _) (Own.widen ho2 (by omega) (by omega)) (Own.nil _ _ _ _) (Own.widen ho3 (by omega) (by omega)) (Own.widen ho4 (by omega) (by omega)) (Own.widen ho5 (by omega) (by omega)) (Own.nil _ _ _ _)⟩

set_option maxHeartbeats 4000000 in
set_option maxRecDepth 20000 in
theorem c_WorkerNew (vxs : Value) (xs : List Record) (w : World) (hxs : RdS w vxs xs) (hb : xs.length ≤ 1048576) : Ct Try.prog 31 [vxs] w (fun v w' => ∃ cs, v = .agg cs.toArray ∧ Own1.O w' w.heap.size w'.heap.size cs (workerNew xs)) := by
  refine ct_of Try.func31 rfl Try.ntmps31 rfl ?_
  refine S_sub [(0, vxs)] ⟨rfl, trivial⟩ ?_
  have E : Ext w w := Ext.refl w
  refine S_seq ?_
  refine S_reg [false] rfl rfl ?_
  refine J_alloc st62 rfl (fun b1 w1 e1 s1 h1 => ?_)
  have g_b1 : w.heap.size ≤ b1 := by have := E.size; omega
  have y_b1 := h1.lt
  replace E := E.trans e1
  have z1 := e1.size
  refine J_done ?_
  refine S_seq ?_
  refine S_regP mixed [(0, true)] [⟨1, 4, 5, List.flatMap (Enc.enc (α := Record)) xs, false, none, none⟩, ⟨2, 5, 1, [.int .i64 0, .int .i64 0, .int .i64 0, .int .i64 0], false, none, none⟩, ⟨3, 6, 1, [.bool false, .bool false, .bool false, .bool false], false, none, none⟩, ⟨4, 7, 1, [.bool false, .bool false, .bool false, .bool false], false, none, none⟩] [(5, true), (6, false)] (by kernel_rfl) rfl rfl [(0, vxs), (2, .pointer (some ⟨b1, 0, none⟩)), (3, vxs)] (fun w' => Ext w w' ∧ w1.heap.size ≤ w'.heap.size ∧ Blk w' b1 [.slice none 0 0, .slice none 0 0, .slice none 0 0, .slice none 0 0, .slice none 0 0, .slice none 0 0, .slice none 0 0, .slice none 0 0]) (fun w2 e2 => ?_) (fun w2 hphi_w2 => ?_)
  · replace E := E.trans e2; replace h1 := h1.ext e2
    have z2 := e2.size
    refine J_st (R_move rfl) rfl (J_cutEnd ⟨rfl, rfl, rfl, trivial⟩ ⟨E, (by omega), h1⟩)
  clear E h1
  obtain ⟨E, z3, h1⟩ := hphi_w2
  refine ⟨⟨⟨_, rfl, rfl, rfl, rfl, ?_⟩, ⟨_, rfl, rfl, rfl, rfl, ?_⟩, ⟨_, rfl, rfl, rfl, rfl, ?_⟩, ⟨_, rfl, rfl, rfl, rfl, ?_⟩, trivial⟩, fun w3 e3 => ?_⟩
  · exact step_call Try.call62 rfl (fun wX eX => by have E := E.trans eX; exact c_copyRecords vxs xs _ (hxs.ext E) (by first | assumption | omega | (simp only [mkL_length]; omega)))
  · exact step_make (m := 4) sl58 rfl rfl (by decide) (by decide) rfl rfl
  · exact step_make (m := 4) sl59 rfl rfl (by decide) (by decide) rfl rfl
  · exact step_make (m := 4) sl59 rfl rfl (by decide) (by decide) rfl rfl
  intro v1 f1 ho1 v2 f2 ho2 v3 f3 ho3 v4 f4 ho4 sp1
  obtain ⟨ho1, rfl⟩ := ho1
  obtain ⟨ho2, rfl⟩ := ho2
  obtain ⟨ho3, rfl⟩ := ho3
  obtain ⟨ho4, rfl⟩ := ho4
  replace sp1 : SepL [v1, v2, v3, v4] := DjL.toSep (vs := [v1, v2, v3, v4]) sp1
  have g_sp1 : w.heap.size ≤ w2.heap.size := E.size
  replace E := E.trans e3; replace h1 := h1.ext e3
  have z4 := e3.size
  replace ho1 : Own w3 w2.heap.size w3.heap.size 5 v1 (List.flatMap (Enc.enc (α := Record)) xs) := ho1
  replace ho2 : Own w3 w2.heap.size w3.heap.size 1 v2 (List.flatMap (Enc.enc (α := Int)) [0, 0, 0, 0]) := ho2
  replace ho3 : Own w3 w2.heap.size w3.heap.size 1 v3 (List.flatMap (Enc.enc (α := Bool)) [false, false, false, false]) := ho3
  replace ho4 : Own w3 w2.heap.size w3.heap.size 1 v4 (List.flatMap (Enc.enc (α := Bool)) [false, false, false, false]) := ho4
  refine J_sub [(0, vxs), (2, .pointer (some ⟨b1, 0, none⟩)), (3, vxs), (4, v1), (5, v2), (6, v3), (7, v4)] ⟨rfl, rfl, rfl, rfl, rfl, rfl, rfl, trivial⟩ ?_
  have hbl1 : ∀ w, (Instr.build 62 ([(2, v1), (4, v2), (5, v3), (6, v4)]).toArray).run Try.prog w = .ok (.agg [.slice none 0 0, .slice none 0 0, v1, .slice none 0 0, v2, v3, v4, .slice none 0 0].toArray) w := by clear E; obtain ⟨_, _, _, rfl⟩ := Own.shape ho1; obtain ⟨_, _, _, rfl⟩ := Own.shape ho2; obtain ⟨_, _, _, rfl⟩ := Own.shape ho3; obtain ⟨_, _, _, rfl⟩ := Own.shape ho4; intro w; kernel_rfl
  refine J_st (R_buildC [.slice none 0 0, .slice none 0 0, v1, .slice none 0 0, v2, v3, v4, .slice none 0 0] rfl hbl1) rfl ?_
  refine J_storeS' (cs' := [.slice none 0 0, .slice none 0 0, v1, .slice none 0 0, v2, v3, v4, .slice none 0 0]) st62 rfl rfl rfl (all_cons rfl (all_cons rfl (all_cons ho1.one (all_cons rfl (all_cons ho2.one (all_cons ho3.one (all_cons ho4.one (all_cons rfl rfl)))))))) h1 (Nat.le_of_ble_eq_true rfl) rfl (fun w4 m1 h1' => ?_)
  replace h1 := h1'
  replace E := E.step m1 (fun g hg => by cases hg; omega); replace ho1 := ho1.mod m1 (fun g hg => by cases hg; omega); replace ho2 := ho2.mod m1 (fun g hg => by cases hg; omega); replace ho3 := ho3.mod m1 (fun g hg => by cases hg; omega); replace ho4 := ho4.mod m1 (fun g hg => by cases hg; omega)
  have z5 := m1.size
  refine J_done ?_
  refine S_ret (E_doneC rfl rfl (run_loadVar_st st62 h1.at rfl) E ?_)
  exact ⟨_, rfl, Worker.mkO (⟨[], [], xs, [], [0, 0, 0, 0], [false, false, false, false], [false, false, false, false], []⟩ : Worker) ⟨⟨(Sep.nilL _), ⟨(Sep.nilL _), ⟨(Sep.nilL _), ⟨(Sep.nilL _), ⟨(Sep.nilL _), ⟨(Sep.nilL _), ⟨(Sep.nilL _), trivial⟩⟩⟩⟩⟩⟩⟩, ⟨⟨(Sep.nilL _), ⟨(Sep.nilL _), ⟨(Sep.nilL _), ⟨(Sep.nilL _), ⟨(Sep.nilL _), ⟨(Sep.nilL _), trivial⟩⟩⟩⟩⟩⟩, ⟨⟨(Sep.nilR _), ⟨sp1.1.1, ⟨sp1.1.2.1, ⟨sp1.1.2.2.1, ⟨(Sep.nilR _), trivial⟩⟩⟩⟩⟩, ⟨⟨(Sep.nilL _), ⟨(Sep.nilL _), ⟨(Sep.nilL _), ⟨(Sep.nilL _), trivial⟩⟩⟩⟩, ⟨⟨sp1.2.1.1, ⟨sp1.2.1.2.1, ⟨(Sep.nilR _), trivial⟩⟩⟩, ⟨⟨sp1.2.2.1.1, ⟨(Sep.nilR _), trivial⟩⟩, ⟨⟨(Sep.nilR _), trivial⟩, ⟨trivial, trivial⟩⟩⟩⟩⟩⟩⟩⟩ (Own.nil _ _ _ _) (Own.nil _ _ _ _) (Own.widen ho1 (by omega) (by omega)) (Own.nil _ _ _ _) (Own.widen ho2 (by omega) (by omega)) (Own.widen ho3 (by omega) (by omega)) (Own.widen ho4 (by omega) (by omega)) (Own.nil _ _ _ _)⟩

set_option maxRecDepth 20000 in
theorem c_eqToken (x : Token) (y : Token) (w : World)  : Ct Try.prog 66 [.agg (Enc.enc x).toArray, .agg (Enc.enc y).toArray] w (fun v _ => v = .bool (decide (x = y))) := by
  refine ct_of Try.func66 rfl Try.ntmps66 rfl ?_
  refine S_sub [(0, .agg (Enc.enc x).toArray), (1, .agg (Enc.enc y).toArray)] ⟨rfl, rfl, trivial⟩ ?_
  have E : Ext w w := Ext.refl w
  refine S_seq ?_
  refine S_reg [false, false, true] rfl rfl ?_
  refine J_box rfl rfl (fun b1 w1 e1 s1 h1 => ?_)
  have g_b1 : w.heap.size ≤ b1 := by have := E.size; omega
  have y_b1 := h1.lt
  replace E := E.trans e1
  have z1 := e1.size
  refine J_box rfl rfl (fun b2 w2 e2 s2 h2 => ?_)
  have g_b2 : w.heap.size ≤ b2 := by have := E.size; omega
  have y_b2 := h2.lt
  replace E := E.trans e2; replace h1 := h1.ext e2
  have z2 := e2.size
  refine J_st (R_assign rfl) rfl (J_done ?_)
  refine S_seq ?_
  refine S_seq ?_
  refine S_reg [true, true, true, true, true] rfl rfl ?_
  refine J_st (R_fieldAddr0 fl103_0 rfl) rfl (J_st (R_load sc4 rfl (h1.one 0 rfl)) rfl (J_st (R_fieldAddr0 fl103_0 rfl) rfl (J_st (R_load sc4 rfl (h2.one 0 rfl)) rfl (J_st (R_neqB (Try.underlying4) rfl rfl) rfl (J_done ?_)))))
  refine S_cond rfl (fun hc1 => ?_) (fun hc1 => ?_)
  · refine S_seq ?_
    refine S_reg [true] rfl rfl ?_
    refine J_st (R_assign rfl) rfl (J_done ?_)
    refine S_ret (E_done1 rfl rfl E ?_)
    cases x; cases y; simp_all
  · refine S_skip ?_
    refine S_seq ?_
    refine S_seq ?_
    refine S_reg [true, true, true, true, true] rfl rfl ?_
    refine J_st (R_fieldAddr0 fl103_1 rfl) rfl (J_st (R_load sc3 rfl (h1.one 1 rfl)) rfl (J_st (R_fieldAddr0 fl103_1 rfl) rfl (J_st (R_load sc3 rfl (h2.one 1 rfl)) rfl (J_st (R_neq rfl rfl) rfl (J_done ?_)))))
    refine S_cond rfl (fun hc2 => ?_) (fun hc2 => ?_)
    · refine S_seq ?_
      refine S_reg [true] rfl rfl ?_
      refine J_st (R_assign rfl) rfl (J_done ?_)
      refine S_ret (E_done1 rfl rfl E ?_)
      cases x; cases y; simp_all
    · refine S_skip ?_
      refine S_seq ?_
      refine S_seq ?_
      refine S_reg [true, true, true, true, true] rfl rfl ?_
      refine J_st (R_fieldAddr0 fl103_2 rfl) rfl (J_st (R_load sc3 rfl (h1.one 2 rfl)) rfl (J_st (R_fieldAddr0 fl103_2 rfl) rfl (J_st (R_load sc3 rfl (h2.one 2 rfl)) rfl (J_st (R_neq rfl rfl) rfl (J_done ?_)))))
      refine S_cond rfl (fun hc3 => ?_) (fun hc3 => ?_)
      · refine S_seq ?_
        refine S_reg [true] rfl rfl ?_
        refine J_st (R_assign rfl) rfl (J_done ?_)
        refine S_ret (E_done1 rfl rfl E ?_)
        cases x; cases y; simp_all
      · refine S_skip ?_
        refine S_seq ?_
        refine S_seq ?_
        refine S_reg [true, true, true, true, true] rfl rfl ?_
        refine J_st (R_fieldAddr0 fl103_3 rfl) rfl (J_st (R_load sc4 rfl (h1.one 3 rfl)) rfl (J_st (R_fieldAddr0 fl103_3 rfl) rfl (J_st (R_load sc4 rfl (h2.one 3 rfl)) rfl (J_st (R_neqB (Try.underlying4) rfl rfl) rfl (J_done ?_)))))
        refine S_cond rfl (fun hc4 => ?_) (fun hc4 => ?_)
        · refine S_seq ?_
          refine S_reg [true] rfl rfl ?_
          refine J_st (R_assign rfl) rfl (J_done ?_)
          refine S_ret (E_done1 rfl rfl E ?_)
          cases x; cases y; simp_all
        · refine S_skip ?_
          refine S_seq ?_
          refine S_seq ?_
          refine S_reg [true, true, true, true, true] rfl rfl ?_
          refine J_st (R_fieldAddr0 fl103_4 rfl) rfl (J_st (R_load sc4 rfl (h1.one 4 rfl)) rfl (J_st (R_fieldAddr0 fl103_4 rfl) rfl (J_st (R_load sc4 rfl (h2.one 4 rfl)) rfl (J_st (R_neqB (Try.underlying4) rfl rfl) rfl (J_done ?_)))))
          refine S_cond rfl (fun hc5 => ?_) (fun hc5 => ?_)
          · refine S_seq ?_
            refine S_reg [true] rfl rfl ?_
            refine J_st (R_assign rfl) rfl (J_done ?_)
            refine S_ret (E_done1 rfl rfl E ?_)
            cases x; cases y; simp_all
          · refine S_skip ?_
            refine S_seq ?_
            refine S_reg [true] rfl rfl ?_
            refine J_st (R_assign rfl) rfl (J_done ?_)
            refine S_ret (E_done1 rfl rfl E ?_)
            cases x; cases y; simp_all

set_option maxRecDepth 20000 in
theorem c_eqTokenS (vxs : Value) (xs : List Token) (vys : Value) (ys : List Token) (w : World) (hxs : RdS w vxs xs) (hys : RdS w vys ys) : Ct Try.prog 35 [vxs, vys] w (fun v _ => v = .bool (decide (xs = ys))) := by
  refine ct_of Try.func35 rfl Try.ntmps35 rfl ?_
  refine S_sub [(0, vxs), (1, vys)] ⟨rfl, rfl, trivial⟩ ?_
  have E : Ext w w := Ext.refl w
  refine S_seq ?_
  refine S_reg [true] rfl rfl ?_
  refine J_st (R_assign rfl) rfl (J_done ?_)
  refine S_seq ?_
  refine S_seq ?_
  refine S_reg [true, true, true, true, true] rfl rfl ?_
  refine J_st (R_move rfl) rfl (J_st (R_len Try.underlying33 rfl (hxs.ext E).len) rfl (J_st (R_move rfl) rfl (J_st (R_len Try.underlying33 rfl (hys.ext E).len) rfl (J_st (R_neq rfl rfl) rfl (J_done ?_)))))
  refine S_cond rfl (fun hc1 => ?_) (fun hc1 => ?_)
  · have hc1n : ¬ xs.length = ys.length := by first | (have h := of_decide_eq_true hc1; omega) | (have h := hc1; simp at h; omega)
    refine S_seq ?_
    refine S_reg [true] rfl rfl ?_
    refine J_st (R_assign rfl) rfl (J_done ?_)
    refine S_ret (E_done1 rfl rfl E ?_)
    simp [eq_len hc1n]
  · have hc1n : xs.length = ys.length := by first | (have h := of_decide_eq_false hc1; omega) | (have h := hc1; simp at h; omega)
    refine S_skip ?_
    refine S_seq ?_
    refine S_seq ?_
    refine S_reg [true] rfl rfl ?_
    refine J_st (R_assign rfl) rfl (J_done ?_)
    refine S_block ?_
    refine S_loop (fun (k : Nat) => [(0, vxs), (1, vys), (4, .bool false), (5, .int .i64 ((k : Nat) : Int))]) (fun (k : Nat) w' => Ext w w' ∧ w.heap.size ≤ w'.heap.size ∧ k ≤ xs.length ∧ xs.take k = ys.take k) (fun (k : Nat) => xs.length - k) 0 ⟨rfl, rfl, rfl, rfl, trivial⟩ ⟨E, Nat.le_refl _, Nat.zero_le _, rfl⟩ ?_
    clear E
    rintro k w1 ⟨E, z1, hk, hp⟩
    refine S_seq ?_
    refine S_seq ?_
    refine S_reg [true, true, true, true] rfl rfl ?_
    refine J_st (R_move rfl) rfl (J_st (R_move rfl) rfl (J_st (R_len Try.underlying33 rfl (hxs.ext E).len) rfl (J_st (R_lss rfl rfl) rfl (J_done ?_))))
    refine S_cond rfl (fun hc2 => ?_) (fun hc2 => ?_)
    · have hc2n : k < xs.length := by first | (have h := of_decide_eq_true hc2; omega) | (have h := hc2; simp at h; omega)
      refine S_skip ?_
      refine S_seq ?_
      refine S_block ?_
      refine S_seq ?_
      refine S_regD mixed [(0, true), (1, true), (2, true), (3, true), (4, true), (5, true), (6, true), (7, true), (8, false), (9, true)] (by decide +kernel) rfl (fun w2 e1 => ?_)
      replace E := E.trans e1
      have z2 := e1.size
      refine J_st (R_move rfl) rfl (J_st (R_move rfl) rfl ?_)
      have hi1 : k < xs.length := (by first | assumption | omega | (simp only [List.length_set]; first | assumption | omega) | (simp only [List.getElem_set_self, List.length_set]; first | assumption | omega) | (simp only [setW, setLk, List.length_set]; first | assumption | omega))
      refine J_st (R_index (i := k) sl33 rfl rfl (hxs.ext E) hi1) rfl (J_st (R_loadS st103 rfl ((hxs.ext E).get hi1) rfl) rfl (J_st (R_move rfl) rfl (J_st (R_move rfl) rfl ?_)))
      have hi2 : k < ys.length := (by first | assumption | omega | (simp only [List.length_set]; first | assumption | omega) | (simp only [List.getElem_set_self, List.length_set]; first | assumption | omega) | (simp only [setW, setLk, List.length_set]; first | assumption | omega))
      refine J_st (R_index (i := k) sl33 rfl rfl (hys.ext E) hi2) rfl (J_st (R_loadS st103 rfl ((hys.ext E).get hi2) rfl) rfl ?_)
      refine J_call Try.call66 rfl (c_eqToken (xs[k]'hi1) (ys[k]'hi2) _ ) rfl (fun _ w3 e2 hv => ?_)
      subst hv
      replace E := E.trans e2
      have z3 := e2.size
      refine J_st (R_not rfl) rfl (J_done ?_)
      refine S_cond rfl (fun hc3 => ?_) (fun hc3 => ?_)
      · refine S_seq ?_
        refine S_reg [true] rfl rfl ?_
        refine J_st (R_assign rfl) rfl (J_done ?_)
        refine S_ret (E_inB_ret (E_lp_ret (E_inB_ret (E_done1 rfl rfl E ?_))))
        exact eqS_no (by omega) (by omega) (by simpa using hc3)
      · refine S_skip ?_
        refine S_nil (E_inB ?_)
        refine S_reg [true, true, true] rfl rfl ?_
        refine J_st (R_move rfl) rfl (J_st (R_add rfl rfl (add_one hc2n hxs.1)) rfl (J_st (R_assign rfl) rfl (J_done ?_)))
        refine S_nil (E_again (k + 1) (by omega) ⟨rfl, rfl, rfl, rfl, trivial⟩ ⟨E, (by omega), (by omega), eqS_step hp (by assumption) (by omega) (by simpa using hc3)⟩)
    · have hc2n : ¬ k < xs.length := by first | (have h := of_decide_eq_false hc2; omega) | (have h := hc2; simp at h; omega)
      refine S_exit (E_lp_exit (E_inB_exit ?_))
      refine S_seq ?_
      refine S_reg [true] rfl rfl ?_
      refine J_st (R_assign rfl) rfl (J_done ?_)
      refine S_ret (E_done1 rfl rfl E ?_)
      exact eqS_yes hp hc1n (by omega)

set_option maxRecDepth 20000 in
theorem c_eqNews (x : News) (y : News) (w : World)  : Ct Try.prog 67 [.agg (Enc.enc x).toArray, .agg (Enc.enc y).toArray] w (fun v _ => v = .bool (decide (x = y))) := by
  refine ct_of Try.func67 rfl Try.ntmps67 rfl ?_
  refine S_sub [(0, .agg (Enc.enc x).toArray), (1, .agg (Enc.enc y).toArray)] ⟨rfl, rfl, trivial⟩ ?_
  have E : Ext w w := Ext.refl w
  refine S_seq ?_
  refine S_reg [false, false, true] rfl rfl ?_
  refine J_box rfl rfl (fun b1 w1 e1 s1 h1 => ?_)
  have g_b1 : w.heap.size ≤ b1 := by have := E.size; omega
  have y_b1 := h1.lt
  replace E := E.trans e1
  have z1 := e1.size
  refine J_box rfl rfl (fun b2 w2 e2 s2 h2 => ?_)
  have g_b2 : w.heap.size ≤ b2 := by have := E.size; omega
  have y_b2 := h2.lt
  replace E := E.trans e2; replace h1 := h1.ext e2
  have z2 := e2.size
  refine J_st (R_assign rfl) rfl (J_done ?_)
  refine S_seq ?_
  refine S_seq ?_
  refine S_reg [true, true, true, true, true] rfl rfl ?_
  refine J_st (R_fieldAddr0 fl106_0 rfl) rfl (J_st (R_load sc3 rfl (h1.one 0 rfl)) rfl (J_st (R_fieldAddr0 fl106_0 rfl) rfl (J_st (R_load sc3 rfl (h2.one 0 rfl)) rfl (J_st (R_neq rfl rfl) rfl (J_done ?_)))))
  refine S_cond rfl (fun hc1 => ?_) (fun hc1 => ?_)
  · refine S_seq ?_
    refine S_reg [true] rfl rfl ?_
    refine J_st (R_assign rfl) rfl (J_done ?_)
    refine S_ret (E_done1 rfl rfl E ?_)
    cases x; cases y; simp_all
  · refine S_skip ?_
    refine S_seq ?_
    refine S_seq ?_
    refine S_reg [true, true, true, true, true] rfl rfl ?_
    refine J_st (R_fieldAddr0 fl106_1 rfl) rfl (J_st (R_load sc3 rfl (h1.one 1 rfl)) rfl (J_st (R_fieldAddr0 fl106_1 rfl) rfl (J_st (R_load sc3 rfl (h2.one 1 rfl)) rfl (J_st (R_neq rfl rfl) rfl (J_done ?_)))))
    refine S_cond rfl (fun hc2 => ?_) (fun hc2 => ?_)
    · refine S_seq ?_
      refine S_reg [true] rfl rfl ?_
      refine J_st (R_assign rfl) rfl (J_done ?_)
      refine S_ret (E_done1 rfl rfl E ?_)
      cases x; cases y; simp_all
    · refine S_skip ?_
      refine S_seq ?_
      refine S_seq ?_
      refine S_reg [true, true, true, true, true] rfl rfl ?_
      refine J_st (R_fieldAddr0 fl106_2 rfl) rfl (J_st (R_load sc4 rfl (h1.one 2 rfl)) rfl (J_st (R_fieldAddr0 fl106_2 rfl) rfl (J_st (R_load sc4 rfl (h2.one 2 rfl)) rfl (J_st (R_neqB (Try.underlying4) rfl rfl) rfl (J_done ?_)))))
      refine S_cond rfl (fun hc3 => ?_) (fun hc3 => ?_)
      · refine S_seq ?_
        refine S_reg [true] rfl rfl ?_
        refine J_st (R_assign rfl) rfl (J_done ?_)
        refine S_ret (E_done1 rfl rfl E ?_)
        cases x; cases y; simp_all
      · refine S_skip ?_
        refine S_seq ?_
        refine S_reg [true] rfl rfl ?_
        refine J_st (R_assign rfl) rfl (J_done ?_)
        refine S_ret (E_done1 rfl rfl E ?_)
        cases x; cases y; simp_all

set_option maxRecDepth 20000 in
theorem c_eqNewsS (vxs : Value) (xs : List News) (vys : Value) (ys : List News) (w : World) (hxs : RdS w vxs xs) (hys : RdS w vys ys) : Ct Try.prog 36 [vxs, vys] w (fun v _ => v = .bool (decide (xs = ys))) := by
  refine ct_of Try.func36 rfl Try.ntmps36 rfl ?_
  refine S_sub [(0, vxs), (1, vys)] ⟨rfl, rfl, trivial⟩ ?_
  have E : Ext w w := Ext.refl w
  refine S_seq ?_
  refine S_reg [true] rfl rfl ?_
  refine J_st (R_assign rfl) rfl (J_done ?_)
  refine S_seq ?_
  refine S_seq ?_
  refine S_reg [true, true, true, true, true] rfl rfl ?_
  refine J_st (R_move rfl) rfl (J_st (R_len Try.underlying34 rfl (hxs.ext E).len) rfl (J_st (R_move rfl) rfl (J_st (R_len Try.underlying34 rfl (hys.ext E).len) rfl (J_st (R_neq rfl rfl) rfl (J_done ?_)))))
  refine S_cond rfl (fun hc1 => ?_) (fun hc1 => ?_)
  · have hc1n : ¬ xs.length = ys.length := by first | (have h := of_decide_eq_true hc1; omega) | (have h := hc1; simp at h; omega)
    refine S_seq ?_
    refine S_reg [true] rfl rfl ?_
    refine J_st (R_assign rfl) rfl (J_done ?_)
    refine S_ret (E_done1 rfl rfl E ?_)
    simp [eq_len hc1n]
  · have hc1n : xs.length = ys.length := by first | (have h := of_decide_eq_false hc1; omega) | (have h := hc1; simp at h; omega)
    refine S_skip ?_
    refine S_seq ?_
    refine S_seq ?_
    refine S_reg [true] rfl rfl ?_
    refine J_st (R_assign rfl) rfl (J_done ?_)
    refine S_block ?_
    refine S_loop (fun (k : Nat) => [(0, vxs), (1, vys), (4, .bool false), (5, .int .i64 ((k : Nat) : Int))]) (fun (k : Nat) w' => Ext w w' ∧ w.heap.size ≤ w'.heap.size ∧ k ≤ xs.length ∧ xs.take k = ys.take k) (fun (k : Nat) => xs.length - k) 0 ⟨rfl, rfl, rfl, rfl, trivial⟩ ⟨E, Nat.le_refl _, Nat.zero_le _, rfl⟩ ?_
    clear E
    rintro k w1 ⟨E, z1, hk, hp⟩
    refine S_seq ?_
    refine S_seq ?_
    refine S_reg [true, true, true, true] rfl rfl ?_
    refine J_st (R_move rfl) rfl (J_st (R_move rfl) rfl (J_st (R_len Try.underlying34 rfl (hxs.ext E).len) rfl (J_st (R_lss rfl rfl) rfl (J_done ?_))))
    refine S_cond rfl (fun hc2 => ?_) (fun hc2 => ?_)
    · have hc2n : k < xs.length := by first | (have h := of_decide_eq_true hc2; omega) | (have h := hc2; simp at h; omega)
      refine S_skip ?_
      refine S_seq ?_
      refine S_block ?_
      refine S_seq ?_
      refine S_regD mixed [(0, true), (1, true), (2, true), (3, true), (4, true), (5, true), (6, true), (7, true), (8, false), (9, true)] (by decide +kernel) rfl (fun w2 e1 => ?_)
      replace E := E.trans e1
      have z2 := e1.size
      refine J_st (R_move rfl) rfl (J_st (R_move rfl) rfl ?_)
      have hi1 : k < xs.length := (by first | assumption | omega | (simp only [List.length_set]; first | assumption | omega) | (simp only [List.getElem_set_self, List.length_set]; first | assumption | omega) | (simp only [setW, setLk, List.length_set]; first | assumption | omega))
      refine J_st (R_index (i := k) sl34 rfl rfl (hxs.ext E) hi1) rfl (J_st (R_loadS st106 rfl ((hxs.ext E).get hi1) rfl) rfl (J_st (R_move rfl) rfl (J_st (R_move rfl) rfl ?_)))
      have hi2 : k < ys.length := (by first | assumption | omega | (simp only [List.length_set]; first | assumption | omega) | (simp only [List.getElem_set_self, List.length_set]; first | assumption | omega) | (simp only [setW, setLk, List.length_set]; first | assumption | omega))
      refine J_st (R_index (i := k) sl34 rfl rfl (hys.ext E) hi2) rfl (J_st (R_loadS st106 rfl ((hys.ext E).get hi2) rfl) rfl ?_)
      refine J_call Try.call67 rfl (c_eqNews (xs[k]'hi1) (ys[k]'hi2) _ ) rfl (fun _ w3 e2 hv => ?_)
      subst hv
      replace E := E.trans e2
      have z3 := e2.size
      refine J_st (R_not rfl) rfl (J_done ?_)
      refine S_cond rfl (fun hc3 => ?_) (fun hc3 => ?_)
      · refine S_seq ?_
        refine S_reg [true] rfl rfl ?_
        refine J_st (R_assign rfl) rfl (J_done ?_)
        refine S_ret (E_inB_ret (E_lp_ret (E_inB_ret (E_done1 rfl rfl E ?_))))
        exact eqS_no (by omega) (by omega) (by simpa using hc3)
      · refine S_skip ?_
        refine S_nil (E_inB ?_)
        refine S_reg [true, true, true] rfl rfl ?_
        refine J_st (R_move rfl) rfl (J_st (R_add rfl rfl (add_one hc2n hxs.1)) rfl (J_st (R_assign rfl) rfl (J_done ?_)))
        refine S_nil (E_again (k + 1) (by omega) ⟨rfl, rfl, rfl, rfl, trivial⟩ ⟨E, (by omega), (by omega), eqS_step hp (by assumption) (by omega) (by simpa using hc3)⟩)
    · have hc2n : ¬ k < xs.length := by first | (have h := of_decide_eq_false hc2; omega) | (have h := hc2; simp at h; omega)
      refine S_exit (E_lp_exit (E_inB_exit ?_))
      refine S_seq ?_
      refine S_reg [true] rfl rfl ?_
      refine J_st (R_assign rfl) rfl (J_done ?_)
      refine S_ret (E_done1 rfl rfl E ?_)
      exact eqS_yes hp hc1n (by omega)

set_option maxRecDepth 20000 in
theorem c_eqLink (cx : List Value) (x : Link) (cy : List Value) (y : Link) (w : World) (hx : Dat.R w 0 w.heap.size cx x) (hy : Dat.R w 0 w.heap.size cy y) : Ct Try.prog 65 [.agg cx.toArray, .agg cy.toArray] w (fun v _ => v = .bool (decide (x = y))) := by
  refine ct_of Try.func65 rfl Try.ntmps65 rfl ?_
  obtain ⟨o1, rfl, hd1⟩ := Link.op hx
  obtain ⟨o2, rfl, hd2⟩ := Link.op hy
  refine S_sub [(0, .agg [.int .i64 x.cap, o1, .int .i64 x.credits, .int .i64 x.back, .int .i64 x.sent, .int .i64 x.got].toArray), (1, .agg [.int .i64 y.cap, o2, .int .i64 y.credits, .int .i64 y.back, .int .i64 y.sent, .int .i64 y.got].toArray)] ⟨rfl, rfl, trivial⟩ ?_
  have E : Ext w w := Ext.refl w
  refine S_seq ?_
  refine S_reg [false, false, true] rfl rfl ?_
  refine J_box rfl rfl (fun b1 w1 e1 s1 h1 => ?_)
  have g_b1 : w.heap.size ≤ b1 := by have := E.size; omega
  have y_b1 := h1.lt
  replace E := E.trans e1
  have z1 := e1.size
  refine J_box rfl rfl (fun b2 w2 e2 s2 h2 => ?_)
  have g_b2 : w.heap.size ≤ b2 := by have := E.size; omega
  have y_b2 := h2.lt
  replace E := E.trans e2; replace h1 := h1.ext e2
  have z2 := e2.size
  refine J_st (R_assign rfl) rfl (J_done ?_)
  refine S_seq ?_
  refine S_seq ?_
  refine S_reg [true, true, true, true, true] rfl rfl ?_
  refine J_st (R_fieldAddr0 fl66_0 rfl) rfl (J_st (R_load sc3 rfl (h1.one 0 rfl)) rfl (J_st (R_fieldAddr0 fl66_0 rfl) rfl (J_st (R_load sc3 rfl (h2.one 0 rfl)) rfl (J_st (R_neq rfl rfl) rfl (J_done ?_)))))
  refine S_cond rfl (fun hc1 => ?_) (fun hc1 => ?_)
  · refine S_seq ?_
    refine S_reg [true] rfl rfl ?_
    refine J_st (R_assign rfl) rfl (J_done ?_)
    refine S_ret (E_done1 rfl rfl E ?_)
    cases x; cases y; simp_all
  · refine S_skip ?_
    refine S_seq ?_
    refine S_seq ?_
    refine S_reg [true, true, true, true, false, true] rfl rfl ?_
    refine J_st (R_fieldAddr0 fl66_1 rfl) rfl (J_st (R_load sc40 rfl (h1.one 1 rfl)) rfl (J_st (R_fieldAddr0 fl66_1 rfl) rfl (J_st (R_load sc40 rfl (h2.one 1 rfl)) rfl ?_)))
    refine J_call Try.call12 rfl (c_eqRecordS o1 x.queue o2 y.queue _ (hd1.rd.ext E) (hd2.rd.ext E)) rfl (fun _ w3 e3 hv => ?_)
    subst hv
    replace E := E.trans e3; replace h1 := h1.ext e3; replace h2 := h2.ext e3
    have z3 := e3.size
    refine J_st (R_not rfl) rfl (J_done ?_)
    refine S_cond rfl (fun hc2 => ?_) (fun hc2 => ?_)
    · refine S_seq ?_
      refine S_reg [true] rfl rfl ?_
      refine J_st (R_assign rfl) rfl (J_done ?_)
      refine S_ret (E_done1 rfl rfl E ?_)
      cases x; cases y; simp_all
    · refine S_skip ?_
      refine S_seq ?_
      refine S_seq ?_
      refine S_reg [true, true, true, true, true] rfl rfl ?_
      refine J_st (R_fieldAddr0 fl66_2 rfl) rfl (J_st (R_load sc3 rfl (h1.one 2 rfl)) rfl (J_st (R_fieldAddr0 fl66_2 rfl) rfl (J_st (R_load sc3 rfl (h2.one 2 rfl)) rfl (J_st (R_neq rfl rfl) rfl (J_done ?_)))))
      refine S_cond rfl (fun hc3 => ?_) (fun hc3 => ?_)
      · refine S_seq ?_
        refine S_reg [true] rfl rfl ?_
        refine J_st (R_assign rfl) rfl (J_done ?_)
        refine S_ret (E_done1 rfl rfl E ?_)
        cases x; cases y; simp_all
      · refine S_skip ?_
        refine S_seq ?_
        refine S_seq ?_
        refine S_reg [true, true, true, true, true] rfl rfl ?_
        refine J_st (R_fieldAddr0 fl66_3 rfl) rfl (J_st (R_load sc3 rfl (h1.one 3 rfl)) rfl (J_st (R_fieldAddr0 fl66_3 rfl) rfl (J_st (R_load sc3 rfl (h2.one 3 rfl)) rfl (J_st (R_neq rfl rfl) rfl (J_done ?_)))))
        refine S_cond rfl (fun hc4 => ?_) (fun hc4 => ?_)
        · refine S_seq ?_
          refine S_reg [true] rfl rfl ?_
          refine J_st (R_assign rfl) rfl (J_done ?_)
          refine S_ret (E_done1 rfl rfl E ?_)
          cases x; cases y; simp_all
        · refine S_skip ?_
          refine S_seq ?_
          refine S_seq ?_
          refine S_reg [true, true, true, true, true] rfl rfl ?_
          refine J_st (R_fieldAddr0 fl66_4 rfl) rfl (J_st (R_load sc3 rfl (h1.one 4 rfl)) rfl (J_st (R_fieldAddr0 fl66_4 rfl) rfl (J_st (R_load sc3 rfl (h2.one 4 rfl)) rfl (J_st (R_neq rfl rfl) rfl (J_done ?_)))))
          refine S_cond rfl (fun hc5 => ?_) (fun hc5 => ?_)
          · refine S_seq ?_
            refine S_reg [true] rfl rfl ?_
            refine J_st (R_assign rfl) rfl (J_done ?_)
            refine S_ret (E_done1 rfl rfl E ?_)
            cases x; cases y; simp_all
          · refine S_skip ?_
            refine S_seq ?_
            refine S_seq ?_
            refine S_reg [true, true, true, true, true] rfl rfl ?_
            refine J_st (R_fieldAddr0 fl66_5 rfl) rfl (J_st (R_load sc3 rfl (h1.one 5 rfl)) rfl (J_st (R_fieldAddr0 fl66_5 rfl) rfl (J_st (R_load sc3 rfl (h2.one 5 rfl)) rfl (J_st (R_neq rfl rfl) rfl (J_done ?_)))))
            refine S_cond rfl (fun hc6 => ?_) (fun hc6 => ?_)
            · refine S_seq ?_
              refine S_reg [true] rfl rfl ?_
              refine J_st (R_assign rfl) rfl (J_done ?_)
              refine S_ret (E_done1 rfl rfl E ?_)
              cases x; cases y; simp_all
            · refine S_skip ?_
              refine S_seq ?_
              refine S_reg [true] rfl rfl ?_
              refine J_st (R_assign rfl) rfl (J_done ?_)
              refine S_ret (E_done1 rfl rfl E ?_)
              cases x; cases y; simp_all

set_option maxRecDepth 20000 in
theorem c_eqLinkS (vxs : Value) (xs : List Link) (vys : Value) (ys : List Link) (w : World) (hxs : RdD w 0 w.heap.size vxs xs) (hys : RdD w 0 w.heap.size vys ys) : Ct Try.prog 34 [vxs, vys] w (fun v _ => v = .bool (decide (xs = ys))) := by
  refine ct_of Try.func34 rfl Try.ntmps34 rfl ?_
  refine S_sub [(0, vxs), (1, vys)] ⟨rfl, rfl, trivial⟩ ?_
  have E : Ext w w := Ext.refl w
  refine S_seq ?_
  refine S_reg [true] rfl rfl ?_
  refine J_st (R_assign rfl) rfl (J_done ?_)
  refine S_seq ?_
  refine S_seq ?_
  refine S_reg [true, true, true, true, true] rfl rfl ?_
  refine J_st (R_move rfl) rfl (J_st (R_len Try.underlying32 rfl (hxs.ext E).len) rfl (J_st (R_move rfl) rfl (J_st (R_len Try.underlying32 rfl (hys.ext E).len) rfl (J_st (R_neq rfl rfl) rfl (J_done ?_)))))
  refine S_cond rfl (fun hc1 => ?_) (fun hc1 => ?_)
  · have hc1n : ¬ xs.length = ys.length := by first | (have h := of_decide_eq_true hc1; omega) | (have h := hc1; simp at h; omega)
    refine S_seq ?_
    refine S_reg [true] rfl rfl ?_
    refine J_st (R_assign rfl) rfl (J_done ?_)
    refine S_ret (E_done1 rfl rfl E ?_)
    simp [eq_len hc1n]
  · have hc1n : xs.length = ys.length := by first | (have h := of_decide_eq_false hc1; omega) | (have h := hc1; simp at h; omega)
    refine S_skip ?_
    refine S_seq ?_
    refine S_seq ?_
    refine S_reg [true] rfl rfl ?_
    refine J_st (R_assign rfl) rfl (J_done ?_)
    refine S_block ?_
    refine S_loop (fun (k : Nat) => [(0, vxs), (1, vys), (4, .bool false), (5, .int .i64 ((k : Nat) : Int))]) (fun (k : Nat) w' => Ext w w' ∧ w.heap.size ≤ w'.heap.size ∧ k ≤ xs.length ∧ xs.take k = ys.take k) (fun (k : Nat) => xs.length - k) 0 ⟨rfl, rfl, rfl, rfl, trivial⟩ ⟨E, Nat.le_refl _, Nat.zero_le _, rfl⟩ ?_
    clear E
    rintro k w1 ⟨E, z1, hk, hp⟩
    refine S_seq ?_
    refine S_seq ?_
    refine S_reg [true, true, true, true] rfl rfl ?_
    refine J_st (R_move rfl) rfl (J_st (R_move rfl) rfl (J_st (R_len Try.underlying32 rfl (hxs.ext E).len) rfl (J_st (R_lss rfl rfl) rfl (J_done ?_))))
    refine S_cond rfl (fun hc2 => ?_) (fun hc2 => ?_)
    · have hc2n : k < xs.length := by first | (have h := of_decide_eq_true hc2; omega) | (have h := hc2; simp at h; omega)
      refine S_skip ?_
      refine S_seq ?_
      refine S_block ?_
      refine S_seq ?_
      refine S_regD mixed [(0, true), (1, true), (2, true), (3, true), (4, true), (5, true), (6, true), (7, true), (8, false), (9, true)] (by decide +kernel) rfl (fun w2 e1 => ?_)
      replace E := E.trans e1
      have z2 := e1.size
      refine J_st (R_move rfl) rfl (J_st (R_move rfl) rfl ?_)
      have hi1 : k < xs.length := (by first | assumption | omega | (simp only [List.length_set]; first | assumption | omega) | (simp only [List.getElem_set_self, List.length_set]; first | assumption | omega) | (simp only [setW, setLk, List.length_set]; first | assumption | omega))
      obtain ⟨_, hr1, ha1⟩ := RdD.get hxs hi1
      obtain ⟨o1, rfl, hd1⟩ := Link.op hr1
      replace ha1 : At w (sblk vxs) (soff vxs + k * 6) [.int .i64 ((xs[k]'hi1).cap), o1, .int .i64 ((xs[k]'hi1).credits), .int .i64 ((xs[k]'hi1).back), .int .i64 ((xs[k]'hi1).sent), .int .i64 ((xs[k]'hi1).got)] := ha1
      refine J_st (R_index (i := k) sl32 rfl rfl (hxs.ext E).1 hi1) rfl (J_st (R_loadS st66 rfl (ha1.ext E) rfl) rfl (J_st (R_move rfl) rfl (J_st (R_move rfl) rfl ?_)))
      have hi2 : k < ys.length := (by first | assumption | omega | (simp only [List.length_set]; first | assumption | omega) | (simp only [List.getElem_set_self, List.length_set]; first | assumption | omega) | (simp only [setW, setLk, List.length_set]; first | assumption | omega))
      obtain ⟨_, hr2, ha2⟩ := RdD.get hys hi2
      obtain ⟨o2, rfl, hd2⟩ := Link.op hr2
      replace ha2 : At w (sblk vys) (soff vys + k * 6) [.int .i64 ((ys[k]'hi2).cap), o2, .int .i64 ((ys[k]'hi2).credits), .int .i64 ((ys[k]'hi2).back), .int .i64 ((ys[k]'hi2).sent), .int .i64 ((ys[k]'hi2).got)] := ha2
      refine J_st (R_index (i := k) sl32 rfl rfl (hys.ext E).1 hi2) rfl (J_st (R_loadS st66 rfl (ha2.ext E) rfl) rfl ?_)
      refine J_call Try.call65 rfl (c_eqLink [.int .i64 ((xs[k]'hi1).cap), o1, .int .i64 ((xs[k]'hi1).credits), .int .i64 ((xs[k]'hi1).back), .int .i64 ((xs[k]'hi1).sent), .int .i64 ((xs[k]'hi1).got)] (xs[k]'hi1) [.int .i64 ((ys[k]'hi2).cap), o2, .int .i64 ((ys[k]'hi2).credits), .int .i64 ((ys[k]'hi2).back), .int .i64 ((ys[k]'hi2).sent), .int .i64 ((ys[k]'hi2).got)] (ys[k]'hi2) _ (Link.mkR (xs[k]'hi1) (RdD.any (hd1.ext E))) (Link.mkR (ys[k]'hi2) (RdD.any (hd2.ext E)))) rfl (fun _ w3 e2 hv => ?_)
      subst hv
      replace E := E.trans e2
      have z3 := e2.size
      refine J_st (R_not rfl) rfl (J_done ?_)
      refine S_cond rfl (fun hc3 => ?_) (fun hc3 => ?_)
      · refine S_seq ?_
        refine S_reg [true] rfl rfl ?_
        refine J_st (R_assign rfl) rfl (J_done ?_)
        refine S_ret (E_inB_ret (E_lp_ret (E_inB_ret (E_done1 rfl rfl E ?_))))
        exact eqS_no (by omega) (by omega) (by simpa using hc3)
      · refine S_skip ?_
        refine S_nil (E_inB ?_)
        refine S_reg [true, true, true] rfl rfl ?_
        refine J_st (R_move rfl) rfl (J_st (R_add rfl rfl (add_one hc2n (hxs.ext E).1.1)) rfl (J_st (R_assign rfl) rfl (J_done ?_)))
        refine S_nil (E_again (k + 1) (by omega) ⟨rfl, rfl, rfl, rfl, trivial⟩ ⟨E, (by omega), (by omega), eqS_step hp (by assumption) (by omega) (by simpa using hc3)⟩)
    · have hc2n : ¬ k < xs.length := by first | (have h := of_decide_eq_false hc2; omega) | (have h := hc2; simp at h; omega)
      refine S_exit (E_lp_exit (E_inB_exit ?_))
      refine S_seq ?_
      refine S_reg [true] rfl rfl ?_
      refine J_st (R_assign rfl) rfl (J_done ?_)
      refine S_ret (E_done1 rfl rfl E ?_)
      exact eqS_yes hp hc1n (by omega)

set_option maxRecDepth 20000 in
theorem c_eqWorkerS (vxs : Value) (xs : List Worker) (vys : Value) (ys : List Worker) (w : World) (hxs : RdD w 0 w.heap.size vxs xs) (hys : RdD w 0 w.heap.size vys ys) : Ct Try.prog 33 [vxs, vys] w (fun v _ => v = .bool (decide (xs = ys))) := by
  refine ct_of Try.func33 rfl Try.ntmps33 rfl ?_
  refine S_sub [(0, vxs), (1, vys)] ⟨rfl, rfl, trivial⟩ ?_
  have E : Ext w w := Ext.refl w
  refine S_seq ?_
  refine S_reg [true] rfl rfl ?_
  refine J_st (R_assign rfl) rfl (J_done ?_)
  refine S_seq ?_
  refine S_seq ?_
  refine S_reg [true, true, true, true, true] rfl rfl ?_
  refine J_st (R_move rfl) rfl (J_st (R_len Try.underlying31 rfl (hxs.ext E).len) rfl (J_st (R_move rfl) rfl (J_st (R_len Try.underlying31 rfl (hys.ext E).len) rfl (J_st (R_neq rfl rfl) rfl (J_done ?_)))))
  refine S_cond rfl (fun hc1 => ?_) (fun hc1 => ?_)
  · have hc1n : ¬ xs.length = ys.length := by first | (have h := of_decide_eq_true hc1; omega) | (have h := hc1; simp at h; omega)
    refine S_seq ?_
    refine S_reg [true] rfl rfl ?_
    refine J_st (R_assign rfl) rfl (J_done ?_)
    refine S_ret (E_done1 rfl rfl E ?_)
    simp [eq_len hc1n]
  · have hc1n : xs.length = ys.length := by first | (have h := of_decide_eq_false hc1; omega) | (have h := hc1; simp at h; omega)
    refine S_skip ?_
    refine S_seq ?_
    refine S_seq ?_
    refine S_reg [true] rfl rfl ?_
    refine J_st (R_assign rfl) rfl (J_done ?_)
    refine S_block ?_
    refine S_loop (fun (k : Nat) => [(0, vxs), (1, vys), (4, .bool false), (5, .int .i64 ((k : Nat) : Int))]) (fun (k : Nat) w' => Ext w w' ∧ w.heap.size ≤ w'.heap.size ∧ k ≤ xs.length ∧ xs.take k = ys.take k) (fun (k : Nat) => xs.length - k) 0 ⟨rfl, rfl, rfl, rfl, trivial⟩ ⟨E, Nat.le_refl _, Nat.zero_le _, rfl⟩ ?_
    clear E
    rintro k w1 ⟨E, z1, hk, hp⟩
    refine S_seq ?_
    refine S_seq ?_
    refine S_reg [true, true, true, true] rfl rfl ?_
    refine J_st (R_move rfl) rfl (J_st (R_move rfl) rfl (J_st (R_len Try.underlying31 rfl (hxs.ext E).len) rfl (J_st (R_lss rfl rfl) rfl (J_done ?_))))
    refine S_cond rfl (fun hc2 => ?_) (fun hc2 => ?_)
    · have hc2n : k < xs.length := by first | (have h := of_decide_eq_true hc2; omega) | (have h := hc2; simp at h; omega)
      refine S_skip ?_
      refine S_seq ?_
      refine S_block ?_
      refine S_seq ?_
      refine S_regD mixed [(0, true), (1, true), (2, true), (3, true), (4, true), (5, true), (6, true), (7, true), (8, false), (9, true)] (by decide +kernel) rfl (fun w2 e1 => ?_)
      replace E := E.trans e1
      have z2 := e1.size
      refine J_st (R_move rfl) rfl (J_st (R_move rfl) rfl ?_)
      have hi1 : k < xs.length := (by first | assumption | omega | (simp only [List.length_set]; first | assumption | omega) | (simp only [List.getElem_set_self, List.length_set]; first | assumption | omega) | (simp only [setW, setLk, List.length_set]; first | assumption | omega))
      obtain ⟨_, hr1, ha1⟩ := RdD.get hxs hi1
      obtain ⟨o1, o2, o3, o4, o5, o6, o7, o8, rfl, hd1, hd2, hd3, hd4, hd5, hd6, hd7, hd8⟩ := Worker.op hr1
      replace ha1 : At w (sblk vxs) (soff vxs + k * 8) [o1, o2, o3, o4, o5, o6, o7, o8] := ha1
      refine J_st (R_index (i := k) sl31 rfl rfl (hxs.ext E).1 hi1) rfl (J_st (R_loadS st62 rfl (ha1.ext E) rfl) rfl (J_st (R_move rfl) rfl (J_st (R_move rfl) rfl ?_)))
      have hi2 : k < ys.length := (by first | assumption | omega | (simp only [List.length_set]; first | assumption | omega) | (simp only [List.getElem_set_self, List.length_set]; first | assumption | omega) | (simp only [setW, setLk, List.length_set]; first | assumption | omega))
      obtain ⟨_, hr2, ha2⟩ := RdD.get hys hi2
      obtain ⟨o9, o10, o11, o12, o13, o14, o15, o16, rfl, hd9, hd10, hd11, hd12, hd13, hd14, hd15, hd16⟩ := Worker.op hr2
      replace ha2 : At w (sblk vys) (soff vys + k * 8) [o9, o10, o11, o12, o13, o14, o15, o16] := ha2
      refine J_st (R_index (i := k) sl31 rfl rfl (hys.ext E).1 hi2) rfl (J_st (R_loadS st62 rfl (ha2.ext E) rfl) rfl ?_)
      refine J_call Try.call64 rfl (c_eqWorker [o1, o2, o3, o4, o5, o6, o7, o8] (xs[k]'hi1) [o9, o10, o11, o12, o13, o14, o15, o16] (ys[k]'hi2) _ (Worker.mkR (xs[k]'hi1) (RdD.any (hd1.ext E)) (RdD.any (hd2.ext E)) (RdD.any (hd3.ext E)) (RdD.any (hd4.ext E)) (RdD.any (hd5.ext E)) (RdD.any (hd6.ext E)) (RdD.any (hd7.ext E)) (RdD.any (hd8.ext E))) (Worker.mkR (ys[k]'hi2) (RdD.any (hd9.ext E)) (RdD.any (hd10.ext E)) (RdD.any (hd11.ext E)) (RdD.any (hd12.ext E)) (RdD.any (hd13.ext E)) (RdD.any (hd14.ext E)) (RdD.any (hd15.ext E)) (RdD.any (hd16.ext E)))) rfl (fun _ w3 e2 hv => ?_)
      subst hv
      replace E := E.trans e2
      have z3 := e2.size
      refine J_st (R_not rfl) rfl (J_done ?_)
      refine S_cond rfl (fun hc3 => ?_) (fun hc3 => ?_)
      · refine S_seq ?_
        refine S_reg [true] rfl rfl ?_
        refine J_st (R_assign rfl) rfl (J_done ?_)
        refine S_ret (E_inB_ret (E_lp_ret (E_inB_ret (E_done1 rfl rfl E ?_))))
        exact eqS_no (by omega) (by omega) (by simpa using hc3)
      · refine S_skip ?_
        refine S_nil (E_inB ?_)
        refine S_reg [true, true, true] rfl rfl ?_
        refine J_st (R_move rfl) rfl (J_st (R_add rfl rfl (add_one hc2n (hxs.ext E).1.1)) rfl (J_st (R_assign rfl) rfl (J_done ?_)))
        refine S_nil (E_again (k + 1) (by omega) ⟨rfl, rfl, rfl, rfl, trivial⟩ ⟨E, (by omega), (by omega), eqS_step hp (by assumption) (by omega) (by simpa using hc3)⟩)
    · have hc2n : ¬ k < xs.length := by first | (have h := of_decide_eq_false hc2; omega) | (have h := hc2; simp at h; omega)
      refine S_exit (E_lp_exit (E_inB_exit ?_))
      refine S_seq ?_
      refine S_reg [true] rfl rfl ?_
      refine J_st (R_assign rfl) rfl (J_done ?_)
      refine S_ret (E_done1 rfl rfl E ?_)
      exact eqS_yes hp hc1n (by omega)

set_option maxRecDepth 20000 in
theorem c_eqCluster (cx : List Value) (x : Cluster) (cy : List Value) (y : Cluster) (w : World) (hx : Dat.R w 0 w.heap.size cx x) (hy : Dat.R w 0 w.heap.size cy y) : Ct Try.prog 10 [.agg cx.toArray, .agg cy.toArray] w (fun v _ => v = .bool (decide (x = y))) := by
  refine ct_of Try.func10 rfl Try.ntmps10 rfl ?_
  obtain ⟨o1, o2, o3, o4, o5, rfl, hd1, hd2, hd3, hd4, hd5⟩ := Cluster.op hx
  obtain ⟨o6, o7, o8, o9, o10, rfl, hd6, hd7, hd8, hd9, hd10⟩ := Cluster.op hy
  refine S_sub [(0, .agg [o1, .int .i64 x.graph.workers, .int .i64 x.graph.cap, o2, o3, o4, o5].toArray), (1, .agg [o6, .int .i64 y.graph.workers, .int .i64 y.graph.cap, o7, o8, o9, o10].toArray)] ⟨rfl, rfl, trivial⟩ ?_
  have E : Ext w w := Ext.refl w
  refine S_seq ?_
  refine S_reg [false, false, true] rfl rfl ?_
  refine J_box rfl rfl (fun b1 w1 e1 s1 h1 => ?_)
  have g_b1 : w.heap.size ≤ b1 := by have := E.size; omega
  have y_b1 := h1.lt
  replace E := E.trans e1
  have z1 := e1.size
  refine J_box rfl rfl (fun b2 w2 e2 s2 h2 => ?_)
  have g_b2 : w.heap.size ≤ b2 := by have := E.size; omega
  have y_b2 := h2.lt
  replace E := E.trans e2; replace h1 := h1.ext e2
  have z2 := e2.size
  refine J_st (R_assign rfl) rfl (J_done ?_)
  refine S_seq ?_
  refine S_seq ?_
  refine S_reg [true, true, true, true, false, true] rfl rfl ?_
  refine J_st (R_fieldAddr0 fl36_0 rfl) rfl (J_st (R_loadS st30 rfl (h1.part 0 [o1, .int .i64 x.graph.workers, .int .i64 x.graph.cap] rfl) rfl) rfl (J_st (R_fieldAddr0 fl36_0 rfl) rfl (J_st (R_loadS st30 rfl (h2.part 0 [o6, .int .i64 y.graph.workers, .int .i64 y.graph.cap] rfl) rfl) rfl ?_)))
  refine J_call Try.call11 rfl (c_eqGraph [o1, .int .i64 x.graph.workers, .int .i64 x.graph.cap] x.graph [o6, .int .i64 y.graph.workers, .int .i64 y.graph.cap] y.graph _ (Graph.mkR x.graph (RdD.any (hd1.ext E))) (Graph.mkR y.graph (RdD.any (hd6.ext E)))) rfl (fun _ w3 e3 hv => ?_)
  subst hv
  replace E := E.trans e3; replace h1 := h1.ext e3; replace h2 := h2.ext e3
  have z3 := e3.size
  refine J_st (R_not rfl) rfl (J_done ?_)
  refine S_cond rfl (fun hc1 => ?_) (fun hc1 => ?_)
  · refine S_seq ?_
    refine S_reg [true] rfl rfl ?_
    refine J_st (R_assign rfl) rfl (J_done ?_)
    refine S_ret (E_done1 rfl rfl E ?_)
    cases x; cases y; simp_all
  · refine S_skip ?_
    refine S_seq ?_
    refine S_seq ?_
    refine S_reg [true, true, true, true, false, true] rfl rfl ?_
    refine J_st (R_fieldAddr0 fl36_1 rfl) rfl (J_st (R_load sc31 rfl (h1.one 3 rfl)) rfl (J_st (R_fieldAddr0 fl36_1 rfl) rfl (J_st (R_load sc31 rfl (h2.one 3 rfl)) rfl ?_)))
    refine J_call Try.call33 rfl (c_eqWorkerS o2 x.workers o7 y.workers _ (RdD.any (hd2.ext E)) (RdD.any (hd7.ext E))) rfl (fun _ w4 e4 hv => ?_)
    subst hv
    replace E := E.trans e4; replace h1 := h1.ext e4; replace h2 := h2.ext e4
    have z4 := e4.size
    refine J_st (R_not rfl) rfl (J_done ?_)
    refine S_cond rfl (fun hc2 => ?_) (fun hc2 => ?_)
    · refine S_seq ?_
      refine S_reg [true] rfl rfl ?_
      refine J_st (R_assign rfl) rfl (J_done ?_)
      refine S_ret (E_done1 rfl rfl E ?_)
      cases x; cases y; simp_all
    · refine S_skip ?_
      refine S_seq ?_
      refine S_seq ?_
      refine S_reg [true, true, true, true, false, true] rfl rfl ?_
      refine J_st (R_fieldAddr0 fl36_2 rfl) rfl (J_st (R_load sc32 rfl (h1.one 4 rfl)) rfl (J_st (R_fieldAddr0 fl36_2 rfl) rfl (J_st (R_load sc32 rfl (h2.one 4 rfl)) rfl ?_)))
      refine J_call Try.call34 rfl (c_eqLinkS o3 x.links o8 y.links _ (RdD.any (hd3.ext E)) (RdD.any (hd8.ext E))) rfl (fun _ w5 e5 hv => ?_)
      subst hv
      replace E := E.trans e5; replace h1 := h1.ext e5; replace h2 := h2.ext e5
      have z5 := e5.size
      refine J_st (R_not rfl) rfl (J_done ?_)
      refine S_cond rfl (fun hc3 => ?_) (fun hc3 => ?_)
      · refine S_seq ?_
        refine S_reg [true] rfl rfl ?_
        refine J_st (R_assign rfl) rfl (J_done ?_)
        refine S_ret (E_done1 rfl rfl E ?_)
        cases x; cases y; simp_all
      · refine S_skip ?_
        refine S_seq ?_
        refine S_seq ?_
        refine S_reg [true, true, true, true, false, true] rfl rfl ?_
        refine J_st (R_fieldAddr0 fl36_3 rfl) rfl (J_st (R_load sc33 rfl (h1.one 5 rfl)) rfl (J_st (R_fieldAddr0 fl36_3 rfl) rfl (J_st (R_load sc33 rfl (h2.one 5 rfl)) rfl ?_)))
        refine J_call Try.call35 rfl (c_eqTokenS o4 x.tokens o9 y.tokens _ (hd4.rd.ext E) (hd9.rd.ext E)) rfl (fun _ w6 e6 hv => ?_)
        subst hv
        replace E := E.trans e6; replace h1 := h1.ext e6; replace h2 := h2.ext e6
        have z6 := e6.size
        refine J_st (R_not rfl) rfl (J_done ?_)
        refine S_cond rfl (fun hc4 => ?_) (fun hc4 => ?_)
        · refine S_seq ?_
          refine S_reg [true] rfl rfl ?_
          refine J_st (R_assign rfl) rfl (J_done ?_)
          refine S_ret (E_done1 rfl rfl E ?_)
          cases x; cases y; simp_all
        · refine S_skip ?_
          refine S_seq ?_
          refine S_seq ?_
          refine S_reg [true, true, true, true, false, true] rfl rfl ?_
          refine J_st (R_fieldAddr0 fl36_4 rfl) rfl (J_st (R_load sc34 rfl (h1.one 6 rfl)) rfl (J_st (R_fieldAddr0 fl36_4 rfl) rfl (J_st (R_load sc34 rfl (h2.one 6 rfl)) rfl ?_)))
          refine J_call Try.call36 rfl (c_eqNewsS o5 x.news o10 y.news _ (hd5.rd.ext E) (hd10.rd.ext E)) rfl (fun _ w7 e7 hv => ?_)
          subst hv
          replace E := E.trans e7; replace h1 := h1.ext e7; replace h2 := h2.ext e7
          have z7 := e7.size
          refine J_st (R_not rfl) rfl (J_done ?_)
          refine S_cond rfl (fun hc5 => ?_) (fun hc5 => ?_)
          · refine S_seq ?_
            refine S_reg [true] rfl rfl ?_
            refine J_st (R_assign rfl) rfl (J_done ?_)
            refine S_ret (E_done1 rfl rfl E ?_)
            cases x; cases y; simp_all
          · refine S_skip ?_
            refine S_seq ?_
            refine S_reg [true] rfl rfl ?_
            refine J_st (R_assign rfl) rfl (J_done ?_)
            refine S_ret (E_done1 rfl rfl E ?_)
            cases x; cases y; simp_all

set_option maxRecDepth 20000 in
theorem c_Brought (n : Int) (a : Int) (b : Int) (w : World)  : Ct Try.prog 63 [.int .i64 n, .int .i64 a, .int .i64 b] w (fun v _ => v = .int .i64 (brM n a b)) := by
  refine ct_of Try.func63 rfl Try.ntmps63 rfl ?_
  refine S_sub [(0, .int .i64 n), (1, .int .i64 a), (2, .int .i64 b)] ⟨rfl, rfl, rfl, trivial⟩ ?_
  have E : Ext w w := Ext.refl w
  refine S_seq ?_
  refine S_reg [true] rfl rfl ?_
  refine J_st (R_assign rfl) rfl (J_done ?_)
  refine S_seq ?_
  refine S_seq ?_
  refine S_reg [true, true, true, true, true, true, true, true] rfl rfl ?_
  refine J_st (R_move rfl) rfl (J_st (R_move rfl) rfl (J_st (R_lss rfl rfl) rfl (J_st (R_move rfl) rfl ?_)))
  refine J_cut 4 [(0, .int .i64 n), (1, .int .i64 a), (2, .int .i64 b), (6, .int .i64 0), (14, .bool ((decide (b < a)) || (decide (n < a))))] (fun w' => w = w') ?_ ?_
  · refine J_if (gd := 10) rfl rfl (fun hg1 => ?_) (fun hg1 => ?_)
    · refine J_gdno rfl rfl rfl rfl (J_gdno rfl rfl rfl rfl (J_gdno rfl rfl rfl rfl (J_st (R_pickT rfl rfl) rfl (J_cutEnd ⟨rfl, rfl, rfl, rfl, congrArg (fun b => some (Value.bool b)) (show true = ((decide (b < a)) || (decide (n < a))) by first | (rw [hg1] <;> rfl) | (simp [hg1]; done) | (simp only [nat_nlt] <;> simp)), trivial⟩ rfl))))
    · refine J_gd rfl rfl (R_move rfl) rfl (J_gd rfl rfl (R_move rfl) rfl (J_gd rfl rfl (R_lss rfl rfl) rfl (J_st (R_pickF rfl rfl) rfl (J_cutEnd ⟨rfl, rfl, rfl, rfl, congrArg (fun b => some (Value.bool b)) (show (decide (n < a)) = ((decide (b < a)) || (decide (n < a))) by first | (rw [hg1] <;> rfl) | (simp [hg1]; done) | (simp only [nat_nlt] <;> simp)), trivial⟩ rfl))))
  rintro _ rfl
  refine J_done ?_
  refine S_cond rfl (fun hc1 => ?_) (fun hc1 => ?_)
  · refine S_seq ?_
    refine S_reg [true, true] rfl rfl ?_
    refine J_st (R_move rfl) rfl (J_st (R_assign rfl) rfl (J_done ?_))
    refine S_ret (E_done1 rfl rfl E ?_)
    rw [brM, if_pos hc1]
  · refine S_skip ?_
    refine S_seq ?_
    refine S_reg [true, true, true, true] rfl rfl ?_
    refine J_st (R_move rfl) rfl (J_st (R_move rfl) rfl (J_st (R_min rfl rfl) rfl (J_st (R_assign rfl) rfl (J_done ?_))))
    refine S_ret (E_done1 rfl rfl E ?_)
    rw [brM, if_neg (nof hc1)]

set_option maxRecDepth 20000 in
theorem s_Brought (n : Int) (a : Int) (b : Int) (w : World)  : Ct Try.prog 54 [.int .i64 n, .int .i64 a, .int .i64 b] w (fun v _ => v = .int .i64 (brM n a b)) := by
  refine ct_of Try.func54 rfl Try.ntmps54 rfl ?_
  refine S_sub [(0, .int .i64 n), (1, .int .i64 a), (2, .int .i64 b)] ⟨rfl, rfl, rfl, trivial⟩ ?_
  have E : Ext w w := Ext.refl w
  refine S_seq ?_
  refine S_reg [true] rfl rfl ?_
  refine J_st (R_assign rfl) rfl (J_done ?_)
  refine S_seq ?_
  refine S_seq ?_
  refine S_reg [true, true, true, true, true, true, true, true] rfl rfl ?_
  refine J_st (R_move rfl) rfl (J_st (R_move rfl) rfl (J_st (R_lss rfl rfl) rfl (J_st (R_move rfl) rfl ?_)))
  refine J_cut 4 [(0, .int .i64 n), (1, .int .i64 a), (2, .int .i64 b), (6, .int .i64 0), (14, .bool ((decide (b < a)) || (decide (n < a))))] (fun w' => w = w') ?_ ?_
  · refine J_if (gd := 10) rfl rfl (fun hg1 => ?_) (fun hg1 => ?_)
    · refine J_gdno rfl rfl rfl rfl (J_gdno rfl rfl rfl rfl (J_gdno rfl rfl rfl rfl (J_st (R_pickT rfl rfl) rfl (J_cutEnd ⟨rfl, rfl, rfl, rfl, congrArg (fun b => some (Value.bool b)) (show true = ((decide (b < a)) || (decide (n < a))) by first | (rw [hg1] <;> rfl) | (simp [hg1]; done) | (simp only [nat_nlt] <;> simp)), trivial⟩ rfl))))
    · refine J_gd rfl rfl (R_move rfl) rfl (J_gd rfl rfl (R_move rfl) rfl (J_gd rfl rfl (R_lss rfl rfl) rfl (J_st (R_pickF rfl rfl) rfl (J_cutEnd ⟨rfl, rfl, rfl, rfl, congrArg (fun b => some (Value.bool b)) (show (decide (n < a)) = ((decide (b < a)) || (decide (n < a))) by first | (rw [hg1] <;> rfl) | (simp [hg1]; done) | (simp only [nat_nlt] <;> simp)), trivial⟩ rfl))))
  rintro _ rfl
  refine J_done ?_
  refine S_cond rfl (fun hc1 => ?_) (fun hc1 => ?_)
  · refine S_seq ?_
    refine S_reg [true, true] rfl rfl ?_
    refine J_st (R_move rfl) rfl (J_st (R_assign rfl) rfl (J_done ?_))
    refine S_ret (E_done1 rfl rfl E ?_)
    rw [brM, if_pos hc1]
  · refine S_skip ?_
    refine S_seq ?_
    refine S_seq ?_
    refine S_reg [true, true, true] rfl rfl ?_
    refine J_st (R_move rfl) rfl (J_st (R_move rfl) rfl (J_st (R_gtr rfl rfl) rfl (J_done ?_)))
    refine S_cond rfl (fun hc2 => ?_) (fun hc2 => ?_)
    · refine S_seq ?_
      refine S_reg [true, true] rfl rfl ?_
      refine J_st (R_move rfl) rfl (J_st (R_assign rfl) rfl (J_done ?_))
      refine S_ret (E_done1 rfl rfl E ?_)
      rw [brM, if_neg (nof hc1), if_pos (of_decide_eq_true hc2)]
    · refine S_skip ?_
      refine S_seq ?_
      refine S_reg [true, true] rfl rfl ?_
      refine J_st (R_move rfl) rfl (J_st (R_assign rfl) rfl (J_done ?_))
      refine S_ret (E_done1 rfl rfl E ?_)
      rw [brM, if_neg (nof hc1), if_neg (of_decide_eq_false hc2)]

set_option maxRecDepth 20000 in
theorem markTokenS (vxs : Value) (lo hi : Nat) (xs : List Token) (k : Nat) (w : World) (hxs : Own w lo hi 5 vxs (List.flatMap (Enc.enc (α := Token)) xs)) (hb : k + xs.length * 5 ≤ 1099511627776) : CtR Try.prog 42 [vxs, .int .i64 ((k : Nat) : Int)] w lo hi (fun v w' => v = .int .i64 ((k + 5 * xs.length : Nat) : Int) ∧ Own w' lo hi 5 vxs (List.flatMap (Enc.enc (α := Token)) (mkL 5 mkToken k xs.length))) := by
  refine ctR_of Try.func42 rfl Try.ntmps42 rfl ?_
  refine S_sub [(0, vxs), (1, .int .i64 ((k : Nat) : Int))] ⟨rfl, rfl, trivial⟩ ?_
  have E : ModR w w lo hi := ModR.refl w lo hi
  refine S_seq ?_
  refine S_reg [true] rfl rfl ?_
  refine J_st (R_assign rfl) rfl (J_done ?_)
  refine S_seq ?_
  refine S_seq ?_
  refine S_reg [true] rfl rfl ?_
  refine J_st (R_assign rfl) rfl (J_done ?_)
  refine S_block ?_
  refine S_loop (fun (xq : Nat × Nat × List Token) => let ⟨i, q, bs⟩ := xq; [(0, vxs), (1, .int .i64 ((q : Nat) : Int)), (4, .int .i64 0), (5, .int .i64 ((i : Nat) : Int))]) (fun (xq : Nat × Nat × List Token) w' => let ⟨i, q, bs⟩ := xq; ModR w w' lo hi ∧ w.heap.size ≤ w'.heap.size ∧ i + bs.length = xs.length ∧ q = k + 5 * i ∧ Own w' lo hi 5 vxs (List.flatMap (Enc.enc (α := Token)) (mkL 5 mkToken k i ++ bs))) (fun (xq : Nat × Nat × List Token) => let ⟨i, q, bs⟩ := xq; xs.length - i) (0, k, xs) ⟨rfl, rfl, rfl, rfl, trivial⟩ ⟨E, Nat.le_refl _, (by simp), (by simp), (by simpa [mkL] using hxs)⟩ ?_
  clear E hxs
  rintro ⟨i, q, bs⟩ w1 ⟨E, z1, hi, hq, hxs⟩
  refine S_sub [(0, vxs), (1, .int .i64 ((q : Nat) : Int)), (4, .int .i64 0), (5, .int .i64 ((i : Nat) : Int))] ⟨rfl, rfl, rfl, rfl, trivial⟩ ?_
  refine S_seq ?_
  refine S_seq ?_
  refine S_reg [true, true, true, true] rfl rfl ?_
  refine J_st (R_move rfl) rfl (J_st (R_move rfl) rfl (J_st (R_len Try.underlying33 rfl (Own.lenE (by decide) hxs (by simp only [List.length_append, mkL_length, List.length_cons]; omega))) rfl (J_st (R_lss rfl rfl) rfl (J_done ?_))))
  refine S_cond rfl (fun hc1 => ?_) (fun hc1 => ?_)
  · rcases bs with _ | ⟨x, bs⟩
    · exact absurd hi (by have h := hc1; simp at h ⊢; omega)
    simp only [List.length_cons] at hi
    have hc1n : i < xs.length := by first | (have h := of_decide_eq_true hc1; omega) | (have h := hc1; simp at h; omega)
    refine S_skip ?_
    refine S_seq ?_
    refine S_block ?_
    refine S_seq ?_
    refine S_reg [true, true, true, true, true, true, true, false] rfl rfl ?_
    refine J_st (R_move rfl) rfl (J_st (R_move rfl) rfl (J_st (R_move rfl) rfl (J_st (R_rem rfl rfl (by decide) rfl) rfl (J_st (R_eql rfl rfl) rfl (J_st (R_index sl33 rfl rfl (Own.rd (by decide) hxs) (by simp only [List.length_append, mkL_length, List.length_cons]; omega)) rfl (J_st (R_fieldAddr fl103_0 rfl) rfl ?_))))))
    refine J_storeOwn (α := Token) (i := i) (f := 0) (⟨(Int.tmod ((q : Nat) : Int) 3) == 0, x.place, x.sum, x.black, x.capped⟩ : Token) sc4 rfl rfl rfl rfl hxs (mkL_length _ _ _ _) (by decide) rfl (fun w2 m1 hxs' => ?_)
    have hq := hxs.blk
    replace hxs := hxs'
    replace E := E.mod m1 (fun g hg => by have := hq g hg; omega)
    have z2 := m1.size
    clear hq
    refine J_done ?_
    refine S_seq ?_
    refine S_reg [true, true, true] rfl rfl ?_
    refine J_st (R_move rfl) rfl (J_st (R_add rfl rfl (add_nat (by unfold maxLen; omega))) rfl (J_st (R_assign rfl) rfl (J_done ?_)))
    refine S_seq ?_
    refine S_reg [true, true, true, true, true, false] rfl rfl ?_
    refine J_st (R_move rfl) rfl (J_st (R_move rfl) rfl (J_st (R_move rfl) rfl (J_st (R_index sl33 rfl rfl (Own.rd (by decide) hxs) (by simp only [List.length_append, mkL_length, List.length_cons]; omega)) rfl (J_st (R_fieldAddr fl103_1 rfl) rfl ?_))))
    refine J_storeOwn (α := Token) (i := i) (f := 1) (⟨(Int.tmod ((q : Nat) : Int) 3) == 0, ((q + 1 : Nat) : Int), x.sum, x.black, x.capped⟩ : Token) sc3 rfl rfl rfl rfl hxs (mkL_length _ _ _ _) (by decide) rfl (fun w3 m2 hxs' => ?_)
    have hq := hxs.blk
    replace hxs := hxs'
    replace E := E.mod m2 (fun g hg => by have := hq g hg; omega)
    have z3 := m2.size
    clear hq
    refine J_done ?_
    refine S_seq ?_
    refine S_reg [true, true, true] rfl rfl ?_
    refine J_st (R_move rfl) rfl (J_st (R_add rfl rfl (add_nat (by unfold maxLen; omega))) rfl (J_st (R_assign rfl) rfl (J_done ?_)))
    refine S_seq ?_
    refine S_reg [true, true, true, true, true, false] rfl rfl ?_
    refine J_st (R_move rfl) rfl (J_st (R_move rfl) rfl (J_st (R_move rfl) rfl (J_st (R_index sl33 rfl rfl (Own.rd (by decide) hxs) (by simp only [List.length_append, mkL_length, List.length_cons]; omega)) rfl (J_st (R_fieldAddr fl103_2 rfl) rfl ?_))))
    refine J_storeOwn (α := Token) (i := i) (f := 2) (⟨(Int.tmod ((q : Nat) : Int) 3) == 0, ((q + 1 : Nat) : Int), ((q + 1 + 1 : Nat) : Int), x.black, x.capped⟩ : Token) sc3 rfl rfl rfl rfl hxs (mkL_length _ _ _ _) (by decide) rfl (fun w4 m3 hxs' => ?_)
    have hq := hxs.blk
    replace hxs := hxs'
    replace E := E.mod m3 (fun g hg => by have := hq g hg; omega)
    have z4 := m3.size
    clear hq
    refine J_done ?_
    refine S_seq ?_
    refine S_reg [true, true, true] rfl rfl ?_
    refine J_st (R_move rfl) rfl (J_st (R_add rfl rfl (add_nat (by unfold maxLen; omega))) rfl (J_st (R_assign rfl) rfl (J_done ?_)))
    refine S_seq ?_
    refine S_reg [true, true, true, true, true, true, true, false] rfl rfl ?_
    refine J_st (R_move rfl) rfl (J_st (R_move rfl) rfl (J_st (R_move rfl) rfl (J_st (R_rem rfl rfl (by decide) rfl) rfl (J_st (R_eql rfl rfl) rfl (J_st (R_index sl33 rfl rfl (Own.rd (by decide) hxs) (by simp only [List.length_append, mkL_length, List.length_cons]; omega)) rfl (J_st (R_fieldAddr fl103_3 rfl) rfl ?_))))))
    refine J_storeOwn (α := Token) (i := i) (f := 3) (⟨(Int.tmod ((q : Nat) : Int) 3) == 0, ((q + 1 : Nat) : Int), ((q + 1 + 1 : Nat) : Int), (Int.tmod ((q + 1 + 1 + 1 : Nat) : Int) 3) == 0, x.capped⟩ : Token) sc4 rfl rfl rfl rfl hxs (mkL_length _ _ _ _) (by decide) rfl (fun w5 m4 hxs' => ?_)
    have hq := hxs.blk
    replace hxs := hxs'
    replace E := E.mod m4 (fun g hg => by have := hq g hg; omega)
    have z5 := m4.size
    clear hq
    refine J_done ?_
    refine S_seq ?_
    refine S_reg [true, true, true] rfl rfl ?_
    refine J_st (R_move rfl) rfl (J_st (R_add rfl rfl (add_nat (by unfold maxLen; omega))) rfl (J_st (R_assign rfl) rfl (J_done ?_)))
    refine S_seq ?_
    refine S_reg [true, true, true, true, true, true, true, false] rfl rfl ?_
    refine J_st (R_move rfl) rfl (J_st (R_move rfl) rfl (J_st (R_move rfl) rfl (J_st (R_rem rfl rfl (by decide) rfl) rfl (J_st (R_eql rfl rfl) rfl (J_st (R_index sl33 rfl rfl (Own.rd (by decide) hxs) (by simp only [List.length_append, mkL_length, List.length_cons]; omega)) rfl (J_st (R_fieldAddr fl103_4 rfl) rfl ?_))))))
    refine J_storeOwn (α := Token) (i := i) (f := 4) (⟨(Int.tmod ((q : Nat) : Int) 3) == 0, ((q + 1 : Nat) : Int), ((q + 1 + 1 : Nat) : Int), (Int.tmod ((q + 1 + 1 + 1 : Nat) : Int) 3) == 0, (Int.tmod ((q + 1 + 1 + 1 + 1 : Nat) : Int) 3) == 0⟩ : Token) sc4 rfl rfl rfl rfl hxs (mkL_length _ _ _ _) (by decide) rfl (fun w6 m5 hxs' => ?_)
    have hq := hxs.blk
    replace hxs := hxs'
    replace E := E.mod m5 (fun g hg => by have := hq g hg; omega)
    have z6 := m5.size
    clear hq
    refine J_done ?_
    refine S_reg [true, true, true] rfl rfl ?_
    refine J_st (R_move rfl) rfl (J_st (R_add rfl rfl (add_nat (by unfold maxLen; omega))) rfl (J_st (R_assign rfl) rfl (J_done ?_)))
    refine S_nil (E_inB ?_)
    refine S_reg [true, true, true] rfl rfl ?_
    refine J_st (R_move rfl) rfl (J_st (R_add rfl rfl (add_nat (by unfold maxLen; omega))) rfl (J_st (R_assign rfl) rfl (J_done ?_)))
    refine S_nil (E_again (i + 1, q + 1 + 1 + 1 + 1 + 1, bs) (by simp; omega) ⟨rfl, rfl, rfl, rfl, trivial⟩ ⟨E, (by omega), (by omega), (by omega), (by subst hq; rw [← mkL_succ]; exact hxs)⟩)
  · have hc1n : ¬ i < xs.length := by first | (have h := of_decide_eq_false hc1; omega) | (have h := hc1; simp at h; omega)
    refine S_exit (E_lp_exit (E_inB_exit ?_))
    refine S_seq ?_
    refine S_reg [true, true] rfl rfl ?_
    refine J_st (R_move rfl) rfl (J_st (R_assign rfl) rfl (J_done ?_))
    refine S_ret (E_done1 rfl rfl E ?_)
    exact ⟨by subst hq; rw [show i = xs.length from by omega], by obtain rfl : bs = [] := List.eq_nil_of_length_eq_zero (by omega); rw [show xs.length = i from by simp at hi; omega]; simpa using hxs⟩

set_option maxRecDepth 20000 in
theorem heldTokenS (vxs : Value) (xs : List Token) (k : Nat) (w : World) (hxs : RdS w vxs xs) (hm : xs = mkL 5 mkToken k xs.length) (hb : k + xs.length * 5 ≤ 1099511627776) : Ct Try.prog 47 [vxs, .int .i64 ((k : Nat) : Int)] w (fun v _ => v = .int .i64 ((k + 5 * xs.length : Nat) : Int)) := by
  refine ct_of Try.func47 rfl Try.ntmps47 rfl ?_
  refine S_sub [(0, vxs), (1, .int .i64 ((k : Nat) : Int))] ⟨rfl, rfl, trivial⟩ ?_
  have E : Ext w w := Ext.refl w
  refine S_seq ?_
  refine S_reg [true] rfl rfl ?_
  refine J_st (R_assign rfl) rfl (J_done ?_)
  refine S_seq ?_
  refine S_seq ?_
  refine S_reg [true] rfl rfl ?_
  refine J_st (R_assign rfl) rfl (J_done ?_)
  refine S_block ?_
  refine S_loop (fun (xq : Nat × Nat) => let ⟨i, q⟩ := xq; [(0, vxs), (1, .int .i64 ((q : Nat) : Int)), (4, .int .i64 0), (5, .int .i64 ((i : Nat) : Int))]) (fun (xq : Nat × Nat) w' => let ⟨i, q⟩ := xq; Ext w w' ∧ w.heap.size ≤ w'.heap.size ∧ i ≤ xs.length ∧ q = k + 5 * i) (fun (xq : Nat × Nat) => let ⟨i, q⟩ := xq; xs.length - i) (0, k) ⟨rfl, rfl, rfl, rfl, trivial⟩ ⟨E, Nat.le_refl _, Nat.zero_le _, (by simp)⟩ ?_
  clear E
  rintro ⟨i, q⟩ w1 ⟨E, z1, hi, hq⟩
  refine S_sub [(0, vxs), (1, .int .i64 ((q : Nat) : Int)), (4, .int .i64 0), (5, .int .i64 ((i : Nat) : Int))] ⟨rfl, rfl, rfl, rfl, trivial⟩ ?_
  refine S_seq ?_
  refine S_seq ?_
  refine S_reg [true, true, true, true] rfl rfl ?_
  refine J_st (R_move rfl) rfl (J_st (R_move rfl) rfl (J_st (R_len Try.underlying33 rfl (hxs.ext E).len) rfl (J_st (R_lss rfl rfl) rfl (J_done ?_))))
  refine S_cond rfl (fun hc1 => ?_) (fun hc1 => ?_)
  · have hc1n : i < xs.length := by first | (have h := of_decide_eq_true hc1; omega) | (have h := hc1; simp at h; omega)
    refine S_skip ?_
    refine S_seq ?_
    refine S_block ?_
    refine S_seq ?_
    refine S_seq ?_
    refine S_reg [true, true, true, true, true, true, true, true, true] rfl rfl ?_
    refine J_st (R_move rfl) rfl (J_st (R_move rfl) rfl ?_)
    have hi1 : i < xs.length := (by first | assumption | omega | (simp only [List.length_set]; first | assumption | omega) | (simp only [List.getElem_set_self, List.length_set]; first | assumption | omega) | (simp only [setW, setLk, List.length_set]; first | assumption | omega))
    refine J_st (R_index (i := i) sl33 rfl rfl (hxs.ext E) hi1) rfl (J_st (R_fieldAddr fl103_0 rfl) rfl (J_st (R_load sc4 rfl (((hxs.ext E).get hi1).one 0 rfl)) rfl (J_st (R_move rfl) rfl (J_st (R_rem rfl rfl (by decide) rfl) rfl (J_st (R_eql rfl rfl) rfl (J_st (R_neqB (Try.underlying4) rfl rfl) rfl (J_done ?_)))))))
    refine S_condFe rfl (by subst hq; rw [mkL_at hm (by omega)]; simp [mkToken]) ?_
    refine S_skip ?_
    refine S_seq ?_
    refine S_reg [true, true, true] rfl rfl ?_
    refine J_st (R_move rfl) rfl (J_st (R_add rfl rfl (add_nat (by unfold maxLen; omega))) rfl (J_st (R_assign rfl) rfl (J_done ?_)))
    refine S_seq ?_
    refine S_seq ?_
    refine S_reg [true, true, true, true, true, true, true] rfl rfl ?_
    refine J_st (R_move rfl) rfl (J_st (R_move rfl) rfl (J_st (R_index (i := i) sl33 rfl rfl (hxs.ext E) hi1) rfl (J_st (R_fieldAddr fl103_1 rfl) rfl (J_st (R_load sc3 rfl (((hxs.ext E).get hi1).one 1 rfl)) rfl (J_st (R_move rfl) rfl (J_st (R_neq rfl rfl) rfl (J_done ?_)))))))
    refine S_condFe rfl (by subst hq; rw [mkL_at hm (by omega)]; simp [mkToken]) ?_
    refine S_skip ?_
    refine S_seq ?_
    refine S_reg [true, true, true] rfl rfl ?_
    refine J_st (R_move rfl) rfl (J_st (R_add rfl rfl (add_nat (by unfold maxLen; omega))) rfl (J_st (R_assign rfl) rfl (J_done ?_)))
    refine S_seq ?_
    refine S_seq ?_
    refine S_reg [true, true, true, true, true, true, true] rfl rfl ?_
    refine J_st (R_move rfl) rfl (J_st (R_move rfl) rfl (J_st (R_index (i := i) sl33 rfl rfl (hxs.ext E) hi1) rfl (J_st (R_fieldAddr fl103_2 rfl) rfl (J_st (R_load sc3 rfl (((hxs.ext E).get hi1).one 2 rfl)) rfl (J_st (R_move rfl) rfl (J_st (R_neq rfl rfl) rfl (J_done ?_)))))))
    refine S_condFe rfl (by subst hq; rw [mkL_at hm (by omega)]; simp [mkToken]) ?_
    refine S_skip ?_
    refine S_seq ?_
    refine S_reg [true, true, true] rfl rfl ?_
    refine J_st (R_move rfl) rfl (J_st (R_add rfl rfl (add_nat (by unfold maxLen; omega))) rfl (J_st (R_assign rfl) rfl (J_done ?_)))
    refine S_seq ?_
    refine S_seq ?_
    refine S_reg [true, true, true, true, true, true, true, true, true] rfl rfl ?_
    refine J_st (R_move rfl) rfl (J_st (R_move rfl) rfl (J_st (R_index (i := i) sl33 rfl rfl (hxs.ext E) hi1) rfl (J_st (R_fieldAddr fl103_3 rfl) rfl (J_st (R_load sc4 rfl (((hxs.ext E).get hi1).one 3 rfl)) rfl (J_st (R_move rfl) rfl (J_st (R_rem rfl rfl (by decide) rfl) rfl (J_st (R_eql rfl rfl) rfl (J_st (R_neqB (Try.underlying4) rfl rfl) rfl (J_done ?_)))))))))
    refine S_condFe rfl (by subst hq; rw [mkL_at hm (by omega)]; simp [mkToken]) ?_
    refine S_skip ?_
    refine S_seq ?_
    refine S_reg [true, true, true] rfl rfl ?_
    refine J_st (R_move rfl) rfl (J_st (R_add rfl rfl (add_nat (by unfold maxLen; omega))) rfl (J_st (R_assign rfl) rfl (J_done ?_)))
    refine S_seq ?_
    refine S_seq ?_
    refine S_reg [true, true, true, true, true, true, true, true, true] rfl rfl ?_
    refine J_st (R_move rfl) rfl (J_st (R_move rfl) rfl (J_st (R_index (i := i) sl33 rfl rfl (hxs.ext E) hi1) rfl (J_st (R_fieldAddr fl103_4 rfl) rfl (J_st (R_load sc4 rfl (((hxs.ext E).get hi1).one 4 rfl)) rfl (J_st (R_move rfl) rfl (J_st (R_rem rfl rfl (by decide) rfl) rfl (J_st (R_eql rfl rfl) rfl (J_st (R_neqB (Try.underlying4) rfl rfl) rfl (J_done ?_)))))))))
    refine S_condFe rfl (by subst hq; rw [mkL_at hm (by omega)]; simp [mkToken]) ?_
    refine S_skip ?_
    refine S_reg [true, true, true] rfl rfl ?_
    refine J_st (R_move rfl) rfl (J_st (R_add rfl rfl (add_nat (by unfold maxLen; omega))) rfl (J_st (R_assign rfl) rfl (J_done ?_)))
    refine S_nil (E_inB ?_)
    refine S_reg [true, true, true] rfl rfl ?_
    refine J_st (R_move rfl) rfl (J_st (R_add rfl rfl (add_nat (by unfold maxLen; omega))) rfl (J_st (R_assign rfl) rfl (J_done ?_)))
    refine S_nil (E_again (i + 1, q + 1 + 1 + 1 + 1 + 1) (by simp; omega) ⟨rfl, rfl, rfl, rfl, trivial⟩ ⟨E, (by omega), (by omega), (by omega)⟩)
  · have hc1n : ¬ i < xs.length := by first | (have h := of_decide_eq_false hc1; omega) | (have h := hc1; simp at h; omega)
    refine S_exit (E_lp_exit (E_inB_exit ?_))
    refine S_seq ?_
    refine S_reg [true, true] rfl rfl ?_
    refine J_st (R_move rfl) rfl (J_st (R_assign rfl) rfl (J_done ?_))
    refine S_ret (E_done1 rfl rfl E ?_)
    subst hq; rw [show i = xs.length from by omega]

set_option maxRecDepth 20000 in
theorem markNewsS (vxs : Value) (lo hi : Nat) (xs : List News) (k : Nat) (w : World) (hxs : Own w lo hi 3 vxs (List.flatMap (Enc.enc (α := News)) xs)) (hb : k + xs.length * 3 ≤ 1099511627776) : CtR Try.prog 43 [vxs, .int .i64 ((k : Nat) : Int)] w lo hi (fun v w' => v = .int .i64 ((k + 3 * xs.length : Nat) : Int) ∧ Own w' lo hi 3 vxs (List.flatMap (Enc.enc (α := News)) (mkL 3 mkNews k xs.length))) := by
  refine ctR_of Try.func43 rfl Try.ntmps43 rfl ?_
  refine S_sub [(0, vxs), (1, .int .i64 ((k : Nat) : Int))] ⟨rfl, rfl, trivial⟩ ?_
  have E : ModR w w lo hi := ModR.refl w lo hi
  refine S_seq ?_
  refine S_reg [true] rfl rfl ?_
  refine J_st (R_assign rfl) rfl (J_done ?_)
  refine S_seq ?_
  refine S_seq ?_
  refine S_reg [true] rfl rfl ?_
  refine J_st (R_assign rfl) rfl (J_done ?_)
  refine S_block ?_
  refine S_loop (fun (xq : Nat × Nat × List News) => let ⟨i, q, bs⟩ := xq; [(0, vxs), (1, .int .i64 ((q : Nat) : Int)), (4, .int .i64 0), (5, .int .i64 ((i : Nat) : Int))]) (fun (xq : Nat × Nat × List News) w' => let ⟨i, q, bs⟩ := xq; ModR w w' lo hi ∧ w.heap.size ≤ w'.heap.size ∧ i + bs.length = xs.length ∧ q = k + 3 * i ∧ Own w' lo hi 3 vxs (List.flatMap (Enc.enc (α := News)) (mkL 3 mkNews k i ++ bs))) (fun (xq : Nat × Nat × List News) => let ⟨i, q, bs⟩ := xq; xs.length - i) (0, k, xs) ⟨rfl, rfl, rfl, rfl, trivial⟩ ⟨E, Nat.le_refl _, (by simp), (by simp), (by simpa [mkL] using hxs)⟩ ?_
  clear E hxs
  rintro ⟨i, q, bs⟩ w1 ⟨E, z1, hi, hq, hxs⟩
  refine S_sub [(0, vxs), (1, .int .i64 ((q : Nat) : Int)), (4, .int .i64 0), (5, .int .i64 ((i : Nat) : Int))] ⟨rfl, rfl, rfl, rfl, trivial⟩ ?_
  refine S_seq ?_
  refine S_seq ?_
  refine S_reg [true, true, true, true] rfl rfl ?_
  refine J_st (R_move rfl) rfl (J_st (R_move rfl) rfl (J_st (R_len Try.underlying34 rfl (Own.lenE (by decide) hxs (by simp only [List.length_append, mkL_length, List.length_cons]; omega))) rfl (J_st (R_lss rfl rfl) rfl (J_done ?_))))
  refine S_cond rfl (fun hc1 => ?_) (fun hc1 => ?_)
  · rcases bs with _ | ⟨x, bs⟩
    · exact absurd hi (by have h := hc1; simp at h ⊢; omega)
    simp only [List.length_cons] at hi
    have hc1n : i < xs.length := by first | (have h := of_decide_eq_true hc1; omega) | (have h := hc1; simp at h; omega)
    refine S_skip ?_
    refine S_seq ?_
    refine S_block ?_
    refine S_seq ?_
    refine S_reg [true, true, true, true, true, false] rfl rfl ?_
    refine J_st (R_move rfl) rfl (J_st (R_move rfl) rfl (J_st (R_move rfl) rfl (J_st (R_index sl34 rfl rfl (Own.rd (by decide) hxs) (by simp only [List.length_append, mkL_length, List.length_cons]; omega)) rfl (J_st (R_fieldAddr fl106_0 rfl) rfl ?_))))
    refine J_storeOwn (α := News) (i := i) (f := 0) (⟨((q : Nat) : Int), x.epoch, x.capped⟩ : News) sc3 rfl rfl rfl rfl hxs (mkL_length _ _ _ _) (by decide) rfl (fun w2 m1 hxs' => ?_)
    have hq := hxs.blk
    replace hxs := hxs'
    replace E := E.mod m1 (fun g hg => by have := hq g hg; omega)
    have z2 := m1.size
    clear hq
    refine J_done ?_
    refine S_seq ?_
    refine S_reg [true, true, true] rfl rfl ?_
    refine J_st (R_move rfl) rfl (J_st (R_add rfl rfl (add_nat (by unfold maxLen; omega))) rfl (J_st (R_assign rfl) rfl (J_done ?_)))
    refine S_seq ?_
    refine S_reg [true, true, true, true, true, false] rfl rfl ?_
    refine J_st (R_move rfl) rfl (J_st (R_move rfl) rfl (J_st (R_move rfl) rfl (J_st (R_index sl34 rfl rfl (Own.rd (by decide) hxs) (by simp only [List.length_append, mkL_length, List.length_cons]; omega)) rfl (J_st (R_fieldAddr fl106_1 rfl) rfl ?_))))
    refine J_storeOwn (α := News) (i := i) (f := 1) (⟨((q : Nat) : Int), ((q + 1 : Nat) : Int), x.capped⟩ : News) sc3 rfl rfl rfl rfl hxs (mkL_length _ _ _ _) (by decide) rfl (fun w3 m2 hxs' => ?_)
    have hq := hxs.blk
    replace hxs := hxs'
    replace E := E.mod m2 (fun g hg => by have := hq g hg; omega)
    have z3 := m2.size
    clear hq
    refine J_done ?_
    refine S_seq ?_
    refine S_reg [true, true, true] rfl rfl ?_
    refine J_st (R_move rfl) rfl (J_st (R_add rfl rfl (add_nat (by unfold maxLen; omega))) rfl (J_st (R_assign rfl) rfl (J_done ?_)))
    refine S_seq ?_
    refine S_reg [true, true, true, true, true, true, true, false] rfl rfl ?_
    refine J_st (R_move rfl) rfl (J_st (R_move rfl) rfl (J_st (R_move rfl) rfl (J_st (R_rem rfl rfl (by decide) rfl) rfl (J_st (R_eql rfl rfl) rfl (J_st (R_index sl34 rfl rfl (Own.rd (by decide) hxs) (by simp only [List.length_append, mkL_length, List.length_cons]; omega)) rfl (J_st (R_fieldAddr fl106_2 rfl) rfl ?_))))))
    refine J_storeOwn (α := News) (i := i) (f := 2) (⟨((q : Nat) : Int), ((q + 1 : Nat) : Int), (Int.tmod ((q + 1 + 1 : Nat) : Int) 3) == 0⟩ : News) sc4 rfl rfl rfl rfl hxs (mkL_length _ _ _ _) (by decide) rfl (fun w4 m3 hxs' => ?_)
    have hq := hxs.blk
    replace hxs := hxs'
    replace E := E.mod m3 (fun g hg => by have := hq g hg; omega)
    have z4 := m3.size
    clear hq
    refine J_done ?_
    refine S_reg [true, true, true] rfl rfl ?_
    refine J_st (R_move rfl) rfl (J_st (R_add rfl rfl (add_nat (by unfold maxLen; omega))) rfl (J_st (R_assign rfl) rfl (J_done ?_)))
    refine S_nil (E_inB ?_)
    refine S_reg [true, true, true] rfl rfl ?_
    refine J_st (R_move rfl) rfl (J_st (R_add rfl rfl (add_nat (by unfold maxLen; omega))) rfl (J_st (R_assign rfl) rfl (J_done ?_)))
    refine S_nil (E_again (i + 1, q + 1 + 1 + 1, bs) (by simp; omega) ⟨rfl, rfl, rfl, rfl, trivial⟩ ⟨E, (by omega), (by omega), (by omega), (by subst hq; rw [← mkL_succ]; exact hxs)⟩)
  · have hc1n : ¬ i < xs.length := by first | (have h := of_decide_eq_false hc1; omega) | (have h := hc1; simp at h; omega)
    refine S_exit (E_lp_exit (E_inB_exit ?_))
    refine S_seq ?_
    refine S_reg [true, true] rfl rfl ?_
    refine J_st (R_move rfl) rfl (J_st (R_assign rfl) rfl (J_done ?_))
    refine S_ret (E_done1 rfl rfl E ?_)
    exact ⟨by subst hq; rw [show i = xs.length from by omega], by obtain rfl : bs = [] := List.eq_nil_of_length_eq_zero (by omega); rw [show xs.length = i from by simp at hi; omega]; simpa using hxs⟩

set_option maxRecDepth 20000 in
theorem heldNewsS (vxs : Value) (xs : List News) (k : Nat) (w : World) (hxs : RdS w vxs xs) (hm : xs = mkL 3 mkNews k xs.length) (hb : k + xs.length * 3 ≤ 1099511627776) : Ct Try.prog 48 [vxs, .int .i64 ((k : Nat) : Int)] w (fun v _ => v = .int .i64 ((k + 3 * xs.length : Nat) : Int)) := by
  refine ct_of Try.func48 rfl Try.ntmps48 rfl ?_
  refine S_sub [(0, vxs), (1, .int .i64 ((k : Nat) : Int))] ⟨rfl, rfl, trivial⟩ ?_
  have E : Ext w w := Ext.refl w
  refine S_seq ?_
  refine S_reg [true] rfl rfl ?_
  refine J_st (R_assign rfl) rfl (J_done ?_)
  refine S_seq ?_
  refine S_seq ?_
  refine S_reg [true] rfl rfl ?_
  refine J_st (R_assign rfl) rfl (J_done ?_)
  refine S_block ?_
  refine S_loop (fun (xq : Nat × Nat) => let ⟨i, q⟩ := xq; [(0, vxs), (1, .int .i64 ((q : Nat) : Int)), (4, .int .i64 0), (5, .int .i64 ((i : Nat) : Int))]) (fun (xq : Nat × Nat) w' => let ⟨i, q⟩ := xq; Ext w w' ∧ w.heap.size ≤ w'.heap.size ∧ i ≤ xs.length ∧ q = k + 3 * i) (fun (xq : Nat × Nat) => let ⟨i, q⟩ := xq; xs.length - i) (0, k) ⟨rfl, rfl, rfl, rfl, trivial⟩ ⟨E, Nat.le_refl _, Nat.zero_le _, (by simp)⟩ ?_
  clear E
  rintro ⟨i, q⟩ w1 ⟨E, z1, hi, hq⟩
  refine S_sub [(0, vxs), (1, .int .i64 ((q : Nat) : Int)), (4, .int .i64 0), (5, .int .i64 ((i : Nat) : Int))] ⟨rfl, rfl, rfl, rfl, trivial⟩ ?_
  refine S_seq ?_
  refine S_seq ?_
  refine S_reg [true, true, true, true] rfl rfl ?_
  refine J_st (R_move rfl) rfl (J_st (R_move rfl) rfl (J_st (R_len Try.underlying34 rfl (hxs.ext E).len) rfl (J_st (R_lss rfl rfl) rfl (J_done ?_))))
  refine S_cond rfl (fun hc1 => ?_) (fun hc1 => ?_)
  · have hc1n : i < xs.length := by first | (have h := of_decide_eq_true hc1; omega) | (have h := hc1; simp at h; omega)
    refine S_skip ?_
    refine S_seq ?_
    refine S_block ?_
    refine S_seq ?_
    refine S_seq ?_
    refine S_reg [true, true, true, true, true, true, true] rfl rfl ?_
    refine J_st (R_move rfl) rfl (J_st (R_move rfl) rfl ?_)
    have hi1 : i < xs.length := (by first | assumption | omega | (simp only [List.length_set]; first | assumption | omega) | (simp only [List.getElem_set_self, List.length_set]; first | assumption | omega) | (simp only [setW, setLk, List.length_set]; first | assumption | omega))
    refine J_st (R_index (i := i) sl34 rfl rfl (hxs.ext E) hi1) rfl (J_st (R_fieldAddr fl106_0 rfl) rfl (J_st (R_load sc3 rfl (((hxs.ext E).get hi1).one 0 rfl)) rfl (J_st (R_move rfl) rfl (J_st (R_neq rfl rfl) rfl (J_done ?_)))))
    refine S_condFe rfl (by subst hq; rw [mkL_at hm (by omega)]; simp [mkNews]) ?_
    refine S_skip ?_
    refine S_seq ?_
    refine S_reg [true, true, true] rfl rfl ?_
    refine J_st (R_move rfl) rfl (J_st (R_add rfl rfl (add_nat (by unfold maxLen; omega))) rfl (J_st (R_assign rfl) rfl (J_done ?_)))
    refine S_seq ?_
    refine S_seq ?_
    refine S_reg [true, true, true, true, true, true, true] rfl rfl ?_
    refine J_st (R_move rfl) rfl (J_st (R_move rfl) rfl (J_st (R_index (i := i) sl34 rfl rfl (hxs.ext E) hi1) rfl (J_st (R_fieldAddr fl106_1 rfl) rfl (J_st (R_load sc3 rfl (((hxs.ext E).get hi1).one 1 rfl)) rfl (J_st (R_move rfl) rfl (J_st (R_neq rfl rfl) rfl (J_done ?_)))))))
    refine S_condFe rfl (by subst hq; rw [mkL_at hm (by omega)]; simp [mkNews]) ?_
    refine S_skip ?_
    refine S_seq ?_
    refine S_reg [true, true, true] rfl rfl ?_
    refine J_st (R_move rfl) rfl (J_st (R_add rfl rfl (add_nat (by unfold maxLen; omega))) rfl (J_st (R_assign rfl) rfl (J_done ?_)))
    refine S_seq ?_
    refine S_seq ?_
    refine S_reg [true, true, true, true, true, true, true, true, true] rfl rfl ?_
    refine J_st (R_move rfl) rfl (J_st (R_move rfl) rfl (J_st (R_index (i := i) sl34 rfl rfl (hxs.ext E) hi1) rfl (J_st (R_fieldAddr fl106_2 rfl) rfl (J_st (R_load sc4 rfl (((hxs.ext E).get hi1).one 2 rfl)) rfl (J_st (R_move rfl) rfl (J_st (R_rem rfl rfl (by decide) rfl) rfl (J_st (R_eql rfl rfl) rfl (J_st (R_neqB (Try.underlying4) rfl rfl) rfl (J_done ?_)))))))))
    refine S_condFe rfl (by subst hq; rw [mkL_at hm (by omega)]; simp [mkNews]) ?_
    refine S_skip ?_
    refine S_reg [true, true, true] rfl rfl ?_
    refine J_st (R_move rfl) rfl (J_st (R_add rfl rfl (add_nat (by unfold maxLen; omega))) rfl (J_st (R_assign rfl) rfl (J_done ?_)))
    refine S_nil (E_inB ?_)
    refine S_reg [true, true, true] rfl rfl ?_
    refine J_st (R_move rfl) rfl (J_st (R_add rfl rfl (add_nat (by unfold maxLen; omega))) rfl (J_st (R_assign rfl) rfl (J_done ?_)))
    refine S_nil (E_again (i + 1, q + 1 + 1 + 1) (by simp; omega) ⟨rfl, rfl, rfl, rfl, trivial⟩ ⟨E, (by omega), (by omega), (by omega)⟩)
  · have hc1n : ¬ i < xs.length := by first | (have h := of_decide_eq_false hc1; omega) | (have h := hc1; simp at h; omega)
    refine S_exit (E_lp_exit (E_inB_exit ?_))
    refine S_seq ?_
    refine S_reg [true, true] rfl rfl ?_
    refine J_st (R_move rfl) rfl (J_st (R_assign rfl) rfl (J_done ?_))
    refine S_ret (E_done1 rfl rfl E ?_)
    subst hq; rw [show i = xs.length from by omega]

set_option maxHeartbeats 4000000 in
set_option maxRecDepth 20000 in
theorem markWorkerS (vxs : Value) (lo hi : Nat) (fp : List Nat) (xs : List Worker) (k : Nat) (w : World) (gxs : OwF w lo hi vxs xs fp) (hhi : hi ≤ w.heap.size) (hb : k + 5 * cntL cntWorker xs ≤ 1099511627776) : CtR Try.prog 40 [vxs, .int .i64 ((k : Nat) : Int)] w lo hi (fun v w' => v = .int .i64 (((numA numW) k xs : Nat) : Int) ∧ OwF w' lo hi vxs ((markA numW markW) k xs) fp ∧ Kq w w' fp) := by
  have hxs : OwK w fp w lo hi vxs xs := ⟨gxs, Kq.refl _ _⟩
  have hmx : xs.length ≤ maxLen := hxs.rd.1.1
  unfold maxLen at hmx
  refine ctR_of Try.func40 rfl Try.ntmps40 rfl ?_
  refine S_sub [(0, vxs), (1, .int .i64 ((k : Nat) : Int))] ⟨rfl, rfl, trivial⟩ ?_
  have E : ModR w w lo hi := ModR.refl w lo hi
  refine S_seq ?_
  refine S_reg [true] rfl rfl ?_
  refine J_st (R_assign rfl) rfl (J_done ?_)
  refine S_seq ?_
  refine S_seq ?_
  refine S_reg [true] rfl rfl ?_
  refine J_st (R_assign rfl) rfl (J_done ?_)
  refine S_block ?_
  refine S_loop (fun (xq : Nat × Nat) => let ⟨i, q⟩ := xq; [(0, vxs), (1, .int .i64 ((q : Nat) : Int)), (4, .int .i64 0), (5, .int .i64 ((i : Nat) : Int))]) (fun (xq : Nat × Nat) w' => let ⟨i, q⟩ := xq; ModR w w' lo hi ∧ w.heap.size ≤ w'.heap.size ∧ i ≤ xs.length ∧ q = (numA numW) k (xs.take i) ∧ OwK w fp w' lo hi vxs ((markA numW markW) k (xs.take i) ++ xs.drop i)) (fun (xq : Nat × Nat) => let ⟨i, q⟩ := xq; xs.length - i) (0, k) ⟨rfl, rfl, rfl, rfl, trivial⟩ ⟨E, Nat.le_refl _, Nat.zero_le _, rfl, (by simpa [markA] using hxs)⟩ ?_
  clear E hxs
  rintro ⟨i, q⟩ w1 ⟨E, z1, hi0, hq, hxs⟩
  refine S_sub [(0, vxs), (1, .int .i64 ((q : Nat) : Int)), (4, .int .i64 0), (5, .int .i64 ((i : Nat) : Int))] ⟨rfl, rfl, rfl, rfl, trivial⟩ ?_
  refine S_seq ?_
  refine S_seq ?_
  refine S_reg [true, true, true, true] rfl rfl ?_
  refine J_st (R_move rfl) rfl (J_st (R_move rfl) rfl (J_st (R_len Try.underlying31 rfl (OwK.lenE (n := xs.length) hxs (by simp [markA_length]; omega))) rfl (J_st (R_lss rfl rfl) rfl (J_done ?_))))
  refine S_cond rfl (fun hc1 => ?_) (fun hc1 => ?_)
  · have hlt : i < xs.length := by have h := of_decide_eq_true hc1; omega
    rw [drop_split hlt] at hxs
    obtain ⟨_, ho1, hrow⟩ := OwK.focus hxs
    obtain ⟨o1, o2, o3, o4, o5, o6, o7, o8, rfl, sp1, hw1, hw2, hw3, hw4, hw5, hw6, hw7, hw8⟩ := Worker.opO ho1
    clear hxs
    have hl0 : ((markA numW markW) k (xs.take i)).length = i := by rw [markA_length]; simp; omega
    have hn0 : i + 1 + (xs.drop (i + 1)).length = xs.length := by simp; omega
    have hqk := numA_le (k := k) numW_bd hlt; rw [← hq] at hqk; unfold numW at hqk
    have hc1n : i < xs.length := by first | (have h := of_decide_eq_true hc1; omega) | (have h := hc1; simp at h; omega)
    refine S_skip ?_
    refine S_seq ?_
    refine S_block ?_
    refine S_seq ?_
    refine S_reg [true, true, true, true, true, true, false, true] rfl rfl ?_
    refine J_st (R_move rfl) rfl (J_st (R_move rfl) rfl (J_st (R_index (i := i) sl31 rfl rfl (RowK.same1 hrow hl0 hn0) (by simp; omega)) rfl (J_st (R_fieldAddr fl62_0 rfl) rfl (J_st (R_load sc40 rfl ((RowK.at hrow hl0).one 0 rfl)) rfl (J_st (R_move rfl) rfl ?_)))))
    refine J_callR Try.call14 rfl rfl (markRecordS o1 (bl o1) (bh o1) ((xs[i]'hlt).queue) q _ (Own.tight hw1) (by first | omega | (simp only [mkL_length]; omega) | (rw [mkL_length]; done) | (simp only [mkL_length]; done))) rfl (fun _ w2 e1 hv => ?_)
    obtain ⟨rfl, hw1'⟩ := hv
    have e1c := ModR.loose e1 (Own.blk hw1)
    replace hw1 := Own.loose hw1' (Own.blk hw1)
    clear hw1'
    replace E := E.trans e1c (by omega) (by omega); replace hw2 := Own.modRS hw2 e1 sp1.1.1; replace hw3 := Own.modRS hw3 e1 sp1.1.2.1; replace hw4 := Own.modRS hw4 e1 sp1.1.2.2.1; replace hw5 := Own.modRS hw5 e1 sp1.1.2.2.2.1; replace hw6 := Own.modRS hw6 e1 sp1.1.2.2.2.2.1; replace hw7 := Own.modRS hw7 e1 sp1.1.2.2.2.2.2.1; replace hw8 := Own.modRS hw8 e1 sp1.1.2.2.2.2.2.2.1; replace hrow := RowK.modRS hrow e1 (by simp)
    have z2 := e1c.size
    refine J_st (R_assign rfl) rfl (J_done ?_)
    refine S_seq ?_
    refine S_reg [true, true, true, true, true, true, false, true] rfl rfl ?_
    refine J_st (R_move rfl) rfl (J_st (R_move rfl) rfl (J_st (R_index (i := i) sl31 rfl rfl (RowK.same1 hrow hl0 hn0) (by simp; omega)) rfl (J_st (R_fieldAddr fl62_1 rfl) rfl (J_st (R_load sc40 rfl ((RowK.at hrow hl0).one 1 rfl)) rfl (J_st (R_move rfl) rfl ?_)))))
    refine J_callR Try.call14 rfl rfl (markRecordS o2 (bl o2) (bh o2) ((xs[i]'hlt).staged) (q + 5 * ((xs[i]'hlt).queue).length) _ (Own.tight hw2) (by first | omega | (simp only [mkL_length]; omega) | (rw [mkL_length]; done) | (simp only [mkL_length]; done))) rfl (fun _ w3 e2 hv => ?_)
    obtain ⟨rfl, hw2'⟩ := hv
    have e2c := ModR.loose e2 (Own.blk hw2)
    replace hw2 := Own.loose hw2' (Own.blk hw2)
    clear hw2'
    replace E := E.trans e2c (by omega) (by omega); replace hw1 := Own.modRS hw1 e2 (sp1.1.1).symm; replace hw3 := Own.modRS hw3 e2 sp1.2.1.1; replace hw4 := Own.modRS hw4 e2 sp1.2.1.2.1; replace hw5 := Own.modRS hw5 e2 sp1.2.1.2.2.1; replace hw6 := Own.modRS hw6 e2 sp1.2.1.2.2.2.1; replace hw7 := Own.modRS hw7 e2 sp1.2.1.2.2.2.2.1; replace hw8 := Own.modRS hw8 e2 sp1.2.1.2.2.2.2.2.1; replace hrow := RowK.modRS hrow e2 (by simp)
    have z3 := e2c.size
    refine J_st (R_assign rfl) rfl (J_done ?_)
    refine S_seq ?_
    refine S_reg [true, true, true, true, true, true, false, true] rfl rfl ?_
    refine J_st (R_move rfl) rfl (J_st (R_move rfl) rfl (J_st (R_index (i := i) sl31 rfl rfl (RowK.same1 hrow hl0 hn0) (by simp; omega)) rfl (J_st (R_fieldAddr fl62_2 rfl) rfl (J_st (R_load sc40 rfl ((RowK.at hrow hl0).one 2 rfl)) rfl (J_st (R_move rfl) rfl ?_)))))
    refine J_callR Try.call14 rfl rfl (markRecordS o3 (bl o3) (bh o3) ((xs[i]'hlt).inputs) ((q + 5 * ((xs[i]'hlt).queue).length) + 5 * ((xs[i]'hlt).staged).length) _ (Own.tight hw3) (by first | omega | (simp only [mkL_length]; omega) | (rw [mkL_length]; done) | (simp only [mkL_length]; done))) rfl (fun _ w4 e3 hv => ?_)
    obtain ⟨rfl, hw3'⟩ := hv
    have e3c := ModR.loose e3 (Own.blk hw3)
    replace hw3 := Own.loose hw3' (Own.blk hw3)
    clear hw3'
    replace E := E.trans e3c (by omega) (by omega); replace hw1 := Own.modRS hw1 e3 (sp1.1.2.1).symm; replace hw2 := Own.modRS hw2 e3 (sp1.2.1.1).symm; replace hw4 := Own.modRS hw4 e3 sp1.2.2.1.1; replace hw5 := Own.modRS hw5 e3 sp1.2.2.1.2.1; replace hw6 := Own.modRS hw6 e3 sp1.2.2.1.2.2.1; replace hw7 := Own.modRS hw7 e3 sp1.2.2.1.2.2.2.1; replace hw8 := Own.modRS hw8 e3 sp1.2.2.1.2.2.2.2.1; replace hrow := RowK.modRS hrow e3 (by simp)
    have z4 := e3c.size
    refine J_st (R_assign rfl) rfl (J_done ?_)
    refine S_seq ?_
    refine S_reg [true, true, true, true, true, true, false, true] rfl rfl ?_
    refine J_st (R_move rfl) rfl (J_st (R_move rfl) rfl (J_st (R_index (i := i) sl31 rfl rfl (RowK.same1 hrow hl0 hn0) (by simp; omega)) rfl (J_st (R_fieldAddr fl62_3 rfl) rfl (J_st (R_load sc57 rfl ((RowK.at hrow hl0).one 3 rfl)) rfl (J_st (R_move rfl) rfl ?_)))))
    refine J_callR Try.call71 rfl rfl (markCellS o4 (bl o4) (bh o4) ((xs[i]'hlt).cells) (((q + 5 * ((xs[i]'hlt).queue).length) + 5 * ((xs[i]'hlt).staged).length) + 5 * ((xs[i]'hlt).inputs).length) _ (Own.tight hw4) (by first | omega | (simp only [mkL_length]; omega) | (rw [mkL_length]; done) | (simp only [mkL_length]; done))) rfl (fun _ w5 e4 hv => ?_)
    obtain ⟨rfl, hw4'⟩ := hv
    have e4c := ModR.loose e4 (Own.blk hw4)
    replace hw4 := Own.loose hw4' (Own.blk hw4)
    clear hw4'
    replace E := E.trans e4c (by omega) (by omega); replace hw1 := Own.modRS hw1 e4 (sp1.1.2.2.1).symm; replace hw2 := Own.modRS hw2 e4 (sp1.2.1.2.1).symm; replace hw3 := Own.modRS hw3 e4 (sp1.2.2.1.1).symm; replace hw5 := Own.modRS hw5 e4 sp1.2.2.2.1.1; replace hw6 := Own.modRS hw6 e4 sp1.2.2.2.1.2.1; replace hw7 := Own.modRS hw7 e4 sp1.2.2.2.1.2.2.1; replace hw8 := Own.modRS hw8 e4 sp1.2.2.2.1.2.2.2.1; replace hrow := RowK.modRS hrow e4 (by simp)
    have z5 := e4c.size
    refine J_st (R_assign rfl) rfl (J_done ?_)
    refine S_seq ?_
    refine S_reg [true, true, true, true, true, true, false, true] rfl rfl ?_
    refine J_st (R_move rfl) rfl (J_st (R_move rfl) rfl (J_st (R_index (i := i) sl31 rfl rfl (RowK.same1 hrow hl0 hn0) (by simp; omega)) rfl (J_st (R_fieldAddr fl62_4 rfl) rfl (J_st (R_load sc58 rfl ((RowK.at hrow hl0).one 4 rfl)) rfl (J_st (R_move rfl) rfl ?_)))))
    refine J_callR Try.call70 rfl rfl (markIntS o5 (bl o5) (bh o5) ((xs[i]'hlt).sums) ((((q + 5 * ((xs[i]'hlt).queue).length) + 5 * ((xs[i]'hlt).staged).length) + 5 * ((xs[i]'hlt).inputs).length) + 4 * ((xs[i]'hlt).cells).length) _ (Own.tight hw5) (by first | omega | (simp only [mkL_length]; omega) | (rw [mkL_length]; done) | (simp only [mkL_length]; done))) rfl (fun _ w6 e5 hv => ?_)
    obtain ⟨rfl, hw5'⟩ := hv
    have e5c := ModR.loose e5 (Own.blk hw5)
    replace hw5 := Own.loose hw5' (Own.blk hw5)
    clear hw5'
    replace E := E.trans e5c (by omega) (by omega); replace hw1 := Own.modRS hw1 e5 (sp1.1.2.2.2.1).symm; replace hw2 := Own.modRS hw2 e5 (sp1.2.1.2.2.1).symm; replace hw3 := Own.modRS hw3 e5 (sp1.2.2.1.2.1).symm; replace hw4 := Own.modRS hw4 e5 (sp1.2.2.2.1.1).symm; replace hw6 := Own.modRS hw6 e5 sp1.2.2.2.2.1.1; replace hw7 := Own.modRS hw7 e5 sp1.2.2.2.2.1.2.1; replace hw8 := Own.modRS hw8 e5 sp1.2.2.2.2.1.2.2.1; replace hrow := RowK.modRS hrow e5 (by simp)
    have z6 := e5c.size
    refine J_st (R_assign rfl) rfl (J_done ?_)
    refine S_seq ?_
    refine S_reg [true, true, true, true, true, true, false, true] rfl rfl ?_
    refine J_st (R_move rfl) rfl (J_st (R_move rfl) rfl (J_st (R_index (i := i) sl31 rfl rfl (RowK.same1 hrow hl0 hn0) (by simp; omega)) rfl (J_st (R_fieldAddr fl62_5 rfl) rfl (J_st (R_load sc59 rfl ((RowK.at hrow hl0).one 5 rfl)) rfl (J_st (R_move rfl) rfl ?_)))))
    refine J_callR Try.call72 rfl rfl (markBoolS o6 (bl o6) (bh o6) ((xs[i]'hlt).black) (((((q + 5 * ((xs[i]'hlt).queue).length) + 5 * ((xs[i]'hlt).staged).length) + 5 * ((xs[i]'hlt).inputs).length) + 4 * ((xs[i]'hlt).cells).length) + 1 * ((xs[i]'hlt).sums).length) _ (Own.tight hw6) (by first | omega | (simp only [mkL_length]; omega) | (rw [mkL_length]; done) | (simp only [mkL_length]; done))) rfl (fun _ w7 e6 hv => ?_)
    obtain ⟨rfl, hw6'⟩ := hv
    have e6c := ModR.loose e6 (Own.blk hw6)
    replace hw6 := Own.loose hw6' (Own.blk hw6)
    clear hw6'
    replace E := E.trans e6c (by omega) (by omega); replace hw1 := Own.modRS hw1 e6 (sp1.1.2.2.2.2.1).symm; replace hw2 := Own.modRS hw2 e6 (sp1.2.1.2.2.2.1).symm; replace hw3 := Own.modRS hw3 e6 (sp1.2.2.1.2.2.1).symm; replace hw4 := Own.modRS hw4 e6 (sp1.2.2.2.1.2.1).symm; replace hw5 := Own.modRS hw5 e6 (sp1.2.2.2.2.1.1).symm; replace hw7 := Own.modRS hw7 e6 sp1.2.2.2.2.2.1.1; replace hw8 := Own.modRS hw8 e6 sp1.2.2.2.2.2.1.2.1; replace hrow := RowK.modRS hrow e6 (by simp)
    have z7 := e6c.size
    refine J_st (R_assign rfl) rfl (J_done ?_)
    refine S_seq ?_
    refine S_reg [true, true, true, true, true, true, false, true] rfl rfl ?_
    refine J_st (R_move rfl) rfl (J_st (R_move rfl) rfl (J_st (R_index (i := i) sl31 rfl rfl (RowK.same1 hrow hl0 hn0) (by simp; omega)) rfl (J_st (R_fieldAddr fl62_6 rfl) rfl (J_st (R_load sc59 rfl ((RowK.at hrow hl0).one 6 rfl)) rfl (J_st (R_move rfl) rfl ?_)))))
    refine J_callR Try.call72 rfl rfl (markBoolS o7 (bl o7) (bh o7) ((xs[i]'hlt).caps) ((((((q + 5 * ((xs[i]'hlt).queue).length) + 5 * ((xs[i]'hlt).staged).length) + 5 * ((xs[i]'hlt).inputs).length) + 4 * ((xs[i]'hlt).cells).length) + 1 * ((xs[i]'hlt).sums).length) + 1 * ((xs[i]'hlt).black).length) _ (Own.tight hw7) (by first | omega | (simp only [mkL_length]; omega) | (rw [mkL_length]; done) | (simp only [mkL_length]; done))) rfl (fun _ w8 e7 hv => ?_)
    obtain ⟨rfl, hw7'⟩ := hv
    have e7c := ModR.loose e7 (Own.blk hw7)
    replace hw7 := Own.loose hw7' (Own.blk hw7)
    clear hw7'
    replace E := E.trans e7c (by omega) (by omega); replace hw1 := Own.modRS hw1 e7 (sp1.1.2.2.2.2.2.1).symm; replace hw2 := Own.modRS hw2 e7 (sp1.2.1.2.2.2.2.1).symm; replace hw3 := Own.modRS hw3 e7 (sp1.2.2.1.2.2.2.1).symm; replace hw4 := Own.modRS hw4 e7 (sp1.2.2.2.1.2.2.1).symm; replace hw5 := Own.modRS hw5 e7 (sp1.2.2.2.2.1.2.1).symm; replace hw6 := Own.modRS hw6 e7 (sp1.2.2.2.2.2.1.1).symm; replace hw8 := Own.modRS hw8 e7 sp1.2.2.2.2.2.2.1.1; replace hrow := RowK.modRS hrow e7 (by simp)
    have z8 := e7c.size
    refine J_st (R_assign rfl) rfl (J_done ?_)
    refine S_reg [true, true, true, true, true, true, false, true] rfl rfl ?_
    refine J_st (R_move rfl) rfl (J_st (R_move rfl) rfl (J_st (R_index (i := i) sl31 rfl rfl (RowK.same1 hrow hl0 hn0) (by simp; omega)) rfl (J_st (R_fieldAddr fl62_7 rfl) rfl (J_st (R_load sc60 rfl ((RowK.at hrow hl0).one 7 rfl)) rfl (J_st (R_move rfl) rfl ?_)))))
    refine J_callR Try.call73 rfl rfl (markDoneS o8 (bl o8) (bh o8) ((xs[i]'hlt).dones) (((((((q + 5 * ((xs[i]'hlt).queue).length) + 5 * ((xs[i]'hlt).staged).length) + 5 * ((xs[i]'hlt).inputs).length) + 4 * ((xs[i]'hlt).cells).length) + 1 * ((xs[i]'hlt).sums).length) + 1 * ((xs[i]'hlt).black).length) + 1 * ((xs[i]'hlt).caps).length) _ (Own.tight hw8) (by first | omega | (simp only [mkL_length]; omega) | (rw [mkL_length]; done) | (simp only [mkL_length]; done))) rfl (fun _ w9 e8 hv => ?_)
    obtain ⟨rfl, hw8'⟩ := hv
    have e8c := ModR.loose e8 (Own.blk hw8)
    replace hw8 := Own.loose hw8' (Own.blk hw8)
    clear hw8'
    replace E := E.trans e8c (by omega) (by omega); replace hw1 := Own.modRS hw1 e8 (sp1.1.2.2.2.2.2.2.1).symm; replace hw2 := Own.modRS hw2 e8 (sp1.2.1.2.2.2.2.2.1).symm; replace hw3 := Own.modRS hw3 e8 (sp1.2.2.1.2.2.2.2.1).symm; replace hw4 := Own.modRS hw4 e8 (sp1.2.2.2.1.2.2.2.1).symm; replace hw5 := Own.modRS hw5 e8 (sp1.2.2.2.2.1.2.2.1).symm; replace hw6 := Own.modRS hw6 e8 (sp1.2.2.2.2.2.1.2.1).symm; replace hw7 := Own.modRS hw7 e8 (sp1.2.2.2.2.2.2.1.1).symm; replace hrow := RowK.modRS hrow e8 (by simp)
    have z9 := e8c.size
    refine J_st (R_assign rfl) rfl (J_done ?_)
    refine S_nil (E_inB ?_)
    refine S_reg [true, true, true] rfl rfl ?_
    refine J_st (R_move rfl) rfl (J_st (R_add rfl rfl (add_nat (by unfold maxLen; omega))) rfl (J_st (R_assign rfl) rfl (J_done ?_)))
    have hxs := RowK.close hrow (Worker.mkO (⟨mkL 5 mkRecord q ((xs[i]'hlt).queue).length, mkL 5 mkRecord (q + 5 * ((xs[i]'hlt).queue).length) ((xs[i]'hlt).staged).length, mkL 5 mkRecord ((q + 5 * ((xs[i]'hlt).queue).length) + 5 * ((xs[i]'hlt).staged).length) ((xs[i]'hlt).inputs).length, mkL 4 mkCell (((q + 5 * ((xs[i]'hlt).queue).length) + 5 * ((xs[i]'hlt).staged).length) + 5 * ((xs[i]'hlt).inputs).length) ((xs[i]'hlt).cells).length, mkL 1 mkInt ((((q + 5 * ((xs[i]'hlt).queue).length) + 5 * ((xs[i]'hlt).staged).length) + 5 * ((xs[i]'hlt).inputs).length) + 4 * ((xs[i]'hlt).cells).length) ((xs[i]'hlt).sums).length, mkL 1 mkBool (((((q + 5 * ((xs[i]'hlt).queue).length) + 5 * ((xs[i]'hlt).staged).length) + 5 * ((xs[i]'hlt).inputs).length) + 4 * ((xs[i]'hlt).cells).length) + 1 * ((xs[i]'hlt).sums).length) ((xs[i]'hlt).black).length, mkL 1 mkBool ((((((q + 5 * ((xs[i]'hlt).queue).length) + 5 * ((xs[i]'hlt).staged).length) + 5 * ((xs[i]'hlt).inputs).length) + 4 * ((xs[i]'hlt).cells).length) + 1 * ((xs[i]'hlt).sums).length) + 1 * ((xs[i]'hlt).black).length) ((xs[i]'hlt).caps).length, mkL 2 mkDone (((((((q + 5 * ((xs[i]'hlt).queue).length) + 5 * ((xs[i]'hlt).staged).length) + 5 * ((xs[i]'hlt).inputs).length) + 4 * ((xs[i]'hlt).cells).length) + 1 * ((xs[i]'hlt).sums).length) + 1 * ((xs[i]'hlt).black).length) + 1 * ((xs[i]'hlt).caps).length) ((xs[i]'hlt).dones).length⟩ : Worker) sp1 (Own.widen hw1 (by omega) (by omega)) (Own.widen hw2 (by omega) (by omega)) (Own.widen hw3 (by omega) (by omega)) (Own.widen hw4 (by omega) (by omega)) (Own.widen hw5 (by omega) (by omega)) (Own.widen hw6 (by omega) (by omega)) (Own.widen hw7 (by omega) (by omega)) (Own.widen hw8 (by omega) (by omega)))
    refine S_nil (E_again (i + 1, (((((((q + 5 * ((xs[i]'hlt).queue).length) + 5 * ((xs[i]'hlt).staged).length) + 5 * ((xs[i]'hlt).inputs).length) + 4 * ((xs[i]'hlt).cells).length) + 1 * ((xs[i]'hlt).sums).length) + 1 * ((xs[i]'hlt).black).length) + 1 * ((xs[i]'hlt).caps).length) + 2 * ((xs[i]'hlt).dones).length) (by simp; omega) ⟨rfl, rfl, rfl, rfl, trivial⟩ ⟨E, (by omega), (by omega), (by rw [numA_take hlt, ← hq]; rfl), (by rw [markA_take hlt, ← hq]; exact hxs)⟩)
  · have hc1n : ¬ i < xs.length := by first | (have h := of_decide_eq_false hc1; omega) | (have h := hc1; simp at h; omega)
    refine S_exit (E_lp_exit (E_inB_exit ?_))
    refine S_seq ?_
    refine S_reg [true, true] rfl rfl ?_
    refine J_st (R_move rfl) rfl (J_st (R_assign rfl) rfl (J_done ?_))
    refine S_ret (E_done1 rfl rfl E ?_)
    have hi9 : xs.length ≤ i := by have h := of_decide_eq_false hc1; omega
    rw [List.take_of_length_le hi9] at hq hxs
    rw [List.drop_of_length_le hi9, List.append_nil] at hxs
    exact ⟨by rw [hq], hxs.1, hxs.2⟩

set_option maxHeartbeats 4000000 in
set_option maxRecDepth 20000 in
theorem markLinkS (vxs : Value) (lo hi : Nat) (fp : List Nat) (xs : List Link) (k : Nat) (w : World) (gxs : OwF w lo hi vxs xs fp) (hhi : hi ≤ w.heap.size) (hb : k + 5 * cntL cntLink xs ≤ 1099511627776) : CtR Try.prog 41 [vxs, .int .i64 ((k : Nat) : Int)] w lo hi (fun v w' => v = .int .i64 (((numA numL1) k xs : Nat) : Int) ∧ OwF w' lo hi vxs ((markA numL1 markL1) k xs) fp ∧ Kq w w' fp) := by
  have hxs : OwK w fp w lo hi vxs xs := ⟨gxs, Kq.refl _ _⟩
  have hmx : xs.length ≤ maxLen := hxs.rd.1.1
  unfold maxLen at hmx
  refine ctR_of Try.func41 rfl Try.ntmps41 rfl ?_
  refine S_sub [(0, vxs), (1, .int .i64 ((k : Nat) : Int))] ⟨rfl, rfl, trivial⟩ ?_
  have E : ModR w w lo hi := ModR.refl w lo hi
  refine S_seq ?_
  refine S_reg [true] rfl rfl ?_
  refine J_st (R_assign rfl) rfl (J_done ?_)
  refine S_seq ?_
  refine S_seq ?_
  refine S_reg [true] rfl rfl ?_
  refine J_st (R_assign rfl) rfl (J_done ?_)
  refine S_block ?_
  refine S_loop (fun (xq : Nat × Nat) => let ⟨i, q⟩ := xq; [(0, vxs), (1, .int .i64 ((q : Nat) : Int)), (4, .int .i64 0), (5, .int .i64 ((i : Nat) : Int))]) (fun (xq : Nat × Nat) w' => let ⟨i, q⟩ := xq; ModR w w' lo hi ∧ w.heap.size ≤ w'.heap.size ∧ i ≤ xs.length ∧ q = (numA numL1) k (xs.take i) ∧ OwK w fp w' lo hi vxs ((markA numL1 markL1) k (xs.take i) ++ xs.drop i)) (fun (xq : Nat × Nat) => let ⟨i, q⟩ := xq; xs.length - i) (0, k) ⟨rfl, rfl, rfl, rfl, trivial⟩ ⟨E, Nat.le_refl _, Nat.zero_le _, rfl, (by simpa [markA] using hxs)⟩ ?_
  clear E hxs
  rintro ⟨i, q⟩ w1 ⟨E, z1, hi0, hq, hxs⟩
  refine S_sub [(0, vxs), (1, .int .i64 ((q : Nat) : Int)), (4, .int .i64 0), (5, .int .i64 ((i : Nat) : Int))] ⟨rfl, rfl, rfl, rfl, trivial⟩ ?_
  refine S_seq ?_
  refine S_seq ?_
  refine S_reg [true, true, true, true] rfl rfl ?_
  refine J_st (R_move rfl) rfl (J_st (R_move rfl) rfl (J_st (R_len Try.underlying32 rfl (OwK.lenE (n := xs.length) hxs (by simp [markA_length]; omega))) rfl (J_st (R_lss rfl rfl) rfl (J_done ?_))))
  refine S_cond rfl (fun hc1 => ?_) (fun hc1 => ?_)
  · have hlt : i < xs.length := by have h := of_decide_eq_true hc1; omega
    rw [drop_split hlt] at hxs
    obtain ⟨_, ho1, hrow⟩ := OwK.focus hxs
    obtain ⟨o1, rfl, sp1, hw1⟩ := Link.opO ho1
    clear hxs
    have hl0 : ((markA numL1 markL1) k (xs.take i)).length = i := by rw [markA_length]; simp; omega
    have hn0 : i + 1 + (xs.drop (i + 1)).length = xs.length := by simp; omega
    have hqk := numA_le (k := k) numL1_bd hlt; rw [← hq] at hqk; unfold numL1 at hqk
    have hc1n : i < xs.length := by first | (have h := of_decide_eq_true hc1; omega) | (have h := hc1; simp at h; omega)
    refine S_skip ?_
    refine S_seq ?_
    refine S_block ?_
    refine S_seq ?_
    refine S_reg [true, true, true, true, true, false] rfl rfl ?_
    refine J_st (R_move rfl) rfl (J_st (R_move rfl) rfl (J_st (R_move rfl) rfl (J_st (R_index (i := i) sl32 rfl rfl (RowK.same1 hrow hl0 hn0) (by simp; omega)) rfl (J_st (R_fieldAddr fl66_0 rfl) rfl ?_))))
    have hq1 := RowK.sep hrow (u := o1) (by simp)
    have hqb := RowK.blk hrow
    refine J_storeRowK (i := i) (f := 0) (cs' := [.int .i64 ((q : Nat) : Int), o1, .int .i64 ((xs[i]'hlt).credits), .int .i64 ((xs[i]'hlt).back), .int .i64 ((xs[i]'hlt).sent), .int .i64 ((xs[i]'hlt).got)]) sc3 rfl rfl rfl rfl hrow hl0 (by decide) rfl rfl (fun w2 m1 hrow' => ?_)
    replace hrow := hrow'
    replace E := E.mod m1 (fun g hg => by have := hqb g hg; omega); replace hw1 := Own.modS hw1 m1 hq1
    have z2 := m1.size
    clear hqb hq1
    refine J_done ?_
    refine S_seq ?_
    refine S_reg [true, true, true] rfl rfl ?_
    refine J_st (R_move rfl) rfl (J_st (R_add rfl rfl (add_nat (by unfold maxLen; omega))) rfl (J_st (R_assign rfl) rfl (J_done ?_)))
    refine S_seq ?_
    refine S_reg [true, true, true, true, true, true, false, true] rfl rfl ?_
    refine J_st (R_move rfl) rfl (J_st (R_move rfl) rfl (J_st (R_index (i := i) sl32 rfl rfl (RowK.same1 hrow hl0 hn0) (by simp; omega)) rfl (J_st (R_fieldAddr fl66_1 rfl) rfl (J_st (R_load sc40 rfl ((RowK.at hrow hl0).one 1 rfl)) rfl (J_st (R_move rfl) rfl ?_)))))
    refine J_callR Try.call14 rfl rfl (markRecordS o1 (bl o1) (bh o1) ((xs[i]'hlt).queue) (q + 1) _ (Own.tight hw1) (by first | omega | (simp only [mkL_length]; omega) | (rw [mkL_length]; done) | (simp only [mkL_length]; done))) rfl (fun _ w3 e1 hv => ?_)
    obtain ⟨rfl, hw1'⟩ := hv
    have e1c := ModR.loose e1 (Own.blk hw1)
    replace hw1 := Own.loose hw1' (Own.blk hw1)
    clear hw1'
    replace E := E.trans e1c (by omega) (by omega); replace hrow := RowK.modRS hrow e1 (by simp)
    have z3 := e1c.size
    refine J_st (R_assign rfl) rfl (J_done ?_)
    refine S_seq ?_
    refine S_reg [true, true, true, true, true, false] rfl rfl ?_
    refine J_st (R_move rfl) rfl (J_st (R_move rfl) rfl (J_st (R_move rfl) rfl (J_st (R_index (i := i) sl32 rfl rfl (RowK.same1 hrow hl0 hn0) (by simp; omega)) rfl (J_st (R_fieldAddr fl66_2 rfl) rfl ?_))))
    have hq2 := RowK.sep hrow (u := o1) (by simp)
    have hqb := RowK.blk hrow
    refine J_storeRowK (i := i) (f := 2) (cs' := [.int .i64 ((q : Nat) : Int), o1, .int .i64 (((q + 1) + 5 * ((xs[i]'hlt).queue).length : Nat) : Int), .int .i64 ((xs[i]'hlt).back), .int .i64 ((xs[i]'hlt).sent), .int .i64 ((xs[i]'hlt).got)]) sc3 rfl rfl rfl rfl hrow hl0 (by decide) rfl rfl (fun w4 m2 hrow' => ?_)
    replace hrow := hrow'
    replace E := E.mod m2 (fun g hg => by have := hqb g hg; omega); replace hw1 := Own.modS hw1 m2 hq2
    have z4 := m2.size
    clear hqb hq2
    refine J_done ?_
    refine S_seq ?_
    refine S_reg [true, true, true] rfl rfl ?_
    refine J_st (R_move rfl) rfl (J_st (R_add rfl rfl (add_nat (by unfold maxLen; omega))) rfl (J_st (R_assign rfl) rfl (J_done ?_)))
    refine S_seq ?_
    refine S_reg [true, true, true, true, true, false] rfl rfl ?_
    refine J_st (R_move rfl) rfl (J_st (R_move rfl) rfl (J_st (R_move rfl) rfl (J_st (R_index (i := i) sl32 rfl rfl (RowK.same1 hrow hl0 hn0) (by simp; omega)) rfl (J_st (R_fieldAddr fl66_3 rfl) rfl ?_))))
    have hq3 := RowK.sep hrow (u := o1) (by simp)
    have hqb := RowK.blk hrow
    refine J_storeRowK (i := i) (f := 3) (cs' := [.int .i64 ((q : Nat) : Int), o1, .int .i64 (((q + 1) + 5 * ((xs[i]'hlt).queue).length : Nat) : Int), .int .i64 (((q + 1) + 5 * ((xs[i]'hlt).queue).length + 1 : Nat) : Int), .int .i64 ((xs[i]'hlt).sent), .int .i64 ((xs[i]'hlt).got)]) sc3 rfl rfl rfl rfl hrow hl0 (by decide) rfl rfl (fun w5 m3 hrow' => ?_)
    replace hrow := hrow'
    replace E := E.mod m3 (fun g hg => by have := hqb g hg; omega); replace hw1 := Own.modS hw1 m3 hq3
    have z5 := m3.size
    clear hqb hq3
    refine J_done ?_
    refine S_seq ?_
    refine S_reg [true, true, true] rfl rfl ?_
    refine J_st (R_move rfl) rfl (J_st (R_add rfl rfl (add_nat (by unfold maxLen; omega))) rfl (J_st (R_assign rfl) rfl (J_done ?_)))
    refine S_seq ?_
    refine S_reg [true, true, true, true, true, false] rfl rfl ?_
    refine J_st (R_move rfl) rfl (J_st (R_move rfl) rfl (J_st (R_move rfl) rfl (J_st (R_index (i := i) sl32 rfl rfl (RowK.same1 hrow hl0 hn0) (by simp; omega)) rfl (J_st (R_fieldAddr fl66_4 rfl) rfl ?_))))
    have hq4 := RowK.sep hrow (u := o1) (by simp)
    have hqb := RowK.blk hrow
    refine J_storeRowK (i := i) (f := 4) (cs' := [.int .i64 ((q : Nat) : Int), o1, .int .i64 (((q + 1) + 5 * ((xs[i]'hlt).queue).length : Nat) : Int), .int .i64 (((q + 1) + 5 * ((xs[i]'hlt).queue).length + 1 : Nat) : Int), .int .i64 (((q + 1) + 5 * ((xs[i]'hlt).queue).length + 1 + 1 : Nat) : Int), .int .i64 ((xs[i]'hlt).got)]) sc3 rfl rfl rfl rfl hrow hl0 (by decide) rfl rfl (fun w6 m4 hrow' => ?_)
    replace hrow := hrow'
    replace E := E.mod m4 (fun g hg => by have := hqb g hg; omega); replace hw1 := Own.modS hw1 m4 hq4
    have z6 := m4.size
    clear hqb hq4
    refine J_done ?_
    refine S_seq ?_
    refine S_reg [true, true, true] rfl rfl ?_
    refine J_st (R_move rfl) rfl (J_st (R_add rfl rfl (add_nat (by unfold maxLen; omega))) rfl (J_st (R_assign rfl) rfl (J_done ?_)))
    refine S_seq ?_
    refine S_reg [true, true, true, true, true, false] rfl rfl ?_
    refine J_st (R_move rfl) rfl (J_st (R_move rfl) rfl (J_st (R_move rfl) rfl (J_st (R_index (i := i) sl32 rfl rfl (RowK.same1 hrow hl0 hn0) (by simp; omega)) rfl (J_st (R_fieldAddr fl66_5 rfl) rfl ?_))))
    have hq5 := RowK.sep hrow (u := o1) (by simp)
    have hqb := RowK.blk hrow
    refine J_storeRowK (i := i) (f := 5) (cs' := [.int .i64 ((q : Nat) : Int), o1, .int .i64 (((q + 1) + 5 * ((xs[i]'hlt).queue).length : Nat) : Int), .int .i64 (((q + 1) + 5 * ((xs[i]'hlt).queue).length + 1 : Nat) : Int), .int .i64 (((q + 1) + 5 * ((xs[i]'hlt).queue).length + 1 + 1 : Nat) : Int), .int .i64 (((q + 1) + 5 * ((xs[i]'hlt).queue).length + 1 + 1 + 1 : Nat) : Int)]) sc3 rfl rfl rfl rfl hrow hl0 (by decide) rfl rfl (fun w7 m5 hrow' => ?_)
    replace hrow := hrow'
    replace E := E.mod m5 (fun g hg => by have := hqb g hg; omega); replace hw1 := Own.modS hw1 m5 hq5
    have z7 := m5.size
    clear hqb hq5
    refine J_done ?_
    refine S_reg [true, true, true] rfl rfl ?_
    refine J_st (R_move rfl) rfl (J_st (R_add rfl rfl (add_nat (by unfold maxLen; omega))) rfl (J_st (R_assign rfl) rfl (J_done ?_)))
    refine S_nil (E_inB ?_)
    refine S_reg [true, true, true] rfl rfl ?_
    refine J_st (R_move rfl) rfl (J_st (R_add rfl rfl (add_nat (by unfold maxLen; omega))) rfl (J_st (R_assign rfl) rfl (J_done ?_)))
    have hxs := RowK.close hrow (Link.mkO (⟨((q : Nat) : Int), mkL 5 mkRecord (q + 1) ((xs[i]'hlt).queue).length, (((q + 1) + 5 * ((xs[i]'hlt).queue).length : Nat) : Int), (((q + 1) + 5 * ((xs[i]'hlt).queue).length + 1 : Nat) : Int), (((q + 1) + 5 * ((xs[i]'hlt).queue).length + 1 + 1 : Nat) : Int), (((q + 1) + 5 * ((xs[i]'hlt).queue).length + 1 + 1 + 1 : Nat) : Int)⟩ : Link) sp1 (Own.widen hw1 (by omega) (by omega)))
    refine S_nil (E_again (i + 1, (q + 1) + 5 * ((xs[i]'hlt).queue).length + 1 + 1 + 1 + 1) (by simp; omega) ⟨rfl, rfl, rfl, rfl, trivial⟩ ⟨E, (by omega), (by omega), (by rw [numA_take hlt, ← hq]; rfl), (by rw [markA_take hlt, ← hq]; exact hxs)⟩)
  · have hc1n : ¬ i < xs.length := by first | (have h := of_decide_eq_false hc1; omega) | (have h := hc1; simp at h; omega)
    refine S_exit (E_lp_exit (E_inB_exit ?_))
    refine S_seq ?_
    refine S_reg [true, true] rfl rfl ?_
    refine J_st (R_move rfl) rfl (J_st (R_assign rfl) rfl (J_done ?_))
    refine S_ret (E_done1 rfl rfl E ?_)
    have hi9 : xs.length ≤ i := by have h := of_decide_eq_false hc1; omega
    rw [List.take_of_length_le hi9] at hq hxs
    rw [List.drop_of_length_le hi9, List.append_nil] at hxs
    exact ⟨by rw [hq], hxs.1, hxs.2⟩

set_option maxRecDepth 20000 in
theorem markCluster (o1x o2x o3x o4x o5x : Value) (lo hi : Nat) (x : Cluster) (k : Nat) (w : World) (hx : OwC w lo hi o1x o2x o3x o4x o5x x) (hhi : hi ≤ w.heap.size) (hb : k + 5 * cntCluster x ≤ 1099511627776) : CtR Try.prog 15 [.agg [o1x, .int .i64 x.graph.workers, .int .i64 x.graph.cap, o2x, o3x, o4x, o5x].toArray, .int .i64 ((k : Nat) : Int)] w lo hi (fun v w' => v = .int .i64 ((numCl k x : Nat) : Int) ∧ OwC w' lo hi o1x o2x o3x o4x o5x (markCl k x)) := by
  unfold cntCluster cntGraph at hb
  have b1 := @numA_bd _ _ _ 4 numN1_bd k x.graph.nodes
  have b2 := @numA_bd _ _ _ 5 numW_bd (numA numN1 k x.graph.nodes) x.workers
  have b3 := @numA_bd _ _ _ 5 numL1_bd (numA numW (numA numN1 k x.graph.nodes) x.workers) x.links
  refine ctR_of Try.func15 rfl Try.ntmps15 rfl ?_
  obtain ⟨f1, f2, f3, hw1, hw2, hw3, hw4, hw5, sp1⟩ := hx
  refine S_sub [(0, .agg [o1x, .int .i64 x.graph.workers, .int .i64 x.graph.cap, o2x, o3x, o4x, o5x].toArray), (1, .int .i64 ((k : Nat) : Int))] ⟨rfl, rfl, trivial⟩ ?_
  have E : ModR w w lo hi := ModR.refl w lo hi
  refine S_seq ?_
  refine S_reg [false, true] rfl rfl ?_
  refine J_box rfl rfl (fun b1 w1 e1 s1 h1 => ?_)
  have g_b1 : w.heap.size ≤ b1 := by have := E.size; omega
  have y_b1 := h1.lt
  replace E := E.ext e1; replace hw1 := hw1.ext e1; replace hw2 := hw2.ext e1; replace hw3 := hw3.ext e1; replace hw4 := hw4.ext e1; replace hw5 := hw5.ext e1
  have z1 := e1.size
  refine J_st (R_assign rfl) rfl (J_done ?_)
  refine S_seq ?_
  refine S_reg [true, true, true, false, true] rfl rfl ?_
  refine J_st (R_fieldAddr0 fl36_0 rfl) rfl (J_st (R_loadS st30 rfl (h1.part 0 [o1x, .int .i64 x.graph.workers, .int .i64 x.graph.cap] rfl) rfl) rfl (J_st (R_move rfl) rfl ?_))
  refine J_callR Try.call13 rfl rfl (markGraph o1x lo hi f1 x.graph k _ hw1 (by omega) (by unfold cntGraph; omega)) rfl (fun _ w2 e2 hv => ?_)
  obtain ⟨rfl, hw1', kq1⟩ := hv
  replace hw1 := hw1'
  replace E := E.trans e2 (by omega) (by omega); replace hw2 := OwF.kp hw2 (Kq.kp kq1 (sp1.1.1).symm); replace hw3 := OwF.kp hw3 (Kq.kp kq1 (sp1.1.2.1).symm); replace hw4 := Own.kp hw4 (Kq.kp kq1 (sp1.1.2.2.1).symm); replace hw5 := Own.kp hw5 (Kq.kp kq1 (sp1.1.2.2.2.1).symm); replace h1 := h1.modR e2 (by omega)
  have z2 := e2.size
  refine J_st (R_assign rfl) rfl (J_done ?_)
  refine S_seq ?_
  refine S_reg [true, true, true, false, true] rfl rfl ?_
  refine J_st (R_fieldAddr0 fl36_1 rfl) rfl (J_st (R_load sc31 rfl (h1.one 3 rfl)) rfl (J_st (R_move rfl) rfl ?_))
  refine J_callR Try.call40 rfl rfl (markWorkerS o2x lo hi f2 x.workers (numA numN1 k x.graph.nodes) _ hw2 (by omega) (by omega)) rfl (fun _ w3 e3 hv => ?_)
  obtain ⟨rfl, hw2', kq2⟩ := hv
  replace hw2 := hw2'
  replace E := E.trans e3 (by omega) (by omega); replace hw1 := OwF.kp hw1 (Kq.kp kq2 sp1.1.1); replace hw3 := OwF.kp hw3 (Kq.kp kq2 (sp1.2.1.1).symm); replace hw4 := Own.kp hw4 (Kq.kp kq2 (sp1.2.1.2.1).symm); replace hw5 := Own.kp hw5 (Kq.kp kq2 (sp1.2.1.2.2.1).symm); replace h1 := h1.modR e3 (by omega)
  have z3 := e3.size
  refine J_st (R_assign rfl) rfl (J_done ?_)
  refine S_seq ?_
  refine S_reg [true, true, true, false, true] rfl rfl ?_
  refine J_st (R_fieldAddr0 fl36_2 rfl) rfl (J_st (R_load sc32 rfl (h1.one 4 rfl)) rfl (J_st (R_move rfl) rfl ?_))
  refine J_callR Try.call41 rfl rfl (markLinkS o3x lo hi f3 x.links ((numA numW) (numA numN1 k x.graph.nodes) x.workers) _ hw3 (by omega) (by omega)) rfl (fun _ w4 e4 hv => ?_)
  obtain ⟨rfl, hw3', kq3⟩ := hv
  replace hw3 := hw3'
  replace E := E.trans e4 (by omega) (by omega); replace hw1 := OwF.kp hw1 (Kq.kp kq3 sp1.1.2.1); replace hw2 := OwF.kp hw2 (Kq.kp kq3 sp1.2.1.1); replace hw4 := Own.kp hw4 (Kq.kp kq3 (sp1.2.2.1.1).symm); replace hw5 := Own.kp hw5 (Kq.kp kq3 (sp1.2.2.1.2.1).symm); replace h1 := h1.modR e4 (by omega)
  have z4 := e4.size
  refine J_st (R_assign rfl) rfl (J_done ?_)
  refine S_seq ?_
  refine S_reg [true, true, true, false, true] rfl rfl ?_
  refine J_st (R_fieldAddr0 fl36_3 rfl) rfl (J_st (R_load sc33 rfl (h1.one 5 rfl)) rfl (J_st (R_move rfl) rfl ?_))
  refine J_callR Try.call42 rfl rfl (markTokenS o4x (bl o4x) (bh o4x) x.tokens ((numA numL1) ((numA numW) (numA numN1 k x.graph.nodes) x.workers) x.links) _ (Own.tight hw4) (by omega)) rfl (fun _ w5 e5 hv => ?_)
  obtain ⟨rfl, hw4'⟩ := hv
  have e5c := ModR.loose e5 (Own.blk hw4)
  replace hw4 := Own.loose hw4' (Own.blk hw4)
  clear hw4'
  have kq4 := ModR.kq e5
  replace E := E.trans e5c (by omega) (by omega); replace hw1 := OwF.kp hw1 (Kq.kp kq4 sp1.1.2.2.1); replace hw2 := OwF.kp hw2 (Kq.kp kq4 sp1.2.1.2.1); replace hw3 := OwF.kp hw3 (Kq.kp kq4 sp1.2.2.1.1); replace hw5 := Own.kp hw5 (Kq.kp kq4 (sp1.2.2.2.1.1).symm); replace h1 := h1.modR e5c (by omega)
  have z5 := e5c.size
  refine J_st (R_assign rfl) rfl (J_done ?_)
  refine S_seq ?_
  refine S_reg [true, true, true, false, true] rfl rfl ?_
  refine J_st (R_fieldAddr0 fl36_4 rfl) rfl (J_st (R_load sc34 rfl (h1.one 6 rfl)) rfl (J_st (R_move rfl) rfl ?_))
  refine J_callR Try.call43 rfl rfl (markNewsS o5x (bl o5x) (bh o5x) x.news (((numA numL1) ((numA numW) (numA numN1 k x.graph.nodes) x.workers) x.links) + 5 * x.tokens.length) _ (Own.tight hw5) (by omega)) rfl (fun _ w6 e6 hv => ?_)
  obtain ⟨rfl, hw5'⟩ := hv
  have e6c := ModR.loose e6 (Own.blk hw5)
  replace hw5 := Own.loose hw5' (Own.blk hw5)
  clear hw5'
  have kq5 := ModR.kq e6
  replace E := E.trans e6c (by omega) (by omega); replace hw1 := OwF.kp hw1 (Kq.kp kq5 sp1.1.2.2.2.1); replace hw2 := OwF.kp hw2 (Kq.kp kq5 sp1.2.1.2.2.1); replace hw3 := OwF.kp hw3 (Kq.kp kq5 sp1.2.2.1.2.1); replace hw4 := Own.kp hw4 (Kq.kp kq5 sp1.2.2.2.1.1); replace h1 := h1.modR e6c (by omega)
  have z6 := e6c.size
  refine J_st (R_assign rfl) rfl (J_done ?_)
  refine S_seq ?_
  refine S_reg [true, true] rfl rfl ?_
  refine J_st (R_move rfl) rfl (J_st (R_assign rfl) rfl (J_done ?_))
  refine S_ret (E_done1 rfl rfl E ?_)
  exact ⟨rfl, _, _, _, hw1, hw2, hw3, hw4, hw5, sp1⟩

set_option maxRecDepth 20000 in
theorem heldNodeS (vxs : Value) (xs : List Node) (k : Nat) (w : World) (hxs : RdD w 0 w.heap.size vxs xs) (hm : xs = (markA numN1 markN1) k xs) (hb : k + 4 * cntL cntNode xs ≤ 1099511627776) : Ct Try.prog 74 [vxs, .int .i64 ((k : Nat) : Int)] w (fun v _ => v = .int .i64 ((numA numN1 k xs : Nat) : Int)) := by
  refine ct_of Try.func74 rfl Try.ntmps74 rfl ?_
  refine S_sub [(0, vxs), (1, .int .i64 ((k : Nat) : Int))] ⟨rfl, rfl, trivial⟩ ?_
  have E : Ext w w := Ext.refl w
  refine S_seq ?_
  refine S_reg [true] rfl rfl ?_
  refine J_st (R_assign rfl) rfl (J_done ?_)
  refine S_seq ?_
  refine S_seq ?_
  refine S_reg [true] rfl rfl ?_
  refine J_st (R_assign rfl) rfl (J_done ?_)
  refine S_block ?_
  refine S_loop (fun (xq : Nat × Nat) => let ⟨i, q⟩ := xq; [(0, vxs), (1, .int .i64 ((q : Nat) : Int)), (4, .int .i64 0), (5, .int .i64 ((i : Nat) : Int))]) (fun (xq : Nat × Nat) w' => let ⟨i, q⟩ := xq; Ext w w' ∧ w.heap.size ≤ w'.heap.size ∧ i ≤ xs.length ∧ q = (numA numN1) k (xs.take i)) (fun (xq : Nat × Nat) => let ⟨i, q⟩ := xq; xs.length - i) (0, k) ⟨rfl, rfl, rfl, rfl, trivial⟩ ⟨E, Nat.le_refl _, Nat.zero_le _, rfl⟩ ?_
  clear E
  rintro ⟨i, q⟩ w1 ⟨E, z1, hi, hq⟩
  refine S_sub [(0, vxs), (1, .int .i64 ((q : Nat) : Int)), (4, .int .i64 0), (5, .int .i64 ((i : Nat) : Int))] ⟨rfl, rfl, rfl, rfl, trivial⟩ ?_
  have hmx := hxs.1.1
  unfold maxLen at hmx
  refine S_seq ?_
  refine S_seq ?_
  refine S_reg [true, true, true, true] rfl rfl ?_
  refine J_st (R_move rfl) rfl (J_st (R_move rfl) rfl (J_st (R_len Try.underlying28 rfl (hxs.ext E).len) rfl (J_st (R_lss rfl rfl) rfl (J_done ?_))))
  refine S_cond rfl (fun hc1 => ?_) (fun hc1 => ?_)
  · have hlt : i < xs.length := by have h := of_decide_eq_true hc1; omega
    have hqk := numA_le (k := k) numN1_bd hlt; rw [← hq] at hqk; unfold numN1 at hqk
    have hx := markA_at hm hlt; rw [← hq] at hx
    have hc1n : i < xs.length := by first | (have h := of_decide_eq_true hc1; omega) | (have h := hc1; simp at h; omega)
    refine S_skip ?_
    refine S_seq ?_
    refine S_block ?_
    refine S_seq ?_
    refine S_seq ?_
    refine S_reg [true, true, true, true, true, true, true] rfl rfl ?_
    refine J_st (R_move rfl) rfl (J_st (R_move rfl) rfl ?_)
    have hi1 : i < xs.length := (by first | assumption | omega | (simp only [List.length_set]; first | assumption | omega) | (simp only [List.getElem_set_self, List.length_set]; first | assumption | omega) | (simp only [setW, setLk, List.length_set]; first | assumption | omega))
    obtain ⟨_, hr1, ha1⟩ := RdD.get hxs hi1
    obtain ⟨o1, rfl, hd1⟩ := Node.op hr1
    replace ha1 : At w (sblk vxs) (soff vxs + i * 4) [.int .i64 ((xs[i]'hi1).kind), .int .i64 ((xs[i]'hi1).a), .int .i64 ((xs[i]'hi1).b), o1] := ha1
    refine J_st (R_index (i := i) sl28 rfl rfl (hxs.ext E).1 hi1) rfl (J_st (R_fieldAddr fl90_0 rfl) rfl (J_st (R_load sc3 rfl ((ha1.ext E).one 0 rfl)) rfl (J_st (R_move rfl) rfl (J_st (R_neq rfl rfl) rfl (J_done ?_)))))
    refine S_condFe rfl (by rw [hx]; simp [markN1, mkL_length]) ?_
    refine S_skip ?_
    refine S_seq ?_
    refine S_reg [true, true, true] rfl rfl ?_
    refine J_st (R_move rfl) rfl (J_st (R_add rfl rfl (add_nat (by unfold maxLen; omega))) rfl (J_st (R_assign rfl) rfl (J_done ?_)))
    refine S_seq ?_
    refine S_seq ?_
    refine S_reg [true, true, true, true, true, true, true] rfl rfl ?_
    refine J_st (R_move rfl) rfl (J_st (R_move rfl) rfl (J_st (R_index (i := i) sl28 rfl rfl (hxs.ext E).1 hi1) rfl (J_st (R_fieldAddr fl90_1 rfl) rfl (J_st (R_load sc3 rfl ((ha1.ext E).one 1 rfl)) rfl (J_st (R_move rfl) rfl (J_st (R_neq rfl rfl) rfl (J_done ?_)))))))
    refine S_condFe rfl (by rw [hx]; simp [markN1, mkL_length]) ?_
    refine S_skip ?_
    refine S_seq ?_
    refine S_reg [true, true, true] rfl rfl ?_
    refine J_st (R_move rfl) rfl (J_st (R_add rfl rfl (add_nat (by unfold maxLen; omega))) rfl (J_st (R_assign rfl) rfl (J_done ?_)))
    refine S_seq ?_
    refine S_seq ?_
    refine S_reg [true, true, true, true, true, true, true] rfl rfl ?_
    refine J_st (R_move rfl) rfl (J_st (R_move rfl) rfl (J_st (R_index (i := i) sl28 rfl rfl (hxs.ext E).1 hi1) rfl (J_st (R_fieldAddr fl90_2 rfl) rfl (J_st (R_load sc3 rfl ((ha1.ext E).one 2 rfl)) rfl (J_st (R_move rfl) rfl (J_st (R_neq rfl rfl) rfl (J_done ?_)))))))
    refine S_condFe rfl (by rw [hx]; simp [markN1, mkL_length]) ?_
    refine S_skip ?_
    refine S_seq ?_
    refine S_reg [true, true, true] rfl rfl ?_
    refine J_st (R_move rfl) rfl (J_st (R_add rfl rfl (add_nat (by unfold maxLen; omega))) rfl (J_st (R_assign rfl) rfl (J_done ?_)))
    refine S_seq ?_
    refine S_reg [true, true, true, true, true, true, false, true] rfl rfl ?_
    refine J_st (R_move rfl) rfl (J_st (R_move rfl) rfl (J_st (R_index (i := i) sl28 rfl rfl (hxs.ext E).1 hi1) rfl (J_st (R_fieldAddr fl90_3 rfl) rfl (J_st (R_load sc58 rfl ((ha1.ext E).one 3 rfl)) rfl (J_st (R_move rfl) rfl ?_)))))
    refine J_call Try.call77 rfl (heldIntS o1 ((xs[i]'hi1).outs) (q + 1 + 1 + 1) _ (hd1.rd.ext E) (congrArg Node.outs hx) (by omega)) rfl (fun _ w2 e1 hv => ?_)
    subst hv
    replace E := E.trans e1
    have z2 := e1.size
    refine J_st (R_assign rfl) rfl (J_done ?_)
    refine S_seq ?_
    refine S_reg [true, true] rfl rfl ?_
    refine J_st (R_move rfl) rfl (J_st (R_lss rfl rfl) rfl (J_done ?_))
    refine S_condFe rfl (by first | (simp; done) | (simp only [nat_nlt] <;> simp) | (simp only [mkL_length, nat_nlt] <;> simp) | (simp only [mkL_length] <;> simp)) ?_
    refine S_skip ?_
    refine S_nil (E_inB ?_)
    refine S_reg [true, true, true] rfl rfl ?_
    refine J_st (R_move rfl) rfl (J_st (R_add rfl rfl (add_nat (by unfold maxLen; omega))) rfl (J_st (R_assign rfl) rfl (J_done ?_)))
    refine S_nil (E_again (i + 1, (q + 1 + 1 + 1) + 1 * ((xs[i]'hi1).outs).length) (by simp; omega) ⟨rfl, rfl, rfl, rfl, trivial⟩ ⟨E, (by omega), (by omega), (by rw [numA_take (by omega), ← hq]; rfl)⟩)
  · have hc1n : ¬ i < xs.length := by first | (have h := of_decide_eq_false hc1; omega) | (have h := hc1; simp at h; omega)
    refine S_exit (E_lp_exit (E_inB_exit ?_))
    refine S_seq ?_
    refine S_reg [true, true] rfl rfl ?_
    refine J_st (R_move rfl) rfl (J_st (R_assign rfl) rfl (J_done ?_))
    refine S_ret (E_done1 rfl rfl E ?_)
    rw [hq, List.take_of_length_le (by omega)]

set_option maxHeartbeats 4000000 in
set_option maxRecDepth 20000 in
theorem heldWorkerS (vxs : Value) (xs : List Worker) (k : Nat) (w : World) (hxs : RdD w 0 w.heap.size vxs xs) (hm : xs = (markA numW markW) k xs) (hb : k + 5 * cntL cntWorker xs ≤ 1099511627776) : Ct Try.prog 45 [vxs, .int .i64 ((k : Nat) : Int)] w (fun v _ => v = .int .i64 ((numA numW k xs : Nat) : Int)) := by
  refine ct_of Try.func45 rfl Try.ntmps45 rfl ?_
  refine S_sub [(0, vxs), (1, .int .i64 ((k : Nat) : Int))] ⟨rfl, rfl, trivial⟩ ?_
  have E : Ext w w := Ext.refl w
  refine S_seq ?_
  refine S_reg [true] rfl rfl ?_
  refine J_st (R_assign rfl) rfl (J_done ?_)
  refine S_seq ?_
  refine S_seq ?_
  refine S_reg [true] rfl rfl ?_
  refine J_st (R_assign rfl) rfl (J_done ?_)
  refine S_block ?_
  refine S_loop (fun (xq : Nat × Nat) => let ⟨i, q⟩ := xq; [(0, vxs), (1, .int .i64 ((q : Nat) : Int)), (4, .int .i64 0), (5, .int .i64 ((i : Nat) : Int))]) (fun (xq : Nat × Nat) w' => let ⟨i, q⟩ := xq; Ext w w' ∧ w.heap.size ≤ w'.heap.size ∧ i ≤ xs.length ∧ q = (numA numW) k (xs.take i)) (fun (xq : Nat × Nat) => let ⟨i, q⟩ := xq; xs.length - i) (0, k) ⟨rfl, rfl, rfl, rfl, trivial⟩ ⟨E, Nat.le_refl _, Nat.zero_le _, rfl⟩ ?_
  clear E
  rintro ⟨i, q⟩ w1 ⟨E, z1, hi, hq⟩
  refine S_sub [(0, vxs), (1, .int .i64 ((q : Nat) : Int)), (4, .int .i64 0), (5, .int .i64 ((i : Nat) : Int))] ⟨rfl, rfl, rfl, rfl, trivial⟩ ?_
  have hmx := hxs.1.1
  unfold maxLen at hmx
  refine S_seq ?_
  refine S_seq ?_
  refine S_reg [true, true, true, true] rfl rfl ?_
  refine J_st (R_move rfl) rfl (J_st (R_move rfl) rfl (J_st (R_len Try.underlying31 rfl (hxs.ext E).len) rfl (J_st (R_lss rfl rfl) rfl (J_done ?_))))
  refine S_cond rfl (fun hc1 => ?_) (fun hc1 => ?_)
  · have hlt : i < xs.length := by have h := of_decide_eq_true hc1; omega
    have hqk := numA_le (k := k) numW_bd hlt; rw [← hq] at hqk; unfold numW at hqk
    have hx := markA_at hm hlt; rw [← hq] at hx
    have hc1n : i < xs.length := by first | (have h := of_decide_eq_true hc1; omega) | (have h := hc1; simp at h; omega)
    refine S_skip ?_
    refine S_seq ?_
    refine S_block ?_
    refine S_seq ?_
    refine S_reg [true, true, true, true, true, true, false, true] rfl rfl ?_
    refine J_st (R_move rfl) rfl (J_st (R_move rfl) rfl ?_)
    have hi1 : i < xs.length := (by first | assumption | omega | (simp only [List.length_set]; first | assumption | omega) | (simp only [List.getElem_set_self, List.length_set]; first | assumption | omega) | (simp only [setW, setLk, List.length_set]; first | assumption | omega))
    obtain ⟨_, hr1, ha1⟩ := RdD.get hxs hi1
    obtain ⟨o1, o2, o3, o4, o5, o6, o7, o8, rfl, hd1, hd2, hd3, hd4, hd5, hd6, hd7, hd8⟩ := Worker.op hr1
    replace ha1 : At w (sblk vxs) (soff vxs + i * 8) [o1, o2, o3, o4, o5, o6, o7, o8] := ha1
    refine J_st (R_index (i := i) sl31 rfl rfl (hxs.ext E).1 hi1) rfl (J_st (R_fieldAddr fl62_0 rfl) rfl (J_st (R_load sc40 rfl ((ha1.ext E).one 0 rfl)) rfl (J_st (R_move rfl) rfl ?_)))
    refine J_call Try.call75 rfl (heldRecordS o1 ((xs[i]'hi1).queue) q _ (hd1.rd.ext E) (congrArg Worker.queue hx) (by omega)) rfl (fun _ w2 e1 hv => ?_)
    subst hv
    replace E := E.trans e1
    have z2 := e1.size
    refine J_st (R_assign rfl) rfl (J_done ?_)
    refine S_seq ?_
    refine S_seq ?_
    refine S_reg [true, true] rfl rfl ?_
    refine J_st (R_move rfl) rfl (J_st (R_lss rfl rfl) rfl (J_done ?_))
    refine S_condFe rfl (by first | (simp; done) | (simp only [nat_nlt] <;> simp) | (simp only [mkL_length, nat_nlt] <;> simp) | (simp only [mkL_length] <;> simp)) ?_
    refine S_skip ?_
    refine S_seq ?_
    refine S_reg [true, true, true, true, true, true, false, true] rfl rfl ?_
    refine J_st (R_move rfl) rfl (J_st (R_move rfl) rfl (J_st (R_index (i := i) sl31 rfl rfl (hxs.ext E).1 hi1) rfl (J_st (R_fieldAddr fl62_1 rfl) rfl (J_st (R_load sc40 rfl ((ha1.ext E).one 1 rfl)) rfl (J_st (R_move rfl) rfl ?_)))))
    refine J_call Try.call75 rfl (heldRecordS o2 ((xs[i]'hi1).staged) (q + 5 * ((xs[i]'hi1).queue).length) _ (hd2.rd.ext E) (congrArg Worker.staged hx) (by omega)) rfl (fun _ w3 e2 hv => ?_)
    subst hv
    replace E := E.trans e2
    have z3 := e2.size
    refine J_st (R_assign rfl) rfl (J_done ?_)
    refine S_seq ?_
    refine S_seq ?_
    refine S_reg [true, true] rfl rfl ?_
    refine J_st (R_move rfl) rfl (J_st (R_lss rfl rfl) rfl (J_done ?_))
    refine S_condFe rfl (by first | (simp; done) | (simp only [nat_nlt] <;> simp) | (simp only [mkL_length, nat_nlt] <;> simp) | (simp only [mkL_length] <;> simp)) ?_
    refine S_skip ?_
    refine S_seq ?_
    refine S_reg [true, true, true, true, true, true, false, true] rfl rfl ?_
    refine J_st (R_move rfl) rfl (J_st (R_move rfl) rfl (J_st (R_index (i := i) sl31 rfl rfl (hxs.ext E).1 hi1) rfl (J_st (R_fieldAddr fl62_2 rfl) rfl (J_st (R_load sc40 rfl ((ha1.ext E).one 2 rfl)) rfl (J_st (R_move rfl) rfl ?_)))))
    refine J_call Try.call75 rfl (heldRecordS o3 ((xs[i]'hi1).inputs) ((q + 5 * ((xs[i]'hi1).queue).length) + 5 * ((xs[i]'hi1).staged).length) _ (hd3.rd.ext E) (congrArg Worker.inputs hx) (by omega)) rfl (fun _ w4 e3 hv => ?_)
    subst hv
    replace E := E.trans e3
    have z4 := e3.size
    refine J_st (R_assign rfl) rfl (J_done ?_)
    refine S_seq ?_
    refine S_seq ?_
    refine S_reg [true, true] rfl rfl ?_
    refine J_st (R_move rfl) rfl (J_st (R_lss rfl rfl) rfl (J_done ?_))
    refine S_condFe rfl (by first | (simp; done) | (simp only [nat_nlt] <;> simp) | (simp only [mkL_length, nat_nlt] <;> simp) | (simp only [mkL_length] <;> simp)) ?_
    refine S_skip ?_
    refine S_seq ?_
    refine S_reg [true, true, true, true, true, true, false, true] rfl rfl ?_
    refine J_st (R_move rfl) rfl (J_st (R_move rfl) rfl (J_st (R_index (i := i) sl31 rfl rfl (hxs.ext E).1 hi1) rfl (J_st (R_fieldAddr fl62_3 rfl) rfl (J_st (R_load sc57 rfl ((ha1.ext E).one 3 rfl)) rfl (J_st (R_move rfl) rfl ?_)))))
    refine J_call Try.call76 rfl (heldCellS o4 ((xs[i]'hi1).cells) (((q + 5 * ((xs[i]'hi1).queue).length) + 5 * ((xs[i]'hi1).staged).length) + 5 * ((xs[i]'hi1).inputs).length) _ (hd4.rd.ext E) (congrArg Worker.cells hx) (by omega)) rfl (fun _ w5 e4 hv => ?_)
    subst hv
    replace E := E.trans e4
    have z5 := e4.size
    refine J_st (R_assign rfl) rfl (J_done ?_)
    refine S_seq ?_
    refine S_seq ?_
    refine S_reg [true, true] rfl rfl ?_
    refine J_st (R_move rfl) rfl (J_st (R_lss rfl rfl) rfl (J_done ?_))
    refine S_condFe rfl (by first | (simp; done) | (simp only [nat_nlt] <;> simp) | (simp only [mkL_length, nat_nlt] <;> simp) | (simp only [mkL_length] <;> simp)) ?_
    refine S_skip ?_
    refine S_seq ?_
    refine S_reg [true, true, true, true, true, true, false, true] rfl rfl ?_
    refine J_st (R_move rfl) rfl (J_st (R_move rfl) rfl (J_st (R_index (i := i) sl31 rfl rfl (hxs.ext E).1 hi1) rfl (J_st (R_fieldAddr fl62_4 rfl) rfl (J_st (R_load sc58 rfl ((ha1.ext E).one 4 rfl)) rfl (J_st (R_move rfl) rfl ?_)))))
    refine J_call Try.call77 rfl (heldIntS o5 ((xs[i]'hi1).sums) ((((q + 5 * ((xs[i]'hi1).queue).length) + 5 * ((xs[i]'hi1).staged).length) + 5 * ((xs[i]'hi1).inputs).length) + 4 * ((xs[i]'hi1).cells).length) _ (hd5.rd.ext E) (congrArg Worker.sums hx) (by omega)) rfl (fun _ w6 e5 hv => ?_)
    subst hv
    replace E := E.trans e5
    have z6 := e5.size
    refine J_st (R_assign rfl) rfl (J_done ?_)
    refine S_seq ?_
    refine S_seq ?_
    refine S_reg [true, true] rfl rfl ?_
    refine J_st (R_move rfl) rfl (J_st (R_lss rfl rfl) rfl (J_done ?_))
    refine S_condFe rfl (by first | (simp; done) | (simp only [nat_nlt] <;> simp) | (simp only [mkL_length, nat_nlt] <;> simp) | (simp only [mkL_length] <;> simp)) ?_
    refine S_skip ?_
    refine S_seq ?_
    refine S_reg [true, true, true, true, true, true, false, true] rfl rfl ?_
    refine J_st (R_move rfl) rfl (J_st (R_move rfl) rfl (J_st (R_index (i := i) sl31 rfl rfl (hxs.ext E).1 hi1) rfl (J_st (R_fieldAddr fl62_5 rfl) rfl (J_st (R_load sc59 rfl ((ha1.ext E).one 5 rfl)) rfl (J_st (R_move rfl) rfl ?_)))))
    refine J_call Try.call78 rfl (heldBoolS o6 ((xs[i]'hi1).black) (((((q + 5 * ((xs[i]'hi1).queue).length) + 5 * ((xs[i]'hi1).staged).length) + 5 * ((xs[i]'hi1).inputs).length) + 4 * ((xs[i]'hi1).cells).length) + 1 * ((xs[i]'hi1).sums).length) _ (hd6.rd.ext E) (congrArg Worker.black hx) (by omega)) rfl (fun _ w7 e6 hv => ?_)
    subst hv
    replace E := E.trans e6
    have z7 := e6.size
    refine J_st (R_assign rfl) rfl (J_done ?_)
    refine S_seq ?_
    refine S_seq ?_
    refine S_reg [true, true] rfl rfl ?_
    refine J_st (R_move rfl) rfl (J_st (R_lss rfl rfl) rfl (J_done ?_))
    refine S_condFe rfl (by first | (simp; done) | (simp only [nat_nlt] <;> simp) | (simp only [mkL_length, nat_nlt] <;> simp) | (simp only [mkL_length] <;> simp)) ?_
    refine S_skip ?_
    refine S_seq ?_
    refine S_reg [true, true, true, true, true, true, false, true] rfl rfl ?_
    refine J_st (R_move rfl) rfl (J_st (R_move rfl) rfl (J_st (R_index (i := i) sl31 rfl rfl (hxs.ext E).1 hi1) rfl (J_st (R_fieldAddr fl62_6 rfl) rfl (J_st (R_load sc59 rfl ((ha1.ext E).one 6 rfl)) rfl (J_st (R_move rfl) rfl ?_)))))
    refine J_call Try.call78 rfl (heldBoolS o7 ((xs[i]'hi1).caps) ((((((q + 5 * ((xs[i]'hi1).queue).length) + 5 * ((xs[i]'hi1).staged).length) + 5 * ((xs[i]'hi1).inputs).length) + 4 * ((xs[i]'hi1).cells).length) + 1 * ((xs[i]'hi1).sums).length) + 1 * ((xs[i]'hi1).black).length) _ (hd7.rd.ext E) (congrArg Worker.caps hx) (by omega)) rfl (fun _ w8 e7 hv => ?_)
    subst hv
    replace E := E.trans e7
    have z8 := e7.size
    refine J_st (R_assign rfl) rfl (J_done ?_)
    refine S_seq ?_
    refine S_seq ?_
    refine S_reg [true, true] rfl rfl ?_
    refine J_st (R_move rfl) rfl (J_st (R_lss rfl rfl) rfl (J_done ?_))
    refine S_condFe rfl (by first | (simp; done) | (simp only [nat_nlt] <;> simp) | (simp only [mkL_length, nat_nlt] <;> simp) | (simp only [mkL_length] <;> simp)) ?_
    refine S_skip ?_
    refine S_seq ?_
    refine S_reg [true, true, true, true, true, true, false, true] rfl rfl ?_
    refine J_st (R_move rfl) rfl (J_st (R_move rfl) rfl (J_st (R_index (i := i) sl31 rfl rfl (hxs.ext E).1 hi1) rfl (J_st (R_fieldAddr fl62_7 rfl) rfl (J_st (R_load sc60 rfl ((ha1.ext E).one 7 rfl)) rfl (J_st (R_move rfl) rfl ?_)))))
    refine J_call Try.call79 rfl (heldDoneS o8 ((xs[i]'hi1).dones) (((((((q + 5 * ((xs[i]'hi1).queue).length) + 5 * ((xs[i]'hi1).staged).length) + 5 * ((xs[i]'hi1).inputs).length) + 4 * ((xs[i]'hi1).cells).length) + 1 * ((xs[i]'hi1).sums).length) + 1 * ((xs[i]'hi1).black).length) + 1 * ((xs[i]'hi1).caps).length) _ (hd8.rd.ext E) (congrArg Worker.dones hx) (by omega)) rfl (fun _ w9 e8 hv => ?_)
    subst hv
    replace E := E.trans e8
    have z9 := e8.size
    refine J_st (R_assign rfl) rfl (J_done ?_)
    refine S_seq ?_
    refine S_reg [true, true] rfl rfl ?_
    refine J_st (R_move rfl) rfl (J_st (R_lss rfl rfl) rfl (J_done ?_))
    refine S_condFe rfl (by first | (simp; done) | (simp only [nat_nlt] <;> simp) | (simp only [mkL_length, nat_nlt] <;> simp) | (simp only [mkL_length] <;> simp)) ?_
    refine S_skip ?_
    refine S_nil (E_inB ?_)
    refine S_reg [true, true, true] rfl rfl ?_
    refine J_st (R_move rfl) rfl (J_st (R_add rfl rfl (add_nat (by unfold maxLen; omega))) rfl (J_st (R_assign rfl) rfl (J_done ?_)))
    refine S_nil (E_again (i + 1, (((((((q + 5 * ((xs[i]'hi1).queue).length) + 5 * ((xs[i]'hi1).staged).length) + 5 * ((xs[i]'hi1).inputs).length) + 4 * ((xs[i]'hi1).cells).length) + 1 * ((xs[i]'hi1).sums).length) + 1 * ((xs[i]'hi1).black).length) + 1 * ((xs[i]'hi1).caps).length) + 2 * ((xs[i]'hi1).dones).length) (by simp; omega) ⟨rfl, rfl, rfl, rfl, trivial⟩ ⟨E, (by omega), (by omega), (by rw [numA_take (by omega), ← hq]; rfl)⟩)
  · have hc1n : ¬ i < xs.length := by first | (have h := of_decide_eq_false hc1; omega) | (have h := hc1; simp at h; omega)
    refine S_exit (E_lp_exit (E_inB_exit ?_))
    refine S_seq ?_
    refine S_reg [true, true] rfl rfl ?_
    refine J_st (R_move rfl) rfl (J_st (R_assign rfl) rfl (J_done ?_))
    refine S_ret (E_done1 rfl rfl E ?_)
    rw [hq, List.take_of_length_le (by omega)]

set_option maxRecDepth 20000 in
theorem heldLinkS (vxs : Value) (xs : List Link) (k : Nat) (w : World) (hxs : RdD w 0 w.heap.size vxs xs) (hm : xs = (markA numL1 markL1) k xs) (hb : k + 5 * cntL cntLink xs ≤ 1099511627776) : Ct Try.prog 46 [vxs, .int .i64 ((k : Nat) : Int)] w (fun v _ => v = .int .i64 ((numA numL1 k xs : Nat) : Int)) := by
  refine ct_of Try.func46 rfl Try.ntmps46 rfl ?_
  refine S_sub [(0, vxs), (1, .int .i64 ((k : Nat) : Int))] ⟨rfl, rfl, trivial⟩ ?_
  have E : Ext w w := Ext.refl w
  refine S_seq ?_
  refine S_reg [true] rfl rfl ?_
  refine J_st (R_assign rfl) rfl (J_done ?_)
  refine S_seq ?_
  refine S_seq ?_
  refine S_reg [true] rfl rfl ?_
  refine J_st (R_assign rfl) rfl (J_done ?_)
  refine S_block ?_
  refine S_loop (fun (xq : Nat × Nat) => let ⟨i, q⟩ := xq; [(0, vxs), (1, .int .i64 ((q : Nat) : Int)), (4, .int .i64 0), (5, .int .i64 ((i : Nat) : Int))]) (fun (xq : Nat × Nat) w' => let ⟨i, q⟩ := xq; Ext w w' ∧ w.heap.size ≤ w'.heap.size ∧ i ≤ xs.length ∧ q = (numA numL1) k (xs.take i)) (fun (xq : Nat × Nat) => let ⟨i, q⟩ := xq; xs.length - i) (0, k) ⟨rfl, rfl, rfl, rfl, trivial⟩ ⟨E, Nat.le_refl _, Nat.zero_le _, rfl⟩ ?_
  clear E
  rintro ⟨i, q⟩ w1 ⟨E, z1, hi, hq⟩
  refine S_sub [(0, vxs), (1, .int .i64 ((q : Nat) : Int)), (4, .int .i64 0), (5, .int .i64 ((i : Nat) : Int))] ⟨rfl, rfl, rfl, rfl, trivial⟩ ?_
  have hmx := hxs.1.1
  unfold maxLen at hmx
  refine S_seq ?_
  refine S_seq ?_
  refine S_reg [true, true, true, true] rfl rfl ?_
  refine J_st (R_move rfl) rfl (J_st (R_move rfl) rfl (J_st (R_len Try.underlying32 rfl (hxs.ext E).len) rfl (J_st (R_lss rfl rfl) rfl (J_done ?_))))
  refine S_cond rfl (fun hc1 => ?_) (fun hc1 => ?_)
  · have hlt : i < xs.length := by have h := of_decide_eq_true hc1; omega
    have hqk := numA_le (k := k) numL1_bd hlt; rw [← hq] at hqk; unfold numL1 at hqk
    have hx := markA_at hm hlt; rw [← hq] at hx
    have hc1n : i < xs.length := by first | (have h := of_decide_eq_true hc1; omega) | (have h := hc1; simp at h; omega)
    refine S_skip ?_
    refine S_seq ?_
    refine S_block ?_
    refine S_seq ?_
    refine S_seq ?_
    refine S_reg [true, true, true, true, true, true, true] rfl rfl ?_
    refine J_st (R_move rfl) rfl (J_st (R_move rfl) rfl ?_)
    have hi1 : i < xs.length := (by first | assumption | omega | (simp only [List.length_set]; first | assumption | omega) | (simp only [List.getElem_set_self, List.length_set]; first | assumption | omega) | (simp only [setW, setLk, List.length_set]; first | assumption | omega))
    obtain ⟨_, hr1, ha1⟩ := RdD.get hxs hi1
    obtain ⟨o1, rfl, hd1⟩ := Link.op hr1
    replace ha1 : At w (sblk vxs) (soff vxs + i * 6) [.int .i64 ((xs[i]'hi1).cap), o1, .int .i64 ((xs[i]'hi1).credits), .int .i64 ((xs[i]'hi1).back), .int .i64 ((xs[i]'hi1).sent), .int .i64 ((xs[i]'hi1).got)] := ha1
    refine J_st (R_index (i := i) sl32 rfl rfl (hxs.ext E).1 hi1) rfl (J_st (R_fieldAddr fl66_0 rfl) rfl (J_st (R_load sc3 rfl ((ha1.ext E).one 0 rfl)) rfl (J_st (R_move rfl) rfl (J_st (R_neq rfl rfl) rfl (J_done ?_)))))
    refine S_condFe rfl (by rw [hx]; simp [markL1, mkL_length]) ?_
    refine S_skip ?_
    refine S_seq ?_
    refine S_reg [true, true, true] rfl rfl ?_
    refine J_st (R_move rfl) rfl (J_st (R_add rfl rfl (add_nat (by unfold maxLen; omega))) rfl (J_st (R_assign rfl) rfl (J_done ?_)))
    refine S_seq ?_
    refine S_reg [true, true, true, true, true, true, false, true] rfl rfl ?_
    refine J_st (R_move rfl) rfl (J_st (R_move rfl) rfl (J_st (R_index (i := i) sl32 rfl rfl (hxs.ext E).1 hi1) rfl (J_st (R_fieldAddr fl66_1 rfl) rfl (J_st (R_load sc40 rfl ((ha1.ext E).one 1 rfl)) rfl (J_st (R_move rfl) rfl ?_)))))
    refine J_call Try.call75 rfl (heldRecordS o1 ((xs[i]'hi1).queue) (q + 1) _ (hd1.rd.ext E) (congrArg Link.queue hx) (by omega)) rfl (fun _ w2 e1 hv => ?_)
    subst hv
    replace E := E.trans e1
    have z2 := e1.size
    refine J_st (R_assign rfl) rfl (J_done ?_)
    refine S_seq ?_
    refine S_seq ?_
    refine S_reg [true, true] rfl rfl ?_
    refine J_st (R_move rfl) rfl (J_st (R_lss rfl rfl) rfl (J_done ?_))
    refine S_condFe rfl (by first | (simp; done) | (simp only [nat_nlt] <;> simp) | (simp only [mkL_length, nat_nlt] <;> simp) | (simp only [mkL_length] <;> simp)) ?_
    refine S_skip ?_
    refine S_seq ?_
    refine S_seq ?_
    refine S_reg [true, true, true, true, true, true, true] rfl rfl ?_
    refine J_st (R_move rfl) rfl (J_st (R_move rfl) rfl (J_st (R_index (i := i) sl32 rfl rfl (hxs.ext E).1 hi1) rfl (J_st (R_fieldAddr fl66_2 rfl) rfl (J_st (R_load sc3 rfl ((ha1.ext E).one 2 rfl)) rfl (J_st (R_move rfl) rfl (J_st (R_neq rfl rfl) rfl (J_done ?_)))))))
    refine S_condFe rfl (by rw [hx]; simp [markL1, mkL_length]) ?_
    refine S_skip ?_
    refine S_seq ?_
    refine S_reg [true, true, true] rfl rfl ?_
    refine J_st (R_move rfl) rfl (J_st (R_add rfl rfl (add_nat (by unfold maxLen; omega))) rfl (J_st (R_assign rfl) rfl (J_done ?_)))
    refine S_seq ?_
    refine S_seq ?_
    refine S_reg [true, true, true, true, true, true, true] rfl rfl ?_
    refine J_st (R_move rfl) rfl (J_st (R_move rfl) rfl (J_st (R_index (i := i) sl32 rfl rfl (hxs.ext E).1 hi1) rfl (J_st (R_fieldAddr fl66_3 rfl) rfl (J_st (R_load sc3 rfl ((ha1.ext E).one 3 rfl)) rfl (J_st (R_move rfl) rfl (J_st (R_neq rfl rfl) rfl (J_done ?_)))))))
    refine S_condFe rfl (by rw [hx]; simp [markL1, mkL_length]) ?_
    refine S_skip ?_
    refine S_seq ?_
    refine S_reg [true, true, true] rfl rfl ?_
    refine J_st (R_move rfl) rfl (J_st (R_add rfl rfl (add_nat (by unfold maxLen; omega))) rfl (J_st (R_assign rfl) rfl (J_done ?_)))
    refine S_seq ?_
    refine S_seq ?_
    refine S_reg [true, true, true, true, true, true, true] rfl rfl ?_
    refine J_st (R_move rfl) rfl (J_st (R_move rfl) rfl (J_st (R_index (i := i) sl32 rfl rfl (hxs.ext E).1 hi1) rfl (J_st (R_fieldAddr fl66_4 rfl) rfl (J_st (R_load sc3 rfl ((ha1.ext E).one 4 rfl)) rfl (J_st (R_move rfl) rfl (J_st (R_neq rfl rfl) rfl (J_done ?_)))))))
    refine S_condFe rfl (by rw [hx]; simp [markL1, mkL_length]) ?_
    refine S_skip ?_
    refine S_seq ?_
    refine S_reg [true, true, true] rfl rfl ?_
    refine J_st (R_move rfl) rfl (J_st (R_add rfl rfl (add_nat (by unfold maxLen; omega))) rfl (J_st (R_assign rfl) rfl (J_done ?_)))
    refine S_seq ?_
    refine S_seq ?_
    refine S_reg [true, true, true, true, true, true, true] rfl rfl ?_
    refine J_st (R_move rfl) rfl (J_st (R_move rfl) rfl (J_st (R_index (i := i) sl32 rfl rfl (hxs.ext E).1 hi1) rfl (J_st (R_fieldAddr fl66_5 rfl) rfl (J_st (R_load sc3 rfl ((ha1.ext E).one 5 rfl)) rfl (J_st (R_move rfl) rfl (J_st (R_neq rfl rfl) rfl (J_done ?_)))))))
    refine S_condFe rfl (by rw [hx]; simp [markL1, mkL_length]) ?_
    refine S_skip ?_
    refine S_reg [true, true, true] rfl rfl ?_
    refine J_st (R_move rfl) rfl (J_st (R_add rfl rfl (add_nat (by unfold maxLen; omega))) rfl (J_st (R_assign rfl) rfl (J_done ?_)))
    refine S_nil (E_inB ?_)
    refine S_reg [true, true, true] rfl rfl ?_
    refine J_st (R_move rfl) rfl (J_st (R_add rfl rfl (add_nat (by unfold maxLen; omega))) rfl (J_st (R_assign rfl) rfl (J_done ?_)))
    refine S_nil (E_again (i + 1, (q + 1) + 5 * ((xs[i]'hi1).queue).length + 1 + 1 + 1 + 1) (by simp; omega) ⟨rfl, rfl, rfl, rfl, trivial⟩ ⟨E, (by omega), (by omega), (by rw [numA_take (by omega), ← hq]; rfl)⟩)
  · have hc1n : ¬ i < xs.length := by first | (have h := of_decide_eq_false hc1; omega) | (have h := hc1; simp at h; omega)
    refine S_exit (E_lp_exit (E_inB_exit ?_))
    refine S_seq ?_
    refine S_reg [true, true] rfl rfl ?_
    refine J_st (R_move rfl) rfl (J_st (R_assign rfl) rfl (J_done ?_))
    refine S_ret (E_done1 rfl rfl E ?_)
    rw [hq, List.take_of_length_le (by omega)]

set_option maxRecDepth 20000 in
theorem heldGraph (cx : List Value) (x : Graph) (k : Nat) (w : World) (hx : Dat.R w 0 w.heap.size cx x) (hm : x.nodes = markA numN1 markN1 k x.nodes) (hb : k + 4 * cntGraph x ≤ 1099511627776) : Ct Try.prog 44 [.agg cx.toArray, .int .i64 ((k : Nat) : Int)] w (fun v _ => v = .int .i64 ((numA numN1 k x.nodes : Nat) : Int)) := by
  refine ct_of Try.func44 rfl Try.ntmps44 rfl ?_
  obtain ⟨o1, rfl, hd1⟩ := Graph.op hx
  refine S_sub [(0, .agg [o1, .int .i64 x.workers, .int .i64 x.cap].toArray), (1, .int .i64 ((k : Nat) : Int))] ⟨rfl, rfl, trivial⟩ ?_
  have E : Ext w w := Ext.refl w
  refine S_seq ?_
  refine S_reg [false, true] rfl rfl ?_
  refine J_box rfl rfl (fun b1 w1 e1 s1 h1 => ?_)
  have g_b1 : w.heap.size ≤ b1 := by have := E.size; omega
  have y_b1 := h1.lt
  replace E := E.trans e1
  have z1 := e1.size
  refine J_st (R_assign rfl) rfl (J_done ?_)
  refine S_seq ?_
  refine S_reg [true, true, true, false, true] rfl rfl ?_
  refine J_st (R_fieldAddr0 fl30_0 rfl) rfl (J_st (R_load sc28 rfl (h1.one 0 rfl)) rfl (J_st (R_move rfl) rfl ?_))
  refine J_call Try.call74 rfl (heldNodeS o1 x.nodes k _ (RdD.any (hd1.ext E)) hm (by unfold cntGraph at hb; omega)) rfl (fun _ w2 e2 hv => ?_)
  subst hv
  replace E := E.trans e2; replace h1 := h1.ext e2
  have z2 := e2.size
  refine J_st (R_assign rfl) rfl (J_done ?_)
  refine S_seq ?_
  refine S_seq ?_
  refine S_reg [true, true] rfl rfl ?_
  refine J_st (R_move rfl) rfl (J_st (R_lss rfl rfl) rfl (J_done ?_))
  refine S_condFe rfl (by first | (simp; done) | (simp only [nat_nlt] <;> simp) | (simp only [mkL_length, nat_nlt] <;> simp) | (simp only [mkL_length] <;> simp)) ?_
  refine S_skip ?_
  refine S_seq ?_
  refine S_reg [true, true] rfl rfl ?_
  refine J_st (R_move rfl) rfl (J_st (R_assign rfl) rfl (J_done ?_))
  refine S_ret (E_done1 rfl rfl E ?_)
  rfl

set_option maxRecDepth 20000 in
theorem heldCluster (cx : List Value) (x : Cluster) (k : Nat) (w : World) (hx : Dat.R w 0 w.heap.size cx x) (hm : x = markCl k x) (hb : k + 5 * cntCluster x ≤ 1099511627776) : Ct Try.prog 16 [.agg cx.toArray, .int .i64 ((k : Nat) : Int)] w (fun v _ => v = .int .i64 ((numCl k x : Nat) : Int)) := by
  unfold cntCluster cntGraph at hb
  have b1 := @numA_bd _ _ _ 4 numN1_bd k x.graph.nodes
  have b2 := @numA_bd _ _ _ 5 numW_bd (numA numN1 k x.graph.nodes) x.workers
  have b3 := @numA_bd _ _ _ 5 numL1_bd (numA numW (numA numN1 k x.graph.nodes) x.workers) x.links
  refine ct_of Try.func16 rfl Try.ntmps16 rfl ?_
  obtain ⟨o1, o2, o3, o4, o5, rfl, hd1, hd2, hd3, hd4, hd5⟩ := Cluster.op hx
  refine S_sub [(0, .agg [o1, .int .i64 x.graph.workers, .int .i64 x.graph.cap, o2, o3, o4, o5].toArray), (1, .int .i64 ((k : Nat) : Int))] ⟨rfl, rfl, trivial⟩ ?_
  have E : Ext w w := Ext.refl w
  refine S_seq ?_
  refine S_reg [false, true] rfl rfl ?_
  refine J_box rfl rfl (fun b1 w1 e1 s1 h1 => ?_)
  have g_b1 : w.heap.size ≤ b1 := by have := E.size; omega
  have y_b1 := h1.lt
  replace E := E.trans e1
  have z1 := e1.size
  refine J_st (R_assign rfl) rfl (J_done ?_)
  refine S_seq ?_
  refine S_reg [true, true, true, false, true] rfl rfl ?_
  refine J_st (R_fieldAddr0 fl36_0 rfl) rfl (J_st (R_loadS st30 rfl (h1.part 0 [o1, .int .i64 x.graph.workers, .int .i64 x.graph.cap] rfl) rfl) rfl (J_st (R_move rfl) rfl ?_))
  refine J_call Try.call44 rfl (heldGraph [o1, .int .i64 x.graph.workers, .int .i64 x.graph.cap] x.graph k _ (Graph.mkR x.graph (RdD.any (hd1.ext E))) (congrArg (fun c => c.graph.nodes) hm) (by unfold cntGraph; omega)) rfl (fun _ w2 e2 hv => ?_)
  subst hv
  replace E := E.trans e2; replace h1 := h1.ext e2
  have z2 := e2.size
  refine J_st (R_assign rfl) rfl (J_done ?_)
  refine S_seq ?_
  refine S_seq ?_
  refine S_reg [true, true] rfl rfl ?_
  refine J_st (R_move rfl) rfl (J_st (R_lss rfl rfl) rfl (J_done ?_))
  refine S_condFe rfl (by first | (simp; done) | (simp only [nat_nlt] <;> simp) | (simp only [mkL_length, nat_nlt] <;> simp) | (simp only [mkL_length] <;> simp)) ?_
  refine S_skip ?_
  refine S_seq ?_
  refine S_reg [true, true, true, false, true] rfl rfl ?_
  refine J_st (R_fieldAddr0 fl36_1 rfl) rfl (J_st (R_load sc31 rfl (h1.one 3 rfl)) rfl (J_st (R_move rfl) rfl ?_))
  refine J_call Try.call45 rfl (heldWorkerS o2 x.workers (numA numN1 k x.graph.nodes) _ (RdD.any (hd2.ext E)) (congrArg Cluster.workers hm) (by omega)) rfl (fun _ w3 e3 hv => ?_)
  subst hv
  replace E := E.trans e3; replace h1 := h1.ext e3
  have z3 := e3.size
  refine J_st (R_assign rfl) rfl (J_done ?_)
  refine S_seq ?_
  refine S_seq ?_
  refine S_reg [true, true] rfl rfl ?_
  refine J_st (R_move rfl) rfl (J_st (R_lss rfl rfl) rfl (J_done ?_))
  refine S_condFe rfl (by first | (simp; done) | (simp only [nat_nlt] <;> simp) | (simp only [mkL_length, nat_nlt] <;> simp) | (simp only [mkL_length] <;> simp)) ?_
  refine S_skip ?_
  refine S_seq ?_
  refine S_reg [true, true, true, false, true] rfl rfl ?_
  refine J_st (R_fieldAddr0 fl36_2 rfl) rfl (J_st (R_load sc32 rfl (h1.one 4 rfl)) rfl (J_st (R_move rfl) rfl ?_))
  refine J_call Try.call46 rfl (heldLinkS o3 x.links (numA numW (numA numN1 k x.graph.nodes) x.workers) _ (RdD.any (hd3.ext E)) (congrArg Cluster.links hm) (by omega)) rfl (fun _ w4 e4 hv => ?_)
  subst hv
  replace E := E.trans e4; replace h1 := h1.ext e4
  have z4 := e4.size
  refine J_st (R_assign rfl) rfl (J_done ?_)
  refine S_seq ?_
  refine S_seq ?_
  refine S_reg [true, true] rfl rfl ?_
  refine J_st (R_move rfl) rfl (J_st (R_lss rfl rfl) rfl (J_done ?_))
  refine S_condFe rfl (by first | (simp; done) | (simp only [nat_nlt] <;> simp) | (simp only [mkL_length, nat_nlt] <;> simp) | (simp only [mkL_length] <;> simp)) ?_
  refine S_skip ?_
  refine S_seq ?_
  refine S_reg [true, true, true, false, true] rfl rfl ?_
  refine J_st (R_fieldAddr0 fl36_3 rfl) rfl (J_st (R_load sc33 rfl (h1.one 5 rfl)) rfl (J_st (R_move rfl) rfl ?_))
  refine J_call Try.call47 rfl (heldTokenS o4 x.tokens (numA numL1 (numA numW (numA numN1 k x.graph.nodes) x.workers) x.links) _ (hd4.rd.ext E) (congrArg Cluster.tokens hm) (by omega)) rfl (fun _ w5 e5 hv => ?_)
  subst hv
  replace E := E.trans e5; replace h1 := h1.ext e5
  have z5 := e5.size
  refine J_st (R_assign rfl) rfl (J_done ?_)
  refine S_seq ?_
  refine S_seq ?_
  refine S_reg [true, true] rfl rfl ?_
  refine J_st (R_move rfl) rfl (J_st (R_lss rfl rfl) rfl (J_done ?_))
  refine S_condFe rfl (by first | (simp; done) | (simp only [nat_nlt] <;> simp) | (simp only [mkL_length, nat_nlt] <;> simp) | (simp only [mkL_length] <;> simp)) ?_
  refine S_skip ?_
  refine S_seq ?_
  refine S_reg [true, true, true, false, true] rfl rfl ?_
  refine J_st (R_fieldAddr0 fl36_4 rfl) rfl (J_st (R_load sc34 rfl (h1.one 6 rfl)) rfl (J_st (R_move rfl) rfl ?_))
  refine J_call Try.call48 rfl (heldNewsS o5 x.news ((numA numL1 (numA numW (numA numN1 k x.graph.nodes) x.workers) x.links) + 5 * x.tokens.length) _ (hd5.rd.ext E) (congrArg Cluster.news hm) (by omega)) rfl (fun _ w6 e6 hv => ?_)
  subst hv
  replace E := E.trans e6; replace h1 := h1.ext e6
  have z6 := e6.size
  refine J_st (R_assign rfl) rfl (J_done ?_)
  refine S_seq ?_
  refine S_seq ?_
  refine S_reg [true, true] rfl rfl ?_
  refine J_st (R_move rfl) rfl (J_st (R_lss rfl rfl) rfl (J_done ?_))
  refine S_condFe rfl (by first | (simp; done) | (simp only [nat_nlt] <;> simp) | (simp only [mkL_length, nat_nlt] <;> simp) | (simp only [mkL_length] <;> simp)) ?_
  refine S_skip ?_
  refine S_seq ?_
  refine S_reg [true, true] rfl rfl ?_
  refine J_st (R_move rfl) rfl (J_st (R_assign rfl) rfl (J_done ?_))
  refine S_ret (E_done1 rfl rfl E ?_)
  rfl

set_option maxRecDepth 20000 in
theorem s_OwnerOf (k : Int) (n : Int) (w : World) (hn : rg n) : Ct Try.prog 53 [.int .i64 k, .int .i64 n] w (fun v _ => v = .int .i64 (ownerOf k n)) := by
  unfold rg at hn
  refine ct_of Try.func53 rfl Try.ntmps53 rfl ?_
  refine S_sub [(0, .int .i64 k), (1, .int .i64 n)] ⟨rfl, rfl, trivial⟩ ?_
  have E : Ext w w := Ext.refl w
  refine S_seq ?_
  refine S_reg [true] rfl rfl ?_
  refine J_st (R_assign rfl) rfl (J_done ?_)
  refine S_seq ?_
  refine S_seq ?_
  refine S_reg [true, true] rfl rfl ?_
  refine J_st (R_move rfl) rfl (J_st (R_lss rfl rfl) rfl (J_done ?_))
  refine S_cond rfl (fun hc1 => ?_) (fun hc1 => ?_)
  · refine S_seq ?_
    refine S_reg [true] rfl rfl ?_
    refine J_st (R_assign rfl) rfl (J_done ?_)
    refine S_ret (E_done1 rfl rfl E ?_)
    rw [ownerOf, if_pos (of_decide_eq_true hc1)]
  · have hn1 := of_decide_eq_false hc1
    refine S_skip ?_
    refine S_seq ?_
    refine S_reg [true, true, true, true] rfl rfl ?_
    refine J_st (R_move rfl) rfl (J_st (R_move rfl) rfl (J_st (R_rem rfl rfl (by omega) rfl) rfl (J_st (R_assign rfl) rfl (J_done ?_))))
    refine S_seq ?_
    refine S_seq ?_
    refine S_reg [true, true] rfl rfl ?_
    refine J_st (R_move rfl) rfl (J_st (R_lss rfl rfl) rfl (J_done ?_))
    refine S_cond rfl (fun hc2 => ?_) (fun hc2 => ?_)
    · refine S_reg [true, true, true, true] rfl rfl ?_
      refine J_st (R_move rfl) rfl (J_st (R_move rfl) rfl (J_st (R_add rfl rfl rfl) rfl (J_st (R_assign rfl) rfl (J_done ?_))))
      refine S_seq ?_
      refine S_reg [true, true] rfl rfl ?_
      refine J_st (R_move rfl) rfl (J_st (R_assign rfl) rfl (J_done ?_))
      refine S_ret (E_done1 rfl rfl E ?_)
      have h1 := Int.lt_tmod_of_pos k (show 0 < n by simp at hc1; omega)
      rw [ownerOf, if_neg (of_decide_eq_false hc1), if_pos (of_decide_eq_true hc2), wrap_in (by simp at hc2; omega) (by simp at hc2; omega)]
    · refine S_skip ?_
      refine S_seq ?_
      refine S_reg [true, true] rfl rfl ?_
      refine J_st (R_move rfl) rfl (J_st (R_assign rfl) rfl (J_done ?_))
      refine S_ret (E_done1 rfl rfl E ?_)
      rw [ownerOf, if_neg (of_decide_eq_false hc1), if_neg (of_decide_eq_false hc2)]

set_option maxRecDepth 20000 in
theorem s_LinkNew (c : Int) (w : World)  : Ct Try.prog 23 [.int .i64 c] w (fun v w' => ∃ cs, v = .agg cs.toArray ∧ Own1.O w' w.heap.size w'.heap.size cs (linkNew c)) := by
  refine ct_of Try.func23 rfl Try.ntmps23 rfl ?_
  refine S_sub [(0, .int .i64 c)] ⟨rfl, trivial⟩ ?_
  have E : Ext w w := Ext.refl w
  refine S_seq ?_
  refine S_reg [false] rfl rfl ?_
  refine J_alloc st66 rfl (fun b1 w1 e1 s1 h1 => ?_)
  have g_b1 : w.heap.size ≤ b1 := by have := E.size; omega
  have y_b1 := h1.lt
  replace E := E.trans e1
  have z1 := e1.size
  refine J_done ?_
  refine S_seq ?_
  refine S_reg [true, false, true] rfl rfl ?_
  refine J_st (R_move rfl) rfl ?_
  refine J_call Try.call54 rfl (s_Brought c 1 4 _ ) rfl (fun _ w2 e2 hv => ?_)
  subst hv
  replace E := E.trans e2; replace h1 := h1.ext e2
  have z2 := e2.size
  refine J_st (R_assign rfl) rfl (J_done ?_)
  refine S_seq ?_
  refine S_reg [true, true, true, false] rfl rfl ?_
  refine J_st (R_move rfl) rfl (J_st (R_move rfl) rfl ?_)
  have hbl1 : ∀ w, (Instr.build 66 ([(0, .int .i64 (brM c 1 4)), (2, .int .i64 (brM c 1 4))]).toArray).run Try.prog w = .ok (.agg [.int .i64 (brM c 1 4), .slice none 0 0, .int .i64 (brM c 1 4), .int .i64 0, .int .i64 0, .int .i64 0].toArray) w := by clear E; intro w; kernel_rfl
  refine J_st (R_buildC [.int .i64 (brM c 1 4), .slice none 0 0, .int .i64 (brM c 1 4), .int .i64 0, .int .i64 0, .int .i64 0] rfl hbl1) rfl ?_
  refine J_storeS' (cs' := [.int .i64 (brM c 1 4), .slice none 0 0, .int .i64 (brM c 1 4), .int .i64 0, .int .i64 0, .int .i64 0]) st66 rfl rfl rfl rfl h1 (Nat.le_of_ble_eq_true rfl) rfl (fun w3 m1 h1' => ?_)
  replace h1 := h1'
  replace E := E.step m1 (fun g hg => by cases hg; omega)
  have z3 := m1.size
  refine J_done ?_
  refine S_ret (E_doneC rfl rfl (run_loadVar_st st66 h1.at rfl) E ?_)
  exact ⟨_, rfl, Link.mkO (⟨brM c 1 4, [], brM c 1 4, 0, 0, 0⟩ : Link) ⟨trivial, trivial⟩ (Own.nil _ _ _ _)⟩

set_option maxRecDepth 20000 in
theorem c_OwnerOf (k : Int) (n : Int) (w : World) (hn : rg n) : Ct Try.prog 30 [.int .i64 k, .int .i64 n] w (fun v _ => v = .int .i64 (ownerOf k n)) := by
  unfold rg at hn
  refine ct_of Try.func30 rfl Try.ntmps30 rfl ?_
  refine S_sub [(0, .int .i64 k), (1, .int .i64 n)] ⟨rfl, rfl, trivial⟩ ?_
  have E : Ext w w := Ext.refl w
  refine S_seq ?_
  refine S_reg [true] rfl rfl ?_
  refine J_st (R_assign rfl) rfl (J_done ?_)
  refine S_seq ?_
  refine S_seq ?_
  refine S_reg [true, true] rfl rfl ?_
  refine J_st (R_move rfl) rfl (J_st (R_lss rfl rfl) rfl (J_done ?_))
  refine S_cond rfl (fun hc1 => ?_) (fun hc1 => ?_)
  · refine S_seq ?_
    refine S_reg [true] rfl rfl ?_
    refine J_st (R_assign rfl) rfl (J_done ?_)
    refine S_ret (E_done1 rfl rfl E ?_)
    rw [ownerOf, if_pos (of_decide_eq_true hc1)]
  · have hn1 := of_decide_eq_false hc1
    refine S_skip ?_
    refine S_seq ?_
    refine S_reg [true, true, true, true] rfl rfl ?_
    refine J_st (R_move rfl) rfl (J_st (R_move rfl) rfl (J_st (R_rem rfl rfl (by omega) rfl) rfl (J_st (R_assign rfl) rfl (J_done ?_))))
    refine S_seq ?_
    refine S_seq ?_
    refine S_reg [true, true] rfl rfl ?_
    refine J_st (R_move rfl) rfl (J_st (R_lss rfl rfl) rfl (J_done ?_))
    refine S_cond rfl (fun hc2 => ?_) (fun hc2 => ?_)
    · refine S_reg [true, true, true, true] rfl rfl ?_
      refine J_st (R_move rfl) rfl (J_st (R_move rfl) rfl (J_st (R_add rfl rfl rfl) rfl (J_st (R_assign rfl) rfl (J_done ?_))))
      refine S_seq ?_
      refine S_reg [true, true] rfl rfl ?_
      refine J_st (R_move rfl) rfl (J_st (R_assign rfl) rfl (J_done ?_))
      refine S_ret (E_done1 rfl rfl E ?_)
      have h1 := Int.lt_tmod_of_pos k (show 0 < n by simp at hc1; omega)
      rw [ownerOf, if_neg (of_decide_eq_false hc1), if_pos (of_decide_eq_true hc2), wrap_in (by simp at hc2; omega) (by simp at hc2; omega)]
    · refine S_skip ?_
      refine S_seq ?_
      refine S_reg [true, true] rfl rfl ?_
      refine J_st (R_move rfl) rfl (J_st (R_assign rfl) rfl (J_done ?_))
      refine S_ret (E_done1 rfl rfl E ?_)
      rw [ownerOf, if_neg (of_decide_eq_false hc1), if_neg (of_decide_eq_false hc2)]

set_option maxRecDepth 20000 in
theorem c_LinkNew (c : Int) (w : World)  : Ct Try.prog 32 [.int .i64 c] w (fun v w' => ∃ cs, v = .agg cs.toArray ∧ Own1.O w' w.heap.size w'.heap.size cs (linkNew c)) := by
  refine ct_of Try.func32 rfl Try.ntmps32 rfl ?_
  refine S_sub [(0, .int .i64 c)] ⟨rfl, trivial⟩ ?_
  have E : Ext w w := Ext.refl w
  refine S_seq ?_
  refine S_reg [false] rfl rfl ?_
  refine J_alloc st66 rfl (fun b1 w1 e1 s1 h1 => ?_)
  have g_b1 : w.heap.size ≤ b1 := by have := E.size; omega
  have y_b1 := h1.lt
  replace E := E.trans e1
  have z1 := e1.size
  refine J_done ?_
  refine S_seq ?_
  refine S_reg [true, false, true] rfl rfl ?_
  refine J_st (R_move rfl) rfl ?_
  refine J_call Try.call63 rfl (c_Brought c 1 4 _ ) rfl (fun _ w2 e2 hv => ?_)
  subst hv
  replace E := E.trans e2; replace h1 := h1.ext e2
  have z2 := e2.size
  refine J_st (R_assign rfl) rfl (J_done ?_)
  refine S_seq ?_
  refine S_reg [true, true, true, false] rfl rfl ?_
  refine J_st (R_move rfl) rfl (J_st (R_move rfl) rfl ?_)
  have hbl1 : ∀ w, (Instr.build 66 ([(0, .int .i64 (brM c 1 4)), (2, .int .i64 (brM c 1 4))]).toArray).run Try.prog w = .ok (.agg [.int .i64 (brM c 1 4), .slice none 0 0, .int .i64 (brM c 1 4), .int .i64 0, .int .i64 0, .int .i64 0].toArray) w := by clear E; intro w; kernel_rfl
  refine J_st (R_buildC [.int .i64 (brM c 1 4), .slice none 0 0, .int .i64 (brM c 1 4), .int .i64 0, .int .i64 0, .int .i64 0] rfl hbl1) rfl ?_
  refine J_storeS' (cs' := [.int .i64 (brM c 1 4), .slice none 0 0, .int .i64 (brM c 1 4), .int .i64 0, .int .i64 0, .int .i64 0]) st66 rfl rfl rfl rfl h1 (Nat.le_of_ble_eq_true rfl) rfl (fun w3 m1 h1' => ?_)
  replace h1 := h1'
  replace E := E.step m1 (fun g hg => by cases hg; omega)
  have z3 := m1.size
  refine J_done ?_
  refine S_ret (E_doneC rfl rfl (run_loadVar_st st66 h1.at rfl) E ?_)
  exact ⟨_, rfl, Link.mkO (⟨brM c 1 4, [], brM c 1 4, 0, 0, 0⟩ : Link) ⟨trivial, trivial⟩ (Own.nil _ _ _ _)⟩

set_option maxRecDepth 20000 in
theorem c_copyGraph (cx : List Value) (x : Graph) (w : World) (hx : Dat.R w 0 w.heap.size cx x) (hb : cntGraph x ≤ 1048576) : Ct Try.prog 28 [.agg cx.toArray] w (fun v w' => ∃ o, v = .agg [o, .int .i64 x.workers, .int .i64 x.cap].toArray ∧ OwS w' w.heap.size w'.heap.size o x.nodes) := by
  have hb2 := hb
  unfold cntGraph cntL at hb2
  refine ct_of Try.func28 rfl Try.ntmps28 rfl ?_
  obtain ⟨o1, rfl, hd1⟩ := Graph.op hx
  refine S_sub [(0, .agg [o1, .int .i64 x.workers, .int .i64 x.cap].toArray)] ⟨rfl, trivial⟩ ?_
  have E : Ext w w := Ext.refl w
  refine S_seq ?_
  refine S_reg [false, false] rfl rfl ?_
  refine J_box rfl rfl (fun b1 w1 e1 s1 h1 => ?_)
  have g_b1 : w.heap.size ≤ b1 := by have := E.size; omega
  have y_b1 := h1.lt
  replace E := E.trans e1
  have z1 := e1.size
  refine J_alloc st30 rfl (fun b2 w2 e2 s2 h2 => ?_)
  have g_b2 : w.heap.size ≤ b2 := by have := E.size; omega
  have y_b2 := h2.lt
  replace E := E.trans e2; replace h1 := h1.ext e2
  have z2 := e2.size
  refine J_done ?_
  refine S_seq ?_
  refine S_reg [true, true, true, true, true, false, false] rfl rfl ?_
  refine J_st (R_fieldAddr0 fl30_1 rfl) rfl (J_st (R_load sc3 rfl (h1.one 1 rfl)) rfl (J_st (R_fieldAddr0 fl30_2 rfl) rfl (J_st (R_load sc3 rfl (h1.one 2 rfl)) rfl ?_)))
  have hbl1 : ∀ w, (Instr.build 30 ([(1, .int .i64 x.workers), (2, .int .i64 x.cap)]).toArray).run Try.prog w = .ok (.agg [.slice none 0 0, .int .i64 x.workers, .int .i64 x.cap].toArray) w := by clear E; intro w; kernel_rfl
  refine J_st (R_buildC [.slice none 0 0, .int .i64 x.workers, .int .i64 x.cap] rfl hbl1) rfl ?_
  refine J_alloc st30 rfl (fun b3 w3 e3 s3 h3 => ?_)
  have g_b3 : w.heap.size ≤ b3 := by have := E.size; omega
  have y_b3 := h3.lt
  replace E := E.trans e3; replace h1 := h1.ext e3; replace h2 := h2.ext e3
  have z3 := e3.size
  refine J_storeS' (cs' := [.slice none 0 0, .int .i64 x.workers, .int .i64 x.cap]) st30 rfl rfl rfl rfl h3 (Nat.le_of_ble_eq_true rfl) rfl (fun w4 m1 h3' => ?_)
  replace h3 := h3'
  replace E := E.step m1 (fun g hg => by cases hg; omega); replace h1 := h1.mod m1 (fun g hg => by cases hg; omega); replace h2 := h2.mod m1 (fun g hg => by cases hg; omega)
  have z4 := m1.size
  refine J_done ?_
  refine S_seq ?_
  refine S_seq ?_
  refine S_reg [true, true, true, true] rfl rfl ?_
  refine J_st (R_fieldAddr0 fl30_0 rfl) rfl (J_st (R_load sc28 rfl (h1.one 0 rfl)) rfl (J_st (R_len Try.underlying28 rfl (hd1.ext E).len) rfl (J_st (R_move rfl) rfl (J_done ?_))))
  refine S_block ?_
  refine S_loop (fun (xq : Nat × Value) => let ⟨k0, vo0⟩ := xq; [(2, .pointer (some ⟨b2, 0, none⟩)), (3, .pointer (some ⟨b3, 0, none⟩)), (12, o1), (13, .int .i64 ((x.nodes.length : Nat) : Int)), (14, .int .i64 ((k0 : Nat) : Int))]) (fun (xq : Nat × Value) w' => let ⟨k0, vo0⟩ := xq; Ext w w' ∧ w4.heap.size ≤ w'.heap.size ∧ Blk w' b1 ([o1, .int .i64 x.workers, .int .i64 x.cap]) ∧ Blk w' b2 [.slice none 0 0, .int .i64 0, .int .i64 0] ∧ k0 ≤ x.nodes.length ∧ OwS w' w4.heap.size w'.heap.size vo0 (x.nodes.take k0) ∧ Blk w' b3 [vo0, .int .i64 x.workers, .int .i64 x.cap]) (fun (xq : Nat × Value) => let ⟨k0, vo0⟩ := xq; x.nodes.length - k0) (0, .slice none 0 0) ⟨rfl, rfl, rfl, rfl, rfl, trivial⟩ ⟨E, Nat.le_refl _, h1, h2, Nat.zero_le _, (OwS.nil _ _ _), h3⟩ ?_
  clear E h1 h2 h3
  rintro ⟨k0, vo0⟩ w5 ⟨E, z5, h1, h2, hk0, hoC0, h3⟩
  refine S_sub [(2, .pointer (some ⟨b2, 0, none⟩)), (3, .pointer (some ⟨b3, 0, none⟩)), (12, o1), (13, .int .i64 ((x.nodes.length : Nat) : Int)), (14, .int .i64 ((k0 : Nat) : Int))] ⟨rfl, rfl, rfl, rfl, rfl, trivial⟩ ?_
  refine S_seq ?_
  refine S_reg [true] rfl rfl ?_
  refine J_st (R_lss rfl rfl) rfl (J_done ?_)
  refine S_seq ?_
  refine S_cond rfl (fun hc1 => ?_) (fun hc1 => ?_)
  · have hc1n : k0 < x.nodes.length := by first | (have h := of_decide_eq_true hc1; omega) | (have h := hc1; simp at h; omega)
    refine S_skip ?_
    refine S_seq ?_
    refine S_block ?_
    refine S_seq ?_
    refine S_reg [true, true, false, false] rfl rfl ?_
    have hi1 : k0 < x.nodes.length := (by first | assumption | omega | (simp only [List.length_set]; first | assumption | omega) | (simp only [List.getElem_set_self, List.length_set]; first | assumption | omega) | (simp only [setW, setLk, List.length_set]; first | assumption | omega))
    obtain ⟨_, hr1, ha1⟩ := RdD.get hd1 hi1
    obtain ⟨o2, rfl, hd2⟩ := Node.op hr1
    replace ha1 : At w (sblk o1) (soff o1 + k0 * 4) [.int .i64 ((x.nodes[k0]'hi1).kind), .int .i64 ((x.nodes[k0]'hi1).a), .int .i64 ((x.nodes[k0]'hi1).b), o2] := ha1
    refine J_st (R_index (i := k0) sl28 rfl rfl (hd1.ext E).1 hi1) rfl (J_st (R_loadS st90 rfl (ha1.ext E) rfl) rfl ?_)
    refine J_alloc st90 rfl (fun b4 w6 e4 s4 h4 => ?_)
    have g_b4 : w.heap.size ≤ b4 := by have := E.size; omega
    have y_b4 := h4.lt
    replace E := E.trans e4; replace h1 := h1.ext e4; replace h2 := h2.ext e4; replace hoC0 := hoC0.ext e4; replace h3 := h3.ext e4
    have z6 := e4.size
    refine J_storeS' (cs' := [.int .i64 ((x.nodes[k0]'hi1).kind), .int .i64 ((x.nodes[k0]'hi1).a), .int .i64 ((x.nodes[k0]'hi1).b), o2]) st90 rfl rfl rfl (all_cons rfl (all_cons rfl (all_cons rfl (all_cons (RdD.one (hd2.ext E)) rfl)))) h4 (Nat.le_of_ble_eq_true rfl) rfl (fun w7 m2 h4' => ?_)
    replace h4 := h4'
    replace E := E.step m2 (fun g hg => by cases hg; omega); replace h1 := h1.mod m2 (fun g hg => by cases hg; omega); replace h2 := h2.mod m2 (fun g hg => by cases hg; omega); replace hoC0 := hoC0.mod m2 (fun g hg => by cases hg; omega); replace h3 := h3.mod m2 (fun g hg => by cases hg; omega)
    have z7 := m2.size
    refine J_done ?_
    refine S_regX mixed [5] [(0, true), (1, true), (2, true), (3, false), (4, false)] [(5, false), (6, true), (7, false)] (by decide +kernel) rfl rfl (fun w8 e5 => ?_)
    replace E := E.trans e5; replace h1 := h1.ext e5; replace h2 := h2.ext e5; replace hoC0 := hoC0.ext e5; replace h3 := h3.ext e5; replace h4 := h4.ext e5
    have z8 := e5.size
    refine J_st (R_fieldAddr0 fl30_0 rfl) rfl (J_st (R_load sc28 rfl (h3.one 0 rfl)) rfl (J_st (R_loadS st90 rfl h4.at rfl) rfl ?_))
    refine J_call Try.call61 rfl (c_copyNode [.int .i64 ((x.nodes[k0]'hi1).kind), .int .i64 ((x.nodes[k0]'hi1).a), .int .i64 ((x.nodes[k0]'hi1).b), o2] (x.nodes[k0]'hi1) _ (Node.mkR (x.nodes[k0]'hi1) (RdD.any (hd2.ext E))) (outs_le hb (List.getElem_mem _))) rfl (fun _ w9 e6 ho1 => ?_)
    obtain ⟨_, rfl, ho1⟩ := ho1
    have g_ho1 : w.heap.size ≤ w8.heap.size := E.size
    replace E := E.trans e6; replace h1 := h1.ext e6; replace h2 := h2.ext e6; replace hoC0 := hoC0.ext e6; replace h3 := h3.ext e6; replace h4 := h4.ext e6
    have z9 := e6.size
    obtain ⟨o3, rfl, sp1, hw1⟩ := Node.opO ho1
    refine J_buildSlice (vs := [.agg [.int .i64 ((x.nodes[k0]'hi1).kind), .int .i64 ((x.nodes[k0]'hi1).a), .int .i64 ((x.nodes[k0]'hi1).b), o3].toArray]) (css := [[.int .i64 ((x.nodes[k0]'hi1).kind), .int .i64 ((x.nodes[k0]'hi1).a), .int .i64 ((x.nodes[k0]'hi1).b), o3]]) sl28 rfl rfl ⟨⟨rfl, rfl⟩, trivial⟩ rfl rfl (fun b5 w10 e7 s5 h5 => ?_)
    replace h5 : Blk w10 b5 [.int .i64 ((x.nodes[k0]'hi1).kind), .int .i64 ((x.nodes[k0]'hi1).a), .int .i64 ((x.nodes[k0]'hi1).b), o3] := h5
    have g_b5 : w.heap.size ≤ b5 := by have := E.size; omega
    have y_b5 := h5.lt
    replace E := E.trans e7; replace h1 := h1.ext e7; replace h2 := h2.ext e7; replace hoC0 := hoC0.ext e7; replace h3 := h3.ext e7; replace h4 := h4.ext e7; replace hw1 := hw1.ext e7
    have z10 := e7.size
    refine JX_tail ?_
    refine J2_X rfl ?_
    refine J_appendS (lo := w4.heap.size) (hi := w5.heap.size) (lo2 := w8.heap.size) (hi2 := w10.heap.size) sl28 rfl rfl hoC0 (Src.ofBlk h5 rfl) (Node.mkO (x.nodes[k0]'hi1) sp1 (Own.widen hw1 (by omega) (by omega))) (by omega) (by simp only [List.length_take, show Dat.sz Node = 4 from rfl]; omega) (by decide) (by omega) (by omega) (by omega) (by omega) (by omega) rfl rfl (fun v1 w11 m3 ho2 => ?_)
    have hqb := OwS.inn hoC0
    replace E := E.step m3 (fun g hg => by have := hqb g hg; omega); replace h1 := h1.mod m3 (fun g hg => by have := hqb g hg; omega); replace h2 := h2.mod m3 (fun g hg => by have := hqb g hg; omega); replace h3 := h3.mod m3 (fun g hg => by have := hqb g hg; omega); replace h4 := h4.mod m3 (fun g hg => by have := hqb g hg; omega)
    have z11 := m3.size
    clear hqb
    refine JX_go ?_
    refine J_st (R_fieldAddr0 fl30_0 rfl) rfl ?_
    refine J_store' (cs' := [v1, .int .i64 x.workers, .int .i64 x.cap]) sc28 rfl rfl (RdD.one (OwS.rd ho2)) h3 (Nat.le_of_ble_eq_true rfl) rfl (fun w12 m4 h3' => ?_)
    replace h3 := h3'
    replace E := E.step m4 (fun g hg => by cases hg; omega); replace h1 := h1.mod m4 (fun g hg => by cases hg; omega); replace h2 := h2.mod m4 (fun g hg => by cases hg; omega); replace h4 := h4.mod m4 (fun g hg => by cases hg; omega); replace ho2 := ho2.mod m4 (fun g hg => by cases hg; omega)
    have z12 := m4.size
    refine J_done ?_
    refine S_nil (E_inB ?_)
    refine S_reg [true, true] rfl rfl ?_
    refine J_st (R_add rfl rfl (add_one hc1n (hd1.ext E).1.1)) rfl (J_st (R_move rfl) rfl (J_done ?_))
    refine S_nil (E_again (k0 + 1, v1) (by simp; omega) ⟨rfl, rfl, rfl, rfl, rfl, trivial⟩ ⟨E, (by omega), h1, h2, (by omega), (by rw [List.take_succ_eq_append_getElem (by assumption)]; exact OwS.widen ho2 (by omega) (by omega)), h3⟩)
  · have hc1n : ¬ k0 < x.nodes.length := by first | (have h := of_decide_eq_false hc1; omega) | (have h := hc1; simp at h; omega)
    refine S_exit (E_lp_exit (E_inB_exit ?_))
    refine S_seq ?_
    refine S_reg [true, false] rfl rfl ?_
    refine J_st (R_loadS st30 rfl h3.at rfl) rfl ?_
    refine J_storeS' (cs' := [vo0, .int .i64 x.workers, .int .i64 x.cap]) st30 rfl rfl rfl (all_cons (RdD.one (OwS.rd hoC0)) (all_cons rfl (all_cons rfl rfl))) h2 (Nat.le_of_ble_eq_true rfl) rfl (fun w13 m5 h2' => ?_)
    replace h2 := h2'
    replace E := E.step m5 (fun g hg => by cases hg; omega); replace h1 := h1.mod m5 (fun g hg => by cases hg; omega); replace hoC0 := hoC0.mod m5 (fun g hg => by cases hg; omega); replace h3 := h3.mod m5 (fun g hg => by cases hg; omega)
    have z13 := m5.size
    refine J_done ?_
    refine S_ret (E_doneC rfl rfl (run_loadVar_st st30 h2.at rfl) E ?_)
    rw [List.take_of_length_le (by omega)] at hoC0
    exact ⟨_, rfl, OwS.widen hoC0 (by have := E.size; omega) (by omega)⟩

end Go.Proofs.Ytcgfmicadcdinaa
