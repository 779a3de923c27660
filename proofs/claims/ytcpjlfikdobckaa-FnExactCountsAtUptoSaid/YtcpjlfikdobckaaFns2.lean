/- What the functions that the laws call come to: a contract each; no condition. -/
import Derived.Test.YtcpjlfikdobckaaFns
namespace Go.Proofs.Ytcpjlfikdobckaa
open Go Go.Proofs.Ytcpjlfikdobckaa.X Go.Proofs
set_option maxHeartbeats 4000000 in
set_option maxRecDepth 20000 in
theorem c_CountsOfRecords (vrs : Value) (rs : List Record) (w : World) (hrs : RdS w vrs rs) (hb : rs.length ≤ 1048576) : Ct Try.prog 24 [vrs] w (fun v w' => Own w' w.heap.size w'.heap.size 3 v (List.flatMap (Enc.enc (α := Count)) (runTo (sortR rs)))) := by
  refine ct_of Try.func24 rfl Try.ntmps24 rfl ?_
  refine S_sub [(0, vrs)] ⟨rfl, trivial⟩ ?_
  have E : Ext w w := Ext.refl w
  refine S_seq ?_
  refine S_reg [true] rfl rfl ?_
  refine J_st (R_assign rfl) rfl (J_done ?_)
  refine S_seq ?_
  refine S_reg [true] rfl rfl ?_
  refine J_st (R_assign rfl) rfl (J_done ?_)
  refine S_seq ?_
  refine S_seq ?_
  refine S_reg [true, false, true, true] rfl rfl ?_
  refine J_st (R_move rfl) rfl ?_
  refine J_call Try.call41 rfl (c_SortRecords vrs rs _ (hrs.ext E) (by first | omega | (simp only [mkL_length]; omega) | (rw [mkL_length]; done) | (simp only [mkL_length]; done))) rfl (fun v1 w1 e1 ho1 => ?_)
  have g_ho1 : w.heap.size ≤ w.heap.size := E.size
  replace E := E.trans e1
  have z1 := e1.size
  refine J_st (R_len Try.underlying32 rfl (Own.len (by decide) ho1)) rfl (J_st (R_move rfl) rfl (J_done ?_))
  refine S_block ?_
  refine S_loop (fun (xq : Nat × Value) => let ⟨k, vo⟩ := xq; [(2, .slice none 0 0), (3, vo), (8, v1), (9, .int .i64 (((sortR rs).length : Nat) : Int)), (10, .int .i64 ((k : Nat) : Int))]) (fun (xq : Nat × Value) w' => let ⟨k, vo⟩ := xq; Ext w w' ∧ w1.heap.size ≤ w'.heap.size ∧ Own w' w.heap.size w1.heap.size 5 v1 (List.flatMap (Enc.enc (α := Record)) (sortR rs)) ∧ k ≤ (sortR rs).length ∧ Own w' w1.heap.size w'.heap.size 3 vo (List.flatMap (Enc.enc (α := Count)) (runTo ((sortR rs).take k)))) (fun (xq : Nat × Value) => let ⟨k, vo⟩ := xq; (sortR rs).length - k) (0, .slice none 0 0) ⟨rfl, rfl, rfl, rfl, rfl, trivial⟩ ⟨E, Nat.le_refl _, ho1, Nat.zero_le _, Own.fin (Own.nil w1 w1.heap.size w1.heap.size 3) (by omega) (by omega) rfl⟩ ?_
  clear E ho1
  rintro ⟨k, vo⟩ w2 ⟨E, z2, ho1, hk, ho⟩
  refine S_sub [(2, .slice none 0 0), (3, vo), (8, v1), (9, .int .i64 (((sortR rs).length : Nat) : Int)), (10, .int .i64 ((k : Nat) : Int))] ⟨rfl, rfl, rfl, rfl, rfl, trivial⟩ ?_
  have hcl := runTo_len ((sortR rs).take k)
  have hsl := sortR_len rs
  rw [List.length_take] at hcl
  refine S_seq ?_
  refine S_reg [true] rfl rfl ?_
  refine J_st (R_lss rfl rfl) rfl (J_done ?_)
  refine S_seq ?_
  refine S_cond rfl (fun hc1 => ?_) (fun hc1 => ?_)
  · have hc1n : k < (sortR rs).length := by first | (have h := of_decide_eq_true hc1; omega) | (have h := hc1; simp at h; omega)
    refine S_skip ?_
    refine S_seq ?_
    refine S_block ?_
    refine S_seq ?_
    refine S_reg [true, true, false, false] rfl rfl ?_
    have hi1 : k < (sortR rs).length := (by first | assumption | omega | (simp only [List.length_set]; first | assumption | omega) | (simp only [List.getElem_set_self, List.length_set]; first | assumption | omega) | (simp only [setW, setLk, List.length_set]; first | assumption | omega) | (simp; done))
    refine J_st (R_index (i := k) sl32 rfl rfl (Own.rd (by decide) ho1) hi1) rfl (J_st (R_loadS st71 rfl ((Own.rd (by decide) ho1).get hi1) rfl) rfl ?_)
    refine J_alloc st71 rfl (fun b1 w3 e2 s1 h1 => ?_)
    have g_b1 : w.heap.size ≤ b1 := by have := E.size; omega
    have y_b1 := h1.lt
    replace E := E.trans e2; replace ho1 := ho1.ext e2; replace ho := ho.ext e2
    have z3 := e2.size
    refine J_storeS' (cs' := [.int .i64 (((sortR rs)[k]'hi1).op), .int .i64 ((((sortR rs)[k]'hi1).stamp).epoch), .int .i64 ((((sortR rs)[k]'hi1).stamp).turn), .int .i64 (((sortR rs)[k]'hi1).key), .int .i64 (((sortR rs)[k]'hi1).val)]) st71 rfl rfl rfl rfl h1 (Nat.le_of_ble_eq_true rfl) rfl (fun w4 m1 h1' => ?_)
    replace h1 := h1'
    replace E := E.step m1 (fun g hg => by cases hg; omega); replace ho1 := ho1.mod m1 (fun g hg => by cases hg; omega); replace ho := ho.mod m1 (fun g hg => by cases hg; omega)
    have z4 := m1.size
    refine J_done ?_
    refine S_seq ?_
    refine S_seq ?_
    refine S_reg [true, true, false, true] rfl rfl ?_
    refine J_st (R_fieldAddr0 fl71_1 rfl) rfl (J_st (R_loadS st57 rfl (h1.part 1 [.int .i64 ((((sortR rs)[k]'hi1).stamp).epoch), .int .i64 ((((sortR rs)[k]'hi1).stamp).turn)] rfl) rfl) rfl ?_)
    refine J_call Try.call42 rfl (c_StampOk (((sortR rs)[k]'hi1).stamp) _ ) rfl (fun _ w5 e3 hv => ?_)
    subst hv
    replace E := E.trans e3; replace ho1 := ho1.ext e3; replace ho := ho.ext e3; replace h1 := h1.ext e3
    have z5 := e3.size
    refine J_st (R_not rfl) rfl (J_done ?_)
    refine S_cond rfl (fun hc2 => ?_) (fun hc2 => ?_)
    · refine S_exit (E_inB_exit ?_)
      refine S_reg [true, true] rfl rfl ?_
      refine J_st (R_add rfl rfl (add_nat (by unfold maxLen; omega))) rfl (J_st (R_move rfl) rfl (J_done ?_))
      refine S_nil (E_again (k + 1, vo) (by simp; omega) ⟨rfl, rfl, rfl, rfl, rfl, trivial⟩ ⟨E, (by omega), ho1, (by omega), Own.fin ho (by omega) (by omega) (by rw [runTo_step (by assumption), runStep_no hc2])⟩)
    · refine S_skip ?_
      refine S_seq ?_
      refine S_reg [true, true, true] rfl rfl ?_
      refine J_st (R_move rfl) rfl (J_st (R_len Try.underlying30 rfl (Own.len (by decide) ho)) rfl (J_st (R_assign rfl) rfl (J_done ?_)))
      refine S_seq ?_
      refine S_regD mixed [(0, true), (1, true), (2, true), (3, true), (4, true), (5, true), (6, true), (7, true), (8, true), (9, true), (10, true), (11, true), (12, true)] (by decide +kernel) rfl (fun w6 e4 => ?_)
      replace E := E.trans e4; replace ho1 := ho1.ext e4; replace ho := ho.ext e4; replace h1 := h1.ext e4
      have z6 := e4.size
      refine J_st (R_move rfl) rfl (J_st (R_gtr rfl rfl) rfl (J_st (R_move rfl) rfl ?_))
      refine J_cut 10 [(2, .slice none 0 0), (3, vo), (5, .pointer (some ⟨b1, 0, none⟩)), (6, .int .i64 (((runTo ((sortR rs).take k)).length : Nat) : Int)), (8, v1), (9, .int .i64 (((sortR rs).length : Nat) : Int)), (10, .int .i64 ((k : Nat) : Int)), (11, .bool (decide (((k : Nat) : Int) < (((sortR rs).length : Nat) : Int)))), (12, .pointer (some ⟨sblk v1, soff v1 + k * 5, none⟩)), (13, .agg (Enc.enc ((sortR rs)[k]'hi1)).toArray), (14, .pointer (some ⟨b1, 1, none⟩)), (15, .agg (Enc.enc (((sortR rs)[k]'hi1).stamp)).toArray), (16, .bool (stampOk (((sortR rs)[k]'hi1).stamp))), (17, .bool (!(stampOk (((sortR rs)[k]'hi1).stamp)))), (18, vo), (19, .int .i64 (((runTo ((sortR rs).take k)).length : Nat) : Int)), (32, .bool ((decide (0 < (((runTo ((sortR rs).take k)).length : Nat) : Int))) && (decide (((List.getD (runTo ((sortR rs).take k)) ((runTo ((sortR rs).take k)).length - 1) default).stamp) = (((sortR rs)[k]'hi1).stamp)))))] (fun w' => w6 = w') ?_ ?_
      · refine J_if (gd := 22) rfl rfl (fun hg1 => ?_) (fun hg1 => ?_)
        · have hg1n : (runTo ((sortR rs).take k)).length > 0 := by first | (have h := of_decide_eq_true hg1; omega) | (have h := hg1; simp at h; omega)
          refine J_gd rfl rfl (R_move rfl) rfl (J_gd rfl rfl (R_move rfl) rfl (J_gd rfl rfl (R_sub rfl rfl (nat_sub (b := 1) (by omega) (by unfold maxLen; omega))) rfl ?_))
          have hi2 : ((runTo ((sortR rs).take k)).length - 1) < (runTo ((sortR rs).take k)).length := (by first | assumption | omega | (simp only [List.length_set]; first | assumption | omega) | (simp only [List.getElem_set_self, List.length_set]; first | assumption | omega) | (simp only [setW, setLk, List.length_set]; first | assumption | omega) | (simp; done))
          refine J_gd rfl rfl (R_index (i := ((runTo ((sortR rs).take k)).length - 1)) sl30 rfl rfl (Own.rd (by decide) ho) hi2) rfl (J_gd rfl rfl (R_fieldAddr fl59_0 rfl) rfl (J_gd rfl rfl (R_loadS st57 rfl ((RdS.getD (Own.rd (by decide) ho) (i := ((runTo ((sortR rs).take k)).length - 1)) hi2).part 0 [.int .i64 (((List.getD (runTo ((sortR rs).take k)) ((runTo ((sortR rs).take k)).length - 1) default).stamp).epoch), .int .i64 (((List.getD (runTo ((sortR rs).take k)) ((runTo ((sortR rs).take k)).length - 1) default).stamp).turn)] rfl) rfl) rfl (J_gd rfl rfl (R_fieldAddr0 fl71_1 rfl) rfl (J_gd rfl rfl (R_loadS st57 rfl (h1.part 1 [.int .i64 ((((sortR rs)[k]'hi1).stamp).epoch), .int .i64 ((((sortR rs)[k]'hi1).stamp).turn)] rfl) rfl) rfl (J_gd rfl rfl (R_eqlS (eq57 ((List.getD (runTo ((sortR rs).take k)) ((runTo ((sortR rs).take k)).length - 1) default).stamp) (((sortR rs)[k]'hi1).stamp)) eqg57 rfl rfl) rfl (J_st (R_pickT rfl rfl) rfl (J_cutEnd ⟨rfl, rfl, rfl, rfl, rfl, rfl, rfl, rfl, rfl, rfl, rfl, rfl, rfl, rfl, rfl, rfl, congrArg (fun b => some (Value.bool b)) (show (decide (((List.getD (runTo ((sortR rs).take k)) ((runTo ((sortR rs).take k)).length - 1) default).stamp) = (((sortR rs)[k]'hi1).stamp))) = ((decide (0 < (((runTo ((sortR rs).take k)).length : Nat) : Int))) && (decide (((List.getD (runTo ((sortR rs).take k)) ((runTo ((sortR rs).take k)).length - 1) default).stamp) = (((sortR rs)[k]'hi1).stamp)))) by first | (rw [hg1] <;> rfl) | (simp [hg1]; done) | (simp only [nat_nlt] <;> simp)), trivial⟩ rfl)))))))
        · have hg1n : ¬ (runTo ((sortR rs).take k)).length > 0 := by first | (have h := of_decide_eq_false hg1; omega) | (have h := hg1; simp at h; omega)
          refine J_gdno rfl rfl rfl rfl (J_gdno rfl rfl rfl rfl (J_gdno rfl rfl rfl rfl (J_gdno rfl rfl rfl rfl (J_gdno rfl rfl rfl rfl (J_gdno rfl rfl rfl rfl (J_gdno rfl rfl rfl rfl (J_gdno rfl rfl rfl rfl (J_gdno rfl rfl rfl rfl (J_st (R_pickF rfl rfl) rfl (J_cutEnd ⟨rfl, rfl, rfl, rfl, rfl, rfl, rfl, rfl, rfl, rfl, rfl, rfl, rfl, rfl, rfl, rfl, congrArg (fun b => some (Value.bool b)) (show false = ((decide (0 < (((runTo ((sortR rs).take k)).length : Nat) : Int))) && (decide (((List.getD (runTo ((sortR rs).take k)) ((runTo ((sortR rs).take k)).length - 1) default).stamp) = (((sortR rs)[k]'hi1).stamp)))) by first | (rw [hg1] <;> rfl) | (simp [hg1]; done) | (simp only [nat_nlt] <;> simp)), trivial⟩ rfl))))))))))
      rintro _ rfl
      refine J_done ?_
      refine S_cond rfl (fun hc3 => ?_) (fun hc3 => ?_)
      · have hp3 : (runTo ((sortR rs).take k)).length - 1 < (runTo ((sortR rs).take k)).length := by have h := of_decide_eq_true ((Bool.and_eq_true_iff.1 hc3).1); omega
        refine S_reg [true, true, true, true, true, true, true, true, true, false] rfl rfl ?_
        refine J_st (R_move rfl) rfl (J_st (R_move rfl) rfl (J_st (R_sub rfl rfl (nat_sub (b := 1) (by omega) (by unfold maxLen; omega))) rfl ?_))
        have hi3 : ((runTo ((sortR rs).take k)).length - 1) < (runTo ((sortR rs).take k)).length := (by first | assumption | omega | (simp only [List.length_set]; first | assumption | omega) | (simp only [List.getElem_set_self, List.length_set]; first | assumption | omega) | (simp only [setW, setLk, List.length_set]; first | assumption | omega) | (simp; done))
        refine J_st (R_index (i := ((runTo ((sortR rs).take k)).length - 1)) sl30 rfl rfl (Own.rd (by decide) ho) hi3) rfl (J_st (R_fieldAddr fl59_1 rfl) rfl (J_st (R_load sc3 rfl (((Own.rd (by decide) ho).get hi3).one 2 rfl)) rfl (J_st (R_add rfl rfl rfl) rfl ?_)))
        have hi4 : ((runTo ((sortR rs).take k)).length - 1) < (runTo ((sortR rs).take k)).length := (by first | assumption | omega | (simp only [List.length_set]; first | assumption | omega) | (simp only [List.getElem_set_self, List.length_set]; first | assumption | omega) | (simp only [setW, setLk, List.length_set]; first | assumption | omega) | (simp; done))
        refine J_st (R_index (i := ((runTo ((sortR rs).take k)).length - 1)) sl30 rfl rfl (Own.rd (by decide) ho) hi4) rfl (J_st (R_fieldAddr fl59_1 rfl) rfl ?_)
        refine J_storeSet (α := Count) (i := ((runTo ((sortR rs).take k)).length - 1)) (f := 2) (⟨(((runTo ((sortR rs).take k))[((runTo ((sortR rs).take k)).length - 1)]'hi4).stamp), IntKind.i64.wrap ((((runTo ((sortR rs).take k))[((runTo ((sortR rs).take k)).length - 1)]'hi3).n) + 1)⟩ : Count) sc3 rfl rfl rfl rfl ho hi4 (by decide) rfl (fun w8 m2 ho' => ?_)
        have hq := Own.blk ho
        replace ho := ho'
        replace E := E.step m2 (fun g hg => by have := hq g hg; omega); replace ho1 := ho1.mod m2 (fun g hg => by have := hq g hg; omega); replace h1 := h1.mod m2 (fun g hg => by have := hq g hg; omega)
        have z7 := m2.size
        clear hq
        refine J_done ?_
        refine S_nil (E_inB ?_)
        refine S_reg [true, true] rfl rfl ?_
        refine J_st (R_add rfl rfl (add_nat (by unfold maxLen; omega))) rfl (J_st (R_move rfl) rfl (J_done ?_))
        refine S_nil (E_again (k + 1, vo) (by simp; omega) ⟨rfl, rfl, rfl, rfl, rfl, trivial⟩ ⟨E, (by omega), ho1, (by omega), Own.fin ho (by omega) (by omega) (by rw [runTo_step (by assumption), runStep_up hc2 hc3 hp3])⟩)
      · refine S_reg [true, true, true, true, false, false, true] rfl rfl ?_
        refine J_st (R_move rfl) rfl (J_st (R_fieldAddr0 fl71_1 rfl) rfl (J_st (R_loadS st57 rfl (h1.part 1 [.int .i64 ((((sortR rs)[k]'hi1).stamp).epoch), .int .i64 ((((sortR rs)[k]'hi1).stamp).turn)] rfl) rfl) rfl (J_st (R_build (⟨(((sortR rs)[k]'hi1).stamp), 1⟩ : Count) rfl (fun _ => by kernel_rfl)) rfl ?_)))
        refine J_buildSlice (vs := [.agg (Enc.enc (⟨(((sortR rs)[k]'hi1).stamp), 1⟩ : Count)).toArray]) (css := [[.int .i64 (((⟨(((sortR rs)[k]'hi1).stamp), 1⟩ : Count).stamp).epoch), .int .i64 (((⟨(((sortR rs)[k]'hi1).stamp), 1⟩ : Count).stamp).turn), .int .i64 ((⟨(((sortR rs)[k]'hi1).stamp), 1⟩ : Count).n)]]) sl30 rfl rfl ⟨⟨rfl, rfl⟩, trivial⟩ rfl rfl (fun b2 w9 e5 s2 h2 => ?_)
        replace h2 : Blk w9 b2 [.int .i64 (((⟨(((sortR rs)[k]'hi1).stamp), 1⟩ : Count).stamp).epoch), .int .i64 (((⟨(((sortR rs)[k]'hi1).stamp), 1⟩ : Count).stamp).turn), .int .i64 ((⟨(((sortR rs)[k]'hi1).stamp), 1⟩ : Count).n)] := h2
        have g_b2 : w.heap.size ≤ b2 := by have := E.size; omega
        have y_b2 := h2.lt
        replace E := E.trans e5; replace ho1 := ho1.ext e5; replace ho := ho.ext e5; replace h1 := h1.ext e5
        have z8 := e5.size
        refine J_append sl30 rfl rfl ho (Src.ofBlk h2 rfl) rfl (by simp only [sum_flat, List.length_append, List.length_cons, List.length_nil]; simp only [Enc.sz]; omega) (by decide) (by omega) (by omega) rfl rfl (fun v2 w10 m3 ho2 => ?_)
        replace E := E.step m3 (fun g hg => by have := Own.blk ho g hg; omega); replace ho1 := ho1.mod m3 (fun g hg => by have := Own.blk ho g hg; omega); replace h1 := h1.mod m3 (fun g hg => by have := Own.blk ho g hg; omega)
        have z9 := m3.size
        refine J_st (R_assign rfl) rfl (J_done ?_)
        refine S_nil (E_inB ?_)
        refine S_reg [true, true] rfl rfl ?_
        refine J_st (R_add rfl rfl (add_nat (by unfold maxLen; omega))) rfl (J_st (R_move rfl) rfl (J_done ?_))
        refine S_nil (E_again (k + 1, v2) (by simp; omega) ⟨rfl, rfl, rfl, rfl, rfl, trivial⟩ ⟨E, (by omega), ho1, (by omega), Own.fin ho2 (by omega) (by omega) (by rw [runTo_step (by assumption), runStep_app hc2 hc3]; first | rfl | (simp [Enc.enc]; done))⟩)
  · have hc1n : ¬ k < (sortR rs).length := by first | (have h := of_decide_eq_false hc1; omega) | (have h := hc1; simp at h; omega)
    refine S_exit (E_lp_exit (E_inB_exit ?_))
    refine S_seq ?_
    refine S_reg [true, true] rfl rfl ?_
    refine J_st (R_move rfl) rfl (J_st (R_assign rfl) rfl (J_done ?_))
    refine S_ret (E_done1 rfl rfl E ?_)
    exact Own.fin ho (by have := E.size; omega) (by omega) (by rw [List.take_of_length_le (by omega)])

set_option maxRecDepth 20000 in
theorem c_CountsAt (cx : List Value) (x : Worker) (w : World) (hx : Dat.R w 0 w.heap.size cx x) (hb : (recsOf x).length ≤ 1048576) : Ct Try.prog 7 [.agg cx.toArray] w (fun v w' => Own w' w.heap.size w'.heap.size 3 v (List.flatMap (Enc.enc (α := Count)) (runTo (sortR (recsOf x))))) := by
  have hbl := recsOf_len x
  refine ct_of Try.func7 rfl Try.ntmps7 rfl ?_
  obtain ⟨o1, o2, o3, o4, o5, o6, o7, o8, rfl, hd1, hd2, hd3, hd4, hd5, hd6, hd7, hd8⟩ := Worker.op hx
  refine S_sub [(0, .agg [o1, o2, o3, o4, o5, o6, o7, o8].toArray)] ⟨rfl, trivial⟩ ?_
  have E : Ext w w := Ext.refl w
  refine S_seq ?_
  refine S_reg [false, true] rfl rfl ?_
  refine J_box rfl rfl (fun b1 w1 e1 s1 h1 => ?_)
  have g_b1 : w.heap.size ≤ b1 := by have := E.size; omega
  have y_b1 := h1.lt
  replace E := E.trans e1
  have z1 := e1.size
  refine J_st (R_assign rfl) rfl (J_done ?_)
  refine S_seq ?_
  refine S_regW mixed [0, 3, 6, 10] [(0, true), (1, true), (3, true), (4, true), (6, true), (7, true), (2, false), (5, false), (8, false), (9, false), (10, true)] [] (by decide +kernel) rfl rfl (fun w' => Ext w w' ∧ w1.heap.size ≤ w'.heap.size ∧ Blk w' b1 ([o1, o2, o3, o4, o5, o6, o7, o8])) (fun w2 e2 => ?_)
  replace E := E.trans e2; replace h1 := h1.ext e2
  have z2 := e2.size
  refine ⟨⟨E, (by omega), h1⟩, ?_⟩
  refine JC_pu rfl (fun wX => R_fieldAddr0 fl36_0 rfl) rfl ?_
  refine JC_st rfl (fun wX hX => by obtain ⟨E, zX, h1⟩ := hX; exact R_load sc32 rfl (h1.one 0 rfl)) rfl ?_
  refine JC_pu rfl (fun wX => R_fieldAddr0 fl36_1 rfl) rfl ?_
  refine JC_st rfl (fun wX hX => by obtain ⟨E, zX, h1⟩ := hX; exact R_load sc32 rfl (h1.one 1 rfl)) rfl ?_
  refine JC_pu rfl (fun wX => R_fieldAddr0 fl36_2 rfl) rfl ?_
  refine JC_st rfl (fun wX hX => by obtain ⟨E, zX, h1⟩ := hX; exact R_load sc32 rfl (h1.one 2 rfl)) rfl ?_
  refine JC_un rfl ?_
  refine J_call Try.call25 rfl (c_copyRecords o1 x.queue _ (hd1.rd.ext E) (by first | omega | (simp only [mkL_length]; omega) | (rw [mkL_length]; done) | (simp only [mkL_length]; done))) rfl (fun v1 w3 e3 ho1 => ?_)
  have g_ho1 : w.heap.size ≤ w2.heap.size := E.size
  replace E := E.trans e3; replace h1 := h1.ext e3
  have z3 := e3.size
  refine JC_next ⟨E, (by omega), h1⟩ ?_
  refine JC_un rfl ?_
  refine J_append sl32 rfl rfl ho1 (RdS.src (hd2.rd.ext E)) (flat_one _) (by simp only [sum_flat, List.length_append, List.length_nil, List.nil_append]; simp only [Enc.sz]; omega) (by decide) (by omega) (by omega) rfl rfl (fun v2 w4 m1 ho2 => ?_)
  replace E := E.step m1 (fun g hg => by have := Own.blk ho1 g hg; omega); replace h1 := h1.mod m1 (fun g hg => by have := Own.blk ho1 g hg; omega)
  have z4 := m1.size
  replace ho2 : Own w4 w2.heap.size w4.heap.size 5 v2 (List.flatMap (Enc.enc (α := Record)) (x.queue ++ x.staged)) := by simpa only [List.flatMap_append, List.flatMap_nil, List.nil_append] using ho2
  refine JC_next ⟨E, (by omega), h1⟩ ?_
  refine JC_un rfl ?_
  refine J_append sl32 rfl rfl ho2 (RdS.src (hd3.rd.ext E)) (flat_one _) (by simp only [sum_flat, List.length_append, List.length_nil, List.nil_append]; simp only [Enc.sz]; omega) (by decide) (by omega) (by omega) rfl rfl (fun v3 w5 m2 ho3 => ?_)
  replace E := E.step m2 (fun g hg => by have := Own.blk ho2 g hg; omega); replace h1 := h1.mod m2 (fun g hg => by have := Own.blk ho2 g hg; omega)
  have z5 := m2.size
  replace ho3 : Own w5 w2.heap.size w5.heap.size 5 v3 (List.flatMap (Enc.enc (α := Record)) ((x.queue ++ x.staged) ++ x.inputs)) := by simpa only [List.flatMap_append, List.flatMap_nil, List.nil_append] using ho3
  refine JC_next ⟨E, (by omega), h1⟩ ?_
  refine JC_un rfl ?_
  refine J_call Try.call24 rfl (c_CountsOfRecords v3 ((x.queue ++ x.staged) ++ x.inputs) _ (Own.rd (by decide) ho3) (by simp only [List.length_append, List.nil_append, List.append_assoc]; omega)) rfl (fun v4 w6 e4 ho4 => ?_)
  have g_ho4 : w.heap.size ≤ w5.heap.size := E.size
  replace E := E.trans e4; replace h1 := h1.ext e4; replace ho3 := ho3.ext e4
  have z6 := e4.size
  refine JC_next ⟨E, (by omega), h1⟩ ?_
  refine JC_pu rfl (fun wX => R_assign rfl) rfl ?_
  refine JC_end ?_
  refine J_done ?_
  refine S_ret (E_done1 rfl rfl E ?_)
  exact Own.fin ho4 (by have := E.size; omega) (by omega) rfl

set_option maxRecDepth 20000 in
theorem s_CountsAt (cx : List Value) (x : Worker) (w : World) (hx : Dat.R w 0 w.heap.size cx x) (hb : (recsOf x).length ≤ 1048576) : Ct Try.prog 5 [.agg cx.toArray] w (fun v w' => Own w' w.heap.size w'.heap.size 3 v (List.flatMap (Enc.enc (α := Count)) (cntTo (recsOf x)))) := by
  have hbl := recsOf_len x
  refine ct_of Try.func5 rfl Try.ntmps5 rfl ?_
  obtain ⟨o1, o2, o3, o4, o5, o6, o7, o8, rfl, hd1, hd2, hd3, hd4, hd5, hd6, hd7, hd8⟩ := Worker.op hx
  refine S_sub [(0, .agg [o1, o2, o3, o4, o5, o6, o7, o8].toArray)] ⟨rfl, trivial⟩ ?_
  have E : Ext w w := Ext.refl w
  refine S_seq ?_
  refine S_reg [false, true] rfl rfl ?_
  refine J_box rfl rfl (fun b1 w1 e1 s1 h1 => ?_)
  have g_b1 : w.heap.size ≤ b1 := by have := E.size; omega
  have y_b1 := h1.lt
  replace E := E.trans e1
  have z1 := e1.size
  refine J_st (R_assign rfl) rfl (J_done ?_)
  refine S_seq ?_
  refine S_regW mixed [1, 4, 7, 11] [(1, true), (2, true), (4, true), (5, true), (7, true), (8, true), (0, false), (3, false), (6, false), (9, false), (10, false), (11, true)] [] (by decide +kernel) rfl rfl (fun w' => Ext w w' ∧ w1.heap.size ≤ w'.heap.size ∧ Blk w' b1 ([o1, o2, o3, o4, o5, o6, o7, o8])) (fun w2 e2 => ?_)
  replace E := E.trans e2; replace h1 := h1.ext e2
  have z2 := e2.size
  refine ⟨⟨E, (by omega), h1⟩, ?_⟩
  refine JC_pu rfl (fun wX => R_fieldAddr0 fl36_0 rfl) rfl ?_
  refine JC_st rfl (fun wX hX => by obtain ⟨E, zX, h1⟩ := hX; exact R_load sc32 rfl (h1.one 0 rfl)) rfl ?_
  refine JC_pu rfl (fun wX => R_fieldAddr0 fl36_1 rfl) rfl ?_
  refine JC_st rfl (fun wX hX => by obtain ⟨E, zX, h1⟩ := hX; exact R_load sc32 rfl (h1.one 1 rfl)) rfl ?_
  refine JC_pu rfl (fun wX => R_fieldAddr0 fl36_2 rfl) rfl ?_
  refine JC_st rfl (fun wX hX => by obtain ⟨E, zX, h1⟩ := hX; exact R_load sc32 rfl (h1.one 2 rfl)) rfl ?_
  refine JC_un rfl ?_
  refine J_buildSlice (vs := []) (css := []) sl32 rfl rfl trivial rfl rfl (fun b2 w3 e3 s2 h2 => ?_)
  replace h2 : Blk w3 b2 [] := h2
  have g_b2 : w.heap.size ≤ b2 := by have := E.size; omega
  have y_b2 := h2.lt
  replace E := E.trans e3; replace h1 := h1.ext e3
  have z3 := e3.size
  refine JC_next ⟨E, (by omega), h1⟩ ?_
  refine JC_un rfl ?_
  refine J_append sl32 rfl rfl (Own.ofBlk (lo := b2) (hi := b2 + 1) (sz := 5) h2 (Nat.le_refl _) (Nat.lt_succ_self _) (by simp) (by simp [maxLen])) (RdS.src (hd1.rd.ext E)) (flat_one _) (by simp only [sum_flat, List.length_append, List.length_nil, List.nil_append]; simp only [Enc.sz]; omega) (by decide) (by omega) (by omega) rfl rfl (fun v1 w4 m1 ho1 => ?_)
  replace E := E.step m1 (fun g hg => by have := Own.blk (Own.ofBlk (lo := b2) (hi := b2 + 1) (sz := 5) h2 (Nat.le_refl _) (Nat.lt_succ_self _) (by simp) (by simp [maxLen])) g hg; omega); replace h1 := h1.mod m1 (fun g hg => by have := Own.blk (Own.ofBlk (lo := b2) (hi := b2 + 1) (sz := 5) h2 (Nat.le_refl _) (Nat.lt_succ_self _) (by simp) (by simp [maxLen])) g hg; omega)
  have z4 := m1.size
  replace ho1 : Own w4 b2 w4.heap.size 5 v1 (List.flatMap (Enc.enc (α := Record)) (x.queue)) := by simpa only [List.flatMap_append, List.flatMap_nil, List.nil_append] using ho1
  refine JC_next ⟨E, (by omega), h1⟩ ?_
  refine JC_un rfl ?_
  refine J_append sl32 rfl rfl ho1 (RdS.src (hd2.rd.ext E)) (flat_one _) (by simp only [sum_flat, List.length_append, List.length_nil, List.nil_append]; simp only [Enc.sz]; omega) (by decide) (by omega) (by omega) rfl rfl (fun v2 w5 m2 ho2 => ?_)
  replace E := E.step m2 (fun g hg => by have := Own.blk ho1 g hg; omega); replace h1 := h1.mod m2 (fun g hg => by have := Own.blk ho1 g hg; omega)
  have z5 := m2.size
  replace ho2 : Own w5 b2 w5.heap.size 5 v2 (List.flatMap (Enc.enc (α := Record)) (x.queue ++ x.staged)) := by simpa only [List.flatMap_append, List.flatMap_nil, List.nil_append] using ho2
  refine JC_next ⟨E, (by omega), h1⟩ ?_
  refine JC_un rfl ?_
  refine J_append sl32 rfl rfl ho2 (RdS.src (hd3.rd.ext E)) (flat_one _) (by simp only [sum_flat, List.length_append, List.length_nil, List.nil_append]; simp only [Enc.sz]; omega) (by decide) (by omega) (by omega) rfl rfl (fun v3 w6 m3 ho3 => ?_)
  replace E := E.step m3 (fun g hg => by have := Own.blk ho2 g hg; omega); replace h1 := h1.mod m3 (fun g hg => by have := Own.blk ho2 g hg; omega)
  have z6 := m3.size
  replace ho3 : Own w6 b2 w6.heap.size 5 v3 (List.flatMap (Enc.enc (α := Record)) ((x.queue ++ x.staged) ++ x.inputs)) := by simpa only [List.flatMap_append, List.flatMap_nil, List.nil_append] using ho3
  refine JC_next ⟨E, (by omega), h1⟩ ?_
  refine JC_un rfl ?_
  refine J_call Try.call18 rfl (s_CountsOfRecords v3 ((x.queue ++ x.staged) ++ x.inputs) _ (Own.rd (by decide) ho3) (by simp only [List.length_append, List.nil_append, List.append_assoc]; omega)) rfl (fun v4 w7 e4 ho4 => ?_)
  have g_ho4 : w.heap.size ≤ w6.heap.size := E.size
  replace E := E.trans e4; replace h1 := h1.ext e4; replace ho3 := ho3.ext e4
  have z7 := e4.size
  refine JC_next ⟨E, (by omega), h1⟩ ?_
  refine JC_pu rfl (fun wX => R_assign rfl) rfl ?_
  refine JC_end ?_
  refine J_done ?_
  refine S_ret (E_done1 rfl rfl E ?_)
  exact Own.fin ho4 (by have := E.size; omega) (by omega) rfl

set_option maxRecDepth 20000 in
theorem markCountS (vxs : Value) (lo hi : Nat) (xs : List Count) (k : Nat) (w : World) (hxs : Own w lo hi 3 vxs (List.flatMap (Enc.enc (α := Count)) xs)) (hb : k + xs.length * 3 ≤ 1099511627776) : CtR Try.prog 11 [vxs, .int .i64 ((k : Nat) : Int)] w lo hi (fun v w' => v = .int .i64 ((k + 3 * xs.length : Nat) : Int) ∧ Own w' lo hi 3 vxs (List.flatMap (Enc.enc (α := Count)) (mkL 3 mkCount k xs.length))) := by
  refine ctR_of Try.func11 rfl Try.ntmps11 rfl ?_
  refine S_sub [(0, vxs), (1, .int .i64 ((k : Nat) : Int))] ⟨rfl, rfl, trivial⟩ ?_
  have E : ModR w w lo hi := ModR.refl w lo hi
  refine S_seq ?_
  refine S_reg [true] rfl rfl ?_
  refine J_st (R_assign rfl) rfl (J_done ?_)
  refine S_seq ?_
  refine S_seq ?_
  refine S_reg [true] rfl rfl ?_
  refine J_st (R_assign rfl) rfl (J_done ?_)
  refine S_block ?_
  refine S_loop (fun (xq : Nat × Nat × List Count) => let ⟨i, q, bs⟩ := xq; [(0, vxs), (1, .int .i64 ((q : Nat) : Int)), (4, .int .i64 0), (5, .int .i64 ((i : Nat) : Int))]) (fun (xq : Nat × Nat × List Count) w' => let ⟨i, q, bs⟩ := xq; ModR w w' lo hi ∧ w.heap.size ≤ w'.heap.size ∧ i + bs.length = xs.length ∧ q = k + 3 * i ∧ Own w' lo hi 3 vxs (List.flatMap (Enc.enc (α := Count)) (mkL 3 mkCount k i ++ bs))) (fun (xq : Nat × Nat × List Count) => let ⟨i, q, bs⟩ := xq; xs.length - i) (0, k, xs) ⟨rfl, rfl, rfl, rfl, trivial⟩ ⟨E, Nat.le_refl _, (by simp), (by simp), (by simpa [mkL] using hxs)⟩ ?_
  clear E hxs
  rintro ⟨i, q, bs⟩ w1 ⟨E, z1, hi, hq, hxs⟩
  refine S_sub [(0, vxs), (1, .int .i64 ((q : Nat) : Int)), (4, .int .i64 0), (5, .int .i64 ((i : Nat) : Int))] ⟨rfl, rfl, rfl, rfl, trivial⟩ ?_
  refine S_seq ?_
  refine S_seq ?_
  refine S_reg [true, true, true, true] rfl rfl ?_
  refine J_st (R_move rfl) rfl (J_st (R_move rfl) rfl (J_st (R_len Try.underlying30 rfl (Own.lenE (by decide) hxs (by simp only [List.length_append, mkL_length, List.length_cons]; omega))) rfl (J_st (R_lss rfl rfl) rfl (J_done ?_))))
  refine S_cond rfl (fun hc1 => ?_) (fun hc1 => ?_)
  · rcases bs with _ | ⟨x, bs⟩
    · exact absurd hi (by have h := hc1; simp at h ⊢; omega)
    simp only [List.length_cons] at hi
    have hc1n : i < xs.length := by first | (have h := of_decide_eq_true hc1; omega) | (have h := hc1; simp at h; omega)
    refine S_skip ?_
    refine S_seq ?_
    refine S_block ?_
    refine S_seq ?_
    refine S_reg [true, true, true, true, true, true, false] rfl rfl ?_
    refine J_st (R_move rfl) rfl (J_st (R_move rfl) rfl (J_st (R_move rfl) rfl (J_st (R_index sl30 rfl rfl (Own.rd (by decide) hxs) (by simp only [List.length_append, mkL_length, List.length_cons]; omega)) rfl (J_st (R_fieldAddr fl59_0 rfl) rfl (J_st (R_fieldAddr fl57_0 rfl) rfl ?_)))))
    refine J_storeOwn (α := Count) (i := i) (f := 0) (⟨(⟨((q : Nat) : Int), x.stamp.turn⟩ : Stamp), x.n⟩ : Count) sc3 rfl rfl rfl rfl hxs (mkL_length _ _ _ _) (by decide) rfl (fun w2 m1 hxs' => ?_)
    have hq := hxs.blk
    replace hxs := hxs'
    replace E := E.mod m1 (fun g hg => by have := hq g hg; omega)
    have z2 := m1.size
    clear hq
    refine J_done ?_
    refine S_seq ?_
    refine S_reg [true, true, true] rfl rfl ?_
    refine J_st (R_move rfl) rfl (J_st (R_add rfl rfl (add_nat (by unfold maxLen; omega))) rfl (J_st (R_assign rfl) rfl (J_done ?_)))
    refine S_seq ?_
    refine S_reg [true, true, true, true, true, true, false] rfl rfl ?_
    refine J_st (R_move rfl) rfl (J_st (R_move rfl) rfl (J_st (R_move rfl) rfl (J_st (R_index sl30 rfl rfl (Own.rd (by decide) hxs) (by simp only [List.length_append, mkL_length, List.length_cons]; omega)) rfl (J_st (R_fieldAddr fl59_0 rfl) rfl (J_st (R_fieldAddr fl57_1 rfl) rfl ?_)))))
    refine J_storeOwn (α := Count) (i := i) (f := 1) (⟨(⟨((q : Nat) : Int), ((q + 1 : Nat) : Int)⟩ : Stamp), x.n⟩ : Count) sc3 rfl rfl rfl rfl hxs (mkL_length _ _ _ _) (by decide) rfl (fun w3 m2 hxs' => ?_)
    have hq := hxs.blk
    replace hxs := hxs'
    replace E := E.mod m2 (fun g hg => by have := hq g hg; omega)
    have z3 := m2.size
    clear hq
    refine J_done ?_
    refine S_seq ?_
    refine S_reg [true, true, true] rfl rfl ?_
    refine J_st (R_move rfl) rfl (J_st (R_add rfl rfl (add_nat (by unfold maxLen; omega))) rfl (J_st (R_assign rfl) rfl (J_done ?_)))
    refine S_seq ?_
    refine S_reg [true, true, true, true, true, false] rfl rfl ?_
    refine J_st (R_move rfl) rfl (J_st (R_move rfl) rfl (J_st (R_move rfl) rfl (J_st (R_index sl30 rfl rfl (Own.rd (by decide) hxs) (by simp only [List.length_append, mkL_length, List.length_cons]; omega)) rfl (J_st (R_fieldAddr fl59_1 rfl) rfl ?_))))
    refine J_storeOwn (α := Count) (i := i) (f := 2) (⟨(⟨((q : Nat) : Int), ((q + 1 : Nat) : Int)⟩ : Stamp), ((q + 1 + 1 : Nat) : Int)⟩ : Count) sc3 rfl rfl rfl rfl hxs (mkL_length _ _ _ _) (by decide) rfl (fun w4 m3 hxs' => ?_)
    have hq := hxs.blk
    replace hxs := hxs'
    replace E := E.mod m3 (fun g hg => by have := hq g hg; omega)
    have z4 := m3.size
    clear hq
    refine J_done ?_
    refine S_reg [true, true, true] rfl rfl ?_
    refine J_st (R_move rfl) rfl (J_st (R_add rfl rfl (add_nat (by unfold maxLen; omega))) rfl (J_st (R_assign rfl) rfl (J_done ?_)))
    refine S_nil (E_inB ?_)
    refine S_reg [true, true, true] rfl rfl ?_
    refine J_st (R_move rfl) rfl (J_st (R_add rfl rfl (add_nat (by unfold maxLen; omega))) rfl (J_st (R_assign rfl) rfl (J_done ?_)))
    refine S_nil (E_again (i + 1, q + 1 + 1 + 1, bs) (by simp; omega) ⟨rfl, rfl, rfl, rfl, trivial⟩ ⟨E, (by omega), (by omega), (by omega), (by subst hq; rw [← mkL_succ]; exact hxs)⟩)
  · have hc1n : ¬ i < xs.length := by first | (have h := of_decide_eq_false hc1; omega) | (have h := hc1; simp at h; omega)
    refine S_exit (E_lp_exit (E_inB_exit ?_))
    refine S_seq ?_
    refine S_reg [true, true] rfl rfl ?_
    refine J_st (R_move rfl) rfl (J_st (R_assign rfl) rfl (J_done ?_))
    refine S_ret (E_done1 rfl rfl E ?_)
    exact ⟨by subst hq; rw [show i = xs.length from by omega], by obtain rfl : bs = [] := List.eq_nil_of_length_eq_zero (by omega); rw [show xs.length = i from by simp at hi; omega]; simpa using hxs⟩

set_option maxRecDepth 20000 in
theorem heldCountS (vxs : Value) (xs : List Count) (k : Nat) (w : World) (hxs : RdS w vxs xs) (hm : xs = mkL 3 mkCount k xs.length) (hb : k + xs.length * 3 ≤ 1099511627776) : Ct Try.prog 12 [vxs, .int .i64 ((k : Nat) : Int)] w (fun v _ => v = .int .i64 ((k + 3 * xs.length : Nat) : Int)) := by
  refine ct_of Try.func12 rfl Try.ntmps12 rfl ?_
  refine S_sub [(0, vxs), (1, .int .i64 ((k : Nat) : Int))] ⟨rfl, rfl, trivial⟩ ?_
  have E : Ext w w := Ext.refl w
  refine S_seq ?_
  refine S_reg [true] rfl rfl ?_
  refine J_st (R_assign rfl) rfl (J_done ?_)
  refine S_seq ?_
  refine S_seq ?_
  refine S_reg [true] rfl rfl ?_
  refine J_st (R_assign rfl) rfl (J_done ?_)
  refine S_block ?_
  refine S_loop (fun (xq : Nat × Nat) => let ⟨i, q⟩ := xq; [(0, vxs), (1, .int .i64 ((q : Nat) : Int)), (4, .int .i64 0), (5, .int .i64 ((i : Nat) : Int))]) (fun (xq : Nat × Nat) w' => let ⟨i, q⟩ := xq; Ext w w' ∧ w.heap.size ≤ w'.heap.size ∧ i ≤ xs.length ∧ q = k + 3 * i) (fun (xq : Nat × Nat) => let ⟨i, q⟩ := xq; xs.length - i) (0, k) ⟨rfl, rfl, rfl, rfl, trivial⟩ ⟨E, Nat.le_refl _, Nat.zero_le _, (by simp)⟩ ?_
  clear E
  rintro ⟨i, q⟩ w1 ⟨E, z1, hi, hq⟩
  refine S_sub [(0, vxs), (1, .int .i64 ((q : Nat) : Int)), (4, .int .i64 0), (5, .int .i64 ((i : Nat) : Int))] ⟨rfl, rfl, rfl, rfl, trivial⟩ ?_
  refine S_seq ?_
  refine S_seq ?_
  refine S_reg [true, true, true, true] rfl rfl ?_
  refine J_st (R_move rfl) rfl (J_st (R_move rfl) rfl (J_st (R_len Try.underlying30 rfl (hxs.ext E).len) rfl (J_st (R_lss rfl rfl) rfl (J_done ?_))))
  refine S_cond rfl (fun hc1 => ?_) (fun hc1 => ?_)
  · have hc1n : i < xs.length := by first | (have h := of_decide_eq_true hc1; omega) | (have h := hc1; simp at h; omega)
    refine S_skip ?_
    refine S_seq ?_
    refine S_block ?_
    refine S_seq ?_
    refine S_seq ?_
    refine S_reg [true, true, true, true, true, true, true, true] rfl rfl ?_
    refine J_st (R_move rfl) rfl (J_st (R_move rfl) rfl ?_)
    have hi1 : i < xs.length := (by first | assumption | omega | (simp only [List.length_set]; first | assumption | omega) | (simp only [List.getElem_set_self, List.length_set]; first | assumption | omega) | (simp only [setW, setLk, List.length_set]; first | assumption | omega) | (simp; done))
    refine J_st (R_index (i := i) sl30 rfl rfl (hxs.ext E) hi1) rfl (J_st (R_fieldAddr fl59_0 rfl) rfl (J_st (R_fieldAddr fl57_0 rfl) rfl (J_st (R_load sc3 rfl (((hxs.ext E).get hi1).one 0 rfl)) rfl (J_st (R_move rfl) rfl (J_st (R_neq rfl rfl) rfl (J_done ?_))))))
    refine S_condFe rfl (by subst hq; rw [mkL_at hm (by omega)]; simp [mkCount]) ?_
    refine S_skip ?_
    refine S_seq ?_
    refine S_reg [true, true, true] rfl rfl ?_
    refine J_st (R_move rfl) rfl (J_st (R_add rfl rfl (add_nat (by unfold maxLen; omega))) rfl (J_st (R_assign rfl) rfl (J_done ?_)))
    refine S_seq ?_
    refine S_seq ?_
    refine S_reg [true, true, true, true, true, true, true, true] rfl rfl ?_
    refine J_st (R_move rfl) rfl (J_st (R_move rfl) rfl (J_st (R_index (i := i) sl30 rfl rfl (hxs.ext E) hi1) rfl (J_st (R_fieldAddr fl59_0 rfl) rfl (J_st (R_fieldAddr fl57_1 rfl) rfl (J_st (R_load sc3 rfl (((hxs.ext E).get hi1).one 1 rfl)) rfl (J_st (R_move rfl) rfl (J_st (R_neq rfl rfl) rfl (J_done ?_))))))))
    refine S_condFe rfl (by subst hq; rw [mkL_at hm (by omega)]; simp [mkCount]) ?_
    refine S_skip ?_
    refine S_seq ?_
    refine S_reg [true, true, true] rfl rfl ?_
    refine J_st (R_move rfl) rfl (J_st (R_add rfl rfl (add_nat (by unfold maxLen; omega))) rfl (J_st (R_assign rfl) rfl (J_done ?_)))
    refine S_seq ?_
    refine S_seq ?_
    refine S_reg [true, true, true, true, true, true, true] rfl rfl ?_
    refine J_st (R_move rfl) rfl (J_st (R_move rfl) rfl (J_st (R_index (i := i) sl30 rfl rfl (hxs.ext E) hi1) rfl (J_st (R_fieldAddr fl59_1 rfl) rfl (J_st (R_load sc3 rfl (((hxs.ext E).get hi1).one 2 rfl)) rfl (J_st (R_move rfl) rfl (J_st (R_neq rfl rfl) rfl (J_done ?_)))))))
    refine S_condFe rfl (by subst hq; rw [mkL_at hm (by omega)]; simp [mkCount]) ?_
    refine S_skip ?_
    refine S_reg [true, true, true] rfl rfl ?_
    refine J_st (R_move rfl) rfl (J_st (R_add rfl rfl (add_nat (by unfold maxLen; omega))) rfl (J_st (R_assign rfl) rfl (J_done ?_)))
    refine S_nil (E_inB ?_)
    refine S_reg [true, true, true] rfl rfl ?_
    refine J_st (R_move rfl) rfl (J_st (R_add rfl rfl (add_nat (by unfold maxLen; omega))) rfl (J_st (R_assign rfl) rfl (J_done ?_)))
    refine S_nil (E_again (i + 1, q + 1 + 1 + 1) (by simp; omega) ⟨rfl, rfl, rfl, rfl, trivial⟩ ⟨E, (by omega), (by omega), (by omega)⟩)
  · have hc1n : ¬ i < xs.length := by first | (have h := of_decide_eq_false hc1; omega) | (have h := hc1; simp at h; omega)
    refine S_exit (E_lp_exit (E_inB_exit ?_))
    refine S_seq ?_
    refine S_reg [true, true] rfl rfl ?_
    refine J_st (R_move rfl) rfl (J_st (R_assign rfl) rfl (J_done ?_))
    refine S_ret (E_done1 rfl rfl E ?_)
    subst hq; rw [show i = xs.length from by omega]

set_option maxRecDepth 20000 in
theorem c_eqCount (x : Count) (y : Count) (w : World)  : Ct Try.prog 26 [.agg (Enc.enc x).toArray, .agg (Enc.enc y).toArray] w (fun v _ => v = .bool (decide (x = y))) := by
  refine ct_of Try.func26 rfl Try.ntmps26 rfl ?_
  refine S_sub [(0, .agg (Enc.enc x).toArray), (1, .agg (Enc.enc y).toArray)] ⟨rfl, rfl, trivial⟩ ?_
  have E : Ext w w := Ext.refl w
  refine S_seq ?_
  refine S_reg [false, false, true] rfl rfl ?_
  refine J_box rfl rfl (fun b1 w1 e1 s1 h1 => ?_)
  have g_b1 : w.heap.size ≤ b1 := by have := E.size; omega
  have y_b1 := h1.lt
  replace E := E.trans e1
  have z1 := e1.size
  refine J_box rfl rfl (fun b2 w2 e2 s2 h2 => ?_)
  have g_b2 : w.heap.size ≤ b2 := by have := E.size; omega
  have y_b2 := h2.lt
  replace E := E.trans e2; replace h1 := h1.ext e2
  have z2 := e2.size
  refine J_st (R_assign rfl) rfl (J_done ?_)
  refine S_seq ?_
  refine S_seq ?_
  refine S_reg [true, true, true, true, false, true] rfl rfl ?_
  refine J_st (R_fieldAddr0 fl59_0 rfl) rfl (J_st (R_loadS st57 rfl (h1.part 0 [.int .i64 x.stamp.epoch, .int .i64 x.stamp.turn] rfl) rfl) rfl (J_st (R_fieldAddr0 fl59_0 rfl) rfl (J_st (R_loadS st57 rfl (h2.part 0 [.int .i64 y.stamp.epoch, .int .i64 y.stamp.turn] rfl) rfl) rfl ?_)))
  refine J_call Try.call43 rfl (c_eqStamp x.stamp y.stamp _ ) rfl (fun _ w3 e3 hv => ?_)
  subst hv
  replace E := E.trans e3; replace h1 := h1.ext e3; replace h2 := h2.ext e3
  have z3 := e3.size
  refine J_st (R_not rfl) rfl (J_done ?_)
  refine S_cond rfl (fun hc1 => ?_) (fun hc1 => ?_)
  · refine S_seq ?_
    refine S_reg [true] rfl rfl ?_
    refine J_st (R_assign rfl) rfl (J_done ?_)
    refine S_ret (E_done1 rfl rfl E ?_)
    cases x; cases y; simp_all
  · refine S_skip ?_
    refine S_seq ?_
    refine S_seq ?_
    refine S_reg [true, true, true, true, true] rfl rfl ?_
    refine J_st (R_fieldAddr0 fl59_1 rfl) rfl (J_st (R_load sc3 rfl (h1.one 2 rfl)) rfl (J_st (R_fieldAddr0 fl59_1 rfl) rfl (J_st (R_load sc3 rfl (h2.one 2 rfl)) rfl (J_st (R_neq rfl rfl) rfl (J_done ?_)))))
    refine S_cond rfl (fun hc2 => ?_) (fun hc2 => ?_)
    · refine S_seq ?_
      refine S_reg [true] rfl rfl ?_
      refine J_st (R_assign rfl) rfl (J_done ?_)
      refine S_ret (E_done1 rfl rfl E ?_)
      cases x; cases y; simp_all
    · refine S_skip ?_
      refine S_seq ?_
      refine S_reg [true] rfl rfl ?_
      refine J_st (R_assign rfl) rfl (J_done ?_)
      refine S_ret (E_done1 rfl rfl E ?_)
      cases x; cases y; simp_all

set_option maxRecDepth 20000 in
theorem c_eqCountS (vxs : Value) (xs : List Count) (vys : Value) (ys : List Count) (w : World) (hxs : RdS w vxs xs) (hys : RdS w vys ys) : Ct Try.prog 8 [vxs, vys] w (fun v _ => v = .bool (decide (xs = ys))) := by
  refine ct_of Try.func8 rfl Try.ntmps8 rfl ?_
  refine S_sub [(0, vxs), (1, vys)] ⟨rfl, rfl, trivial⟩ ?_
  have E : Ext w w := Ext.refl w
  refine S_seq ?_
  refine S_reg [true] rfl rfl ?_
  refine J_st (R_assign rfl) rfl (J_done ?_)
  refine S_seq ?_
  refine S_seq ?_
  refine S_reg [true, true, true, true, true] rfl rfl ?_
  refine J_st (R_move rfl) rfl (J_st (R_len Try.underlying30 rfl (hxs.ext E).len) rfl (J_st (R_move rfl) rfl (J_st (R_len Try.underlying30 rfl (hys.ext E).len) rfl (J_st (R_neq rfl rfl) rfl (J_done ?_)))))
  refine S_cond rfl (fun hc1 => ?_) (fun hc1 => ?_)
  · have hc1n : ¬ xs.length = ys.length := by first | (have h := of_decide_eq_true hc1; omega) | (have h := hc1; simp at h; omega)
    refine S_seq ?_
    refine S_reg [true] rfl rfl ?_
    refine J_st (R_assign rfl) rfl (J_done ?_)
    refine S_ret (E_done1 rfl rfl E ?_)
    simp [eq_len hc1n]
  · have hc1n : xs.length = ys.length := by first | (have h := of_decide_eq_false hc1; omega) | (have h := hc1; simp at h; omega)
    refine S_skip ?_
    refine S_seq ?_
    refine S_seq ?_
    refine S_reg [true] rfl rfl ?_
    refine J_st (R_assign rfl) rfl (J_done ?_)
    refine S_block ?_
    refine S_loop (fun (k : Nat) => [(0, vxs), (1, vys), (4, .bool false), (5, .int .i64 ((k : Nat) : Int))]) (fun (k : Nat) w' => Ext w w' ∧ w.heap.size ≤ w'.heap.size ∧ k ≤ xs.length ∧ xs.take k = ys.take k) (fun (k : Nat) => xs.length - k) 0 ⟨rfl, rfl, rfl, rfl, trivial⟩ ⟨E, Nat.le_refl _, Nat.zero_le _, rfl⟩ ?_
    clear E
    rintro k w1 ⟨E, z1, hk, hp⟩
    refine S_seq ?_
    refine S_seq ?_
    refine S_reg [true, true, true, true] rfl rfl ?_
    refine J_st (R_move rfl) rfl (J_st (R_move rfl) rfl (J_st (R_len Try.underlying30 rfl (hxs.ext E).len) rfl (J_st (R_lss rfl rfl) rfl (J_done ?_))))
    refine S_cond rfl (fun hc2 => ?_) (fun hc2 => ?_)
    · have hc2n : k < xs.length := by first | (have h := of_decide_eq_true hc2; omega) | (have h := hc2; simp at h; omega)
      refine S_skip ?_
      refine S_seq ?_
      refine S_block ?_
      refine S_seq ?_
      refine S_regD mixed [(0, true), (1, true), (2, true), (3, true), (4, true), (5, true), (6, true), (7, true), (8, false), (9, true)] (by decide +kernel) rfl (fun w2 e1 => ?_)
      replace E := E.trans e1
      have z2 := e1.size
      refine J_st (R_move rfl) rfl (J_st (R_move rfl) rfl ?_)
      have hi1 : k < xs.length := (by first | assumption | omega | (simp only [List.length_set]; first | assumption | omega) | (simp only [List.getElem_set_self, List.length_set]; first | assumption | omega) | (simp only [setW, setLk, List.length_set]; first | assumption | omega) | (simp; done))
      refine J_st (R_index (i := k) sl30 rfl rfl (hxs.ext E) hi1) rfl (J_st (R_loadS st59 rfl ((hxs.ext E).get hi1) rfl) rfl (J_st (R_move rfl) rfl (J_st (R_move rfl) rfl ?_)))
      have hi2 : k < ys.length := (by first | assumption | omega | (simp only [List.length_set]; first | assumption | omega) | (simp only [List.getElem_set_self, List.length_set]; first | assumption | omega) | (simp only [setW, setLk, List.length_set]; first | assumption | omega) | (simp; done))
      refine J_st (R_index (i := k) sl30 rfl rfl (hys.ext E) hi2) rfl (J_st (R_loadS st59 rfl ((hys.ext E).get hi2) rfl) rfl ?_)
      refine J_call Try.call26 rfl (c_eqCount (xs[k]'hi1) (ys[k]'hi2) _ ) rfl (fun _ w3 e2 hv => ?_)
      subst hv
      replace E := E.trans e2
      have z3 := e2.size
      refine J_st (R_not rfl) rfl (J_done ?_)
      refine S_cond rfl (fun hc3 => ?_) (fun hc3 => ?_)
      · refine S_seq ?_
        refine S_reg [true] rfl rfl ?_
        refine J_st (R_assign rfl) rfl (J_done ?_)
        refine S_ret (E_inB_ret (E_lp_ret (E_inB_ret (E_done1 rfl rfl E ?_))))
        exact eqS_no (by omega) (by omega) (by simpa using hc3)
      · refine S_skip ?_
        refine S_nil (E_inB ?_)
        refine S_reg [true, true, true] rfl rfl ?_
        refine J_st (R_move rfl) rfl (J_st (R_add rfl rfl (add_one hc2n hxs.1)) rfl (J_st (R_assign rfl) rfl (J_done ?_)))
        refine S_nil (E_again (k + 1) (by omega) ⟨rfl, rfl, rfl, rfl, trivial⟩ ⟨E, (by omega), (by omega), eqS_step hp (by assumption) (by omega) (by simpa using hc3)⟩)
    · have hc2n : ¬ k < xs.length := by first | (have h := of_decide_eq_false hc2; omega) | (have h := hc2; simp at h; omega)
      refine S_exit (E_lp_exit (E_inB_exit ?_))
      refine S_seq ?_
      refine S_reg [true] rfl rfl ?_
      refine J_st (R_assign rfl) rfl (J_done ?_)
      refine S_ret (E_done1 rfl rfl E ?_)
      exact eqS_yes hp hc1n (by omega)

set_option maxHeartbeats 4000000 in
set_option maxRecDepth 20000 in
theorem l_CountsAt (cx : List Value) (x : Worker) (w : World) (hx : Dat.R w 0 w.heap.size cx x) (_kx : okWorker x) (hcu : (recsOf x).length ≤ 1000000) : Ct Try.prog 3 [.agg cx.toArray] w (fun v _ => v = .bool true) := by
  have hcl := cntTo_len (recsOf x)
  have hrl := runTo_len (sortR (recsOf x))
  rw [sortR_len] at hrl
  have hrc := recsOf_len x
  have hcw : cntWorker x = _ := rfl
  unfold cntWorker at hcw
  refine ct_of Try.func3 rfl Try.ntmps3 rfl ?_
  obtain ⟨o1, o2, o3, o4, o5, o6, o7, o8, rfl, hd1, hd2, hd3, hd4, hd5, hd6, hd7, hd8⟩ := Worker.op hx
  refine S_sub [(0, .agg [o1, o2, o3, o4, o5, o6, o7, o8].toArray)] ⟨rfl, trivial⟩ ?_
  have E : Ext w w := Ext.refl w
  refine S_seq ?_
  refine S_reg [false, true] rfl rfl ?_
  refine J_box rfl rfl (fun b1 w1 e1 s1 h1 => ?_)
  have g_b1 : w.heap.size ≤ b1 := by have := E.size; omega
  have y_b1 := h1.lt
  replace E := E.trans e1
  have z1 := e1.size
  refine J_st (R_assign rfl) rfl (J_done ?_)
  refine S_seq ?_
  refine S_reg [true] rfl rfl ?_
  refine J_st (R_assign rfl) rfl (J_done ?_)
  refine S_seq ?_
  refine S_reg [true, true, false, true] rfl rfl ?_
  refine J_st (R_loadS st28 rfl h1.at rfl) rfl (J_st (R_move rfl) rfl ?_)
  refine J_call Try.call4 rfl (c_szWorker [o1, o2, o3, o4, o5, o6, o7, o8] x 1048576 _ (Worker.mkR x (RdD.any (hd1.ext E)) (RdD.any (hd2.ext E)) (RdD.any (hd3.ext E)) (RdD.any (hd4.ext E)) (RdD.any (hd5.ext E)) (RdD.any (hd6.ext E)) (RdD.any (hd7.ext E)) (RdD.any (hd8.ext E))) (by first | omega | (simp only [mkL_length]; omega) | (rw [mkL_length]; done) | (simp only [mkL_length]; done))) rfl (fun _ w2 e2 hv => ?_)
  subst hv
  replace E := E.trans e2; replace h1 := h1.ext e2
  have z2 := e2.size
  refine J_st (R_assign rfl) rfl (J_done ?_)
  refine S_seq ?_
  refine S_seq ?_
  refine S_reg [true, true] rfl rfl ?_
  refine J_st (R_move rfl) rfl (J_st (R_lss rfl rfl) rfl (J_done ?_))
  refine S_cond rfl (fun hc1 => ?_) (fun hc1 => ?_)
  · have q1 := szM_no hc1 (by omega)
    refine S_seq ?_
    refine S_reg [true] rfl rfl ?_
    refine J_st (R_assign rfl) rfl (J_done ?_)
    refine S_ret (E_done1 rfl rfl E ?_)
    rfl
  · have q2 := szM_ok hc1 (by omega)
    refine S_skip ?_
    refine S_seq ?_
    refine S_reg [true, false, false, true] rfl rfl ?_
    refine J_st (R_loadS st28 rfl h1.at rfl) rfl ?_
    refine J_call Try.call6 rfl (c_toWorker [o1, o2, o3, o4, o5, o6, o7, o8] x _ (Worker.mkR x (RdD.any (hd1.ext E)) (RdD.any (hd2.ext E)) (RdD.any (hd3.ext E)) (RdD.any (hd4.ext E)) (RdD.any (hd5.ext E)) (RdD.any (hd6.ext E)) (RdD.any (hd7.ext E)) (RdD.any (hd8.ext E))) (by first | omega | (simp only [mkL_length]; omega) | (rw [mkL_length]; done) | (simp only [mkL_length]; done))) rfl (fun _ w3 e3 ho1 => ?_)
    obtain ⟨_, rfl, ho1⟩ := ho1
    have g_ho1 : w.heap.size ≤ w2.heap.size := E.size
    replace E := E.trans e3; replace h1 := h1.ext e3
    have z3 := e3.size
    obtain ⟨o9, o10, o11, o12, o13, o14, o15, o16, rfl, sp1, hw1, hw2, hw3, hw4, hw5, hw6, hw7, hw8⟩ := Worker.opO ho1
    refine J_call Try.call5 rfl (s_CountsAt [o9, o10, o11, o12, o13, o14, o15, o16] x _ (Worker.mkR x (RdD.any (Own.rdD hw1)) (RdD.any (Own.rdD hw2)) (RdD.any (Own.rdD hw3)) (RdD.any (Own.rdD hw4)) (RdD.any (Own.rdD hw5)) (RdD.any (Own.rdD hw6)) (RdD.any (Own.rdD hw7)) (RdD.any (Own.rdD hw8))) (by first | omega | (simp only [mkL_length]; omega) | (rw [mkL_length]; done) | (simp only [mkL_length]; done))) rfl (fun v1 w4 e4 ho2 => ?_)
    have g_ho2 : w.heap.size ≤ w3.heap.size := E.size
    replace E := E.trans e4; replace h1 := h1.ext e4; replace hw1 := hw1.ext e4; replace hw2 := hw2.ext e4; replace hw3 := hw3.ext e4; replace hw4 := hw4.ext e4; replace hw5 := hw5.ext e4; replace hw6 := hw6.ext e4; replace hw7 := hw7.ext e4; replace hw8 := hw8.ext e4
    have z4 := e4.size
    refine J_st (R_assign rfl) rfl (J_done ?_)
    refine S_seq ?_
    refine S_reg [true, false, false, false] rfl rfl ?_
    refine J_st (R_loadS st28 rfl h1.at rfl) rfl ?_
    refine J_call Try.call6 rfl (c_toWorker [o1, o2, o3, o4, o5, o6, o7, o8] x _ (Worker.mkR x (RdD.any (hd1.ext E)) (RdD.any (hd2.ext E)) (RdD.any (hd3.ext E)) (RdD.any (hd4.ext E)) (RdD.any (hd5.ext E)) (RdD.any (hd6.ext E)) (RdD.any (hd7.ext E)) (RdD.any (hd8.ext E))) (by first | omega | (simp only [mkL_length]; omega) | (rw [mkL_length]; done) | (simp only [mkL_length]; done))) rfl (fun _ w5 e5 ho3 => ?_)
    obtain ⟨_, rfl, ho3⟩ := ho3
    have g_ho3 : w.heap.size ≤ w4.heap.size := E.size
    replace E := E.trans e5; replace h1 := h1.ext e5; replace hw1 := hw1.ext e5; replace hw2 := hw2.ext e5; replace hw3 := hw3.ext e5; replace hw4 := hw4.ext e5; replace hw5 := hw5.ext e5; replace hw6 := hw6.ext e5; replace hw7 := hw7.ext e5; replace hw8 := hw8.ext e5; replace ho2 := ho2.ext e5
    have z5 := e5.size
    obtain ⟨o17, o18, o19, o20, o21, o22, o23, o24, rfl, sp2, hw9, hw10, hw11, hw12, hw13, hw14, hw15, hw16⟩ := Worker.opO ho3
    refine J_alloc st36 rfl (fun b2 w6 e6 s2 h2 => ?_)
    have g_b2 : w.heap.size ≤ b2 := by have := E.size; omega
    have y_b2 := h2.lt
    replace E := E.trans e6; replace h1 := h1.ext e6; replace hw1 := hw1.ext e6; replace hw2 := hw2.ext e6; replace hw3 := hw3.ext e6; replace hw4 := hw4.ext e6; replace hw5 := hw5.ext e6; replace hw6 := hw6.ext e6; replace hw7 := hw7.ext e6; replace hw8 := hw8.ext e6; replace ho2 := ho2.ext e6; replace hw9 := hw9.ext e6; replace hw10 := hw10.ext e6; replace hw11 := hw11.ext e6; replace hw12 := hw12.ext e6; replace hw13 := hw13.ext e6; replace hw14 := hw14.ext e6; replace hw15 := hw15.ext e6; replace hw16 := hw16.ext e6
    have z6 := e6.size
    refine J_storeS' (cs' := [o17, o18, o19, o20, o21, o22, o23, o24]) st36 rfl rfl rfl (all_cons hw9.one (all_cons hw10.one (all_cons hw11.one (all_cons hw12.one (all_cons hw13.one (all_cons hw14.one (all_cons hw15.one (all_cons hw16.one rfl)))))))) h2 (Nat.le_of_ble_eq_true rfl) rfl (fun w7 m1 h2' => ?_)
    replace h2 := h2'
    replace E := E.step m1 (fun g hg => by cases hg; omega); replace h1 := h1.mod m1 (fun g hg => by cases hg; omega); replace hw1 := hw1.mod m1 (fun g hg => by cases hg; omega); replace hw2 := hw2.mod m1 (fun g hg => by cases hg; omega); replace hw3 := hw3.mod m1 (fun g hg => by cases hg; omega); replace hw4 := hw4.mod m1 (fun g hg => by cases hg; omega); replace hw5 := hw5.mod m1 (fun g hg => by cases hg; omega); replace hw6 := hw6.mod m1 (fun g hg => by cases hg; omega); replace hw7 := hw7.mod m1 (fun g hg => by cases hg; omega); replace hw8 := hw8.mod m1 (fun g hg => by cases hg; omega); replace ho2 := ho2.mod m1 (fun g hg => by cases hg; omega); replace hw9 := hw9.mod m1 (fun g hg => by cases hg; omega); replace hw10 := hw10.mod m1 (fun g hg => by cases hg; omega); replace hw11 := hw11.mod m1 (fun g hg => by cases hg; omega); replace hw12 := hw12.mod m1 (fun g hg => by cases hg; omega); replace hw13 := hw13.mod m1 (fun g hg => by cases hg; omega); replace hw14 := hw14.mod m1 (fun g hg => by cases hg; omega); replace hw15 := hw15.mod m1 (fun g hg => by cases hg; omega); replace hw16 := hw16.mod m1 (fun g hg => by cases hg; omega)
    have z7 := m1.size
    refine J_done ?_
    refine S_seq ?_
    refine S_reg [true, false, true] rfl rfl ?_
    refine J_st (R_loadS st36 rfl h2.at rfl) rfl ?_
    refine J_call Try.call7 rfl (c_CountsAt [o17, o18, o19, o20, o21, o22, o23, o24] x _ (Worker.mkR x (RdD.any (Own.rdD hw9)) (RdD.any (Own.rdD hw10)) (RdD.any (Own.rdD hw11)) (RdD.any (Own.rdD hw12)) (RdD.any (Own.rdD hw13)) (RdD.any (Own.rdD hw14)) (RdD.any (Own.rdD hw15)) (RdD.any (Own.rdD hw16))) (by first | omega | (simp only [mkL_length]; omega) | (rw [mkL_length]; done) | (simp only [mkL_length]; done))) rfl (fun v2 w8 e7 ho4 => ?_)
    have g_ho4 : w.heap.size ≤ w7.heap.size := E.size
    replace E := E.trans e7; replace h1 := h1.ext e7; replace hw1 := hw1.ext e7; replace hw2 := hw2.ext e7; replace hw3 := hw3.ext e7; replace hw4 := hw4.ext e7; replace hw5 := hw5.ext e7; replace hw6 := hw6.ext e7; replace hw7 := hw7.ext e7; replace hw8 := hw8.ext e7; replace ho2 := ho2.ext e7; replace hw9 := hw9.ext e7; replace hw10 := hw10.ext e7; replace hw11 := hw11.ext e7; replace hw12 := hw12.ext e7; replace hw13 := hw13.ext e7; replace hw14 := hw14.ext e7; replace hw15 := hw15.ext e7; replace hw16 := hw16.ext e7; replace h2 := h2.ext e7
    have z8 := e7.size
    refine J_st (R_assign rfl) rfl (J_done ?_)
    refine S_seq ?_
    refine S_seq ?_
    refine S_reg [true, true, false, true] rfl rfl ?_
    refine J_st (R_move rfl) rfl (J_st (R_move rfl) rfl ?_)
    refine J_call Try.call8 rfl (c_eqCountS v2 (runTo (sortR (recsOf x))) v1 (cntTo (recsOf x)) _ (Own.rd (by decide) ho4) (Own.rd (by decide) ho2)) rfl (fun _ w9 e8 hv => ?_)
    subst hv
    replace E := E.trans e8; replace h1 := h1.ext e8; replace hw1 := hw1.ext e8; replace hw2 := hw2.ext e8; replace hw3 := hw3.ext e8; replace hw4 := hw4.ext e8; replace hw5 := hw5.ext e8; replace hw6 := hw6.ext e8; replace hw7 := hw7.ext e8; replace hw8 := hw8.ext e8; replace ho2 := ho2.ext e8; replace hw9 := hw9.ext e8; replace hw10 := hw10.ext e8; replace hw11 := hw11.ext e8; replace hw12 := hw12.ext e8; replace hw13 := hw13.ext e8; replace hw14 := hw14.ext e8; replace hw15 := hw15.ext e8; replace hw16 := hw16.ext e8; replace h2 := h2.ext e8; replace ho4 := ho4.ext e8
    have z9 := e8.size
    refine J_st (R_not rfl) rfl (J_done ?_)
    refine S_condFe rfl (by rw [counts_same hcu]; simp) ?_
    refine S_skip ?_
    refine S_seq ?_
    refine S_seq ?_
    refine S_regD mixed [(0, true), (1, true), (2, false), (3, false), (4, true)] (by decide +kernel) rfl (fun w10 e9 => ?_)
    replace E := E.trans e9; replace h1 := h1.ext e9; replace hw1 := hw1.ext e9; replace hw2 := hw2.ext e9; replace hw3 := hw3.ext e9; replace hw4 := hw4.ext e9; replace hw5 := hw5.ext e9; replace hw6 := hw6.ext e9; replace hw7 := hw7.ext e9; replace hw8 := hw8.ext e9; replace ho2 := ho2.ext e9; replace hw9 := hw9.ext e9; replace hw10 := hw10.ext e9; replace hw11 := hw11.ext e9; replace hw12 := hw12.ext e9; replace hw13 := hw13.ext e9; replace hw14 := hw14.ext e9; replace hw15 := hw15.ext e9; replace hw16 := hw16.ext e9; replace h2 := h2.ext e9; replace ho4 := ho4.ext e9
    have z10 := e9.size
    refine J_st (R_loadS st36 rfl h2.at rfl) rfl (J_st (R_loadS st28 rfl h1.at rfl) rfl ?_)
    refine J_call Try.call6 rfl (c_toWorker [o1, o2, o3, o4, o5, o6, o7, o8] x _ (Worker.mkR x (RdD.any (hd1.ext E)) (RdD.any (hd2.ext E)) (RdD.any (hd3.ext E)) (RdD.any (hd4.ext E)) (RdD.any (hd5.ext E)) (RdD.any (hd6.ext E)) (RdD.any (hd7.ext E)) (RdD.any (hd8.ext E))) (by first | omega | (simp only [mkL_length]; omega) | (rw [mkL_length]; done) | (simp only [mkL_length]; done))) rfl (fun _ w11 e10 ho5 => ?_)
    obtain ⟨_, rfl, ho5⟩ := ho5
    have g_ho5 : w.heap.size ≤ w10.heap.size := E.size
    replace E := E.trans e10; replace h1 := h1.ext e10; replace hw1 := hw1.ext e10; replace hw2 := hw2.ext e10; replace hw3 := hw3.ext e10; replace hw4 := hw4.ext e10; replace hw5 := hw5.ext e10; replace hw6 := hw6.ext e10; replace hw7 := hw7.ext e10; replace hw8 := hw8.ext e10; replace ho2 := ho2.ext e10; replace hw9 := hw9.ext e10; replace hw10 := hw10.ext e10; replace hw11 := hw11.ext e10; replace hw12 := hw12.ext e10; replace hw13 := hw13.ext e10; replace hw14 := hw14.ext e10; replace hw15 := hw15.ext e10; replace hw16 := hw16.ext e10; replace h2 := h2.ext e10; replace ho4 := ho4.ext e10
    have z11 := e10.size
    obtain ⟨o25, o26, o27, o28, o29, o30, o31, o32, rfl, sp3, hw17, hw18, hw19, hw20, hw21, hw22, hw23, hw24⟩ := Worker.opO ho5
    refine J_call Try.call9 rfl (c_eqWorker [o17, o18, o19, o20, o21, o22, o23, o24] x [o25, o26, o27, o28, o29, o30, o31, o32] x _ (Worker.mkR x (RdD.any (Own.rdD hw9)) (RdD.any (Own.rdD hw10)) (RdD.any (Own.rdD hw11)) (RdD.any (Own.rdD hw12)) (RdD.any (Own.rdD hw13)) (RdD.any (Own.rdD hw14)) (RdD.any (Own.rdD hw15)) (RdD.any (Own.rdD hw16))) (Worker.mkR x (RdD.any (Own.rdD hw17)) (RdD.any (Own.rdD hw18)) (RdD.any (Own.rdD hw19)) (RdD.any (Own.rdD hw20)) (RdD.any (Own.rdD hw21)) (RdD.any (Own.rdD hw22)) (RdD.any (Own.rdD hw23)) (RdD.any (Own.rdD hw24)))) rfl (fun _ w12 e11 hv => ?_)
    subst hv
    replace E := E.trans e11; replace h1 := h1.ext e11; replace hw1 := hw1.ext e11; replace hw2 := hw2.ext e11; replace hw3 := hw3.ext e11; replace hw4 := hw4.ext e11; replace hw5 := hw5.ext e11; replace hw6 := hw6.ext e11; replace hw7 := hw7.ext e11; replace hw8 := hw8.ext e11; replace ho2 := ho2.ext e11; replace hw9 := hw9.ext e11; replace hw10 := hw10.ext e11; replace hw11 := hw11.ext e11; replace hw12 := hw12.ext e11; replace hw13 := hw13.ext e11; replace hw14 := hw14.ext e11; replace hw15 := hw15.ext e11; replace hw16 := hw16.ext e11; replace h2 := h2.ext e11; replace ho4 := ho4.ext e11; replace hw17 := hw17.ext e11; replace hw18 := hw18.ext e11; replace hw19 := hw19.ext e11; replace hw20 := hw20.ext e11; replace hw21 := hw21.ext e11; replace hw22 := hw22.ext e11; replace hw23 := hw23.ext e11; replace hw24 := hw24.ext e11
    have z12 := e11.size
    refine J_st (R_not rfl) rfl (J_done ?_)
    refine S_condFe rfl (by first | (simp; done) | (simp only [nat_nlt] <;> simp) | (simp only [mkL_length, nat_nlt] <;> simp) | (simp only [mkL_length] <;> simp)) ?_
    refine S_skip ?_
    refine S_seq ?_
    refine S_reg [true] rfl rfl ?_
    refine J_st (R_assign rfl) rfl (J_done ?_)
    refine S_seq ?_
    refine S_reg [true, true, false, true] rfl rfl ?_
    refine J_st (R_loadS st36 rfl h2.at rfl) rfl (J_st (R_move rfl) rfl ?_)
    refine J_callR Try.call10 rfl rfl (markWorker [o17, o18, o19, o20, o21, o22, o23, o24] w4.heap.size w5.heap.size x 1 _ (Worker.mkO x sp2 (Own.widen hw9 (by omega) (by omega)) (Own.widen hw10 (by omega) (by omega)) (Own.widen hw11 (by omega) (by omega)) (Own.widen hw12 (by omega) (by omega)) (Own.widen hw13 (by omega) (by omega)) (Own.widen hw14 (by omega) (by omega)) (Own.widen hw15 (by omega) (by omega)) (Own.widen hw16 (by omega) (by omega))) (by omega) (by first | omega | (simp only [mkL_length]; omega) | (rw [mkL_length]; done) | (simp only [mkL_length]; done))) rfl (fun _ w13 e12 hv => ?_)
    obtain ⟨rfl, hq1⟩ := hv
    replace E := E.stepR e12 (by omega); replace h1 := h1.modR e12 (by omega); replace hw1 := hw1.modR e12 (by omega); replace hw2 := hw2.modR e12 (by omega); replace hw3 := hw3.modR e12 (by omega); replace hw4 := hw4.modR e12 (by omega); replace hw5 := hw5.modR e12 (by omega); replace hw6 := hw6.modR e12 (by omega); replace hw7 := hw7.modR e12 (by omega); replace hw8 := hw8.modR e12 (by omega); replace ho2 := ho2.modR e12 (by omega); replace h2 := h2.modR e12 (by omega); replace ho4 := ho4.modR e12 (by omega); replace hw17 := hw17.modR e12 (by omega); replace hw18 := hw18.modR e12 (by omega); replace hw19 := hw19.modR e12 (by omega); replace hw20 := hw20.modR e12 (by omega); replace hw21 := hw21.modR e12 (by omega); replace hw22 := hw22.modR e12 (by omega); replace hw23 := hw23.modR e12 (by omega); replace hw24 := hw24.modR e12 (by omega)
    have z13 := e12.size
    obtain ⟨sp4, hw9, hw10, hw11, hw12, hw13, hw14, hw15, hw16⟩ := Worker.opL hq1
    refine J_st (R_assign rfl) rfl (J_done ?_)
    refine S_seq ?_
    refine S_seq ?_
    refine S_reg [true, true, true, true, true, false, true, true] rfl rfl ?_
    refine J_st (R_move rfl) rfl (J_st (R_lss rfl rfl) rfl (J_st (R_move rfl) rfl ?_))
    refine J_cut 5 [(0, .agg [o1, o2, o3, o4, o5, o6, o7, o8].toArray), (1, .pointer (some ⟨b1, 0, none⟩)), (2, .bool false), (3, .int .i64 (szM (cntWorker x) 1048576)), (4, v1), (5, .pointer (some ⟨b2, 0, none⟩)), (6, v2), (7, .int .i64 ((numW 1 x : Nat) : Int)), (11, .agg [o1, o2, o3, o4, o5, o6, o7, o8].toArray), (12, .int .i64 1048576), (13, .int .i64 (szM (cntWorker x) 1048576)), (14, .int .i64 (szM (cntWorker x) 1048576)), (15, .bool (decide ((szM (cntWorker x) 1048576) < 0))), (16, .agg [o1, o2, o3, o4, o5, o6, o7, o8].toArray), (17, .agg [o9, o10, o11, o12, o13, o14, o15, o16].toArray), (18, v1), (19, .agg [o1, o2, o3, o4, o5, o6, o7, o8].toArray), (20, .agg [o17, o18, o19, o20, o21, o22, o23, o24].toArray), (21, .agg [o17, o18, o19, o20, o21, o22, o23, o24].toArray), (22, v2), (23, v2), (24, v1), (25, .bool (decide ((runTo (sortR (recsOf x))) = (cntTo (recsOf x))))), (26, .bool (!(decide ((runTo (sortR (recsOf x))) = (cntTo (recsOf x)))))), (27, .agg [o17, o18, o19, o20, o21, o22, o23, o24].toArray), (28, .agg [o1, o2, o3, o4, o5, o6, o7, o8].toArray), (29, .agg [o25, o26, o27, o28, o29, o30, o31, o32].toArray), (30, .bool (decide (x = x))), (31, .bool (!(decide (x = x)))), (32, .agg [o17, o18, o19, o20, o21, o22, o23, o24].toArray), (33, .int .i64 1), (34, .int .i64 ((numW 1 x : Nat) : Int)), (42, .bool ((decide (((numW 1 x : Nat) : Int) < 0)) || (!(decide ((runTo (sortR (recsOf x))) = (cntTo (recsOf x)))))))] (fun w' => Ext w w' ∧ w13.heap.size ≤ w'.heap.size ∧ Blk w' b1 ([o1, o2, o3, o4, o5, o6, o7, o8]) ∧ Own w' w2.heap.size w3.heap.size 5 o9 (List.flatMap (Enc.enc (α := Record)) x.queue) ∧ Own w' w2.heap.size w3.heap.size 5 o10 (List.flatMap (Enc.enc (α := Record)) x.staged) ∧ Own w' w2.heap.size w3.heap.size 5 o11 (List.flatMap (Enc.enc (α := Record)) x.inputs) ∧ Own w' w2.heap.size w3.heap.size 4 o12 (List.flatMap (Enc.enc (α := Cell)) x.cells) ∧ Own w' w2.heap.size w3.heap.size 1 o13 (List.flatMap (Enc.enc (α := Int)) x.sums) ∧ Own w' w2.heap.size w3.heap.size 1 o14 (List.flatMap (Enc.enc (α := Bool)) x.black) ∧ Own w' w2.heap.size w3.heap.size 1 o15 (List.flatMap (Enc.enc (α := Bool)) x.caps) ∧ Own w' w2.heap.size w3.heap.size 2 o16 (List.flatMap (Enc.enc (α := Done)) x.dones) ∧ Own w' w3.heap.size w4.heap.size 3 v1 (List.flatMap (Enc.enc (α := Count)) (cntTo (recsOf x))) ∧ Blk w' b2 [o17, o18, o19, o20, o21, o22, o23, o24] ∧ Own w' w7.heap.size w8.heap.size 3 v2 (List.flatMap (Enc.enc (α := Count)) (runTo (sortR (recsOf x)))) ∧ Own w' w10.heap.size w11.heap.size 5 o25 (List.flatMap (Enc.enc (α := Record)) x.queue) ∧ Own w' w10.heap.size w11.heap.size 5 o26 (List.flatMap (Enc.enc (α := Record)) x.staged) ∧ Own w' w10.heap.size w11.heap.size 5 o27 (List.flatMap (Enc.enc (α := Record)) x.inputs) ∧ Own w' w10.heap.size w11.heap.size 4 o28 (List.flatMap (Enc.enc (α := Cell)) x.cells) ∧ Own w' w10.heap.size w11.heap.size 1 o29 (List.flatMap (Enc.enc (α := Int)) x.sums) ∧ Own w' w10.heap.size w11.heap.size 1 o30 (List.flatMap (Enc.enc (α := Bool)) x.black) ∧ Own w' w10.heap.size w11.heap.size 1 o31 (List.flatMap (Enc.enc (α := Bool)) x.caps) ∧ Own w' w10.heap.size w11.heap.size 2 o32 (List.flatMap (Enc.enc (α := Done)) x.dones) ∧ Own w' w4.heap.size w5.heap.size 5 o17 (List.flatMap (Enc.enc (α := Record)) ((markW 1 x).queue)) ∧ Own w' w4.heap.size w5.heap.size 5 o18 (List.flatMap (Enc.enc (α := Record)) ((markW 1 x).staged)) ∧ Own w' w4.heap.size w5.heap.size 5 o19 (List.flatMap (Enc.enc (α := Record)) ((markW 1 x).inputs)) ∧ Own w' w4.heap.size w5.heap.size 4 o20 (List.flatMap (Enc.enc (α := Cell)) ((markW 1 x).cells)) ∧ Own w' w4.heap.size w5.heap.size 1 o21 (List.flatMap (Enc.enc (α := Int)) ((markW 1 x).sums)) ∧ Own w' w4.heap.size w5.heap.size 1 o22 (List.flatMap (Enc.enc (α := Bool)) ((markW 1 x).black)) ∧ Own w' w4.heap.size w5.heap.size 1 o23 (List.flatMap (Enc.enc (α := Bool)) ((markW 1 x).caps)) ∧ Own w' w4.heap.size w5.heap.size 2 o24 (List.flatMap (Enc.enc (α := Done)) ((markW 1 x).dones))) ?_ ?_
    · refine J_if (gd := 37) rfl rfl (fun hg1 => ?_) (fun hg1 => ?_)
      · exact absurd hg1 (by first | (simp; done) | (simp only [nat_nlt] <;> simp) | (simp only [mkL_length, nat_nlt] <;> simp) | (simp only [mkL_length] <;> simp))
      · have hg1n : ¬ numW 1 x < 0 := by first | (have h := of_decide_eq_false hg1; omega) | (have h := hg1; simp at h; omega)
        refine J_gd rfl rfl (R_move rfl) rfl (J_gd rfl rfl (R_move rfl) rfl ?_)
        refine J_ung rfl rfl ?_
        refine J_call Try.call8 rfl (c_eqCountS v2 (runTo (sortR (recsOf x))) v1 (cntTo (recsOf x)) _ (Own.rd (by decide) ho4) (Own.rd (by decide) ho2)) rfl (fun _ w15 e13 hv => ?_)
        subst hv
        replace E := E.trans e13; replace h1 := h1.ext e13; replace hw1 := hw1.ext e13; replace hw2 := hw2.ext e13; replace hw3 := hw3.ext e13; replace hw4 := hw4.ext e13; replace hw5 := hw5.ext e13; replace hw6 := hw6.ext e13; replace hw7 := hw7.ext e13; replace hw8 := hw8.ext e13; replace ho2 := ho2.ext e13; replace h2 := h2.ext e13; replace ho4 := ho4.ext e13; replace hw17 := hw17.ext e13; replace hw18 := hw18.ext e13; replace hw19 := hw19.ext e13; replace hw20 := hw20.ext e13; replace hw21 := hw21.ext e13; replace hw22 := hw22.ext e13; replace hw23 := hw23.ext e13; replace hw24 := hw24.ext e13; replace hw9 := hw9.ext e13; replace hw10 := hw10.ext e13; replace hw11 := hw11.ext e13; replace hw12 := hw12.ext e13; replace hw13 := hw13.ext e13; replace hw14 := hw14.ext e13; replace hw15 := hw15.ext e13; replace hw16 := hw16.ext e13
        have z14 := e13.size
        refine J_gd rfl rfl (R_not rfl) rfl (J_st (R_pickF rfl rfl) rfl (J_cutEnd ⟨rfl, rfl, rfl, rfl, rfl, rfl, rfl, rfl, rfl, rfl, rfl, rfl, rfl, rfl, rfl, rfl, rfl, rfl, rfl, rfl, rfl, rfl, rfl, rfl, rfl, rfl, rfl, rfl, rfl, rfl, rfl, rfl, congrArg (fun b => some (Value.bool b)) (show (!(decide ((runTo (sortR (recsOf x))) = (cntTo (recsOf x))))) = ((decide (((numW 1 x : Nat) : Int) < 0)) || (!(decide ((runTo (sortR (recsOf x))) = (cntTo (recsOf x)))))) by first | (rw [hg1] <;> rfl) | (simp [hg1]; done) | (simp only [nat_nlt] <;> simp)), trivial⟩ ⟨E, (by omega), h1, hw1, hw2, hw3, hw4, hw5, hw6, hw7, hw8, ho2, h2, ho4, hw17, hw18, hw19, hw20, hw21, hw22, hw23, hw24, hw9, hw10, hw11, hw12, hw13, hw14, hw15, hw16⟩))
    clear E h1 hw1 hw2 hw3 hw4 hw5 hw6 hw7 hw8 ho2 h2 ho4 hw17 hw18 hw19 hw20 hw21 hw22 hw23 hw24 hw9 hw10 hw11 hw12 hw13 hw14 hw15 hw16
    rintro w14 ⟨E, z15, h1, hw1, hw2, hw3, hw4, hw5, hw6, hw7, hw8, ho2, h2, ho4, hw17, hw18, hw19, hw20, hw21, hw22, hw23, hw24, hw9, hw10, hw11, hw12, hw13, hw14, hw15, hw16⟩
    refine J_done ?_
    refine S_condFe rfl (by rw [counts_same hcu, nat_nlt]; simp) ?_
    refine S_skip ?_
    refine S_seq ?_
    refine S_reg [true] rfl rfl ?_
    refine J_st (R_assign rfl) rfl (J_done ?_)
    refine S_seq ?_
    refine S_reg [true, true, false, true] rfl rfl ?_
    refine J_st (R_move rfl) rfl (J_st (R_move rfl) rfl ?_)
    refine J_callR Try.call11 rfl rfl (markCountS v2 w7.heap.size w8.heap.size (runTo (sortR (recsOf x))) 1 _ ho4 (by first | omega | (simp only [mkL_length]; omega) | (rw [mkL_length]; done) | (simp only [mkL_length]; done))) rfl (fun _ w16 e14 hv => ?_)
    obtain ⟨rfl, ho4'⟩ := hv
    replace ho4 := ho4'
    replace E := E.stepR e14 (by omega); replace h1 := h1.modR e14 (by omega); replace hw1 := hw1.modR e14 (by omega); replace hw2 := hw2.modR e14 (by omega); replace hw3 := hw3.modR e14 (by omega); replace hw4 := hw4.modR e14 (by omega); replace hw5 := hw5.modR e14 (by omega); replace hw6 := hw6.modR e14 (by omega); replace hw7 := hw7.modR e14 (by omega); replace hw8 := hw8.modR e14 (by omega); replace ho2 := ho2.modR e14 (by omega); replace h2 := h2.modR e14 (by omega); replace hw17 := hw17.modR e14 (by omega); replace hw18 := hw18.modR e14 (by omega); replace hw19 := hw19.modR e14 (by omega); replace hw20 := hw20.modR e14 (by omega); replace hw21 := hw21.modR e14 (by omega); replace hw22 := hw22.modR e14 (by omega); replace hw23 := hw23.modR e14 (by omega); replace hw24 := hw24.modR e14 (by omega); replace hw9 := hw9.modR e14 (by omega); replace hw10 := hw10.modR e14 (by omega); replace hw11 := hw11.modR e14 (by omega); replace hw12 := hw12.modR e14 (by omega); replace hw13 := hw13.modR e14 (by omega); replace hw14 := hw14.modR e14 (by omega); replace hw15 := hw15.modR e14 (by omega); replace hw16 := hw16.modR e14 (by omega)
    have z16 := e14.size
    refine J_st (R_assign rfl) rfl (J_done ?_)
    refine S_seq ?_
    refine S_reg [true] rfl rfl ?_
    refine J_st (R_assign rfl) rfl (J_done ?_)
    refine S_seq ?_
    refine S_reg [true, true, false, true] rfl rfl ?_
    refine J_st (R_move rfl) rfl (J_st (R_move rfl) rfl ?_)
    refine J_call Try.call12 rfl (heldCountS v2 (mkL 3 mkCount 1 (runTo (sortR (recsOf x))).length) 1 _ (Own.rd (by decide) ho4) (by first | omega | (simp only [mkL_length]; omega) | (rw [mkL_length]; done) | (simp only [mkL_length]; done)) (by first | omega | (simp only [mkL_length]; omega) | (rw [mkL_length]; done) | (simp only [mkL_length]; done))) rfl (fun _ w17 e15 hv => ?_)
    subst hv
    replace E := E.trans e15; replace h1 := h1.ext e15; replace hw1 := hw1.ext e15; replace hw2 := hw2.ext e15; replace hw3 := hw3.ext e15; replace hw4 := hw4.ext e15; replace hw5 := hw5.ext e15; replace hw6 := hw6.ext e15; replace hw7 := hw7.ext e15; replace hw8 := hw8.ext e15; replace ho2 := ho2.ext e15; replace h2 := h2.ext e15; replace ho4 := ho4.ext e15; replace hw17 := hw17.ext e15; replace hw18 := hw18.ext e15; replace hw19 := hw19.ext e15; replace hw20 := hw20.ext e15; replace hw21 := hw21.ext e15; replace hw22 := hw22.ext e15; replace hw23 := hw23.ext e15; replace hw24 := hw24.ext e15; replace hw9 := hw9.ext e15; replace hw10 := hw10.ext e15; replace hw11 := hw11.ext e15; replace hw12 := hw12.ext e15; replace hw13 := hw13.ext e15; replace hw14 := hw14.ext e15; replace hw15 := hw15.ext e15; replace hw16 := hw16.ext e15
    have z17 := e15.size
    refine J_st (R_assign rfl) rfl (J_done ?_)
    refine S_seq ?_
    refine S_seq ?_
    refine S_reg [true, true] rfl rfl ?_
    refine J_st (R_move rfl) rfl (J_st (R_lss rfl rfl) rfl (J_done ?_))
    refine S_condFe rfl (by first | (simp; done) | (simp only [nat_nlt] <;> simp) | (simp only [mkL_length, nat_nlt] <;> simp) | (simp only [mkL_length] <;> simp)) ?_
    refine S_skip ?_
    refine S_seq ?_
    refine S_seq ?_
    refine S_reg [true, true, true] rfl rfl ?_
    refine J_st (R_move rfl) rfl (J_st (R_move rfl) rfl (J_st (R_neq rfl rfl) rfl (J_done ?_)))
    refine S_condFe rfl (by first | (simp; done) | (simp only [nat_nlt] <;> simp) | (simp only [mkL_length, nat_nlt] <;> simp) | (simp only [mkL_length] <;> simp)) ?_
    refine S_skip ?_
    refine S_seq ?_
    refine S_reg [true, false, false, true] rfl rfl ?_
    refine J_st (R_loadS st28 rfl h1.at rfl) rfl ?_
    refine J_call Try.call6 rfl (c_toWorker [o1, o2, o3, o4, o5, o6, o7, o8] x _ (Worker.mkR x (RdD.any (hd1.ext E)) (RdD.any (hd2.ext E)) (RdD.any (hd3.ext E)) (RdD.any (hd4.ext E)) (RdD.any (hd5.ext E)) (RdD.any (hd6.ext E)) (RdD.any (hd7.ext E)) (RdD.any (hd8.ext E))) (by first | omega | (simp only [mkL_length]; omega) | (rw [mkL_length]; done) | (simp only [mkL_length]; done))) rfl (fun _ w18 e16 ho6 => ?_)
    obtain ⟨_, rfl, ho6⟩ := ho6
    have g_ho6 : w.heap.size ≤ w17.heap.size := E.size
    replace E := E.trans e16; replace h1 := h1.ext e16; replace hw1 := hw1.ext e16; replace hw2 := hw2.ext e16; replace hw3 := hw3.ext e16; replace hw4 := hw4.ext e16; replace hw5 := hw5.ext e16; replace hw6 := hw6.ext e16; replace hw7 := hw7.ext e16; replace hw8 := hw8.ext e16; replace ho2 := ho2.ext e16; replace h2 := h2.ext e16; replace ho4 := ho4.ext e16; replace hw17 := hw17.ext e16; replace hw18 := hw18.ext e16; replace hw19 := hw19.ext e16; replace hw20 := hw20.ext e16; replace hw21 := hw21.ext e16; replace hw22 := hw22.ext e16; replace hw23 := hw23.ext e16; replace hw24 := hw24.ext e16; replace hw9 := hw9.ext e16; replace hw10 := hw10.ext e16; replace hw11 := hw11.ext e16; replace hw12 := hw12.ext e16; replace hw13 := hw13.ext e16; replace hw14 := hw14.ext e16; replace hw15 := hw15.ext e16; replace hw16 := hw16.ext e16
    have z18 := e16.size
    obtain ⟨o33, o34, o35, o36, o37, o38, o39, o40, rfl, sp5, hw25, hw26, hw27, hw28, hw29, hw30, hw31, hw32⟩ := Worker.opO ho6
    refine J_call Try.call7 rfl (c_CountsAt [o33, o34, o35, o36, o37, o38, o39, o40] x _ (Worker.mkR x (RdD.any (Own.rdD hw25)) (RdD.any (Own.rdD hw26)) (RdD.any (Own.rdD hw27)) (RdD.any (Own.rdD hw28)) (RdD.any (Own.rdD hw29)) (RdD.any (Own.rdD hw30)) (RdD.any (Own.rdD hw31)) (RdD.any (Own.rdD hw32))) (by first | omega | (simp only [mkL_length]; omega) | (rw [mkL_length]; done) | (simp only [mkL_length]; done))) rfl (fun v3 w19 e17 ho7 => ?_)
    have g_ho7 : w.heap.size ≤ w18.heap.size := E.size
    replace E := E.trans e17; replace h1 := h1.ext e17; replace hw1 := hw1.ext e17; replace hw2 := hw2.ext e17; replace hw3 := hw3.ext e17; replace hw4 := hw4.ext e17; replace hw5 := hw5.ext e17; replace hw6 := hw6.ext e17; replace hw7 := hw7.ext e17; replace hw8 := hw8.ext e17; replace ho2 := ho2.ext e17; replace h2 := h2.ext e17; replace ho4 := ho4.ext e17; replace hw17 := hw17.ext e17; replace hw18 := hw18.ext e17; replace hw19 := hw19.ext e17; replace hw20 := hw20.ext e17; replace hw21 := hw21.ext e17; replace hw22 := hw22.ext e17; replace hw23 := hw23.ext e17; replace hw24 := hw24.ext e17; replace hw9 := hw9.ext e17; replace hw10 := hw10.ext e17; replace hw11 := hw11.ext e17; replace hw12 := hw12.ext e17; replace hw13 := hw13.ext e17; replace hw14 := hw14.ext e17; replace hw15 := hw15.ext e17; replace hw16 := hw16.ext e17; replace hw25 := hw25.ext e17; replace hw26 := hw26.ext e17; replace hw27 := hw27.ext e17; replace hw28 := hw28.ext e17; replace hw29 := hw29.ext e17; replace hw30 := hw30.ext e17; replace hw31 := hw31.ext e17; replace hw32 := hw32.ext e17
    have z19 := e17.size
    refine J_st (R_assign rfl) rfl (J_done ?_)
    refine S_seq ?_
    refine S_seq ?_
    refine S_reg [true, true, false, true] rfl rfl ?_
    refine J_st (R_move rfl) rfl (J_st (R_move rfl) rfl ?_)
    refine J_call Try.call8 rfl (c_eqCountS v3 (runTo (sortR (recsOf x))) v1 (cntTo (recsOf x)) _ (Own.rd (by decide) ho7) (Own.rd (by decide) ho2)) rfl (fun _ w20 e18 hv => ?_)
    subst hv
    replace E := E.trans e18; replace h1 := h1.ext e18; replace hw1 := hw1.ext e18; replace hw2 := hw2.ext e18; replace hw3 := hw3.ext e18; replace hw4 := hw4.ext e18; replace hw5 := hw5.ext e18; replace hw6 := hw6.ext e18; replace hw7 := hw7.ext e18; replace hw8 := hw8.ext e18; replace ho2 := ho2.ext e18; replace h2 := h2.ext e18; replace ho4 := ho4.ext e18; replace hw17 := hw17.ext e18; replace hw18 := hw18.ext e18; replace hw19 := hw19.ext e18; replace hw20 := hw20.ext e18; replace hw21 := hw21.ext e18; replace hw22 := hw22.ext e18; replace hw23 := hw23.ext e18; replace hw24 := hw24.ext e18; replace hw9 := hw9.ext e18; replace hw10 := hw10.ext e18; replace hw11 := hw11.ext e18; replace hw12 := hw12.ext e18; replace hw13 := hw13.ext e18; replace hw14 := hw14.ext e18; replace hw15 := hw15.ext e18; replace hw16 := hw16.ext e18; replace hw25 := hw25.ext e18; replace hw26 := hw26.ext e18; replace hw27 := hw27.ext e18; replace hw28 := hw28.ext e18; replace hw29 := hw29.ext e18; replace hw30 := hw30.ext e18; replace hw31 := hw31.ext e18; replace hw32 := hw32.ext e18; replace ho7 := ho7.ext e18
    have z20 := e18.size
    refine J_st (R_not rfl) rfl (J_done ?_)
    refine S_condFe rfl (by rw [counts_same hcu]; simp) ?_
    refine S_skip ?_
    refine S_seq ?_
    refine S_reg [true] rfl rfl ?_
    refine J_st (R_assign rfl) rfl (J_done ?_)
    refine S_seq ?_
    refine S_reg [true, true, false, true] rfl rfl ?_
    refine J_st (R_move rfl) rfl (J_st (R_move rfl) rfl ?_)
    refine J_call Try.call12 rfl (heldCountS v2 (mkL 3 mkCount 1 (runTo (sortR (recsOf x))).length) 1 _ (Own.rd (by decide) ho4) (by first | omega | (simp only [mkL_length]; omega) | (rw [mkL_length]; done) | (simp only [mkL_length]; done)) (by first | omega | (simp only [mkL_length]; omega) | (rw [mkL_length]; done) | (simp only [mkL_length]; done))) rfl (fun _ w21 e19 hv => ?_)
    subst hv
    replace E := E.trans e19; replace h1 := h1.ext e19; replace hw1 := hw1.ext e19; replace hw2 := hw2.ext e19; replace hw3 := hw3.ext e19; replace hw4 := hw4.ext e19; replace hw5 := hw5.ext e19; replace hw6 := hw6.ext e19; replace hw7 := hw7.ext e19; replace hw8 := hw8.ext e19; replace ho2 := ho2.ext e19; replace h2 := h2.ext e19; replace ho4 := ho4.ext e19; replace hw17 := hw17.ext e19; replace hw18 := hw18.ext e19; replace hw19 := hw19.ext e19; replace hw20 := hw20.ext e19; replace hw21 := hw21.ext e19; replace hw22 := hw22.ext e19; replace hw23 := hw23.ext e19; replace hw24 := hw24.ext e19; replace hw9 := hw9.ext e19; replace hw10 := hw10.ext e19; replace hw11 := hw11.ext e19; replace hw12 := hw12.ext e19; replace hw13 := hw13.ext e19; replace hw14 := hw14.ext e19; replace hw15 := hw15.ext e19; replace hw16 := hw16.ext e19; replace hw25 := hw25.ext e19; replace hw26 := hw26.ext e19; replace hw27 := hw27.ext e19; replace hw28 := hw28.ext e19; replace hw29 := hw29.ext e19; replace hw30 := hw30.ext e19; replace hw31 := hw31.ext e19; replace hw32 := hw32.ext e19; replace ho7 := ho7.ext e19
    have z21 := e19.size
    refine J_st (R_assign rfl) rfl (J_done ?_)
    refine S_seq ?_
    refine S_seq ?_
    refine S_reg [true, true] rfl rfl ?_
    refine J_st (R_move rfl) rfl (J_st (R_lss rfl rfl) rfl (J_done ?_))
    refine S_condFe rfl (by first | (simp; done) | (simp only [nat_nlt] <;> simp) | (simp only [mkL_length, nat_nlt] <;> simp) | (simp only [mkL_length] <;> simp)) ?_
    refine S_skip ?_
    refine S_seq ?_
    refine S_seq ?_
    refine S_reg [true, true, true] rfl rfl ?_
    refine J_st (R_move rfl) rfl (J_st (R_move rfl) rfl (J_st (R_neq rfl rfl) rfl (J_done ?_)))
    refine S_condFe rfl (by first | (simp; done) | (simp only [nat_nlt] <;> simp) | (simp only [mkL_length, nat_nlt] <;> simp) | (simp only [mkL_length] <;> simp)) ?_
    refine S_skip ?_
    refine S_seq ?_
    refine S_reg [true] rfl rfl ?_
    refine J_st (R_assign rfl) rfl (J_done ?_)
    refine S_ret (E_done1 rfl rfl E ?_)
    rfl

end Go.Proofs.Ytcpjlfikdobckaa
