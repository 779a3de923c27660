/- What the functions that the laws call come to: a contract each; no condition. -/
import Derived.Test.YtpkimhbibjpcpaaDoorFns
namespace Go.Proofs.YtpkimhbibjpcpaaDoor
open Go Go.Proofs.YtpkimhbibjpcpaaDoor.X Go.Proofs
set_option maxHeartbeats 4000000 in
set_option maxRecDepth 20000 in
theorem l_FnOperators (vcode : Value) (code : List Byt) (w : World) (hcode : RdS w vcode code) (kcode : ∀ y ∈ code, True) (htab : Lib.TabIs Tryd.prog w "internal/strconv.uint64pow10" .u64 Lib.pow10Tab) : Ct Tryd.prog 3 [vcode] w (fun v _ => v = .bool true) := by
  refine ct_of Tryd.func3 rfl Tryd.ntmps3 rfl ?_
  refine S_sub [(0, vcode)] ⟨rfl, trivial⟩ ?_
  have E : Ext w w := Ext.refl w
  refine S_seq ?_
  refine S_reg [true] rfl rfl ?_
  refine J_st (R_assign rfl) rfl (J_done ?_)
  refine S_seq ?_
  refine S_seq ?_
  refine S_reg [true, false] rfl rfl ?_
  refine J_st (R_move rfl) rfl ?_
  refine J_call Tryd.call4 rfl (l_big vcode code _ (hcode.ext E)) rfl (fun _ w1 e1 hv => ?_)
  subst hv
  replace E := E.trans e1
  have z1 := e1.size
  refine J_done ?_
  refine S_cond rfl (fun hc1 => ?_) (fun hc1 => ?_)
  · refine S_seq ?_
    refine S_reg [true] rfl rfl ?_
    refine J_st (R_assign rfl) rfl (J_done ?_)
    refine S_ret (E_done1 rfl rfl E ?_)
    rfl
  · refine S_skip ?_
    refine S_seq ?_
    refine S_reg [true, false, true, true, true, true, false, false, true, true] rfl rfl ?_
    refine J_st (R_move rfl) rfl ?_
    refine J_call Tryd.call5 rfl (s_DrawChanged vcode code _ (hcode.ext E)) rfl (fun _ w2 e2 ho1 => ?_)
    obtain ⟨dx1, dx2, dx3, q1, q2, ho1⟩ := ho1
    obtain ⟨_, rfl, ho2⟩ := ho1
    have g_ho1 : w.heap.size ≤ w1.heap.size := E.size
    replace E := E.trans e2
    have z2 := e2.size
    obtain ⟨o1, rfl, sp1, hw1⟩ := Node.opO ho2
    refine J_st (R_move rfl) rfl (J_st (R_extract rfl rfl) rfl (J_st (R_extract rfl rfl) rfl (J_st (R_extract rfl rfl) rfl ?_)))
    refine J_alloc st26 rfl (fun b1 w3 e3 s1 h1 => ?_)
    have g_b1 : w.heap.size ≤ b1 := by have := E.size; omega
    have y_b1 := h1.lt
    replace E := E.trans e3; replace hw1 := hw1.ext e3
    have z3 := e3.size
    refine J_storeS' (cs' := [.int .i64 dx1.kind, .int .i64 dx1.a, .int .i64 dx1.b, o1]) st26 rfl rfl rfl (all_cons rfl (all_cons rfl (all_cons rfl (all_cons hw1.one rfl)))) h1 (Nat.le_of_ble_eq_true rfl) rfl (fun w4 m1 h1' => ?_)
    replace h1 := h1'
    replace E := E.step m1 (fun g hg => by cases hg; omega); replace hw1 := hw1.mod m1 (fun g hg => by cases hg; omega)
    have z4 := m1.size
    refine J_st (R_assign rfl) rfl (J_st (R_assign rfl) rfl (J_done ?_))
    refine S_seq ?_
    refine S_reg [true, true, true, false, true, true, true, true, true, true, true] rfl rfl ?_
    refine J_st (R_loadS st26 rfl h1.at rfl) rfl (J_st (R_move rfl) rfl (J_st (R_move rfl) rfl ?_))
    refine J_call Tryd.call6 rfl (c_Changed [.int .i64 dx1.kind, .int .i64 dx1.a, .int .i64 dx1.b, o1] dx1 dx2 dx3 _ (Node.mkR dx1 (RdD.any (Own.rdD hw1)))) rfl (fun _ w5 e4 hv => ?_)
    subst hv
    replace E := E.trans e4; replace hw1 := hw1.ext e4; replace h1 := h1.ext e4
    have z5 := e4.size
    refine J_st (R_move rfl) rfl (J_st (R_extract rfl rfl) rfl (J_st (R_extract rfl rfl) rfl (J_st (R_extract rfl rfl) rfl (J_st (R_assign rfl) rfl (J_st (R_assign rfl) rfl (J_st (R_assign rfl) rfl (J_done ?_)))))))
    refine S_seq ?_
    refine S_reg [true, true, true, false, true, true, true, true, true, true, true] rfl rfl ?_
    refine J_st (R_loadS st26 rfl h1.at rfl) rfl (J_st (R_move rfl) rfl (J_st (R_move rfl) rfl ?_))
    refine J_call Tryd.call7 rfl (s_Changed [.int .i64 dx1.kind, .int .i64 dx1.a, .int .i64 dx1.b, o1] dx1 dx2 dx3 _ (Node.mkR dx1 (RdD.any (Own.rdD hw1)))) rfl (fun _ w6 e5 hv => ?_)
    subst hv
    replace E := E.trans e5; replace hw1 := hw1.ext e5; replace h1 := h1.ext e5
    have z6 := e5.size
    refine J_st (R_move rfl) rfl (J_st (R_extract rfl rfl) rfl (J_st (R_extract rfl rfl) rfl (J_st (R_extract rfl rfl) rfl (J_st (R_assign rfl) rfl (J_st (R_assign rfl) rfl (J_st (R_assign rfl) rfl (J_done ?_)))))))
    refine S_seq ?_
    refine S_seq ?_
    refine S_regD mixed [(0, true), (1, true), (2, true), (3, true), (4, true), (5, true), (6, true), (7, true), (8, true), (9, true), (10, true), (11, true), (12, true), (13, true), (14, true), (16, true), (15, false), (17, false), (18, true), (19, true), (20, true), (21, true), (23, true), (22, false), (24, false), (25, true), (26, true)] (by decide +kernel) rfl (fun w7 e6 => ?_)
    replace E := E.trans e6; replace hw1 := hw1.ext e6; replace h1 := h1.ext e6
    have z7 := e6.size
    refine J_st (R_move rfl) rfl (J_st (R_move rfl) rfl (J_st (R_neq rfl rfl) rfl (J_st (R_move rfl) rfl ?_)))
    refine J_cut 23 [(0, vcode), (2, .bool false), (3, .pointer (some ⟨b1, 0, none⟩)), (4, .int .i64 dx2), (5, .int .i64 dx3), (6, .int .i64 ((changedM dx1 dx2 dx3).1)), (7, .int .i64 ((changedM dx1 dx2 dx3).2.1)), (8, .bool ((changedM dx1 dx2 dx3).2.2)), (9, .int .i64 ((changedM dx1 dx2 dx3).1)), (10, .int .i64 ((changedM dx1 dx2 dx3).2.1)), (11, .bool ((changedM dx1 dx2 dx3).2.2)), (22, vcode), (23, .bool (decide (((code.length : Nat) : Int) > 1048576))), (24, .tuple [.agg [.int .i64 dx1.kind, .int .i64 dx1.a, .int .i64 dx1.b, o1].toArray, .int .i64 dx2, .int .i64 dx3].toArray), (25, vcode), (26, .tuple [.agg [.int .i64 dx1.kind, .int .i64 dx1.a, .int .i64 dx1.b, o1].toArray, .int .i64 dx2, .int .i64 dx3].toArray), (27, .agg [.int .i64 dx1.kind, .int .i64 dx1.a, .int .i64 dx1.b, o1].toArray), (28, .int .i64 dx2), (29, .int .i64 dx3), (30, .tuple [.int .i64 ((changedM dx1 dx2 dx3).1), .int .i64 ((changedM dx1 dx2 dx3).2.1), .bool ((changedM dx1 dx2 dx3).2.2)].toArray), (31, .agg [.int .i64 dx1.kind, .int .i64 dx1.a, .int .i64 dx1.b, o1].toArray), (32, .int .i64 dx2), (33, .int .i64 dx3), (34, .tuple [.int .i64 ((changedM dx1 dx2 dx3).1), .int .i64 ((changedM dx1 dx2 dx3).2.1), .bool ((changedM dx1 dx2 dx3).2.2)].toArray), (35, .int .i64 ((changedM dx1 dx2 dx3).1)), (36, .int .i64 ((changedM dx1 dx2 dx3).2.1)), (37, .bool ((changedM dx1 dx2 dx3).2.2)), (38, .tuple [.int .i64 ((changedM dx1 dx2 dx3).1), .int .i64 ((changedM dx1 dx2 dx3).2.1), .bool ((changedM dx1 dx2 dx3).2.2)].toArray), (39, .agg [.int .i64 dx1.kind, .int .i64 dx1.a, .int .i64 dx1.b, o1].toArray), (40, .int .i64 dx2), (41, .int .i64 dx3), (42, .tuple [.int .i64 ((changedM dx1 dx2 dx3).1), .int .i64 ((changedM dx1 dx2 dx3).2.1), .bool ((changedM dx1 dx2 dx3).2.2)].toArray), (43, .int .i64 ((changedM dx1 dx2 dx3).1)), (44, .int .i64 ((changedM dx1 dx2 dx3).2.1)), (45, .bool ((changedM dx1 dx2 dx3).2.2)), (72, .bool (((((((changedM dx1 dx2 dx3).1) != ((changedM dx1 dx2 dx3).1)) || (((changedM dx1 dx2 dx3).2.1) != ((changedM dx1 dx2 dx3).2.1))) || (!(((changedM dx1 dx2 dx3).2.2) == ((changedM dx1 dx2 dx3).2.2)))) || (!((nodeOk dx1) == (nodeOk dx1)))) || (!(decide (nodeText dx1 dx1.outs.length = nodeText dx1 dx1.outs.length)))))] (fun w' => Ext w w' ∧ w7.heap.size ≤ w'.heap.size ∧ Own w' w1.heap.size w2.heap.size 1 o1 (List.flatMap (Enc.enc (α := Int)) dx1.outs) ∧ Blk w' b1 [.int .i64 dx1.kind, .int .i64 dx1.a, .int .i64 dx1.b, o1]) ?_ ?_
    · refine J_if (gd := 49) rfl rfl (fun hg1 => ?_) (fun hg1 => ?_)
      · exact absurd hg1 (by first | (simp; done) | (simp only [nat_nlt] <;> simp) | (simp only [mkL_length, nat_nlt] <;> simp) | (simp only [mkL_length] <;> simp))
      · refine J_gd rfl rfl (R_move rfl) rfl (J_gd rfl rfl (R_move rfl) rfl (J_gd rfl rfl (R_neq rfl rfl) rfl (J_st (R_pickF rfl rfl) rfl (J_st (R_move rfl) rfl ?_))))
        refine J_if (gd := 54) rfl rfl (fun hg2 => ?_) (fun hg2 => ?_)
        · exact absurd hg2 (by first | (simp; done) | (simp only [nat_nlt] <;> simp) | (simp only [mkL_length, nat_nlt] <;> simp) | (simp only [mkL_length] <;> simp))
        · refine J_gd rfl rfl (R_move rfl) rfl (J_gd rfl rfl (R_move rfl) rfl (J_gd rfl rfl (R_neqB (Tryd.underlying4) rfl rfl) rfl (J_st (R_pickF rfl rfl) rfl (J_st (R_move rfl) rfl ?_))))
          refine J_if (gd := 59) rfl rfl (fun hg3 => ?_) (fun hg3 => ?_)
          · exact absurd hg3 (by first | (simp; done) | (simp only [nat_nlt] <;> simp) | (simp only [mkL_length, nat_nlt] <;> simp) | (simp only [mkL_length] <;> simp))
          · refine J_gd rfl rfl (R_loadS st26 rfl h1.at rfl) rfl (J_gd rfl rfl (R_loadS st26 rfl h1.at rfl) rfl ?_)
            refine J_ung rfl rfl ?_
            refine J_call Tryd.call8 rfl (c_NodeOk [.int .i64 dx1.kind, .int .i64 dx1.a, .int .i64 dx1.b, o1] dx1 _ (Node.mkR dx1 (RdD.any (Own.rdD hw1)))) rfl (fun _ w9 e7 hv => ?_)
            subst hv
            replace E := E.trans e7; replace hw1 := hw1.ext e7; replace h1 := h1.ext e7
            have z8 := e7.size
            refine J_ung rfl rfl ?_
            refine J_call Tryd.call9 rfl (s_NodeOk [.int .i64 dx1.kind, .int .i64 dx1.a, .int .i64 dx1.b, o1] dx1 _ (Node.mkR dx1 (RdD.any (Own.rdD hw1)))) rfl (fun _ w10 e8 hv => ?_)
            subst hv
            replace E := E.trans e8; replace hw1 := hw1.ext e8; replace h1 := h1.ext e8
            have z9 := e8.size
            refine J_gd rfl rfl (R_neqB (Tryd.underlying4) rfl rfl) rfl (J_st (R_pickF rfl rfl) rfl (J_st (R_move rfl) rfl ?_))
            refine J_if (gd := 66) rfl rfl (fun hg4 => ?_) (fun hg4 => ?_)
            · exact absurd hg4 (by first | (simp; done) | (simp only [nat_nlt] <;> simp) | (simp only [mkL_length, nat_nlt] <;> simp) | (simp only [mkL_length] <;> simp))
            · refine J_gd rfl rfl (R_loadS st26 rfl h1.at rfl) rfl (J_gd rfl rfl (R_loadS st26 rfl h1.at rfl) rfl ?_)
              refine J_ung rfl rfl ?_
              refine J_call Tryd.call10 rfl (c_NodeText [.int .i64 dx1.kind, .int .i64 dx1.a, .int .i64 dx1.b, o1] dx1 _ (Node.mkR dx1 (RdD.any (Own.rdD hw1))) (by omega) (by assumption) (tab_ext htab E)) rfl (fun _ w11 e9 hv => ?_)
              subst hv
              replace E := E.trans e9; replace hw1 := hw1.ext e9; replace h1 := h1.ext e9
              have z10 := e9.size
              refine J_ung rfl rfl ?_
              refine J_call Tryd.call11 rfl (s_NodeText [.int .i64 dx1.kind, .int .i64 dx1.a, .int .i64 dx1.b, o1] dx1 _ (Node.mkR dx1 (RdD.any (Own.rdD hw1))) (by omega) (by assumption)) rfl (fun _ w12 e10 hv => ?_)
              subst hv
              replace E := E.trans e10; replace hw1 := hw1.ext e10; replace h1 := h1.ext e10
              have z11 := e10.size
              refine J_gd rfl rfl (R_sneq rfl rfl) rfl (J_st (R_pickF rfl rfl) rfl (J_cutEnd ⟨rfl, rfl, rfl, rfl, rfl, rfl, rfl, rfl, rfl, rfl, rfl, rfl, rfl, rfl, rfl, rfl, rfl, rfl, rfl, rfl, rfl, rfl, rfl, rfl, rfl, rfl, rfl, rfl, rfl, rfl, rfl, rfl, rfl, rfl, rfl, congrArg (fun b => some (Value.bool b)) (show (!(decide (nodeText dx1 dx1.outs.length = nodeText dx1 dx1.outs.length))) = (((((((changedM dx1 dx2 dx3).1) != ((changedM dx1 dx2 dx3).1)) || (((changedM dx1 dx2 dx3).2.1) != ((changedM dx1 dx2 dx3).2.1))) || (!(((changedM dx1 dx2 dx3).2.2) == ((changedM dx1 dx2 dx3).2.2)))) || (!((nodeOk dx1) == (nodeOk dx1)))) || (!(decide (nodeText dx1 dx1.outs.length = nodeText dx1 dx1.outs.length)))) by first | (rw [hg1, hg2, hg3, hg4] <;> rfl) | (simp [hg1, hg2, hg3, hg4]; done) | (simp only [nat_nlt] <;> simp)), trivial⟩ ⟨E, (by omega), hw1, h1⟩))
    clear E hw1 h1
    rintro w8 ⟨E, z12, hw1, h1⟩
    refine J_done ?_
    refine S_condFe rfl (by first | (simp; done) | (simp only [nat_nlt] <;> simp) | (simp only [mkL_length, nat_nlt] <;> simp) | (simp only [mkL_length] <;> simp)) ?_
    refine S_skip ?_
    refine S_seq ?_
    refine S_reg [true, false, true] rfl rfl ?_
    refine J_st (R_move rfl) rfl ?_
    refine J_call Tryd.call12 rfl (s_DrawKindName vcode code _ (hcode.ext E)) rfl (fun _ w13 e11 hv => ?_)
    obtain ⟨dx4, hv⟩ := hv
    subst hv
    replace E := E.trans e11; replace hw1 := hw1.ext e11; replace h1 := h1.ext e11
    have z13 := e11.size
    refine J_st (R_assign rfl) rfl (J_done ?_)
    refine S_seq ?_
    refine S_seq ?_
    refine S_reg [true, false, true, false, true, true, true, false, true, false, true, true] rfl rfl ?_
    refine J_st (R_move rfl) rfl ?_
    refine J_call Tryd.call13 rfl (c_KindName dx4 _ ) rfl (fun _ w14 e12 hv => ?_)
    subst hv
    replace E := E.trans e12; replace hw1 := hw1.ext e12; replace h1 := h1.ext e12
    have z14 := e12.size
    refine J_st (R_move rfl) rfl ?_
    refine J_call Tryd.call14 rfl (s_KindName dx4 _ ) rfl (fun _ w15 e13 hv => ?_)
    subst hv
    replace E := E.trans e13; replace hw1 := hw1.ext e13; replace h1 := h1.ext e13
    have z15 := e13.size
    refine J_st (R_sneq rfl rfl) rfl (J_st (R_move rfl) rfl ?_)
    refine J_cut 6 [(0, vcode), (2, .bool false), (3, .pointer (some ⟨b1, 0, none⟩)), (4, .int .i64 dx2), (5, .int .i64 dx3), (6, .int .i64 ((changedM dx1 dx2 dx3).1)), (7, .int .i64 ((changedM dx1 dx2 dx3).2.1)), (8, .bool ((changedM dx1 dx2 dx3).2.2)), (9, .int .i64 ((changedM dx1 dx2 dx3).1)), (10, .int .i64 ((changedM dx1 dx2 dx3).2.1)), (11, .bool ((changedM dx1 dx2 dx3).2.2)), (12, .int .i64 dx4), (22, vcode), (23, .bool (decide (((code.length : Nat) : Int) > 1048576))), (24, .tuple [.agg [.int .i64 dx1.kind, .int .i64 dx1.a, .int .i64 dx1.b, o1].toArray, .int .i64 dx2, .int .i64 dx3].toArray), (25, vcode), (26, .tuple [.agg [.int .i64 dx1.kind, .int .i64 dx1.a, .int .i64 dx1.b, o1].toArray, .int .i64 dx2, .int .i64 dx3].toArray), (27, .agg [.int .i64 dx1.kind, .int .i64 dx1.a, .int .i64 dx1.b, o1].toArray), (28, .int .i64 dx2), (29, .int .i64 dx3), (30, .tuple [.int .i64 ((changedM dx1 dx2 dx3).1), .int .i64 ((changedM dx1 dx2 dx3).2.1), .bool ((changedM dx1 dx2 dx3).2.2)].toArray), (31, .agg [.int .i64 dx1.kind, .int .i64 dx1.a, .int .i64 dx1.b, o1].toArray), (32, .int .i64 dx2), (33, .int .i64 dx3), (34, .tuple [.int .i64 ((changedM dx1 dx2 dx3).1), .int .i64 ((changedM dx1 dx2 dx3).2.1), .bool ((changedM dx1 dx2 dx3).2.2)].toArray), (35, .int .i64 ((changedM dx1 dx2 dx3).1)), (36, .int .i64 ((changedM dx1 dx2 dx3).2.1)), (37, .bool ((changedM dx1 dx2 dx3).2.2)), (38, .tuple [.int .i64 ((changedM dx1 dx2 dx3).1), .int .i64 ((changedM dx1 dx2 dx3).2.1), .bool ((changedM dx1 dx2 dx3).2.2)].toArray), (39, .agg [.int .i64 dx1.kind, .int .i64 dx1.a, .int .i64 dx1.b, o1].toArray), (40, .int .i64 dx2), (41, .int .i64 dx3), (42, .tuple [.int .i64 ((changedM dx1 dx2 dx3).1), .int .i64 ((changedM dx1 dx2 dx3).2.1), .bool ((changedM dx1 dx2 dx3).2.2)].toArray), (43, .int .i64 ((changedM dx1 dx2 dx3).1)), (44, .int .i64 ((changedM dx1 dx2 dx3).2.1)), (45, .bool ((changedM dx1 dx2 dx3).2.2)), (72, .bool (((((((changedM dx1 dx2 dx3).1) != ((changedM dx1 dx2 dx3).1)) || (((changedM dx1 dx2 dx3).2.1) != ((changedM dx1 dx2 dx3).2.1))) || (!(((changedM dx1 dx2 dx3).2.2) == ((changedM dx1 dx2 dx3).2.2)))) || (!((nodeOk dx1) == (nodeOk dx1)))) || (!(decide (nodeText dx1 dx1.outs.length = nodeText dx1 dx1.outs.length))))), (73, vcode), (74, .int .i64 dx4), (86, .bool ((!(decide (kindName dx4 = kindName dx4))) || (!((((dx4 == 5) || (dx4 == 6)) || (dx4 == 8)) == (((dx4 == 5) || (dx4 == 6)) || (dx4 == 8))))))] (fun w' => Ext w w' ∧ w15.heap.size ≤ w'.heap.size ∧ Own w' w1.heap.size w2.heap.size 1 o1 (List.flatMap (Enc.enc (α := Int)) dx1.outs) ∧ Blk w' b1 [.int .i64 dx1.kind, .int .i64 dx1.a, .int .i64 dx1.b, o1]) ?_ ?_
    · refine J_if (gd := 80) rfl rfl (fun hg5 => ?_) (fun hg5 => ?_)
      · exact absurd hg5 (by first | (simp; done) | (simp only [nat_nlt] <;> simp) | (simp only [mkL_length, nat_nlt] <;> simp) | (simp only [mkL_length] <;> simp))
      · refine J_gd rfl rfl (R_move rfl) rfl ?_
        refine J_ung rfl rfl ?_
        refine J_call Tryd.call15 rfl (c_Remembers dx4 _ ) rfl (fun _ w17 e14 hv => ?_)
        subst hv
        replace E := E.trans e14; replace hw1 := hw1.ext e14; replace h1 := h1.ext e14
        have z16 := e14.size
        refine J_gd rfl rfl (R_move rfl) rfl ?_
        refine J_ung rfl rfl ?_
        refine J_call Tryd.call16 rfl (s_Remembers dx4 _ ) rfl (fun _ w18 e15 hv => ?_)
        subst hv
        replace E := E.trans e15; replace hw1 := hw1.ext e15; replace h1 := h1.ext e15
        have z17 := e15.size
        refine J_gd rfl rfl (R_neqB (Tryd.underlying4) rfl rfl) rfl (J_st (R_pickF rfl rfl) rfl (J_cutEnd ⟨rfl, rfl, rfl, rfl, rfl, rfl, rfl, rfl, rfl, rfl, rfl, rfl, rfl, rfl, rfl, rfl, rfl, rfl, rfl, rfl, rfl, rfl, rfl, rfl, rfl, rfl, rfl, rfl, rfl, rfl, rfl, rfl, rfl, rfl, rfl, rfl, rfl, rfl, rfl, congrArg (fun b => some (Value.bool b)) (show (!((((dx4 == 5) || (dx4 == 6)) || (dx4 == 8)) == (((dx4 == 5) || (dx4 == 6)) || (dx4 == 8)))) = ((!(decide (kindName dx4 = kindName dx4))) || (!((((dx4 == 5) || (dx4 == 6)) || (dx4 == 8)) == (((dx4 == 5) || (dx4 == 6)) || (dx4 == 8))))) by first | (rw [hg5] <;> rfl) | (simp [hg5]; done) | (simp only [nat_nlt] <;> simp)), trivial⟩ ⟨E, (by omega), hw1, h1⟩))
    clear E hw1 h1
    rintro w16 ⟨E, z18, hw1, h1⟩
    refine J_done ?_
    refine S_condFe rfl (by first | (simp; done) | (simp only [nat_nlt] <;> simp) | (simp only [mkL_length, nat_nlt] <;> simp) | (simp only [mkL_length] <;> simp)) ?_
    refine S_skip ?_
    refine S_seq ?_
    refine S_reg [true, false, true] rfl rfl ?_
    refine J_st (R_move rfl) rfl ?_
    refine J_call Tryd.call17 rfl (s_DrawPlaces vcode code _ (hcode.ext E)) rfl (fun v1 w19 e16 ho3 => ?_)
    obtain ⟨dx5, q3, q4, ho3⟩ := ho3
    have g_ho3 : w.heap.size ≤ w16.heap.size := E.size
    replace E := E.trans e16; replace hw1 := hw1.ext e16; replace h1 := h1.ext e16
    have z19 := e16.size
    refine J_st (R_assign rfl) rfl (J_done ?_)
    refine S_seq ?_
    refine S_reg [true, true, true, true, true] rfl rfl ?_
    refine J_st (R_move rfl) rfl ?_
    have hi1 : 0 < dx5.length := (by first | assumption | omega | (simp only [List.length_set]; first | assumption | omega) | (simp only [List.getElem_set_self, List.length_set]; first | assumption | omega) | (simp only [setW, setLk, List.length_set]; first | assumption | omega) | (simp; done) | (simp only [List.length_cons, List.length_nil]; omega))
    refine J_st (R_index (i := 0) sl24 rfl rfl (Own.rd (by decide) ho3) hi1) rfl (J_st (R_load sc3 rfl (((Own.rd (by decide) ho3).get hi1).one 0 rfl)) rfl (J_st (R_rem rfl rfl (by decide) rfl) rfl (J_st (R_assign rfl) rfl (J_done ?_))))
    refine S_seq ?_
    obtain ⟨hpa, hpb, hpc⟩ := op_ab (l := dx5) (by assumption) (by assumption)
    refine S_reg [true, true, true, true, true, true, true, true, true] rfl rfl ?_
    refine J_st (R_move rfl) rfl (J_st (R_move rfl) rfl ?_)
    have hi2 : 1 < dx5.length := (by first | assumption | omega | (simp only [List.length_set]; first | assumption | omega) | (simp only [List.getElem_set_self, List.length_set]; first | assumption | omega) | (simp only [setW, setLk, List.length_set]; first | assumption | omega) | (simp; done) | (simp only [List.length_cons, List.length_nil]; omega))
    refine J_st (R_index (i := 1) sl24 rfl rfl (Own.rd (by decide) ho3) hi2) rfl (J_st (R_load sc3 rfl (((Own.rd (by decide) ho3).get hi2).one 0 rfl)) rfl (J_st (R_move rfl) rfl (J_st (R_sub rfl rfl (wrap_in (by omega) (by omega))) rfl (J_st (R_rem rfl rfl (by omega) rfl) rfl (J_st (R_add rfl rfl (wrap_in (by omega) (by omega))) rfl (J_st (R_assign rfl) rfl (J_done ?_)))))))
    refine S_seq ?_
    refine S_regD mixed [(0, true), (1, true), (2, true), (3, true), (4, true), (5, true), (6, false), (7, true), (8, true), (9, true), (10, true), (11, true), (12, true), (13, true)] (by decide +kernel) rfl (fun w20 e17 => ?_)
    replace E := E.trans e17; replace hw1 := hw1.ext e17; replace h1 := h1.ext e17; replace ho3 := ho3.ext e17
    have z20 := e17.size
    refine J_st (R_loadS st26 rfl h1.at rfl) rfl (J_st (R_move rfl) rfl ?_)
    have hi3 : 2 < dx5.length := (by first | assumption | omega | (simp only [List.length_set]; first | assumption | omega) | (simp only [List.getElem_set_self, List.length_set]; first | assumption | omega) | (simp only [setW, setLk, List.length_set]; first | assumption | omega) | (simp; done) | (simp only [List.length_cons, List.length_nil]; omega))
    refine J_st (R_index (i := 2) sl24 rfl rfl (Own.rd (by decide) ho3) hi3) rfl (J_st (R_load sc3 rfl (((Own.rd (by decide) ho3).get hi3).one 0 rfl)) rfl (J_st (R_rem rfl rfl (by decide) rfl) rfl (J_st (R_move rfl) rfl ?_)))
    refine J_call Tryd.call6 rfl (c_Changed [.int .i64 dx1.kind, .int .i64 dx1.a, .int .i64 dx1.b, o1] dx1 (Int.tmod (dx5[2]'hi3) 100) (Int.tmod (dx5[0]'hi1) 1000) _ (Node.mkR dx1 (RdD.any (Own.rdD hw1)))) rfl (fun _ w21 e18 hv => ?_)
    subst hv
    replace E := E.trans e18; replace hw1 := hw1.ext e18; replace h1 := h1.ext e18; replace ho3 := ho3.ext e18
    have z21 := e18.size
    refine J_st (R_move rfl) rfl (J_st (R_extract rfl rfl) rfl (J_st (R_extract rfl rfl) rfl (J_st (R_extract rfl rfl) rfl (J_st (R_assign rfl) rfl (J_st (R_assign rfl) rfl (J_st (R_assign rfl) rfl (J_done ?_)))))))
    refine S_seq ?_
    refine S_regD mixed [(0, true), (1, true), (2, true), (3, true), (4, true), (5, true), (6, false), (7, true), (8, true), (9, true), (10, true), (11, true), (12, true), (13, true)] (by decide +kernel) rfl (fun w22 e19 => ?_)
    replace E := E.trans e19; replace hw1 := hw1.ext e19; replace h1 := h1.ext e19; replace ho3 := ho3.ext e19
    have z22 := e19.size
    refine J_st (R_loadS st26 rfl h1.at rfl) rfl (J_st (R_move rfl) rfl ?_)
    have hi4 : 2 < dx5.length := (by first | assumption | omega | (simp only [List.length_set]; first | assumption | omega) | (simp only [List.getElem_set_self, List.length_set]; first | assumption | omega) | (simp only [setW, setLk, List.length_set]; first | assumption | omega) | (simp; done) | (simp only [List.length_cons, List.length_nil]; omega))
    refine J_st (R_index (i := 2) sl24 rfl rfl (Own.rd (by decide) ho3) hi4) rfl (J_st (R_load sc3 rfl (((Own.rd (by decide) ho3).get hi4).one 0 rfl)) rfl (J_st (R_rem rfl rfl (by decide) rfl) rfl (J_st (R_move rfl) rfl ?_)))
    refine J_call Tryd.call6 rfl (c_Changed [.int .i64 dx1.kind, .int .i64 dx1.a, .int .i64 dx1.b, o1] dx1 (Int.tmod (dx5[2]'hi4) 100) ((Int.tmod (dx5[0]'hi1) 1000) + (Int.tmod (dx5[1]'hi2) ((1000 : Int) - (Int.tmod (dx5[0]'hi1) 1000)))) _ (Node.mkR dx1 (RdD.any (Own.rdD hw1)))) rfl (fun _ w23 e20 hv => ?_)
    subst hv
    replace E := E.trans e20; replace hw1 := hw1.ext e20; replace h1 := h1.ext e20; replace ho3 := ho3.ext e20
    have z23 := e20.size
    refine J_st (R_move rfl) rfl (J_st (R_extract rfl rfl) rfl (J_st (R_extract rfl rfl) rfl (J_st (R_extract rfl rfl) rfl (J_st (R_assign rfl) rfl (J_st (R_assign rfl) rfl (J_st (R_assign rfl) rfl (J_done ?_)))))))
    refine S_seq ?_
    refine S_reg [true, false, true, true, true, true, true, true, true, true, true, true, true, true, true, true, true, true, true, true, true, true, true, true, true, true, true, true, true, true, true, true, true, true, false, true, true, true, false, true, true] rfl rfl ?_
    refine J_st (R_loadS st26 rfl h1.at rfl) rfl ?_
    refine J_call Tryd.call9 rfl (s_NodeOk [.int .i64 dx1.kind, .int .i64 dx1.a, .int .i64 dx1.b, o1] dx1 _ (Node.mkR dx1 (RdD.any (Own.rdD hw1)))) rfl (fun _ w24 e21 hv => ?_)
    subst hv
    replace E := E.trans e21; replace hw1 := hw1.ext e21; replace h1 := h1.ext e21; replace ho3 := ho3.ext e21
    have z24 := e21.size
    refine J_st (R_not rfl) rfl (J_st (R_move rfl) rfl ?_)
    refine J_cut 36 [(0, vcode), (2, .bool false), (3, .pointer (some ⟨b1, 0, none⟩)), (4, .int .i64 dx2), (5, .int .i64 dx3), (6, .int .i64 ((changedM dx1 dx2 dx3).1)), (7, .int .i64 ((changedM dx1 dx2 dx3).2.1)), (8, .bool ((changedM dx1 dx2 dx3).2.2)), (9, .int .i64 ((changedM dx1 dx2 dx3).1)), (10, .int .i64 ((changedM dx1 dx2 dx3).2.1)), (11, .bool ((changedM dx1 dx2 dx3).2.2)), (12, .int .i64 dx4), (13, v1), (14, .int .i64 (Int.tmod (dx5[0]'hi1) 1000)), (15, .int .i64 ((Int.tmod (dx5[0]'hi1) 1000) + (Int.tmod (dx5[1]'hi2) ((1000 : Int) - (Int.tmod (dx5[0]'hi1) 1000))))), (16, .int .i64 ((changedM dx1 (Int.tmod (dx5[2]'hi3) 100) (Int.tmod (dx5[0]'hi1) 1000)).1)), (17, .int .i64 ((changedM dx1 (Int.tmod (dx5[2]'hi3) 100) (Int.tmod (dx5[0]'hi1) 1000)).2.1)), (19, .int .i64 ((changedM dx1 (Int.tmod (dx5[2]'hi4) 100) ((Int.tmod (dx5[0]'hi1) 1000) + (Int.tmod (dx5[1]'hi2) ((1000 : Int) - (Int.tmod (dx5[0]'hi1) 1000))))).1)), (20, .int .i64 ((changedM dx1 (Int.tmod (dx5[2]'hi4) 100) ((Int.tmod (dx5[0]'hi1) 1000) + (Int.tmod (dx5[1]'hi2) ((1000 : Int) - (Int.tmod (dx5[0]'hi1) 1000))))).2.1)), (22, vcode), (23, .bool (decide (((code.length : Nat) : Int) > 1048576))), (24, .tuple [.agg [.int .i64 dx1.kind, .int .i64 dx1.a, .int .i64 dx1.b, o1].toArray, .int .i64 dx2, .int .i64 dx3].toArray), (25, vcode), (26, .tuple [.agg [.int .i64 dx1.kind, .int .i64 dx1.a, .int .i64 dx1.b, o1].toArray, .int .i64 dx2, .int .i64 dx3].toArray), (27, .agg [.int .i64 dx1.kind, .int .i64 dx1.a, .int .i64 dx1.b, o1].toArray), (28, .int .i64 dx2), (29, .int .i64 dx3), (30, .tuple [.int .i64 ((changedM dx1 dx2 dx3).1), .int .i64 ((changedM dx1 dx2 dx3).2.1), .bool ((changedM dx1 dx2 dx3).2.2)].toArray), (31, .agg [.int .i64 dx1.kind, .int .i64 dx1.a, .int .i64 dx1.b, o1].toArray), (32, .int .i64 dx2), (33, .int .i64 dx3), (34, .tuple [.int .i64 ((changedM dx1 dx2 dx3).1), .int .i64 ((changedM dx1 dx2 dx3).2.1), .bool ((changedM dx1 dx2 dx3).2.2)].toArray), (35, .int .i64 ((changedM dx1 dx2 dx3).1)), (36, .int .i64 ((changedM dx1 dx2 dx3).2.1)), (37, .bool ((changedM dx1 dx2 dx3).2.2)), (38, .tuple [.int .i64 ((changedM dx1 dx2 dx3).1), .int .i64 ((changedM dx1 dx2 dx3).2.1), .bool ((changedM dx1 dx2 dx3).2.2)].toArray), (39, .agg [.int .i64 dx1.kind, .int .i64 dx1.a, .int .i64 dx1.b, o1].toArray), (40, .int .i64 dx2), (41, .int .i64 dx3), (42, .tuple [.int .i64 ((changedM dx1 dx2 dx3).1), .int .i64 ((changedM dx1 dx2 dx3).2.1), .bool ((changedM dx1 dx2 dx3).2.2)].toArray), (43, .int .i64 ((changedM dx1 dx2 dx3).1)), (44, .int .i64 ((changedM dx1 dx2 dx3).2.1)), (45, .bool ((changedM dx1 dx2 dx3).2.2)), (72, .bool (((((((changedM dx1 dx2 dx3).1) != ((changedM dx1 dx2 dx3).1)) || (((changedM dx1 dx2 dx3).2.1) != ((changedM dx1 dx2 dx3).2.1))) || (!(((changedM dx1 dx2 dx3).2.2) == ((changedM dx1 dx2 dx3).2.2)))) || (!((nodeOk dx1) == (nodeOk dx1)))) || (!(decide (nodeText dx1 dx1.outs.length = nodeText dx1 dx1.outs.length))))), (73, vcode), (74, .int .i64 dx4), (86, .bool ((!(decide (kindName dx4 = kindName dx4))) || (!((((dx4 == 5) || (dx4 == 6)) || (dx4 == 8)) == (((dx4 == 5) || (dx4 == 6)) || (dx4 == 8)))))), (87, vcode), (88, v1), (89, v1), (90, .pointer (some ⟨sblk v1, soff v1 + 0 * 1, none⟩)), (91, .int .i64 (dx5[0]'hi1)), (92, .int .i64 (Int.tmod (dx5[0]'hi1) 1000)), (93, .int .i64 (Int.tmod (dx5[0]'hi1) 1000)), (94, v1), (95, .pointer (some ⟨sblk v1, soff v1 + 1 * 1, none⟩)), (96, .int .i64 (dx5[1]'hi2)), (97, .int .i64 (Int.tmod (dx5[0]'hi1) 1000)), (98, .int .i64 ((1000 : Int) - (Int.tmod (dx5[0]'hi1) 1000))), (99, .int .i64 (Int.tmod (dx5[1]'hi2) ((1000 : Int) - (Int.tmod (dx5[0]'hi1) 1000)))), (100, .int .i64 ((Int.tmod (dx5[0]'hi1) 1000) + (Int.tmod (dx5[1]'hi2) ((1000 : Int) - (Int.tmod (dx5[0]'hi1) 1000))))), (101, .tuple [.int .i64 ((changedM dx1 (Int.tmod (dx5[2]'hi3) 100) (Int.tmod (dx5[0]'hi1) 1000)).1), .int .i64 ((changedM dx1 (Int.tmod (dx5[2]'hi3) 100) (Int.tmod (dx5[0]'hi1) 1000)).2.1), .bool ((changedM dx1 (Int.tmod (dx5[2]'hi3) 100) (Int.tmod (dx5[0]'hi1) 1000)).2.2)].toArray), (102, .agg [.int .i64 dx1.kind, .int .i64 dx1.a, .int .i64 dx1.b, o1].toArray), (103, v1), (104, .pointer (some ⟨sblk v1, soff v1 + 2 * 1, none⟩)), (105, .int .i64 (dx5[2]'hi3)), (106, .int .i64 (Int.tmod (dx5[2]'hi3) 100)), (107, .int .i64 (Int.tmod (dx5[0]'hi1) 1000)), (108, .tuple [.int .i64 ((changedM dx1 (Int.tmod (dx5[2]'hi3) 100) (Int.tmod (dx5[0]'hi1) 1000)).1), .int .i64 ((changedM dx1 (Int.tmod (dx5[2]'hi3) 100) (Int.tmod (dx5[0]'hi1) 1000)).2.1), .bool ((changedM dx1 (Int.tmod (dx5[2]'hi3) 100) (Int.tmod (dx5[0]'hi1) 1000)).2.2)].toArray), (109, .int .i64 ((changedM dx1 (Int.tmod (dx5[2]'hi3) 100) (Int.tmod (dx5[0]'hi1) 1000)).1)), (110, .int .i64 ((changedM dx1 (Int.tmod (dx5[2]'hi3) 100) (Int.tmod (dx5[0]'hi1) 1000)).2.1)), (111, .bool ((changedM dx1 (Int.tmod (dx5[2]'hi3) 100) (Int.tmod (dx5[0]'hi1) 1000)).2.2)), (112, .tuple [.int .i64 ((changedM dx1 (Int.tmod (dx5[2]'hi4) 100) ((Int.tmod (dx5[0]'hi1) 1000) + (Int.tmod (dx5[1]'hi2) ((1000 : Int) - (Int.tmod (dx5[0]'hi1) 1000))))).1), .int .i64 ((changedM dx1 (Int.tmod (dx5[2]'hi4) 100) ((Int.tmod (dx5[0]'hi1) 1000) + (Int.tmod (dx5[1]'hi2) ((1000 : Int) - (Int.tmod (dx5[0]'hi1) 1000))))).2.1), .bool ((changedM dx1 (Int.tmod (dx5[2]'hi4) 100) ((Int.tmod (dx5[0]'hi1) 1000) + (Int.tmod (dx5[1]'hi2) ((1000 : Int) - (Int.tmod (dx5[0]'hi1) 1000))))).2.2)].toArray), (113, .agg [.int .i64 dx1.kind, .int .i64 dx1.a, .int .i64 dx1.b, o1].toArray), (114, v1), (115, .pointer (some ⟨sblk v1, soff v1 + 2 * 1, none⟩)), (116, .int .i64 (dx5[2]'hi4)), (117, .int .i64 (Int.tmod (dx5[2]'hi4) 100)), (118, .int .i64 ((Int.tmod (dx5[0]'hi1) 1000) + (Int.tmod (dx5[1]'hi2) ((1000 : Int) - (Int.tmod (dx5[0]'hi1) 1000))))), (119, .tuple [.int .i64 ((changedM dx1 (Int.tmod (dx5[2]'hi4) 100) ((Int.tmod (dx5[0]'hi1) 1000) + (Int.tmod (dx5[1]'hi2) ((1000 : Int) - (Int.tmod (dx5[0]'hi1) 1000))))).1), .int .i64 ((changedM dx1 (Int.tmod (dx5[2]'hi4) 100) ((Int.tmod (dx5[0]'hi1) 1000) + (Int.tmod (dx5[1]'hi2) ((1000 : Int) - (Int.tmod (dx5[0]'hi1) 1000))))).2.1), .bool ((changedM dx1 (Int.tmod (dx5[2]'hi4) 100) ((Int.tmod (dx5[0]'hi1) 1000) + (Int.tmod (dx5[1]'hi2) ((1000 : Int) - (Int.tmod (dx5[0]'hi1) 1000))))).2.2)].toArray), (120, .int .i64 ((changedM dx1 (Int.tmod (dx5[2]'hi4) 100) ((Int.tmod (dx5[0]'hi1) 1000) + (Int.tmod (dx5[1]'hi2) ((1000 : Int) - (Int.tmod (dx5[0]'hi1) 1000))))).1)), (121, .int .i64 ((changedM dx1 (Int.tmod (dx5[2]'hi4) 100) ((Int.tmod (dx5[0]'hi1) 1000) + (Int.tmod (dx5[1]'hi2) ((1000 : Int) - (Int.tmod (dx5[0]'hi1) 1000))))).2.1)), (122, .bool ((changedM dx1 (Int.tmod (dx5[2]'hi4) 100) ((Int.tmod (dx5[0]'hi1) 1000) + (Int.tmod (dx5[1]'hi2) ((1000 : Int) - (Int.tmod (dx5[0]'hi1) 1000))))).2.2)), (162, .bool (((((!(nodeOk dx1)) || ((decide (((changedM dx1 (Int.tmod (dx5[2]'hi3) 100) (Int.tmod (dx5[0]'hi1) 1000)).2.1) ≤ ((changedM dx1 (Int.tmod (dx5[2]'hi4) 100) ((Int.tmod (dx5[0]'hi1) 1000) + (Int.tmod (dx5[1]'hi2) ((1000 : Int) - (Int.tmod (dx5[0]'hi1) 1000))))).2.1))) && (((changedM dx1 (Int.tmod (dx5[2]'hi3) 100) (Int.tmod (dx5[0]'hi1) 1000)).1) == ((changedM dx1 (Int.tmod (dx5[2]'hi4) 100) ((Int.tmod (dx5[0]'hi1) 1000) + (Int.tmod (dx5[1]'hi2) ((1000 : Int) - (Int.tmod (dx5[0]'hi1) 1000))))).1)))) && ((!((changedM dx1 dx2 dx3).2.2)) || ((((decide (0 ≤ ((changedM dx1 dx2 dx3).1))) && (decide (((changedM dx1 dx2 dx3).1) ≤ 99))) && (decide (0 ≤ ((changedM dx1 dx2 dx3).2.1)))) && (decide (((changedM dx1 dx2 dx3).2.1) ≤ 999))))) && (decide (kindName 7 = [98, 97, 99, 107]))) && (((5 == 5) || (5 == 6)) || (5 == 8))))] (fun w' => Ext w w' ∧ w24.heap.size ≤ w'.heap.size ∧ Own w' w1.heap.size w2.heap.size 1 o1 (List.flatMap (Enc.enc (α := Int)) dx1.outs) ∧ Blk w' b1 [.int .i64 dx1.kind, .int .i64 dx1.a, .int .i64 dx1.b, o1] ∧ Own w' w16.heap.size w19.heap.size 1 v1 (List.flatMap (Enc.enc (α := Int)) dx5)) ?_ ?_
    · refine J_if (gd := 126) rfl rfl (fun hg6 => ?_) (fun hg6 => ?_)
      · refine J_gdno rfl rfl rfl rfl (J_gdno rfl rfl rfl rfl (J_gdno rfl rfl rfl rfl (J_gdno rfl rfl rfl rfl (J_gdx rfl rfl rfl (J_gdx rfl rfl rfl (J_gdx rfl rfl rfl (J_gdno rfl rfl rfl rfl (J_st (R_pickT rfl rfl) rfl (J_st (R_move rfl) rfl (J_gd rfl rfl (R_move rfl) rfl (J_gd rfl rfl (R_not rfl) rfl (J_gd rfl rfl (R_move rfl) rfl ?_))))))))))))
        refine J_if (gd := 139) rfl rfl (fun hg7 => ?_) (fun hg7 => ?_)
        · refine J_gdno rfl rfl rfl rfl (J_gdno rfl rfl rfl rfl (J_gdno rfl rfl rfl rfl (J_gdx rfl rfl rfl (J_gdx rfl rfl rfl (J_gdno rfl rfl rfl rfl (J_gdno rfl rfl rfl rfl (J_gdx rfl rfl rfl (J_gdx rfl rfl rfl (J_gdno rfl rfl rfl rfl (J_gdno rfl rfl rfl rfl (J_gdx rfl rfl rfl (J_gdx rfl rfl rfl (J_gdno rfl rfl rfl rfl (J_gd rfl rfl (R_pickT rfl rfl) rfl (J_st (R_pickT rfl rfl) rfl (J_st (R_move rfl) rfl ?_))))))))))))))))
          refine J_ung rfl rfl ?_
          refine J_call Tryd.call13 rfl (c_KindName 7 _ ) rfl (fun _ w26 e22 hv => ?_)
          subst hv
          replace E := E.trans e22; replace hw1 := hw1.ext e22; replace h1 := h1.ext e22; replace ho3 := ho3.ext e22
          have z25 := e22.size
          refine J_gd rfl rfl (R_seql rfl rfl) rfl (J_st (R_pickT rfl rfl) rfl (J_st (R_move rfl) rfl ?_))
          refine J_if (gd := 160) rfl rfl (fun hg8 => ?_) (fun hg8 => ?_)
          · refine J_ung rfl rfl ?_
            refine J_call Tryd.call15 rfl (c_Remembers 5 _ ) rfl (fun _ w27 e23 hv => ?_)
            subst hv
            replace E := E.trans e23; replace hw1 := hw1.ext e23; replace h1 := h1.ext e23; replace ho3 := ho3.ext e23
            have z26 := e23.size
            refine J_st (R_pickT rfl rfl) rfl (J_cutEnd ⟨rfl, rfl, rfl, rfl, rfl, rfl, rfl, rfl, rfl, rfl, rfl, rfl, rfl, rfl, rfl, rfl, rfl, rfl, rfl, rfl, rfl, rfl, rfl, rfl, rfl, rfl, rfl, rfl, rfl, rfl, rfl, rfl, rfl, rfl, rfl, rfl, rfl, rfl, rfl, rfl, rfl, rfl, rfl, rfl, rfl, rfl, rfl, rfl, rfl, rfl, rfl, rfl, rfl, rfl, rfl, rfl, rfl, rfl, rfl, rfl, rfl, rfl, rfl, rfl, rfl, rfl, rfl, rfl, rfl, rfl, rfl, rfl, rfl, rfl, rfl, rfl, rfl, rfl, rfl, rfl, rfl, rfl, rfl, congrArg (fun b => some (Value.bool b)) (show (((5 == 5) || (5 == 6)) || (5 == 8)) = (((((!(nodeOk dx1)) || ((decide (((changedM dx1 (Int.tmod (dx5[2]'hi3) 100) (Int.tmod (dx5[0]'hi1) 1000)).2.1) ≤ ((changedM dx1 (Int.tmod (dx5[2]'hi4) 100) ((Int.tmod (dx5[0]'hi1) 1000) + (Int.tmod (dx5[1]'hi2) ((1000 : Int) - (Int.tmod (dx5[0]'hi1) 1000))))).2.1))) && (((changedM dx1 (Int.tmod (dx5[2]'hi3) 100) (Int.tmod (dx5[0]'hi1) 1000)).1) == ((changedM dx1 (Int.tmod (dx5[2]'hi4) 100) ((Int.tmod (dx5[0]'hi1) 1000) + (Int.tmod (dx5[1]'hi2) ((1000 : Int) - (Int.tmod (dx5[0]'hi1) 1000))))).1)))) && ((!((changedM dx1 dx2 dx3).2.2)) || ((((decide (0 ≤ ((changedM dx1 dx2 dx3).1))) && (decide (((changedM dx1 dx2 dx3).1) ≤ 99))) && (decide (0 ≤ ((changedM dx1 dx2 dx3).2.1)))) && (decide (((changedM dx1 dx2 dx3).2.1) ≤ 999))))) && (decide (kindName 7 = [98, 97, 99, 107]))) && (((5 == 5) || (5 == 6)) || (5 == 8))) by first | (rw [hg6, hg7, hg8] <;> rfl) | (simp [hg6, hg7, hg8]; done) | (simp only [nat_nlt] <;> simp)), trivial⟩ ⟨E, (by omega), hw1, h1, ho3⟩)
          · exact absurd hg8 (by decide)
        · refine J_gd rfl rfl (R_move rfl) rfl (J_gd rfl rfl (R_geq rfl rfl) rfl (J_gd rfl rfl (R_move rfl) rfl ?_))
          refine J_if (gd := 142) rfl rfl (fun hg9 => ?_) (fun hg9 => ?_)
          · refine J_gd rfl rfl (R_move rfl) rfl (J_gd rfl rfl (R_leq rfl rfl) rfl (J_gd rfl rfl (R_pickT rfl rfl) rfl (J_gd rfl rfl (R_move rfl) rfl ?_)))
            refine J_if (gd := 146) rfl rfl (fun hg10 => ?_) (fun hg10 => ?_)
            · refine J_gd rfl rfl (R_move rfl) rfl (J_gd rfl rfl (R_geq rfl rfl) rfl (J_gd rfl rfl (R_pickT rfl rfl) rfl (J_gd rfl rfl (R_move rfl) rfl ?_)))
              refine J_if (gd := 150) rfl rfl (fun hg11 => ?_) (fun hg11 => ?_)
              · refine J_gd rfl rfl (R_move rfl) rfl (J_gd rfl rfl (R_leq rfl rfl) rfl (J_gd rfl rfl (R_pickT rfl rfl) rfl (J_gd rfl rfl (R_pickF rfl rfl) rfl (J_st (R_pickT rfl rfl) rfl (J_st (R_move rfl) rfl ?_)))))
                refine J_if (gd := 156) rfl rfl (fun hg12 => ?_) (fun hg12 => ?_)
                · refine J_ung rfl rfl ?_
                  refine J_call Tryd.call13 rfl (c_KindName 7 _ ) rfl (fun _ w28 e24 hv => ?_)
                  subst hv
                  replace E := E.trans e24; replace hw1 := hw1.ext e24; replace h1 := h1.ext e24; replace ho3 := ho3.ext e24
                  have z27 := e24.size
                  refine J_gd rfl rfl (R_seql rfl rfl) rfl (J_st (R_pickT rfl rfl) rfl (J_st (R_move rfl) rfl ?_))
                  refine J_if (gd := 160) rfl rfl (fun hg13 => ?_) (fun hg13 => ?_)
                  · refine J_ung rfl rfl ?_
                    refine J_call Tryd.call15 rfl (c_Remembers 5 _ ) rfl (fun _ w29 e25 hv => ?_)
                    subst hv
                    replace E := E.trans e25; replace hw1 := hw1.ext e25; replace h1 := h1.ext e25; replace ho3 := ho3.ext e25
                    have z28 := e25.size
                    refine J_st (R_pickT rfl rfl) rfl (J_cutEnd ⟨rfl, rfl, rfl, rfl, rfl, rfl, rfl, rfl, rfl, rfl, rfl, rfl, rfl, rfl, rfl, rfl, rfl, rfl, rfl, rfl, rfl, rfl, rfl, rfl, rfl, rfl, rfl, rfl, rfl, rfl, rfl, rfl, rfl, rfl, rfl, rfl, rfl, rfl, rfl, rfl, rfl, rfl, rfl, rfl, rfl, rfl, rfl, rfl, rfl, rfl, rfl, rfl, rfl, rfl, rfl, rfl, rfl, rfl, rfl, rfl, rfl, rfl, rfl, rfl, rfl, rfl, rfl, rfl, rfl, rfl, rfl, rfl, rfl, rfl, rfl, rfl, rfl, rfl, rfl, rfl, rfl, rfl, rfl, congrArg (fun b => some (Value.bool b)) (show (((5 == 5) || (5 == 6)) || (5 == 8)) = (((((!(nodeOk dx1)) || ((decide (((changedM dx1 (Int.tmod (dx5[2]'hi3) 100) (Int.tmod (dx5[0]'hi1) 1000)).2.1) ≤ ((changedM dx1 (Int.tmod (dx5[2]'hi4) 100) ((Int.tmod (dx5[0]'hi1) 1000) + (Int.tmod (dx5[1]'hi2) ((1000 : Int) - (Int.tmod (dx5[0]'hi1) 1000))))).2.1))) && (((changedM dx1 (Int.tmod (dx5[2]'hi3) 100) (Int.tmod (dx5[0]'hi1) 1000)).1) == ((changedM dx1 (Int.tmod (dx5[2]'hi4) 100) ((Int.tmod (dx5[0]'hi1) 1000) + (Int.tmod (dx5[1]'hi2) ((1000 : Int) - (Int.tmod (dx5[0]'hi1) 1000))))).1)))) && ((!((changedM dx1 dx2 dx3).2.2)) || ((((decide (0 ≤ ((changedM dx1 dx2 dx3).1))) && (decide (((changedM dx1 dx2 dx3).1) ≤ 99))) && (decide (0 ≤ ((changedM dx1 dx2 dx3).2.1)))) && (decide (((changedM dx1 dx2 dx3).2.1) ≤ 999))))) && (decide (kindName 7 = [98, 97, 99, 107]))) && (((5 == 5) || (5 == 6)) || (5 == 8))) by first | (rw [hg6, hg7, hg9, hg10, hg11, hg12, hg13] <;> rfl) | (simp [hg6, hg7, hg9, hg10, hg11, hg12, hg13]; done) | (simp only [nat_nlt] <;> simp)), trivial⟩ ⟨E, (by omega), hw1, h1, ho3⟩)
                  · exact absurd hg13 (by decide)
                · exact absurd hg12 (by rw [decide_eq_true (op_rg (not_f hg7)).2.2]; decide)
              · exact absurd hg11 (by rw [decide_eq_true (op_rg (not_f hg7)).2.1]; decide)
            · exact absurd hg10 (by rw [decide_eq_true (op_rg (not_f hg7)).1.2]; decide)
          · exact absurd hg9 (by rw [decide_eq_true (op_rg (not_f hg7)).1.1]; decide)
      · refine J_gd rfl rfl (R_move rfl) rfl (J_gd rfl rfl (R_move rfl) rfl (J_gd rfl rfl (R_leq rfl rfl) rfl (J_gd rfl rfl (R_move rfl) rfl ?_)))
        refine J_if (gd := 130) rfl rfl (fun hg14 => ?_) (fun hg14 => ?_)
        · refine J_gd rfl rfl (R_move rfl) rfl (J_gd rfl rfl (R_move rfl) rfl (J_gd rfl rfl (R_eql rfl rfl) rfl (J_gd rfl rfl (R_pickT rfl rfl) rfl (J_st (R_pickF rfl rfl) rfl (J_st (R_move rfl) rfl ?_)))))
          refine J_if (gd := 136) rfl rfl (fun hg15 => ?_) (fun hg15 => ?_)
          · refine J_gd rfl rfl (R_move rfl) rfl (J_gd rfl rfl (R_not rfl) rfl (J_gd rfl rfl (R_move rfl) rfl ?_))
            refine J_if (gd := 139) rfl rfl (fun hg16 => ?_) (fun hg16 => ?_)
            · refine J_gdno rfl rfl rfl rfl (J_gdno rfl rfl rfl rfl (J_gdno rfl rfl rfl rfl (J_gdx rfl rfl rfl (J_gdx rfl rfl rfl (J_gdno rfl rfl rfl rfl (J_gdno rfl rfl rfl rfl (J_gdx rfl rfl rfl (J_gdx rfl rfl rfl (J_gdno rfl rfl rfl rfl (J_gdno rfl rfl rfl rfl (J_gdx rfl rfl rfl (J_gdx rfl rfl rfl (J_gdno rfl rfl rfl rfl (J_gd rfl rfl (R_pickT rfl rfl) rfl (J_st (R_pickT rfl rfl) rfl (J_st (R_move rfl) rfl ?_))))))))))))))))
              refine J_ung rfl rfl ?_
              refine J_call Tryd.call13 rfl (c_KindName 7 _ ) rfl (fun _ w30 e26 hv => ?_)
              subst hv
              replace E := E.trans e26; replace hw1 := hw1.ext e26; replace h1 := h1.ext e26; replace ho3 := ho3.ext e26
              have z29 := e26.size
              refine J_gd rfl rfl (R_seql rfl rfl) rfl (J_st (R_pickT rfl rfl) rfl (J_st (R_move rfl) rfl ?_))
              refine J_if (gd := 160) rfl rfl (fun hg17 => ?_) (fun hg17 => ?_)
              · refine J_ung rfl rfl ?_
                refine J_call Tryd.call15 rfl (c_Remembers 5 _ ) rfl (fun _ w31 e27 hv => ?_)
                subst hv
                replace E := E.trans e27; replace hw1 := hw1.ext e27; replace h1 := h1.ext e27; replace ho3 := ho3.ext e27
                have z30 := e27.size
                refine J_st (R_pickT rfl rfl) rfl (J_cutEnd ⟨rfl, rfl, rfl, rfl, rfl, rfl, rfl, rfl, rfl, rfl, rfl, rfl, rfl, rfl, rfl, rfl, rfl, rfl, rfl, rfl, rfl, rfl, rfl, rfl, rfl, rfl, rfl, rfl, rfl, rfl, rfl, rfl, rfl, rfl, rfl, rfl, rfl, rfl, rfl, rfl, rfl, rfl, rfl, rfl, rfl, rfl, rfl, rfl, rfl, rfl, rfl, rfl, rfl, rfl, rfl, rfl, rfl, rfl, rfl, rfl, rfl, rfl, rfl, rfl, rfl, rfl, rfl, rfl, rfl, rfl, rfl, rfl, rfl, rfl, rfl, rfl, rfl, rfl, rfl, rfl, rfl, rfl, rfl, congrArg (fun b => some (Value.bool b)) (show (((5 == 5) || (5 == 6)) || (5 == 8)) = (((((!(nodeOk dx1)) || ((decide (((changedM dx1 (Int.tmod (dx5[2]'hi3) 100) (Int.tmod (dx5[0]'hi1) 1000)).2.1) ≤ ((changedM dx1 (Int.tmod (dx5[2]'hi4) 100) ((Int.tmod (dx5[0]'hi1) 1000) + (Int.tmod (dx5[1]'hi2) ((1000 : Int) - (Int.tmod (dx5[0]'hi1) 1000))))).2.1))) && (((changedM dx1 (Int.tmod (dx5[2]'hi3) 100) (Int.tmod (dx5[0]'hi1) 1000)).1) == ((changedM dx1 (Int.tmod (dx5[2]'hi4) 100) ((Int.tmod (dx5[0]'hi1) 1000) + (Int.tmod (dx5[1]'hi2) ((1000 : Int) - (Int.tmod (dx5[0]'hi1) 1000))))).1)))) && ((!((changedM dx1 dx2 dx3).2.2)) || ((((decide (0 ≤ ((changedM dx1 dx2 dx3).1))) && (decide (((changedM dx1 dx2 dx3).1) ≤ 99))) && (decide (0 ≤ ((changedM dx1 dx2 dx3).2.1)))) && (decide (((changedM dx1 dx2 dx3).2.1) ≤ 999))))) && (decide (kindName 7 = [98, 97, 99, 107]))) && (((5 == 5) || (5 == 6)) || (5 == 8))) by first | (rw [hg6, hg14, hg15, hg16, hg17] <;> rfl) | (simp [hg6, hg14, hg15, hg16, hg17]; done) | (simp only [nat_nlt] <;> simp)), trivial⟩ ⟨E, (by omega), hw1, h1, ho3⟩)
              · exact absurd hg17 (by decide)
            · refine J_gd rfl rfl (R_move rfl) rfl (J_gd rfl rfl (R_geq rfl rfl) rfl (J_gd rfl rfl (R_move rfl) rfl ?_))
              refine J_if (gd := 142) rfl rfl (fun hg18 => ?_) (fun hg18 => ?_)
              · refine J_gd rfl rfl (R_move rfl) rfl (J_gd rfl rfl (R_leq rfl rfl) rfl (J_gd rfl rfl (R_pickT rfl rfl) rfl (J_gd rfl rfl (R_move rfl) rfl ?_)))
                refine J_if (gd := 146) rfl rfl (fun hg19 => ?_) (fun hg19 => ?_)
                · refine J_gd rfl rfl (R_move rfl) rfl (J_gd rfl rfl (R_geq rfl rfl) rfl (J_gd rfl rfl (R_pickT rfl rfl) rfl (J_gd rfl rfl (R_move rfl) rfl ?_)))
                  refine J_if (gd := 150) rfl rfl (fun hg20 => ?_) (fun hg20 => ?_)
                  · refine J_gd rfl rfl (R_move rfl) rfl (J_gd rfl rfl (R_leq rfl rfl) rfl (J_gd rfl rfl (R_pickT rfl rfl) rfl (J_gd rfl rfl (R_pickF rfl rfl) rfl (J_st (R_pickT rfl rfl) rfl (J_st (R_move rfl) rfl ?_)))))
                    refine J_if (gd := 156) rfl rfl (fun hg21 => ?_) (fun hg21 => ?_)
                    · refine J_ung rfl rfl ?_
                      refine J_call Tryd.call13 rfl (c_KindName 7 _ ) rfl (fun _ w32 e28 hv => ?_)
                      subst hv
                      replace E := E.trans e28; replace hw1 := hw1.ext e28; replace h1 := h1.ext e28; replace ho3 := ho3.ext e28
                      have z31 := e28.size
                      refine J_gd rfl rfl (R_seql rfl rfl) rfl (J_st (R_pickT rfl rfl) rfl (J_st (R_move rfl) rfl ?_))
                      refine J_if (gd := 160) rfl rfl (fun hg22 => ?_) (fun hg22 => ?_)
                      · refine J_ung rfl rfl ?_
                        refine J_call Tryd.call15 rfl (c_Remembers 5 _ ) rfl (fun _ w33 e29 hv => ?_)
                        subst hv
                        replace E := E.trans e29; replace hw1 := hw1.ext e29; replace h1 := h1.ext e29; replace ho3 := ho3.ext e29
                        have z32 := e29.size
                        refine J_st (R_pickT rfl rfl) rfl (J_cutEnd ⟨rfl, rfl, rfl, rfl, rfl, rfl, rfl, rfl, rfl, rfl, rfl, rfl, rfl, rfl, rfl, rfl, rfl, rfl, rfl, rfl, rfl, rfl, rfl, rfl, rfl, rfl, rfl, rfl, rfl, rfl, rfl, rfl, rfl, rfl, rfl, rfl, rfl, rfl, rfl, rfl, rfl, rfl, rfl, rfl, rfl, rfl, rfl, rfl, rfl, rfl, rfl, rfl, rfl, rfl, rfl, rfl, rfl, rfl, rfl, rfl, rfl, rfl, rfl, rfl, rfl, rfl, rfl, rfl, rfl, rfl, rfl, rfl, rfl, rfl, rfl, rfl, rfl, rfl, rfl, rfl, rfl, rfl, rfl, congrArg (fun b => some (Value.bool b)) (show (((5 == 5) || (5 == 6)) || (5 == 8)) = (((((!(nodeOk dx1)) || ((decide (((changedM dx1 (Int.tmod (dx5[2]'hi3) 100) (Int.tmod (dx5[0]'hi1) 1000)).2.1) ≤ ((changedM dx1 (Int.tmod (dx5[2]'hi4) 100) ((Int.tmod (dx5[0]'hi1) 1000) + (Int.tmod (dx5[1]'hi2) ((1000 : Int) - (Int.tmod (dx5[0]'hi1) 1000))))).2.1))) && (((changedM dx1 (Int.tmod (dx5[2]'hi3) 100) (Int.tmod (dx5[0]'hi1) 1000)).1) == ((changedM dx1 (Int.tmod (dx5[2]'hi4) 100) ((Int.tmod (dx5[0]'hi1) 1000) + (Int.tmod (dx5[1]'hi2) ((1000 : Int) - (Int.tmod (dx5[0]'hi1) 1000))))).1)))) && ((!((changedM dx1 dx2 dx3).2.2)) || ((((decide (0 ≤ ((changedM dx1 dx2 dx3).1))) && (decide (((changedM dx1 dx2 dx3).1) ≤ 99))) && (decide (0 ≤ ((changedM dx1 dx2 dx3).2.1)))) && (decide (((changedM dx1 dx2 dx3).2.1) ≤ 999))))) && (decide (kindName 7 = [98, 97, 99, 107]))) && (((5 == 5) || (5 == 6)) || (5 == 8))) by first | (rw [hg6, hg14, hg15, hg16, hg18, hg19, hg20, hg21, hg22] <;> rfl) | (simp [hg6, hg14, hg15, hg16, hg18, hg19, hg20, hg21, hg22]; done) | (simp only [nat_nlt] <;> simp)), trivial⟩ ⟨E, (by omega), hw1, h1, ho3⟩)
                      · exact absurd hg22 (by decide)
                    · exact absurd hg21 (by rw [decide_eq_true (op_rg (not_f hg16)).2.2]; decide)
                  · exact absurd hg20 (by rw [decide_eq_true (op_rg (not_f hg16)).2.1]; decide)
                · exact absurd hg19 (by rw [decide_eq_true (op_rg (not_f hg16)).1.2]; decide)
              · exact absurd hg18 (by rw [decide_eq_true (op_rg (not_f hg16)).1.1]; decide)
          · exact absurd hg15 (by rw [beq_iff_eq.2 (op_mono (not_f hg6) hpc hpa.1 (by omega) (by omega)).2]; decide)
        · exact absurd hg14 (by rw [decide_eq_true (op_mono (not_f hg6) hpc hpa.1 (by omega) (by omega)).1]; decide)
    clear E hw1 h1 ho3
    rintro w25 ⟨E, z33, hw1, h1, ho3⟩
    refine J_st (R_assign rfl) rfl (J_done ?_)
    refine S_ret (E_done1 rfl rfl E ?_)
    exact congrArg Value.bool (op_fin hpc hpa.1 (by omega) (by omega))

end Go.Proofs.YtpkimhbibjpcpaaDoor
