/- What the functions that the laws call come to: a contract each; no condition. -/
import Derived.Test.YtbnoffhbponglaaGreatFns5
namespace Go.Proofs.YtbnoffhbponglaaGreat
open Go Go.Proofs.YtbnoffhbponglaaGreat.X Go.Proofs
set_option maxHeartbeats 4000000 in
set_option maxRecDepth 20000 in
theorem c_copyCluster (cx : List Value) (x : Cluster) (w : World) (hx : Dat.R w 0 w.heap.size cx x) (hb : Ye x ≤ 1048576) : Ct Tryz.prog 26 [.agg cx.toArray] w (fun v w' => ∃ o1 o2 o3 o4 o5, v = .agg [o1, .int .i64 x.graph.workers, .int .i64 x.graph.cap, o2, o3, o4, o5].toArray ∧ OwC w' w.heap.size w'.heap.size o1 o2 o3 o4 o5 x) := by
 have hb2 := hb
 unfold Ye at hb2
 refine Yf Tryz.func26 Z Tryz.ntmps26 Z ?_
 obtain ⟨o1, o2, o3, o4, o5, rfl, hd1, hd2, hd3, hd4, hd5⟩ := Cluster.op hx
 refine Q7 [(0, .agg [o1, .int .i64 x.graph.workers, .int .i64 x.graph.cap, o2, o3, o4, o5].toArray)] ⟨Z, trivial⟩ ?_
 have E : Ext w w := Ext.refl w
 refine Qf (Qh [false, false] Z Z (Yx Z Z (fun b1 w1 e1 s1 h1 => ?_)))
 have g_b1 : w.heap.size ≤ b1 := by have := E.size; omega
 have y_b1 := h1.lt
 replace E := E.trans e1
 have z1 := e1.size
 refine Yu Xe Z (fun b2 w2 e2 s2 h2 => ?_)
 have g_b2 : w.heap.size ≤ b2 := by have := E.size; omega
 have y_b2 := h2.lt
 replace E := E.trans e2; replace h1 := h1.ext e2
 have z2 := e2.size
 refine Qd (Qf (S_regF Y8 [] 10 3 [] [(0, true), (1, true), (3, true), (4, true), (6, true), (7, true)] [(2, false), (5, false), (8, false), (9, true)] [(11, false)] (fun b => .pointer (some ⟨b, 0, none⟩)) (z := [.slice none 0 0, .int .i64 0, .int .i64 0, .slice none 0 0, .slice none 0 0, .slice none 0 0, .slice none 0 0]) (by decide +kernel) Z Z Z Z Z Z Z [(0, .agg [o1, .int .i64 x.graph.workers, .int .i64 x.graph.cap, o2, o3, o4, o5].toArray), (1, .pointer (some ⟨b1, 0, none⟩)), (2, .pointer (some ⟨b2, 0, none⟩)), (8, .pointer (some ⟨b1, 0, none⟩)), (9, .agg [o1, .int .i64 x.graph.workers, .int .i64 x.graph.cap].toArray), (11, .pointer (some ⟨b1, 5, none⟩)), (12, o4), (14, .pointer (some ⟨b1, 6, none⟩)), (15, o5)] [] Z trivial (fun w' => Ext w w' ∧ w2.heap.size ≤ w'.heap.size ∧ Blk w' b1 ([o1, .int .i64 x.graph.workers, .int .i64 x.graph.cap, o2, o3, o4, o5]) ∧ Blk w' b2 [.slice none 0 0, .int .i64 0, .int .i64 0, .slice none 0 0, .slice none 0 0, .slice none 0 0, .slice none 0 0]) (float_alloc Xe) (fun w3 e3 => ?_) (fun w3 hphi_w3 => ?_)))
 ·replace E := E.trans e3; replace h1 := h1.ext e3; replace h2 := h2.ext e3
  have z3 := e3.size
  refine Qa (Qb Ka Z) Z (Qa (Q1 X4 Z (h1.part 0 [o1, .int .i64 x.graph.workers, .int .i64 x.graph.cap] Z) Z) Z (Qa (Qb Kl Z) Z (Qa (Qi sc37 Z (h1.one 5 Z)) Z (Qa (Qb fl40_4 Z) Z (Qa (Qi sc38 Z (h1.one 6 Z)) Z (Qp ⟨Z, Z, Z, Z, Z, Z, Z, Z, Z, trivial⟩ ⟨E, (by omega), h1, h2⟩))))))
 clear E h1 h2
 obtain ⟨E, z4, h1, h2⟩ := hphi_w3
 refine JI_un Z (fun w4 e4 => ?_) Z
 replace E := E.trans e4; replace h1 := h1.ext e4; replace h2 := h2.ext e4
 have z5 := e4.size
 refine Qy Tryz.call58 Z (c_copyGraph [o1, .int .i64 x.graph.workers, .int .i64 x.graph.cap] x.graph _ (Graph.mkR x.graph (RdD.any (hd1.ext E))) (by omega)) Z (fun _ w5 e5 ho1 => ?_)
 obtain ⟨o6, rfl, ho1⟩ := ho1
 have g_ho1 : w.heap.size ≤ w4.heap.size := E.size
 replace E := E.trans e5; replace h1 := h1.ext e5; replace h2 := h2.ext e5
 have z6 := e5.size
 refine JI_go2 ?_
 refine JI_un Z (fun w6 e6 => ?_) Z
 replace E := E.trans e6; replace h1 := h1.ext e6; replace h2 := h2.ext e6; replace ho1 := ho1.ext e6
 have z7 := e6.size
 refine J_appendD sl37 Z Z (Own.nil w6 w6.heap.size w6.heap.size 5) ⟨_, _, Z⟩ (RdS.src (hd4.rd.ext E)) (Xc _) (by simp only [Y1, List.length_nil]; simp only [Enc.sz]; omega) (by decide) (by omega) (by omega) Z (fun v1 w7 e7 ho2 hb_ho2 => ?_)
 replace E := E.trans e7; replace h1 := h1.ext e7; replace h2 := h2.ext e7; replace ho1 := ho1.ext e7
 have z8 := e7.size
 have g_ho2 : w.heap.size ≤ w6.heap.size := by have := E.size; omega
 replace ho2 : Own w7 w6.heap.size w7.heap.size 5 v1 (List.flatMap (Enc.enc (α := Token)) x.tokens) := ho2
 refine JI_go2 ?_
 refine JI_un Z (fun w8 e8 => ?_) Z
 replace E := E.trans e8; replace h1 := h1.ext e8; replace h2 := h2.ext e8; replace ho1 := ho1.ext e8; replace ho2 := ho2.ext e8
 have z9 := e8.size
 refine J_appendD sl38 Z Z (Own.nil w8 w8.heap.size w8.heap.size 3) ⟨_, _, Z⟩ (RdS.src (hd5.rd.ext E)) (Xc _) (by simp only [Y1, List.length_nil]; simp only [Enc.sz]; omega) (by decide) (by omega) (by omega) Z (fun v2 w9 e9 ho3 hb_ho3 => ?_)
 replace E := E.trans e9; replace h1 := h1.ext e9; replace h2 := h2.ext e9; replace ho1 := ho1.ext e9; replace ho2 := ho2.ext e9
 have z10 := e9.size
 have g_ho3 : w.heap.size ≤ w8.heap.size := by have := E.size; omega
 replace ho3 : Own w9 w8.heap.size w9.heap.size 3 v2 (List.flatMap (Enc.enc (α := News)) x.news) := ho3
 refine JI_go2 ?_
 refine JI_seg 1 Z ?_
 have hbl1 : ∀ w, (Instr.build 40 ([(0, .agg [o6, .int .i64 x.graph.workers, .int .i64 x.graph.cap].toArray), (3, v1), (4, v2)]).toArray).run Tryz.prog w = .ok (.agg [o6, .int .i64 x.graph.workers, .int .i64 x.graph.cap, .slice none 0 0, .slice none 0 0, v1, v2].toArray) w := by clear E; obtain ⟨_, _, _, rfl⟩ := SlLen.shape ho1.rd.len; obtain ⟨_, _, _, rfl⟩ := Own.shape ho2; obtain ⟨_, _, _, rfl⟩ := Own.shape ho3; intro w; kernel_rfl
 refine Qa (R_buildC [o6, .int .i64 x.graph.workers, .int .i64 x.graph.cap, .slice none 0 0, .slice none 0 0, v1, v2] Z hbl1) Z (JI_go (JI_end Z (fun b3 w10 e10 g1 y1 h3 hI1 => ?_)))
 have hI1_0 : b3 < w4.heap.size ∨ w5.heap.size ≤ b3 := hI1 (_, _) (by simp)
 have hI1_1 : b3 < w6.heap.size ∨ w7.heap.size ≤ b3 := hI1 (_, _) (by simp)
 have hI1_2 : b3 < w8.heap.size ∨ w9.heap.size ≤ b3 := hI1 (_, _) (by simp)
 replace E := E.trans e10; replace h1 := h1.ext e10; replace h2 := h2.ext e10; replace ho1 := ho1.ext e10; replace ho2 := ho2.ext e10; replace ho3 := ho3.ext e10
 have z11 := e10.size
 have g_b3 : w.heap.size ≤ b3 := by have := E.size; omega
 have y_b3 := h3.lt
 refine J2_sub [(0, .agg [o1, .int .i64 x.graph.workers, .int .i64 x.graph.cap, o2, o3, o4, o5].toArray), (1, .pointer (some ⟨b1, 0, none⟩)), (2, .pointer (some ⟨b2, 0, none⟩)), (3, .pointer (some ⟨b3, 0, none⟩)), (8, .pointer (some ⟨b1, 0, none⟩)), (9, .agg [o1, .int .i64 x.graph.workers, .int .i64 x.graph.cap].toArray), (10, .agg [o6, .int .i64 x.graph.workers, .int .i64 x.graph.cap].toArray), (11, .pointer (some ⟨b1, 5, none⟩)), (12, o4), (13, v1), (14, .pointer (some ⟨b1, 6, none⟩)), (15, o5), (16, v2), (17, .agg [o6, .int .i64 x.graph.workers, .int .i64 x.graph.cap, .slice none 0 0, .slice none 0 0, v1, v2].toArray)] ⟨Z, Z, Z, Z, Z, Z, Z, Z, Z, Z, Z, Z, Z, Z, trivial⟩ ?_
 refine J2_of Z ?_
 refine Q9 (cs' := [o6, .int .i64 x.graph.workers, .int .i64 x.graph.cap, .slice none 0 0, .slice none 0 0, v1, v2]) Xe Z Z Z (Ql (RdD.one (OwS.rd ho1)) (Ql Z (Ql Z (Ql Z (Ql Z (Ql ho2.one (Ql ho3.one Z))))))) h3 (Nat.le_of_ble_eq_true Z) Z (fun w11 m1 h3' => ?_)
 replace h3 := h3'
 replace E := E.step m1 (fun g hg => by cases hg; omega); replace h1 := h1.mod m1 (fun g hg => by cases hg; omega); replace h2 := h2.mod m1 (fun g hg => by cases hg; omega); replace ho1 := ho1.mod m1 (fun g hg => by cases hg; omega); replace ho2 := ho2.mod m1 (fun g hg => by cases hg; omega); replace ho3 := ho3.mod m1 (fun g hg => by cases hg; omega)
 have z12 := m1.size
 refine Qd (Qf (Qf (Qh [true, true, true, true] Z Z (Qa (Qb X7 Z) Z (Qa (Qi sc35 Z (h1.one 3 Z)) Z (Qa (Q5 Tryz.underlying35 Z (hd2.ext E).len) Z (Qa (Qe Z) Z (Qd (Qz (Yi (fun (xq : Nat × Value) => let ⟨k3, vo3⟩ := xq; [(1, .pointer (some ⟨b1, 0, none⟩)), (2, .pointer (some ⟨b2, 0, none⟩)), (3, .pointer (some ⟨b3, 0, none⟩)), (19, o2), (20, .int .i64 ((x.workers.length : Nat) : Int)), (21, .int .i64 ((k3 : Nat) : Int))]) (fun (xq : Nat × Value) w' => let ⟨k3, vo3⟩ := xq; Ext w w' ∧ w11.heap.size ≤ w'.heap.size ∧ Blk w' b1 ([o1, .int .i64 x.graph.workers, .int .i64 x.graph.cap, o2, o3, o4, o5]) ∧ Blk w' b2 [.slice none 0 0, .int .i64 0, .int .i64 0, .slice none 0 0, .slice none 0 0, .slice none 0 0, .slice none 0 0] ∧ OwS w' w4.heap.size w5.heap.size o6 x.graph.nodes ∧ Own w' w6.heap.size w7.heap.size 5 v1 (List.flatMap (Enc.enc (α := Token)) x.tokens) ∧ Own w' w8.heap.size w9.heap.size 3 v2 (List.flatMap (Enc.enc (α := News)) x.news) ∧ k3 ≤ x.workers.length ∧ OwS w' w11.heap.size w'.heap.size vo3 (x.workers.take k3) ∧ Blk w' b3 [o6, .int .i64 x.graph.workers, .int .i64 x.graph.cap, vo3, .slice none 0 0, v1, v2]) (fun (xq : Nat × Value) => let ⟨k3, vo3⟩ := xq; x.workers.length - k3) (0, .slice none 0 0) ⟨Z, Z, Z, Z, Z, Z, trivial⟩ ⟨E, Nat.le_refl _, h1, h2, ho1, ho2, ho3, Nat.zero_le _, (OwS.nil _ _ _), h3⟩ ?_))))))))))
 clear E h1 h2 ho1 ho2 ho3 h3
 rintro ⟨k3, vo3⟩ w12 ⟨E, z13, h1, h2, ho1, ho2, ho3, hk3, hoC3, h3⟩
 refine Q7 [(1, .pointer (some ⟨b1, 0, none⟩)), (2, .pointer (some ⟨b2, 0, none⟩)), (3, .pointer (some ⟨b3, 0, none⟩)), (19, o2), (20, .int .i64 ((x.workers.length : Nat) : Int)), (21, .int .i64 ((k3 : Nat) : Int))] ⟨Z, Z, Z, Z, Z, Z, trivial⟩ ?_
 refine Qf (Qh [true] Z Z (Qa (Yb Z Z) Z (Qd (Qf (Qu Z (fun hc1 => ?_) (fun hc1 => ?_))))))
 ·have hc1n : k3 < x.workers.length := by first | (have h := of_decide_eq_true hc1; omega) | (have h := hc1; simp at h; omega)
  refine Qq (Qf (Qz (Qf (Qh [true, true, false, false] Z Z ?_))))
  have hi1 : k3 < x.workers.length := (by first | assumption | omega | (simp only [List.length_set]; first | assumption | omega))
  obtain ⟨_, hr1, ha1⟩ := RdD.get hd2 hi1
  obtain ⟨o7, o8, o9, o10, o11, o12, o13, o14, rfl, hd6, hd7, hd8, hd9, hd10, hd11, hd12, hd13⟩ := Worker.op hr1
  replace ha1 : At w (Xq o2) (Xp o2 + k3 * 8) [o7, o8, o9, o10, o11, o12, o13, o14] := ha1
  refine Qa (Qv (i := k3) Kr Z Z (hd2.ext E).1 hi1) Z (Qa (Q1 st72 Z (ha1.ext E) Z) Z (Yu st72 Z (fun b4 w13 e11 s3 h4 => ?_)))
  have g_b4 : w.heap.size ≤ b4 := by have := E.size; omega
  have y_b4 := h4.lt
  replace E := E.trans e11; replace h1 := h1.ext e11; replace h2 := h2.ext e11; replace ho1 := ho1.ext e11; replace ho2 := ho2.ext e11; replace ho3 := ho3.ext e11; replace hoC3 := hoC3.ext e11; replace h3 := h3.ext e11
  have z14 := e11.size
  refine Q9 (cs' := [o7, o8, o9, o10, o11, o12, o13, o14]) st72 Z Z Z (Ql (RdD.one (hd6.ext E)) (Ql (RdD.one (hd7.ext E)) (Ql (RdD.one (hd8.ext E)) (Ql (RdD.one (hd9.ext E)) (Ql (RdD.one (hd10.ext E)) (Ql (RdD.one (hd11.ext E)) (Ql (RdD.one (hd12.ext E)) (Ql (RdD.one (hd13.ext E)) Z)))))))) h4 (Nat.le_of_ble_eq_true Z) Z (fun w14 m2 h4' => ?_)
  replace h4 := h4'
  replace E := E.step m2 (fun g hg => by cases hg; omega); replace h1 := h1.mod m2 (fun g hg => by cases hg; omega); replace h2 := h2.mod m2 (fun g hg => by cases hg; omega); replace ho1 := ho1.mod m2 (fun g hg => by cases hg; omega); replace ho2 := ho2.mod m2 (fun g hg => by cases hg; omega); replace ho3 := ho3.mod m2 (fun g hg => by cases hg; omega); replace hoC3 := hoC3.mod m2 (fun g hg => by cases hg; omega); replace h3 := h3.mod m2 (fun g hg => by cases hg; omega)
  have z15 := m2.size
  refine Qd (S_regX Y8 [5] [(0, true), (1, true), (2, true), (3, false), (4, false)] [(5, false), (6, true), (7, false)] (by decide +kernel) Z Z (fun w15 e12 => ?_))
  replace E := E.trans e12; replace h1 := h1.ext e12; replace h2 := h2.ext e12; replace ho1 := ho1.ext e12; replace ho2 := ho2.ext e12; replace ho3 := ho3.ext e12; replace hoC3 := hoC3.ext e12; replace h3 := h3.ext e12; replace h4 := h4.ext e12
  have z16 := e12.size
  refine Qa (Qb X7 Z) Z (Qa (Qi sc35 Z (h3.one 3 Z)) Z (Qa (Q1 st72 Z h4.at Z) Z (Qy Tryz.call59 Z (c_copyWorker [o7, o8, o9, o10, o11, o12, o13, o14] (x.workers[k3]'hi1) _ (Worker.mkR (x.workers[k3]'hi1) (RdD.any (hd6.ext E)) (RdD.any (hd7.ext E)) (RdD.any (hd8.ext E)) (RdD.any (hd9.ext E)) (RdD.any (hd10.ext E)) (RdD.any (hd11.ext E)) (RdD.any (hd12.ext E)) (RdD.any (hd13.ext E))) (by have := sum_le (f := Yk) (show k3 < x.workers.length by omega); unfold Xv at hb2; omega)) Z (fun _ w16 e13 ho4 => ?_))))
  obtain ⟨_, rfl, ho4⟩ := ho4
  have g_ho4 : w.heap.size ≤ w15.heap.size := E.size
  replace E := E.trans e13; replace h1 := h1.ext e13; replace h2 := h2.ext e13; replace ho1 := ho1.ext e13; replace ho2 := ho2.ext e13; replace ho3 := ho3.ext e13; replace hoC3 := hoC3.ext e13; replace h3 := h3.ext e13; replace h4 := h4.ext e13
  have z17 := e13.size
  obtain ⟨o15, o16, o17, o18, o19, o20, o21, o22, rfl, sp1, hw1, hw2, hw3, hw4, hw5, hw6, hw7, hw8⟩ := Worker.opO ho4
  refine Y9 (vs := [.agg [o15, o16, o17, o18, o19, o20, o21, o22].toArray]) (css := [[o15, o16, o17, o18, o19, o20, o21, o22]]) Kr Z Z ⟨⟨Z, Z⟩, trivial⟩ Z Z (fun b5 w17 e14 s4 h5 => ?_)
  replace h5 : Blk w17 b5 [o15, o16, o17, o18, o19, o20, o21, o22] := h5
  have g_b5 : w.heap.size ≤ b5 := by have := E.size; omega
  have y_b5 := h5.lt
  replace E := E.trans e14; replace h1 := h1.ext e14; replace h2 := h2.ext e14; replace ho1 := ho1.ext e14; replace ho2 := ho2.ext e14; replace ho3 := ho3.ext e14; replace hoC3 := hoC3.ext e14; replace h3 := h3.ext e14; replace h4 := h4.ext e14; replace hw1 := hw1.ext e14; replace hw2 := hw2.ext e14; replace hw3 := hw3.ext e14; replace hw4 := hw4.ext e14; replace hw5 := hw5.ext e14; replace hw6 := hw6.ext e14; replace hw7 := hw7.ext e14; replace hw8 := hw8.ext e14
  have z18 := e14.size
  refine JX_tail ?_
  refine J2_X Z ?_
  refine J_appendS (lo := w11.heap.size) (hi := w12.heap.size) (lo2 := w15.heap.size) (hi2 := w17.heap.size) Kr Z Z hoC3 (Src.ofBlk h5 Z) (Worker.mkO (x.workers[k3]'hi1) sp1 (Own.widen hw1 (by omega) (by omega)) (Own.widen hw2 (by omega) (by omega)) (Own.widen hw3 (by omega) (by omega)) (Own.widen hw4 (by omega) (by omega)) (Own.widen hw5 (by omega) (by omega)) (Own.widen hw6 (by omega) (by omega)) (Own.widen hw7 (by omega) (by omega)) (Own.widen hw8 (by omega) (by omega))) (by omega) (by simp only [List.length_take, show Dat.sz Worker = 8 from Z, show Dat.sz Link = 6 from Z]; unfold Xv at hb2; omega) (by decide) (by omega) (by omega) (by omega) (by omega) (by omega) Z Z (fun v3 w18 m3 ho5 => ?_)
  have hqb := OwS.inn hoC3
  replace E := E.step m3 (fun g hg => by have := hqb g hg; omega); replace h1 := h1.mod m3 (fun g hg => by have := hqb g hg; omega); replace h2 := h2.mod m3 (fun g hg => by have := hqb g hg; omega); replace ho1 := ho1.mod m3 (fun g hg => by have := hqb g hg; omega); replace ho2 := ho2.mod m3 (fun g hg => by have := hqb g hg; omega); replace ho3 := ho3.mod m3 (fun g hg => by have := hqb g hg; omega); replace h3 := h3.mod m3 (fun g hg => by have := hqb g hg; omega); replace h4 := h4.mod m3 (fun g hg => by have := hqb g hg; omega)
  have z19 := m3.size
  clear hqb
  refine JX_go ?_
  refine Qa (Qb X7 Z) Z (Yd (cs' := [o6, .int .i64 x.graph.workers, .int .i64 x.graph.cap, v3, .slice none 0 0, v1, v2]) sc35 Z Z (RdD.one (OwS.rd ho5)) h3 (Nat.le_of_ble_eq_true Z) Z (fun w19 m4 h3' => ?_))
  replace h3 := h3'
  replace E := E.step m4 (fun g hg => by cases hg; omega); replace h1 := h1.mod m4 (fun g hg => by cases hg; omega); replace h2 := h2.mod m4 (fun g hg => by cases hg; omega); replace ho1 := ho1.mod m4 (fun g hg => by cases hg; omega); replace ho2 := ho2.mod m4 (fun g hg => by cases hg; omega); replace ho3 := ho3.mod m4 (fun g hg => by cases hg; omega); replace h4 := h4.mod m4 (fun g hg => by cases hg; omega); replace ho5 := ho5.mod m4 (fun g hg => by cases hg; omega)
  have z20 := m4.size
  refine Qd (Q4 (Yt (Qh [true, true] Z Z (Qa (Q8 Z Z (Yr hc1n (hd2.ext E).1.1)) Z (Qa (Qe Z) Z (Qd (Q4 (Ya (k3 + 1, v3) (by simp; omega) ⟨Z, Z, Z, Z, Z, Z, trivial⟩ ⟨E, (by omega), h1, h2, ho1, ho2, ho3, (by omega), (by rw [List.take_succ_eq_append_getElem (by assumption)]; exact OwS.widen ho5 (by omega) (by omega)), h3⟩))))))))
 ·have hc1n : ¬ k3 < x.workers.length := by first | (have h := of_decide_eq_false hc1; omega) | (have h := hc1; simp at h; omega)
  refine Yj (Q3 (Q2 ?_))
  refine Qf (Qf (Qh [true, true, true, true] Z Z (Qa (Qb Xn Z) Z (Qa (Qi sc36 Z (h1.one 4 Z)) Z (Qa (Q5 Tryz.underlying36 Z (hd3.ext E).len) Z (Qa (Qe Z) Z (Qd (Qz (Yi (fun (xq : Nat × Value) => let ⟨k4, vo4⟩ := xq; [(2, .pointer (some ⟨b2, 0, none⟩)), (3, .pointer (some ⟨b3, 0, none⟩)), (34, o3), (35, .int .i64 ((x.links.length : Nat) : Int)), (36, .int .i64 ((k4 : Nat) : Int))]) (fun (xq : Nat × Value) w' => let ⟨k4, vo4⟩ := xq; Ext w w' ∧ w12.heap.size ≤ w'.heap.size ∧ Blk w' b1 ([o1, .int .i64 x.graph.workers, .int .i64 x.graph.cap, o2, o3, o4, o5]) ∧ Blk w' b2 [.slice none 0 0, .int .i64 0, .int .i64 0, .slice none 0 0, .slice none 0 0, .slice none 0 0, .slice none 0 0] ∧ OwS w' w4.heap.size w5.heap.size o6 x.graph.nodes ∧ Own w' w6.heap.size w7.heap.size 5 v1 (List.flatMap (Enc.enc (α := Token)) x.tokens) ∧ Own w' w8.heap.size w9.heap.size 3 v2 (List.flatMap (Enc.enc (α := News)) x.news) ∧ OwS w' w11.heap.size w12.heap.size vo3 (x.workers.take k3) ∧ k4 ≤ x.links.length ∧ OwS w' w12.heap.size w'.heap.size vo4 (x.links.take k4) ∧ Blk w' b3 [o6, .int .i64 x.graph.workers, .int .i64 x.graph.cap, vo3, vo4, v1, v2]) (fun (xq : Nat × Value) => let ⟨k4, vo4⟩ := xq; x.links.length - k4) (0, .slice none 0 0) ⟨Z, Z, Z, Z, Z, trivial⟩ ⟨E, Nat.le_refl _, h1, h2, ho1, ho2, ho3, hoC3, Nat.zero_le _, (OwS.nil _ _ _), h3⟩ ?_)))))))))
  clear E h1 h2 ho1 ho2 ho3 hoC3 h3
  rintro ⟨k4, vo4⟩ w20 ⟨E, z21, h1, h2, ho1, ho2, ho3, hoC3, hk4, hoC4, h3⟩
  refine Q7 [(2, .pointer (some ⟨b2, 0, none⟩)), (3, .pointer (some ⟨b3, 0, none⟩)), (34, o3), (35, .int .i64 ((x.links.length : Nat) : Int)), (36, .int .i64 ((k4 : Nat) : Int))] ⟨Z, Z, Z, Z, Z, trivial⟩ ?_
  refine Qf (Qh [true] Z Z (Qa (Yb Z Z) Z (Qd (Qf (Qu Z (fun hc2 => ?_) (fun hc2 => ?_))))))
  ·have hc2n : k4 < x.links.length := by first | (have h := of_decide_eq_true hc2; omega) | (have h := hc2; simp at h; omega)
   refine Qq (Qf (Qz (Qf (Qh [true, true, false, false] Z Z ?_))))
   have hi2 : k4 < x.links.length := (by first | assumption | omega | (simp only [List.length_set]; first | assumption | omega))
   obtain ⟨_, hr2, ha2⟩ := RdD.get hd3 hi2
   obtain ⟨o23, rfl, hd14⟩ := Link.op hr2
   replace ha2 : At w (Xq o3) (Xp o3 + k4 * 6) [.int .i64 ((x.links[k4]'hi2).cap), o23, .int .i64 ((x.links[k4]'hi2).credits), .int .i64 ((x.links[k4]'hi2).back), .int .i64 ((x.links[k4]'hi2).sent), .int .i64 ((x.links[k4]'hi2).got)] := ha2
   refine Qa (Qv (i := k4) Ko Z Z (hd3.ext E).1 hi2) Z (Qa (Q1 Xd Z (ha2.ext E) Z) Z (Yu Xd Z (fun b6 w21 e15 s5 h6 => ?_)))
   have g_b6 : w.heap.size ≤ b6 := by have := E.size; omega
   have y_b6 := h6.lt
   replace E := E.trans e15; replace h1 := h1.ext e15; replace h2 := h2.ext e15; replace ho1 := ho1.ext e15; replace ho2 := ho2.ext e15; replace ho3 := ho3.ext e15; replace hoC3 := hoC3.ext e15; replace hoC4 := hoC4.ext e15; replace h3 := h3.ext e15
   have z22 := e15.size
   refine Q9 (cs' := [.int .i64 ((x.links[k4]'hi2).cap), o23, .int .i64 ((x.links[k4]'hi2).credits), .int .i64 ((x.links[k4]'hi2).back), .int .i64 ((x.links[k4]'hi2).sent), .int .i64 ((x.links[k4]'hi2).got)]) Xd Z Z Z (Ql Z (Ql (RdD.one (hd14.ext E)) (Ql Z (Ql Z (Ql Z (Ql Z Z)))))) h6 (Nat.le_of_ble_eq_true Z) Z (fun w22 m5 h6' => ?_)
   replace h6 := h6'
   replace E := E.step m5 (fun g hg => by cases hg; omega); replace h1 := h1.mod m5 (fun g hg => by cases hg; omega); replace h2 := h2.mod m5 (fun g hg => by cases hg; omega); replace ho1 := ho1.mod m5 (fun g hg => by cases hg; omega); replace ho2 := ho2.mod m5 (fun g hg => by cases hg; omega); replace ho3 := ho3.mod m5 (fun g hg => by cases hg; omega); replace hoC3 := hoC3.mod m5 (fun g hg => by cases hg; omega); replace hoC4 := hoC4.mod m5 (fun g hg => by cases hg; omega); replace h3 := h3.mod m5 (fun g hg => by cases hg; omega)
   have z23 := m5.size
   refine Qd (S_regX Y8 [5] [(0, true), (1, true), (2, true), (3, false), (4, false)] [(5, false), (6, true), (7, false)] (by decide +kernel) Z Z (fun w23 e16 => ?_))
   replace E := E.trans e16; replace h1 := h1.ext e16; replace h2 := h2.ext e16; replace ho1 := ho1.ext e16; replace ho2 := ho2.ext e16; replace ho3 := ho3.ext e16; replace hoC3 := hoC3.ext e16; replace hoC4 := hoC4.ext e16; replace h3 := h3.ext e16; replace h6 := h6.ext e16
   have z24 := e16.size
   refine Qa (Qb Xn Z) Z (Qa (Qi sc36 Z (h3.one 4 Z)) Z (Qa (Q1 Xd Z h6.at Z) Z (Qy Tryz.call60 Z (c_copyLink [.int .i64 ((x.links[k4]'hi2).cap), o23, .int .i64 ((x.links[k4]'hi2).credits), .int .i64 ((x.links[k4]'hi2).back), .int .i64 ((x.links[k4]'hi2).sent), .int .i64 ((x.links[k4]'hi2).got)] (x.links[k4]'hi2) _ (Link.mkR (x.links[k4]'hi2) (RdD.any (hd14.ext E))) (by have := sum_le (f := Y0) (show k4 < x.links.length by omega); unfold Xv at hb2; omega)) Z (fun _ w24 e17 ho6 => ?_))))
   obtain ⟨_, rfl, ho6⟩ := ho6
   have g_ho6 : w.heap.size ≤ w23.heap.size := E.size
   replace E := E.trans e17; replace h1 := h1.ext e17; replace h2 := h2.ext e17; replace ho1 := ho1.ext e17; replace ho2 := ho2.ext e17; replace ho3 := ho3.ext e17; replace hoC3 := hoC3.ext e17; replace hoC4 := hoC4.ext e17; replace h3 := h3.ext e17; replace h6 := h6.ext e17
   have z25 := e17.size
   obtain ⟨o24, rfl, sp2, hw9⟩ := Link.opO ho6
   refine Y9 (vs := [.agg [.int .i64 ((x.links[k4]'hi2).cap), o24, .int .i64 ((x.links[k4]'hi2).credits), .int .i64 ((x.links[k4]'hi2).back), .int .i64 ((x.links[k4]'hi2).sent), .int .i64 ((x.links[k4]'hi2).got)].toArray]) (css := [[.int .i64 ((x.links[k4]'hi2).cap), o24, .int .i64 ((x.links[k4]'hi2).credits), .int .i64 ((x.links[k4]'hi2).back), .int .i64 ((x.links[k4]'hi2).sent), .int .i64 ((x.links[k4]'hi2).got)]]) Ko Z Z ⟨⟨Z, Z⟩, trivial⟩ Z Z (fun b7 w25 e18 s6 h7 => ?_)
   replace h7 : Blk w25 b7 [.int .i64 ((x.links[k4]'hi2).cap), o24, .int .i64 ((x.links[k4]'hi2).credits), .int .i64 ((x.links[k4]'hi2).back), .int .i64 ((x.links[k4]'hi2).sent), .int .i64 ((x.links[k4]'hi2).got)] := h7
   have g_b7 : w.heap.size ≤ b7 := by have := E.size; omega
   have y_b7 := h7.lt
   replace E := E.trans e18; replace h1 := h1.ext e18; replace h2 := h2.ext e18; replace ho1 := ho1.ext e18; replace ho2 := ho2.ext e18; replace ho3 := ho3.ext e18; replace hoC3 := hoC3.ext e18; replace hoC4 := hoC4.ext e18; replace h3 := h3.ext e18; replace h6 := h6.ext e18; replace hw9 := hw9.ext e18
   have z26 := e18.size
   refine JX_tail ?_
   refine J2_X Z ?_
   refine J_appendS (lo := w12.heap.size) (hi := w20.heap.size) (lo2 := w23.heap.size) (hi2 := w25.heap.size) Ko Z Z hoC4 (Src.ofBlk h7 Z) (Link.mkO (x.links[k4]'hi2) sp2 (Own.widen hw9 (by omega) (by omega))) (by omega) (by simp only [List.length_take, show Dat.sz Worker = 8 from Z, show Dat.sz Link = 6 from Z]; unfold Xv at hb2; omega) (by decide) (by omega) (by omega) (by omega) (by omega) (by omega) Z Z (fun v4 w26 m6 ho7 => ?_)
   have hqb := OwS.inn hoC4
   replace E := E.step m6 (fun g hg => by have := hqb g hg; omega); replace h1 := h1.mod m6 (fun g hg => by have := hqb g hg; omega); replace h2 := h2.mod m6 (fun g hg => by have := hqb g hg; omega); replace ho1 := ho1.mod m6 (fun g hg => by have := hqb g hg; omega); replace ho2 := ho2.mod m6 (fun g hg => by have := hqb g hg; omega); replace ho3 := ho3.mod m6 (fun g hg => by have := hqb g hg; omega); replace hoC3 := hoC3.mod m6 (fun g hg => by have := hqb g hg; omega); replace h3 := h3.mod m6 (fun g hg => by have := hqb g hg; omega); replace h6 := h6.mod m6 (fun g hg => by have := hqb g hg; omega)
   have z27 := m6.size
   clear hqb
   refine JX_go ?_
   refine Qa (Qb Xn Z) Z (Yd (cs' := [o6, .int .i64 x.graph.workers, .int .i64 x.graph.cap, vo3, v4, v1, v2]) sc36 Z Z (RdD.one (OwS.rd ho7)) h3 (Nat.le_of_ble_eq_true Z) Z (fun w27 m7 h3' => ?_))
   replace h3 := h3'
   replace E := E.step m7 (fun g hg => by cases hg; omega); replace h1 := h1.mod m7 (fun g hg => by cases hg; omega); replace h2 := h2.mod m7 (fun g hg => by cases hg; omega); replace ho1 := ho1.mod m7 (fun g hg => by cases hg; omega); replace ho2 := ho2.mod m7 (fun g hg => by cases hg; omega); replace ho3 := ho3.mod m7 (fun g hg => by cases hg; omega); replace hoC3 := hoC3.mod m7 (fun g hg => by cases hg; omega); replace h6 := h6.mod m7 (fun g hg => by cases hg; omega); replace ho7 := ho7.mod m7 (fun g hg => by cases hg; omega)
   have z28 := m7.size
   refine Qd (Q4 (Yt (Qh [true, true] Z Z (Qa (Q8 Z Z (Yr hc2n (hd3.ext E).1.1)) Z (Qa (Qe Z) Z (Qd (Q4 (Ya (k4 + 1, v4) (by simp; omega) ⟨Z, Z, Z, Z, Z, trivial⟩ ⟨E, (by omega), h1, h2, ho1, ho2, ho3, hoC3, (by omega), (by rw [List.take_succ_eq_append_getElem (by assumption)]; exact OwS.widen ho7 (by omega) (by omega)), h3⟩))))))))
  ·have hc2n : ¬ k4 < x.links.length := by first | (have h := of_decide_eq_false hc2; omega) | (have h := hc2; simp at h; omega)
   refine Yj (Q3 (Q2 ?_))
   refine Qf (Qh [true, false] Z Z (Qa (Q1 Xe Z h3.at Z) Z (Q9 (cs' := [o6, .int .i64 x.graph.workers, .int .i64 x.graph.cap, vo3, vo4, v1, v2]) Xe Z Z Z (Ql (RdD.one (OwS.rd ho1)) (Ql Z (Ql Z (Ql (RdD.one (OwS.rd hoC3)) (Ql (RdD.one (OwS.rd hoC4)) (Ql ho2.one (Ql ho3.one Z))))))) h2 (Nat.le_of_ble_eq_true Z) Z (fun w28 m8 h2' => ?_))))
   replace h2 := h2'
   replace E := E.step m8 (fun g hg => by cases hg; omega); replace h1 := h1.mod m8 (fun g hg => by cases hg; omega); replace ho1 := ho1.mod m8 (fun g hg => by cases hg; omega); replace ho2 := ho2.mod m8 (fun g hg => by cases hg; omega); replace ho3 := ho3.mod m8 (fun g hg => by cases hg; omega); replace hoC3 := hoC3.mod m8 (fun g hg => by cases hg; omega); replace hoC4 := hoC4.mod m8 (fun g hg => by cases hg; omega); replace h3 := h3.mod m8 (fun g hg => by cases hg; omega)
   have z29 := m8.size
   refine Qd (Qw (Xl Z Z (Yn Xe h2.at Z) E ?_))
   rw [List.take_of_length_le (by omega)] at hoC3 hoC4
   exact ⟨_, _, _, _, _, Z, OwC.of x ho1 hoC3 hoC4 ho2 ho3 (by have := E.size; omega) (by omega)⟩

set_option maxHeartbeats 4000000 in
set_option maxRecDepth 20000 in
theorem s_l14Copy (cx : List Value) (x : Cluster) (w : World) (hx : Dat.R w 0 w.heap.size cx x) (hb : Ye x ≤ 1048576) : Ct Tryz.prog 50 [.agg cx.toArray] w (fun v w' => ∃ o1 o2 o3 o4 o5, v = .agg [o1, .int .i64 x.graph.workers, .int .i64 x.graph.cap, o2, o3, o4, o5].toArray ∧ OwC w' w.heap.size w'.heap.size o1 o2 o3 o4 o5 x) := by
 have hb2 := hb
 unfold Ye at hb2
 refine Yf Tryz.func50 Z Tryz.ntmps50 Z ?_
 obtain ⟨o1, o2, o3, o4, o5, rfl, hd1, hd2, hd3, hd4, hd5⟩ := Cluster.op hx
 refine Q7 [(0, .agg [o1, .int .i64 x.graph.workers, .int .i64 x.graph.cap, o2, o3, o4, o5].toArray)] ⟨Z, trivial⟩ ?_
 have E : Ext w w := Ext.refl w
 refine Qf (Qh [false, false] Z Z (Yx Z Z (fun b1 w1 e1 s1 h1 => ?_)))
 have g_b1 : w.heap.size ≤ b1 := by have := E.size; omega
 have y_b1 := h1.lt
 replace E := E.trans e1
 have z1 := e1.size
 refine Yu Xe Z (fun b2 w2 e2 s2 h2 => ?_)
 have g_b2 : w.heap.size ≤ b2 := by have := E.size; omega
 have y_b2 := h2.lt
 replace E := E.trans e2; replace h1 := h1.ext e2
 have z2 := e2.size
 refine Qd (Qf (S_regQ Y8 [(0, true), (1, true), (4, true), (5, true), (8, true), (9, true)] [⟨2, 8, 0, [], false, none, some (fun w0 w v f => ∃ o, v = .agg [o, .int .i64 x.graph.workers, .int .i64 x.graph.cap].toArray ∧ OwF w w0.heap.size w.heap.size o x.graph.nodes f)⟩, ⟨3, 9, 5, [], true, none, none⟩, ⟨6, 12, 5, List.flatMap (Enc.enc (α := Token)) x.tokens, false, some (3, 9), none⟩, ⟨7, 13, 3, [], true, none, none⟩, ⟨10, 16, 3, List.flatMap (Enc.enc (α := News)) x.news, false, some (7, 13), none⟩] ⟨12, 3, 0, [], false, none, some (fun _ w v f => ∃ b, v = .pointer (some ⟨b, 0, none⟩) ∧ Blk w b [.slice none 0 0, .int .i64 0, .int .i64 0, .slice none 0 0, .slice none 0 0, .slice none 0 0, .slice none 0 0] ∧ f = [b])⟩ [(11, true), (13, false)] [(11, true), (12, false), (13, false)] (by kernel_rfl) (by kernel_rfl) Z Z Z [(0, .agg [o1, .int .i64 x.graph.workers, .int .i64 x.graph.cap, o2, o3, o4, o5].toArray), (1, .pointer (some ⟨b1, 0, none⟩)), (2, .pointer (some ⟨b2, 0, none⟩)), (6, .pointer (some ⟨b1, 0, none⟩)), (7, .agg [o1, .int .i64 x.graph.workers, .int .i64 x.graph.cap].toArray), (10, .pointer (some ⟨b1, 5, none⟩)), (11, o4), (14, .pointer (some ⟨b1, 6, none⟩)), (15, o5)] (fun w' => Ext w w' ∧ w2.heap.size ≤ w'.heap.size ∧ Blk w' b1 ([o1, .int .i64 x.graph.workers, .int .i64 x.graph.cap, o2, o3, o4, o5]) ∧ Blk w' b2 [.slice none 0 0, .int .i64 0, .int .i64 0, .slice none 0 0, .slice none 0 0, .slice none 0 0, .slice none 0 0]) (fun w3 e3 => ?_) (fun w3 hphi_w3 => ?_)))
 ·replace E := E.trans e3; replace h1 := h1.ext e3; replace h2 := h2.ext e3
  have z3 := e3.size
  refine Qa (Qb Ka Z) Z (Qa (Q1 X4 Z (h1.part 0 [o1, .int .i64 x.graph.workers, .int .i64 x.graph.cap] Z) Z) Z (Qa (Qb Kl Z) Z (Qa (Qi sc37 Z (h1.one 5 Z)) Z (Qa (Qb fl40_4 Z) Z (Qa (Qi sc38 Z (h1.one 6 Z)) Z (Qp ⟨Z, Z, Z, Z, Z, Z, Z, Z, Z, trivial⟩ ⟨E, (by omega), h1, h2⟩))))))
 clear E h1 h2
 obtain ⟨E, z4, h1, h2⟩ := hphi_w3
 refine ⟨⟨⟨_, Z, Z, Z, Z, ?_⟩, ⟨_, Z, Z, Z, Z, ?_⟩, ⟨_, Z, Z, Z, Z, ?_⟩, ⟨_, Z, Z, Z, Z, ?_⟩, ⟨_, Z, Z, Z, Z, ?_⟩, ⟨_, Z, Z, Z, Z, ?_⟩, trivial⟩, ?_, ?_⟩
 ·exact step_callX Tryz.call92 rfl (fun wX eX => by have E := E.trans eX; exact Ct.mono (s_l08Copy [o1, .int .i64 x.graph.workers, .int .i64 x.graph.cap] x.graph _ (Graph.mkR x.graph (RdD.any (hd1.ext E))) (by omega)) fun v w' e h => by obtain ⟨o, rfl, h⟩ := h; obtain ⟨f, h⟩ := OwS.owf h; exact ⟨f, ⟨o, rfl, h.widen eX.size (Nat.le_refl _)⟩, h.in2⟩)
 ·exact step_lit sl37
 ·exact step_app sl37 Z (fun _ eX => RdS.src (RdS.ext (hd4.rd.ext E) eX)) (Xc _) (by simp only [Y1, List.length_nil]; simp only [Enc.sz]; omega) (by decide)
 ·exact step_lit sl38
 ·exact step_app sl38 Z (fun _ eX => RdS.src (RdS.ext (hd5.rd.ext E) eX)) (Xc _) (by simp only [Y1, List.length_nil]; simp only [Enc.sz]; omega) (by decide)
 ·exact step_box Xe
 ·intro w4 e4
  intro v1 f1 ho1 v2 f2 ho2 v3 f3 ho3 v4 f4 ho4 v5 f5 ho5 v6 f6 ho6 sp1
  obtain ⟨_, _, eX, ⟨v1, rfl, ho1⟩, _⟩ := ho1; replace ho1 := OwF.widen (OwF.ext ho1 eX) (Nat.le_refl _) eX.size
  obtain ⟨ho2, rfl⟩ := ho2
  obtain ⟨ho3, rfl⟩ := ho3
  obtain ⟨ho4, rfl⟩ := ho4
  obtain ⟨ho5, rfl⟩ := ho5
  obtain ⟨_, _, eX, ⟨v6, rfl, ho6, rfl⟩, f6b⟩ := ho6; replace ho6 := Blk.ext ho6 eX; replace f6b := And.intro (f6b v6 (by simp)).1 ho6.lt; clear eX
  replace sp1 : DjL [f1, (blks v3), (blks v5), [v6]] := sp1
  have g_sp1 : w.heap.size ≤ w3.heap.size := E.size
  replace E := E.trans e4; replace h1 := h1.ext e4; replace h2 := h2.ext e4
  have z5 := e4.size
  clear ho2
  replace ho3 : Own w4 w3.heap.size w4.heap.size 5 v3 (List.flatMap (Enc.enc (α := Token)) x.tokens) := ho3
  clear ho4
  replace ho5 : Own w4 w3.heap.size w4.heap.size 3 v5 (List.flatMap (Enc.enc (α := News)) x.news) := ho5
  have g_v6 : w.heap.size ≤ v6 := by have := E.size; omega
  have y_v6 := ho6.lt
  refine J_sub [(0, .agg [o1, .int .i64 x.graph.workers, .int .i64 x.graph.cap, o2, o3, o4, o5].toArray), (1, .pointer (some ⟨b1, 0, none⟩)), (2, .pointer (some ⟨b2, 0, none⟩)), (3, .pointer (some ⟨v6, 0, none⟩)), (6, .pointer (some ⟨b1, 0, none⟩)), (7, .agg [o1, .int .i64 x.graph.workers, .int .i64 x.graph.cap].toArray), (8, .agg [v1, .int .i64 x.graph.workers, .int .i64 x.graph.cap].toArray), (10, .pointer (some ⟨b1, 5, none⟩)), (11, o4), (12, v3), (14, .pointer (some ⟨b1, 6, none⟩)), (15, o5), (16, v5)] ⟨Z, Z, Z, Z, Z, Z, Z, Z, Z, Z, Z, Z, Z, trivial⟩ ?_
  have hbl1 : ∀ w, (Instr.build 40 ([(0, .agg [v1, .int .i64 x.graph.workers, .int .i64 x.graph.cap].toArray), (3, v3), (4, v5)]).toArray).run Tryz.prog w = .ok (.agg [v1, .int .i64 x.graph.workers, .int .i64 x.graph.cap, .slice none 0 0, .slice none 0 0, v3, v5].toArray) w := by clear E; obtain ⟨_, _, _, rfl⟩ := SlLen.shape (RdD.len (OwF.rd ho1)); obtain ⟨_, _, _, rfl⟩ := Own.shape ho3; obtain ⟨_, _, _, rfl⟩ := Own.shape ho5; intro w; kernel_rfl
  refine Qa (R_buildC [v1, .int .i64 x.graph.workers, .int .i64 x.graph.cap, .slice none 0 0, .slice none 0 0, v3, v5] Z hbl1) Z (Q9 (cs' := [v1, .int .i64 x.graph.workers, .int .i64 x.graph.cap, .slice none 0 0, .slice none 0 0, v3, v5]) Xe Z Z Z (Ql (RdD.one (OwF.rd ho1)) (Ql Z (Ql Z (Ql Z (Ql Z (Ql ho3.one (Ql ho5.one Z))))))) ho6 (Nat.le_of_ble_eq_true Z) Z (fun w5 m1 ho6' => ?_))
  replace ho6 := ho6'
  have kq1 := Mod.kq (l := [v6]) m1 (fun g hg => by cases hg; simp)
  replace E := E.step m1 (fun g hg => by cases hg; omega); replace h1 := h1.mod m1 (fun g hg => by cases hg; omega); replace h2 := h2.mod m1 (fun g hg => by cases hg; omega); replace ho1 := OwF.kp ho1 (Kq.kp kq1 sp1.1.2.2.1); replace ho3 := Own.kp ho3 (Kq.kp kq1 sp1.2.1.2.1); replace ho5 := Own.kp ho5 (Kq.kp kq1 sp1.2.2.1.1)
  have z6 := m1.size
  refine Qd (Qf (Qf (Qh [true] Z Z (Qa (Qg Z) Z (Qd (Qz (Yi (fun (xq : Nat × Value) => let ⟨k3, vo3⟩ := xq; [(1, .pointer (some ⟨b1, 0, none⟩)), (2, .pointer (some ⟨b2, 0, none⟩)), (3, .pointer (some ⟨v6, 0, none⟩)), (4, .int .i64 ((k3 : Nat) : Int))]) (fun (xq : Nat × Value) w' => let ⟨k3, vo3⟩ := xq; Ext w w' ∧ w5.heap.size ≤ w'.heap.size ∧ Blk w' b1 ([o1, .int .i64 x.graph.workers, .int .i64 x.graph.cap, o2, o3, o4, o5]) ∧ Blk w' b2 [.slice none 0 0, .int .i64 0, .int .i64 0, .slice none 0 0, .slice none 0 0, .slice none 0 0, .slice none 0 0] ∧ OwF w' w3.heap.size w4.heap.size v1 x.graph.nodes f1 ∧ Own w' w3.heap.size w4.heap.size 5 v3 (List.flatMap (Enc.enc (α := Token)) x.tokens) ∧ Own w' w3.heap.size w4.heap.size 3 v5 (List.flatMap (Enc.enc (α := News)) x.news) ∧ k3 ≤ x.workers.length ∧ OwS w' w5.heap.size w'.heap.size vo3 (x.workers.take k3) ∧ Blk w' v6 [v1, .int .i64 x.graph.workers, .int .i64 x.graph.cap, vo3, .slice none 0 0, v3, v5]) (fun (xq : Nat × Value) => let ⟨k3, vo3⟩ := xq; x.workers.length - k3) (0, .slice none 0 0) ⟨Z, Z, Z, Z, trivial⟩ ⟨E, Nat.le_refl _, h1, h2, ho1, ho3, ho5, Nat.zero_le _, (OwS.nil _ _ _), ho6⟩ ?_)))))))
  clear E h1 h2 ho1 ho3 ho5 ho6
  rintro ⟨k3, vo3⟩ w6 ⟨E, z7, h1, h2, ho1, ho3, ho5, hk3, hoC3, ho6⟩
  refine Q7 [(1, .pointer (some ⟨b1, 0, none⟩)), (2, .pointer (some ⟨b2, 0, none⟩)), (3, .pointer (some ⟨v6, 0, none⟩)), (4, .int .i64 ((k3 : Nat) : Int))] ⟨Z, Z, Z, Z, trivial⟩ ?_
  refine Qf (Qf (Qh [true, true, true, true, true] Z Z (Qa (Qe Z) Z (Qa (Qb X7 Z) Z (Qa (Qi sc35 Z (h1.one 3 Z)) Z (Qa (Q5 Tryz.underlying35 Z (hd2.ext E).len) Z (Qa (Yb Z Z) Z (Qd (Qu Z (fun hc1 => ?_) (fun hc1 => ?_))))))))))
  ·have hc1n : k3 < x.workers.length := by first | (have h := of_decide_eq_true hc1; omega) | (have h := hc1; simp at h; omega)
   refine Qq (Qf (Qz (S_regX Y8 [9] [(0, true), (1, true), (2, true), (3, true), (4, true), (5, true), (6, true), (7, false), (8, false)] [(9, false), (10, true), (11, false)] (by decide +kernel) Z Z (fun w7 e5 => ?_))))
   replace E := E.trans e5; replace h1 := h1.ext e5; replace h2 := h2.ext e5; replace ho1 := ho1.ext e5; replace ho3 := ho3.ext e5; replace ho5 := ho5.ext e5; replace hoC3 := hoC3.ext e5; replace ho6 := ho6.ext e5
   have z8 := e5.size
   refine Qa (Qb X7 Z) Z (Qa (Qi sc35 Z (ho6.one 3 Z)) Z (Qa (Qb X7 Z) Z (Qa (Qi sc35 Z (h1.one 3 Z)) Z (Qa (Qe Z) Z ?_))))
   have hi1 : k3 < x.workers.length := (by first | assumption | omega | (simp only [List.length_set]; first | assumption | omega))
   obtain ⟨_, hr1, ha1⟩ := RdD.get hd2 hi1
   obtain ⟨o6, o7, o8, o9, o10, o11, o12, o13, rfl, hd6, hd7, hd8, hd9, hd10, hd11, hd12, hd13⟩ := Worker.op hr1
   replace ha1 : At w (Xq o2) (Xp o2 + k3 * 8) [o6, o7, o8, o9, o10, o11, o12, o13] := ha1
   refine Qa (Qv (i := k3) Kr Z Z (hd2.ext E).1 hi1) Z (Qa (Q1 st72 Z (ha1.ext E) Z) Z (Qy Tryz.call93 Z (s_l12Copy [o6, o7, o8, o9, o10, o11, o12, o13] (x.workers[k3]'hi1) _ (Worker.mkR (x.workers[k3]'hi1) (RdD.any (hd6.ext E)) (RdD.any (hd7.ext E)) (RdD.any (hd8.ext E)) (RdD.any (hd9.ext E)) (RdD.any (hd10.ext E)) (RdD.any (hd11.ext E)) (RdD.any (hd12.ext E)) (RdD.any (hd13.ext E))) (by have := sum_le (f := Yk) (show k3 < x.workers.length by omega); unfold Xv at hb2; omega)) Z (fun _ w8 e6 ho7 => ?_)))
   obtain ⟨_, rfl, ho7⟩ := ho7
   have g_ho7 : w.heap.size ≤ w7.heap.size := E.size
   replace E := E.trans e6; replace h1 := h1.ext e6; replace h2 := h2.ext e6; replace ho1 := ho1.ext e6; replace ho3 := ho3.ext e6; replace ho5 := ho5.ext e6; replace hoC3 := hoC3.ext e6; replace ho6 := ho6.ext e6
   have z9 := e6.size
   obtain ⟨o14, o15, o16, o17, o18, o19, o20, o21, rfl, sp2, hw1, hw2, hw3, hw4, hw5, hw6, hw7, hw8⟩ := Worker.opO ho7
   refine Y9 (vs := [.agg [o14, o15, o16, o17, o18, o19, o20, o21].toArray]) (css := [[o14, o15, o16, o17, o18, o19, o20, o21]]) Kr Z Z ⟨⟨Z, Z⟩, trivial⟩ Z Z (fun b3 w9 e7 s3 h3 => ?_)
   replace h3 : Blk w9 b3 [o14, o15, o16, o17, o18, o19, o20, o21] := h3
   have g_b3 : w.heap.size ≤ b3 := by have := E.size; omega
   have y_b3 := h3.lt
   replace E := E.trans e7; replace h1 := h1.ext e7; replace h2 := h2.ext e7; replace ho1 := ho1.ext e7; replace ho3 := ho3.ext e7; replace ho5 := ho5.ext e7; replace hoC3 := hoC3.ext e7; replace ho6 := ho6.ext e7; replace hw1 := hw1.ext e7; replace hw2 := hw2.ext e7; replace hw3 := hw3.ext e7; replace hw4 := hw4.ext e7; replace hw5 := hw5.ext e7; replace hw6 := hw6.ext e7; replace hw7 := hw7.ext e7; replace hw8 := hw8.ext e7
   have z10 := e7.size
   refine JX_tail ?_
   refine J2_X Z ?_
   refine J_appendS (lo := w5.heap.size) (hi := w6.heap.size) (lo2 := w7.heap.size) (hi2 := w9.heap.size) Kr Z Z hoC3 (Src.ofBlk h3 Z) (Worker.mkO (x.workers[k3]'hi1) sp2 (Own.widen hw1 (by omega) (by omega)) (Own.widen hw2 (by omega) (by omega)) (Own.widen hw3 (by omega) (by omega)) (Own.widen hw4 (by omega) (by omega)) (Own.widen hw5 (by omega) (by omega)) (Own.widen hw6 (by omega) (by omega)) (Own.widen hw7 (by omega) (by omega)) (Own.widen hw8 (by omega) (by omega))) (by omega) (by simp only [List.length_take, show Dat.sz Worker = 8 from Z, show Dat.sz Link = 6 from Z]; unfold Xv at hb2; omega) (by decide) (by omega) (by omega) (by omega) (by omega) (by omega) Z Z (fun v7 w10 m2 ho8 => ?_)
   have hqb := OwS.inn hoC3
   replace E := E.step m2 (fun g hg => by have := hqb g hg; omega); replace h1 := h1.mod m2 (fun g hg => by have := hqb g hg; omega); replace h2 := h2.mod m2 (fun g hg => by have := hqb g hg; omega); replace ho1 := ho1.mod m2 (fun g hg => by have := hqb g hg; omega); replace ho3 := ho3.mod m2 (fun g hg => by have := hqb g hg; omega); replace ho5 := ho5.mod m2 (fun g hg => by have := hqb g hg; omega); replace ho6 := ho6.mod m2 (fun g hg => by have := hqb g hg; omega)
   have z11 := m2.size
   clear hqb
   refine JX_go ?_
   refine Qa (Qb X7 Z) Z (Yd (cs' := [v1, .int .i64 x.graph.workers, .int .i64 x.graph.cap, v7, .slice none 0 0, v3, v5]) sc35 Z Z (RdD.one (OwS.rd ho8)) ho6 (Nat.le_of_ble_eq_true Z) Z (fun w11 m3 ho6' => ?_))
   replace ho6 := ho6'
   have kq2 := Mod.kq (l := [v6]) m3 (fun g hg => by cases hg; simp)
   replace E := E.step m3 (fun g hg => by cases hg; omega); replace h1 := h1.mod m3 (fun g hg => by cases hg; omega); replace h2 := h2.mod m3 (fun g hg => by cases hg; omega); replace ho1 := OwF.kp ho1 (Kq.kp kq2 sp1.1.2.2.1); replace ho3 := Own.kp ho3 (Kq.kp kq2 sp1.2.1.2.1); replace ho5 := Own.kp ho5 (Kq.kp kq2 sp1.2.2.1.1); replace ho8 := ho8.mod m3 (fun g hg => by cases hg; omega)
   have z12 := m3.size
   refine Qd (Q4 (Yt (Qh [true, true, true] Z Z (Qa (Qe Z) Z (Qa (Q8 Z Z (Yr hc1n (hd2.ext E).1.1)) Z (Qa (Qg Z) Z (Qd (Q4 (Ya (k3 + 1, v7) (by simp; omega) ⟨Z, Z, Z, Z, trivial⟩ ⟨E, (by omega), h1, h2, ho1, ho3, ho5, (by omega), (by rw [List.take_succ_eq_append_getElem (by assumption)]; exact OwS.widen ho8 (by omega) (by omega)), ho6⟩)))))))))
  ·have hc1n : ¬ k3 < x.workers.length := by first | (have h := of_decide_eq_false hc1; omega) | (have h := hc1; simp at h; omega)
   refine Yj (Q3 (Q2 ?_))
   refine Qf (Qf (Qh [true] Z Z (Qa (Qg Z) Z (Qd (Qz (Yi (fun (xq : Nat × Value) => let ⟨k4, vo4⟩ := xq; [(1, .pointer (some ⟨b1, 0, none⟩)), (2, .pointer (some ⟨b2, 0, none⟩)), (3, .pointer (some ⟨v6, 0, none⟩)), (5, .int .i64 ((k4 : Nat) : Int))]) (fun (xq : Nat × Value) w' => let ⟨k4, vo4⟩ := xq; Ext w w' ∧ w6.heap.size ≤ w'.heap.size ∧ Blk w' b1 ([o1, .int .i64 x.graph.workers, .int .i64 x.graph.cap, o2, o3, o4, o5]) ∧ Blk w' b2 [.slice none 0 0, .int .i64 0, .int .i64 0, .slice none 0 0, .slice none 0 0, .slice none 0 0, .slice none 0 0] ∧ OwF w' w3.heap.size w4.heap.size v1 x.graph.nodes f1 ∧ Own w' w3.heap.size w4.heap.size 5 v3 (List.flatMap (Enc.enc (α := Token)) x.tokens) ∧ Own w' w3.heap.size w4.heap.size 3 v5 (List.flatMap (Enc.enc (α := News)) x.news) ∧ OwS w' w5.heap.size w6.heap.size vo3 (x.workers.take k3) ∧ k4 ≤ x.links.length ∧ OwS w' w6.heap.size w'.heap.size vo4 (x.links.take k4) ∧ Blk w' v6 [v1, .int .i64 x.graph.workers, .int .i64 x.graph.cap, vo3, vo4, v3, v5]) (fun (xq : Nat × Value) => let ⟨k4, vo4⟩ := xq; x.links.length - k4) (0, .slice none 0 0) ⟨Z, Z, Z, Z, trivial⟩ ⟨E, Nat.le_refl _, h1, h2, ho1, ho3, ho5, hoC3, Nat.zero_le _, (OwS.nil _ _ _), ho6⟩ ?_))))))
   clear E h1 h2 ho1 ho3 ho5 hoC3 ho6
   rintro ⟨k4, vo4⟩ w12 ⟨E, z13, h1, h2, ho1, ho3, ho5, hoC3, hk4, hoC4, ho6⟩
   refine Q7 [(1, .pointer (some ⟨b1, 0, none⟩)), (2, .pointer (some ⟨b2, 0, none⟩)), (3, .pointer (some ⟨v6, 0, none⟩)), (5, .int .i64 ((k4 : Nat) : Int))] ⟨Z, Z, Z, Z, trivial⟩ ?_
   refine Qf (Qf (Qh [true, true, true, true, true] Z Z (Qa (Qe Z) Z (Qa (Qb Xn Z) Z (Qa (Qi sc36 Z (h1.one 4 Z)) Z (Qa (Q5 Tryz.underlying36 Z (hd3.ext E).len) Z (Qa (Yb Z Z) Z (Qd (Qu Z (fun hc2 => ?_) (fun hc2 => ?_))))))))))
   ·have hc2n : k4 < x.links.length := by first | (have h := of_decide_eq_true hc2; omega) | (have h := hc2; simp at h; omega)
    refine Qq (Qf (Qz (S_regX Y8 [9] [(0, true), (1, true), (2, true), (3, true), (4, true), (5, true), (6, true), (7, false), (8, false)] [(9, false), (10, true), (11, false)] (by decide +kernel) Z Z (fun w13 e8 => ?_))))
    replace E := E.trans e8; replace h1 := h1.ext e8; replace h2 := h2.ext e8; replace ho1 := ho1.ext e8; replace ho3 := ho3.ext e8; replace ho5 := ho5.ext e8; replace hoC3 := hoC3.ext e8; replace hoC4 := hoC4.ext e8; replace ho6 := ho6.ext e8
    have z14 := e8.size
    refine Qa (Qb Xn Z) Z (Qa (Qi sc36 Z (ho6.one 4 Z)) Z (Qa (Qb Xn Z) Z (Qa (Qi sc36 Z (h1.one 4 Z)) Z (Qa (Qe Z) Z ?_))))
    have hi2 : k4 < x.links.length := (by first | assumption | omega | (simp only [List.length_set]; first | assumption | omega))
    obtain ⟨_, hr2, ha2⟩ := RdD.get hd3 hi2
    obtain ⟨o22, rfl, hd14⟩ := Link.op hr2
    replace ha2 : At w (Xq o3) (Xp o3 + k4 * 6) [.int .i64 ((x.links[k4]'hi2).cap), o22, .int .i64 ((x.links[k4]'hi2).credits), .int .i64 ((x.links[k4]'hi2).back), .int .i64 ((x.links[k4]'hi2).sent), .int .i64 ((x.links[k4]'hi2).got)] := ha2
    refine Qa (Qv (i := k4) Ko Z Z (hd3.ext E).1 hi2) Z (Qa (Q1 Xd Z (ha2.ext E) Z) Z (Qy Tryz.call94 Z (s_l06Copy [.int .i64 ((x.links[k4]'hi2).cap), o22, .int .i64 ((x.links[k4]'hi2).credits), .int .i64 ((x.links[k4]'hi2).back), .int .i64 ((x.links[k4]'hi2).sent), .int .i64 ((x.links[k4]'hi2).got)] (x.links[k4]'hi2) _ (Link.mkR (x.links[k4]'hi2) (RdD.any (hd14.ext E))) (by have := sum_le (f := Y0) (show k4 < x.links.length by omega); unfold Xv at hb2; omega)) Z (fun _ w14 e9 ho9 => ?_)))
    obtain ⟨_, rfl, ho9⟩ := ho9
    have g_ho9 : w.heap.size ≤ w13.heap.size := E.size
    replace E := E.trans e9; replace h1 := h1.ext e9; replace h2 := h2.ext e9; replace ho1 := ho1.ext e9; replace ho3 := ho3.ext e9; replace ho5 := ho5.ext e9; replace hoC3 := hoC3.ext e9; replace hoC4 := hoC4.ext e9; replace ho6 := ho6.ext e9
    have z15 := e9.size
    obtain ⟨o23, rfl, sp3, hw9⟩ := Link.opO ho9
    refine Y9 (vs := [.agg [.int .i64 ((x.links[k4]'hi2).cap), o23, .int .i64 ((x.links[k4]'hi2).credits), .int .i64 ((x.links[k4]'hi2).back), .int .i64 ((x.links[k4]'hi2).sent), .int .i64 ((x.links[k4]'hi2).got)].toArray]) (css := [[.int .i64 ((x.links[k4]'hi2).cap), o23, .int .i64 ((x.links[k4]'hi2).credits), .int .i64 ((x.links[k4]'hi2).back), .int .i64 ((x.links[k4]'hi2).sent), .int .i64 ((x.links[k4]'hi2).got)]]) Ko Z Z ⟨⟨Z, Z⟩, trivial⟩ Z Z (fun b4 w15 e10 s4 h4 => ?_)
    replace h4 : Blk w15 b4 [.int .i64 ((x.links[k4]'hi2).cap), o23, .int .i64 ((x.links[k4]'hi2).credits), .int .i64 ((x.links[k4]'hi2).back), .int .i64 ((x.links[k4]'hi2).sent), .int .i64 ((x.links[k4]'hi2).got)] := h4
    have g_b4 : w.heap.size ≤ b4 := by have := E.size; omega
    have y_b4 := h4.lt
    replace E := E.trans e10; replace h1 := h1.ext e10; replace h2 := h2.ext e10; replace ho1 := ho1.ext e10; replace ho3 := ho3.ext e10; replace ho5 := ho5.ext e10; replace hoC3 := hoC3.ext e10; replace hoC4 := hoC4.ext e10; replace ho6 := ho6.ext e10; replace hw9 := hw9.ext e10
    have z16 := e10.size
    refine JX_tail ?_
    refine J2_X Z ?_
    refine J_appendS (lo := w6.heap.size) (hi := w12.heap.size) (lo2 := w13.heap.size) (hi2 := w15.heap.size) Ko Z Z hoC4 (Src.ofBlk h4 Z) (Link.mkO (x.links[k4]'hi2) sp3 (Own.widen hw9 (by omega) (by omega))) (by omega) (by simp only [List.length_take, show Dat.sz Worker = 8 from Z, show Dat.sz Link = 6 from Z]; unfold Xv at hb2; omega) (by decide) (by omega) (by omega) (by omega) (by omega) (by omega) Z Z (fun v8 w16 m4 ho10 => ?_)
    have hqb := OwS.inn hoC4
    replace E := E.step m4 (fun g hg => by have := hqb g hg; omega); replace h1 := h1.mod m4 (fun g hg => by have := hqb g hg; omega); replace h2 := h2.mod m4 (fun g hg => by have := hqb g hg; omega); replace ho1 := ho1.mod m4 (fun g hg => by have := hqb g hg; omega); replace ho3 := ho3.mod m4 (fun g hg => by have := hqb g hg; omega); replace ho5 := ho5.mod m4 (fun g hg => by have := hqb g hg; omega); replace hoC3 := hoC3.mod m4 (fun g hg => by have := hqb g hg; omega); replace ho6 := ho6.mod m4 (fun g hg => by have := hqb g hg; omega)
    have z17 := m4.size
    clear hqb
    refine JX_go ?_
    refine Qa (Qb Xn Z) Z (Yd (cs' := [v1, .int .i64 x.graph.workers, .int .i64 x.graph.cap, vo3, v8, v3, v5]) sc36 Z Z (RdD.one (OwS.rd ho10)) ho6 (Nat.le_of_ble_eq_true Z) Z (fun w17 m5 ho6' => ?_))
    replace ho6 := ho6'
    have kq3 := Mod.kq (l := [v6]) m5 (fun g hg => by cases hg; simp)
    replace E := E.step m5 (fun g hg => by cases hg; omega); replace h1 := h1.mod m5 (fun g hg => by cases hg; omega); replace h2 := h2.mod m5 (fun g hg => by cases hg; omega); replace ho1 := OwF.kp ho1 (Kq.kp kq3 sp1.1.2.2.1); replace ho3 := Own.kp ho3 (Kq.kp kq3 sp1.2.1.2.1); replace ho5 := Own.kp ho5 (Kq.kp kq3 sp1.2.2.1.1); replace hoC3 := hoC3.mod m5 (fun g hg => by cases hg; omega); replace ho10 := ho10.mod m5 (fun g hg => by cases hg; omega)
    have z18 := m5.size
    refine Qd (Q4 (Yt (Qh [true, true, true] Z Z (Qa (Qe Z) Z (Qa (Q8 Z Z (Yr hc2n (hd3.ext E).1.1)) Z (Qa (Qg Z) Z (Qd (Q4 (Ya (k4 + 1, v8) (by simp; omega) ⟨Z, Z, Z, Z, trivial⟩ ⟨E, (by omega), h1, h2, ho1, ho3, ho5, hoC3, (by omega), (by rw [List.take_succ_eq_append_getElem (by assumption)]; exact OwS.widen ho10 (by omega) (by omega)), ho6⟩)))))))))
   ·have hc2n : ¬ k4 < x.links.length := by first | (have h := of_decide_eq_false hc2; omega) | (have h := hc2; simp at h; omega)
    refine Yj (Q3 (Q2 ?_))
    refine Qf (Qh [true, false] Z Z (Qa (Q1 Xe Z ho6.at Z) Z (Q9 (cs' := [v1, .int .i64 x.graph.workers, .int .i64 x.graph.cap, vo3, vo4, v3, v5]) Xe Z Z Z (Ql (RdD.one (OwF.rd ho1)) (Ql Z (Ql Z (Ql (RdD.one (OwS.rd hoC3)) (Ql (RdD.one (OwS.rd hoC4)) (Ql ho3.one (Ql ho5.one Z))))))) h2 (Nat.le_of_ble_eq_true Z) Z (fun w18 m6 h2' => ?_))))
    replace h2 := h2'
    replace E := E.step m6 (fun g hg => by cases hg; omega); replace h1 := h1.mod m6 (fun g hg => by cases hg; omega); replace ho1 := ho1.mod m6 (fun g hg => by cases hg; omega); replace ho3 := ho3.mod m6 (fun g hg => by cases hg; omega); replace ho5 := ho5.mod m6 (fun g hg => by cases hg; omega); replace hoC3 := hoC3.mod m6 (fun g hg => by cases hg; omega); replace hoC4 := hoC4.mod m6 (fun g hg => by cases hg; omega); replace ho6 := ho6.mod m6 (fun g hg => by cases hg; omega)
    have z19 := m6.size
    refine Qd (Qw (Xl Z Z (Yn Xe h2.at Z) E ?_))
    rw [List.take_of_length_le (by omega)] at hoC3 hoC4
    exact ⟨_, _, _, _, _, Z, OwC.of2 x ho1 hoC3 hoC4 ho3 ho5 ⟨⟨sp1.1.1, sp1.1.2.1, trivial⟩, ⟨sp1.2.1.1, trivial⟩, trivial, trivial⟩ (by have := E.size; omega) (by omega)⟩
 ·intro w19 e11
  intro v9 f7 ho11 v10 f8 ho12 v11 f9 ho13 v12 f10 ho14 v13 f11 ho15 sp4
  obtain ⟨_, _, eX, ⟨v9, rfl, ho11⟩, _⟩ := ho11; replace ho11 := OwF.widen (OwF.ext ho11 eX) (Nat.le_refl _) eX.size
  obtain ⟨ho12, rfl⟩ := ho12
  obtain ⟨ho13, rfl⟩ := ho13
  obtain ⟨ho14, rfl⟩ := ho14
  obtain ⟨ho15, rfl⟩ := ho15
  replace sp4 : DjL [f7, (blks v11), (blks v13)] := sp4
  have g_sp4 : w.heap.size ≤ w3.heap.size := E.size
  replace E := E.trans e11; replace h1 := h1.ext e11; replace h2 := h2.ext e11
  have z20 := e11.size
  clear ho12
  replace ho13 : Own w19 w3.heap.size w19.heap.size 5 v11 (List.flatMap (Enc.enc (α := Token)) x.tokens) := ho13
  clear ho14
  replace ho15 : Own w19 w3.heap.size w19.heap.size 3 v13 (List.flatMap (Enc.enc (α := News)) x.news) := ho15
  refine J_sub [(0, .agg [o1, .int .i64 x.graph.workers, .int .i64 x.graph.cap, o2, o3, o4, o5].toArray), (1, .pointer (some ⟨b1, 0, none⟩)), (2, .pointer (some ⟨b2, 0, none⟩)), (6, .pointer (some ⟨b1, 0, none⟩)), (7, .agg [o1, .int .i64 x.graph.workers, .int .i64 x.graph.cap].toArray), (8, .agg [v9, .int .i64 x.graph.workers, .int .i64 x.graph.cap].toArray), (10, .pointer (some ⟨b1, 5, none⟩)), (11, o4), (12, v11), (14, .pointer (some ⟨b1, 6, none⟩)), (15, o5), (16, v13)] ⟨Z, Z, Z, Z, Z, Z, Z, Z, Z, Z, Z, Z, trivial⟩ ?_
  have hbl2 : ∀ w, (Instr.build 40 ([(0, .agg [v9, .int .i64 x.graph.workers, .int .i64 x.graph.cap].toArray), (3, v11), (4, v13)]).toArray).run Tryz.prog w = .ok (.agg [v9, .int .i64 x.graph.workers, .int .i64 x.graph.cap, .slice none 0 0, .slice none 0 0, v11, v13].toArray) w := by clear E; obtain ⟨_, _, _, rfl⟩ := SlLen.shape (RdD.len (OwF.rd ho11)); obtain ⟨_, _, _, rfl⟩ := Own.shape ho13; obtain ⟨_, _, _, rfl⟩ := Own.shape ho15; intro w; kernel_rfl
  refine Qa (R_buildC [v9, .int .i64 x.graph.workers, .int .i64 x.graph.cap, .slice none 0 0, .slice none 0 0, v11, v13] Z hbl2) Z (Yu Xe Z (fun b5 w20 e12 s5 h5 => ?_))
  have g_b5 : w.heap.size ≤ b5 := by have := E.size; omega
  have y_b5 := h5.lt
  replace E := E.trans e12; replace h1 := h1.ext e12; replace h2 := h2.ext e12; replace ho11 := ho11.ext e12; replace ho13 := ho13.ext e12; replace ho15 := ho15.ext e12
  have z21 := e12.size
  refine Q9 (cs' := [v9, .int .i64 x.graph.workers, .int .i64 x.graph.cap, .slice none 0 0, .slice none 0 0, v11, v13]) Xe Z Z Z (Ql (RdD.one (OwF.rd ho11)) (Ql Z (Ql Z (Ql Z (Ql Z (Ql ho13.one (Ql ho15.one Z))))))) h5 (Nat.le_of_ble_eq_true Z) Z (fun w21 m7 h5' => ?_)
  replace h5 := h5'
  replace E := E.step m7 (fun g hg => by cases hg; omega); replace h1 := h1.mod m7 (fun g hg => by cases hg; omega); replace h2 := h2.mod m7 (fun g hg => by cases hg; omega); replace ho11 := ho11.mod m7 (fun g hg => by cases hg; omega); replace ho13 := ho13.mod m7 (fun g hg => by cases hg; omega); replace ho15 := ho15.mod m7 (fun g hg => by cases hg; omega)
  have z22 := m7.size
  refine Qd (Qf (Qf (Qh [true] Z Z (Qa (Qg Z) Z (Qd (Qz (Yi (fun (xq : Nat × Value) => let ⟨k3, vo3⟩ := xq; [(1, .pointer (some ⟨b1, 0, none⟩)), (2, .pointer (some ⟨b2, 0, none⟩)), (3, .pointer (some ⟨b5, 0, none⟩)), (4, .int .i64 ((k3 : Nat) : Int))]) (fun (xq : Nat × Value) w' => let ⟨k3, vo3⟩ := xq; Ext w w' ∧ w21.heap.size ≤ w'.heap.size ∧ Blk w' b1 ([o1, .int .i64 x.graph.workers, .int .i64 x.graph.cap, o2, o3, o4, o5]) ∧ Blk w' b2 [.slice none 0 0, .int .i64 0, .int .i64 0, .slice none 0 0, .slice none 0 0, .slice none 0 0, .slice none 0 0] ∧ OwF w' w3.heap.size w19.heap.size v9 x.graph.nodes f7 ∧ Own w' w3.heap.size w19.heap.size 5 v11 (List.flatMap (Enc.enc (α := Token)) x.tokens) ∧ Own w' w3.heap.size w19.heap.size 3 v13 (List.flatMap (Enc.enc (α := News)) x.news) ∧ k3 ≤ x.workers.length ∧ OwS w' w21.heap.size w'.heap.size vo3 (x.workers.take k3) ∧ Blk w' b5 [v9, .int .i64 x.graph.workers, .int .i64 x.graph.cap, vo3, .slice none 0 0, v11, v13]) (fun (xq : Nat × Value) => let ⟨k3, vo3⟩ := xq; x.workers.length - k3) (0, .slice none 0 0) ⟨Z, Z, Z, Z, trivial⟩ ⟨E, Nat.le_refl _, h1, h2, ho11, ho13, ho15, Nat.zero_le _, (OwS.nil _ _ _), h5⟩ ?_)))))))
  clear E h1 h2 ho11 ho13 ho15 h5
  rintro ⟨k3, vo3⟩ w22 ⟨E, z23, h1, h2, ho11, ho13, ho15, hk3, hoC3, h5⟩
  refine Q7 [(1, .pointer (some ⟨b1, 0, none⟩)), (2, .pointer (some ⟨b2, 0, none⟩)), (3, .pointer (some ⟨b5, 0, none⟩)), (4, .int .i64 ((k3 : Nat) : Int))] ⟨Z, Z, Z, Z, trivial⟩ ?_
  refine Qf (Qf (Qh [true, true, true, true, true] Z Z (Qa (Qe Z) Z (Qa (Qb X7 Z) Z (Qa (Qi sc35 Z (h1.one 3 Z)) Z (Qa (Q5 Tryz.underlying35 Z (hd2.ext E).len) Z (Qa (Yb Z Z) Z (Qd (Qu Z (fun hc3 => ?_) (fun hc3 => ?_))))))))))
  ·have hc3n : k3 < x.workers.length := by first | (have h := of_decide_eq_true hc3; omega) | (have h := hc3; simp at h; omega)
   refine Qq (Qf (Qz (S_regX Y8 [9] [(0, true), (1, true), (2, true), (3, true), (4, true), (5, true), (6, true), (7, false), (8, false)] [(9, false), (10, true), (11, false)] (by decide +kernel) Z Z (fun w23 e13 => ?_))))
   replace E := E.trans e13; replace h1 := h1.ext e13; replace h2 := h2.ext e13; replace ho11 := ho11.ext e13; replace ho13 := ho13.ext e13; replace ho15 := ho15.ext e13; replace hoC3 := hoC3.ext e13; replace h5 := h5.ext e13
   have z24 := e13.size
   refine Qa (Qb X7 Z) Z (Qa (Qi sc35 Z (h5.one 3 Z)) Z (Qa (Qb X7 Z) Z (Qa (Qi sc35 Z (h1.one 3 Z)) Z (Qa (Qe Z) Z ?_))))
   have hi3 : k3 < x.workers.length := (by first | assumption | omega | (simp only [List.length_set]; first | assumption | omega))
   obtain ⟨_, hr3, ha3⟩ := RdD.get hd2 hi3
   obtain ⟨o24, o25, o26, o27, o28, o29, o30, o31, rfl, hd15, hd16, hd17, hd18, hd19, hd20, hd21, hd22⟩ := Worker.op hr3
   replace ha3 : At w (Xq o2) (Xp o2 + k3 * 8) [o24, o25, o26, o27, o28, o29, o30, o31] := ha3
   refine Qa (Qv (i := k3) Kr Z Z (hd2.ext E).1 hi3) Z (Qa (Q1 st72 Z (ha3.ext E) Z) Z (Qy Tryz.call93 Z (s_l12Copy [o24, o25, o26, o27, o28, o29, o30, o31] (x.workers[k3]'hi3) _ (Worker.mkR (x.workers[k3]'hi3) (RdD.any (hd15.ext E)) (RdD.any (hd16.ext E)) (RdD.any (hd17.ext E)) (RdD.any (hd18.ext E)) (RdD.any (hd19.ext E)) (RdD.any (hd20.ext E)) (RdD.any (hd21.ext E)) (RdD.any (hd22.ext E))) (by have := sum_le (f := Yk) (show k3 < x.workers.length by omega); unfold Xv at hb2; omega)) Z (fun _ w24 e14 ho16 => ?_)))
   obtain ⟨_, rfl, ho16⟩ := ho16
   have g_ho16 : w.heap.size ≤ w23.heap.size := E.size
   replace E := E.trans e14; replace h1 := h1.ext e14; replace h2 := h2.ext e14; replace ho11 := ho11.ext e14; replace ho13 := ho13.ext e14; replace ho15 := ho15.ext e14; replace hoC3 := hoC3.ext e14; replace h5 := h5.ext e14
   have z25 := e14.size
   obtain ⟨o32, o33, o34, o35, o36, o37, o38, o39, rfl, sp5, hw10, hw11, hw12, hw13, hw14, hw15, hw16, hw17⟩ := Worker.opO ho16
   refine Y9 (vs := [.agg [o32, o33, o34, o35, o36, o37, o38, o39].toArray]) (css := [[o32, o33, o34, o35, o36, o37, o38, o39]]) Kr Z Z ⟨⟨Z, Z⟩, trivial⟩ Z Z (fun b6 w25 e15 s6 h6 => ?_)
   replace h6 : Blk w25 b6 [o32, o33, o34, o35, o36, o37, o38, o39] := h6
   have g_b6 : w.heap.size ≤ b6 := by have := E.size; omega
   have y_b6 := h6.lt
   replace E := E.trans e15; replace h1 := h1.ext e15; replace h2 := h2.ext e15; replace ho11 := ho11.ext e15; replace ho13 := ho13.ext e15; replace ho15 := ho15.ext e15; replace hoC3 := hoC3.ext e15; replace h5 := h5.ext e15; replace hw10 := hw10.ext e15; replace hw11 := hw11.ext e15; replace hw12 := hw12.ext e15; replace hw13 := hw13.ext e15; replace hw14 := hw14.ext e15; replace hw15 := hw15.ext e15; replace hw16 := hw16.ext e15; replace hw17 := hw17.ext e15
   have z26 := e15.size
   refine JX_tail ?_
   refine J2_X Z ?_
   refine J_appendS (lo := w21.heap.size) (hi := w22.heap.size) (lo2 := w23.heap.size) (hi2 := w25.heap.size) Kr Z Z hoC3 (Src.ofBlk h6 Z) (Worker.mkO (x.workers[k3]'hi3) sp5 (Own.widen hw10 (by omega) (by omega)) (Own.widen hw11 (by omega) (by omega)) (Own.widen hw12 (by omega) (by omega)) (Own.widen hw13 (by omega) (by omega)) (Own.widen hw14 (by omega) (by omega)) (Own.widen hw15 (by omega) (by omega)) (Own.widen hw16 (by omega) (by omega)) (Own.widen hw17 (by omega) (by omega))) (by omega) (by simp only [List.length_take, show Dat.sz Worker = 8 from Z, show Dat.sz Link = 6 from Z]; unfold Xv at hb2; omega) (by decide) (by omega) (by omega) (by omega) (by omega) (by omega) Z Z (fun v14 w26 m8 ho17 => ?_)
   have hqb := OwS.inn hoC3
   replace E := E.step m8 (fun g hg => by have := hqb g hg; omega); replace h1 := h1.mod m8 (fun g hg => by have := hqb g hg; omega); replace h2 := h2.mod m8 (fun g hg => by have := hqb g hg; omega); replace ho11 := ho11.mod m8 (fun g hg => by have := hqb g hg; omega); replace ho13 := ho13.mod m8 (fun g hg => by have := hqb g hg; omega); replace ho15 := ho15.mod m8 (fun g hg => by have := hqb g hg; omega); replace h5 := h5.mod m8 (fun g hg => by have := hqb g hg; omega)
   have z27 := m8.size
   clear hqb
   refine JX_go ?_
   refine Qa (Qb X7 Z) Z (Yd (cs' := [v9, .int .i64 x.graph.workers, .int .i64 x.graph.cap, v14, .slice none 0 0, v11, v13]) sc35 Z Z (RdD.one (OwS.rd ho17)) h5 (Nat.le_of_ble_eq_true Z) Z (fun w27 m9 h5' => ?_))
   replace h5 := h5'
   replace E := E.step m9 (fun g hg => by cases hg; omega); replace h1 := h1.mod m9 (fun g hg => by cases hg; omega); replace h2 := h2.mod m9 (fun g hg => by cases hg; omega); replace ho11 := ho11.mod m9 (fun g hg => by cases hg; omega); replace ho13 := ho13.mod m9 (fun g hg => by cases hg; omega); replace ho15 := ho15.mod m9 (fun g hg => by cases hg; omega); replace ho17 := ho17.mod m9 (fun g hg => by cases hg; omega)
   have z28 := m9.size
   refine Qd (Q4 (Yt (Qh [true, true, true] Z Z (Qa (Qe Z) Z (Qa (Q8 Z Z (Yr hc3n (hd2.ext E).1.1)) Z (Qa (Qg Z) Z (Qd (Q4 (Ya (k3 + 1, v14) (by simp; omega) ⟨Z, Z, Z, Z, trivial⟩ ⟨E, (by omega), h1, h2, ho11, ho13, ho15, (by omega), (by rw [List.take_succ_eq_append_getElem (by assumption)]; exact OwS.widen ho17 (by omega) (by omega)), h5⟩)))))))))
  ·have hc3n : ¬ k3 < x.workers.length := by first | (have h := of_decide_eq_false hc3; omega) | (have h := hc3; simp at h; omega)
   refine Yj (Q3 (Q2 ?_))
   refine Qf (Qf (Qh [true] Z Z (Qa (Qg Z) Z (Qd (Qz (Yi (fun (xq : Nat × Value) => let ⟨k4, vo4⟩ := xq; [(1, .pointer (some ⟨b1, 0, none⟩)), (2, .pointer (some ⟨b2, 0, none⟩)), (3, .pointer (some ⟨b5, 0, none⟩)), (5, .int .i64 ((k4 : Nat) : Int))]) (fun (xq : Nat × Value) w' => let ⟨k4, vo4⟩ := xq; Ext w w' ∧ w22.heap.size ≤ w'.heap.size ∧ Blk w' b1 ([o1, .int .i64 x.graph.workers, .int .i64 x.graph.cap, o2, o3, o4, o5]) ∧ Blk w' b2 [.slice none 0 0, .int .i64 0, .int .i64 0, .slice none 0 0, .slice none 0 0, .slice none 0 0, .slice none 0 0] ∧ OwF w' w3.heap.size w19.heap.size v9 x.graph.nodes f7 ∧ Own w' w3.heap.size w19.heap.size 5 v11 (List.flatMap (Enc.enc (α := Token)) x.tokens) ∧ Own w' w3.heap.size w19.heap.size 3 v13 (List.flatMap (Enc.enc (α := News)) x.news) ∧ OwS w' w21.heap.size w22.heap.size vo3 (x.workers.take k3) ∧ k4 ≤ x.links.length ∧ OwS w' w22.heap.size w'.heap.size vo4 (x.links.take k4) ∧ Blk w' b5 [v9, .int .i64 x.graph.workers, .int .i64 x.graph.cap, vo3, vo4, v11, v13]) (fun (xq : Nat × Value) => let ⟨k4, vo4⟩ := xq; x.links.length - k4) (0, .slice none 0 0) ⟨Z, Z, Z, Z, trivial⟩ ⟨E, Nat.le_refl _, h1, h2, ho11, ho13, ho15, hoC3, Nat.zero_le _, (OwS.nil _ _ _), h5⟩ ?_))))))
   clear E h1 h2 ho11 ho13 ho15 hoC3 h5
   rintro ⟨k4, vo4⟩ w28 ⟨E, z29, h1, h2, ho11, ho13, ho15, hoC3, hk4, hoC4, h5⟩
   refine Q7 [(1, .pointer (some ⟨b1, 0, none⟩)), (2, .pointer (some ⟨b2, 0, none⟩)), (3, .pointer (some ⟨b5, 0, none⟩)), (5, .int .i64 ((k4 : Nat) : Int))] ⟨Z, Z, Z, Z, trivial⟩ ?_
   refine Qf (Qf (Qh [true, true, true, true, true] Z Z (Qa (Qe Z) Z (Qa (Qb Xn Z) Z (Qa (Qi sc36 Z (h1.one 4 Z)) Z (Qa (Q5 Tryz.underlying36 Z (hd3.ext E).len) Z (Qa (Yb Z Z) Z (Qd (Qu Z (fun hc4 => ?_) (fun hc4 => ?_))))))))))
   ·have hc4n : k4 < x.links.length := by first | (have h := of_decide_eq_true hc4; omega) | (have h := hc4; simp at h; omega)
    refine Qq (Qf (Qz (S_regX Y8 [9] [(0, true), (1, true), (2, true), (3, true), (4, true), (5, true), (6, true), (7, false), (8, false)] [(9, false), (10, true), (11, false)] (by decide +kernel) Z Z (fun w29 e16 => ?_))))
    replace E := E.trans e16; replace h1 := h1.ext e16; replace h2 := h2.ext e16; replace ho11 := ho11.ext e16; replace ho13 := ho13.ext e16; replace ho15 := ho15.ext e16; replace hoC3 := hoC3.ext e16; replace hoC4 := hoC4.ext e16; replace h5 := h5.ext e16
    have z30 := e16.size
    refine Qa (Qb Xn Z) Z (Qa (Qi sc36 Z (h5.one 4 Z)) Z (Qa (Qb Xn Z) Z (Qa (Qi sc36 Z (h1.one 4 Z)) Z (Qa (Qe Z) Z ?_))))
    have hi4 : k4 < x.links.length := (by first | assumption | omega | (simp only [List.length_set]; first | assumption | omega))
    obtain ⟨_, hr4, ha4⟩ := RdD.get hd3 hi4
    obtain ⟨o40, rfl, hd23⟩ := Link.op hr4
    replace ha4 : At w (Xq o3) (Xp o3 + k4 * 6) [.int .i64 ((x.links[k4]'hi4).cap), o40, .int .i64 ((x.links[k4]'hi4).credits), .int .i64 ((x.links[k4]'hi4).back), .int .i64 ((x.links[k4]'hi4).sent), .int .i64 ((x.links[k4]'hi4).got)] := ha4
    refine Qa (Qv (i := k4) Ko Z Z (hd3.ext E).1 hi4) Z (Qa (Q1 Xd Z (ha4.ext E) Z) Z (Qy Tryz.call94 Z (s_l06Copy [.int .i64 ((x.links[k4]'hi4).cap), o40, .int .i64 ((x.links[k4]'hi4).credits), .int .i64 ((x.links[k4]'hi4).back), .int .i64 ((x.links[k4]'hi4).sent), .int .i64 ((x.links[k4]'hi4).got)] (x.links[k4]'hi4) _ (Link.mkR (x.links[k4]'hi4) (RdD.any (hd23.ext E))) (by have := sum_le (f := Y0) (show k4 < x.links.length by omega); unfold Xv at hb2; omega)) Z (fun _ w30 e17 ho18 => ?_)))
    obtain ⟨_, rfl, ho18⟩ := ho18
    have g_ho18 : w.heap.size ≤ w29.heap.size := E.size
    replace E := E.trans e17; replace h1 := h1.ext e17; replace h2 := h2.ext e17; replace ho11 := ho11.ext e17; replace ho13 := ho13.ext e17; replace ho15 := ho15.ext e17; replace hoC3 := hoC3.ext e17; replace hoC4 := hoC4.ext e17; replace h5 := h5.ext e17
    have z31 := e17.size
    obtain ⟨o41, rfl, sp6, hw18⟩ := Link.opO ho18
    refine Y9 (vs := [.agg [.int .i64 ((x.links[k4]'hi4).cap), o41, .int .i64 ((x.links[k4]'hi4).credits), .int .i64 ((x.links[k4]'hi4).back), .int .i64 ((x.links[k4]'hi4).sent), .int .i64 ((x.links[k4]'hi4).got)].toArray]) (css := [[.int .i64 ((x.links[k4]'hi4).cap), o41, .int .i64 ((x.links[k4]'hi4).credits), .int .i64 ((x.links[k4]'hi4).back), .int .i64 ((x.links[k4]'hi4).sent), .int .i64 ((x.links[k4]'hi4).got)]]) Ko Z Z ⟨⟨Z, Z⟩, trivial⟩ Z Z (fun b7 w31 e18 s7 h7 => ?_)
    replace h7 : Blk w31 b7 [.int .i64 ((x.links[k4]'hi4).cap), o41, .int .i64 ((x.links[k4]'hi4).credits), .int .i64 ((x.links[k4]'hi4).back), .int .i64 ((x.links[k4]'hi4).sent), .int .i64 ((x.links[k4]'hi4).got)] := h7
    have g_b7 : w.heap.size ≤ b7 := by have := E.size; omega
    have y_b7 := h7.lt
    replace E := E.trans e18; replace h1 := h1.ext e18; replace h2 := h2.ext e18; replace ho11 := ho11.ext e18; replace ho13 := ho13.ext e18; replace ho15 := ho15.ext e18; replace hoC3 := hoC3.ext e18; replace hoC4 := hoC4.ext e18; replace h5 := h5.ext e18; replace hw18 := hw18.ext e18
    have z32 := e18.size
    refine JX_tail ?_
    refine J2_X Z ?_
    refine J_appendS (lo := w22.heap.size) (hi := w28.heap.size) (lo2 := w29.heap.size) (hi2 := w31.heap.size) Ko Z Z hoC4 (Src.ofBlk h7 Z) (Link.mkO (x.links[k4]'hi4) sp6 (Own.widen hw18 (by omega) (by omega))) (by omega) (by simp only [List.length_take, show Dat.sz Worker = 8 from Z, show Dat.sz Link = 6 from Z]; unfold Xv at hb2; omega) (by decide) (by omega) (by omega) (by omega) (by omega) (by omega) Z Z (fun v15 w32 m10 ho19 => ?_)
    have hqb := OwS.inn hoC4
    replace E := E.step m10 (fun g hg => by have := hqb g hg; omega); replace h1 := h1.mod m10 (fun g hg => by have := hqb g hg; omega); replace h2 := h2.mod m10 (fun g hg => by have := hqb g hg; omega); replace ho11 := ho11.mod m10 (fun g hg => by have := hqb g hg; omega); replace ho13 := ho13.mod m10 (fun g hg => by have := hqb g hg; omega); replace ho15 := ho15.mod m10 (fun g hg => by have := hqb g hg; omega); replace hoC3 := hoC3.mod m10 (fun g hg => by have := hqb g hg; omega); replace h5 := h5.mod m10 (fun g hg => by have := hqb g hg; omega)
    have z33 := m10.size
    clear hqb
    refine JX_go ?_
    refine Qa (Qb Xn Z) Z (Yd (cs' := [v9, .int .i64 x.graph.workers, .int .i64 x.graph.cap, vo3, v15, v11, v13]) sc36 Z Z (RdD.one (OwS.rd ho19)) h5 (Nat.le_of_ble_eq_true Z) Z (fun w33 m11 h5' => ?_))
    replace h5 := h5'
    replace E := E.step m11 (fun g hg => by cases hg; omega); replace h1 := h1.mod m11 (fun g hg => by cases hg; omega); replace h2 := h2.mod m11 (fun g hg => by cases hg; omega); replace ho11 := ho11.mod m11 (fun g hg => by cases hg; omega); replace ho13 := ho13.mod m11 (fun g hg => by cases hg; omega); replace ho15 := ho15.mod m11 (fun g hg => by cases hg; omega); replace hoC3 := hoC3.mod m11 (fun g hg => by cases hg; omega); replace ho19 := ho19.mod m11 (fun g hg => by cases hg; omega)
    have z34 := m11.size
    refine Qd (Q4 (Yt (Qh [true, true, true] Z Z (Qa (Qe Z) Z (Qa (Q8 Z Z (Yr hc4n (hd3.ext E).1.1)) Z (Qa (Qg Z) Z (Qd (Q4 (Ya (k4 + 1, v15) (by simp; omega) ⟨Z, Z, Z, Z, trivial⟩ ⟨E, (by omega), h1, h2, ho11, ho13, ho15, hoC3, (by omega), (by rw [List.take_succ_eq_append_getElem (by assumption)]; exact OwS.widen ho19 (by omega) (by omega)), h5⟩)))))))))
   ·have hc4n : ¬ k4 < x.links.length := by first | (have h := of_decide_eq_false hc4; omega) | (have h := hc4; simp at h; omega)
    refine Yj (Q3 (Q2 ?_))
    refine Qf (Qh [true, false] Z Z (Qa (Q1 Xe Z h5.at Z) Z (Q9 (cs' := [v9, .int .i64 x.graph.workers, .int .i64 x.graph.cap, vo3, vo4, v11, v13]) Xe Z Z Z (Ql (RdD.one (OwF.rd ho11)) (Ql Z (Ql Z (Ql (RdD.one (OwS.rd hoC3)) (Ql (RdD.one (OwS.rd hoC4)) (Ql ho13.one (Ql ho15.one Z))))))) h2 (Nat.le_of_ble_eq_true Z) Z (fun w34 m12 h2' => ?_))))
    replace h2 := h2'
    replace E := E.step m12 (fun g hg => by cases hg; omega); replace h1 := h1.mod m12 (fun g hg => by cases hg; omega); replace ho11 := ho11.mod m12 (fun g hg => by cases hg; omega); replace ho13 := ho13.mod m12 (fun g hg => by cases hg; omega); replace ho15 := ho15.mod m12 (fun g hg => by cases hg; omega); replace hoC3 := hoC3.mod m12 (fun g hg => by cases hg; omega); replace hoC4 := hoC4.mod m12 (fun g hg => by cases hg; omega); replace h5 := h5.mod m12 (fun g hg => by cases hg; omega)
    have z35 := m12.size
    refine Qd (Qw (Xl Z Z (Yn Xe h2.at Z) E ?_))
    rw [List.take_of_length_le (by omega)] at hoC3 hoC4
    exact ⟨_, _, _, _, _, Z, OwC.of2 x ho11 hoC3 hoC4 ho13 ho15 ⟨⟨sp4.1.1, sp4.1.2.1, trivial⟩, ⟨sp4.2.1.1, trivial⟩, trivial, trivial⟩ (by have := E.size; omega) (by omega)⟩

set_option maxRecDepth 20000 in
theorem c_linkOf (cx : List Value) (x : Cluster) (a : Int) (b : Int) (w : World) (hx : Dat.R w 0 w.heap.size cx x) (hok : ∀ l ∈ x.links, rg l.got) : Ct Tryz.prog 45 [.agg cx.toArray, .int .i64 a, .int .i64 b] w (fun v _ => v = .int .i64 (Xa x a b)) := by
 refine Yf Tryz.func45 Z Tryz.ntmps45 Z ?_
 obtain ⟨o1, o2, o3, o4, o5, rfl, hd1, hd2, hd3, hd4, hd5⟩ := Cluster.op hx
 refine Q7 [(0, .agg [o1, .int .i64 x.graph.workers, .int .i64 x.graph.cap, o2, o3, o4, o5].toArray), (1, .int .i64 a), (2, .int .i64 b)] ⟨Z, Z, Z, trivial⟩ ?_
 have E : Ext w w := Ext.refl w
 refine Qf (Qh [false, true] Z Z (Yx Z Z (fun b1 w1 e1 s1 h1 => ?_)))
 have g_b1 : w.heap.size ≤ b1 := by have := E.size; omega
 have y_b1 := h1.lt
 replace E := E.trans e1
 have z1 := e1.size
 refine Qa (Qg Z) Z (Qd (Qf (Qf (Qh [true, false, true, true, true, true, true, true] Z Z (Qa (Q1 Xe Z h1.at Z) Z (Qy Tryz.call61 Z (c_ClusterOk [o1, .int .i64 x.graph.workers, .int .i64 x.graph.cap, o2, o3, o4, o5] x _ (Cluster.mkR x (RdD.any (hd1.ext E)) (RdD.any (hd2.ext E)) (RdD.any (hd3.ext E)) (RdD.any (hd4.ext E)) (RdD.any (hd5.ext E))) (by first | omega | (simp only [Qj]; omega) | (rw [Qj]; done) | (simp only [Qj]; done))) Z (fun _ w2 e2 hv => ?_)))))))
 subst hv
 replace E := E.trans e2; replace h1 := h1.ext e2
 have z2 := e2.size
 refine Qa (Yo Z) Z (Qa (Qe Z) Z (Yz 4 [(0, .agg [o1, .int .i64 x.graph.workers, .int .i64 x.graph.cap, o2, o3, o4, o5].toArray), (1, .int .i64 a), (2, .int .i64 b), (3, .pointer (some ⟨b1, 0, none⟩)), (6, .int .i64 0), (14, .bool ((!(clOk x)) || (a == b)))] (fun w' => w2 = w') ?_ ?_))
 ·refine Ym (gd := 10) Z Z (fun hg1 => ?_) (fun hg1 => ?_)
  ·refine Qc Z Z Z Z (Qc Z Z Z Z (Qc Z Z Z Z (Qa (Qr Z Z) Z (Qp ⟨Z, Z, Z, Z, Z, congrArg (fun b => some (Value.bool b)) (show true = ((!(clOk x)) || (a == b)) by first | (rw [hg1] <;> rfl) | (simp [hg1]; done) | (simp only [Qo] <;> simp)), trivial⟩ Z))))
  ·refine Qk Z Z (Qe Z) Z (Qk Z Z (Qe Z) Z (Qk Z Z (Yw Z Z) Z (Qa (Qs Z Z) Z (Qp ⟨Z, Z, Z, Z, Z, congrArg (fun b => some (Value.bool b)) (show (a == b) = ((!(clOk x)) || (a == b)) by first | (rw [hg1] <;> rfl) | (simp [hg1]; done) | (simp only [Qo] <;> simp)), trivial⟩ Z))))
 rintro _ rfl
 refine Qd (Qu Z (fun hc1 => ?_) (fun hc1 => ?_))
 ·refine Qf (Qh [true] Z Z (Qa (Qg Z) Z (Qd (Qw (Qm Z Z E ?_)))))
  rw [Xa, if_pos hc1]
 ·refine Qq (Qf (Qh [true, true, true, true, false, true] Z Z (Qa (Qb Ka Z) Z (Qa (Q1 X4 Z (h1.part 0 [o1, .int .i64 x.graph.workers, .int .i64 x.graph.cap] Z) Z) Z (Qa (Qe Z) Z (Qa (Qe Z) Z (Qy Tryz.call84 Z (c_LinkPlace [o1, .int .i64 x.graph.workers, .int .i64 x.graph.cap] x.graph a b _ (Graph.mkR x.graph (RdD.any (hd1.ext E)))) Z (fun _ w4 e3 hv => ?_))))))))
  subst hv
  replace E := E.trans e3; replace h1 := h1.ext e3
  have z3 := e3.size
  refine Qa (Qg Z) Z (Qd (Qw (Qm Z Z E ?_)))
  rw [Xa, if_neg (nof hc1)]

set_option maxRecDepth 20000 in
theorem c_PickCredit (cx : List Value) (x : Cluster) (a : Int) (b : Int) (w : World) (hx : Dat.R w 0 w.heap.size cx x) (hb : Ye x ≤ 1048576) (hok : ∀ l ∈ x.links, rg l.got) : Ct Tryz.prog 13 [.agg cx.toArray, .int .i64 a, .int .i64 b] w (fun v w' => ∃ q00 q01 q02 q03 q04, v = .tuple [.agg [q00, .int .i64 ((((Qn x a b).1).graph).workers), .int .i64 ((((Qn x a b).1).graph).cap), q01, q02, q03, q04].toArray, .bool ((Qn x a b).2)].toArray ∧ OwC w' w.heap.size w'.heap.size q00 q01 q02 q03 q04 ((Qn x a b).1)) := by
 refine Yf Tryz.func13 Z Tryz.ntmps13 Z ?_
 obtain ⟨o1, o2, o3, o4, o5, rfl, hd1, hd2, hd3, hd4, hd5⟩ := Cluster.op hx
 refine Q7 [(0, .agg [o1, .int .i64 x.graph.workers, .int .i64 x.graph.cap, o2, o3, o4, o5].toArray), (1, .int .i64 a), (2, .int .i64 b)] ⟨Z, Z, Z, trivial⟩ ?_
 have E : Ext w w := Ext.refl w
 refine Qf (Qh [false, false, true] Z Z (Yx Z Z (fun b1 w1 e1 s1 h1 => ?_)))
 have g_b1 : w.heap.size ≤ b1 := by have := E.size; omega
 have y_b1 := h1.lt
 replace E := E.trans e1
 have z1 := e1.size
 refine Yu Xe Z (fun b2 w2 e2 s2 h2 => ?_)
 have g_b2 : w.heap.size ≤ b2 := by have := E.size; omega
 have y_b2 := h2.lt
 replace E := E.trans e2; replace h1 := h1.ext e2
 have z2 := e2.size
 refine Qa (Qg Z) Z (Qd (Qf (Qh [true, false, false, false] Z Z (Qa (Q1 Xe Z h1.at Z) Z (Qy Tryz.call26 Z (c_copyCluster [o1, .int .i64 x.graph.workers, .int .i64 x.graph.cap, o2, o3, o4, o5] x _ (Cluster.mkR x (RdD.any (hd1.ext E)) (RdD.any (hd2.ext E)) (RdD.any (hd3.ext E)) (RdD.any (hd4.ext E)) (RdD.any (hd5.ext E))) (by first | omega | (simp only [Qj]; omega) | (rw [Qj]; done) | (simp only [Qj]; done))) Z (fun _ w3 e3 ho1 => ?_))))))
 obtain ⟨o6, o7, o8, o9, o10, rfl, ho1⟩ := ho1
 have g_ho1 : w.heap.size ≤ w2.heap.size := E.size
 replace E := E.trans e3; replace h1 := h1.ext e3; replace h2 := h2.ext e3
 have z3 := e3.size
 refine Yu Xe Z (fun b3 w4 e4 s3 h3 => ?_)
 have g_b3 : w.heap.size ≤ b3 := by have := E.size; omega
 have y_b3 := h3.lt
 replace E := E.trans e4; replace h1 := h1.ext e4; replace h2 := h2.ext e4; replace ho1 := ho1.ext e4
 have z4 := e4.size
 refine Q9 (cs' := [o6, .int .i64 x.graph.workers, .int .i64 x.graph.cap, o7, o8, o9, o10]) Xe Z Z Z (Ql (RdD.one (OwC.rd1 ho1)) (Ql Z (Ql Z (Ql (RdD.one (OwC.rd2 ho1)) (Ql (RdD.one (OwC.rd3 ho1)) (Ql (RdD.one (OwC.rd4 ho1)) (Ql (RdD.one (OwC.rd5 ho1)) Z))))))) h3 (Nat.le_of_ble_eq_true Z) Z (fun w5 m1 h3' => ?_)
 replace h3 := h3'
 replace E := E.step m1 (fun g hg => by cases hg; omega); replace h1 := h1.mod m1 (fun g hg => by cases hg; omega); replace h2 := h2.mod m1 (fun g hg => by cases hg; omega); replace ho1 := ho1.mod m1 (fun g hg => by cases hg; omega)
 have z5 := m1.size
 refine Qd (Qf (Qh [true, true, true, false, true] Z Z (Qa (Q1 Xe Z h1.at Z) Z (Qa (Qe Z) Z (Qa (Qe Z) Z (Qy Tryz.call45 Z (c_linkOf [o1, .int .i64 x.graph.workers, .int .i64 x.graph.cap, o2, o3, o4, o5] x a b _ (Cluster.mkR x (RdD.any (hd1.ext E)) (RdD.any (hd2.ext E)) (RdD.any (hd3.ext E)) (RdD.any (hd4.ext E)) (RdD.any (hd5.ext E))) (by first | omega | (simp only [Qj]; omega) | (rw [Qj]; done) | (simp only [Qj]; done))) Z (fun _ w6 e5 hv => ?_)))))))
 subst hv
 replace E := E.trans e5; replace h1 := h1.ext e5; replace h2 := h2.ext e5; replace ho1 := ho1.ext e5; replace h3 := h3.ext e5
 have z6 := e5.size
 refine Qa (Qg Z) Z (Qd (Qf (Qf (Qh [true, true] Z Z (Qa (Qe Z) Z (Qa (Yb Z Z) Z (Qd (Qu Z (fun hc1 => ?_) (fun hc1 => ?_)))))))))
 ·refine Qf (Qh [true, false, true] Z Z (Qa (Q1 Xe Z h3.at Z) Z (Q9 (cs' := [o6, .int .i64 x.graph.workers, .int .i64 x.graph.cap, o7, o8, o9, o10]) Xe Z Z Z (Ql (RdD.one (OwC.rd1 ho1)) (Ql Z (Ql Z (Ql (RdD.one (OwC.rd2 ho1)) (Ql (RdD.one (OwC.rd3 ho1)) (Ql (RdD.one (OwC.rd4 ho1)) (Ql (RdD.one (OwC.rd5 ho1)) Z))))))) h2 (Nat.le_of_ble_eq_true Z) Z (fun w7 m2 h2' => ?_))))
  replace h2 := h2'
  replace E := E.step m2 (fun g hg => by cases hg; omega); replace h1 := h1.mod m2 (fun g hg => by cases hg; omega); replace ho1 := ho1.mod m2 (fun g hg => by cases hg; omega); replace h3 := h3.mod m2 (fun g hg => by cases hg; omega)
  have z7 := m2.size
  refine Qa (Qg Z) Z (Qd (Qw (E_doneN (l := [.cell 6 40, .tmp 7]) (vs := [.agg [o6, .int .i64 x.graph.workers, .int .i64 x.graph.cap, o7, o8, o9, o10].toArray, .bool false]) Z ⟨.cell Z (Yn Xe h2.at Z), .tmp Z, trivial⟩ Z E ?_)))
  rw [Qn, if_pos (of_decide_eq_true hc1)]
  exact ⟨_, _, _, _, _, Z, (OwC.widen ho1 (by have := E.size; omega) (by omega))⟩
 ·have hlk := linkOf_in (of_decide_eq_false hc1)
  have hcl := cntL_get (cnt := Y0) hlk.2.2.2.2.2.1
  have hb2 := hb; unfold Ye at hb2
  have hi1 : (Int.toNat (Xa x a b)) < x.links.length := (by first | assumption | omega | (simp only [List.length_set]; first | assumption | omega))
  obtain ⟨_, hr1, ha1⟩ := RdD.get hd3 hi1
  obtain ⟨o11, rfl, hd6⟩ := Link.op hr1
  replace ha1 : At w (Xq o3) (Xp o3 + (Int.toNat (Xa x a b)) * 6) [.int .i64 ((x.links[(Int.toNat (Xa x a b))]'hi1).cap), o11, .int .i64 ((x.links[(Int.toNat (Xa x a b))]'hi1).credits), .int .i64 ((x.links[(Int.toNat (Xa x a b))]'hi1).back), .int .i64 ((x.links[(Int.toNat (Xa x a b))]'hi1).sent), .int .i64 ((x.links[(Int.toNat (Xa x a b))]'hi1).got)] := ha1
  refine Qq (Qf (Qh [true, true, true, true, true, false, true, true, true, false, false, true] Z Z (Qa (Qb Xn Z) Z (Qa (Qi sc36 Z (h1.one 4 Z)) Z (Qa (Qe Z) Z (Qa (R_indexZ (i := (Int.toNat (Xa x a b))) Ko Z Z (hd3.ext E).1 (by omega) hi1) Z (Qa (Q1 Xd Z (ha1.ext E) Z) Z (Qy Tryz.call46 Z (c_CreditBack [.int .i64 ((x.links[(Int.toNat (Xa x a b))]'hi1).cap), o11, .int .i64 ((x.links[(Int.toNat (Xa x a b))]'hi1).credits), .int .i64 ((x.links[(Int.toNat (Xa x a b))]'hi1).back), .int .i64 ((x.links[(Int.toNat (Xa x a b))]'hi1).sent), .int .i64 ((x.links[(Int.toNat (Xa x a b))]'hi1).got)] (x.links[(Int.toNat (Xa x a b))]'hi1) _ (Link.mkR (x.links[(Int.toNat (Xa x a b))]'hi1) (RdD.any (hd6.ext E))) (by omega) (hok _ (List.getElem_mem _))) Z (fun _ w8 e6 ho2 => ?_)))))))))
  obtain ⟨_, rfl, ho3⟩ := ho2
  have g_ho2 : w.heap.size ≤ w6.heap.size := E.size
  replace E := E.trans e6; replace h1 := h1.ext e6; replace h2 := h2.ext e6; replace ho1 := ho1.ext e6; replace h3 := h3.ext e6
  have z8 := e6.size
  obtain ⟨o12, rfl, sp1, hw1⟩ := Link.opO ho3
  refine Qa (Qe Z) Z (Qa (Kg Z Z) Z (Qa (Kg Z Z) Z (Yu Xd Z (fun b4 w9 e7 s4 h4 => ?_))))
  have g_b4 : w.heap.size ≤ b4 := by have := E.size; omega
  have y_b4 := h4.lt
  replace E := E.trans e7; replace h1 := h1.ext e7; replace h2 := h2.ext e7; replace ho1 := ho1.ext e7; replace h3 := h3.ext e7; replace hw1 := hw1.ext e7
  have z9 := e7.size
  refine Q9 (cs' := [.int .i64 (((Xh (x.links[(Int.toNat (Xa x a b))]'hi1)).1).cap), o12, .int .i64 (((Xh (x.links[(Int.toNat (Xa x a b))]'hi1)).1).credits), .int .i64 (((Xh (x.links[(Int.toNat (Xa x a b))]'hi1)).1).back), .int .i64 (((Xh (x.links[(Int.toNat (Xa x a b))]'hi1)).1).sent), .int .i64 (((Xh (x.links[(Int.toNat (Xa x a b))]'hi1)).1).got)]) Xd Z Z Z (Ql Z (Ql hw1.one (Ql Z (Ql Z (Ql Z (Ql Z Z)))))) h4 (Nat.le_of_ble_eq_true Z) Z (fun w10 m3 h4' => ?_)
  replace h4 := h4'
  replace E := E.step m3 (fun g hg => by cases hg; omega); replace h1 := h1.mod m3 (fun g hg => by cases hg; omega); replace h2 := h2.mod m3 (fun g hg => by cases hg; omega); replace ho1 := ho1.mod m3 (fun g hg => by cases hg; omega); replace h3 := h3.mod m3 (fun g hg => by cases hg; omega); replace hw1 := hw1.mod m3 (fun g hg => by cases hg; omega)
  have z10 := m3.size
  refine Qa (Qg Z) Z (Qd (Qf (Qh [true, true, true, true, true, false] Z Z (Qa (Qb Xn Z) Z (Qa (Qi sc36 Z (h3.one 4 Z)) Z (Qa (Qe Z) Z (Qa (Q1 Xd Z h4.at Z) Z ?_)))))))
  have hi2 : (Int.toNat (Xa x a b)) < x.links.length := (by first | assumption | omega | (simp only [List.length_set]; first | assumption | omega))
  refine Qa (R_indexZ (i := (Int.toNat (Xa x a b))) Ko Z Z (OwC.rd3 ho1).1 (by omega) hi2) Z (J_storeEx Z Z (OwC.setL (lo2 := w6.heap.size) (hi2 := w10.heap.size) Xd ho1 hi2 (Link.mkO ((Xh (x.links[(Int.toNat (Xa x a b))]'hi1)).1) sp1 (Own.widen hw1 (by omega) (by omega))) (by omega) (by omega) (by omega)) (fun w11 m4 ho1' => ?_))
  have hqb : ∀ g, Value.ownBlock o8 = some g → w2.heap.size ≤ g ∧ g < w3.heap.size := OwC.blk3 ho1
  replace ho1 := ho1'
  replace E := E.step m4 (fun g hg => by have := hqb g hg; omega); replace h1 := h1.mod m4 (fun g hg => by have := hqb g hg; omega); replace h2 := h2.mod m4 (fun g hg => by have := hqb g hg; omega); replace h3 := h3.mod m4 (fun g hg => by have := hqb g hg; omega); replace h4 := h4.mod m4 (fun g hg => by have := hqb g hg; omega)
  have z11 := m4.size
  clear hqb
  refine Qd (Qf (Qh [true, true, false, true] Z Z (Qa (Q1 Xe Z h3.at Z) Z (Qa (Qe Z) Z (Q9 (cs' := [o6, .int .i64 x.graph.workers, .int .i64 x.graph.cap, o7, o8, o9, o10]) Xe Z Z Z (Ql (RdD.one (OwC.rd1 ho1)) (Ql Z (Ql Z (Ql (RdD.one (OwC.rd2 ho1)) (Ql (RdD.one (OwC.rd3 ho1)) (Ql (RdD.one (OwC.rd4 ho1)) (Ql (RdD.one (OwC.rd5 ho1)) Z))))))) h2 (Nat.le_of_ble_eq_true Z) Z (fun w12 m5 h2' => ?_))))))
  replace h2 := h2'
  replace E := E.step m5 (fun g hg => by cases hg; omega); replace h1 := h1.mod m5 (fun g hg => by cases hg; omega); replace ho1 := ho1.mod m5 (fun g hg => by cases hg; omega); replace h3 := h3.mod m5 (fun g hg => by cases hg; omega); replace h4 := h4.mod m5 (fun g hg => by cases hg; omega)
  have z12 := m5.size
  refine Qa (Qg Z) Z (Qd (Qw (E_doneN (l := [.cell 6 40, .tmp 7]) (vs := [.agg [o6, .int .i64 x.graph.workers, .int .i64 x.graph.cap, o7, o8, o9, o10].toArray, .bool ((Xh (x.links[(Int.toNat (Xa x a b))]'hi1)).2)]) Z ⟨.cell Z (Yn Xe h2.at Z), .tmp Z, trivial⟩ Z E ?_)))
  rw [Qn, if_neg (of_decide_eq_false hc1), ← lAt_at hlk.2.2.2.2.2.1]
  exact ⟨_, _, _, _, _, Z, (OwC.widen ho1 (by have := E.size; omega) (by omega))⟩

set_option maxRecDepth 20000 in
theorem s_l15Start (cx : List Value) (x : Cluster) (w : World) (hx : Dat.R w 0 w.heap.size cx x) (hb : Ye x ≤ 1048576) : Ct Tryz.prog 19 [.agg cx.toArray] w (fun v w' => ∃ b o1 o2 o3 o4 o5, v = .pointer (some ⟨b, 0, none⟩) ∧ OwR w' w.heap.size w'.heap.size b o1 o2 o3 o4 o5 x (clOk x)) := by
 refine Yf Tryz.func19 Z Tryz.ntmps19 Z ?_
 obtain ⟨o1, o2, o3, o4, o5, rfl, hd1, hd2, hd3, hd4, hd5⟩ := Cluster.op hx
 refine Q7 [(0, .agg [o1, .int .i64 x.graph.workers, .int .i64 x.graph.cap, o2, o3, o4, o5].toArray)] ⟨Z, trivial⟩ ?_
 have E : Ext w w := Ext.refl w
 refine Qf (Qh [false, true] Z Z (Yx Z Z (fun b1 w1 e1 s1 h1 => ?_)))
 have g_b1 : w.heap.size ≤ b1 := by have := E.size; omega
 have y_b1 := h1.lt
 replace E := E.trans e1
 have z1 := e1.size
 refine Qa (Qg Z) Z (Qd (Qf (Y7 Y8 [(0, true), (2, true), (1, false), (3, false), (4, true), (5, false), (6, true)] (by decide +kernel) Z (fun w2 e2 => ?_))))
 replace E := E.trans e2; replace h1 := h1.ext e2
 have z2 := e2.size
 refine Qa (Q1 Xe Z h1.at Z) Z (Qa (Q1 Xe Z h1.at Z) Z (Qy Tryz.call50 Z (s_l14Copy [o1, .int .i64 x.graph.workers, .int .i64 x.graph.cap, o2, o3, o4, o5] x _ (Cluster.mkR x (RdD.any (hd1.ext E)) (RdD.any (hd2.ext E)) (RdD.any (hd3.ext E)) (RdD.any (hd4.ext E)) (RdD.any (hd5.ext E))) (by first | omega | (simp only [Qj]; omega) | (rw [Qj]; done) | (simp only [Qj]; done))) Z (fun _ w3 e3 ho1 => ?_)))
 obtain ⟨o6, o7, o8, o9, o10, rfl, ho1⟩ := ho1
 have g_ho1 : w.heap.size ≤ w2.heap.size := E.size
 replace E := E.trans e3; replace h1 := h1.ext e3
 have z3 := e3.size
 refine Qy Tryz.call51 Z (s_ClusterOk [o1, .int .i64 x.graph.workers, .int .i64 x.graph.cap, o2, o3, o4, o5] x _ (Cluster.mkR x (RdD.any (hd1.ext E)) (RdD.any (hd2.ext E)) (RdD.any (hd3.ext E)) (RdD.any (hd4.ext E)) (RdD.any (hd5.ext E)))) Z (fun _ w4 e4 hv => ?_)
 subst hv
 replace E := E.trans e4; replace h1 := h1.ext e4; replace ho1 := ho1.ext e4
 have z4 := e4.size
 have hbl1 : ∀ w, (Instr.build 58 ([(0, .agg [o6, .int .i64 x.graph.workers, .int .i64 x.graph.cap, o7, o8, o9, o10].toArray), (1, .bool (clOk x))]).toArray).run Tryz.prog w = .ok (.agg [o6, .int .i64 x.graph.workers, .int .i64 x.graph.cap, o7, o8, o9, o10, .bool (clOk x)].toArray) w := by clear E; obtain ⟨_, _, _, rfl⟩ := SlLen.shape (RdD.len (OwC.rd1 ho1)); obtain ⟨_, _, _, rfl⟩ := SlLen.shape (RdD.len (OwC.rd2 ho1)); obtain ⟨_, _, _, rfl⟩ := SlLen.shape (RdD.len (OwC.rd3 ho1)); obtain ⟨_, _, _, rfl⟩ := SlLen.shape (RdD.len (OwC.rd4 ho1)); obtain ⟨_, _, _, rfl⟩ := SlLen.shape (RdD.len (OwC.rd5 ho1)); intro w; kernel_rfl
 refine Qa (R_buildC [o6, .int .i64 x.graph.workers, .int .i64 x.graph.cap, o7, o8, o9, o10, .bool (clOk x)] Z hbl1) Z (Yx Z Z (fun b2 w5 e5 s2 h2 => ?_))
 have g_b2 : w.heap.size ≤ b2 := by have := E.size; omega
 have y_b2 := h2.lt
 replace E := E.trans e5; replace h1 := h1.ext e5; replace ho1 := ho1.ext e5
 have z5 := e5.size
 refine Qa (Qg Z) Z (Qd (Qw (Qm Z Z E ?_)))
 exact ⟨_, _, _, _, _, _, Z, OwR.of ho1 h2 (by omega) (by have := E.size; omega) (by have := E.size; omega) (by omega)⟩

set_option maxRecDepth 20000 in
theorem s_l15Credit (bx : Nat) (o1x o2x o3x o4x o5x : Value) (lo : Nat) (x : Cluster) (okx : Bool) (a : Int) (b : Int) (w : World) (hx : OwR w lo w.heap.size bx o1x o2x o3x o4x o5x x okx) (hcl : okx = true → clOk x = true) (hb : Ye x ≤ 1048576) (hgw : rg x.graph.workers) : CtR Tryz.prog 44 [.pointer (some ⟨bx, 0, none⟩), .int .i64 a, .int .i64 b] w lo w.heap.size (fun v w' => v = .bool ((Kn x okx a b).2) ∧ OwR w' lo w'.heap.size bx o1x o2x o3x o4x o5x ((Kn x okx a b).1) okx) := by
 refine ctR_of Tryz.func44 Z Tryz.ntmps44 Z ?_
 obtain ⟨f1, f2, f3, h1, hl1, hw1, hw2, hw3, hw4, hw5, sp1⟩ := hx
 have y_q1 := h1.lt
 refine Q7 [(0, .pointer (some ⟨bx, 0, none⟩)), (1, .int .i64 a), (2, .int .i64 b)] ⟨Z, Z, Z, trivial⟩ ?_
 have E : ModR w w lo w.heap.size := ModR.refl w lo w.heap.size
 refine Qf (Qh [true] Z Z (Qa (Qg Z) Z (Qd (Qf (Qh [true, true, true, true, true, true, true, false, true] Z Z (Qa (Qe Z) Z (Qa (R_nilCheck Z) Z (Qa (Qb fl58_0 Z) Z (Qa (Qb Ka Z) Z (Qa (Q1 X4 Z (h1.part 0 [o1x, .int .i64 x.graph.workers, .int .i64 x.graph.cap] Z) Z) Z (Qa (Qe Z) Z (Qa (Qe Z) Z (Qy Tryz.call82 Z (s_LinkPlace [o1x, .int .i64 x.graph.workers, .int .i64 x.graph.cap] x.graph a b _ (Graph.mkR x.graph (RdD.any (OwF.rd hw1))) hgw) Z (fun _ w1 e1 hv => ?_))))))))))))))
 subst hv
 replace E := E.ext e1; replace hw1 := hw1.ext e1; replace hw2 := hw2.ext e1; replace hw3 := hw3.ext e1; replace hw4 := hw4.ext e1; replace hw5 := hw5.ext e1; replace h1 := h1.ext e1
 have z1 := e1.size
 refine Qa (Qg Z) Z (Qd (Qf (Qf (Qh [true, true, true, true, true, true, true, true, true, true, true, true, true, true] Z Z (Qa (Qe Z) Z (Qa (R_nilCheck Z) Z (Qa (Qb fl58_1 Z) Z (Qa (Qi sc4 Z (h1.one 7 Z)) Z (Qa (Yo Z) Z (Qa (Qe Z) Z (Yz 8 [(0, .pointer (some ⟨bx, 0, none⟩)), (1, .int .i64 a), (2, .int .i64 b), (6, .bool false), (7, .int .i64 (Xb x.graph a b)), (10, .pointer (some ⟨bx, 0, none⟩)), (11, .pointer (some ⟨bx, 0, none⟩)), (12, .pointer (some ⟨bx, 0, none⟩)), (13, .pointer (some ⟨bx, 0, none⟩)), (14, .agg [o1x, .int .i64 x.graph.workers, .int .i64 x.graph.cap].toArray), (15, .int .i64 a), (16, .int .i64 b), (17, .int .i64 (Xb x.graph a b)), (31, .bool (((!okx) || (decide ((Xb x.graph a b) < 0))) || (a == b)))] (fun w' => w1 = w') ?_ ?_)))))))))))
 ·refine Ym (gd := 23) Z Z (fun hg1 => ?_) (fun hg1 => ?_)
  ·refine Qc Z Z Z Z (Qc Z Z Z Z (Qa (Qr Z Z) Z (Qa (Qe Z) Z (Qc Z Z Z Z (Qc Z Z Z Z (Qc Z Z Z Z (Qa (Qr Z Z) Z (Qp ⟨Z, Z, Z, Z, Z, Z, Z, Z, Z, Z, Z, Z, Z, congrArg (fun b => some (Value.bool b)) (show true = (((!okx) || (decide ((Xb x.graph a b) < 0))) || (a == b)) by first | (rw [hg1] <;> rfl) | (simp [hg1]; done) | (simp only [Qo] <;> simp)), trivial⟩ Z))))))))
  ·refine Qk Z Z (Qe Z) Z (Qk Z Z (Yb Z Z) Z (Qa (Qs Z Z) Z (Qa (Qe Z) Z ?_)))
   refine Ym (gd := 27) Z Z (fun hg2 => ?_) (fun hg2 => ?_)
   ·refine Qc Z Z Z Z (Qc Z Z Z Z (Qc Z Z Z Z (Qa (Qr Z Z) Z (Qp ⟨Z, Z, Z, Z, Z, Z, Z, Z, Z, Z, Z, Z, Z, congrArg (fun b => some (Value.bool b)) (show true = (((!okx) || (decide ((Xb x.graph a b) < 0))) || (a == b)) by first | (rw [hg1, hg2] <;> rfl) | (simp [hg1, hg2]; done) | (simp only [Qo] <;> simp)), trivial⟩ Z))))
   ·refine Qk Z Z (Qe Z) Z (Qk Z Z (Qe Z) Z (Qk Z Z (Yw Z Z) Z (Qa (Qs Z Z) Z (Qp ⟨Z, Z, Z, Z, Z, Z, Z, Z, Z, Z, Z, Z, Z, congrArg (fun b => some (Value.bool b)) (show (a == b) = (((!okx) || (decide ((Xb x.graph a b) < 0))) || (a == b)) by first | (rw [hg1, hg2] <;> rfl) | (simp [hg1, hg2]; done) | (simp only [Qo] <;> simp)), trivial⟩ Z))))
 rintro _ rfl
 refine Qd (Qu Z (fun hc1 => ?_) (fun hc1 => ?_))
 ·refine Qf (Qh [true] Z Z (Qa (Qg Z) Z (Qd (Qw (Qm Z Z E ?_)))))
  rw [credit_no1 hc1]
  exact ⟨Z, ⟨f1, f2, f3, h1, (by omega), (OwF.widen hw1 (Nat.le_refl _) (by omega)), (OwF.widen hw2 (Nat.le_refl _) (by omega)), (OwF.widen hw3 (Nat.le_refl _) (by omega)), (Own.widen hw4 (by omega) (by omega)), (Own.widen hw5 (by omega) (by omega)), sp1⟩⟩
 ·have hlr := run_link hcl hc1
  refine Qq (Qf (Qh [true, true, true, true, true, true, true, true, false, true, true, true, false, false, true] Z Z (Qa (Qe Z) Z (Qa (R_nilCheck Z) Z (Qa (Qb fl58_0 Z) Z (Qa (Qb Xn Z) Z (Qa (Qi sc36 Z (h1.one 4 Z)) Z (Qa (Qe Z) Z ?_))))))))
  have hi1 : (Int.toNat (Xb x.graph a b)) < x.links.length := (by first | assumption | omega | (simp only [List.length_set]; first | assumption | omega))
  have hK1 : OwK w1 f3 w1 lo w.heap.size o3x (x.links.take (Int.toNat (Xb x.graph a b)) ++ x.links[(Int.toNat (Xb x.graph a b))] :: x.links.drop ((Int.toNat (Xb x.graph a b)) + 1)) := ⟨by rw [← self_split hi1]; exact hw3, Kq.refl _ _⟩
  have hfl1 := OwF.in2 hw3
  obtain ⟨_, ho1, hrow1⟩ := OwK.focus hK1
  obtain ⟨o1, rfl, sp2, hw6⟩ := Link.opO ho1
  clear hK1 hw3
  have hl2 : (x.links.take (Int.toNat (Xb x.graph a b))).length = (Int.toNat (Xb x.graph a b)) := by simp; omega
  have hn1 : (Int.toNat (Xb x.graph a b)) + 1 + (x.links.drop ((Int.toNat (Xb x.graph a b)) + 1)).length = x.links.length := by simp; omega
  replace hrow1 : RowR f3 w1 lo w.heap.size o3x (x.links.take (Int.toNat (Xb x.graph a b))) [.int .i64 ((x.links[(Int.toNat (Xb x.graph a b))]'hi1).cap), o1, .int .i64 ((x.links[(Int.toNat (Xb x.graph a b))]'hi1).credits), .int .i64 ((x.links[(Int.toNat (Xb x.graph a b))]'hi1).back), .int .i64 ((x.links[(Int.toNat (Xb x.graph a b))]'hi1).sent), .int .i64 ((x.links[(Int.toNat (Xb x.graph a b))]'hi1).got)] (x.links.drop ((Int.toNat (Xb x.graph a b)) + 1)) := hrow1
  refine Qa (R_indexZ (i := (Int.toNat (Xb x.graph a b))) Ko Z Z (RowK.same1 hrow1 hl2 hn1) (by omega) (by simp; omega)) Z (Qa (Q1 Xd Z (RowK.at hrow1 hl2) Z) Z (Qy Tryz.call83 Z (s_CreditBack [.int .i64 ((x.links[(Int.toNat (Xb x.graph a b))]'hi1).cap), o1, .int .i64 ((x.links[(Int.toNat (Xb x.graph a b))]'hi1).credits), .int .i64 ((x.links[(Int.toNat (Xb x.graph a b))]'hi1).back), .int .i64 ((x.links[(Int.toNat (Xb x.graph a b))]'hi1).sent), .int .i64 ((x.links[(Int.toNat (Xb x.graph a b))]'hi1).got)] (x.links[(Int.toNat (Xb x.graph a b))]'hi1) _ (Link.mkR (x.links[(Int.toNat (Xb x.graph a b))]'hi1) (RdD.any (Own.rdD hw6))) (by have := cntL_get (cnt := Y0) hlr.2; unfold Ye at hb; omega)) Z (fun _ w3 e2 ho2 => ?_)))
  obtain ⟨_, rfl, ho3⟩ := ho2
  have g_ho2 : w.heap.size ≤ w1.heap.size := E.size
  replace E := E.ext e2; replace hw1 := hw1.ext e2; replace hw2 := hw2.ext e2; replace hw4 := hw4.ext e2; replace hw5 := hw5.ext e2; replace h1 := h1.ext e2; replace hw6 := hw6.ext e2; replace hrow1 := hrow1.ext e2
  have z2 := e2.size
  obtain ⟨o2, rfl, sp3, hw7⟩ := Link.opO ho3
  refine Qa (Qe Z) Z (Qa (Kg Z Z) Z (Qa (Kg Z Z) Z (Yu Xd Z (fun b1 w4 e3 s1 h2 => ?_))))
  have g_b1 : w.heap.size ≤ b1 := by have := E.size; omega
  have y_b1 := h2.lt
  replace E := E.ext e3; replace hw1 := hw1.ext e3; replace hw2 := hw2.ext e3; replace hw4 := hw4.ext e3; replace hw5 := hw5.ext e3; replace h1 := h1.ext e3; replace hw6 := hw6.ext e3; replace hrow1 := hrow1.ext e3; replace hw7 := hw7.ext e3
  have z3 := e3.size
  refine Q9 (cs' := [.int .i64 (((Xh (x.links[(Int.toNat (Xb x.graph a b))]'hi1)).1).cap), o2, .int .i64 (((Xh (x.links[(Int.toNat (Xb x.graph a b))]'hi1)).1).credits), .int .i64 (((Xh (x.links[(Int.toNat (Xb x.graph a b))]'hi1)).1).back), .int .i64 (((Xh (x.links[(Int.toNat (Xb x.graph a b))]'hi1)).1).sent), .int .i64 (((Xh (x.links[(Int.toNat (Xb x.graph a b))]'hi1)).1).got)]) Xd Z Z Z (Ql Z (Ql hw7.one (Ql Z (Ql Z (Ql Z (Ql Z Z)))))) h2 (Nat.le_of_ble_eq_true Z) Z (fun w5 m1 h2' => ?_)
  replace h2 := h2'
  replace E := E.mod m1 (fun g hg => by cases hg; omega); replace hw1 := hw1.mod m1 (fun g hg => by cases hg; omega); replace hw2 := hw2.mod m1 (fun g hg => by cases hg; omega); replace hw4 := hw4.mod m1 (fun g hg => by cases hg; omega); replace hw5 := hw5.mod m1 (fun g hg => by cases hg; omega); replace h1 := h1.mod m1 (fun g hg => by cases hg; omega); replace hw6 := hw6.mod m1 (fun g hg => by cases hg; omega); replace hrow1 := hrow1.mod m1 (fun g hg => by cases hg; omega); replace hw7 := hw7.mod m1 (fun g hg => by cases hg; omega)
  have z4 := m1.size
  refine Qa (Qg Z) Z (Qd (Qf (Y7 Y8 [(0, true), (1, true), (2, true), (3, true), (4, true), (5, true), (6, true), (7, true), (8, false)] (by decide +kernel) Z (fun w6 e4 => ?_))))
  replace E := E.ext e4; replace hw1 := hw1.ext e4; replace hw2 := hw2.ext e4; replace hw4 := hw4.ext e4; replace hw5 := hw5.ext e4; replace h1 := h1.ext e4; replace hw6 := hw6.ext e4; replace hrow1 := hrow1.ext e4; replace hw7 := hw7.ext e4; replace h2 := h2.ext e4
  have z5 := e4.size
  refine Qa (Qe Z) Z (Qa (R_nilCheck Z) Z (Qa (Qb fl58_0 Z) Z (Qa (Qb Xn Z) Z (Qa (Qi sc36 Z (h1.one 4 Z)) Z (Qa (Qe Z) Z (Qa (Q1 Xd Z h2.at Z) Z (Qa (R_indexZ (i := (Int.toNat (Xb x.graph a b))) Ko Z Z (RowK.same1 hrow1 hl2 hn1) (by omega) (by simp; omega)) Z (J_storeEx Z Z (RowK.setN (N := w1.heap.size) (lo2 := lo) (hi2 := w6.heap.size) (cs' := [.int .i64 (((Xh (x.links[(Int.toNat (Xb x.graph a b))]'hi1)).1).cap), o2, .int .i64 (((Xh (x.links[(Int.toNat (Xb x.graph a b))]'hi1)).1).credits), .int .i64 (((Xh (x.links[(Int.toNat (Xb x.graph a b))]'hi1)).1).back), .int .i64 (((Xh (x.links[(Int.toNat (Xb x.graph a b))]'hi1)).1).sent), .int .i64 (((Xh (x.links[(Int.toNat (Xb x.graph a b))]'hi1)).1).got)]) Xd hrow1 hl2 (Link.mkO ((Xh (x.links[(Int.toNat (Xb x.graph a b))]'hi1)).1) sp3 (Own.widen hw7 (by omega) (by omega))) ⟨(fun _ h => absurd h List.not_mem_nil), (fun b hb => .inr (by have := Own.in2 hw7 b hb; omega)), (fun _ h => absurd h List.not_mem_nil), (fun _ h => absurd h List.not_mem_nil), (fun _ h => absurd h List.not_mem_nil), (fun _ h => absurd h List.not_mem_nil), trivial⟩ (fun b hb => by have := hfl1 b hb; omega) (by omega) (by omega)) (fun w7 m2 hR => ?_)))))))))
  obtain ⟨f4, hw3, hin1⟩ := hR
  have kq1 := Mod.kq (l := f3) m2 (RowK.v_mem hrow1)
  have hqb := RowK.blk hrow1
  replace E := E.mod m2 (fun g hg => by have := hqb g hg; omega); replace hw1 := OwF.kp hw1 (Kq.kp kq1 sp1.1.2.1); replace hw2 := OwF.kp hw2 (Kq.kp kq1 sp1.2.1.1); replace hw4 := Own.kp hw4 (Kq.kp kq1 (sp1.2.2.1.1).symm); replace hw5 := Own.kp hw5 (Kq.kp kq1 (sp1.2.2.1.2.1).symm); replace h1 := Blk.kp h1 (Kq.kp kq1 (sp1.2.2.1.2.2.1).symm); replace h2 := h2.mod m2 (fun g hg => by have := hqb g hg; omega)
  have z6 := m2.size
  clear hqb hrow1
  replace sp1 := DjL.set (N := w1.heap.size) hin1 2 rfl sp1 ⟨(fun b hb => by have := OwF.in2 hw1 b hb; omega), (fun b hb => by have := OwF.in2 hw2 b hb; omega), (fun b hb => by have := hfl1 b hb; omega), (fun b hb => by have := Own.in2 hw4 b hb; omega), (fun b hb => by have := Own.in2 hw5 b hb; omega), (fun b hb => by simp at hb; omega), trivial⟩
  replace sp1 : DjL [f1, f2, f4, (blks o4x), (blks o5x), [bx]] := sp1
  rw [← set_split hi1] at hw3
  clear hfl1
  refine Qd (Qf (Qh [true, true] Z Z (Qa (Qe Z) Z (Qa (Qg Z) Z (Qd (Qw (Qm Z Z E ?_)))))))
  rw [credit_yes1 hc1 hlr]
  exact ⟨Z, ⟨f1, f2, f4, h1, (by omega), (OwF.widen hw1 (Nat.le_refl _) (by omega)), (OwF.widen hw2 (Nat.le_refl _) (by omega)), (OwF.widen hw3 (Nat.le_refl _) (by omega)), (Own.widen hw4 (by omega) (by omega)), (Own.widen hw5 (by omega) (by omega)), sp1⟩⟩

set_option maxRecDepth 20000 in
theorem s_PickCredit (cx : List Value) (x : Cluster) (a : Int) (b : Int) (w : World) (hx : Dat.R w 0 w.heap.size cx x) (hb : Ye x ≤ 1048576) (hgw : rg x.graph.workers) : Ct Tryz.prog 12 [.agg cx.toArray, .int .i64 a, .int .i64 b] w (fun v w' => ∃ c0, v = .tuple [.agg c0.toArray, .bool ((Qn x a b).2)].toArray ∧ Dat.R w' w.heap.size w'.heap.size c0 ((Qn x a b).1)) := by
 refine Yf Tryz.func12 Z Tryz.ntmps12 Z ?_
 obtain ⟨o1, o2, o3, o4, o5, rfl, hd1, hd2, hd3, hd4, hd5⟩ := Cluster.op hx
 refine Q7 [(0, .agg [o1, .int .i64 x.graph.workers, .int .i64 x.graph.cap, o2, o3, o4, o5].toArray), (1, .int .i64 a), (2, .int .i64 b)] ⟨Z, Z, Z, trivial⟩ ?_
 have E : Ext w w := Ext.refl w
 refine Qf (Qh [false, false, true] Z Z (Yx Z Z (fun b1 w1 e1 s1 h1 => ?_)))
 have g_b1 : w.heap.size ≤ b1 := by have := E.size; omega
 have y_b1 := h1.lt
 replace E := E.trans e1
 have z1 := e1.size
 refine Yu Xe Z (fun b2 w2 e2 s2 h2 => ?_)
 have g_b2 : w.heap.size ≤ b2 := by have := E.size; omega
 have y_b2 := h2.lt
 replace E := E.trans e2; replace h1 := h1.ext e2
 have z2 := e2.size
 refine Qa (Qg Z) Z (Qd (Qf (Qh [true, false, true] Z Z (Qa (Q1 Xe Z h1.at Z) Z (Qy Tryz.call19 Z (s_l15Start [o1, .int .i64 x.graph.workers, .int .i64 x.graph.cap, o2, o3, o4, o5] x _ (Cluster.mkR x (RdD.any (hd1.ext E)) (RdD.any (hd2.ext E)) (RdD.any (hd3.ext E)) (RdD.any (hd4.ext E)) (RdD.any (hd5.ext E))) (by first | omega | (simp only [Qj]; omega) | (rw [Qj]; done) | (simp only [Qj]; done))) Z (fun _ w3 e3 ho1 => ?_))))))
 obtain ⟨b3, o6, o7, o8, o9, o10, rfl, ho1⟩ := ho1
 have g_ho1 : w.heap.size ≤ w2.heap.size := E.size
 replace E := E.trans e3; replace h1 := h1.ext e3; replace h2 := h2.ext e3
 have z3 := e3.size
 obtain ⟨f1, f2, f3, h3, hl1, hw1, hw2, hw3, hw4, hw5, sp1⟩ := ho1
 have y_q1 := h3.lt
 refine Qa (Qg Z) Z (Qd (Qf (Qh [true, true, true, false, true] Z Z (Qa (Qe Z) Z (Qa (Qe Z) Z (Qa (Qe Z) Z ?_))))))
 have hr1 : OwR w3 w2.heap.size w3.heap.size b3 o6 o7 o8 o9 o10 x (clOk x) := ⟨f1, f2, f3, h3, (by omega), (OwF.widen hw1 (Nat.le_refl _) (by omega)), (OwF.widen hw2 (Nat.le_refl _) (by omega)), (OwF.widen hw3 (Nat.le_refl _) (by omega)), (Own.widen hw4 (by omega) (by omega)), (Own.widen hw5 (by omega) (by omega)), sp1⟩
 refine Xu Tryz.call44 Z Z (s_l15Credit b3 o6 o7 o8 o9 o10 w2.heap.size x (clOk x) a b _ hr1 (fun h => h) hb hgw) Z (fun _ w4 e4 hv1 => ?_)
 obtain ⟨rfl, ho2⟩ := hv1
 replace E := E.stepR e4 (by omega); replace h1 := h1.modR e4 (by omega); replace h2 := h2.modR e4 (by omega)
 have z4 := e4.size
 obtain ⟨f4, f5, f6, h4, hl2, hw6, hw7, hw8, hw9, hw10, sp2⟩ := ho2
 have y_q2 := h4.lt
 refine Qa (Qg Z) Z (Qd (Qf (Qh [true, true, true, true, true, false, true] Z Z (Qa (Qe Z) Z (Qa (R_nilCheck Z) Z (Qa (Qb fl58_0 Z) Z (Qa (Q1 Xe Z (h4.part 0 [o6, .int .i64 ((((Kn x (clOk x) a b).1).graph).workers), .int .i64 ((((Kn x (clOk x) a b).1).graph).cap), o7, o8, o9, o10] Z) Z) Z (Qa (Qe Z) Z (Q9 (cs' := [o6, .int .i64 ((((Kn x (clOk x) a b).1).graph).workers), .int .i64 ((((Kn x (clOk x) a b).1).graph).cap), o7, o8, o9, o10]) Xe Z Z Z (Ql (RdD.one (OwF.rd hw6)) (Ql Z (Ql Z (Ql (RdD.one (OwF.rd hw7)) (Ql (RdD.one (OwF.rd hw8)) (Ql hw9.one (Ql hw10.one Z))))))) h2 (Nat.le_of_ble_eq_true Z) Z (fun w5 m1 h2' => ?_))))))))))
 replace h2 := h2'
 replace E := E.step m1 (fun g hg => by cases hg; omega); replace h1 := h1.mod m1 (fun g hg => by cases hg; omega); replace hw6 := hw6.mod m1 (fun g hg => by cases hg; omega); replace hw7 := hw7.mod m1 (fun g hg => by cases hg; omega); replace hw8 := hw8.mod m1 (fun g hg => by cases hg; omega); replace hw9 := hw9.mod m1 (fun g hg => by cases hg; omega); replace hw10 := hw10.mod m1 (fun g hg => by cases hg; omega); replace h4 := h4.mod m1 (fun g hg => by cases hg; omega)
 have z5 := m1.size
 refine Qa (Qg Z) Z (Qd (Qw (E_doneN (l := [.cell 6 40, .tmp 7]) (vs := [.agg [o6, .int .i64 ((((Kn x (clOk x) a b).1).graph).workers), .int .i64 ((((Kn x (clOk x) a b).1).graph).cap), o7, o8, o9, o10].toArray, .bool ((Kn x (clOk x) a b).2)]) Z ⟨.cell Z (Yn Xe h2.at Z), .tmp Z, trivial⟩ Z E ?_)))
 rw [← pick_credit]
 exact ⟨_, Z, (Cluster.mkR _ (RdD.widen (OwF.rd hw6) (by have := E.size; omega) (by omega)) (RdD.widen (OwF.rd hw7) (by have := E.size; omega) (by omega)) (RdD.widen (OwF.rd hw8) (by have := E.size; omega) (by omega)) (RdD.widen (Own.rdD hw9) (by have := E.size; omega) (by omega)) (RdD.widen (Own.rdD hw10) (by have := E.size; omega) (by omega)))⟩

set_option maxHeartbeats 4000000 in
set_option maxRecDepth 20000 in
theorem l_PickCredit (cx : List Value) (x : Cluster) (a : Int) (b : Int) (w : World) (hx : Dat.R w 0 w.heap.size cx x) (kx : okCluster x) (ka : rg a) (kb : rg b) : Ct Tryz.prog 4 [.agg cx.toArray, .int .i64 a, .int .i64 b] w (fun v _ => v = .bool true) := by
 have hcn := cnt_pickCredit x a b
 refine Yf Tryz.func4 Z Tryz.ntmps4 Z ?_
 obtain ⟨o1, o2, o3, o4, o5, rfl, hd1, hd2, hd3, hd4, hd5⟩ := Cluster.op hx
 refine Q7 [(0, .agg [o1, .int .i64 x.graph.workers, .int .i64 x.graph.cap, o2, o3, o4, o5].toArray), (1, .int .i64 a), (2, .int .i64 b)] ⟨Z, Z, Z, trivial⟩ ?_
 have E : Ext w w := Ext.refl w
 refine Qf (Qh [false, true] Z Z (Yx Z Z (fun b1 w1 e1 s1 h1 => ?_)))
 have g_b1 : w.heap.size ≤ b1 := by have := E.size; omega
 have y_b1 := h1.lt
 replace E := E.trans e1
 have z1 := e1.size
 refine Qa (Qg Z) Z (Qd (Qf (Qh [true] Z Z (Qa (Qg Z) Z (Qd (Qf (Qh [true, true, false, true] Z Z (Qa (Q1 st30 Z h1.at Z) Z (Qa (Qe Z) Z (Qy Tryz.call5 Z (c_szCluster [o1, .int .i64 x.graph.workers, .int .i64 x.graph.cap, o2, o3, o4, o5] x 1048576 _ (Cluster.mkR x (RdD.any (hd1.ext E)) (RdD.any (hd2.ext E)) (RdD.any (hd3.ext E)) (RdD.any (hd4.ext E)) (RdD.any (hd5.ext E))) (by first | omega | (simp only [Qj]; omega) | (rw [Qj]; done) | (simp only [Qj]; done))) Z (fun _ w2 e2 hv => ?_)))))))))))
 subst hv
 replace E := E.trans e2; replace h1 := h1.ext e2
 have z2 := e2.size
 refine Qa (Qg Z) Z (Qd (Qf (Qf (Qh [true, true] Z Z (Qa (Qe Z) Z (Qa (Yb Z Z) Z (Qd (Qu Z (fun hc1 => ?_) (fun hc1 => ?_)))))))))
 ·have q1 := X3 hc1 (by omega)
  refine Qf (Qh [true] Z Z (Qa (Qg Z) Z (Qd (Qw (Qm Z Z E ?_)))))
  rfl
 ·have q2 := X2 hc1 (by omega)
  refine Qq (Qf (Qh [true, false, true, true, false, true, true, true, false, false, true] Z Z (Qa (Q1 st30 Z h1.at Z) Z (Qy Tryz.call7 Z (c_toCluster [o1, .int .i64 x.graph.workers, .int .i64 x.graph.cap, o2, o3, o4, o5] x _ (Cluster.mkR x (RdD.any (hd1.ext E)) (RdD.any (hd2.ext E)) (RdD.any (hd3.ext E)) (RdD.any (hd4.ext E)) (RdD.any (hd5.ext E))) (by first | omega | (simp only [Qj]; omega) | (rw [Qj]; done) | (simp only [Qj]; done))) Z (fun _ w3 e3 ho1 => ?_)))))
  obtain ⟨o6, o7, o8, o9, o10, rfl, ho1⟩ := ho1
  have g_ho1 : w.heap.size ≤ w2.heap.size := E.size
  replace E := E.trans e3; replace h1 := h1.ext e3
  have z3 := e3.size
  refine Qa (Qe Z) Z (Qa (Qe Z) Z (Qy Tryz.call12 Z (s_PickCredit [o6, .int .i64 x.graph.workers, .int .i64 x.graph.cap, o7, o8, o9, o10] x a b _ (Cluster.mkR x (RdD.any (OwC.rd1 ho1)) (RdD.any (OwC.rd2 ho1)) (RdD.any (OwC.rd3 ho1)) (RdD.any (OwC.rd4 ho1)) (RdD.any (OwC.rd5 ho1))) (by omega) kx.1.2.1) Z (fun _ w4 e4 ho2 => ?_)))
  obtain ⟨_, rfl, ho3⟩ := ho2
  have g_ho2 : w.heap.size ≤ w3.heap.size := E.size
  replace E := E.trans e4; replace h1 := h1.ext e4; replace ho1 := ho1.ext e4
  have z4 := e4.size
  obtain ⟨o11, o12, o13, o14, o15, rfl, hd6, hd7, hd8, hd9, hd10⟩ := Cluster.op ho3
  refine Qa (Qe Z) Z (Qa (Kg Z Z) Z (Qa (Kg Z Z) Z (Yu Xe Z (fun b2 w5 e5 s2 h2 => ?_))))
  have g_b2 : w.heap.size ≤ b2 := by have := E.size; omega
  have y_b2 := h2.lt
  replace E := E.trans e5; replace h1 := h1.ext e5; replace ho1 := ho1.ext e5; replace hd6 := hd6.ext e5; replace hd7 := hd7.ext e5; replace hd8 := hd8.ext e5; replace hd9 := hd9.ext e5; replace hd10 := hd10.ext e5
  have z5 := e5.size
  refine Q9 (cs' := [o11, .int .i64 ((((Qn x a b).1).graph).workers), .int .i64 ((((Qn x a b).1).graph).cap), o12, o13, o14, o15]) Xe Z Z Z (Ql (RdD.one hd6) (Ql Z (Ql Z (Ql (RdD.one hd7) (Ql (RdD.one hd8) (Ql (RdD.one hd9) (Ql (RdD.one hd10) Z))))))) h2 (Nat.le_of_ble_eq_true Z) Z (fun w6 m1 h2' => ?_)
  replace h2 := h2'
  replace E := E.step m1 (fun g hg => by cases hg; omega); replace h1 := h1.mod m1 (fun g hg => by cases hg; omega); replace ho1 := ho1.mod m1 (fun g hg => by cases hg; omega); replace hd6 := hd6.mod m1 (fun g hg => by cases hg; omega); replace hd7 := hd7.mod m1 (fun g hg => by cases hg; omega); replace hd8 := hd8.mod m1 (fun g hg => by cases hg; omega); replace hd9 := hd9.mod m1 (fun g hg => by cases hg; omega); replace hd10 := hd10.mod m1 (fun g hg => by cases hg; omega)
  have z6 := m1.size
  refine Qa (Qg Z) Z (Qd (Qf (Qh [true, false, false, false] Z Z (Qa (Q1 st30 Z h1.at Z) Z (Qy Tryz.call7 Z (c_toCluster [o1, .int .i64 x.graph.workers, .int .i64 x.graph.cap, o2, o3, o4, o5] x _ (Cluster.mkR x (RdD.any (hd1.ext E)) (RdD.any (hd2.ext E)) (RdD.any (hd3.ext E)) (RdD.any (hd4.ext E)) (RdD.any (hd5.ext E))) (by first | omega | (simp only [Qj]; omega) | (rw [Qj]; done) | (simp only [Qj]; done))) Z (fun _ w7 e6 ho4 => ?_))))))
  obtain ⟨o16, o17, o18, o19, o20, rfl, ho4⟩ := ho4
  have g_ho4 : w.heap.size ≤ w6.heap.size := E.size
  replace E := E.trans e6; replace h1 := h1.ext e6; replace ho1 := ho1.ext e6; replace hd6 := hd6.ext e6; replace hd7 := hd7.ext e6; replace hd8 := hd8.ext e6; replace hd9 := hd9.ext e6; replace hd10 := hd10.ext e6; replace h2 := h2.ext e6
  have z7 := e6.size
  refine Yu Xe Z (fun b3 w8 e7 s3 h3 => ?_)
  have g_b3 : w.heap.size ≤ b3 := by have := E.size; omega
  have y_b3 := h3.lt
  replace E := E.trans e7; replace h1 := h1.ext e7; replace ho1 := ho1.ext e7; replace hd6 := hd6.ext e7; replace hd7 := hd7.ext e7; replace hd8 := hd8.ext e7; replace hd9 := hd9.ext e7; replace hd10 := hd10.ext e7; replace h2 := h2.ext e7; replace ho4 := ho4.ext e7
  have z8 := e7.size
  refine Q9 (cs' := [o16, .int .i64 x.graph.workers, .int .i64 x.graph.cap, o17, o18, o19, o20]) Xe Z Z Z (Ql (RdD.one (OwC.rd1 ho4)) (Ql Z (Ql Z (Ql (RdD.one (OwC.rd2 ho4)) (Ql (RdD.one (OwC.rd3 ho4)) (Ql (RdD.one (OwC.rd4 ho4)) (Ql (RdD.one (OwC.rd5 ho4)) Z))))))) h3 (Nat.le_of_ble_eq_true Z) Z (fun w9 m2 h3' => ?_)
  replace h3 := h3'
  replace E := E.step m2 (fun g hg => by cases hg; omega); replace h1 := h1.mod m2 (fun g hg => by cases hg; omega); replace ho1 := ho1.mod m2 (fun g hg => by cases hg; omega); replace hd6 := hd6.mod m2 (fun g hg => by cases hg; omega); replace hd7 := hd7.mod m2 (fun g hg => by cases hg; omega); replace hd8 := hd8.mod m2 (fun g hg => by cases hg; omega); replace hd9 := hd9.mod m2 (fun g hg => by cases hg; omega); replace hd10 := hd10.mod m2 (fun g hg => by cases hg; omega); replace h2 := h2.mod m2 (fun g hg => by cases hg; omega); replace ho4 := ho4.mod m2 (fun g hg => by cases hg; omega)
  have z9 := m2.size
  refine Qd (Qf (Qh [true, true, true, false, true, true, true, false, false, true] Z Z (Qa (Q1 Xe Z h3.at Z) Z (Qa (Qe Z) Z (Qa (Qe Z) Z (Qy Tryz.call13 Z (c_PickCredit [o16, .int .i64 x.graph.workers, .int .i64 x.graph.cap, o17, o18, o19, o20] x a b _ (Cluster.mkR x (RdD.any (OwC.rd1 ho4)) (RdD.any (OwC.rd2 ho4)) (RdD.any (OwC.rd3 ho4)) (RdD.any (OwC.rd4 ho4)) (RdD.any (OwC.rd5 ho4))) (by omega) (fun l hl => (kx.2.2.1 l hl).2.2.2.2.2)) Z (fun _ w10 e8 ho5 => ?_)))))))
  obtain ⟨o21, o22, o23, o24, o25, rfl, ho6⟩ := ho5
  have g_ho5 : w.heap.size ≤ w9.heap.size := E.size
  replace E := E.trans e8; replace h1 := h1.ext e8; replace ho1 := ho1.ext e8; replace hd6 := hd6.ext e8; replace hd7 := hd7.ext e8; replace hd8 := hd8.ext e8; replace hd9 := hd9.ext e8; replace hd10 := hd10.ext e8; replace h2 := h2.ext e8; replace ho4 := ho4.ext e8; replace h3 := h3.ext e8
  have z10 := e8.size
  refine Qa (Qe Z) Z (Qa (Kg Z Z) Z (Qa (Kg Z Z) Z (Yu Xe Z (fun b4 w11 e9 s4 h4 => ?_))))
  have g_b4 : w.heap.size ≤ b4 := by have := E.size; omega
  have y_b4 := h4.lt
  replace E := E.trans e9; replace h1 := h1.ext e9; replace ho1 := ho1.ext e9; replace hd6 := hd6.ext e9; replace hd7 := hd7.ext e9; replace hd8 := hd8.ext e9; replace hd9 := hd9.ext e9; replace hd10 := hd10.ext e9; replace h2 := h2.ext e9; replace ho4 := ho4.ext e9; replace h3 := h3.ext e9; replace ho6 := ho6.ext e9
  have z11 := e9.size
  refine Q9 (cs' := [o21, .int .i64 ((((Qn x a b).1).graph).workers), .int .i64 ((((Qn x a b).1).graph).cap), o22, o23, o24, o25]) Xe Z Z Z (Ql (RdD.one (OwC.rd1 ho6)) (Ql Z (Ql Z (Ql (RdD.one (OwC.rd2 ho6)) (Ql (RdD.one (OwC.rd3 ho6)) (Ql (RdD.one (OwC.rd4 ho6)) (Ql (RdD.one (OwC.rd5 ho6)) Z))))))) h4 (Nat.le_of_ble_eq_true Z) Z (fun w12 m3 h4' => ?_)
  replace h4 := h4'
  replace E := E.step m3 (fun g hg => by cases hg; omega); replace h1 := h1.mod m3 (fun g hg => by cases hg; omega); replace ho1 := ho1.mod m3 (fun g hg => by cases hg; omega); replace hd6 := hd6.mod m3 (fun g hg => by cases hg; omega); replace hd7 := hd7.mod m3 (fun g hg => by cases hg; omega); replace hd8 := hd8.mod m3 (fun g hg => by cases hg; omega); replace hd9 := hd9.mod m3 (fun g hg => by cases hg; omega); replace hd10 := hd10.mod m3 (fun g hg => by cases hg; omega); replace h2 := h2.mod m3 (fun g hg => by cases hg; omega); replace ho4 := ho4.mod m3 (fun g hg => by cases hg; omega); replace h3 := h3.mod m3 (fun g hg => by cases hg; omega); replace ho6 := ho6.mod m3 (fun g hg => by cases hg; omega)
  have z12 := m3.size
  refine Qa (Qg Z) Z (Qd (Qf (Qf (Qh [true, true, false, true, true, true, true, true, true] Z Z (Qa (Q1 Xe Z h4.at Z) Z (Qa (Q1 Xe Z h2.at Z) Z (Qy Tryz.call9 Z (c_eqCluster [o21, .int .i64 ((((Qn x a b).1).graph).workers), .int .i64 ((((Qn x a b).1).graph).cap), o22, o23, o24, o25] ((Qn x a b).1) [o11, .int .i64 ((((Qn x a b).1).graph).workers), .int .i64 ((((Qn x a b).1).graph).cap), o12, o13, o14, o15] ((Qn x a b).1) _ (Cluster.mkR ((Qn x a b).1) (RdD.any (OwC.rd1 ho6)) (RdD.any (OwC.rd2 ho6)) (RdD.any (OwC.rd3 ho6)) (RdD.any (OwC.rd4 ho6)) (RdD.any (OwC.rd5 ho6))) (Cluster.mkR ((Qn x a b).1) (RdD.any hd6) (RdD.any hd7) (RdD.any hd8) (RdD.any hd9) (RdD.any hd10))) Z (fun _ w13 e10 hv => ?_))))))))
  subst hv
  replace E := E.trans e10; replace h1 := h1.ext e10; replace ho1 := ho1.ext e10; replace hd6 := hd6.ext e10; replace hd7 := hd7.ext e10; replace hd8 := hd8.ext e10; replace hd9 := hd9.ext e10; replace hd10 := hd10.ext e10; replace h2 := h2.ext e10; replace ho4 := ho4.ext e10; replace h3 := h3.ext e10; replace ho6 := ho6.ext e10; replace h4 := h4.ext e10
  have z13 := e10.size
  refine Qa (Yo Z) Z (Qa (Qe Z) Z (Yz 4 [(0, .agg [o1, .int .i64 x.graph.workers, .int .i64 x.graph.cap, o2, o3, o4, o5].toArray), (1, .int .i64 a), (2, .int .i64 b), (3, .pointer (some ⟨b1, 0, none⟩)), (6, .bool false), (7, .int .i64 (Kh (Ye x) 1048576)), (8, .pointer (some ⟨b2, 0, none⟩)), (9, .bool ((Qn x a b).2)), (10, .pointer (some ⟨b3, 0, none⟩)), (11, .pointer (some ⟨b4, 0, none⟩)), (12, .bool ((Qn x a b).2)), (18, .agg [o1, .int .i64 x.graph.workers, .int .i64 x.graph.cap, o2, o3, o4, o5].toArray), (19, .int .i64 1048576), (20, .int .i64 (Kh (Ye x) 1048576)), (21, .int .i64 (Kh (Ye x) 1048576)), (22, .bool (decide ((Kh (Ye x) 1048576) < 0))), (23, .tuple [.agg [o11, .int .i64 ((((Qn x a b).1).graph).workers), .int .i64 ((((Qn x a b).1).graph).cap), o12, o13, o14, o15].toArray, .bool ((Qn x a b).2)].toArray), (24, .agg [o1, .int .i64 x.graph.workers, .int .i64 x.graph.cap, o2, o3, o4, o5].toArray), (25, .agg [o6, .int .i64 x.graph.workers, .int .i64 x.graph.cap, o7, o8, o9, o10].toArray), (26, .int .i64 a), (27, .int .i64 b), (28, .tuple [.agg [o11, .int .i64 ((((Qn x a b).1).graph).workers), .int .i64 ((((Qn x a b).1).graph).cap), o12, o13, o14, o15].toArray, .bool ((Qn x a b).2)].toArray), (29, .agg [o11, .int .i64 ((((Qn x a b).1).graph).workers), .int .i64 ((((Qn x a b).1).graph).cap), o12, o13, o14, o15].toArray), (30, .bool ((Qn x a b).2)), (31, .agg [o1, .int .i64 x.graph.workers, .int .i64 x.graph.cap, o2, o3, o4, o5].toArray), (32, .agg [o16, .int .i64 x.graph.workers, .int .i64 x.graph.cap, o17, o18, o19, o20].toArray), (33, .tuple [.agg [o21, .int .i64 ((((Qn x a b).1).graph).workers), .int .i64 ((((Qn x a b).1).graph).cap), o22, o23, o24, o25].toArray, .bool ((Qn x a b).2)].toArray), (34, .agg [o16, .int .i64 x.graph.workers, .int .i64 x.graph.cap, o17, o18, o19, o20].toArray), (35, .int .i64 a), (36, .int .i64 b), (37, .tuple [.agg [o21, .int .i64 ((((Qn x a b).1).graph).workers), .int .i64 ((((Qn x a b).1).graph).cap), o22, o23, o24, o25].toArray, .bool ((Qn x a b).2)].toArray), (38, .agg [o21, .int .i64 ((((Qn x a b).1).graph).workers), .int .i64 ((((Qn x a b).1).graph).cap), o22, o23, o24, o25].toArray), (39, .bool ((Qn x a b).2)), (48, .bool ((!(decide ((Qn x a b).1 = ((Qn x a b).1)))) || (!(((Qn x a b).2) == ((Qn x a b).2)))))] (fun w' => w13 = w') ?_ ?_))
  ·refine Ym (gd := 44) Z Z (fun hg1 => ?_) (fun hg1 => ?_)
   ·exact absurd hg1 (by first | (simp; done) | (simp only [Qo] <;> simp) | (simp only [Qj, Qo] <;> simp) | (simp only [Qj] <;> simp))
   ·refine Qk Z Z (Qe Z) Z (Qk Z Z (Qe Z) Z (Qk Z Z (Kj (Tryz.underlying4) Z Z) Z (Qa (Qs Z Z) Z (Qp ⟨Z, Z, Z, Z, Z, Z, Z, Z, Z, Z, Z, Z, Z, Z, Z, Z, Z, Z, Z, Z, Z, Z, Z, Z, Z, Z, Z, Z, Z, Z, Z, Z, Z, congrArg (fun b => some (Value.bool b)) (show (!(((Qn x a b).2) == ((Qn x a b).2))) = ((!(decide ((Qn x a b).1 = ((Qn x a b).1)))) || (!(((Qn x a b).2) == ((Qn x a b).2)))) by first | (rw [hg1] <;> rfl) | (simp [hg1]; done) | (simp only [Qo] <;> simp)), trivial⟩ Z))))
  rintro _ rfl
  refine Qd (Yp Z (by first | (simp; done) | (simp only [Qo] <;> simp) | (simp only [Qj, Qo] <;> simp) | (simp only [Qj] <;> simp)) (Qq (Qf (Qf (Y7 Y8 [(0, true), (1, true), (2, false), (3, false), (4, true)] (by decide +kernel) Z (fun w15 e11 => ?_))))))
  replace E := E.trans e11; replace h1 := h1.ext e11; replace ho1 := ho1.ext e11; replace hd6 := hd6.ext e11; replace hd7 := hd7.ext e11; replace hd8 := hd8.ext e11; replace hd9 := hd9.ext e11; replace hd10 := hd10.ext e11; replace h2 := h2.ext e11; replace ho4 := ho4.ext e11; replace h3 := h3.ext e11; replace ho6 := ho6.ext e11; replace h4 := h4.ext e11
  have z14 := e11.size
  refine Qa (Q1 Xe Z h3.at Z) Z (Qa (Q1 st30 Z h1.at Z) Z (Qy Tryz.call7 Z (c_toCluster [o1, .int .i64 x.graph.workers, .int .i64 x.graph.cap, o2, o3, o4, o5] x _ (Cluster.mkR x (RdD.any (hd1.ext E)) (RdD.any (hd2.ext E)) (RdD.any (hd3.ext E)) (RdD.any (hd4.ext E)) (RdD.any (hd5.ext E))) (by first | omega | (simp only [Qj]; omega) | (rw [Qj]; done) | (simp only [Qj]; done))) Z (fun _ w16 e12 ho7 => ?_)))
  obtain ⟨o26, o27, o28, o29, o30, rfl, ho7⟩ := ho7
  have g_ho7 : w.heap.size ≤ w15.heap.size := E.size
  replace E := E.trans e12; replace h1 := h1.ext e12; replace ho1 := ho1.ext e12; replace hd6 := hd6.ext e12; replace hd7 := hd7.ext e12; replace hd8 := hd8.ext e12; replace hd9 := hd9.ext e12; replace hd10 := hd10.ext e12; replace h2 := h2.ext e12; replace ho4 := ho4.ext e12; replace h3 := h3.ext e12; replace ho6 := ho6.ext e12; replace h4 := h4.ext e12
  have z15 := e12.size
  refine Qy Tryz.call9 Z (c_eqCluster [o16, .int .i64 x.graph.workers, .int .i64 x.graph.cap, o17, o18, o19, o20] x [o26, .int .i64 x.graph.workers, .int .i64 x.graph.cap, o27, o28, o29, o30] x _ (Cluster.mkR x (RdD.any (OwC.rd1 ho4)) (RdD.any (OwC.rd2 ho4)) (RdD.any (OwC.rd3 ho4)) (RdD.any (OwC.rd4 ho4)) (RdD.any (OwC.rd5 ho4))) (Cluster.mkR x (RdD.any (OwC.rd1 ho7)) (RdD.any (OwC.rd2 ho7)) (RdD.any (OwC.rd3 ho7)) (RdD.any (OwC.rd4 ho7)) (RdD.any (OwC.rd5 ho7)))) Z (fun _ w17 e13 hv => ?_)
  subst hv
  replace E := E.trans e13; replace h1 := h1.ext e13; replace ho1 := ho1.ext e13; replace hd6 := hd6.ext e13; replace hd7 := hd7.ext e13; replace hd8 := hd8.ext e13; replace hd9 := hd9.ext e13; replace hd10 := hd10.ext e13; replace h2 := h2.ext e13; replace ho4 := ho4.ext e13; replace h3 := h3.ext e13; replace ho6 := ho6.ext e13; replace h4 := h4.ext e13; replace ho7 := ho7.ext e13
  have z16 := e13.size
  refine Qa (Yo Z) Z (Qd (Yp Z (by first | (simp; done) | (simp only [Qo] <;> simp) | (simp only [Qj, Qo] <;> simp) | (simp only [Qj] <;> simp)) (Qq (Qf (Qh [true] Z Z (Qa (Qg Z) Z (Qd (Qf (Qh [true, true, false, true] Z Z (Qa (Q1 Xe Z h3.at Z) Z (Qa (Qe Z) Z (Xu Tryz.call10 Z Z (markCluster o16 o17 o18 o19 o20 w6.heap.size w7.heap.size x 1 _ ho4 (by omega) (by omega)) Z (fun _ w18 e14 hv => ?_)))))))))))))
  obtain ⟨rfl, ho4'⟩ := hv
  replace ho4 := ho4'
  replace E := E.stepR e14 (by omega); replace h1 := h1.modR e14 (by omega); replace ho1 := ho1.modR e14 (by omega); replace hd6 := hd6.modR e14 (by omega); replace hd7 := hd7.modR e14 (by omega); replace hd8 := hd8.modR e14 (by omega); replace hd9 := hd9.modR e14 (by omega); replace hd10 := hd10.modR e14 (by omega); replace h2 := h2.modR e14 (by omega); replace h3 := h3.modR e14 (by omega); replace ho6 := ho6.modR e14 (by omega); replace h4 := h4.modR e14 (by omega); replace ho7 := ho7.modR e14 (by omega)
  have z17 := e14.size
  refine Qa (Qg Z) Z (Qd (Qf (Qf (Qh [true, true, true, true, true, false, true, true, true, true, true, true, true] Z Z (Qa (Qe Z) Z (Qa (Yb Z Z) Z (Qa (Qe Z) Z (Yz 10 [(0, .agg [o1, .int .i64 x.graph.workers, .int .i64 x.graph.cap, o2, o3, o4, o5].toArray), (1, .int .i64 a), (2, .int .i64 b), (3, .pointer (some ⟨b1, 0, none⟩)), (6, .bool false), (7, .int .i64 (Kh (Ye x) 1048576)), (8, .pointer (some ⟨b2, 0, none⟩)), (9, .bool ((Qn x a b).2)), (10, .pointer (some ⟨b3, 0, none⟩)), (11, .pointer (some ⟨b4, 0, none⟩)), (12, .bool ((Qn x a b).2)), (13, .int .i64 ((numCl 1 x : Nat) : Int)), (18, .agg [o1, .int .i64 x.graph.workers, .int .i64 x.graph.cap, o2, o3, o4, o5].toArray), (19, .int .i64 1048576), (20, .int .i64 (Kh (Ye x) 1048576)), (21, .int .i64 (Kh (Ye x) 1048576)), (22, .bool (decide ((Kh (Ye x) 1048576) < 0))), (23, .tuple [.agg [o11, .int .i64 ((((Qn x a b).1).graph).workers), .int .i64 ((((Qn x a b).1).graph).cap), o12, o13, o14, o15].toArray, .bool ((Qn x a b).2)].toArray), (24, .agg [o1, .int .i64 x.graph.workers, .int .i64 x.graph.cap, o2, o3, o4, o5].toArray), (25, .agg [o6, .int .i64 x.graph.workers, .int .i64 x.graph.cap, o7, o8, o9, o10].toArray), (26, .int .i64 a), (27, .int .i64 b), (28, .tuple [.agg [o11, .int .i64 ((((Qn x a b).1).graph).workers), .int .i64 ((((Qn x a b).1).graph).cap), o12, o13, o14, o15].toArray, .bool ((Qn x a b).2)].toArray), (29, .agg [o11, .int .i64 ((((Qn x a b).1).graph).workers), .int .i64 ((((Qn x a b).1).graph).cap), o12, o13, o14, o15].toArray), (30, .bool ((Qn x a b).2)), (31, .agg [o1, .int .i64 x.graph.workers, .int .i64 x.graph.cap, o2, o3, o4, o5].toArray), (32, .agg [o16, .int .i64 x.graph.workers, .int .i64 x.graph.cap, o17, o18, o19, o20].toArray), (33, .tuple [.agg [o21, .int .i64 ((((Qn x a b).1).graph).workers), .int .i64 ((((Qn x a b).1).graph).cap), o22, o23, o24, o25].toArray, .bool ((Qn x a b).2)].toArray), (34, .agg [o16, .int .i64 x.graph.workers, .int .i64 x.graph.cap, o17, o18, o19, o20].toArray), (35, .int .i64 a), (36, .int .i64 b), (37, .tuple [.agg [o21, .int .i64 ((((Qn x a b).1).graph).workers), .int .i64 ((((Qn x a b).1).graph).cap), o22, o23, o24, o25].toArray, .bool ((Qn x a b).2)].toArray), (38, .agg [o21, .int .i64 ((((Qn x a b).1).graph).workers), .int .i64 ((((Qn x a b).1).graph).cap), o22, o23, o24, o25].toArray), (39, .bool ((Qn x a b).2)), (48, .bool ((!(decide ((Qn x a b).1 = ((Qn x a b).1)))) || (!(((Qn x a b).2) == ((Qn x a b).2))))), (49, .agg [o16, .int .i64 x.graph.workers, .int .i64 x.graph.cap, o17, o18, o19, o20].toArray), (50, .agg [o1, .int .i64 x.graph.workers, .int .i64 x.graph.cap, o2, o3, o4, o5].toArray), (51, .agg [o26, .int .i64 x.graph.workers, .int .i64 x.graph.cap, o27, o28, o29, o30].toArray), (52, .bool (decide (x = x))), (53, .bool (!(decide (x = x)))), (54, .agg [o16, .int .i64 x.graph.workers, .int .i64 x.graph.cap, o17, o18, o19, o20].toArray), (55, .int .i64 1), (56, .int .i64 ((numCl 1 x : Nat) : Int)), (69, .bool (((decide (((numCl 1 x : Nat) : Int) < 0)) || (!(decide ((Qn x a b).1 = ((Qn x a b).1))))) || (!(((Qn x a b).2) == ((Qn x a b).2)))))] (fun w' => Ext w w' ∧ w18.heap.size ≤ w'.heap.size ∧ Blk w' b1 ([o1, .int .i64 x.graph.workers, .int .i64 x.graph.cap, o2, o3, o4, o5]) ∧ OwC w' w2.heap.size w3.heap.size o6 o7 o8 o9 o10 x ∧ RdD w' w3.heap.size w4.heap.size o11 ((((Qn x a b).1).graph).nodes) ∧ RdD w' w3.heap.size w4.heap.size o12 (((Qn x a b).1).workers) ∧ RdD w' w3.heap.size w4.heap.size o13 (((Qn x a b).1).links) ∧ RdD w' w3.heap.size w4.heap.size o14 (((Qn x a b).1).tokens) ∧ RdD w' w3.heap.size w4.heap.size o15 (((Qn x a b).1).news) ∧ Blk w' b2 [o11, .int .i64 ((((Qn x a b).1).graph).workers), .int .i64 ((((Qn x a b).1).graph).cap), o12, o13, o14, o15] ∧ OwC w' w6.heap.size w7.heap.size o16 o17 o18 o19 o20 (markCl 1 x) ∧ Blk w' b3 [o16, .int .i64 x.graph.workers, .int .i64 x.graph.cap, o17, o18, o19, o20] ∧ OwC w' w9.heap.size w10.heap.size o21 o22 o23 o24 o25 ((Qn x a b).1) ∧ Blk w' b4 [o21, .int .i64 ((((Qn x a b).1).graph).workers), .int .i64 ((((Qn x a b).1).graph).cap), o22, o23, o24, o25] ∧ OwC w' w15.heap.size w16.heap.size o26 o27 o28 o29 o30 x) ?_ ?_))))))))
  ·refine Ym (gd := 59) Z Z (fun hg2 => ?_) (fun hg2 => ?_)
   ·exact absurd hg2 (by first | (simp; done) | (simp only [Qo] <;> simp) | (simp only [Qj, Qo] <;> simp) | (simp only [Qj] <;> simp))
   ·have hg2n : ¬ numCl 1 x < 0 := by first | (have h := of_decide_eq_false hg2; omega) | (have h := hg2; simp at h; omega)
    refine Qk Z Z (Q1 Xe Z h4.at Z) Z (Qk Z Z (Q1 Xe Z h2.at Z) Z ?_)
    refine Xk Z Z ?_
    refine Qy Tryz.call9 Z (c_eqCluster [o21, .int .i64 ((((Qn x a b).1).graph).workers), .int .i64 ((((Qn x a b).1).graph).cap), o22, o23, o24, o25] ((Qn x a b).1) [o11, .int .i64 ((((Qn x a b).1).graph).workers), .int .i64 ((((Qn x a b).1).graph).cap), o12, o13, o14, o15] ((Qn x a b).1) _ (Cluster.mkR ((Qn x a b).1) (RdD.any (OwC.rd1 ho6)) (RdD.any (OwC.rd2 ho6)) (RdD.any (OwC.rd3 ho6)) (RdD.any (OwC.rd4 ho6)) (RdD.any (OwC.rd5 ho6))) (Cluster.mkR ((Qn x a b).1) (RdD.any hd6) (RdD.any hd7) (RdD.any hd8) (RdD.any hd9) (RdD.any hd10))) Z (fun _ w20 e15 hv => ?_)
    subst hv
    replace E := E.trans e15; replace h1 := h1.ext e15; replace ho1 := ho1.ext e15; replace hd6 := hd6.ext e15; replace hd7 := hd7.ext e15; replace hd8 := hd8.ext e15; replace hd9 := hd9.ext e15; replace hd10 := hd10.ext e15; replace h2 := h2.ext e15; replace ho4 := ho4.ext e15; replace h3 := h3.ext e15; replace ho6 := ho6.ext e15; replace h4 := h4.ext e15; replace ho7 := ho7.ext e15
    have z18 := e15.size
    refine Qk Z Z (Yo Z) Z (Qa (Qs Z Z) Z (Qa (Qe Z) Z ?_))
    refine Ym (gd := 65) Z Z (fun hg3 => ?_) (fun hg3 => ?_)
    ·exact absurd hg3 (by first | (simp; done) | (simp only [Qo] <;> simp) | (simp only [Qj, Qo] <;> simp) | (simp only [Qj] <;> simp))
    ·refine Qk Z Z (Qe Z) Z (Qk Z Z (Qe Z) Z (Qk Z Z (Kj (Tryz.underlying4) Z Z) Z (Qa (Qs Z Z) Z (Qp ⟨Z, Z, Z, Z, Z, Z, Z, Z, Z, Z, Z, Z, Z, Z, Z, Z, Z, Z, Z, Z, Z, Z, Z, Z, Z, Z, Z, Z, Z, Z, Z, Z, Z, Z, Z, Z, Z, Z, Z, Z, Z, Z, Z, congrArg (fun b => some (Value.bool b)) (show (!(((Qn x a b).2) == ((Qn x a b).2))) = (((decide (((numCl 1 x : Nat) : Int) < 0)) || (!(decide ((Qn x a b).1 = ((Qn x a b).1))))) || (!(((Qn x a b).2) == ((Qn x a b).2)))) by first | (rw [hg2, hg3] <;> rfl) | (simp [hg2, hg3]; done) | (simp only [Qo] <;> simp)), trivial⟩ ⟨E, (by omega), h1, ho1, hd6, hd7, hd8, hd9, hd10, h2, ho4, h3, ho6, h4, ho7⟩))))
  clear E h1 ho1 hd6 hd7 hd8 hd9 hd10 h2 ho4 h3 ho6 h4 ho7
  rintro w19 ⟨E, z19, h1, ho1, hd6, hd7, hd8, hd9, hd10, h2, ho4, h3, ho6, h4, ho7⟩
  refine Qd (Yp Z (by first | (simp; done) | (simp only [Qo] <;> simp) | (simp only [Qj, Qo] <;> simp) | (simp only [Qj] <;> simp)) (Qq (Qf (Qh [true] Z Z (Qa (Qg Z) Z (Qd (Qf (Qh [true, true, false, true] Z Z (Qa (Q1 Xe Z h4.at Z) Z (Qa (Qe Z) Z (Xu Tryz.call10 Z Z (markCluster o21 o22 o23 o24 o25 w9.heap.size w10.heap.size ((Qn x a b).1) 1 _ ho6 (by omega) (by omega)) Z (fun _ w21 e16 hv => ?_))))))))))))
  obtain ⟨rfl, ho6'⟩ := hv
  replace ho6 := ho6'
  replace E := E.stepR e16 (by omega); replace h1 := h1.modR e16 (by omega); replace ho1 := ho1.modR e16 (by omega); replace hd6 := hd6.modR e16 (by omega); replace hd7 := hd7.modR e16 (by omega); replace hd8 := hd8.modR e16 (by omega); replace hd9 := hd9.modR e16 (by omega); replace hd10 := hd10.modR e16 (by omega); replace h2 := h2.modR e16 (by omega); replace ho4 := ho4.modR e16 (by omega); replace h3 := h3.modR e16 (by omega); replace h4 := h4.modR e16 (by omega); replace ho7 := ho7.modR e16 (by omega)
  have z20 := e16.size
  refine Qa (Qg Z) Z (Qd (Qf (Qh [true] Z Z (Qa (Qg Z) Z (Qd (Qf (Qh [true, true, false, true] Z Z (Qa (Q1 Xe Z h4.at Z) Z (Qa (Qe Z) Z (Qy Tryz.call11 Z (heldCluster [o21, .int .i64 ((((Qn x a b).1).graph).workers), .int .i64 ((((Qn x a b).1).graph).cap), o22, o23, o24, o25] (markCl 1 ((Qn x a b).1)) 1 _ (Cluster.mkR (markCl 1 ((Qn x a b).1)) (RdD.any (OwC.rd1 ho6)) (RdD.any (OwC.rd2 ho6)) (RdD.any (OwC.rd3 ho6)) (RdD.any (OwC.rd4 ho6)) (RdD.any (OwC.rd5 ho6))) (markCl_idem _ _) (by rw [cntCl_mark]; omega)) Z (fun _ w22 e17 hv => ?_)))))))))))
  subst hv
  replace E := E.trans e17; replace h1 := h1.ext e17; replace ho1 := ho1.ext e17; replace hd6 := hd6.ext e17; replace hd7 := hd7.ext e17; replace hd8 := hd8.ext e17; replace hd9 := hd9.ext e17; replace hd10 := hd10.ext e17; replace h2 := h2.ext e17; replace ho4 := ho4.ext e17; replace h3 := h3.ext e17; replace ho6 := ho6.ext e17; replace h4 := h4.ext e17; replace ho7 := ho7.ext e17
  have z21 := e17.size
  refine Qa (Qg Z) Z (Qd (Qf (Qf (Qh [true, true] Z Z (Qa (Qe Z) Z (Qa (Yb Z Z) Z (Qd (Yp Z (by first | (simp; done) | (simp only [Qo] <;> simp) | (simp only [Qj, Qo] <;> simp) | (simp only [Qj] <;> simp)) (Qq (Qf (Qf (Qh [true, true, true] Z Z (Qa (Qe Z) Z (Qa (Qe Z) Z (Qa (Ys Z Z) Z (Qd (Yp Z (by rw [numCl_mark]; simp) (Qq (Qf (Qh [true, false, true, true, false, true, true, true, false, false, true] Z Z (Qa (Q1 st30 Z h1.at Z) Z (Qy Tryz.call7 Z (c_toCluster [o1, .int .i64 x.graph.workers, .int .i64 x.graph.cap, o2, o3, o4, o5] x _ (Cluster.mkR x (RdD.any (hd1.ext E)) (RdD.any (hd2.ext E)) (RdD.any (hd3.ext E)) (RdD.any (hd4.ext E)) (RdD.any (hd5.ext E))) (by first | omega | (simp only [Qj]; omega) | (rw [Qj]; done) | (simp only [Qj]; done))) Z (fun _ w23 e18 ho8 => ?_)))))))))))))))))))))))
  obtain ⟨o31, o32, o33, o34, o35, rfl, ho8⟩ := ho8
  have g_ho8 : w.heap.size ≤ w22.heap.size := E.size
  replace E := E.trans e18; replace h1 := h1.ext e18; replace ho1 := ho1.ext e18; replace hd6 := hd6.ext e18; replace hd7 := hd7.ext e18; replace hd8 := hd8.ext e18; replace hd9 := hd9.ext e18; replace hd10 := hd10.ext e18; replace h2 := h2.ext e18; replace ho4 := ho4.ext e18; replace h3 := h3.ext e18; replace ho6 := ho6.ext e18; replace h4 := h4.ext e18; replace ho7 := ho7.ext e18
  have z22 := e18.size
  refine Qa (Qe Z) Z (Qa (Qe Z) Z (Qy Tryz.call13 Z (c_PickCredit [o31, .int .i64 x.graph.workers, .int .i64 x.graph.cap, o32, o33, o34, o35] x a b _ (Cluster.mkR x (RdD.any (OwC.rd1 ho8)) (RdD.any (OwC.rd2 ho8)) (RdD.any (OwC.rd3 ho8)) (RdD.any (OwC.rd4 ho8)) (RdD.any (OwC.rd5 ho8))) (by omega) (fun l hl => (kx.2.2.1 l hl).2.2.2.2.2)) Z (fun _ w24 e19 ho9 => ?_)))
  obtain ⟨o36, o37, o38, o39, o40, rfl, ho10⟩ := ho9
  have g_ho9 : w.heap.size ≤ w23.heap.size := E.size
  replace E := E.trans e19; replace h1 := h1.ext e19; replace ho1 := ho1.ext e19; replace hd6 := hd6.ext e19; replace hd7 := hd7.ext e19; replace hd8 := hd8.ext e19; replace hd9 := hd9.ext e19; replace hd10 := hd10.ext e19; replace h2 := h2.ext e19; replace ho4 := ho4.ext e19; replace h3 := h3.ext e19; replace ho6 := ho6.ext e19; replace h4 := h4.ext e19; replace ho7 := ho7.ext e19; replace ho8 := ho8.ext e19
  have z23 := e19.size
  refine Qa (Qe Z) Z (Qa (Kg Z Z) Z (Qa (Kg Z Z) Z (Yu Xe Z (fun b5 w25 e20 s5 h5 => ?_))))
  have g_b5 : w.heap.size ≤ b5 := by have := E.size; omega
  have y_b5 := h5.lt
  replace E := E.trans e20; replace h1 := h1.ext e20; replace ho1 := ho1.ext e20; replace hd6 := hd6.ext e20; replace hd7 := hd7.ext e20; replace hd8 := hd8.ext e20; replace hd9 := hd9.ext e20; replace hd10 := hd10.ext e20; replace h2 := h2.ext e20; replace ho4 := ho4.ext e20; replace h3 := h3.ext e20; replace ho6 := ho6.ext e20; replace h4 := h4.ext e20; replace ho7 := ho7.ext e20; replace ho8 := ho8.ext e20; replace ho10 := ho10.ext e20
  have z24 := e20.size
  refine Q9 (cs' := [o36, .int .i64 ((((Qn x a b).1).graph).workers), .int .i64 ((((Qn x a b).1).graph).cap), o37, o38, o39, o40]) Xe Z Z Z (Ql (RdD.one (OwC.rd1 ho10)) (Ql Z (Ql Z (Ql (RdD.one (OwC.rd2 ho10)) (Ql (RdD.one (OwC.rd3 ho10)) (Ql (RdD.one (OwC.rd4 ho10)) (Ql (RdD.one (OwC.rd5 ho10)) Z))))))) h5 (Nat.le_of_ble_eq_true Z) Z (fun w26 m4 h5' => ?_)
  replace h5 := h5'
  replace E := E.step m4 (fun g hg => by cases hg; omega); replace h1 := h1.mod m4 (fun g hg => by cases hg; omega); replace ho1 := ho1.mod m4 (fun g hg => by cases hg; omega); replace hd6 := hd6.mod m4 (fun g hg => by cases hg; omega); replace hd7 := hd7.mod m4 (fun g hg => by cases hg; omega); replace hd8 := hd8.mod m4 (fun g hg => by cases hg; omega); replace hd9 := hd9.mod m4 (fun g hg => by cases hg; omega); replace hd10 := hd10.mod m4 (fun g hg => by cases hg; omega); replace h2 := h2.mod m4 (fun g hg => by cases hg; omega); replace ho4 := ho4.mod m4 (fun g hg => by cases hg; omega); replace h3 := h3.mod m4 (fun g hg => by cases hg; omega); replace ho6 := ho6.mod m4 (fun g hg => by cases hg; omega); replace h4 := h4.mod m4 (fun g hg => by cases hg; omega); replace ho7 := ho7.mod m4 (fun g hg => by cases hg; omega); replace ho8 := ho8.mod m4 (fun g hg => by cases hg; omega); replace ho10 := ho10.mod m4 (fun g hg => by cases hg; omega)
  have z25 := m4.size
  refine Qa (Qg Z) Z (Qd (Qf (Qf (Qh [true, true, false, true, true, true, true, true, true] Z Z (Qa (Q1 Xe Z h5.at Z) Z (Qa (Q1 Xe Z h2.at Z) Z (Qy Tryz.call9 Z (c_eqCluster [o36, .int .i64 ((((Qn x a b).1).graph).workers), .int .i64 ((((Qn x a b).1).graph).cap), o37, o38, o39, o40] ((Qn x a b).1) [o11, .int .i64 ((((Qn x a b).1).graph).workers), .int .i64 ((((Qn x a b).1).graph).cap), o12, o13, o14, o15] ((Qn x a b).1) _ (Cluster.mkR ((Qn x a b).1) (RdD.any (OwC.rd1 ho10)) (RdD.any (OwC.rd2 ho10)) (RdD.any (OwC.rd3 ho10)) (RdD.any (OwC.rd4 ho10)) (RdD.any (OwC.rd5 ho10))) (Cluster.mkR ((Qn x a b).1) (RdD.any hd6) (RdD.any hd7) (RdD.any hd8) (RdD.any hd9) (RdD.any hd10))) Z (fun _ w27 e21 hv => ?_))))))))
  subst hv
  replace E := E.trans e21; replace h1 := h1.ext e21; replace ho1 := ho1.ext e21; replace hd6 := hd6.ext e21; replace hd7 := hd7.ext e21; replace hd8 := hd8.ext e21; replace hd9 := hd9.ext e21; replace hd10 := hd10.ext e21; replace h2 := h2.ext e21; replace ho4 := ho4.ext e21; replace h3 := h3.ext e21; replace ho6 := ho6.ext e21; replace h4 := h4.ext e21; replace ho7 := ho7.ext e21; replace ho8 := ho8.ext e21; replace ho10 := ho10.ext e21; replace h5 := h5.ext e21
  have z26 := e21.size
  refine Qa (Yo Z) Z (Qa (Qe Z) Z (Yz 4 [(0, .agg [o1, .int .i64 x.graph.workers, .int .i64 x.graph.cap, o2, o3, o4, o5].toArray), (1, .int .i64 a), (2, .int .i64 b), (3, .pointer (some ⟨b1, 0, none⟩)), (6, .bool false), (7, .int .i64 (Kh (Ye x) 1048576)), (8, .pointer (some ⟨b2, 0, none⟩)), (9, .bool ((Qn x a b).2)), (10, .pointer (some ⟨b3, 0, none⟩)), (11, .pointer (some ⟨b4, 0, none⟩)), (12, .bool ((Qn x a b).2)), (13, .int .i64 ((numCl 1 x : Nat) : Int)), (14, .int .i64 ((numCl 1 ((Qn x a b).1) : Nat) : Int)), (15, .int .i64 ((numCl 1 (markCl 1 ((Qn x a b).1)) : Nat) : Int)), (16, .pointer (some ⟨b5, 0, none⟩)), (17, .bool ((Qn x a b).2)), (18, .agg [o1, .int .i64 x.graph.workers, .int .i64 x.graph.cap, o2, o3, o4, o5].toArray), (19, .int .i64 1048576), (20, .int .i64 (Kh (Ye x) 1048576)), (21, .int .i64 (Kh (Ye x) 1048576)), (22, .bool (decide ((Kh (Ye x) 1048576) < 0))), (23, .tuple [.agg [o11, .int .i64 ((((Qn x a b).1).graph).workers), .int .i64 ((((Qn x a b).1).graph).cap), o12, o13, o14, o15].toArray, .bool ((Qn x a b).2)].toArray), (24, .agg [o1, .int .i64 x.graph.workers, .int .i64 x.graph.cap, o2, o3, o4, o5].toArray), (25, .agg [o6, .int .i64 x.graph.workers, .int .i64 x.graph.cap, o7, o8, o9, o10].toArray), (26, .int .i64 a), (27, .int .i64 b), (28, .tuple [.agg [o11, .int .i64 ((((Qn x a b).1).graph).workers), .int .i64 ((((Qn x a b).1).graph).cap), o12, o13, o14, o15].toArray, .bool ((Qn x a b).2)].toArray), (29, .agg [o11, .int .i64 ((((Qn x a b).1).graph).workers), .int .i64 ((((Qn x a b).1).graph).cap), o12, o13, o14, o15].toArray), (30, .bool ((Qn x a b).2)), (31, .agg [o1, .int .i64 x.graph.workers, .int .i64 x.graph.cap, o2, o3, o4, o5].toArray), (32, .agg [o16, .int .i64 x.graph.workers, .int .i64 x.graph.cap, o17, o18, o19, o20].toArray), (33, .tuple [.agg [o21, .int .i64 ((((Qn x a b).1).graph).workers), .int .i64 ((((Qn x a b).1).graph).cap), o22, o23, o24, o25].toArray, .bool ((Qn x a b).2)].toArray), (34, .agg [o16, .int .i64 x.graph.workers, .int .i64 x.graph.cap, o17, o18, o19, o20].toArray), (35, .int .i64 a), (36, .int .i64 b), (37, .tuple [.agg [o21, .int .i64 ((((Qn x a b).1).graph).workers), .int .i64 ((((Qn x a b).1).graph).cap), o22, o23, o24, o25].toArray, .bool ((Qn x a b).2)].toArray), (38, .agg [o21, .int .i64 ((((Qn x a b).1).graph).workers), .int .i64 ((((Qn x a b).1).graph).cap), o22, o23, o24, o25].toArray), (39, .bool ((Qn x a b).2)), (48, .bool ((!(decide ((Qn x a b).1 = ((Qn x a b).1)))) || (!(((Qn x a b).2) == ((Qn x a b).2))))), (49, .agg [o16, .int .i64 x.graph.workers, .int .i64 x.graph.cap, o17, o18, o19, o20].toArray), (50, .agg [o1, .int .i64 x.graph.workers, .int .i64 x.graph.cap, o2, o3, o4, o5].toArray), (51, .agg [o26, .int .i64 x.graph.workers, .int .i64 x.graph.cap, o27, o28, o29, o30].toArray), (52, .bool (decide (x = x))), (53, .bool (!(decide (x = x)))), (54, .agg [o16, .int .i64 x.graph.workers, .int .i64 x.graph.cap, o17, o18, o19, o20].toArray), (55, .int .i64 1), (56, .int .i64 ((numCl 1 x : Nat) : Int)), (69, .bool (((decide (((numCl 1 x : Nat) : Int) < 0)) || (!(decide ((Qn x a b).1 = ((Qn x a b).1))))) || (!(((Qn x a b).2) == ((Qn x a b).2))))), (70, .agg [o21, .int .i64 ((((Qn x a b).1).graph).workers), .int .i64 ((((Qn x a b).1).graph).cap), o22, o23, o24, o25].toArray), (71, .int .i64 1), (72, .int .i64 ((numCl 1 ((Qn x a b).1) : Nat) : Int)), (73, .agg [o21, .int .i64 ((((Qn x a b).1).graph).workers), .int .i64 ((((Qn x a b).1).graph).cap), o22, o23, o24, o25].toArray), (74, .int .i64 1), (75, .int .i64 ((numCl 1 (markCl 1 ((Qn x a b).1)) : Nat) : Int)), (76, .int .i64 ((numCl 1 (markCl 1 ((Qn x a b).1)) : Nat) : Int)), (77, .bool (decide (((numCl 1 (markCl 1 ((Qn x a b).1)) : Nat) : Int) < 0))), (78, .int .i64 ((numCl 1 (markCl 1 ((Qn x a b).1)) : Nat) : Int)), (79, .int .i64 ((numCl 1 ((Qn x a b).1) : Nat) : Int)), (80, .bool (((numCl 1 (markCl 1 ((Qn x a b).1)) : Nat) : Int) != ((numCl 1 ((Qn x a b).1) : Nat) : Int))), (81, .tuple [.agg [o36, .int .i64 ((((Qn x a b).1).graph).workers), .int .i64 ((((Qn x a b).1).graph).cap), o37, o38, o39, o40].toArray, .bool ((Qn x a b).2)].toArray), (82, .agg [o1, .int .i64 x.graph.workers, .int .i64 x.graph.cap, o2, o3, o4, o5].toArray), (83, .agg [o31, .int .i64 x.graph.workers, .int .i64 x.graph.cap, o32, o33, o34, o35].toArray), (84, .int .i64 a), (85, .int .i64 b), (86, .tuple [.agg [o36, .int .i64 ((((Qn x a b).1).graph).workers), .int .i64 ((((Qn x a b).1).graph).cap), o37, o38, o39, o40].toArray, .bool ((Qn x a b).2)].toArray), (87, .agg [o36, .int .i64 ((((Qn x a b).1).graph).workers), .int .i64 ((((Qn x a b).1).graph).cap), o37, o38, o39, o40].toArray), (88, .bool ((Qn x a b).2)), (97, .bool ((!(decide ((Qn x a b).1 = ((Qn x a b).1)))) || (!(((Qn x a b).2) == ((Qn x a b).2)))))] (fun w' => w27 = w') ?_ ?_))
  ·refine Ym (gd := 93) Z Z (fun hg4 => ?_) (fun hg4 => ?_)
   ·exact absurd hg4 (by first | (simp; done) | (simp only [Qo] <;> simp) | (simp only [Qj, Qo] <;> simp) | (simp only [Qj] <;> simp))
   ·refine Qk Z Z (Qe Z) Z (Qk Z Z (Qe Z) Z (Qk Z Z (Kj (Tryz.underlying4) Z Z) Z (Qa (Qs Z Z) Z (Qp ⟨Z, Z, Z, Z, Z, Z, Z, Z, Z, Z, Z, Z, Z, Z, Z, Z, Z, Z, Z, Z, Z, Z, Z, Z, Z, Z, Z, Z, Z, Z, Z, Z, Z, Z, Z, Z, Z, Z, Z, Z, Z, Z, Z, Z, Z, Z, Z, Z, Z, Z, Z, Z, Z, Z, Z, Z, Z, Z, Z, Z, Z, Z, Z, Z, Z, Z, Z, congrArg (fun b => some (Value.bool b)) (show (!(((Qn x a b).2) == ((Qn x a b).2))) = ((!(decide ((Qn x a b).1 = ((Qn x a b).1)))) || (!(((Qn x a b).2) == ((Qn x a b).2)))) by first | (rw [hg4] <;> rfl) | (simp [hg4]; done) | (simp only [Qo] <;> simp)), trivial⟩ Z))))
  rintro _ rfl
  refine Qd (Yp Z (by first | (simp; done) | (simp only [Qo] <;> simp) | (simp only [Qj, Qo] <;> simp) | (simp only [Qj] <;> simp)) (Qq (Qf (Qh [true] Z Z (Qa (Qg Z) Z (Qd (Qf (Qh [true, true, false, true] Z Z (Qa (Q1 Xe Z h4.at Z) Z (Qa (Qe Z) Z (Qy Tryz.call11 Z (heldCluster [o21, .int .i64 ((((Qn x a b).1).graph).workers), .int .i64 ((((Qn x a b).1).graph).cap), o22, o23, o24, o25] (markCl 1 ((Qn x a b).1)) 1 _ (Cluster.mkR (markCl 1 ((Qn x a b).1)) (RdD.any (OwC.rd1 ho6)) (RdD.any (OwC.rd2 ho6)) (RdD.any (OwC.rd3 ho6)) (RdD.any (OwC.rd4 ho6)) (RdD.any (OwC.rd5 ho6))) (markCl_idem _ _) (by rw [cntCl_mark]; omega)) Z (fun _ w29 e22 hv => ?_))))))))))))
  subst hv
  replace E := E.trans e22; replace h1 := h1.ext e22; replace ho1 := ho1.ext e22; replace hd6 := hd6.ext e22; replace hd7 := hd7.ext e22; replace hd8 := hd8.ext e22; replace hd9 := hd9.ext e22; replace hd10 := hd10.ext e22; replace h2 := h2.ext e22; replace ho4 := ho4.ext e22; replace h3 := h3.ext e22; replace ho6 := ho6.ext e22; replace h4 := h4.ext e22; replace ho7 := ho7.ext e22; replace ho8 := ho8.ext e22; replace ho10 := ho10.ext e22; replace h5 := h5.ext e22
  have z27 := e22.size
  refine Qa (Qg Z) Z (Qd (Qf (Qf (Qh [true, true] Z Z (Qa (Qe Z) Z (Qa (Yb Z Z) Z (Qd (Yp Z (by first | (simp; done) | (simp only [Qo] <;> simp) | (simp only [Qj, Qo] <;> simp) | (simp only [Qj] <;> simp)) (Qq (Qf (Qf (Qh [true, true, true] Z Z (Qa (Qe Z) Z (Qa (Qe Z) Z (Qa (Ys Z Z) Z (Qd (Yp Z (by rw [numCl_mark]; simp) (Qq (Qf (Qh [true] Z Z (Qa (Qg Z) Z (Qd (Qw (Qm Z Z E ?_))))))))))))))))))))))))
  rfl

end Go.Proofs.YtbnoffhbponglaaGreat
