/- The law FnExactCountsAt, where what it reads is of bulk at most 1048576: it returns true, and its arguments read afterwards as before. -/
import Derived.OpenShut
import Derived.JoinedCond
import Derived.Test.YtcpjlfikdobckaaFns2
import Derived.Test.YtcpjlfikdobckaaDec
import Derived.Test.YtcpjlfikdobckaaRows
namespace Go.Proofs.Ytcpjlfikdobckaa.fnExactCountsAtDone
open Go Go.Proofs.Ytcpjlfikdobckaa.X Go.Proofs Go.Proofs.Ytcpjlfikdobckaa
open Go.ChangeShapes Go.WideShapes Go.ChangeAt Go.RowKit
theorem one_le {H : Type} (d : DataW H) : 1 ≤ Rows.uptoBulk d := by
  cases d with
  | lit l => cases l <;> simp [Rows.uptoBulk]
  | nil => simp [Rows.uptoBulk]
  | ptr d => simp [Rows.uptoBulk]
  | slice elems spare => simp [Rows.uptoBulk]
  | agg parts => simp [Rows.uptoBulk]
  | iface t d => simp [Rows.uptoBulk]
  | map entries => simp [Rows.uptoBulk]
  | held h => simp [Rows.uptoBulk]
theorem all_le {H : Type} (l : List (DataW H)) (h : ∀ d ∈ l, 2 ≤ Rows.uptoBulk d) : 2 * l.length ≤ Rows.uptoBulkAll l := by
  induction l with
  | nil => simp [Rows.uptoBulkAll]
  | cons x r ih =>
    have h1 := h x (by simp)
    have h2 := ih fun d hd => h d (by simp [hd])
    simp only [Rows.uptoBulkAll, List.length_cons]
    omega
theorem slice_two {H : Type} {en : TypeId × Value → H} {P : Program} {w : World} {t e : TypeId} {fs : Array Field} {fuel : Nat} {v : Value} {y : DataW H × List MemPlace} (ht : P.underlying t = some (.slice e)) (he : P.underlying e = some (.struct fs)) (hf : 0 < fs.size)
    (h : DataW.trod en P w 0 (fun _ => true) true fuel t [v] = some y) {n : Nat} (hl : SlLen v n) : 2 * n ≤ Rows.uptoBulk y.1 := by
  rcases Go.Deep.open_slice ht h with ⟨hv, rfl⟩ | ⟨a, len, cap, m, _, Dd, Pl, hv, _, hlc, _, hmm, rfl, hx⟩
  · obtain ⟨a, c, rfl⟩ := hl
    simp only [List.cons.injEq, and_true, Value.slice.injEq] at hv
    omega
  · obtain ⟨b, c, rfl⟩ := hl
    simp only [List.cons.injEq, and_true, Value.slice.injEq] at hv
    obtain ⟨rfl, rfl, rfl⟩ := hv
    simp only [if_true] at hmm
    have h2 := all_le ((List.range n).map Dd) (fun d hd => by
      obtain ⟨i, hi, rfl⟩ := List.mem_map.1 hd
      have hi := List.mem_range.1 hi
      obtain ⟨cs, _, h3⟩ := hx i (by omega)
      obtain ⟨xs, _, _, h4, _, h5, _⟩ := DataW.trod_struct he h3
      rw [Prod.mk.injEq] at h4
      rw [h4.1]
      cases xs with
      | nil => rw [List.length_nil] at h5; omega
      | cons x r =>
        have := one_le x.1
        simp only [Rows.uptoBulk, List.map_cons, Rows.uptoBulkAll]
        omega)
    rw [List.length_map, List.length_range] at h2
    simp only [Rows.uptoBulk]
    omega
theorem three_le {H : Type} {l : List (DataW H × List MemPlace)} {a b c : DataW H × List MemPlace} (ha : l[0]? = some a) (hb : l[1]? = some b) (hc : l[2]? = some c) : Rows.uptoBulk a.1 + Rows.uptoBulk b.1 + Rows.uptoBulk c.1 ≤ Rows.uptoBulkAll (l.map (·.1)) := by
  match l, ha, hb, hc with
  | x :: y :: z :: r, ha, hb, hc =>
    simp only [List.getElem?_cons_zero, List.getElem?_cons_succ, Option.some.injEq] at ha hb hc
    subst ha hb hc
    simp only [List.map_cons, Rows.uptoBulkAll]
    omega
theorem bulk_recs {H : Type} {en : TypeId × Value → H} {w : World} {cs : List Value} {x : Worker} {d : DataW H} {p : List MemPlace} (h : DataW.Trod en Try.prog w 0 (fun _ => true) true 28 (.agg cs.toArray) d p) (hx : Dat.R w 0 w.heap.size cs x) (hk : Rows.uptoBulk d ≤ 1048576) : (recsOf x).length ≤ 1000000 := by
  obtain ⟨fuel, h⟩ := h
  obtain ⟨o1, o2, o3, o4, o5, o6, o7, o8, rfl, h1, h2, h3, _⟩ := Worker.op hx
  obtain ⟨xs, n, _, h4, _, h5, h6⟩ := DataW.trod_struct Try.underlying28 h
  have e1 := h6 0 _ rfl
  have e2 := h6 1 _ rfl
  have e3 := h6 2 _ rfl
  obtain ⟨y1, g1⟩ : ∃ y, xs[0]? = some y := ⟨xs[0]'(by rw [h5]; decide), List.getElem?_eq_getElem _⟩
  obtain ⟨y2, g2⟩ : ∃ y, xs[1]? = some y := ⟨xs[1]'(by rw [h5]; decide), List.getElem?_eq_getElem _⟩
  obtain ⟨y3, g3⟩ : ∃ y, xs[2]? = some y := ⟨xs[2]'(by rw [h5]; decide), List.getElem?_eq_getElem _⟩
  have b := three_le g1 g2 g3
  rw [g1] at e1; rw [g2] at e2; rw [g3] at e3
  have b1 := slice_two (fuel := n) (v := o1) Try.underlying22 Try.underlying75 (by decide) (by simpa [Value.cells, cof22] using e1) h1.1.len
  have b2 := slice_two (fuel := n) (v := o2) Try.underlying22 Try.underlying75 (by decide) (by simpa [Value.cells, cof22] using e2) h2.1.len
  have b3 := slice_two (fuel := n) (v := o3) Try.underlying22 Try.underlying75 (by decide) (by simpa [Value.cells, cof22] using e3) h3.1.len
  rw [Prod.mk.injEq] at h4
  rw [h4.1] at hk
  simp only [Rows.uptoBulk] at hk
  rw [recsOf_len]
  omega
set_option maxRecDepth 100000 in
theorem lifted (os : Os) (started : os.Started) (H : Type) (enc : TypeId × Value → H) (F : Stop.Interp) :
    ReturnsInHanded {} Try.checked os 3 .any ((Rows.OpenSpec.upto Rows.fnExactCountsAtSpec).pre6 enc Try.prog Try.f3 Rows.fnExactCountsAtUptoRow.domain false) (((Rows.OpenSpec.upto Rows.fnExactCountsAtSpec).at F).post enc Try.prog Try.f3 false true false false) := by
  refine returnsInHanded_of_cond (C := Try.checked) (s := Rows.OpenSpec.upto Rows.fnExactCountsAtSpec) (k := Rows.uptoSmall) rfl ownk started (by kernel_rfl) Try.func3
    (OpenSpec.witness (enc := enc) (C := Try.checked) (s := Rows.OpenSpec.upto Rows.fnExactCountsAtSpec) (k := Rows.uptoSmall) rfl false ⟨#[], #[.agg #[.slice none 0 0, .slice none 0 0, .slice none 0 0, .slice none 0 0, .slice none 0 0, .slice none 0 0, .slice none 0 0, .slice none 0 0]], []⟩ 8 (by kernel_rfl) (by kernel_rfl) (by kernel_rfl)
      (x := ([.agg [.nil, .nil, .nil, .nil, .nil, .nil, .nil, .nil]], [], [])) (by kernel_rfl) rfl (by kernel_rfl)) ?_
  intro W base args ds gs before hval0 hW _ hk _
  have hval : ∀ (j : Nat) t v, Try.f3.params[j]? = some t → args[j]? = some v → Value.okWide Try.prog W .any base t v := hval0
  have hW' := hW
  obtain ⟨p, q, hA0, hV, rfl, hfz, hnd⟩ := hW
  have hA : DataW.TrodAll enc Try.prog W 0 (fun _ => true) true Try.f3.params.toList args.toList ds p := hA0
  rw [Try.params3] at hA hval
  obtain ⟨v0, vs0, d0, ds0, p0, q0, hargs, rfl, rfl, h0, r0⟩ := trodAll_cons hA
  obtain ⟨rfl, rfl, rfl⟩ := trodAll_nil r0
  obtain rfl : args = #[v0] := by cases args; simp_all
  obtain ⟨rfl, rfl⟩ := trodVars_none hV
  have lt0 := trod_below h0
  obtain ⟨cs0, x0, rfl, hx0, k0⟩ := open_st Try.underlying28 dec28 (hval 0 28 v0 rfl rfl) h0
  have hk1 : Rows.uptoBulkAll _ ≤ 1048576 := of_decide_eq_true hk
  simp only [Rows.uptoBulkAll, List.append_nil] at hk1
  clear hA0 hval0
  refine Calls.mono (l_CountsAt cs0 x0 W hx0 k0 (bulk_recs h0 hx0 (by omega))) fun e W' ⟨v, he, hx, hv⟩ => ?_
  subst he hv
  have bel := hx.below
  exact ⟨_, rfl, _, _, _, [], _, [], hW', trodAll_mk1 (shut_bool Try.underlying4 _), (trodAll_cons_mk (Below.trod laidOut (by kernel_rfl) (of_decide_eq_true (by kernel_rfl)) h0 bel lt0) trodAll_mk0), rfl, bel.frame _, fun h => by cases h⟩
theorem over : Rows.fnExactCountsAtUptoRow.holds Try.pinned (Rows.OpenSpec.upto Rows.fnExactCountsAtSpec) :=
  OpenClaim.holds_of_cond 3 Try.f3 rfl rfl rfl rfl rfl rfl rfl ⟨rfl, rfl, rfl, rfl, rfl⟩ rfl rfl rfl rfl rfl (by kernel_rfl) Try.func3 (by kernel_rfl)
    (of_decide_eq_true (by kernel_rfl)) (by unfold Func.isWrapper; first | (rw [if_pos (by decide +kernel)]; kernel_rfl) | (rw [if_neg (by decide +kernel)]; exact ⟨rfl, rfl⟩))
    (fun os started H enc _ F => lifted os started H enc F)
theorem proved : Rows.FnExactCountsAtUptoSaid := over
end Go.Proofs.Ytcpjlfikdobckaa.fnExactCountsAtDone
