/- slices.SortFunc at a slice of structs, by the shelf's contract; no condition. -/
import Derived.Shelf.SlSortCmp.NoneTotal
import Derived.Test.YtcpjlfikdobckaaGreatLib2
namespace Go.Proofs.YtcpjlfikdobckaaGreat.X
open Go
open Enc (enc)
/-! ### slices.SortFunc, by the shelf's contract -/
theorem ext_grow {w w' : World} (e : Ext w w') : ∃ q os, w' = Go.Sort.grow (w.drewN q) os := by
  refine ⟨w'.drawn - w.drawn, w'.heap.extract w.heap.size w'.heap.size, ?_⟩
  have h1 := e.os
  have h2 := e.tape
  have h3 := e.output
  have h4 := e.drawn
  have h5 := e.size
  have h6 := fun k (hk : k < w.heap.size) => e.same hk
  cases w with
  | mk heap tape drawn os output =>
    cases w' with
    | mk heap' tape' drawn' os' output' =>
      simp only at h1 h2 h3 h4 h5 h6
      subst h1 h2 h3
      simp only [Go.Sort.grow, World.drewN, World.mk.injEq, true_and, and_true]
      refine ⟨?_, by omega⟩
      apply Array.ext_getElem?
      intro k
      rcases Nat.lt_or_ge k heap.size with hk | hk
      · rw [Array.getElem?_append_left hk]; exact h6 k hk
      · rw [Array.getElem?_append_right hk, Array.getElem?_extract]
        rcases Nat.lt_or_ge k heap'.size with hk' | hk'
        · rw [if_pos (by omega), show heap.size + (k - heap.size) = k from by omega]
        · rw [if_neg (by omega)]; simp [hk']
section
variable {α : Type} [Enc α] [Inhabited α]
theorem flatK_cons (k : Nat) (hk : k = Enc.sz α) (x : α) (xs : List α) : (Go.Sort.flatK enc k (x :: xs).toArray).toList = enc x ++ (Go.Sort.flatK enc k xs.toArray).toList := by
  have hlen : ∀ y : α, (enc y).length = k := fun y => by rw [hk]; exact Enc.len y
  have hpos : 0 < k := by rw [hk]; exact Enc.pos
  refine List.ext_getElem (by simp [hlen, Nat.add_mul]; omega) fun t h1 h2 => ?_
  simp only [Go.Sort.flatK, Array.toList_map, Array.toList_range, List.getElem_map, List.getElem_range]
  rcases Nat.lt_or_ge t k with ht | ht
  · rw [List.getElem_append_left (by rw [hlen]; exact ht), Nat.div_eq_of_lt ht, Nat.mod_eq_of_lt ht]
    simp [hlen, ht]
  · rw [List.getElem_append_right (by rw [hlen]; exact ht)]
    have e1 : t / k = (t - k) / k + 1 := by rw [Nat.div_eq t k, if_pos ⟨hpos, ht⟩]
    have e2 : t % k = (t - k) % k := Nat.mod_eq_sub_mod ht
    simp only [List.getElem_map, List.getElem_range, hlen, e1, e2]
    congr 2
    simp
theorem flatK_list (k : Nat) (hk : k = Enc.sz α) : ∀ xs : List α, (Go.Sort.flatK enc k xs.toArray).toList = xs.flatMap enc
  | [] => by simp [Go.Sort.flatK]
  | x :: xs => by rw [flatK_cons k hk, flatK_list k hk xs, List.flatMap_cons]
theorem flatK_get (k : Nat) (hk : k = Enc.sz α) (xs : List α) {j : Nat} (hj : j < (Go.Sort.flatK enc k xs.toArray).size) : (xs.flatMap enc)[j]? = some (Go.Sort.flatK enc k xs.toArray)[j]! := by
  rw [← flatK_list k hk, Array.getElem?_toList, getElem!_pos _ j hj]
  simp [hj]
theorem Own.holdsK {w : World} {lo hi : Nat} {g off len cap : Nat} {xs : List α} {cur : Array Value} {T : TypeId} (hb : w.heap[g]? = some (.cells cur T (0, 0))) (hc : ∀ j u, (xs.flatMap enc)[j]? = some u → cur[off + j]? = some u) :
    Go.Sort.HoldsK enc (Enc.sz α) w g off xs.toArray := fun j hj => by
  have h := hc j _ (flatK_get _ rfl xs hj)
  constructor
  · simp only [World.cell?, hb]; simpa using h
  · simp [World.frozen?, hb]
/-- What a sort of the row leaves. -/
theorem Own.sorted {w : World} {lo hi g off len cap n : Nat} {xs ys : List α} {os : Array Obj} {cur : Array Value} {T : TypeId} (hb : w.heap[g]? = some (.cells cur T (0, 0))) (h1 : lo ≤ g) (h2 : g < hi) (h3 : len ≤ cap) (h4 : cap ≤ maxLen) (h5 : off + cap * Enc.sz α ≤ cur.size) (h6 : xs.length = len) (hl : ys.length = xs.length) :
    ModR w (Go.Proofs.sortWorldK enc (Enc.sz α) w g off n ys.toArray os) lo hi ∧ Own (Go.Proofs.sortWorldK enc (Enc.sz α) w g off n ys.toArray os) lo hi (Enc.sz α) (.slice (some ⟨g, off, none⟩) len cap) (ys.flatMap enc) := by
  have hgs : g < w.heap.size := (Array.getElem?_eq_some_iff.1 hb).1
  have hheap : ∀ q, q < w.heap.size → (Go.Proofs.sortWorldK enc (Enc.sz α) w g off n ys.toArray os).heap[q]? = if q = g then some (.cells (Go.Sort.putCells id off (Go.Sort.flatK enc (Enc.sz α) ys.toArray) cur) T (0, 0)) else w.heap[q]? := fun q hq => by
    simp only [Go.Proofs.sortWorldK, Go.Sort.grow, Go.Sort.putRowK, Go.Sort.putRow, Go.Sort.mapBlock, Go.Sort.ahead]
    rw [Array.getElem?_append_left (by simpa using hq), Array.getElem?_modify]
    by_cases h : g = q
    · subst h
      simp [hb, Go.Sort.onCells]
    · rw [if_neg h, if_neg (fun e => h e.symm)]
  have hcell : ∀ j u, (ys.flatMap enc)[j]? = some u → (Go.Sort.putCells id off (Go.Sort.flatK enc (Enc.sz α) ys.toArray) cur)[off + j]? = some u := fun j u hu => by
    have hj : j < (Go.Sort.flatK enc (Enc.sz α) ys.toArray).size := by
      have := (List.getElem?_eq_some_iff.1 hu).1
      rw [Ya] at this
      simpa using this
    have hc := flatK_get (Enc.sz α) rfl ys hj
    rw [hu, Option.some.injEq] at hc
    have hj' : j < len * Enc.sz α := by simp at hj; rw [hl, h6] at hj; exact hj
    have hle := Nat.mul_le_mul_right (Enc.sz α) h3
    simp only [Go.Sort.putCells, Array.getElem?_mapIdx]
    rw [Array.getElem?_eq_getElem (by omega)]
    simp only [Option.map_some, Option.some.injEq]
    rw [if_pos ⟨by omega, by omega⟩, show off + j - off = j from by omega, hc]; rfl
  refine ⟨⟨rfl, rfl, rfl, ?_, fun q hq hx => ?_, ?_⟩, .inr ⟨g, off, len, cap, _, T, rfl, h1, h2, ?_, h3, h4, ?_, ?_, hcell⟩⟩
  · simp [Go.Proofs.sortWorldK, Go.Sort.grow, Go.Sort.putRowK, Go.Sort.putRow, Go.Sort.mapBlock, Go.Sort.ahead]
  · rw [hheap q hq, if_neg (by omega)]
  · simp [Go.Proofs.sortWorldK, Go.Sort.grow, Go.Sort.putRowK, Go.Sort.putRow, Go.Sort.mapBlock, Go.Sort.ahead]
  · rw [hheap g hgs, if_pos rfl]
  · simpa [Go.Sort.putCells] using h5
  · rw [Ya, hl, h6]
end
/-- A slice is sorted. -/
theorem sort_slice {α : Type} [Enc α] [Inhabited α] {P : Program} {ρ : Go.Shelf.Ren} (L : Go.Proofs.SlLaysF0.n6 P ρ) (aE : ∀ w, (isAgg (ρ.t 24)).run P w = .ok true w) (zE : ∀ w, (Go.sizeOf (ρ.t 24)).run P w = .ok (Enc.sz α) w) (h1 : ∀ x : α, ∀ v ∈ enc x, v.oneCell' = true)
    (cf : α → α → Int) (hir : ∀ x, ¬ cf x x < 0) (htr : ∀ x y z, cf x y < 0 → cf y z < 0 → cf x z < 0) (hn : ∀ x y z, ¬ cf x y < 0 → ¬ cf y z < 0 → ¬ cf x z < 0) (hT : ∀ x y, ¬ cf x y < 0 → ¬ cf y x < 0 → x = y)
    (g : Nat) (eg : ∀ args w, (callFunc g args).run P w = .ok (.enter g args) w) (hc : ∀ (x y : α) (w : World), Ct P g [.agg (enc x).toArray, .agg (enc y).toArray] w fun v _ => v = .int .i64 (cf x y))
    {w : World} {lo hi : Nat} {v : Value} {xs : List α} (ho : Own w lo hi (Enc.sz α) v (xs.flatMap enc)) (hb0 : xs.length ≤ 1048576) :
    CtR P (ρ.f 6) [v, .func (.func g) #[] #[]] w lo hi fun u w' => u = .tuple #[] ∧ Own w' lo hi (Enc.sz α) v ((xs.mergeSort fun x y => !decide (cf y x < 0)).flatMap enc) := by
  have hO : Go.Sort.SWO (Go.Proofs.ltOf cf) := ⟨fun x => decide_eq_false (hir x), fun x y z h1 h2 => by
    simp only [Go.Proofs.ltOf, decide_eq_true_eq] at *; exact htr x y z h1 h2, fun x y z h1 h2 => by
    simp only [Go.Proofs.ltOf, decide_eq_false_iff_not] at *; exact hn x y z h1 h2⟩
  rcases ho with ⟨rfl, h⟩ | ⟨b, off, len, cap, cur, T, rfl, hl, hh, hb, h3, h4, h5, h6, h7⟩
  · have hx : xs = [] := by
      cases xs with
      | nil => rfl
      | cons x xs =>
        have h2 := congrArg List.length h
        rw [Ya] at h2
        exact absurd ((Nat.mul_eq_zero.1 h2).resolve_right (Nat.ne_of_gt Enc.pos)) (by simp)
    subst hx
    refine Calls.mono (Go.Proofs.AnyF.slices_SortFunc_none L none 0 _ w) fun e w' ⟨he, hw⟩ => ?_
    subst hw
    exact ⟨_, he, ModR.refl w' lo hi, rfl, .inl ⟨rfl, by simp⟩⟩
  · rw [Ya] at h6
    have h6' : xs.length = len := Nat.eq_of_mul_eq_mul_right Enc.pos h6
    subst h6'
    have hgs : b < w.heap.size := (Array.getElem?_eq_some_iff.1 hb).1
    refine Calls.mono (Go.Proofs.AnyQ.slices_SortFunc_total L (Enc.sz α) aE zE enc Enc.len h1 cf hO g #[] b off cap xs.toArray w eg (fun m os dk hs x y => ?_) (Own.holdsK (lo := lo) (hi := hi) (len := xs.length) (cap := cap) hb h7) hgs (by simp; omega) (fun x y h1 h2 => ?_)) fun e w' ⟨he, n, os, hw⟩ => ?_
    · refine Calls.mono (hc x y _) fun e w' ⟨v, he, hx, hv⟩ => ?_
      subst hv
      obtain ⟨q, os', hq⟩ := ext_grow hx
      exact ⟨he, q, os', hq⟩
    · simp only [Go.Proofs.ltOf, decide_eq_false_iff_not] at h1 h2; exact hT x y h1 h2
    · subst hw
      have hs := Own.sorted (w := w) (n := n) (os := os) (xs := xs) (ys := xs.mergeSort fun x y => !decide (cf y x < 0)) hb hl hh h3 h4 h5 rfl (by simp)
      exact ⟨_, he, hs.1, rfl, hs.2⟩
end Go.Proofs.YtcpjlfikdobckaaGreat.X
