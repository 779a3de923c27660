/- The plain functions on lists and numbers that the contracts name, and what holds of them; no condition. -/
import Derived.Test.YthjhhajipcdfbaaLib
namespace Go.Proofs.Ythjhhajipcdfbaa
open Go Go.Proofs.Ythjhhajipcdfbaa.X
structure Cell where
  op : Int
  epoch : Int
  key : Int
  val : Int
  deriving DecidableEq
instance : Enc Cell := ⟨fun c => [.int .i64 c.op, .int .i64 c.epoch, .int .i64 c.key, .int .i64 c.val], 4, fun _ => rfl, fun _ => rfl⟩
def mkCell (k : Nat) : Cell := ⟨((k : Nat) : Int), ((k + 1 : Nat) : Int), ((k + 1 + 1 : Nat) : Int), ((k + 1 + 1 + 1 : Nat) : Int)⟩
def ordI (a b : Int) : Int := if a < b then -1 else if b < a then 1 else 0
/-- What 'sz..' leaves of 'n' behind 'm' elements. -/
def szM (m : Nat) (n : Int) : Int := if n - m < 0 then -1 else n - m
theorem sz_no {m : Nat} {n : Int} (h : n ≤ 1048576) (h0 : 0 ≤ n) (hm : m ≤ maxLen) (hc : decide (IntKind.i64.wrap (n - (m : Int)) < 0) = true) : Value.int .i64 (-1) = .int .i64 (szM m n) := by
  unfold maxLen at hm
  rw [wrap_in (by omega) (by omega)] at hc
  have : n - (m : Int) < 0 := by simpa using hc
  simp [szM, this]
theorem sz_yes {m : Nat} {n : Int} (h : n ≤ 1048576) (h0 : 0 ≤ n) (hm : m ≤ maxLen) (hc : decide (IntKind.i64.wrap (n - (m : Int)) < 0) = false) : Value.int .i64 (IntKind.i64.wrap (n - (m : Int))) = .int .i64 (szM m n) := by
  unfold maxLen at hm
  rw [wrap_in (by omega) (by omega)] at hc ⊢
  have : ¬ n - (m : Int) < 0 := by simpa using hc
  simp [szM, this]
theorem szM_ok {m : Nat} {n : Int} (h : decide (szM m n < 0) = false) (hn : 0 ≤ n ∧ n ≤ 1048576) : m ≤ 1048576 ∧ 0 ≤ szM m n ∧ szM m n ≤ 1048576 := by
  have h := of_decide_eq_false h
  simp only [szM] at *
  split at h
  · omega
  · rename_i hx
    rw [if_neg hx]; omega
section
variable {α : Type} {xs ys : List α} {k : Nat}
theorem eq_len (h : ¬ xs.length = ys.length) : xs ≠ ys := fun e => h (by rw [e])
theorem eqS_step (hp : xs.take k = ys.take k) (h1 : k < xs.length) (h2 : k < ys.length) (h : xs[k] = ys[k]) : xs.take (k + 1) = ys.take (k + 1) := by
  rw [List.take_succ_eq_append_getElem h1, List.take_succ_eq_append_getElem h2, hp, h]
variable [DecidableEq α]
theorem eqS_no (h1 : k < xs.length) (h2 : k < ys.length) (h : ¬ xs[k] = ys[k]) : Value.bool false = .bool (decide (xs = ys)) := by
  have : xs ≠ ys := fun e => h (by subst e; rfl)
  simp [this]
theorem eqS_yes (hp : xs.take k = ys.take k) (hl : xs.length = ys.length) (hk : xs.length ≤ k) : Value.bool true = .bool (decide (xs = ys)) := by
  rw [List.take_of_length_le hk, List.take_of_length_le (by omega)] at hp
  simp [hp]
end
/-! ### lists compared -/
def cmpL : List Int → List Int → Int
  | [], [] => 0
  | [], _ :: _ => -1
  | _ :: _, [] => 1
  | x :: xs, y :: ys => if ordI x y = 0 then cmpL xs ys else ordI x y
section
variable {xs ys : List Int} {k : Nat}
theorem cmpL_cons (hI : cmpL (xs.drop k) (ys.drop k) = cmpL xs ys) (h1 : k < xs.length) (h2 : k < ys.length) : cmpL xs ys = if ordI xs[k] ys[k] = 0 then cmpL (xs.drop (k + 1)) (ys.drop (k + 1)) else ordI xs[k] ys[k] := by
  rw [← hI, List.drop_eq_getElem_cons h1, List.drop_eq_getElem_cons h2, cmpL]
theorem cmpL_step (hI : cmpL (xs.drop k) (ys.drop k) = cmpL xs ys) (h1 : k < xs.length) (h2 : k < ys.length) (h : ordI xs[k] ys[k] = 0) : cmpL (xs.drop (k + 1)) (ys.drop (k + 1)) = cmpL xs ys := by
  rw [cmpL_cons hI h1 h2, if_pos h]
theorem cmpL_1 (hI : cmpL (xs.drop k) (ys.drop k) = cmpL xs ys) (h1 : k < xs.length) (h2 : ys.length ≤ k) : Value.int .i64 1 = .int .i64 (cmpL xs ys) := by
  rw [← hI, List.drop_eq_getElem_cons h1, List.drop_of_length_le h2, cmpL]
theorem cmpL_2 (hI : cmpL (xs.drop k) (ys.drop k) = cmpL xs ys) (h1 : k < xs.length) (h2 : k < ys.length) (h : ¬ ordI xs[k] ys[k] = 0) : Value.int .i64 (ordI xs[k] ys[k]) = .int .i64 (cmpL xs ys) := by
  rw [cmpL_cons hI h1 h2, if_neg h]
theorem cmpL_3 (hI : cmpL (xs.drop k) (ys.drop k) = cmpL xs ys) (h1 : xs.length ≤ k) (h2 : k < ys.length) : Value.int .i64 (-1) = .int .i64 (cmpL xs ys) := by
  rw [← hI, List.drop_eq_getElem_cons h2, List.drop_of_length_le h1, cmpL]
theorem cmpL_4 (hI : cmpL (xs.drop k) (ys.drop k) = cmpL xs ys) (h1 : xs.length ≤ k) (h2 : ys.length ≤ k) : Value.int .i64 0 = .int .i64 (cmpL xs ys) := by
  rw [← hI, List.drop_of_length_le h2, List.drop_of_length_le h1, cmpL]
end
def firstNZ : List Int → Int
  | [] => 0
  | x :: xs => if x = 0 then firstNZ xs else x
section
variable {xs : List Int} {k : Nat}
theorem firstNZ_step (hI : firstNZ (xs.drop k) = firstNZ xs) (h1 : k < xs.length) (h : xs[k] = 0) : firstNZ (xs.drop (k + 1)) = firstNZ xs := by
  rw [← hI, List.drop_eq_getElem_cons h1, firstNZ, if_pos h]
theorem firstNZ_yes (hI : firstNZ (xs.drop k) = firstNZ xs) (h1 : k < xs.length) (h : ¬ xs[k] = 0) : xs[k] = firstNZ xs := by
  rw [← hI, List.drop_eq_getElem_cons h1, firstNZ, if_neg h]
theorem firstNZ_no (hI : firstNZ (xs.drop k) = firstNZ xs) (h1 : xs.length ≤ k) : firstNZ xs = 0 := by
  rw [← hI, List.drop_of_length_le h1, firstNZ]
end
/-! ### cells -/
def cellOrd (x y : Cell) : Int := cmpL [x.epoch, x.op, x.key, x.val] [y.epoch, y.op, y.key, y.val]
theorem cellOrd_nz (x y : Cell) : cellOrd x y = firstNZ [ordI x.epoch y.epoch, ordI x.op y.op, ordI x.key y.key, ordI x.val y.val] := by simp [cellOrd, cmpL, firstNZ]
theorem cellOrd_a {x y : Cell} {n : Int} (h : n = firstNZ [ordI x.epoch y.epoch, ordI x.op y.op, ordI x.key y.key, ordI x.val y.val]) : Value.int .i64 n = .int .i64 (cellOrd x y) := by rw [cellOrd_nz, h]
theorem cellOrd_b {x y : Cell} (h : firstNZ [ordI x.epoch y.epoch, ordI x.op y.op, ordI x.key y.key, ordI x.val y.val] = 0) : Value.int .i64 0 = .int .i64 (cellOrd x y) := by rw [cellOrd_nz, h]
/-! ### membership -/
section
variable {α : Type} {xs : List α} {x : α} {k : Nat}
theorem has_step (hI : x ∉ xs.take k) (h1 : k < xs.length) (h : ¬ xs[k] = x) : x ∉ xs.take (k + 1) := by
  rw [List.take_succ_eq_append_getElem h1]
  simp only [List.mem_append, List.mem_singleton, not_or]
  exact ⟨hI, fun e => h e.symm⟩
variable [DecidableEq α]
theorem has_yes (h1 : k < xs.length) (h : xs[k] = x) : Value.bool true = .bool (decide (x ∈ xs)) := by
  have : x ∈ xs := h ▸ List.getElem_mem h1
  simp [this]
theorem has_no (hI : x ∉ xs.take k) (h1 : xs.length ≤ k) : Value.bool false = .bool (decide (x ∈ xs)) := by
  rw [List.take_of_length_le h1] at hI
  simp [hI]
/-- The place of the first, or -1. -/
def idxI (xs : List α) (x : α) : Int := if x ∈ xs then (xs.idxOf x : Int) else -1
theorem idx_yes (hI : x ∉ xs.take k) (h1 : k < xs.length) (h : xs[k] = x) : Value.int .i64 ((k : Nat) : Int) = .int .i64 (idxI xs x) := by
  have hm : x ∈ xs := h ▸ List.getElem_mem h1
  have : xs.idxOf x = k := by
    rw [← List.take_append_drop k xs, List.idxOf_append, if_neg hI, List.drop_eq_getElem_cons h1, h]
    simp; omega
  simp [idxI, hm, this]
theorem idx_no (hI : x ∉ xs.take k) (h1 : xs.length ≤ k) : Value.int .i64 (-1) = .int .i64 (idxI xs x) := by
  rw [List.take_of_length_le h1] at hI
  simp [idxI, hI]
theorem has_idx : Value.bool (decide (0 ≤ idxI xs x)) = .bool (decide (x ∈ xs)) := by
  unfold idxI
  by_cases h : x ∈ xs <;> simp [h]
end
/-- Of one operator, epoch and key. -/
def slot (x y : Cell) : Bool := x.op == y.op && x.epoch == y.epoch && x.key == y.key
def leastGo (op epoch key : Int) : List Cell → Int → Bool → Int × Bool
  | [], n, s => (n, s)
  | x :: xs, n, s => if slot x ⟨op, epoch, key, 0⟩ && (!s || decide (x.val < n)) then leastGo op epoch key xs x.val true else leastGo op epoch key xs n s
def leastM (xs : List Cell) (op epoch key : Int) : Int × Bool := leastGo op epoch key xs 0 false
section
variable {xs : List Cell} {op epoch key n : Int} {s : Bool} {k : Nat} {r : Int × Bool}
theorem leastGo_yes (hI : leastGo op epoch key (xs.drop k) n s = r) (h1 : k < xs.length) (h : (slot xs[k] ⟨op, epoch, key, 0⟩ && (!s || decide (xs[k].val < n))) = true) : leastGo op epoch key (xs.drop (k + 1)) xs[k].val true = r := by
  rw [← hI, List.drop_eq_getElem_cons h1, leastGo, if_pos h]
theorem leastGo_no (hI : leastGo op epoch key (xs.drop k) n s = r) (h1 : k < xs.length) (h : (slot xs[k] ⟨op, epoch, key, 0⟩ && (!s || decide (xs[k].val < n))) = false) : leastGo op epoch key (xs.drop (k + 1)) n s = r := by
  rw [← hI, List.drop_eq_getElem_cons h1, leastGo, if_neg (by simp [h])]
end
/-! ### all, and those that -/
section
variable {α : Type} {xs : List α} {p : α → Bool} {k : Nat}
theorem all_step (hI : (xs.take k).all p = true) (h1 : k < xs.length) (h : p xs[k] = true) : (xs.take (k + 1)).all p = true := by
  rw [List.take_succ_eq_append_getElem h1, List.all_append, hI]
  simp [h]
theorem all_no (h1 : k < xs.length) (h : p xs[k] = false) : Value.bool false = .bool (xs.all p) := by
  congr 1; symm; rw [List.all_eq_false]
  exact ⟨_, List.getElem_mem h1, by simp [h]⟩
theorem all_yes (hI : (xs.take k).all p = true) (h1 : xs.length ≤ k) : Value.bool true = .bool (xs.all p) := by
  rw [List.take_of_length_le h1] at hI; rw [hI]
theorem filt_yes [Enc α] (h1 : k < xs.length) (h : p xs[k] = true) : ((xs.take k).filter p).flatMap Enc.enc ++ Enc.enc xs[k] = ((xs.take (k + 1)).filter p).flatMap Enc.enc := by
  rw [List.take_succ_eq_append_getElem h1, List.filter_append, List.flatMap_append]; simp [h]
theorem filt_no [Enc α] (h1 : k < xs.length) (h : p xs[k] = false) : ((xs.take k).filter p).flatMap Enc.enc = ((xs.take (k + 1)).filter p).flatMap Enc.enc := by
  rw [List.take_succ_eq_append_getElem h1, List.filter_append, List.flatMap_append]; simp [h]
theorem filt_len [Enc α] (xs : List α) (p : α → Bool) (k : Nat) : (((xs.take k).filter p).flatMap Enc.enc).length ≤ xs.length * Enc.sz α := by
  rw [sum_flat]
  refine Nat.mul_le_mul_right _ (Nat.le_trans (List.length_filter_le _ _) ?_)
  simp; omega
theorem filt_all [Enc α] (h1 : xs.length ≤ k) : ((xs.take k).filter p).flatMap Enc.enc = (xs.filter p).flatMap Enc.enc := by rw [List.take_of_length_le h1]
/-- Neighbours. -/
def adj : List α → List (α × α)
  | x :: y :: l => (x, y) :: adj (y :: l)
  | _ => []
theorem adj_len : ∀ (xs : List α), (adj xs).length = xs.length - 1
  | [] => rfl
  | [_] => rfl
  | x :: y :: l => by have := adj_len (y :: l); simp only [adj, List.length_cons] at *; omega
theorem adj_get : ∀ (xs : List α) (j : Nat) (h : j + 1 < xs.length) (h' : j < (adj xs).length), (adj xs)[j] = (xs[j], xs[j + 1])
  | x :: y :: l, 0, _, _ => rfl
  | x :: y :: l, j + 1, h, h' => by
    have := adj_get (y :: l) j (by simpa using h) (by simpa [adj] using h')
    simpa [adj] using this
variable {q : α × α → Bool} {j : Nat}
theorem adj_step (hI : ((adj xs).take j).all q = true) (h1 : j + 1 < xs.length) (h : q (xs[j], xs[j + 1]) = true) : ((adj xs).take (j + 1)).all q = true := by
  have h2 : j < (adj xs).length := by rw [adj_len]; omega
  exact all_step hI h2 (by rw [adj_get xs j h1 h2]; exact h)
theorem adj_no (h1 : j + 1 < xs.length) (h : q (xs[j], xs[j + 1]) = false) : Value.bool false = .bool ((adj xs).all q) := by
  have h2 : j < (adj xs).length := by rw [adj_len]; omega
  exact all_no h2 (by rw [adj_get xs j h1 h2]; exact h)
theorem adj_yes (hI : ((adj xs).take j).all q = true) (h1 : xs.length ≤ j + 1) : Value.bool true = .bool ((adj xs).all q) := all_yes hI (by rw [adj_len]; omega)
end
def nwP (a : List Cell) (x : Cell) : Bool := !(!(leastM a x.op x.epoch x.key).2 || decide (x.val < (leastM a x.op x.epoch x.key).1))
def isOf (op epoch : Int) (x : Cell) : Bool := x.op == op && x.epoch == epoch
def cellLt (q : Cell × Cell) : Bool := !decide (0 ≤ cellOrd q.1 q.2)
end Go.Proofs.Ythjhhajipcdfbaa
