/- The plain functions on lists and numbers that the contracts name, and what holds of them; no condition. -/
import Derived.Test.YthjhhajipcdfbaaLib
namespace Go.Proofs.Ythjhhajipcdfbaa
open Go Go.Proofs.Ythjhhajipcdfbaa.X
structure Cell where
  op : Int
  epoch : Int
  key : Int
  val : Int
  deriving DecidableEq
instance : Enc Cell := ⟨fun c => [.int .i64 c.op, .int .i64 c.epoch, .int .i64 c.key, .int .i64 c.val], 4, fun _ => rfl, fun _ => rfl⟩
def ordI (a b : Int) : Int := if a < b then -1 else if b < a then 1 else 0
/-- What 'sz..' leaves of 'n' behind 'm' elements. -/
def szM (m : Nat) (n : Int) : Int := if n - m < 0 then -1 else n - m
theorem sz_no {m : Nat} {n : Int} (h : n ≤ 1048576) (h0 : 0 ≤ n) (hm : m ≤ maxLen) (hc : decide (IntKind.i64.wrap (n - (m : Int)) < 0) = true) : Value.int .i64 (-1) = .int .i64 (szM m n) := by
  unfold maxLen at hm
  rw [wrap_in (by omega) (by omega)] at hc
  have : n - (m : Int) < 0 := by simpa using hc
  simp [szM, this]
theorem sz_yes {m : Nat} {n : Int} (h : n ≤ 1048576) (h0 : 0 ≤ n) (hm : m ≤ maxLen) (hc : decide (IntKind.i64.wrap (n - (m : Int)) < 0) = false) : Value.int .i64 (IntKind.i64.wrap (n - (m : Int))) = .int .i64 (szM m n) := by
  unfold maxLen at hm
  rw [wrap_in (by omega) (by omega)] at hc ⊢
  have : ¬ n - (m : Int) < 0 := by simpa using hc
  simp [szM, this]
section
variable {α : Type} {xs ys : List α} {k : Nat}
theorem eq_len (h : ¬ xs.length = ys.length) : xs ≠ ys := fun e => h (by rw [e])
theorem eqS_step (hp : xs.take k = ys.take k) (h1 : k < xs.length) (h2 : k < ys.length) (h : xs[k] = ys[k]) : xs.take (k + 1) = ys.take (k + 1) := by
  rw [List.take_succ_eq_append_getElem h1, List.take_succ_eq_append_getElem h2, hp, h]
variable [DecidableEq α]
theorem eqS_no (h1 : k < xs.length) (h2 : k < ys.length) (h : ¬ xs[k] = ys[k]) : Value.bool false = .bool (decide (xs = ys)) := by
  have : xs ≠ ys := fun e => h (by subst e; rfl)
  simp [this]
theorem eqS_yes (hp : xs.take k = ys.take k) (hl : xs.length = ys.length) (hk : xs.length ≤ k) : Value.bool true = .bool (decide (xs = ys)) := by
  rw [List.take_of_length_le hk, List.take_of_length_le (by omega)] at hp
  simp [hp]
end
/-! ### lists compared -/
def cmpL : List Int → List Int → Int
  | [], [] => 0
  | [], _ :: _ => -1
  | _ :: _, [] => 1
  | x :: xs, y :: ys => if ordI x y = 0 then cmpL xs ys else ordI x y
section
variable {xs ys : List Int} {k : Nat}
theorem cmpL_cons (hI : cmpL (xs.drop k) (ys.drop k) = cmpL xs ys) (h1 : k < xs.length) (h2 : k < ys.length) : cmpL xs ys = if ordI xs[k] ys[k] = 0 then cmpL (xs.drop (k + 1)) (ys.drop (k + 1)) else ordI xs[k] ys[k] := by
  rw [← hI, List.drop_eq_getElem_cons h1, List.drop_eq_getElem_cons h2, cmpL]
theorem cmpL_step (hI : cmpL (xs.drop k) (ys.drop k) = cmpL xs ys) (h1 : k < xs.length) (h2 : k < ys.length) (h : ordI xs[k] ys[k] = 0) : cmpL (xs.drop (k + 1)) (ys.drop (k + 1)) = cmpL xs ys := by
  rw [cmpL_cons hI h1 h2, if_pos h]
theorem cmpL_1 (hI : cmpL (xs.drop k) (ys.drop k) = cmpL xs ys) (h1 : k < xs.length) (h2 : ys.length ≤ k) : Value.int .i64 1 = .int .i64 (cmpL xs ys) := by
  rw [← hI, List.drop_eq_getElem_cons h1, List.drop_of_length_le h2, cmpL]
theorem cmpL_2 (hI : cmpL (xs.drop k) (ys.drop k) = cmpL xs ys) (h1 : k < xs.length) (h2 : k < ys.length) (h : ¬ ordI xs[k] ys[k] = 0) : Value.int .i64 (ordI xs[k] ys[k]) = .int .i64 (cmpL xs ys) := by
  rw [cmpL_cons hI h1 h2, if_neg h]
theorem cmpL_3 (hI : cmpL (xs.drop k) (ys.drop k) = cmpL xs ys) (h1 : xs.length ≤ k) (h2 : k < ys.length) : Value.int .i64 (-1) = .int .i64 (cmpL xs ys) := by
  rw [← hI, List.drop_eq_getElem_cons h2, List.drop_of_length_le h1, cmpL]
theorem cmpL_4 (hI : cmpL (xs.drop k) (ys.drop k) = cmpL xs ys) (h1 : xs.length ≤ k) (h2 : ys.length ≤ k) : Value.int .i64 0 = .int .i64 (cmpL xs ys) := by
  rw [← hI, List.drop_of_length_le h2, List.drop_of_length_le h1, cmpL]
end
def firstNZ : List Int → Int
  | [] => 0
  | x :: xs => if x = 0 then firstNZ xs else x
section
variable {xs : List Int} {k : Nat}
theorem firstNZ_step (hI : firstNZ (xs.drop k) = firstNZ xs) (h1 : k < xs.length) (h : xs[k] = 0) : firstNZ (xs.drop (k + 1)) = firstNZ xs := by
  rw [← hI, List.drop_eq_getElem_cons h1, firstNZ, if_pos h]
theorem firstNZ_yes (hI : firstNZ (xs.drop k) = firstNZ xs) (h1 : k < xs.length) (h : ¬ xs[k] = 0) : xs[k] = firstNZ xs := by
  rw [← hI, List.drop_eq_getElem_cons h1, firstNZ, if_neg h]
theorem firstNZ_no (hI : firstNZ (xs.drop k) = firstNZ xs) (h1 : xs.length ≤ k) : firstNZ xs = 0 := by
  rw [← hI, List.drop_of_length_le h1, firstNZ]
end
/-! ### cells -/
def cellOrd (x y : Cell) : Int := cmpL [x.epoch, x.op, x.key, x.val] [y.epoch, y.op, y.key, y.val]
theorem cellOrd_nz (x y : Cell) : cellOrd x y = firstNZ [ordI x.epoch y.epoch, ordI x.op y.op, ordI x.key y.key, ordI x.val y.val] := by simp [cellOrd, cmpL, firstNZ]
theorem cellOrd_a {x y : Cell} {n : Int} (h : n = firstNZ [ordI x.epoch y.epoch, ordI x.op y.op, ordI x.key y.key, ordI x.val y.val]) : Value.int .i64 n = .int .i64 (cellOrd x y) := by rw [cellOrd_nz, h]
theorem cellOrd_b {x y : Cell} (h : firstNZ [ordI x.epoch y.epoch, ordI x.op y.op, ordI x.key y.key, ordI x.val y.val] = 0) : Value.int .i64 0 = .int .i64 (cellOrd x y) := by rw [cellOrd_nz, h]
end Go.Proofs.Ythjhhajipcdfbaa
