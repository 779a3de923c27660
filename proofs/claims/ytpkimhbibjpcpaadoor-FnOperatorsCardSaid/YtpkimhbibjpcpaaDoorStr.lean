/- Strings: the rules for them, and what the library makes of numbers; no condition. -/
import Derived.Shelf.Strconv.Itoa3
import Derived.Laws.Concat
import Derived.Laws.IdiomStrings
import Derived.Lib.ItoaNum
import Derived.Lib.LaidTab
import Derived.Test.YtpkimhbibjpcpaaDoorModel
namespace Go.Proofs.YtpkimhbibjpcpaaDoor.X
open Go
open Enc (enc)
/-! ### strings: their bytes as a list -/
abbrev str (l : List UInt8) : Value := .string ⟨l.toArray⟩
structure Str where
  b : List UInt8
  deriving DecidableEq, Inhabited
instance : Enc Str := ⟨fun x => [str x.b], 1, fun _ => rfl, fun x => rfl, by decide⟩
theorem bytes_app (a b : List UInt8) : (⟨a.toArray⟩ : ByteArray) ++ ⟨b.toArray⟩ = ⟨(a ++ b).toArray⟩ := by
  apply ByteArray.ext
  simp
theorem bytes_list (a : List UInt8) : (⟨a.toArray⟩ : ByteArray).toList = a := by rw [ByteArray.toList_eq]
section
variable {P : Program} {n : Nat} {σ : Env} {w : World} {d : Option Tmp} {ty : TypeId} {pos : String} {af : Array Edge} {g : Option (Nat × Bool)} {x y : Operand} {t u : TypeId} {p q : List UInt8}
theorem R_sadd (hx : ev σ x = some (str p)) (hy : ev σ y = some (str q)) (h : p.length + q.length ≤ maxLen) : Runs P n σ w ⟨d, .binOp .add t x y u, ty, pos, af, g⟩ (str (p ++ q)) := fun a ha w' _ => by
  have h2 := run_string_add_sum (P := P) (w := w') ⟨p.toArray⟩ ⟨q.toArray⟩ (by show p.toArray.size + q.toArray.size ≤ _; simp; unfold maxLen at h; omega)
  rw [bytes_app] at h2
  simp [execOp, ha.eval hx, ha.eval hy, eqGuard, binOp_string_add, h2, str]
theorem R_seql (hx : ev σ x = some (str p)) (hy : ev σ y = some (str q)) : Runs P n σ w ⟨d, .binOp .eql t x y u, ty, pos, af, g⟩ (.bool (decide (p = q))) := fun a ha w' _ => by
  have e : (p == q) = decide (p = q) := by by_cases h : p = q <;> simp [h]
  simp [execOp, ha.eval hx, ha.eval hy, eqGuard, binOp_string_eql, bytes_list, e, str]
theorem R_sneq (hx : ev σ x = some (str p)) (hy : ev σ y = some (str q)) : Runs P n σ w ⟨d, .binOp .neq t x y u, ty, pos, af, g⟩ (.bool (!(decide (p = q)))) := fun a ha w' _ => by
  have e : (p == q) = decide (p = q) := by by_cases h : p = q <;> simp [h]
  simp [execOp, ha.eval hx, ha.eval hy, eqGuard, binOp_string_neq, bytes_list, e, str]
theorem byte_nat {m : Int} (h0 : 0 ≤ m) (h1 : m ≤ 255) : ((UInt8.ofNat m.toNat).toNat : Int) = m := by
  rw [UInt8.toNat_ofNat']
  have : m.toNat % 2 ^ 8 = m.toNat := Nat.mod_eq_of_lt (by omega)
  omega
theorem R_conv1 {e b : Nat} {m : Int} (ht : P.underlying t = some (.slice e)) (he : P.underlying e = some (.int .u8)) (hu : P.underlying u = some .string) (hx : ev σ x = some (.slice (some ⟨b, 0, none⟩) 1 1)) (hb : Blk w b [.int .u8 m]) (h0 : 0 ≤ m) (h1 : m ≤ 255) :
    Runs P n σ w ⟨d, .convert t u x, ty, pos, af, g⟩ (str [UInt8.ofNat m.toNat]) := fun a ha w' hw => by
  have h2 := run_convert_bytes_back (P := P) w' t u e ⟨b, 0, none⟩ 1 [UInt8.ofNat m.toNat] ht he hu (fun j hj => by
    obtain rfl : j = 0 := by simpa using hj
    rw [(hb.ext hw).at.add 0 (.int .u8 m) rfl]
    show some (Value.int .u8 m) = some (.int .u8 ((UInt8.ofNat m.toNat).toNat : Int)); rw [byte_nat h0 h1])
  simp only [List.length_cons, List.length_nil, Nat.zero_add] at h2
  simp [execOp, ha.eval hx, h2, str]
end
/-! ### a number's decimal digits, from the last on -/
def decT (n : Int) (s : List UInt8) : List UInt8 := if n = 0 then s else Lib.decDigits n.natAbs ++ s
theorem decT_zero (s : List UInt8) : decT 0 s = s := if_pos rfl
def lastD (n : Int) : Int := if Int.tmod n 10 < 0 then -Int.tmod n 10 else Int.tmod n 10
theorem lastD_nat (n : Int) : lastD n = ((n.natAbs % 10 : Nat) : Int) := by
  have h : (Int.tmod n 10).natAbs = n.natAbs % 10 := Int.natAbs_tmod n 10
  unfold lastD
  split <;> omega
theorem decT_step {n : Int} (h : n ≠ 0) (s : List UInt8) : decT (Int.tdiv n 10) (UInt8.ofNat (48 + lastD n).toNat :: s) = decT n s := by
  have h1 : (Int.tdiv n 10).natAbs = n.natAbs / 10 := Int.natAbs_tdiv n 10
  have h2 : (48 + lastD n).toNat = 48 + n.natAbs % 10 := by rw [lastD_nat]; omega
  rw [h2]
  have e : decT n s = Lib.decDigits n.natAbs ++ s := if_neg h
  rw [e, Lib.decDigits]
  by_cases hu : n.natAbs < 10
  · rw [dif_pos hu, show Int.tdiv n 10 = 0 from by omega, decT_zero, Nat.mod_eq_of_lt hu]; rfl
  · rw [dif_neg hu]
    have hz : Int.tdiv n 10 ≠ 0 := fun h0 => by rw [h0] at h1; simp at h1; omega
    unfold decT
    rw [if_neg hz, h1]
    simp
theorem itoa_of {n : Int} (h : n ≠ 0) : Lib.itoa n = if n < 0 then 45 :: decT n [] else decT n [] := by
  unfold Lib.itoa decT
  rw [if_neg h, List.append_nil]
  split
  · rfl
  · rw [show n.toNat = n.natAbs from by omega]
theorem itoa_zero : Lib.itoa 0 = [48] := by rw [Lib.itoa, if_neg (by decide), Int.toNat_zero, Lib.decDigits_one (by decide)]; rfl
/-! ### a table of the library's; what grows -/
theorem tab_ext {P : Program} {w w' : World} {nm : String} {k : IntKind} {zs : List Int} (h : Lib.TabIs P w nm k zs) (e : Ext w w') : Lib.TabIs P w' nm k zs := by
  unfold Lib.TabIs World.var? at *
  cases hg : P.globalNamed nm with
  | none => rw [hg] at h; simp at h
  | some g =>
    rw [hg] at h
    simp only [Option.bind_some] at h ⊢
    cases hb : w.heap[g]? with
    | none => rw [hb] at h; simp at h
    | some o => rw [e.same (Array.getElem?_eq_some_iff.1 hb).1]; exact h
theorem grow_ext (w : World) (k : Nat) (os : Array Obj) : Ext w (Go.Sort.grow (w.drewN k) os) :=
  ⟨rfl, rfl, rfl, by simp [Go.Sort.grow, World.drewN], fun i hi _ => by simp only [Go.Sort.grow, World.drewN]; rw [Array.getElem?_append_left hi], by simp [Go.Sort.grow, World.drewN]⟩
theorem ct_grow {P : Program} {f : FuncId} {vs : List Value} {w : World} {v : Value} (h : Calls P f vs.toArray w fun e w' => e = .returned v ∧ ∃ k os, w' = Go.Sort.grow (w.drewN k) os) : Ct P f vs w fun u _ => u = v :=
  Calls.mono h fun _ _ ⟨he, k, os, hw⟩ => ⟨v, he, hw ▸ grow_ext w k os, rfl⟩
/-! ### the loop over the digits -/
theorem wrap_rg (z : Int) : rg (IntKind.i64.wrap z) := by rw [IntKind.wrap_i64]; unfold rg; omega
theorem fig_u8 {x : Int} (h0 : 0 ≤ x) (h9 : x ≤ 9) : IntKind.u8.wrap (IntKind.i64.wrap (48 + x)) = 48 + x := by
  rw [wrap_in (by omega) (by omega)]
  show (48 + x) % 256 = 48 + x
  omega
theorem tmod_lt (c : Int) : (Int.tmod c 10).natAbs ≤ 9 := by
  have h : (Int.tmod c 10).natAbs = c.natAbs % 10 := Int.natAbs_tmod c 10
  omega
theorem dig_pos {c : Int} (h : decide (Int.tmod c 10 < 0) = false) : (0 ≤ Int.tmod c 10 ∧ Int.tmod c 10 ≤ 9) ∧ lastD c = Int.tmod c 10 := by
  have := tmod_lt c
  have h := of_decide_eq_false h
  exact ⟨by omega, if_neg h⟩
theorem dig_neg {c : Int} (h : decide (Int.tmod c 10 < 0) = true) : (0 ≤ IntKind.i64.wrap (0 - Int.tmod c 10) ∧ IntKind.i64.wrap (0 - Int.tmod c 10) ≤ 9) ∧ lastD c = IntKind.i64.wrap (0 - Int.tmod c 10) := by
  have := tmod_lt c
  have h := of_decide_eq_true h
  rw [wrap_in (by omega) (by omega)]
  refine ⟨by omega, ?_⟩
  unfold lastD
  rw [if_pos h]
  omega
theorem dec_next {c d n : Int} {s : List UInt8} (hr : rg c) (h : (c != 0) = true) (hI : decT c s = decT n []) (hd : lastD c = d) :
    rg (IntKind.i64.wrap (Int.tdiv c 10)) ∧ decT (IntKind.i64.wrap (Int.tdiv c 10)) ([UInt8.ofNat (Int.toNat (48 + d))] ++ s) = decT n [] ∧ (IntKind.i64.wrap (Int.tdiv c 10)).natAbs < c.natAbs := by
  have h0 : c ≠ 0 := by simpa using h
  have h1 : (Int.tdiv c 10).natAbs = c.natAbs / 10 := Int.natAbs_tdiv c 10
  unfold rg at hr
  refine ⟨wrap_rg _, ?_, ?_⟩
  · rw [wrap_in (by omega) (by omega), ← hI, ← decT_step h0 s, hd]; rfl
  · rw [wrap_in (by omega) (by omega)]; omega
theorem nDigits_le : ∀ (k u : Nat), u < 10 ^ (k + 1) → Lib.nDigits u ≤ k + 1
  | 0, u, h => by rw [Lib.nDigits_small (by simpa using h)]; exact Nat.le_refl _
  | k + 1, u, h => by
    by_cases hu : u < 10
    · rw [Lib.nDigits_small hu]; omega
    · rw [Lib.nDigits_big hu]
      have := nDigits_le k (u / 10) (by rw [Nat.div_lt_iff_lt_mul (by decide)]; rw [Nat.pow_succ] at h; exact h)
      omega
theorem decT_len {n : Int} (hr : rg n) : (decT n []).length ≤ 20 := by
  unfold decT
  split
  · simp
  · rw [List.append_nil, Lib.decDigits_length]
    unfold rg at hr
    exact Nat.le_trans (nDigits_le 18 _ (by omega)) (by decide)
theorem itoa_len {n : Int} (hr : rg n) : (Lib.itoa n).length ≤ 21 := by
  by_cases h : n = 0
  · subst h; rw [itoa_zero]; decide
  · rw [itoa_of h]
    have := decT_len hr
    split
    · simp only [List.length_cons]; omega
    · omega
theorem dec_len {c n : Int} {s : List UInt8} (hr : rg n) (hI : decT c s = decT n []) : s.length ≤ 20 := by
  refine Nat.le_trans ?_ (decT_len hr)
  rw [← hI]
  unfold decT
  split
  · exact Nat.le_refl _
  · rw [List.length_append]; omega
theorem dec_out {c n : Int} {s : List UInt8} (h2 : (c != 0) = false) (hI : decT c s = decT n []) : s = decT n [] := by
  have : c = 0 := by simpa using h2
  rw [this, decT_zero] at hI
  exact hI
theorem dec_fin {c n : Int} {s : List UInt8} (h1 : (n == 0) = false) (h2 : (c != 0) = false) (hI : decT c s = decT n []) (hb : decide (n < 0) = false) : str s = str (Lib.itoa n) := by
  rw [itoa_of (by simpa using h1), if_neg (of_decide_eq_false hb), dec_out h2 hI]
theorem dec_finN {c n : Int} {s : List UInt8} (h1 : (n == 0) = false) (h2 : (c != 0) = false) (hI : decT c s = decT n []) (hb : decide (n < 0) = true) : str ([45] ++ s) = str (Lib.itoa n) := by
  rw [itoa_of (by simpa using h1), if_pos (of_decide_eq_true hb), dec_out h2 hI]; rfl
end Go.Proofs.YtpkimhbibjpcpaaDoor.X
namespace Go.Proofs.YtpkimhbibjpcpaaDoor
open Go.Proofs.YtpkimhbibjpcpaaDoor.X
open Go
/-! ### the name of a kind, the text of a node -/
def kindWords : List (List UInt8) := [[105, 110], [97, 100, 100], [107, 101, 101, 112], [109, 111, 118, 101], [109, 105, 110], [110, 101, 119], [98, 97, 99, 107], [111, 117, 116]]
def kindName (k : Int) : List UInt8 := if win k 1 8 = true then kindWords.getD (k.toNat - 1) [] else [63]
theorem kn_no {k : Int} (h : (!(win k 1 8)) = true) : str [63] = str (kindName k) := by
  have h : win k 1 8 = false := by simpa using h
  rw [kindName, h]; rfl
theorem kn_rg {k : Int} (h : (!(win k 1 8)) = false) : 1 ≤ k ∧ k ≤ 8 := win_iff.1 (by simpa using h)
theorem kn_len (k : Int) : (kindName k).length ≤ 4 := by
  unfold kindName
  split
  · rename_i h
    have := win_iff.1 h
    obtain h | h | h | h | h | h | h | h : k = 1 ∨ k = 2 ∨ k = 3 ∨ k = 4 ∨ k = 5 ∨ k = 6 ∨ k = 7 ∨ k = 8 := by omega
    all_goals subst h; decide
  · decide
theorem kn_impl {k : Int} (h : 1 ≤ k ∧ k ≤ 8) {hi : Int.toNat (k - 1) < ([(⟨[105, 110]⟩ : Str), ⟨[97, 100, 100]⟩, ⟨[107, 101, 101, 112]⟩, ⟨[109, 111, 118, 101]⟩, ⟨[109, 105, 110]⟩, ⟨[110, 101, 119]⟩, ⟨[98, 97, 99, 107]⟩, ⟨[111, 117, 116]⟩] : List Str).length} :
    str (([(⟨[105, 110]⟩ : Str), ⟨[97, 100, 100]⟩, ⟨[107, 101, 101, 112]⟩, ⟨[109, 111, 118, 101]⟩, ⟨[109, 105, 110]⟩, ⟨[110, 101, 119]⟩, ⟨[98, 97, 99, 107]⟩, ⟨[111, 117, 116]⟩] : List Str)[Int.toNat (k - 1)]'hi).b = str (kindName k) := by
  obtain h | h | h | h | h | h | h | h : k = 1 ∨ k = 2 ∨ k = 3 ∨ k = 4 ∨ k = 5 ∨ k = 6 ∨ k = 7 ∨ k = 8 := by omega
  all_goals subst h; rfl
theorem kn_spec {k : Int} (h : 1 ≤ k ∧ k ≤ 8) {hi : Int.toNat k < ([(⟨[]⟩ : Str), ⟨[105, 110]⟩, ⟨[97, 100, 100]⟩, ⟨[107, 101, 101, 112]⟩, ⟨[109, 111, 118, 101]⟩, ⟨[109, 105, 110]⟩, ⟨[110, 101, 119]⟩, ⟨[98, 97, 99, 107]⟩, ⟨[111, 117, 116]⟩] : List Str).length} :
    str (([(⟨[]⟩ : Str), ⟨[105, 110]⟩, ⟨[97, 100, 100]⟩, ⟨[107, 101, 101, 112]⟩, ⟨[109, 111, 118, 101]⟩, ⟨[109, 105, 110]⟩, ⟨[110, 101, 119]⟩, ⟨[98, 97, 99, 107]⟩, ⟨[111, 117, 116]⟩] : List Str)[Int.toNat k]'hi).b = str (kindName k) := by
  obtain h | h | h | h | h | h | h | h : k = 1 ∨ k = 2 ∨ k = 3 ∨ k = 4 ∨ k = 5 ∨ k = 6 ∨ k = 7 ∨ k = 8 := by omega
  all_goals subst h; rfl
theorem kn_back : kindName 7 = [98, 97, 99, 107] := rfl
def rgN (x : Node) : Prop := rg x.a ∧ rg x.b ∧ ∀ y ∈ x.outs, rg y
theorem rgN_a {x : Node} (h : rgN x) : rg x.a := h.1
theorem rgN_b {x : Node} (h : rgN x) : rg x.b := h.2.1
theorem rgN_o {x : Node} (h : rgN x) : ∀ y ∈ x.outs, rg y := h.2.2
theorem rg_mem {x : Int} {l : List Int} (h : x ∈ l) (hd : ∀ y ∈ l, rg y) : rg x := hd x h
theorem rg_app {l : List Int} {v : Int} (h : ∀ y ∈ l, rg y) (hv : rg v) : ∀ y ∈ l ++ [v], rg y := fun y hy => (List.mem_append.1 hy).elim (h y) (fun h => by simp at h; subst h; exact hv)
def ntHead (x : Node) : List UInt8 := (((kindName x.kind ++ [32]) ++ Lib.itoa x.a) ++ [32]) ++ Lib.itoa x.b
def nodeText (x : Node) (k : Nat) : List UInt8 := ntHead x ++ (x.outs.take k).flatMap (fun y => 32 :: Lib.itoa y)
theorem nt_zero (x : Node) : ntHead x = nodeText x 0 := by simp [nodeText]
theorem nt_step {x : Node} {k : Nat} {s : List UInt8} (hs : s = nodeText x k) (hk : k < x.outs.length) : s ++ ([32] ++ Lib.itoa x.outs[k]) = nodeText x (k + 1) := by
  rw [hs, nodeText, nodeText, List.take_add_one, List.getElem?_eq_getElem hk, Option.toList_some, List.flatMap_append, List.append_assoc, List.flatMap_cons, List.flatMap_nil, List.append_nil]; rfl
theorem nt_stepS {x : Node} {k : Nat} {s : List UInt8} (hs : s = nodeText x k) (hk : k < x.outs.length) : (s ++ [32]) ++ Lib.itoa x.outs[k] = nodeText x (k + 1) := by
  rw [← nt_step hs hk, List.append_assoc]
theorem nt_hlen {x : Node} (h : rgN x) : (kindName x.kind).length ≤ 4 ∧ (Lib.itoa x.a).length ≤ 21 ∧ (Lib.itoa x.b).length ≤ 21 := ⟨kn_len _, itoa_len h.1, itoa_len h.2.1⟩
theorem nt_len {x : Node} (h : rgN x) {k : Nat} (hk : k ≤ x.outs.length) : (nodeText x k).length ≤ 100 + 22 * k := by
  induction k with
  | zero => have := nt_hlen h; rw [← nt_zero]; simp only [ntHead, List.length_append, List.length_cons, List.length_nil]; omega
  | succ k ih =>
    rw [← nt_step rfl hk]
    have := itoa_len (h.2.2 _ (List.getElem_mem hk))
    have := ih (by omega)
    simp only [List.length_append, List.length_cons, List.length_nil]
    omega
theorem nt_all {x : Node} {k : Nat} {s : List UInt8} (hs : s = nodeText x k) (hk : k = x.outs.length) : str s = str (nodeText x x.outs.length) := by rw [hs, hk]
/-! ### the law's own end -/
theorem tmod_of {p n : Int} (h0 : 0 ≤ p) (hn : 0 < n) : 0 ≤ Int.tmod p n ∧ Int.tmod p n < n := by
  rw [Int.tmod_eq_emod_of_nonneg h0]
  exact ⟨Int.emod_nonneg _ (by omega), Int.emod_lt_of_pos _ hn⟩
theorem op_ab {l : List Int} (hl : l.length = 12) (hy : ∀ y ∈ l, 0 ≤ y ∧ y < 10000) :
    ((0 : Int) ≤ Int.tmod (l[0]'(by omega)) 1000 ∧ Int.tmod (l[0]'(by omega)) 1000 < (1000 : Int)) ∧ ((0 : Int) ≤ Int.tmod (l[1]'(by omega)) ((1000 : Int) - Int.tmod (l[0]'(by omega)) 1000) ∧ Int.tmod (l[1]'(by omega)) ((1000 : Int) - Int.tmod (l[0]'(by omega)) 1000) < (1000 : Int) - Int.tmod (l[0]'(by omega)) 1000) ∧ ((0 : Int) ≤ Int.tmod (l[2]'(by omega)) 100 ∧ Int.tmod (l[2]'(by omega)) 100 < (100 : Int)) := by
  have h := tmod_of (hy _ (List.getElem_mem (l := l) (n := 0) (by omega))).1 (show (0 : Int) < 1000 by decide)
  exact ⟨h, tmod_of (hy _ (List.getElem_mem (l := l) (n := 1) (by omega))).1 (by omega), tmod_of (hy _ (List.getElem_mem (l := l) (n := 2) (by omega))).1 (by decide)⟩
theorem op_mono {x : Node} {p a b : Int} (hx : nodeOk x = true) (hp : 0 ≤ p ∧ p < 100) (ha : 0 ≤ a) (hab : a ≤ b) (hb : b ≤ 999) : (changedM x p a).2.1 ≤ (changedM x p b).2.1 ∧ (changedM x p a).1 = (changedM x p b).1 := by
  have wa : (!(nodeOk x) || !(win p 0 99 && win a 0 999)) = false := by rw [hx, win_iff.2 (show 0 ≤ p ∧ p ≤ 99 by omega), win_iff.2 (show 0 ≤ a ∧ a ≤ 999 by omega)]; rfl
  have wb : (!(nodeOk x) || !(win p 0 99 && win b 0 999)) = false := by rw [hx, win_iff.2 (show 0 ≤ p ∧ p ≤ 99 by omega), win_iff.2 (show 0 ≤ b ∧ b ≤ 999 by omega)]; rfl
  have hk : kindOk x = true := by simp only [nodeOk, Bool.and_eq_true] at hx; exact hx.1.1
  cases h2 : (x.kind == 2) with
  | true =>
    rw [ch_2 wa h2, ch_2 wb h2]
    rw [node_2 h2, Bool.and_eq_true] at hk
    have := win_iff.1 hk.1
    refine ⟨?_, rfl⟩
    dsimp only
    rw [wrap_in (by omega) (by omega), wrap_in (by omega) (by omega)]
    split <;> split <;> omega
  | false =>
    cases h4 : (x.kind == 4) with
    | true => rw [ch_4 wa h4, ch_4 wb h4]; exact ⟨hab, rfl⟩
    | false =>
      cases h3 : (x.kind == 3) with
      | true => rw [ch_3 wa h3, ch_3 wb h3]; exact ⟨hab, rfl⟩
      | false => rw [ch_o wa h2 h4 h3, ch_o wb h2 h4 h3]; exact ⟨hab, rfl⟩
theorem op_rg {x : Node} {k v : Int} (h : (changedM x k v).2.2 = true) : (0 ≤ (changedM x k v).1 ∧ (changedM x k v).1 ≤ 99) ∧ (0 ≤ (changedM x k v).2.1 ∧ (changedM x k v).2.1 ≤ 999) := by
  cases hw : (!(nodeOk x) || !(win k 0 99 && win v 0 999)) with
  | true => rw [ch_0 hw] at h; cases h
  | false =>
    have h2 := changed_rg (ch_ok hw) (x := x) (a := k) (b := v) (by revert hw; cases nodeOk x <;> cases win k 0 99 <;> cases win v 0 999 <;> simp) (by revert hw; cases nodeOk x <;> cases win k 0 99 <;> cases win v 0 999 <;> simp)
    exact ⟨win_iff.1 h2.1, win_iff.1 h2.2⟩
theorem op_fin {x : Node} {k v p a b : Int} (hp : 0 ≤ p ∧ p < 100) (ha : 0 ≤ a) (hab : a ≤ b) (hb : b ≤ 999) :
    (((((!(nodeOk x)) || ((decide ((changedM x p a).2.1 ≤ (changedM x p b).2.1)) && ((changedM x p a).1 == (changedM x p b).1))) && ((!((changedM x k v).2.2)) || ((((decide (0 ≤ (changedM x k v).1)) && (decide ((changedM x k v).1 ≤ 99))) && (decide (0 ≤ (changedM x k v).2.1))) && (decide ((changedM x k v).2.1 ≤ 999))))) && (decide (kindName 7 = [98, 97, 99, 107]))) && ((((5 : Int) == 5) || ((5 : Int) == 6)) || ((5 : Int) == 8))) = true := by
  have e1 : ((!(nodeOk x)) || ((decide ((changedM x p a).2.1 ≤ (changedM x p b).2.1)) && ((changedM x p a).1 == (changedM x p b).1))) = true := by
    cases hx : nodeOk x with
    | false => rfl
    | true => have h := op_mono hx hp ha hab hb; rw [decide_eq_true h.1, beq_iff_eq.2 h.2]; rfl
  have e2 : ((!((changedM x k v).2.2)) || ((((decide (0 ≤ (changedM x k v).1)) && (decide ((changedM x k v).1 ≤ 99))) && (decide (0 ≤ (changedM x k v).2.1))) && (decide ((changedM x k v).2.1 ≤ 999)))) = true := by
    cases hx : (changedM x k v).2.2 with
    | false => rfl
    | true => have h := op_rg hx; rw [decide_eq_true h.1.1, decide_eq_true h.1.2, decide_eq_true h.2.1, decide_eq_true h.2.2]; rfl
  rw [e1, e2]
  decide
end Go.Proofs.YtpkimhbibjpcpaaDoor
