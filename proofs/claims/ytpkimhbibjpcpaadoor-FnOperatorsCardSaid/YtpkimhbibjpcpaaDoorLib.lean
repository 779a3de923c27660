/- What is shown of the program logic that the proofs of this claim use: rules for the operations, the code and the calls of a function, over the kit's own weakest preconditions; no condition. -/
import Derived.ChangeOld
import Derived.Deep.LoopGhost
import Derived.Deep.Slices
import Derived.OpenShut
import Derived.OrdersHeld
import Derived.ProofKit
import Derived.WalkKit
namespace Go.Proofs.YtpkimhbibjpcpaaDoor.X
open Go

/-! ### two lists, element by element -/
def All2 {α β : Type} (R : α → β → Prop) : List α → List β → Prop
  | [], [] => True
  | a :: l, b :: m => R a b ∧ All2 R l m
  | _, _ => False
theorem All2.imp {α β : Type} {R R' : α → β → Prop} (h : ∀ a b, R a b → R' a b) : ∀ {l : List α} {m : List β}, All2 R l m → All2 R' l m
  | [], [], _ => trivial
  | [], _ :: _, hh => hh.elim
  | _ :: _, [], hh => hh.elim
  | _ :: _, _ :: _, hh => ⟨h _ _ hh.1, All2.imp h hh.2⟩
theorem All2.length {α β : Type} {R : α → β → Prop} : ∀ {l : List α} {m : List β}, All2 R l m → l.length = m.length
  | [], [], _ => rfl
  | [], _ :: _, hh => hh.elim
  | _ :: _, [], hh => hh.elim
  | _ :: _, _ :: _, hh => by simp [All2.length hh.2]
theorem All2.get {α β : Type} {R : α → β → Prop} : ∀ {l : List α} {m : List β}, All2 R l m → ∀ (i : Nat) (h1 : i < l.length) (h2 : i < m.length), R l[i] m[i]
  | [], [], _, _, h1, _ => by simp at h1
  | [], _ :: _, hh, _, _, _ => hh.elim
  | _ :: _, [], hh, _, _, _ => hh.elim
  | _ :: _, _ :: _, hh, 0, _, _ => hh.1
  | _ :: _, _ :: _, hh, i + 1, h1, h2 => All2.get hh.2 i (by simpa using h1) (by simpa using h2)
theorem All2.of_get {α β : Type} {R : α → β → Prop} : ∀ {l : List α} {m : List β}, l.length = m.length → (∀ (i : Nat) (h1 : i < l.length) (h2 : i < m.length), R l[i] m[i]) → All2 R l m
  | [], [], _, _ => trivial
  | [], _ :: _, h, _ => by simp at h
  | _ :: _, [], h, _ => by simp at h
  | _ :: l, _ :: m, h, hh => ⟨hh 0 (by simp) (by simp), All2.of_get (by simpa using h) fun i h1 h2 => hh (i + 1) (by simpa using h1) (by simpa using h2)⟩

/-! ### worlds -/
/-- But for block 'x' nothing of what stood has turned; new blocks may have come. -/
structure Mod (w w' : World) (x : Option Nat) : Prop where
  os : w'.os = w.os
  tape : w'.tape = w.tape
  output : w'.output = w.output
  size : w.heap.size ≤ w'.heap.size
  block : ∀ k, k < w.heap.size → x ≠ some k → w'.heap[k]? = w.heap[k]?
  drawn : w.drawn ≤ w'.drawn
/-- Nothing of what stood has turned. -/
abbrev Ext (w w' : World) : Prop := Mod w w' none

theorem Ext.refl (w : World) : Ext w w := ⟨rfl, rfl, rfl, Nat.le_refl _, fun _ _ _ => rfl, Nat.le_refl _⟩
theorem Ext.same {w w' : World} (e : Ext w w') {k : Nat} (hk : k < w.heap.size) : w'.heap[k]? = w.heap[k]? := e.block k hk (by simp)
theorem Mod.trans {a b c : World} {x : Option Nat} (h : Mod a b x) (k : Mod b c x) : Mod a c x :=
  ⟨k.os.trans h.os, k.tape.trans h.tape, k.output.trans h.output, Nat.le_trans h.size k.size,
    fun i hi hx => (k.block i (Nat.lt_of_lt_of_le hi h.size) hx).trans (h.block i hi hx), Nat.le_trans h.drawn k.drawn⟩
theorem Ext.mod {w w' : World} (h : Ext w w') (x : Option Nat) : Mod w w' x := ⟨h.os, h.tape, h.output, h.size, fun _ hk _ => h.same hk, h.drawn⟩
/-- What is written is newer than 'a'. -/
theorem Mod.step {a b c : World} {x : Option Nat} (h : Ext a b) (k : Mod b c x) (hx : ∀ g, x = some g → a.heap.size ≤ g) : Ext a c :=
  ⟨k.os.trans h.os, k.tape.trans h.tape, k.output.trans h.output, Nat.le_trans h.size k.size,
    fun i hi _ => (k.block i (Nat.lt_of_lt_of_le hi h.size) (fun e => by have := hx i e; omega)).trans (h.same hi), Nat.le_trans h.drawn k.drawn⟩
/-- But for what lies from 'lo' on and below 'hi' nothing of what stood has turned. -/
structure ModR (w w' : World) (lo hi : Nat) : Prop where
  os : w'.os = w.os
  tape : w'.tape = w.tape
  output : w'.output = w.output
  size : w.heap.size ≤ w'.heap.size
  block : ∀ k, k < w.heap.size → (k < lo ∨ hi ≤ k) → w'.heap[k]? = w.heap[k]?
  drawn : w.drawn ≤ w'.drawn
theorem ModR.refl (w : World) (lo hi : Nat) : ModR w w lo hi := ⟨rfl, rfl, rfl, Nat.le_refl _, fun _ _ _ => rfl, Nat.le_refl _⟩
theorem ModR.trans {a b c : World} {lo hi lo' hi' : Nat} (h : ModR a b lo hi) (k : ModR b c lo' hi') (h1 : lo ≤ lo') (h2 : hi' ≤ hi) : ModR a c lo hi :=
  ⟨k.os.trans h.os, k.tape.trans h.tape, k.output.trans h.output, Nat.le_trans h.size k.size,
    fun i hi hx => (k.block i (Nat.lt_of_lt_of_le hi h.size) (by omega)).trans (h.block i hi hx), Nat.le_trans h.drawn k.drawn⟩
theorem ModR.ext {a b c : World} {lo hi : Nat} (h : ModR a b lo hi) (k : Ext b c) : ModR a c lo hi :=
  ⟨k.os.trans h.os, k.tape.trans h.tape, k.output.trans h.output, Nat.le_trans h.size k.size,
    fun i hi hx => (k.same (Nat.lt_of_lt_of_le hi h.size)).trans (h.block i hi hx), Nat.le_trans h.drawn k.drawn⟩
/-- What is written lies between, or is newer than 'a'. -/
theorem ModR.mod {a b c : World} {lo hi : Nat} {x : Option Nat} (h : ModR a b lo hi) (k : Mod b c x) (hx : ∀ g, x = some g → (lo ≤ g ∧ g < hi) ∨ a.heap.size ≤ g) : ModR a c lo hi :=
  ⟨k.os.trans h.os, k.tape.trans h.tape, k.output.trans h.output, Nat.le_trans h.size k.size,
    fun i hi hq => (k.block i (Nat.lt_of_lt_of_le hi h.size) (fun e => by have := hx i e; omega)).trans (h.block i hi hq), Nat.le_trans h.drawn k.drawn⟩
theorem ModR.some {w w' : World} {lo hi : Nat} (e : ModR w w' lo hi) {b : Nat} {o : Obj} (h : w.heap[b]? = some o) (hx : b < lo ∨ hi ≤ b) : w'.heap[b]? = some o := by
  rw [e.block b (Array.getElem?_eq_some_iff.1 h).1 hx]; exact h
/-- What is turned is newer than 'a'. -/
theorem Mod.stepR {a b c : World} {lo hi : Nat} (h : Ext a b) (k : ModR b c lo hi) (hx : a.heap.size ≤ lo) : Ext a c :=
  ⟨k.os.trans h.os, k.tape.trans h.tape, k.output.trans h.output, Nat.le_trans h.size k.size,
    fun i hi _ => (k.block i (Nat.lt_of_lt_of_le hi h.size) (by omega)).trans (h.same hi), Nat.le_trans h.drawn k.drawn⟩
theorem Ext.drew (w : World) : Ext w { w with drawn := w.drawn + 1 } := ⟨rfl, rfl, rfl, Nat.le_refl _, fun _ _ _ => rfl, Nat.le_succ _⟩
theorem Mod.some {w w' : World} {x : Option Nat} (e : Mod w w' x) {b : Nat} {o : Obj} (h : w.heap[b]? = some o) (hx : x ≠ some b) : w'.heap[b]? = some o := by
  rw [e.block b (Array.getElem?_eq_some_iff.1 h).1 hx]; exact h
theorem Ext.some {w w' : World} (e : Ext w w') {b : Nat} {o : Obj} (h : w.heap[b]? = some o) : w'.heap[b]? = some o := Mod.some e h (by simp)
theorem Ext.alloc (w : World) (o : Obj) : Ext w (w.alloc o) :=
  ⟨rfl, rfl, rfl, by simp, fun k hk _ => RowKit.Below.heap_alloc w o k hk, Nat.le_refl _⟩
theorem Ext.below {w w' : World} (h : Ext w w') : RowKit.Below w.heap.size w w' := ⟨h.os, h.tape, h.output, h.size, fun _ hk => h.same hk⟩

/-! ### the frame, as far as it is known -/
abbrev Env := List (Nat × Value)
def look : Env → Nat → Option Value
  | [], _ => none
  | (j, v) :: σ, i => bif Nat.beq i j then some v else look σ i
def ev (σ : Env) : Operand → Option Value
  | .tmp t => look σ t
  | .const v => some v
  | .global g => some (.pointer (some ⟨g, 0, none⟩))
  | .func f => some (.func (.func f) #[] #[])
def put (σ : Env) : Option Tmp → Value → Env
  | some d, v => (d, v) :: σ
  | none, _ => σ
def dok (n : Nat) : Option Tmp → Bool
  | some d => Nat.blt d n
  | none => true
structure Fits (n : Nat) (σ : Env) (a : Act) : Prop where
  size : a.tmps.size = n
  dfr : a.defers = []
  get : ∀ i v, look σ i = some v → a.tmps[i]? = some v
theorem Fits.put {n : Nat} {σ : Env} {a : Act} (h : Fits n σ a) {d : Option Tmp} (hd : dok n d = true) (v : Value) : Fits n (put σ d v) (a.put d v) := by
  cases d with
  | none => exact h
  | some d =>
    have hd' : d < n := by simpa [dok] using hd
    refine ⟨by simp [Act.put, h.size], h.dfr, fun i u hu => ?_⟩
    simp only [X.put, look] at hu
    simp only [Act.put, Array.getElem?_setIfInBounds]
    cases hb : Nat.beq i d with
    | true =>
      have : i = d := Nat.eq_of_beq_eq_true hb
      subst this
      simp only [hb, cond_true] at hu
      simp [h.size, hd', hu]
    | false =>
      have hne : d ≠ i := fun e => by subst e; simp at hb
      simp only [hb, cond_false] at hu
      simp [hne, h.get i u hu]
theorem Fits.eval {n : Nat} {σ : Env} {a : Act} (h : Fits n σ a) {x : Operand} {v : Value} (hx : ev σ x = some v) : a.eval x = v := by
  cases x with
  | tmp t => simp only [ev] at hx; simp [Act.eval, Array.getD_eq_getD_getElem?, h.get t v hx]
  | const u => simpa [ev, Act.eval] using hx
  | global g => simpa [ev, Act.eval] using hx
  | func f => simpa [ev, Act.eval] using hx
def Sub : Env → Env → Prop
  | [], _ => True
  | (i, v) :: σ', σ => look σ i = some v ∧ Sub σ' σ
theorem Sub.look {σ' σ : Env} (h : Sub σ' σ) : ∀ i v, look σ' i = some v → look σ i = some v := by
  induction σ' with
  | nil => intro i v hv; simp [X.look] at hv
  | cons p σ' ih =>
    intro i v hv
    obtain ⟨j, u⟩ := p
    simp only [X.look] at hv
    cases hb : Nat.beq i j with
    | true =>
      have : i = j := Nat.eq_of_beq_eq_true hb
      subst this
      simp only [hb, cond_true, Option.some.injEq] at hv
      subst hv
      exact h.1
    | false =>
      simp only [hb, cond_false] at hv
      exact ih h.2 i v hv
theorem Fits.sub {n : Nat} {σ σ' : Env} {a : Act} (h : Fits n σ a) (hs : Sub σ' σ) : Fits n σ' a :=
  ⟨h.size, h.dfr, fun i v hv => h.get i v (hs.look i v hv)⟩

/-! ### operations -/
def NoQ : Exit → Act → World → Prop := fun _ _ _ => False
theorem wp_mono2 {P : Program} {o : Oper} {a : Act} {w : World} {K K' : Act → World → Prop} {Q Q' : Exit → Act → World → Prop} (h : ∀ a w, K a w → K' a w) (hq : ∀ e a w, Q e a w → Q' e a w)
    (hh : o.wp P a w K Q) : o.wp P a w K' Q' := by
  unfold Oper.wp at *
  generalize (execOp a.eval o).run P w = r at *
  cases r with
  | ok n w' =>
    cases n <;> simp only [Oper.upon] at hh ⊢ <;>
      first
        | exact h _ _ hh
        | exact Calls.mono hh (fun e w'' he => by cases e <;> first | exact h _ _ he | exact hq _ _ _ he | exact he.elim fun a h => h.elim fun w h => ⟨a, w, hq _ _ _ h⟩)
        | exact Rows.mono hh (fun _ _ he => h _ _ he)
  | halt x w' => cases x <;> simp only [Oper.upon] at hh ⊢ <;> first | exact hq _ _ _ hh | exact hh

/-- 'o' yields 'v', in the world at hand and in every one that extends it. -/
def Yl (P : Program) (ops : Array Oper) (o : Oper) (a : Act) (w : World) (v : Value) : Prop :=
  (Region.wanted o (yielded ops a.tmps) = true ∧ ∀ w', Ext w w' → (execOp a.eval o).run P w' = .ok (.value v) w') ∨
  (Region.wanted o (yielded ops a.tmps) = false ∧ v = undef)

def isSt (o : Oper) : Bool := match o.op with
  | .store .. => true
  | .call c => match c.callee with
    | .builtin .copy => true
    | .builtin .clear => true
    | _ => false
  | _ => false
/-- The operations of a region, each marked: 'true': it yields its value and does nothing else. 'D': each of the others, but for the stores, leaves what stood as it is. -/
def wpE (P : Program) (ops : Array Oper) (D : Bool) (K : Act → World → Prop) : List (Bool × Oper) → Act → World → Prop
  | [], a, w => K a w
  | (true, o) :: l, a, w => ∃ v, Yl P ops o a w v ∧ wpE P ops D K l (a.put o.dst v) w
  | (false, o) :: l, a, w =>
    if Region.wanted o (yielded ops a.tmps) then o.wp P a w (fun a' w' => (D = true → isSt o = false → Ext w w') ∧ wpE P ops D K l a' w') NoQ
    else wpE P ops D K l (a.put o.dst undef) w

theorem wpList_of_wpE {P : Program} {ops : Array Oper} {Q : Exit → Act → World → Prop} : ∀ (l : List (Bool × Oper)) (a : Act) (w : World),
    wpE P ops false (Q .normal) l a w → wpList P ops Q (l.map (·.2)) a w
  | [], a, w, h => h
  | (true, o) :: l, a, w, h => by
    obtain ⟨v, hy, h⟩ := h
    have ih := wpList_of_wpE l _ _ h
    simp only [List.map_cons, wpList]
    rcases hy with ⟨hw, hr⟩ | ⟨hw, rfl⟩
    · rw [if_pos hw]
      exact .inl (by unfold Oper.wp; rw [hr w (Ext.refl w)]; exact ih)
    · rw [if_neg (by simp [hw])]
      exact ih
  | (false, o) :: l, a, w, h => by
    simp only [List.map_cons, wpList]
    unfold wpE at h
    split at h
    · rename_i hw
      rw [if_pos hw]
      exact .inl (wp_mono2 (fun a w h => wpList_of_wpE l a w h.2) (fun _ _ _ h => h.elim) h)
    · rename_i hw
      rw [if_neg hw]
      exact wpList_of_wpE l _ _ h

def tag (ts : List Bool) (ops : List Oper) : List (Bool × Oper) := ts.zip ops
theorem wp_reg {P : Program} {id : Nat} {l : List (Bool × Oper)} {ops : List Oper} {Q : Exit → Act → World → Prop} {a : Act} {w : World} (hl : l.map (·.2) = ops)
    (h : wpE P ops.toArray false (Q .normal) l a w) : (Code.region id ops.toArray false).wp P Q a w :=
  wp_region_list (by subst hl; simpa using wpList_of_wpE _ _ _ h)

/-! a region that draws its order -/
/-- Whatever has come up, what it waits for has come up before it. -/
def Closed (ops : Array Oper) (listed : Array Bool) : Prop := ∀ k ok, ops[k]? = some ok → listed.getD k false = true → ∀ e ∈ ok.after, Region.binds .any e = true → listed.getD e.on false = true
def closedB (ops : Array Oper) (listed : Array Bool) : Bool := (List.range ops.size).all fun k => !listed.getD k false || match ops[k]? with
  | some o => o.after.all (fun e => !Region.binds .any e || listed.getD e.on false)
  | none => true
theorem closedB_spec {ops : Array Oper} {listed : Array Bool} (h : closedB ops listed = true) : Closed ops listed := fun k ok hk hl e he hb => by
  have := List.all_eq_true.1 h k (List.mem_range.2 (Array.getElem?_eq_some_iff.1 hk).1)
  rw [hk] at this
  simp only [hl, Bool.not_true, Bool.false_or] at this
  have := Array.all_eq_true'.1 this e he
  simpa [hb] using this
/-- 'j' waits for 'i', maybe through others. -/
def reach (ops : Array Oper) : Nat → Nat → Nat → Bool
  | 0, _, _ => false
  | f + 1, j, i => match ops[j]? with
    | some o => o.after.any (fun e => Region.binds .any e && (e.on == i || reach ops f e.on i))
    | none => false
theorem reach_not {ops : Array Oper} {listed : Array Bool} {i : Nat} (hC : Closed ops listed) (hi : listed.getD i true = false) : ∀ (f j : Nat) (oj : Oper), ops[j]? = some oj → reach ops f j i = true → ¬ ∀ e ∈ oj.after, Region.binds .any e = true → listed.getD e.on false = true
  | 0, _, _, _, h => by simp [reach] at h
  | f + 1, j, oj, hj, h => fun hall => by
    simp only [reach, hj] at h
    obtain ⟨e, he, hp⟩ := Array.any_eq_true'.1 h
    simp only [Bool.and_eq_true, Bool.or_eq_true, beq_iff_eq] at hp
    have h1 := hall e he hp.1
    rcases hp.2 with hq | hq
    · rw [hq] at h1
      rcases Nat.lt_or_ge i listed.size with h' | h'
      · simp [h'] at h1 hi; rw [h1] at hi; cases hi
      · simp [Array.getElem?_eq_none h'] at hi
    · cases hk : ops[e.on]? with
      | none =>
        cases f with
        | zero => simp [reach] at hq
        | succ f => simp [reach, hk] at hq
      | some ok => exact reach_not hC hi f e.on ok hk hq (hC e.on ok hk h1)
theorem Closed.set {ops : Array Oper} {listed : Array Bool} {j : Nat} {oj : Oper} (hC : Closed ops listed) (hj : ops[j]? = some oj) (hall : ∀ e ∈ oj.after, Region.binds .any e = true → listed.getD e.on false = true) : Closed ops (listed.setIfInBounds j true) := fun k ok hk hl e he hb => by
  have mono : ∀ q, listed.getD q false = true → (listed.setIfInBounds j true).getD q false = true := fun q hq => by
    simp only [Array.getD_eq_getD_getElem?, Array.getElem?_setIfInBounds] at hq ⊢
    by_cases hjq : j = q
    · subst hjq
      rcases Nat.lt_or_ge j listed.size with h' | h'
      · simp [h']
      · simp [Array.getElem?_eq_none h'] at hq
    · simpa [hjq] using hq
  by_cases hjk : j = k
  · subst hjk
    rw [hj] at hk
    obtain rfl := Option.some.inj hk
    exact mono _ (hall e he hb)
  · refine mono _ (hC k ok hk ?_ e he hb)
    simp only [Array.getD_eq_getD_getElem?, Array.getElem?_setIfInBounds] at hl ⊢
    simpa [hjk] using hl
/-- The stores, and those of 'X'. -/
def stX (X : List Nat) (ops : Array Oper) (i : Nat) : Bool := X.contains i || (ops[i]?).any isSt
theorem stX_f {X : List Nat} {ops : Array Oper} {i : Nat} {o : Oper} (ho : ops[i]? = some o) (h : stX X ops i = false) : isSt o = false := by
  simp only [stX, ho, Option.any_some, Bool.or_eq_false_iff] at h; exact h.2
/-- Whatever order is picked from here on; 'S' holds behind every operation up to the first store. -/
def wpAnyG (P : Program) (ops : Array Oper) (X : List Nat) (Q : Exit → Act → World → Prop) (S : World → Prop) : Nat → Array Bool → Act → World → Prop
  | 0, listed, a, w => Region.ready .any ops listed = [] ∧ Q .normal a w
  | fuel + 1, listed, a, w =>
    (Region.ready .any ops listed = [] → Q .normal a w) ∧
    ∀ i ∈ Region.ready .any ops listed, wpOp P ops Q i (fun a' w' =>
      ((stX X ops i = false → S w' ∧ wpAnyG P ops X Q S fuel (listed.setIfInBounds i true) a' w') ∧ (stX X ops i = true → wpAny P .any ops Q fuel (listed.setIfInBounds i true) a' w'))) a w
section
variable {P : Program} {ops : Array Oper} {X : List Nat} {Q : Exit → Act → World → Prop} {S : World → Prop}
theorem wpAny_of_G : ∀ (fuel : Nat) (listed : Array Bool) (a : Act) (w : World), wpAnyG P ops X Q S fuel listed a w → wpAny P .any ops Q fuel listed a w
  | 0, _, _, _, h => h
  | fuel + 1, _, _, _, h => ⟨h.1, fun i hi => wpOp_mono (fun a' w' h' => by
      cases hs : stX X ops i with
      | false => exact wpAny_of_G fuel _ a' w' (h'.1 hs).2
      | true => exact h'.2 hs) (h.2 i hi)⟩
theorem wpAnyG_first {i : Nat} {oi : Oper} {v : Value} (hi : ops[i]? = some oi) (hsel : ∀ (j : Nat) (o : Oper) cs b, ops[j]? = some o → o.op ≠ .select cs b)
    (hQ : ∀ c a w, Q (.panic c) (a.put oi.dst v) w → Q (.panic c) a w) :
    ∀ (fuel : Nat) (listed : Array Bool) (a : Act) (w : World),
      (∀ j oj, ops[j]? = some oj → j ≠ i → listed.getD j true = false → (∀ e ∈ oj.after, Region.binds .any e = true → e.on ≠ i) → oi.apart ops oj = true) →
      Closed ops listed → (∀ j oj, ops[j]? = some oj → stX X ops j = true → listed.getD j true = false → reach ops 9 j i = true) →
      i ∈ Region.ready .any ops listed → YieldsIf P ops S oi v a → S w →
      wpAnyG P ops X Q S fuel (listed.setIfInBounds i true) (a.put oi.dst v) w → wpAnyG P ops X Q S (fuel + 1) listed a w := by
  have hno : ∀ (listed : Array Bool), i ∈ Region.ready .any ops listed → Closed ops listed → (∀ j oj, ops[j]? = some oj → stX X ops j = true → listed.getD j true = false → reach ops 9 j i = true) →
      ∀ j ∈ Region.ready .any ops listed, stX X ops j = false := fun listed hr hC hG j hj => by
    obtain ⟨hjun, oj, hoj, hall⟩ := mem_ready.1 hj
    cases hs : stX X ops j with
    | false => rfl
    | true => exact absurd hall (reach_not hC (mem_ready.1 hr).1 9 j oj hoj (hG j oj hoj hs hjun))
  have self : ∀ (fuel : Nat) (listed : Array Bool) (a : Act) (w : World), stX X ops i = false → YieldsIf P ops S oi v a → S w → wpAnyG P ops X Q S fuel (listed.setIfInBounds i true) (a.put oi.dst v) w →
      wpOp P ops Q i (fun a' w' => ((stX X ops i = false → S w' ∧ wpAnyG P ops X Q S fuel (listed.setIfInBounds i true) a' w') ∧ (stX X ops i = true → wpAny P .any ops Q fuel (listed.setIfInBounds i true) a' w'))) a w :=
    fun fuel listed a w hns hy hS H => hy.wpOp hi hS ⟨fun _ => ⟨hS, H⟩, fun h => by rw [hns] at h; cases h⟩
  intro fuel
  induction fuel with
  | zero =>
    intro listed a w _ hC hG hr hy hS H
    refine ⟨fun h => (by rw [h] at hr; cases hr), fun j hj => ?_⟩
    by_cases hji : j = i
    · subst hji; exact self 0 listed a w (hno listed hr hC hG _ hr) hy hS H
    · have := ready_mono hj hji
      rw [H.1] at this
      cases this
  | succ fuel ih =>
    intro listed a w hfree hC hG hr hy hS H
    refine ⟨fun h => (by rw [h] at hr; cases hr), fun j hj => ?_⟩
    by_cases hji : j = i
    · subst hji; exact self _ listed a w (hno listed hr hC hG _ hr) hy hS H
    · have h1 := H.2 j (ready_mono hj hji)
      obtain ⟨hjun, oj, hoj, hall⟩ := mem_ready.1 hj
      have hnot : ∀ e ∈ oj.after, Region.binds .any e = true → e.on ≠ i := fun e he hb heq => by
        have h1 := hall e he hb
        have h0 := (mem_ready.1 hr).1
        rw [heq] at h1
        rcases Nat.lt_or_ge i listed.size with h' | h'
        · simp [h'] at h0 h1; rw [h0] at h1; cases h1
        · simp [Array.getElem?_eq_none h'] at h1
      have hjs := hno listed hr hC hG j hj
      have h2 := wpOp_putIf hoj (hfree j oj hoj hji hjun hnot) (fun cs b => hsel i oi cs b hi) (fun cs b => hsel j oj cs b hoj) hQ hy h1
      have hstep : ∀ k, (listed.setIfInBounds j true).getD k true = false → listed.getD k true = false := fun k hun => by
        by_cases hjk : j = k
        · subst hjk; exact hjun
        · rw [getD_set_ne true hjk] at hun; exact hun
      have hfree' : ∀ k ok, ops[k]? = some ok → k ≠ i → (listed.setIfInBounds j true).getD k true = false →
          (∀ e ∈ ok.after, Region.binds .any e = true → e.on ≠ i) → oi.apart ops ok = true := fun k ok hk hki hun hno => hfree k ok hk hki (hstep k hun) hno
      refine wpOp_mono (fun a' w' h3 => ?_) h2
      have h4 := h3.2.1 hjs
      refine ⟨fun _ => ⟨h4.1, ih (listed.setIfInBounds j true) a' w' hfree' (hC.set hoj hall) (fun k ok hk hs hun => hG k ok hk hs (hstep k hun)) (ready_mono hr (Ne.symm hji)) h3.1 h4.1 ?_⟩, fun h => by rw [hjs] at h; cases h⟩
      rw [Array.setIfInBounds_comm _ _ hji]
      exact h4.2
/-- It yields the same in whatever world. -/
def pureO (o : Oper) : Bool := match o.op with
  | .move .. => true
  | .assign .. => true
  | .extract .. => true
  | _ => false
theorem pure_any {o : Oper} (hp : pureO o = true) {a : Act} {v : Value} {w w' : World} (h : (execOp a.eval o).run P w = .ok (.value v) w) : (execOp a.eval o).run P w' = .ok (.value v) w' := by
  obtain ⟨dst, op, ty, pos, af, g⟩ := o
  cases op <;> first | (simp only [pureO] at hp; cases hp; done) | skip
  · simp [execOp] at h ⊢; exact h
  · simp [execOp] at h ⊢; exact h
  · rename_i t i
    simp only [execOp, Sem.run_bind] at h ⊢
    cases ht : a.eval t <;> simp [ht, Instr.extract] at h ⊢
    rename_i vs
    cases hq : vs[i]? <;> simp [hq] at h ⊢
    exact h
theorem pure_nst {o : Oper} (hp : pureO o = true) : isSt o = false := by
  obtain ⟨dst, op, ty, pos, af, g⟩ := o
  cases op <;> first | rfl | (simp only [pureO] at hp; cases hp)
theorem wpAnyG_firstP {i : Nat} {oi : Oper} {v : Value} (hi : ops[i]? = some oi) (hsel : ∀ (j : Nat) (o : Oper) cs b, ops[j]? = some o → o.op ≠ .select cs b)
    (hQ : ∀ c a w, Q (.panic c) (a.put oi.dst v) w → Q (.panic c) a w) (hns : stX X ops i = false) :
    ∀ (fuel : Nat) (listed : Array Bool) (a : Act) (w : World),
      (∀ j oj, ops[j]? = some oj → j ≠ i → listed.getD j true = false → (∀ e ∈ oj.after, Region.binds .any e = true → e.on ≠ i) → oi.apart ops oj = true) →
      i ∈ Region.ready .any ops listed → Yields P ops oi v a → S w →
      wpAnyG P ops X Q S fuel (listed.setIfInBounds i true) (a.put oi.dst v) w → wpAnyG P ops X Q S (fuel + 1) listed a w := by
  have self : ∀ (fuel : Nat) (listed : Array Bool) (a : Act) (w : World), Yields P ops oi v a → S w → wpAnyG P ops X Q S fuel (listed.setIfInBounds i true) (a.put oi.dst v) w →
      wpOp P ops Q i (fun a' w' => ((stX X ops i = false → S w' ∧ wpAnyG P ops X Q S fuel (listed.setIfInBounds i true) a' w') ∧ (stX X ops i = true → wpAny P .any ops Q fuel (listed.setIfInBounds i true) a' w'))) a w :=
    fun fuel listed a w hy hS H => hy.wpOp hi ⟨fun _ => ⟨hS, H⟩, fun h => by rw [hns] at h; cases h⟩
  intro fuel
  induction fuel with
  | zero =>
    intro listed a w _ hr hy hS H
    refine ⟨fun h => (by rw [h] at hr; cases hr), fun j hj => ?_⟩
    by_cases hji : j = i
    · subst hji; exact self 0 listed a w hy hS H
    · have := ready_mono hj hji
      rw [H.1] at this
      cases this
  | succ fuel ih =>
    intro listed a w hfree hr hy hS H
    refine ⟨fun h => (by rw [h] at hr; cases hr), fun j hj => ?_⟩
    by_cases hji : j = i
    · subst hji; exact self _ listed a w hy hS H
    · have h1 := H.2 j (ready_mono hj hji)
      obtain ⟨hjun, oj, hoj, hall⟩ := mem_ready.1 hj
      have hnot : ∀ e ∈ oj.after, Region.binds .any e = true → e.on ≠ i := fun e he hb heq => by
        have h1 := hall e he hb
        have h0 := (mem_ready.1 hr).1
        rw [heq] at h1
        rcases Nat.lt_or_ge i listed.size with h' | h'
        · simp [h'] at h0 h1; rw [h0] at h1; cases h1
        · simp [Array.getElem?_eq_none h'] at h1
      have h2 := wpOp_putIf (S := fun _ => True) hoj (hfree j oj hoj hji hjun hnot) (fun cs b => hsel i oi cs b hi) (fun cs b => hsel j oj cs b hoj) hQ hy.yieldsIf h1
      have hstep : ∀ k, (listed.setIfInBounds j true).getD k true = false → listed.getD k true = false := fun k hun => by
        by_cases hjk : j = k
        · subst hjk; exact hjun
        · rw [getD_set_ne true hjk] at hun; exact hun
      have hfree' : ∀ k ok, ops[k]? = some ok → k ≠ i → (listed.setIfInBounds j true).getD k true = false →
          (∀ e ∈ ok.after, Region.binds .any e = true → e.on ≠ i) → oi.apart ops ok = true := fun k ok hk hki hun hno => hfree k ok hk hki (hstep k hun) hno
      refine wpOp_mono (fun a' w' h3 => ?_) h2
      have hyw : Yields P ops oi v a' := h3.1.imp (fun ⟨h1, h2⟩ => ⟨h1, fun w => h2 w trivial⟩) id
      refine ⟨fun hjs => ?_, fun hjs => ?_⟩
      · have h4 := h3.2.1 hjs
        refine ⟨h4.1, ih (listed.setIfInBounds j true) a' w' hfree' (ready_mono hr (Ne.symm hji)) hyw h4.1 ?_⟩
        rw [Array.setIfInBounds_comm _ _ hji]
        exact h4.2
      · have h4 := h3.2.2 hjs
        refine wpAny_first hi hsel hQ fuel (listed.setIfInBounds j true) a' w' hfree' (ready_mono hr (Ne.symm hji)) hyw ?_
        rw [Array.setIfInBounds_comm _ _ hji]
        exact h4
end
theorem wpAnyG_weaken {P : Program} {ops : Array Oper} {X : List Nat} {Q : Exit → Act → World → Prop} {S S' : World → Prop} (hS : ∀ w, S w → S' w) :
    ∀ (fuel : Nat) (listed : Array Bool) (a : Act) (w : World), wpAnyG P ops X Q S fuel listed a w → wpAnyG P ops X Q S' fuel listed a w
  | 0, _, _, _, h => h
  | fuel + 1, _, _, _, h => ⟨h.1, fun i hi => wpOp_mono (fun a' w' h' => ⟨fun hs => ⟨hS _ (h'.1 hs).1, wpAnyG_weaken hS fuel _ a' w' (h'.1 hs).2⟩, h'.2⟩) (h.2 i hi)⟩
/-- Every store that has not come up yet waits for 'i'. -/
def waited (X : List Nat) (ops : Array Oper) (listed : Array Bool) (i : Nat) : Bool :=
  closedB ops listed && (List.range ops.size).all fun j => match ops[j]? with
    | some _ => !stX X ops j || listed.getD j true || reach ops 9 j i
    | none => true
theorem waited_spec {X : List Nat} {ops : Array Oper} {listed : Array Bool} {i : Nat} (h : waited X ops listed i = true) : ∀ j oj, ops[j]? = some oj → stX X ops j = true → listed.getD j true = false → reach ops 9 j i = true := fun j oj hj hs hl => by
  simp only [waited, Bool.and_eq_true] at h
  have := List.all_eq_true.1 h.2 j (List.mem_range.2 (Array.getElem?_eq_some_iff.1 hj).1)
  rw [hj] at this
  simpa only [hs, hl, Bool.not_true, Bool.false_or] using this
theorem waited_closed {X : List Nat} {ops : Array Oper} {listed : Array Bool} {i : Nat} (h : waited X ops listed i = true) : Closed ops listed := closedB_spec (Bool.and_eq_true _ _ ▸ h).1
/-- It may be taken first. -/
def eagW (X : List Nat) (ops : Array Oper) (listed : Array Bool) (i : Nat) : Bool := waited X ops listed i || ((ops[i]?).any pureO && !X.contains i)
theorem wpAnyG_eag {P : Program} {ops : Array Oper} {X : List Nat} {Q : Exit → Act → World → Prop} {S : World → Prop} {i : Nat} {oi : Oper} {v : Value} {fuel : Nat} {listed : Array Bool} {a : Act} {w : World} (hs : Region.noSelect ops = true) (hi : ops[i]? = some oi) (hQ : ∀ c a w, Q (.panic c) (a.put oi.dst v) w → Q (.panic c) a w)
    (hf : Region.free .any ops listed i = true) (hr : i ∈ Region.ready .any ops listed) (hw : eagW X ops listed i = true) (hSE : ∀ w', S w' → Ext w w') (hS : S w) (hy : Yl P ops oi a w v)
    (h : wpAnyG P ops X Q S fuel (listed.setIfInBounds i true) (a.put oi.dst v) w) : wpAnyG P ops X Q S (fuel + 1) listed a w := by
  simp only [eagW, Bool.or_eq_true, hi, Option.any_some, Bool.and_eq_true, Bool.not_eq_true'] at hw
  rcases hw with hw | hw
  · exact wpAnyG_first hi (Region.noSelect_spec hs) hQ fuel listed a w (Region.free_spec hi hf) (waited_closed hw) (waited_spec hw) hr (hy.imp (fun ⟨h1, h2⟩ => ⟨h1, fun w' hw' => h2 w' (hSE w' hw')⟩) id) hS h
  · exact wpAnyG_firstP hi (Region.noSelect_spec hs) hQ (by simp only [stX, hw.2, hi, Option.any_some, pure_nst hw.1]; rfl) fuel listed a w (Region.free_spec hi hf) hr (hy.imp (fun ⟨h1, h2⟩ => ⟨h1, fun w' => pure_any hw.1 (h2 w (Ext.refl w))⟩) id) hS h
/-- The order 'κ' (number and mark) is one in which each operation that yields may be taken first, and each of the others comes up alone. -/
def eager (X : List Nat) (ops : Array Oper) : List (Nat × Bool) → Array Bool → Bool
  | [], listed => (Region.ready .any ops listed).isEmpty
  | (i, true) :: κ, listed => Region.free .any ops listed i && (Region.ready .any ops listed).contains i && eagW X ops listed i && eager X ops κ (listed.setIfInBounds i true)
  | (i, false) :: κ, listed => (Region.ready .any ops listed == [i]) && eager X ops κ (listed.setIfInBounds i true)
def eagerOK (ops : Array Oper) (κ : List (Nat × Bool)) : Bool :=
  Region.noSelect ops && κ.length == ops.size && eager [] ops κ (Array.replicate ops.size false)
def pickAll (ops : Array Oper) : List (Nat × Bool) → Option (List (Bool × Oper))
  | [] => some []
  | (i, b) :: κ => match ops[i]?, pickAll ops κ with
    | some o, some l => some ((b, o) :: l)
    | _, _ => none
def Only (K : Act → World → Prop) : Exit → Act → World → Prop
  | .normal, a, w => K a w
  | _, _, _ => False
theorem wpAnyG_done {P : Program} {ops : Array Oper} {X : List Nat} {Q : Exit → Act → World → Prop} {S : World → Prop} {listed : Array Bool} {a : Act} {w : World} (hr : Region.ready .any ops listed = []) (h : Q .normal a w) : ∀ fuel, wpAnyG P ops X Q S fuel listed a w
  | 0 => ⟨hr, h⟩
  | _ + 1 => ⟨fun _ => h, by rw [hr]; simp⟩
theorem wpAnyG_of_wpE {P : Program} {ops : Array Oper} {X : List Nat} {K : Act → World → Prop} (hs : Region.noSelect ops = true) :
    ∀ (κ : List (Nat × Bool)) (l : List (Bool × Oper)) (listed : Array Bool) (a : Act) (w : World), pickAll ops κ = some l → eager X ops κ listed = true →
      wpE P ops true K l a w → wpAnyG P ops X (Only K) (Ext w) κ.length listed a w
  | [], l, listed, a, w, hp, he, h => by
    simp only [pickAll, Option.some.injEq] at hp
    subst hp
    have : Region.ready .any ops listed = [] := by simpa [eager] using he
    exact wpAnyG_done this h 0
  | (i, true) :: κ, l, listed, a, w, hp, he, h => by
    simp only [pickAll] at hp
    split at hp
    · rename_i o l' ho hl'
      simp only [Option.some.injEq] at hp
      subst hp
      simp only [eager, Bool.and_eq_true] at he
      obtain ⟨⟨⟨hf, hr⟩, hw⟩, he⟩ := he
      obtain ⟨v, hy, h⟩ := h
      have ih := wpAnyG_of_wpE hs κ l' _ _ w hl' he h
      exact wpAnyG_eag hs ho (fun c a w h => h.elim) hf (by simpa using hr) hw (fun _ h => h) (Ext.refl w) hy ih
    · cases hp
  | (i, false) :: κ, l, listed, a, w, hp, he, h => by
    simp only [pickAll] at hp
    split at hp
    · rename_i o l' ho hl'
      simp only [Option.some.injEq] at hp
      subst hp
      simp only [eager, Bool.and_eq_true, beq_iff_eq] at he
      obtain ⟨hr, he⟩ := he
      refine ⟨fun h0 => (by rw [h0] at hr; cases hr), fun j hj => ?_⟩
      rw [hr] at hj
      obtain rfl : j = i := by simpa using hj
      unfold wpOp
      simp only [ho, Option.any_some]
      unfold wpE at h
      split at h
      · rename_i hw
        rw [if_pos hw]
        refine .inl (wp_mono2 (fun a' w' h' => ?_) (fun _ _ _ h => h.elim) h)
        have hrest := wpAnyG_of_wpE hs κ l' _ a' w' hl' he h'.2
        exact ⟨fun hns => ⟨h'.1 rfl (stX_f ho hns), wpAnyG_weaken (fun w'' e => (h'.1 rfl (stX_f ho hns)).trans e) _ _ _ _ hrest⟩, fun _ => wpAny_of_G _ _ _ _ hrest⟩
      · rename_i hw
        rw [if_neg hw]
        have hrest := wpAnyG_of_wpE hs κ l' _ _ w hl' he h
        exact ⟨fun _ => ⟨Ext.refl w, hrest⟩, fun _ => wpAny_of_G _ _ _ _ hrest⟩
    · cases hp
theorem wp_regD {P : Program} {id : Nat} {ops : Array Oper} {Q : Exit → Act → World → Prop} {a : Act} {w : World} (hm : P.follows .mixedOrders = true)
    (κ : List (Nat × Bool)) (hk : eagerOK ops κ = true) {l : List (Bool × Oper)} (hl : pickAll ops κ = some l)
    (h : wpE P ops true (Q .normal) l a { w with drawn := w.drawn + 1 }) : (Code.region id ops true).wp P Q a w := by
  simp only [eagerOK, Bool.and_eq_true, beq_iff_eq] at hk
  obtain ⟨⟨hs, hlen⟩, he⟩ := hk
  have h1 := wpAnyG_of_wpE hs κ l _ a _ hl he h
  rw [hlen] at h1
  exact wp_mono (wp_region_any hm (wpAny_of_G _ _ _ _ h1)) (fun e a w h => by cases e <;> first | exact h | exact h.elim)

/-! ### code -/
def CK (P : Program) (Q : Exit → Act → World → Prop) : List Code → Act → World → Prop
  | [], a, w => Q .normal a w
  | c :: cs, a, w => c.wp P (Exit.then (CK P Q cs) Q) a w
def S (P : Program) (n : Nat) (Q : Exit → Act → World → Prop) (cs : List Code) (σ : Env) (w : World) : Prop := ∀ a, Fits n σ a → CK P Q cs a w
def J (P : Program) (ops : Array Oper) (D : Bool) (n : Nat) (K : Act → World → Prop) (l : List (Bool × Oper)) (σ : Env) (w : World) : Prop := ∀ a, Fits n σ a → wpE P ops D K l a w
def inB (P : Program) (id : Nat) (cs : List Code) (Q : Exit → Act → World → Prop) : Exit → Act → World → Prop := Exit.inBlock id (Exit.then (CK P Q cs) Q)

section
variable {P : Program} {n : Nat} {Q : Exit → Act → World → Prop} {cs : List Code} {σ : Env} {w : World}
theorem S_sub (σ' : Env) (h : Sub σ' σ) (hs : S P n Q cs σ' w) : S P n Q cs σ w := fun a ha => hs a (ha.sub h)
theorem S_seq {x y : Code} (h : S P n Q (x :: y :: cs) σ w) : S P n Q (.seq x y :: cs) σ w := fun a ha => by
  refine wp_seq (wp_mono (h a ha) fun e a w he => ?_)
  cases e <;> exact he
theorem S_skip (h : S P n Q cs σ w) : S P n Q (.skip :: cs) σ w := fun a ha => wp_skip (h a ha)
theorem S_label {l : Nat} (h : S P n Q cs σ w) : S P n Q (.label l :: cs) σ w := fun a ha => wp_label (h a ha)
theorem S_reg (ts : List Bool) {id : Nat} {ops : List Oper} {l : List (Bool × Oper)} (_ : tag ts ops = l) (hl : l.map (·.2) = ops) (h : J P ops.toArray false n (CK P Q cs) l σ w) :
    S P n Q (.region id ops.toArray false :: cs) σ w := fun a ha => wp_reg hl (h a ha)
theorem S_regD (hm : P.follows .mixedOrders = true) (κ : List (Nat × Bool)) {id : Nat} {ops : Array Oper} {l : List (Bool × Oper)} (hk : eagerOK ops κ = true) (hl : pickAll ops κ = some l)
    (h : ∀ w', Ext w w' → J P ops true n (CK P Q cs) l σ w') : S P n Q (.region id ops true :: cs) σ w := fun a ha => wp_regD hm κ hk hl (h _ (Ext.drew w) a ha)
theorem S_cond {c : Operand} {x y : Code} {b : Bool} (hc : ev σ c = some (.bool b)) (ht : b = true → S P n Q (x :: cs) σ w) (hf : b = false → S P n Q (y :: cs) σ w) : S P n Q (.cond c x y :: cs) σ w :=
  fun a ha => wp_cond_split (ha.eval hc) (fun h => ht h a ha) (fun h => hf h a ha)
theorem S_condT {c : Operand} {x y : Code} (hc : ev σ c = some (.bool true)) (h : S P n Q (x :: cs) σ w) : S P n Q (.cond c x y :: cs) σ w := fun a ha => wp_cond_true (ha.eval hc) (h a ha)
theorem S_condF {c : Operand} {x y : Code} (hc : ev σ c = some (.bool false)) (h : S P n Q (y :: cs) σ w) : S P n Q (.cond c x y :: cs) σ w := fun a ha => wp_cond_false (ha.eval hc) (h a ha)
theorem S_block {id : Nat} {c : Code} (h : S P n (inB P id cs Q) [c] σ w) : S P n Q (.block id c :: cs) σ w := fun a ha => by
  refine wp_block (wp_mono (h a ha) fun e a w he => ?_)
  cases e <;> exact he
/-- What stands where the code comes to an end: 'e' says how it came there. -/
def E (n : Nat) (Q : Exit → Act → World → Prop) (e : Exit) (σ : Env) (w : World) : Prop := ∀ a, Fits n σ a → Q e a w
theorem S_nil (h : E n Q .normal σ w) : S P n Q [] σ w := h
theorem S_exit {id : Nat} (h : E n Q (.exit id) σ w) : S P n Q (.exit id :: cs) σ w := fun a ha => wp_exit (h a ha)
theorem S_ret (h : E n Q .ret σ w) : S P n Q (.ret :: cs) σ w := fun a ha => wp_ret (h a ha)
theorem E_sub {e : Exit} (σ' : Env) (h : Sub σ' σ) (hs : E n Q e σ' w) : E n Q e σ w := fun a ha => hs a (ha.sub h)
theorem E_inB {id : Nat} (h : S P n Q cs σ w) : E n (inB P id cs Q) .normal σ w := h
theorem E_inB_ret {id : Nat} (h : E n Q .ret σ w) : E n (inB P id cs Q) .ret σ w := h
theorem E_inB_exit {id : Nat} (h : S P n Q cs σ w) : E n (inB P id cs Q) (.exit id) σ w := fun a ha => by
  simp only [inB, Exit.inBlock, if_true, Exit.then]
  exact h a ha
theorem E_inB_up {id id' : Nat} (hne : Nat.beq id' id = false) (h : E n Q (.exit id') σ w) : E n (inB P id cs Q) (.exit id') σ w := fun a ha => by
  have hne' : id' ≠ id := fun e => by subst e; simp at hne
  simp only [inB, Exit.inBlock, if_neg hne', Exit.then]
  exact h a ha
end

/-! ### a loop -/
/-- What a round hands on: the relation at a smaller measure. -/
def Again {α : Type} (n : Nat) (σf : α → Env) (Φ : α → World → Prop) (μ : α → Nat) (x : α) : Act → World → Prop := fun a w => ∃ y, μ y < μ x ∧ Fits n (σf y) a ∧ Φ y w
def lp (I : Act → World → Prop) (Q : Exit → Act → World → Prop) : Exit → Act → World → Prop := Exit.then I Q
section
variable {P : Program} {n : Nat} {Q : Exit → Act → World → Prop} {cs : List Code} {σ : Env} {w : World} {α : Type}
theorem S_loop (σf : α → Env) (Φ : α → World → Prop) (μ : α → Nat) (x₀ : α) {c : Code} (h0 : Sub (σf x₀) σ) (hΦ : Φ x₀ w)
    (round : ∀ x w, Φ x w → S P n (lp (Again n σf Φ μ x) Q) [c] (σf x) w) : S P n Q (.loop c :: cs) σ w := fun a ha => by
  refine wp_loop_ghost (fun m a w => ∃ x, μ x = m ∧ Fits n (σf x) a ∧ Φ x w) (μ x₀) ⟨x₀, rfl, ha.sub h0, hΦ⟩ ?_
  rintro m a w ⟨x, rfl, hf, hp⟩
  refine wp_mono (round x w hp a hf) fun e a w he => ?_
  cases e with
  | normal =>
    obtain ⟨y, hlt, hf, hp⟩ := he
    exact ⟨μ y, hlt, y, rfl, hf, hp⟩
  | exit id => exact he
  | goto l => exact he
  | ret => exact he
  | panic ch => exact he
  | outgrown => exact he
variable {σf : α → Env} {Φ : α → World → Prop} {μ : α → Nat} {x : α} {I : Act → World → Prop}
theorem E_again (y : α) (hμ : μ y < μ x) (hs : Sub (σf y) σ) (hΦ : Φ y w) : E n (lp (Again n σf Φ μ x) Q) .normal σ w := fun _ ha => ⟨y, hμ, ha.sub hs, hΦ⟩
theorem E_lp_ret (h : E n Q .ret σ w) : E n (lp I Q) .ret σ w := h
theorem E_lp_exit {id : Nat} (h : E n Q (.exit id) σ w) : E n (lp I Q) (.exit id) σ w := h
end

/-! ### a function -/
/-- The contract of a call that leaves what stood as it is. -/
def Ct (P : Program) (f : FuncId) (vs : List Value) (w : World) (R : Value → World → Prop) : Prop :=
  Calls P f vs.toArray w fun e w' => ∃ v, e = .returned v ∧ Ext w w' ∧ R v w'
/-- .. that may turn block 'x'. -/
def CtM (P : Program) (f : FuncId) (vs : List Value) (w : World) (x : Option Nat) (R : Value → World → Prop) : Prop :=
  Calls P f vs.toArray w fun e w' => ∃ v, e = .returned v ∧ Mod w w' x ∧ R v w'
def bind0 : Nat → List Value → Env
  | _, [] => []
  | i, v :: vs => (i, v) :: bind0 (i + 1) vs
theorem look_bind0 : ∀ (vs : List Value) (k i : Nat), look (bind0 k vs) i = if k ≤ i then vs[i - k]? else none
  | [], k, i => by simp [bind0, look]
  | v :: vs, k, i => by
    simp only [bind0, look, look_bind0 vs]
    cases hb : Nat.beq i k with
    | true =>
      have : i = k := Nat.eq_of_beq_eq_true hb
      subst this
      simp
    | false =>
      have hne : i ≠ k := fun e => by subst e; simp at hb
      simp only [cond_false]
      by_cases h : k ≤ i
      · rw [if_pos h, if_pos (by omega)]
        rw [show i - k = (i - (k + 1)) + 1 from by omega]
        simp
      · rw [if_neg h, if_neg (by omega)]
def Ret (M : World → Prop) (R : Value → World → Prop) : Ending → World → Prop := fun e w' => ∃ v, e = .returned v ∧ M w' ∧ R v w'
theorem ctX_of {P : Program} {f : FuncId} {fn : Func} {c : Code} {n : Nat} {vs : List Value} {w : World} {M : World → Prop} {R : Value → World → Prop}
    (hf : P.funcs[f]? = some fn) (hb : fn.body = some c) (hn : fn.ntmps = n) (hv : Nat.ble vs.length n = true)
    (h : S P n (bodyPost P fn (Ret M R)) [c] (bind0 0 vs) w) : Calls P f vs.toArray w (fun e w' => ∃ v, e = .returned v ∧ M w' ∧ R v w') := by
  have hv' : vs.length ≤ n := Nat.le_of_ble_eq_true hv
  refine calls_of_wp hf hb ?_
  refine wp_mono (h _ ?_) fun e a w he => ?_
  · refine ⟨by simp [hn]; omega, rfl, fun i v hi => ?_⟩
    rw [look_bind0] at hi
    simp only [Nat.zero_le, if_true, Nat.sub_zero] at hi
    rw [Array.getElem?_append_left (by simpa using (List.getElem?_eq_some_iff.1 hi).1)]
    simpa using hi
  · cases e <;> exact he
theorem ct_of {P : Program} {f : FuncId} {fn : Func} {c : Code} {n : Nat} {vs : List Value} {w : World} {R : Value → World → Prop}
    (hf : P.funcs[f]? = some fn) (hb : fn.body = some c) (hn : fn.ntmps = n) (hv : Nat.ble vs.length n = true)
    (h : S P n (bodyPost P fn (Ret (Mod w · none) R)) [c] (bind0 0 vs) w) : Ct P f vs w R := ctX_of hf hb hn hv h
/-- .. that may turn what lies from 'lo' on and below 'hi'. -/
def CtR (P : Program) (f : FuncId) (vs : List Value) (w : World) (lo hi : Nat) (R : Value → World → Prop) : Prop :=
  Calls P f vs.toArray w fun e w' => ∃ v, e = .returned v ∧ ModR w w' lo hi ∧ R v w'
theorem ctR_of {P : Program} {f : FuncId} {fn : Func} {c : Code} {n : Nat} {vs : List Value} {w : World} {lo hi : Nat} {R : Value → World → Prop}
    (hf : P.funcs[f]? = some fn) (hb : fn.body = some c) (hn : fn.ntmps = n) (hv : Nat.ble vs.length n = true)
    (h : S P n (bodyPost P fn (Ret (ModR w · lo hi) R)) [c] (bind0 0 vs) w) : CtR P f vs w lo hi R := ctX_of hf hb hn hv h
theorem Ct.mono {P : Program} {f : FuncId} {vs : List Value} {w : World} {R R' : Value → World → Prop} (h : Ct P f vs w R) (hr : ∀ v w', Ext w w' → R v w' → R' v w') : Ct P f vs w R' :=
  Calls.mono h fun _ _ ⟨v, he, hx, hq⟩ => ⟨v, he, hx, hr v _ hx hq⟩
section
variable {P : Program} {n : Nat} {fn : Func} {σ : Env} {w : World} {M : World → Prop} {R : Value → World → Prop}
theorem E_done1 {r : Nat} {v : Value} (hres : fn.results = #[.tmp r]) (hv : look σ r = some v) (hm : M w) (hr : R v w) : E n (bodyPost P fn (Ret M R)) .ret σ w := fun a ha =>
  bodyPost_ret (results_tmp hres _ _ _) ha.dfr ⟨_, rfl, hm, by rw [Array.getD_eq_getD_getElem?, ha.get r v hv]; exact hr⟩
theorem E_fall {Q : Ending → World → Prop} (h : E n (bodyPost P fn Q) .ret σ w) : E n (bodyPost P fn Q) .normal σ w := h
theorem run_mapM_list {α β : Type} (P : Program) (w : World) (g : α → Sem β) : ∀ (l : List α) (vs : List β), All2 (fun r v => (g r).run P w = .ok v w) l vs → (l.mapM g).run P w = .ok vs w
  | [], [], _ => by simp
  | [], _ :: _, h => h.elim
  | _ :: _, [], h => h.elim
  | r :: l, v :: vs, h => by simp [List.mapM_cons, h.1, run_mapM_list P w g l vs h.2]
/-- What a result reads as. -/
inductive ResIs (P : Program) (σ : Env) (w : World) : ResultVar → Value → Prop
  | tmp {t : Nat} {v : Value} (h : look σ t = some v) : ResIs P σ w (.tmp t) v
  | cell {p : Nat} {ty : TypeId} {a : Addr} {v : Value} (h : look σ p = some (.pointer (some a))) (hl : (loadVar ty a).run P w = .ok v w) : ResIs P σ w (.cell p ty) v
theorem E_done {vs : List Value} {v : Value} (h : All2 (ResIs P σ w) fn.results.toList vs) (hv : v = if h : vs.toArray.size = 1 then vs.toArray[0] else .tuple vs.toArray) (hm : M w) (hr : R v w) :
    E n (bodyPost P fn (Ret M R)) .ret σ w := fun a ha => by
  refine bodyPost_ret (v := v) ?_ ha.dfr ⟨_, rfl, hm, hr⟩
  unfold results
  rw [Sem.run_bind, Array.mapM_eq_mapM_toList, Sem.run_map]
  rw [run_mapM_list P w _ _ vs]
  · simp only [Result.andThen_ok, Sem.run_pure, hv]
  · refine All2.imp (fun r v h => ?_) h
    cases h with
    | tmp h => simp [Array.getD_eq_getD_getElem?, ha.get _ _ h]
    | cell h hl => simp [Array.getD_eq_getD_getElem?, ha.get _ _ h, asAddr, hl]
theorem E_doneN {l : List ResultVar} {vs : List Value} (hres : fn.results = l.toArray) (h : All2 (ResIs P σ w) l vs) (h2 : Nat.beq vs.length 1 = false) (hm : M w) (hr : R (.tuple vs.toArray) w) :
    E n (bodyPost P fn (Ret M R)) .ret σ w :=
  E_done (vs := vs) (by simpa [hres] using h) (by
    have hne : vs.toArray.size ≠ 1 := fun e => by simp at e; rw [e] at h2; simp at h2
    rw [dif_neg hne]) hm hr
theorem E_doneC {p : Nat} {ty : TypeId} {a : Addr} {v : Value} (hres : fn.results = #[.cell p ty]) (h : look σ p = some (.pointer (some a))) (hl : (loadVar ty a).run P w = .ok v w) (hm : M w) (hr : R v w) :
    E n (bodyPost P fn (Ret M R)) .ret σ w :=
  E_done (vs := [v]) (by simp only [hres]; exact ⟨.cell h hl, trivial⟩) (by simp) hm hr
end
end Go.Proofs.YtpkimhbibjpcpaaDoor.X

namespace Go.Proofs.YtpkimhbibjpcpaaDoor.X
open Go

/-! ### cells in memory -/
/-- From 'off' on block 'b' holds 'vs'. -/
def At (w : World) (b off : Nat) (vs : List Value) : Prop := ∃ cs T fz, w.heap[b]? = some (.cells cs T fz) ∧ ∀ j v, vs[j]? = some v → cs[off + j]? = some v
/-- Block 'b' holds just 'cs', and may be written. -/
def Blk (w : World) (b : Nat) (cs : List Value) : Prop := ∃ T, w.heap[b]? = some (.cells cs.toArray T (0, 0))
section
variable {w w' : World} {b off : Nat} {vs cs : List Value} {x : Option Nat} {v : Value}
theorem At.mod (h : At w b off vs) (m : Mod w w' x) (hx : ∀ g, x = some g → g ≠ b) : At w' b off vs := by
  obtain ⟨cs, T, fz, hb, hc⟩ := h
  exact ⟨cs, T, fz, m.some hb (fun e => hx b e rfl), hc⟩
theorem At.ext (h : At w b off vs) (e : Ext w w') : At w' b off vs := h.mod e (fun _ h => by cases h)
theorem At.lt (h : At w b off vs) : b < w.heap.size := by
  obtain ⟨cs, T, fz, hb, _⟩ := h
  exact (Array.getElem?_eq_some_iff.1 hb).1
theorem At.one (h : At w b off vs) (j : Nat) (hj : vs[j]? = some v) : At w b (off + j) [v] := by
  obtain ⟨cs, T, fz, hb, hc⟩ := h
  refine ⟨cs, T, fz, hb, fun i u hu => ?_⟩
  cases i with
  | zero => simp only [List.getElem?_cons_zero, Option.some.injEq] at hu; subst hu; exact hc j v hj
  | succ i => simp at hu
theorem At.sub (h : At w b off vs) (k : Nat) (us : List Value) (hk : ∀ j u, us[j]? = some u → vs[k + j]? = some u) : At w b (off + k) us := by
  obtain ⟨cs, T, fz, hb, hc⟩ := h
  exact ⟨cs, T, fz, hb, fun j u hu => by rw [Nat.add_assoc]; exact hc _ u (hk j u hu)⟩
theorem At.cell (h : At w b off vs) {j : Nat} (hj : vs[j]? = some v) : w.cell? ⟨b, off + j, none⟩ = some v := by
  obtain ⟨cs, T, fz, hb, hc⟩ := h
  simp [World.cell?, hb, hc j v hj]
theorem At.add (h : At w b off vs) : ∀ j v, vs[j]? = some v → w.cell? ((⟨b, off, none⟩ : Addr).add j) = some v := fun j v hj => by
  rw [Addr.add_lit]; exact h.cell hj
theorem Blk.mod (h : Blk w b cs) (m : Mod w w' x) (hx : ∀ g, x = some g → g ≠ b) : Blk w' b cs := by
  obtain ⟨T, hb⟩ := h
  exact ⟨T, m.some hb (fun e => hx b e rfl)⟩
theorem Blk.modR {lo hi : Nat} (h : Blk w b cs) (m : ModR w w' lo hi) (hx : b < lo ∨ hi ≤ b) : Blk w' b cs := by
  obtain ⟨T, hb⟩ := h
  exact ⟨T, m.some hb hx⟩
theorem At.modR {lo hi : Nat} (h : At w b off vs) (m : ModR w w' lo hi) (hx : b < lo ∨ hi ≤ b) : At w' b off vs := by
  obtain ⟨cs, T, fz, hb, hc⟩ := h
  exact ⟨cs, T, fz, m.some hb hx, hc⟩
theorem Blk.ext (h : Blk w b cs) (e : Ext w w') : Blk w' b cs := h.mod e (fun _ h => by cases h)
theorem Blk.lt (h : Blk w b cs) : b < w.heap.size := by
  obtain ⟨T, hb⟩ := h
  exact (Array.getElem?_eq_some_iff.1 hb).1
theorem Blk.at (h : Blk w b cs) : At w b 0 cs := by
  obtain ⟨T, hb⟩ := h
  exact ⟨cs.toArray, T, (0, 0), hb, fun j v hj => by simpa using hj⟩
theorem Blk.one (h : Blk w b cs) (j : Nat) (hj : cs[j]? = some v) : At w b j [v] := by
  have := h.at.one j hj
  rwa [Nat.zero_add] at this
theorem Blk.sub (h : Blk w b cs) (k : Nat) (us : List Value) (hk : ∀ j u, us[j]? = some u → cs[k + j]? = some u) : At w b k us := by
  have := h.at.sub k us hk
  rwa [Nat.zero_add] at this
end

/-- 'vs' laid into 'cs' from 'off' on. -/
def spl (cs : List Value) (off : Nat) : List Value → List Value
  | [] => cs
  | v :: vs => spl (cs.set off v) (off + 1) vs
theorem spl_length : ∀ (vs cs : List Value) (off : Nat), (spl cs off vs).length = cs.length
  | [], cs, off => rfl
  | v :: vs, cs, off => by rw [spl, spl_length vs]; simp
theorem spl_get : ∀ (vs cs : List Value) (off j : Nat), off + vs.length ≤ cs.length → (spl cs off vs)[j]? = if off ≤ j ∧ j < off + vs.length then vs[j - off]? else cs[j]?
  | [], cs, off, j, _ => by simp [spl]; omega
  | v :: vs, cs, off, j, h => by
    rw [spl, spl_get vs _ _ _ (by simp at h ⊢; omega)]
    simp only [List.length_cons, List.getElem?_set] at h ⊢
    by_cases h1 : off = j
    · subst h1
      rw [if_neg (by omega), if_pos rfl, if_pos (by omega), if_pos ⟨Nat.le_refl _, by omega⟩]
      simp
    · by_cases h2 : off + 1 ≤ j ∧ j < off + 1 + vs.length
      · rw [if_pos h2, if_pos (by omega)]
        rw [show j - off = (j - (off + 1)) + 1 from by omega]
        simp
      · rw [if_neg h2, if_neg h1, if_neg (by omega)]
theorem spl_eq (cs : List Value) (off : Nat) (vs : List Value) (h : off + vs.length ≤ cs.length) : spl cs off vs = cs.take off ++ vs ++ cs.drop (off + vs.length) := by
  apply List.ext_getElem?
  intro j
  rw [spl_get vs cs off j h]
  simp only [List.append_assoc, List.getElem?_append, List.length_take, List.getElem?_take, List.getElem?_drop]
  by_cases h1 : j < off
  · rw [if_neg (by omega), if_pos (by omega), if_pos h1]
  · by_cases h2 : j < off + vs.length
    · rw [if_pos (by omega), if_neg (by omega), if_pos (by omega)]
      rw [show min off cs.length = off from by omega]
    · rw [if_neg (by omega), if_neg (by omega), if_neg (by omega)]
      congr 1; omega
theorem heap_setRow_mod (w : World) (g : Nat) (cs : Array Value) : Mod w (w.setRow g cs) (some g) :=
  ⟨rfl, rfl, rfl, by simp [World.setRow], fun k _ hk => setRow_other w g k cs (fun e => hk (by rw [e])), Nat.le_refl _⟩
/-- A row of cells stored into a block. -/
theorem run_storeCells_blk (P : Program) {w : World} {g off : Nat} {cs vs : List Value} (hb : Blk w g cs) (hl : off + vs.length ≤ cs.length) (h1 : vs.all (·.oneCell') = true) :
    ∃ w', (storeCells ⟨g, off, none⟩ vs).run P w = .ok () w' ∧ Mod w w' (some g) ∧ Blk w' g (spl cs off vs) := by
  obtain ⟨T, hb⟩ := hb
  refine ⟨_, run_storeCells_at P g off T vs 0 _ w hb (by simpa using hl) (fun v hv => List.all_eq_true.1 h1 v hv), heap_setRow_mod _ _ _, T, ?_⟩
  rw [setRow_heap w g _ _ T (0, 0) hb, spl_eq _ _ _ hl]
  simp
theorem Mod.alloc (w : World) (o : Obj) : Ext w (w.alloc o) := Ext.alloc w o
theorem Blk.new (w : World) (cs : Array Value) (T : TypeId) : Blk (w.alloc (.cells cs T)) w.heap.size cs.toList := ⟨T, by rw [heap_alloc_new]⟩

/-! ### what is known of a type -/
structure StT (P : Program) (t : TypeId) (sz : Nat) (z : List Value) : Prop where
  agg : ∀ w, (isAgg t).run P w = .ok true w
  size : ∀ w, (sizeOf t).run P w = .ok sz w
  zero : ∀ w, (zeroValue t).run P w = .ok (.agg z.toArray) w
structure ScT (P : Program) (t : TypeId) (z : Value) : Prop where
  agg : ∀ w, (isAgg t).run P w = .ok false w
  size : ∀ w, (sizeOf t).run P w = .ok 1 w
  zero : ∀ w, (zeroValue t).run P w = .ok z w
  one : z.oneCell' = true
/-- 't': a slice type, 'e' that of its elements. -/
structure SlT (P : Program) (t e : TypeId) (sz bytes : Nat) (z : List Value) : Prop where
  und : P.underlying t = some (.slice e)
  info : ∃ i zv, P.info? e = some i ∧ i.size = sz ∧ i.bytes = bytes ∧ i.zero = some zv ∧ zv.cells = z.toArray
  pos : 0 < sz
  zlen : z.length = sz
def FldT (P : Program) (s f off : Nat) : Prop := ∀ b o w, (Instr.fieldAt s (.pointer (some ⟨b, o, none⟩)) f).run P w = .ok (.pointer (some ⟨b, o + off, none⟩)) w
theorem cells_one {v : Value} (h : v.oneCell' = true) : v.cells = #[v] := by cases v <;> first | rfl | simp [Value.oneCell'] at h

section
variable {P : Program} {w : World} {b off : Nat} {vs : List Value} {v : Value} {t sz : Nat} {z : List Value} {zv : Value}
theorem run_loadVar_st (hT : StT P t sz z) (h : At w b off vs) (hl : vs.length = sz) : (loadVar t ⟨b, off, none⟩).run P w = .ok (.agg vs.toArray) w := by
  subst hl
  simp [loadVar, hT.agg w, hT.size w, run_loadCells_list (P := P) w ⟨b, off, none⟩ vs h.add]
theorem run_loadVar_sc (hT : ScT P t zv) (h : At w b off [v]) : (loadVar t ⟨b, off, none⟩).run P w = .ok v w := by
  have hc := h.cell (j := 0) rfl
  simp only [Nat.add_zero] at hc
  simp [loadVar, hT.agg w, hc]
theorem run_storeVar_st {cs : List Value} (hT : StT P t sz z) (hb : Blk w b cs) (hl : vs.length = sz) (hc : off + vs.length ≤ cs.length) (h1 : vs.all (·.oneCell') = true) :
    ∃ w', (storeVar t ⟨b, off, none⟩ (.agg vs.toArray)).run P w = .ok () w' ∧ Mod w w' (some b) ∧ Blk w' b (spl cs off vs) := by
  subst hl
  obtain ⟨w', hr, hm, hb'⟩ := run_storeCells_blk P hb hc h1
  exact ⟨w', by simp [storeVar, hT.size w, Value.cells, hr], hm, hb'⟩
theorem run_storeVar_sc {cs : List Value} (hT : ScT P t zv) (hb : Blk w b cs) (hc : off < cs.length) (h1 : v.oneCell' = true) :
    ∃ w', (storeVar t ⟨b, off, none⟩ v).run P w = .ok () w' ∧ Mod w w' (some b) ∧ Blk w' b (cs.set off v) := by
  obtain ⟨w', hr, hm, hb'⟩ := run_storeCells_blk P (off := off) (vs := [v]) hb (by simp only [List.length_singleton]; omega) (by simpa using h1)
  exact ⟨w', by simp [storeVar, hT.size w, cells_one h1, hr], hm, hb'⟩
end

/-! ### slices that are read -/
def sblk : Value → Nat
  | .slice (some a) _ _ => a.block
  | _ => 0
def soff : Value → Nat
  | .slice (some a) _ _ => a.off
  | _ => 0
/-- A slice of 'k' elements. -/
def SlLen (v : Value) (k : Nat) : Prop := ∃ a c, v = .slice a k c
/-- The slice 'v' reads as 'xs': elements of 'n' cells each, a row of cells reads by 'R'. -/
def RdL {α : Type} (w : World) (n : Nat) (R : List Value → α → Prop) (v : Value) (xs : List α) : Prop :=
  xs.length ≤ maxLen ∧ ((v = .slice none 0 0 ∧ xs = []) ∨ ∃ b off sp cap css, v = .slice (some ⟨b, off, sp⟩) xs.length cap ∧ xs.length ≤ cap ∧ (xs ≠ [] → sp = none) ∧
    (∀ i cs, css[i]? = some cs → cs.length = n ∧ At w b (off + i * n) cs) ∧ All2 R css xs)
section
variable {α : Type} {w w' : World} {n : Nat} {R R' : List Value → α → Prop} {v : Value} {xs : List α} {x : Option Nat}
theorem RdL.mod (h : RdL w n R v xs) (m : Mod w w' x) (hx : ∀ g, x = some g → g ≠ sblk v ∨ xs = []) (hR : ∀ cs y, R cs y → R' cs y) : RdL w' n R' v xs := by
  obtain ⟨hm, h | ⟨b, off, sp, cap, css, rfl, hcap, hsp, hc, ha⟩⟩ := h
  · exact ⟨hm, .inl h⟩
  · refine ⟨hm, .inr ⟨b, off, sp, cap, css, rfl, hcap, hsp, fun i cs hi => ⟨(hc i cs hi).1, ?_⟩, ha.imp hR⟩⟩
    refine (hc i cs hi).2.mod m (fun g hg => ?_)
    rcases hx g hg with h | rfl
    · exact h
    · have := ha.length
      simp at this
      subst this
      simp at hi
theorem RdL.ext (h : RdL w n R v xs) (e : Ext w w') (hR : ∀ cs y, R cs y → R' cs y) : RdL w' n R' v xs := h.mod e (fun _ h => by cases h) hR
theorem RdL.len (h : RdL w n R v xs) : SlLen v xs.length := by
  obtain ⟨_, ⟨rfl, rfl⟩ | ⟨b, off, sp, cap, css, rfl, _⟩⟩ := h
  · exact ⟨_, _, rfl⟩
  · exact ⟨_, _, rfl⟩
theorem RdL.get (h : RdL w n R v xs) {i : Nat} (hi : i < xs.length) : ∃ cs, R cs xs[i] ∧ cs.length = n ∧ At w (sblk v) (soff v + i * n) cs := by
  obtain ⟨_, ⟨rfl, rfl⟩ | ⟨b, off, sp, cap, css, rfl, hcap, hsp, hc, ha⟩⟩ := h
  · simp at hi
  · have hl := ha.length
    have hi' : i < css.length := by omega
    have := hc i css[i] (by simp [hi'])
    exact ⟨css[i], ha.get i hi' hi, this.1, this.2⟩
theorem RdL.lt (h : RdL w n R v xs) (hi : xs ≠ []) : sblk v < w.heap.size := by
  obtain ⟨cs, _, _, ha⟩ := h.get (i := 0) (List.length_pos_iff.2 hi)
  exact ha.lt
end

/-- Plain data: so many cells, nothing behind them. -/
class Enc (α : Type) where
  enc : α → List Value
  sz : Nat
  len : ∀ x, (enc x).length = sz
  one : ∀ x, (enc x).all (·.oneCell') = true
  pos : 0 < sz
open Enc (enc)
instance : Enc Int := ⟨fun n => [.int .i64 n], 1, fun _ => rfl, fun _ => rfl, by decide⟩
instance : Enc Bool := ⟨fun b => [.bool b], 1, fun _ => rfl, fun _ => rfl, by decide⟩
abbrev RdS {α : Type} [Enc α] (w : World) (v : Value) (xs : List α) : Prop := RdL w (Enc.sz α) (fun cs x => cs = enc x) v xs
section
variable {α : Type} [Enc α] {w w' : World} {v : Value} {xs : List α} {x : Option Nat}
theorem RdS.ext (h : RdS w v xs) (e : Ext w w') : RdS w' v xs := RdL.ext h e (fun _ _ h => h)
theorem RdS.mod (h : RdS w v xs) (m : Mod w w' x) (hx : ∀ g, x = some g → g ≠ sblk v) : RdS w' v xs := RdL.mod h m (fun g hg => .inl (hx g hg)) (fun _ _ h => h)
theorem RdS.get (h : RdS w v xs) {i : Nat} (hi : i < xs.length) : At w (sblk v) (soff v + i * Enc.sz α) (enc xs[i]) := by
  obtain ⟨cs, rfl, _, ha⟩ := RdL.get h hi
  exact ha
end

/-! ### slices of the call's own -/
/-- The slice 'v' lies in a block of its own, from 'lo' on and below 'hi', and holds the cells 'cs'. -/
def Own (w : World) (lo hi sz : Nat) (v : Value) (cs : List Value) : Prop :=
  (v = .slice none 0 0 ∧ cs = []) ∨ ∃ g off len cap cur T, v = .slice (some ⟨g, off, none⟩) len cap ∧ lo ≤ g ∧ g < hi ∧ w.heap[g]? = some (.cells cur T (0, 0)) ∧ len ≤ cap ∧ cap ≤ maxLen ∧
    off + cap * sz ≤ cur.size ∧ cs.length = len * sz ∧ ∀ j u, cs[j]? = some u → cur[off + j]? = some u
section
variable {w w' : World} {lo hi sz : Nat} {v : Value} {cs : List Value} {x : Option Nat}
theorem Own.mod (h : Own w lo hi sz v cs) (m : Mod w w' x) (hx : ∀ g, x = some g → g < lo ∨ hi ≤ g) : Own w' lo hi sz v cs := by
  rcases h with h | ⟨g, off, len, cap, cur, T, rfl, h1, h2, hb, h3⟩
  · exact .inl h
  · exact .inr ⟨g, off, len, cap, cur, T, rfl, h1, h2, m.some hb (fun e => by have := hx g e; omega), h3⟩
theorem Own.modR {lo' hi' : Nat} (h : Own w lo hi sz v cs) (m : ModR w w' lo' hi') (hx : hi ≤ lo' ∨ hi' ≤ lo) : Own w' lo hi sz v cs := by
  rcases h with h | ⟨g, off, len, cap, cur, T, rfl, h1, h2, hb, h3⟩
  · exact .inl h
  · exact .inr ⟨g, off, len, cap, cur, T, rfl, h1, h2, m.some hb (by omega), h3⟩
theorem Own.ext (h : Own w lo hi sz v cs) (e : Ext w w') : Own w' lo hi sz v cs := h.mod e (by simp)
theorem Own.widen {lo' hi' : Nat} (h : Own w lo hi sz v cs) (h1 : lo' ≤ lo) (h2 : hi ≤ hi') : Own w lo' hi' sz v cs := by
  rcases h with h | ⟨g, off, len, cap, cur, T, rfl, ha, hb, h3⟩
  · exact .inl h
  · exact .inr ⟨g, off, len, cap, cur, T, rfl, by omega, by omega, h3⟩
theorem Own.blk (h : Own w lo hi sz v cs) : ∀ g, v.ownBlock = some g → lo ≤ g ∧ g < hi := by
  intro g hg
  rcases h with ⟨rfl, _⟩ | ⟨g', off, len, cap, cur, T, rfl, ha, hb, h3⟩
  · simp [Value.ownBlock] at hg
  · simp only [Value.ownBlock, Option.some.injEq] at hg
    subst hg
    exact ⟨ha, hb⟩
theorem Own.lt (h : Own w lo hi sz v cs) : ∀ g, v.ownBlock = some g → g < w.heap.size := by
  intro g hg
  rcases h with ⟨rfl, _⟩ | ⟨g', off, len, cap, cur, T, rfl, ha, hb, h3, _⟩
  · simp [Value.ownBlock] at hg
  · simp only [Value.ownBlock, Option.some.injEq] at hg
    subst hg
    exact (Array.getElem?_eq_some_iff.1 h3).1
theorem Own.nil (w : World) (lo hi sz : Nat) : Own w lo hi sz (.slice none 0 0) [] := .inl ⟨rfl, rfl⟩
theorem Own.one (h : Own w lo hi sz v cs) : v.oneCell' = true := by
  rcases h with ⟨rfl, _⟩ | ⟨g', off, len, cap, cur, T, rfl, _⟩ <;> rfl
/-- A block that is a slice's own, whole. -/
theorem Own.ofBlk {g len : Nat} (h : Blk w g cs) (h1 : lo ≤ g) (h2 : g < hi) (hl : cs.length = len * sz) (hm : len ≤ maxLen) : Own w lo hi sz (.slice (some ⟨g, 0, none⟩) len len) cs := by
  obtain ⟨T, hb⟩ := h
  exact .inr ⟨g, 0, len, len, _, T, rfl, h1, h2, hb, Nat.le_refl _, hm, by simp [hl], hl, fun j u hu => by simpa using hu⟩
theorem sum_flat {α : Type} [Enc α] : ∀ (xs : List α), (xs.flatMap enc).length = xs.length * Enc.sz α
  | [] => by simp
  | x :: xs => by simp only [List.flatMap_cons, List.length_append, sum_flat xs, Enc.len, List.length_cons, Nat.add_mul]; omega
theorem flat_get {α : Type} [Enc α] : ∀ (xs : List α) (i j : Nat) (hi : i < xs.length), j < Enc.sz α → (xs.flatMap enc)[i * Enc.sz α + j]? = (enc xs[i])[j]?
  | x :: xs, 0, j, _, hj => by
    simp only [Nat.zero_mul, Nat.zero_add, List.flatMap_cons, List.getElem_cons_zero]
    rw [List.getElem?_append_left (by rw [Enc.len]; exact hj)]
  | x :: xs, i + 1, j, hi, hj => by
    simp only [List.flatMap_cons, List.getElem_cons_succ]
    rw [List.getElem?_append_right (by rw [Enc.len, Nat.add_mul]; omega), Enc.len]
    rw [show (i + 1) * Enc.sz α + j - Enc.sz α = i * Enc.sz α + j from by rw [Nat.add_mul]; omega]
    exact flat_get xs i j (by simpa using hi) hj
theorem Own.rd {α : Type} [Enc α] {xs : List α} (hs : 0 < Enc.sz α) (h : Own w lo hi (Enc.sz α) v (xs.flatMap enc)) : RdS w v xs := by
  rcases h with ⟨rfl, hc⟩ | ⟨g, off, len, cap, cur, T, rfl, ha, hb, h3, h4, h5, h6, h7, h8⟩
  · have : xs = [] := by
      cases xs with
      | nil => rfl
      | cons x xs =>
        have hl := congrArg List.length hc
        simp only [List.flatMap_cons, List.length_append, Enc.len, List.length_nil] at hl
        omega
    subst this
    exact ⟨by simp, .inl ⟨rfl, rfl⟩⟩
  · rw [sum_flat] at h7
    have hlen : xs.length = len := Nat.eq_of_mul_eq_mul_right hs h7
    subst hlen
    refine ⟨by omega, .inr ⟨g, off, none, cap, xs.map enc, rfl, h4, fun _ => rfl, fun i cs hi => ?_, All2.of_get (by simp) fun i h1 h2 => by simp⟩⟩
    simp only [List.getElem?_map, Option.map_eq_some_iff] at hi
    obtain ⟨y, hy, rfl⟩ := hi
    obtain ⟨hlt, rfl⟩ := List.getElem?_eq_some_iff.1 hy
    refine ⟨Enc.len _, cur, T, (0, 0), h3, fun j u hu => ?_⟩
    rw [Nat.add_assoc]
    refine h8 _ u ?_
    rw [flat_get xs i j hlt (by have := (List.getElem?_eq_some_iff.1 hu).1; rwa [Enc.len] at this)]
    exact hu
end
end Go.Proofs.YtpkimhbibjpcpaaDoor.X

namespace Go.Proofs.YtpkimhbibjpcpaaDoor.X
open Go

/-! ### operations that yield their value -/
def Runs (P : Program) (n : Nat) (σ : Env) (w : World) (o : Oper) (v : Value) : Prop := ∀ a, Fits n σ a → ∀ w', Ext w w' → (execOp a.eval o).run P w' = .ok (.value v) w'
def evs (σ : Env) : List Operand → Option (List Value)
  | [] => some []
  | x :: l => match ev σ x, evs σ l with
    | some v, some vs => some (v :: vs)
    | _, _ => none
theorem evs_map {n : Nat} {σ : Env} {a : Act} (ha : Fits n σ a) : ∀ (l : List Operand) (vs : List Value), evs σ l = some vs → l.map a.eval = vs
  | [], vs, h => by simpa [evs] using h
  | x :: l, vs, h => by
    simp only [evs] at h
    split at h
    · rename_i v us hv hus
      simp only [Option.some.injEq] at h
      subst h
      rw [List.map_cons, ha.eval hv, evs_map ha l us hus]
    · cases h
def evps (σ : Env) : List (Nat × Operand) → Option (List (Nat × Value))
  | [] => some []
  | (i, x) :: l => match ev σ x, evps σ l with
    | some v, some vs => some ((i, v) :: vs)
    | _, _ => none
theorem evps_map {n : Nat} {σ : Env} {a : Act} (ha : Fits n σ a) : ∀ (l : List (Nat × Operand)) (vs : List (Nat × Value)), evps σ l = some vs → l.map (fun p => (p.1, a.eval p.2)) = vs
  | [], vs, h => by simpa [evps] using h
  | (i, x) :: l, vs, h => by
    simp only [evps] at h
    split at h
    · rename_i v us hv hus
      simp only [Option.some.injEq] at h
      subst h
      rw [List.map_cons, ha.eval hv, evps_map ha l us hus]
    · cases h

section
variable {P : Program} {n : Nat} {σ : Env} {w : World} {d : Option Tmp} {ty : TypeId} {pos : String} {af : Array Edge} {g : Option (Nat × Bool)}
theorem R_move {x : Operand} {v : Value} (h : ev σ x = some v) : Runs P n σ w ⟨d, .move x, ty, pos, af, g⟩ v := fun a ha w' _ => by simp [execOp, ha.eval h]
theorem R_assign {x : Operand} {v : Value} (h : ev σ x = some v) : Runs P n σ w ⟨d, .assign x, ty, pos, af, g⟩ v := fun a ha w' _ => by simp [execOp, ha.eval h]
theorem R_pick {c x y : Operand} {b : Bool} {u v : Value} (hc : ev σ c = some (.bool b)) (hx : ev σ x = some u) (hy : ev σ y = some v) : Runs P n σ w ⟨d, .pick c x y, ty, pos, af, g⟩ (bif b then u else v) := fun a ha w' _ => by
  cases b <;> simp [execOp, ha.eval hc, ha.eval hx, ha.eval hy, asBool]
theorem R_pickT {c x y : Operand} {u : Value} (hc : ev σ c = some (.bool true)) (hx : ev σ x = some u) : Runs P n σ w ⟨d, .pick c x y, ty, pos, af, g⟩ u := fun a ha w' _ => by
  simp [execOp, ha.eval hc, ha.eval hx, asBool]
theorem R_pickF {c x y : Operand} {u : Value} (hc : ev σ c = some (.bool false)) (hy : ev σ y = some u) : Runs P n σ w ⟨d, .pick c x y, ty, pos, af, g⟩ u := fun a ha w' _ => by
  simp [execOp, ha.eval hc, ha.eval hy, asBool]
section
variable {x y : Operand} {t u : TypeId} {k : IntKind} {p q : Int}
theorem R_add (hx : ev σ x = some (.int k p)) (hy : ev σ y = some (.int k q)) {r : Int} (hr : k.wrap (p + q) = r) : Runs P n σ w ⟨d, .binOp .add t x y u, ty, pos, af, g⟩ (.int k r) := fun a ha w' _ => by
  subst hr; simp [execOp, ha.eval hx, ha.eval hy, eqGuard, binOp, Op.intArith]
theorem R_sub (hx : ev σ x = some (.int k p)) (hy : ev σ y = some (.int k q)) {r : Int} (hr : k.wrap (p - q) = r) : Runs P n σ w ⟨d, .binOp .sub t x y u, ty, pos, af, g⟩ (.int k r) := fun a ha w' _ => by
  subst hr; simp [execOp, ha.eval hx, ha.eval hy, eqGuard, binOp, Op.intArith]
theorem R_mul (hx : ev σ x = some (.int k p)) (hy : ev σ y = some (.int k q)) {r : Int} (hr : k.wrap (p * q) = r) : Runs P n σ w ⟨d, .binOp .mul t x y u, ty, pos, af, g⟩ (.int k r) := fun a ha w' _ => by
  subst hr; simp [execOp, ha.eval hx, ha.eval hy, eqGuard, binOp, Op.intArith]
theorem R_quo (hx : ev σ x = some (.int k p)) (hy : ev σ y = some (.int k q)) (hq : q ≠ 0) {r : Int} (hr : k.wrap (p.tdiv q) = r) : Runs P n σ w ⟨d, .binOp .quo t x y u, ty, pos, af, g⟩ (.int k r) := fun a ha w' _ => by
  subst hr; simp [execOp, ha.eval hx, ha.eval hy, eqGuard, binOp, Op.intDiv, hq]
theorem R_rem (hx : ev σ x = some (.int k p)) (hy : ev σ y = some (.int k q)) (hq : q ≠ 0) {r : Int} (hr : p.tmod q = r) : Runs P n σ w ⟨d, .binOp .rem t x y u, ty, pos, af, g⟩ (.int k r) := fun a ha w' _ => by
  subst hr; simp [execOp, ha.eval hx, ha.eval hy, eqGuard, binOp, Op.intDiv, hq]
theorem R_lss (hx : ev σ x = some (.int k p)) (hy : ev σ y = some (.int k q)) : Runs P n σ w ⟨d, .binOp .lss t x y u, ty, pos, af, g⟩ (.bool (decide (p < q))) := fun a ha w' _ => by
  simp [execOp, ha.eval hx, ha.eval hy, eqGuard, binOp, Op.intCmp]
theorem R_leq (hx : ev σ x = some (.int k p)) (hy : ev σ y = some (.int k q)) : Runs P n σ w ⟨d, .binOp .leq t x y u, ty, pos, af, g⟩ (.bool (decide (p ≤ q))) := fun a ha w' _ => by
  simp [execOp, ha.eval hx, ha.eval hy, eqGuard, binOp, Op.intCmp]
theorem R_gtr (hx : ev σ x = some (.int k p)) (hy : ev σ y = some (.int k q)) : Runs P n σ w ⟨d, .binOp .gtr t x y u, ty, pos, af, g⟩ (.bool (decide (q < p))) := fun a ha w' _ => by
  simp [execOp, ha.eval hx, ha.eval hy, eqGuard, binOp, Op.intCmp]
theorem R_geq (hx : ev σ x = some (.int k p)) (hy : ev σ y = some (.int k q)) : Runs P n σ w ⟨d, .binOp .geq t x y u, ty, pos, af, g⟩ (.bool (decide (q ≤ p))) := fun a ha w' _ => by
  simp [execOp, ha.eval hx, ha.eval hy, eqGuard, binOp, Op.intCmp]
theorem R_eql (hx : ev σ x = some (.int k p)) (hy : ev σ y = some (.int k q)) : Runs P n σ w ⟨d, .binOp .eql t x y u, ty, pos, af, g⟩ (.bool (p == q)) := fun a ha w' _ => by
  simp [execOp, ha.eval hx, ha.eval hy, eqGuard, binOp, Op.intCmp]
theorem R_neq (hx : ev σ x = some (.int k p)) (hy : ev σ y = some (.int k q)) : Runs P n σ w ⟨d, .binOp .neq t x y u, ty, pos, af, g⟩ (.bool (p != q)) := fun a ha w' _ => by
  simp [execOp, ha.eval hx, ha.eval hy, eqGuard, binOp, Op.intCmp]
theorem run_eqB (P : Program) {t : TypeId} {a b : Bool} (ht : P.underlying t = some .bool) (w : World) : (Op.equal t (.bool a) (.bool b)).run P w = .ok (a == b) w := run_equalIn_bool' (P := P) w 9999 t a b ht
theorem R_eqlB {a b : Bool} (ht : P.underlying t = some .bool) (hx : ev σ x = some (.bool a)) (hy : ev σ y = some (.bool b)) : Runs P n σ w ⟨d, .binOp .eql t x y u, ty, pos, af, g⟩ (.bool (a == b)) := fun ac ha w' _ => by
  have h : (binOp .eql t (.bool a) (.bool b)).run P w' = .ok (.bool (a == b)) w' := by
    show (do pure (Value.bool (← Op.equal t (.bool a) (.bool b))) : Sem Value).run P w' = _
    simp only [Sem.run_bind, run_eqB P ht, Result.andThen_ok, Sem.run_pure]
  simp only [execOp, ha.eval hx, ha.eval hy, Sem.run_bind, eqGuard_at_bool, Sem.run_pure, Result.andThen_ok, h]
theorem R_neqB {a b : Bool} (ht : P.underlying t = some .bool) (hx : ev σ x = some (.bool a)) (hy : ev σ y = some (.bool b)) : Runs P n σ w ⟨d, .binOp .neq t x y u, ty, pos, af, g⟩ (.bool (!(a == b))) := fun ac ha w' _ => by
  have h : (binOp .neq t (.bool a) (.bool b)).run P w' = .ok (.bool (!(a == b))) w' := by
    show (do pure (Value.bool (!(← Op.equal t (.bool a) (.bool b)))) : Sem Value).run P w' = _
    simp only [Sem.run_bind, run_eqB P ht, Result.andThen_ok, Sem.run_pure]
  simp only [execOp, ha.eval hx, ha.eval hy, Sem.run_bind, eqGuard_at_bool, Sem.run_pure, Result.andThen_ok, h]
/-- Equality of structs, by the one equation on it. -/
theorem R_eqlS {xs ys : Array Value} {b : Bool} (heq : ∀ w, (binOp .eql t (.agg xs) (.agg ys)).run P w = .ok (.bool b) w) (hg : P.eqGuardType P.depth t = false) (hx : ev σ x = some (.agg xs)) (hy : ev σ y = some (.agg ys)) :
    Runs P n σ w ⟨d, .binOp .eql t x y u, ty, pos, af, g⟩ (.bool b) := fun ac ha w' _ => by
  simp [execOp, ha.eval hx, ha.eval hy, run_eqGuard_agg w' .eql t x y xs ys hg, heq w']
theorem R_neqS {xs ys : Array Value} {b : Bool} (heq : ∀ w, (binOp .neq t (.agg xs) (.agg ys)).run P w = .ok (.bool b) w) (hg : P.eqGuardType P.depth t = false) (hx : ev σ x = some (.agg xs)) (hy : ev σ y = some (.agg ys)) :
    Runs P n σ w ⟨d, .binOp .neq t x y u, ty, pos, af, g⟩ (.bool b) := fun ac ha w' _ => by
  simp [execOp, ha.eval hx, ha.eval hy, run_eqGuard_agg w' .neq t x y xs ys hg, heq w']
theorem R_not {b : Bool} (hx : ev σ x = some (.bool b)) : Runs P n σ w ⟨d, .unOp .not t x, ty, pos, af, g⟩ (.bool !b) := fun a ha w' _ => by
  simp [execOp, ha.eval hx, Op.unary]
theorem R_neg (hx : ev σ x = some (.int k p)) : Runs P n σ w ⟨d, .unOp .neg t x, ty, pos, af, g⟩ (.int k (k.wrap (0 - p))) := fun a ha w' _ => by
  simp [execOp, ha.eval hx, Op.unary, Op.intArith]
theorem R_conv {k' : IntKind} (ht : P.underlying t = some (.int k)) (hu : P.underlying u = some (.int k')) (hx : ev σ x = some (.int k p)) : Runs P n σ w ⟨d, .convert t u x, ty, pos, af, g⟩ (.int k' (k'.wrap p)) := fun a ha w' _ => by
  simp [execOp, ha.eval hx, convert, run_underlying ht, run_underlying hu, Conv.intToInt]
theorem R_nilCheck {ad : Addr} (hx : ev σ x = some (.pointer (some ad))) : Runs P n σ w ⟨d, .nilCheck x, ty, pos, af, g⟩ (.pointer (some ad)) := fun a ha w' _ => by
  simp [execOp, ha.eval hx]
theorem R_extract {vs : List Value} {i : Nat} {v : Value} (hx : ev σ x = some (.tuple vs.toArray)) (hi : vs[i]? = some v) : Runs P n σ w ⟨d, .extract x i, ty, pos, af, g⟩ v := fun a ha w' _ => by
  simp [execOp, ha.eval hx, Instr.extract, hi]
theorem R_len {v : Value} {m : Nat} {e : TypeId} (ht : P.underlying t = some (.slice e)) (hx : ev σ x = some v) (h : SlLen v m) : Runs P n σ w ⟨d, .call { callee := .builtin .len, args := #[x], argTypes := #[t] }, ty, pos, af, g⟩ (.int .i64 m) := fun a ha w' _ => by
  obtain ⟨b, c, rfl⟩ := h
  simp [execOp, resolve, invoke, builtin, Builtin.len_, ha.eval hx, run_underlying ht, goInt]
theorem R_min (hx : ev σ x = some (.int k p)) (hy : ev σ y = some (.int k q)) {ts : Array TypeId} : Runs P n σ w ⟨d, .call { callee := .builtin .min, args := #[x, y], argTypes := ts }, ty, pos, af, g⟩ (.int k (if q < p then q else p)) := fun a ha w' _ => by
  simp [execOp, resolve, invoke, builtin, Builtin.min_, Builtin.min2, ha.eval hx, ha.eval hy]
theorem R_max (hx : ev σ x = some (.int k p)) (hy : ev σ y = some (.int k q)) {ts : Array TypeId} : Runs P n σ w ⟨d, .call { callee := .builtin .max, args := #[x, y], argTypes := ts }, ty, pos, af, g⟩ (.int k (if q > p then q else p)) := fun a ha w' _ => by
  simp [execOp, resolve, invoke, builtin, Builtin.max_, Builtin.max2, ha.eval hx, ha.eval hy]
theorem R_makeFunc {fn : Fn} {first captured : List Operand} {fs cs : List Value} (h1 : evs σ first = some fs) (h2 : evs σ captured = some cs) : Runs P n σ w ⟨d, .makeFunc fn first.toArray captured.toArray, ty, pos, af, g⟩ (.func fn fs.toArray cs.toArray) := fun a ha w' _ => by
  simp [execOp, Instr.makeFunc, evs_map ha _ _ h1, evs_map ha _ _ h2]
end
section
variable {x : Operand} {b off : Nat} {t : TypeId}
theorem R_fieldAddr {s f fo : Nat} (hf : FldT P s f fo) (hx : ev σ x = some (.pointer (some ⟨b, off, none⟩))) : Runs P n σ w ⟨d, .fieldAddr s x f, ty, pos, af, g⟩ (.pointer (some ⟨b, off + fo, none⟩)) := fun a ha w' _ => by
  simp [execOp, ha.eval hx, hf b off w']
/-- A field of a block of the call's own. -/
theorem R_fieldAddr0 {s f fo : Nat} (hf : FldT P s f fo) (hx : ev σ x = some (.pointer (some ⟨b, 0, none⟩))) : Runs P n σ w ⟨d, .fieldAddr s x f, ty, pos, af, g⟩ (.pointer (some ⟨b, fo, none⟩)) := fun a ha w' _ => by
  simp [execOp, ha.eval hx, hf b 0 w']
theorem R_load {v : Value} {z : Value} (hT : ScT P t z) (hx : ev σ x = some (.pointer (some ⟨b, off, none⟩))) (h : At w b off [v]) : Runs P n σ w ⟨d, .load t x, ty, pos, af, g⟩ v := fun a ha w' e => by
  simp [execOp, ha.eval hx, Instr.loadAt, Instr.sureAddr, run_loadVar_sc hT (h.ext e)]
theorem R_loadS {vs z : List Value} {sz : Nat} (hT : StT P t sz z) (hx : ev σ x = some (.pointer (some ⟨b, off, none⟩))) (h : At w b off vs) (hl : vs.length = sz) : Runs P n σ w ⟨d, .load t x, ty, pos, af, g⟩ (.agg vs.toArray) := fun a ha w' e => by
  simp [execOp, ha.eval hx, Instr.loadAt, Instr.sureAddr, run_loadVar_st hT (h.ext e) hl]
theorem R_index {α : Type} {y : Operand} {e sz bytes i : Nat} {z : List Value} {R : List Value → α → Prop} {v : Value} {xs : List α} (hT : SlT P t e sz bytes z) (hx : ev σ x = some v) (hy : ev σ y = some (.int .i64 i)) (h : RdL w sz R v xs) (hi : i < xs.length) :
    Runs P n σ w ⟨d, .indexAddr t x y, ty, pos, af, g⟩ (.pointer (some ⟨sblk v, soff v + i * sz, none⟩)) := fun a ha w' _ => by
  obtain ⟨hm, ⟨rfl, rfl⟩ | ⟨b, off, sp, cap, css, rfl, hcap, hsp, hc, hal⟩⟩ := h
  · simp at hi
  · obtain rfl := hsp (fun e => by subst e; simp at hi)
    obtain ⟨ti, zv, hinf, hs, _⟩ := hT.info
    simp [execOp, ha.eval hx, ha.eval hy, Instr.indexAt, asIntOf, run_underlying hT.und, sizeOf, typeInfo, hinf, hs, hi, sblk, soff, Addr.add_lit]
end
end

/-! ### the rules -/
section
variable {P : Program} {ops : Array Oper} {D : Bool} {n : Nat} {K : Act → World → Prop} {l : List (Bool × Oper)} {σ : Env} {w : World} {d : Option Tmp} {op : Op} {ty : TypeId} {pos : String} {af : Array Edge}
theorem J_done {Q : Exit → Act → World → Prop} {cs : List Code} (h : S P n Q cs σ w) : J P ops D n (CK P Q cs) [] σ w := h
theorem J_nil (h : ∀ a, Fits n σ a → K a w) : J P ops D n K [] σ w := h
theorem J_sub (σ' : Env) (h : Sub σ' σ) (hs : J P ops D n K l σ' w) : J P ops D n K l σ w := fun a ha => hs a (ha.sub h)
theorem J_st {v : Value} (hr : Runs P n σ w ⟨d, op, ty, pos, af, none⟩ v) (hd : dok n d = true) (h : J P ops D n K l (put σ d v) w) : J P ops D n K ((true, ⟨d, op, ty, pos, af, none⟩) :: l) σ w := fun a ha =>
  ⟨v, .inl ⟨rfl, hr a ha⟩, h _ (ha.put hd v)⟩
/-- A guarded operation whose guard says yes; .. no. -/
theorem J_gd {v : Value} {j gd : Nat} {b : Bool} (hj : (ops[j]?).bind (·.dst) = some gd) (hb : look σ gd = some (.bool b)) (hr : Runs P n σ w ⟨d, op, ty, pos, af, some (j, b)⟩ v) (hd : dok n d = true) (h : J P ops D n K l (put σ d v) w) :
    J P ops D n K ((true, ⟨d, op, ty, pos, af, some (j, b)⟩) :: l) σ w := fun a ha => by
  refine ⟨v, .inl ⟨?_, hr a ha⟩, h _ (ha.put hd v)⟩
  have := ha.get gd _ hb
  obtain ⟨o, ho, hdst⟩ := Option.bind_eq_some_iff.1 hj
  simp [Region.wanted, yielded, ho, hdst, this]
theorem J_gdno {j gd : Nat} {b b' : Bool} (hj : (ops[j]?).bind (·.dst) = some gd) (hb : look σ gd = some (.bool b')) (hne : (b' == b) = false) (hd : dok n d = true) (h : J P ops D n K l (put σ d undef) w) :
    J P ops D n K ((true, ⟨d, op, ty, pos, af, some (j, b)⟩) :: l) σ w := fun a ha => by
  refine ⟨undef, .inr ⟨?_, rfl⟩, h _ (ha.put hd _)⟩
  have := ha.get gd _ hb
  obtain ⟨o, ho, hdst⟩ := Option.bind_eq_some_iff.1 hj
  have hne' : b' ≠ b := by simpa using hne
  simp [Region.wanted, yielded, ho, hdst, this, hne']
/-- An operation that does more than yield. -/
theorem J_un {o : Oper} (hg : o.guard = none) (h : ∀ a, Fits n σ a → o.wp P a w (fun a' w' => (D = true → Ext w w') ∧ wpE P ops D K l a' w') NoQ) : J P ops D n K ((false, o) :: l) σ w := fun a ha => by
  show (if _ then _ else _)
  rw [if_pos (by simp [Region.wanted, hg])]
  exact wp_mono2 (fun _ _ h => ⟨fun hd _ => h.1 hd, h.2⟩) (fun _ _ _ h => h) (h a ha)
/-- A store. -/
theorem J_unS {o : Oper} (hg : o.guard = none) (hs : isSt o = true) (h : ∀ a, Fits n σ a → o.wp P a w (fun a' w' => wpE P ops D K l a' w') NoQ) : J P ops D n K ((false, o) :: l) σ w := fun a ha => by
  show (if _ then _ else _)
  rw [if_pos (by simp [Region.wanted, hg])]
  exact wp_mono2 (fun _ _ h => ⟨fun _ hq => (by rw [hs] at hq; cases hq), h⟩) (fun _ _ _ h => h) (h a ha)
theorem J_callM {f : FuncId} {args : List Operand} {ats : Array TypeId} {vs : List Value} {x : Option Nat} {R : Value → World → Prop} (hf : ∀ args w, (callFunc f args).run P w = .ok (.enter f args) w) (hD : D = true → x = none) (hv : evs σ args = some vs)
    (hc : CtM P f vs w x R) (hd : dok n d = true) (h : ∀ v w', Mod w w' x → R v w' → J P ops D n K l (put σ d v) w') :
    J P ops D n K ((false, ⟨d, .call { callee := .value (.func f), args := args.toArray, argTypes := ats }, ty, pos, af, none⟩) :: l) σ w := J_un rfl fun a ha => by
  have hm := evs_map ha args vs hv
  have hx : (execOp a.eval ⟨d, .call { callee := .value (.func f), args := args.toArray, argTypes := ats }, ty, pos, af, none⟩).run P w = .ok (.enter f vs.toArray) w := by
    simp [execOp, resolve, Deferred.ofValue, Act.eval, invoke, hm, hf]
  unfold Oper.wp
  rw [hx]
  show Calls P f vs.toArray w _
  refine Calls.mono hc fun e w' ⟨v, he, hm, hR⟩ => ?_
  subst he
  exact ⟨fun hDt => by have := hD hDt; subst this; exact hm, h v w' hm hR _ (ha.put hd v)⟩
theorem J_callR {f : FuncId} {args : List Operand} {ats : Array TypeId} {vs : List Value} {lo hi : Nat} {R : Value → World → Prop} (hf : ∀ args w, (callFunc f args).run P w = .ok (.enter f args) w) (hD : D = false) (hv : evs σ args = some vs)
    (hc : CtR P f vs w lo hi R) (hd : dok n d = true) (h : ∀ v w', ModR w w' lo hi → R v w' → J P ops D n K l (put σ d v) w') :
    J P ops D n K ((false, ⟨d, .call { callee := .value (.func f), args := args.toArray, argTypes := ats }, ty, pos, af, none⟩) :: l) σ w := J_un rfl fun a ha => by
  have hm := evs_map ha args vs hv
  have hx : (execOp a.eval ⟨d, .call { callee := .value (.func f), args := args.toArray, argTypes := ats }, ty, pos, af, none⟩).run P w = .ok (.enter f vs.toArray) w := by
    simp [execOp, resolve, Deferred.ofValue, Act.eval, invoke, hm, hf]
  unfold Oper.wp
  rw [hx]
  show Calls P f vs.toArray w _
  refine Calls.mono hc fun e w' ⟨v, he, hm, hR⟩ => ?_
  subst he
  exact ⟨fun hDt => absurd hDt (by simp [hD]), h v w' hm hR _ (ha.put hd v)⟩
theorem J_call {f : FuncId} {args : List Operand} {ats : Array TypeId} {vs : List Value} {R : Value → World → Prop} (hf : ∀ args w, (callFunc f args).run P w = .ok (.enter f args) w) (hv : evs σ args = some vs)
    (hc : Ct P f vs w R) (hd : dok n d = true) (h : ∀ v w', Ext w w' → R v w' → J P ops D n K l (put σ d v) w') :
    J P ops D n K ((false, ⟨d, .call { callee := .value (.func f), args := args.toArray, argTypes := ats }, ty, pos, af, none⟩) :: l) σ w := J_callM hf (fun _ => rfl) hv hc hd h
/-- A call through a function value. -/
theorem J_callV {f : FuncId} {y : Operand} {fs cs : List Value} {args : List Operand} {ats : Array TypeId} {vs : List Value} {R : Value → World → Prop} (hf : ∀ args w, (callFunc f args).run P w = .ok (.enter f args) w)
    (hy : ev σ y = some (.func (.func f) fs.toArray cs.toArray)) (hv : evs σ args = some vs)
    (hc : Ct P f (fs ++ vs ++ cs) w R) (hd : dok n d = true) (h : ∀ v w', Ext w w' → R v w' → J P ops D n K l (put σ d v) w') :
    J P ops D n K ((false, ⟨d, .call { callee := .value y, args := args.toArray, argTypes := ats }, ty, pos, af, none⟩) :: l) σ w := J_un rfl fun a ha => by
  have hm := evs_map ha args vs hv
  have hx : (execOp a.eval ⟨d, .call { callee := .value y, args := args.toArray, argTypes := ats }, ty, pos, af, none⟩).run P w = .ok (.enter f (fs ++ vs ++ cs).toArray) w := by
    simp [execOp, resolve, Deferred.ofValue, ha.eval hy, invoke, hm, hf]
  unfold Oper.wp
  rw [hx]
  show Calls P f (fs ++ vs ++ cs).toArray w _
  refine Calls.mono hc fun e w' ⟨v, he, hm, hR⟩ => ?_
  subst he
  exact ⟨fun _ => hm, h v w' hm hR _ (ha.put hd v)⟩
theorem wp_value {o : Oper} {a : Act} {w w' : World} {K : Act → World → Prop} {Q : Exit → Act → World → Prop} {v : Value} (hx : (execOp a.eval o).run P w = .ok (.value v) w') (h : K (a.put o.dst v) w') : o.wp P a w K Q := by
  unfold Oper.wp; rw [hx]; exact h
theorem wp_skipped {o : Oper} {a : Act} {w w' : World} {K : Act → World → Prop} {Q : Exit → Act → World → Prop} (hx : (execOp a.eval o).run P w = .ok .skip w') (h : K (a.put o.dst undef) w') : o.wp P a w K Q := by
  unfold Oper.wp; rw [hx]; exact h
theorem J_box {e : TypeId} {x : Operand} {vs : List Value} (hv : ev σ x = some (.agg vs.toArray)) (hd : dok n d = true)
    (h : ∀ b w', Ext w w' → w.heap.size = b → Blk w' b vs → J P ops D n K l (put σ d (.pointer (some ⟨b, 0, none⟩))) w') : J P ops D n K ((false, ⟨d, .box e x, ty, pos, af, none⟩) :: l) σ w := J_un rfl fun a ha => by
  refine wp_value (w' := w.alloc (.cells vs.toArray e)) (v := .pointer (some ⟨w.heap.size, 0, none⟩)) (by simp [execOp, ha.eval hv, Instr.box, newVar, newRow, Value.cells]) ?_
  exact ⟨fun _ => Ext.alloc _ _, h _ _ (Ext.alloc _ _) rfl (by simpa using Blk.new w vs.toArray e) _ (ha.put hd _)⟩
theorem J_box1 {e : TypeId} {x : Operand} {v : Value} (h1 : v.oneCell' = true) (hv : ev σ x = some v) (hd : dok n d = true)
    (h : ∀ b w', Ext w w' → w.heap.size = b → Blk w' b [v] → J P ops D n K l (put σ d (.pointer (some ⟨b, 0, none⟩))) w') : J P ops D n K ((false, ⟨d, .box e x, ty, pos, af, none⟩) :: l) σ w := J_un rfl fun a ha => by
  refine wp_value (w' := w.alloc (.cells #[v] e)) (v := .pointer (some ⟨w.heap.size, 0, none⟩)) (by simp [execOp, ha.eval hv, Instr.box, newVar, newRow, cells_one h1]) ?_
  exact ⟨fun _ => Ext.alloc _ _, h _ _ (Ext.alloc _ _) rfl (Blk.new w #[v] e) _ (ha.put hd _)⟩
theorem J_alloc {e sz : Nat} {z : List Value} (hT : StT P e sz z) (hd : dok n d = true)
    (h : ∀ b w', Ext w w' → w.heap.size = b → Blk w' b z → J P ops D n K l (put σ d (.pointer (some ⟨b, 0, none⟩))) w') : J P ops D n K ((false, ⟨d, .alloc e, ty, pos, af, none⟩) :: l) σ w := J_un rfl fun a ha => by
  refine wp_value (w' := w.alloc (.cells z.toArray e)) (v := .pointer (some ⟨w.heap.size, 0, none⟩)) (by simp [execOp, Instr.alloc, hT.zero w, newVar, newRow, Value.cells]) ?_
  exact ⟨fun _ => Ext.alloc _ _, h _ _ (Ext.alloc _ _) rfl (by simpa using Blk.new w z.toArray e) _ (ha.put hd _)⟩
theorem J_alloc1 {e : Nat} {z : Value} (hT : ScT P e z) (hd : dok n d = true)
    (h : ∀ b w', Ext w w' → w.heap.size = b → Blk w' b [z] → J P ops D n K l (put σ d (.pointer (some ⟨b, 0, none⟩))) w') : J P ops D n K ((false, ⟨d, .alloc e, ty, pos, af, none⟩) :: l) σ w := J_un rfl fun a ha => by
  refine wp_value (w' := w.alloc (.cells #[z] e)) (v := .pointer (some ⟨w.heap.size, 0, none⟩)) (by simp [execOp, Instr.alloc, hT.zero w, newVar, newRow, cells_one hT.one]) ?_
  exact ⟨fun _ => Ext.alloc _ _, h _ _ (Ext.alloc _ _) rfl (Blk.new w #[z] e) _ (ha.put hd _)⟩
theorem J_store {t b off : Nat} {x y : Operand} {v z : Value} {cs : List Value} (hT : ScT P t z) (hx : ev σ x = some (.pointer (some ⟨b, off, none⟩))) (hy : ev σ y = some v) (h1 : v.oneCell' = true) (hb : Blk w b cs) (hl : off < cs.length)
    (h : ∀ w', Mod w w' (some b) → Blk w' b (cs.set off v) → J P ops D n K l σ w') : J P ops D n K ((false, ⟨none, .store t x y, ty, pos, af, none⟩) :: l) σ w := J_unS rfl rfl fun a ha => by
  obtain ⟨w', hr, hm, hb'⟩ := run_storeVar_sc hT hb hl h1
  exact wp_skipped (w' := w') (by simp [execOp, ha.eval hx, ha.eval hy, Instr.storeAt, Instr.sureAddr, hr]) (h w' hm hb' _ ha)
theorem J_storeS {t sz b off : Nat} {z : List Value} {x y : Operand} {vs cs : List Value} (hT : StT P t sz z) (hx : ev σ x = some (.pointer (some ⟨b, off, none⟩))) (hy : ev σ y = some (.agg vs.toArray)) (hs : vs.length = sz) (h1 : vs.all (·.oneCell') = true)
    (hb : Blk w b cs) (hl : off + vs.length ≤ cs.length)
    (h : ∀ w', Mod w w' (some b) → Blk w' b (spl cs off vs) → J P ops D n K l σ w') : J P ops D n K ((false, ⟨none, .store t x y, ty, pos, af, none⟩) :: l) σ w := J_unS rfl rfl fun a ha => by
  obtain ⟨w', hr, hm, hb'⟩ := run_storeVar_st hT hb hs hl h1
  exact wp_skipped (w' := w') (by simp [execOp, ha.eval hx, ha.eval hy, Instr.storeAt, Instr.sureAddr, hr]) (h w' hm hb' _ ha)
theorem run_mk {t e sz bytes : Nat} {z : List Value} {x y : Operand} {m : Nat} {a : Act} (hT : SlT P t e sz bytes z) (hx : a.eval x = .int .i64 m) (hy : a.eval y = .int .i64 m) (hm : m * bytes ≤ 2 ^ 47) (hb : 0 < bytes) {g : Option (Nat × Bool)} :
    ∃ w', (execOp a.eval ⟨d, .makeSlice t x y, ty, pos, af, g⟩).run P w = .ok (.value (.slice (some ⟨w.heap.size, 0, none⟩) m m)) w' ∧ Ext w w' ∧ Blk w' w.heap.size (List.replicate m z).flatten := by
  obtain ⟨ti, zv, hinf, hs, hby, hz, hzc⟩ := hT.info
  have hmb : m ≤ 140737488355328 := Nat.le_trans (Nat.le_mul_of_pos_right m hb) hm
  have h47 : ((m * bytes : Nat) : Int) ≤ 140737488355328 := Int.ofNat_le.2 hm
  have hr := run_make (P := P) w t e ti zv hT.und hinf hz .i64 .i64 m m (by omega) (by omega) (by rw [hby, Int.mul_comm, ← Int.natCast_mul]; omega) (by omega)
  simp only [Int.toNat_natCast] at hr
  refine ⟨w.alloc (.cells (madeCells zv.cells (m * ti.size)) e), by simp only [execOp, hx, hy, Sem.run_bind, hr, Result.andThen_ok, Sem.run_pure], Ext.alloc _ _, ?_⟩
  have := Blk.new w (madeCells zv.cells (m * ti.size)) e
  suffices hc : (madeCells zv.cells (m * ti.size)).toList = (List.replicate m z).flatten by rw [← hc]; exact this
  rw [hzc, hs]
  apply List.ext_getElem?
  intro j
  have hzl := hT.zlen
  have hpos := hT.pos
  have hfl : ∀ (m j : Nat), (List.replicate m z).flatten[j]? = if j < m * sz then z[j % sz]? else none := by
    intro m
    induction m with
    | zero => intro j; simp
    | succ m ih =>
      intro j
      have e1 : (m + 1) * sz = m * sz + sz := by rw [Nat.add_mul, Nat.one_mul]
      simp only [List.replicate_succ, List.flatten_cons, List.getElem?_append, hzl, ih, e1]
      generalize m * sz = q
      by_cases h1 : j < sz
      · rw [if_pos h1, if_pos (by omega), Nat.mod_eq_of_lt h1]
      · rw [if_neg h1]
        by_cases h2 : j - sz < q
        · rw [if_pos h2, if_pos (by omega)]
          rw [← Nat.mod_eq_sub_mod (by omega)]
        · rw [if_neg h2, if_neg (by omega)]
  rw [hfl]
  by_cases hj : j < m * sz
  · rw [if_pos hj]
    have hlt : j % z.length < z.length := Nat.mod_lt _ (by omega)
    have hj' : j < m * z.length := by rw [hzl]; exact hj
    simp only [← hzl, madeCells]
    simp [hj', hlt]
  · rw [if_neg hj]
    simp [madeCells, hj]
theorem J_make {t e sz bytes : Nat} {z : List Value} {x y : Operand} {m : Nat} (hT : SlT P t e sz bytes z) (hx : ev σ x = some (.int .i64 m)) (hy : ev σ y = some (.int .i64 m)) (hm : m * bytes ≤ 2 ^ 47) (hb : 0 < bytes) (hd : dok n d = true)
    (h : ∀ b w', Ext w w' → w.heap.size = b → Blk w' b (List.replicate m z).flatten → J P ops D n K l (put σ d (.slice (some ⟨b, 0, none⟩) m m)) w') : J P ops D n K ((false, ⟨d, .makeSlice t x y, ty, pos, af, none⟩) :: l) σ w := J_un rfl fun a ha => by
  obtain ⟨w', hr, hX, hB⟩ := run_mk (a := a) (w := w) (d := d) (ty := ty) (pos := pos) (af := af) (g := none) hT (ha.eval hx) (ha.eval hy) hm hb
  exact wp_value hr ⟨fun _ => hX, h _ _ hX rfl hB _ (ha.put hd _)⟩
end
end Go.Proofs.YtpkimhbibjpcpaaDoor.X

namespace Go.Proofs.YtpkimhbibjpcpaaDoor.X
open Go
open Enc (enc)

/-! ### arithmetic of counters -/
theorem wrap_in {z : Int} (h0 : -9223372036854775808 ≤ z) (h1 : z ≤ 9223372036854775807) : IntKind.i64.wrap z = z := by rw [IntKind.wrap_i64]; omega
theorem add_one {k m : Nat} (h : k < m) (hm : m ≤ maxLen) : IntKind.i64.wrap ((k : Int) + 1) = ((k + 1 : Nat) : Int) := by
  unfold maxLen at hm
  rw [wrap_in (by omega) (by omega)]; rfl

theorem sub_one {m : Nat} (hm : m + 1 ≤ maxLen) : IntKind.i64.wrap (((m + 1 : Nat) : Int) - 1) = ((m : Nat) : Int) := by
  unfold maxLen at hm
  rw [wrap_in (by omega) (by omega)]; omega
/-! ### several operations as one -/
section
variable {P : Program} {ops : Array Oper} {D : Bool}
theorem wpE_mono {K K' : Act → World → Prop} (h : ∀ a w, K a w → K' a w) : ∀ (l : List (Bool × Oper)) (a : Act) (w : World), wpE P ops D K l a w → wpE P ops D K' l a w
  | [], a, w, hh => h a w hh
  | (true, o) :: l, a, w, ⟨v, hy, hh⟩ => ⟨v, hy, wpE_mono h l _ _ hh⟩
  | (false, o) :: l, a, w, hh => by
    unfold wpE at hh ⊢
    split at hh
    · rename_i hw
      rw [if_pos hw]
      exact wp_mono2 (fun a w h' => ⟨h'.1, wpE_mono h l a w h'.2⟩) (fun _ _ _ h => h) hh
    · rename_i hw
      rw [if_neg hw]
      exact wpE_mono h l _ _ hh
theorem wpE_append {K : Act → World → Prop} : ∀ (l l' : List (Bool × Oper)) (a : Act) (w : World), wpE P ops D (wpE P ops D K l') l a w → wpE P ops D K (l ++ l') a w
  | [], l', a, w, hh => hh
  | (true, o) :: l, l', a, w, ⟨v, hy, hh⟩ => ⟨v, hy, wpE_append l l' _ _ hh⟩
  | (false, o) :: l, l', a, w, hh => by
    show wpE P ops D K ((false, o) :: (l ++ l')) a w
    unfold wpE at hh ⊢
    split at hh
    · rename_i hw
      rw [if_pos hw]
      exact wp_mono2 (fun a w h' => ⟨h'.1, wpE_append l l' a w h'.2⟩) (fun _ _ _ h => h) hh
    · rename_i hw
      rw [if_neg hw]
      exact wpE_append l l' _ _ hh
variable {n : Nat} {K : Act → World → Prop} {l : List (Bool × Oper)} {σ : Env} {w : World}
/-- The first 'm' operations by themselves: what they leave. -/
theorem J_cut (m : Nat) (σ' : Env) (Φ : World → Prop) (h1 : J P ops D n (fun a w' => Fits n σ' a ∧ Φ w') (l.take m) σ w) (h2 : ∀ w', Φ w' → J P ops D n K (l.drop m) σ' w') : J P ops D n K l σ w := fun a ha => by
  rw [← List.take_append_drop m l]
  exact wpE_append _ _ _ _ (wpE_mono (fun a w' ⟨hf, hp⟩ => h2 w' hp a hf) _ _ _ (h1 a ha))
theorem J_cutEnd {σ' : Env} {Φ : World → Prop} (hs : Sub σ' σ) (hp : Φ w) : J P ops D n (fun a w' => Fits n σ' a ∧ Φ w') [] σ w := fun _ ha => ⟨ha.sub hs, hp⟩
theorem J_if {gd : Nat} {b : Bool} (hb : look σ gd = some (.bool b)) (hd : Nat.blt gd n = true) (ht : b = true → J P ops D n K l ((gd, .bool true) :: σ) w) (hf : b = false → J P ops D n K l ((gd, .bool false) :: σ) w) : J P ops D n K l σ w := fun a ha => by
  have key : ∀ c, b = c → Fits n ((gd, .bool c) :: σ) a := fun c hc => by
    subst hc
    refine ⟨ha.size, ha.dfr, fun i v hi => ?_⟩
    simp only [look] at hi
    cases hq : Nat.beq i gd with
    | true =>
      have : i = gd := Nat.eq_of_beq_eq_true hq
      subst this
      simp only [hq, cond_true, Option.some.injEq] at hi
      subst hi
      exact ha.get i _ hb
    | false =>
      simp only [hq, cond_false] at hi
      exact ha.get i v hi
  cases hc : b with
  | true => exact ht hc a (key true hc)
  | false => exact hf hc a (key false hc)
/-- A guard that says yes, at an operation that does more than yield. -/
theorem J_ung {d : Option Tmp} {op : Op} {ty : TypeId} {pos : String} {af : Array Edge} {j gd : Nat} {b : Bool} (hj : (ops[j]?).bind (·.dst) = some gd) (hb : look σ gd = some (.bool b))
    (h : J P ops D n K ((false, ⟨d, op, ty, pos, af, none⟩) :: l) σ w) : J P ops D n K ((false, ⟨d, op, ty, pos, af, some (j, b)⟩) :: l) σ w := fun a ha => by
  have h' := h a ha
  have := ha.get gd _ hb
  obtain ⟨o, ho, hdst⟩ := Option.bind_eq_some_iff.1 hj
  have hw : Region.wanted ⟨d, op, ty, pos, af, some (j, b)⟩ (yielded ops a.tmps) = true := by simp [Region.wanted, yielded, ho, hdst, this]
  unfold wpE at h' ⊢
  rw [if_pos hw]
  rw [if_pos (by simp [Region.wanted])] at h'
  exact h'
theorem J_ungno {d : Option Tmp} {op : Op} {ty : TypeId} {pos : String} {af : Array Edge} {j gd : Nat} {b b' : Bool} (hj : (ops[j]?).bind (·.dst) = some gd) (hb : look σ gd = some (.bool b')) (hne : (b' == b) = false) (hd : dok n d = true)
    (h : J P ops D n K l (put σ d undef) w) : J P ops D n K ((false, ⟨d, op, ty, pos, af, some (j, b)⟩) :: l) σ w := fun a ha => by
  have := ha.get gd _ hb
  obtain ⟨o, ho, hdst⟩ := Option.bind_eq_some_iff.1 hj
  have hne' : b' ≠ b := by simpa using hne
  have hw : Region.wanted ⟨d, op, ty, pos, af, some (j, b)⟩ (yielded ops a.tmps) = false := by simp [Region.wanted, yielded, ho, hdst, this, hne']
  unfold wpE
  rw [if_neg (by simp [hw])]
  exact h _ (ha.put hd _)
end

/-! ### literals -/
theorem fill_step (sz k : Nat) (cells : Array Value) (vs : List Value) (rest : List (Nat × Value)) (v : Value) (hv : v.cells.toList = vs) (hl : vs.length = sz) (hc : k * sz + sz ≤ cells.size) :
    Instr.fill (fun i => some (i * sz, sz)) cells ((k, v) :: rest) = Instr.fill (fun i => some (i * sz, sz)) (spl cells.toList (k * sz) vs).toArray rest := by
  have hsz : v.cells.size = sz := by rw [← hl, ← hv]; simp
  show (if _ then _ else _) = _
  rw [if_neg (by simp [hsz]; omega)]
  congr 1
  have key : ∀ (us : List Value) (j : Nat) (cs : Array Value), (us.zipIdx j).foldl (fun cs (p : Value × Nat) => cs.setIfInBounds (k * sz + p.2) p.1) cs = (spl cs.toList (k * sz + j) us).toArray := by
    intro us
    induction us with
    | nil => intro j cs; simp [spl]
    | cons u us ih =>
      intro j cs
      simp only [List.zipIdx_cons, List.foldl_cons, ih, spl]
      congr 1
      simp [Nat.add_assoc]
  have := key v.cells.toList 0 cells
  simp only [Nat.add_zero] at this
  rw [← hv]
  rw [← this]
  rw [← Array.foldl_toList]
  simp
/-- Numbered from 'k' on. -/
def numb : Nat → List Value → List (Nat × Value)
  | _, [] => []
  | k, v :: vs => (k, v) :: numb (k + 1) vs
theorem fill_numb (sz : Nat) : ∀ (vs : List Value) (css : List (List Value)) (k : Nat) (cells : Array Value), All2 (fun v cs => v.cells.toList = cs ∧ cs.length = sz) vs css → cells.size = (k + vs.length) * sz →
    Instr.fill (fun i => some (i * sz, sz)) cells (numb k vs) = some (cells.toList.take (k * sz) ++ css.flatten).toArray
  | [], [], k, cells, _, hc => by
    simp only [numb, Instr.fill, List.flatten_nil, List.append_nil, Option.some.injEq]
    rw [List.take_of_length_le (by simp at hc ⊢; omega)]
  | [], _ :: _, _, _, h, _ => h.elim
  | _ :: _, [], _, _, h, _ => h.elim
  | v :: vs, cs :: css, k, cells, h, hc => by
    have e1 : (k + (v :: vs).length) * sz = k * sz + sz + vs.length * sz := by simp only [List.length_cons, Nat.add_mul, Nat.one_mul]; omega
    have e2 : (k + 1 + vs.length) * sz = k * sz + sz + vs.length * sz := by simp only [Nat.add_mul, Nat.one_mul]
    rw [numb, fill_step sz k cells cs _ v h.1.1 h.1.2 (by omega)]
    rw [fill_numb sz vs css (k + 1) _ h.2 (by simp only [List.size_toArray, spl_length, Array.length_toList]; omega)]
    simp only [List.flatten_cons, Option.some.injEq]
    congr 1
    rw [spl_eq _ _ _ (by rw [h.1.2]; simp; omega)]
    rw [Nat.add_mul, Nat.one_mul]
    have hl1 : (List.take (k * sz) cells.toList).length = k * sz := by simp; omega
    rw [List.append_assoc (List.take (k * sz) cells.toList), List.take_append, hl1, List.take_of_length_le (by rw [hl1]; omega)]
    rw [show k * sz + sz - k * sz = cs.length from by rw [h.1.2]; omega, List.take_left]
    simp
section
variable {P : Program} {ops : Array Oper} {D : Bool} {n : Nat} {K : Act → World → Prop} {l : List (Bool × Oper)} {σ : Env} {w : World} {d : Option Tmp} {ty : TypeId} {pos : String} {af : Array Edge}
theorem J_buildSlice {t e sz bytes len : Nat} {z vs : List Value} {css : List (List Value)} {parts : List (Nat × Operand)} (hT : SlT P t e sz bytes z) (hp : evps σ parts = some (numb 0 vs)) (hlen : vs.length = len) (hc : All2 (fun v cs => v.cells.toList = cs ∧ cs.length = sz) vs css)
    (hsm : Nat.ble (len * sz) 1000 = true) (hd : dok n d = true)
    (h : ∀ b w', Ext w w' → w.heap.size = b → Blk w' b css.flatten → J P ops D n K l (put σ d (.slice (some ⟨b, 0, none⟩) len len)) w') : J P ops D n K ((false, ⟨d, .buildSlice t len parts.toArray, ty, pos, af, none⟩) :: l) σ w := J_un rfl fun a ha => by
  obtain ⟨ti, zv, hinf, hs, hby, hz, hzc⟩ := hT.info
  have hm := evps_map ha parts _ hp
  have hsm' : len * sz ≤ 1000 := Nat.le_of_ble_eq_true hsm
  have hfill : ∀ zs : Array Value, zs.size = len * sz → Instr.fill (fun i => some (i * sz, sz)) zs (numb 0 vs) = some css.flatten.toArray := fun zs hzs => by
    have := fill_numb sz vs css 0 zs hc (by rw [hzs, Nat.zero_add, hlen])
    simpa using this
  refine wp_value (w' := w.alloc (.cells css.flatten.toArray e)) (v := .slice (some ⟨w.heap.size, 0, none⟩) len len) ?_ ?_
  · have hn : ¬ (16777216 < len * sz) := by omega
    by_cases h0 : len * sz = 0
    · have := hfill #[] (by rw [h0]; rfl)
      simp [execOp, Instr.buildSlice, run_underlying hT.und, sizeOf, typeInfo, hinf, hs, h0, hm, Array.range_zero', this, newRow]
    · simp [execOp, Instr.buildSlice, run_underlying hT.und, sizeOf, typeInfo, hinf, hs, hn, h0, hm, zeroValue, hz, newRow]
      rw [hfill _ (by simp)]
      simp
  · exact ⟨fun _ => Ext.alloc _ _, h _ _ (Ext.alloc _ _) rfl (by simpa using Blk.new w css.flatten.toArray e) _ (ha.put hd _)⟩
/-- What is laid behind: a slice's cells. -/
def Src (w : World) (sz : Nat) (u : Value) (ns : List Value) : Prop :=
  (u = .slice none 0 0 ∧ ns = []) ∨ ∃ a len cap, u = .slice (some a) len cap ∧ ns.length = len * sz ∧ ∀ j v, ns[j]? = some v → w.cell? (a.add j) = some v
theorem Src.ofBlk {b len sz : Nat} {cs : List Value} (h : Blk w b cs) (hl : cs.length = len * sz) : Src w sz (.slice (some ⟨b, 0, none⟩) len len) cs := .inr ⟨_, _, _, rfl, hl, fun j v hj => h.at.add j v hj⟩
theorem Own.src {lo hi sz : Nat} {v : Value} {cs : List Value} (h : Own w lo hi sz v cs) : Src w sz v cs := by
  rcases h with h | ⟨g, off, len, cap, cur, T, rfl, h1, h2, hb, h4, h5, h6, h7, h8⟩
  · exact .inl h
  · exact .inr ⟨_, _, _, rfl, h7, fun j u hu => by rw [Addr.add_lit]; simp [World.cell?, hb, h8 j u hu]⟩
theorem RdS.src {α : Type} [Enc α] {v : Value} {xs : List α} (h : RdS w v xs) : Src w (Enc.sz α) v (xs.flatMap enc) := by
  obtain ⟨_, ⟨rfl, rfl⟩ | ⟨b, off, sp, cap, css, rfl, hcap, hsp, hc, ha⟩⟩ := h
  · exact .inl ⟨rfl, rfl⟩
  · refine .inr ⟨_, _, _, rfl, sum_flat xs, fun j u hu => ?_⟩
    have hj : j < xs.length * Enc.sz α := by rw [← sum_flat]; exact (List.getElem?_eq_some_iff.1 hu).1
    have hs : 0 < Enc.sz α := by
      rcases Nat.eq_zero_or_pos (Enc.sz α) with h0 | h0
      · rw [h0] at hj; omega
      · exact h0
    have h1 : j / Enc.sz α < xs.length := Nat.div_lt_of_lt_mul (by rw [Nat.mul_comm]; exact hj)
    have h2 : j = j / Enc.sz α * Enc.sz α + j % Enc.sz α := by rw [Nat.mul_comm]; exact (Nat.div_add_mod j _).symm
    have h3 := Nat.mod_lt j hs
    have hl := ha.length
    have hr := ha.get (j / Enc.sz α) (by omega) h1
    have hat := (hc (j / Enc.sz α) _ (List.getElem?_eq_getElem (by omega))).2
    rw [h2, flat_get xs _ _ h1 h3] at hu
    obtain rfl := hsp (fun e => by subst e; simp at h1)
    rw [h2, Addr.add_lit]
    rw [hr] at hat
    have := hat.cell hu
    rwa [Nat.add_assoc] at this
/-- A slice that 'v' has become: in its block, or in a new one. -/
def Become (w : World) (v v' : Value) : Prop := ∀ g, v'.ownBlock = some g → v.ownBlock = some g ∨ w.heap.size ≤ g
theorem run_append' {sz bytes lo hi t e : Nat} {z : List Value} (hT : SlT P t e sz bytes z) (ty : TypeId) {v u : Value} {cs ns : List Value} (hown : Own w lo hi sz v cs) (hu : Src w sz u ns) (h1 : ns.all (·.oneCell') = true)
    (hbound : (cs.length + ns.length) * bytes ≤ 140737488355328) (hby0 : 0 < bytes) (hlo : lo ≤ w.heap.size) (hhi : hi ≤ w.heap.size) :
    ∃ v' w', (Builtin.append_ #[t, t] ty #[v, u]).run P w = .ok v' w' ∧ Own w' lo w'.heap.size sz v' (cs ++ ns) ∧ Mod w w' v.ownBlock ∧ Become w v v' ∧ (∀ a k, v = .slice a k 0 → Ext w w') := by
  obtain ⟨i, zv, hinf, hs, hby, hz, hzc⟩ := hT.info
  have hpos := hT.pos
  have hzs : zv.cells.size = sz := by rw [hzc]; simpa using hT.zlen
  have hN : cs.length + ns.length ≤ 140737488355328 := Nat.le_trans (Nat.le_mul_of_pos_right _ hby0) hbound
  -- the source's form
  obtain ⟨m, hm, hfirst⟩ : ∃ m, ns.length = m * sz ∧ (u = .slice none 0 0 ∧ m = 0 ∨ ∃ a c, u = .slice (some a) m c ∧ ∀ j v, ns[j]? = some v → w.cell? (a.add j) = some v) := by
    rcases hu with ⟨rfl, rfl⟩ | ⟨a, len, cap, rfl, hl, hc⟩
    · exact ⟨0, by simp, .inl ⟨rfl, rfl⟩⟩
    · exact ⟨len, hl, .inr ⟨a, cap, rfl, hc⟩⟩
  have hmle : m ≤ ns.length := by rw [hm]; exact Nat.le_mul_of_pos_right _ hpos
  have hlen : (Builtin.lenOf u).run P w = .ok m w := by rcases hfirst with ⟨rfl, rfl⟩ | ⟨a, c, rfl, _⟩ <;> simp [Builtin.lenOf]
  have hcells : ∀ w', w'.heap = w.heap → (Builtin.firstCells sz m u).run P w' = .ok ns.toArray w' := by
    intro w' hw'
    rcases hfirst with ⟨rfl, rfl⟩ | ⟨a, c, rfl, hc⟩
    · have : ns = [] := List.eq_nil_of_length_eq_zero (by simpa using hm)
      subst this; simp [Builtin.firstCells]
    · exact run_firstCells_some w' sz m a m c ns hm (fun j v hj => by have := hc j v hj; simpa [World.cell?, hw'] using this)
  have und : P.underlying t = some (.slice e) := hT.und
  -- where it must grow
  have grow : ∀ (base : Option Addr) (k cap : Nat), v = .slice base k cap → cs.length = k * sz → cap < k + m → (∀ w' : World, w'.heap = w.heap → (Builtin.firstCells sz k v).run P w' = .ok cs.toArray w') →
      ∃ v' w', (Builtin.append_ #[t, t] ty #[v, u]).run P w = .ok v' w' ∧ Own w' lo w'.heap.size sz v' (cs ++ ns) ∧ Mod w w' v.ownBlock ∧ Become w v v' ∧ (∀ a k, v = .slice a k 0 → Ext w w') := by
    rintro base k cap rfl hk hlt hold
    have hkle : k ≤ cs.length := by rw [hk]; exact Nat.le_mul_of_pos_right _ hpos
    have hn : ¬ (k + m ≤ cap) := by omega
    have h63 : ¬ (9223372036854775807 < ((k : Int) + (m : Int))) := by omega
    have hfit : Builtin.nextslicecap (k + m) cap * i.bytes ≤ 281474976710656 := growslice_fits hlt (Nat.le_trans (Nat.mul_le_mul_right _ (show k + m ≤ cs.length + ns.length by omega)) (by rw [hby]; exact hbound))
    have h48 : ¬ (281474976710656 < Builtin.nextslicecap (k + m) cap * i.bytes) := by omega
    have hge := grownCap_ge w (k + m) cap e
    have hle := grownCap_le_maxLen w (k + m) cap e (by unfold maxLen; omega)
    refine ⟨.slice (some ⟨w.heap.size, 0, none⟩) (k + m) (grownCap w (k + m) cap e), w.drew.alloc (.cells (cs.toArray ++ ns.toArray ++ Builtin.zeroCells zv.cells (grownCap w (k + m) cap e - (k + m))) e), ?_, ?_, ?_⟩
    · have ho := hold w.drew rfl
      have hc := hcells w.drew rfl
      subst hs
      simp [Builtin.append_, run_underlying und, sizeOf, typeInfo, zeroValue, hinf, hz, hlen, hn, h63, h48, Question.forced, hc, ho, newRow, grownCap]
      simp only [← List.append_toArray, Array.append_assoc]
    · refine .inr ⟨w.heap.size, 0, k + m, _, _, e, rfl, hlo, by simp, heap_alloc_new w.drew _, hge, hle, ?_, by rw [List.length_append, hk, hm, Nat.add_mul], fun j x hj => ?_⟩
      · simp only [Array.size_append, List.size_toArray, size_zeroCells, hzs, hk, hm, ← Nat.add_mul, Nat.zero_add]
        exact Nat.le_of_eq (by congr 1; omega)
      · have hjl := (List.getElem?_eq_some_iff.1 hj).1
        rw [Nat.zero_add, Array.getElem?_append_left (by simpa using hjl)]
        simpa using hj
    · exact ⟨⟨rfl, rfl, rfl, by simp, fun q hq _ => heap_alloc_old w.drew _ hq, Nat.le_succ _⟩, fun g hg => .inr (by cases hg; exact Nat.le_refl _), fun _ _ _ => ⟨rfl, rfl, rfl, by simp, fun q hq _ => heap_alloc_old w.drew _ hq, Nat.le_succ _⟩⟩
  rcases hown with ⟨rfl, rfl⟩ | ⟨g, off, k, cap, cur, T, rfl, h3, h4, hb, h5, h6, h7, h8, h9⟩
  · by_cases hm0 : m = 0
    · subst hm0
      have : ns = [] := List.eq_nil_of_length_eq_zero (by simpa using hm)
      subst this
      refine ⟨.slice none 0 0, w, ?_, Own.nil _ _ _ _, (Ext.refl w).mod _, fun _ h => .inl h, fun _ _ _ => Ext.refl w⟩
      have hc := hcells w rfl
      subst hs
      simp [Builtin.append_, run_underlying und, sizeOf, typeInfo, hinf, hlen, hc]
    · exact grow none 0 0 rfl (by simp) (by omega) (fun w' _ => by simp [Builtin.firstCells])
  · by_cases hroom : k + m ≤ cap
    · have hfit : off + k * sz + 0 + ns.length ≤ cur.size := by
        rw [hm, Nat.add_zero, Nat.add_assoc, ← Nat.add_mul]
        exact Nat.le_trans (Nat.add_le_add_left (Nat.mul_le_mul_right _ hroom) _) h7
      have hst := run_storeCells_at P g (off + k * sz) T ns 0 cur w hb hfit (fun v hv => List.all_eq_true.1 h1 v hv)
      simp only [Nat.add_zero] at hst
      refine ⟨.slice (some ⟨g, off, none⟩) (k + m) cap, w.setRow g (cur.toList.take (off + k * sz) ++ ns ++ cur.toList.drop (off + k * sz + ns.length)).toArray, ?_, ?_, heap_setRow_mod _ _ _, fun _ h => .inl h, fun a' k' he => ?_⟩
      · have hc := hcells w rfl
        subst hs
        simp [Builtin.append_, run_underlying und, sizeOf, typeInfo, hinf, hlen, hroom, hc, Addr.add_lit, hst]
      · have hsz0 : (w.setRow g (cur.toList.take (off + k * sz) ++ ns ++ cur.toList.drop (off + k * sz + ns.length)).toArray).heap.size = w.heap.size := by simp [World.setRow]
        refine .inr ⟨g, off, k + m, cap, _, T, rfl, h3, by rw [hsz0]; omega, setRow_heap w g cur _ T (0, 0) hb, hroom, h6, ?_, by rw [List.length_append, h8, hm, Nat.add_mul], fun j x hj => ?_⟩
        · simp only [List.size_toArray, List.length_append, List.length_take, List.length_drop, Array.length_toList]
          omega
        · have hl1 : (cur.toList.take (off + k * sz)).length = off + k * sz := by simp; omega
          simp only [List.getElem?_toArray, List.append_assoc]
          by_cases hjk : j < k * sz
          · rw [List.getElem?_append_left (by rw [hl1]; omega), List.getElem?_take_of_lt (by omega)]
            rw [List.getElem?_append_left (by omega)] at hj
            simpa using h9 j x hj
          · rw [List.getElem?_append_right (by rw [hl1]; omega), hl1]
            rw [List.getElem?_append_right (by omega), h8] at hj
            rw [show off + j - (off + k * sz) = j - k * sz from by omega]
            rw [List.getElem?_append_left (List.getElem?_eq_some_iff.1 hj).1]
            exact hj
      · simp only [Value.slice.injEq] at he
        obtain ⟨_, _, rfl⟩ := he
        have hm0 : m = 0 := by omega
        have hns : ns = [] := List.eq_nil_of_length_eq_zero (by rw [hm, hm0]; simp)
        subst hns
        have hrow : (cur.toList.take (off + k * sz) ++ [] ++ cur.toList.drop (off + k * sz + ([] : List Value).length)).toArray = cur := by simp
        rw [hrow]
        refine ⟨rfl, rfl, rfl, by simp [World.setRow], fun q hq _ => ?_, Nat.le_refl _⟩
        by_cases hqg : q = g
        · subst hqg; rw [setRow_heap w q cur cur T (0, 0) hb, hb]
        · exact setRow_other w g q cur hqg
    · exact grow (some ⟨g, off, none⟩) k cap rfl h8 (by omega) (fun w' hw' => run_firstCells_some w' sz k ⟨g, off, none⟩ k cap cs h8 (fun j v hj => by
        rw [Addr.add_lit]; simp [World.cell?, hw', hb, h9 j v hj]))
theorem run_append {sz bytes lo hi t e : Nat} {z : List Value} (hT : SlT P t e sz bytes z) (ty : TypeId) {v u : Value} {cs ns : List Value} (hown : Own w lo hi sz v cs) (hu : Src w sz u ns) (h1 : ns.all (·.oneCell') = true)
    (hbound : (cs.length + ns.length) * bytes ≤ 140737488355328) (hby0 : 0 < bytes) (hlo : lo ≤ w.heap.size) (hhi : hi ≤ w.heap.size) :
    ∃ v' w', (Builtin.append_ #[t, t] ty #[v, u]).run P w = .ok v' w' ∧ Own w' lo w'.heap.size sz v' (cs ++ ns) ∧ Mod w w' v.ownBlock := by
  obtain ⟨v', w', a, b, c, _, _⟩ := run_append' hT ty hown hu h1 hbound hby0 hlo hhi
  exact ⟨v', w', a, b, c⟩
theorem J_append {t e sz bytes lo hi : Nat} {z : List Value} {s x : Operand} {v u : Value} {cs ns : List Value} (hT : SlT P t e sz bytes z) (hs : ev σ s = some v) (hx : ev σ x = some u) (hown : Own w lo hi sz v cs) (hu : Src w sz u ns) (h1 : ns.all (·.oneCell') = true)
    (hbound : (cs.length + ns.length) * bytes ≤ 140737488355328) (hby0 : 0 < bytes) (hlo : lo ≤ w.heap.size) (hhi : hi ≤ w.heap.size) (hD : D = false) (hd : dok n d = true)
    (h : ∀ v' w', Mod w w' v.ownBlock → Own w' lo w'.heap.size sz v' (cs ++ ns) → J P ops D n K l (put σ d v') w') :
    J P ops D n K ((false, ⟨d, .call { callee := .builtin .append, args := #[s, x], argTypes := #[t, t] }, ty, pos, af, none⟩) :: l) σ w := J_un rfl fun a ha => by
  obtain ⟨v', w', hr, ho, hm⟩ := run_append hT ty hown hu h1 hbound hby0 hlo hhi
  refine wp_value (w' := w') (v := v') ?_ ⟨fun hq => absurd hq (by simp [hD]), h v' w' hm ho _ (ha.put hd _)⟩
  simp [execOp, resolve, invoke, builtin, ha.eval hs, ha.eval hx, hr]

theorem J_appendB {t e sz bytes lo hi : Nat} {z : List Value} {s x : Operand} {v u : Value} {cs ns : List Value} (hT : SlT P t e sz bytes z) (hs : ev σ s = some v) (hx : ev σ x = some u) (hown : Own w lo hi sz v cs) (hu : Src w sz u ns) (h1 : ns.all (·.oneCell') = true)
    (hbound : (cs.length + ns.length) * bytes ≤ 140737488355328) (hby0 : 0 < bytes) (hlo : lo ≤ w.heap.size) (hhi : hi ≤ w.heap.size) (hD : D = false) (hd : dok n d = true)
    (h : ∀ v' w', Mod w w' v.ownBlock → Own w' lo w'.heap.size sz v' (cs ++ ns) → Become w v v' → J P ops D n K l (put σ d v') w') :
    J P ops D n K ((false, ⟨d, .call { callee := .builtin .append, args := #[s, x], argTypes := #[t, t] }, ty, pos, af, none⟩) :: l) σ w := J_un rfl fun a ha => by
  obtain ⟨v', w', hr, ho, hm, hb, _⟩ := run_append' hT ty hown hu h1 hbound hby0 hlo hhi
  refine wp_value (w' := w') (v := v') ?_ ⟨fun hq => absurd hq (by simp [hD]), h v' w' hm ho hb _ (ha.put hd _)⟩
  simp [execOp, resolve, invoke, builtin, ha.eval hs, ha.eval hx, hr]

/-- .. to a slice without room: nothing of what stood turns. -/
theorem J_appendD {t e sz bytes lo hi : Nat} {z : List Value} {s x : Operand} {v u : Value} {cs ns : List Value} (hT : SlT P t e sz bytes z) (hs : ev σ s = some v) (hx : ev σ x = some u) (hown : Own w lo hi sz v cs) (h0 : ∃ a k, v = .slice a k 0) (hu : Src w sz u ns) (h1 : ns.all (·.oneCell') = true)
    (hbound : (cs.length + ns.length) * bytes ≤ 140737488355328) (hby0 : 0 < bytes) (hlo : lo ≤ w.heap.size) (hhi : hi ≤ w.heap.size) (hd : dok n d = true)
    (h : ∀ v' w', Ext w w' → Own w' lo w'.heap.size sz v' (cs ++ ns) → Become w v v' → J P ops D n K l (put σ d v') w') :
    J P ops D n K ((false, ⟨d, .call { callee := .builtin .append, args := #[s, x], argTypes := #[t, t] }, ty, pos, af, none⟩) :: l) σ w := J_un rfl fun a ha => by
  obtain ⟨v', w', hr, ho, hm, hb, he⟩ := run_append' hT ty hown hu h1 hbound hby0 hlo hhi
  obtain ⟨a0, k0, rfl⟩ := h0
  have hE := he a0 k0 rfl
  refine wp_value (w' := w') (v := v') ?_ ⟨fun _ => hE, h v' w' hE ho hb _ (ha.put hd _)⟩
  simp [execOp, resolve, invoke, builtin, ha.eval hs, ha.eval hx, hr]

/-! ### a part of a slice -/
def slFrom (v : Value) (k sz : Nat) : Value := match v with
  | .slice a len cap => .slice (if cap = k then a else a.map (·.add (k * sz))) (len - k) (cap - k)
  | v => v
def slTo (v : Value) (k : Nat) : Value := match v with
  | .slice a _ cap => .slice a k cap
  | v => v
theorem R_sliceFrom {g : Option (Nat × Bool)} {t e sz bytes k len : Nat} {z : List Value} {x y : Operand} {v : Value} (hT : SlT P t e sz bytes z) (hx : ev σ x = some v) (hy : ev σ y = some (.int .i64 k)) (hv : ∃ a cap, v = .slice a len cap ∧ len ≤ cap) (hk : k ≤ len) :
    Runs P n σ w ⟨d, .slice t x (some y) none none, ty, pos, af, g⟩ (slFrom v k sz) := fun a ha w' _ => by
  obtain ⟨ad, cap, rfl, hc⟩ := hv
  obtain ⟨i, zv, hinf, hs, _⟩ := hT.info
  have h2 : (k : Int) ≤ (len : Int) := by omega
  simp [execOp, Instr.sliceAt, Instr.slice, run_underlying hT.und, ha.eval hx, ha.eval hy, Instr.sliceBounds, Instr.sliceBound, asIntOf, hk, sizeOf, typeInfo, hinf, hs, slFrom]
theorem R_sliceTo {g : Option (Nat × Bool)} {t e sz bytes k len : Nat} {z : List Value} {x y : Operand} {v : Value} (hT : SlT P t e sz bytes z) (hx : ev σ x = some v) (hy : ev σ y = some (.int .i64 k)) (hv : ∃ a cap, v = .slice a len cap ∧ len ≤ cap) (hk : k ≤ len) :
    Runs P n σ w ⟨d, .slice t x none (some y) none, ty, pos, af, g⟩ (slTo v k) := fun a ha w' _ => by
  obtain ⟨ad, cap, rfl, hc⟩ := hv
  obtain ⟨i, zv, hinf, _, _⟩ := hT.info
  have h2 : k ≤ cap := by omega
  simp [execOp, Instr.sliceAt, Instr.slice, run_underlying hT.und, ha.eval hx, ha.eval hy, Instr.sliceBounds, Instr.sliceBound, asIntOf, h2, sizeOf, typeInfo, hinf, slTo]
  cases ad <;> simp [Addr.add]
end
end Go.Proofs.YtpkimhbibjpcpaaDoor.X

namespace Go.Proofs.YtpkimhbibjpcpaaDoor.X
open Go
open Enc (enc)
section
variable {w w' : World} {lo hi sz : Nat} {v : Value} {cs cs' vs us : List Value} {b off : Nat}
theorem take_get {l us : List Value} {k : Nat} (h : (l.drop k).take us.length = us) : ∀ j u, us[j]? = some u → l[k + j]? = some u := fun j u hj => by
  rw [← h] at hj
  rw [List.getElem?_take] at hj
  split at hj
  · simpa using hj
  · cases hj
theorem At.part (h : At w b off vs) (k : Nat) (us : List Value) (hu : (vs.drop k).take us.length = us) : At w b (off + k) us := h.sub k us (take_get hu)
theorem Blk.part (h : Blk w b cs) (k : Nat) (us : List Value) (hu : (cs.drop k).take us.length = us) : At w b k us := h.sub k us (take_get hu)
theorem Own.fin {lo' hi' : Nat} (h : Own w lo hi sz v cs) (h1 : lo' ≤ lo) (h2 : hi ≤ hi') (he : cs = cs') : Own w lo' hi' sz v cs' := he ▸ h.widen h1 h2
theorem Own.finNil {lo' hi' : Nat} (he : [] = cs') : Own w lo' hi' sz (.slice none 0 0) cs' := he ▸ Own.nil _ _ _ _
theorem Own.len {α : Type} [Enc α] {xs : List α} (hs : 0 < Enc.sz α) (h : Own w lo hi (Enc.sz α) v (xs.flatMap enc)) : SlLen v xs.length := (h.rd hs).len
theorem Own.lenE {α : Type} [Enc α] {xs : List α} {n : Nat} (hs : 0 < Enc.sz α) (h : Own w lo hi (Enc.sz α) v (xs.flatMap enc)) (hl : xs.length = n) : SlLen v n := hl ▸ Own.len hs h
theorem RdS.nil {α : Type} [Enc α] (w : World) : RdS (α := α) w (.slice none 0 0) [] := ⟨by simp, .inl ⟨rfl, rfl⟩⟩
theorem RdL.one {α : Type} {n : Nat} {R : List Value → α → Prop} {xs : List α} (h : RdL w n R v xs) : v.oneCell' = true := by
  obtain ⟨_, _, rfl⟩ := h.len; rfl
theorem Blk.rd {α : Type} [Enc α] {xs : List α} {g len : Nat} (hs : 0 < Enc.sz α) (h : Blk w g (xs.flatMap enc)) (hl : xs.length = len) (hm : len ≤ maxLen) : RdS w (.slice (some ⟨g, 0, none⟩) len len) xs :=
  Own.rd hs (Own.ofBlk (lo := 0) (hi := g + 1) h (Nat.zero_le _) (Nat.lt_succ_self _) (by rw [sum_flat, hl]) hm)
end
section
variable {P : Program} {n : Nat} {σ : Env} {w : World} {d : Option Tmp} {ty : TypeId} {pos : String} {af : Array Edge} {g : Option (Nat × Bool)} {x y : Operand}
theorem R_indexB {t e sz bytes i b len cap : Nat} {z : List Value} (hT : SlT P t e sz bytes z) (hx : ev σ x = some (.slice (some ⟨b, 0, none⟩) len cap)) (hy : ev σ y = some (.int .i64 i)) (hi : i < len) :
    Runs P n σ w ⟨d, .indexAddr t x y, ty, pos, af, g⟩ (.pointer (some ⟨b, i * sz, none⟩)) := fun a ha w' _ => by
  obtain ⟨ti, zv, hinf, hs, _⟩ := hT.info
  simp [execOp, ha.eval hx, ha.eval hy, Instr.indexAt, asIntOf, run_underlying hT.und, sizeOf, typeInfo, hinf, hs, hi, Addr.add_lit]
theorem R_indexZ {α : Type} {t e sz bytes i : Nat} {c : Int} {z : List Value} {R : List Value → α → Prop} {v : Value} {xs : List α} (hT : SlT P t e sz bytes z) (hx : ev σ x = some v) (hy : ev σ y = some (.int .i64 c)) (h : RdL w sz R v xs) (hc : c = (i : Nat)) (hi : i < xs.length) :
    Runs P n σ w ⟨d, .indexAddr t x y, ty, pos, af, g⟩ (.pointer (some ⟨sblk v, soff v + i * sz, none⟩)) := R_index hT hx (by rw [hy, hc]) h hi
theorem R_build {α : Type} [Enc α] {t : TypeId} {parts : List (Nat × Operand)} {vs : List (Nat × Value)} (x : α) (hp : evps σ parts = some vs) (hb : ∀ w, (Instr.build t vs.toArray).run P w = .ok (.agg (enc x).toArray) w) :
    Runs P n σ w ⟨d, .build t parts.toArray, ty, pos, af, g⟩ (.agg (enc x).toArray) := fun a ha w' _ => by
  have hm := evps_map ha parts _ hp
  simp [execOp, hm, hb]
end
section
variable {P : Program} {ops : Array Oper} {D : Bool} {n : Nat} {K : Act → World → Prop} {l : List (Bool × Oper)} {σ : Env} {w : World} {ty : TypeId} {pos : String} {af : Array Edge}
theorem J_store' {t b off : Nat} {x y : Operand} {v z : Value} {cs : List Value} {cs' : List Value} (hT : ScT P t z) (hx : ev σ x = some (.pointer (some ⟨b, off, none⟩))) (hy : ev σ y = some v) (h1 : v.oneCell' = true) (hb : Blk w b cs) (hl : off < cs.length) (hc : cs.set off v = cs')
    (h : ∀ w', Mod w w' (some b) → Blk w' b cs' → J P ops D n K l σ w') : J P ops D n K ((false, ⟨none, .store t x y, ty, pos, af, none⟩) :: l) σ w := J_store hT hx hy h1 hb hl fun w' hm hb' => h w' hm (hc ▸ hb')
theorem J_storeS' {t sz b off : Nat} {z : List Value} {x y : Operand} {vs cs : List Value} {cs' : List Value} (hT : StT P t sz z) (hx : ev σ x = some (.pointer (some ⟨b, off, none⟩))) (hy : ev σ y = some (.agg vs.toArray)) (hs : vs.length = sz) (h1 : vs.all (·.oneCell') = true)
    (hb : Blk w b cs) (hl : off + vs.length ≤ cs.length) (hc : spl cs off vs = cs')
    (h : ∀ w', Mod w w' (some b) → Blk w' b cs' → J P ops D n K l σ w') : J P ops D n K ((false, ⟨none, .store t x y, ty, pos, af, none⟩) :: l) σ w := J_storeS hT hx hy hs h1 hb hl fun w' hm hb' => h w' hm (hc ▸ hb')
end

section
variable {P : Program} {n : Nat} {Q : Exit → Act → World → Prop} {cs : List Code} {σ : Env} {w : World} {c : Operand} {x y : Code} {b : Bool}
theorem S_condTe (hc : ev σ c = some (.bool b)) (hb : b = true) (h : S P n Q (x :: cs) σ w) : S P n Q (.cond c x y :: cs) σ w := S_condT (by rw [hc, hb]) h
theorem S_condFe (hc : ev σ c = some (.bool b)) (hb : b = false) (h : S P n Q (y :: cs) σ w) : S P n Q (.cond c x y :: cs) σ w := S_condF (by rw [hc, hb]) h
end

/-! ### a row that is filled from the left -/
/-- The first 'k' of 'xs' laid, 'n - k' zeros behind them. -/
def mk {α : Type} [Enc α] (xs : List α) (z : List Value) (k n : Nat) : List Value := (xs.take k).flatMap enc ++ (List.replicate (n - k) z).flatten
theorem mk_zero {α : Type} [Enc α] (xs : List α) (z : List Value) (n : Nat) : (List.replicate n z).flatten = mk xs z 0 n := by simp [mk]
theorem mk_all {α : Type} [Enc α] (xs : List α) (z : List Value) : mk xs z xs.length xs.length = xs.flatMap enc := by simp [mk]
theorem flat_rep (z : List Value) : ∀ m, ((List.replicate m z).flatten).length = m * z.length
  | 0 => by simp
  | m + 1 => by simp only [List.replicate_succ, List.flatten_cons, List.length_append, flat_rep z m, Nat.add_mul]; omega
theorem mk_length {α : Type} [Enc α] (xs : List α) (z : List Value) (hz : z.length = Enc.sz α) {k n : Nat} (hk : k ≤ xs.length) (hn : k ≤ n) : (mk xs z k n).length = n * Enc.sz α := by
  simp only [mk, List.length_append, sum_flat, flat_rep, hz, List.length_take, Nat.min_eq_left hk, ← Nat.add_mul]
  congr 1; omega
theorem mk_step {α : Type} [Enc α] (xs : List α) (z : List Value) (hz : z.length = Enc.sz α) {k n : Nat} (hk : k < xs.length) (hn : k < n) : spl (mk xs z k n) (k * Enc.sz α) (enc xs[k]) = mk xs z (k + 1) n := by
  have hl := mk_length xs z hz (Nat.le_of_lt hk) (Nat.le_of_lt hn)
  have h1 : k * Enc.sz α + Enc.sz α ≤ n * Enc.sz α := by
    have := Nat.mul_le_mul_right (Enc.sz α) (show k + 1 ≤ n by omega)
    rwa [Nat.add_mul, Nat.one_mul] at this
  rw [spl_eq _ _ _ (by rw [Enc.len, hl]; exact h1), Enc.len]
  have ht : ((xs.take k).flatMap enc).length = k * Enc.sz α := by rw [sum_flat, List.length_take, Nat.min_eq_left (Nat.le_of_lt hk)]
  obtain ⟨m, hm⟩ : ∃ m, n - k = m + 1 := ⟨n - k - 1, by omega⟩
  have e1 : List.take (k * Enc.sz α) (mk xs z k n) = (xs.take k).flatMap enc := by
    unfold mk; rw [← ht]; exact List.take_left
  have e2 : List.drop (k * Enc.sz α + Enc.sz α) (mk xs z k n) = (List.replicate m z).flatten := by
    unfold mk
    rw [← ht, List.drop_append, List.drop_of_length_le (by omega), List.nil_append, hm, List.replicate_succ, List.flatten_cons]
    rw [show ((xs.take k).flatMap enc).length + Enc.sz α - ((xs.take k).flatMap enc).length = z.length from by omega]
    exact List.drop_left
  rw [e1, e2]
  unfold mk
  rw [show n - (k + 1) = m from by omega, List.take_succ_eq_append_getElem hk, List.flatMap_append]
  simp
theorem mk_room {α : Type} [Enc α] (xs : List α) (z : List Value) (hz : z.length = Enc.sz α) {k n m : Nat} (hk : k < xs.length) (hn : k < n) (hm : m = Enc.sz α) : k * Enc.sz α + m ≤ (mk xs z k n).length := by
  rw [mk_length xs z hz (Nat.le_of_lt hk) (Nat.le_of_lt hn), hm]
  have := Nat.mul_le_mul_right (Enc.sz α) (show k + 1 ≤ n by omega)
  rwa [Nat.add_mul, Nat.one_mul] at this
theorem flat_one {α : Type} [Enc α] : ∀ (xs : List α), (xs.flatMap enc).all (·.oneCell') = true
  | [] => rfl
  | x :: xs => by simp only [List.flatMap_cons, List.all_append, Enc.one, flat_one xs, Bool.and_self]
section
variable {P : Program} {ops : Array Oper} {D : Bool} {n : Nat} {K : Act → World → Prop} {l : List (Bool × Oper)} {σ : Env} {w : World} {d : Option Tmp} {op : Op} {ty : TypeId} {pos : String} {af : Array Edge}
theorem not_wanted {a : Act} {j gd : Nat} {b : Bool} (ha : Fits n σ a) (hj : (ops[j]?).bind (·.dst) = some gd) (hb : look σ gd = some undef) : Region.wanted ⟨d, op, ty, pos, af, some (j, b)⟩ (yielded ops a.tmps) = false := by
  have := ha.get gd _ hb
  obtain ⟨o, ho, hdst⟩ := Option.bind_eq_some_iff.1 hj
  simp [Region.wanted, yielded, ho, hdst, this, undef]
/-- A guard that was itself passed over. -/
theorem J_gdx {j gd : Nat} {b : Bool} (hj : (ops[j]?).bind (·.dst) = some gd) (hb : look σ gd = some undef) (hd : dok n d = true) (h : J P ops D n K l (put σ d undef) w) :
    J P ops D n K ((true, ⟨d, op, ty, pos, af, some (j, b)⟩) :: l) σ w := fun _ ha => ⟨undef, .inr ⟨not_wanted ha hj hb, rfl⟩, h _ (ha.put hd _)⟩
theorem J_ungx {j gd : Nat} {b : Bool} (hj : (ops[j]?).bind (·.dst) = some gd) (hb : look σ gd = some undef) (hd : dok n d = true) (h : J P ops D n K l (put σ d undef) w) :
    J P ops D n K ((false, ⟨d, op, ty, pos, af, some (j, b)⟩) :: l) σ w := fun a ha => by
  have hw := not_wanted (d := d) (op := op) (ty := ty) (pos := pos) (af := af) (b := b) ha hj hb
  unfold wpE
  rw [if_neg (by simp [hw])]
  exact h _ (ha.put hd _)
end

/-! ### a cell of a slice of the call's own, turned -/
theorem nat_nlt (n : Nat) : decide ((n : Int) < 0) = false := decide_eq_false (by omega)
theorem add_nat {k : Nat} (h : k + 1 ≤ maxLen) : IntKind.i64.wrap ((k : Int) + 1) = ((k + 1 : Nat) : Int) := by
  unfold maxLen at h
  rw [wrap_in (by omega) (by omega)]; rfl
theorem flat_set {α : Type} [Enc α] : ∀ (as : List α) (x : α) (bs : List α) (f : Nat) (u : Value) (y : α), f < Enc.sz α → (enc x).set f u = enc y → ((as ++ x :: bs).flatMap enc).set (as.length * Enc.sz α + f) u = (as ++ y :: bs).flatMap enc
  | [], x, bs, f, u, y, hf, he => by
    simp only [List.nil_append, List.flatMap_cons, List.length_nil, Nat.zero_mul, Nat.zero_add]
    rw [List.set_append_left _ _ (by rw [Enc.len]; exact hf), he]
  | a :: as, x, bs, f, u, y, hf, he => by
    simp only [List.cons_append, List.flatMap_cons, List.length_cons, Nat.add_mul, Nat.one_mul]
    rw [List.set_append_right _ _ (by rw [Enc.len]; omega), Enc.len]
    rw [show as.length * Enc.sz α + Enc.sz α + f - Enc.sz α = as.length * Enc.sz α + f from by omega, flat_set as x bs f u y hf he]
theorem Own.store {P : Program} {α : Type} [Enc α] {w : World} {lo hi i f t : Nat} {v u z : Value} {as bs : List α} {x : α} (y : α) (hT : ScT P t z) (h : Own w lo hi (Enc.sz α) v ((as ++ x :: bs).flatMap enc)) (hi' : as.length = i) (hf : f < Enc.sz α) (he : (enc x).set f u = enc y) (h1 : u.oneCell' = true) :
    ∃ w', (storeVar t ⟨sblk v, soff v + i * Enc.sz α + f, none⟩ u).run P w = .ok () w' ∧ Mod w w' v.ownBlock ∧ Own w' lo hi (Enc.sz α) v ((as ++ y :: bs).flatMap enc) := by
  subst hi'
  rcases h with ⟨rfl, hc⟩ | ⟨g, off, len, cap, cur, T, rfl, h3, h4, hb, h5, h6, h7, h8, h9⟩
  · have hl := congrArg List.length hc
    rw [sum_flat] at hl
    simp only [List.length_append, List.length_cons, List.length_nil, Nat.add_mul] at hl
    omega
  · have hsz : as.length * Enc.sz α + f < len * Enc.sz α := by
      rw [← h8, sum_flat]
      simp only [List.length_append, List.length_cons, Nat.add_mul]
      omega
    have hlc : len * Enc.sz α ≤ cap * Enc.sz α := Nat.mul_le_mul_right _ h5
    have hbk : Blk w g cur.toList := ⟨T, by simpa using hb⟩
    obtain ⟨w', hr, hm, T', hb'⟩ := run_storeVar_sc (off := off + as.length * Enc.sz α + f) hT hbk (by simp; omega) h1
    refine ⟨w', hr, hm, .inr ⟨g, off, len, cap, _, T', rfl, h3, h4, hb', h5, h6, by simpa using h7, ?_, fun j q hj => ?_⟩⟩
    · rw [← h8, sum_flat, sum_flat]; simp
    · rw [← flat_set as x bs f u y hf he, List.getElem?_set] at hj
      simp only [List.getElem?_toArray, List.getElem?_set]
      split at hj
      · rename_i hq
        split at hj
        · rw [if_pos (by omega), if_pos (by simp; omega)]; exact hj
        · cases hj
      · rename_i hq
        rw [if_neg (by omega)]
        simpa using h9 j q hj
section
variable {P : Program} {ops : Array Oper} {D : Bool} {n : Nat} {K : Act → World → Prop} {l : List (Bool × Oper)} {σ : Env} {w : World} {ty : TypeId} {pos : String} {af : Array Edge}
theorem J_storeOwn {α : Type} [Enc α] {lo hi i f t off : Nat} {p q : Operand} {v u z : Value} {as bs : List α} {x : α} (y : α) (hT : ScT P t z) (hx : ev σ p = some (.pointer (some ⟨sblk v, off, none⟩))) (ho : off = soff v + i * Enc.sz α + f) (hy : ev σ q = some u) (h1 : u.oneCell' = true)
    (h : Own w lo hi (Enc.sz α) v ((as ++ x :: bs).flatMap enc)) (hi' : as.length = i) (hf : f < Enc.sz α) (he : (enc x).set f u = enc y)
    (hk : ∀ w', Mod w w' v.ownBlock → Own w' lo hi (Enc.sz α) v ((as ++ y :: bs).flatMap enc) → J P ops D n K l σ w') : J P ops D n K ((false, ⟨none, .store t p q, ty, pos, af, none⟩) :: l) σ w := J_unS rfl rfl fun a ha => by
  subst ho
  obtain ⟨w', hr, hm, hb'⟩ := h.store y hT hi' hf he h1
  exact wp_skipped (w' := w') (by simp [execOp, ha.eval hx, ha.eval hy, Instr.storeAt, Instr.sureAddr, hr]) (hk w' hm hb' _ ha)
end
/-- What marking leaves: 'f' of the running number, which grows by 'L'. -/
def mkL {α : Type} (L : Nat) (f : Nat → α) (k n : Nat) : List α := (List.range n).map fun i => f (k + L * i)
section
variable {α : Type} {L k i : Nat} {f : Nat → α} {xs : List α}
theorem mkL_length (L : Nat) (f : Nat → α) (k n : Nat) : (mkL L f k n).length = n := by simp [mkL]
theorem mkL_succ (L : Nat) (f : Nat → α) (k i : Nat) (bs : List α) : mkL L f k i ++ f (k + L * i) :: bs = mkL L f k (i + 1) ++ bs := by simp [mkL, List.range_succ]
theorem mkL_at (h : xs = mkL L f k xs.length) (hi : i < xs.length) : xs[i] = f (k + L * i) := by
  have : ∀ (h2 : i < (mkL L f k xs.length).length), (mkL L f k xs.length)[i] = f (k + L * i) := fun h2 => by simp [mkL]
  have h3 := this (by rw [mkL_length]; exact hi)
  rw [← h3]; congr 1
end
end Go.Proofs.YtpkimhbibjpcpaaDoor.X

namespace Go.Proofs.YtpkimhbibjpcpaaDoor.X
open Go
open Enc (enc)
/-- A number of 64 bits. -/
def rg (n : Int) : Prop := -9223372036854775808 ≤ n ∧ n ≤ 9223372036854775807
/-! ### data behind slices -/
/-- What stands from 'lo' on and below 'hi' has not turned. -/
structure Same (w w' : World) (lo hi : Nat) : Prop where
  size : w.heap.size ≤ w'.heap.size
  block : ∀ k, lo ≤ k → k < hi → k < w.heap.size → w'.heap[k]? = w.heap[k]?
theorem Mod.keeps {w w' : World} {x : Option Nat} {lo hi : Nat} (m : Mod w w' x) (h : ∀ g, x = Option.some g → g < lo ∨ hi ≤ g) : Same w w' lo hi :=
  ⟨m.size, fun k h1 h2 h3 => m.block k h3 (fun e => by have := h k e; omega)⟩
theorem ModR.keeps {w w' : World} {a b lo hi : Nat} (m : ModR w w' a b) (h : hi ≤ a ∨ b ≤ lo) : Same w w' lo hi :=
  ⟨m.size, fun k h1 h2 h3 => m.block k h3 (by omega)⟩
theorem At.same {w w' : World} {lo hi b off : Nat} {vs : List Value} (h : At w b off vs) (s : Same w w' lo hi) (h1 : lo ≤ b) (h2 : b < hi) : At w' b off vs := by
  obtain ⟨cs, T, fz, hb, hc⟩ := h
  exact ⟨cs, T, fz, (s.block b h1 h2 (Array.getElem?_eq_some_iff.1 hb).1).trans hb, hc⟩
def RdB {α : Type} (w : World) (lo hi n : Nat) (R : List Value → α → Prop) (v : Value) (xs : List α) : Prop := RdL w n R v xs ∧ (xs = [] ∨ (lo ≤ sblk v ∧ sblk v < hi))
theorem RdB.same {α : Type} {w w' : World} {lo hi n : Nat} {R R' : List Value → α → Prop} {v : Value} {xs : List α} (h : RdB w lo hi n R v xs) (s : Same w w' lo hi) (hR : ∀ cs y, R cs y → R' cs y) : RdB w' lo hi n R' v xs := by
  obtain ⟨⟨hm, h | ⟨b, off, sp, cap, css, rfl, hcap, hsp, hc, ha⟩⟩, hb⟩ := h
  · exact ⟨⟨hm, .inl h⟩, hb⟩
  · refine ⟨⟨hm, .inr ⟨b, off, sp, cap, css, rfl, hcap, hsp, fun i cs hi => ⟨(hc i cs hi).1, ?_⟩, ha.imp hR⟩⟩, hb⟩
    rcases hb with rfl | hb
    · have := ha.length
      simp at this
      subst this
      simp at hi
    · exact (hc i cs hi).2.same s hb.1 hb.2
theorem RdB.imp {α : Type} {w : World} {lo hi lo' hi' n : Nat} {R R' : List Value → α → Prop} {v : Value} {xs : List α} (h : RdB w lo hi n R v xs) (hb : xs = [] ∨ (lo' ≤ sblk v ∧ sblk v < hi')) (hR : ∀ cs y, R cs y → R' cs y) : RdB w lo' hi' n R' v xs := by
  obtain ⟨⟨hm, h | ⟨b, off, sp, cap, css, rfl, hcap, hsp, hc, ha⟩⟩, _⟩ := h
  · exact ⟨⟨hm, .inl h⟩, hb⟩
  · exact ⟨⟨hm, .inr ⟨b, off, sp, cap, css, rfl, hcap, hsp, hc, ha.imp hR⟩⟩, hb⟩
/-- Data: so many cells, and what lies behind them, in blocks from 'lo' on and below 'hi'. -/
class Dat (α : Type) where
  sz : Nat
  R : World → Nat → Nat → List Value → α → Prop
  pos : 0 < sz
  len : ∀ {w lo hi cs x}, R w lo hi cs x → cs.length = sz
  one : ∀ {w lo hi cs x}, R w lo hi cs x → cs.all (·.oneCell') = true
  same : ∀ {w w' lo hi cs x}, R w lo hi cs x → Same w w' lo hi → R w' lo hi cs x
  widen : ∀ {w lo hi lo' hi' cs x}, R w lo hi cs x → lo' ≤ lo → hi ≤ hi' → R w lo' hi' cs x
  any : ∀ {w lo hi cs x}, R w lo hi cs x → R w 0 w.heap.size cs x
instance (priority := 50) Dat.ofEnc {α : Type} [Enc α] : Dat α := ⟨Enc.sz α, fun _ _ _ cs x => cs = enc x, Enc.pos, fun h => h ▸ Enc.len _, fun h => h ▸ Enc.one _, fun h _ => h, fun h _ _ => h, fun h => h⟩
abbrev RdD {α : Type} [Dat α] (w : World) (lo hi : Nat) (v : Value) (xs : List α) : Prop := RdB w lo hi (Dat.sz α) (Dat.R w lo hi) v xs
section
variable {α : Type} [Dat α] {w w' : World} {lo hi lo' hi' : Nat} {v : Value} {xs : List α} {x : Option Nat}
theorem RdD.same (h : RdD w lo hi v xs) (s : Same w w' lo hi) : RdD w' lo hi v xs := RdB.same h s fun _ _ h => Dat.same h s
theorem RdD.ext (h : RdD w lo hi v xs) (e : Ext w w') : RdD w' lo hi v xs := RdD.same h (e.keeps (by simp))
theorem RdD.mod (h : RdD w lo hi v xs) (m : Mod w w' x) (hx : ∀ g, x = some g → g < lo ∨ hi ≤ g) : RdD w' lo hi v xs := RdD.same h (m.keeps hx)
theorem RdD.modR (h : RdD w lo hi v xs) (m : ModR w w' lo' hi') (hx : hi ≤ lo' ∨ hi' ≤ lo) : RdD w' lo hi v xs := RdD.same h (m.keeps hx)
theorem RdD.widen (h : RdD w lo hi v xs) (h1 : lo' ≤ lo) (h2 : hi ≤ hi') : RdD w lo' hi' v xs := RdB.imp h (h.2.imp id fun h => ⟨Nat.le_trans h1 h.1, Nat.lt_of_lt_of_le h.2 h2⟩) fun _ _ h => Dat.widen h h1 h2
theorem RdD.any (h : RdD w lo hi v xs) : RdD w 0 w.heap.size v xs := RdB.imp h (by
  rcases h.2 with hx | _
  · exact .inl hx
  · by_cases hx : xs = []
    · exact .inl hx
    · exact .inr ⟨Nat.zero_le _, h.1.lt hx⟩) fun _ _ h => Dat.any h
theorem RdD.one (h : RdD w lo hi v xs) : v.oneCell' = true := RdL.one h.1
theorem RdD.len (h : RdD w lo hi v xs) : SlLen v xs.length := RdL.len h.1
theorem RdD.get (h : RdD w lo hi v xs) {i : Nat} (hi' : i < xs.length) : ∃ cs, Dat.R w lo hi cs xs[i] ∧ At w (sblk v) (soff v + i * Dat.sz α) cs := by
  obtain ⟨cs, h1, _, h3⟩ := RdL.get h.1 hi'
  exact ⟨cs, h1, h3⟩
theorem RdD.getD [Inhabited α] (h : RdD w lo hi v xs) {i : Nat} (hi' : i < xs.length) : ∃ cs, Dat.R w lo hi cs (List.getD xs i default) ∧ At w (sblk v) (soff v + i * Dat.sz α) cs := by
  rw [show List.getD xs i default = xs[i] from by simp [List.getD, hi']]; exact RdD.get h hi'
theorem RdD.blk (h : RdD w lo hi v xs) {i : Nat} (hi' : i < xs.length) : lo ≤ sblk v ∧ sblk v < hi := h.2.resolve_left fun e => by subst e; simp at hi'
theorem RdD.nil (w : World) (lo hi : Nat) : RdD (α := α) w lo hi (.slice none 0 0) [] := ⟨⟨by simp, .inl ⟨rfl, rfl⟩⟩, .inl rfl⟩
instance : Dat (List α) := ⟨1, fun w lo hi cs xs => ∃ v, cs = [v] ∧ RdD w lo hi v xs, by decide, fun ⟨_, h, _⟩ => by rw [h]; rfl, fun ⟨_, h, hr⟩ => by rw [h]; simp [RdD.one hr],
  fun ⟨v, h, hr⟩ s => ⟨v, h, RdD.same hr s⟩, fun ⟨v, h, hr⟩ h1 h2 => ⟨v, h, RdD.widen hr h1 h2⟩, fun ⟨v, h, hr⟩ => ⟨v, h, RdD.any hr⟩⟩
end
section
variable {α : Type} [Enc α] {w : World} {lo hi : Nat} {v : Value} {xs : List α}
theorem RdD.rd (h : RdD w lo hi v xs) : RdS w v xs := h.1
theorem Own.rdD (h : Own w lo hi (Enc.sz α) v (xs.flatMap enc)) : RdD w lo hi v xs := ⟨h.rd Enc.pos, by
  rcases h with ⟨rfl, hc⟩ | ⟨g, off, len, cap, cur, T, rfl, h1, h2, _⟩
  · left
    cases xs with
    | nil => rfl
    | cons x xs =>
      have hl := congrArg List.length hc
      have hp := Enc.pos (α := α)
      simp only [List.flatMap_cons, List.length_append, Enc.len, List.length_nil] at hl
      omega
  · exact .inr ⟨h1, h2⟩⟩
theorem RdS.getD [Inhabited α] (h : RdS w v xs) {i : Nat} (hi : i < xs.length) : At w (sblk v) (soff v + i * Enc.sz α) (enc (List.getD xs i default)) := by
  rw [show List.getD xs i default = xs[i] from by simp [List.getD, hi]]; exact RdS.get h hi
theorem RdS.rdD (h : RdS w v xs) : RdD w 0 w.heap.size v xs := ⟨h, by
  by_cases hx : xs = []
  · exact .inl hx
  · exact .inr ⟨Nat.zero_le _, RdL.lt h hx⟩⟩
end
theorem all_cons {v : Value} {l : List Value} (h1 : v.oneCell' = true) (h2 : l.all (·.oneCell') = true) : (v :: l).all (·.oneCell') = true := by simp [h1]; simpa using h2
/-! ### a row of such data that is filled from the left -/
def AllD {α : Type} [Dat α] (w : World) (lo hi : Nat) (css : List (List Value)) (xs : List α) : Prop := All2 (Dat.R w lo hi) css xs
section
variable {α : Type} [Dat α] {w w' : World} {lo hi lo' hi' : Nat} {xs : List α} {css : List (List Value)} {x : Option Nat}
theorem AllD.same (h : AllD w lo hi css xs) (s : Same w w' lo hi) : AllD w' lo hi css xs := All2.imp (fun _ _ h => Dat.same h s) h
theorem AllD.ext (h : AllD w lo hi css xs) (e : Ext w w') : AllD w' lo hi css xs := h.same (e.keeps (by simp))
theorem AllD.mod (h : AllD w lo hi css xs) (m : Mod w w' x) (hx : ∀ g, x = some g → g < lo ∨ hi ≤ g) : AllD w' lo hi css xs := h.same (m.keeps hx)
theorem AllD.widen (h : AllD w lo hi css xs) (h1 : lo' ≤ lo) (h2 : hi ≤ hi') : AllD w lo' hi' css xs := All2.imp (fun _ _ h => Dat.widen h h1 h2) h
theorem All2.snoc {β γ : Type} {R : β → γ → Prop} : ∀ {l : List β} {m : List γ} {a : β} {b : γ}, All2 R l m → R a b → All2 R (l ++ [a]) (m ++ [b])
  | [], [], _, _, _, h => ⟨h, trivial⟩
  | [], _ :: _, _, _, hh, _ => hh.elim
  | _ :: _, [], _, _, hh, _ => hh.elim
  | _ :: _, _ :: _, _, _, hh, h => ⟨hh.1, All2.snoc hh.2 h⟩
theorem AllD.step {k : Nat} {cs : List Value} (h : AllD w lo hi css (xs.take k)) (hk : k < xs.length) (h' : Dat.R w lo' hi' cs xs[k]) (h1 : lo ≤ lo') (h2 : hi' ≤ hi) : AllD w lo hi (css ++ [cs]) (xs.take (k + 1)) := by
  rw [List.take_succ_eq_append_getElem hk]
  exact All2.snoc h (Dat.widen h' h1 h2)
theorem AllD.flat (h : AllD w lo hi css xs) : css.flatten.length = css.length * Dat.sz α := by
  have : ∀ {css : List (List Value)} {xs : List α}, AllD w lo hi css xs → css.flatten.length = css.length * Dat.sz α := by
    intro css
    induction css with
    | nil => intro xs _; simp
    | cons c css ih =>
      intro xs h
      cases xs with
      | nil => exact h.elim
      | cons x xs =>
        have h0 : Dat.R w lo hi c x := h.1
        simp only [List.flatten_cons, List.length_append, Dat.len h0, ih h.2, List.length_cons, Nat.add_mul]
        omega
  exact this h
theorem AllD.at : ∀ {css : List (List Value)} {xs : List α}, AllD w lo hi css xs → ∀ (i j : Nat) (c : List Value), css[i]? = some c → j < Dat.sz α → css.flatten[i * Dat.sz α + j]? = c[j]?
  | [], _, _, i, j, c, hc, _ => by simp at hc
  | _ :: _, [], h, _, _, _, _, _ => h.elim
  | c :: css, x :: xs, h, 0, j, c', hc, hj => by
    have h0 : Dat.R w lo hi c x := h.1
    simp only [List.getElem?_cons_zero, Option.some.injEq] at hc
    subst hc
    rw [List.flatten_cons, Nat.zero_mul, Nat.zero_add, List.getElem?_append_left (by rw [Dat.len h0]; exact hj)]
  | c :: css, x :: xs, h, i + 1, j, c', hc, hj => by
    have h0 : Dat.R w lo hi c x := h.1
    rw [List.flatten_cons, List.getElem?_append_right (by rw [Dat.len h0, Nat.add_mul]; omega), Dat.len h0]
    rw [show (i + 1) * Dat.sz α + j - Dat.sz α = i * Dat.sz α + j from by rw [Nat.add_mul]; omega]
    exact AllD.at h.2 i j c' (by simpa using hc) hj
theorem RdD.ofBlk {b n : Nat} (hb : Blk w b css.flatten) (h : AllD w lo hi css xs) (h1 : lo' ≤ lo) (h2 : hi ≤ hi') (h3 : lo' ≤ b) (h4 : b < hi') (hn : xs.length = n) (hm : n ≤ maxLen) : RdD w lo' hi' (.slice (some ⟨b, 0, none⟩) n n) xs := by
  subst hn
  refine ⟨⟨hm, .inr ⟨b, 0, none, _, css, rfl, Nat.le_refl _, fun _ => rfl, fun i cs hi => ?_, h.widen h1 h2⟩⟩, .inr ⟨h3, h4⟩⟩
  have hlt := (List.getElem?_eq_some_iff.1 hi).1
  have hl := All2.length h
  have hr := All2.get h i hlt (by omega)
  rw [List.getElem?_eq_getElem hlt, Option.some.injEq] at hi
  have hlen : cs.length = Dat.sz α := by rw [← hi]; exact Dat.len hr
  refine ⟨hlen, ?_⟩
  obtain ⟨T, hb⟩ := hb
  refine ⟨_, T, (0, 0), hb, fun j u hj => ?_⟩
  have hjl := (List.getElem?_eq_some_iff.1 hj).1
  rw [Nat.zero_add, List.getElem?_toArray, AllD.at h i j cs (by rw [List.getElem?_eq_getElem hlt, hi]) (by omega)]
  exact hj
/-- 'css' laid, 'm' zeros behind them. -/
def mkc (css : List (List Value)) (z : List Value) (m : Nat) : List Value := css.flatten ++ (List.replicate m z).flatten
theorem mkc_length {z : List Value} {k n : Nat} (h : AllD w lo hi css xs) (hk : css.length = k) (hz : z.length = Dat.sz α) (hn : k ≤ n) : (mkc css z (n - k)).length = n * Dat.sz α := by
  simp only [mkc, List.length_append, h.flat, flat_rep, hz, hk, ← Nat.add_mul]
  congr 1; omega
theorem mkc_room {z : List Value} {k n m : Nat} (h : AllD w lo hi css xs) (hk : css.length = k) (hz : z.length = Dat.sz α) (hn : k < n) (hm : m = Dat.sz α) : k * Dat.sz α + m ≤ (mkc css z (n - k)).length := by
  rw [mkc_length h hk hz (Nat.le_of_lt hn), hm]
  have := Nat.mul_le_mul_right (Dat.sz α) (show k + 1 ≤ n by omega)
  rwa [Nat.add_mul, Nat.one_mul] at this
theorem mkc_step {z cs : List Value} {k n : Nat} (h : AllD w lo hi css xs) (hk : css.length = k) (hz : z.length = Dat.sz α) (hn : k < n) (hc : cs.length = Dat.sz α) : spl (mkc css z (n - k)) (k * Dat.sz α) cs = mkc (css ++ [cs]) z (n - (k + 1)) := by
  rw [spl_eq _ _ _ (by rw [hc]; exact mkc_room h hk hz hn rfl), hc]
  have ht : css.flatten.length = k * Dat.sz α := by rw [h.flat, hk]
  obtain ⟨m, hm⟩ : ∃ m, n - k = m + 1 := ⟨n - k - 1, by omega⟩
  have e1 : List.take (k * Dat.sz α) (mkc css z (n - k)) = css.flatten := by
    unfold mkc; rw [← ht]; exact List.take_left
  have e2 : List.drop (k * Dat.sz α + Dat.sz α) (mkc css z (n - k)) = (List.replicate m z).flatten := by
    unfold mkc
    rw [← ht, List.drop_append, List.drop_of_length_le (by omega), List.nil_append, hm, List.replicate_succ, List.flatten_cons]
    rw [show css.flatten.length + Dat.sz α - css.flatten.length = z.length from by omega]
    exact List.drop_left
  rw [e1, e2]
  unfold mkc
  rw [show n - (k + 1) = m from by omega]
  simp
theorem mkc_all (css : List (List Value)) (z : List Value) : mkc css z 0 = css.flatten := by simp [mkc]
end
end Go.Proofs.YtpkimhbibjpcpaaDoor.X

namespace Go.Proofs.YtpkimhbibjpcpaaDoor.X
open Go
open Enc (enc)
/-- What a reading of type 't' tells of the cells. -/
def Dec (P : Program) (t : TypeId) {α : Type} (R : World → List Value → α → Prop) : Prop :=
  ∀ {H : Type} (en : TypeId × Value → H) (w : World) (fuel : Nat) (cs : List Value) (x : DataW H × List MemPlace), DataW.trod en P w 0 (fun _ => true) true fuel t cs = some x → ∃ y, R w cs y
theorem wf_rg {n : Int} (h : (Lit.int .i64 n).wf = true) : rg n := by
  simp only [Lit.wf, Bool.and_eq_true, decide_eq_true_eq] at h
  have h1 : IntKind.i64.min = -9223372036854775808 := by decide
  have h2 : IntKind.i64.max = 9223372036854775807 := by decide
  unfold rg; omega
theorem Dec_int {P : Program} {t : TypeId} (ht : P.underlying t = some (.int .i64)) : Dec P t (fun _ cs (n : Int) => cs = enc n ∧ rg n) := fun _ _ _ _ _ h => by
  obtain ⟨n, rfl, _, hw⟩ := DataW.trod_int ht h
  exact ⟨n, rfl, wf_rg hw⟩
theorem Dec_bool {P : Program} {t : TypeId} (ht : P.underlying t = some .bool) : Dec P t (fun _ cs (b : Bool) => cs = enc b ∧ True) := fun _ _ _ _ _ h => by
  obtain ⟨n, rfl, _⟩ := DataW.trod_bool ht h
  exact ⟨n, rfl, trivial⟩
theorem Dec.mono {P : Program} {t : TypeId} {α β : Type} {R : World → List Value → α → Prop} {R' : World → List Value → β → Prop} (h : Dec P t R) (hr : ∀ w cs x, R w cs x → ∃ y, R' w cs y) : Dec P t R' := fun en w fuel cs x hx => by
  obtain ⟨y, hy⟩ := h en w fuel cs x hx
  exact hr _ _ _ hy
theorem exists_list {α β : Type} {R : α → β → Prop} : ∀ (l : List α), (∀ x ∈ l, ∃ y, R x y) → ∃ m : List β, All2 R l m
  | [], _ => ⟨[], trivial⟩
  | x :: l, h => by
    obtain ⟨y, hy⟩ := h x (by simp)
    obtain ⟨m, hm⟩ := exists_list l (fun z hz => h z (by simp [hz]))
    exact ⟨y :: m, hy, hm⟩
/-- A slice: one cell, that reads as a list. -/
theorem Dec_slice {P : Program} {t e : TypeId} {α : Type} {R : World → List Value → α → Prop} {sz : Nat} (ht : P.underlying t = some (.slice e)) (hs : P.cellsOf e = sz) (hp : 0 < sz) (he : Dec P e R) :
    Dec P t (fun w cs (xs : List α) => ∃ v, cs = [v] ∧ RdL w sz (R w) v xs) := fun en w fuel cs x h => by
  subst hs
  rcases Go.Deep.open_slice ht h with ⟨rfl, _⟩ | ⟨a, len, cap, m, n, D, Pl, rfl, hb, hl, hm, hmm, _, hx⟩
  · exact ⟨[], _, rfl, by simp, .inl ⟨rfl, rfl⟩⟩
  · simp only [if_true] at hmm
    subst hmm
    obtain ⟨css, hcss⟩ : ∃ css : List (List Value), All2 (fun i cs => w.cells? 0 (a.add (i * P.cellsOf e)) (P.cellsOf e) = some cs ∧ DataW.trod en P w 0 (fun _ => true) true n e cs = some (D i, Pl i)) (List.range len) css :=
      exists_list _ (fun i hi => hx i (by have := List.mem_range.1 hi; omega))
    have hlen : css.length = len := by rw [← hcss.length]; simp
    have hget : ∀ i cs, css[i]? = some cs → w.cells? 0 (a.add (i * P.cellsOf e)) (P.cellsOf e) = some cs ∧ DataW.trod en P w 0 (fun _ => true) true n e cs = some (D i, Pl i) := fun i cs hi => by
      obtain ⟨hlt, rfl⟩ := List.getElem?_eq_some_iff.1 hi
      have := hcss.get i (by simp; omega) hlt
      simpa using this
    obtain ⟨xs, hxs⟩ := exists_list (R := R w) css (fun cs hcs => by
      obtain ⟨i, hi⟩ := List.getElem?_of_mem hcs
      exact he en w n cs _ (hget i cs hi).2)
    have hxl : xs.length = len := by rw [← hxs.length, hlen]
    refine ⟨xs, _, rfl, by omega, .inr ⟨a.block, a.off, a.spot, _, css, by rw [hxl], by omega, fun hne => ?_, fun i cs hi => ?_, hxs⟩⟩
    · have h0 : 0 < css.length := by rw [hlen, ← hxl]; exact List.length_pos_iff.2 hne
      have := (World.cells?_some (hget 0 _ (List.getElem?_eq_getElem h0)).1).2
      have hc := this.2 0 hp
      rw [List.getElem?_eq_getElem (by omega)] at hc
      have := World.cell?_spot hc
      simpa [Addr.add] using this
    · have h1 := World.cells?_some (hget i cs hi).1
      refine ⟨h1.2.1, ?_⟩
      have hc0 := h1.2.2 0 hp
      rw [List.getElem?_eq_getElem (by omega)] at hc0
      have hadd : ∀ j, ((a.add (i * P.cellsOf e)).add j).block = a.block ∧ ((a.add (i * P.cellsOf e)).add j).off = a.off + i * P.cellsOf e + j := fun j => by
        unfold Addr.add; repeat' split
        all_goals simp_all
      have hblk : ∃ c T fz, w.heap[a.block]? = some (.cells c T fz) := by
        unfold World.cell? at hc0
        rw [(hadd 0).1] at hc0
        split at hc0
        · exact ⟨_, _, _, by assumption⟩
        · cases hc0
      obtain ⟨c, T, fz, hb⟩ := hblk
      refine ⟨c, T, fz, hb, fun j u hj => ?_⟩
      have hjl := (List.getElem?_eq_some_iff.1 hj).1
      have := h1.2.2 j (by omega)
      rw [hj] at this
      unfold World.cell? at this
      rw [(hadd j).1, hb, (hadd j).2] at this
      simp only at this
      split at this
      · cases this
      · exact this
/-- A struct: each field by its own cells. -/
theorem struct_cells {P : Program} {t : TypeId} {fs : Array Field} {H : Type} {en : TypeId × Value → H} {w : World} {fuel : Nat} {cs : List Value} {x : DataW H × List MemPlace} (ht : P.underlying t = some (.struct fs)) (h : DataW.trod en P w 0 (fun _ => true) true fuel t cs = some x) :
    cs.length = P.cellsOf t ∧ ∃ n, ∀ (i : Nat) (f : Field) (off sz ft : Nat), fs[i]? = some f → f.type = ft → f.offset = off → P.cellsOf ft = sz → ∃ y, DataW.trod en P w 0 (fun _ => true) true n ft ((cs.drop off).take sz) = some y := by
  obtain ⟨xs, n, _, _, hl, hxl, hf⟩ := DataW.trod_struct ht h
  refine ⟨hl, n, fun i f off sz ft hi h1 h2 h3 => ?_⟩
  subst h1 h2 h3
  have hlt : i < fs.size := (Array.getElem?_eq_some_iff.1 hi).1
  have := hf i f hi
  rw [List.getElem?_eq_getElem (by omega)] at this
  exact ⟨_, this⟩
theorem RdL.toD {α : Type} [Dat α] {w : World} {v : Value} {xs : List α} (h : RdL w (Dat.sz α) (Dat.R w 0 w.heap.size) v xs) : RdD w 0 w.heap.size v xs := ⟨h, by
  by_cases hx : xs = []
  · exact .inl hx
  · exact .inr ⟨Nat.zero_le _, RdL.lt h hx⟩⟩
theorem RdL.left {α : Type} {w : World} {n : Nat} {R : List Value → α → Prop} {ok : α → Prop} {v : Value} {xs : List α} (h : RdL w n (fun cs x => R cs x ∧ ok x) v xs) : RdL w n R v xs ∧ ∀ x ∈ xs, ok x := by
  obtain ⟨hm, ⟨rfl, rfl⟩ | ⟨b, off, sp, cap, css, rfl, hcap, hsp, hc, ha⟩⟩ := h
  · exact ⟨⟨hm, .inl ⟨rfl, rfl⟩⟩, by simp⟩
  · refine ⟨⟨hm, .inr ⟨b, off, sp, cap, css, rfl, hcap, hsp, hc, ha.imp fun _ _ h => h.1⟩⟩, fun x hx => ?_⟩
    obtain ⟨i, hi, rfl⟩ := List.mem_iff_getElem.1 hx
    exact (ha.get i (by have := ha.length; omega) hi).2
theorem Dec_sliceO {P : Program} {t e : TypeId} {α : Type} {R : World → List Value → α → Prop} {ok : α → Prop} {sz : Nat} (ht : P.underlying t = some (.slice e)) (hs : P.cellsOf e = sz) (hp : 0 < sz) (he : Dec P e (fun w cs x => R w cs x ∧ ok x)) :
    Dec P t (fun w cs (xs : List α) => (∃ v, cs = [v] ∧ RdL w sz (R w) v xs) ∧ ∀ y ∈ xs, ok y) :=
  Dec.mono (Dec_slice ht hs hp he) fun _ _ xs ⟨v, h1, h2⟩ => ⟨xs, ⟨v, h1, (RdL.left h2).1⟩, (RdL.left h2).2⟩
theorem Dec_sliceD {P : Program} {t e : TypeId} {α : Type} [Dat α] {ok : α → Prop} (ht : P.underlying t = some (.slice e)) (hs : P.cellsOf e = Dat.sz α) (he : Dec P e (fun w cs (x : α) => Dat.R w 0 w.heap.size cs x ∧ ok x)) :
    Dec P t (fun w cs (xs : List α) => (∃ v, cs = [v] ∧ RdD w 0 w.heap.size v xs) ∧ ∀ y ∈ xs, ok y) :=
  Dec.mono (Dec_slice ht hs Dat.pos he) fun _ _ xs ⟨v, h1, h2⟩ => ⟨xs, ⟨v, h1, RdL.toD (RdL.left h2).1⟩, (RdL.left h2).2⟩
open Go.ChangeShapes Go.WideShapes Go.ChangeAt
theorem open_st {P : Program} {t : TypeId} {fs : Array Field} {α : Type} {R : World → List Value → α → Prop} {H : Type} {en : TypeId × Value → H} {w : World} {r : Reach} {b0 : Nat} {v : Value} {d : DataW H} {p : List MemPlace}
    (ht : P.underlying t = some (.struct fs)) (hd : Dec P t R) (hv : Value.okWide P w r b0 t v) (h : DataW.Trod en P w 0 (fun _ => true) true t v d p) : ∃ (cs : List Value) (x : α), v = .agg cs.toArray ∧ R w cs x := by
  obtain ⟨cs, rfl, _⟩ := okWide_struct ht hv
  obtain ⟨fuel, hf⟩ := h
  obtain ⟨y, hy⟩ := hd en w fuel _ _ hf
  exact ⟨cs.toList, y, by simp, hy⟩
theorem open_sl {P : Program} {t e : TypeId} {α : Type} {Q : World → Value → α → Prop} {ok : α → Prop} {H : Type} {en : TypeId × Value → H} {w : World} {r : Reach} {b0 : Nat} {v : Value} {d : DataW H} {p : List MemPlace}
    (ht : P.underlying t = some (.slice e)) (hd : Dec P t (fun w cs (xs : α) => (∃ v, cs = [v] ∧ Q w v xs) ∧ ok xs)) (hv : Value.okWide P w r b0 t v) (h : DataW.Trod en P w 0 (fun _ => true) true t v d p) : ∃ xs : α, Q w v xs ∧ ok xs := by
  obtain ⟨a, len, cap, rfl⟩ := okWide_slice ht hv
  obtain ⟨fuel, hf⟩ := h
  obtain ⟨y, ⟨u, hu, hy⟩, hk⟩ := hd en w fuel _ _ hf
  simp only [Value.cells, List.cons.injEq, and_true] at hu
  subst hu
  exact ⟨y, hy, hk⟩
theorem open_i {P : Program} {t : TypeId} {H : Type} {en : TypeId × Value → H} {w : World} {r : Reach} {b0 : Nat} {v : Value} {d : DataW H} {p : List MemPlace}
    (ht : P.underlying t = some (.int .i64)) (hv : Value.okWide P w r b0 t v) (h : DataW.Trod en P w 0 (fun _ => true) true t v d p) : ∃ n, v = .int .i64 n ∧ rg n := by
  obtain ⟨n, rfl⟩ := okWide_int ht hv
  obtain ⟨fuel, hf⟩ := h
  obtain ⟨m, hm, hk⟩ := Dec_int ht en w fuel _ _ hf
  simp [Value.cells, enc] at hm
  exact ⟨n, rfl, hm ▸ hk⟩
theorem trod_below {H : Type} {en : TypeId × Value → H} {P : Program} {w : World} {t : TypeId} {v : Value} {d : DataW H} {p : List MemPlace} (h : DataW.Trod en P w 0 (fun _ => true) true t v d p) : ∀ x ∈ p, x.block < w.heap.size := by
  obtain ⟨m, hm⟩ := h; exact DataW.trod_lt m _ _ _ hm
end Go.Proofs.YtpkimhbibjpcpaaDoor.X

namespace Go.Proofs.YtpkimhbibjpcpaaDoor.X
open Go
open Enc (enc)
/-! ### blocks that do not meet -/
def blks (v : Value) : List Nat := v.ownBlock.toList
def bl (v : Value) : Nat := v.ownBlock.getD 0
def bh (v : Value) : Nat := match v.ownBlock with
  | some g => g + 1
  | none => 0
def Sep (v u : Value) : Prop := ∀ g, v.ownBlock = some g → u.ownBlock ≠ some g
theorem Sep.symm {v u : Value} (h : Sep v u) : Sep u v := fun g hg he => h g he hg
def SepA (v : Value) : List Value → Prop
  | [] => True
  | u :: us => Sep v u ∧ SepA v us
def SepL : List Value → Prop
  | [] => True
  | v :: vs => SepA v vs ∧ SepL vs
section
variable {w w' : World} {lo hi lo' hi' sz sz' : Nat} {v u : Value} {cs cs' : List Value} {x : Option Nat}
theorem Own.sep (h : Own w lo hi sz v cs) (k : Own w' lo' hi' sz' u cs') (hd : hi ≤ lo' ∨ hi' ≤ lo) : Sep v u := fun g hg he => by
  have := h.blk g hg
  have := k.blk g he
  omega
theorem Own.tight (h : Own w lo hi sz v cs) : Own w (bl v) (bh v) sz v cs := by
  rcases h with h | ⟨g, off, len, cap, cur, T, rfl, h1, h2, h3⟩
  · exact .inl h
  · exact .inr ⟨g, off, len, cap, cur, T, rfl, Nat.le_refl _, Nat.lt_succ_self _, h3⟩
theorem Own.loose (h : Own w (bl v) (bh v) sz v cs) (hi' : ∀ g, v.ownBlock = some g → lo ≤ g ∧ g < hi) : Own w lo hi sz v cs := by
  rcases h with h | ⟨g, off, len, cap, cur, T, rfl, _, _, h3⟩
  · exact .inl h
  · have := hi' g rfl
    exact .inr ⟨g, off, len, cap, cur, T, rfl, this.1, this.2, h3⟩
theorem Own.modS (h : Own w lo hi sz u cs) (m : Mod w w' v.ownBlock) (s : Sep v u) : Own w' lo hi sz u cs := by
  rcases h with h | ⟨g, off, len, cap, cur, T, rfl, h1, h2, hb, h3⟩
  · exact .inl h
  · exact .inr ⟨g, off, len, cap, cur, T, rfl, h1, h2, m.some hb (fun e => s g e rfl), h3⟩
theorem Own.modRS (h : Own w lo hi sz u cs) (m : ModR w w' (bl v) (bh v)) (s : Sep v u) : Own w' lo hi sz u cs := by
  rcases h with h | ⟨g, off, len, cap, cur, T, rfl, h1, h2, hb, h3⟩
  · exact .inl h
  · refine .inr ⟨g, off, len, cap, cur, T, rfl, h1, h2, m.some hb ?_, h3⟩
    cases hv : v.ownBlock with
    | none => simp [bl, bh, hv]
    | some g' =>
      have : g' ≠ g := fun e => s g' hv (by rw [e]; rfl)
      simp only [bl, bh, hv, Option.getD_some]; omega
theorem ModR.loose (m : ModR w w' (bl v) (bh v)) (h : ∀ g, v.ownBlock = Option.some g → lo ≤ g ∧ g < hi) : ModR w w' lo hi := by
  refine ⟨m.os, m.tape, m.output, m.size, fun k hk hx => m.block k hk ?_, m.drawn⟩
  cases hv : v.ownBlock with
  | none => simp [bl, bh, hv]
  | some g' =>
    have := h g' hv
    simp only [bl, bh, hv, Option.getD_some]; omega
theorem ModR.ofMod (m : Mod w w' v.ownBlock) (h : ∀ g, v.ownBlock = Option.some g → lo ≤ g ∧ g < hi) : ModR w w' lo hi :=
  ⟨m.os, m.tape, m.output, m.size, fun k hk hx => m.block k hk (fun e => by have := h k e; omega), m.drawn⟩
end
/-! ### what stands in a list of blocks has not turned -/
def Kp (w w' : World) (l : List Nat) : Prop := w.heap.size ≤ w'.heap.size ∧ ∀ b ∈ l, b < w.heap.size → w'.heap[b]? = w.heap[b]?
theorem Own.kp {w w' : World} {lo hi sz : Nat} {v : Value} {cs : List Value} (h : Own w lo hi sz v cs) (k : Kp w w' (blks v)) : Own w' lo hi sz v cs := by
  rcases h with h | ⟨g, off, len, cap, cur, T, rfl, h1, h2, hb, h3⟩
  · exact .inl h
  · exact .inr ⟨g, off, len, cap, cur, T, rfl, h1, h2, (k.2 g (by simp [blks, Value.ownBlock]) (Array.getElem?_eq_some_iff.1 hb).1).trans hb, h3⟩
theorem Kp.sub {w w' : World} {l l' : List Nat} (k : Kp w w' l) (h : ∀ b ∈ l', b ∈ l) : Kp w w' l' := ⟨k.1, fun b hb => k.2 b (h b hb)⟩
theorem Mod.kp {w w' : World} {x : Option Nat} {l : List Nat} (m : Mod w w' x) (h : ∀ g, x = Option.some g → g ∉ l) : Kp w w' l := ⟨m.size, fun b hb hl => m.block b hl (fun e => h b e hb)⟩
theorem ModR.kp {w w' : World} {lo hi : Nat} {l : List Nat} (m : ModR w w' lo hi) (h : ∀ b ∈ l, b < lo ∨ hi ≤ b) : Kp w w' l := ⟨m.size, fun b hb hl => m.block b hl (h b hb)⟩
theorem Ext.kp {w w' : World} {l : List Nat} (e : Ext w w') : Kp w w' l := ⟨e.size, fun _ _ hl => e.same hl⟩
def fpr (cs : List Value) : List Nat := cs.flatMap blks
/-- Structs whose slices are flat: the call's own. -/
class Own1 (α : Type) extends Dat α where
  O : World → Nat → Nat → List Value → α → Prop
  rd : ∀ {w lo hi cs x}, O w lo hi cs x → R w lo hi cs x
  kp : ∀ {w w' lo hi cs x}, O w lo hi cs x → Kp w w' (fpr cs) → O w' lo hi cs x
  wide : ∀ {w lo hi lo' hi' cs x}, O w lo hi cs x → lo' ≤ lo → hi ≤ hi' → O w lo' hi' cs x
  inn : ∀ {w lo hi cs x}, O w lo hi cs x → ∀ b ∈ fpr cs, lo ≤ b ∧ b < hi ∧ b < w.heap.size
  nd : ∀ {w lo hi cs x}, O w lo hi cs x → (fpr cs).Nodup
section
variable {α : Type} [Own1 α] {w w' : World} {lo hi lo' hi' : Nat} {v : Value} {xs as bs : List α} {x : Option Nat} {cs : List Value}
/-- A slice of such structs, the call's own. -/
def OwS (w : World) (lo hi : Nat) (v : Value) (xs : List α) : Prop :=
  ∃ css, Own w lo hi (Dat.sz α) v css.flatten ∧ All2 (Own1.O w lo hi) css xs ∧ (blks v ++ css.flatMap fpr).Nodup
theorem fpr_flatten (css : List (List Value)) : fpr css.flatten = css.flatMap fpr := by
  induction css with
  | nil => rfl
  | cons c css ih => simp only [List.flatten_cons, List.flatMap_cons, ← ih, fpr, List.flatMap_append]
theorem All2.mem {β γ : Type} {R : β → γ → Prop} : ∀ {l : List β} {m : List γ}, All2 R l m → ∀ a ∈ l, ∃ b, R a b
  | [], [], _, _, h => by simp at h
  | [], _ :: _, hh, _, _ => hh.elim
  | _ :: _, [], hh, _, _ => hh.elim
  | a :: l, b :: m, hh, c, h => by
    rcases List.mem_cons.1 h with rfl | h
    · exact ⟨b, hh.1⟩
    · exact All2.mem hh.2 c h
theorem All2.impm {β γ : Type} {R R' : β → γ → Prop} : ∀ {l : List β} {m : List γ}, (∀ a ∈ l, ∀ b, R a b → R' a b) → All2 R l m → All2 R' l m
  | [], [], _, _ => trivial
  | [], _ :: _, _, hh => hh.elim
  | _ :: _, [], _, hh => hh.elim
  | a :: l, b :: m, h, hh => ⟨h a (by simp) _ hh.1, All2.impm (fun c hc => h c (by simp [hc])) hh.2⟩
theorem all2_inn {css : List (List Value)} (h : All2 (Own1.O w lo hi) css xs) : ∀ b ∈ css.flatMap fpr, lo ≤ b ∧ b < hi ∧ b < w.heap.size := fun b hb => by
  obtain ⟨cs, hc, hb⟩ := List.mem_flatMap.1 hb
  obtain ⟨y, hy⟩ := All2.mem h cs hc
  exact Own1.inn hy b hb
theorem all2_kp {css : List (List Value)} (h : All2 (Own1.O w lo hi) css xs) (k : Kp w w' (css.flatMap fpr)) : All2 (Own1.O w' lo hi) css xs :=
  All2.impm (fun cs hc _ hy => Own1.kp hy (k.sub fun _ hb => List.mem_flatMap.2 ⟨cs, hc, hb⟩)) h
theorem mem_blks {g : Nat} : g ∈ blks v ↔ v.ownBlock = some g := by cases h : v.ownBlock <;> simp [blks, h, eq_comm]
theorem OwS.kp {css : List (List Value)} (h1 : Own w lo hi (Dat.sz α) v css.flatten) (h2 : All2 (Own1.O w lo hi) css xs) (h3 : (blks v ++ css.flatMap fpr).Nodup) (k : Kp w w' (blks v ++ css.flatMap fpr)) : OwS w' lo hi v xs :=
  ⟨css, h1.kp (k.sub fun _ hb => List.mem_append.2 (.inl hb)), all2_kp h2 (k.sub fun _ hb => List.mem_append.2 (.inr hb)), h3⟩
theorem OwS.same (h : OwS w lo hi v xs) (s : Same w w' lo hi) : OwS w' lo hi v xs := by
  obtain ⟨css, h1, h2, h3⟩ := h
  refine OwS.kp h1 h2 h3 ⟨s.size, fun b hb hl => ?_⟩
  rcases List.mem_append.1 hb with hb | hb
  · have := h1.blk b (mem_blks.1 hb)
    exact s.block b this.1 this.2 hl
  · have := all2_inn h2 b hb
    exact s.block b this.1 this.2.1 hl
theorem OwS.ext (h : OwS w lo hi v xs) (e : Ext w w') : OwS w' lo hi v xs := h.same (e.keeps (by simp))
theorem OwS.mod (h : OwS w lo hi v xs) (m : Mod w w' x) (hx : ∀ g, x = some g → g < lo ∨ hi ≤ g) : OwS w' lo hi v xs := h.same (m.keeps hx)
theorem OwS.modR (h : OwS w lo hi v xs) (m : ModR w w' lo' hi') (hx : hi ≤ lo' ∨ hi' ≤ lo) : OwS w' lo hi v xs := h.same (m.keeps hx)
theorem OwS.widen (h : OwS w lo hi v xs) (h1 : lo' ≤ lo) (h2 : hi ≤ hi') : OwS w lo' hi' v xs := by
  obtain ⟨css, a, b, c⟩ := h
  exact ⟨css, a.widen h1 h2, All2.imp (fun _ _ h => Own1.wide h h1 h2) b, c⟩
/-- The rows of a slice, each by its cells. -/
theorem flat_row {β : Type} {R : List Value → β → Prop} {n : Nat} : ∀ {css : List (List Value)} {xs : List β}, All2 R css xs → (∀ c y, R c y → c.length = n) → css.flatten.length = css.length * n
  | [], [], _, _ => by simp
  | [], _ :: _, h, _ => h.elim
  | _ :: _, [], h, _ => h.elim
  | c :: css, y :: ys, h, hl => by
    have := flat_row h.2 hl
    simp only [List.flatten_cons, List.length_append, hl _ _ h.1, this, List.length_cons, Nat.add_mul]; omega
theorem OwS.rd (h : OwS w lo hi v xs) : RdD w lo hi v xs := by
  obtain ⟨css, h1, h2, _⟩ := h
  have h2' : AllD w lo hi css xs := All2.imp (fun _ _ h => Own1.rd h) h2
  have hl := All2.length h2
  rcases h1 with ⟨rfl, hc⟩ | ⟨g, off, len, cap, cur, T, rfl, ha, hb, hw, h4, h5, h6, h7, h8⟩
  · have hf := AllD.flat h2'
    rw [hc] at hf
    have hp := Dat.pos (α := α)
    have : css.length = 0 := by
      rcases Nat.eq_zero_or_pos css.length with h | h
      · exact h
      · have := Nat.mul_pos h hp
        simp at hf; omega
    obtain rfl : xs = [] := List.eq_nil_of_length_eq_zero (by omega)
    exact RdD.nil _ _ _
  · rw [AllD.flat h2', hl] at h7
    have hlen : xs.length = len := Nat.eq_of_mul_eq_mul_right Dat.pos h7
    subst hlen
    refine ⟨⟨by omega, .inr ⟨g, off, none, cap, css, rfl, h4, fun _ => rfl, fun i cs hi => ?_, h2'⟩⟩, .inr ⟨ha, hb⟩⟩
    have hlt := (List.getElem?_eq_some_iff.1 hi).1
    have hr := All2.get h2' i hlt (by omega)
    rw [List.getElem?_eq_getElem hlt, Option.some.injEq] at hi
    have hlen : cs.length = Dat.sz α := by rw [← hi]; exact Dat.len hr
    refine ⟨hlen, _, T, (0, 0), hw, fun j u hj => ?_⟩
    have hjl := (List.getElem?_eq_some_iff.1 hj).1
    rw [Nat.add_assoc]
    exact h8 _ u (by rw [AllD.at h2' i j cs (by rw [List.getElem?_eq_getElem hlt, hi]) (by omega)]; exact hj)
theorem OwS.nil (w : World) (lo hi : Nat) : OwS (α := α) w lo hi (.slice none 0 0) [] := ⟨[], Own.nil _ _ _ _, trivial, by simp [blks, Value.ownBlock]⟩
theorem OwS.inn (h : OwS w lo hi v xs) : ∀ g, v.ownBlock = some g → lo ≤ g ∧ g < hi := by
  obtain ⟨css, h1, _⟩ := h
  exact h1.blk

/-! ### the row that a loop is at -/
/-- The slice 'v' but for one row, whose cells are 'cs': what stands before it reads 'as', what stands behind it 'bs'. -/
def Row (w : World) (lo hi : Nat) (v : Value) (as : List α) (cs : List Value) (bs : List α) : Prop :=
  ∃ ca cb, Own w lo hi (Dat.sz α) v (ca ++ cs :: cb).flatten ∧ All2 (Own1.O w lo hi) ca as ∧ All2 (Own1.O w lo hi) cb bs ∧ cs.length = Dat.sz α ∧
    (blks v ++ (ca.flatMap fpr ++ (fpr cs ++ cb.flatMap fpr))).Nodup
theorem all2_append {β γ : Type} {R : β → γ → Prop} : ∀ {l : List β} {a b : List γ}, All2 R l (a ++ b) → ∃ l1 l2, l = l1 ++ l2 ∧ All2 R l1 a ∧ All2 R l2 b
  | l, [], b, h => ⟨[], l, rfl, trivial, h⟩
  | [], _ :: _, _, h => h.elim
  | x :: l, y :: a, b, h => by
    obtain ⟨l1, l2, e, h1, h2⟩ := all2_append (a := a) h.2
    exact ⟨x :: l1, l2, by rw [e]; rfl, ⟨h.1, h1⟩, h2⟩
theorem all2_join {β γ : Type} {R : β → γ → Prop} : ∀ {l : List β} {a : List γ} {l' : List β} {b : List γ}, All2 R l a → All2 R l' b → All2 R (l ++ l') (a ++ b)
  | [], [], _, _, _, h => h
  | [], _ :: _, _, _, h, _ => h.elim
  | _ :: _, [], _, _, h, _ => h.elim
  | _ :: _, _ :: _, _, _, h, h' => ⟨h.1, all2_join h.2 h'⟩
variable {y : α}
theorem OwS.focus (h : OwS w lo hi v (as ++ y :: bs)) : ∃ cs, Own1.O w lo hi cs y ∧ Row w lo hi v as cs bs := by
  obtain ⟨css, h1, h2, h3⟩ := h
  obtain ⟨ca, l2, rfl, ha, hb⟩ := all2_append h2
  cases l2 with
  | nil => exact hb.elim
  | cons cs cb =>
    refine ⟨cs, hb.1, ca, cb, h1, ha, hb.2, Dat.len (Own1.rd hb.1), ?_⟩
    simpa only [List.flatMap_append, List.flatMap_cons] using h3
theorem Row.close (h : Row w lo hi v as cs bs) (hy : Own1.O w lo hi cs y) : OwS w lo hi v (as ++ y :: bs) := by
  obtain ⟨ca, cb, h1, ha, hb, _, hn⟩ := h
  exact ⟨ca ++ cs :: cb, h1, all2_join ha ⟨hy, hb⟩, by simpa only [List.flatMap_append, List.flatMap_cons] using hn⟩
theorem Row.blk (h : Row w lo hi v as cs bs) : ∀ g, v.ownBlock = some g → lo ≤ g ∧ g < hi := by
  obtain ⟨ca, cb, h1, _⟩ := h
  exact h1.blk
theorem Row.kp (h : Row w lo hi v as cs bs) (k : ∀ l, (∀ b ∈ l, b ∉ fpr cs) → (∀ b ∈ l, lo ≤ b ∧ b < hi) → Kp w w' l) : Row w' lo hi v as cs bs := by
  obtain ⟨ca, cb, h1, ha, hb, hl, hn⟩ := h
  have hn' := List.nodup_append.1 hn
  have hn2 := List.nodup_append.1 hn'.2.1
  have hn3 := List.nodup_append.1 hn2.2.1
  refine ⟨ca, cb, h1.kp (k _ (fun b hb hc => hn'.2.2 b hb b (by simp [hc]) rfl) fun b hb => h1.blk b (mem_blks.1 hb)), all2_kp ha (k _ (fun b hb hc => hn2.2.2 b hb b (by simp [hc]) rfl) fun b hb => ?_),
    all2_kp hb (k _ (fun b hb hc => hn3.2.2 b hc b hb rfl) fun b hb' => ?_), hl, hn⟩
  · have := all2_inn ha b hb; omega
  · have := all2_inn hb b hb'; omega
theorem Row.same (h : Row w lo hi v as cs bs) (s : Same w w' lo hi) : Row w' lo hi v as cs bs := h.kp fun _ _ hl => ⟨s.size, fun b hb hw => s.block b (hl b hb).1 (hl b hb).2 hw⟩
theorem Row.ext (h : Row w lo hi v as cs bs) (e : Ext w w') : Row w' lo hi v as cs bs := h.same (e.keeps (by simp))
theorem Row.mod (h : Row w lo hi v as cs bs) (m : Mod w w' x) (hx : ∀ g, x = some g → g < lo ∨ hi ≤ g) : Row w' lo hi v as cs bs := h.same (m.keeps hx)
/-- What lies behind one of the row's own slices is turned. -/
theorem Row.modRS {u : Value} (h : Row w lo hi v as cs bs) (m : ModR w w' (bl u) (bh u)) (hu : u ∈ cs) : Row w' lo hi v as cs bs := h.kp fun _ hl _ => m.kp fun b hb => by
  cases ho : u.ownBlock with
  | none => simp [bl, bh, ho]
  | some g =>
    have : b ≠ g := fun e => hl b hb (List.mem_flatMap.2 ⟨u, hu, mem_blks.2 (by rw [ho, e])⟩)
    simp only [bl, bh, ho, Option.getD_some]; omega
theorem Row.sep {u : Value} (h : Row w lo hi v as cs bs) (hu : u ∈ cs) : Sep v u := fun g hg he => by
  obtain ⟨ca, cb, h1, ha, hb, hl, hn⟩ := h
  exact (List.nodup_append.1 hn).2.2 g (mem_blks.2 hg) g (by simp only [List.mem_append]; exact .inr (.inl (List.mem_flatMap.2 ⟨u, hu, mem_blks.2 he⟩))) rfl
theorem flat_at {n : Nat} : ∀ {ca : List (List Value)} {cs : List Value} {cb : List (List Value)}, (∀ c ∈ ca, c.length = n) → ∀ j u, cs[j]? = some u → (ca ++ cs :: cb).flatten[ca.length * n + j]? = some u
  | [], cs, cb, _, j, u, hj => by
    have := (List.getElem?_eq_some_iff.1 hj).1
    simp only [List.nil_append, List.flatten_cons, List.length_nil, Nat.zero_mul, Nat.zero_add]
    rw [List.getElem?_append_left this]; exact hj
  | c :: ca, cs, cb, h, j, u, hj => by
    simp only [List.cons_append, List.flatten_cons, List.length_cons, Nat.add_mul, Nat.one_mul]
    have hc := h c (by simp)
    rw [List.getElem?_append_right (by omega), hc]
    rw [show ca.length * n + n + j - n = ca.length * n + j from by omega]
    exact flat_at (fun c hc => h c (by simp [hc])) j u hj
theorem all2_lens {ca : List (List Value)} (ha : All2 (Own1.O w lo hi) ca as) : ∀ c ∈ ca, c.length = Dat.sz α := fun c hc => by
  obtain ⟨y, hy⟩ := All2.mem ha c hc
  exact Dat.len (Own1.rd hy)
theorem Row.at {i : Nat} (h : Row w lo hi v as cs bs) (hi' : as.length = i) : At w (sblk v) (soff v + i * Dat.sz α) cs := by
  subst hi'
  obtain ⟨ca, cb, h1, ha, hb, hl, hn⟩ := h
  have hla := All2.length ha
  rcases h1 with ⟨rfl, hc⟩ | ⟨g, off, len, cap, cur, T, rfl, h1, h2, hw, h4, h5, h6, h7, h8⟩
  · have : (ca ++ cs :: cb).flatten.length = 0 := by rw [hc]; rfl
    have hp := Dat.pos (α := α)
    simp only [List.flatten_append, List.flatten_cons, List.length_append] at this
    omega
  · refine ⟨cur, T, (0, 0), hw, fun j u hj => ?_⟩
    have := h8 _ u (flat_at (cb := cb) (all2_lens ha) j u hj)
    simp only [soff]
    rw [Nat.add_assoc, ← hla]; exact this
theorem Row.len {n i : Nat} (h : Row w lo hi v as cs bs) (hi' : as.length = i) (hn : i + 1 + bs.length = n) : SlLen v n := by
  subst hi' hn
  obtain ⟨ca, cb, h1, ha, hb, hl, hn⟩ := h
  have hla := All2.length ha
  have hlb := All2.length hb
  have hsum : ∀ {l : List (List Value)}, (∀ c ∈ l, c.length = Dat.sz α) → l.flatten.length = l.length * Dat.sz α := by
    intro l
    induction l with
    | nil => intro _; simp
    | cons c l ih => intro h; simp only [List.flatten_cons, List.length_append, h c (by simp), ih fun c hc => h c (by simp [hc]), List.length_cons, Nat.add_mul]; omega
  have hf : (ca ++ cs :: cb).flatten.length = (as.length + 1 + bs.length) * Dat.sz α := by
    simp only [List.flatten_append, List.flatten_cons, List.length_append, hsum (all2_lens ha), hsum (all2_lens hb), hl, Nat.add_mul, ← hla, ← hlb]; omega
  have hp := Dat.pos (α := α)
  rcases h1 with ⟨rfl, hc⟩ | ⟨g, off, len, cap, cur, T, rfl, h1, h2, hw, h4, h5, h6, h7, h8⟩
  · rw [hc] at hf
    have := Nat.mul_pos (show 0 < as.length + 1 + bs.length by omega) hp
    simp at hf; omega
  · rw [hf] at h7
    have := Nat.eq_of_mul_eq_mul_right hp h7
    exact ⟨_, _, by rw [this]⟩
theorem Row.store {P : Program} {i f t : Nat} {u z : Value} (hT : ScT P t z) (h : Row w lo hi v as cs bs) (hi' : as.length = i) (hf : f < Dat.sz α) (h1 : u.oneCell' = true) (hs : fpr (cs.set f u) = fpr cs) :
    ∃ w', (storeVar t ⟨sblk v, soff v + i * Dat.sz α + f, none⟩ u).run P w = .ok () w' ∧ Mod w w' v.ownBlock ∧ Row w' lo hi v as (cs.set f u) bs := by
  subst hi'
  obtain ⟨ca, cb, h0, ha, hb, hl, hn⟩ := h
  have hla := All2.length ha
  have hlen : ca.flatten.length = ca.length * Dat.sz α := flat_row ha fun c y h => Dat.len (Own1.rd h)
  have hset : (ca ++ cs :: cb).flatten.set (ca.length * Dat.sz α + f) u = (ca ++ cs.set f u :: cb).flatten := by
    simp only [List.flatten_append, List.flatten_cons]
    rw [List.set_append_right _ _ (by omega), hlen, List.set_append_left _ _ (by omega)]
    congr 3; omega
  rcases h0 with ⟨rfl, hc⟩ | ⟨g, off, len, cap, cur, T, rfl, h3, h4, hw, h5, h6, h7, h8, h9⟩
  · have : (ca ++ cs :: cb).flatten.length = 0 := by rw [hc]; rfl
    simp only [List.flatten_append, List.flatten_cons, List.length_append] at this
    omega
  · have hlc : len * Dat.sz α ≤ cap * Dat.sz α := Nat.mul_le_mul_right _ h5
    have hlf : ca.length * Dat.sz α + f < (ca ++ cs :: cb).flatten.length := by
      simp only [List.flatten_append, List.flatten_cons, List.length_append]; omega
    have hbk : Blk w g cur.toList := ⟨T, by simpa using hw⟩
    obtain ⟨w', hr, hm, T', hb'⟩ := run_storeVar_sc (off := off + as.length * Dat.sz α + f) hT hbk (by simp; rw [← hla]; omega) h1
    have hnd := List.nodup_append.1 hn
    have hg : ∀ b ∈ ca.flatMap fpr ++ (fpr cs ++ cb.flatMap fpr), b ≠ g := fun b hb e => hnd.2.2 g (by simp [blks, Value.ownBlock]) b hb e.symm
    refine ⟨w', hr, hm, ca, cb, .inr ⟨g, off, len, cap, _, T', rfl, h3, h4, hb', h5, h6, by simpa using h7, ?_, fun j q hj => ?_⟩, all2_kp ha (hm.kp fun b hb hc => ?_), all2_kp hb (hm.kp fun b hb hc => ?_), by simpa using hl, by rw [hs]; exact hn⟩
    · rw [← h8, ← hset]; simp
    · rw [← hset, List.getElem?_set] at hj
      simp only [List.getElem?_toArray, List.getElem?_set]
      split at hj
      · rename_i hq
        rw [if_pos (by rw [← hla]; omega), if_pos (by simp; rw [← hla]; omega)]; exact hj
      · rename_i hq
        rw [if_neg (by rw [← hla]; omega)]
        simpa using h9 j q hj
    · simp only [Option.some.injEq] at hb; subst hb; exact hg g (by simp [hc]) rfl
    · simp only [Option.some.injEq] at hb; subst hb; exact hg g (by simp only [List.mem_append]; exact .inr (.inr hc)) rfl
/-! ### rows of the call's own, laid one behind the other -/
def AllO (w : World) (lo hi : Nat) (css : List (List Value)) (xs : List α) : Prop := All2 (Own1.O w lo hi) css xs ∧ (css.flatMap fpr).Nodup
theorem AllO.d {css : List (List Value)} (h : AllO w lo hi css xs) : AllD w lo hi css xs := All2.imp (fun _ _ h => Own1.rd h) h.1
theorem AllO.same {css : List (List Value)} (h : AllO w lo hi css xs) (s : Same w w' lo hi) : AllO w' lo hi css xs := ⟨all2_kp h.1 ⟨s.size, fun b hb hl => by
  have := all2_inn h.1 b hb
  exact s.block b this.1 this.2.1 hl⟩, h.2⟩
theorem AllO.ext {css : List (List Value)} (h : AllO w lo hi css xs) (e : Ext w w') : AllO w' lo hi css xs := h.same (e.keeps (by simp))
theorem AllO.mod {css : List (List Value)} (h : AllO w lo hi css xs) (m : Mod w w' x) (hx : ∀ g, x = some g → g < lo ∨ hi ≤ g) : AllO w' lo hi css xs := h.same (m.keeps hx)
theorem AllO.widen {css : List (List Value)} (h : AllO w lo hi css xs) (h1 : lo' ≤ lo) (h2 : hi ≤ hi') : AllO w lo' hi' css xs := ⟨All2.imp (fun _ _ h => Own1.wide h h1 h2) h.1, h.2⟩
theorem AllO.step {css : List (List Value)} {k : Nat} (h : AllO w lo hi css (xs.take k)) (hk : k < xs.length) (h' : Own1.O w lo' hi' cs xs[k]) (h1 : hi ≤ lo') (h2 : hi' ≤ hi') (h3 : lo ≤ lo') (h4 : hi ≤ hi') : AllO w lo hi' (css ++ [cs]) (xs.take (k + 1)) := by
  refine ⟨?_, ?_⟩
  · rw [List.take_succ_eq_append_getElem hk]
    exact All2.snoc (h.widen (Nat.le_refl _) h4).1 (Own1.wide h' h3 h2)
  · rw [List.flatMap_append, List.nodup_append]
    refine ⟨h.2, by simpa using Own1.nd h', fun a ha b hb e => ?_⟩
    have := all2_inn h.1 a ha
    have := Own1.inn h' b (by simpa using hb)
    omega
theorem AllO.snoc {css : List (List Value)} {y : α} (h : AllO w lo hi css xs) (h' : Own1.O w lo' hi' cs y) (h1 : hi ≤ lo') (h3 : lo ≤ lo') (h4 : hi ≤ hi') : AllO w lo hi' (css ++ [cs]) (xs ++ [y]) := by
  refine ⟨All2.snoc (h.widen (Nat.le_refl _) h4).1 (Own1.wide h' h3 (Nat.le_refl _)), ?_⟩
  rw [List.flatMap_append, List.nodup_append]
  refine ⟨h.2, by simpa using Own1.nd h', fun a ha b hb e => ?_⟩
  have := all2_inn h.1 a ha
  have := Own1.inn h' b (by simpa using hb)
  omega
theorem OwS.ofBlk {css : List (List Value)} {b n : Nat} (hb : Blk w b css.flatten) (h : AllO w lo hi css xs) (h1 : lo' ≤ lo) (h2 : hi ≤ hi') (h3 : lo' ≤ b) (h4 : b < lo) (h5 : b < hi') (hn : xs.length = n) (hm : n ≤ maxLen) : OwS w lo' hi' (.slice (some ⟨b, 0, none⟩) n n) xs := by
  subst hn
  have hl := All2.length h.1
  refine ⟨css, Own.ofBlk hb h3 h5 (by rw [AllD.flat h.d, hl]) hm, (h.widen h1 h2).1, ?_⟩
  simp only [blks, Value.ownBlock, Option.toList_some, List.singleton_append, List.nodup_cons]
  exact ⟨fun hc => by have := all2_inn h.1 b hc; omega, h.2⟩
end
end Go.Proofs.YtpkimhbibjpcpaaDoor.X

namespace Go.Proofs.YtpkimhbibjpcpaaDoor.X
open Go
open Enc (enc)
theorem plain_no {p : Nat → Prop} {v : Value} (h : v.ownBlock = none) : ∀ b ∈ blks v, p b := fun b hb => by simp [blks, h] at hb
def FpA (p : Nat → Prop) : List Value → Prop
  | [] => True
  | u :: us => (∀ b ∈ blks u, p b) ∧ FpA p us
theorem FpA.all {p : Nat → Prop} : ∀ {cs : List Value}, FpA p cs → ∀ b ∈ fpr cs, p b
  | [], _, _, hb => by simp [fpr] at hb
  | u :: us, h, b, hb => by
    simp only [fpr, List.flatMap_cons, List.mem_append] at hb
    exact hb.elim (h.1 b) (FpA.all h.2 b)
theorem SepA.all {v : Value} : ∀ {us : List Value}, SepA v us → ∀ b ∈ blks v, b ∉ fpr us
  | [], _, _, _ => by simp [fpr]
  | u :: us, h, b, hb => by
    simp only [fpr, List.flatMap_cons, List.mem_append, not_or]
    exact ⟨fun hc => h.1 b (mem_blks.1 hb) (mem_blks.1 hc), SepA.all h.2 b hb⟩
theorem blks_nd (v : Value) : (blks v).Nodup := by cases h : v.ownBlock <;> simp [blks, h]
theorem SepL.nd : ∀ {vs : List Value}, SepL vs → (fpr vs).Nodup
  | [], _ => by simp [fpr]
  | v :: vs, h => by
    simp only [fpr, List.flatMap_cons]
    exact List.nodup_append.2 ⟨blks_nd v, SepL.nd h.2, fun a ha _ hb e => SepA.all h.1 a ha (e ▸ hb)⟩
theorem Own.innb {w : World} {lo hi sz : Nat} {v : Value} {cs : List Value} (h : Own w lo hi sz v cs) : ∀ b ∈ blks v, lo ≤ b ∧ b < hi ∧ b < w.heap.size := fun b hb => by
  have := h.blk b (mem_blks.1 hb)
  have := h.lt b (mem_blks.1 hb)
  omega
theorem fpr_mem {cs : List Value} {u : Value} (h : u ∈ cs) : ∀ b ∈ blks u, b ∈ fpr cs := fun _ hb => List.mem_flatMap.2 ⟨u, h, hb⟩
theorem Sep.nilL (u : Value) : Sep (.slice none 0 0) u := fun _ h => by cases h
theorem Sep.nilR (u : Value) : Sep u (.slice none 0 0) := fun _ _ h => by cases h
def LtL (w : World) : List Value → Prop
  | [] => True
  | v :: vs => (∀ g, v.ownBlock = some g → g < w.heap.size) ∧ LtL w vs
theorem Become.sep {w : World} {v v' u : Value} (h : Become w v v') (s : Sep v u) (hu : ∀ g, u.ownBlock = some g → g < w.heap.size) : Sep v' u := fun g hg he => by
  rcases h g hg with h1 | h1
  · exact s g h1 he
  · have := hu g he; omega
theorem SepA.become {w : World} {v v' : Value} (h : Become w v v') : ∀ {us : List Value}, SepA v us → LtL w us → SepA v' us
  | [], _, _ => trivial
  | _ :: _, s, l => ⟨h.sep s.1 l.1, SepA.become h s.2 l.2⟩
theorem SepA.set {w : World} {v v' u : Value} (h : Become w v v') (hu : ∀ g, u.ownBlock = some g → g < w.heap.size) : ∀ {us : List Value} (i : Nat), us[i]? = some v → SepA u us → SepA u (us.set i v')
  | [], _, hi, _ => by simp at hi
  | x :: us, 0, hi, s => by
    simp only [List.getElem?_cons_zero, Option.some.injEq] at hi
    subst hi
    exact ⟨(h.sep s.1.symm hu).symm, s.2⟩
  | x :: us, i + 1, hi, s => ⟨s.1, SepA.set h hu i (by simpa using hi) s.2⟩
theorem SepL.set {w : World} {v v' : Value} (h : Become w v v') : ∀ {us : List Value} (i : Nat), us[i]? = some v → SepL us → LtL w us → SepL (us.set i v')
  | [], _, hi, _, _ => by simp at hi
  | x :: us, 0, hi, s, l => by
    simp only [List.getElem?_cons_zero, Option.some.injEq] at hi
    subst hi
    exact ⟨SepA.become h s.1 l.2, s.2⟩
  | x :: us, i + 1, hi, s, l => ⟨SepA.set h l.1 i (by simpa using hi) s.1, SepL.set h i (by simpa using hi) s.2 l.2⟩
theorem Become.refl (w : World) (v : Value) : Become w v v := fun _ h => .inl h
theorem slFrom_blk (v : Value) (k sz : Nat) : (slFrom v k sz).ownBlock = v.ownBlock := by
  unfold slFrom
  split
  · rename_i a len cap
    cases a with
    | none => simp [Value.ownBlock]
    | some a =>
      split
      · rfl
      · simp [Value.ownBlock, Addr.add]
        split <;> rfl
  · rfl
end Go.Proofs.YtpkimhbibjpcpaaDoor.X

namespace Go.Proofs.YtpkimhbibjpcpaaDoor.X
open Go
open Enc (enc)
section
variable {w w' : World} {lo hi sz : Nat} {v : Value} {cs : List Value}
theorem Own.shape (h : Own w lo hi sz v cs) : ∃ a l c, v = .slice a l c := by
  rcases h with ⟨rfl, _⟩ | ⟨g, off, len, cap, cur, T, rfl, _⟩
  · exact ⟨_, _, _, rfl⟩
  · exact ⟨_, _, _, rfl⟩
theorem SlLen.shape {k : Nat} (h : SlLen v k) : ∃ a l c, v = .slice a l c := by
  obtain ⟨a, c, rfl⟩ := h
  exact ⟨_, _, _, rfl⟩
theorem Own.room {k : Nat} (h : Own w lo hi sz v cs) (hp : 0 < sz) (hk : cs.length = k * sz) : ∃ a cap, v = .slice a k cap ∧ k ≤ cap := by
  rcases h with ⟨rfl, rfl⟩ | ⟨g, off, len, cap, cur, T, rfl, h1, h2, hw, h4, h5, h6, h7, h8⟩
  · have : k = 0 := by
      rcases Nat.eq_zero_or_pos k with h | h
      · exact h
      · have := Nat.mul_pos h hp; simp at hk; omega
    subst this
    exact ⟨none, 0, rfl, Nat.le_refl _⟩
  · rw [h7] at hk
    have := Nat.eq_of_mul_eq_mul_right hp hk
    subst this
    exact ⟨_, _, rfl, h4⟩
theorem Own.roomE {α : Type} [Enc α] {xs : List α} (h : Own w lo hi (Enc.sz α) v (xs.flatMap enc)) : ∃ a cap, v = .slice a xs.length cap ∧ xs.length ≤ cap := h.room Enc.pos (sum_flat xs)
theorem Own.slFrom {k : Nat} (h : Own w lo hi sz v cs) (hk : k * sz ≤ cs.length) (hp : 0 < sz) : Own w lo hi sz (slFrom v k sz) (cs.drop (k * sz)) := by
  rcases h with ⟨rfl, rfl⟩ | ⟨g, off, len, cap, cur, T, rfl, h1, h2, hw, h4, h5, h6, h7, h8⟩
  · have : k = 0 := by
      rcases Nat.eq_zero_or_pos k with h | h
      · exact h
      · have := Nat.mul_pos h hp; simp at hk; omega
    subst this
    exact .inl ⟨by simp [X.slFrom], by simp⟩
  · rw [h7] at hk
    have hkl : k ≤ len := Nat.le_of_mul_le_mul_right hk hp
    unfold X.slFrom
    simp only
    by_cases hc : cap = k
    · rw [if_pos hc]
      refine .inr ⟨g, off, len - k, cap - k, cur, T, rfl, h1, h2, hw, by omega, by omega, ?_, ?_, fun j u hj => ?_⟩
      · rw [hc, Nat.sub_self]; omega
      · rw [List.length_drop, h7, ← Nat.sub_mul]
      · have : len = k := by omega
        rw [List.drop_of_length_le (by rw [h7, this]; exact Nat.le_refl _)] at hj
        simp at hj
    · rw [if_neg hc]
      refine .inr ⟨g, off + k * sz, len - k, cap - k, cur, T, by simp [Addr.add_lit], h1, h2, hw, by omega, by omega, ?_, ?_, fun j u hj => ?_⟩
      · have : (cap - k) * sz + k * sz = cap * sz := by rw [← Nat.add_mul]; congr 1; omega
        omega
      · rw [List.length_drop, h7, ← Nat.sub_mul]
      · rw [List.getElem?_drop] at hj
        rw [Nat.add_assoc]; exact h8 _ u hj
theorem drop_flat {α : Type} [Enc α] : ∀ (k : Nat) (xs : List α), (xs.flatMap enc).drop (k * Enc.sz α) = (xs.drop k).flatMap enc
  | 0, xs => by simp
  | k + 1, [] => by simp
  | k + 1, x :: xs => by
    simp only [List.flatMap_cons, List.drop_succ_cons]
    rw [← drop_flat k xs, Nat.add_mul, Nat.one_mul, Nat.add_comm, List.drop_append, List.drop_of_length_le (by rw [Enc.len]; omega), Enc.len]
    rw [show Enc.sz α + k * Enc.sz α - Enc.sz α = k * Enc.sz α from by omega]; simp
theorem Own.slFromE {α : Type} [Enc α] {xs : List α} {k : Nat} (h : Own w lo hi (Enc.sz α) v (xs.flatMap enc)) (hk : k ≤ xs.length) : Own w lo hi (Enc.sz α) (X.slFrom v k (Enc.sz α)) ((xs.drop k).flatMap enc) := by
  have := h.slFrom (k := k) (by rw [sum_flat]; exact Nat.mul_le_mul_right _ hk) Enc.pos
  rwa [drop_flat] at this
theorem RdL.room {α : Type} {n : Nat} {R : List Value → α → Prop} {xs : List α} (h : RdL w n R v xs) : ∃ a cap, v = .slice a xs.length cap ∧ xs.length ≤ cap := by
  obtain ⟨hm, ⟨rfl, rfl⟩ | ⟨b, off, sp, cap, css, rfl, hcap, _⟩⟩ := h
  · exact ⟨_, _, rfl, Nat.le_refl _⟩
  · exact ⟨_, _, rfl, hcap⟩
theorem take_all2 {β γ : Type} {R : β → γ → Prop} {l : List β} {m : List γ} (k : Nat) (h : All2 R l m) : All2 R (l.take k) (m.take k) := by
  have hl := h.length
  exact All2.of_get (by simp [hl]) fun i h1 h2 => by
    simp only [List.getElem_take]
    exact h.get i (by simp at h1; omega) (by simp at h2; omega)
theorem drop_all2 {β γ : Type} {R : β → γ → Prop} {l : List β} {m : List γ} (k : Nat) (h : All2 R l m) : All2 R (l.drop k) (m.drop k) := by
  have hl := h.length
  exact All2.of_get (by simp [hl]) fun i h1 h2 => by
    simp only [List.getElem_drop]
    exact h.get (k + i) (by simp at h1; omega) (by simp at h2; omega)
/-- A read slice, from 'k' on; .. up to 'k'. -/
theorem RdL.slFrom {α : Type} {n : Nat} {R : List Value → α → Prop} {xs : List α} {k : Nat} (h : RdL w n R v xs) (hk : k ≤ xs.length) : RdL w n R (X.slFrom v k n) (xs.drop k) := by
  have hdl : (xs.drop k).length = xs.length - k := List.length_drop
  obtain ⟨hm, ⟨rfl, rfl⟩ | ⟨b, off, sp, cap, css, rfl, hcap, hsp, hc, ha⟩⟩ := h
  · have : k = 0 := by simpa using hk
    subst this
    exact ⟨by simp, .inl ⟨by simp [X.slFrom], by simp⟩⟩
  · unfold X.slFrom
    simp only
    by_cases hck : cap = k
    · rw [if_pos hck]
      have hx : xs.drop k = [] := List.eq_nil_of_length_eq_zero (by rw [hdl]; omega)
      rw [hx]
      exact ⟨by simp, .inr ⟨b, off, sp, cap - k, [], by rw [show xs.length - k = 0 by omega]; rfl, Nat.zero_le _, fun h => absurd rfl h, fun i cs hi => by simp at hi, trivial⟩⟩
    · rw [if_neg hck]
      refine ⟨by rw [hdl]; omega, .inr ?_⟩
      by_cases hx : xs = []
      · subst hx
        obtain rfl : k = 0 := by simpa using hk
        exact ⟨b, _, sp, cap - 0, [], by simp [Addr.add]; cases sp <;> rfl, by simp, fun h => absurd (by simp) h, fun i cs hi => by simp at hi, trivial⟩
      · obtain rfl := hsp hx
        refine ⟨b, off + k * n, none, cap - k, css.drop k, by rw [hdl]; simp [Addr.add_lit], by rw [hdl]; omega, fun _ => rfl, fun i cs hi => ?_, drop_all2 k ha⟩
        rw [List.getElem?_drop] at hi
        have := hc _ cs hi
        rw [Nat.add_mul, ← Nat.add_assoc] at this
        exact this
theorem RdL.slTo {α : Type} {n : Nat} {R : List Value → α → Prop} {xs : List α} {k : Nat} (h : RdL w n R v xs) (hk : k ≤ xs.length) : RdL w n R (X.slTo v k) (xs.take k) := by
  have hdl : (xs.take k).length = k := by rw [List.length_take]; omega
  obtain ⟨hm, ⟨rfl, rfl⟩ | ⟨b, off, sp, cap, css, rfl, hcap, hsp, hc, ha⟩⟩ := h
  · have : k = 0 := by simpa using hk
    subst this
    exact ⟨by simp, .inl ⟨by simp [X.slTo], by simp⟩⟩
  · refine ⟨by rw [hdl]; omega, .inr ⟨b, off, sp, cap, css.take k, by rw [hdl]; rfl, by rw [hdl]; omega, fun hne => hsp (fun e => by subst e; simp at hne), fun i cs hi => ?_, take_all2 k ha⟩⟩
    rw [List.getElem?_take] at hi
    split at hi
    · exact hc i cs hi
    · cases hi
theorem RdB.slFrom {α : Type} {lo hi n k : Nat} {R : List Value → α → Prop} {xs : List α} (h : RdB w lo hi n R v xs) (hk : k ≤ xs.length) : RdB w lo hi n R (X.slFrom v k n) (xs.drop k) := by
  refine ⟨h.1.slFrom hk, ?_⟩
  rcases h.2 with rfl | hb
  · left; simp
  · by_cases hx : xs.drop k = []
    · exact .inl hx
    · right
      obtain ⟨hm, ⟨rfl, rfl⟩ | ⟨b, off, sp, cap, css, rfl, hcap, hsp, hc, ha⟩⟩ := h.1
      · simp at hx
      · have : sblk (X.slFrom (.slice (some ⟨b, off, sp⟩) xs.length cap) k n) = b := by
          unfold X.slFrom; simp only
          split
          · rfl
          · simp only [Option.map_some, sblk, Addr.add]; split <;> rfl
        rw [this]; exact hb
theorem RdB.slTo {α : Type} {lo hi n k : Nat} {R : List Value → α → Prop} {xs : List α} (h : RdB w lo hi n R v xs) (hk : k ≤ xs.length) : RdB w lo hi n R (X.slTo v k) (xs.take k) := by
  refine ⟨h.1.slTo hk, ?_⟩
  rcases h.2 with rfl | hb
  · left; simp
  · right
    obtain ⟨hm, ⟨rfl, rfl⟩ | ⟨b, off, sp, cap, css, rfl, hcap, hsp, hc, ha⟩⟩ := h.1 <;> exact hb
end
/-! ### an element of a slice of the call's own is turned -/
theorem set_split {α : Type} {xs : List α} {i : Nat} (h : i < xs.length) (y : α) : xs.set i y = xs.take i ++ y :: xs.drop (i + 1) := by
  rw [List.set_eq_take_append_cons_drop, if_pos h]
theorem self_split {α : Type} {xs : List α} {i : Nat} (h : i < xs.length) : xs = xs.take i ++ xs[i] :: xs.drop (i + 1) := by
  rw [← List.drop_eq_getElem_cons h, List.take_append_drop]
section
variable {P : Program} {ops : Array Oper} {D : Bool} {n : Nat} {K : Act → World → Prop} {l : List (Bool × Oper)} {σ : Env} {w : World} {ty : TypeId} {pos : String} {af : Array Edge}
theorem J_storeSet {α : Type} [Enc α] {lo hi i f t off : Nat} {p q : Operand} {v u z : Value} {xs : List α} (y : α) (hT : ScT P t z) (hx : ev σ p = some (.pointer (some ⟨sblk v, off, none⟩))) (ho : off = soff v + i * Enc.sz α + f) (hy : ev σ q = some u) (h1 : u.oneCell' = true)
    (h : Own w lo hi (Enc.sz α) v (xs.flatMap enc)) (hi' : i < xs.length) (hf : f < Enc.sz α) (he : (enc xs[i]).set f u = enc y)
    (hk : ∀ w', Mod w w' v.ownBlock → Own w' lo hi (Enc.sz α) v ((xs.set i y).flatMap enc) → J P ops D n K l σ w') : J P ops D n K ((false, ⟨none, .store t p q, ty, pos, af, none⟩) :: l) σ w := by
  refine J_storeOwn (as := xs.take i) (x := xs[i]) (bs := xs.drop (i + 1)) y hT hx ho hy h1 (by rw [← self_split hi']; exact h) (by simp; omega) hf he fun w' hm ho => hk w' hm ?_
  rw [set_split hi']; exact ho
end
section
variable {P : Program} {n : Nat} {σ : Env} {w : World} {d : Option Tmp} {ty : TypeId} {pos : String} {af : Array Edge} {g : Option (Nat × Bool)}
theorem R_buildC {t : TypeId} {parts : List (Nat × Operand)} {vs : List (Nat × Value)} (cs : List Value) (hp : evps σ parts = some vs) (hb : ∀ w, (Instr.build t vs.toArray).run P w = .ok (.agg cs.toArray) w) :
    Runs P n σ w ⟨d, .build t parts.toArray, ty, pos, af, g⟩ (.agg cs.toArray) := fun a ha w' _ => by
  have hm := evps_map ha parts _ hp
  simp [execOp, hm, hb]
/-- A field of a struct that is held. -/
theorem R_field {s f : Nat} {x : Operand} {cs : List Value} (hx : ev σ x = some (.agg cs.toArray)) {v : Value} (hf : ∀ w, (Instr.field s (.agg cs.toArray) f).run P w = .ok v w) : Runs P n σ w ⟨d, .field s x f, ty, pos, af, g⟩ v := fun a ha w' _ => by
  simp [execOp, ha.eval hx, hf]
end
/-- The function value 'v' answers 'p', and leaves what stood as it is. -/
def PredF {α : Type} [Enc α] (P : Program) (w : World) (v : Value) (p : α → Bool) : Prop :=
  ∃ fid fs cs, v = .func (.func fid) fs.toArray cs.toArray ∧ (∀ args w, (callFunc fid args).run P w = .ok (.enter fid args) w) ∧ ∀ (x : α) (w' : World), Ext w w' → Ct P fid (fs ++ [.agg (enc x).toArray] ++ cs) w' (fun v _ => v = .bool (p x))
theorem sub_nat {k : Nat} (h : 0 < k) (hm : k ≤ maxLen) : IntKind.i64.wrap ((k : Int) - 1) = ((k - 1 : Nat) : Int) := by
  unfold maxLen at hm
  rw [wrap_in (by omega) (by omega)]; omega
end Go.Proofs.YtpkimhbibjpcpaaDoor.X

