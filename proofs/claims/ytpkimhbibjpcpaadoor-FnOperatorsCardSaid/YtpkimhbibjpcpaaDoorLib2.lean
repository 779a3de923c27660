/- What is shown of the program logic that the proofs of this claim use: rules for the operations, the code and the calls of a function, over the kit's own weakest preconditions; no condition. -/
import Derived.Laws.Externs
import Derived.Lib.AppendZerosOnto
import Derived.Lib.Overlaps
import Derived.Test.YtpkimhbibjpcpaaDoorLib
namespace Go.Proofs.YtpkimhbibjpcpaaDoor.X
open Go
open Enc (enc)
/-! ### operations that lay blocks, in whatever order -/
/-- One of them: its number, its temporary, what it lays; 'lit': a slice without room; 'dep': the number and the temporary of the slice without room that it appends to. -/
structure PU where
  i : Nat
  d : Nat
  sz : Nat
  cs : List Value
  lit : Bool
  dep : Option (Nat × Nat)
  X : Option (World → World → Value → List Nat → Prop)
/-! lists of blocks that do not meet -/
def Dj (f g : List Nat) : Prop := ∀ b ∈ f, b ∉ g
theorem Dj.symm {f g : List Nat} (h : Dj f g) : Dj g f := fun b hb hc => h b hc hb
def DjA (f : List Nat) : List (List Nat) → Prop
  | [] => True
  | g :: gs => Dj f g ∧ DjA f gs
def DjL : List (List Nat) → Prop
  | [] => True
  | f :: fs => DjA f fs ∧ DjL fs
theorem DjA.toSep {v : Value} : ∀ {vs : List Value}, DjA (blks v) (vs.map blks) → SepA v vs
  | [], _ => trivial
  | _ :: _, h => ⟨fun g hg he => h.1 g (mem_blks.2 hg) (mem_blks.2 he), DjA.toSep h.2⟩
theorem DjL.toSep : ∀ {vs : List Value}, DjL (vs.map blks) → SepL vs
  | [], _ => trivial
  | _ :: _, h => ⟨DjA.toSep h.1, DjL.toSep h.2⟩
/-- What it has laid, in the blocks 'f': a slice of its own, or what 'X' says (as it stood when it was laid). -/
def PU.R (u : PU) (w0 w : World) (v : Value) (f : List Nat) : Prop := match u.X with
  | none => Own w w0.heap.size w.heap.size u.sz v u.cs ∧ f = blks v
  | some X => ∃ w1, Ext w0 w1 ∧ Ext w1 w ∧ X w0 w1 v f ∧ ∀ b ∈ f, w0.heap.size ≤ b ∧ b < w1.heap.size
theorem PU.R.ext {u : PU} {w0 w w' : World} {v : Value} {f : List Nat} (h : u.R w0 w v f) (e : Ext w w') : u.R w0 w' v f := by
  unfold PU.R at *
  split at h
  · exact ⟨(h.1.ext e).widen (Nat.le_refl _) e.size, h.2⟩
  · obtain ⟨w1, a, b, c, d⟩ := h
    exact ⟨w1, a, b.trans e, c, d⟩
theorem PU.R.lt {u : PU} {w0 w : World} {v : Value} {f : List Nat} (h : u.R w0 w v f) : ∀ b ∈ f, b < w.heap.size := fun b hb => by
  unfold PU.R at h
  split at h
  · rw [h.2] at hb; exact h.1.lt b (mem_blks.1 hb)
  · obtain ⟨w1, _, e, _, d⟩ := h
    have := d b hb
    have := e.size
    omega
theorem PU.R.own {u : PU} {w0 w : World} {v : Value} {f : List Nat} (h : u.R w0 w v f) (hx : u.X = none) : Own w w0.heap.size w.heap.size u.sz v u.cs ∧ f = blks v := by
  unfold PU.R at h
  rw [hx] at h; exact h
def NoRoom (v : Value) : Prop := ∃ x k, v = .slice x k 0
/-- What an operation of the group does, wherever it comes up. -/
def StepOK (P : Program) (n : Nat) (σ : Env) (w0 : World) (o : Oper) (u : PU) : Prop :=
  ∀ a w, Fits n σ a → Ext w0 w → (∀ l dl, u.dep = some (l, dl) → ∃ vl, a.tmps[dl]? = some vl ∧ Own w w0.heap.size w.heap.size u.sz vl [] ∧ NoRoom vl) →
    o.wp P a w (fun a' w' => ∃ v f, a' = a.put (some u.d) v ∧ Ext w w' ∧ u.R w0 w' v f ∧ (u.lit = true → NoRoom v) ∧
      ∀ g ∈ f, w.heap.size ≤ g ∨ ∃ l dl vl, u.dep = some (l, dl) ∧ a.tmps[dl]? = some vl ∧ vl.ownBlock = some g) NoQ
def on (listed : Array Bool) (u : PU) : Prop := listed.getD u.i true = true
def PInv (w0 : World) (n : Nat) (σ : Env) (U : List PU) (listed : Array Bool) (a : Act) (w : World) : Prop :=
  Ext w0 w ∧ Fits n σ a ∧ ∃ F : Nat → List Nat, (∀ u ∈ U, on listed u → ∃ v, a.tmps[u.d]? = some v ∧ u.R w0 w v (F u.i) ∧ (u.lit = true → NoRoom v)) ∧
    (∀ u ∈ U, ∀ u' ∈ U, u.i ≠ u'.i → u.dep.map (·.1) ≠ some u'.i → u'.dep.map (·.1) ≠ some u.i → on listed u → on listed u' → Dj (F u.i) (F u'.i))
/-- The group's form: numbers and temporaries apart; what is appended to stands in the group, lays nothing, and is appended to once. -/
def groupOK (n : Nat) (U : List PU) : Bool :=
  U.all fun u => Nat.blt u.d n && U.all (fun u' => (u.i == u'.i || !(u.d == u'.d)) && (match u'.dep with
    | some (l, dl) => !(l == u.i) || (u.d == dl && u.dep.isNone && u.cs.isEmpty && u.lit && u.X.isNone && (u.sz == u'.sz) && U.all (fun u2 => u2.i == u'.i || !(u2.dep.map (·.1) == some l)))
    | none => true) && (match u'.dep with
    | some (l, _) => U.any (fun u2 => u2.i == l) && !(l == u'.i)
    | none => true))
section
variable {P : Program} {ops : Array Oper} {n : Nat} {σ : Env} {w0 : World} {U : List PU}
theorem groupOK_d (h : groupOK n U = true) {u u' : PU} (hu : u ∈ U) (hu' : u' ∈ U) (hi : u.i ≠ u'.i) : u.d ≠ u'.d := by
  have h1 := List.all_eq_true.1 h u hu
  simp only [Bool.and_eq_true] at h1
  have h2 := List.all_eq_true.1 h1.2 u' hu'
  simp only [Bool.and_eq_true, Bool.or_eq_true, beq_iff_eq, Bool.not_eq_true', beq_eq_false_iff_ne] at h2
  exact h2.1.1.resolve_left hi
theorem groupOK_n (h : groupOK n U = true) {u : PU} (hu : u ∈ U) : u.d < n := by
  have h1 := List.all_eq_true.1 h u hu
  simp only [Bool.and_eq_true] at h1
  exact Nat.blt_eq ▸ h1.1
/-- What 'u'' appends to. -/
theorem groupOK_dep (h : groupOK n U = true) {u' : PU} {l dl : Nat} (hu' : u' ∈ U) (hd : u'.dep = some (l, dl)) : ∃ u ∈ U, u.i = l ∧ u.d = dl ∧ u.dep = none ∧ u.cs = [] ∧ u.lit = true ∧ u.X = none ∧ u.sz = u'.sz ∧ l ≠ u'.i ∧ ∀ u2 ∈ U, u2.dep.map (·.1) = some l → u2.i = u'.i := by
  have h1 := List.all_eq_true.1 h u' hu'
  simp only [Bool.and_eq_true] at h1
  have h2 := List.all_eq_true.1 h1.2 u' hu'
  simp only [Bool.and_eq_true, hd] at h2
  have h3 := h2.2
  obtain ⟨u, hu, hul⟩ := List.any_eq_true.1 h3.1
  have hul := eq_of_beq hul
  have h4 := List.all_eq_true.1 h u hu
  simp only [Bool.and_eq_true] at h4
  have h5 := List.all_eq_true.1 h4.2 u' hu'
  simp only [Bool.and_eq_true, hd] at h5
  have h6 := h5.1.2
  simp only [hul, beq_self_eq_true, Bool.not_true, Bool.false_or, Bool.and_eq_true, beq_iff_eq, Option.isNone_iff_eq_none, List.isEmpty_iff] at h6
  refine ⟨u, hu, hul, h6.1.1.1.1.1.1, h6.1.1.1.1.1.2, h6.1.1.1.1.2, h6.1.1.1.2, h6.1.1.2, h6.1.2, by simpa using h3.2, fun u2 hu2 hq => ?_⟩
  have := List.all_eq_true.1 h6.2 u2 hu2
  simp only [Bool.or_eq_true, beq_iff_eq, Bool.not_eq_true', beq_eq_false_iff_ne] at this
  exact this.resolve_right (fun hne => hne hq)
theorem on_set {listed : Array Bool} {i : Nat} {u : PU} (h : on (listed.setIfInBounds i true) u) (hi : u.i ≠ i) : on listed u := by
  unfold on at *
  rwa [getD_set_ne true (Ne.symm hi)] at h
theorem put_get {a : Act} {d d' : Nat} {v : Value} (h : d ≠ d') : (a.put (some d) v).tmps[d']? = a.tmps[d']? := by
  simp only [Act.put, Array.getElem?_setIfInBounds]; simp [h]
theorem put_self {a : Act} {d : Nat} {v : Value} (h : d < a.tmps.size) : (a.put (some d) v).tmps[d]? = some v := by
  simp only [Act.put, Array.getElem?_setIfInBounds]; simp [h]
/-- One of the group comes up. -/
theorem PInv.step {listed : Array Bool} {a : Act} {w : World} {u : PU} {o : Oper} (hg' : groupOK n U = true) (hinj : ∀ u ∈ U, ∀ u' ∈ U, u.i = u'.i → u = u') (hσ : ∀ u ∈ U, look σ u.d = none) (hu : u ∈ U) (hun : listed.getD u.i true = false) (hd : ∀ l dl, u.dep = some (l, dl) → listed.getD l true = true)
    (hs : StepOK P n σ w0 o u) (hI : PInv w0 n σ U listed a w) : o.wp P a w (fun a' w' => Ext w w' ∧ PInv w0 n σ U (listed.setIfInBounds u.i true) a' w') NoQ := by
  obtain ⟨hE, hF, F, hf, hsep⟩ := hI
  have hdep : ∀ l dl, u.dep = some (l, dl) → ∃ vl, a.tmps[dl]? = some vl ∧ Own w w0.heap.size w.heap.size u.sz vl [] ∧ NoRoom vl := fun l dl h => by
    obtain ⟨u0, hu0, hl, hdl, _, hcs, hlit, hX, hsz, _⟩ := groupOK_dep hg' hu h
    obtain ⟨v, h1, h2, h3⟩ := hf u0 hu0 (by unfold on; rw [hl]; exact hd l dl h)
    exact ⟨v, by rw [← hdl]; exact h1, by rw [← hsz, ← hcs]; exact (h2.own hX).1, h3 hlit⟩
  refine wp_mono2 ?_ (fun _ _ _ h => h) (hs a w hF hE hdep)
  rintro a' w' ⟨v, f, rfl, hx, hown, hlit, hblk⟩
  have hsize : u.d < a.tmps.size := by rw [hF.size]; exact groupOK_n hg' hu
  have hne : ∀ u' ∈ U, u'.i ≠ u.i → u.d ≠ u'.d := fun u' hu' h => groupOK_d hg' hu hu' (Ne.symm h)
  -- two that do not meet
  have fresh : ∀ u' ∈ U, u'.i ≠ u.i → u.dep.map (·.1) ≠ some u'.i → u'.dep.map (·.1) ≠ some u.i → on (listed.setIfInBounds u.i true) u' → Dj f (F u'.i) := fun u' hu' h ha hb ho g hg he => by
    obtain ⟨v'', h4, h5, _⟩ := hf u' hu' (on_set ho h)
    have hlt := h5.lt g he
    rcases hblk g hg with hge | ⟨l, dl, vl, hdl, hvl, hgl⟩
    · omega
    · obtain ⟨u0, hu0, hl, hdl', hdep0, _, _, hX, _, hlu, huniq⟩ := groupOK_dep hg' hu hdl
      have hu0u' : u0.i ≠ u'.i := fun e => ha (by rw [hdl]; simp [← hl, e])
      have hon0 : on listed u0 := by unfold on; rw [hl]; exact hd l dl hdl
      obtain ⟨v0, k1, k2, _⟩ := hf u0 hu0 hon0
      rw [hdl', hvl] at k1
      obtain rfl := Option.some.inj k1
      have := hsep u0 hu0 u' hu' hu0u' (by rw [hdep0]; simp) (fun e => h (huniq u' hu' (by rw [e, hl]))) hon0 (on_set ho h)
      exact this g (by rw [(k2.own hX).2]; exact mem_blks.2 hgl) he
  have F1 : (fun j => if j = u.i then f else F j) u.i = f := if_pos rfl
  have F2 : ∀ j, j ≠ u.i → (fun j => if j = u.i then f else F j) j = F j := fun j hj => if_neg hj
  refine ⟨hx, hE.trans hx, ?_, fun j => if j = u.i then f else F j, fun u' hu' ho => ?_, fun u1 h1 u2 h2 hne12 hd12 hd21 ho1 ho2 => ?_⟩
  · refine ⟨by simp [Act.put, hF.size], hF.dfr, fun i v' hi => ?_⟩
    have hid : u.d ≠ i := fun e => by subst e; rw [hσ u hu] at hi; cases hi
    rw [put_get hid]; exact hF.get i v' hi
  · by_cases h : u'.i = u.i
    · obtain rfl := hinj u' hu' u hu h
      exact ⟨v, put_self hsize, by rw [F1]; exact hown, hlit⟩
    · obtain ⟨v', h3, h4, h5⟩ := hf u' hu' (on_set ho h)
      exact ⟨v', by rw [put_get (hne u' hu' h)]; exact h3, by rw [F2 _ h]; exact h4.ext hx, h5⟩
  · by_cases e1 : u1.i = u.i
    · obtain rfl := hinj u1 h1 u hu e1
      rw [F1, F2 _ (Ne.symm hne12)]
      exact fresh u2 h2 (Ne.symm hne12) hd12 hd21 ho2
    · by_cases e2 : u2.i = u.i
      · obtain rfl := hinj u2 h2 u hu e2
        rw [F1, F2 _ e1]
        exact (fresh u1 h1 hne12 hd21 hd12 ho1).symm
      · rw [F2 _ e1, F2 _ e2]
        exact hsep u1 h1 u2 h2 hne12 hd12 hd21 (on_set ho1 e1) (on_set ho2 e2)
end
/-! ### the whole group -/
def waits (ops : Array Oper) (k i : Nat) : Bool := match ops[k]? with
  | some o => o.after.any (fun e => Region.binds .any e && (e.on == i))
  | none => false
def StepAll (P : Program) (n : Nat) (σ : Env) (w0 : World) (ops : Array Oper) : List PU → Prop
  | [] => True
  | u :: us => (∃ o, ops[u.i]? = some o ∧ o.guard = none ∧ isSt o = false ∧ look σ u.d = none ∧ StepOK P n σ w0 o u) ∧ StepAll P n σ w0 ops us
def nodupN : List Nat → Bool
  | [] => true
  | i :: l => !l.contains i && nodupN l
/-- In this order each may come up. -/
def topoOK (ops : Array Oper) : Array Bool → List PU → Bool
  | _, [] => true
  | L, u :: us => (match ops[u.i]? with
    | some o => o.after.all fun e => !Region.binds .any e || L.getD e.on false
    | none => false) && topoOK ops (L.setIfInBounds u.i true) us
/-- Whatever of the others has not come up yet waits for the whole group. -/
def parOK (ops : Array Oper) (n : Nat) (listed : Array Bool) (U : List PU) : Bool :=
  groupOK n U && nodupN (U.map (·.i)) && topoOK ops listed U && U.all (fun u => !listed.getD u.i true) && U.all (fun u => match u.dep with
    | some (l, _) => waits ops u.i l
    | none => true) &&
    (List.range ops.size).all fun k => listed.getD k true || U.any (·.i == k) || U.all fun u => waits ops k u.i || U.any fun u' => waits ops k u'.i && waits ops u'.i u.i
/-- .. but for the last, 'f'. -/
def parOK2 (ops : Array Oper) (n : Nat) (listed : Array Bool) (U : List PU) (f : PU) : Bool :=
  groupOK n (U ++ [f]) && nodupN ((U ++ [f]).map (·.i)) && topoOK ops listed (U ++ [f]) && (U ++ [f]).all (fun u => !listed.getD u.i true) && (U ++ [f]).all (fun u => match u.dep with
    | some (l, _) => waits ops u.i l
    | none => true) &&
    (List.range ops.size).all fun k => listed.getD k true || (U ++ [f]).any (·.i == k) || U.all fun u => waits ops k u.i || U.any fun u' => waits ops k u'.i && waits ops u'.i u.i
def setAll (listed : Array Bool) (U : List PU) : Array Bool := U.foldl (fun L u => L.setIfInBounds u.i true) listed
theorem nodupN_inj : ∀ {U : List PU}, nodupN (U.map (·.i)) = true → ∀ u ∈ U, ∀ u' ∈ U, u.i = u'.i → u = u'
  | [], _, _, hu, _, _, _ => by simp at hu
  | x :: U, h, u, hu, u', hu', he => by
    simp only [List.map_cons, nodupN, Bool.and_eq_true, Bool.not_eq_true'] at h
    have hx : ∀ y ∈ U, y.i ≠ x.i := fun y hy e => by
      have : (U.map (·.i)).contains x.i = true := by rw [List.contains_iff_mem]; exact List.mem_map.2 ⟨y, hy, e⟩
      rw [this] at h; exact absurd h.1 (by simp)
    rcases List.mem_cons.1 hu with h1 | h1
    · rcases List.mem_cons.1 hu' with h2 | h2
      · rw [h1, h2]
      · exact absurd (by rw [← h1]; exact he.symm) (hx u' h2)
    · rcases List.mem_cons.1 hu' with h2 | h2
      · exact absurd (by rw [← h2]; exact he) (hx u h1)
      · exact nodupN_inj h.2 u h1 u' h2 he
section
variable {P : Program} {ops : Array Oper} {n : Nat} {σ : Env} {w0 : World} {U : List PU}
theorem StepAll.get : ∀ {U : List PU}, StepAll P n σ w0 ops U → ∀ u ∈ U, ∃ o, ops[u.i]? = some o ∧ o.guard = none ∧ isSt o = false ∧ look σ u.d = none ∧ StepOK P n σ w0 o u
  | [], _, _, hu => by simp at hu
  | _ :: _, h, u, hu => by
    rcases List.mem_cons.1 hu with rfl | hu
    · exact h.1
    · exact StepAll.get h.2 u hu
theorem getD_tf {listed : Array Bool} {i : Nat} (h : listed.getD i false = true) : listed.getD i true = true := by
  rcases Nat.lt_or_ge i listed.size with h' | h'
  · simpa [h'] using h
  · simp [Array.getElem?_eq_none h']
theorem getD_ft {listed : Array Bool} {i : Nat} (h : listed.getD i true = true) (hi : i < listed.size) : listed.getD i false = true := by simpa [hi] using h
theorem getD_lt {listed : Array Bool} {i : Nat} (h : listed.getD i true = false) : i < listed.size := by
  rcases Nat.lt_or_ge i listed.size with h' | h'
  · exact h'
  · simp [Array.getElem?_eq_none h'] at h
theorem topo_ready {listed : Array Bool} : ∀ (us : List PU) (L : Array Bool), topoOK ops L us = true → (∀ j, L.getD j false = true → listed.getD j false = true) → (∀ u ∈ us, u.i < listed.size) → ∀ u ∈ us, listed.getD u.i true = false → ∃ k, k ∈ Region.ready .any ops listed
  | [], _, _, _, _, _, hu, _ => by simp at hu
  | x :: us, L, h, hL, hlt, u, hu, hun => by
    simp only [topoOK, Bool.and_eq_true] at h
    cases hx : listed.getD x.i true with
    | false =>
      have h1 := h.1
      split at h1
      · rename_i o ho
        refine ⟨x.i, mem_ready.2 ⟨hx, o, ho, fun e he hb => hL _ ?_⟩⟩
        have := Array.all_eq_true'.1 h1 e he
        simpa [hb] using this
      · cases h1
    | true =>
      refine topo_ready us _ h.2 (fun j hj => ?_) (fun y hy => hlt y (by simp [hy])) u ?_ hun
      · by_cases e : x.i = j
        · subst e; exact getD_ft hx (hlt x (by simp))
        · refine hL j ?_
          simp only [Array.getD_eq_getD_getElem?, Array.getElem?_setIfInBounds] at hj ⊢
          simpa [e] using hj
      · rcases List.mem_cons.1 hu with hq | hu
        · subst hq; rw [hx] at hun; cases hun
        · exact hu
theorem waits_on {listed : Array Bool} {k i : Nat} (hk : k ∈ Region.ready .any ops listed) (hw : waits ops k i = true) : listed.getD i true = true := by
  obtain ⟨_, o, ho, hall⟩ := mem_ready.1 hk
  simp only [waits, ho] at hw
  obtain ⟨e, he, hp⟩ := Array.any_eq_true'.1 hw
  simp only [Bool.and_eq_true, beq_iff_eq] at hp
  rw [← hp.2]; exact getD_tf (hall e he hp.1)
/-- Between: of the others none has come up; whatever one of the group waits for in the group has come up before it. -/
structure Betw (ops : Array Oper) (U : List PU) (listed1 listed : Array Bool) : Prop where
  size : listed.size = listed1.size
  others : ∀ j, (∀ u ∈ U, u.i ≠ j) → listed.getD j true = listed1.getD j true
  down : ∀ u ∈ U, on listed u → ∀ u' ∈ U, waits ops u.i u'.i = true → on listed u'
theorem getD_true {listed : Array Bool} {i : Nat} : (listed.setIfInBounds i true).getD i true = true := by
  rcases Nat.lt_or_ge i listed.size with h | h
  · simp [h]
  · simp [h]
theorem getD_mono {listed : Array Bool} {i j : Nat} (h : listed.getD j true = true) : (listed.setIfInBounds i true).getD j true = true := by
  by_cases e : i = j
  · subst e; exact getD_true
  · rw [getD_set_ne true e]; exact h
theorem setAll_getD : ∀ (U : List PU) (listed : Array Bool) (j : Nat), (setAll listed U).getD j true = (listed.getD j true || U.any (·.i == j))
  | [], listed, j => by simp [setAll]
  | u :: U, listed, j => by
    have := setAll_getD U (listed.setIfInBounds u.i true) j
    simp only [setAll, List.foldl_cons, List.any_cons] at *
    rw [this]
    by_cases e : u.i = j
    · subst e; rw [getD_true]; simp
    · rw [getD_set_ne true e]; simp [show (u.i == j) = false from by simp [e]]
theorem setAll_size : ∀ (U : List PU) (listed : Array Bool), (setAll listed U).size = listed.size
  | [], _ => rfl
  | u :: U, listed => by
    have := setAll_size U (listed.setIfInBounds u.i true)
    simp only [setAll, List.foldl_cons] at *
    rw [this]; simp
theorem arr_ext {a b : Array Bool} (hs : a.size = b.size) (h : ∀ j, a.getD j true = b.getD j true) : a = b := by
  apply Array.ext hs
  intro i h1 h2
  have := h i
  simpa [h1, h2] using this
theorem wpAnyG_par {K : Act → World → Prop} {S : World → Prop} {listed1 : Array Bool} {fuel2 : Nat} (hok : parOK ops n listed1 U = true) (hs : StepAll P n σ w0 ops U) (hS : ∀ w, Ext w0 w → S w)
    (hend : ∀ a w, PInv w0 n σ U (setAll listed1 U) a w → wpAnyG P ops [] (Only K) S fuel2 (setAll listed1 U) a w) :
    ∀ (m : Nat) (listed : Array Bool) (a : Act) (w : World), (U.filter (fun u => !listed.getD u.i true)).length = m → Betw ops U listed1 listed → PInv w0 n σ U listed a w → wpAnyG P ops [] (Only K) S (m + fuel2) listed a w := by
  simp only [parOK, Bool.and_eq_true] at hok
  obtain ⟨⟨⟨⟨⟨hg, hnd⟩, htopo⟩, hoff⟩, hdw⟩, hcl⟩ := hok
  have hinj := nodupN_inj hnd
  intro m
  induction m with
  | zero =>
    intro listed a w hm hb hI
    have hall : ∀ u ∈ U, listed.getD u.i true = true := fun u hu => by
      cases hq : listed.getD u.i true with
      | true => rfl
      | false =>
        have : u ∈ U.filter (fun u => !listed.getD u.i true) := List.mem_filter.2 ⟨hu, by rw [hq]; rfl⟩
        rw [List.eq_nil_of_length_eq_zero hm] at this; simp at this
    have he : listed = setAll listed1 U := arr_ext (by rw [setAll_size, hb.size]) fun j => by
      rw [setAll_getD]
      cases ha : U.any (·.i == j) with
      | true =>
        obtain ⟨u, hu, hj⟩ := List.any_eq_true.1 ha
        rw [← eq_of_beq hj, hall u hu]; simp
      | false =>
        rw [hb.others j fun u hu e => by
          have := List.any_eq_false.1 ha u hu
          simp [e] at this]
        simp
    rw [Nat.zero_add, he]
    exact hend a w (he ▸ hI)
  | succ m ih =>
    intro listed a w hm hb hI
    -- one of the group has not come up
    have hin : ∀ k ∈ Region.ready .any ops listed, ∃ u ∈ U, u.i = k := fun k hk => by
      obtain ⟨hun, o, ho, _⟩ := mem_ready.1 hk
      refine Classical.byContradiction fun hno => ?_
      have hnu : ∀ u ∈ U, u.i ≠ k := fun u hu e => hno ⟨u, hu, e⟩
      have h1 := List.all_eq_true.1 hcl k (List.mem_range.2 (Array.getElem?_eq_some_iff.1 ho).1)
      have h2 : listed1.getD k true = false := by rw [← hb.others k hnu]; exact hun
      have h3 : U.any (·.i == k) = false := List.any_eq_false.2 fun u hu => by simp [hnu u hu]
      rw [h2, h3] at h1
      simp only [Bool.false_or] at h1
      obtain ⟨u, hu⟩ : ∃ u, u ∈ U.filter (fun u => !listed.getD u.i true) := List.exists_mem_of_length_pos (by omega)
      have hu' := List.mem_filter.1 hu
      have h4 := List.all_eq_true.1 h1 u hu'.1
      have hoffu : listed.getD u.i true = false := by simpa using hu'.2
      simp only [Bool.or_eq_true] at h4
      rcases h4 with h4 | h4
      · rw [waits_on hk h4] at hoffu; cases hoffu
      · obtain ⟨u', hu2, h5⟩ := List.any_eq_true.1 h4
        simp only [Bool.and_eq_true] at h5
        have := hb.down u' hu2 (waits_on hk h5.1) u hu'.1 h5.2
        unfold on at this; rw [this] at hoffu; cases hoffu
    have hwp : ∀ k ∈ Region.ready .any ops listed, wpOp P ops (Only K) k (fun a' w' =>
        ((stX [] ops k = false → S w' ∧ wpAnyG P ops [] (Only K) S (m + fuel2) (listed.setIfInBounds k true) a' w') ∧ (stX [] ops k = true → wpAny P .any ops (Only K) (m + fuel2) (listed.setIfInBounds k true) a' w'))) a w := fun k hk => by
      obtain ⟨u, hu, rfl⟩ := hin k hk
      obtain ⟨o, ho, hgd, hst, hlk, hstep⟩ := hs.get u hu
      have hun := (mem_ready.1 hk).1
      have hdon : ∀ l dl, u.dep = some (l, dl) → listed.getD l true = true := fun l dl hd => by
        have := List.all_eq_true.1 hdw u hu
        rw [hd] at this
        exact waits_on hk this
      have hres := PInv.step hg hinj (fun u hu => by
        obtain ⟨_, _, _, _, h, _⟩ := hs.get u hu
        exact h) hu hun hdon hstep hI
      unfold wpOp
      have hsx : stX [] ops u.i = false := by simp [stX, ho, hst]
      simp only [ho, hsx]
      rw [if_pos (by simp [Region.wanted, hgd])]
      refine .inl (wp_mono2 (fun a' w' h' => ⟨fun _ => ⟨hS w' h'.2.1, ?_⟩, fun h => by cases h⟩) (fun _ _ _ h => h.elim) hres)
      refine ih _ a' w' ?_ ⟨by simpa using hb.size, fun j hj => ?_, fun u1 h1 ho1 u2 h2 hw => ?_⟩ h'.2
      · have : (U.filter (fun u' => !(listed.setIfInBounds u.i true).getD u'.i true)).length + 1 = (U.filter (fun u' => !listed.getD u'.i true)).length := by
          clear hcl hdw hoff hm
          have key : ∀ V : List PU, u ∈ V → (∀ x ∈ V, ∀ y ∈ V, x.i = y.i → x = y) → nodupN (V.map (·.i)) = true → (V.filter (fun u' => !(listed.setIfInBounds u.i true).getD u'.i true)).length + 1 = (V.filter (fun u' => !listed.getD u'.i true)).length := by
            intro V
            induction V with
            | nil => intro h; simp at h
            | cons x V ihV =>
              intro hx hj hn
              simp only [List.map_cons, nodupN, Bool.and_eq_true, Bool.not_eq_true'] at hn
              have hxV : ∀ y ∈ V, y.i ≠ x.i := fun y hy e => by
                have : (V.map (·.i)).contains x.i = true := by rw [List.contains_iff_mem]; exact List.mem_map.2 ⟨y, hy, e⟩
                rw [this] at hn; exact absurd hn.1 (by simp)
              by_cases hxu : x = u
              · subst hxu
                have hrest : V.filter (fun u' => !(listed.setIfInBounds x.i true).getD u'.i true) = V.filter (fun u' => !listed.getD u'.i true) := List.filter_congr fun y hy => by rw [getD_set_ne true (Ne.symm (hxV y hy))]
                simp only [List.filter_cons, getD_true, hun, hrest]; simp
              · have huV : u ∈ V := by
                  rcases List.mem_cons.1 hx with h | h
                  · exact absurd h.symm hxu
                  · exact h
                have hne : u.i ≠ x.i := hxV u huV
                have := ihV huV (fun y hy z hz => hj y (by simp [hy]) z (by simp [hz])) hn.2
                simp only [List.filter_cons, getD_set_ne true hne]
                split
                · simp only [List.length_cons]; omega
                · exact this
          exact key U hu hinj hnd
        omega
      · rw [getD_set_ne true (hj u hu)]; exact hb.others j hj
      · by_cases e : u1.i = u.i
        · obtain rfl := hinj u1 h1 u hu e
          exact getD_mono (waits_on hk hw)
        · exact getD_mono (hb.down u1 h1 (on_set ho1 e) u2 h2 hw)
    rw [show m + 1 + fuel2 = (m + fuel2) + 1 from by omega]
    refine ⟨fun hnil => ?_, hwp⟩
    obtain ⟨u, hu⟩ : ∃ u, u ∈ U.filter (fun u => !listed.getD u.i true) := List.exists_mem_of_length_pos (by omega)
    have hu' := List.mem_filter.1 hu
    obtain ⟨k, hk⟩ := topo_ready U listed1 htopo (fun j hj => by
      by_cases hju : ∃ u ∈ U, u.i = j
      · obtain ⟨x, hx, rfl⟩ := hju
        have := List.all_eq_true.1 hoff x hx
        rw [getD_tf hj] at this; cases this
      · have := hb.others j (fun x hx e => hju ⟨x, hx, e⟩)
        exact getD_ft (by rw [this]; exact getD_tf hj) (by
          rw [hb.size]
          exact Classical.byContradiction fun hge => by simp [Array.getElem?_eq_none (Nat.le_of_not_lt hge)] at hj)) (fun x hx => by
      rw [hb.size]
      exact getD_lt (by simpa using List.all_eq_true.1 hoff x hx)) u hu'.1 (by simpa using hu'.2)
    rw [hnil] at hk; cases hk
theorem wpAnyG_par2 {K : Act → World → Prop} {S : World → Prop} {listed1 : Array Bool} {fuel2 : Nat} {U' : List PU} {f : PU} (hU : U = U' ++ [f]) (hok : parOK2 ops n listed1 U' f = true) (hs : StepAll P n σ w0 ops U) (hS : ∀ w, Ext w0 w → S w)
    (hend : ∀ a w, PInv w0 n σ U (setAll listed1 U) a w → wpAnyG P ops [] (Only K) S fuel2 (setAll listed1 U) a w)
    (hend2 : ∀ a w, PInv w0 n σ U' (setAll listed1 U') a w → wpAnyG P ops [] (Only K) S (fuel2 + 1) (setAll listed1 U') a w) :
    ∀ (m : Nat) (listed : Array Bool) (a : Act) (w : World), (U.filter (fun u => !listed.getD u.i true)).length = m → Betw ops U listed1 listed → PInv w0 n σ U listed a w → wpAnyG P ops [] (Only K) S (m + fuel2) listed a w := by
  simp only [parOK2, Bool.and_eq_true, ← hU] at hok
  obtain ⟨⟨⟨⟨⟨hg, hnd⟩, htopo⟩, hoff⟩, hdw⟩, hcl⟩ := hok
  have hinj := nodupN_inj hnd
  intro m
  induction m with
  | zero =>
    intro listed a w hm hb hI
    have hall : ∀ u ∈ U, listed.getD u.i true = true := fun u hu => by
      cases hq : listed.getD u.i true with
      | true => rfl
      | false =>
        have : u ∈ U.filter (fun u => !listed.getD u.i true) := List.mem_filter.2 ⟨hu, by rw [hq]; rfl⟩
        rw [List.eq_nil_of_length_eq_zero hm] at this; simp at this
    have he : listed = setAll listed1 U := arr_ext (by rw [setAll_size, hb.size]) fun j => by
      rw [setAll_getD]
      cases ha : U.any (·.i == j) with
      | true =>
        obtain ⟨u, hu, hj⟩ := List.any_eq_true.1 ha
        rw [← eq_of_beq hj, hall u hu]; simp
      | false =>
        rw [hb.others j fun u hu e => by
          have := List.any_eq_false.1 ha u hu
          simp [e] at this]
        simp
    rw [Nat.zero_add, he]
    exact hend a w (he ▸ hI)
  | succ m ih =>
    intro listed a w hm hb hI
    by_cases hall : ∀ u ∈ U', listed.getD u.i true = true
    · -- what is left of the group is 'f'
      have hff : f ∈ U := by rw [hU]; simp
      have hlf : listed.getD f.i true = false := by
        cases hq : listed.getD f.i true with
        | false => rfl
        | true =>
          have : U.filter (fun u => !listed.getD u.i true) = [] := List.filter_eq_nil_iff.2 fun u hu => by
            rw [hU] at hu
            rcases List.mem_append.1 hu with h | h
            · rw [hall u h]; simp
            · obtain rfl : u = f := by simpa using h
              rw [hq]; simp
          rw [this] at hm; simp at hm
      have hm0 : m = 0 := by
        have h1 : (U'.filter (fun u => !listed.getD u.i true)) = [] := List.filter_eq_nil_iff.2 fun u hu => by rw [hall u hu]; simp
        rw [hU, List.filter_append, h1] at hm
        rw [List.nil_append, List.filter_cons, hlf] at hm
        simpa using hm.symm
      have hfi : ∀ u ∈ U', u.i ≠ f.i := fun u hu e => by
        have := hall u hu; rw [e, hlf] at this; cases this
      have he : listed = setAll listed1 U' := arr_ext (by rw [setAll_size, hb.size]) fun j => by
        rw [setAll_getD]
        cases ha : U'.any (·.i == j) with
        | true =>
          obtain ⟨u, hu, hj⟩ := List.any_eq_true.1 ha
          rw [← eq_of_beq hj, hall u hu]; simp
        | false =>
          by_cases hjf : f.i = j
          · subst hjf
            have := List.all_eq_true.1 hoff f hff
            rw [hlf]; simpa using this
          · rw [hb.others j fun u hu e => by
              rw [hU] at hu
              rcases List.mem_append.1 hu with h | h
              · have := List.any_eq_false.1 ha u h; simp [e] at this
              · obtain rfl : u = f := by simpa using h
                exact hjf e]
            simp
      subst hm0
      rw [show 0 + 1 + fuel2 = fuel2 + 1 from by omega, he]
      obtain ⟨hE, hF, F, h1, h2⟩ := hI
      have hsub : ∀ u ∈ U', u ∈ U := fun u hu => by rw [hU]; simp [hu]
      exact hend2 a w (he ▸ ⟨hE, hF, F, fun u hu ho => h1 u (hsub u hu) ho, fun u hu u' hu' => h2 u (hsub u hu) u' (hsub u' hu')⟩)
    have hex : ∃ u, u ∈ U' ∧ listed.getD u.i true = false := Classical.byContradiction fun hno => hall fun u hu => by
      cases hq : listed.getD u.i true with
      | true => rfl
      | false => exact absurd ⟨u, hu, hq⟩ hno
    -- one of the group has not come up
    have hin : ∀ k ∈ Region.ready .any ops listed, ∃ u ∈ U, u.i = k := fun k hk => by
      obtain ⟨hun, o, ho, _⟩ := mem_ready.1 hk
      refine Classical.byContradiction fun hno => ?_
      have hnu : ∀ u ∈ U, u.i ≠ k := fun u hu e => hno ⟨u, hu, e⟩
      have h1 := List.all_eq_true.1 hcl k (List.mem_range.2 (Array.getElem?_eq_some_iff.1 ho).1)
      have h2 : listed1.getD k true = false := by rw [← hb.others k hnu]; exact hun
      have h3 : U.any (·.i == k) = false := List.any_eq_false.2 fun u hu => by simp [hnu u hu]
      rw [h2, h3] at h1
      simp only [Bool.false_or] at h1
      obtain ⟨u, hu, hoffu⟩ := hex
      have h4 := List.all_eq_true.1 h1 u hu
      have hsub : ∀ u ∈ U', u ∈ U := fun u hu => by rw [hU]; simp [hu]
      simp only [Bool.or_eq_true] at h4
      rcases h4 with h4 | h4
      · rw [waits_on hk h4] at hoffu; cases hoffu
      · obtain ⟨u', hu2, h5⟩ := List.any_eq_true.1 h4
        simp only [Bool.and_eq_true] at h5
        have := hb.down u' (hsub u' hu2) (waits_on hk h5.1) u (hsub u hu) h5.2
        unfold on at this; rw [this] at hoffu; cases hoffu
    have hwp : ∀ k ∈ Region.ready .any ops listed, wpOp P ops (Only K) k (fun a' w' =>
        ((stX [] ops k = false → S w' ∧ wpAnyG P ops [] (Only K) S (m + fuel2) (listed.setIfInBounds k true) a' w') ∧ (stX [] ops k = true → wpAny P .any ops (Only K) (m + fuel2) (listed.setIfInBounds k true) a' w'))) a w := fun k hk => by
      obtain ⟨u, hu, rfl⟩ := hin k hk
      obtain ⟨o, ho, hgd, hst, hlk, hstep⟩ := hs.get u hu
      have hun := (mem_ready.1 hk).1
      have hdon : ∀ l dl, u.dep = some (l, dl) → listed.getD l true = true := fun l dl hd => by
        have := List.all_eq_true.1 hdw u hu
        rw [hd] at this
        exact waits_on hk this
      have hres := PInv.step hg hinj (fun u hu => by
        obtain ⟨_, _, _, _, h, _⟩ := hs.get u hu
        exact h) hu hun hdon hstep hI
      unfold wpOp
      have hsx : stX [] ops u.i = false := by simp [stX, ho, hst]
      simp only [ho, hsx]
      rw [if_pos (by simp [Region.wanted, hgd])]
      refine .inl (wp_mono2 (fun a' w' h' => ⟨fun _ => ⟨hS w' h'.2.1, ?_⟩, fun h => by cases h⟩) (fun _ _ _ h => h.elim) hres)
      refine ih _ a' w' ?_ ⟨by simpa using hb.size, fun j hj => ?_, fun u1 h1 ho1 u2 h2 hw => ?_⟩ h'.2
      · have : (U.filter (fun u' => !(listed.setIfInBounds u.i true).getD u'.i true)).length + 1 = (U.filter (fun u' => !listed.getD u'.i true)).length := by
          clear hcl hdw hoff hm
          have key : ∀ V : List PU, u ∈ V → (∀ x ∈ V, ∀ y ∈ V, x.i = y.i → x = y) → nodupN (V.map (·.i)) = true → (V.filter (fun u' => !(listed.setIfInBounds u.i true).getD u'.i true)).length + 1 = (V.filter (fun u' => !listed.getD u'.i true)).length := by
            intro V
            induction V with
            | nil => intro h; simp at h
            | cons x V ihV =>
              intro hx hj hn
              simp only [List.map_cons, nodupN, Bool.and_eq_true, Bool.not_eq_true'] at hn
              have hxV : ∀ y ∈ V, y.i ≠ x.i := fun y hy e => by
                have : (V.map (·.i)).contains x.i = true := by rw [List.contains_iff_mem]; exact List.mem_map.2 ⟨y, hy, e⟩
                rw [this] at hn; exact absurd hn.1 (by simp)
              by_cases hxu : x = u
              · subst hxu
                have hrest : V.filter (fun u' => !(listed.setIfInBounds x.i true).getD u'.i true) = V.filter (fun u' => !listed.getD u'.i true) := List.filter_congr fun y hy => by rw [getD_set_ne true (Ne.symm (hxV y hy))]
                simp only [List.filter_cons, getD_true, hun, hrest]; simp
              · have huV : u ∈ V := by
                  rcases List.mem_cons.1 hx with h | h
                  · exact absurd h.symm hxu
                  · exact h
                have hne : u.i ≠ x.i := hxV u huV
                have := ihV huV (fun y hy z hz => hj y (by simp [hy]) z (by simp [hz])) hn.2
                simp only [List.filter_cons, getD_set_ne true hne]
                split
                · simp only [List.length_cons]; omega
                · exact this
          exact key U hu hinj hnd
        omega
      · rw [getD_set_ne true (hj u hu)]; exact hb.others j hj
      · by_cases e : u1.i = u.i
        · obtain rfl := hinj u1 h1 u hu e
          exact getD_mono (waits_on hk hw)
        · exact getD_mono (hb.down u1 h1 (on_set ho1 e) u2 h2 hw)
    rw [show m + 1 + fuel2 = (m + fuel2) + 1 from by omega]
    refine ⟨fun hnil => ?_, hwp⟩
    obtain ⟨u, hu⟩ : ∃ u, u ∈ U.filter (fun u => !listed.getD u.i true) := List.exists_mem_of_length_pos (by omega)
    have hu' := List.mem_filter.1 hu
    obtain ⟨k, hk⟩ := topo_ready U listed1 htopo (fun j hj => by
      by_cases hju : ∃ u ∈ U, u.i = j
      · obtain ⟨x, hx, rfl⟩ := hju
        have := List.all_eq_true.1 hoff x hx
        rw [getD_tf hj] at this; cases this
      · have := hb.others j (fun x hx e => hju ⟨x, hx, e⟩)
        exact getD_ft (by rw [this]; exact getD_tf hj) (by
          rw [hb.size]
          exact Classical.byContradiction fun hge => by simp [Array.getElem?_eq_none (Nat.le_of_not_lt hge)] at hj)) (fun x hx => by
      rw [hb.size]
      exact getD_lt (by simpa using List.all_eq_true.1 hoff x hx)) u hu'.1 (by simpa using hu'.2)
    rw [hnil] at hk; cases hk
end
/-! ### a region with such a group in its midst -/
/-- The first part of the order, up to the group: what has come up behind it. -/
def eagerPre (X : List Nat) (ops : Array Oper) : List (Nat × Bool) → Array Bool → Option (Array Bool)
  | [], listed => some listed
  | (i, true) :: κ, listed => bif Region.free .any ops listed i && (Region.ready .any ops listed).contains i && eagW X ops listed i then eagerPre X ops κ (listed.setIfInBounds i true) else none
  | (i, false) :: κ, listed => bif Region.ready .any ops listed == [i] then eagerPre X ops κ (listed.setIfInBounds i true) else none
theorem wpAnyG_pre {P : Program} {ops : Array Oper} {X : List Nat} {K K1 : Act → World → Prop} {fuel2 : Nat} {listed1 : Array Bool} (hs : Region.noSelect ops = true)
    (hend : ∀ a w, K1 a w → wpAnyG P ops X (Only K) (Ext w) fuel2 listed1 a w) :
    ∀ (κ : List (Nat × Bool)) (l : List (Bool × Oper)) (listed : Array Bool) (a : Act) (w : World), pickAll ops κ = some l → eagerPre X ops κ listed = some listed1 →
      wpE P ops true K1 l a w → wpAnyG P ops X (Only K) (Ext w) (κ.length + fuel2) listed a w
  | [], l, listed, a, w, hp, he, h => by
    simp only [pickAll, Option.some.injEq] at hp
    subst hp
    simp only [eagerPre, Option.some.injEq] at he
    subst he
    rw [List.length_nil, Nat.zero_add]
    exact hend a w h
  | (i, true) :: κ, l, listed, a, w, hp, he, h => by
    simp only [pickAll] at hp
    split at hp
    · rename_i o l' ho hl'
      simp only [Option.some.injEq] at hp
      subst hp
      simp only [eagerPre] at he
      cases hc : (Region.free .any ops listed i && (Region.ready .any ops listed).contains i && eagW X ops listed i) with
      | false => rw [hc] at he; cases he
      | true =>
        rw [hc] at he
        simp only [cond_true] at he
        simp only [Bool.and_eq_true] at hc
        obtain ⟨⟨hf, hr⟩, hw⟩ := hc
        obtain ⟨v, hy, h⟩ := h
        have ih := wpAnyG_pre hs hend κ l' _ _ w hl' he h
        rw [List.length_cons, show κ.length + 1 + fuel2 = (κ.length + fuel2) + 1 from by omega]
        exact wpAnyG_eag hs ho (fun c a w h => h.elim) hf (by simpa using hr) hw (fun _ h => h) (Ext.refl w) hy ih
    · cases hp
  | (i, false) :: κ, l, listed, a, w, hp, he, h => by
    simp only [pickAll] at hp
    split at hp
    · rename_i o l' ho hl'
      simp only [Option.some.injEq] at hp
      subst hp
      simp only [eagerPre] at he
      cases hr : (Region.ready .any ops listed == [i]) with
      | false => rw [hr] at he; cases he
      | true =>
        rw [hr] at he
        simp only [cond_true] at he
        have hr := eq_of_beq hr
        rw [List.length_cons, show κ.length + 1 + fuel2 = (κ.length + fuel2) + 1 from by omega]
        refine ⟨fun h0 => (by rw [h0] at hr; cases hr), fun j hj => ?_⟩
        rw [hr] at hj
        obtain rfl : j = i := by simpa using hj
        unfold wpOp
        simp only [ho]
        unfold wpE at h
        split at h
        · rename_i hw
          rw [if_pos hw]
          refine .inl (wp_mono2 (fun a' w' h' => ?_) (fun _ _ _ h => h.elim) h)
          have hrest := wpAnyG_pre hs hend κ l' _ a' w' hl' he h'.2
          exact ⟨fun hns => ⟨h'.1 rfl (stX_f ho hns), wpAnyG_weaken (fun w'' e => (h'.1 rfl (stX_f ho hns)).trans e) _ _ _ _ hrest⟩, fun _ => wpAny_of_G _ _ _ _ hrest⟩
        · rename_i hw
          rw [if_neg hw]
          have hrest := wpAnyG_pre hs hend κ l' _ _ w hl' he h
          exact ⟨fun _ => ⟨Ext.refl w, hrest⟩, fun _ => wpAny_of_G _ _ _ _ hrest⟩
    · cases hp
def nonlit : List PU → List (List Nat) → List (List Nat)
  | u :: us, v :: vs => if u.lit then nonlit us vs else v :: nonlit us vs
  | _, _ => []
def envU (σ : Env) : List PU → List Value → Env
  | u :: us, v :: vs => (u.d, v) :: envU σ us vs
  | _, _ => σ
/-- What is known of each, one behind the other. -/
def ParK (w1 w2 : World) : List PU → (List Value → List (List Nat) → Prop) → Prop
  | [], k => k [] []
  | u :: us, k => ∀ v f, u.R w1 w2 v f → ParK w1 w2 us (fun vs fs => k (v :: vs) (f :: fs))
theorem ParK.use {w1 w2 : World} {F : Nat → List Nat} : ∀ (U : List PU) (vs : List Value) (k : List Value → List (List Nat) → Prop), ParK w1 w2 U k → All2 (fun u v => u.R w1 w2 v (F u.i)) U vs → k vs (U.map fun u => F u.i)
  | [], [], k, h, _ => h
  | [], _ :: _, _, _, hh => hh.elim
  | _ :: _, [], _, _, hh => hh.elim
  | u :: us, v :: vs, k, h, hh => ParK.use us vs (fun vs fs => k (v :: vs) (F u.i :: fs)) (h v _ hh.1) hh.2
theorem pick_vals {a : Act} {R : PU → Value → Prop} : ∀ (U : List PU), (∀ u ∈ U, ∃ v, a.tmps[u.d]? = some v ∧ R u v) → ∃ vs, All2 (fun u v => a.tmps[u.d]? = some v ∧ R u v) U vs
  | [], _ => ⟨[], trivial⟩
  | u :: us, h => by
    obtain ⟨v, hv⟩ := h u (by simp)
    obtain ⟨vs, hvs⟩ := pick_vals us (fun x hx => h x (by simp [hx]))
    exact ⟨v :: vs, hv, hvs⟩
theorem fits_envU {n : Nat} {σ : Env} {a : Act} (hF : Fits n σ a) : ∀ (U : List PU) (vs : List Value), All2 (fun u v => a.tmps[u.d]? = some v) U vs → Fits n (envU σ U vs) a
  | [], [], _ => hF
  | [], _ :: _, hh => hh.elim
  | _ :: _, [], hh => hh.elim
  | u :: us, v :: vs, hh => by
    have := fits_envU hF us vs hh.2
    refine ⟨this.size, this.dfr, fun i x hx => ?_⟩
    simp only [envU, look] at hx
    cases hq : Nat.beq i u.d with
    | true =>
      have : i = u.d := Nat.eq_of_beq_eq_true hq
      subst this
      simp only [hq, cond_true, Option.some.injEq] at hx
      subst hx; exact hh.1
    | false =>
      simp only [hq, cond_false] at hx
      exact this.get i x hx
theorem nonlit_djA {f : List Nat} {F : Nat → List Nat} : ∀ (us : List PU), (∀ u ∈ us, u.lit = false → Dj f (F u.i)) → DjA f (nonlit us (us.map fun u => F u.i))
  | [], _ => trivial
  | u :: us, h => by
    have ih := nonlit_djA us (fun y hy => h y (by simp [hy]))
    simp only [List.map_cons, nonlit]
    split
    · exact ih
    · rename_i hl
      exact ⟨h u (by simp) (by simpa using hl), ih⟩
theorem nonlit_djL {F : Nat → List Nat} : ∀ (us : List PU), us.Pairwise (fun u u' => u.lit = false → u'.lit = false → Dj (F u.i) (F u'.i)) → DjL (nonlit us (us.map fun u => F u.i))
  | [], _ => trivial
  | u :: us, h => by
    rw [List.pairwise_cons] at h
    have ih := nonlit_djL us h.2
    simp only [List.map_cons, nonlit]
    split
    · exact ih
    · rename_i hl
      exact ⟨nonlit_djA us (fun y hy hyl => h.1 y hy (by simpa using hl) hyl), ih⟩
theorem nodupN_pw : ∀ {U : List PU}, nodupN (U.map (·.i)) = true → U.Pairwise (fun u u' => u.i ≠ u'.i)
  | [], _ => List.Pairwise.nil
  | x :: U, hn => by
    simp only [List.map_cons, nodupN, Bool.and_eq_true, Bool.not_eq_true'] at hn
    refine List.Pairwise.cons (fun y hy e => ?_) (nodupN_pw hn.2)
    have : (U.map (·.i)).contains x.i = true := by rw [List.contains_iff_mem]; exact List.mem_map.2 ⟨y, hy, e.symm⟩
    rw [this] at hn; exact absurd hn.1 (by simp)
theorem nodupN_left : ∀ {U V : List PU}, nodupN ((U ++ V).map (·.i)) = true → nodupN (U.map (·.i)) = true
  | [], _, _ => rfl
  | x :: U, V, h => by
    simp only [List.cons_append, List.map_cons, nodupN, Bool.and_eq_true, Bool.not_eq_true'] at h ⊢
    refine ⟨?_, nodupN_left h.2⟩
    rw [← Bool.not_eq_true, List.contains_iff_mem]
    intro hc
    have h1 : (List.map (·.i) (U ++ V)).contains x.i = true := by
      rw [List.contains_iff_mem, List.map_append]
      exact List.mem_append.2 (.inl hc)
    rw [h1] at h; exact absurd h.1 (by simp)
def regPOK (ops : Array Oper) (n : Nat) (κ1 : List (Nat × Bool)) (U : List PU) (κ2 : List (Nat × Bool)) : Bool :=
  Region.noSelect ops && (κ1.length + (U.length + κ2.length) == ops.size) && match eagerPre [] ops κ1 (Array.replicate ops.size false) with
    | some L => parOK ops n L U && eager [] ops κ2 (setAll L U)
    | none => false
section
variable {P : Program} {n : Nat} {Q : Exit → Act → World → Prop} {cs : List Code} {σ : Env} {w : World}
theorem S_regP (hm : P.follows .mixedOrders = true) (κ1 : List (Nat × Bool)) (U : List PU) (κ2 : List (Nat × Bool)) {id : Nat} {ops : Array Oper} {l1 l2 : List (Bool × Oper)} (hk : regPOK ops n κ1 U κ2 = true) (hl1 : pickAll ops κ1 = some l1) (hl2 : pickAll ops κ2 = some l2)
    (σ1 : Env) (Φ : World → Prop) (h1 : ∀ w', Ext w w' → J P ops true n (fun a w1 => Fits n σ1 a ∧ Φ w1) l1 σ w')
    (h2 : ∀ w1, Φ w1 → StepAll P n σ1 w1 ops U ∧ ∀ w2, Ext w1 w2 → ParK w1 w2 U (fun vs fs => DjL (nonlit U fs) → J P ops true n (CK P Q cs) l2 (envU σ1 U vs) w2)) :
    S P n Q (.region id ops true :: cs) σ w := fun a ha => by
  simp only [regPOK, Bool.and_eq_true, beq_iff_eq] at hk
  obtain ⟨⟨hs, hlen⟩, hk⟩ := hk
  split at hk
  · rename_i L hL
    simp only [Bool.and_eq_true] at hk
    have key : ∀ a1 w1, Fits n σ1 a1 ∧ Φ w1 → wpAnyG P ops [] (Only (CK P Q cs)) (Ext w1) (U.length + κ2.length) L a1 w1 := fun a1 w1 ⟨hf, hp⟩ => by
      obtain ⟨hst, hcont⟩ := h2 w1 hp
      have hok := hk.1
      have hok' := hk.1
      simp only [parOK, Bool.and_eq_true] at hok
      obtain ⟨⟨⟨⟨⟨hg, hnd⟩, _⟩, hoff⟩, _⟩, _⟩ := hok
      have hinj := nodupN_inj hnd
      have hoff' : ∀ u ∈ U, L.getD u.i true = false := fun u hu => by simpa using List.all_eq_true.1 hoff u hu
      refine wpAnyG_par hok' hst (fun w h => h) (fun a2 w2 hI => ?_) U.length L a1 w1 ?_ ⟨rfl, fun _ _ => rfl, fun u hu ho => ?_⟩ ⟨Ext.refl w1, hf, fun _ => [], fun u hu ho => ?_, fun u hu _ _ _ _ _ ho => ?_⟩
      · obtain ⟨hE, hF, F, hfa, hsep⟩ := hI
        have hon : ∀ u ∈ U, on (setAll L U) u := fun u hu => by
          unfold on; rw [setAll_getD, show U.any (·.i == u.i) = true from List.any_eq_true.2 ⟨u, hu, by simp⟩]; simp
        obtain ⟨vs, hvs⟩ := pick_vals U (fun u hu => hfa u hu (hon u hu))
        have ht : All2 (fun u v => a2.tmps[u.d]? = some v) U vs := All2.imp (fun _ _ h => h.1) hvs
        have hpw : U.Pairwise (fun u u' => u.lit = false → u'.lit = false → Dj (F u.i) (F u'.i)) := by
          have hne := nodupN_pw hnd
          refine List.Pairwise.imp_of_mem (fun {u u'} hu hu' hne hl hl' => ?_) hne
          refine hsep u hu u' hu' hne (fun hd => ?_) (fun hd => ?_) (hon u hu) (hon u' hu')
          · obtain ⟨⟨l, dl⟩, hd1, hd2⟩ := Option.map_eq_some_iff.1 hd
            obtain ⟨u0, hu0, he, _, _, _, hlit, _⟩ := groupOK_dep hg hu hd1
            have := hinj u0 hu0 u' hu' (by rw [he]; exact hd2)
            subst this; rw [hlit] at hl'; cases hl'
          · obtain ⟨⟨l, dl⟩, hd1, hd2⟩ := Option.map_eq_some_iff.1 hd
            obtain ⟨u0, hu0, he, _, _, _, hlit, _⟩ := groupOK_dep hg hu' hd1
            have := hinj u0 hu0 u hu (by rw [he]; exact hd2)
            subst this; rw [hlit] at hl; cases hl
        have hJ := ParK.use U vs _ (hcont w2 hE) (All2.imp (fun _ _ h => h.2.1) hvs) (nonlit_djL U hpw)
        have hw := hJ a2 (fits_envU hF U vs ht)
        exact wpAnyG_weaken (fun w'' e => hE.trans e) _ _ _ _ (wpAnyG_of_wpE hs κ2 l2 _ a2 w2 hl2 hk.2 hw)
      · rw [List.filter_eq_self.2 fun u hu => by rw [hoff' u hu]; rfl]
      · unfold on at ho; rw [hoff' u hu] at ho; cases ho
      · unfold on at ho; rw [hoff' u hu] at ho; cases ho
      · unfold on at ho; rw [hoff' u hu] at ho; cases ho
    have h3 := wpAnyG_pre hs key κ1 l1 _ a _ hl1 hL (h1 _ (Ext.drew w) a ha)
    rw [hlen] at h3
    exact wp_mono (wp_region_any hm (wpAny_of_G _ _ _ _ h3)) (fun e a w h => by cases e <;> first | exact h | exact h.elim)
  · cases hk
end
/-! ### .. with one more that may come up later -/
def regQOK (ops : Array Oper) (n : Nat) (κ1 : List (Nat × Bool)) (U : List PU) (f : PU) (κ2 κ3 : List (Nat × Bool)) : Bool :=
  Region.noSelect ops && (κ1.length + ((U ++ [f]).length + κ2.length) == ops.size) && (κ3.length == κ2.length + 1) && match eagerPre [] ops κ1 (Array.replicate ops.size false) with
    | some L => parOK2 ops n L U f && eager [] ops κ2 (setAll L (U ++ [f])) && eager [] ops κ3 (setAll L U)
    | none => false
theorem pinv_pw {n : Nat} {σ : Env} {w0 : World} {U : List PU} {L : Array Bool} {a : Act} {w : World} (hg : groupOK n U = true) (hnd : nodupN (U.map (·.i)) = true) (hI : PInv w0 n σ U (setAll L U) a w) :
    Ext w0 w ∧ Fits n σ a ∧ ∃ F : Nat → List Nat, ∃ vs, All2 (fun u v => a.tmps[u.d]? = some v) U vs ∧ All2 (fun u v => u.R w0 w v (F u.i)) U vs ∧ DjL (nonlit U (U.map fun u => F u.i)) := by
  obtain ⟨hE, hF, F, hfa, hsep⟩ := hI
  have hinj := nodupN_inj hnd
  have hon : ∀ u ∈ U, on (setAll L U) u := fun u hu => by
    unfold on; rw [setAll_getD, show U.any (·.i == u.i) = true from List.any_eq_true.2 ⟨u, hu, by simp⟩]; simp
  obtain ⟨vs, hvs⟩ := pick_vals U (fun u hu => hfa u hu (hon u hu))
  refine ⟨hE, hF, F, vs, All2.imp (fun _ _ h => h.1) hvs, All2.imp (fun _ _ h => h.2.1) hvs, nonlit_djL U ?_⟩
  have hne := nodupN_pw hnd
  refine List.Pairwise.imp_of_mem (fun {u u'} hu hu' hne hl hl' => ?_) hne
  refine hsep u hu u' hu' hne (fun hd => ?_) (fun hd => ?_) (hon u hu) (hon u' hu')
  · obtain ⟨⟨l, dl⟩, hd1, hd2⟩ := Option.map_eq_some_iff.1 hd
    obtain ⟨u0, hu0, he, _, _, _, hlit, _⟩ := groupOK_dep hg hu hd1
    have := hinj u0 hu0 u' hu' (by rw [he]; exact hd2)
    subst this; rw [hlit] at hl'; cases hl'
  · obtain ⟨⟨l, dl⟩, hd1, hd2⟩ := Option.map_eq_some_iff.1 hd
    obtain ⟨u0, hu0, he, _, _, _, hlit, _⟩ := groupOK_dep hg hu' hd1
    have := hinj u0 hu0 u hu (by rw [he]; exact hd2)
    subst this; rw [hlit] at hl; cases hl
section
variable {P : Program} {n : Nat} {Q : Exit → Act → World → Prop} {cs : List Code} {σ : Env} {w : World}
theorem S_regQ (hm : P.follows .mixedOrders = true) (κ1 : List (Nat × Bool)) (U : List PU) (f : PU) (κ2 κ3 : List (Nat × Bool)) {id : Nat} {ops : Array Oper} {l1 l2 l3 : List (Bool × Oper)} (hk : regQOK ops n κ1 U f κ2 κ3 = true) (hg' : groupOK n U = true) (hl1 : pickAll ops κ1 = some l1) (hl2 : pickAll ops κ2 = some l2) (hl3 : pickAll ops κ3 = some l3)
    (σ1 : Env) (Φ : World → Prop) (h1 : ∀ w', Ext w w' → J P ops true n (fun a w1 => Fits n σ1 a ∧ Φ w1) l1 σ w')
    (h2 : ∀ w1, Φ w1 → StepAll P n σ1 w1 ops (U ++ [f]) ∧ (∀ w2, Ext w1 w2 → ParK w1 w2 (U ++ [f]) (fun vs fs => DjL (nonlit (U ++ [f]) fs) → J P ops true n (CK P Q cs) l2 (envU σ1 (U ++ [f]) vs) w2)) ∧
      (∀ w2, Ext w1 w2 → ParK w1 w2 U (fun vs fs => DjL (nonlit U fs) → J P ops true n (CK P Q cs) l3 (envU σ1 U vs) w2))) :
    S P n Q (.region id ops true :: cs) σ w := fun a ha => by
  simp only [regQOK, Bool.and_eq_true, beq_iff_eq] at hk
  obtain ⟨⟨⟨hs, hlen⟩, hlen3⟩, hk⟩ := hk
  split at hk
  · rename_i L hL
    simp only [Bool.and_eq_true] at hk
    have key : ∀ a1 w1, Fits n σ1 a1 ∧ Φ w1 → wpAnyG P ops [] (Only (CK P Q cs)) (Ext w1) ((U ++ [f]).length + κ2.length) L a1 w1 := fun a1 w1 ⟨hf, hp⟩ => by
      obtain ⟨hst, hcont, hcont3⟩ := h2 w1 hp
      have hok := hk.1.1
      have hok' := hk.1.1
      simp only [parOK2, Bool.and_eq_true] at hok
      obtain ⟨⟨⟨⟨⟨hg, hnd⟩, _⟩, hoff⟩, _⟩, _⟩ := hok
      have hoff' : ∀ u ∈ U ++ [f], L.getD u.i true = false := fun u hu => by simpa using List.all_eq_true.1 hoff u hu
      have hnd' : nodupN (U.map (·.i)) = true := nodupN_left hnd
      refine wpAnyG_par2 rfl hok' hst (fun w h => h) (fun a2 w2 hI => ?_) (fun a2 w2 hI => ?_) (U ++ [f]).length L a1 w1 ?_ ⟨rfl, fun _ _ => rfl, fun u hu ho => ?_⟩ ⟨Ext.refl w1, hf, fun _ => [], fun u hu ho => ?_, fun u hu _ _ _ _ _ ho => ?_⟩
      · obtain ⟨hE, hF, F, vs, ht, hr, hd⟩ := pinv_pw hg hnd hI
        have hJ := ParK.use _ vs _ (hcont w2 hE) hr hd
        exact wpAnyG_weaken (fun w'' e => hE.trans e) _ _ _ _ (wpAnyG_of_wpE hs κ2 l2 _ a2 w2 hl2 hk.1.2 (hJ a2 (fits_envU hF _ vs ht)))
      · obtain ⟨hE, hF, F, vs, ht, hr, hd⟩ := pinv_pw hg' hnd' hI
        have hJ := ParK.use _ vs _ (hcont3 w2 hE) hr hd
        have := wpAnyG_weaken (fun w'' e => hE.trans e) _ _ _ _ (wpAnyG_of_wpE hs κ3 l3 _ a2 w2 hl3 hk.2 (hJ a2 (fits_envU hF _ vs ht)))
        rwa [hlen3] at this
      · rw [List.filter_eq_self.2 fun u hu => by rw [hoff' u hu]; rfl]
      · unfold on at ho; rw [hoff' u hu] at ho; cases ho
      · unfold on at ho; rw [hoff' u hu] at ho; cases ho
      · unfold on at ho; rw [hoff' u hu] at ho; cases ho
    have h3 := wpAnyG_pre hs key κ1 l1 _ a _ hl1 hL (h1 _ (Ext.drew w) a ha)
    rw [hlen] at h3
    exact wp_mono (wp_region_any hm (wpAny_of_G _ _ _ _ h3)) (fun e a w h => by cases e <;> first | exact h | exact h.elim)
  · cases hk
end
/-! ### what may stand in a group -/
section
variable {P : Program} {n : Nat} {σ : Env} {w0 : World} {i d : Nat} {ty : TypeId} {pos : String} {af : Array Edge} {g : Option (Nat × Bool)}
theorem step_lit {t e sz bytes : Nat} {z : List Value} (hT : SlT P t e sz bytes z) : StepOK P n σ w0 ⟨some d, .buildSlice t 0 #[], ty, pos, af, g⟩ ⟨i, d, sz, [], true, none, none⟩ := fun a w _ hE _ => by
  obtain ⟨ti, zv, hinf, hs, _⟩ := hT.info
  refine wp_value (w' := w.alloc (.cells #[] e)) (v := .slice (some ⟨w.heap.size, 0, none⟩) 0 0) ?_ ⟨_, _, rfl, Ext.alloc _ _, ⟨?_, rfl⟩, fun _ => ⟨_, _, rfl⟩, fun g hg => .inl (by cases mem_blks.1 hg; exact Nat.le_refl _)⟩
  · simp [execOp, Instr.buildSlice, run_underlying hT.und, sizeOf, typeInfo, hinf, Instr.fill, newRow, Array.range_zero']
  · exact Own.ofBlk (by simpa using Blk.new w #[] e) hE.size (by simp) (by simp) (by simp)
theorem step_app {t e sz bytes l dl : Nat} {z : List Value} {x : Operand} {u : Value} {cs : List Value} (hT : SlT P t e sz bytes z) (hx : ev σ x = some u) (hsrc : ∀ w, Ext w0 w → Src w sz u cs) (h1 : cs.all (·.oneCell') = true)
    (hbound : (([] : List Value).length + cs.length) * bytes ≤ 140737488355328) (hby0 : 0 < bytes) : StepOK P n σ w0 ⟨some d, .call { callee := .builtin .append, args := #[.tmp dl, x], argTypes := #[t, t] }, ty, pos, af, g⟩ ⟨i, d, sz, cs, false, some (l, dl), none⟩ := fun a w ha hE hd => by
  obtain ⟨vl, hvl, hown, a0, k0, rfl⟩ := hd l dl rfl
  obtain ⟨v', w', hr, ho, _, hb, he⟩ := run_append' hT ty hown (hsrc w hE) h1 (by simpa using hbound) hby0 hE.size (Nat.le_refl _)
  have hX := he a0 k0 rfl
  refine wp_value (w' := w') (v := v') ?_ ⟨_, _, rfl, hX, ⟨by simpa using ho, rfl⟩, fun h => by simp at h, fun g hg => ?_⟩
  · have hv : a.eval (.tmp dl) = .slice a0 k0 0 := by simp [Act.eval, Array.getD_eq_getD_getElem?, hvl]
    simp [execOp, resolve, invoke, builtin, hv, ha.eval hx, hr]
  · rcases hb g (mem_blks.1 hg) with h | h
    · exact .inr ⟨l, dl, _, rfl, hvl, h⟩
    · exact .inl h
theorem step_appN {t e sz bytes : Nat} {z : List Value} {s x : Operand} {u : Value} {cs : List Value} (hT : SlT P t e sz bytes z) (hs : ev σ s = some (.slice none 0 0)) (hx : ev σ x = some u) (hsrc : ∀ w, Ext w0 w → Src w sz u cs) (h1 : cs.all (·.oneCell') = true)
    (hbound : (([] : List Value).length + cs.length) * bytes ≤ 140737488355328) (hby0 : 0 < bytes) : StepOK P n σ w0 ⟨some d, .call { callee := .builtin .append, args := #[s, x], argTypes := #[t, t] }, ty, pos, af, g⟩ ⟨i, d, sz, cs, false, none, none⟩ := fun a w ha hE _ => by
  obtain ⟨v', w', hr, ho, _, hb, he⟩ := run_append' hT ty (Own.nil w w0.heap.size w.heap.size sz) (hsrc w hE) h1 (by simpa using hbound) hby0 hE.size (Nat.le_refl _)
  have hX := he none 0 rfl
  refine wp_value (w' := w') (v := v') ?_ ⟨_, _, rfl, hX, ⟨by simpa using ho, rfl⟩, fun h => by simp at h, fun g hg => ?_⟩
  · simp [execOp, resolve, invoke, builtin, ha.eval hs, ha.eval hx, hr]
  · rcases hb g (mem_blks.1 hg) with h | h
    · simp [Value.ownBlock] at h
    · exact .inl h
theorem step_make {t e sz bytes : Nat} {z cs : List Value} {x y : Operand} {m : Nat} (hT : SlT P t e sz bytes z) (hx : ev σ x = some (.int .i64 m)) (hy : ev σ y = some (.int .i64 m)) (hm : m * bytes ≤ 2 ^ 47) (hb : 0 < bytes) (hcs : (List.replicate m z).flatten = cs) (hl : cs.length = m * sz) :
    StepOK P n σ w0 ⟨some d, .makeSlice t x y, ty, pos, af, none⟩ ⟨i, d, sz, cs, false, none, none⟩ := fun a w ha hE _ => by
  obtain ⟨w', hr, hX, hB⟩ := run_mk (w := w) (d := some d) (ty := ty) (pos := pos) (af := af) (g := none) hT (ha.eval hx) (ha.eval hy) hm hb
  have hmm : m ≤ maxLen := by
    have := Nat.le_trans (Nat.le_mul_of_pos_right m hb) hm
    unfold maxLen; omega
  exact wp_value hr ⟨_, _, rfl, hX, ⟨Own.ofBlk (hcs ▸ hB) hE.size (hcs ▸ hB).lt hl hmm, rfl⟩, fun h => by simp at h, fun g hg => .inl (by cases mem_blks.1 hg; exact Nat.le_refl _)⟩
theorem step_call {f : FuncId} {args : List Operand} {ats : Array TypeId} {vs cs : List Value} {sz : Nat} (hf : ∀ args w, (callFunc f args).run P w = .ok (.enter f args) w) (hv : evs σ args = some vs) (hc : ∀ w, Ext w0 w → Ct P f vs w (fun v w' => Own w' w.heap.size w'.heap.size sz v cs)) :
    StepOK P n σ w0 ⟨some d, .call { callee := .value (.func f), args := args.toArray, argTypes := ats }, ty, pos, af, g⟩ ⟨i, d, sz, cs, false, none, none⟩ := fun a w ha hE _ => by
  have hm := evs_map ha args vs hv
  have hx : (execOp a.eval ⟨some d, .call { callee := .value (.func f), args := args.toArray, argTypes := ats }, ty, pos, af, g⟩).run P w = .ok (.enter f vs.toArray) w := by
    simp [execOp, resolve, Deferred.ofValue, Act.eval, invoke, hm, hf]
  unfold Oper.wp
  rw [hx]
  show Calls P f vs.toArray w _
  refine Calls.mono (hc w hE) fun e w' ⟨v, he, hX, hO⟩ => ?_
  subst he
  exact ⟨v, _, rfl, hX, ⟨hO.widen hE.size (Nat.le_refl _), rfl⟩, fun h => by simp at h, fun g hg => .inl (hO.blk g (mem_blks.1 hg)).1⟩
/-- A call whose result 'X' tells of. -/
theorem step_callX {f : FuncId} {args : List Operand} {ats : Array TypeId} {vs : List Value} {X : World → World → Value → List Nat → Prop} (hf : ∀ args w, (callFunc f args).run P w = .ok (.enter f args) w) (hv : evs σ args = some vs)
    (hc : ∀ w, Ext w0 w → Ct P f vs w (fun v w' => ∃ l, X w0 w' v l ∧ ∀ b ∈ l, w.heap.size ≤ b ∧ b < w'.heap.size)) :
    StepOK P n σ w0 ⟨some d, .call { callee := .value (.func f), args := args.toArray, argTypes := ats }, ty, pos, af, g⟩ ⟨i, d, 0, [], false, none, some X⟩ := fun a w ha hE _ => by
  have hm := evs_map ha args vs hv
  have hx : (execOp a.eval ⟨some d, .call { callee := .value (.func f), args := args.toArray, argTypes := ats }, ty, pos, af, g⟩).run P w = .ok (.enter f vs.toArray) w := by
    simp [execOp, resolve, Deferred.ofValue, Act.eval, invoke, hm, hf]
  unfold Oper.wp
  rw [hx]
  show Calls P f vs.toArray w _
  refine Calls.mono (hc w hE) fun e w' ⟨v, he, hX, l, hO, hl⟩ => ?_
  subst he
  exact ⟨v, l, rfl, hX, ⟨w', hE.trans hX, Ext.refl w', hO, fun b hb => ⟨Nat.le_trans hE.size (hl b hb).1, (hl b hb).2⟩⟩, fun h => by simp at h, fun g hg => .inl (hl g hg).1⟩
/-- A variable. -/
theorem step_box {t sz : Nat} {z : List Value} (hT : StT P t sz z) :
    StepOK P n σ w0 ⟨some d, .alloc t, ty, pos, af, g⟩ ⟨i, d, 0, [], false, none, some (fun _ w v f => ∃ b, v = .pointer (some ⟨b, 0, none⟩) ∧ Blk w b z ∧ f = [b])⟩ := fun a w ha hE _ => by
  have hx := Ext.alloc w (.cells z.toArray t)
  exact wp_value (w' := w.alloc (.cells z.toArray t)) (v := .pointer (some ⟨w.heap.size, 0, none⟩)) (by simp [execOp, Instr.alloc, hT.zero w, newVar, newRow, Value.cells]) ⟨_, [w.heap.size], rfl, hx, ⟨_, hE.trans hx, Ext.refl _, ⟨w.heap.size, rfl, by simpa using Blk.new w z.toArray t, rfl⟩, fun b hb => by
    have := hE.size
    simp at hb; subst hb; simp; omega⟩, fun h => by simp at h, fun g hg => .inl (by simp at hg; omega)⟩
end
end Go.Proofs.YtpkimhbibjpcpaaDoor.X

namespace Go.Proofs.YtpkimhbibjpcpaaDoor.X
open Go
open Enc (enc)
/-! ### the row that a loop is at: reading and writing -/
theorem flat_gen {n : Nat} : ∀ (css : List (List Value)), (∀ c ∈ css, c.length = n) → ∀ (i j : Nat) (c : List Value), css[i]? = some c → j < n → css.flatten[i * n + j]? = c[j]?
  | [], _, i, j, c, hc, _ => by simp at hc
  | c :: css, h, 0, j, c', hc, hj => by
    simp only [List.getElem?_cons_zero, Option.some.injEq] at hc
    subst hc
    rw [List.flatten_cons, Nat.zero_mul, Nat.zero_add, List.getElem?_append_left (by rw [h _ (by simp)]; exact hj)]
  | c :: css, h, i + 1, j, c', hc, hj => by
    have hl := h c (by simp)
    rw [List.flatten_cons, List.getElem?_append_right (by rw [hl, Nat.add_mul]; omega), hl]
    rw [show (i + 1) * n + j - n = i * n + j from by rw [Nat.add_mul]; omega]
    exact flat_gen css (fun c hc => h c (by simp [hc])) i j c' (by simpa using hc) hj
section
variable {α : Type} [Own1 α] {w w' : World} {lo hi : Nat} {v : Value} {as bs : List α} {cs : List Value}
theorem Row.rdl (h : Row w lo hi v as cs bs) : RdL w (Dat.sz α) (fun _ (_ : Unit) => True) v (List.replicate (as.length + 1 + bs.length) ()) := by
  obtain ⟨ca, cb, h1, ha, hb, hl, hn⟩ := h
  have hla := All2.length ha
  have hlb := All2.length hb
  have hlen : ∀ c ∈ ca ++ cs :: cb, c.length = Dat.sz α := fun c hc => by
    rcases List.mem_append.1 hc with hc | hc
    · exact all2_lens ha c hc
    · rcases List.mem_cons.1 hc with rfl | hc
      · exact hl
      · exact all2_lens hb c hc
  have hsum : ∀ {l : List (List Value)}, (∀ c ∈ l, c.length = Dat.sz α) → l.flatten.length = l.length * Dat.sz α := by
    intro l
    induction l with
    | nil => intro _; simp
    | cons c l ih => intro h; simp only [List.flatten_cons, List.length_append, h c (by simp), ih fun c hc => h c (by simp [hc]), List.length_cons, Nat.add_mul]; omega
  have hcl : (ca ++ cs :: cb).length = as.length + 1 + bs.length := by simp [hla, hlb]; omega
  rcases h1 with ⟨rfl, hc⟩ | ⟨g, off, len, cap, cur, T, rfl, h1, h2, hw, h4, h5, h6, h7, h8⟩
  · have := hsum hlen
    rw [hc, hcl] at this
    have hp := Nat.mul_pos (show 0 < as.length + 1 + bs.length by omega) (Dat.pos (α := α))
    simp at this; omega
  · rw [hsum hlen, hcl] at h7
    have := Nat.eq_of_mul_eq_mul_right (Dat.pos (α := α)) h7
    subst this
    refine ⟨by simp only [List.length_replicate]; omega, .inr ⟨g, off, none, cap, ca ++ cs :: cb, by simp, by simpa using h4, fun _ => rfl, fun i c hi => ?_, All2.of_get (by rw [hcl]; simp) fun _ _ _ => trivial⟩⟩
    have hm : c ∈ ca ++ cs :: cb := List.mem_of_getElem? hi
    refine ⟨hlen c hm, cur, T, (0, 0), hw, fun j u hj => ?_⟩
    have hjl := (List.getElem?_eq_some_iff.1 hj).1
    rw [Nat.add_assoc]
    exact h8 _ u (by rw [flat_gen _ hlen i j c hi (by rw [← hlen c hm]; exact hjl)]; exact hj)
theorem Row.same1 {i n : Nat} (h : Row w lo hi v as cs bs) (hi' : as.length = i) (hn : i + 1 + bs.length = n) : RdL w (Dat.sz α) (fun _ (_ : Unit) => True) v (List.replicate n ()) := by
  subst hi' hn; exact h.rdl
theorem OwS.lenE {xs : List α} {n : Nat} (h : OwS w lo hi v xs) (hl : xs.length = n) : SlLen v n := hl ▸ h.rd.len
end
section
variable {P : Program} {ops : Array Oper} {D : Bool} {n : Nat} {K : Act → World → Prop} {l : List (Bool × Oper)} {σ : Env} {w : World} {ty : TypeId} {pos : String} {af : Array Edge}
theorem J_storeRow {α : Type} [Own1 α] {lo hi i f t off : Nat} {p q : Operand} {v u z : Value} {as bs : List α} {cs cs' : List Value} (hT : ScT P t z) (hx : ev σ p = some (.pointer (some ⟨sblk v, off, none⟩))) (ho : off = soff v + i * Dat.sz α + f) (hy : ev σ q = some u) (h1 : u.oneCell' = true)
    (h : Row w lo hi v as cs bs) (hi' : as.length = i) (hf : f < Dat.sz α) (hc : cs.set f u = cs') (hs : fpr cs' = fpr cs)
    (hk : ∀ w', Mod w w' v.ownBlock → Row w' lo hi v as cs' bs → J P ops D n K l σ w') : J P ops D n K ((false, ⟨none, .store t p q, ty, pos, af, none⟩) :: l) σ w := J_unS rfl rfl fun a ha => by
  subst ho hc
  obtain ⟨w', hr, hm, hb'⟩ := h.store hT hi' hf h1 hs
  exact wp_skipped (w' := w') (by simp [execOp, ha.eval hx, ha.eval hy, Instr.storeAt, Instr.sureAddr, hr]) (hk w' hm hb' _ ha)
end
/-! ### a region in which one of two operations may come first -/
theorem wpAnyG_one {P : Program} {ops : Array Oper} {K : Act → World → Prop} {listed : Array Bool} {i : Nat} {κ : List (Nat × Bool)} {l : List (Bool × Oper)} {a : Act} {w : World} (hs : Region.noSelect ops = true)
    (hp : pickAll ops ((i, false) :: κ) = some l) (he : eager [] ops κ (listed.setIfInBounds i true) = true) (h : wpE P ops true K l a w) :
    wpOp P ops (Only K) i (fun a' w' => ((stX [] ops i = false → Ext w w' ∧ wpAnyG P ops [] (Only K) (Ext w) κ.length (listed.setIfInBounds i true) a' w') ∧ (stX [] ops i = true → wpAny P .any ops (Only K) κ.length (listed.setIfInBounds i true) a' w'))) a w := by
  simp only [pickAll] at hp
  split at hp
  · rename_i o l' ho hl'
    simp only [Option.some.injEq] at hp
    subst hp
    unfold wpOp
    simp only [ho]
    unfold wpE at h
    split at h
    · rename_i hw
      rw [if_pos hw]
      refine .inl (wp_mono2 (fun a' w' h' => ?_) (fun _ _ _ h => h.elim) h)
      have hrest := wpAnyG_of_wpE hs κ l' _ a' w' hl' he h'.2
      exact ⟨fun hns => ⟨h'.1 rfl (stX_f ho hns), wpAnyG_weaken (fun w'' e => (h'.1 rfl (stX_f ho hns)).trans e) _ _ _ _ hrest⟩, fun _ => wpAny_of_G _ _ _ _ hrest⟩
    · rename_i hw
      rw [if_neg hw]
      have hrest := wpAnyG_of_wpE hs κ l' _ _ w hl' he h
      exact ⟨fun _ => ⟨Ext.refl w, hrest⟩, fun _ => wpAny_of_G _ _ _ _ hrest⟩
  · cases hp
def regTOK (ops : Array Oper) (κ1 : List (Nat × Bool)) (i j : Nat) (κa κb : List (Nat × Bool)) : Bool :=
  Region.noSelect ops && (κ1.length + (κa.length + 1) == ops.size) && (κa.length == κb.length) && match eagerPre [] ops κ1 (Array.replicate ops.size false) with
    | some L => (Region.ready .any ops L == [i, j]) && eager [] ops κa (L.setIfInBounds i true) && eager [] ops κb (L.setIfInBounds j true)
    | none => false
section
variable {P : Program} {n : Nat} {Q : Exit → Act → World → Prop} {cs : List Code} {σ : Env} {w : World}
theorem S_regT (hm : P.follows .mixedOrders = true) (κ1 : List (Nat × Bool)) (i j : Nat) (κa κb : List (Nat × Bool)) {id : Nat} {ops : Array Oper} {l1 la lb : List (Bool × Oper)} (hk : regTOK ops κ1 i j κa κb = true) (hl1 : pickAll ops κ1 = some l1)
    (hla : pickAll ops ((i, false) :: κa) = some la) (hlb : pickAll ops ((j, false) :: κb) = some lb) (σ1 σ2 : Env) (Φ Ψ : World → Prop)
    (h1 : ∀ w', Ext w w' → J P ops true n (fun a w1 => Fits n σ1 a ∧ Φ w1) l1 σ w') (ha : ∀ w1, Φ w1 → J P ops true n (fun a w2 => Fits n σ2 a ∧ Ψ w2) la σ1 w1) (hb : ∀ w1, Φ w1 → J P ops true n (fun a w2 => Fits n σ2 a ∧ Ψ w2) lb σ1 w1)
    (h2 : ∀ w2, Ψ w2 → S P n Q cs σ2 w2) : S P n Q (.region id ops true :: cs) σ w := fun a haf => by
  simp only [regTOK, Bool.and_eq_true, beq_iff_eq] at hk
  obtain ⟨⟨⟨hs, hlen⟩, hlen2⟩, hk⟩ := hk
  split at hk
  · rename_i L hL
    simp only [Bool.and_eq_true, beq_iff_eq] at hk
    obtain ⟨⟨hr, hea⟩, heb⟩ := hk
    have key : ∀ a1 w1, Fits n σ1 a1 ∧ Φ w1 → wpAnyG P ops [] (Only (fun a w2 => Fits n σ2 a ∧ Ψ w2)) (Ext w1) (κa.length + 1) L a1 w1 := fun a1 w1 ⟨hf, hp⟩ => by
      refine ⟨fun h0 => (by rw [h0] at hr; cases hr), fun k hkk => ?_⟩
      rw [hr] at hkk
      rcases List.mem_cons.1 hkk with rfl | hkk
      · exact wpAnyG_one hs hla hea (ha w1 hp a1 hf)
      · obtain rfl : k = j := by simpa using hkk
        rw [hlen2]
        exact wpAnyG_one hs hlb heb (hb w1 hp a1 hf)
    have h3 := wpAnyG_pre hs key κ1 l1 _ a _ hl1 hL (h1 _ (Ext.drew w) a haf)
    rw [hlen] at h3
    refine wp_mono (wp_region_any hm (wpAny_of_G _ _ _ _ h3)) (fun e a w h => ?_)
    cases e with
    | normal => exact h2 w h.2 a h.1
    | exit id => exact h.elim
    | goto l => exact h.elim
    | ret => exact h.elim
    | panic ch => exact h.elim
    | outgrown => exact h.elim
  · cases hk
end
theorem Own.modN {w w' : World} {lo hi sz : Nat} {v : Value} {cs : List Value} {x : Option Nat} (h : Own w lo hi sz v cs) (m : Mod w w' x) (hx : ∀ g, x = some g → v.ownBlock = some g → False) : Own w' lo hi sz v cs := by
  rcases h with h | ⟨g, off, len, cap, cur, T, rfl, h1, h2, hb, h3⟩
  · exact .inl h
  · exact .inr ⟨g, off, len, cap, cur, T, rfl, h1, h2, m.some hb (fun e => hx g e rfl), h3⟩
theorem drop_split {α : Type} {xs : List α} {i : Nat} (h : i < xs.length) : xs.drop i = xs[i] :: xs.drop (i + 1) := List.drop_eq_getElem_cons h
end Go.Proofs.YtpkimhbibjpcpaaDoor.X

namespace Go.Proofs.YtpkimhbibjpcpaaDoor.X
open Go
/-! ### a region in which an 'alloc' may come up wherever it likes -/
theorem stX_no {X : List Nat} {ops : Array Oper} {i : Nat} {o : Oper} (ho : ops[i]? = some o) (hst : isSt o = false) (hX : X.contains i = false) : stX X ops i = false := by simp only [stX, hX, ho, Option.any_some, hst]; rfl
/-- The same but for 'd'. -/
def Off (d : Nat) (a a1 : Act) : Prop := a1.tmps.size = a.tmps.size ∧ a1.defers = a.defers ∧ ∀ i, i ≠ d → a1.tmps[i]? = a.tmps[i]?
theorem Off.refl (d : Nat) (a : Act) : Off d a a := ⟨rfl, rfl, fun _ _ => rfl⟩
theorem Off.trans {d : Nat} {a b c : Act} (h : Off d a b) (k : Off d b c) : Off d a c := ⟨k.1.trans h.1, k.2.1.trans h.2.1, fun i hi => (k.2.2 i hi).trans (h.2.2 i hi)⟩
theorem Off.put (d : Nat) (a : Act) (v : Value) : Off d a (a.put (some d) v) := ⟨by simp [Act.put], rfl, fun i hi => put_get (Ne.symm hi)⟩
theorem Off.fits {n d : Nat} {σ : Env} {a a1 : Act} (h : Off d a a1) (hd : look σ d = none) (hf : Fits n σ a) : Fits n σ a1 :=
  ⟨h.1.trans hf.size, h.2.1.trans hf.dfr, fun i v hi => by
    by_cases e : i = d
    · subst e; rw [hd] at hi; cases hi
    · rw [h.2.2 i e]; exact hf.get i v hi⟩
theorem put_keeps {a : Act} {dst : Option Tmp} {v : Value} : ∀ i, dst ≠ some i → (a.put dst v).tmps[i]? = a.tmps[i]? := fun i hi => by
  cases dst with
  | none => rfl
  | some j => exact put_get (fun e => hi (by rw [e]))
theorem wp_shape {P : Program} {o : Oper} {a : Act} {w : World} {K : Act → World → Prop} (hh : o.wp P a w K NoQ) : o.wp P a w (fun a' w' => K a' w' ∧ ∀ i, o.dst ≠ some i → a'.tmps[i]? = a.tmps[i]?) NoQ := by
  unfold Oper.wp at *
  generalize (execOp a.eval o).run P w = r at *
  cases r with
  | ok n w' =>
    cases n <;> simp only [Oper.upon] at hh ⊢ <;>
      first
        | exact ⟨hh, put_keeps⟩
        | exact Calls.mono hh (fun e w'' he => by cases e <;> first | exact ⟨he, put_keeps⟩ | exact he.elim | exact he)
        | exact Rows.mono hh (fun _ _ he => ⟨he, put_keeps⟩)
        | exact ⟨hh, fun i hi => put_keeps (a := { a with defers := _ }) i hi⟩
  | halt x w' => cases x <;> simp only [Oper.upon] at hh ⊢ <;> exact hh
theorem wp_size {P : Program} {o : Oper} {a : Act} {w : World} {K : Act → World → Prop} (hh : o.wp P a w K NoQ) : o.wp P a w (fun a' w' => K a' w' ∧ a'.tmps.size = a.tmps.size) NoQ := by
  have hput : ∀ (a : Act) (dst : Option Tmp) (v : Value), (a.put dst v).tmps.size = a.tmps.size := fun a dst v => by cases dst <;> simp [Act.put]
  unfold Oper.wp at *
  generalize (execOp a.eval o).run P w = r at *
  cases r with
  | ok n w' =>
    cases n <;> simp only [Oper.upon] at hh ⊢ <;>
      first
        | exact ⟨hh, hput _ _ _⟩
        | exact Calls.mono hh (fun e w'' he => by cases e <;> first | exact ⟨he, hput _ _ _⟩ | exact he.elim | exact he)
        | exact Rows.mono hh (fun _ _ he => ⟨he, hput _ _ _⟩)
  | halt x w' => cases x <;> simp only [Oper.upon] at hh ⊢ <;> exact hh
section
variable (P : Program) (ops : Array Oper) (d b0 : Nat) (vf : Nat → Value) (z : List Value) (KE : Act → World → Prop)
def wpI : List (Bool × Oper) → List (Nat × Nat) → Act → World → Prop
  | [], I, a, w => ∀ b a1 w1, Ext w w1 → Off d a a1 → a1.tmps[d]? = some (vf b) → b0 ≤ b → b < w1.heap.size → Blk w1 b z → (∀ p ∈ I, b < p.1 ∨ p.2 ≤ b) → KE a1 w1
  | (true, o) :: l, I, a, w => ∃ v, Yl P ops o a w v ∧ wpI l I (a.put o.dst v) w
  | (false, o) :: l, I, a, w => ∀ a1 w1, Ext w w1 → Off d a a1 → if Region.wanted o (yielded ops a1.tmps) then o.wp P a1 w1 (fun a' w' => (isSt o = false → Ext w1 w') ∧ wpI l (I ++ [(w1.heap.size, w'.heap.size)]) a' w') NoQ else wpI l I (a1.put o.dst undef) w1
end
section
variable {P : Program} {ops : Array Oper} {d b0 : Nat} {vf : Nat → Value} {z : List Value} {KE : Act → World → Prop}
theorem wpI_off {l : List (Bool × Oper)} {I : List (Nat × Nat)} {a a1 : Act} {w w1 : World} (h : wpI P ops d b0 vf z KE l I a w) (hl : ∀ o l', l ≠ (true, o) :: l') (e : Ext w w1) (hO : Off d a a1) : wpI P ops d b0 vf z KE l I a1 w1 := by
  match l, hl with
  | [], _ => exact fun b a2 w2 e2 h2 => h b a2 w2 (e.trans e2) (hO.trans h2)
  | (true, o) :: l, hl => exact absurd rfl (hl o l)
  | (false, o) :: l, _ => exact fun a2 w2 e2 h2 => h a2 w2 (e.trans e2) (hO.trans h2)
theorem wpI_seg : ∀ (l1 : List (Bool × Oper)) {l : List (Bool × Oper)} {I : List (Nat × Nat)} {a : Act} {w : World}, l1.all (·.1) = true → wpE P ops true (wpI P ops d b0 vf z KE l I) l1 a w → wpI P ops d b0 vf z KE (l1 ++ l) I a w
  | [], _, _, _, _, _, h => h
  | (true, o) :: l1, _, _, _, _, ha, ⟨v, hy, h⟩ => ⟨v, hy, wpI_seg l1 (by simpa using ha) h⟩
  | (false, o) :: l1, _, _, _, _, ha, _ => by simp at ha
end
/-- What comes behind: it may begin with an operation that turns what stood ('X'). -/
def eager2 (X : List Nat) (ops : Array Oper) : List (Nat × Bool) → Array Bool → Bool
  | (i, false) :: κ, L => bif X.contains i then (Region.ready .any ops L == [i]) && eager X ops κ (L.setIfInBounds i true) else eager X ops ((i, false) :: κ) L
  | κ, L => eager X ops κ L
def wpE2 (P : Program) (ops : Array Oper) (X : List Nat) (K : Act → World → Prop) : List (Nat × Bool) → List (Bool × Oper) → Act → World → Prop
  | (i, false) :: κ, p :: l => bif X.contains i then wpE P ops false (wpE P ops true K l) [p] else wpE P ops true K (p :: l)
  | _, l => wpE P ops true K l
theorem wpAnyG_of_wpE2 {P : Program} {ops : Array Oper} {X : List Nat} {K : Act → World → Prop} (hs : Region.noSelect ops = true) (κ : List (Nat × Bool)) (l : List (Bool × Oper)) (listed : Array Bool) (a : Act) (w : World) (hp : pickAll ops κ = some l) (he : eager2 X ops κ listed = true)
    (h : wpE2 P ops X K κ l a w) : wpAnyG P ops X (Only K) (Ext w) κ.length listed a w := by
  match κ, l, hp, he, h with
  | [], l, hp, he, h => exact wpAnyG_of_wpE hs [] l listed a w hp he h
  | (i, true) :: κ, l, hp, he, h => exact wpAnyG_of_wpE hs _ l listed a w hp he h
  | (i, false) :: κ, [], hp, he, h =>
    simp only [pickAll] at hp
    split at hp <;> cases hp
  | (i, false) :: κ, p :: l, hp, he, h =>
    simp only [eager2] at he
    simp only [wpE2] at h
    cases hX : X.contains i with
    | false =>
      rw [hX] at he h
      exact wpAnyG_of_wpE hs _ _ listed a w hp he h
    | true =>
      rw [hX] at he h
      simp only [cond_true, Bool.and_eq_true, beq_iff_eq] at he h
      obtain ⟨hr, he⟩ := he
      simp only [pickAll] at hp
      split at hp
      · rename_i o l' ho hl'
        simp only [Option.some.injEq, List.cons.injEq] at hp
        obtain ⟨rfl, rfl⟩ := hp
        rw [List.length_cons]
        refine ⟨fun h0 => (by rw [h0] at hr; cases hr), fun j hj => ?_⟩
        rw [hr] at hj
        obtain rfl : j = i := by simpa using hj
        have hst : stX X ops j = true := by simp only [stX, hX, Bool.true_or]
        unfold wpOp
        simp only [ho]
        unfold wpE at h
        split at h
        · rename_i hw
          rw [if_pos hw]
          exact .inl (wp_mono2 (fun a' w' h' => ⟨fun hc => (by rw [hst] at hc; cases hc), fun _ => wpAny_of_G _ _ _ _ (wpAnyG_of_wpE hs κ l' _ a' w' hl' he h'.2)⟩) (fun _ _ _ h => h.elim) h)
        · rename_i hw
          rw [if_neg hw]
          exact ⟨fun hc => (by rw [hst] at hc; cases hc), fun _ => wpAny_of_G _ _ _ _ (wpAnyG_of_wpE hs κ l' _ _ w hl' he h)⟩
      · cases hp
/-- The chain 'κ', with 'f' at large. -/
def eagerF (X : List Nat) (ops : Array Oper) (f d : Nat) : List (Nat × Bool) → List (Nat × Bool) → Array Bool → Bool
  | κ2, [], L => (Region.ready .any ops L == [f]) && eager2 X ops κ2 (L.setIfInBounds f true)
  | κ2, (i, true) :: κ, L => (ops[i]?).any (fun o => !(o.dst == some d)) && Region.free .any ops L i && (Region.ready .any ops L).contains i && eagW X ops L i && Region.free .any ops (L.setIfInBounds f true) i && (Region.ready .any ops (L.setIfInBounds f true)).contains i && eagW X ops (L.setIfInBounds f true) i &&
      !(i == f) && eagerF X ops f d κ2 κ (L.setIfInBounds i true)
  | κ2, (i, false) :: κ, L => (ops[i]?).any (fun o => !(o.dst == some d) && !isSt o && !X.contains i) && ((Region.ready .any ops L == [i, f]) || (Region.ready .any ops L == [f, i])) && (Region.ready .any ops (L.setIfInBounds f true) == [i]) && !(i == f) && eagerF X ops f d κ2 κ (L.setIfInBounds i true)
theorem set_comm2 {L : Array Bool} {i f : Nat} : (L.setIfInBounds f true).setIfInBounds i true = (L.setIfInBounds i true).setIfInBounds f true := by
  apply Array.ext_getElem?
  intro j
  simp only [Array.getElem?_setIfInBounds, Array.size_setIfInBounds]
  by_cases h1 : f = j <;> by_cases h2 : i = j <;> simp [h1, h2]
section
variable {P : Program} {ops : Array Oper} {X : List Nat} {f d b0 : Nat} {vf : Nat → Value} {z : List Value} {K : Act → World → Prop} {l2 : List (Bool × Oper)} {κ2 : List (Nat × Bool)}
/-- 'f' has come up. -/
theorem float_done (hs : Region.noSelect ops = true) (hl2 : pickAll ops κ2 = some l2) :
    ∀ (κ : List (Nat × Bool)) (l : List (Bool × Oper)) (I : List (Nat × Nat)) (L : Array Bool) (a : Act) (w : World) (b : Nat), pickAll ops κ = some l → eagerF X ops f d κ2 κ L = true →
      a.tmps[d]? = some (vf b) → b0 ≤ b → b < w.heap.size → Blk w b z → (∀ p ∈ I, b < p.1 ∨ p.2 ≤ b) → wpI P ops d b0 vf z (wpE2 P ops X K κ2 l2) l I a w →
      wpAnyG P ops X (Only K) (Ext w) (κ.length + κ2.length) (L.setIfInBounds f true) a w
  | [], l, I, L, a, w, b, hp, he, h1, h2, h3, h4, h5, h => by
    simp only [pickAll, Option.some.injEq] at hp
    subst hp
    simp only [eagerF, Bool.and_eq_true] at he
    have := wpAnyG_of_wpE2 hs κ2 l2 _ a w hl2 he.2 (h b a w (Ext.refl w) (Off.refl d a) h1 h2 h3 h4 h5)
    simpa using this
  | (i, true) :: κ, l, I, L, a, w, b, hp, he, h1, h2, h3, h4, h5, h => by
    simp only [pickAll] at hp
    split at hp
    · rename_i o l' ho hl'
      simp only [Option.some.injEq] at hp
      subst hp
      simp only [eagerF, Bool.and_eq_true, ho, Option.any_some, Bool.not_eq_true', beq_eq_false_iff_ne] at he
      obtain ⟨⟨⟨⟨⟨⟨⟨⟨hdst, _⟩, _⟩, _⟩, hf⟩, hr⟩, hw⟩, hif⟩, he⟩ := he
      obtain ⟨v, hy, h⟩ := h
      have ih := float_done hs hl2 κ l' I _ _ w b hl' he (by rw [put_keeps d hdst]; exact h1) h2 h3 h4 h5 h
      rw [← set_comm2] at ih
      rw [List.length_cons, show κ.length + 1 + κ2.length = (κ.length + κ2.length) + 1 from by omega]
      exact wpAnyG_eag hs ho (fun c a w h => h.elim) hf (by simpa using hr) hw (fun _ h => h) (Ext.refl w) hy ih
    · cases hp
  | (i, false) :: κ, l, I, L, a, w, b, hp, he, h1, h2, h3, h4, h5, h => by
    simp only [pickAll] at hp
    split at hp
    · rename_i o l' ho hl'
      simp only [Option.some.injEq] at hp
      subst hp
      simp only [eagerF, Bool.and_eq_true, ho, Option.any_some, Bool.not_eq_true', beq_eq_false_iff_ne, beq_iff_eq] at he
      obtain ⟨⟨⟨⟨⟨⟨hdst, hst⟩, hX⟩, _⟩, hr⟩, hif⟩, he⟩ := he
      rw [List.length_cons, show κ.length + 1 + κ2.length = (κ.length + κ2.length) + 1 from by omega]
      refine ⟨fun h0 => (by rw [h0] at hr; cases hr), fun j hj => ?_⟩
      rw [hr] at hj
      obtain rfl : j = i := by simpa using hj
      unfold wpOp
      simp only [ho, Option.any_some]
      have h := h a w (Ext.refl w) (Off.refl d a)
      split at h
      · rename_i hw
        rw [if_pos hw]
        refine .inl (wp_mono2 (fun a' w' h' => ?_) (fun _ _ _ h => h.elim) (wp_shape h))
        obtain ⟨⟨hx, h'⟩, hk⟩ := h'
        have hx := hx hst
        have hrest := float_done hs hl2 κ l' (I ++ [(w.heap.size, w'.heap.size)]) _ a' w' b hl' he (by rw [hk d hdst]; exact h1) h2 (Nat.lt_of_lt_of_le h3 hx.size) (h4.ext hx) (fun p hp => by
          rcases List.mem_append.1 hp with hp | hp
          · exact h5 p hp
          · simp at hp; subst hp; exact .inl h3) h'
        rw [← set_comm2] at hrest
        exact ⟨fun _ => ⟨hx, wpAnyG_weaken (fun w'' e => hx.trans e) _ _ _ _ hrest⟩, fun hc => by rw [stX_no ho hst hX] at hc; cases hc⟩
      · rename_i hw
        rw [if_neg hw]
        have hrest := float_done hs hl2 κ l' I _ _ w b hl' he (by rw [put_keeps d hdst]; exact h1) h2 h3 h4 h5 h
        rw [← set_comm2] at hrest
        exact ⟨fun _ => ⟨Ext.refl w, hrest⟩, fun hc => by rw [stX_no ho hst hX] at hc; cases hc⟩
    · cases hp
/-- 'f' is still to come. -/
theorem float_pend {n : Nat} {of : Oper} {G : Act → Prop} (hs : Region.noSelect ops = true) (hl2 : pickAll ops κ2 = some l2) (hof : ops[f]? = some of) (hofd : of.dst = some d) (hofg : of.guard = none) (hofs : isSt of = false) (hfX : X.contains f = false)
    (hrun : ∀ a w, G a → ∃ e, (execOp a.eval of).run P w = .ok (.value (vf w.heap.size)) (w.alloc (.cells z.toArray e))) (hdn : d < n) :
    ∀ (κ : List (Nat × Bool)) (l : List (Bool × Oper)) (I : List (Nat × Nat)) (L : Array Bool) (a : Act) (w : World), pickAll ops κ = some l → eagerF X ops f d κ2 κ L = true →
      (∀ i t o, (i, t) ∈ κ → ops[i]? = some o → ∀ a a' : Act, (∀ q, o.dst ≠ some q → a'.tmps[q]? = a.tmps[q]?) → G a → G a') → G a → a.tmps.size = n → b0 ≤ w.heap.size → (∀ p ∈ I, p.2 ≤ w.heap.size) → wpI P ops d b0 vf z (wpE2 P ops X K κ2 l2) l I a w →
      wpAnyG P ops X (Only K) (Ext w) (κ.length + (1 + κ2.length)) L a w := by
  have hwant : ∀ a : Act, Region.wanted of (yielded ops a.tmps) = true := fun a => by simp [Region.wanted, hofg]
  -- 'f' comes up
  have hf : ∀ (κ : List (Nat × Bool)) (l : List (Bool × Oper)) (I : List (Nat × Nat)) (L : Array Bool) (a : Act) (w : World), pickAll ops κ = some l → eagerF X ops f d κ2 κ L = true →
      G a → a.tmps.size = n → b0 ≤ w.heap.size → (∀ p ∈ I, p.2 ≤ w.heap.size) → (∀ o l', l ≠ (true, o) :: l') → wpI P ops d b0 vf z (wpE2 P ops X K κ2 l2) l I a w →
      wpOp P ops (Only K) f (fun a' w' => ((stX X ops f = false → Ext w w' ∧ wpAnyG P ops X (Only K) (Ext w) (κ.length + κ2.length) (L.setIfInBounds f true) a' w') ∧ (stX X ops f = true → wpAny P .any ops (Only K) (κ.length + κ2.length) (L.setIfInBounds f true) a' w'))) a w := fun κ l I L a w hp he hG hn hb0 hI hl h => by
    unfold wpOp
    simp only [hof, Option.any_some]
    rw [if_pos (hwant a)]
    obtain ⟨e, hr⟩ := hrun a w hG
    refine .inl (wp_value (w' := w.alloc (.cells z.toArray e)) (v := vf w.heap.size) hr ?_)
    rw [hofd]
    have hx := Ext.alloc w (.cells z.toArray e)
    have hB : Blk (w.alloc (.cells z.toArray e)) w.heap.size z := by simpa using Blk.new w z.toArray e
    have hd' : d < a.tmps.size := by rw [hn]; exact hdn
    have := float_done hs hl2 κ l I L _ _ w.heap.size hp he (put_self hd') hb0 hB.lt hB (fun p hp => .inr (hI p hp)) (wpI_off h hl hx (Off.put d a _))
    exact ⟨fun _ => ⟨hx, wpAnyG_weaken (fun w'' e => hx.trans e) _ _ _ _ this⟩, fun hc => by rw [stX_no hof hofs hfX] at hc; cases hc⟩
  intro κ
  induction κ with
  | nil =>
    intro l I L a w hp he hGc hG hn hb0 hI h
    have he' := he
    simp only [pickAll, Option.some.injEq] at hp
    simp only [eagerF, Bool.and_eq_true, beq_iff_eq] at he'
    rw [List.length_nil, Nat.zero_add, Nat.add_comm]
    refine ⟨fun h0 => (by rw [h0] at he'; cases he'.1), fun j hj => ?_⟩
    rw [he'.1] at hj
    obtain rfl : j = f := by simpa using hj
    have := hf [] l I L a w (by simp [pickAll, hp]) he hG hn hb0 hI (fun o l' hc => by rw [← hp] at hc; cases hc) h
    simpa using this
  | cons p κ ih =>
    obtain ⟨i, t⟩ := p
    intro l I L a w hp he hGc hG hn hb0 hI h
    have hGc' : ∀ i t o, (i, t) ∈ κ → ops[i]? = some o → ∀ a a' : Act, (∀ q, o.dst ≠ some q → a'.tmps[q]? = a.tmps[q]?) → G a → G a' := fun i t o hm => hGc i t o (List.mem_cons_of_mem _ hm)
    have hp0 := hp
    have he0 := he
    simp only [pickAll] at hp
    split at hp
    · rename_i o l' ho hl'
      simp only [Option.some.injEq] at hp
      subst hp
      rw [List.length_cons, show κ.length + 1 + (1 + κ2.length) = (κ.length + (1 + κ2.length)) + 1 from by omega]
      cases t with
      | true =>
        simp only [eagerF, Bool.and_eq_true] at he
        obtain ⟨⟨⟨⟨⟨⟨⟨⟨hdst, hf1⟩, hr⟩, hw⟩, _⟩, _⟩, _⟩, _⟩, he⟩ := he
        obtain ⟨v, hy, h⟩ := h
        have ih := ih l' I _ _ w hl' he hGc' (hGc i true o (by simp) ho _ _ put_keeps hG) (by cases hq : o.dst <;> simp [Act.put, hn]) hb0 hI h
        exact wpAnyG_eag hs ho (fun c a w h => h.elim) hf1 (by simpa using hr) hw (fun _ h => h) (Ext.refl w) hy ih
      | false =>
        simp only [eagerF, Bool.and_eq_true, ho, Option.any_some, Bool.not_eq_true', Bool.or_eq_true, beq_iff_eq] at he
        obtain ⟨⟨⟨⟨⟨⟨hdst, hst⟩, hX⟩, hr⟩, hr2⟩, hif⟩, he⟩ := he
        refine ⟨fun h0 => (by rcases hr with hr | hr <;> (rw [h0] at hr; cases hr)), fun j hj => ?_⟩
        have hj' : j = i ∨ j = f := by
          rcases hr with hr | hr
          · rw [hr] at hj; simpa using hj
          · rw [hr] at hj
            rcases List.mem_cons.1 hj with hj | hj
            · exact .inr hj
            · exact .inl (by simpa using hj)
        rcases hj' with rfl | rfl
        · have h := h a w (Ext.refl w) (Off.refl d a)
          unfold wpOp
          simp only [ho, Option.any_some]
          split at h
          · rename_i hw
            rw [if_pos hw]
            refine .inl (wp_mono2 (fun a' w' h' => ?_) (fun _ _ _ h => h.elim) (wp_size (wp_shape h)))
            obtain ⟨⟨⟨hx, h'⟩, hkp⟩, hk⟩ := h'
            have hx := hx hst
            have hrest := ih l' (I ++ [(w.heap.size, w'.heap.size)]) _ a' w' hl' he hGc' (hGc j false o (by simp) ho _ _ hkp hG) (by rw [hk]; exact hn) (Nat.le_trans hb0 hx.size) (fun p hp => by
              rcases List.mem_append.1 hp with hp | hp
              · exact Nat.le_trans (hI p hp) hx.size
              · simp at hp; subst hp; exact Nat.le_refl _) h'
            exact ⟨fun _ => ⟨hx, wpAnyG_weaken (fun w'' e => hx.trans e) _ _ _ _ hrest⟩, fun hc => by rw [stX_no ho hst hX] at hc; cases hc⟩
          · rename_i hw
            rw [if_neg hw]
            have hrest := ih l' I _ _ w hl' he hGc' (hGc j false o (by simp) ho _ _ put_keeps hG) (by cases hq : o.dst <;> simp [Act.put, hn]) hb0 hI h
            exact ⟨fun _ => ⟨Ext.refl w, hrest⟩, fun hc => by rw [stX_no ho hst hX] at hc; cases hc⟩
        · have := hf ((i, false) :: κ) _ I L a w hp0 he0 hG hn hb0 hI (fun o l' hc => by cases hc) h
          rw [List.length_cons, show κ.length + 1 + κ2.length = κ.length + (1 + κ2.length) from by omega] at this
          exact this
    · cases hp
end
def regFOK (X : List Nat) (ops : Array Oper) (n f d : Nat) (ks : List Nat) (κ1 κ κ2 : List (Nat × Bool)) : Bool :=
  Region.noSelect ops && !X.contains f && (κ1.length + (κ.length + (1 + κ2.length)) == ops.size) && Nat.blt d n && (κ.all fun p => match (ops[p.1]?).bind (·.dst) with
    | some q => !ks.contains q
    | none => true) && match eagerPre X ops κ1 (Array.replicate ops.size false) with
    | some L => eagerF X ops f d κ2 κ L
    | none => false
theorem look_none : ∀ {σ : Env} {i : Nat}, ((σ.map (·.1)).contains i) = false → look σ i = none
  | [], _, _ => rfl
  | (j, v) :: σ, i, h => by
    simp only [List.map_cons, List.contains_cons, Bool.or_eq_false_iff] at h
    have hb : Nat.beq i j = false := by
      have := h.1
      simp only [beq_eq_false_iff_ne] at this
      cases hq : Nat.beq i j with
      | false => rfl
      | true => exact absurd (Nat.eq_of_beq_eq_true hq) this
    simp only [look, hb, cond_false]
    exact look_none h.2
section
variable {P : Program} {ops : Array Oper} {n d b0 : Nat} {vf : Nat → Value} {z : List Value} {KE : Act → World → Prop} {l : List (Bool × Oper)} {I : List (Nat × Nat)} {σ : Env} {w : World}
def JI (P : Program) (ops : Array Oper) (n d b0 : Nat) (vf : Nat → Value) (z : List Value) (KE : Act → World → Prop) (l : List (Bool × Oper)) (I : List (Nat × Nat)) (σ : Env) (w : World) : Prop := ∀ a, Fits n σ a → wpI P ops d b0 vf z KE l I a w
def wpI1 (P : Program) (ops : Array Oper) (d b0 : Nat) (vf : Nat → Value) (z : List Value) (KE : Act → World → Prop) (l : List (Bool × Oper)) (I : List (Nat × Nat)) : Act → World → Prop := fun a w => wpI P ops d b0 vf z KE l I a w
def wpI2 (P : Program) (ops : Array Oper) (d b0 : Nat) (vf : Nat → Value) (z : List Value) (KE : Act → World → Prop) (l : List (Bool × Oper)) (I : List (Nat × Nat)) (w1 : World) : Act → World → Prop := fun a w => wpI P ops d b0 vf z KE l (I ++ [(w1.heap.size, w.heap.size)]) a w
theorem JI_seg (m : Nat) (h1 : (l.take m).all (·.1) = true) (h : J P ops true n (wpI1 P ops d b0 vf z KE (l.drop m) I) (l.take m) σ w) : JI P ops n d b0 vf z KE l I σ w := fun a ha => by
  have := wpI_seg (l.take m) h1 (h a ha)
  rwa [List.take_append_drop] at this
theorem JI_go (h : JI P ops n d b0 vf z KE l I σ w) : J P ops true n (wpI1 P ops d b0 vf z KE l I) [] σ w := fun a ha => h a ha
theorem JI_un {o : Oper} (hd : look σ d = none) (h : ∀ w1, Ext w w1 → J P ops true n (wpI2 P ops d b0 vf z KE l I w1) [(false, o)] σ w1) (hg : o.guard = none) : JI P ops n d b0 vf z KE ((false, o) :: l) I σ w := fun a ha a1 w1 e hO => by
  have := h w1 e a1 (hO.fits hd ha)
  have hw : Region.wanted o (yielded ops a1.tmps) = true := by simp [Region.wanted, hg]
  unfold wpE at this
  rw [if_pos hw] at this
  show (if _ then _ else _)
  rw [if_pos hw]
  exact wp_mono2 (fun a' w' h' => ⟨h'.1 rfl, h'.2⟩) (fun _ _ _ h => h) this
theorem JI_sub (σ' : Env) (h : Sub σ' σ) (hs : JI P ops n d b0 vf z KE l I σ' w) : JI P ops n d b0 vf z KE l I σ w := fun a ha => hs a (ha.sub h)
theorem JI_go2 {w1 : World} (h : JI P ops n d b0 vf z KE l (I ++ [(w1.heap.size, w.heap.size)]) σ w) : J P ops true n (wpI2 P ops d b0 vf z KE l I w1) [] σ w := fun a ha => h a ha
def J2 (P : Program) (ops : Array Oper) (X : List Nat) (n : Nat) (K : Act → World → Prop) (κ2 : List (Nat × Bool)) (l2 : List (Bool × Oper)) (σ : Env) (w : World) : Prop := ∀ a, Fits n σ a → wpE2 P ops X K κ2 l2 a w
theorem J2_of {X : List Nat} {K : Act → World → Prop} {κ2 : List (Nat × Bool)} {l2 : List (Bool × Oper)} (hq : wpE2 P ops X K κ2 l2 = wpE P ops true K l2) (h : J P ops true n K l2 σ w) : J2 P ops X n K κ2 l2 σ w := fun a ha => by rw [hq]; exact h a ha
theorem J2_X {X : List Nat} {K : Act → World → Prop} {κ2 : List (Nat × Bool)} {p : Bool × Oper} {l3 : List (Bool × Oper)} (hq : wpE2 P ops X K κ2 (p :: l3) = wpE P ops false (wpE P ops true K l3) [p]) (h : J P ops false n (wpE P ops true K l3) [p] σ w) : J2 P ops X n K κ2 (p :: l3) σ w := fun a ha => by rw [hq]; exact h a ha
theorem J2_sub {X : List Nat} {K : Act → World → Prop} {κ2 : List (Nat × Bool)} {l2 : List (Bool × Oper)} (σ' : Env) (h : Sub σ' σ) (hs : J2 P ops X n K κ2 l2 σ' w) : J2 P ops X n K κ2 l2 σ w := fun a ha => hs a (ha.sub h)
theorem JX_go {K : Act → World → Prop} {l3 : List (Bool × Oper)} (h : J P ops true n K l3 σ w) : J P ops false n (wpE P ops true K l3) [] σ w := fun a ha => h a ha
theorem JI_end {X : List Nat} {κ2 : List (Nat × Bool)} {K : Act → World → Prop} {l2 : List (Bool × Oper)} (hd : look σ d = none) (h : ∀ b w1, Ext w w1 → b0 ≤ b → b < w1.heap.size → Blk w1 b z → (∀ p ∈ I, b < p.1 ∨ p.2 ≤ b) → J2 P ops X n K κ2 l2 ((d, vf b) :: σ) w1) :
    JI P ops n d b0 vf z (wpE2 P ops X K κ2 l2) [] I σ w := fun a ha b a1 w1 e hO hp h1 h2 h3 h4 => by
  refine h b w1 e h1 h2 h3 h4 a1 ?_
  have hf := hO.fits hd ha
  refine ⟨hf.size, hf.dfr, fun i v hi => ?_⟩
  simp only [look] at hi
  cases hb : Nat.beq i d with
  | true =>
    have : i = d := Nat.eq_of_beq_eq_true hb
    subst this
    simp only [hb, cond_true, Option.some.injEq] at hi
    subst hi; exact hp
  | false =>
    simp only [hb, cond_false] at hi
    exact hf.get i v hi
end
section
variable {P : Program} {n : Nat} {Q : Exit → Act → World → Prop} {cs : List Code} {σ : Env} {w : World}
def Gets (σ : Env) (a : Act) : Prop := ∀ i v, look σ i = some v → a.tmps[i]? = some v
theorem Gets.eval {σ : Env} {a : Act} (h : Gets σ a) {x : Operand} {v : Value} (hx : ev σ x = some v) : a.eval x = v := by
  cases x with
  | tmp t => simp only [ev] at hx; simp [Act.eval, Array.getD_eq_getD_getElem?, h t v hx]
  | const u => simpa [ev, Act.eval] using hx
  | global g => simpa [ev, Act.eval] using hx
  | func f => simpa [ev, Act.eval] using hx
theorem S_regF (hm : P.follows .mixedOrders = true) (X : List Nat) (f d : Nat) (ks : List Nat) (κ1 κ κ2 : List (Nat × Bool)) (vf : Nat → Value) {id : Nat} {ops : Array Oper} {l1 l l2 : List (Bool × Oper)} {z : List Value} {of : Oper} (hk : regFOK X ops n f d ks κ1 κ κ2 = true)
    (hof : ops[f]? = some of) (hofd : of.dst = some d) (hofg : of.guard = none) (hofs : isSt of = false) (hl1 : pickAll ops κ1 = some l1) (hl : pickAll ops κ = some l) (hl2 : pickAll ops κ2 = some l2) (σ1 σg : Env) (hks : σg.map (·.1) = ks) (hsg : Sub σg σ1) (Φ : World → Prop)
    (hrun : ∀ a w, Gets σg a → ∃ e, (execOp a.eval of).run P w = .ok (.value (vf w.heap.size)) (w.alloc (.cells z.toArray e)))
    (h1 : ∀ w', Ext w w' → J P ops true n (fun a w1 => Fits n σ1 a ∧ Φ w1) l1 σ w')
    (h : ∀ w', Φ w' → JI P ops n d w'.heap.size vf z (wpE2 P ops X (CK P Q cs) κ2 l2) l [] σ1 w') : S P n Q (.region id ops true :: cs) σ w := fun a ha => by
  simp only [regFOK, Bool.and_eq_true, beq_iff_eq, Bool.not_eq_true'] at hk
  obtain ⟨⟨⟨⟨⟨hs, hfX⟩, hlen⟩, hdn⟩, hfree⟩, hk⟩ := hk
  split at hk
  · rename_i L hL
    have key : ∀ a1 w1, Fits n σ1 a1 ∧ Φ w1 → wpAnyG P ops X (Only (CK P Q cs)) (Ext w1) (κ.length + (1 + κ2.length)) L a1 w1 := fun a1 w1 ⟨hf, hp⟩ => by
      refine float_pend (G := Gets σg) hs hl2 hof hofd hofg hofs hfX hrun (Nat.blt_eq ▸ hdn) κ l [] L a1 w1 hl hk (fun i t o hm ho a a' hkp hg => fun q v hq => ?_) (hf.sub hsg).get hf.size (Nat.le_refl _) (by simp) (h w1 hp a1 hf)
      have hne : o.dst ≠ some q := fun e => by
        have := List.all_eq_true.1 hfree (i, t) hm
        rw [ho] at this
        simp only [Option.bind_some, e, Bool.not_eq_true'] at this
        rw [look_none (by rw [hks]; exact this)] at hq; cases hq
      rw [hkp q hne]; exact hg q v hq
    have h3 := wpAnyG_pre hs key κ1 l1 _ a _ hl1 hL (h1 _ (Ext.drew w) a ha)
    rw [hlen] at h3
    exact wp_mono (wp_region_any hm (wpAny_of_G _ _ _ _ h3)) (fun e a w h => by cases e <;> first | exact h | exact h.elim)
  · cases hk
end
def regXOK (X : List Nat) (ops : Array Oper) (κ1 κ2 : List (Nat × Bool)) : Bool :=
  Region.noSelect ops && (κ1.length + κ2.length == ops.size) && match eagerPre X ops κ1 (Array.replicate ops.size false) with
    | some L => eager2 X ops κ2 L
    | none => false
section
variable {P : Program} {n : Nat} {Q : Exit → Act → World → Prop} {cs : List Code} {σ : Env} {w : World}
theorem S_regX (hm : P.follows .mixedOrders = true) (X : List Nat) (κ1 κ2 : List (Nat × Bool)) {id : Nat} {ops : Array Oper} {l1 l2 : List (Bool × Oper)} (hk : regXOK X ops κ1 κ2 = true) (hl1 : pickAll ops κ1 = some l1) (hl2 : pickAll ops κ2 = some l2)
    (h : ∀ w', Ext w w' → J P ops true n (wpE2 P ops X (CK P Q cs) κ2 l2) l1 σ w') : S P n Q (.region id ops true :: cs) σ w := fun a ha => by
  simp only [regXOK, Bool.and_eq_true, beq_iff_eq] at hk
  obtain ⟨⟨hs, hlen⟩, hk⟩ := hk
  split at hk
  · rename_i L hL
    have h3 := wpAnyG_pre hs (fun a1 w1 hw => wpAnyG_weaken (S' := Ext w1) (fun _ e => e) _ _ _ _ (wpAnyG_of_wpE2 hs κ2 l2 L a1 w1 hl2 hk hw)) κ1 l1 _ a _ hl1 hL (h _ (Ext.drew w) a ha)
    rw [hlen] at h3
    exact wp_mono (wp_region_any hm (wpAny_of_G _ _ _ _ h3)) (fun e a w h => by cases e <;> first | exact h | exact h.elim)
  · cases hk
variable {ops : Array Oper} {X : List Nat} {K : Act → World → Prop} {κ2 : List (Nat × Bool)} {l2 : List (Bool × Oper)}
theorem JX_tail (h : J2 P ops X n K κ2 l2 σ w) : J P ops true n (wpE2 P ops X K κ2 l2) [] σ w := fun a ha => h a ha
end
section
variable {P : Program} {σg : Env} {d : Option Tmp} {ty : TypeId} {pos : String} {af : Array Edge}
theorem float_alloc {e sz : Nat} {z : List Value} (hT : StT P e sz z) : ∀ (a : Act) (w : World), Gets [] a → ∃ e', (execOp a.eval ⟨d, .alloc e, ty, pos, af, none⟩).run P w = .ok (.value (.pointer (some ⟨w.heap.size, 0, none⟩))) (w.alloc (.cells z.toArray e')) := fun a w _ =>
  ⟨e, by simp [execOp, Instr.alloc, hT.zero w, newVar, newRow, Value.cells]⟩
theorem float_lit1 {t e sz bytes : Nat} {z cs : List Value} {x : Operand} {v : Value} (hT : SlT P t e sz bytes z) (hx : ev σg x = some v) (hc : v.cells.toList = cs) (hl : cs.length = sz) (hsm : Nat.ble sz 1000 = true) :
    ∀ (a : Act) (w : World), Gets σg a → ∃ e', (execOp a.eval ⟨d, .buildSlice t 1 #[(0, x)], ty, pos, af, none⟩).run P w = .ok (.value (.slice (some ⟨w.heap.size, 0, none⟩) 1 1)) (w.alloc (.cells cs.toArray e')) := fun a w ha => by
  obtain ⟨ti, zv, hinf, hs, hby, hz, hzc⟩ := hT.info
  have hpos := hT.pos
  have hsm' : sz ≤ 1000 := Nat.le_of_ble_eq_true hsm
  have hfill : ∀ zs : Array Value, zs.size = sz → Instr.fill (fun i => some (i * sz, sz)) zs [(0, v)] = some cs.toArray := fun zs hzs => by
    have := fill_numb sz [v] [cs] 0 zs ⟨⟨hc, hl⟩, trivial⟩ (by simp [hzs])
    simpa [numb] using this
  refine ⟨e, ?_⟩
  have hn : ¬ (16777216 < sz) := by omega
  have h0 : sz ≠ 0 := by omega
  simp [execOp, Instr.buildSlice, run_underlying hT.und, sizeOf, typeInfo, hinf, hs, hn, h0, ha.eval hx, zeroValue, hz, newRow]
  rw [hfill _ (by simp)]
  exact rfl
end
end Go.Proofs.YtpkimhbibjpcpaaDoor.X

namespace Go.Proofs.YtpkimhbibjpcpaaDoor.X
open Go
open Enc (enc)
/-! ### copies, and slices of the call's own at close quarters -/
section
variable {w w' : World} {lo hi sz : Nat} {v : Value} {cs cur : List Value} {g off len cap : Nat}
theorem Own.conc {n : Nat} (h : Own w lo hi sz v cs) (hc : cs.length = n * sz) (hp : 0 < sz) (hn : 0 < n) :
    ∃ g off cap cur, v = .slice (some ⟨g, off, none⟩) n cap ∧ lo ≤ g ∧ g < hi ∧ Blk w g cur ∧ n ≤ cap ∧ cap ≤ maxLen ∧ off + cap * sz ≤ cur.length ∧ ∀ j u, cs[j]? = some u → cur[off + j]? = some u := by
  rcases h with ⟨rfl, rfl⟩ | ⟨g, off, len, cap, cur, T, rfl, h1, h2, hw, h4, h5, h6, h7, h8⟩
  · have := Nat.mul_pos hn hp; simp at hc; omega
  · rw [h7] at hc
    have := Nat.eq_of_mul_eq_mul_right hp hc
    subst this
    exact ⟨g, off, cap, cur.toList, rfl, h1, h2, ⟨T, by simpa using hw⟩, h4, h5, by simpa using h6, fun j u hj => by simpa using h8 j u hj⟩
theorem Own.of (hb : Blk w g cur) (h1 : lo ≤ g) (h2 : g < hi) (hcl : len ≤ cap) (hcm : cap ≤ maxLen) (hr : off + cap * sz ≤ cur.length) (hl : cs.length = len * sz) (hc : ∀ j u, cs[j]? = some u → cur[off + j]? = some u) : Own w lo hi sz (.slice (some ⟨g, off, none⟩) len cap) cs := by
  obtain ⟨T, hb⟩ := hb
  exact .inr ⟨g, off, len, cap, _, T, rfl, h1, h2, hb, hcl, hcm, by simpa using hr, hl, fun j u hj => by simpa using hc j u hj⟩
theorem slFrom_c {k : Nat} (h : k < cap) : slFrom (.slice (some ⟨g, off, none⟩) len cap) k sz = .slice (some ⟨g, off + k * sz, none⟩) (len - k) (cap - k) := by
  simp [slFrom, show cap ≠ k from by omega, Addr.add_lit]
theorem ins_row {A B C row : List Value} (hA : ∀ j u, A[j]? = some u → row[off + j]? = some u) (hr : off + A.length + B.length + C.length ≤ row.length) :
    ∀ j u, (A ++ B ++ C)[j]? = some u → (spl (spl row (off + A.length) B) (off + A.length + B.length) C)[off + j]? = some u := fun j u hj => by
  rw [spl_get _ _ _ _ (by rw [spl_length]; omega), spl_get _ _ _ _ (by omega)]
  by_cases h1 : j < A.length
  · rw [if_neg (by omega), if_neg (by omega)]
    rw [List.append_assoc, List.getElem?_append_left h1] at hj
    exact hA j u hj
  · rw [List.append_assoc, List.getElem?_append_right (by omega)] at hj
    by_cases h2 : j - A.length < B.length
    · rw [if_neg (by omega), if_pos (by omega), show off + j - (off + A.length) = j - A.length from by omega]
      rwa [List.getElem?_append_left h2] at hj
    · rw [List.getElem?_append_right (by omega)] at hj
      have := (List.getElem?_eq_some_iff.1 hj).1
      rw [if_pos (by omega), show off + j - (off + A.length + B.length) = j - A.length - B.length from by omega]
      exact hj
theorem ins_row2 {A B C row : List Value} (hA : ∀ j u, A[j]? = some u → row[off + j]? = some u) (hr : off + A.length + B.length + C.length ≤ row.length) :
    ∀ j u, (A ++ B ++ C)[j]? = some u → (spl (spl row (off + A.length + B.length) C) (off + A.length) B)[off + j]? = some u := fun j u hj => by
  rw [spl_get _ _ _ _ (by rw [spl_length]; omega), spl_get _ _ _ _ (by omega)]
  by_cases h1 : j < A.length
  · rw [if_neg (by omega), if_neg (by omega)]
    rw [List.append_assoc, List.getElem?_append_left h1] at hj
    exact hA j u hj
  · rw [List.append_assoc, List.getElem?_append_right (by omega)] at hj
    by_cases h2 : j - A.length < B.length
    · rw [if_pos (by omega), show off + j - (off + A.length) = j - A.length from by omega]
      rwa [List.getElem?_append_left h2] at hj
    · rw [List.getElem?_append_right (by omega)] at hj
      have := (List.getElem?_eq_some_iff.1 hj).1
      rw [if_neg (by omega), if_pos (by omega), show off + j - (off + A.length + B.length) = j - A.length - B.length from by omega]
      exact hj
theorem ins_rowE {A B C row : List Value} {p q : Nat} (hp : p = off + A.length) (hq : q = off + A.length + B.length) (hA : ∀ j u, A[j]? = some u → row[off + j]? = some u) (hr : off + A.length + B.length + C.length ≤ row.length) :
    ∀ j u, (A ++ B ++ C)[j]? = some u → (spl (spl row p B) q C)[off + j]? = some u := by subst hp hq; exact ins_row hA hr
theorem ins_row2E {A B C row : List Value} {p q : Nat} (hp : p = off + A.length) (hq : q = off + A.length + B.length) (hA : ∀ j u, A[j]? = some u → row[off + j]? = some u) (hr : off + A.length + B.length + C.length ≤ row.length) :
    ∀ j u, (A ++ B ++ C)[j]? = some u → (spl (spl row q C) p B)[off + j]? = some u := by subst hp hq; exact ins_row2 hA hr
/-- A part of a block, by its cells. -/
theorem Blk.seg {ns : List Value} {o : Nat} (hb : Blk w g cur) (h : ∀ j u, ns[j]? = some u → cur[o + j]? = some u) : At w g o ns := by
  obtain ⟨T, hb⟩ := hb
  exact ⟨_, T, (0, 0), hb, fun j u hj => by simpa using h j u hj⟩
end
theorem take_flat {α : Type} [Enc α] : ∀ (k : Nat) (xs : List α), (xs.flatMap enc).take (k * Enc.sz α) = (xs.take k).flatMap enc
  | 0, xs => by simp
  | k + 1, [] => by simp
  | k + 1, x :: xs => by
    simp only [List.flatMap_cons, List.take_succ_cons]
    rw [← take_flat k xs, Nat.add_mul, Nat.one_mul, Nat.add_comm, List.take_append, List.take_of_length_le (by rw [Enc.len]; omega), Enc.len]
    rw [show Enc.sz α + k * Enc.sz α - Enc.sz α = k * Enc.sz α from by omega]
theorem take_pre {α : Type} [Enc α] {xs : List α} {i j : Nat} {u : Value} (h : ((xs.take i).flatMap enc)[j]? = some u) : (xs.flatMap enc)[j]? = some u := by
  rw [← take_flat, List.getElem?_take] at h
  split at h
  · exact h
  · cases h
theorem drop_pre {α : Type} [Enc α] {xs : List α} {i j : Nat} {u : Value} (h : ((xs.drop i).flatMap enc)[j]? = some u) : (xs.flatMap enc)[i * Enc.sz α + j]? = some u := by
  rwa [← drop_flat, List.getElem?_drop] at h
def insM {α : Type} (xs : List α) (i : Nat) (y : α) : List α := xs.take i ++ y :: xs.drop i
theorem insM_flat {α : Type} [Enc α] (xs : List α) (i : Nat) (y : α) : (insM xs i y).flatMap enc = (xs.take i).flatMap enc ++ enc y ++ (xs.drop i).flatMap enc := by
  simp [insM, List.flatMap_append]
theorem ins_end {α : Type} [Enc α] {xs : List α} {i : Nat} {y : α} (h : i = xs.length) : xs.flatMap enc ++ enc y = (insM xs i y).flatMap enc := by
  subst h; simp [insM, List.flatMap_append]
theorem nat_sub {a b : Nat} (h : b ≤ a) (hm : a ≤ maxLen) : IntKind.i64.wrap ((a : Int) - (b : Int)) = ((a - b : Nat) : Int) := by
  unfold maxLen at hm
  rw [wrap_in (by omega) (by omega)]; omega
theorem flat_setE {α : Type} [Enc α] {xs : List α} {i : Nat} (h : i < xs.length) (y : α) : (xs.set i y).flatMap enc = spl (xs.flatMap enc) (i * Enc.sz α) (enc y) := by
  have hl : i * Enc.sz α + Enc.sz α ≤ (xs.flatMap enc).length := by
    rw [sum_flat]
    have := Nat.mul_le_mul_right (Enc.sz α) (show i + 1 ≤ xs.length by omega)
    rwa [Nat.add_mul, Nat.one_mul] at this
  rw [spl_eq _ _ _ (by rw [Enc.len]; exact hl), Enc.len, take_flat, show i * Enc.sz α + Enc.sz α = (i + 1) * Enc.sz α from by rw [Nat.add_mul]; omega, drop_flat, set_split h]
  simp
section
variable {P : Program} {n : Nat} {σ : Env} {w : World} {d : Option Tmp} {ty : TypeId} {pos : String} {af : Array Edge} {gd : Option (Nat × Bool)} {t e sz bytes : Nat} {z : List Value} {x y : Operand}
theorem R_cap {a : Option Addr} {l c : Nat} (ht : P.underlying t = some (.slice e)) (hx : ev σ x = some (.slice a l c)) : Runs P n σ w ⟨d, .call { callee := .builtin .cap, args := #[x], argTypes := #[t] }, ty, pos, af, gd⟩ (.int .i64 c) := fun a ha w' _ => by
  simp [execOp, resolve, invoke, builtin, Builtin.cap_, ha.eval hx, run_underlying ht, goInt]
theorem R_sliceFromC {g off k len cap : Nat} (hT : SlT P t e sz bytes z) (hx : ev σ x = some (.slice (some ⟨g, off, none⟩) len cap)) (hy : ev σ y = some (.int .i64 k)) (hc : len ≤ cap) (hk : k ≤ len) (hne : k < cap) :
    Runs P n σ w ⟨d, .slice t x (some y) none none, ty, pos, af, gd⟩ (.slice (some ⟨g, off + k * sz, none⟩) (len - k) (cap - k)) := by
  rw [← slFrom_c hne]; exact R_sliceFrom hT hx hy ⟨_, _, rfl, hc⟩ hk
theorem R_sliceToC {g off k len cap : Nat} (hT : SlT P t e sz bytes z) (hx : ev σ x = some (.slice (some ⟨g, off, none⟩) len cap)) (hy : ev σ y = some (.int .i64 k)) (hk : k ≤ cap) :
    Runs P n σ w ⟨d, .slice t x none (some y) none, ty, pos, af, gd⟩ (.slice (some ⟨g, off, none⟩) k cap) := fun a ha w' _ => by
  obtain ⟨i, zv, hinf, _, _⟩ := hT.info
  simp [execOp, Instr.sliceAt, Instr.slice, run_underlying hT.und, ha.eval hx, ha.eval hy, Instr.sliceBounds, Instr.sliceBound, asIntOf, hk, sizeOf, typeInfo, hinf, Addr.add]
end
theorem run_ov {P : Program} {w : World} {t tb e sz bytes vb o1 g o2 la ca lb cb : Nat} {z ys cur : List Value} (hT : SlT P t e sz bytes z) (hz : ∀ w, (sizeOf e).run P w = .ok sz w) (h1 : Blk w vb ys) (h2 : Blk w g cur) (hne : vb ≠ g) (hc : 0 < cur.length) :
    (Extern.SlicesOverlaps.overlaps #[t, t] #[tb] #[.slice (some ⟨vb, o1, none⟩) la ca, .slice (some ⟨g, o2, none⟩) lb cb]).run P w = .ok (.bool false) w := by
  obtain ⟨T1, h1⟩ := h1
  obtain ⟨T2, h2⟩ := h2
  refine Lib.run_overlaps_apart w t tb e hT.und sz hz ⟨vb, o1, none⟩ ⟨g, o2, none⟩ la ca lb cb hne T1 T2 ys.length cur.length ?_ ?_ (by omega) ?_ ?_
  · simp [World.shape?, h1]
  · simp [World.shape?, h2]
  · simp [World.frozen?, h1]
  · simp [World.frozen?, h1]
section
variable {P : Program} {ops : Array Oper} {D : Bool} {n : Nat} {K : Act → World → Prop} {l : List (Bool × Oper)} {σ : Env} {w : World} {ty : TypeId} {pos : String} {af : Array Edge} {d : Option Tmp} {t e sz bytes : Nat} {z : List Value} {x y : Operand}
theorem J_copy {g off dl dc b o sl sc : Nat} {cur ns : List Value} (m : Nat) (hT : SlT P t e sz bytes z) (hx : ev σ x = some (.slice (some ⟨g, off, none⟩) dl dc)) (hy : ev σ y = some (.slice (some ⟨b, o, none⟩) sl sc)) (hm : Nat.min sl dl = m) (hb : Blk w g cur) (hs : At w b o ns) (hl : ns.length = m * sz) (h1 : ns.all (·.oneCell') = true)
    (hr : off + ns.length ≤ cur.length) (hd : dok n d = true) (hk : ∀ w', Mod w w' (some g) → Blk w' g (spl cur off ns) → J P ops D n K l (put σ d (.int .i64 m)) w') : J P ops D n K ((false, ⟨d, .call { callee := .builtin .copy, args := #[x, y], argTypes := #[t, t] }, ty, pos, af, none⟩) :: l) σ w := J_unS rfl rfl fun a ha => by
  obtain ⟨w', hrun, hmod, hb'⟩ := run_storeCells_blk P hb hr h1
  obtain ⟨i, zv, hinf, hsz, _⟩ := hT.info
  have hf := run_firstCells_some (P := P) (w := w) sz m ⟨b, o, none⟩ sl sc ns hl hs.add
  refine wp_value (w' := w') (v := .int .i64 m) ?_ (hk w' hmod hb' _ (ha.put hd _))
  simp [execOp, resolve, invoke, builtin, Builtin.copy_, ha.eval hx, ha.eval hy, run_underlying hT.und, Builtin.lenOf, sizeOf, typeInfo, hinf, hsz, hm, hf, hrun, goInt]
theorem J_appendZ {tn g off n0 cap k : Nat} {s : Operand} {olds : List Value} (hT : SlT P t e sz bytes z) (htn : P.underlying tn = some (.int .i64)) (hs : ev σ s = some (.slice (some ⟨g, off, none⟩) n0 cap)) (hx : ev σ x = some (.int .i64 k)) (ho : At w g off olds) (hl : olds.length = n0 * sz) (h0 : 0 < k) (hg : cap < n0 + k)
    (hbig : (n0 + k) * bytes ≤ 140737488355328) (hby : 0 < bytes) (hd : dok n d = true)
    (hk : ∀ b G rest w', Ext w w' → w.heap.size = b → Blk w' b (olds ++ rest) → n0 + k ≤ G → G ≤ maxLen → rest.length = (G - n0) * sz → J P ops D n K l (put σ d (.slice (some ⟨b, 0, none⟩) (n0 + k) G)) w') :
    J P ops D n K ((false, ⟨d, .call { callee := .builtin .append, args := #[s, x], argTypes := #[t, tn] }, ty, pos, af, none⟩) :: l) σ w := J_un rfl fun a ha => by
  obtain ⟨i, zv, hinf, hsz, hbs, hz, hzc⟩ := hT.info
  have hzs : zv.cells.size = sz := by rw [hzc]; simpa using hT.zlen
  have hdr : Ext w w.drew := ⟨rfl, rfl, rfl, Nat.le_refl _, fun _ _ _ => rfl, Nat.le_succ _⟩
  have hold : (Builtin.firstCells i.size n0 (.slice (some ⟨g, off, none⟩) n0 cap)).run P w.drew = .ok olds.toArray w.drew := by
    rw [hsz]; exact run_firstCells_some (P := P) (w := w.drew) sz n0 ⟨g, off, none⟩ n0 cap olds hl (ho.ext hdr).add
  have hN : n0 + k ≤ 140737488355328 := Nat.le_trans (Nat.le_mul_of_pos_right _ hby) hbig
  have hkb : k * i.bytes ≤ 281474976710656 := by
    rw [hbs]
    have : k * bytes ≤ (n0 + k) * bytes := Nat.mul_le_mul_right _ (by omega)
    omega
  have hr := Lib.run_append_grow_zeros (P := P) w t tn ty e i zv .i64 .i64 hT.und htn hinf hz (some ⟨g, off, none⟩) n0 cap olds hold k h0 (by rw [hsz]; exact hT.pos) hg (by omega) hkb (by rw [hbs]; exact growslice_fits hg hbig)
  have hx' : Ext w (w.drew.alloc (.cells (olds.toArray ++ Builtin.zeroCells zv.cells k ++ Builtin.zeroCells zv.cells (grownCap w (n0 + k) cap e - (n0 + k))) e)) := hdr.trans (Ext.alloc _ _)
  have hG := grownCap_ge w (n0 + k) cap e
  refine wp_value (w' := _) (v := _) (by simp only [execOp, resolve, invoke, builtin]; simp [ha.eval hs, ha.eval hx, hr]) ⟨fun _ => hx', hk w.heap.size (grownCap w (n0 + k) cap e) ((Builtin.zeroCells zv.cells k).toList ++ (Builtin.zeroCells zv.cells (grownCap w (n0 + k) cap e - (n0 + k))).toList) _ hx' rfl ?_ hG (grownCap_le_maxLen w (n0 + k) cap e (by unfold maxLen; omega)) ?_ _ (ha.put hd _)⟩
  · have := Blk.new w.drew (olds.toArray ++ Builtin.zeroCells zv.cells k ++ Builtin.zeroCells zv.cells (grownCap w (n0 + k) cap e - (n0 + k))) e
    simpa using this
  · simp only [List.length_append, Array.length_toList, size_zeroCells, hzs, ← Nat.add_mul]
    congr 1; omega
theorem J_extern {f : FuncId} {args : List Operand} {ats : Array TypeId} {vs : List Value} {v : Value} (hv : evs σ args = some vs) (hr : (callFunc f vs.toArray).run P w = .ok (.value v) w) (hd : dok n d = true) (h : J P ops D n K l (put σ d v) w) :
    J P ops D n K ((false, ⟨d, .call { callee := .value (.func f), args := args.toArray, argTypes := ats }, ty, pos, af, none⟩) :: l) σ w := J_un rfl fun a ha => by
  have hm := evs_map ha args vs hv
  exact wp_value (w' := w) (v := v) (by simp [execOp, resolve, Deferred.ofValue, Act.eval, invoke, hm, hr]) ⟨fun _ => Ext.refl w, h _ (ha.put hd _)⟩
theorem J_storeElem {α : Type} [Enc α] {lo hi i off : Nat} {p q : Operand} {v : Value} {xs : List α} (y : α) (hT : StT P t (Enc.sz α) z) (hx : ev σ p = some (.pointer (some ⟨sblk v, off, none⟩))) (ho : off = soff v + i * Enc.sz α) (hy : ev σ q = some (.agg (enc y).toArray))
    (h : Own w lo hi (Enc.sz α) v (xs.flatMap enc)) (hi' : i < xs.length) (hk : ∀ w', Mod w w' v.ownBlock → Own w' lo hi (Enc.sz α) v ((xs.set i y).flatMap enc) → J P ops D n K l σ w') : J P ops D n K ((false, ⟨none, .store t p q, ty, pos, af, none⟩) :: l) σ w := J_unS rfl rfl fun a ha => by
  subst ho
  obtain ⟨g, off, cap, cur, rfl, h1, h2, hb, h4, h5, h6, h7⟩ := h.conc (sum_flat xs) Enc.pos (Nat.lt_of_le_of_lt (Nat.zero_le _) hi')
  have hle : i * Enc.sz α + Enc.sz α ≤ cap * Enc.sz α := by
    have := Nat.mul_le_mul_right (Enc.sz α) (show i + 1 ≤ cap by omega)
    rwa [Nat.add_mul, Nat.one_mul] at this
  obtain ⟨w', hr, hm, hb'⟩ := run_storeVar_st (vs := enc y) (off := off + i * Enc.sz α) hT hb (Enc.len y) (by rw [Enc.len]; omega) (Enc.one y)
  refine wp_skipped (w' := w') (by simp [execOp, ha.eval hx, ha.eval hy, Instr.storeAt, Instr.sureAddr, sblk, soff, hr]) (hk w' hm ?_ _ ha)
  refine Own.of hb' h1 h2 h4 h5 (by rw [spl_length]; exact h6) (by rw [sum_flat]; simp) fun j u hj => ?_
  have hl : i * Enc.sz α + Enc.sz α ≤ (xs.flatMap enc).length := by
    rw [sum_flat]
    have := Nat.mul_le_mul_right (Enc.sz α) (show i + 1 ≤ xs.length by omega)
    rwa [Nat.add_mul, Nat.one_mul] at this
  rw [flat_setE hi' y, spl_get _ _ _ _ (by rw [Enc.len]; exact hl)] at hj
  rw [spl_get _ _ _ _ (by rw [Enc.len]; omega)]
  rw [Enc.len] at *
  by_cases hq : i * Enc.sz α ≤ j ∧ j < i * Enc.sz α + Enc.sz α
  · rw [if_pos hq] at hj
    rw [if_pos (by omega), show off + j - (off + i * Enc.sz α) = j - i * Enc.sz α from by omega]; exact hj
  · rw [if_neg hq] at hj
    rw [if_neg (by omega)]; exact h7 j u hj
theorem J_clear {α : Type} [Enc α] {lo hi k : Nat} {v : Value} {xs : List α} (hT : SlT P t e (Enc.sz α) bytes z) (hS : StT P e (Enc.sz α) z) (h1z : z.all (·.oneCell') = true) (hx : ev σ x = some (slFrom v k (Enc.sz α))) (h : Own w lo hi (Enc.sz α) v (xs.flatMap enc)) (hk' : k ≤ xs.length)
    (hk : ∀ w', Mod w w' v.ownBlock → Own w' lo hi (Enc.sz α) (slTo v k) ((xs.take k).flatMap enc) → J P ops D n K l σ w') : J P ops D n K ((false, ⟨none, .call { callee := .builtin .clear, args := #[x], argTypes := #[t] }, ty, pos, af, none⟩) :: l) σ w := J_unS rfl rfl fun a ha => by
  have hp := Enc.pos (α := α)
  by_cases hkl : k = xs.length
  · subst hkl
    have hlen : ∃ b c, slFrom v xs.length (Enc.sz α) = .slice b 0 c ∧ Own w lo hi (Enc.sz α) (slTo v xs.length) ((xs.take xs.length).flatMap enc) := by
      rw [List.take_length]
      rcases h with ⟨rfl, hc⟩ | ⟨g, off, len, cap, cur, T, rfl, h1, h2, hw, h4, h5, h6, h7, h8⟩
      · have : xs.length = 0 := by
          have h0 := congrArg List.length hc
          rw [sum_flat, List.length_nil] at h0
          rcases Nat.mul_eq_zero.1 h0 with h | h <;> omega
        exact ⟨none, 0, by simp [slFrom, this], by rw [this]; exact .inl ⟨rfl, hc⟩⟩
      · rw [sum_flat] at h7
        have := Nat.eq_of_mul_eq_mul_right hp h7
        subst this
        exact ⟨_, _, by simp [slFrom]; exact ⟨rfl, rfl⟩, .inr ⟨g, off, _, cap, cur, T, rfl, h1, h2, hw, h4, h5, h6, sum_flat xs, h8⟩⟩
    obtain ⟨b, c, hb, hO⟩ := hlen
    refine wp_value (w' := w) (v := .tuple #[]) ?_ (hk w ((Ext.refl w).mod _) hO _ ha)
    cases b <;> simp [execOp, resolve, invoke, builtin, Builtin.clear_, ha.eval hx, run_underlying hT.und, hb]
  · obtain ⟨g, off, cap, cur, rfl, h1, h2, hb, h4, h5, h6, h7⟩ := h.conc (sum_flat xs) Enc.pos (by omega)
    have hsl : slFrom (.slice (some ⟨g, off, none⟩) xs.length cap) k (Enc.sz α) = .slice (some ⟨g, off + k * Enc.sz α, none⟩) (xs.length - k) (cap - k) := slFrom_c (by omega)
    rw [hsl] at hx
    have hzl := hT.zlen
    have hle : k * Enc.sz α + (xs.length - k) * Enc.sz α ≤ cap * Enc.sz α := by rw [← Nat.add_mul]; exact Nat.mul_le_mul_right _ (by omega)
    have hzs : (Builtin.zeroCells (Value.agg z.toArray).cells (xs.length - k)).toList.length = (xs.length - k) * Enc.sz α := by
      rw [Array.length_toList, size_zeroCells]; simp [Value.cells, hzl]
    have hone : (Builtin.zeroCells (Value.agg z.toArray).cells (xs.length - k)).toList.all (·.oneCell') = true := by
      rw [List.all_eq_true]
      intro u hu
      simp only [Builtin.zeroCells, Value.cells, Array.mem_toList_iff, Array.mem_map] at hu
      obtain ⟨q, _, rfl⟩ := hu
      have hq : q % z.toArray.size < z.toArray.size := Nat.mod_lt _ (by simp only [List.size_toArray]; omega)
      refine List.all_eq_true.1 h1z _ ?_
      rw [getElem!_pos z.toArray _ hq]
      simp
    obtain ⟨w', hr, hm, hb'⟩ := run_storeCells_blk P (off := off + k * Enc.sz α) (vs := (Builtin.zeroCells (Value.agg z.toArray).cells (xs.length - k)).toList) hb (by rw [hzs]; omega) hone
    obtain ⟨m, hmk⟩ : ∃ m, xs.length - k = m + 1 := ⟨xs.length - k - 1, by omega⟩
    refine wp_value (w' := w') (v := .tuple #[]) ?_ (hk w' hm ?_ _ ha)
    · rw [hmk] at hx hr
      simp [execOp, resolve, invoke, builtin, Builtin.clear_, ha.eval hx, run_underlying hT.und, hS.zero w, hr]
    · refine Own.of (len := k) hb' h1 h2 (by omega) h5 (by rw [spl_length]; exact h6) (by rw [sum_flat, List.length_take, Nat.min_eq_left hk']) fun j u hj => ?_
      have hjl := (List.getElem?_eq_some_iff.1 hj).1
      rw [sum_flat, List.length_take, Nat.min_eq_left hk'] at hjl
      rw [spl_get _ _ _ _ (by rw [hzs]; omega), if_neg (by omega)]
      refine h7 j u ?_
      rw [← take_flat, List.getElem?_take, if_pos hjl] at hj
      exact hj
end
/-- .. and may be asked where what lies from 'lo' on and below 'hi' has been turned. -/
def PredR {α : Type} [Enc α] (P : Program) (w : World) (lo hi : Nat) (v : Value) (p : α → Bool) : Prop :=
  ∃ fid fs cs, v = .func (.func fid) fs.toArray cs.toArray ∧ (∀ args w, (callFunc fid args).run P w = .ok (.enter fid args) w) ∧ ∀ (x : α) (w' : World), ModR w w' lo hi → Ct P fid (fs ++ [.agg (enc x).toArray] ++ cs) w' (fun v _ => v = .bool (p x))
end Go.Proofs.YtpkimhbibjpcpaaDoor.X

namespace Go.Proofs.YtpkimhbibjpcpaaDoor.X
open Go
/-! ### a region in which a store may come up between operations that yield -/
def chS (P : Program) (ops : Array Oper) (b : Nat) (w : World) (KE : Act → Prop) : List (Bool × Oper) → Act → Prop
  | [], a => KE a
  | (_, o) :: l, a => ∃ v, ((Region.wanted o (yielded ops a.tmps) = true ∧ ∀ w', Mod w w' (some b) → (execOp a.eval o).run P w' = .ok (.value v) w') ∨ (Region.wanted o (yielded ops a.tmps) = false ∧ v = undef)) ∧ chS P ops b w KE l (a.put o.dst v)
def eagerS (ops : Array Oper) (f : Nat) (κ2 : List (Nat × Bool)) : List (Nat × Bool) → Array Bool → Bool
  | [], L => (Region.ready .any ops L == [f]) && eager [] ops κ2 (L.setIfInBounds f true)
  | (i, _) :: κ, L => (ops[i]?).any (fun o => !isSt o) && ((Region.ready .any ops L == [i, f]) || (Region.ready .any ops L == [f, i])) && (Region.ready .any ops (L.setIfInBounds f true) == [i]) && !(i == f) && eagerS ops f κ2 κ (L.setIfInBounds i true)
section
variable {P : Program} {ops : Array Oper} {f b : Nat} {w : World} {K : Act → World → Prop} {R : World → Prop} {l2 : List (Bool × Oper)} {κ2 : List (Nat × Bool)}
/-- An operation that yields, done. -/
theorem chS_op {o : Oper} {v : Value} {a : Act} {w' : World} {Q : Exit → Act → World → Prop} {i : Nat} {K' : Act → World → Prop} (ho : ops[i]? = some o) (hm : Mod w w' (some b))
    (hy : (Region.wanted o (yielded ops a.tmps) = true ∧ ∀ w', Mod w w' (some b) → (execOp a.eval o).run P w' = .ok (.value v) w') ∨ (Region.wanted o (yielded ops a.tmps) = false ∧ v = undef)) (h : K' (a.put o.dst v) w') : wpOp P ops Q i K' a w' := by
  unfold wpOp
  simp only [ho]
  rcases hy with ⟨hw, hr⟩ | ⟨hw, rfl⟩
  · rw [if_pos hw]; exact .inl (wp_value (hr w' hm) h)
  · rw [if_neg (by simp [hw])]; exact h
theorem fs_done (hs : Region.noSelect ops = true) (hl2 : pickAll ops κ2 = some l2) : ∀ (κ : List (Nat × Bool)) (l : List (Bool × Oper)) (L : Array Bool) (a : Act) (w' : World), pickAll ops κ = some l → eagerS ops f κ2 κ L = true → Mod w w' (some b) → R w' →
    chS P ops b w (fun a => ∀ w', Mod w w' (some b) → R w' → wpE P ops true K l2 a w') l a → wpAny P .any ops (Only K) (κ.length + κ2.length) (L.setIfInBounds f true) a w'
  | [], l, L, a, w', hp, he, hm, hR, h => by
    simp only [pickAll, Option.some.injEq] at hp
    subst hp
    simp only [eagerS, Bool.and_eq_true] at he
    have := wpAny_of_G _ _ _ _ (wpAnyG_of_wpE hs κ2 l2 _ a w' hl2 he.2 (h w' hm hR))
    simpa using this
  | (i, t) :: κ, l, L, a, w', hp, he, hm, hR, h => by
    simp only [pickAll] at hp
    split at hp
    · rename_i o l' ho hl'
      simp only [Option.some.injEq] at hp
      subst hp
      simp only [eagerS, Bool.and_eq_true, beq_iff_eq, Bool.not_eq_true', beq_eq_false_iff_ne] at he
      obtain ⟨⟨⟨⟨_, _⟩, hr⟩, hif⟩, he⟩ := he
      obtain ⟨v, hy, h⟩ := h
      have ih := fs_done hs hl2 κ l' _ _ w' hl' he hm hR h
      rw [← set_comm2] at ih
      rw [List.length_cons, show κ.length + 1 + κ2.length = (κ.length + κ2.length) + 1 from by omega]
      refine ⟨fun h0 => (by rw [h0] at hr; cases hr), fun j hj => ?_⟩
      rw [hr] at hj
      obtain rfl : j = i := by simpa using hj
      exact chS_op ho hm hy ih
    · cases hp
theorem fs_pend {of : Oper} {G : Act → Prop} (hs : Region.noSelect ops = true) (hl2 : pickAll ops κ2 = some l2) (hof : ops[f]? = some of) (hofg : of.guard = none) (hofs : isSt of = true) (hofd : of.dst = none)
    (hst : ∀ a, G a → of.wp P a w (fun a' w' => a' = a ∧ Mod w w' (some b) ∧ R w') NoQ) : ∀ (κ : List (Nat × Bool)) (l : List (Bool × Oper)) (L : Array Bool) (a : Act), pickAll ops κ = some l → eagerS ops f κ2 κ L = true →
    (∀ i t o, (i, t) ∈ κ → ops[i]? = some o → ∀ a v, G a → G (a.put o.dst v)) → G a →
    chS P ops b w (fun a => ∀ w', Mod w w' (some b) → R w' → wpE P ops true K l2 a w') l a → wpAnyG P ops [] (Only K) (Ext w) (κ.length + (1 + κ2.length)) L a w := by
  have hstx : stX [] ops f = true := by simp [stX, hof, hofs]
  have hfst : ∀ (κ : List (Nat × Bool)) (l : List (Bool × Oper)) (L : Array Bool) (a : Act), pickAll ops κ = some l → eagerS ops f κ2 κ L = true → G a →
      chS P ops b w (fun a => ∀ w', Mod w w' (some b) → R w' → wpE P ops true K l2 a w') l a →
      wpOp P ops (Only K) f (fun a' w' => ((stX [] ops f = false → Ext w w' ∧ wpAnyG P ops [] (Only K) (Ext w) (κ.length + κ2.length) (L.setIfInBounds f true) a' w') ∧ (stX [] ops f = true → wpAny P .any ops (Only K) (κ.length + κ2.length) (L.setIfInBounds f true) a' w'))) a w := fun κ l L a hp he hG h => by
    unfold wpOp
    simp only [hof]
    rw [if_pos (by simp [Region.wanted, hofg])]
    refine .inl (wp_mono2 (fun a' w' h' => ?_) (fun _ _ _ h => h.elim) (hst a hG))
    obtain ⟨rfl, hm, hR⟩ := h'
    exact ⟨fun hc => (by rw [hstx] at hc; cases hc), fun _ => fs_done hs hl2 κ l L a' w' hp he hm hR h⟩
  intro κ
  induction κ with
  | nil =>
    intro l L a hp he hGc hG h
    have he' := he
    simp only [eagerS, Bool.and_eq_true, beq_iff_eq] at he'
    rw [List.length_nil, Nat.zero_add, Nat.add_comm]
    refine ⟨fun h0 => (by rw [h0] at he'; cases he'.1), fun j hj => ?_⟩
    rw [he'.1] at hj
    obtain rfl : j = f := by simpa using hj
    have := hfst [] l L a hp he hG h
    simpa using this
  | cons p κ ih =>
    obtain ⟨i, t⟩ := p
    intro l L a hp he hGc hG h
    have hp0 := hp
    have he0 := he
    have h0' := h
    simp only [pickAll] at hp
    split at hp
    · rename_i o l' ho hl'
      simp only [Option.some.injEq] at hp
      subst hp
      rw [List.length_cons, show κ.length + 1 + (1 + κ2.length) = (κ.length + (1 + κ2.length)) + 1 from by omega]
      simp only [eagerS, Bool.and_eq_true, beq_iff_eq, Bool.not_eq_true', beq_eq_false_iff_ne, Bool.or_eq_true, ho, Option.any_some] at he
      obtain ⟨⟨⟨⟨hns, hr⟩, hr2⟩, hif⟩, he⟩ := he
      refine ⟨fun h0 => (by rcases hr with hr | hr <;> (rw [h0] at hr; cases hr)), fun j hj => ?_⟩
      have hj' : j = i ∨ j = f := by
        rcases hr with hr | hr
        · rw [hr] at hj; simpa using hj
        · rw [hr] at hj
          rcases List.mem_cons.1 hj with hj | hj
          · exact .inr hj
          · exact .inl (by simpa using hj)
      rcases hj' with rfl | rfl
      · obtain ⟨v, hy, h⟩ := h
        have hrest := ih l' _ _ hl' he (fun i t o hm => hGc i t o (List.mem_cons_of_mem _ hm)) (hGc j t o (by simp) ho _ v hG) h
        refine chS_op ho ((Ext.refl w).mod _) hy ⟨fun _ => ⟨Ext.refl w, hrest⟩, fun hc => ?_⟩
        rw [stX_no ho hns (by simp)] at hc; cases hc
      · have := hfst ((i, t) :: κ) _ L a hp0 he0 hG h0'
        rw [List.length_cons, show κ.length + 1 + κ2.length = κ.length + (1 + κ2.length) from by omega] at this
        exact this
    · cases hp
end
def regSOK (ops : Array Oper) (f : Nat) (ks : List Nat) (κ1 κ κ2 : List (Nat × Bool)) : Bool :=
  Region.noSelect ops && (κ1.length + (κ.length + (1 + κ2.length)) == ops.size) && (κ.all fun p => match (ops[p.1]?).bind (·.dst) with
    | some q => !ks.contains q
    | none => true) && match eagerPre [] ops κ1 (Array.replicate ops.size false) with
    | some L => eagerS ops f κ2 κ L
    | none => false
section
variable {P : Program} {n b : Nat} {Q : Exit → Act → World → Prop} {cs : List Code} {σ : Env} {w : World} {ops : Array Oper} {K : Act → World → Prop} {R : World → Prop} {l l2 : List (Bool × Oper)}
def JS (P : Program) (ops : Array Oper) (n b : Nat) (w : World) (R : World → Prop) (K : Act → World → Prop) (l2 l : List (Bool × Oper)) (σ : Env) : Prop := ∀ a, Fits n σ a → chS P ops b w (fun a => ∀ w', Mod w w' (some b) → R w' → wpE P ops true K l2 a w') l a
theorem JS_st {t : Bool} {d : Option Tmp} {op : Op} {ty : TypeId} {pos : String} {af : Array Edge} {v : Value} (hr : ∀ w', Mod w w' (some b) → Runs P n σ w' ⟨d, op, ty, pos, af, none⟩ v) (hd : dok n d = true) (h : JS P ops n b w R K l2 l (put σ d v)) : JS P ops n b w R K l2 ((t, ⟨d, op, ty, pos, af, none⟩) :: l) σ := fun a ha =>
  ⟨v, .inl ⟨rfl, fun w' hm => hr w' hm a ha w' (Ext.refl w')⟩, h _ (ha.put hd v)⟩
theorem JS_end (h : ∀ w', Mod w w' (some b) → R w' → J P ops true n K l2 σ w') : JS P ops n b w R K l2 [] σ := fun a ha w' hm hR => h w' hm hR a ha
theorem S_regS (hm : P.follows .mixedOrders = true) (f : Nat) (ks : List Nat) (κ1 κ κ2 : List (Nat × Bool)) {id : Nat} {ops : Array Oper} {l1 l l2 : List (Bool × Oper)} {of : Oper} (hk : regSOK ops f ks κ1 κ κ2 = true) (hof : ops[f]? = some of) (hofg : of.guard = none) (hofs : isSt of = true) (hofd : of.dst = none)
    (hl1 : pickAll ops κ1 = some l1) (hl : pickAll ops κ = some l) (hl2 : pickAll ops κ2 = some l2) (σ1 σg : Env) (hks : σg.map (·.1) = ks) (hsg : Sub σg σ1) (Φ : World → Prop) (b : Nat) (R : World → Prop)
    (h1 : ∀ w', Ext w w' → J P ops true n (fun a w1 => Fits n σ1 a ∧ Φ w1) l1 σ w')
    (h : ∀ w', Φ w' → (∀ a, Gets σg a → of.wp P a w' (fun a' w'' => a' = a ∧ Mod w' w'' (some b) ∧ R w'') NoQ) ∧ JS P ops n b w' R (CK P Q cs) l2 l σ1) : S P n Q (.region id ops true :: cs) σ w := fun a ha => by
  simp only [regSOK, Bool.and_eq_true, beq_iff_eq] at hk
  obtain ⟨⟨⟨hs, hlen⟩, hfree⟩, hk⟩ := hk
  split at hk
  · rename_i L hL
    have key : ∀ a1 w1, Fits n σ1 a1 ∧ Φ w1 → wpAnyG P ops [] (Only (CK P Q cs)) (Ext w1) (κ.length + (1 + κ2.length)) L a1 w1 := fun a1 w1 ⟨hf, hp⟩ => by
      obtain ⟨hst, hj⟩ := h w1 hp
      refine fs_pend (G := Gets σg) hs hl2 hof hofg hofs hofd hst κ l L a1 hl hk (fun i t o hmem ho a v hg q u hq => ?_) (hf.sub hsg).get (hj a1 hf)
      have hne : o.dst ≠ some q := fun e => by
        have := List.all_eq_true.1 hfree (i, t) hmem
        rw [ho] at this
        simp only [Option.bind_some, e, Bool.not_eq_true'] at this
        rw [look_none (by rw [hks]; exact this)] at hq; cases hq
      rw [put_keeps q hne]; exact hg q u hq
    have h3 := wpAnyG_pre hs key κ1 l1 _ a _ hl1 hL (h1 _ (Ext.drew w) a ha)
    rw [hlen] at h3
    exact wp_mono (wp_region_any hm (wpAny_of_G _ _ _ _ h3)) (fun e a w h => by cases e <;> first | exact h | exact h.elim)
  · cases hk
theorem fs_store {σg : Env} {t sz b off : Nat} {z : List Value} {x y : Operand} {vs cs cs' : List Value} {ty : TypeId} {pos : String} {af : Array Edge} (hT : StT P t sz z) (hx : ev σg x = some (.pointer (some ⟨b, off, none⟩))) (hy : ev σg y = some (.agg vs.toArray)) (hs : vs.length = sz) (h1 : vs.all (·.oneCell') = true) (hb : Blk w b cs) (hl : off + vs.length ≤ cs.length) (hc : spl cs off vs = cs') :
    ∀ a, Gets σg a → (⟨none, .store t x y, ty, pos, af, none⟩ : Oper).wp P a w (fun a' w' => a' = a ∧ Mod w w' (some b) ∧ Blk w' b cs') NoQ := fun a ha => by
  subst hc
  obtain ⟨w', hr, hm, hb'⟩ := run_storeVar_st hT hb hs hl h1
  exact wp_skipped (w' := w') (by simp [execOp, ha.eval hx, ha.eval hy, Instr.storeAt, Instr.sureAddr, hr]) ⟨rfl, hm, hb'⟩
end
end Go.Proofs.YtpkimhbibjpcpaaDoor.X

namespace Go.Proofs.YtpkimhbibjpcpaaDoor.X
open Go
open Enc (enc)
/-! ### footprints: the blocks that a value of the call's own lies in -/
theorem Dj.apart {f g : List Nat} {a b c d : Nat} (h1 : ∀ x ∈ f, a ≤ x ∧ x < b) (h2 : ∀ x ∈ g, c ≤ x ∧ x < d) (h : b ≤ c ∨ d ≤ a) : Dj f g := fun x hx hy => by
  have := h1 x hx
  have := h2 x hy
  omega
/-- But for the blocks of 'l' nothing of what stood has turned. -/
def Kq (w w' : World) (l : List Nat) : Prop := w.heap.size ≤ w'.heap.size ∧ ∀ b, b < w.heap.size → b ∉ l → w'.heap[b]? = w.heap[b]?
section
variable {w0 w w' : World} {l m : List Nat} {x : Option Nat} {u : Value}
theorem Kq.refl (w : World) (l : List Nat) : Kq w w l := ⟨Nat.le_refl _, fun _ _ _ => rfl⟩
theorem Kq.trans (k : Kq w0 w l) (k' : Kq w w' l) : Kq w0 w' l := ⟨Nat.le_trans k.1 k'.1, fun b hb hn => (k'.2 b (Nat.lt_of_lt_of_le hb k.1) hn).trans (k.2 b hb hn)⟩
theorem Kq.sub (k : Kq w w' l) (h : ∀ b ∈ l, b ∈ m) : Kq w w' m := ⟨k.1, fun b hb hn => k.2 b hb fun hc => hn (h b hc)⟩
theorem Kq.kp (k : Kq w w' l) (h : Dj m l) : Kp w w' m := ⟨k.1, fun b hb hl => k.2 b hl (h b hb)⟩
theorem Mod.kq (m : Mod w w' x) (h : ∀ g, x = Option.some g → g ∈ l) : Kq w w' l := ⟨m.size, fun b hb hn => m.block b hb fun e => hn (h b e)⟩
theorem Ext.kq (e : Ext w w') (l : List Nat) : Kq w w' l := ⟨e.size, fun b hb _ => e.same hb⟩
theorem ModR.kq (m : ModR w w' (bl u) (bh u)) : Kq w w' (blks u) := ⟨m.size, fun b hb hn => m.block b hb (by
  cases hv : u.ownBlock with
  | none => simp [bl, bh, hv]
  | some g =>
    have : b ≠ g := fun e => hn (by simp [blks, hv, e])
    simp only [bl, bh, hv, Option.getD_some]; omega)⟩
end
section
variable {α : Type} [Own1 α] {w w' w0 : World} {lo hi lo' hi' : Nat} {v : Value} {xs as bs : List α} {x : Option Nat} {f fp : List Nat} {cs : List Value} {y : α}
/-- A slice of structs of the call's own, that lies in the blocks 'f'. -/
def OwF (w : World) (lo hi : Nat) (v : Value) (xs : List α) (f : List Nat) : Prop :=
  ∃ css, Own w lo hi (Dat.sz α) v css.flatten ∧ All2 (Own1.O w lo hi) css xs ∧ f = blks v ++ css.flatMap fpr ∧ f.Nodup
theorem OwF.ows (h : OwF w lo hi v xs f) : OwS w lo hi v xs := by
  obtain ⟨css, h1, h2, rfl, h4⟩ := h
  exact ⟨css, h1, h2, h4⟩
theorem OwS.owf (h : OwS w lo hi v xs) : ∃ f, OwF w lo hi v xs f := by
  obtain ⟨css, h1, h2, h4⟩ := h
  exact ⟨_, css, h1, h2, rfl, h4⟩
theorem OwF.inn (h : OwF w lo hi v xs f) : ∀ b ∈ f, lo ≤ b ∧ b < hi ∧ b < w.heap.size := fun b hb => by
  obtain ⟨css, h1, h2, rfl, h4⟩ := h
  rcases List.mem_append.1 hb with hb | hb
  · exact h1.innb b hb
  · exact all2_inn h2 b hb
theorem OwF.in2 (h : OwF w lo hi v xs f) : ∀ b ∈ f, lo ≤ b ∧ b < hi := fun b hb => ⟨(h.inn b hb).1, (h.inn b hb).2.1⟩
theorem Own.in2 {sz : Nat} (h : Own w lo hi sz v cs) : ∀ b ∈ blks v, lo ≤ b ∧ b < hi := fun b hb => ⟨(h.innb b hb).1, (h.innb b hb).2.1⟩
theorem OwF.kp (h : OwF w lo hi v xs f) (k : Kp w w' f) : OwF w' lo hi v xs f := by
  obtain ⟨css, h1, h2, rfl, h4⟩ := h
  exact ⟨css, h1.kp (k.sub fun _ hb => List.mem_append.2 (.inl hb)), all2_kp h2 (k.sub fun _ hb => List.mem_append.2 (.inr hb)), rfl, h4⟩
theorem OwF.same (h : OwF w lo hi v xs f) (s : Same w w' lo hi) : OwF w' lo hi v xs f := h.kp ⟨s.size, fun b hb hl => s.block b (h.inn b hb).1 (h.inn b hb).2.1 hl⟩
theorem OwF.ext (h : OwF w lo hi v xs f) (e : Ext w w') : OwF w' lo hi v xs f := h.same (e.keeps (by simp))
theorem OwF.mod (h : OwF w lo hi v xs f) (m : Mod w w' x) (hx : ∀ g, x = some g → g < lo ∨ hi ≤ g) : OwF w' lo hi v xs f := h.same (m.keeps hx)
theorem OwF.widen (h : OwF w lo hi v xs f) (h1 : lo' ≤ lo) (h2 : hi ≤ hi') : OwF w lo' hi' v xs f := by
  obtain ⟨css, a, b, c⟩ := h
  exact ⟨css, a.widen h1 h2, All2.imp (fun _ _ h => Own1.wide h h1 h2) b, c⟩
theorem OwF.rd (h : OwF w lo hi v xs f) : RdD w lo hi v xs := h.ows.rd
/-- .. and since 'w0' nothing else has turned. -/
def OwK (w0 : World) (fp : List Nat) (w : World) (lo hi : Nat) (v : Value) (xs : List α) : Prop := OwF w lo hi v xs fp ∧ Kq w0 w fp
theorem OwK.rd (h : OwK w0 fp w lo hi v xs) : RdD w lo hi v xs := h.1.rd
theorem OwK.lenE {n : Nat} (h : OwK w0 fp w lo hi v xs) (hl : xs.length = n) : SlLen v n := hl ▸ h.rd.len
theorem OwK.ext (h : OwK w0 fp w lo hi v xs) (e : Ext w w') : OwK w0 fp w' lo hi v xs := ⟨h.1.ext e, h.2.trans (Ext.kq e _)⟩
/-- The slice but for one row. -/
def RowK (w0 : World) (fp : List Nat) (w : World) (lo hi : Nat) (v : Value) (as : List α) (cs : List Value) (bs : List α) : Prop :=
  (∃ ca cb, Own w lo hi (Dat.sz α) v (ca ++ cs :: cb).flatten ∧ All2 (Own1.O w lo hi) ca as ∧ All2 (Own1.O w lo hi) cb bs ∧ cs.length = Dat.sz α ∧
    fp = blks v ++ (ca.flatMap fpr ++ (fpr cs ++ cb.flatMap fpr)) ∧ fp.Nodup) ∧ Kq w0 w fp
theorem RowK.row (h : RowK w0 fp w lo hi v as cs bs) : Row w lo hi v as cs bs := by
  obtain ⟨⟨ca, cb, h1, ha, hb, hl, rfl, hn⟩, _⟩ := h
  exact ⟨ca, cb, h1, ha, hb, hl, hn⟩
theorem OwK.focus (h : OwK w0 fp w lo hi v (as ++ y :: bs)) : ∃ cs, Own1.O w lo hi cs y ∧ RowK w0 fp w lo hi v as cs bs := by
  obtain ⟨⟨css, h1, h2, h3, h4⟩, hk⟩ := h
  obtain ⟨ca, l2, rfl, ha, hb⟩ := all2_append h2
  cases l2 with
  | nil => exact hb.elim
  | cons cs cb => exact ⟨cs, hb.1, ⟨ca, cb, h1, ha, hb.2, Dat.len (Own1.rd hb.1), by simpa only [List.flatMap_append, List.flatMap_cons] using h3, h4⟩, hk⟩
theorem RowK.close (h : RowK w0 fp w lo hi v as cs bs) (hy : Own1.O w lo hi cs y) : OwK w0 fp w lo hi v (as ++ y :: bs) := by
  obtain ⟨⟨ca, cb, h1, ha, hb, _, hf, hn⟩, hk⟩ := h
  exact ⟨⟨ca ++ cs :: cb, h1, all2_join ha ⟨hy, hb⟩, by simpa only [List.flatMap_append, List.flatMap_cons] using hf, hn⟩, hk⟩
theorem RowK.blk (h : RowK w0 fp w lo hi v as cs bs) : ∀ g, v.ownBlock = some g → lo ≤ g ∧ g < hi := h.row.blk
theorem RowK.sep {u : Value} (h : RowK w0 fp w lo hi v as cs bs) (hu : u ∈ cs) : Sep v u := h.row.sep hu
theorem RowK.at {i : Nat} (h : RowK w0 fp w lo hi v as cs bs) (hi' : as.length = i) : At w (sblk v) (soff v + i * Dat.sz α) cs := h.row.at hi'
theorem RowK.same1 {i n : Nat} (h : RowK w0 fp w lo hi v as cs bs) (hi' : as.length = i) (hn : i + 1 + bs.length = n) : RdL w (Dat.sz α) (fun _ (_ : Unit) => True) v (List.replicate n ()) := h.row.same1 hi' hn
theorem RowK.kp (h : RowK w0 fp w lo hi v as cs bs) (k : ∀ l, (∀ b ∈ l, b ∉ fpr cs) → (∀ b ∈ l, lo ≤ b ∧ b < hi) → Kp w w' l) (kq : Kq w w' fp) : RowK w0 fp w' lo hi v as cs bs := by
  obtain ⟨⟨ca, cb, h1, ha, hb, hl, rfl, hn⟩, hk⟩ := h
  have hn' := List.nodup_append.1 hn
  have hn2 := List.nodup_append.1 hn'.2.1
  have hn3 := List.nodup_append.1 hn2.2.1
  refine ⟨⟨ca, cb, h1.kp (k _ (fun b hb hc => hn'.2.2 b hb b (by simp [hc]) rfl) fun b hb => h1.blk b (mem_blks.1 hb)), all2_kp ha (k _ (fun b hb hc => hn2.2.2 b hb b (by simp [hc]) rfl) fun b hb => ?_),
    all2_kp hb (k _ (fun b hb hc => hn3.2.2 b hc b hb rfl) fun b hb' => ?_), hl, rfl, hn⟩, hk.trans kq⟩
  · have := all2_inn ha b hb; omega
  · have := all2_inn hb b hb'; omega
theorem RowK.ext (h : RowK w0 fp w lo hi v as cs bs) (e : Ext w w') : RowK w0 fp w' lo hi v as cs bs := h.kp (fun _ _ _ => e.kp) (Ext.kq e _)
theorem RowK.fpr_mem {u : Value} (h : RowK w0 fp w lo hi v as cs bs) (hu : u ∈ cs) : ∀ g, u.ownBlock = some g → g ∈ fp := fun g hg => by
  obtain ⟨⟨ca, cb, h1, ha, hb, hl, rfl, hn⟩, hk⟩ := h
  simp only [List.mem_append]
  exact .inr (.inr (.inl (List.mem_flatMap.2 ⟨u, hu, mem_blks.2 hg⟩)))
theorem RowK.fpr_all (h : RowK w0 fp w lo hi v as cs bs) : ∀ g ∈ fpr cs, g ∈ fp := fun g hg => by
  obtain ⟨⟨ca, cb, h1, ha, hb, hl, rfl, hn⟩, hk⟩ := h
  simp only [List.mem_append]
  exact .inr (.inr (.inl hg))
theorem RowK.v_mem (h : RowK w0 fp w lo hi v as cs bs) : ∀ g, v.ownBlock = some g → g ∈ fp := fun g hg => by
  obtain ⟨⟨ca, cb, h1, ha, hb, hl, rfl, hn⟩, hk⟩ := h
  simp only [List.mem_append]
  exact .inl (mem_blks.2 hg)
theorem RowK.modRS {u : Value} (h : RowK w0 fp w lo hi v as cs bs) (m : ModR w w' (bl u) (bh u)) (hu : u ∈ cs) : RowK w0 fp w' lo hi v as cs bs := h.kp (fun _ hl _ => m.kp fun b hb => by
  cases ho : u.ownBlock with
  | none => simp [bl, bh, ho]
  | some g =>
    have : b ≠ g := fun e => hl b hb (List.mem_flatMap.2 ⟨u, hu, mem_blks.2 (by rw [ho, e])⟩)
    simp only [bl, bh, ho, Option.getD_some]; omega) (m.kq.sub fun b hb => h.fpr_mem hu b (mem_blks.1 hb))
theorem RowK.store {P : Program} {i k t : Nat} {u z : Value} (hT : ScT P t z) (h : RowK w0 fp w lo hi v as cs bs) (hi' : as.length = i) (hf : k < Dat.sz α) (h1 : u.oneCell' = true) (hs : fpr (cs.set k u) = fpr cs) :
    ∃ w', (storeVar t ⟨sblk v, soff v + i * Dat.sz α + k, none⟩ u).run P w = .ok () w' ∧ Mod w w' v.ownBlock ∧ RowK w0 fp w' lo hi v as (cs.set k u) bs := by
  subst hi'
  have hvm := h.v_mem
  obtain ⟨⟨ca, cb, h0, ha, hb, hl, hfp, hn⟩, hkq⟩ := h
  have hla := All2.length ha
  have hlen : ca.flatten.length = ca.length * Dat.sz α := flat_row ha fun c y h => Dat.len (Own1.rd h)
  have hset : (ca ++ cs :: cb).flatten.set (ca.length * Dat.sz α + k) u = (ca ++ cs.set k u :: cb).flatten := by
    simp only [List.flatten_append, List.flatten_cons]
    rw [List.set_append_right _ _ (by omega), hlen, List.set_append_left _ _ (by omega)]
    congr 3; omega
  rcases h0 with ⟨rfl, hc⟩ | ⟨g, off, len, cap, cur, T, rfl, h3, h4, hw, h5, h6, h7, h8, h9⟩
  · have : (ca ++ cs :: cb).flatten.length = 0 := by rw [hc]; rfl
    simp only [List.flatten_append, List.flatten_cons, List.length_append] at this
    omega
  · have hlc : len * Dat.sz α ≤ cap * Dat.sz α := Nat.mul_le_mul_right _ h5
    have hlf : ca.length * Dat.sz α + k < (ca ++ cs :: cb).flatten.length := by
      simp only [List.flatten_append, List.flatten_cons, List.length_append]; omega
    have hbk : Blk w g cur.toList := ⟨T, by simpa using hw⟩
    obtain ⟨w', hr, hm, T', hb'⟩ := run_storeVar_sc (off := off + as.length * Dat.sz α + k) hT hbk (by simp; rw [← hla]; omega) h1
    have hnd := List.nodup_append.1 (hfp ▸ hn)
    have hg : ∀ b ∈ ca.flatMap fpr ++ (fpr cs ++ cb.flatMap fpr), b ≠ g := fun b hb e => hnd.2.2 g (by simp [blks, Value.ownBlock]) b hb e.symm
    refine ⟨w', hr, hm, ⟨ca, cb, .inr ⟨g, off, len, cap, _, T', rfl, h3, h4, hb', h5, h6, by simpa using h7, ?_, fun j q hj => ?_⟩, all2_kp ha (hm.kp fun b hb hc => ?_), all2_kp hb (hm.kp fun b hb hc => ?_), by simpa using hl, by rw [hs]; exact hfp, hn⟩, hkq.trans (hm.kq hvm)⟩
    · rw [← h8, ← hset]; simp
    · rw [← hset, List.getElem?_set] at hj
      simp only [List.getElem?_toArray, List.getElem?_set]
      split at hj
      · rename_i hq
        rw [if_pos (by rw [← hla]; omega), if_pos (by simp; rw [← hla]; omega)]; exact hj
      · rename_i hq
        rw [if_neg (by rw [← hla]; omega)]
        simpa using h9 j q hj
    · simp only [Option.some.injEq] at hb; subst hb; exact hg g (by simp [hc]) rfl
    · simp only [Option.some.injEq] at hb; subst hb; exact hg g (by simp only [List.mem_append]; exact .inr (.inr hc)) rfl
end
section
variable {P : Program} {ops : Array Oper} {D : Bool} {n : Nat} {K : Act → World → Prop} {l : List (Bool × Oper)} {σ : Env} {w w0 : World} {fp : List Nat} {ty : TypeId} {pos : String} {af : Array Edge}
theorem J_storeRowK {α : Type} [Own1 α] {lo hi i f t off : Nat} {p q : Operand} {v u z : Value} {as bs : List α} {cs cs' : List Value} (hT : ScT P t z) (hx : ev σ p = some (.pointer (some ⟨sblk v, off, none⟩))) (ho : off = soff v + i * Dat.sz α + f) (hy : ev σ q = some u) (h1 : u.oneCell' = true)
    (h : RowK w0 fp w lo hi v as cs bs) (hi' : as.length = i) (hf : f < Dat.sz α) (hc : cs.set f u = cs') (hs : fpr cs' = fpr cs)
    (hk : ∀ w', Mod w w' v.ownBlock → RowK w0 fp w' lo hi v as cs' bs → J P ops D n K l σ w') : J P ops D n K ((false, ⟨none, .store t p q, ty, pos, af, none⟩) :: l) σ w := J_unS rfl rfl fun a ha => by
  subst ho hc
  obtain ⟨w', hr, hm, hb'⟩ := h.store hT hi' hf h1 hs
  exact wp_skipped (w' := w') (by simp [execOp, ha.eval hx, ha.eval hy, Instr.storeAt, Instr.sureAddr, hr]) (hk w' hm hb' _ ha)
end
/-! ### rows laid behind, rows laid anew -/
section
variable {P : Program} {w w' w0 : World} {lo hi lo2 hi2 sz : Nat} {v : Value} {cs vs : List Value}
theorem Own.setCells {t i n : Nat} {z : List Value} (hT : StT P t sz z) (h : Own w lo hi sz v cs) (hn : cs.length = n * sz) (hp : 0 < sz) (hi' : i < n) (hl : vs.length = sz) (h1 : vs.all (·.oneCell') = true) :
    ∃ w', (storeVar t ⟨sblk v, soff v + i * sz, none⟩ (.agg vs.toArray)).run P w = .ok () w' ∧ Mod w w' v.ownBlock ∧ Own w' lo hi sz v (spl cs (i * sz) vs) := by
  obtain ⟨g, off, cap, cur, rfl, h1', h2, hb, h4, h5, h6, h7⟩ := h.conc hn hp (Nat.lt_of_le_of_lt (Nat.zero_le _) hi')
  have hle : i * sz + sz ≤ cap * sz := by
    have := Nat.mul_le_mul_right sz (show i + 1 ≤ cap by omega)
    rwa [Nat.add_mul, Nat.one_mul] at this
  obtain ⟨w', hr, hm, hb'⟩ := run_storeVar_st (vs := vs) (off := off + i * sz) hT hb hl (by rw [hl]; omega) h1
  have hln : i * sz + sz ≤ cs.length := by
    rw [hn]
    have := Nat.mul_le_mul_right sz (show i + 1 ≤ n by omega)
    rwa [Nat.add_mul, Nat.one_mul] at this
  refine ⟨w', hr, hm, Own.of hb' h1' h2 h4 h5 (by rw [spl_length]; exact h6) (by rw [spl_length]; exact hn) fun j u hj => ?_⟩
  rw [spl_get _ _ _ _ (by rw [hl]; exact hln)] at hj
  rw [spl_get _ _ _ _ (by rw [hl]; omega)]
  rw [hl] at *
  by_cases hq : i * sz ≤ j ∧ j < i * sz + sz
  · rw [if_pos hq] at hj
    rw [if_pos (by omega), show off + j - (off + i * sz) = j - i * sz from by omega]; exact hj
  · rw [if_neg hq] at hj
    rw [if_neg (by omega)]; exact h7 j u hj
variable {α : Type} [Own1 α] {as bs xs : List α} {y : α} {f fp : List Nat}
theorem OwF.nil (w : World) (lo hi : Nat) : OwF (α := α) w lo hi (.slice none 0 0) [] [] := ⟨[], Own.nil _ _ _ _, trivial, by simp [blks, Value.ownBlock], by simp⟩
theorem spl_row {ca : List (List Value)} {c c' : List Value} {cb : List (List Value)} {n : Nat} (ha : ca.flatten.length = n) (hc : c.length = c'.length) : spl (ca ++ c :: cb).flatten n c' = (ca ++ c' :: cb).flatten := by
  subst ha
  rw [spl_eq _ _ _ (by simp only [List.flatten_append, List.flatten_cons, List.length_append]; omega)]
  simp only [List.flatten_append, List.flatten_cons, List.append_assoc]
  rw [List.take_left, List.drop_append, List.drop_of_length_le (by omega), ← hc]
  rw [show ca.flatten.length + c.length - ca.flatten.length = c.length from by omega]
  simp
/-- The row that was open is laid anew. -/
theorem RowK.setX {Q : World → Prop} {cs' : List Value} (hst : ∀ ca cb : List (List Value), Own w lo hi (Dat.sz α) v (ca ++ cs :: cb).flatten → ca.flatten.length = as.length * Dat.sz α → (ca ++ cs :: cb).flatten.length = (as.length + 1 + bs.length) * Dat.sz α → cs.length = Dat.sz α → cs'.length = Dat.sz α → ∃ w', Q w' ∧ Mod w w' v.ownBlock ∧ Own w' lo hi (Dat.sz α) v (ca ++ cs' :: cb).flatten)
    (h : RowK w0 fp w lo hi v as cs bs) (ho : Own1.O w lo2 hi2 cs' y) (hdj : ∀ b ∈ fpr cs', b ∈ fp → b ∈ fpr cs) (hl : lo ≤ lo2) (hh : hi ≤ hi2) :
    ∃ w' f', Q w' ∧ Mod w w' v.ownBlock ∧ OwF w' lo hi2 v (as ++ y :: bs) f' ∧ Kq w0 w' fp ∧ ∀ b ∈ f', b ∈ fp ∨ b ∈ fpr cs' := by
  have hvm := h.v_mem
  obtain ⟨⟨ca, cb, h0, ha, hb, hlc, rfl, hn⟩, hkq⟩ := h
  have hla := All2.length ha
  have hlb := All2.length hb
  have hlen : ca.flatten.length = ca.length * Dat.sz α := flat_row ha fun c y h => Dat.len (Own1.rd h)
  have hlenb : cb.flatten.length = cb.length * Dat.sz α := flat_row hb fun c y h => Dat.len (Own1.rd h)
  have hlc' : cs'.length = Dat.sz α := Dat.len (Own1.rd ho)
  have htot : (ca ++ cs :: cb).flatten.length = (ca.length + 1 + cb.length) * Dat.sz α := by
    simp only [List.flatten_append, List.flatten_cons, List.length_append, hlen, hlenb, hlc, Nat.add_mul]; omega
  obtain ⟨w', hr, hm, ho'⟩ := hst ca cb h0 (by rw [hlen, hla]) (by rw [htot, hla, hlb]) hlc hlc'
  have hnd := List.nodup_append.1 hn
  have hn2 := List.nodup_append.1 hnd.2.1
  have hn3 := List.nodup_append.1 hn2.2.1
  have hg : ∀ g, v.ownBlock = some g → ∀ b ∈ ca.flatMap fpr ++ (fpr cs ++ cb.flatMap fpr), b ≠ g := fun g hg b hb e => hnd.2.2 g (mem_blks.2 hg) b hb e.symm
  have hv' : ∀ b ∈ blks v, b ∉ fpr cs' := fun b hb hc => by
    have := hdj b hc (List.mem_append.2 (.inl hb))
    exact hnd.2.2 b hb b (by simp [this]) rfl
  have hca : ∀ b ∈ ca.flatMap fpr, b ∉ fpr cs' := fun b hb hc => by
    have := hdj b hc (by simp only [List.mem_append]; exact .inr (.inl hb))
    exact hn2.2.2 b hb b (by simp [this]) rfl
  have hcb : ∀ b ∈ cb.flatMap fpr, b ∉ fpr cs' := fun b hb hc => by
    have := hdj b hc (by simp only [List.mem_append]; exact .inr (.inr (.inr hb)))
    exact hn3.2.2 b this b hb rfl
  refine ⟨w', blks v ++ (ca.flatMap fpr ++ (fpr cs' ++ cb.flatMap fpr)), hr, hm, ⟨ca ++ cs' :: cb, ho'.widen (Nat.le_refl _) hh, all2_join ?_ ⟨?_, ?_⟩, by simp only [List.flatMap_append, List.flatMap_cons], ?_⟩, hkq.trans (hm.kq hvm), fun b hb => ?_⟩
  · exact All2.imp (fun _ _ h => Own1.wide h (Nat.le_refl _) hh) (all2_kp ha (hm.kp fun g hg' hc => hg g hg' g (by simp only [List.mem_append]; exact .inl hc) rfl))
  · exact Own1.wide (Own1.kp ho (hm.kp fun g hg' hc => hv' g (mem_blks.2 hg') hc)) hl (Nat.le_refl _)
  · exact All2.imp (fun _ _ h => Own1.wide h (Nat.le_refl _) hh) (all2_kp hb (hm.kp fun g hg' hc => hg g hg' g (by simp only [List.mem_append]; exact .inr (.inr hc)) rfl))
  · refine List.nodup_append.2 ⟨hnd.1, List.nodup_append.2 ⟨hn2.1, List.nodup_append.2 ⟨Own1.nd ho, hn3.2.1, fun a ha' b hb' e => hcb b hb' (e ▸ ha')⟩, fun a ha' b hb' e => ?_⟩, fun a ha' b hb' e => ?_⟩
    · rcases List.mem_append.1 hb' with hb' | hb'
      · exact hca a ha' (e ▸ hb')
      · exact hn2.2.2 a ha' b (List.mem_append.2 (.inr hb')) e
    · rcases List.mem_append.1 hb' with hb' | hb'
      · exact hnd.2.2 a ha' b (List.mem_append.2 (.inl hb')) e
      rcases List.mem_append.1 hb' with hb' | hb'
      · exact hv' a ha' (e ▸ hb')
      · exact hnd.2.2 a ha' b (by simp only [List.mem_append]; exact .inr (.inr hb')) e
  · simp only [List.mem_append] at hb ⊢
    rcases hb with hb | hb | hb | hb
    · exact .inl (.inl hb)
    · exact .inl (.inr (.inl hb))
    · exact .inr hb
    · exact .inl (.inr (.inr (.inr hb)))
theorem RowK.set {t i : Nat} {z cs' : List Value} (hT : StT P t (Dat.sz α) z) (h : RowK w0 fp w lo hi v as cs bs) (hi' : as.length = i) (ho : Own1.O w lo2 hi2 cs' y) (hdj : ∀ b ∈ fpr cs', b ∈ fp → b ∈ fpr cs) (hl : lo ≤ lo2) (hh : hi ≤ hi2) :
    ∃ w' f', (storeVar t ⟨sblk v, soff v + i * Dat.sz α, none⟩ (.agg cs'.toArray)).run P w = .ok () w' ∧ Mod w w' v.ownBlock ∧ OwF w' lo hi2 v (as ++ y :: bs) f' ∧ Kq w0 w' fp ∧ ∀ b ∈ f', b ∈ fp ∨ b ∈ fpr cs' := by
  subst hi'
  refine RowK.setX (fun ca cb h0 h1 h2 h3 h4 => ?_) h ho hdj hl hh
  obtain ⟨w', hr, hm, ho'⟩ := h0.setCells (i := as.length) hT h2 Dat.pos (by omega) h4 (Dat.one (Own1.rd ho))
  rw [spl_row h1 (by rw [h3, h4])] at ho'
  exact ⟨w', hr, hm, ho'⟩
theorem Own.setCell {t q : Nat} {u zv : Value} (hT : ScT P t zv) (h : Own w lo hi sz v cs) (hq : q < cs.length) (h1 : u.oneCell' = true) :
    ∃ w', (storeVar t ⟨sblk v, soff v + q, none⟩ u).run P w = .ok () w' ∧ Mod w w' v.ownBlock ∧ Own w' lo hi sz v (cs.set q u) := by
  rcases h with ⟨rfl, rfl⟩ | ⟨g, off, len, cap, cur, T, rfl, h3, h4, hw, h5, h6, h7, h8, h9⟩
  · simp at hq
  · have hlc : len * sz ≤ cap * sz := Nat.mul_le_mul_right _ h5
    have hbk : Blk w g cur.toList := ⟨T, by simpa using hw⟩
    obtain ⟨w', hr, hm, T', hb'⟩ := run_storeVar_sc (off := off + q) hT hbk (by simp; omega) h1
    refine ⟨w', hr, hm, .inr ⟨g, off, len, cap, _, T', rfl, h3, h4, hb', h5, h6, by simpa using h7, by simpa using h8, fun j p hj => ?_⟩⟩
    rw [List.getElem?_set] at hj
    simp only [List.getElem?_toArray, List.getElem?_set]
    split at hj
    · rename_i hq
      rw [if_pos (by omega), if_pos (by simp; omega)]; simpa using hj
    · rename_i hq
      rw [if_neg (by omega)]
      simpa using h9 j p hj
theorem flat_setC {ca : List (List Value)} {c : List Value} {cb : List (List Value)} {n k : Nat} {u : Value} (ha : ca.flatten.length = n) (hk : k < c.length) : (ca ++ c :: cb).flatten.set (n + k) u = (ca ++ c.set k u :: cb).flatten := by
  subst ha
  simp only [List.flatten_append, List.flatten_cons]
  rw [List.set_append_right _ _ (by omega), show ca.flatten.length + k - ca.flatten.length = k from by omega, List.set_append_left _ _ (by omega)]
/-- .. or one of its cells. -/
theorem RowK.setF {t i k : Nat} {u zv : Value} {cs' : List Value} (hT : ScT P t zv) (h : RowK w0 fp w lo hi v as cs bs) (hi' : as.length = i) (hk : k < Dat.sz α) (h1 : u.oneCell' = true) (hc : cs.set k u = cs') (ho : Own1.O w lo2 hi2 cs' y) (hdj : ∀ b ∈ fpr cs', b ∈ fp → b ∈ fpr cs) (hl : lo ≤ lo2) (hh : hi ≤ hi2) :
    ∃ w' f', (storeVar t ⟨sblk v, soff v + i * Dat.sz α + k, none⟩ u).run P w = .ok () w' ∧ Mod w w' v.ownBlock ∧ OwF w' lo hi2 v (as ++ y :: bs) f' ∧ Kq w0 w' fp ∧ ∀ b ∈ f', b ∈ fp ∨ b ∈ fpr cs' := by
  subst hi' hc
  refine RowK.setX (fun ca cb h0 ha h2 h3 h4 => ?_) h ho hdj hl hh
  have hlt : as.length * Dat.sz α + k < (ca ++ cs :: cb).flatten.length := by
    simp only [List.flatten_append, List.flatten_cons, List.length_append, ha]; omega
  obtain ⟨w', hr, hm, ho'⟩ := h0.setCell hT hlt h1
  rw [flat_setC ha (by omega)] at ho'
  rw [← Nat.add_assoc] at hr
  exact ⟨w', hr, hm, ho'⟩
theorem OwF.set {t i : Nat} {z cs' : List Value} (hT : StT P t (Dat.sz α) z) (h : OwF w lo hi v xs f) (hi' : i < xs.length) (ho : Own1.O w lo2 hi2 cs' y) (hdj : Dj f (fpr cs')) (hl : lo ≤ lo2) (hh : hi ≤ hi2) :
    ∃ w' f', (storeVar t ⟨sblk v, soff v + i * Dat.sz α, none⟩ (.agg cs'.toArray)).run P w = .ok () w' ∧ Mod w w' v.ownBlock ∧ OwF w' lo hi2 v (xs.set i y) f' ∧ Kq w w' f ∧ ∀ b ∈ f', b ∈ f ∨ b ∈ fpr cs' := by
  have h' : OwK w f w lo hi v (xs.take i ++ xs[i] :: xs.drop (i + 1)) := ⟨by rw [← self_split hi']; exact h, Kq.refl _ _⟩
  obtain ⟨cs, _, hr⟩ := h'.focus
  rw [set_split hi']
  exact hr.set hT (by simp; omega) ho (fun b hb hc => absurd hb (hdj b hc)) hl hh
theorem OwS.lit {b : Nat} (h : Blk w b []) (h2 : b < hi) : OwS (α := α) w b hi (.slice (some ⟨b, 0, none⟩) 0 0) [] := ⟨[], Own.ofBlk h (Nat.le_refl _) h2 (by simp) (Nat.zero_le _), trivial, by simp [blks, Value.ownBlock]⟩
/-- A row is laid behind. -/
theorem OwF.snoc {v' : Value} {css : List (List Value)} (hm : Mod w w' v.ownBlock) (hb : Become w v v') (h : Own w lo hi (Dat.sz α) v css.flatten) (ha : All2 (Own1.O w lo hi) css xs) (hn : (blks v ++ css.flatMap fpr).Nodup) (h' : Own w' lo w'.heap.size (Dat.sz α) v' (css.flatten ++ cs)) (ho : Own1.O w lo2 hi2 cs y) (hdj : Dj (blks v ++ css.flatMap fpr) (fpr cs)) (hhi : hi ≤ w.heap.size) (hl : lo ≤ lo2) (hh : hi2 ≤ w.heap.size) :
    ∃ f', OwF w' lo w'.heap.size v' (xs ++ [y]) f' ∧ ∀ b ∈ f', b ∈ blks v ++ css.flatMap fpr ∨ b ∈ fpr cs ∨ w.heap.size ≤ b := by
  have hnd := List.nodup_append.1 hn
  have hsz := hm.size
  have hvb : ∀ b ∈ blks v', b ∈ blks v ∨ w.heap.size ≤ b := fun b h => (hb b (mem_blks.1 h)).imp mem_blks.2 id
  refine ⟨_, ⟨css ++ [cs], by simpa using h', All2.snoc ?_ ?_, rfl, ?_⟩, fun b hb => ?_⟩
  · exact All2.imp (fun _ _ h => Own1.wide h (Nat.le_refl _) (by omega)) (all2_kp ha (hm.kp fun g hg hc => hnd.2.2 g (mem_blks.2 hg) g hc rfl))
  · exact Own1.wide (Own1.kp ho (hm.kp fun g hg hc => hdj g (by simp [mem_blks.2 hg]) hc)) hl (by omega)
  · simp only [List.flatMap_append, List.flatMap_cons, List.flatMap_nil, List.append_nil]
    refine List.nodup_append.2 ⟨blks_nd _, List.nodup_append.2 ⟨hnd.2.1, Own1.nd ho, fun a ha' b hb' e => hdj a (by simp only [List.mem_append]; exact .inr ha') (e ▸ hb')⟩, fun a ha' b hb' e => ?_⟩
    subst e
    rcases hvb a ha' with h1 | h1
    · rcases List.mem_append.1 hb' with h2 | h2
      · exact hnd.2.2 a h1 a h2 rfl
      · exact hdj a (by simp [h1]) h2
    · rcases List.mem_append.1 hb' with h2 | h2
      · have := all2_inn ha a h2; omega
      · have := Own1.inn ho a h2; omega
  · simp only [List.flatMap_append, List.flatMap_cons, List.flatMap_nil, List.append_nil, List.mem_append] at hb ⊢
    rcases hb with hb | hb | hb
    · exact (hvb b hb).elim (fun h => .inl (.inl h)) (fun h => .inr (.inr h))
    · exact .inl (.inr hb)
    · exact .inr (.inl hb)
end
section
variable {P : Program} {ops : Array Oper} {D : Bool} {n : Nat} {K : Act → World → Prop} {l : List (Bool × Oper)} {σ : Env} {w w0 : World} {d : Option Tmp} {ty : TypeId} {pos : String} {af : Array Edge}
theorem J_appendF {α : Type} [Own1 α] {t e bytes lo hi lo2 hi2 : Nat} {z : List Value} {s x : Operand} {v u : Value} {xs : List α} {y : α} {cs : List Value} {f : List Nat} (hT : SlT P t e (Dat.sz α) bytes z) (hs : ev σ s = some v) (hx : ev σ x = some u) (hown : OwF w lo hi v xs f) (hu : Src w (Dat.sz α) u cs) (ho : Own1.O w lo2 hi2 cs y) (hdj : Dj f (fpr cs))
    (hbound : (xs.length + 1) * (Dat.sz α * bytes) ≤ 140737488355328) (hby0 : 0 < bytes) (hlo : lo ≤ w.heap.size) (hhi : hi ≤ w.heap.size) (hl : lo ≤ lo2) (hl2 : lo2 ≤ w.heap.size) (hh : hi2 ≤ w.heap.size) (hD : D = false) (hd : dok n d = true)
    (h : ∀ v' w' f', Mod w w' v.ownBlock → OwF w' lo w'.heap.size v' (xs ++ [y]) f' → (∀ b ∈ f', b ∈ f ∨ lo2 ≤ b) → J P ops D n K l (put σ d v') w') :
    J P ops D n K ((false, ⟨d, .call { callee := .builtin .append, args := #[s, x], argTypes := #[t, t] }, ty, pos, af, none⟩) :: l) σ w := by
  obtain ⟨css, h1, h2, rfl, h4⟩ := hown
  have hlc : cs.length = Dat.sz α := Dat.len (Own1.rd ho)
  have hlf : css.flatten.length = xs.length * Dat.sz α := by rw [flat_row h2 fun c y h => Dat.len (Own1.rd h), All2.length h2]
  refine J_appendB hT hs hx h1 hu (Dat.one (Own1.rd ho)) ?_ hby0 hlo hhi hD hd fun v' w' hm hw hb => ?_
  · rw [hlf, hlc]
    rw [show xs.length * Dat.sz α + Dat.sz α = (xs.length + 1) * Dat.sz α from by rw [Nat.add_mul]; omega, Nat.mul_assoc]; exact hbound
  · obtain ⟨f', hf, hin⟩ := OwF.snoc hm hb h1 h2 h4 hw ho hdj hhi hl hh
    exact h v' w' f' hm hf fun b hb => (hin b hb).imp id fun q => q.elim (fun q => (Own1.inn ho b q).1) (fun q => Nat.le_trans hl2 q)
theorem J_appendS {α : Type} [Own1 α] {t e bytes lo hi lo2 hi2 : Nat} {z : List Value} {s x : Operand} {v u : Value} {xs : List α} {y : α} {cs : List Value} (hT : SlT P t e (Dat.sz α) bytes z) (hs : ev σ s = some v) (hx : ev σ x = some u) (hown : OwS w lo hi v xs) (hu : Src w (Dat.sz α) u cs) (ho : Own1.O w lo2 hi2 cs y) (hdj : hi ≤ lo2)
    (hbound : (xs.length + 1) * (Dat.sz α * bytes) ≤ 140737488355328) (hby0 : 0 < bytes) (hlo : lo ≤ w.heap.size) (hhi : hi ≤ w.heap.size) (hl : lo ≤ lo2) (hl2 : lo2 ≤ w.heap.size) (hh : hi2 ≤ w.heap.size) (hD : D = false) (hd : dok n d = true)
    (h : ∀ v' w', Mod w w' v.ownBlock → OwS w' lo w'.heap.size v' (xs ++ [y]) → J P ops D n K l (put σ d v') w') :
    J P ops D n K ((false, ⟨d, .call { callee := .builtin .append, args := #[s, x], argTypes := #[t, t] }, ty, pos, af, none⟩) :: l) σ w := by
  obtain ⟨f, hf⟩ := hown.owf
  exact J_appendF hT hs hx hf hu ho (fun b hb hc => by have := hf.inn b hb; have := Own1.inn ho b hc; omega) hbound hby0 hlo hhi hl hl2 hh hD hd fun v' w' f' hm h' _ => h v' w' hm h'.ows
theorem J_storeEx {t b off : Nat} {p q : Operand} {u : Value} {x : Option Nat} {R : World → Prop} (hx : ev σ p = some (.pointer (some ⟨b, off, none⟩))) (hy : ev σ q = some u) (hr : ∃ w', (storeVar t ⟨b, off, none⟩ u).run P w = .ok () w' ∧ Mod w w' x ∧ R w')
    (hk : ∀ w', Mod w w' x → R w' → J P ops D n K l σ w') : J P ops D n K ((false, ⟨none, .store t p q, ty, pos, af, none⟩) :: l) σ w := J_unS rfl rfl fun a ha => by
  obtain ⟨w', hr, hm, hR⟩ := hr
  exact wp_skipped (w' := w') (by simp [execOp, ha.eval hx, ha.eval hy, Instr.storeAt, Instr.sureAddr, hr]) (hk w' hm hR _ ha)
end
theorem Dj.grow {f g g' c : List Nat} (h : Dj f g) (hg : ∀ b ∈ g', b ∈ g ∨ b ∈ c) (hc : Dj f c) : Dj f g' := fun b hb hb' => (hg b hb').elim (h b hb) (hc b hb)
def FsLt (N : Nat) : List (List Nat) → Prop
  | [] => True
  | f :: fs => (∀ b ∈ f, b < N) ∧ FsLt N fs
theorem DjA.set {N : Nat} {f g g' : List Nat} (hf : ∀ b ∈ f, b < N) (hin : ∀ b ∈ g', b ∈ g ∨ N ≤ b) : ∀ {fs : List (List Nat)} (i : Nat), fs[i]? = some g → DjA f fs → DjA f (fs.set i g')
  | [], _, hi, _ => by simp at hi
  | x :: fs, 0, hi, h => by
    simp only [List.getElem?_cons_zero, Option.some.injEq] at hi
    subst hi
    exact ⟨fun b hb hc => (hin b hc).elim (h.1 b hb) (fun h => by have := hf b hb; omega), h.2⟩
  | x :: fs, i + 1, hi, h => ⟨h.1, DjA.set hf hin i (by simpa using hi) h.2⟩
theorem DjA.grow {N : Nat} {g g' : List Nat} (hin : ∀ b ∈ g', b ∈ g ∨ N ≤ b) : ∀ {fs : List (List Nat)}, DjA g fs → FsLt N fs → DjA g' fs
  | [], _, _ => trivial
  | _ :: _, h, l => ⟨fun b hb hc => (hin b hb).elim (fun q => h.1 b q hc) (fun q => by have := l.1 b hc; omega), DjA.grow hin h.2 l.2⟩
theorem DjL.set {N : Nat} {g g' : List Nat} (hin : ∀ b ∈ g', b ∈ g ∨ N ≤ b) : ∀ {fs : List (List Nat)} (i : Nat), fs[i]? = some g → DjL fs → FsLt N fs → DjL (fs.set i g')
  | [], _, hi, _, _ => by simp at hi
  | x :: fs, 0, hi, h, l => by
    simp only [List.getElem?_cons_zero, Option.some.injEq] at hi
    subst hi
    exact ⟨DjA.grow hin h.1 l.2, h.2⟩
  | x :: fs, i + 1, hi, h, l => ⟨DjA.set l.1 hin i (by simpa using hi) h.1, DjL.set hin i (by simpa using hi) h.2 l.2⟩
section
variable {α : Type} [Own1 α] {w w' w0 : World} {lo hi lo2 hi2 N : Nat} {v u : Value} {xs as bs : List α} {f fp : List Nat} {cs cs' : List Value} {y : α} {x : Option Nat}
theorem OwF.v_mem (h : OwF w lo hi v xs f) : ∀ g, v.ownBlock = some g → g ∈ f := fun g hg => by
  obtain ⟨css, h1, h2, rfl, h4⟩ := h
  exact List.mem_append.2 (.inl (mem_blks.2 hg))
theorem RowK.modS (h : RowK w0 fp w lo hi v as cs bs) (m : Mod w w' u.ownBlock) (hu : u ∈ cs) : RowK w0 fp w' lo hi v as cs bs := h.kp (fun _ hl _ => m.kp fun g hg hc => hl g hc (List.mem_flatMap.2 ⟨u, hu, mem_blks.2 hg⟩)) (m.kq (h.fpr_mem hu))
theorem Blk.kp {b : Nat} (h : Blk w b cs) (k : Kp w w' [b]) : Blk w' b cs := by
  obtain ⟨T, hb⟩ := h
  exact ⟨T, (k.2 b (by simp) (Array.getElem?_eq_some_iff.1 hb).1).trans hb⟩
theorem RowK.setN {P : Program} {t i : Nat} {z : List Value} (hT : StT P t (Dat.sz α) z) (h : RowK w0 fp w lo hi v as cs bs) (hi' : as.length = i) (ho : Own1.O w lo2 hi2 cs' y) (hnew : FpA (fun b => b ∈ fpr cs ∨ N ≤ b) cs') (hlt : ∀ b ∈ fp, b < N) (hl : lo ≤ lo2) (hh : hi ≤ hi2) :
    ∃ w', (storeVar t ⟨sblk v, soff v + i * Dat.sz α, none⟩ (.agg cs'.toArray)).run P w = .ok () w' ∧ Mod w w' v.ownBlock ∧ ∃ f', OwF w' lo hi2 v (as ++ y :: bs) f' ∧ ∀ b ∈ f', b ∈ fp ∨ N ≤ b := by
  obtain ⟨w', f', a, b, c, _, e⟩ := h.set hT hi' ho (fun b hb hc => (hnew.all b hb).elim id (fun q => by have := hlt b hc; omega)) hl hh
  exact ⟨w', a, b, f', c, fun b hb => (e b hb).elim .inl fun q => (hnew.all b q).imp (fun q => h.fpr_all b q) id⟩
theorem RowK.setFN {P : Program} {t i k : Nat} {u zv : Value} (hT : ScT P t zv) (h : RowK w0 fp w lo hi v as cs bs) (hi' : as.length = i) (hk : k < Dat.sz α) (h1 : u.oneCell' = true) (hc : cs.set k u = cs') (ho : Own1.O w lo2 hi2 cs' y) (hnew : FpA (fun b => b ∈ fpr cs ∨ N ≤ b) cs') (hlt : ∀ b ∈ fp, b < N) (hl : lo ≤ lo2) (hh : hi ≤ hi2) :
    ∃ w', (storeVar t ⟨sblk v, soff v + i * Dat.sz α + k, none⟩ u).run P w = .ok () w' ∧ Mod w w' v.ownBlock ∧ ∃ f', OwF w' lo hi2 v (as ++ y :: bs) f' ∧ ∀ b ∈ f', b ∈ fp ∨ N ≤ b := by
  obtain ⟨w', f', a, b, c, _, e⟩ := h.setF hT hi' hk h1 hc ho (fun b hb hc => (hnew.all b hb).elim id (fun q => by have := hlt b hc; omega)) hl hh
  exact ⟨w', a, b, f', c, fun b hb => (e b hb).elim .inl fun q => (hnew.all b q).imp (fun q => h.fpr_all b q) id⟩
theorem new_no {p : Nat → Prop} : ∀ b ∈ blks (.slice none 0 0), p b := fun b hb => by simp [blks, Value.ownBlock] at hb
end
theorem ModR.grow {a b c : World} {lo lo' hi' : Nat} (h : ModR a b lo a.heap.size) (k : ModR b c lo' hi') (hl : lo ≤ lo') : ModR a c lo a.heap.size :=
  ⟨k.os.trans h.os, k.tape.trans h.tape, k.output.trans h.output, Nat.le_trans h.size k.size,
    fun i hi hx => (k.block i (Nat.lt_of_lt_of_le hi h.size) (by omega)).trans (h.block i hi hx), Nat.le_trans h.drawn k.drawn⟩
section
variable {α : Type} [Own1 α] {w w' : World} {lo hi : Nat} {v u : Value} {as bs : List α} {fp : List Nat} {cs : List Value} {x : Option Nat}
/-- The slice but for one row, with its blocks, as it stands. -/
def RowR (fp : List Nat) (w : World) (lo hi : Nat) (v : Value) (as : List α) (cs : List Value) (bs : List α) : Prop := RowK w fp w lo hi v as cs bs
theorem RowR.ext (h : RowR fp w lo hi v as cs bs) (e : Ext w w') : RowR fp w' lo hi v as cs bs := ⟨(RowK.ext h e).1, Kq.refl _ _⟩
theorem RowR.mod (h : RowR fp w lo hi v as cs bs) (m : Mod w w' x) (hx : ∀ g, x = some g → g < lo ∨ hi ≤ g) : RowR fp w' lo hi v as cs bs := by
  obtain ⟨⟨ca, cb, h1, ha, hb, hl, hf, hn⟩, _⟩ := h
  refine ⟨⟨ca, cb, h1.mod m hx, all2_kp ha (m.kp fun g hg hc => ?_), all2_kp hb (m.kp fun g hg hc => ?_), hl, hf, hn⟩, Kq.refl _ _⟩
  · have := all2_inn ha g hc; have := hx g hg; omega
  · have := all2_inn hb g hc; have := hx g hg; omega
theorem RowR.kp (h : RowR fp w lo hi v as cs bs) (k : Kp w w' fp) : RowR fp w' lo hi v as cs bs := by
  obtain ⟨⟨ca, cb, h1, ha, hb, hl, rfl, hn⟩, _⟩ := h
  refine ⟨⟨ca, cb, h1.kp (k.sub fun b hb => ?_), all2_kp ha (k.sub fun b hb => ?_), all2_kp hb (k.sub fun b hb => ?_), hl, rfl, hn⟩, Kq.refl _ _⟩
  · simp only [List.mem_append]; exact .inl hb
  · simp only [List.mem_append]; exact .inr (.inl hb)
  · simp only [List.mem_append]; exact .inr (.inr (.inr hb))
theorem RowR.modS (h : RowR fp w lo hi v as cs bs) (m : Mod w w' u.ownBlock) (hu : u ∈ cs) : RowR fp w' lo hi v as cs bs := ⟨(RowK.modS h m hu).1, Kq.refl _ _⟩
end
/-! ### paths that are brought together -/
def cutG {α : Type} (n : Nat) (σf : α → Env) (Φ : α → World → Prop) (Q : Exit → Act → World → Prop) : Exit → Act → World → Prop
  | .normal, a, w => ∃ y, Fits n (σf y) a ∧ Φ y w
  | e, a, w => Q e a w
section
variable {P : Program} {n : Nat} {Q : Exit → Act → World → Prop} {cs : List Code} {σ : Env} {w : World} {α : Type} {σf : α → Env} {Φ : α → World → Prop}
theorem S_cutG (σf : α → Env) (Φ : α → World → Prop) {x : Code} (h1 : S P n (cutG n σf Φ Q) [x] σ w) (h2 : ∀ y w', Φ y w' → S P n Q cs (σf y) w') : S P n Q (x :: cs) σ w := fun a ha =>
  wp_mono (h1 a ha) fun e a w he => by
    cases e with
    | normal =>
      obtain ⟨y, hf, hp⟩ := he
      exact h2 y w hp a hf
    | exit id => exact he
    | goto l => exact he
    | ret => exact he
    | panic ch => exact he
    | outgrown => exact he
theorem E_cutG (y : α) (hs : Sub (σf y) σ) (hΦ : Φ y w) : E n (cutG n σf Φ Q) .normal σ w := fun _ ha => ⟨y, ha.sub hs, hΦ⟩
theorem E_cut_ret (h : E n Q .ret σ w) : E n (cutG n σf Φ Q) .ret σ w := h
end
/-! ### a region in which two chains stand side by side: one yields, the other lays a block and may then turn what stood -/
def AV (P : Program) (n : Nat) (Θ : World → Prop) (KE : Env → Prop) : List (Bool × Oper) → Env → Prop
  | [], σ => KE σ
  | (_, o) :: l, σ => ∃ v, (∀ a, Fits n σ a → o.guard = none ∧ ∀ w, Θ w → (execOp a.eval o).run P w = .ok (.value v) w) ∧ dok n o.dst = true ∧ AV P n Θ KE l (put σ o.dst v)
/-- Wherever the two chains are, what comes up is one of their heads. -/
def gridOK (ops : Array Oper) (ks : List Nat) (d1 d2 : Nat) (κ3 : List (Nat × Bool)) : List (Nat × Bool) → List Nat → Array Bool → Bool
  | [], [], L => eager [] ops κ3 L
  | [], b :: B, L => (Region.ready .any ops L == [b]) && gridOK ops ks d1 d2 κ3 [] B (L.setIfInBounds b true)
  | (i, t) :: A, B, L => (ops[i]?).any (fun o => !isSt o && match o.dst with
      | some d => !(d == d1) && !(d == d2) && !ks.contains d
      | none => false) && (match B with
      | [] => (Region.ready .any ops L == [i]) && gridOK ops ks d1 d2 κ3 A [] (L.setIfInBounds i true)
      | b :: B' => ((Region.ready .any ops L == [i, b]) || (Region.ready .any ops L == [b, i])) && !(i == b) && gridOK ops ks d1 d2 κ3 A (b :: B') (L.setIfInBounds i true) && gridOK ops ks d1 d2 κ3 ((i, t) :: A) B' (L.setIfInBounds b true))
def gridF (ops : Array Oper) (ks : List Nat) (d1 d2 : Nat) (κ3 : List (Nat × Bool)) : Nat → List (Nat × Bool) → List Nat → Array Bool → Bool
  | 0, _, _, _ => false
  | _ + 1, [], [], L => eager [] ops κ3 L
  | f + 1, [], b :: B, L => (Region.ready .any ops L == [b]) && gridF ops ks d1 d2 κ3 f [] B (L.setIfInBounds b true)
  | f + 1, (i, t) :: A, B, L => (ops[i]?).any (fun o => !isSt o && match o.dst with
      | some d => !(d == d1) && !(d == d2) && !ks.contains d
      | none => false) && (match B with
      | [] => (Region.ready .any ops L == [i]) && gridF ops ks d1 d2 κ3 f A [] (L.setIfInBounds i true)
      | b :: B' => ((Region.ready .any ops L == [i, b]) || (Region.ready .any ops L == [b, i])) && !(i == b) && gridF ops ks d1 d2 κ3 f A (b :: B') (L.setIfInBounds i true) && gridF ops ks d1 d2 κ3 f ((i, t) :: A) B' (L.setIfInBounds b true))
theorem gridF_ok {ops : Array Oper} {ks : List Nat} {d1 d2 : Nat} {κ3 : List (Nat × Bool)} : ∀ (f : Nat) (A : List (Nat × Bool)) (B : List Nat) (L : Array Bool), gridF ops ks d1 d2 κ3 f A B L = true → gridOK ops ks d1 d2 κ3 A B L = true
  | 0, _, _, _, h => by simp [gridF] at h
  | _ + 1, [], [], L, h => by rw [gridF] at h; rw [gridOK]; exact h
  | f + 1, [], b :: B, L, h => by
    rw [gridF, Bool.and_eq_true] at h
    rw [gridOK, Bool.and_eq_true]
    exact ⟨h.1, gridF_ok f _ _ _ h.2⟩
  | f + 1, (i, t) :: A, [], L, h => by
    rw [gridF, Bool.and_eq_true, Bool.and_eq_true] at h
    rw [gridOK, Bool.and_eq_true, Bool.and_eq_true]
    exact ⟨h.1, h.2.1, gridF_ok f _ _ _ h.2.2⟩
  | f + 1, (i, t) :: A, b :: B', L, h => by
    rw [gridF, Bool.and_eq_true, Bool.and_eq_true, Bool.and_eq_true] at h
    rw [gridOK, Bool.and_eq_true, Bool.and_eq_true, Bool.and_eq_true]
    exact ⟨h.1, ⟨h.2.1.1, gridF_ok f _ _ _ h.2.1.2⟩, gridF_ok f _ _ _ h.2.2⟩
section
variable {P : Program} {ops : Array Oper} {n d1 d2 b1 b2 : Nat} {Θ : World → Prop} {K : Act → World → Prop} {σ0 : Env} {α β : Type} {v1 : α → Value} {v2 : α → β → Value} {Φ2 : α → World → Prop} {Φ3 : α → β → World → Prop} {o1 o2 : Oper} {κ3 : List (Nat × Bool)} {l3 : List (Bool × Oper)} {ks : List Nat} {S : World → Prop}
theorem av_op {Q : Exit → Act → World → Prop} {i : Nat} {o : Oper} {v : Value} {a : Act} {w : World} {K' : Act → World → Prop} (ho : ops[i]? = some o) (hg : o.guard = none) (hr : (execOp a.eval o).run P w = .ok (.value v) w) (h : K' (a.put o.dst v) w) : wpOp P ops Q i K' a w := by
  unfold wpOp
  simp only [ho]
  rw [if_pos (by simp [Region.wanted, hg])]
  exact .inl (wp_value hr h)
theorem bv_op {Q : Exit → Act → World → Prop} {i : Nat} {o : Oper} {a : Act} {w : World} {Kb K' : Act → World → Prop} (ho : ops[i]? = some o) (hg : o.guard = none) (hw : o.wp P a w Kb NoQ) (h : ∀ a' w', Kb a' w' → K' a' w') : wpOp P ops Q i K' a w := by
  unfold wpOp
  simp only [ho]
  rw [if_pos (by simp [Region.wanted, hg])]
  exact .inl (wp_mono2 h (fun _ _ _ h => h.elim) hw)
/-- What is known of the two, whatever has come up of them. -/
structure AInv (n : Nat) (σ0 : Env) (d1 d2 : Nat) (σ : Env) (a : Act) : Prop where
  fit : Fits n σ a
  fit0 : Fits n σ0 a
  no1 : look σ d1 = none
  no2 : look σ d2 = none
theorem look_put_ne {σ : Env} {d d' : Nat} {v : Value} (h : d' ≠ d) : look (put σ (some d) v) d' = look σ d' := by
  simp only [put, look]
  rw [show Nat.beq d' d = false from by cases hb : Nat.beq d' d with
    | true => exact absurd (Nat.eq_of_beq_eq_true hb) h
    | false => rfl]
  rfl
theorem AInv.put {σ : Env} {a : Act} {d : Nat} {v : Value} (h : AInv n σ0 d1 d2 σ a) (hd : dok n (some d) = true) (h1 : d ≠ d1) (h2 : d ≠ d2) (h0 : look σ0 d = none) : AInv n σ0 d1 d2 (put σ (some d) v) (a.put (some d) v) :=
  ⟨h.fit.put hd v, (Off.put d a v).fits h0 h.fit0, by rw [look_put_ne (Ne.symm h1)]; exact h.no1, by rw [look_put_ne (Ne.symm h2)]; exact h.no2⟩
theorem wp_off {o : Oper} {d : Nat} {a : Act} {w : World} {K' : Act → World → Prop} (hd : o.dst = some d) (hf : ∀ a' w', K' a' w' → a'.defers = [] ∧ a'.tmps.size = n) (ha : Fits n σ0 a) (h : o.wp P a w K' NoQ) : o.wp P a w (fun a' w' => K' a' w' ∧ Off d a a') NoQ :=
  wp_mono2 (fun a' w' ⟨hk, hs⟩ => ⟨hk, (hf a' w' hk).2.trans ha.size.symm, (hf a' w' hk).1.trans ha.dfr.symm, fun i hi => hs i (fun e => hi (by rw [hd] at e; exact (Option.some.inj e).symm))⟩) (fun _ _ _ h => h) (wp_shape h)
theorem AInv.off {σ : Env} {a a' : Act} {d : Nat} (h : AInv n σ0 d1 d2 σ a) (ho : Off d a a') (h1 : look σ d = none) (h0 : look σ0 d = none) : AInv n σ0 d1 d2 σ a' := ⟨ho.fits h1 h.fit, ho.fits h0 h.fit0, h.no1, h.no2⟩
variable (hs : Region.noSelect ops = true) (hl3 : pickAll ops κ3 = some l3) (hks : ks = σ0.map (·.1)) (hΘ3 : ∀ x y w, Φ3 x y w → Θ w)
theorem key_none (hks : ks = σ0.map (·.1)) {d : Nat} (h : ks.contains d = false) : look σ0 d = none := look_none (by rw [← hks]; exact h)
include hs hl3 hks hΘ3 in
theorem grid2 : ∀ (κ : List (Nat × Bool)) (l : List (Bool × Oper)) (L : Array Bool) (σ : Env) (a : Act) (w : World) (x : α) (y : β), pickAll ops κ = some l → gridOK ops ks d1 d2 κ3 κ [] L = true → AInv n σ0 d1 d2 σ a → a.tmps[d1]? = some (v1 x) → a.tmps[d2]? = some (v2 x y) → Φ3 x y w →
    AV P n Θ (fun σ => ∀ x y w, Φ3 x y w → J P ops true n K l3 ((d2, v2 x y) :: (d1, v1 x) :: σ) w) l σ → wpAny P .any ops (Only K) (κ.length + κ3.length) L a w
  | [], l, L, σ, a, w, x, y, hp, he, hI, h1, h2, hw, hA => by
    simp only [pickAll, Option.some.injEq] at hp
    subst hp
    simp only [gridOK] at he
    have hf : Fits n ((d2, v2 x y) :: (d1, v1 x) :: σ) a := ⟨hI.fit.size, hI.fit.dfr, fun i u hu => by
      simp only [look] at hu
      cases hb : Nat.beq i d2 with
      | true =>
        rw [hb] at hu
        rw [Nat.eq_of_beq_eq_true hb]; simp only [cond_true, Option.some.injEq] at hu; rw [← hu]; exact h2
      | false =>
        rw [hb] at hu
        cases hb1 : Nat.beq i d1 with
        | true =>
          rw [hb1] at hu
          rw [Nat.eq_of_beq_eq_true hb1]; simp only [cond_true, cond_false, Option.some.injEq] at hu; rw [← hu]; exact h1
        | false =>
          rw [hb1] at hu
          exact hI.fit.get i u hu⟩
    have := wpAny_of_G _ _ _ _ (wpAnyG_of_wpE hs κ3 l3 L a w hl3 he (hA x y w hw a hf))
    simpa using this
  | (i, t) :: κ, l, L, σ, a, w, x, y, hp, he, hI, h1, h2, hw, hA => by
    simp only [pickAll] at hp
    split at hp
    · rename_i o l' ho hl'
      simp only [Option.some.injEq] at hp
      subst hp
      simp only [gridOK, ho, Option.any_some, Bool.and_eq_true, beq_iff_eq] at he
      obtain ⟨⟨hns, hdst⟩, hr, he⟩ := he
      obtain ⟨v, hrun, hdok, hA⟩ := hA
      obtain ⟨hg, hrun⟩ := hrun a hI.fit
      cases hd : o.dst with
      | none => rw [hd] at hdst; cases hdst
      | some d =>
        rw [hd] at hdst hdok hA
        simp only [Bool.and_eq_true, Bool.not_eq_true', beq_eq_false_iff_ne] at hdst
        have hI' := hI.put (v := v) hdok hdst.1.1 hdst.1.2 (key_none hks hdst.2)
        have ih := grid2 κ l' (L.setIfInBounds i true) _ _ w x y hl' he hI' (by rw [put_get hdst.1.1]; exact h1) (by rw [put_get hdst.1.2]; exact h2) hw hA
        rw [List.length_cons, show κ.length + 1 + κ3.length = (κ.length + κ3.length) + 1 from by omega]
        refine ⟨fun h0 => (by rw [h0] at hr; cases hr), fun j hj => ?_⟩
        rw [hr] at hj
        obtain rfl : j = i := by simpa using hj
        exact av_op ho hg (hrun w (hΘ3 x y w hw)) (by rw [hd]; exact ih)
    · cases hp
variable {w0 : World}
theorem fits_cons {a : Act} {d : Nat} {v : Value} {σ : Env} (h : Fits n σ a) (hd : a.tmps[d]? = some v) : Fits n ((d, v) :: σ) a := ⟨h.size, h.dfr, fun i u hu => by
  simp only [look] at hu
  cases hb : Nat.beq i d with
  | true =>
    rw [hb] at hu
    rw [Nat.eq_of_beq_eq_true hb]; simp only [cond_true, Option.some.injEq] at hu; rw [← hu]; exact hd
  | false =>
    rw [hb] at hu
    exact h.get i u hu⟩
include hs hl3 hks hΘ3 in
theorem grid1 (ho2 : ops[b2]? = some o2) (hg2 : o2.guard = none) (hd2 : o2.dst = some d2) (h02 : look σ0 d2 = none) (h12 : d1 ≠ d2) (hΘ2 : ∀ x w, Φ2 x w → Θ w)
    (hJ2 : ∀ x w, Φ2 x w → J P ops false n (fun a w' => ∃ y, Fits n [(d2, v2 x y)] a ∧ Φ3 x y w') [(false, o2)] ((d1, v1 x) :: σ0) w) :
    ∀ (κ : List (Nat × Bool)) (l : List (Bool × Oper)) (L : Array Bool) (σ : Env) (a : Act) (w : World) (x : α), pickAll ops κ = some l → gridOK ops ks d1 d2 κ3 κ [b2] L = true → AInv n σ0 d1 d2 σ a → a.tmps[d1]? = some (v1 x) → Φ2 x w → S w →
    AV P n Θ (fun σ => ∀ x y w, Φ3 x y w → J P ops true n K l3 ((d2, v2 x y) :: (d1, v1 x) :: σ) w) l σ → wpAnyG P ops [b2] (Only K) S (κ.length + (1 + κ3.length)) L a w := by
  have hst : stX [b2] ops b2 = true := by simp [stX]
  have step : ∀ (κ : List (Nat × Bool)) (l : List (Bool × Oper)) (L : Array Bool) (σ : Env) (a : Act) (w : World) (x : α), pickAll ops κ = some l → gridOK ops ks d1 d2 κ3 κ [] (L.setIfInBounds b2 true) = true → AInv n σ0 d1 d2 σ a → a.tmps[d1]? = some (v1 x) → Φ2 x w →
      AV P n Θ (fun σ => ∀ x y w, Φ3 x y w → J P ops true n K l3 ((d2, v2 x y) :: (d1, v1 x) :: σ) w) l σ →
      wpOp P ops (Only K) b2 (fun a' w' => ((stX [b2] ops b2 = false → S w' ∧ wpAnyG P ops [b2] (Only K) S (κ.length + κ3.length) (L.setIfInBounds b2 true) a' w') ∧ (stX [b2] ops b2 = true → wpAny P .any ops (Only K) (κ.length + κ3.length) (L.setIfInBounds b2 true) a' w'))) a w := fun κ l L σ a w x hp he hI h1 hw hA => by
    have hj := hJ2 x w hw a (fits_cons hI.fit0 h1)
    unfold wpE at hj
    rw [if_pos (by simp [Region.wanted, hg2])] at hj
    have hj' := wp_off (n := n) (σ0 := σ0) hd2 (K' := fun a' w' => ∃ y, Fits n [(d2, v2 x y)] a' ∧ Φ3 x y w') (fun a' w' ⟨y, hf, _⟩ => ⟨hf.dfr, hf.size⟩) hI.fit0 (wp_mono2 (fun _ _ h => h.2) (fun _ _ _ h => h) hj)
    refine bv_op ho2 hg2 hj' fun a' w' ⟨⟨y, hf, h3⟩, hoff⟩ => ⟨fun hc => (by rw [hst] at hc; cases hc), fun _ => ?_⟩
    exact grid2 hs hl3 hks hΘ3 κ l _ σ a' w' x y hp he (hI.off hoff hI.no2 h02) (by rw [hoff.2.2 d1 h12]; exact h1) (hf.get d2 _ (by simp [look])) h3 hA
  intro κ
  induction κ with
  | nil =>
    intro l L σ a w x hp he hI h1 hw hS hA
    have he' := he
    simp only [gridOK, Bool.and_eq_true, beq_iff_eq] at he
    rw [List.length_nil, Nat.zero_add, Nat.add_comm]
    refine ⟨fun h0 => (by rw [h0] at he; cases he.1), fun j hj => ?_⟩
    rw [he.1] at hj
    obtain rfl : j = b2 := by simpa using hj
    have := step [] l L σ a w x hp (by simp only [gridOK]; exact he.2) hI h1 hw hA
    simpa using this
  | cons p κ ih =>
    obtain ⟨i, t⟩ := p
    intro l L σ a w x hp he hI h1 hw hS hA
    have hp0 := hp
    have hA0 := hA
    simp only [pickAll] at hp
    split at hp
    · rename_i o l' ho hl'
      simp only [Option.some.injEq] at hp
      subst hp
      simp only [gridOK, ho, Option.any_some, Bool.and_eq_true, beq_iff_eq, Bool.or_eq_true, Bool.not_eq_true', beq_eq_false_iff_ne] at he
      obtain ⟨⟨hns, hdst⟩, ⟨⟨hr, hib⟩, he1⟩, he2⟩ := he
      obtain ⟨v, hrun, hdok, hA⟩ := hA
      obtain ⟨hg, hrun⟩ := hrun a hI.fit
      cases hd : o.dst with
      | none => rw [hd] at hdst; cases hdst
      | some d =>
        rw [hd] at hdst hdok hA
        simp only [Bool.and_eq_true, Bool.not_eq_true', beq_eq_false_iff_ne] at hdst
        rw [List.length_cons, show κ.length + 1 + (1 + κ3.length) = (κ.length + (1 + κ3.length)) + 1 from by omega]
        refine ⟨fun h0 => (by rcases hr with hr | hr <;> (rw [h0] at hr; cases hr)), fun j hj => ?_⟩
        have hj' : j = i ∨ j = b2 := by
          rcases hr with hr | hr
          · rw [hr] at hj; simpa using hj
          · rw [hr] at hj; simp at hj; exact hj.symm
        rcases hj' with rfl | rfl
        · have hI' := hI.put (v := v) hdok hdst.1.1 hdst.1.2 (key_none hks hdst.2)
          have ih' := ih l' (L.setIfInBounds j true) _ _ w x hl' he1 hI' (by rw [put_get hdst.1.1]; exact h1) hw hS hA
          have hsx : stX [b2] ops j = false := stX_no ho (by simpa using hns) (by simp [hib])
          exact av_op ho hg (hrun w (hΘ2 x w hw)) (by rw [hd]; exact ⟨fun _ => ⟨hS, ih'⟩, fun hc => (by rw [hsx] at hc; cases hc)⟩)
        · have := step ((i, t) :: κ) _ L σ a w x hp0 (by simp only [gridOK, ho, Option.any_some, Bool.and_eq_true, beq_iff_eq, Bool.or_eq_true, Bool.not_eq_true', beq_eq_false_iff_ne]; exact he2) hI h1 hw hA0
          rw [List.length_cons, show κ.length + 1 + κ3.length = κ.length + (1 + κ3.length) from by omega] at this
          exact this
    · cases hp
include hs hl3 hks hΘ3 in
theorem grid0 {Φ1 : World → Prop} (ho1 : ops[b1]? = some o1) (hg1 : o1.guard = none) (hd1 : o1.dst = some d1) (h01 : look σ0 d1 = none) (hs1 : isSt o1 = false) (hb12 : b1 ≠ b2) (ho2 : ops[b2]? = some o2) (hg2 : o2.guard = none) (hd2 : o2.dst = some d2) (h02 : look σ0 d2 = none) (h12 : d1 ≠ d2) (hΘ1 : ∀ w, Φ1 w → Θ w) (hΘ2 : ∀ x w, Φ2 x w → Θ w)
    (hJ1 : ∀ w, Φ1 w → J P ops true n (fun a w' => ∃ x, Fits n [(d1, v1 x)] a ∧ Φ2 x w') [(false, o1)] σ0 w)
    (hJ2 : ∀ x w, Φ2 x w → J P ops false n (fun a w' => ∃ y, Fits n [(d2, v2 x y)] a ∧ Φ3 x y w') [(false, o2)] ((d1, v1 x) :: σ0) w) :
    ∀ (κ : List (Nat × Bool)) (l : List (Bool × Oper)) (L : Array Bool) (σ : Env) (a : Act) (w : World), pickAll ops κ = some l → gridOK ops ks d1 d2 κ3 κ [b1, b2] L = true → AInv n σ0 d1 d2 σ a → Φ1 w → Ext w0 w →
    AV P n Θ (fun σ => ∀ x y w, Φ3 x y w → J P ops true n K l3 ((d2, v2 x y) :: (d1, v1 x) :: σ) w) l σ → wpAnyG P ops [b2] (Only K) (Ext w0) (κ.length + (2 + κ3.length)) L a w := by
  have hst : stX [b2] ops b1 = false := stX_no ho1 hs1 (by simp [hb12])
  have step : ∀ (κ : List (Nat × Bool)) (l : List (Bool × Oper)) (L : Array Bool) (σ : Env) (a : Act) (w : World), pickAll ops κ = some l → gridOK ops ks d1 d2 κ3 κ [b2] (L.setIfInBounds b1 true) = true → AInv n σ0 d1 d2 σ a → Φ1 w → Ext w0 w →
      AV P n Θ (fun σ => ∀ x y w, Φ3 x y w → J P ops true n K l3 ((d2, v2 x y) :: (d1, v1 x) :: σ) w) l σ →
      wpOp P ops (Only K) b1 (fun a' w' => ((stX [b2] ops b1 = false → Ext w0 w' ∧ wpAnyG P ops [b2] (Only K) (Ext w0) (κ.length + (1 + κ3.length)) (L.setIfInBounds b1 true) a' w') ∧ (stX [b2] ops b1 = true → wpAny P .any ops (Only K) (κ.length + (1 + κ3.length)) (L.setIfInBounds b1 true) a' w'))) a w := fun κ l L σ a w hp he hI hw hS hA => by
    have hj := hJ1 w hw a hI.fit0
    unfold wpE at hj
    rw [if_pos (by simp [Region.wanted, hg1])] at hj
    have hj' := wp_off (n := n) (σ0 := σ0) hd1 (K' := fun a' w' => Ext w w' ∧ ∃ x, Fits n [(d1, v1 x)] a' ∧ Φ2 x w') (fun a' w' ⟨_, x, hf, _⟩ => ⟨hf.dfr, hf.size⟩) hI.fit0 (wp_mono2 (fun _ _ h => ⟨h.1 rfl hs1, h.2⟩) (fun _ _ _ h => h) hj)
    refine bv_op ho1 hg1 hj' fun a' w' ⟨⟨hE, x, hf, h2⟩, hoff⟩ => ⟨fun _ => ⟨hS.trans hE, ?_⟩, fun hc => (by rw [hst] at hc; cases hc)⟩
    exact grid1 hs hl3 hks hΘ3 ho2 hg2 hd2 h02 h12 hΘ2 hJ2 κ l _ σ a' w' x hp he (hI.off hoff hI.no1 h01) (hf.get d1 _ (by simp [look])) h2 (hS.trans hE) hA
  intro κ
  induction κ with
  | nil =>
    intro l L σ a w hp he hI hw hS hA
    simp only [gridOK, Bool.and_eq_true, beq_iff_eq] at he
    rw [List.length_nil, Nat.zero_add, show 2 + κ3.length = (1 + κ3.length) + 1 from by omega]
    refine ⟨fun h0 => (by rw [h0] at he; cases he.1), fun j hj => ?_⟩
    rw [he.1] at hj
    obtain rfl : j = b1 := by simpa using hj
    have := step [] l L σ a w hp (by simp only [gridOK, Bool.and_eq_true, beq_iff_eq]; exact he.2) hI hw hS hA
    simpa using this
  | cons p κ ih =>
    obtain ⟨i, t⟩ := p
    intro l L σ a w hp he hI hw hS hA
    have hp0 := hp
    have hA0 := hA
    simp only [pickAll] at hp
    split at hp
    · rename_i o l' ho hl'
      simp only [Option.some.injEq] at hp
      subst hp
      simp only [gridOK, ho, Option.any_some, Bool.and_eq_true, beq_iff_eq, Bool.or_eq_true, Bool.not_eq_true', beq_eq_false_iff_ne] at he
      obtain ⟨⟨hns, hdst⟩, ⟨⟨hr, hib⟩, he1⟩, he2⟩ := he
      obtain ⟨v, hrun, hdok, hA⟩ := hA
      obtain ⟨hg, hrun⟩ := hrun a hI.fit
      cases hd : o.dst with
      | none => rw [hd] at hdst; cases hdst
      | some d =>
        rw [hd] at hdst hdok hA
        simp only [Bool.and_eq_true, Bool.not_eq_true', beq_eq_false_iff_ne] at hdst
        rw [List.length_cons, show κ.length + 1 + (2 + κ3.length) = (κ.length + (2 + κ3.length)) + 1 from by omega]
        refine ⟨fun h0 => (by rcases hr with hr | hr <;> (rw [h0] at hr; cases hr)), fun j hj => ?_⟩
        have hj' : j = i ∨ j = b1 := by
          rcases hr with hr | hr
          · rw [hr] at hj; simpa using hj
          · rw [hr] at hj; simp at hj; exact hj.symm
        rcases hj' with rfl | rfl
        · have hI' := hI.put (v := v) hdok hdst.1.1 hdst.1.2 (key_none hks hdst.2)
          have ih' := ih l' (L.setIfInBounds j true) _ _ w hl' he1 hI' hw hS hA
          have hsx : stX [b2] ops j = false := stX_no ho (by simpa using hns) (by
            simp only [List.contains_cons, List.contains_nil, Bool.or_false]
            exact beq_eq_false_iff_ne.2 fun e => by
              subst e
              rw [ho2, Option.some.injEq] at ho
              subst ho
              rw [hd2, Option.some.injEq] at hd
              exact hdst.1.2 hd.symm)
          exact av_op ho hg (hrun w (hΘ1 w hw)) (by rw [hd]; exact ⟨fun _ => ⟨hS, ih'⟩, fun hc => (by rw [hsx] at hc; cases hc)⟩)
        · have := step ((i, t) :: κ) _ L σ a w hp0 (by simp only [gridOK, ho, Option.any_some, Bool.and_eq_true, beq_iff_eq, Bool.or_eq_true, Bool.not_eq_true', beq_eq_false_iff_ne]; exact he2) hI hw hS hA0
          rw [List.length_cons, show κ.length + 1 + (1 + κ3.length) = κ.length + (2 + κ3.length) from by omega] at this
          exact this
    · cases hp
end
def regVOK (ops : Array Oper) (ks : List Nat) (b1 b2 d1 d2 : Nat) (κ1 κ κ3 : List (Nat × Bool)) : Bool :=
  Region.noSelect ops && (κ1.length + (κ.length + (2 + κ3.length)) == ops.size) && !(b1 == b2) && !(d1 == d2) && !ks.contains d1 && !ks.contains d2 &&
  (ops[b1]?).any (fun o => !isSt o && o.guard.isNone && (o.dst == some d1)) && (ops[b2]?).any (fun o => o.guard.isNone && (o.dst == some d2)) && match eagerPre [b2] ops κ1 (Array.replicate ops.size false) with
    | some L => gridF ops ks d1 d2 κ3 (κ.length + 3) κ [b1, b2] L
    | none => false
theorem S_regV {P : Program} {n : Nat} {Q : Exit → Act → World → Prop} {cs : List Code} {σ : Env} {w : World} {α β : Type} (hm : P.follows .mixedOrders = true) (ks : List Nat) (b1 b2 d1 d2 : Nat) (κ1 κ κ3 : List (Nat × Bool)) {id : Nat} {ops : Array Oper} {l1 l l3 : List (Bool × Oper)} {o1 o2 : Oper}
    (hk : regVOK ops ks b1 b2 d1 d2 κ1 κ κ3 = true) (ho1 : ops[b1]? = some o1) (ho2 : ops[b2]? = some o2) (hl1 : pickAll ops κ1 = some l1) (hl : pickAll ops κ = some l) (hl3 : pickAll ops κ3 = some l3)
    (σ1 : Env) (hks : ks = σ1.map (·.1)) (v1 : α → Value) (v2 : α → β → Value) (Φ1 Θ : World → Prop) (Φ2 : α → World → Prop) (Φ3 : α → β → World → Prop)
    (h1 : ∀ w', Ext w w' → J P ops true n (fun a w1 => Fits n σ1 a ∧ Φ1 w1) l1 σ w')
    (hΘ1 : ∀ w, Φ1 w → Θ w) (hΘ2 : ∀ x w, Φ2 x w → Θ w) (hΘ3 : ∀ x y w, Φ3 x y w → Θ w)
    (hJ1 : ∀ w, Φ1 w → J P ops true n (fun a w' => ∃ x, Fits n [(d1, v1 x)] a ∧ Φ2 x w') [(false, o1)] σ1 w)
    (hJ2 : ∀ x w, Φ2 x w → J P ops false n (fun a w' => ∃ y, Fits n [(d2, v2 x y)] a ∧ Φ3 x y w') [(false, o2)] ((d1, v1 x) :: σ1) w)
    (hA : AV P n Θ (fun σ => ∀ x y w, Φ3 x y w → J P ops true n (CK P Q cs) l3 ((d2, v2 x y) :: (d1, v1 x) :: σ) w) l σ1) : S P n Q (.region id ops true :: cs) σ w := fun a ha => by
  simp only [regVOK, Bool.and_eq_true, beq_iff_eq, Bool.not_eq_true', beq_eq_false_iff_ne, ho1, ho2, Option.any_some, Option.isNone_iff_eq_none] at hk
  obtain ⟨⟨⟨⟨⟨⟨⟨⟨hs, hlen⟩, hb⟩, hd⟩, k1⟩, k2⟩, ⟨⟨s1, g1⟩, e1⟩⟩, ⟨g2, e2⟩⟩, hk⟩ := hk
  split at hk
  · rename_i L hL
    have key : ∀ a1 w1, Fits n σ1 a1 ∧ Φ1 w1 → wpAnyG P ops [b2] (Only (CK P Q cs)) (Ext w1) (κ.length + (2 + κ3.length)) L a1 w1 := fun a1 w1 ⟨hf, hp⟩ =>
      grid0 hs hl3 hks hΘ3 ho1 g1 e1 (key_none hks k1) s1 hb ho2 g2 e2 (key_none hks k2) hd hΘ1 hΘ2 hJ1 hJ2 κ l L σ1 a1 w1 hl (gridF_ok _ _ _ _ hk) ⟨hf, hf, key_none hks k1, key_none hks k2⟩ hp (Ext.refl w1) hA
    have h3 := wpAnyG_pre hs key κ1 l1 _ a _ hl1 hL (h1 _ (Ext.drew w) a ha)
    rw [hlen] at h3
    exact wp_mono (wp_region_any hm (wpAny_of_G _ _ _ _ h3)) (fun e a w h => by cases e <;> first | exact h | exact h.elim)
  · cases hk
end Go.Proofs.YtpkimhbibjpcpaaDoor.X

namespace Go.Proofs.YtpkimhbibjpcpaaDoor.X
open Go
open Enc (enc)

/-! ### bytes, and the numbers drawn from them -/
structure Byt where
  v : Int
  deriving DecidableEq, Inhabited
instance : Enc Byt := ⟨fun x => [.int .u8 x.v], 1, fun _ => rfl, fun _ => rfl, by decide⟩
theorem Dec_byt {P : Program} {t : TypeId} (ht : P.underlying t = some (.int .u8)) : Dec P t (fun _ cs (x : Byt) => cs = enc x ∧ True) := fun _ _ _ _ _ h => by
  obtain ⟨n, rfl, _, _⟩ := DataW.trod_int ht h
  exact ⟨⟨n⟩, rfl, trivial⟩
def andB (k : IntKind) (p q : Int) : Int := k.wrap ((BitVec.ofInt k.bits p &&& BitVec.ofInt k.bits q).toNat : Int)
def xorB (k : IntKind) (p q : Int) : Int := k.wrap ((BitVec.ofInt k.bits p ^^^ BitVec.ofInt k.bits q).toNat : Int)
def shrB (k : IntKind) (p : Int) (q : Int) : Int := p.fdiv (2 ^ (min q.toNat k.bits))
theorem andB_255 (p : Int) : 0 ≤ andB .i64 p 255 ∧ andB .i64 p 255 ≤ 255 := by
  unfold andB
  rw [BitVec.toNat_and]
  have h : (BitVec.ofInt IntKind.i64.bits 255).toNat = 255 := by decide
  rw [h]
  have := @Nat.and_le_right (BitVec.ofInt IntKind.i64.bits p).toNat 255
  rw [wrap_in (by omega) (by omega)]
  omega
section
variable {P : Program} {n : Nat} {σ : Env} {w : World} {d : Option Tmp} {ty : TypeId} {pos : String} {af : Array Edge} {g : Option (Nat × Bool)} {x y : Operand} {t u : TypeId} {k k' : IntKind} {p q : Int}
theorem R_and (hx : ev σ x = some (.int k p)) (hy : ev σ y = some (.int k q)) : Runs P n σ w ⟨d, .binOp .and t x y u, ty, pos, af, g⟩ (.int k (andB k p q)) := fun a ha w' _ => by
  simp [execOp, ha.eval hx, ha.eval hy, eqGuard, binOp, Op.intBits, andB]
theorem R_xor (hx : ev σ x = some (.int k p)) (hy : ev σ y = some (.int k q)) : Runs P n σ w ⟨d, .binOp .xor t x y u, ty, pos, af, g⟩ (.int k (xorB k p q)) := fun a ha w' _ => by
  simp [execOp, ha.eval hx, ha.eval hy, eqGuard, binOp, Op.intBits, xorB]
theorem R_shr (hx : ev σ x = some (.int k p)) (hy : ev σ y = some (.int k' q)) (hq : 0 ≤ q) : Runs P n σ w ⟨d, .binOp .shr t x y u, ty, pos, af, g⟩ (.int k (shrB k p q)) := fun a ha w' _ => by
  have : ¬ q < 0 := by omega
  simp [execOp, ha.eval hx, ha.eval hy, eqGuard, binOp, Op.shift, shrB, this]
end

/-! ### the cursor -/
/-- Block 'b' is a cursor: the bytes 'bs' at 'v', a place among them, a number. -/
def CurO (w : World) (b : Nat) (v : Value) (bs : List Byt) : Prop := ∃ i : Nat, ∃ h : Int, Blk w b [v, .int .i64 ((i : Nat) : Int), .int .i64 h] ∧ i ≤ bs.length
section
variable {w w' : World} {b lo hi : Nat} {x : Option Nat} {v : Value} {bs : List Byt}
theorem CurO.lt (h : CurO w b v bs) : b < w.heap.size := by
  obtain ⟨i, n, hb, _⟩ := h
  exact hb.lt
theorem CurO.mod (h : CurO w b v bs) (m : Mod w w' x) (hx : ∀ g, x = some g → g ≠ b) : CurO w' b v bs := by
  obtain ⟨i, n, hb, hi⟩ := h
  exact ⟨i, n, hb.mod m hx, hi⟩
theorem CurO.ext (h : CurO w b v bs) (e : Ext w w') : CurO w' b v bs := h.mod e (fun _ h => by cases h)
theorem CurO.modR (h : CurO w b v bs) (m : ModR w w' lo hi) (hx : b < lo ∨ hi ≤ b) : CurO w' b v bs := by
  obtain ⟨i, n, hb, hi⟩ := h
  exact ⟨i, n, hb.modR m hx, hi⟩
end
/-- What stays so while a cursor 'b' is drawn from. -/
def Stab (w : World) (b : Nat) (R : World → Prop) : Prop := ∀ w', ModR w w' b (b + 1) → R w'
theorem Stab.here {w : World} {b : Nat} {R : World → Prop} (h : Stab w b R) : R w := h w (ModR.refl _ _ _)
theorem Stab.on {w w' : World} {b : Nat} {R : World → Prop} (h : Stab w b R) (m : ModR w w' b (b + 1)) : Stab w' b R := fun w2 m2 => h w2 (m.trans m2 (Nat.le_refl _) (Nat.le_refl _))
theorem pick_mem {α : Type} {xs : List α} [Inhabited α] {i : Nat} (h : i < xs.length) : List.getD xs i default ∈ xs := by
  rw [show List.getD xs i default = xs[i] from by simp [List.getD, h]]; exact List.getElem_mem h
theorem tmod_nat {a n : Int} (ha : 0 ≤ a) (hn : ¬ n ≤ 0) : ((Int.toNat (Int.tmod a n) : Nat) : Int) = Int.tmod a n ∧ Int.tmod a n < n :=
  ⟨Int.toNat_of_nonneg (Int.tmod_nonneg n ha), Int.tmod_lt_of_pos a (by omega)⟩
theorem not_f {b : Bool} (h : (!b) = false) : b = true := by simpa using h
theorem four_nn {x y z u : Int} (hx : 0 ≤ x) (hx' : x ≤ 255) (hy : 0 ≤ y) (hy' : y ≤ 255) (hz : 0 ≤ z) (hz' : z ≤ 255) (hu : 0 ≤ u) (hu' : u ≤ 255) :
    0 ≤ IntKind.i64.wrap (IntKind.i64.wrap (IntKind.i64.wrap (IntKind.i64.wrap (x * 16777216) + IntKind.i64.wrap (y * 65536)) + IntKind.i64.wrap (z * 256)) + u) := by
  rw [@wrap_in (x * 16777216) (by omega) (by omega), @wrap_in (y * 65536) (by omega) (by omega), @wrap_in (z * 256) (by omega) (by omega), @wrap_in (x * 16777216 + y * 65536) (by omega) (by omega), @wrap_in (x * 16777216 + y * 65536 + z * 256) (by omega) (by omega), wrap_in (by omega) (by omega)]
  omega

/-! ### a region that draws, whose operations may turn what the values do not hang on -/
/-- 'Θ' is all that the values hang on; it holds until the first store. Marks: it yields the same in whatever world; it yields. -/
def JC (P : Program) (ops : Array Oper) (n : Nat) (Θ : World → Prop) (KE : Env → World → Prop) : List (Bool × Bool × Oper) → Env → World → Prop
  | [], σ, w => KE σ w
  | (p, true, o) :: l, σ, w => ∃ v, (∀ a, Fits n σ a → o.guard = none ∧ ∀ w', p = true ∨ Θ w' → (execOp a.eval o).run P w' = .ok (.value v) w') ∧ dok n o.dst = true ∧ JC P ops n Θ KE l (put σ o.dst v) w
  | (_, false, o) :: l, σ, w => o.guard = none ∧ J P ops false n (fun a' w' => Θ w' ∧ ∃ σ', Fits n σ' a' ∧ JC P ops n Θ KE l σ' w') [(false, o)] σ w
def pickP (pp : List Nat) (ops : Array Oper) : List (Nat × Bool) → Option (List (Bool × Bool × Oper))
  | [] => some []
  | (i, b) :: κ => match ops[i]?, pickP pp ops κ with
    | some o, some l => some ((pp.contains i, b, o) :: l)
    | _, _ => none
def eagerQ (pp : List Nat) (ops : Array Oper) : List (Nat × Bool) → Array Bool → Option (Array Bool)
  | [], listed => some listed
  | (i, true) :: κ, listed => bif Region.free .any ops listed i && (Region.ready .any ops listed).contains i && (waited [] ops listed i || (pp.contains i && !((ops[i]?).any isSt))) then eagerQ pp ops κ (listed.setIfInBounds i true) else none
  | (i, false) :: κ, listed => bif Region.ready .any ops listed == [i] then eagerQ pp ops κ (listed.setIfInBounds i true) else none
def headX (X : List Nat) (ops : Array Oper) : List (Nat × Bool) → Bool
  | [] => true
  | (i, b) :: _ => stX X ops i && !b
theorem wpAnyG_headX {P : Program} {ops : Array Oper} {X : List Nat} {Q : Exit → Act → World → Prop} {S S' : World → Prop} {L : Array Bool} {a : Act} {w : World} : ∀ (κ : List (Nat × Bool)), headX X ops κ = true → eager X ops κ L = true → wpAnyG P ops X Q S κ.length L a w → wpAnyG P ops X Q S' κ.length L a w
  | [], _, _, h => h
  | (i, b) :: κ, hx, he, h => by
    simp only [headX, Bool.and_eq_true, Bool.not_eq_true'] at hx
    obtain ⟨hx, rfl⟩ := hx
    simp only [eager, Bool.and_eq_true, beq_iff_eq] at he
    refine ⟨h.1, fun j hj => ?_⟩
    have hq := h.2 j hj
    rw [he.1] at hj
    obtain rfl : j = i := by simpa using hj
    exact wpOp_mono (fun a' w' h' => ⟨fun hc => (by rw [hx] at hc; cases hc), h'.2⟩) hq
theorem wpAnyG_of_JC {P : Program} {ops : Array Oper} {n : Nat} {Θ : World → Prop} {K : Act → World → Prop} {KE : Env → World → Prop} {m : Nat} (pp : List Nat) (hs : Region.noSelect ops = true) {L1 : Array Bool}
    (hend : ∀ σ a w, Θ w → Fits n σ a → KE σ w → wpAnyG P ops [] (Only K) Θ m L1 a w) :
    ∀ (κ : List (Nat × Bool)) (l : List (Bool × Bool × Oper)) (L : Array Bool) (σ : Env) (a : Act) (w : World), pickP pp ops κ = some l → eagerQ pp ops κ L = some L1 → Θ w → Fits n σ a →
      JC P ops n Θ KE l σ w → wpAnyG P ops [] (Only K) Θ (κ.length + m) L a w
  | [], l, L, σ, a, w, hp, he, hθ, hf, h => by
    simp only [pickP, Option.some.injEq] at hp
    subst hp
    simp only [eagerQ, Option.some.injEq] at he
    subst he
    rw [List.length_nil, Nat.zero_add]
    exact hend σ a w hθ hf h
  | (i, true) :: κ, l, L, σ, a, w, hp, he, hθ, hf, h => by
    simp only [pickP] at hp
    split at hp
    · rename_i o l' ho hl'
      simp only [Option.some.injEq] at hp
      subst hp
      simp only [eagerQ] at he
      cases hc : (Region.free .any ops L i && (Region.ready .any ops L).contains i && (waited [] ops L i || (pp.contains i && !((ops[i]?).any isSt)))) with
      | false => rw [hc] at he; cases he
      | true =>
        rw [hc] at he
        simp only [cond_true] at he
        simp only [Bool.and_eq_true] at hc
        obtain ⟨⟨hfr, hr⟩, hw⟩ := hc
        obtain ⟨v, hy, hd, h⟩ := h
        obtain ⟨hg, hy⟩ := hy a hf
        have hwt : Region.wanted o (yielded ops a.tmps) = true := by simp [Region.wanted, hg]
        have ih := wpAnyG_of_JC pp hs hend κ l' _ _ _ w hl' he hθ (hf.put hd v) h
        rw [List.length_cons, show κ.length + 1 + m = (κ.length + m) + 1 from by omega]
        simp only [Bool.or_eq_true, ho, Option.any_some, Bool.and_eq_true, Bool.not_eq_true'] at hw
        rcases hw with hw | hw
        · exact wpAnyG_first ho (Region.noSelect_spec hs) (fun c a w h => h.elim) _ L a w (Region.free_spec ho hfr) (waited_closed hw) (waited_spec hw) (by simpa using hr) (.inl ⟨hwt, fun w' h' => hy w' (.inr h')⟩) hθ ih
        · exact wpAnyG_firstP ho (Region.noSelect_spec hs) (fun c a w h => h.elim) (by simp only [stX, ho, Option.any_some, hw.2]; rfl) _ L a w (Region.free_spec ho hfr) (by simpa using hr) (.inl ⟨hwt, fun w' => hy w' (.inl hw.1)⟩) hθ ih
    · cases hp
  | (i, false) :: κ, l, L, σ, a, w, hp, he, hθ, hf, h => by
    simp only [pickP] at hp
    split at hp
    · rename_i o l' ho hl'
      simp only [Option.some.injEq] at hp
      subst hp
      simp only [eagerQ] at he
      cases hc : (Region.ready .any ops L == [i]) with
      | false => rw [hc] at he; cases he
      | true =>
        rw [hc] at he
        simp only [cond_true] at he
        have hr : Region.ready .any ops L = [i] := by simpa using hc
        obtain ⟨hg, h⟩ := h
        have h1 := h a hf
        unfold wpE at h1
        rw [if_pos (by simp [Region.wanted, hg])] at h1
        rw [List.length_cons, show κ.length + 1 + m = (κ.length + m) + 1 from by omega]
        refine ⟨fun h0 => (by rw [h0] at hr; cases hr), fun j hj => ?_⟩
        rw [hr] at hj
        obtain rfl : j = i := by simpa using hj
        refine bv_op ho hg h1 fun a' w' h' => ?_
        obtain ⟨_, hθ', σ', hf', hJ⟩ := h'
        have ih := wpAnyG_of_JC pp hs hend κ l' _ _ a' w' hl' he hθ' hf' hJ
        exact ⟨fun _ => ⟨hθ', ih⟩, fun _ => wpAny_of_G _ _ _ _ ih⟩
    · cases hp
def regWOK (pp : List Nat) (ops : Array Oper) (κ κ3 : List (Nat × Bool)) : Bool :=
  Region.noSelect ops && (κ.length + κ3.length == ops.size) && headX [] ops κ3 && match eagerQ pp ops κ (Array.replicate ops.size false) with
    | some L => eager [] ops κ3 L
    | none => false
/-- Two of which neither waits for the other: either may come first. -/
def regFkOK (pp : List Nat) (ops : Array Oper) (i j : Nat) (κ κa κb κ3a κ3b : List (Nat × Bool)) : Bool :=
  Region.noSelect ops && (κ.length + (1 + (κa.length + κ3a.length)) == ops.size) && (κ.length + (1 + (κb.length + κ3b.length)) == ops.size) && headX [] ops κ3a && headX [] ops κ3b && match eagerQ pp ops κ (Array.replicate ops.size false) with
    | some L => ((Region.ready .any ops L == [i, j]) || (Region.ready .any ops L == [j, i])) && (match eagerQ pp ops κa (L.setIfInBounds i true) with
      | some La => eager [] ops κ3a La
      | none => false) && (match eagerQ pp ops κb (L.setIfInBounds j true) with
      | some Lb => eager [] ops κ3b Lb
      | none => false)
    | none => false
section
variable {P : Program} {n : Nat} {Q : Exit → Act → World → Prop} {cs : List Code} {σ : Env} {w : World}
theorem S_regW (hm : P.follows .mixedOrders = true) (pp : List Nat) (κ κ3 : List (Nat × Bool)) {id : Nat} {ops : Array Oper} {l : List (Bool × Bool × Oper)} {l3 : List (Bool × Oper)} (hk : regWOK pp ops κ κ3 = true) (hl : pickP pp ops κ = some l) (hl3 : pickAll ops κ3 = some l3) (Θ : World → Prop)
    (h : ∀ w', Ext w w' → Θ w' ∧ JC P ops n Θ (fun σ w => J P ops true n (CK P Q cs) l3 σ w) l σ w') : S P n Q (.region id ops true :: cs) σ w := fun a ha => by
  simp only [regWOK, Bool.and_eq_true, beq_iff_eq] at hk
  obtain ⟨⟨⟨hs, hlen⟩, hx⟩, hk⟩ := hk
  split at hk
  · rename_i L hL
    obtain ⟨hθ, hj⟩ := h _ (Ext.drew w)
    have h3 := wpAnyG_of_JC (K := CK P Q cs) pp hs (fun σ a w hθ hf hK => wpAnyG_headX κ3 hx hk (wpAnyG_of_wpE hs κ3 l3 L a w hl3 hk (hK a hf))) κ l _ σ a _ hl hL hθ ha hj
    rw [hlen] at h3
    exact wp_mono (wp_region_any hm (wpAny_of_G _ _ _ _ h3)) (fun e a w h => by cases e <;> first | exact h | exact h.elim)
  · cases hk
theorem S_regWF (hm : P.follows .mixedOrders = true) (pp : List Nat) (i j : Nat) (κ κa κb κ3a κ3b : List (Nat × Bool)) {id : Nat} {ops : Array Oper} {oi oj : Oper} {l la lb : List (Bool × Bool × Oper)} {l3a l3b : List (Bool × Oper)} (hk : regFkOK pp ops i j κ κa κb κ3a κ3b = true) (hoi : ops[i]? = some oi) (hoj : ops[j]? = some oj)
    (hl : pickP pp ops κ = some l) (hla : pickP pp ops κa = some la) (hlb : pickP pp ops κb = some lb) (hl3a : pickAll ops κ3a = some l3a) (hl3b : pickAll ops κ3b = some l3b) (Θ : World → Prop)
    (h : ∀ w', Ext w w' → Θ w' ∧ JC P ops n Θ (fun σ w => JC P ops n Θ (fun σ w => J P ops true n (CK P Q cs) l3a σ w) ((false, false, oi) :: la) σ w ∧ JC P ops n Θ (fun σ w => J P ops true n (CK P Q cs) l3b σ w) ((false, false, oj) :: lb) σ w) l σ w') : S P n Q (.region id ops true :: cs) σ w := fun a ha => by
  simp only [regFkOK, Bool.and_eq_true, beq_iff_eq] at hk
  obtain ⟨⟨⟨⟨⟨hs, hlen⟩, hlen'⟩, hxa⟩, hxb⟩, hk⟩ := hk
  split at hk
  · rename_i L hL
    simp only [Bool.and_eq_true, Bool.or_eq_true, beq_iff_eq] at hk
    obtain ⟨⟨hr, hka⟩, hkb⟩ := hk
    split at hka
    · rename_i La hLa
      split at hkb
      · rename_i Lb hLb
        obtain ⟨hθ, hj⟩ := h _ (Ext.drew w)
        have key : ∀ σ a w, Θ w → Fits n σ a → (JC P ops n Θ (fun σ w => J P ops true n (CK P Q cs) l3a σ w) ((false, false, oi) :: la) σ w ∧ JC P ops n Θ (fun σ w => J P ops true n (CK P Q cs) l3b σ w) ((false, false, oj) :: lb) σ w) →
            wpAnyG P ops [] (Only (CK P Q cs)) Θ (1 + (κa.length + κ3a.length)) L a w := fun σ a w hθ hf hK => by
          rw [Nat.add_comm]
          refine ⟨fun h0 => (by rcases hr with hr | hr <;> (rw [h0] at hr; cases hr)), fun q hq => ?_⟩
          have hq' : q = i ∨ q = j := by
            rcases hr with hr | hr
            · rw [hr] at hq; simpa using hq
            · rw [hr] at hq; simp at hq; exact hq.symm
          rcases hq' with rfl | rfl
          · obtain ⟨hg, h1⟩ := hK.1
            have h1 := h1 a hf
            unfold wpE at h1
            rw [if_pos (by simp [Region.wanted, hg])] at h1
            refine bv_op hoi hg h1 fun a' w' h' => ?_
            obtain ⟨_, hθ', σ', hf', hJ⟩ := h'
            have ih := wpAnyG_of_JC (K := CK P Q cs) pp hs (fun σ a w hθ hf hK => wpAnyG_headX κ3a hxa hka (wpAnyG_of_wpE hs κ3a l3a La a w hl3a hka (hK a hf))) κa la _ σ' a' w' hla hLa hθ' hf' hJ
            exact ⟨fun _ => ⟨hθ', ih⟩, fun _ => wpAny_of_G _ _ _ _ ih⟩
          · obtain ⟨hg, h1⟩ := hK.2
            have h1 := h1 a hf
            unfold wpE at h1
            rw [if_pos (by simp [Region.wanted, hg])] at h1
            refine bv_op hoj hg h1 fun a' w' h' => ?_
            obtain ⟨_, hθ', σ', hf', hJ⟩ := h'
            have ih := wpAnyG_of_JC (K := CK P Q cs) pp hs (fun σ a w hθ hf hK => wpAnyG_headX κ3b hxb hkb (wpAnyG_of_wpE hs κ3b l3b Lb a w hl3b hkb (hK a hf))) κb lb _ σ' a' w' hlb hLb hθ' hf' hJ
            rw [show κb.length + κ3b.length = κa.length + κ3a.length from by omega] at ih
            exact ⟨fun _ => ⟨hθ', ih⟩, fun _ => wpAny_of_G _ _ _ _ ih⟩
        have h3 := wpAnyG_of_JC (K := CK P Q cs) pp hs key κ l _ σ a _ hl hL hθ ha hj
        rw [hlen] at h3
        exact wp_mono (wp_region_any hm (wpAny_of_G _ _ _ _ h3)) (fun e a w h => by cases e <;> first | exact h | exact h.elim)
      · cases hkb
    · cases hka
  · cases hk
variable {ops : Array Oper} {Θ : World → Prop} {KE : Env → World → Prop} {l : List (Bool × Bool × Oper)} {o : Oper} {p : Bool}
theorem JC_st {v : Value} (hg : o.guard = none) (h : ∀ w', Θ w' → Runs P n σ w' o v) (hd : dok n o.dst = true) (hr : JC P ops n Θ KE l (put σ o.dst v) w) : JC P ops n Θ KE ((false, true, o) :: l) σ w :=
  ⟨v, fun a ha => ⟨hg, fun w' hw => h w' (hw.elim (fun h => by cases h) id) a ha w' (Ext.refl w')⟩, hd, hr⟩
theorem JC_pu {v : Value} (hg : o.guard = none) (h : ∀ w', Runs P n σ w' o v) (hd : dok n o.dst = true) (hr : JC P ops n Θ KE l (put σ o.dst v) w) : JC P ops n Θ KE ((true, true, o) :: l) σ w :=
  ⟨v, fun a ha => ⟨hg, fun w' _ => h w' a ha w' (Ext.refl w')⟩, hd, hr⟩
theorem JC_un (hg : o.guard = none) (h : J P ops false n (fun a' w' => Θ w' ∧ ∃ σ', Fits n σ' a' ∧ JC P ops n Θ KE l σ' w') [(false, o)] σ w) : JC P ops n Θ KE ((p, false, o) :: l) σ w := ⟨hg, h⟩
theorem JC_next (hθ : Θ w) (h : JC P ops n Θ KE l σ w) : J P ops false n (fun a' w' => Θ w' ∧ ∃ σ', Fits n σ' a' ∧ JC P ops n Θ KE l σ' w') [] σ w := fun a ha => ⟨hθ, σ, ha, h⟩
theorem JC_end (h : KE σ w) : JC P ops n Θ KE [] σ w := h
end
section
variable {P : Program} {n : Nat} {σ : Env} {w : World} {ops : Array Oper} {D : Bool} {K : Act → World → Prop} {l : List (Bool × Oper)}
/-- The paths through a group are brought together behind it, whatever one value came to. -/
theorem J_cutB (m : Nat) (σf : Bool → Env) (Φ : Bool → World → Prop) (h1 : J P ops D n (fun a w' => ∃ b, Fits n (σf b) a ∧ Φ b w') (l.take m) σ w) (h2 : ∀ b w', Φ b w' → J P ops D n K (l.drop m) (σf b) w') : J P ops D n K l σ w := fun a ha => by
  rw [← List.take_append_drop m l]
  exact wpE_append _ _ _ _ (wpE_mono (fun a w' ⟨b, hf, hp⟩ => h2 b w' hp a hf) _ _ _ (h1 a ha))
theorem J_cutBEnd (b : Bool) {σf : Bool → Env} {Φ : Bool → World → Prop} (hs : Sub (σf b) σ) (hp : Φ b w) : J P ops D n (fun a w' => ∃ b, Fits n (σf b) a ∧ Φ b w') [] σ w := fun _ ha => ⟨b, ha.sub hs, hp⟩
end
/-! ### a literal of structs that hold slices -/
section
variable {α : Type} [Own1 α] {w w' : World} {lo hi lo' hi' : Nat} {v u : Value} {xs as bs : List α} {f fp : List Nat} {cs : List Value}
theorem OwF.lit {b n : Nat} {css : List (List Value)} (hb : Blk w b css.flatten) (h : All2 (Own1.O w lo hi) css xs) (h1 : lo ≤ b) (h2 : b < hi) (hn : (b :: css.flatMap fpr).Nodup) (hx : xs.length = n) (hm : n ≤ maxLen) : OwF w lo hi (.slice (some ⟨b, 0, none⟩) n n) xs (b :: css.flatMap fpr) := by
  subst hx
  refine ⟨css, Own.ofBlk hb h1 h2 ?_ hm, h, by simp [blks, Value.ownBlock], hn⟩
  rw [flat_row h fun c y h => Dat.len (Own1.rd h), All2.length h]
theorem RowR.modR (h : RowR fp w lo hi v as cs bs) (m : ModR w w' lo' hi') (hx : ∀ b ∈ fp, b < lo' ∨ hi' ≤ b) : RowR fp w' lo hi v as cs bs := RowR.kp h (m.kp hx)
theorem OwF.modR (h : OwF w lo hi v xs f) (m : ModR w w' lo' hi') (hx : hi ≤ lo' ∨ hi' ≤ lo) : OwF w' lo hi v xs f := h.same (m.keeps hx)
end
/-! ### a struct that is read, behind one fact -/
section
variable {α : Type} [Dat α] {w w' : World} {lo hi lo' hi' : Nat} {cs : List Value} {y : α} {x : Option Nat}
theorem Dat.R.ext (h : Dat.R w lo hi cs y) (e : Ext w w') : Dat.R w' lo hi cs y := Dat.same h (e.keeps (by simp))
theorem Dat.R.mod (h : Dat.R w lo hi cs y) (m : Mod w w' x) (hx : ∀ g, x = some g → g < lo ∨ hi ≤ g) : Dat.R w' lo hi cs y := Dat.same h (m.keeps hx)
theorem Dat.R.modR (h : Dat.R w lo hi cs y) (m : ModR w w' lo' hi') (hx : hi ≤ lo' ∨ hi' ≤ lo) : Dat.R w' lo hi cs y := Dat.same h (m.keeps hx)
theorem Dat.R.any (h : Dat.R w lo hi cs y) : Dat.R w 0 w.heap.size cs y := Dat.any h
end
end Go.Proofs.YtpkimhbibjpcpaaDoor.X

