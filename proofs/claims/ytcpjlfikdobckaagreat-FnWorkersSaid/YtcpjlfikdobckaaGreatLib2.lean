/- What is shown of the program logic that the proofs of this claim use: rules for the operations, the code and the calls of a function, over the kit's own weakest preconditions; no condition. -/
import Derived.Laws.Externs
import Derived.Lib.AppendZerosOnto
import Derived.Lib.Overlaps
import Derived.Test.YtcpjlfikdobckaaGreatLib
namespace Go.Proofs.YtcpjlfikdobckaaGreat.X
open Go
open Enc (enc)
structure PU where
 i : Nat
 d : Nat
 sz : Nat
 cs : List Value
 lit : Bool
 dep : Option (Nat × Nat)
 X : Option (World → World → Value → List Nat → Prop)
def Dj (f g : List Nat) : Prop:=∀ b ∈ f,b ∉ g
theorem Dj.symm {f g : List Nat} (h : Dj f g) : Dj g f:=fun b hb hc=>h b hc hb
def DjA (f : List Nat) : List (List Nat) → Prop
 | []=>True
 | g :: gs=>Dj f g ∧ DjA f gs
def DjL : List (List Nat) → Prop
 | []=>True
 | f :: fs=>DjA f fs ∧ DjL fs
theorem DjA.toSep {v : Value} : ∀ {vs : List Value},DjA (Kt v) (vs.map Kt) → SepA v vs
 | [],_=>trivial
 | _ :: _,h=>⟨fun g hg he=>h.1 g (mem_blks.2 hg) (mem_blks.2 he),DjA.toSep h.2⟩
theorem DjL.toSep : ∀ {vs : List Value},DjL (vs.map Kt) → SepL vs
 | [],_=>trivial
 | _ :: _,h=>⟨DjA.toSep h.1,DjL.toSep h.2⟩
def PU.R (u : PU) (w0 w : World) (v : Value) (f : List Nat) : Prop:=match u.X with
 | none=>Own w w0.heap.size w.heap.size u.sz v u.cs ∧ f = Kt v
 | some X=>∃ w1,Ext w0 w1 ∧ Ext w1 w ∧ X w0 w1 v f ∧ ∀ b ∈ f,w0.heap.size ≤ b ∧ b < w1.heap.size
theorem PU.R.ext {u : PU} {w0 w w' : World} {v : Value} {f : List Nat} (h : u.R w0 w v f) (e : Ext w w') : u.R w0 w' v f:=by
 unfold PU.R at *
 split at h
 ·exact ⟨(h.1.ext e).widen (Nat.le_refl _) e.size,h.2⟩
 ·obtain ⟨w1,a,b,c,d⟩:=h
  exact ⟨w1,a,b.trans e,c,d⟩
theorem PU.R.lt {u : PU} {w0 w : World} {v : Value} {f : List Nat} (h : u.R w0 w v f) : ∀ b ∈ f,b < w.heap.size:=fun b hb=>by
 unfold PU.R at h
 split at h
 ·rw [h.2] at hb;exact h.1.lt b (mem_blks.1 hb)
 ·obtain ⟨w1,_,e,_,d⟩:=h
  have:=d b hb
  have:=e.size
  omega
theorem PU.R.own {u : PU} {w0 w : World} {v : Value} {f : List Nat} (h : u.R w0 w v f) (hx : u.X = none) : Own w w0.heap.size w.heap.size u.sz v u.cs ∧ f = Kt v:=by
 unfold PU.R at h
 rw [hx] at h;exact h
def NoRoom (v : Value) : Prop:=∃ x k,v = .slice x k 0
def Tj (P : Program) (n : Nat) (σ : Ki) (w0 : World) (o : Oper) (u : PU) : Prop :=
 ∀ a w,Fits n σ a → Ext w0 w → (∀ l dl,u.dep = some (l,dl) → ∃ vl,a.tmps[dl]? = some vl ∧ Own w w0.heap.size w.heap.size u.sz vl [] ∧ NoRoom vl) →
  o.wp P a w (fun a' w'=>∃ v f,a' = a.put (some u.d) v ∧ Ext w w' ∧ u.R w0 w' v f ∧ (u.lit = true → NoRoom v) ∧
   ∀ g ∈ f,w.heap.size ≤ g ∨ ∃ l dl vl,u.dep = some (l,dl) ∧ a.tmps[dl]? = some vl ∧ vl.ownBlock = some g) NoQ
def on (listed : Array Bool) (u : PU) : Prop:=listed.getD u.i true = true
def PInv (w0 : World) (n : Nat) (σ : Ki) (U : List PU) (listed : Array Bool) (a : Act) (w : World) : Prop :=
 Ext w0 w ∧ Fits n σ a ∧ ∃ F : Nat → List Nat,(∀ u ∈ U,on listed u → ∃ v,a.tmps[u.d]? = some v ∧ u.R w0 w v (F u.i) ∧ (u.lit = true → NoRoom v)) ∧
  (∀ u ∈ U,∀ u' ∈ U,u.i ≠ u'.i → u.dep.map (·.1) ≠ some u'.i → u'.dep.map (·.1) ≠ some u.i → on listed u → on listed u' → Dj (F u.i) (F u'.i))
def Hz (n : Nat) (U : List PU) : Bool :=
 U.all fun u=>Nat.blt u.d n && U.all (fun u'=>(u.i == u'.i || !(u.d == u'.d)) && (match u'.dep with
  | some (l,dl)=>!(l == u.i) || (u.d == dl && u.dep.isNone && u.cs.isEmpty && u.lit && u.X.isNone && (u.sz == u'.sz) && U.all (fun u2=>u2.i == u'.i || !(u2.dep.map (·.1) == some l)))
  | none=>true) && (match u'.dep with
  | some (l,_)=>U.any (fun u2=>u2.i == l) && !(l == u'.i)
  | none=>true))
section
variable {P : Program} {ops : Array Oper} {n : Nat} {σ : Ki} {w0 : World} {U : List PU}
theorem groupOK_d (h : Hz n U = true) {u u' : PU} (hu : u ∈ U) (hu' : u' ∈ U) (hi : u.i ≠ u'.i) : u.d ≠ u'.d:=by
 have h1:=List.all_eq_true.1 h u hu
 simp only [Bool.and_eq_true] at h1
 have h2:=List.all_eq_true.1 h1.2 u' hu'
 simp only [Bool.and_eq_true,Bool.or_eq_true,beq_iff_eq,Bool.not_eq_true',beq_eq_false_iff_ne] at h2
 exact h2.1.1.resolve_left hi
theorem groupOK_n (h : Hz n U = true) {u : PU} (hu : u ∈ U) : u.d < n:=by
 have h1:=List.all_eq_true.1 h u hu
 simp only [Bool.and_eq_true] at h1
 exact Nat.blt_eq ▸ h1.1
theorem Gg (h : Hz n U = true) {u' : PU} {l dl : Nat} (hu' : u' ∈ U) (hd : u'.dep = some (l,dl)) : ∃ u ∈ U,u.i = l ∧ u.d = dl ∧ u.dep = none ∧ u.cs = [] ∧ u.lit = true ∧ u.X = none ∧ u.sz = u'.sz ∧ l ≠ u'.i ∧ ∀ u2 ∈ U,u2.dep.map (·.1) = some l → u2.i = u'.i:=by
 have h1:=List.all_eq_true.1 h u' hu'
 simp only [Bool.and_eq_true] at h1
 have h2:=List.all_eq_true.1 h1.2 u' hu'
 simp only [Bool.and_eq_true,hd] at h2
 have h3:=h2.2
 obtain ⟨u,hu,hul⟩:=List.any_eq_true.1 h3.1
 have hul:=eq_of_beq hul
 have h4:=List.all_eq_true.1 h u hu
 simp only [Bool.and_eq_true] at h4
 have h5:=List.all_eq_true.1 h4.2 u' hu'
 simp only [Bool.and_eq_true,hd] at h5
 have h6:=h5.1.2
 simp only [hul,beq_self_eq_true,Bool.not_true,Bool.false_or,Bool.and_eq_true,beq_iff_eq,Option.isNone_iff_eq_none,List.isEmpty_iff] at h6
 refine ⟨u,hu,hul,h6.1.1.1.1.1.1,h6.1.1.1.1.1.2,h6.1.1.1.1.2,h6.1.1.1.2,h6.1.1.2,h6.1.2,by simpa using h3.2,fun u2 hu2 hq=>?_⟩
 have:=List.all_eq_true.1 h6.2 u2 hu2
 simp only [Bool.or_eq_true,beq_iff_eq,Bool.not_eq_true',beq_eq_false_iff_ne] at this
 exact this.resolve_right (fun hne=>hne hq)
theorem Ca {listed : Array Bool} {i : Nat} {u : PU} (h : on (listed.setIfInBounds i true) u) (hi : u.i ≠ i) : on listed u:=by
 unfold on at *
 rwa [getD_set_ne true (Ne.symm hi)] at h
theorem Cy {a : Act} {d d' : Nat} {v : Value} (h : d ≠ d') : (a.put (some d) v).tmps[d']? = a.tmps[d']?:=by
 simp only [Act.put,Array.getElem?_setIfInBounds];simp [h]
theorem put_self {a : Act} {d : Nat} {v : Value} (h : d < a.tmps.size) : (a.put (some d) v).tmps[d]? = some v:=by
 simp only [Act.put,Array.getElem?_setIfInBounds];simp [h]
theorem PInv.step {listed : Array Bool} {a : Act} {w : World} {u : PU} {o : Oper} (hg' : Hz n U = true) (hinj : ∀ u ∈ U,∀ u' ∈ U,u.i = u'.i → u = u') (hσ : ∀ u ∈ U,look σ u.d = none) (hu : u ∈ U) (hun : listed.getD u.i true = false) (hd : ∀ l dl,u.dep = some (l,dl) → listed.getD l true = true)
  (hs : Tj P n σ w0 o u) (hI : PInv w0 n σ U listed a w) : o.wp P a w (fun a' w'=>Ext w w' ∧ PInv w0 n σ U (listed.setIfInBounds u.i true) a' w') NoQ:=by
 obtain ⟨hE,hF,F,hf,hsep⟩:=hI
 have hdep : ∀ l dl,u.dep = some (l,dl) → ∃ vl,a.tmps[dl]? = some vl ∧ Own w w0.heap.size w.heap.size u.sz vl [] ∧ NoRoom vl:=fun l dl h=>by
  obtain ⟨u0,hu0,hl,hdl,_,hcs,hlit,hX,hsz,_⟩:=Gg hg' hu h
  obtain ⟨v,h1,h2,h3⟩:=hf u0 hu0 (by unfold on;rw [hl];exact hd l dl h)
  exact ⟨v,by rw [← hdl];exact h1,by rw [← hsz,← hcs];exact (h2.own hX).1,h3 hlit⟩
 refine Kj ?_ (fun _ _ _ h=>h) (hs a w hF hE hdep)
 rintro a' w' ⟨v,f,rfl,hx,hown,hlit,hblk⟩
 have hsize : u.d < a.tmps.size:=by rw [hF.size];exact groupOK_n hg' hu
 have hne : ∀ u' ∈ U,u'.i ≠ u.i → u.d ≠ u'.d:=fun u' hu' h=>groupOK_d hg' hu hu' (Ne.symm h)
 -- two that do not meet
 have fresh : ∀ u' ∈ U,u'.i ≠ u.i → u.dep.map (·.1) ≠ some u'.i → u'.dep.map (·.1) ≠ some u.i → on (listed.setIfInBounds u.i true) u' → Dj f (F u'.i):=fun u' hu' h ha hb ho g hg he=>by
  obtain ⟨v'',h4,h5,_⟩:=hf u' hu' (Ca ho h)
  have hlt:=h5.lt g he
  rcases hblk g hg with hge | ⟨l,dl,vl,hdl,hvl,hgl⟩
  ·omega
  ·obtain ⟨u0,hu0,hl,hdl',hdep0,_,_,hX,_,hlu,huniq⟩:=Gg hg' hu hdl
   have hu0u' : u0.i ≠ u'.i:=fun e=>ha (by rw [hdl];simp [← hl,e])
   have hon0 : on listed u0:=by unfold on;rw [hl];exact hd l dl hdl
   obtain ⟨v0,k1,k2,_⟩:=hf u0 hu0 hon0
   rw [hdl',hvl] at k1
   obtain rfl:=Option.some.inj k1
   have:=hsep u0 hu0 u' hu' hu0u' (by rw [hdep0];simp) (fun e=>h (huniq u' hu' (by rw [e,hl]))) hon0 (Ca ho h)
   exact this g (by rw [(k2.own hX).2];exact mem_blks.2 hgl) he
 have F1 : (fun j=>if j = u.i then f else F j) u.i = f:=if_pos rfl
 have F2 : ∀ j,j ≠ u.i → (fun j=>if j = u.i then f else F j) j = F j:=fun j hj=>if_neg hj
 refine ⟨hx,hE.trans hx,?_,fun j=>if j = u.i then f else F j,fun u' hu' ho=>?_,fun u1 h1 u2 h2 hne12 hd12 hd21 ho1 ho2=>?_⟩
 ·refine ⟨by simp [Act.put,hF.size],hF.dfr,fun i v' hi=>?_⟩
  have hid : u.d ≠ i:=fun e=>by subst e;rw [hσ u hu] at hi;cases hi
  rw [Cy hid];exact hF.get i v' hi
 ·by_cases h : u'.i = u.i
  ·obtain rfl:=hinj u' hu' u hu h
   exact ⟨v,put_self hsize,by rw [F1];exact hown,hlit⟩
  ·obtain ⟨v',h3,h4,h5⟩:=hf u' hu' (Ca ho h)
   exact ⟨v',by rw [Cy (hne u' hu' h)];exact h3,by rw [F2 _ h];exact h4.ext hx,h5⟩
 ·by_cases e1 : u1.i = u.i
  ·obtain rfl:=hinj u1 h1 u hu e1
   rw [F1,F2 _ (Ne.symm hne12)]
   exact fresh u2 h2 (Ne.symm hne12) hd12 hd21 ho2
  ·by_cases e2 : u2.i = u.i
   ·obtain rfl:=hinj u2 h2 u hu e2
    rw [F1,F2 _ e1]
    exact (fresh u1 h1 hne12 hd21 hd12 ho1).symm
   ·rw [F2 _ e1,F2 _ e2]
    exact hsep u1 h1 u2 h2 hne12 hd12 hd21 (Ca ho1 e1) (Ca ho2 e2)
end
def Hc (ops : Array Oper) (k i : Nat) : Bool:=match ops[k]? with
 | some o=>o.after.any (fun e=>Region.binds .any e && (e.on == i))
 | none=>false
def StepAll (P : Program) (n : Nat) (σ : Ki) (w0 : World) (ops : Array Oper) : List PU → Prop
 | []=>True
 | u :: us=>(∃ o,ops[u.i]? = some o ∧ o.guard = none ∧ Gp o = false ∧ look σ u.d = none ∧ Tj P n σ w0 o u) ∧ StepAll P n σ w0 ops us
def G0 : List Nat → Bool
 | []=>true
 | i :: l=>!l.contains i && G0 l
def C7 (ops : Array Oper) : Array Bool → List PU → Bool
 | _,[]=>true
 | L,u :: us=>(match ops[u.i]? with
  | some o=>o.after.all fun e=>!Region.binds .any e || L.getD e.on false
  | none=>false) && C7 ops (L.setIfInBounds u.i true) us
def parOK (ops : Array Oper) (n : Nat) (listed : Array Bool) (U : List PU) : Bool :=
 Hz n U && G0 (U.map (·.i)) && C7 ops listed U && U.all (fun u=>!listed.getD u.i true) && U.all (fun u=>match u.dep with
  | some (l,_)=>Hc ops u.i l
  | none=>true) &&
  (List.range ops.size).all fun k=>listed.getD k true || U.any (·.i == k) || U.all fun u=>Hc ops k u.i || U.any fun u'=>Hc ops k u'.i && Hc ops u'.i u.i
def parOK2 (ops : Array Oper) (n : Nat) (listed : Array Bool) (U : List PU) (f : PU) : Bool :=
 Hz n (U ++ [f]) && G0 ((U ++ [f]).map (·.i)) && C7 ops listed (U ++ [f]) && (U ++ [f]).all (fun u=>!listed.getD u.i true) && (U ++ [f]).all (fun u=>match u.dep with
  | some (l,_)=>Hc ops u.i l
  | none=>true) &&
  (List.range ops.size).all fun k=>listed.getD k true || (U ++ [f]).any (·.i == k) || U.all fun u=>Hc ops k u.i || U.any fun u'=>Hc ops k u'.i && Hc ops u'.i u.i
def Vm (listed : Array Bool) (U : List PU) : Array Bool:=U.foldl (fun L u=>L.setIfInBounds u.i true) listed
theorem Te : ∀ {U : List PU},G0 (U.map (·.i)) = true → ∀ u ∈ U,∀ u' ∈ U,u.i = u'.i → u = u'
 | [],_,_,hu,_,_,_=>by simp at hu
 | x :: U,h,u,hu,u',hu',he=>by
  simp only [List.map_cons,G0,Bool.and_eq_true,Bool.not_eq_true'] at h
  have hx : ∀ y ∈ U,y.i ≠ x.i:=fun y hy e=>by
   have : (U.map (·.i)).contains x.i = true:=by rw [List.contains_iff_mem];exact List.mem_map.2 ⟨y,hy,e⟩
   rw [this] at h;exact absurd h.1 (by simp)
  rcases List.mem_cons.1 hu with h1 | h1
  ·rcases List.mem_cons.1 hu' with h2 | h2
   ·rw [h1,h2]
   ·exact absurd (by rw [← h1];exact he.symm) (hx u' h2)
  ·rcases List.mem_cons.1 hu' with h2 | h2
   ·exact absurd (by rw [← h2];exact he) (hx u h1)
   ·exact Te h.2 u h1 u' h2 he
section
variable {P : Program} {ops : Array Oper} {n : Nat} {σ : Ki} {w0 : World} {U : List PU}
theorem StepAll.get : ∀ {U : List PU},StepAll P n σ w0 ops U → ∀ u ∈ U,∃ o,ops[u.i]? = some o ∧ o.guard = none ∧ Gp o = false ∧ look σ u.d = none ∧ Tj P n σ w0 o u
 | [],_,_,hu=>by simp at hu
 | _ :: _,h,u,hu=>by
  rcases List.mem_cons.1 hu with rfl | hu
  ·exact h.1
  ·exact StepAll.get h.2 u hu
theorem getD_tf {listed : Array Bool} {i : Nat} (h : listed.getD i false = true) : listed.getD i true = true:=by
 rcases Nat.lt_or_ge i listed.size with h' | h'
 ·simpa [h'] using h
 ·simp [Array.getElem?_eq_none h']
theorem getD_ft {listed : Array Bool} {i : Nat} (h : listed.getD i true = true) (hi : i < listed.size) : listed.getD i false = true:=by simpa [hi] using h
theorem getD_lt {listed : Array Bool} {i : Nat} (h : listed.getD i true = false) : i < listed.size:=by
 rcases Nat.lt_or_ge i listed.size with h' | h'
 ·exact h'
 ·simp [Array.getElem?_eq_none h'] at h
theorem C6 {listed : Array Bool} : ∀ (us : List PU) (L : Array Bool),C7 ops L us = true → (∀ j,L.getD j false = true → listed.getD j false = true) → (∀ u ∈ us,u.i < listed.size) → ∀ u ∈ us,listed.getD u.i true = false → ∃ k,k ∈ Region.ready .any ops listed
 | [],_,_,_,_,_,hu,_=>by simp at hu
 | x :: us,L,h,hL,hlt,u,hu,hun=>by
  simp only [C7,Bool.and_eq_true] at h
  cases hx : listed.getD x.i true with
  | false =>
   have h1:=h.1
   split at h1
   ·rename_i o ho
    refine ⟨x.i,mem_ready.2 ⟨hx,o,ho,fun e he hb=>hL _ ?_⟩⟩
    have:=Array.all_eq_true'.1 h1 e he
    simpa [hb] using this
   ·cases h1
  | true =>
   refine C6 us _ h.2 (fun j hj=>?_) (fun y hy=>hlt y (by simp [hy])) u ?_ hun
   ·by_cases e : x.i = j
    ·subst e;exact getD_ft hx (hlt x (by simp))
    ·refine hL j ?_
     simp only [Array.getD_eq_getD_getElem?,Array.getElem?_setIfInBounds] at hj ⊢
     simpa [e] using hj
   ·rcases List.mem_cons.1 hu with hq | hu
    ·subst hq;rw [hx] at hun;cases hun
    ·exact hu
theorem Tm {listed : Array Bool} {k i : Nat} (hk : k ∈ Region.ready .any ops listed) (hw : Hc ops k i = true) : listed.getD i true = true:=by
 obtain ⟨_,o,ho,hall⟩:=mem_ready.1 hk
 simp only [Hc,ho] at hw
 obtain ⟨e,he,hp⟩:=Array.any_eq_true'.1 hw
 simp only [Bool.and_eq_true,beq_iff_eq] at hp
 rw [← hp.2];exact getD_tf (hall e he hp.1)
structure Betw (ops : Array Oper) (U : List PU) (listed1 listed : Array Bool) : Prop where
 size : listed.size = listed1.size
 others : ∀ j,(∀ u ∈ U,u.i ≠ j) → listed.getD j true = listed1.getD j true
 down : ∀ u ∈ U,on listed u → ∀ u' ∈ U,Hc ops u.i u'.i = true → on listed u'
theorem Cg {listed : Array Bool} {i : Nat} : (listed.setIfInBounds i true).getD i true = true:=by
 rcases Nat.lt_or_ge i listed.size with h | h
 ·simp [h]
 ·simp [h]
theorem Bf {listed : Array Bool} {i j : Nat} (h : listed.getD j true = true) : (listed.setIfInBounds i true).getD j true = true:=by
 by_cases e : i = j
 ·subst e;exact Cg
 ·rw [getD_set_ne true e];exact h
theorem Hg : ∀ (U : List PU) (listed : Array Bool) (j : Nat),(Vm listed U).getD j true = (listed.getD j true || U.any (·.i == j))
 | [],listed,j=>by simp [Vm]
 | u :: U,listed,j=>by
  have:=Hg U (listed.setIfInBounds u.i true) j
  simp only [Vm,List.foldl_cons,List.any_cons] at *
  rw [this]
  by_cases e : u.i = j
  ·subst e;rw [Cg];simp
  ·rw [getD_set_ne true e];simp [show (u.i == j) = false from by simp [e]]
theorem Co : ∀ (U : List PU) (listed : Array Bool),(Vm listed U).size = listed.size
 | [],_=>rfl
 | u :: U,listed=>by
  have:=Co U (listed.setIfInBounds u.i true)
  simp only [Vm,List.foldl_cons] at *
  rw [this];simp
theorem arr_ext {a b : Array Bool} (hs : a.size = b.size) (h : ∀ j,a.getD j true = b.getD j true) : a = b:=by
 apply Array.ext hs
 intro i h1 h2
 have:=h i
 simpa [h1,h2] using this
theorem wpAnyG_par {K : Act → World → Prop} {S : World → Prop} {listed1 : Array Bool} {fuel2 : Nat} (hok : parOK ops n listed1 U = true) (hs : StepAll P n σ w0 ops U) (hS : ∀ w,Ext w0 w → S w)
  (hend : ∀ a w,PInv w0 n σ U (Vm listed1 U) a w → Xu P ops [] (Vr K) S fuel2 (Vm listed1 U) a w) :
  ∀ (m : Nat) (listed : Array Bool) (a : Act) (w : World),(U.filter (fun u=>!listed.getD u.i true)).length = m → Betw ops U listed1 listed → PInv w0 n σ U listed a w → Xu P ops [] (Vr K) S (m + fuel2) listed a w:=by
 simp only [parOK,Bool.and_eq_true] at hok
 obtain ⟨⟨⟨⟨⟨hg,hnd⟩,htopo⟩,hoff⟩,hdw⟩,hcl⟩:=hok
 have hinj:=Te hnd
 intro m
 induction m with
 | zero =>
  intro listed a w hm hb hI
  have hall : ∀ u ∈ U,listed.getD u.i true = true:=fun u hu=>by
   cases hq : listed.getD u.i true with
   | true=>rfl
   | false =>
    have : u ∈ U.filter (fun u=>!listed.getD u.i true):=List.mem_filter.2 ⟨hu,by rw [hq];rfl⟩
    rw [List.eq_nil_of_length_eq_zero hm] at this;simp at this
  have he : listed = Vm listed1 U:=arr_ext (by rw [Co,hb.size]) fun j=>by
   rw [Hg]
   cases ha : U.any (·.i == j) with
   | true =>
    obtain ⟨u,hu,hj⟩:=List.any_eq_true.1 ha
    rw [← eq_of_beq hj,hall u hu];simp
   | false =>
    rw [hb.others j fun u hu e=>by
     have:=List.any_eq_false.1 ha u hu
     simp [e] at this]
    simp
  rw [Nat.zero_add,he]
  exact hend a w (he ▸ hI)
 | succ m ih =>
  intro listed a w hm hb hI
  -- one of the group has not come up
  have hin : ∀ k ∈ Region.ready .any ops listed,∃ u ∈ U,u.i = k:=fun k hk=>by
   obtain ⟨hun,o,ho,_⟩:=mem_ready.1 hk
   refine Classical.byContradiction fun hno=>?_
   have hnu : ∀ u ∈ U,u.i ≠ k:=fun u hu e=>hno ⟨u,hu,e⟩
   have h1:=List.all_eq_true.1 hcl k (List.mem_range.2 (Array.getElem?_eq_some_iff.1 ho).1)
   have h2 : listed1.getD k true = false:=by rw [← hb.others k hnu];exact hun
   have h3 : U.any (·.i == k) = false:=List.any_eq_false.2 fun u hu=>by simp [hnu u hu]
   rw [h2,h3] at h1
   simp only [Bool.false_or] at h1
   obtain ⟨u,hu⟩ : ∃ u,u ∈ U.filter (fun u=>!listed.getD u.i true):=List.exists_mem_of_length_pos (by omega)
   have hu':=List.mem_filter.1 hu
   have h4:=List.all_eq_true.1 h1 u hu'.1
   have hoffu : listed.getD u.i true = false:=by simpa using hu'.2
   simp only [Bool.or_eq_true] at h4
   rcases h4 with h4 | h4
   ·rw [Tm hk h4] at hoffu;cases hoffu
   ·obtain ⟨u',hu2,h5⟩:=List.any_eq_true.1 h4
    simp only [Bool.and_eq_true] at h5
    have:=hb.down u' hu2 (Tm hk h5.1) u hu'.1 h5.2
    unfold on at this;rw [this] at hoffu;cases hoffu
  have hwp : ∀ k ∈ Region.ready .any ops listed,wpOp P ops (Vr K) k (fun a' w' =>
    ((Hu [] ops k = false → S w' ∧ Xu P ops [] (Vr K) S (m + fuel2) (listed.setIfInBounds k true) a' w') ∧ (Hu [] ops k = true → wpAny P .any ops (Vr K) (m + fuel2) (listed.setIfInBounds k true) a' w'))) a w:=fun k hk=>by
   obtain ⟨u,hu,rfl⟩:=hin k hk
   obtain ⟨o,ho,hgd,hst,hlk,hstep⟩:=hs.get u hu
   have hun:=(mem_ready.1 hk).1
   have hdon : ∀ l dl,u.dep = some (l,dl) → listed.getD l true = true:=fun l dl hd=>by
    have:=List.all_eq_true.1 hdw u hu
    rw [hd] at this
    exact Tm hk this
   have hres:=PInv.step hg hinj (fun u hu=>by
    obtain ⟨_,_,_,_,h,_⟩:=hs.get u hu
    exact h) hu hun hdon hstep hI
   unfold wpOp
   have hsx : Hu [] ops u.i = false:=by simp [Hu,ho,hst]
   simp only [ho,hsx]
   rw [if_pos (by simp [Region.wanted,hgd])]
   refine .inl (Kj (fun a' w' h'=>⟨fun _=>⟨hS w' h'.2.1,?_⟩,fun h=>by cases h⟩) (fun _ _ _ h=>h.elim) hres)
   refine ih _ a' w' ?_ ⟨by simpa using hb.size,fun j hj=>?_,fun u1 h1 ho1 u2 h2 hw=>?_⟩ h'.2
   ·have : (U.filter (fun u'=>!(listed.setIfInBounds u.i true).getD u'.i true)).length + 1 = (U.filter (fun u'=>!listed.getD u'.i true)).length:=by
     clear hcl hdw hoff hm
     have key : ∀ V : List PU,u ∈ V → (∀ x ∈ V,∀ y ∈ V,x.i = y.i → x = y) → G0 (V.map (·.i)) = true → (V.filter (fun u'=>!(listed.setIfInBounds u.i true).getD u'.i true)).length + 1 = (V.filter (fun u'=>!listed.getD u'.i true)).length:=by
      intro V
      induction V with
      | nil=>intro h;simp at h
      | cons x V ihV =>
       intro hx hj hn
       simp only [List.map_cons,G0,Bool.and_eq_true,Bool.not_eq_true'] at hn
       have hxV : ∀ y ∈ V,y.i ≠ x.i:=fun y hy e=>by
        have : (V.map (·.i)).contains x.i = true:=by rw [List.contains_iff_mem];exact List.mem_map.2 ⟨y,hy,e⟩
        rw [this] at hn;exact absurd hn.1 (by simp)
       by_cases hxu : x = u
       ·subst hxu
        have hrest : V.filter (fun u'=>!(listed.setIfInBounds x.i true).getD u'.i true) = V.filter (fun u'=>!listed.getD u'.i true):=List.filter_congr fun y hy=>by rw [getD_set_ne true (Ne.symm (hxV y hy))]
        simp only [List.filter_cons,Cg,hun,hrest];simp
       ·have huV : u ∈ V:=by
         rcases List.mem_cons.1 hx with h | h
         ·exact absurd h.symm hxu
         ·exact h
        have hne : u.i ≠ x.i:=hxV u huV
        have:=ihV huV (fun y hy z hz=>hj y (by simp [hy]) z (by simp [hz])) hn.2
        simp only [List.filter_cons,getD_set_ne true hne]
        split
        ·simp only [List.length_cons];omega
        ·exact this
     exact key U hu hinj hnd
    omega
   ·rw [getD_set_ne true (hj u hu)];exact hb.others j hj
   ·by_cases e : u1.i = u.i
    ·obtain rfl:=hinj u1 h1 u hu e
     exact Bf (Tm hk hw)
    ·exact Bf (hb.down u1 h1 (Ca ho1 e) u2 h2 hw)
  rw [show m + 1 + fuel2 = (m + fuel2) + 1 from by omega]
  refine ⟨fun hnil=>?_,hwp⟩
  obtain ⟨u,hu⟩ : ∃ u,u ∈ U.filter (fun u=>!listed.getD u.i true):=List.exists_mem_of_length_pos (by omega)
  have hu':=List.mem_filter.1 hu
  obtain ⟨k,hk⟩:=C6 U listed1 htopo (fun j hj=>by
   by_cases hju : ∃ u ∈ U,u.i = j
   ·obtain ⟨x,hx,rfl⟩:=hju
    have:=List.all_eq_true.1 hoff x hx
    rw [getD_tf hj] at this;cases this
   ·have:=hb.others j (fun x hx e=>hju ⟨x,hx,e⟩)
    exact getD_ft (by rw [this];exact getD_tf hj) (by
     rw [hb.size]
     exact Classical.byContradiction fun hge=>by simp [Array.getElem?_eq_none (Nat.le_of_not_lt hge)] at hj)) (fun x hx=>by
   rw [hb.size]
   exact getD_lt (by simpa using List.all_eq_true.1 hoff x hx)) u hu'.1 (by simpa using hu'.2)
  rw [hnil] at hk;cases hk
end
def K5 (X : List Nat) (ops : Array Oper) : List (Nat × Bool) → Array Bool → Option (Array Bool)
 | [],listed=>some listed
 | (i,true) :: κ,listed=>bif Region.free .any ops listed i && (Region.ready .any ops listed).contains i && eagW X ops listed i then K5 X ops κ (listed.setIfInBounds i true) else none
 | (i,false) :: κ,listed=>bif Region.ready .any ops listed == [i] then K5 X ops κ (listed.setIfInBounds i true) else none
theorem Uy {P : Program} {ops : Array Oper} {X : List Nat} {K K1 : Act → World → Prop} {fuel2 : Nat} {listed1 : Array Bool} (hs : Region.noSelect ops = true)
  (hend : ∀ a w,K1 a w → Xu P ops X (Vr K) (Ext w) fuel2 listed1 a w) :
  ∀ (κ : List (Nat × Bool)) (l : List (Bool × Oper)) (listed : Array Bool) (a : Act) (w : World),Y0 ops κ = some l → K5 X ops κ listed = some listed1 →
   Gs P ops true K1 l a w → Xu P ops X (Vr K) (Ext w) (κ.length + fuel2) listed a w
 | [],l,listed,a,w,hp,he,h=>by
  simp only [Y0,Option.some.injEq] at hp
  subst hp
  simp only [K5,Option.some.injEq] at he
  subst he
  rw [List.length_nil,Nat.zero_add]
  exact hend a w h
 | (i,true) :: κ,l,listed,a,w,hp,he,h=>by
  simp only [Y0] at hp
  split at hp
  ·rename_i o l' ho hl'
   simp only [Option.some.injEq] at hp
   subst hp
   simp only [K5] at he
   cases hc : (Region.free .any ops listed i && (Region.ready .any ops listed).contains i && eagW X ops listed i) with
   | false=>rw [hc] at he;cases he
   | true =>
    rw [hc] at he
    simp only [cond_true] at he
    simp only [Bool.and_eq_true] at hc
    obtain ⟨⟨hf,hr⟩,hw⟩:=hc
    obtain ⟨v,hy,h⟩:=h
    have ih:=Uy hs hend κ l' _ _ w hl' he h
    rw [List.length_cons,show κ.length + 1 + fuel2 = (κ.length + fuel2) + 1 from by omega]
    exact Gu hs ho (fun c a w h=>h.elim) hf (by simpa using hr) hw (fun _ h=>h) (Ext.refl w) hy ih
  ·cases hp
 | (i,false) :: κ,l,listed,a,w,hp,he,h=>by
  simp only [Y0] at hp
  split at hp
  ·rename_i o l' ho hl'
   simp only [Option.some.injEq] at hp
   subst hp
   simp only [K5] at he
   cases hr : (Region.ready .any ops listed == [i]) with
   | false=>rw [hr] at he;cases he
   | true =>
    rw [hr] at he
    simp only [cond_true] at he
    have hr:=eq_of_beq hr
    rw [List.length_cons,show κ.length + 1 + fuel2 = (κ.length + fuel2) + 1 from by omega]
    refine ⟨fun h0=>(by rw [h0] at hr;cases hr),fun j hj=>?_⟩
    rw [hr] at hj
    obtain rfl : j = i:=by simpa using hj
    unfold wpOp
    simp only [ho]
    unfold Gs at h
    split at h
    ·rename_i hw
     rw [if_pos hw]
     refine .inl (Kj (fun a' w' h'=>?_) (fun _ _ _ h=>h.elim) h)
     have hrest:=Uy hs hend κ l' _ a' w' hl' he h'.2
     exact ⟨fun hns=>⟨h'.1 rfl (stX_f ho hns),Kh (fun w'' e=>(h'.1 rfl (stX_f ho hns)).trans e) _ _ _ _ hrest⟩,fun _=>Xy _ _ _ _ hrest⟩
    ·rename_i hw
     rw [if_neg hw]
     have hrest:=Uy hs hend κ l' _ _ w hl' he h
     exact ⟨fun _=>⟨Ext.refl w,hrest⟩,fun _=>Xy _ _ _ _ hrest⟩
  ·cases hp
def Tc : List PU → List (List Nat) → List (List Nat)
 | u :: us,v :: vs=>if u.lit then Tc us vs else v :: Tc us vs
 | _,_=>[]
def envU (σ : Ki) : List PU → List Value → Ki
 | u :: us,v :: vs=>(u.d,v) :: envU σ us vs
 | _,_=>σ
def ParK (w1 w2 : World) : List PU → (List Value → List (List Nat) → Prop) → Prop
 | [],k=>k [] []
 | u :: us,k=>∀ v f,u.R w1 w2 v f → ParK w1 w2 us (fun vs fs=>k (v :: vs) (f :: fs))
theorem ParK.use {w1 w2 : World} {F : Nat → List Nat} : ∀ (U : List PU) (vs : List Value) (k : List Value → List (List Nat) → Prop),ParK w1 w2 U k → All2 (fun u v=>u.R w1 w2 v (F u.i)) U vs → k vs (U.map fun u=>F u.i)
 | [],[],k,h,_=>h
 | [],_ :: _,_,_,hh=>hh.elim
 | _ :: _,[],_,_,hh=>hh.elim
 | u :: us,v :: vs,k,h,hh=>ParK.use us vs (fun vs fs=>k (v :: vs) (F u.i :: fs)) (h v _ hh.1) hh.2
theorem Bb {a : Act} {R : PU → Value → Prop} : ∀ (U : List PU),(∀ u ∈ U,∃ v,a.tmps[u.d]? = some v ∧ R u v) → ∃ vs,All2 (fun u v=>a.tmps[u.d]? = some v ∧ R u v) U vs
 | [],_=>⟨[],trivial⟩
 | u :: us,h=>by
  obtain ⟨v,hv⟩:=h u (by simp)
  obtain ⟨vs,hvs⟩:=Bb us (fun x hx=>h x (by simp [hx]))
  exact ⟨v :: vs,hv,hvs⟩
theorem Bg {n : Nat} {σ : Ki} {a : Act} (hF : Fits n σ a) : ∀ (U : List PU) (vs : List Value),All2 (fun u v=>a.tmps[u.d]? = some v) U vs → Fits n (envU σ U vs) a
 | [],[],_=>hF
 | [],_ :: _,hh=>hh.elim
 | _ :: _,[],hh=>hh.elim
 | u :: us,v :: vs,hh=>by
  have:=Bg hF us vs hh.2
  refine ⟨this.size,this.dfr,fun i x hx=>?_⟩
  simp only [envU,look] at hx
  cases hq : Nat.beq i u.d with
  | true =>
   have : i = u.d:=Nat.eq_of_beq_eq_true hq
   subst this
   simp only [hq,cond_true,Option.some.injEq] at hx
   subst hx;exact hh.1
  | false =>
   simp only [hq,cond_false] at hx
   exact this.get i x hx
theorem Al {f : List Nat} {F : Nat → List Nat} : ∀ (us : List PU),(∀ u ∈ us,u.lit = false → Dj f (F u.i)) → DjA f (Tc us (us.map fun u=>F u.i))
 | [],_=>trivial
 | u :: us,h=>by
  have ih:=Al us (fun y hy=>h y (by simp [hy]))
  simp only [List.map_cons,Tc]
  split
  ·exact ih
  ·rename_i hl
   exact ⟨h u (by simp) (by simpa using hl),ih⟩
theorem Ak {F : Nat → List Nat} : ∀ (us : List PU),us.Pairwise (fun u u'=>u.lit = false → u'.lit = false → Dj (F u.i) (F u'.i)) → DjL (Tc us (us.map fun u=>F u.i))
 | [],_=>trivial
 | u :: us,h=>by
  rw [List.pairwise_cons] at h
  have ih:=Ak us h.2
  simp only [List.map_cons,Tc]
  split
  ·exact ih
  ·rename_i hl
   exact ⟨Al us (fun y hy hyl=>h.1 y hy (by simpa using hl) hyl),ih⟩
theorem Be : ∀ {U : List PU},G0 (U.map (·.i)) = true → U.Pairwise (fun u u'=>u.i ≠ u'.i)
 | [],_=>List.Pairwise.nil
 | x :: U,hn=>by
  simp only [List.map_cons,G0,Bool.and_eq_true,Bool.not_eq_true'] at hn
  refine List.Pairwise.cons (fun y hy e=>?_) (Be hn.2)
  have : (U.map (·.i)).contains x.i = true:=by rw [List.contains_iff_mem];exact List.mem_map.2 ⟨y,hy,e.symm⟩
  rw [this] at hn;exact absurd hn.1 (by simp)
def regPOK (ops : Array Oper) (n : Nat) (κ1 : List (Nat × Bool)) (U : List PU) (κ2 : List (Nat × Bool)) : Bool :=
 Region.noSelect ops && (κ1.length + (U.length + κ2.length) == ops.size) && match K5 [] ops κ1 (Array.replicate ops.size false) with
  | some L=>parOK ops n L U && Up [] ops κ2 (Vm L U)
  | none=>false
section
variable {P : Program} {n : Nat} {Q : Exit → Act → World → Prop} {cs : List Code} {σ : Ki} {w : World}
theorem S_regP (hm : P.follows .mixedOrders = true) (κ1 : List (Nat × Bool)) (U : List PU) (κ2 : List (Nat × Bool)) {id : Nat} {ops : Array Oper} {l1 l2 : List (Bool × Oper)} (hk : regPOK ops n κ1 U κ2 = true) (hl1 : Y0 ops κ1 = some l1) (hl2 : Y0 ops κ2 = some l2)
  (σ1 : Ki) (Φ : World → Prop) (h1 : ∀ w',Ext w w' → J P ops true n (fun a w1=>Fits n σ1 a ∧ Φ w1) l1 σ w')
  (h2 : ∀ w1,Φ w1 → StepAll P n σ1 w1 ops U ∧ ∀ w2,Ext w1 w2 → ParK w1 w2 U (fun vs fs=>DjL (Tc U fs) → J P ops true n (CK P Q cs) l2 (envU σ1 U vs) w2)) :
  S P n Q (.region id ops true :: cs) σ w:=fun a ha=>by
 simp only [regPOK,Bool.and_eq_true,beq_iff_eq] at hk
 obtain ⟨⟨hs,hlen⟩,hk⟩:=hk
 split at hk
 ·rename_i L hL
  simp only [Bool.and_eq_true] at hk
  have key : ∀ a1 w1,Fits n σ1 a1 ∧ Φ w1 → Xu P ops [] (Vr (CK P Q cs)) (Ext w1) (U.length + κ2.length) L a1 w1:=fun a1 w1 ⟨hf,hp⟩=>by
   obtain ⟨hst,hcont⟩:=h2 w1 hp
   have hok:=hk.1
   have hok':=hk.1
   simp only [parOK,Bool.and_eq_true] at hok
   obtain ⟨⟨⟨⟨⟨hg,hnd⟩,_⟩,hoff⟩,_⟩,_⟩:=hok
   have hinj:=Te hnd
   have hoff' : ∀ u ∈ U,L.getD u.i true = false:=fun u hu=>by simpa using List.all_eq_true.1 hoff u hu
   refine wpAnyG_par hok' hst (fun w h=>h) (fun a2 w2 hI=>?_) U.length L a1 w1 ?_ ⟨rfl,fun _ _=>rfl,fun u hu ho=>?_⟩ ⟨Ext.refl w1,hf,fun _=>[],fun u hu ho=>?_,fun u hu _ _ _ _ _ ho=>?_⟩
   ·obtain ⟨hE,hF,F,hfa,hsep⟩:=hI
    have hon : ∀ u ∈ U,on (Vm L U) u:=fun u hu=>by
     unfold on;rw [Hg,show U.any (·.i == u.i) = true from List.any_eq_true.2 ⟨u,hu,by simp⟩];simp
    obtain ⟨vs,hvs⟩:=Bb U (fun u hu=>hfa u hu (hon u hu))
    have ht : All2 (fun u v=>a2.tmps[u.d]? = some v) U vs:=All2.imp (fun _ _ h=>h.1) hvs
    have hpw : U.Pairwise (fun u u'=>u.lit = false → u'.lit = false → Dj (F u.i) (F u'.i)):=by
     have hne:=Be hnd
     refine List.Pairwise.imp_of_mem (fun {u u'} hu hu' hne hl hl'=>?_) hne
     refine hsep u hu u' hu' hne (fun hd=>?_) (fun hd=>?_) (hon u hu) (hon u' hu')
     ·obtain ⟨⟨l,dl⟩,hd1,hd2⟩:=Option.map_eq_some_iff.1 hd
      obtain ⟨u0,hu0,he,_,_,_,hlit,_⟩:=Gg hg hu hd1
      have:=hinj u0 hu0 u' hu' (by rw [he];exact hd2)
      subst this;rw [hlit] at hl';cases hl'
     ·obtain ⟨⟨l,dl⟩,hd1,hd2⟩:=Option.map_eq_some_iff.1 hd
      obtain ⟨u0,hu0,he,_,_,_,hlit,_⟩:=Gg hg hu' hd1
      have:=hinj u0 hu0 u hu (by rw [he];exact hd2)
      subst this;rw [hlit] at hl;cases hl
    have hJ:=ParK.use U vs _ (hcont w2 hE) (All2.imp (fun _ _ h=>h.2.1) hvs) (Ak U hpw)
    have hw:=hJ a2 (Bg hF U vs ht)
    exact Kh (fun w'' e=>hE.trans e) _ _ _ _ (Xt hs κ2 l2 _ a2 w2 hl2 hk.2 hw)
   ·rw [List.filter_eq_self.2 fun u hu=>by rw [hoff' u hu];rfl]
   ·unfold on at ho;rw [hoff' u hu] at ho;cases ho
   ·unfold on at ho;rw [hoff' u hu] at ho;cases ho
   ·unfold on at ho;rw [hoff' u hu] at ho;cases ho
  have h3:=Uy hs key κ1 l1 _ a _ hl1 hL (h1 _ (Ext.drew w) a ha)
  rw [hlen] at h3
  exact wp_mono (wp_region_any hm (Xy _ _ _ _ h3)) (fun e a w h=>by cases e <;> first | exact h | exact h.elim)
 ·cases hk
end
def regQOK (ops : Array Oper) (n : Nat) (κ1 : List (Nat × Bool)) (U : List PU) (f : PU) (κ2 κ3 : List (Nat × Bool)) : Bool :=
 Region.noSelect ops && (κ1.length + ((U ++ [f]).length + κ2.length) == ops.size) && (κ3.length == κ2.length + 1) && match K5 [] ops κ1 (Array.replicate ops.size false) with
  | some L=>parOK2 ops n L U f && Up [] ops κ2 (Vm L (U ++ [f])) && Up [] ops κ3 (Vm L U)
  | none=>false
section
variable {P : Program} {n : Nat} {Q : Exit → Act → World → Prop} {cs : List Code} {σ : Ki} {w : World}
end
section
variable {P : Program} {n : Nat} {σ : Ki} {w0 : World} {i d : Nat} {ty : TypeId} {pos : String} {af : Array Edge} {g : Option (Nat × Bool)}
theorem U3 {t e sz bytes : Nat} {z : List Value} (hT : SlT P t e sz bytes z) : Tj P n σ w0 ⟨some d,.buildSlice t 0 #[],ty,pos,af,g⟩ ⟨i,d,sz,[],true,none,none⟩:=fun a w _ hE _=>by
 obtain ⟨ti,zv,hinf,hs,_⟩:=hT.info
 refine Ub (w':=w.alloc (.cells #[] e)) (v:=.slice (some ⟨w.heap.size,0,none⟩) 0 0) ?_ ⟨_,_,rfl,Ext.alloc _ _,⟨?_,rfl⟩,fun _=>⟨_,_,rfl⟩,fun g hg=>.inl (by cases mem_blks.1 hg;exact Nat.le_refl _)⟩
 ·simp [execOp,Instr.buildSlice,run_underlying hT.und,sizeOf,typeInfo,hinf,Instr.fill,newRow,Array.range_zero']
 ·exact Own.ofBlk (by simpa using Blk.new w #[] e) hE.size (by simp) (by simp) (by simp)
theorem U4 {t e sz bytes l dl : Nat} {z : List Value} {x : Operand} {u : Value} {cs : List Value} (hT : SlT P t e sz bytes z) (hx : ev σ x = some u) (hsrc : ∀ w,Ext w0 w → Src w sz u cs) (h1 : cs.all (·.oneCell') = true)
  (hbound : (([] : List Value).length + cs.length) * bytes ≤ 140737488355328) (hby0 : 0 < bytes) : Tj P n σ w0 ⟨some d,.call { callee:=.builtin .append,args:=#[.tmp dl,x],argTypes:=#[t,t] },ty,pos,af,g⟩ ⟨i,d,sz,cs,false,some (l,dl),none⟩:=fun a w ha hE hd=>by
 obtain ⟨vl,hvl,hown,a0,k0,rfl⟩:=hd l dl rfl
 obtain ⟨v',w',hr,ho,_,hb,he⟩:=Gf hT ty hown (hsrc w hE) h1 (by simpa using hbound) hby0 hE.size (Nat.le_refl _)
 have hX:=he a0 k0 rfl
 refine Ub (w':=w') (v:=v') ?_ ⟨_,_,rfl,hX,⟨by simpa using ho,rfl⟩,fun h=>by simp at h,fun g hg=>?_⟩
 ·have hv : a.eval (.tmp dl) = .slice a0 k0 0:=by simp [Act.eval,Array.getD_eq_getD_getElem?,hvl]
  simp [execOp,resolve,invoke,builtin,hv,ha.eval hx,hr]
 ·rcases hb g (mem_blks.1 hg) with h | h
  ·exact .inr ⟨l,dl,_,rfl,hvl,h⟩
  ·exact .inl h
theorem Vs {t e sz bytes : Nat} {z cs : List Value} {x y : Operand} {m : Nat} (hT : SlT P t e sz bytes z) (hx : ev σ x = some (.int .i64 m)) (hy : ev σ y = some (.int .i64 m)) (hm : m * bytes ≤ 2 ^ 47) (hb : 0 < bytes) (hcs : (List.replicate m z).flatten = cs) (hl : cs.length = m * sz) :
  Tj P n σ w0 ⟨some d,.makeSlice t x y,ty,pos,af,none⟩ ⟨i,d,sz,cs,false,none,none⟩:=fun a w ha hE _=>by
 obtain ⟨w',hr,hX,hB⟩:=run_mk (w:=w) (d:=some d) (ty:=ty) (pos:=pos) (af:=af) (g:=none) hT (ha.eval hx) (ha.eval hy) hm hb
 have hmm : m ≤ maxLen:=by
  have:=Nat.le_trans (Nat.le_mul_of_pos_right m hb) hm
  unfold maxLen;omega
 exact Ub hr ⟨_,_,rfl,hX,⟨Own.ofBlk (hcs ▸ hB) hE.size (hcs ▸ hB).lt hl hmm,rfl⟩,fun h=>by simp at h,fun g hg=>.inl (by cases mem_blks.1 hg;exact Nat.le_refl _)⟩
theorem step_call {f : FuncId} {args : List Operand} {ats : Array TypeId} {vs cs : List Value} {sz : Nat} (hf : ∀ args w,(callFunc f args).run P w = .ok (.enter f args) w) (hv : evs σ args = some vs) (hc : ∀ w,Ext w0 w → Ct P f vs w (fun v w'=>Own w' w.heap.size w'.heap.size sz v cs)) :
  Tj P n σ w0 ⟨some d,.call { callee:=.value (.func f),args:=args.toArray,argTypes:=ats },ty,pos,af,g⟩ ⟨i,d,sz,cs,false,none,none⟩:=fun a w ha hE _=>by
 have hm:=G2 ha args vs hv
 have hx : (execOp a.eval ⟨some d,.call { callee:=.value (.func f),args:=args.toArray,argTypes:=ats },ty,pos,af,g⟩).run P w = .ok (.enter f vs.toArray) w:=by
  simp [execOp,resolve,Deferred.ofValue,Act.eval,invoke,hm,hf]
 unfold Oper.wp
 rw [hx]
 show Calls P f vs.toArray w _
 refine Calls.mono (hc w hE) fun e w' ⟨v,he,hX,hO⟩=>?_
 subst he
 exact ⟨v,_,rfl,hX,⟨hO.widen hE.size (Nat.le_refl _),rfl⟩,fun h=>by simp at h,fun g hg=>.inl (hO.blk g (mem_blks.1 hg)).1⟩
end
end Go.Proofs.YtcpjlfikdobckaaGreat.X

namespace Go.Proofs.YtcpjlfikdobckaaGreat.X
open Go
open Enc (enc)
theorem flat_gen {n : Nat} : ∀ (css : List (List Value)),(∀ c ∈ css,c.length = n) → ∀ (i j : Nat) (c : List Value),css[i]? = some c → j < n → css.flatten[i * n + j]? = c[j]?
 | [],_,i,j,c,hc,_=>by simp at hc
 | c :: css,h,0,j,c',hc,hj=>by
  simp only [List.getElem?_cons_zero,Option.some.injEq] at hc
  subst hc
  rw [List.flatten_cons,Nat.zero_mul,Nat.zero_add,List.getElem?_append_left (by rw [h _ (by simp)];exact hj)]
 | c :: css,h,i + 1,j,c',hc,hj=>by
  have hl:=h c (by simp)
  rw [List.flatten_cons,List.getElem?_append_right (by rw [hl,Nat.add_mul];omega),hl]
  rw [show (i + 1) * n + j - n = i * n + j from by rw [Nat.add_mul];omega]
  exact flat_gen css (fun c hc=>h c (by simp [hc])) i j c' (by simpa using hc) hj
section
variable {α : Type} [Own1 α] {w w' : World} {lo hi : Nat} {v : Value} {as bs : List α} {cs : List Value}
theorem Row.rdl (h : Row w lo hi v as cs bs) : RdL w (Dat.sz α) (fun _ (_ : Unit)=>True) v (List.replicate (as.length + 1 + bs.length) ()):=by
 obtain ⟨ca,cb,h1,ha,hb,hl,hn⟩:=h
 have hla:=All2.length ha
 have hlb:=All2.length hb
 have hlen : ∀ c ∈ ca ++ cs :: cb,c.length = Dat.sz α:=fun c hc=>by
  rcases List.mem_append.1 hc with hc | hc
  ·exact Gq ha c hc
  ·rcases List.mem_cons.1 hc with rfl | hc
   ·exact hl
   ·exact Gq hb c hc
 have hsum : ∀ {l : List (List Value)},(∀ c ∈ l,c.length = Dat.sz α) → l.flatten.length = l.length * Dat.sz α:=by
  intro l
  induction l with
  | nil=>intro _;simp
  | cons c l ih=>intro h;simp only [List.flatten_cons,List.length_append,h c (by simp),ih fun c hc=>h c (by simp [hc]),List.length_cons,Nat.add_mul];omega
 have hcl : (ca ++ cs :: cb).length = as.length + 1 + bs.length:=by simp [hla,hlb];omega
 rcases h1 with ⟨rfl,hc⟩ | ⟨g,off,len,cap,cur,T,rfl,h1,h2,hw,h4,h5,h6,h7,h8⟩
 ·have:=hsum hlen
  rw [hc,hcl] at this
  have hp:=Nat.mul_pos (show 0 < as.length + 1 + bs.length by omega) (Dat.pos (α:=α))
  simp at this;omega
 ·rw [hsum hlen,hcl] at h7
  have:=Nat.eq_of_mul_eq_mul_right (Dat.pos (α:=α)) h7
  subst this
  refine ⟨by simp only [List.length_replicate];omega,.inr ⟨g,off,none,cap,ca ++ cs :: cb,by simp,by simpa using h4,fun _=>rfl,fun i c hi=>?_,All2.of_get (by rw [hcl];simp) fun _ _ _=>trivial⟩⟩
  have hm : c ∈ ca ++ cs :: cb:=List.mem_of_getElem? hi
  refine ⟨hlen c hm,cur,T,(0,0),hw,fun j u hj=>?_⟩
  have hjl:=(List.getElem?_eq_some_iff.1 hj).1
  rw [Nat.add_assoc]
  exact h8 _ u (by rw [flat_gen _ hlen i j c hi (by rw [← hlen c hm];exact hjl)];exact hj)
theorem Row.same1 {i n : Nat} (h : Row w lo hi v as cs bs) (hi' : as.length = i) (hn : i + 1 + bs.length = n) : RdL w (Dat.sz α) (fun _ (_ : Unit)=>True) v (List.replicate n ()):=by
 subst hi' hn;exact h.rdl
end
section
variable {P : Program} {ops : Array Oper} {D : Bool} {n : Nat} {K : Act → World → Prop} {l : List (Bool × Oper)} {σ : Ki} {w : World} {ty : TypeId} {pos : String} {af : Array Edge}
end
def regTOK (ops : Array Oper) (κ1 : List (Nat × Bool)) (i j : Nat) (κa κb : List (Nat × Bool)) : Bool :=
 Region.noSelect ops && (κ1.length + (κa.length + 1) == ops.size) && (κa.length == κb.length) && match K5 [] ops κ1 (Array.replicate ops.size false) with
  | some L=>(Region.ready .any ops L == [i,j]) && Up [] ops κa (L.setIfInBounds i true) && Up [] ops κb (L.setIfInBounds j true)
  | none=>false
section
variable {P : Program} {n : Nat} {Q : Exit → Act → World → Prop} {cs : List Code} {σ : Ki} {w : World}
end
theorem Own.modN {w w' : World} {lo hi sz : Nat} {v : Value} {cs : List Value} {x : Option Nat} (h : Own w lo hi sz v cs) (m : Mod w w' x) (hx : ∀ g,x = some g → v.ownBlock = some g → False) : Own w' lo hi sz v cs:=by
 rcases h with h | ⟨g,off,len,cap,cur,T,rfl,h1,h2,hb,h3⟩
 ·exact .inl h
 ·exact .inr ⟨g,off,len,cap,cur,T,rfl,h1,h2,m.some hb (fun e=>hx g e rfl),h3⟩
end Go.Proofs.YtcpjlfikdobckaaGreat.X

namespace Go.Proofs.YtcpjlfikdobckaaGreat.X
open Go
theorem T5 {X : List Nat} {ops : Array Oper} {i : Nat} {o : Oper} (ho : ops[i]? = some o) (hst : Gp o = false) (hX : X.contains i = false) : Hu X ops i = false:=by simp only [Hu,hX,ho,Option.any_some,hst];rfl
def Off (d : Nat) (a a1 : Act) : Prop:=a1.tmps.size = a.tmps.size ∧ a1.defers = a.defers ∧ ∀ i,i ≠ d → a1.tmps[i]? = a.tmps[i]?
theorem Off.refl (d : Nat) (a : Act) : Off d a a:=⟨rfl,rfl,fun _ _=>rfl⟩
theorem Off.trans {d : Nat} {a b c : Act} (h : Off d a b) (k : Off d b c) : Off d a c:=⟨k.1.trans h.1,k.2.1.trans h.2.1,fun i hi=>(k.2.2 i hi).trans (h.2.2 i hi)⟩
theorem Off.put (d : Nat) (a : Act) (v : Value) : Off d a (a.put (some d) v):=⟨by simp [Act.put],rfl,fun i hi=>Cy (Ne.symm hi)⟩
theorem Off.fits {n d : Nat} {σ : Ki} {a a1 : Act} (h : Off d a a1) (hd : look σ d = none) (hf : Fits n σ a) : Fits n σ a1 :=
 ⟨h.1.trans hf.size,h.2.1.trans hf.dfr,fun i v hi=>by
  by_cases e : i = d
  ·subst e;rw [hd] at hi;cases hi
  ·rw [h.2.2 i e];exact hf.get i v hi⟩
theorem Us {a : Act} {dst : Option Tmp} {v : Value} : ∀ i,dst ≠ some i → (a.put dst v).tmps[i]? = a.tmps[i]?:=fun i hi=>by
 cases dst with
 | none=>rfl
 | some j=>exact Cy (fun e=>hi (by rw [e]))
theorem wp_shape {P : Program} {o : Oper} {a : Act} {w : World} {K : Act → World → Prop} (hh : o.wp P a w K NoQ) : o.wp P a w (fun a' w'=>K a' w' ∧ ∀ i,o.dst ≠ some i → a'.tmps[i]? = a.tmps[i]?) NoQ:=by
 unfold Oper.wp at *
 generalize (execOp a.eval o).run P w = r at *
 cases r with
 | ok n w' =>
  cases n <;> simp only [Oper.upon] at hh ⊢ <;>
   first
    | exact ⟨hh,Us⟩
    | exact Calls.mono hh (fun e w'' he=>by cases e <;> first | exact ⟨he,Us⟩ | exact he.elim | exact he)
    | exact Rows.mono hh (fun _ _ he=>⟨he,Us⟩)
    | exact ⟨hh,fun i hi=>Us (a:={ a with defers:=_ }) i hi⟩
 | halt x w'=>cases x <;> simp only [Oper.upon] at hh ⊢ <;> exact hh
theorem wp_size {P : Program} {o : Oper} {a : Act} {w : World} {K : Act → World → Prop} (hh : o.wp P a w K NoQ) : o.wp P a w (fun a' w'=>K a' w' ∧ a'.tmps.size = a.tmps.size) NoQ:=by
 have hput : ∀ (a : Act) (dst : Option Tmp) (v : Value),(a.put dst v).tmps.size = a.tmps.size:=fun a dst v=>by cases dst <;> simp [Act.put]
 unfold Oper.wp at *
 generalize (execOp a.eval o).run P w = r at *
 cases r with
 | ok n w' =>
  cases n <;> simp only [Oper.upon] at hh ⊢ <;>
   first
    | exact ⟨hh,hput _ _ _⟩
    | exact Calls.mono hh (fun e w'' he=>by cases e <;> first | exact ⟨he,hput _ _ _⟩ | exact he.elim | exact he)
    | exact Rows.mono hh (fun _ _ he=>⟨he,hput _ _ _⟩)
 | halt x w'=>cases x <;> simp only [Oper.upon] at hh ⊢ <;> exact hh
section
variable (P : Program) (ops : Array Oper) (d b0 : Nat) (vf : Nat → Value) (z : List Value) (KE : Act → World → Prop)
def wpI : List (Bool × Oper) → List (Nat × Nat) → Act → World → Prop
 | [],I,a,w=>∀ b a1 w1,Ext w w1 → Off d a a1 → a1.tmps[d]? = some (vf b) → b0 ≤ b → b < w1.heap.size → Blk w1 b z → (∀ p ∈ I,b < p.1 ∨ p.2 ≤ b) → KE a1 w1
 | (true,o) :: l,I,a,w=>∃ v,Yl P ops o a w v ∧ wpI l I (a.put o.dst v) w
 | (false,o) :: l,I,a,w=>∀ a1 w1,Ext w w1 → Off d a a1 → if Region.wanted o (yielded ops a1.tmps) then o.wp P a1 w1 (fun a' w'=>(Gp o = false → Ext w1 w') ∧ wpI l (I ++ [(w1.heap.size,w'.heap.size)]) a' w') NoQ else wpI l I (a1.put o.dst undef) w1
end
section
variable {P : Program} {ops : Array Oper} {d b0 : Nat} {vf : Nat → Value} {z : List Value} {KE : Act → World → Prop}
theorem wpI_off {l : List (Bool × Oper)} {I : List (Nat × Nat)} {a a1 : Act} {w w1 : World} (h : wpI P ops d b0 vf z KE l I a w) (hl : ∀ o l',l ≠ (true,o) :: l') (e : Ext w w1) (hO : Off d a a1) : wpI P ops d b0 vf z KE l I a1 w1:=by
 match l,hl with
 | [],_=>exact fun b a2 w2 e2 h2=>h b a2 w2 (e.trans e2) (hO.trans h2)
 | (true,o) :: l,hl=>exact absurd rfl (hl o l)
 | (false,o) :: l,_=>exact fun a2 w2 e2 h2=>h a2 w2 (e.trans e2) (hO.trans h2)
end
def eager2 (X : List Nat) (ops : Array Oper) : List (Nat × Bool) → Array Bool → Bool
 | (i,false) :: κ,L=>bif X.contains i then (Region.ready .any ops L == [i]) && Up X ops κ (L.setIfInBounds i true) else Up X ops ((i,false) :: κ) L
 | κ,L=>Up X ops κ L
def C4 (P : Program) (ops : Array Oper) (X : List Nat) (K : Act → World → Prop) : List (Nat × Bool) → List (Bool × Oper) → Act → World → Prop
 | (i,false) :: κ,p :: l=>bif X.contains i then Gs P ops false (Gs P ops true K l) [p] else Gs P ops true K (p :: l)
 | _,l=>Gs P ops true K l
theorem Hb {P : Program} {ops : Array Oper} {X : List Nat} {K : Act → World → Prop} (hs : Region.noSelect ops = true) (κ : List (Nat × Bool)) (l : List (Bool × Oper)) (listed : Array Bool) (a : Act) (w : World) (hp : Y0 ops κ = some l) (he : eager2 X ops κ listed = true)
  (h : C4 P ops X K κ l a w) : Xu P ops X (Vr K) (Ext w) κ.length listed a w:=by
 match κ,l,hp,he,h with
 | [],l,hp,he,h=>exact Xt hs [] l listed a w hp he h
 | (i,true) :: κ,l,hp,he,h=>exact Xt hs _ l listed a w hp he h
 | (i,false) :: κ,[],hp,he,h =>
  simp only [Y0] at hp
  split at hp <;> cases hp
 | (i,false) :: κ,p :: l,hp,he,h =>
  simp only [eager2] at he
  simp only [C4] at h
  cases hX : X.contains i with
  | false =>
   rw [hX] at he h
   exact Xt hs _ _ listed a w hp he h
  | true =>
   rw [hX] at he h
   simp only [cond_true,Bool.and_eq_true,beq_iff_eq] at he h
   obtain ⟨hr,he⟩:=he
   simp only [Y0] at hp
   split at hp
   ·rename_i o l' ho hl'
    simp only [Option.some.injEq,List.cons.injEq] at hp
    obtain ⟨rfl,rfl⟩:=hp
    rw [List.length_cons]
    refine ⟨fun h0=>(by rw [h0] at hr;cases hr),fun j hj=>?_⟩
    rw [hr] at hj
    obtain rfl : j = i:=by simpa using hj
    have hst : Hu X ops j = true:=by simp only [Hu,hX,Bool.true_or]
    unfold wpOp
    simp only [ho]
    unfold Gs at h
    split at h
    ·rename_i hw
     rw [if_pos hw]
     exact .inl (Kj (fun a' w' h'=>⟨fun hc=>(by rw [hst] at hc;cases hc),fun _=>Xy _ _ _ _ (Xt hs κ l' _ a' w' hl' he h'.2)⟩) (fun _ _ _ h=>h.elim) h)
    ·rename_i hw
     rw [if_neg hw]
     exact ⟨fun hc=>(by rw [hst] at hc;cases hc),fun _=>Xy _ _ _ _ (Xt hs κ l' _ _ w hl' he h)⟩
   ·cases hp
def Vo (X : List Nat) (ops : Array Oper) (f d : Nat) : List (Nat × Bool) → List (Nat × Bool) → Array Bool → Bool
 | κ2,[],L=>(Region.ready .any ops L == [f]) && eager2 X ops κ2 (L.setIfInBounds f true)
 | κ2,(i,true) :: κ,L=>(ops[i]?).any (fun o=>!(o.dst == some d)) && Region.free .any ops L i && (Region.ready .any ops L).contains i && eagW X ops L i && Region.free .any ops (L.setIfInBounds f true) i && (Region.ready .any ops (L.setIfInBounds f true)).contains i && eagW X ops (L.setIfInBounds f true) i &&
   !(i == f) && Vo X ops f d κ2 κ (L.setIfInBounds i true)
 | κ2,(i,false) :: κ,L=>(ops[i]?).any (fun o=>!(o.dst == some d) && !Gp o && !X.contains i) && ((Region.ready .any ops L == [i,f]) || (Region.ready .any ops L == [f,i])) && (Region.ready .any ops (L.setIfInBounds f true) == [i]) && !(i == f) && Vo X ops f d κ2 κ (L.setIfInBounds i true)
theorem Hv {L : Array Bool} {i f : Nat} : (L.setIfInBounds f true).setIfInBounds i true = (L.setIfInBounds i true).setIfInBounds f true:=by
 apply Array.ext_getElem?
 intro j
 simp only [Array.getElem?_setIfInBounds,Array.size_setIfInBounds]
 by_cases h1 : f = j <;> by_cases h2 : i = j <;> simp [h1,h2]
section
variable {P : Program} {ops : Array Oper} {X : List Nat} {f d b0 : Nat} {vf : Nat → Value} {z : List Value} {K : Act → World → Prop} {l2 : List (Bool × Oper)} {κ2 : List (Nat × Bool)}
theorem G1 (hs : Region.noSelect ops = true) (hl2 : Y0 ops κ2 = some l2) :
  ∀ (κ : List (Nat × Bool)) (l : List (Bool × Oper)) (I : List (Nat × Nat)) (L : Array Bool) (a : Act) (w : World) (b : Nat),Y0 ops κ = some l → Vo X ops f d κ2 κ L = true →
   a.tmps[d]? = some (vf b) → b0 ≤ b → b < w.heap.size → Blk w b z → (∀ p ∈ I,b < p.1 ∨ p.2 ≤ b) → wpI P ops d b0 vf z (C4 P ops X K κ2 l2) l I a w →
   Xu P ops X (Vr K) (Ext w) (κ.length + κ2.length) (L.setIfInBounds f true) a w
 | [],l,I,L,a,w,b,hp,he,h1,h2,h3,h4,h5,h=>by
  simp only [Y0,Option.some.injEq] at hp
  subst hp
  simp only [Vo,Bool.and_eq_true] at he
  have:=Hb hs κ2 l2 _ a w hl2 he.2 (h b a w (Ext.refl w) (Off.refl d a) h1 h2 h3 h4 h5)
  simpa using this
 | (i,true) :: κ,l,I,L,a,w,b,hp,he,h1,h2,h3,h4,h5,h=>by
  simp only [Y0] at hp
  split at hp
  ·rename_i o l' ho hl'
   simp only [Option.some.injEq] at hp
   subst hp
   simp only [Vo,Bool.and_eq_true,ho,Option.any_some,Bool.not_eq_true',beq_eq_false_iff_ne] at he
   obtain ⟨⟨⟨⟨⟨⟨⟨⟨hdst,_⟩,_⟩,_⟩,hf⟩,hr⟩,hw⟩,hif⟩,he⟩:=he
   obtain ⟨v,hy,h⟩:=h
   have ih:=G1 hs hl2 κ l' I _ _ w b hl' he (by rw [Us d hdst];exact h1) h2 h3 h4 h5 h
   rw [← Hv] at ih
   rw [List.length_cons,show κ.length + 1 + κ2.length = (κ.length + κ2.length) + 1 from by omega]
   exact Gu hs ho (fun c a w h=>h.elim) hf (by simpa using hr) hw (fun _ h=>h) (Ext.refl w) hy ih
  ·cases hp
 | (i,false) :: κ,l,I,L,a,w,b,hp,he,h1,h2,h3,h4,h5,h=>by
  simp only [Y0] at hp
  split at hp
  ·rename_i o l' ho hl'
   simp only [Option.some.injEq] at hp
   subst hp
   simp only [Vo,Bool.and_eq_true,ho,Option.any_some,Bool.not_eq_true',beq_eq_false_iff_ne,beq_iff_eq] at he
   obtain ⟨⟨⟨⟨⟨⟨hdst,hst⟩,hX⟩,_⟩,hr⟩,hif⟩,he⟩:=he
   rw [List.length_cons,show κ.length + 1 + κ2.length = (κ.length + κ2.length) + 1 from by omega]
   refine ⟨fun h0=>(by rw [h0] at hr;cases hr),fun j hj=>?_⟩
   rw [hr] at hj
   obtain rfl : j = i:=by simpa using hj
   unfold wpOp
   simp only [ho,Option.any_some]
   have h:=h a w (Ext.refl w) (Off.refl d a)
   split at h
   ·rename_i hw
    rw [if_pos hw]
    refine .inl (Kj (fun a' w' h'=>?_) (fun _ _ _ h=>h.elim) (wp_shape h))
    obtain ⟨⟨hx,h'⟩,hk⟩:=h'
    have hx:=hx hst
    have hrest:=G1 hs hl2 κ l' (I ++ [(w.heap.size,w'.heap.size)]) _ a' w' b hl' he (by rw [hk d hdst];exact h1) h2 (Nat.lt_of_lt_of_le h3 hx.size) (h4.ext hx) (fun p hp=>by
     rcases List.mem_append.1 hp with hp | hp
     ·exact h5 p hp
     ·simp at hp;subst hp;exact .inl h3) h'
    rw [← Hv] at hrest
    exact ⟨fun _=>⟨hx,Kh (fun w'' e=>hx.trans e) _ _ _ _ hrest⟩,fun hc=>by rw [T5 ho hst hX] at hc;cases hc⟩
   ·rename_i hw
    rw [if_neg hw]
    have hrest:=G1 hs hl2 κ l' I _ _ w b hl' he (by rw [Us d hdst];exact h1) h2 h3 h4 h5 h
    rw [← Hv] at hrest
    exact ⟨fun _=>⟨Ext.refl w,hrest⟩,fun hc=>by rw [T5 ho hst hX] at hc;cases hc⟩
  ·cases hp
theorem float_pend {n : Nat} {of : Oper} {G : Act → Prop} (hs : Region.noSelect ops = true) (hl2 : Y0 ops κ2 = some l2) (hof : ops[f]? = some of) (hofd : of.dst = some d) (hofg : of.guard = none) (hofs : Gp of = false) (hfX : X.contains f = false)
  (hrun : ∀ a w,G a → ∃ e,(execOp a.eval of).run P w = .ok (.value (vf w.heap.size)) (w.alloc (.cells z.toArray e))) (hdn : d < n) :
  ∀ (κ : List (Nat × Bool)) (l : List (Bool × Oper)) (I : List (Nat × Nat)) (L : Array Bool) (a : Act) (w : World),Y0 ops κ = some l → Vo X ops f d κ2 κ L = true →
   (∀ i t o,(i,t) ∈ κ → ops[i]? = some o → ∀ a a' : Act,(∀ q,o.dst ≠ some q → a'.tmps[q]? = a.tmps[q]?) → G a → G a') → G a → a.tmps.size = n → b0 ≤ w.heap.size → (∀ p ∈ I,p.2 ≤ w.heap.size) → wpI P ops d b0 vf z (C4 P ops X K κ2 l2) l I a w →
   Xu P ops X (Vr K) (Ext w) (κ.length + (1 + κ2.length)) L a w:=by
 have hwant : ∀ a : Act,Region.wanted of (yielded ops a.tmps) = true:=fun a=>by simp [Region.wanted,hofg]
 -- 'f' comes up
 have hf : ∀ (κ : List (Nat × Bool)) (l : List (Bool × Oper)) (I : List (Nat × Nat)) (L : Array Bool) (a : Act) (w : World),Y0 ops κ = some l → Vo X ops f d κ2 κ L = true →
   G a → a.tmps.size = n → b0 ≤ w.heap.size → (∀ p ∈ I,p.2 ≤ w.heap.size) → (∀ o l',l ≠ (true,o) :: l') → wpI P ops d b0 vf z (C4 P ops X K κ2 l2) l I a w →
   wpOp P ops (Vr K) f (fun a' w'=>((Hu X ops f = false → Ext w w' ∧ Xu P ops X (Vr K) (Ext w) (κ.length + κ2.length) (L.setIfInBounds f true) a' w') ∧ (Hu X ops f = true → wpAny P .any ops (Vr K) (κ.length + κ2.length) (L.setIfInBounds f true) a' w'))) a w:=fun κ l I L a w hp he hG hn hb0 hI hl h=>by
  unfold wpOp
  simp only [hof,Option.any_some]
  rw [if_pos (hwant a)]
  obtain ⟨e,hr⟩:=hrun a w hG
  refine .inl (Ub (w':=w.alloc (.cells z.toArray e)) (v:=vf w.heap.size) hr ?_)
  rw [hofd]
  have hx:=Ext.alloc w (.cells z.toArray e)
  have hB : Blk (w.alloc (.cells z.toArray e)) w.heap.size z:=by simpa using Blk.new w z.toArray e
  have hd' : d < a.tmps.size:=by rw [hn];exact hdn
  have:=G1 hs hl2 κ l I L _ _ w.heap.size hp he (put_self hd') hb0 hB.lt hB (fun p hp=>.inr (hI p hp)) (wpI_off h hl hx (Off.put d a _))
  exact ⟨fun _=>⟨hx,Kh (fun w'' e=>hx.trans e) _ _ _ _ this⟩,fun hc=>by rw [T5 hof hofs hfX] at hc;cases hc⟩
 intro κ
 induction κ with
 | nil =>
  intro l I L a w hp he hGc hG hn hb0 hI h
  have he':=he
  simp only [Y0,Option.some.injEq] at hp
  simp only [Vo,Bool.and_eq_true,beq_iff_eq] at he'
  rw [List.length_nil,Nat.zero_add,Nat.add_comm]
  refine ⟨fun h0=>(by rw [h0] at he';cases he'.1),fun j hj=>?_⟩
  rw [he'.1] at hj
  obtain rfl : j = f:=by simpa using hj
  have:=hf [] l I L a w (by simp [Y0,hp]) he hG hn hb0 hI (fun o l' hc=>by rw [← hp] at hc;cases hc) h
  simpa using this
 | cons p κ ih =>
  obtain ⟨i,t⟩:=p
  intro l I L a w hp he hGc hG hn hb0 hI h
  have hGc' : ∀ i t o,(i,t) ∈ κ → ops[i]? = some o → ∀ a a' : Act,(∀ q,o.dst ≠ some q → a'.tmps[q]? = a.tmps[q]?) → G a → G a':=fun i t o hm=>hGc i t o (List.mem_cons_of_mem _ hm)
  have hp0:=hp
  have he0:=he
  simp only [Y0] at hp
  split at hp
  ·rename_i o l' ho hl'
   simp only [Option.some.injEq] at hp
   subst hp
   rw [List.length_cons,show κ.length + 1 + (1 + κ2.length) = (κ.length + (1 + κ2.length)) + 1 from by omega]
   cases t with
   | true =>
    simp only [Vo,Bool.and_eq_true] at he
    obtain ⟨⟨⟨⟨⟨⟨⟨⟨hdst,hf1⟩,hr⟩,hw⟩,_⟩,_⟩,_⟩,_⟩,he⟩:=he
    obtain ⟨v,hy,h⟩:=h
    have ih:=ih l' I _ _ w hl' he hGc' (hGc i true o (by simp) ho _ _ Us hG) (by cases hq : o.dst <;> simp [Act.put,hn]) hb0 hI h
    exact Gu hs ho (fun c a w h=>h.elim) hf1 (by simpa using hr) hw (fun _ h=>h) (Ext.refl w) hy ih
   | false =>
    simp only [Vo,Bool.and_eq_true,ho,Option.any_some,Bool.not_eq_true',Bool.or_eq_true,beq_iff_eq] at he
    obtain ⟨⟨⟨⟨⟨⟨hdst,hst⟩,hX⟩,hr⟩,hr2⟩,hif⟩,he⟩:=he
    refine ⟨fun h0=>(by rcases hr with hr | hr <;> (rw [h0] at hr;cases hr)),fun j hj=>?_⟩
    have hj' : j = i ∨ j = f:=by
     rcases hr with hr | hr
     ·rw [hr] at hj;simpa using hj
     ·rw [hr] at hj
      rcases List.mem_cons.1 hj with hj | hj
      ·exact .inr hj
      ·exact .inl (by simpa using hj)
    rcases hj' with rfl | rfl
    ·have h:=h a w (Ext.refl w) (Off.refl d a)
     unfold wpOp
     simp only [ho,Option.any_some]
     split at h
     ·rename_i hw
      rw [if_pos hw]
      refine .inl (Kj (fun a' w' h'=>?_) (fun _ _ _ h=>h.elim) (wp_size (wp_shape h)))
      obtain ⟨⟨⟨hx,h'⟩,hkp⟩,hk⟩:=h'
      have hx:=hx hst
      have hrest:=ih l' (I ++ [(w.heap.size,w'.heap.size)]) _ a' w' hl' he hGc' (hGc j false o (by simp) ho _ _ hkp hG) (by rw [hk];exact hn) (Nat.le_trans hb0 hx.size) (fun p hp=>by
       rcases List.mem_append.1 hp with hp | hp
       ·exact Nat.le_trans (hI p hp) hx.size
       ·simp at hp;subst hp;exact Nat.le_refl _) h'
      exact ⟨fun _=>⟨hx,Kh (fun w'' e=>hx.trans e) _ _ _ _ hrest⟩,fun hc=>by rw [T5 ho hst hX] at hc;cases hc⟩
     ·rename_i hw
      rw [if_neg hw]
      have hrest:=ih l' I _ _ w hl' he hGc' (hGc j false o (by simp) ho _ _ Us hG) (by cases hq : o.dst <;> simp [Act.put,hn]) hb0 hI h
      exact ⟨fun _=>⟨Ext.refl w,hrest⟩,fun hc=>by rw [T5 ho hst hX] at hc;cases hc⟩
    ·have:=hf ((i,false) :: κ) _ I L a w hp0 he0 hG hn hb0 hI (fun o l' hc=>by cases hc) h
     rw [List.length_cons,show κ.length + 1 + κ2.length = κ.length + (1 + κ2.length) from by omega] at this
     exact this
  ·cases hp
end
def regFOK (X : List Nat) (ops : Array Oper) (n f d : Nat) (ks : List Nat) (κ1 κ κ2 : List (Nat × Bool)) : Bool :=
 Region.noSelect ops && !X.contains f && (κ1.length + (κ.length + (1 + κ2.length)) == ops.size) && Nat.blt d n && (κ.all fun p=>match (ops[p.1]?).bind (·.dst) with
  | some q=>!ks.contains q
  | none=>true) && match K5 X ops κ1 (Array.replicate ops.size false) with
  | some L=>Vo X ops f d κ2 κ L
  | none=>false
theorem Cc : ∀ {σ : Ki} {i : Nat},((σ.map (·.1)).contains i) = false → look σ i = none
 | [],_,_=>rfl
 | (j,v) :: σ,i,h=>by
  simp only [List.map_cons,List.contains_cons,Bool.or_eq_false_iff] at h
  have hb : Nat.beq i j = false:=by
   have:=h.1
   simp only [beq_eq_false_iff_ne] at this
   cases hq : Nat.beq i j with
   | false=>rfl
   | true=>exact absurd (Nat.eq_of_beq_eq_true hq) this
  simp only [look,hb,cond_false]
  exact Cc h.2
section
variable {P : Program} {ops : Array Oper} {n d b0 : Nat} {vf : Nat → Value} {z : List Value} {KE : Act → World → Prop} {l : List (Bool × Oper)} {I : List (Nat × Nat)} {σ : Ki} {w : World}
def JI (P : Program) (ops : Array Oper) (n d b0 : Nat) (vf : Nat → Value) (z : List Value) (KE : Act → World → Prop) (l : List (Bool × Oper)) (I : List (Nat × Nat)) (σ : Ki) (w : World) : Prop:=∀ a,Fits n σ a → wpI P ops d b0 vf z KE l I a w
def wpI1 (P : Program) (ops : Array Oper) (d b0 : Nat) (vf : Nat → Value) (z : List Value) (KE : Act → World → Prop) (l : List (Bool × Oper)) (I : List (Nat × Nat)) : Act → World → Prop:=fun a w=>wpI P ops d b0 vf z KE l I a w
def wpI2 (P : Program) (ops : Array Oper) (d b0 : Nat) (vf : Nat → Value) (z : List Value) (KE : Act → World → Prop) (l : List (Bool × Oper)) (I : List (Nat × Nat)) (w1 : World) : Act → World → Prop:=fun a w=>wpI P ops d b0 vf z KE l (I ++ [(w1.heap.size,w.heap.size)]) a w
theorem JI_un {o : Oper} (hd : look σ d = none) (h : ∀ w1,Ext w w1 → J P ops true n (wpI2 P ops d b0 vf z KE l I w1) [(false,o)] σ w1) (hg : o.guard = none) : JI P ops n d b0 vf z KE ((false,o) :: l) I σ w:=fun a ha a1 w1 e hO=>by
 have:=h w1 e a1 (hO.fits hd ha)
 have hw : Region.wanted o (yielded ops a1.tmps) = true:=by simp [Region.wanted,hg]
 unfold Gs at this
 rw [if_pos hw] at this
 show (if _ then _ else _)
 rw [if_pos hw]
 exact Kj (fun a' w' h'=>⟨h'.1 rfl,h'.2⟩) (fun _ _ _ h=>h) this
theorem JI_go2 {w1 : World} (h : JI P ops n d b0 vf z KE l (I ++ [(w1.heap.size,w.heap.size)]) σ w) : J P ops true n (wpI2 P ops d b0 vf z KE l I w1) [] σ w:=fun a ha=>h a ha
def J2 (P : Program) (ops : Array Oper) (X : List Nat) (n : Nat) (K : Act → World → Prop) (κ2 : List (Nat × Bool)) (l2 : List (Bool × Oper)) (σ : Ki) (w : World) : Prop:=∀ a,Fits n σ a → C4 P ops X K κ2 l2 a w
theorem J2_X {X : List Nat} {K : Act → World → Prop} {κ2 : List (Nat × Bool)} {p : Bool × Oper} {l3 : List (Bool × Oper)} (hq : C4 P ops X K κ2 (p :: l3) = Gs P ops false (Gs P ops true K l3) [p]) (h : J P ops false n (Gs P ops true K l3) [p] σ w) : J2 P ops X n K κ2 (p :: l3) σ w:=fun a ha=>by rw [hq];exact h a ha
theorem J2_sub {X : List Nat} {K : Act → World → Prop} {κ2 : List (Nat × Bool)} {l2 : List (Bool × Oper)} (σ' : Ki) (h : Sub σ' σ) (hs : J2 P ops X n K κ2 l2 σ' w) : J2 P ops X n K κ2 l2 σ w:=fun a ha=>hs a (ha.sub h)
theorem Bp {K : Act → World → Prop} {l3 : List (Bool × Oper)} (h : J P ops true n K l3 σ w) : J P ops false n (Gs P ops true K l3) [] σ w:=fun a ha=>h a ha
theorem JI_end {X : List Nat} {κ2 : List (Nat × Bool)} {K : Act → World → Prop} {l2 : List (Bool × Oper)} (hd : look σ d = none) (h : ∀ b w1,Ext w w1 → b0 ≤ b → b < w1.heap.size → Blk w1 b z → (∀ p ∈ I,b < p.1 ∨ p.2 ≤ b) → J2 P ops X n K κ2 l2 ((d,vf b) :: σ) w1) :
  JI P ops n d b0 vf z (C4 P ops X K κ2 l2) [] I σ w:=fun a ha b a1 w1 e hO hp h1 h2 h3 h4=>by
 refine h b w1 e h1 h2 h3 h4 a1 ?_
 have hf:=hO.fits hd ha
 refine ⟨hf.size,hf.dfr,fun i v hi=>?_⟩
 simp only [look] at hi
 cases hb : Nat.beq i d with
 | true =>
  have : i = d:=Nat.eq_of_beq_eq_true hb
  subst this
  simp only [hb,cond_true,Option.some.injEq] at hi
  subst hi;exact hp
 | false =>
  simp only [hb,cond_false] at hi
  exact hf.get i v hi
end
section
variable {P : Program} {n : Nat} {Q : Exit → Act → World → Prop} {cs : List Code} {σ : Ki} {w : World}
def Gets (σ : Ki) (a : Act) : Prop:=∀ i v,look σ i = some v → a.tmps[i]? = some v
theorem Gets.eval {σ : Ki} {a : Act} (h : Gets σ a) {x : Operand} {v : Value} (hx : ev σ x = some v) : a.eval x = v:=by
 cases x with
 | tmp t=>simp only [ev] at hx;simp [Act.eval,Array.getD_eq_getD_getElem?,h t v hx]
 | const u=>simpa [ev,Act.eval] using hx
 | global g=>simpa [ev,Act.eval] using hx
 | func f=>simpa [ev,Act.eval] using hx
theorem S_regF (hm : P.follows .mixedOrders = true) (X : List Nat) (f d : Nat) (ks : List Nat) (κ1 κ κ2 : List (Nat × Bool)) (vf : Nat → Value) {id : Nat} {ops : Array Oper} {l1 l l2 : List (Bool × Oper)} {z : List Value} {of : Oper} (hk : regFOK X ops n f d ks κ1 κ κ2 = true)
  (hof : ops[f]? = some of) (hofd : of.dst = some d) (hofg : of.guard = none) (hofs : Gp of = false) (hl1 : Y0 ops κ1 = some l1) (hl : Y0 ops κ = some l) (hl2 : Y0 ops κ2 = some l2) (σ1 σg : Ki) (hks : σg.map (·.1) = ks) (hsg : Sub σg σ1) (Φ : World → Prop)
  (hrun : ∀ a w,Gets σg a → ∃ e,(execOp a.eval of).run P w = .ok (.value (vf w.heap.size)) (w.alloc (.cells z.toArray e)))
  (h1 : ∀ w',Ext w w' → J P ops true n (fun a w1=>Fits n σ1 a ∧ Φ w1) l1 σ w')
  (h : ∀ w',Φ w' → JI P ops n d w'.heap.size vf z (C4 P ops X (CK P Q cs) κ2 l2) l [] σ1 w') : S P n Q (.region id ops true :: cs) σ w:=fun a ha=>by
 simp only [regFOK,Bool.and_eq_true,beq_iff_eq,Bool.not_eq_true'] at hk
 obtain ⟨⟨⟨⟨⟨hs,hfX⟩,hlen⟩,hdn⟩,hfree⟩,hk⟩:=hk
 split at hk
 ·rename_i L hL
  have key : ∀ a1 w1,Fits n σ1 a1 ∧ Φ w1 → Xu P ops X (Vr (CK P Q cs)) (Ext w1) (κ.length + (1 + κ2.length)) L a1 w1:=fun a1 w1 ⟨hf,hp⟩=>by
   refine float_pend (G:=Gets σg) hs hl2 hof hofd hofg hofs hfX hrun (Nat.blt_eq ▸ hdn) κ l [] L a1 w1 hl hk (fun i t o hm ho a a' hkp hg=>fun q v hq=>?_) (hf.sub hsg).get hf.size (Nat.le_refl _) (by simp) (h w1 hp a1 hf)
   have hne : o.dst ≠ some q:=fun e=>by
    have:=List.all_eq_true.1 hfree (i,t) hm
    rw [ho] at this
    simp only [Option.bind_some,e,Bool.not_eq_true'] at this
    rw [Cc (by rw [hks];exact this)] at hq;cases hq
   rw [hkp q hne];exact hg q v hq
  have h3:=Uy hs key κ1 l1 _ a _ hl1 hL (h1 _ (Ext.drew w) a ha)
  rw [hlen] at h3
  exact wp_mono (wp_region_any hm (Xy _ _ _ _ h3)) (fun e a w h=>by cases e <;> first | exact h | exact h.elim)
 ·cases hk
end
def regXOK (X : List Nat) (ops : Array Oper) (κ1 κ2 : List (Nat × Bool)) : Bool :=
 Region.noSelect ops && (κ1.length + κ2.length == ops.size) && match K5 X ops κ1 (Array.replicate ops.size false) with
  | some L=>eager2 X ops κ2 L
  | none=>false
section
variable {P : Program} {n : Nat} {Q : Exit → Act → World → Prop} {cs : List Code} {σ : Ki} {w : World}
theorem Ay (hm : P.follows .mixedOrders = true) (X : List Nat) (κ1 κ2 : List (Nat × Bool)) {id : Nat} {ops : Array Oper} {l1 l2 : List (Bool × Oper)} (hk : regXOK X ops κ1 κ2 = true) (hl1 : Y0 ops κ1 = some l1) (hl2 : Y0 ops κ2 = some l2)
  (h : ∀ w',Ext w w' → J P ops true n (C4 P ops X (CK P Q cs) κ2 l2) l1 σ w') : S P n Q (.region id ops true :: cs) σ w:=fun a ha=>by
 simp only [regXOK,Bool.and_eq_true,beq_iff_eq] at hk
 obtain ⟨⟨hs,hlen⟩,hk⟩:=hk
 split at hk
 ·rename_i L hL
  have h3:=Uy hs (fun a1 w1 hw=>Kh (S':=Ext w1) (fun _ e=>e) _ _ _ _ (Hb hs κ2 l2 L a1 w1 hl2 hk hw)) κ1 l1 _ a _ hl1 hL (h _ (Ext.drew w) a ha)
  rw [hlen] at h3
  exact wp_mono (wp_region_any hm (Xy _ _ _ _ h3)) (fun e a w h=>by cases e <;> first | exact h | exact h.elim)
 ·cases hk
variable {ops : Array Oper} {X : List Nat} {K : Act → World → Prop} {κ2 : List (Nat × Bool)} {l2 : List (Bool × Oper)}
theorem T2 (h : J2 P ops X n K κ2 l2 σ w) : J P ops true n (C4 P ops X K κ2 l2) [] σ w:=fun a ha=>h a ha
end
section
variable {P : Program} {σg : Ki} {d : Option Tmp} {ty : TypeId} {pos : String} {af : Array Edge}
theorem float_lit1 {t e sz bytes : Nat} {z cs : List Value} {x : Operand} {v : Value} (hT : SlT P t e sz bytes z) (hx : ev σg x = some v) (hc : v.cells.toList = cs) (hl : cs.length = sz) (hsm : Nat.ble sz 1000 = true) :
  ∀ (a : Act) (w : World),Gets σg a → ∃ e',(execOp a.eval ⟨d,.buildSlice t 1 #[(0,x)],ty,pos,af,none⟩).run P w = .ok (.value (.slice (some ⟨w.heap.size,0,none⟩) 1 1)) (w.alloc (.cells cs.toArray e')):=fun a w ha=>by
 obtain ⟨ti,zv,hinf,hs,hby,hz,hzc⟩:=hT.info
 have hpos:=hT.pos
 have hsm' : sz ≤ 1000:=Nat.le_of_ble_eq_true hsm
 have hfill : ∀ zs : Array Value,zs.size = sz → Instr.fill (fun i=>some (i * sz,sz)) zs [(0,v)] = some cs.toArray:=fun zs hzs=>by
  have:=Ch sz [v] [cs] 0 zs ⟨⟨hc,hl⟩,trivial⟩ (by simp [hzs])
  simpa [numb] using this
 refine ⟨e,?_⟩
 have hn : ¬ (16777216 < sz):=by omega
 have h0 : sz ≠ 0:=by omega
 simp [execOp,Instr.buildSlice,run_underlying hT.und,sizeOf,typeInfo,hinf,hs,hn,h0,ha.eval hx,zeroValue,hz,newRow]
 rw [hfill _ (by simp)]
 exact rfl
end
end Go.Proofs.YtcpjlfikdobckaaGreat.X

namespace Go.Proofs.YtcpjlfikdobckaaGreat.X
open Go
open Enc (enc)
section
variable {w w' : World} {lo hi sz : Nat} {v : Value} {cs cur : List Value} {g off len cap : Nat}
theorem Own.conc {n : Nat} (h : Own w lo hi sz v cs) (hc : cs.length = n * sz) (hp : 0 < sz) (hn : 0 < n) :
  ∃ g off cap cur,v = .slice (some ⟨g,off,none⟩) n cap ∧ lo ≤ g ∧ g < hi ∧ Blk w g cur ∧ n ≤ cap ∧ cap ≤ maxLen ∧ off + cap * sz ≤ cur.length ∧ ∀ j u,cs[j]? = some u → cur[off + j]? = some u:=by
 rcases h with ⟨rfl,rfl⟩ | ⟨g,off,len,cap,cur,T,rfl,h1,h2,hw,h4,h5,h6,h7,h8⟩
 ·have:=Nat.mul_pos hn hp;simp at hc;omega
 ·rw [h7] at hc
  have:=Nat.eq_of_mul_eq_mul_right hp hc
  subst this
  exact ⟨g,off,cap,cur.toList,rfl,h1,h2,⟨T,by simpa using hw⟩,h4,h5,by simpa using h6,fun j u hj=>by simpa using h8 j u hj⟩
theorem Own.of (hb : Blk w g cur) (h1 : lo ≤ g) (h2 : g < hi) (hcl : len ≤ cap) (hcm : cap ≤ maxLen) (hr : off + cap * sz ≤ cur.length) (hl : cs.length = len * sz) (hc : ∀ j u,cs[j]? = some u → cur[off + j]? = some u) : Own w lo hi sz (.slice (some ⟨g,off,none⟩) len cap) cs:=by
 obtain ⟨T,hb⟩:=hb
 exact .inr ⟨g,off,len,cap,_,T,rfl,h1,h2,hb,hcl,hcm,by simpa using hr,hl,fun j u hj=>by simpa using hc j u hj⟩
end
def insM {α : Type} (xs : List α) (i : Nat) (y : α) : List α:=xs.take i ++ y :: xs.drop i
theorem insM_flat {α : Type} [Enc α] (xs : List α) (i : Nat) (y : α) : (insM xs i y).flatMap enc = (xs.take i).flatMap enc ++ enc y ++ (xs.drop i).flatMap enc:=by
 simp [insM,List.flatMap_append]
theorem nat_sub {a b : Nat} (h : b ≤ a) (hm : a ≤ maxLen) : IntKind.i64.wrap ((a : Int) - (b : Int)) = ((a - b : Nat) : Int):=by
 unfold maxLen at hm
 rw [Ke (by omega) (by omega)];omega
section
variable {P : Program} {n : Nat} {σ : Ki} {w : World} {d : Option Tmp} {ty : TypeId} {pos : String} {af : Array Edge} {gd : Option (Nat × Bool)} {t e sz bytes : Nat} {z : List Value} {x y : Operand}
end
section
variable {P : Program} {ops : Array Oper} {D : Bool} {n : Nat} {K : Act → World → Prop} {l : List (Bool × Oper)} {σ : Ki} {w : World} {ty : TypeId} {pos : String} {af : Array Edge} {d : Option Tmp} {t e sz bytes : Nat} {z : List Value} {x y : Operand}
end
def PredR {α : Type} [Enc α] (P : Program) (w : World) (lo hi : Nat) (v : Value) (p : α → Bool) : Prop :=
 ∃ fid fs cs,v = .func (.func fid) fs.toArray cs.toArray ∧ (∀ args w,(callFunc fid args).run P w = .ok (.enter fid args) w) ∧ ∀ (x : α) (w' : World),ModR w w' lo hi → Ct P fid (fs ++ [.agg (enc x).toArray] ++ cs) w' (fun v _=>v = .bool (p x))
end Go.Proofs.YtcpjlfikdobckaaGreat.X

namespace Go.Proofs.YtcpjlfikdobckaaGreat.X
open Go
def chS (P : Program) (ops : Array Oper) (b : Nat) (w : World) (KE : Act → Prop) : List (Bool × Oper) → Act → Prop
 | [],a=>KE a
 | (_,o) :: l,a=>∃ v,((Region.wanted o (yielded ops a.tmps) = true ∧ ∀ w',Mod w w' (some b) → (execOp a.eval o).run P w' = .ok (.value v) w') ∨ (Region.wanted o (yielded ops a.tmps) = false ∧ v = undef)) ∧ chS P ops b w KE l (a.put o.dst v)
def G3 (ops : Array Oper) (f : Nat) (κ2 : List (Nat × Bool)) : List (Nat × Bool) → Array Bool → Bool
 | [],L=>(Region.ready .any ops L == [f]) && Up [] ops κ2 (L.setIfInBounds f true)
 | (i,_) :: κ,L=>(ops[i]?).any (fun o=>!Gp o) && ((Region.ready .any ops L == [i,f]) || (Region.ready .any ops L == [f,i])) && (Region.ready .any ops (L.setIfInBounds f true) == [i]) && !(i == f) && G3 ops f κ2 κ (L.setIfInBounds i true)
section
variable {P : Program} {ops : Array Oper} {f b : Nat} {w : World} {K : Act → World → Prop} {R : World → Prop} {l2 : List (Bool × Oper)} {κ2 : List (Nat × Bool)}
theorem chS_op {o : Oper} {v : Value} {a : Act} {w' : World} {Q : Exit → Act → World → Prop} {i : Nat} {K' : Act → World → Prop} (ho : ops[i]? = some o) (hm : Mod w w' (some b))
  (hy : (Region.wanted o (yielded ops a.tmps) = true ∧ ∀ w',Mod w w' (some b) → (execOp a.eval o).run P w' = .ok (.value v) w') ∨ (Region.wanted o (yielded ops a.tmps) = false ∧ v = undef)) (h : K' (a.put o.dst v) w') : wpOp P ops Q i K' a w':=by
 unfold wpOp
 simp only [ho]
 rcases hy with ⟨hw,hr⟩ | ⟨hw,rfl⟩
 ·rw [if_pos hw];exact .inl (Ub (hr w' hm) h)
 ·rw [if_neg (by simp [hw])];exact h
theorem fs_done (hs : Region.noSelect ops = true) (hl2 : Y0 ops κ2 = some l2) : ∀ (κ : List (Nat × Bool)) (l : List (Bool × Oper)) (L : Array Bool) (a : Act) (w' : World),Y0 ops κ = some l → G3 ops f κ2 κ L = true → Mod w w' (some b) → R w' →
  chS P ops b w (fun a=>∀ w',Mod w w' (some b) → R w' → Gs P ops true K l2 a w') l a → wpAny P .any ops (Vr K) (κ.length + κ2.length) (L.setIfInBounds f true) a w'
 | [],l,L,a,w',hp,he,hm,hR,h=>by
  simp only [Y0,Option.some.injEq] at hp
  subst hp
  simp only [G3,Bool.and_eq_true] at he
  have:=Xy _ _ _ _ (Xt hs κ2 l2 _ a w' hl2 he.2 (h w' hm hR))
  simpa using this
 | (i,t) :: κ,l,L,a,w',hp,he,hm,hR,h=>by
  simp only [Y0] at hp
  split at hp
  ·rename_i o l' ho hl'
   simp only [Option.some.injEq] at hp
   subst hp
   simp only [G3,Bool.and_eq_true,beq_iff_eq,Bool.not_eq_true',beq_eq_false_iff_ne] at he
   obtain ⟨⟨⟨⟨_,_⟩,hr⟩,hif⟩,he⟩:=he
   obtain ⟨v,hy,h⟩:=h
   have ih:=fs_done hs hl2 κ l' _ _ w' hl' he hm hR h
   rw [← Hv] at ih
   rw [List.length_cons,show κ.length + 1 + κ2.length = (κ.length + κ2.length) + 1 from by omega]
   refine ⟨fun h0=>(by rw [h0] at hr;cases hr),fun j hj=>?_⟩
   rw [hr] at hj
   obtain rfl : j = i:=by simpa using hj
   exact chS_op ho hm hy ih
  ·cases hp
theorem fs_pend {of : Oper} {G : Act → Prop} (hs : Region.noSelect ops = true) (hl2 : Y0 ops κ2 = some l2) (hof : ops[f]? = some of) (hofg : of.guard = none) (hofs : Gp of = true) (hofd : of.dst = none)
  (hst : ∀ a,G a → of.wp P a w (fun a' w'=>a' = a ∧ Mod w w' (some b) ∧ R w') NoQ) : ∀ (κ : List (Nat × Bool)) (l : List (Bool × Oper)) (L : Array Bool) (a : Act),Y0 ops κ = some l → G3 ops f κ2 κ L = true →
  (∀ i t o,(i,t) ∈ κ → ops[i]? = some o → ∀ a v,G a → G (a.put o.dst v)) → G a →
  chS P ops b w (fun a=>∀ w',Mod w w' (some b) → R w' → Gs P ops true K l2 a w') l a → Xu P ops [] (Vr K) (Ext w) (κ.length + (1 + κ2.length)) L a w:=by
 have hstx : Hu [] ops f = true:=by simp [Hu,hof,hofs]
 have hfst : ∀ (κ : List (Nat × Bool)) (l : List (Bool × Oper)) (L : Array Bool) (a : Act),Y0 ops κ = some l → G3 ops f κ2 κ L = true → G a →
   chS P ops b w (fun a=>∀ w',Mod w w' (some b) → R w' → Gs P ops true K l2 a w') l a →
   wpOp P ops (Vr K) f (fun a' w'=>((Hu [] ops f = false → Ext w w' ∧ Xu P ops [] (Vr K) (Ext w) (κ.length + κ2.length) (L.setIfInBounds f true) a' w') ∧ (Hu [] ops f = true → wpAny P .any ops (Vr K) (κ.length + κ2.length) (L.setIfInBounds f true) a' w'))) a w:=fun κ l L a hp he hG h=>by
  unfold wpOp
  simp only [hof]
  rw [if_pos (by simp [Region.wanted,hofg])]
  refine .inl (Kj (fun a' w' h'=>?_) (fun _ _ _ h=>h.elim) (hst a hG))
  obtain ⟨rfl,hm,hR⟩:=h'
  exact ⟨fun hc=>(by rw [hstx] at hc;cases hc),fun _=>fs_done hs hl2 κ l L a' w' hp he hm hR h⟩
 intro κ
 induction κ with
 | nil =>
  intro l L a hp he hGc hG h
  have he':=he
  simp only [G3,Bool.and_eq_true,beq_iff_eq] at he'
  rw [List.length_nil,Nat.zero_add,Nat.add_comm]
  refine ⟨fun h0=>(by rw [h0] at he';cases he'.1),fun j hj=>?_⟩
  rw [he'.1] at hj
  obtain rfl : j = f:=by simpa using hj
  have:=hfst [] l L a hp he hG h
  simpa using this
 | cons p κ ih =>
  obtain ⟨i,t⟩:=p
  intro l L a hp he hGc hG h
  have hp0:=hp
  have he0:=he
  have h0':=h
  simp only [Y0] at hp
  split at hp
  ·rename_i o l' ho hl'
   simp only [Option.some.injEq] at hp
   subst hp
   rw [List.length_cons,show κ.length + 1 + (1 + κ2.length) = (κ.length + (1 + κ2.length)) + 1 from by omega]
   simp only [G3,Bool.and_eq_true,beq_iff_eq,Bool.not_eq_true',beq_eq_false_iff_ne,Bool.or_eq_true,ho,Option.any_some] at he
   obtain ⟨⟨⟨⟨hns,hr⟩,hr2⟩,hif⟩,he⟩:=he
   refine ⟨fun h0=>(by rcases hr with hr | hr <;> (rw [h0] at hr;cases hr)),fun j hj=>?_⟩
   have hj' : j = i ∨ j = f:=by
    rcases hr with hr | hr
    ·rw [hr] at hj;simpa using hj
    ·rw [hr] at hj
     rcases List.mem_cons.1 hj with hj | hj
     ·exact .inr hj
     ·exact .inl (by simpa using hj)
   rcases hj' with rfl | rfl
   ·obtain ⟨v,hy,h⟩:=h
    have hrest:=ih l' _ _ hl' he (fun i t o hm=>hGc i t o (List.mem_cons_of_mem _ hm)) (hGc j t o (by simp) ho _ v hG) h
    refine chS_op ho ((Ext.refl w).mod _) hy ⟨fun _=>⟨Ext.refl w,hrest⟩,fun hc=>?_⟩
    rw [T5 ho hns (by simp)] at hc;cases hc
   ·have:=hfst ((i,t) :: κ) _ L a hp0 he0 hG h0'
    rw [List.length_cons,show κ.length + 1 + κ2.length = κ.length + (1 + κ2.length) from by omega] at this
    exact this
  ·cases hp
end
def regSOK (ops : Array Oper) (f : Nat) (ks : List Nat) (κ1 κ κ2 : List (Nat × Bool)) : Bool :=
 Region.noSelect ops && (κ1.length + (κ.length + (1 + κ2.length)) == ops.size) && (κ.all fun p=>match (ops[p.1]?).bind (·.dst) with
  | some q=>!ks.contains q
  | none=>true) && match K5 [] ops κ1 (Array.replicate ops.size false) with
  | some L=>G3 ops f κ2 κ L
  | none=>false
section
variable {P : Program} {n b : Nat} {Q : Exit → Act → World → Prop} {cs : List Code} {σ : Ki} {w : World} {ops : Array Oper} {K : Act → World → Prop} {R : World → Prop} {l l2 : List (Bool × Oper)}
def JS (P : Program) (ops : Array Oper) (n b : Nat) (w : World) (R : World → Prop) (K : Act → World → Prop) (l2 l : List (Bool × Oper)) (σ : Ki) : Prop:=∀ a,Fits n σ a → chS P ops b w (fun a=>∀ w',Mod w w' (some b) → R w' → Gs P ops true K l2 a w') l a
theorem JS_st {t : Bool} {d : Option Tmp} {op : Op} {ty : TypeId} {pos : String} {af : Array Edge} {v : Value} (hr : ∀ w',Mod w w' (some b) → K0 P n σ w' ⟨d,op,ty,pos,af,none⟩ v) (hd : Cs n d = true) (h : JS P ops n b w R K l2 l (put σ d v)) : JS P ops n b w R K l2 ((t,⟨d,op,ty,pos,af,none⟩) :: l) σ:=fun a ha =>
 ⟨v,.inl ⟨rfl,fun w' hm=>hr w' hm a ha w' (Ext.refl w')⟩,h _ (ha.put hd v)⟩
theorem JS_end (h : ∀ w',Mod w w' (some b) → R w' → J P ops true n K l2 σ w') : JS P ops n b w R K l2 [] σ:=fun a ha w' hm hR=>h w' hm hR a ha
theorem S_regS (hm : P.follows .mixedOrders = true) (f : Nat) (ks : List Nat) (κ1 κ κ2 : List (Nat × Bool)) {id : Nat} {ops : Array Oper} {l1 l l2 : List (Bool × Oper)} {of : Oper} (hk : regSOK ops f ks κ1 κ κ2 = true) (hof : ops[f]? = some of) (hofg : of.guard = none) (hofs : Gp of = true) (hofd : of.dst = none)
  (hl1 : Y0 ops κ1 = some l1) (hl : Y0 ops κ = some l) (hl2 : Y0 ops κ2 = some l2) (σ1 σg : Ki) (hks : σg.map (·.1) = ks) (hsg : Sub σg σ1) (Φ : World → Prop) (b : Nat) (R : World → Prop)
  (h1 : ∀ w',Ext w w' → J P ops true n (fun a w1=>Fits n σ1 a ∧ Φ w1) l1 σ w')
  (h : ∀ w',Φ w' → (∀ a,Gets σg a → of.wp P a w' (fun a' w''=>a' = a ∧ Mod w' w'' (some b) ∧ R w'') NoQ) ∧ JS P ops n b w' R (CK P Q cs) l2 l σ1) : S P n Q (.region id ops true :: cs) σ w:=fun a ha=>by
 simp only [regSOK,Bool.and_eq_true,beq_iff_eq] at hk
 obtain ⟨⟨⟨hs,hlen⟩,hfree⟩,hk⟩:=hk
 split at hk
 ·rename_i L hL
  have key : ∀ a1 w1,Fits n σ1 a1 ∧ Φ w1 → Xu P ops [] (Vr (CK P Q cs)) (Ext w1) (κ.length + (1 + κ2.length)) L a1 w1:=fun a1 w1 ⟨hf,hp⟩=>by
   obtain ⟨hst,hj⟩:=h w1 hp
   refine fs_pend (G:=Gets σg) hs hl2 hof hofg hofs hofd hst κ l L a1 hl hk (fun i t o hmem ho a v hg q u hq=>?_) (hf.sub hsg).get (hj a1 hf)
   have hne : o.dst ≠ some q:=fun e=>by
    have:=List.all_eq_true.1 hfree (i,t) hmem
    rw [ho] at this
    simp only [Option.bind_some,e,Bool.not_eq_true'] at this
    rw [Cc (by rw [hks];exact this)] at hq;cases hq
   rw [Us q hne];exact hg q u hq
  have h3:=Uy hs key κ1 l1 _ a _ hl1 hL (h1 _ (Ext.drew w) a ha)
  rw [hlen] at h3
  exact wp_mono (wp_region_any hm (Xy _ _ _ _ h3)) (fun e a w h=>by cases e <;> first | exact h | exact h.elim)
 ·cases hk
theorem fs_store {σg : Ki} {t sz b off : Nat} {z : List Value} {x y : Operand} {vs cs cs' : List Value} {ty : TypeId} {pos : String} {af : Array Edge} (hT : StT P t sz z) (hx : ev σg x = some (.pointer (some ⟨b,off,none⟩))) (hy : ev σg y = some (.agg vs.toArray)) (hs : vs.length = sz) (h1 : vs.all (·.oneCell') = true) (hb : Blk w b cs) (hl : off + vs.length ≤ cs.length) (hc : spl cs off vs = cs') :
  ∀ a,Gets σg a → (⟨none,.store t x y,ty,pos,af,none⟩ : Oper).wp P a w (fun a' w'=>a' = a ∧ Mod w w' (some b) ∧ Blk w' b cs') NoQ:=fun a ha=>by
 subst hc
 obtain ⟨w',hr,hm,hb'⟩:=Vn hT hb hs hl h1
 exact Vu (w':=w') (by simp [execOp,ha.eval hx,ha.eval hy,Instr.storeAt,Instr.sureAddr,hr]) ⟨rfl,hm,hb'⟩
end
end Go.Proofs.YtcpjlfikdobckaaGreat.X

namespace Go.Proofs.YtcpjlfikdobckaaGreat.X
open Go
open Enc (enc)
theorem Dj.apart {f g : List Nat} {a b c d : Nat} (h1 : ∀ x ∈ f,a ≤ x ∧ x < b) (h2 : ∀ x ∈ g,c ≤ x ∧ x < d) (h : b ≤ c ∨ d ≤ a) : Dj f g:=fun x hx hy=>by
 have:=h1 x hx
 have:=h2 x hy
 omega
def Kq (w w' : World) (l : List Nat) : Prop:=w.heap.size ≤ w'.heap.size ∧ ∀ b,b < w.heap.size → b ∉ l → w'.heap[b]? = w.heap[b]?
section
variable {w0 w w' : World} {l m : List Nat} {x : Option Nat} {u : Value}
theorem Kq.refl (w : World) (l : List Nat) : Kq w w l:=⟨Nat.le_refl _,fun _ _ _=>rfl⟩
theorem Kq.trans (k : Kq w0 w l) (k' : Kq w w' l) : Kq w0 w' l:=⟨Nat.le_trans k.1 k'.1,fun b hb hn=>(k'.2 b (Nat.lt_of_lt_of_le hb k.1) hn).trans (k.2 b hb hn)⟩
theorem Kq.sub (k : Kq w w' l) (h : ∀ b ∈ l,b ∈ m) : Kq w w' m:=⟨k.1,fun b hb hn=>k.2 b hb fun hc=>hn (h b hc)⟩
theorem Kq.kp (k : Kq w w' l) (h : Dj m l) : Kp w w' m:=⟨k.1,fun b hb hl=>k.2 b hl (h b hb)⟩
theorem Mod.kq (m : Mod w w' x) (h : ∀ g,x = Option.some g → g ∈ l) : Kq w w' l:=⟨m.size,fun b hb hn=>m.block b hb fun e=>hn (h b e)⟩
theorem Ext.kq (e : Ext w w') (l : List Nat) : Kq w w' l:=⟨e.size,fun b hb _=>e.same hb⟩
theorem ModR.kq (m : ModR w w' (bl u) (bh u)) : Kq w w' (Kt u):=⟨m.size,fun b hb hn=>m.block b hb (by
 cases hv : u.ownBlock with
 | none=>simp [bl,bh,hv]
 | some g =>
  have : b ≠ g:=fun e=>hn (by simp [Kt,hv,e])
  simp only [bl,bh,hv,Option.getD_some];omega)⟩
end
section
variable {α : Type} [Own1 α] {w w' w0 : World} {lo hi lo' hi' : Nat} {v : Value} {xs as bs : List α} {x : Option Nat} {f fp : List Nat} {cs : List Value} {y : α}
def OwF (w : World) (lo hi : Nat) (v : Value) (xs : List α) (f : List Nat) : Prop :=
 ∃ css,Own w lo hi (Dat.sz α) v css.flatten ∧ All2 (Own1.O w lo hi) css xs ∧ f = Kt v ++ css.flatMap Uk ∧ f.Nodup
theorem OwF.ows (h : OwF w lo hi v xs f) : OwS w lo hi v xs:=by
 obtain ⟨css,h1,h2,rfl,h4⟩:=h
 exact ⟨css,h1,h2,h4⟩
theorem OwS.owf (h : OwS w lo hi v xs) : ∃ f,OwF w lo hi v xs f:=by
 obtain ⟨css,h1,h2,h4⟩:=h
 exact ⟨_,css,h1,h2,rfl,h4⟩
theorem OwF.inn (h : OwF w lo hi v xs f) : ∀ b ∈ f,lo ≤ b ∧ b < hi ∧ b < w.heap.size:=fun b hb=>by
 obtain ⟨css,h1,h2,rfl,h4⟩:=h
 rcases List.mem_append.1 hb with hb | hb
 ·exact h1.innb b hb
 ·exact K6 h2 b hb
theorem OwF.in2 (h : OwF w lo hi v xs f) : ∀ b ∈ f,lo ≤ b ∧ b < hi:=fun b hb=>⟨(h.inn b hb).1,(h.inn b hb).2.1⟩
theorem Own.in2 {sz : Nat} (h : Own w lo hi sz v cs) : ∀ b ∈ Kt v,lo ≤ b ∧ b < hi:=fun b hb=>⟨(h.innb b hb).1,(h.innb b hb).2.1⟩
theorem OwF.kp (h : OwF w lo hi v xs f) (k : Kp w w' f) : OwF w' lo hi v xs f:=by
 obtain ⟨css,h1,h2,rfl,h4⟩:=h
 exact ⟨css,h1.kp (k.sub fun _ hb=>List.mem_append.2 (.inl hb)),Ks h2 (k.sub fun _ hb=>List.mem_append.2 (.inr hb)),rfl,h4⟩
theorem OwF.same (h : OwF w lo hi v xs f) (s : Same w w' lo hi) : OwF w' lo hi v xs f:=h.kp ⟨s.size,fun b hb hl=>s.block b (h.inn b hb).1 (h.inn b hb).2.1 hl⟩
theorem OwF.ext (h : OwF w lo hi v xs f) (e : Ext w w') : OwF w' lo hi v xs f:=h.same (e.keeps (by simp))
theorem OwF.mod (h : OwF w lo hi v xs f) (m : Mod w w' x) (hx : ∀ g,x = some g → g < lo ∨ hi ≤ g) : OwF w' lo hi v xs f:=h.same (m.keeps hx)
theorem OwF.widen (h : OwF w lo hi v xs f) (h1 : lo' ≤ lo) (h2 : hi ≤ hi') : OwF w lo' hi' v xs f:=by
 obtain ⟨css,a,b,c⟩:=h
 exact ⟨css,a.widen h1 h2,All2.imp (fun _ _ h=>Own1.wide h h1 h2) b,c⟩
theorem OwF.rd (h : OwF w lo hi v xs f) : RdD w lo hi v xs:=h.ows.rd
def OwK (w0 : World) (fp : List Nat) (w : World) (lo hi : Nat) (v : Value) (xs : List α) : Prop:=OwF w lo hi v xs fp ∧ Kq w0 w fp
theorem OwK.rd (h : OwK w0 fp w lo hi v xs) : RdD w lo hi v xs:=h.1.rd
theorem OwK.ext (h : OwK w0 fp w lo hi v xs) (e : Ext w w') : OwK w0 fp w' lo hi v xs:=⟨h.1.ext e,h.2.trans (Ext.kq e _)⟩
def RowK (w0 : World) (fp : List Nat) (w : World) (lo hi : Nat) (v : Value) (as : List α) (cs : List Value) (bs : List α) : Prop :=
 (∃ ca cb,Own w lo hi (Dat.sz α) v (ca ++ cs :: cb).flatten ∧ All2 (Own1.O w lo hi) ca as ∧ All2 (Own1.O w lo hi) cb bs ∧ cs.length = Dat.sz α ∧
  fp = Kt v ++ (ca.flatMap Uk ++ (Uk cs ++ cb.flatMap Uk)) ∧ fp.Nodup) ∧ Kq w0 w fp
theorem RowK.row (h : RowK w0 fp w lo hi v as cs bs) : Row w lo hi v as cs bs:=by
 obtain ⟨⟨ca,cb,h1,ha,hb,hl,rfl,hn⟩,_⟩:=h
 exact ⟨ca,cb,h1,ha,hb,hl,hn⟩
theorem OwK.focus (h : OwK w0 fp w lo hi v (as ++ y :: bs)) : ∃ cs,Own1.O w lo hi cs y ∧ RowK w0 fp w lo hi v as cs bs:=by
 obtain ⟨⟨css,h1,h2,h3,h4⟩,hk⟩:=h
 obtain ⟨ca,l2,rfl,ha,hb⟩:=Hq h2
 cases l2 with
 | nil=>exact hb.elim
 | cons cs cb=>exact ⟨cs,hb.1,⟨ca,cb,h1,ha,hb.2,Dat.len (Own1.rd hb.1),by simpa only [List.flatMap_append,List.flatMap_cons] using h3,h4⟩,hk⟩
theorem RowK.blk (h : RowK w0 fp w lo hi v as cs bs) : ∀ g,v.ownBlock = some g → lo ≤ g ∧ g < hi:=h.row.blk
theorem RowK.sep {u : Value} (h : RowK w0 fp w lo hi v as cs bs) (hu : u ∈ cs) : Sep v u:=h.row.sep hu
theorem RowK.at {i : Nat} (h : RowK w0 fp w lo hi v as cs bs) (hi' : as.length = i) : At w (Kk v) (Ue v + i * Dat.sz α) cs:=h.row.at hi'
theorem RowK.same1 {i n : Nat} (h : RowK w0 fp w lo hi v as cs bs) (hi' : as.length = i) (hn : i + 1 + bs.length = n) : RdL w (Dat.sz α) (fun _ (_ : Unit)=>True) v (List.replicate n ()):=h.row.same1 hi' hn
theorem RowK.kp (h : RowK w0 fp w lo hi v as cs bs) (k : ∀ l,(∀ b ∈ l,b ∉ Uk cs) → (∀ b ∈ l,lo ≤ b ∧ b < hi) → Kp w w' l) (kq : Kq w w' fp) : RowK w0 fp w' lo hi v as cs bs:=by
 obtain ⟨⟨ca,cb,h1,ha,hb,hl,rfl,hn⟩,hk⟩:=h
 have hn':=List.nodup_append.1 hn
 have hn2:=List.nodup_append.1 hn'.2.1
 have hn3:=List.nodup_append.1 hn2.2.1
 refine ⟨⟨ca,cb,h1.kp (k _ (fun b hb hc=>hn'.2.2 b hb b (by simp [hc]) rfl) fun b hb=>h1.blk b (mem_blks.1 hb)),Ks ha (k _ (fun b hb hc=>hn2.2.2 b hb b (by simp [hc]) rfl) fun b hb=>?_),
  Ks hb (k _ (fun b hb hc=>hn3.2.2 b hc b hb rfl) fun b hb'=>?_),hl,rfl,hn⟩,hk.trans kq⟩
 ·have:=K6 ha b hb;omega
 ·have:=K6 hb b hb';omega
theorem RowK.ext (h : RowK w0 fp w lo hi v as cs bs) (e : Ext w w') : RowK w0 fp w' lo hi v as cs bs:=h.kp (fun _ _ _=>e.kp) (Ext.kq e _)
theorem RowK.fpr_mem {u : Value} (h : RowK w0 fp w lo hi v as cs bs) (hu : u ∈ cs) : ∀ g,u.ownBlock = some g → g ∈ fp:=fun g hg=>by
 obtain ⟨⟨ca,cb,h1,ha,hb,hl,rfl,hn⟩,hk⟩:=h
 simp only [List.mem_append]
 exact .inr (.inr (.inl (List.mem_flatMap.2 ⟨u,hu,mem_blks.2 hg⟩)))
theorem RowK.fpr_all (h : RowK w0 fp w lo hi v as cs bs) : ∀ g ∈ Uk cs,g ∈ fp:=fun g hg=>by
 obtain ⟨⟨ca,cb,h1,ha,hb,hl,rfl,hn⟩,hk⟩:=h
 simp only [List.mem_append]
 exact .inr (.inr (.inl hg))
theorem RowK.v_mem (h : RowK w0 fp w lo hi v as cs bs) : ∀ g,v.ownBlock = some g → g ∈ fp:=fun g hg=>by
 obtain ⟨⟨ca,cb,h1,ha,hb,hl,rfl,hn⟩,hk⟩:=h
 simp only [List.mem_append]
 exact .inl (mem_blks.2 hg)
theorem RowK.store {P : Program} {i k t : Nat} {u z : Value} (hT : ScT P t z) (h : RowK w0 fp w lo hi v as cs bs) (hi' : as.length = i) (hf : k < Dat.sz α) (h1 : u.oneCell' = true) (hs : Uk (cs.set k u) = Uk cs) :
  ∃ w',(storeVar t ⟨Kk v,Ue v + i * Dat.sz α + k,none⟩ u).run P w = .ok () w' ∧ Mod w w' v.ownBlock ∧ RowK w0 fp w' lo hi v as (cs.set k u) bs:=by
 subst hi'
 have hvm:=h.v_mem
 obtain ⟨⟨ca,cb,h0,ha,hb,hl,hfp,hn⟩,hkq⟩:=h
 have hla:=All2.length ha
 have hlen : ca.flatten.length = ca.length * Dat.sz α:=V0 ha fun c y h=>Dat.len (Own1.rd h)
 have hset : (ca ++ cs :: cb).flatten.set (ca.length * Dat.sz α + k) u = (ca ++ cs.set k u :: cb).flatten:=by
  simp only [List.flatten_append,List.flatten_cons]
  rw [List.set_append_right _ _ (by omega),hlen,List.set_append_left _ _ (by omega)]
  congr 3;omega
 rcases h0 with ⟨rfl,hc⟩ | ⟨g,off,len,cap,cur,T,rfl,h3,h4,hw,h5,h6,h7,h8,h9⟩
 ·have : (ca ++ cs :: cb).flatten.length = 0:=by rw [hc];rfl
  simp only [List.flatten_append,List.flatten_cons,List.length_append] at this
  omega
 ·have hlc : len * Dat.sz α ≤ cap * Dat.sz α:=Nat.mul_le_mul_right _ h5
  have hlf : ca.length * Dat.sz α + k < (ca ++ cs :: cb).flatten.length:=by
   simp only [List.flatten_append,List.flatten_cons,List.length_append];omega
  have hbk : Blk w g cur.toList:=⟨T,by simpa using hw⟩
  obtain ⟨w',hr,hm,T',hb'⟩:=Ud (off:=off + as.length * Dat.sz α + k) hT hbk (by simp;rw [← hla];omega) h1
  have hnd:=List.nodup_append.1 (hfp ▸ hn)
  have hg : ∀ b ∈ ca.flatMap Uk ++ (Uk cs ++ cb.flatMap Uk),b ≠ g:=fun b hb e=>hnd.2.2 g (by simp [Kt,Value.ownBlock]) b hb e.symm
  refine ⟨w',hr,hm,⟨ca,cb,.inr ⟨g,off,len,cap,_,T',rfl,h3,h4,hb',h5,h6,by simpa using h7,?_,fun j q hj=>?_⟩,Ks ha (hm.kp fun b hb hc=>?_),Ks hb (hm.kp fun b hb hc=>?_),by simpa using hl,by rw [hs];exact hfp,hn⟩,hkq.trans (hm.kq hvm)⟩
  ·rw [← h8,← hset];simp
  ·rw [← hset,List.getElem?_set] at hj
   simp only [List.getElem?_toArray,List.getElem?_set]
   split at hj
   ·rename_i hq
    rw [if_pos (by rw [← hla];omega),if_pos (by simp;rw [← hla];omega)];exact hj
   ·rename_i hq
    rw [if_neg (by rw [← hla];omega)]
    simpa using h9 j q hj
  ·simp only [Option.some.injEq] at hb;subst hb;exact hg g (by simp [hc]) rfl
  ·simp only [Option.some.injEq] at hb;subst hb;exact hg g (by simp only [List.mem_append];exact .inr (.inr hc)) rfl
end
section
variable {P : Program} {ops : Array Oper} {D : Bool} {n : Nat} {K : Act → World → Prop} {l : List (Bool × Oper)} {σ : Ki} {w w0 : World} {fp : List Nat} {ty : TypeId} {pos : String} {af : Array Edge}
end
section
variable {P : Program} {w w' w0 : World} {lo hi lo2 hi2 sz : Nat} {v : Value} {cs vs : List Value}
theorem Own.setCells {t i n : Nat} {z : List Value} (hT : StT P t sz z) (h : Own w lo hi sz v cs) (hn : cs.length = n * sz) (hp : 0 < sz) (hi' : i < n) (hl : vs.length = sz) (h1 : vs.all (·.oneCell') = true) :
  ∃ w',(storeVar t ⟨Kk v,Ue v + i * sz,none⟩ (.agg vs.toArray)).run P w = .ok () w' ∧ Mod w w' v.ownBlock ∧ Own w' lo hi sz v (spl cs (i * sz) vs):=by
 obtain ⟨g,off,cap,cur,rfl,h1',h2,hb,h4,h5,h6,h7⟩:=h.conc hn hp (Nat.lt_of_le_of_lt (Nat.zero_le _) hi')
 have hle : i * sz + sz ≤ cap * sz:=by
  have:=Nat.mul_le_mul_right sz (show i + 1 ≤ cap by omega)
  rwa [Nat.add_mul,Nat.one_mul] at this
 obtain ⟨w',hr,hm,hb'⟩:=Vn (vs:=vs) (off:=off + i * sz) hT hb hl (by rw [hl];omega) h1
 have hln : i * sz + sz ≤ cs.length:=by
  rw [hn]
  have:=Nat.mul_le_mul_right sz (show i + 1 ≤ n by omega)
  rwa [Nat.add_mul,Nat.one_mul] at this
 refine ⟨w',hr,hm,Own.of hb' h1' h2 h4 h5 (by rw [Gy];exact h6) (by rw [Gy];exact hn) fun j u hj=>?_⟩
 rw [Cx _ _ _ _ (by rw [hl];exact hln)] at hj
 rw [Cx _ _ _ _ (by rw [hl];omega)]
 rw [hl] at *
 by_cases hq : i * sz ≤ j ∧ j < i * sz + sz
 ·rw [if_pos hq] at hj
  rw [if_pos (by omega),show off + j - (off + i * sz) = j - i * sz from by omega];exact hj
 ·rw [if_neg hq] at hj
  rw [if_neg (by omega)];exact h7 j u hj
variable {α : Type} [Own1 α] {as bs xs : List α} {y : α} {f fp : List Nat}
theorem OwF.nil (w : World) (lo hi : Nat) : OwF (α:=α) w lo hi (.slice none 0 0) [] []:=⟨[],Own.nil _ _ _ _,trivial,by simp [Kt,Value.ownBlock],by simp⟩
theorem spl_row {ca : List (List Value)} {c c' : List Value} {cb : List (List Value)} {n : Nat} (ha : ca.flatten.length = n) (hc : c.length = c'.length) : spl (ca ++ c :: cb).flatten n c' = (ca ++ c' :: cb).flatten:=by
 subst ha
 rw [spl_eq _ _ _ (by simp only [List.flatten_append,List.flatten_cons,List.length_append];omega)]
 simp only [List.flatten_append,List.flatten_cons,List.append_assoc]
 rw [List.take_left,List.drop_append,List.drop_of_length_le (by omega),← hc]
 rw [show ca.flatten.length + c.length - ca.flatten.length = c.length from by omega]
 simp
theorem RowK.setX {Q : World → Prop} {cs' : List Value} (hst : ∀ ca cb : List (List Value),Own w lo hi (Dat.sz α) v (ca ++ cs :: cb).flatten → ca.flatten.length = as.length * Dat.sz α → (ca ++ cs :: cb).flatten.length = (as.length + 1 + bs.length) * Dat.sz α → cs.length = Dat.sz α → cs'.length = Dat.sz α → ∃ w',Q w' ∧ Mod w w' v.ownBlock ∧ Own w' lo hi (Dat.sz α) v (ca ++ cs' :: cb).flatten)
  (h : RowK w0 fp w lo hi v as cs bs) (ho : Own1.O w lo2 hi2 cs' y) (hdj : ∀ b ∈ Uk cs',b ∈ fp → b ∈ Uk cs) (hl : lo ≤ lo2) (hh : hi ≤ hi2) :
  ∃ w' f',Q w' ∧ Mod w w' v.ownBlock ∧ OwF w' lo hi2 v (as ++ y :: bs) f' ∧ Kq w0 w' fp ∧ ∀ b ∈ f',b ∈ fp ∨ b ∈ Uk cs':=by
 have hvm:=h.v_mem
 obtain ⟨⟨ca,cb,h0,ha,hb,hlc,rfl,hn⟩,hkq⟩:=h
 have hla:=All2.length ha
 have hlb:=All2.length hb
 have hlen : ca.flatten.length = ca.length * Dat.sz α:=V0 ha fun c y h=>Dat.len (Own1.rd h)
 have hlenb : cb.flatten.length = cb.length * Dat.sz α:=V0 hb fun c y h=>Dat.len (Own1.rd h)
 have hlc' : cs'.length = Dat.sz α:=Dat.len (Own1.rd ho)
 have htot : (ca ++ cs :: cb).flatten.length = (ca.length + 1 + cb.length) * Dat.sz α:=by
  simp only [List.flatten_append,List.flatten_cons,List.length_append,hlen,hlenb,hlc,Nat.add_mul];omega
 obtain ⟨w',hr,hm,ho'⟩:=hst ca cb h0 (by rw [hlen,hla]) (by rw [htot,hla,hlb]) hlc hlc'
 have hnd:=List.nodup_append.1 hn
 have hn2:=List.nodup_append.1 hnd.2.1
 have hn3:=List.nodup_append.1 hn2.2.1
 have hg : ∀ g,v.ownBlock = some g → ∀ b ∈ ca.flatMap Uk ++ (Uk cs ++ cb.flatMap Uk),b ≠ g:=fun g hg b hb e=>hnd.2.2 g (mem_blks.2 hg) b hb e.symm
 have hv' : ∀ b ∈ Kt v,b ∉ Uk cs':=fun b hb hc=>by
  have:=hdj b hc (List.mem_append.2 (.inl hb))
  exact hnd.2.2 b hb b (by simp [this]) rfl
 have hca : ∀ b ∈ ca.flatMap Uk,b ∉ Uk cs':=fun b hb hc=>by
  have:=hdj b hc (by simp only [List.mem_append];exact .inr (.inl hb))
  exact hn2.2.2 b hb b (by simp [this]) rfl
 have hcb : ∀ b ∈ cb.flatMap Uk,b ∉ Uk cs':=fun b hb hc=>by
  have:=hdj b hc (by simp only [List.mem_append];exact .inr (.inr (.inr hb)))
  exact hn3.2.2 b this b hb rfl
 refine ⟨w',Kt v ++ (ca.flatMap Uk ++ (Uk cs' ++ cb.flatMap Uk)),hr,hm,⟨ca ++ cs' :: cb,ho'.widen (Nat.le_refl _) hh,Bn ?_ ⟨?_,?_⟩,by simp only [List.flatMap_append,List.flatMap_cons],?_⟩,hkq.trans (hm.kq hvm),fun b hb=>?_⟩
 ·exact All2.imp (fun _ _ h=>Own1.wide h (Nat.le_refl _) hh) (Ks ha (hm.kp fun g hg' hc=>hg g hg' g (by simp only [List.mem_append];exact .inl hc) rfl))
 ·exact Own1.wide (Own1.kp ho (hm.kp fun g hg' hc=>hv' g (mem_blks.2 hg') hc)) hl (Nat.le_refl _)
 ·exact All2.imp (fun _ _ h=>Own1.wide h (Nat.le_refl _) hh) (Ks hb (hm.kp fun g hg' hc=>hg g hg' g (by simp only [List.mem_append];exact .inr (.inr hc)) rfl))
 ·refine List.nodup_append.2 ⟨hnd.1,List.nodup_append.2 ⟨hn2.1,List.nodup_append.2 ⟨Own1.nd ho,hn3.2.1,fun a ha' b hb' e=>hcb b hb' (e ▸ ha')⟩,fun a ha' b hb' e=>?_⟩,fun a ha' b hb' e=>?_⟩
  ·rcases List.mem_append.1 hb' with hb' | hb'
   ·exact hca a ha' (e ▸ hb')
   ·exact hn2.2.2 a ha' b (List.mem_append.2 (.inr hb')) e
  ·rcases List.mem_append.1 hb' with hb' | hb'
   ·exact hnd.2.2 a ha' b (List.mem_append.2 (.inl hb')) e
   rcases List.mem_append.1 hb' with hb' | hb'
   ·exact hv' a ha' (e ▸ hb')
   ·exact hnd.2.2 a ha' b (by simp only [List.mem_append];exact .inr (.inr hb')) e
 ·simp only [List.mem_append] at hb ⊢
  rcases hb with hb | hb | hb | hb
  ·exact .inl (.inl hb)
  ·exact .inl (.inr (.inl hb))
  ·exact .inr hb
  ·exact .inl (.inr (.inr (.inr hb)))
theorem RowK.set {t i : Nat} {z cs' : List Value} (hT : StT P t (Dat.sz α) z) (h : RowK w0 fp w lo hi v as cs bs) (hi' : as.length = i) (ho : Own1.O w lo2 hi2 cs' y) (hdj : ∀ b ∈ Uk cs',b ∈ fp → b ∈ Uk cs) (hl : lo ≤ lo2) (hh : hi ≤ hi2) :
  ∃ w' f',(storeVar t ⟨Kk v,Ue v + i * Dat.sz α,none⟩ (.agg cs'.toArray)).run P w = .ok () w' ∧ Mod w w' v.ownBlock ∧ OwF w' lo hi2 v (as ++ y :: bs) f' ∧ Kq w0 w' fp ∧ ∀ b ∈ f',b ∈ fp ∨ b ∈ Uk cs':=by
 subst hi'
 refine RowK.setX (fun ca cb h0 h1 h2 h3 h4=>?_) h ho hdj hl hh
 obtain ⟨w',hr,hm,ho'⟩:=h0.setCells (i:=as.length) hT h2 Dat.pos (by omega) h4 (Dat.one (Own1.rd ho))
 rw [spl_row h1 (by rw [h3,h4])] at ho'
 exact ⟨w',hr,hm,ho'⟩
theorem Own.setCell {t q : Nat} {u zv : Value} (hT : ScT P t zv) (h : Own w lo hi sz v cs) (hq : q < cs.length) (h1 : u.oneCell' = true) :
  ∃ w',(storeVar t ⟨Kk v,Ue v + q,none⟩ u).run P w = .ok () w' ∧ Mod w w' v.ownBlock ∧ Own w' lo hi sz v (cs.set q u):=by
 rcases h with ⟨rfl,rfl⟩ | ⟨g,off,len,cap,cur,T,rfl,h3,h4,hw,h5,h6,h7,h8,h9⟩
 ·simp at hq
 ·have hlc : len * sz ≤ cap * sz:=Nat.mul_le_mul_right _ h5
  have hbk : Blk w g cur.toList:=⟨T,by simpa using hw⟩
  obtain ⟨w',hr,hm,T',hb'⟩:=Ud (off:=off + q) hT hbk (by simp;omega) h1
  refine ⟨w',hr,hm,.inr ⟨g,off,len,cap,_,T',rfl,h3,h4,hb',h5,h6,by simpa using h7,by simpa using h8,fun j p hj=>?_⟩⟩
  rw [List.getElem?_set] at hj
  simp only [List.getElem?_toArray,List.getElem?_set]
  split at hj
  ·rename_i hq
   rw [if_pos (by omega),if_pos (by simp;omega)];simpa using hj
  ·rename_i hq
   rw [if_neg (by omega)]
   simpa using h9 j p hj
theorem flat_setC {ca : List (List Value)} {c : List Value} {cb : List (List Value)} {n k : Nat} {u : Value} (ha : ca.flatten.length = n) (hk : k < c.length) : (ca ++ c :: cb).flatten.set (n + k) u = (ca ++ c.set k u :: cb).flatten:=by
 subst ha
 simp only [List.flatten_append,List.flatten_cons]
 rw [List.set_append_right _ _ (by omega),show ca.flatten.length + k - ca.flatten.length = k from by omega,List.set_append_left _ _ (by omega)]
theorem RowK.setF {t i k : Nat} {u zv : Value} {cs' : List Value} (hT : ScT P t zv) (h : RowK w0 fp w lo hi v as cs bs) (hi' : as.length = i) (hk : k < Dat.sz α) (h1 : u.oneCell' = true) (hc : cs.set k u = cs') (ho : Own1.O w lo2 hi2 cs' y) (hdj : ∀ b ∈ Uk cs',b ∈ fp → b ∈ Uk cs) (hl : lo ≤ lo2) (hh : hi ≤ hi2) :
  ∃ w' f',(storeVar t ⟨Kk v,Ue v + i * Dat.sz α + k,none⟩ u).run P w = .ok () w' ∧ Mod w w' v.ownBlock ∧ OwF w' lo hi2 v (as ++ y :: bs) f' ∧ Kq w0 w' fp ∧ ∀ b ∈ f',b ∈ fp ∨ b ∈ Uk cs':=by
 subst hi' hc
 refine RowK.setX (fun ca cb h0 ha h2 h3 h4=>?_) h ho hdj hl hh
 have hlt : as.length * Dat.sz α + k < (ca ++ cs :: cb).flatten.length:=by
  simp only [List.flatten_append,List.flatten_cons,List.length_append,ha];omega
 obtain ⟨w',hr,hm,ho'⟩:=h0.setCell hT hlt h1
 rw [flat_setC ha (by omega)] at ho'
 rw [← Nat.add_assoc] at hr
 exact ⟨w',hr,hm,ho'⟩
theorem OwF.set {t i : Nat} {z cs' : List Value} (hT : StT P t (Dat.sz α) z) (h : OwF w lo hi v xs f) (hi' : i < xs.length) (ho : Own1.O w lo2 hi2 cs' y) (hdj : Dj f (Uk cs')) (hl : lo ≤ lo2) (hh : hi ≤ hi2) :
  ∃ w' f',(storeVar t ⟨Kk v,Ue v + i * Dat.sz α,none⟩ (.agg cs'.toArray)).run P w = .ok () w' ∧ Mod w w' v.ownBlock ∧ OwF w' lo hi2 v (xs.set i y) f' ∧ Kq w w' f ∧ ∀ b ∈ f',b ∈ f ∨ b ∈ Uk cs':=by
 have h' : OwK w f w lo hi v (xs.take i ++ xs[i] :: xs.drop (i + 1)):=⟨by rw [← Ta hi'];exact h,Kq.refl _ _⟩
 obtain ⟨cs,_,hr⟩:=h'.focus
 rw [T6 hi']
 exact hr.set hT (by simp;omega) ho (fun b hb hc=>absurd hb (hdj b hc)) hl hh
theorem OwS.lit {b : Nat} (h : Blk w b []) (h2 : b < hi) : OwS (α:=α) w b hi (.slice (some ⟨b,0,none⟩) 0 0) []:=⟨[],Own.ofBlk h (Nat.le_refl _) h2 (by simp) (Nat.zero_le _),trivial,by simp [Kt,Value.ownBlock]⟩
theorem OwF.snoc {v' : Value} {css : List (List Value)} (hm : Mod w w' v.ownBlock) (hb : Become w v v') (h : Own w lo hi (Dat.sz α) v css.flatten) (ha : All2 (Own1.O w lo hi) css xs) (hn : (Kt v ++ css.flatMap Uk).Nodup) (h' : Own w' lo w'.heap.size (Dat.sz α) v' (css.flatten ++ cs)) (ho : Own1.O w lo2 hi2 cs y) (hdj : Dj (Kt v ++ css.flatMap Uk) (Uk cs)) (hhi : hi ≤ w.heap.size) (hl : lo ≤ lo2) (hh : hi2 ≤ w.heap.size) :
  ∃ f',OwF w' lo w'.heap.size v' (xs ++ [y]) f' ∧ ∀ b ∈ f',b ∈ Kt v ++ css.flatMap Uk ∨ b ∈ Uk cs ∨ w.heap.size ≤ b:=by
 have hnd:=List.nodup_append.1 hn
 have hsz:=hm.size
 have hvb : ∀ b ∈ Kt v',b ∈ Kt v ∨ w.heap.size ≤ b:=fun b h=>(hb b (mem_blks.1 h)).imp mem_blks.2 id
 refine ⟨_,⟨css ++ [cs],by simpa using h',All2.snoc ?_ ?_,rfl,?_⟩,fun b hb=>?_⟩
 ·exact All2.imp (fun _ _ h=>Own1.wide h (Nat.le_refl _) (by omega)) (Ks ha (hm.kp fun g hg hc=>hnd.2.2 g (mem_blks.2 hg) g hc rfl))
 ·exact Own1.wide (Own1.kp ho (hm.kp fun g hg hc=>hdj g (by simp [mem_blks.2 hg]) hc)) hl (by omega)
 ·simp only [List.flatMap_append,List.flatMap_cons,List.flatMap_nil,List.append_nil]
  refine List.nodup_append.2 ⟨blks_nd _,List.nodup_append.2 ⟨hnd.2.1,Own1.nd ho,fun a ha' b hb' e=>hdj a (by simp only [List.mem_append];exact .inr ha') (e ▸ hb')⟩,fun a ha' b hb' e=>?_⟩
  subst e
  rcases hvb a ha' with h1 | h1
  ·rcases List.mem_append.1 hb' with h2 | h2
   ·exact hnd.2.2 a h1 a h2 rfl
   ·exact hdj a (by simp [h1]) h2
  ·rcases List.mem_append.1 hb' with h2 | h2
   ·have:=K6 ha a h2;omega
   ·have:=Own1.inn ho a h2;omega
 ·simp only [List.flatMap_append,List.flatMap_cons,List.flatMap_nil,List.append_nil,List.mem_append] at hb ⊢
  rcases hb with hb | hb | hb
  ·exact (hvb b hb).elim (fun h=>.inl (.inl h)) (fun h=>.inr (.inr h))
  ·exact .inl (.inr hb)
  ·exact .inr (.inl hb)
end
section
variable {P : Program} {ops : Array Oper} {D : Bool} {n : Nat} {K : Act → World → Prop} {l : List (Bool × Oper)} {σ : Ki} {w w0 : World} {d : Option Tmp} {ty : TypeId} {pos : String} {af : Array Edge}
theorem J_appendF {α : Type} [Own1 α] {t e bytes lo hi lo2 hi2 : Nat} {z : List Value} {s x : Operand} {v u : Value} {xs : List α} {y : α} {cs : List Value} {f : List Nat} (hT : SlT P t e (Dat.sz α) bytes z) (hs : ev σ s = some v) (hx : ev σ x = some u) (hown : OwF w lo hi v xs f) (hu : Src w (Dat.sz α) u cs) (ho : Own1.O w lo2 hi2 cs y) (hdj : Dj f (Uk cs))
  (hbound : (xs.length + 1) * (Dat.sz α * bytes) ≤ 140737488355328) (hby0 : 0 < bytes) (hlo : lo ≤ w.heap.size) (hhi : hi ≤ w.heap.size) (hl : lo ≤ lo2) (hl2 : lo2 ≤ w.heap.size) (hh : hi2 ≤ w.heap.size) (hD : D = false) (hd : Cs n d = true)
  (h : ∀ v' w' f',Mod w w' v.ownBlock → OwF w' lo w'.heap.size v' (xs ++ [y]) f' → (∀ b ∈ f',b ∈ f ∨ lo2 ≤ b) → J P ops D n K l (put σ d v') w') :
  J P ops D n K ((false,⟨d,.call { callee:=.builtin .append,args:=#[s,x],argTypes:=#[t,t] },ty,pos,af,none⟩) :: l) σ w:=by
 obtain ⟨css,h1,h2,rfl,h4⟩:=hown
 have hlc : cs.length = Dat.sz α:=Dat.len (Own1.rd ho)
 have hlf : css.flatten.length = xs.length * Dat.sz α:=by rw [V0 h2 fun c y h=>Dat.len (Own1.rd h),All2.length h2]
 refine Ka hT hs hx h1 hu (Dat.one (Own1.rd ho)) ?_ hby0 hlo hhi hD hd fun v' w' hm hw hb=>?_
 ·rw [hlf,hlc]
  rw [show xs.length * Dat.sz α + Dat.sz α = (xs.length + 1) * Dat.sz α from by rw [Nat.add_mul];omega,Nat.mul_assoc];exact hbound
 ·obtain ⟨f',hf,hin⟩:=OwF.snoc hm hb h1 h2 h4 hw ho hdj hhi hl hh
  exact h v' w' f' hm hf fun b hb=>(hin b hb).imp id fun q=>q.elim (fun q=>(Own1.inn ho b q).1) (fun q=>Nat.le_trans hl2 q)
theorem J_storeEx {t b off : Nat} {p q : Operand} {u : Value} {x : Option Nat} {R : World → Prop} (hx : ev σ p = some (.pointer (some ⟨b,off,none⟩))) (hy : ev σ q = some u) (hr : ∃ w',(storeVar t ⟨b,off,none⟩ u).run P w = .ok () w' ∧ Mod w w' x ∧ R w')
  (hk : ∀ w',Mod w w' x → R w' → J P ops D n K l σ w') : J P ops D n K ((false,⟨none,.store t p q,ty,pos,af,none⟩) :: l) σ w:=J_unS rfl rfl fun a ha=>by
 obtain ⟨w',hr,hm,hR⟩:=hr
 exact Vu (w':=w') (by simp [execOp,ha.eval hx,ha.eval hy,Instr.storeAt,Instr.sureAddr,hr]) (hk w' hm hR _ ha)
end
theorem Dj.grow {f g g' c : List Nat} (h : Dj f g) (hg : ∀ b ∈ g',b ∈ g ∨ b ∈ c) (hc : Dj f c) : Dj f g':=fun b hb hb'=>(hg b hb').elim (h b hb) (hc b hb)
def FsLt (N : Nat) : List (List Nat) → Prop
 | []=>True
 | f :: fs=>(∀ b ∈ f,b < N) ∧ FsLt N fs
theorem DjA.set {N : Nat} {f g g' : List Nat} (hf : ∀ b ∈ f,b < N) (hin : ∀ b ∈ g',b ∈ g ∨ N ≤ b) : ∀ {fs : List (List Nat)} (i : Nat),fs[i]? = some g → DjA f fs → DjA f (fs.set i g')
 | [],_,hi,_=>by simp at hi
 | x :: fs,0,hi,h=>by
  simp only [List.getElem?_cons_zero,Option.some.injEq] at hi
  subst hi
  exact ⟨fun b hb hc=>(hin b hc).elim (h.1 b hb) (fun h=>by have:=hf b hb;omega),h.2⟩
 | x :: fs,i + 1,hi,h=>⟨h.1,DjA.set hf hin i (by simpa using hi) h.2⟩
theorem DjA.grow {N : Nat} {g g' : List Nat} (hin : ∀ b ∈ g',b ∈ g ∨ N ≤ b) : ∀ {fs : List (List Nat)},DjA g fs → FsLt N fs → DjA g' fs
 | [],_,_=>trivial
 | _ :: _,h,l=>⟨fun b hb hc=>(hin b hb).elim (fun q=>h.1 b q hc) (fun q=>by have:=l.1 b hc;omega),DjA.grow hin h.2 l.2⟩
theorem DjL.set {N : Nat} {g g' : List Nat} (hin : ∀ b ∈ g',b ∈ g ∨ N ≤ b) : ∀ {fs : List (List Nat)} (i : Nat),fs[i]? = some g → DjL fs → FsLt N fs → DjL (fs.set i g')
 | [],_,hi,_,_=>by simp at hi
 | x :: fs,0,hi,h,l=>by
  simp only [List.getElem?_cons_zero,Option.some.injEq] at hi
  subst hi
  exact ⟨DjA.grow hin h.1 l.2,h.2⟩
 | x :: fs,i + 1,hi,h,l=>⟨DjA.set l.1 hin i (by simpa using hi) h.1,DjL.set hin i (by simpa using hi) h.2 l.2⟩
section
variable {α : Type} [Own1 α] {w w' w0 : World} {lo hi lo2 hi2 N : Nat} {v u : Value} {xs as bs : List α} {f fp : List Nat} {cs cs' : List Value} {y : α} {x : Option Nat}
theorem OwF.v_mem (h : OwF w lo hi v xs f) : ∀ g,v.ownBlock = some g → g ∈ f:=fun g hg=>by
 obtain ⟨css,h1,h2,rfl,h4⟩:=h
 exact List.mem_append.2 (.inl (mem_blks.2 hg))
theorem RowK.modS (h : RowK w0 fp w lo hi v as cs bs) (m : Mod w w' u.ownBlock) (hu : u ∈ cs) : RowK w0 fp w' lo hi v as cs bs:=h.kp (fun _ hl _=>m.kp fun g hg hc=>hl g hc (List.mem_flatMap.2 ⟨u,hu,mem_blks.2 hg⟩)) (m.kq (h.fpr_mem hu))
theorem Blk.kp {b : Nat} (h : Blk w b cs) (k : Kp w w' [b]) : Blk w' b cs:=by
 obtain ⟨T,hb⟩:=h
 exact ⟨T,(k.2 b (by simp) (Array.getElem?_eq_some_iff.1 hb).1).trans hb⟩
theorem RowK.setFN {P : Program} {t i k : Nat} {u zv : Value} (hT : ScT P t zv) (h : RowK w0 fp w lo hi v as cs bs) (hi' : as.length = i) (hk : k < Dat.sz α) (h1 : u.oneCell' = true) (hc : cs.set k u = cs') (ho : Own1.O w lo2 hi2 cs' y) (hnew : FpA (fun b=>b ∈ Uk cs ∨ N ≤ b) cs') (hlt : ∀ b ∈ fp,b < N) (hl : lo ≤ lo2) (hh : hi ≤ hi2) :
  ∃ w',(storeVar t ⟨Kk v,Ue v + i * Dat.sz α + k,none⟩ u).run P w = .ok () w' ∧ Mod w w' v.ownBlock ∧ ∃ f',OwF w' lo hi2 v (as ++ y :: bs) f' ∧ ∀ b ∈ f',b ∈ fp ∨ N ≤ b:=by
 obtain ⟨w',f',a,b,c,_,e⟩:=h.setF hT hi' hk h1 hc ho (fun b hb hc=>(hnew.all b hb).elim id (fun q=>by have:=hlt b hc;omega)) hl hh
 exact ⟨w',a,b,f',c,fun b hb=>(e b hb).elim .inl fun q=>(hnew.all b q).imp (fun q=>h.fpr_all b q) id⟩
end
theorem ModR.grow {a b c : World} {lo lo' hi' : Nat} (h : ModR a b lo a.heap.size) (k : ModR b c lo' hi') (hl : lo ≤ lo') : ModR a c lo a.heap.size :=
 ⟨k.os.trans h.os,k.tape.trans h.tape,k.output.trans h.output,Nat.le_trans h.size k.size,
  fun i hi hx=>(k.block i (Nat.lt_of_lt_of_le hi h.size) (by omega)).trans (h.block i hi hx),Nat.le_trans h.drawn k.drawn⟩
section
variable {α : Type} [Own1 α] {w w' : World} {lo hi : Nat} {v u : Value} {as bs : List α} {fp : List Nat} {cs : List Value} {x : Option Nat}
def RowR (fp : List Nat) (w : World) (lo hi : Nat) (v : Value) (as : List α) (cs : List Value) (bs : List α) : Prop:=RowK w fp w lo hi v as cs bs
theorem RowR.ext (h : RowR fp w lo hi v as cs bs) (e : Ext w w') : RowR fp w' lo hi v as cs bs:=⟨(RowK.ext h e).1,Kq.refl _ _⟩
theorem RowR.mod (h : RowR fp w lo hi v as cs bs) (m : Mod w w' x) (hx : ∀ g,x = some g → g < lo ∨ hi ≤ g) : RowR fp w' lo hi v as cs bs:=by
 obtain ⟨⟨ca,cb,h1,ha,hb,hl,hf,hn⟩,_⟩:=h
 refine ⟨⟨ca,cb,h1.mod m hx,Ks ha (m.kp fun g hg hc=>?_),Ks hb (m.kp fun g hg hc=>?_),hl,hf,hn⟩,Kq.refl _ _⟩
 ·have:=K6 ha g hc;have:=hx g hg;omega
 ·have:=K6 hb g hc;have:=hx g hg;omega
theorem RowR.kp (h : RowR fp w lo hi v as cs bs) (k : Kp w w' fp) : RowR fp w' lo hi v as cs bs:=by
 obtain ⟨⟨ca,cb,h1,ha,hb,hl,rfl,hn⟩,_⟩:=h
 refine ⟨⟨ca,cb,h1.kp (k.sub fun b hb=>?_),Ks ha (k.sub fun b hb=>?_),Ks hb (k.sub fun b hb=>?_),hl,rfl,hn⟩,Kq.refl _ _⟩
 ·simp only [List.mem_append];exact .inl hb
 ·simp only [List.mem_append];exact .inr (.inl hb)
 ·simp only [List.mem_append];exact .inr (.inr (.inr hb))
theorem RowR.modS (h : RowR fp w lo hi v as cs bs) (m : Mod w w' u.ownBlock) (hu : u ∈ cs) : RowR fp w' lo hi v as cs bs:=⟨(RowK.modS h m hu).1,Kq.refl _ _⟩
end
def cutG {α : Type} (n : Nat) (σf : α → Ki) (Φ : α → World → Prop) (Q : Exit → Act → World → Prop) : Exit → Act → World → Prop
 | .normal,a,w=>∃ y,Fits n (σf y) a ∧ Φ y w
 | e,a,w=>Q e a w
section
variable {P : Program} {n : Nat} {Q : Exit → Act → World → Prop} {cs : List Code} {σ : Ki} {w : World} {α : Type} {σf : α → Ki} {Φ : α → World → Prop}
theorem S_cutG (σf : α → Ki) (Φ : α → World → Prop) {x : Code} (h1 : S P n (cutG n σf Φ Q) [x] σ w) (h2 : ∀ y w',Φ y w' → S P n Q cs (σf y) w') : S P n Q (x :: cs) σ w:=fun a ha =>
 wp_mono (h1 a ha) fun e a w he=>by
  cases e with
  | normal =>
   obtain ⟨y,hf,hp⟩:=he
   exact h2 y w hp a hf
  | exit id=>exact he
  | goto l=>exact he
  | ret=>exact he
  | panic ch=>exact he
  | outgrown=>exact he
theorem Cl (y : α) (hs : Sub (σf y) σ) (hΦ : Φ y w) : E n (cutG n σf Φ Q) .normal σ w:=fun _ ha=>⟨y,ha.sub hs,hΦ⟩
end
def AV (P : Program) (n : Nat) (Θ : World → Prop) (KE : Ki → Prop) : List (Bool × Oper) → Ki → Prop
 | [],σ=>KE σ
 | (_,o) :: l,σ=>∃ v,(∀ a,Fits n σ a → o.guard = none ∧ ∀ w,Θ w → (execOp a.eval o).run P w = .ok (.value v) w) ∧ Cs n o.dst = true ∧ AV P n Θ KE l (put σ o.dst v)
def gridOK (ops : Array Oper) (ks : List Nat) (d1 d2 : Nat) (κ3 : List (Nat × Bool)) : List (Nat × Bool) → List Nat → Array Bool → Bool
 | [],[],L=>Up [] ops κ3 L
 | [],b :: B,L=>(Region.ready .any ops L == [b]) && gridOK ops ks d1 d2 κ3 [] B (L.setIfInBounds b true)
 | (i,t) :: A,B,L=>(ops[i]?).any (fun o=>!Gp o && match o.dst with
   | some d=>!(d == d1) && !(d == d2) && !ks.contains d
   | none=>false) && (match B with
   | []=>(Region.ready .any ops L == [i]) && gridOK ops ks d1 d2 κ3 A [] (L.setIfInBounds i true)
   | b :: B'=>((Region.ready .any ops L == [i,b]) || (Region.ready .any ops L == [b,i])) && !(i == b) && gridOK ops ks d1 d2 κ3 A (b :: B') (L.setIfInBounds i true) && gridOK ops ks d1 d2 κ3 ((i,t) :: A) B' (L.setIfInBounds b true))
def gridF (ops : Array Oper) (ks : List Nat) (d1 d2 : Nat) (κ3 : List (Nat × Bool)) : Nat → List (Nat × Bool) → List Nat → Array Bool → Bool
 | 0,_,_,_=>false
 | _ + 1,[],[],L=>Up [] ops κ3 L
 | f + 1,[],b :: B,L=>(Region.ready .any ops L == [b]) && gridF ops ks d1 d2 κ3 f [] B (L.setIfInBounds b true)
 | f + 1,(i,t) :: A,B,L=>(ops[i]?).any (fun o=>!Gp o && match o.dst with
   | some d=>!(d == d1) && !(d == d2) && !ks.contains d
   | none=>false) && (match B with
   | []=>(Region.ready .any ops L == [i]) && gridF ops ks d1 d2 κ3 f A [] (L.setIfInBounds i true)
   | b :: B'=>((Region.ready .any ops L == [i,b]) || (Region.ready .any ops L == [b,i])) && !(i == b) && gridF ops ks d1 d2 κ3 f A (b :: B') (L.setIfInBounds i true) && gridF ops ks d1 d2 κ3 f ((i,t) :: A) B' (L.setIfInBounds b true))
section
variable {P : Program} {ops : Array Oper} {n d1 d2 b1 b2 : Nat} {Θ : World → Prop} {K : Act → World → Prop} {σ0 : Ki} {α β : Type} {v1 : α → Value} {v2 : α → β → Value} {Φ2 : α → World → Prop} {Φ3 : α → β → World → Prop} {o1 o2 : Oper} {κ3 : List (Nat × Bool)} {l3 : List (Bool × Oper)} {ks : List Nat} {S : World → Prop}
theorem bv_op {Q : Exit → Act → World → Prop} {i : Nat} {o : Oper} {a : Act} {w : World} {Kb K' : Act → World → Prop} (ho : ops[i]? = some o) (hg : o.guard = none) (hw : o.wp P a w Kb NoQ) (h : ∀ a' w',Kb a' w' → K' a' w') : wpOp P ops Q i K' a w:=by
 unfold wpOp
 simp only [ho]
 rw [if_pos (by simp [Region.wanted,hg])]
 exact .inl (Kj h (fun _ _ _ h=>h.elim) hw)
structure AInv (n : Nat) (σ0 : Ki) (d1 d2 : Nat) (σ : Ki) (a : Act) : Prop where
 fit : Fits n σ a
 fit0 : Fits n σ0 a
 no1 : look σ d1 = none
 no2 : look σ d2 = none
theorem Cq {σ : Ki} {d d' : Nat} {v : Value} (h : d' ≠ d) : look (put σ (some d) v) d' = look σ d':=by
 simp only [put,look]
 rw [show Nat.beq d' d = false from by cases hb : Nat.beq d' d with
  | true=>exact absurd (Nat.eq_of_beq_eq_true hb) h
  | false=>rfl]
 rfl
theorem AInv.put {σ : Ki} {a : Act} {d : Nat} {v : Value} (h : AInv n σ0 d1 d2 σ a) (hd : Cs n (some d) = true) (h1 : d ≠ d1) (h2 : d ≠ d2) (h0 : look σ0 d = none) : AInv n σ0 d1 d2 (put σ (some d) v) (a.put (some d) v) :=
 ⟨h.fit.put hd v,(Off.put d a v).fits h0 h.fit0,by rw [Cq (Ne.symm h1)];exact h.no1,by rw [Cq (Ne.symm h2)];exact h.no2⟩
theorem AInv.off {σ : Ki} {a a' : Act} {d : Nat} (h : AInv n σ0 d1 d2 σ a) (ho : Off d a a') (h1 : look σ d = none) (h0 : look σ0 d = none) : AInv n σ0 d1 d2 σ a':=⟨ho.fits h1 h.fit,ho.fits h0 h.fit0,h.no1,h.no2⟩
variable (hs : Region.noSelect ops = true) (hl3 : Y0 ops κ3 = some l3) (hks : ks = σ0.map (·.1)) (hΘ3 : ∀ x y w,Φ3 x y w → Θ w)
include hs hl3 hks hΘ3 in
variable {w0 : World}
include hs hl3 hks hΘ3 in
include hs hl3 hks hΘ3 in
end
def regVOK (ops : Array Oper) (ks : List Nat) (b1 b2 d1 d2 : Nat) (κ1 κ κ3 : List (Nat × Bool)) : Bool :=
 Region.noSelect ops && (κ1.length + (κ.length + (2 + κ3.length)) == ops.size) && !(b1 == b2) && !(d1 == d2) && !ks.contains d1 && !ks.contains d2 &&
 (ops[b1]?).any (fun o=>!Gp o && o.guard.isNone && (o.dst == some d1)) && (ops[b2]?).any (fun o=>o.guard.isNone && (o.dst == some d2)) && match K5 [b2] ops κ1 (Array.replicate ops.size false) with
  | some L=>gridF ops ks d1 d2 κ3 (κ.length + 3) κ [b1,b2] L
  | none=>false
end Go.Proofs.YtcpjlfikdobckaaGreat.X

namespace Go.Proofs.YtcpjlfikdobckaaGreat.X
open Go
open Enc (enc)

structure Byt where
 v : Int
 deriving DecidableEq,Inhabited
instance : Enc Byt:=⟨fun x=>[.int .u8 x.v],1,fun _=>rfl,fun _=>rfl,by decide⟩
theorem Dec_byt {P : Program} {t : TypeId} (ht : P.underlying t = some (.int .u8)) : Dec P t (fun _ cs (x : Byt)=>cs = enc x ∧ True):=fun _ _ _ _ _ h=>by
 obtain ⟨n,rfl,_,_⟩:=DataW.trod_int ht h
 exact ⟨⟨n⟩,rfl,trivial⟩
def andB (k : IntKind) (p q : Int) : Int:=k.wrap ((BitVec.ofInt k.bits p &&& BitVec.ofInt k.bits q).toNat : Int)
def xorB (k : IntKind) (p q : Int) : Int:=k.wrap ((BitVec.ofInt k.bits p ^^^ BitVec.ofInt k.bits q).toNat : Int)
def shrB (k : IntKind) (p : Int) (q : Int) : Int:=p.fdiv (2 ^ (min q.toNat k.bits))
theorem T0 (p : Int) : 0 ≤ andB .i64 p 255 ∧ andB .i64 p 255 ≤ 255:=by
 unfold andB
 rw [BitVec.toNat_and]
 have h : (BitVec.ofInt IntKind.i64.bits 255).toNat = 255:=by decide
 rw [h]
 have:=@Nat.and_le_right (BitVec.ofInt IntKind.i64.bits p).toNat 255
 rw [Ke (by omega) (by omega)]
 omega
section
variable {P : Program} {n : Nat} {σ : Ki} {w : World} {d : Option Tmp} {ty : TypeId} {pos : String} {af : Array Edge} {g : Option (Nat × Bool)} {x y : Operand} {t u : TypeId} {k k' : IntKind} {p q : Int}
theorem R_and (hx : ev σ x = some (.int k p)) (hy : ev σ y = some (.int k q)) : K0 P n σ w ⟨d,.binOp .and t x y u,ty,pos,af,g⟩ (.int k (andB k p q)):=fun a ha w' _=>by
 simp [execOp,ha.eval hx,ha.eval hy,eqGuard,binOp,Op.intBits,andB]
theorem R_xor (hx : ev σ x = some (.int k p)) (hy : ev σ y = some (.int k q)) : K0 P n σ w ⟨d,.binOp .xor t x y u,ty,pos,af,g⟩ (.int k (xorB k p q)):=fun a ha w' _=>by
 simp [execOp,ha.eval hx,ha.eval hy,eqGuard,binOp,Op.intBits,xorB]
theorem R_shr (hx : ev σ x = some (.int k p)) (hy : ev σ y = some (.int k' q)) (hq : 0 ≤ q) : K0 P n σ w ⟨d,.binOp .shr t x y u,ty,pos,af,g⟩ (.int k (shrB k p q)):=fun a ha w' _=>by
 have : ¬ q < 0:=by omega
 simp [execOp,ha.eval hx,ha.eval hy,eqGuard,binOp,Op.shift,shrB,this]
end

def CurO (w : World) (b : Nat) (v : Value) (bs : List Byt) : Prop:=∃ i : Nat,∃ h : Int,Blk w b [v,.int .i64 ((i : Nat) : Int),.int .i64 h] ∧ i ≤ bs.length
section
variable {w w' : World} {b lo hi : Nat} {x : Option Nat} {v : Value} {bs : List Byt}
theorem CurO.lt (h : CurO w b v bs) : b < w.heap.size:=by
 obtain ⟨i,n,hb,_⟩:=h
 exact hb.lt
theorem CurO.mod (h : CurO w b v bs) (m : Mod w w' x) (hx : ∀ g,x = some g → g ≠ b) : CurO w' b v bs:=by
 obtain ⟨i,n,hb,hi⟩:=h
 exact ⟨i,n,hb.mod m hx,hi⟩
theorem CurO.ext (h : CurO w b v bs) (e : Ext w w') : CurO w' b v bs:=h.mod e (fun _ h=>by cases h)
theorem CurO.modR (h : CurO w b v bs) (m : ModR w w' lo hi) (hx : b < lo ∨ hi ≤ b) : CurO w' b v bs:=by
 obtain ⟨i,n,hb,hi⟩:=h
 exact ⟨i,n,hb.modR m hx,hi⟩
end
def Stab (w : World) (b : Nat) (R : World → Prop) : Prop:=∀ w',ModR w w' b (b + 1) → R w'
theorem Stab.on {w w' : World} {b : Nat} {R : World → Prop} (h : Stab w b R) (m : ModR w w' b (b + 1)) : Stab w' b R:=fun w2 m2=>h w2 (m.trans m2 (Nat.le_refl _) (Nat.le_refl _))
theorem tmod_nat {a n : Int} (ha : 0 ≤ a) (hn : ¬ n ≤ 0) : ((Int.toNat (Int.tmod a n) : Nat) : Int) = Int.tmod a n ∧ Int.tmod a n < n :=
 ⟨Int.toNat_of_nonneg (Int.tmod_nonneg n ha),Int.tmod_lt_of_pos a (by omega)⟩
theorem not_f {b : Bool} (h : (!b) = false) : b = true:=by simpa using h
theorem four_nn {x y z u : Int} (hx : 0 ≤ x) (hx' : x ≤ 255) (hy : 0 ≤ y) (hy' : y ≤ 255) (hz : 0 ≤ z) (hz' : z ≤ 255) (hu : 0 ≤ u) (hu' : u ≤ 255) :
  0 ≤ IntKind.i64.wrap (IntKind.i64.wrap (IntKind.i64.wrap (IntKind.i64.wrap (x * 16777216) + IntKind.i64.wrap (y * 65536)) + IntKind.i64.wrap (z * 256)) + u):=by
 rw [@Ke (x * 16777216) (by omega) (by omega),@Ke (y * 65536) (by omega) (by omega),@Ke (z * 256) (by omega) (by omega),@Ke (x * 16777216 + y * 65536) (by omega) (by omega),@Ke (x * 16777216 + y * 65536 + z * 256) (by omega) (by omega),Ke (by omega) (by omega)]
 omega

def JC (P : Program) (ops : Array Oper) (n : Nat) (Θ : World → Prop) (KE : Ki → World → Prop) : List (Bool × Bool × Oper) → Ki → World → Prop
 | [],σ,w=>KE σ w
 | (p,true,o) :: l,σ,w=>∃ v,(∀ a,Fits n σ a → o.guard = none ∧ ∀ w',p = true ∨ Θ w' → (execOp a.eval o).run P w' = .ok (.value v) w') ∧ Cs n o.dst = true ∧ JC P ops n Θ KE l (put σ o.dst v) w
 | (_,false,o) :: l,σ,w=>o.guard = none ∧ J P ops false n (fun a' w'=>Θ w' ∧ ∃ σ',Fits n σ' a' ∧ JC P ops n Θ KE l σ' w') [(false,o)] σ w
def Bc (pp : List Nat) (ops : Array Oper) : List (Nat × Bool) → Option (List (Bool × Bool × Oper))
 | []=>some []
 | (i,b) :: κ=>match ops[i]?,Bc pp ops κ with
  | some o,some l=>some ((pp.contains i,b,o) :: l)
  | _,_=>none
def Gl (pp : List Nat) (ops : Array Oper) : List (Nat × Bool) → Array Bool → Option (Array Bool)
 | [],listed=>some listed
 | (i,true) :: κ,listed=>bif Region.free .any ops listed i && (Region.ready .any ops listed).contains i && (T4 [] ops listed i || (pp.contains i && !((ops[i]?).any Gp))) then Gl pp ops κ (listed.setIfInBounds i true) else none
 | (i,false) :: κ,listed=>bif Region.ready .any ops listed == [i] then Gl pp ops κ (listed.setIfInBounds i true) else none
def headX (X : List Nat) (ops : Array Oper) : List (Nat × Bool) → Bool
 | []=>true
 | (i,b) :: _=>Hu X ops i && !b
theorem wpAnyG_headX {P : Program} {ops : Array Oper} {X : List Nat} {Q : Exit → Act → World → Prop} {S S' : World → Prop} {L : Array Bool} {a : Act} {w : World} : ∀ (κ : List (Nat × Bool)),headX X ops κ = true → Up X ops κ L = true → Xu P ops X Q S κ.length L a w → Xu P ops X Q S' κ.length L a w
 | [],_,_,h=>h
 | (i,b) :: κ,hx,he,h=>by
  simp only [headX,Bool.and_eq_true,Bool.not_eq_true'] at hx
  obtain ⟨hx,rfl⟩:=hx
  simp only [Up,Bool.and_eq_true,beq_iff_eq] at he
  refine ⟨h.1,fun j hj=>?_⟩
  have hq:=h.2 j hj
  rw [he.1] at hj
  obtain rfl : j = i:=by simpa using hj
  exact wpOp_mono (fun a' w' h'=>⟨fun hc=>(by rw [hx] at hc;cases hc),h'.2⟩) hq
theorem Gt {P : Program} {ops : Array Oper} {n : Nat} {Θ : World → Prop} {K : Act → World → Prop} {KE : Ki → World → Prop} {m : Nat} (pp : List Nat) (hs : Region.noSelect ops = true) {L1 : Array Bool}
  (hend : ∀ σ a w,Θ w → Fits n σ a → KE σ w → Xu P ops [] (Vr K) Θ m L1 a w) :
  ∀ (κ : List (Nat × Bool)) (l : List (Bool × Bool × Oper)) (L : Array Bool) (σ : Ki) (a : Act) (w : World),Bc pp ops κ = some l → Gl pp ops κ L = some L1 → Θ w → Fits n σ a →
   JC P ops n Θ KE l σ w → Xu P ops [] (Vr K) Θ (κ.length + m) L a w
 | [],l,L,σ,a,w,hp,he,hθ,hf,h=>by
  simp only [Bc,Option.some.injEq] at hp
  subst hp
  simp only [Gl,Option.some.injEq] at he
  subst he
  rw [List.length_nil,Nat.zero_add]
  exact hend σ a w hθ hf h
 | (i,true) :: κ,l,L,σ,a,w,hp,he,hθ,hf,h=>by
  simp only [Bc] at hp
  split at hp
  ·rename_i o l' ho hl'
   simp only [Option.some.injEq] at hp
   subst hp
   simp only [Gl] at he
   cases hc : (Region.free .any ops L i && (Region.ready .any ops L).contains i && (T4 [] ops L i || (pp.contains i && !((ops[i]?).any Gp)))) with
   | false=>rw [hc] at he;cases he
   | true =>
    rw [hc] at he
    simp only [cond_true] at he
    simp only [Bool.and_eq_true] at hc
    obtain ⟨⟨hfr,hr⟩,hw⟩:=hc
    obtain ⟨v,hy,hd,h⟩:=h
    obtain ⟨hg,hy⟩:=hy a hf
    have hwt : Region.wanted o (yielded ops a.tmps) = true:=by simp [Region.wanted,hg]
    have ih:=Gt pp hs hend κ l' _ _ _ w hl' he hθ (hf.put hd v) h
    rw [List.length_cons,show κ.length + 1 + m = (κ.length + m) + 1 from by omega]
    simp only [Bool.or_eq_true,ho,Option.any_some,Bool.and_eq_true,Bool.not_eq_true'] at hw
    rcases hw with hw | hw
    ·exact Tl ho (Region.noSelect_spec hs) (fun c a w h=>h.elim) _ L a w (Region.free_spec ho hfr) (H5 hw) (Cm hw) (by simpa using hr) (.inl ⟨hwt,fun w' h'=>hy w' (.inr h')⟩) hθ ih
    ·exact H4 ho (Region.noSelect_spec hs) (fun c a w h=>h.elim) (by simp only [Hu,ho,Option.any_some,hw.2];rfl) _ L a w (Region.free_spec ho hfr) (by simpa using hr) (.inl ⟨hwt,fun w'=>hy w' (.inl hw.1)⟩) hθ ih
  ·cases hp
 | (i,false) :: κ,l,L,σ,a,w,hp,he,hθ,hf,h=>by
  simp only [Bc] at hp
  split at hp
  ·rename_i o l' ho hl'
   simp only [Option.some.injEq] at hp
   subst hp
   simp only [Gl] at he
   cases hc : (Region.ready .any ops L == [i]) with
   | false=>rw [hc] at he;cases he
   | true =>
    rw [hc] at he
    simp only [cond_true] at he
    have hr : Region.ready .any ops L = [i]:=by simpa using hc
    obtain ⟨hg,h⟩:=h
    have h1:=h a hf
    unfold Gs at h1
    rw [if_pos (by simp [Region.wanted,hg])] at h1
    rw [List.length_cons,show κ.length + 1 + m = (κ.length + m) + 1 from by omega]
    refine ⟨fun h0=>(by rw [h0] at hr;cases hr),fun j hj=>?_⟩
    rw [hr] at hj
    obtain rfl : j = i:=by simpa using hj
    refine bv_op ho hg h1 fun a' w' h'=>?_
    obtain ⟨_,hθ',σ',hf',hJ⟩:=h'
    have ih:=Gt pp hs hend κ l' _ _ a' w' hl' he hθ' hf' hJ
    exact ⟨fun _=>⟨hθ',ih⟩,fun _=>Xy _ _ _ _ ih⟩
  ·cases hp
def regWOK (pp : List Nat) (ops : Array Oper) (κ κ3 : List (Nat × Bool)) : Bool :=
 Region.noSelect ops && (κ.length + κ3.length == ops.size) && headX [] ops κ3 && match Gl pp ops κ (Array.replicate ops.size false) with
  | some L=>Up [] ops κ3 L
  | none=>false
def regFkOK (pp : List Nat) (ops : Array Oper) (i j : Nat) (κ κa κb κ3a κ3b : List (Nat × Bool)) : Bool :=
 Region.noSelect ops && (κ.length + (1 + (κa.length + κ3a.length)) == ops.size) && (κ.length + (1 + (κb.length + κ3b.length)) == ops.size) && headX [] ops κ3a && headX [] ops κ3b && match Gl pp ops κ (Array.replicate ops.size false) with
  | some L=>((Region.ready .any ops L == [i,j]) || (Region.ready .any ops L == [j,i])) && (match Gl pp ops κa (L.setIfInBounds i true) with
   | some La=>Up [] ops κ3a La
   | none=>false) && (match Gl pp ops κb (L.setIfInBounds j true) with
   | some Lb=>Up [] ops κ3b Lb
   | none=>false)
  | none=>false
section
variable {P : Program} {n : Nat} {Q : Exit → Act → World → Prop} {cs : List Code} {σ : Ki} {w : World}
theorem Ga (hm : P.follows .mixedOrders = true) (pp : List Nat) (κ κ3 : List (Nat × Bool)) {id : Nat} {ops : Array Oper} {l : List (Bool × Bool × Oper)} {l3 : List (Bool × Oper)} (hk : regWOK pp ops κ κ3 = true) (hl : Bc pp ops κ = some l) (hl3 : Y0 ops κ3 = some l3) (Θ : World → Prop)
  (h : ∀ w',Ext w w' → Θ w' ∧ JC P ops n Θ (fun σ w=>J P ops true n (CK P Q cs) l3 σ w) l σ w') : S P n Q (.region id ops true :: cs) σ w:=fun a ha=>by
 simp only [regWOK,Bool.and_eq_true,beq_iff_eq] at hk
 obtain ⟨⟨⟨hs,hlen⟩,hx⟩,hk⟩:=hk
 split at hk
 ·rename_i L hL
  obtain ⟨hθ,hj⟩:=h _ (Ext.drew w)
  have h3:=Gt (K:=CK P Q cs) pp hs (fun σ a w hθ hf hK=>wpAnyG_headX κ3 hx hk (Xt hs κ3 l3 L a w hl3 hk (hK a hf))) κ l _ σ a _ hl hL hθ ha hj
  rw [hlen] at h3
  exact wp_mono (wp_region_any hm (Xy _ _ _ _ h3)) (fun e a w h=>by cases e <;> first | exact h | exact h.elim)
 ·cases hk
variable {ops : Array Oper} {Θ : World → Prop} {KE : Ki → World → Prop} {l : List (Bool × Bool × Oper)} {o : Oper} {p : Bool}
theorem U2 {v : Value} (hg : o.guard = none) (h : ∀ w',Θ w' → K0 P n σ w' o v) (hd : Cs n o.dst = true) (hr : JC P ops n Θ KE l (put σ o.dst v) w) : JC P ops n Θ KE ((false,true,o) :: l) σ w :=
 ⟨v,fun a ha=>⟨hg,fun w' hw=>h w' (hw.elim (fun h=>by cases h) id) a ha w' (Ext.refl w')⟩,hd,hr⟩
theorem Kw {v : Value} (hg : o.guard = none) (h : ∀ w',K0 P n σ w' o v) (hd : Cs n o.dst = true) (hr : JC P ops n Θ KE l (put σ o.dst v) w) : JC P ops n Θ KE ((true,true,o) :: l) σ w :=
 ⟨v,fun a ha=>⟨hg,fun w' _=>h w' a ha w' (Ext.refl w')⟩,hd,hr⟩
theorem K7 (hg : o.guard = none) (h : J P ops false n (fun a' w'=>Θ w' ∧ ∃ σ',Fits n σ' a' ∧ JC P ops n Θ KE l σ' w') [(false,o)] σ w) : JC P ops n Θ KE ((p,false,o) :: l) σ w:=⟨hg,h⟩
theorem Xx (hθ : Θ w) (h : JC P ops n Θ KE l σ w) : J P ops false n (fun a' w'=>Θ w' ∧ ∃ σ',Fits n σ' a' ∧ JC P ops n Θ KE l σ' w') [] σ w:=fun a ha=>⟨hθ,σ,ha,h⟩
theorem Gc (h : KE σ w) : JC P ops n Θ KE [] σ w:=h
end
section
variable {P : Program} {n : Nat} {σ : Ki} {w : World} {ops : Array Oper} {D : Bool} {K : Act → World → Prop} {l : List (Bool × Oper)}
theorem J_cutB (m : Nat) (σf : Bool → Ki) (Φ : Bool → World → Prop) (h1 : J P ops D n (fun a w'=>∃ b,Fits n (σf b) a ∧ Φ b w') (l.take m) σ w) (h2 : ∀ b w',Φ b w' → J P ops D n K (l.drop m) (σf b) w') : J P ops D n K l σ w:=fun a ha=>by
 rw [← List.take_append_drop m l]
 exact Vv _ _ _ _ (Ha (fun a w' ⟨b,hf,hp⟩=>h2 b w' hp a hf) _ _ _ (h1 a ha))
theorem Bo (b : Bool) {σf : Bool → Ki} {Φ : Bool → World → Prop} (hs : Sub (σf b) σ) (hp : Φ b w) : J P ops D n (fun a w'=>∃ b,Fits n (σf b) a ∧ Φ b w') [] σ w:=fun _ ha=>⟨b,ha.sub hs,hp⟩
end
section
variable {α : Type} [Own1 α] {w w' : World} {lo hi lo' hi' : Nat} {v u : Value} {xs as bs : List α} {f fp : List Nat} {cs : List Value}
theorem OwF.lit {b n : Nat} {css : List (List Value)} (hb : Blk w b css.flatten) (h : All2 (Own1.O w lo hi) css xs) (h1 : lo ≤ b) (h2 : b < hi) (hn : (b :: css.flatMap Uk).Nodup) (hx : xs.length = n) (hm : n ≤ maxLen) : OwF w lo hi (.slice (some ⟨b,0,none⟩) n n) xs (b :: css.flatMap Uk):=by
 subst hx
 refine ⟨css,Own.ofBlk hb h1 h2 ?_ hm,h,by simp [Kt,Value.ownBlock],hn⟩
 rw [V0 h fun c y h=>Dat.len (Own1.rd h),All2.length h]
theorem RowR.modR (h : RowR fp w lo hi v as cs bs) (m : ModR w w' lo' hi') (hx : ∀ b ∈ fp,b < lo' ∨ hi' ≤ b) : RowR fp w' lo hi v as cs bs:=RowR.kp h (m.kp hx)
theorem OwF.modR (h : OwF w lo hi v xs f) (m : ModR w w' lo' hi') (hx : hi ≤ lo' ∨ hi' ≤ lo) : OwF w' lo hi v xs f:=h.same (m.keeps hx)
end
section
variable {α : Type} [Dat α] {w w' : World} {lo hi lo' hi' : Nat} {cs : List Value} {y : α} {x : Option Nat}
theorem Dat.R.ext (h : Dat.R w lo hi cs y) (e : Ext w w') : Dat.R w' lo hi cs y:=Dat.same h (e.keeps (by simp))
theorem Dat.R.mod (h : Dat.R w lo hi cs y) (m : Mod w w' x) (hx : ∀ g,x = some g → g < lo ∨ hi ≤ g) : Dat.R w' lo hi cs y:=Dat.same h (m.keeps hx)
theorem Dat.R.modR (h : Dat.R w lo hi cs y) (m : ModR w w' lo' hi') (hx : hi ≤ lo' ∨ hi' ≤ lo) : Dat.R w' lo hi cs y:=Dat.same h (m.keeps hx)
theorem Dat.R.any (h : Dat.R w lo hi cs y) : Dat.R w 0 w.heap.size cs y:=Dat.any h
end
end Go.Proofs.YtcpjlfikdobckaaGreat.X

