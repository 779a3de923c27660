/- The law FnExactWorkOn: it returns true whatever its arguments, and they read afterwards as before; no condition. -/
import Derived.Test.YtffofbjffbfpiaaGreatFns6
import Derived.Test.YtffofbjffbfpiaaGreatDec
import Derived.Test.YtffofbjffbfpiaaGreatRows
namespace Go.Proofs.YtffofbjffbfpiaaGreat.fnExactWorkOnDone
open Go Go.Proofs.YtffofbjffbfpiaaGreat.X Go.Proofs Go.Proofs.YtffofbjffbfpiaaGreat
open Go.ChangeShapes Go.WideShapes Go.ChangeAt Go.RowKit
set_option maxRecDepth 100000 in
theorem lifted (os : Os) (started : os.Started) (H : Type) (enc : TypeId × Value → H) :
    ReturnsInHanded {} Tryz.checked os 3 .any (Rows.fnExactWorkOnSpec.pre6 enc Tryz.prog Tryz.f3 Rows.fnExactWorkOnRow.domain false) (Rows.fnExactWorkOnSpec.post enc Tryz.prog Tryz.f3 false true false false) := by
  refine returnsInHanded_of_change (C := Tryz.checked) ownk started (by kernel_rfl) Tryz.func3
    (ChangeSpec.witness6 (enc := enc) (C := Tryz.checked) false ⟨#[], #[.agg #[.slice none 0 0, .int .i64 0, .int .i64 0], .agg #[.slice none 0 0, .slice none 0 0, .slice none 0 0, .slice none 0 0, .slice none 0 0, .slice none 0 0, .slice none 0 0, .slice none 0 0]], []⟩ 8 (by kernel_rfl) (by kernel_rfl) (by kernel_rfl) (by kernel_rfl)) ?_
  intro W base args ds gs before hval0 hW hcnd _
  have hval : ∀ (j : Nat) t v, Tryz.f3.params[j]? = some t → args[j]? = some v → Value.okWide Tryz.prog W .any base t v := hval0
  have hW' := hW
  obtain ⟨p, q, hA0, hV, rfl, hfz, hnd⟩ := hW
  have hA : DataW.TrodAll enc Tryz.prog W 0 (fun _ => true) true Tryz.f3.params.toList args.toList ds p := hA0
  rw [Tryz.params3] at hA hval
  obtain ⟨v0, vs0, d0, ds0, p0, q0, hargs, rfl, rfl, h0, r0⟩ := trodAll_cons hA
  obtain ⟨v1, vs1, d1, ds1, p1, q1, rfl, rfl, rfl, h1, r1⟩ := trodAll_cons r0
  obtain ⟨rfl, rfl, rfl⟩ := trodAll_nil r1
  obtain rfl : args = #[v0, v1] := by cases args; simp_all
  obtain ⟨rfl, rfl⟩ := trodVars_none hV
  have lt0 := trod_below h0
  have lt1 := trod_below h1
  obtain ⟨cs0, x0, rfl, hx0, k0⟩ := open_st Tryz.underlying24 dec24 (hval 0 24 v0 rfl rfl) h0
  obtain ⟨cs1, x1, rfl, hx1, k1⟩ := open_st Tryz.underlying31 dec31 (hval 1 31 v1 rfl rfl) h1
  clear hA0 hval0
  refine Calls.mono (l_WorkOn cs0 x0 cs1 x1 W hx0 hx1 k0 k1) fun e W' ⟨v, he, hx, hv⟩ => ?_
  subst he hv
  have bel := hx.below
  exact ⟨_, rfl, _, _, _, [], _, [], hW', trodAll_mk1 (shut_bool Tryz.underlying4 _), (trodAll_cons_mk (Below.trod laidOut (by kernel_rfl) (of_decide_eq_true (by kernel_rfl)) h0 bel lt0) (trodAll_cons_mk (Below.trod laidOut (by kernel_rfl) (of_decide_eq_true (by kernel_rfl)) h1 bel lt1) trodAll_mk0)), rfl, bel.frame _, fun h => by cases h⟩
theorem over : Rows.fnExactWorkOnRow.holds Tryz.pinned (OpenSpec.ofChange Rows.fnExactWorkOnSpec) :=
  OpenClaim.holds_of_wide 3 Tryz.f3 rfl rfl rfl rfl rfl rfl rfl ⟨rfl, rfl, rfl, rfl, rfl⟩ rfl rfl rfl rfl rfl (by kernel_rfl) Tryz.func3 (by kernel_rfl)
    (of_decide_eq_true (by kernel_rfl)) (by unfold Func.isWrapper; first | (rw [if_pos (by decide +kernel)]; kernel_rfl) | (rw [if_neg (by decide +kernel)]; exact ⟨rfl, rfl⟩))
    (fun os started H enc _ => lifted os started H enc)
theorem proved : Rows.FnExactWorkOnSaid := over
end Go.Proofs.YtffofbjffbfpiaaGreat.fnExactWorkOnDone
