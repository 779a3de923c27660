/-
  No cell of these rows narrows 'for every input' (looked for: loops, veiled, ifaces, maps, wideKeys, modest, calm, conditions, laid).
  DERIVED. THE GIVEN ROWS OF THIS SEAT. 12 by the template 'for every input the law returns true; each argument reads behind the call as it read before'; 0 by the template 'total and deterministic' (their statements: YthjhhajipcdfbaaTotals.lean).
  GIVEN WITH THE SEED: the statements are not yours to turn. If you find one false, say at which input.
  Laid BY PROGRAM, IN A SANDBOX (cutbox-rows.mjs): the forced cells as the released guide's own fill.sh prints them over the translation fb8855eff3d530ea… (all of the seat's roots in one cut). By AI agents, Wed Nov 11 2026. No macro, syntax, notation, axiom, sorry.
-/
import Derived.Test.YthjhhajipcdfbaaChecked
import GoSem.Claim
import GoSem.ClaimJoined
import GoSem.ClaimMapViews
import Derived.JoinedTies
import Derived.KernelRfl
namespace Go.Proofs.Ythjhhajipcdfbaa
/- THE CELL 'sum', in the pinned program and in every row, IS THE sha256 OF THE DUMP (.gsa) THAT YthjhhajipcdfbaaProg.lean LOADS. Nothing in Lean hashes anything: it is a label: what it is worth is what the hold of that sum in a sandbox is worth. -/
noncomputable def Try.pinned : Pinned := { name := "ythjhhajipcdfbaa", sum := "fb8855eff3d530ea34caaf39723c322921960dbfb4d85c2075a46ab994384791", checked := Try.checked }
namespace Rows
def none {H : Type} : Left H := { results := [], args := [] }

/-- 'laws.FnExactCellOrder': WHATEVER THE INPUT: true; the input reads as it did. -/
def fnExactCellOrderSpec : ChangeSpec := { name := "fnExactCellOrder", fn := fun _ => fun
  | [d1, d2] => { results := [.lit (.bool true)], args := [d1, d2] }
  | _ => none }
def fnExactCellOrderRow : OpenClaim := { program := "ythjhhajipcdfbaa", sum := "fb8855eff3d530ea34caaf39723c322921960dbfb4d85c2075a46ab994384791", func := "loop.example/g00973/laws.FnExactCellOrder", spec := "fnExactCellOrder", apart := false }
def FnExactCellOrderSaid : Prop := fnExactCellOrderRow.holds Try.pinned (OpenSpec.ofChange fnExactCellOrderSpec)

/-- ITS FALSE NEIGHBOUR: 'it returns false'. Refute it at one input. -/
def fnExactCellOrderWrong : ChangeSpec := { name := "fnExactCellOrder", fn := fun _ => fun
  | [d1, d2] => { results := [.lit (.bool false)], args := [d1, d2] }
  | _ => none }
def FnExactCellOrderWrongFalsely : Prop := fnExactCellOrderRow.holds Try.pinned (OpenSpec.ofChange fnExactCellOrderWrong)

/-- 'laws.FnExactHasCell': WHATEVER THE INPUT: true; the input reads as it did. -/
def fnExactHasCellSpec : ChangeSpec := { name := "fnExactHasCell", fn := fun _ => fun
  | [d1, d2] => { results := [.lit (.bool true)], args := [d1, d2] }
  | _ => none }
def fnExactHasCellRow : OpenClaim := { program := "ythjhhajipcdfbaa", sum := "fb8855eff3d530ea34caaf39723c322921960dbfb4d85c2075a46ab994384791", func := "loop.example/g00973/laws.FnExactHasCell", spec := "fnExactHasCell", apart := false }
def FnExactHasCellSaid : Prop := fnExactHasCellRow.holds Try.pinned (OpenSpec.ofChange fnExactHasCellSpec)

/-- ITS FALSE NEIGHBOUR: 'it returns false'. Refute it at one input. -/
def fnExactHasCellWrong : ChangeSpec := { name := "fnExactHasCell", fn := fun _ => fun
  | [d1, d2] => { results := [.lit (.bool false)], args := [d1, d2] }
  | _ => none }
def FnExactHasCellWrongFalsely : Prop := fnExactHasCellRow.holds Try.pinned (OpenSpec.ofChange fnExactHasCellWrong)

/-- 'laws.FnExactLeastOf': WHATEVER THE INPUT: true; the input reads as it did. -/
def fnExactLeastOfSpec : ChangeSpec := { name := "fnExactLeastOf", fn := fun _ => fun
  | [d1, d2, d3, d4] => { results := [.lit (.bool true)], args := [d1, d2, d3, d4] }
  | _ => none }
def fnExactLeastOfRow : OpenClaim := { program := "ythjhhajipcdfbaa", sum := "fb8855eff3d530ea34caaf39723c322921960dbfb4d85c2075a46ab994384791", func := "loop.example/g00973/laws.FnExactLeastOf", spec := "fnExactLeastOf", apart := false }
def FnExactLeastOfSaid : Prop := fnExactLeastOfRow.holds Try.pinned (OpenSpec.ofChange fnExactLeastOfSpec)

/-- ITS FALSE NEIGHBOUR: 'it returns false'. Refute it at one input. -/
def fnExactLeastOfWrong : ChangeSpec := { name := "fnExactLeastOf", fn := fun _ => fun
  | [d1, d2, d3, d4] => { results := [.lit (.bool false)], args := [d1, d2, d3, d4] }
  | _ => none }
def FnExactLeastOfWrongFalsely : Prop := fnExactLeastOfRow.holds Try.pinned (OpenSpec.ofChange fnExactLeastOfWrong)

/-- 'laws.FnExactNoWorse': WHATEVER THE INPUT: true; the input reads as it did. -/
def fnExactNoWorseSpec : ChangeSpec := { name := "fnExactNoWorse", fn := fun _ => fun
  | [d1, d2] => { results := [.lit (.bool true)], args := [d1, d2] }
  | _ => none }
def fnExactNoWorseRow : OpenClaim := { program := "ythjhhajipcdfbaa", sum := "fb8855eff3d530ea34caaf39723c322921960dbfb4d85c2075a46ab994384791", func := "loop.example/g00973/laws.FnExactNoWorse", spec := "fnExactNoWorse", apart := false }
def FnExactNoWorseSaid : Prop := fnExactNoWorseRow.holds Try.pinned (OpenSpec.ofChange fnExactNoWorseSpec)

/-- ITS FALSE NEIGHBOUR: 'it returns false'. Refute it at one input. -/
def fnExactNoWorseWrong : ChangeSpec := { name := "fnExactNoWorse", fn := fun _ => fun
  | [d1, d2] => { results := [.lit (.bool false)], args := [d1, d2] }
  | _ => none }
def FnExactNoWorseWrongFalsely : Prop := fnExactNoWorseRow.holds Try.pinned (OpenSpec.ofChange fnExactNoWorseWrong)

/-- 'laws.FnExactCellsOf': WHATEVER THE INPUT: true; the input reads as it did. -/
def fnExactCellsOfSpec : ChangeSpec := { name := "fnExactCellsOf", fn := fun _ => fun
  | [d1, d2, d3] => { results := [.lit (.bool true)], args := [d1, d2, d3] }
  | _ => none }
def fnExactCellsOfRow : OpenClaim := { program := "ythjhhajipcdfbaa", sum := "fb8855eff3d530ea34caaf39723c322921960dbfb4d85c2075a46ab994384791", func := "loop.example/g00973/laws.FnExactCellsOf", spec := "fnExactCellsOf", apart := false }
def FnExactCellsOfSaid : Prop := fnExactCellsOfRow.holds Try.pinned (OpenSpec.ofChange fnExactCellsOfSpec)

/-- ITS FALSE NEIGHBOUR: 'it returns false'. Refute it at one input. -/
def fnExactCellsOfWrong : ChangeSpec := { name := "fnExactCellsOf", fn := fun _ => fun
  | [d1, d2, d3] => { results := [.lit (.bool false)], args := [d1, d2, d3] }
  | _ => none }
def FnExactCellsOfWrongFalsely : Prop := fnExactCellsOfRow.holds Try.pinned (OpenSpec.ofChange fnExactCellsOfWrong)

/-- 'laws.FnExactCellsOk': WHATEVER THE INPUT: true; the input reads as it did. -/
def fnExactCellsOkSpec : ChangeSpec := { name := "fnExactCellsOk", fn := fun _ => fun
  | [d] => { results := [.lit (.bool true)], args := [d] }
  | _ => none }
def fnExactCellsOkRow : OpenClaim := { program := "ythjhhajipcdfbaa", sum := "fb8855eff3d530ea34caaf39723c322921960dbfb4d85c2075a46ab994384791", func := "loop.example/g00973/laws.FnExactCellsOk", spec := "fnExactCellsOk", apart := false }
def FnExactCellsOkSaid : Prop := fnExactCellsOkRow.holds Try.pinned (OpenSpec.ofChange fnExactCellsOkSpec)

/-- ITS FALSE NEIGHBOUR: 'it returns false'. Refute it at one input. -/
def fnExactCellsOkWrong : ChangeSpec := { name := "fnExactCellsOk", fn := fun _ => fun
  | [d] => { results := [.lit (.bool false)], args := [d] }
  | _ => none }
def FnExactCellsOkWrongFalsely : Prop := fnExactCellsOkRow.holds Try.pinned (OpenSpec.ofChange fnExactCellsOkWrong)

/-- 'laws.FnExactLinkPlace': WHATEVER THE INPUT: true; the input reads as it did. -/
def fnExactLinkPlaceSpec : ChangeSpec := { name := "fnExactLinkPlace", fn := fun _ => fun
  | [d1, d2, d3] => { results := [.lit (.bool true)], args := [d1, d2, d3] }
  | _ => none }
def fnExactLinkPlaceRow : OpenClaim := { program := "ythjhhajipcdfbaa", sum := "fb8855eff3d530ea34caaf39723c322921960dbfb4d85c2075a46ab994384791", func := "loop.example/g00973/laws.FnExactLinkPlace", spec := "fnExactLinkPlace", apart := false }
def FnExactLinkPlaceSaid : Prop := fnExactLinkPlaceRow.holds Try.pinned (OpenSpec.ofChange fnExactLinkPlaceSpec)

/-- ITS FALSE NEIGHBOUR: 'it returns false'. Refute it at one input. -/
def fnExactLinkPlaceWrong : ChangeSpec := { name := "fnExactLinkPlace", fn := fun _ => fun
  | [d1, d2, d3] => { results := [.lit (.bool false)], args := [d1, d2, d3] }
  | _ => none }
def FnExactLinkPlaceWrongFalsely : Prop := fnExactLinkPlaceRow.holds Try.pinned (OpenSpec.ofChange fnExactLinkPlaceWrong)

/-- 'laws.FnExactOutsOf': WHATEVER THE INPUT: true; the input reads as it did. -/
def fnExactOutsOfSpec : ChangeSpec := { name := "fnExactOutsOf", fn := fun _ => fun
  | [d] => { results := [.lit (.bool true)], args := [d] }
  | _ => none }
def fnExactOutsOfRow : OpenClaim := { program := "ythjhhajipcdfbaa", sum := "fb8855eff3d530ea34caaf39723c322921960dbfb4d85c2075a46ab994384791", func := "loop.example/g00973/laws.FnExactOutsOf", spec := "fnExactOutsOf", apart := false }
def FnExactOutsOfSaid : Prop := fnExactOutsOfRow.holds Try.pinned (OpenSpec.ofChange fnExactOutsOfSpec)

/-- ITS FALSE NEIGHBOUR: 'it returns false'. Refute it at one input. -/
def fnExactOutsOfWrong : ChangeSpec := { name := "fnExactOutsOf", fn := fun _ => fun
  | [d] => { results := [.lit (.bool false)], args := [d] }
  | _ => none }
def FnExactOutsOfWrongFalsely : Prop := fnExactOutsOfRow.holds Try.pinned (OpenSpec.ofChange fnExactOutsOfWrong)

/-- 'laws.FnExactSameGraph': WHATEVER THE INPUT: true; the input reads as it did. -/
def fnExactSameGraphSpec : ChangeSpec := { name := "fnExactSameGraph", fn := fun _ => fun
  | [d1, d2] => { results := [.lit (.bool true)], args := [d1, d2] }
  | _ => none }
def fnExactSameGraphRow : OpenClaim := { program := "ythjhhajipcdfbaa", sum := "fb8855eff3d530ea34caaf39723c322921960dbfb4d85c2075a46ab994384791", func := "loop.example/g00973/laws.FnExactSameGraph", spec := "fnExactSameGraph", unfollowed := true, recurses := true, apart := false }
def FnExactSameGraphSaid : Prop := fnExactSameGraphRow.holds Try.pinned (OpenSpec.ofChange fnExactSameGraphSpec)

/-- ITS FALSE NEIGHBOUR: 'it returns false'. Refute it at one input. -/
def fnExactSameGraphWrong : ChangeSpec := { name := "fnExactSameGraph", fn := fun _ => fun
  | [d1, d2] => { results := [.lit (.bool false)], args := [d1, d2] }
  | _ => none }
def FnExactSameGraphWrongFalsely : Prop := fnExactSameGraphRow.holds Try.pinned (OpenSpec.ofChange fnExactSameGraphWrong)

/-- 'laws.FnExactNodeOf': WHATEVER THE INPUT: true; the input reads as it did. -/
def fnExactNodeOfSpec : ChangeSpec := { name := "fnExactNodeOf", fn := fun _ => fun
  | [d1, d2] => { results := [.lit (.bool true)], args := [d1, d2] }
  | _ => none }
def fnExactNodeOfRow : OpenClaim := { program := "ythjhhajipcdfbaa", sum := "fb8855eff3d530ea34caaf39723c322921960dbfb4d85c2075a46ab994384791", func := "loop.example/g00973/laws.FnExactNodeOf", spec := "fnExactNodeOf", apart := false }
def FnExactNodeOfSaid : Prop := fnExactNodeOfRow.holds Try.pinned (OpenSpec.ofChange fnExactNodeOfSpec)

/-- ITS FALSE NEIGHBOUR: 'it returns false'. Refute it at one input. -/
def fnExactNodeOfWrong : ChangeSpec := { name := "fnExactNodeOf", fn := fun _ => fun
  | [d1, d2] => { results := [.lit (.bool false)], args := [d1, d2] }
  | _ => none }
def FnExactNodeOfWrongFalsely : Prop := fnExactNodeOfRow.holds Try.pinned (OpenSpec.ofChange fnExactNodeOfWrong)

/-- 'laws.FnExactGraphOk': WHATEVER THE INPUT: true; the input reads as it did. -/
def fnExactGraphOkSpec : ChangeSpec := { name := "fnExactGraphOk", fn := fun _ => fun
  | [d] => { results := [.lit (.bool true)], args := [d] }
  | _ => none }
def fnExactGraphOkRow : OpenClaim := { program := "ythjhhajipcdfbaa", sum := "fb8855eff3d530ea34caaf39723c322921960dbfb4d85c2075a46ab994384791", func := "loop.example/g00973/laws.FnExactGraphOk", spec := "fnExactGraphOk", apart := false }
def FnExactGraphOkSaid : Prop := fnExactGraphOkRow.holds Try.pinned (OpenSpec.ofChange fnExactGraphOkSpec)

/-- ITS FALSE NEIGHBOUR: 'it returns false'. Refute it at one input. -/
def fnExactGraphOkWrong : ChangeSpec := { name := "fnExactGraphOk", fn := fun _ => fun
  | [d] => { results := [.lit (.bool false)], args := [d] }
  | _ => none }
def FnExactGraphOkWrongFalsely : Prop := fnExactGraphOkRow.holds Try.pinned (OpenSpec.ofChange fnExactGraphOkWrong)

/-- 'laws.FnExactOutsOnly': WHATEVER THE INPUT: true; the input reads as it did. -/
def fnExactOutsOnlySpec : ChangeSpec := { name := "fnExactOutsOnly", fn := fun _ => fun
  | [d1, d2] => { results := [.lit (.bool true)], args := [d1, d2] }
  | _ => none }
def fnExactOutsOnlyRow : OpenClaim := { program := "ythjhhajipcdfbaa", sum := "fb8855eff3d530ea34caaf39723c322921960dbfb4d85c2075a46ab994384791", func := "loop.example/g00973/laws.FnExactOutsOnly", spec := "fnExactOutsOnly", apart := false }
def FnExactOutsOnlySaid : Prop := fnExactOutsOnlyRow.holds Try.pinned (OpenSpec.ofChange fnExactOutsOnlySpec)

/-- ITS FALSE NEIGHBOUR: 'it returns false'. Refute it at one input. -/
def fnExactOutsOnlyWrong : ChangeSpec := { name := "fnExactOutsOnly", fn := fun _ => fun
  | [d1, d2] => { results := [.lit (.bool false)], args := [d1, d2] }
  | _ => none }
def FnExactOutsOnlyWrongFalsely : Prop := fnExactOutsOnlyRow.holds Try.pinned (OpenSpec.ofChange fnExactOutsOnlyWrong)

/- THE SECOND FORM. 'bulk': how many values and letters a reading holds, each counted each time it is reached (what is shared counts as often as it is met; a slice's spare places count too). A statement '..UptoSaid' is the law's where the arguments, and the package variables that the reading takes, are together of bulk at most 1048576: NARROWER than '..Said'. Prove '..Said' where nothing that the law and all that it calls make is longer than what came in: it says more and counts as full. Else prove '..UptoSaid'. A law counts once. -/
mutual
def uptoBulk {H : Type} : DataW H → Nat
  | .lit (.string bytes) => bytes.length + 1
  | .lit _ => 1
  | .nil => 1
  | .ptr d => uptoBulk d + 1
  | .slice elems spare => uptoBulkAll elems + uptoBulkAll spare + 1
  | .agg parts => uptoBulkAll parts + 1
  | .iface _ d => uptoBulk d + 1
  | .map entries => uptoBulkEntries entries + 1
  | .held _ => 1
def uptoBulkAll {H : Type} : List (DataW H) → Nat
  | [] => 0
  | d :: r => uptoBulk d + uptoBulkAll r
def uptoBulkEntries {H : Type} : List (Lit × DataW H) → Nat
  | [] => 0
  | x :: r => uptoBulkEntry x + uptoBulkEntries r
def uptoBulkEntry {H : Type} : Lit × DataW H → Nat
  | (.string bytes, d) => bytes.length + uptoBulk d + 1
  | (_, d) => uptoBulk d + 1
 end
def uptoSmall : (H : Type) → List (DataW H) → Bool := fun _ ds => decide (uptoBulkAll ds ≤ 1048576)
def OpenSpec.upto (s : _root_.Go.ChangeSpec) : _root_.Go.OpenSpec := { _root_.Go.OpenSpec.ofChange s with cond := some uptoSmall }

/-- 'laws.FnExactCellOrder', WHERE WHAT IT READS IS OF BULK AT MOST 1048576: true; the input reads as it did. -/
def fnExactCellOrderUptoRow : OpenClaim := { program := "ythjhhajipcdfbaa", sum := "fb8855eff3d530ea34caaf39723c322921960dbfb4d85c2075a46ab994384791", func := "loop.example/g00973/laws.FnExactCellOrder", spec := "fnExactCellOrder", apart := false, narrowed := true }
def FnExactCellOrderUptoSaid : Prop := fnExactCellOrderUptoRow.holds Try.pinned (OpenSpec.upto fnExactCellOrderSpec)

/-- 'laws.FnExactHasCell', WHERE WHAT IT READS IS OF BULK AT MOST 1048576: true; the input reads as it did. -/
def fnExactHasCellUptoRow : OpenClaim := { program := "ythjhhajipcdfbaa", sum := "fb8855eff3d530ea34caaf39723c322921960dbfb4d85c2075a46ab994384791", func := "loop.example/g00973/laws.FnExactHasCell", spec := "fnExactHasCell", apart := false, narrowed := true }
def FnExactHasCellUptoSaid : Prop := fnExactHasCellUptoRow.holds Try.pinned (OpenSpec.upto fnExactHasCellSpec)

/-- 'laws.FnExactLeastOf', WHERE WHAT IT READS IS OF BULK AT MOST 1048576: true; the input reads as it did. -/
def fnExactLeastOfUptoRow : OpenClaim := { program := "ythjhhajipcdfbaa", sum := "fb8855eff3d530ea34caaf39723c322921960dbfb4d85c2075a46ab994384791", func := "loop.example/g00973/laws.FnExactLeastOf", spec := "fnExactLeastOf", apart := false, narrowed := true }
def FnExactLeastOfUptoSaid : Prop := fnExactLeastOfUptoRow.holds Try.pinned (OpenSpec.upto fnExactLeastOfSpec)

/-- 'laws.FnExactNoWorse', WHERE WHAT IT READS IS OF BULK AT MOST 1048576: true; the input reads as it did. -/
def fnExactNoWorseUptoRow : OpenClaim := { program := "ythjhhajipcdfbaa", sum := "fb8855eff3d530ea34caaf39723c322921960dbfb4d85c2075a46ab994384791", func := "loop.example/g00973/laws.FnExactNoWorse", spec := "fnExactNoWorse", apart := false, narrowed := true }
def FnExactNoWorseUptoSaid : Prop := fnExactNoWorseUptoRow.holds Try.pinned (OpenSpec.upto fnExactNoWorseSpec)

/-- 'laws.FnExactCellsOf', WHERE WHAT IT READS IS OF BULK AT MOST 1048576: true; the input reads as it did. -/
def fnExactCellsOfUptoRow : OpenClaim := { program := "ythjhhajipcdfbaa", sum := "fb8855eff3d530ea34caaf39723c322921960dbfb4d85c2075a46ab994384791", func := "loop.example/g00973/laws.FnExactCellsOf", spec := "fnExactCellsOf", apart := false, narrowed := true }
def FnExactCellsOfUptoSaid : Prop := fnExactCellsOfUptoRow.holds Try.pinned (OpenSpec.upto fnExactCellsOfSpec)

/-- 'laws.FnExactCellsOk', WHERE WHAT IT READS IS OF BULK AT MOST 1048576: true; the input reads as it did. -/
def fnExactCellsOkUptoRow : OpenClaim := { program := "ythjhhajipcdfbaa", sum := "fb8855eff3d530ea34caaf39723c322921960dbfb4d85c2075a46ab994384791", func := "loop.example/g00973/laws.FnExactCellsOk", spec := "fnExactCellsOk", apart := false, narrowed := true }
def FnExactCellsOkUptoSaid : Prop := fnExactCellsOkUptoRow.holds Try.pinned (OpenSpec.upto fnExactCellsOkSpec)

/-- 'laws.FnExactLinkPlace', WHERE WHAT IT READS IS OF BULK AT MOST 1048576: true; the input reads as it did. -/
def fnExactLinkPlaceUptoRow : OpenClaim := { program := "ythjhhajipcdfbaa", sum := "fb8855eff3d530ea34caaf39723c322921960dbfb4d85c2075a46ab994384791", func := "loop.example/g00973/laws.FnExactLinkPlace", spec := "fnExactLinkPlace", apart := false, narrowed := true }
def FnExactLinkPlaceUptoSaid : Prop := fnExactLinkPlaceUptoRow.holds Try.pinned (OpenSpec.upto fnExactLinkPlaceSpec)

/-- 'laws.FnExactOutsOf', WHERE WHAT IT READS IS OF BULK AT MOST 1048576: true; the input reads as it did. -/
def fnExactOutsOfUptoRow : OpenClaim := { program := "ythjhhajipcdfbaa", sum := "fb8855eff3d530ea34caaf39723c322921960dbfb4d85c2075a46ab994384791", func := "loop.example/g00973/laws.FnExactOutsOf", spec := "fnExactOutsOf", apart := false, narrowed := true }
def FnExactOutsOfUptoSaid : Prop := fnExactOutsOfUptoRow.holds Try.pinned (OpenSpec.upto fnExactOutsOfSpec)

/-- 'laws.FnExactSameGraph', WHERE WHAT IT READS IS OF BULK AT MOST 1048576: true; the input reads as it did. -/
def fnExactSameGraphUptoRow : OpenClaim := { program := "ythjhhajipcdfbaa", sum := "fb8855eff3d530ea34caaf39723c322921960dbfb4d85c2075a46ab994384791", func := "loop.example/g00973/laws.FnExactSameGraph", spec := "fnExactSameGraph", unfollowed := true, recurses := true, apart := false, narrowed := true }
def FnExactSameGraphUptoSaid : Prop := fnExactSameGraphUptoRow.holds Try.pinned (OpenSpec.upto fnExactSameGraphSpec)

/-- 'laws.FnExactNodeOf', WHERE WHAT IT READS IS OF BULK AT MOST 1048576: true; the input reads as it did. -/
def fnExactNodeOfUptoRow : OpenClaim := { program := "ythjhhajipcdfbaa", sum := "fb8855eff3d530ea34caaf39723c322921960dbfb4d85c2075a46ab994384791", func := "loop.example/g00973/laws.FnExactNodeOf", spec := "fnExactNodeOf", apart := false, narrowed := true }
def FnExactNodeOfUptoSaid : Prop := fnExactNodeOfUptoRow.holds Try.pinned (OpenSpec.upto fnExactNodeOfSpec)

/-- 'laws.FnExactGraphOk', WHERE WHAT IT READS IS OF BULK AT MOST 1048576: true; the input reads as it did. -/
def fnExactGraphOkUptoRow : OpenClaim := { program := "ythjhhajipcdfbaa", sum := "fb8855eff3d530ea34caaf39723c322921960dbfb4d85c2075a46ab994384791", func := "loop.example/g00973/laws.FnExactGraphOk", spec := "fnExactGraphOk", apart := false, narrowed := true }
def FnExactGraphOkUptoSaid : Prop := fnExactGraphOkUptoRow.holds Try.pinned (OpenSpec.upto fnExactGraphOkSpec)

/-- 'laws.FnExactOutsOnly', WHERE WHAT IT READS IS OF BULK AT MOST 1048576: true; the input reads as it did. -/
def fnExactOutsOnlyUptoRow : OpenClaim := { program := "ythjhhajipcdfbaa", sum := "fb8855eff3d530ea34caaf39723c322921960dbfb4d85c2075a46ab994384791", func := "loop.example/g00973/laws.FnExactOutsOnly", spec := "fnExactOutsOnly", apart := false, narrowed := true }
def FnExactOutsOnlyUptoSaid : Prop := fnExactOutsOnlyUptoRow.holds Try.pinned (OpenSpec.upto fnExactOutsOnlySpec)

end Rows
end Go.Proofs.Ythjhhajipcdfbaa
