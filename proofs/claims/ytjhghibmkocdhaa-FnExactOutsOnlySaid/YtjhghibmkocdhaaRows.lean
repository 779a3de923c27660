/-
  No cell of these rows narrows 'for every input' (looked for: loops, veiled, ifaces, maps, wideKeys, modest, calm, conditions, laid).
  DERIVED. THE GIVEN ROWS OF THIS SEAT. 6 by the template 'for every input the law returns true; each argument reads behind the call as it read before'; 0 by the template 'total and deterministic' (their statements: YtjhghibmkocdhaaTotals.lean).
  GIVEN WITH THE SEED: the statements are not yours to turn. If you find one false, say at which input.
  Laid BY PROGRAM, IN A SANDBOX (cutbox-rows.mjs): the forced cells as the released guide's own fill.sh prints them over the translation f0f013eb52611dd4… (all of the seat's roots in one cut). By AI agents, Wed Nov 11 2026. No macro, syntax, notation, axiom, sorry.
-/
import Derived.Test.YtjhghibmkocdhaaChecked
import GoSem.Claim
import GoSem.ClaimJoined
import GoSem.ClaimMapViews
import Derived.JoinedTies
import Derived.KernelRfl
namespace Go.Proofs.Ytjhghibmkocdhaa
/- THE CELL 'sum', in the pinned program and in every row, IS THE sha256 OF THE DUMP (.gsa) THAT YtjhghibmkocdhaaProg.lean LOADS. Nothing in Lean hashes anything: it is a label: what it is worth is what the hold of that sum in a sandbox is worth. -/
noncomputable def Try.pinned : Pinned := { name := "ytjhghibmkocdhaa", sum := "f0f013eb52611dd44b81dc9a86e9ea6d3eda671f830bc55d8b426c9c01c8755e", checked := Try.checked }
namespace Rows
def none {H : Type} : Left H := { results := [], args := [] }

/-- 'laws.FnExactReaches': WHATEVER THE INPUT: true; the input reads as it did. -/
def fnExactReachesSpec : ChangeSpec := { name := "fnExactReaches", fn := fun _ => fun
  | [d1, d2, d3] => { results := [.lit (.bool true)], args := [d1, d2, d3] }
  | _ => none }
def fnExactReachesRow : OpenClaim := { program := "ytjhghibmkocdhaa", sum := "f0f013eb52611dd44b81dc9a86e9ea6d3eda671f830bc55d8b426c9c01c8755e", func := "loop.example/g00973/laws.FnExactReaches", spec := "fnExactReaches", apart := false }
def FnExactReachesSaid : Prop := fnExactReachesRow.holds Try.pinned (OpenSpec.ofChange fnExactReachesSpec)

/-- ITS FALSE NEIGHBOUR: 'it returns false'. Refute it at one input. -/
def fnExactReachesWrong : ChangeSpec := { name := "fnExactReaches", fn := fun _ => fun
  | [d1, d2, d3] => { results := [.lit (.bool false)], args := [d1, d2, d3] }
  | _ => none }
def FnExactReachesWrongFalsely : Prop := fnExactReachesRow.holds Try.pinned (OpenSpec.ofChange fnExactReachesWrong)

/-- 'laws.FnExactCapped': WHATEVER THE INPUT: true; the input reads as it did. -/
def fnExactCappedSpec : ChangeSpec := { name := "fnExactCapped", fn := fun _ => fun
  | [d1, d2] => { results := [.lit (.bool true)], args := [d1, d2] }
  | _ => none }
def fnExactCappedRow : OpenClaim := { program := "ytjhghibmkocdhaa", sum := "f0f013eb52611dd44b81dc9a86e9ea6d3eda671f830bc55d8b426c9c01c8755e", func := "loop.example/g00973/laws.FnExactCapped", spec := "fnExactCapped", apart := false }
def FnExactCappedSaid : Prop := fnExactCappedRow.holds Try.pinned (OpenSpec.ofChange fnExactCappedSpec)

/-- ITS FALSE NEIGHBOUR: 'it returns false'. Refute it at one input. -/
def fnExactCappedWrong : ChangeSpec := { name := "fnExactCapped", fn := fun _ => fun
  | [d1, d2] => { results := [.lit (.bool false)], args := [d1, d2] }
  | _ => none }
def FnExactCappedWrongFalsely : Prop := fnExactCappedRow.holds Try.pinned (OpenSpec.ofChange fnExactCappedWrong)

/-- 'laws.FnExactHasLoop': WHATEVER THE INPUT: true; the input reads as it did. -/
def fnExactHasLoopSpec : ChangeSpec := { name := "fnExactHasLoop", fn := fun _ => fun
  | [d] => { results := [.lit (.bool true)], args := [d] }
  | _ => none }
def fnExactHasLoopRow : OpenClaim := { program := "ytjhghibmkocdhaa", sum := "f0f013eb52611dd44b81dc9a86e9ea6d3eda671f830bc55d8b426c9c01c8755e", func := "loop.example/g00973/laws.FnExactHasLoop", spec := "fnExactHasLoop", apart := false }
def FnExactHasLoopSaid : Prop := fnExactHasLoopRow.holds Try.pinned (OpenSpec.ofChange fnExactHasLoopSpec)

/-- ITS FALSE NEIGHBOUR: 'it returns false'. Refute it at one input. -/
def fnExactHasLoopWrong : ChangeSpec := { name := "fnExactHasLoop", fn := fun _ => fun
  | [d] => { results := [.lit (.bool false)], args := [d] }
  | _ => none }
def FnExactHasLoopWrongFalsely : Prop := fnExactHasLoopRow.holds Try.pinned (OpenSpec.ofChange fnExactHasLoopWrong)

/-- 'laws.FnExactOutsOf': WHATEVER THE INPUT: true; the input reads as it did. -/
def fnExactOutsOfSpec : ChangeSpec := { name := "fnExactOutsOf", fn := fun _ => fun
  | [d] => { results := [.lit (.bool true)], args := [d] }
  | _ => none }
def fnExactOutsOfRow : OpenClaim := { program := "ytjhghibmkocdhaa", sum := "f0f013eb52611dd44b81dc9a86e9ea6d3eda671f830bc55d8b426c9c01c8755e", func := "loop.example/g00973/laws.FnExactOutsOf", spec := "fnExactOutsOf", apart := false }
def FnExactOutsOfSaid : Prop := fnExactOutsOfRow.holds Try.pinned (OpenSpec.ofChange fnExactOutsOfSpec)

/-- ITS FALSE NEIGHBOUR: 'it returns false'. Refute it at one input. -/
def fnExactOutsOfWrong : ChangeSpec := { name := "fnExactOutsOf", fn := fun _ => fun
  | [d] => { results := [.lit (.bool false)], args := [d] }
  | _ => none }
def FnExactOutsOfWrongFalsely : Prop := fnExactOutsOfRow.holds Try.pinned (OpenSpec.ofChange fnExactOutsOfWrong)

/-- 'laws.FnExactNodeOf': WHATEVER THE INPUT: true; the input reads as it did. -/
def fnExactNodeOfSpec : ChangeSpec := { name := "fnExactNodeOf", fn := fun _ => fun
  | [d1, d2] => { results := [.lit (.bool true)], args := [d1, d2] }
  | _ => none }
def fnExactNodeOfRow : OpenClaim := { program := "ytjhghibmkocdhaa", sum := "f0f013eb52611dd44b81dc9a86e9ea6d3eda671f830bc55d8b426c9c01c8755e", func := "loop.example/g00973/laws.FnExactNodeOf", spec := "fnExactNodeOf", apart := false }
def FnExactNodeOfSaid : Prop := fnExactNodeOfRow.holds Try.pinned (OpenSpec.ofChange fnExactNodeOfSpec)

/-- ITS FALSE NEIGHBOUR: 'it returns false'. Refute it at one input. -/
def fnExactNodeOfWrong : ChangeSpec := { name := "fnExactNodeOf", fn := fun _ => fun
  | [d1, d2] => { results := [.lit (.bool false)], args := [d1, d2] }
  | _ => none }
def FnExactNodeOfWrongFalsely : Prop := fnExactNodeOfRow.holds Try.pinned (OpenSpec.ofChange fnExactNodeOfWrong)

/-- 'laws.FnExactOutsOnly': WHATEVER THE INPUT: true; the input reads as it did. -/
def fnExactOutsOnlySpec : ChangeSpec := { name := "fnExactOutsOnly", fn := fun _ => fun
  | [d1, d2] => { results := [.lit (.bool true)], args := [d1, d2] }
  | _ => none }
def fnExactOutsOnlyRow : OpenClaim := { program := "ytjhghibmkocdhaa", sum := "f0f013eb52611dd44b81dc9a86e9ea6d3eda671f830bc55d8b426c9c01c8755e", func := "loop.example/g00973/laws.FnExactOutsOnly", spec := "fnExactOutsOnly", apart := false }
def FnExactOutsOnlySaid : Prop := fnExactOutsOnlyRow.holds Try.pinned (OpenSpec.ofChange fnExactOutsOnlySpec)

/-- ITS FALSE NEIGHBOUR: 'it returns false'. Refute it at one input. -/
def fnExactOutsOnlyWrong : ChangeSpec := { name := "fnExactOutsOnly", fn := fun _ => fun
  | [d1, d2] => { results := [.lit (.bool false)], args := [d1, d2] }
  | _ => none }
def FnExactOutsOnlyWrongFalsely : Prop := fnExactOutsOnlyRow.holds Try.pinned (OpenSpec.ofChange fnExactOutsOnlyWrong)

/- THE SECOND FORM. 'bulk': how many values and letters a reading holds, each counted each time it is reached (what is shared counts as often as it is met; a slice's spare places count too). A statement '..UptoSaid' is the law's where the arguments, and the package variables that the reading takes, are together of bulk at most 1048576: NARROWER than '..Said'. Prove '..Said' where nothing that the law and all that it calls make is longer than what came in: it says more and counts as full. Else prove '..UptoSaid'. A law counts once. -/
mutual
def uptoBulk {H : Type} : DataW H → Nat
  | .lit (.string bytes) => bytes.length + 1
  | .lit _ => 1
  | .nil => 1
  | .ptr d => uptoBulk d + 1
  | .slice elems spare => uptoBulkAll elems + uptoBulkAll spare + 1
  | .agg parts => uptoBulkAll parts + 1
  | .iface _ d => uptoBulk d + 1
  | .map entries => uptoBulkEntries entries + 1
  | .held _ => 1
def uptoBulkAll {H : Type} : List (DataW H) → Nat
  | [] => 0
  | d :: r => uptoBulk d + uptoBulkAll r
def uptoBulkEntries {H : Type} : List (Lit × DataW H) → Nat
  | [] => 0
  | x :: r => uptoBulkEntry x + uptoBulkEntries r
def uptoBulkEntry {H : Type} : Lit × DataW H → Nat
  | (.string bytes, d) => bytes.length + uptoBulk d + 1
  | (_, d) => uptoBulk d + 1
 end
def uptoSmall : (H : Type) → List (DataW H) → Bool := fun _ ds => decide (uptoBulkAll ds ≤ 1048576)
def OpenSpec.upto (s : _root_.Go.ChangeSpec) : _root_.Go.OpenSpec := { _root_.Go.OpenSpec.ofChange s with cond := some uptoSmall }

/-- 'laws.FnExactReaches', WHERE WHAT IT READS IS OF BULK AT MOST 1048576: true; the input reads as it did. -/
def fnExactReachesUptoRow : OpenClaim := { program := "ytjhghibmkocdhaa", sum := "f0f013eb52611dd44b81dc9a86e9ea6d3eda671f830bc55d8b426c9c01c8755e", func := "loop.example/g00973/laws.FnExactReaches", spec := "fnExactReaches", apart := false, narrowed := true }
def FnExactReachesUptoSaid : Prop := fnExactReachesUptoRow.holds Try.pinned (OpenSpec.upto fnExactReachesSpec)

/-- 'laws.FnExactCapped', WHERE WHAT IT READS IS OF BULK AT MOST 1048576: true; the input reads as it did. -/
def fnExactCappedUptoRow : OpenClaim := { program := "ytjhghibmkocdhaa", sum := "f0f013eb52611dd44b81dc9a86e9ea6d3eda671f830bc55d8b426c9c01c8755e", func := "loop.example/g00973/laws.FnExactCapped", spec := "fnExactCapped", apart := false, narrowed := true }
def FnExactCappedUptoSaid : Prop := fnExactCappedUptoRow.holds Try.pinned (OpenSpec.upto fnExactCappedSpec)

/-- 'laws.FnExactHasLoop', WHERE WHAT IT READS IS OF BULK AT MOST 1048576: true; the input reads as it did. -/
def fnExactHasLoopUptoRow : OpenClaim := { program := "ytjhghibmkocdhaa", sum := "f0f013eb52611dd44b81dc9a86e9ea6d3eda671f830bc55d8b426c9c01c8755e", func := "loop.example/g00973/laws.FnExactHasLoop", spec := "fnExactHasLoop", apart := false, narrowed := true }
def FnExactHasLoopUptoSaid : Prop := fnExactHasLoopUptoRow.holds Try.pinned (OpenSpec.upto fnExactHasLoopSpec)

/-- 'laws.FnExactOutsOf', WHERE WHAT IT READS IS OF BULK AT MOST 1048576: true; the input reads as it did. -/
def fnExactOutsOfUptoRow : OpenClaim := { program := "ytjhghibmkocdhaa", sum := "f0f013eb52611dd44b81dc9a86e9ea6d3eda671f830bc55d8b426c9c01c8755e", func := "loop.example/g00973/laws.FnExactOutsOf", spec := "fnExactOutsOf", apart := false, narrowed := true }
def FnExactOutsOfUptoSaid : Prop := fnExactOutsOfUptoRow.holds Try.pinned (OpenSpec.upto fnExactOutsOfSpec)

/-- 'laws.FnExactNodeOf', WHERE WHAT IT READS IS OF BULK AT MOST 1048576: true; the input reads as it did. -/
def fnExactNodeOfUptoRow : OpenClaim := { program := "ytjhghibmkocdhaa", sum := "f0f013eb52611dd44b81dc9a86e9ea6d3eda671f830bc55d8b426c9c01c8755e", func := "loop.example/g00973/laws.FnExactNodeOf", spec := "fnExactNodeOf", apart := false, narrowed := true }
def FnExactNodeOfUptoSaid : Prop := fnExactNodeOfUptoRow.holds Try.pinned (OpenSpec.upto fnExactNodeOfSpec)

/-- 'laws.FnExactOutsOnly', WHERE WHAT IT READS IS OF BULK AT MOST 1048576: true; the input reads as it did. -/
def fnExactOutsOnlyUptoRow : OpenClaim := { program := "ytjhghibmkocdhaa", sum := "f0f013eb52611dd44b81dc9a86e9ea6d3eda671f830bc55d8b426c9c01c8755e", func := "loop.example/g00973/laws.FnExactOutsOnly", spec := "fnExactOutsOnly", apart := false, narrowed := true }
def FnExactOutsOnlyUptoSaid : Prop := fnExactOutsOnlyUptoRow.holds Try.pinned (OpenSpec.upto fnExactOutsOnlySpec)

end Rows
end Go.Proofs.Ytjhghibmkocdhaa
