/-
  No cell of these rows narrows 'for every input' (looked for: loops, veiled, ifaces, maps, wideKeys, modest, calm, conditions, laid).
  DERIVED. THE GIVEN ROWS OF THIS SEAT. 6 by the template 'for every input the law returns true; each argument reads behind the call as it read before'; 0 by the template 'total and deterministic' (their statements: YtfiafjdgedhbbaaTotals.lean).
  GIVEN WITH THE SEED: the statements are not yours to turn. If you find one false, say at which input.
  Laid BY PROGRAM, IN A SANDBOX (cutbox-rows.mjs): the forced cells as the released guide's own fill.sh prints them over the translation 6fdbca4ccd7e758f… (all of the seat's roots in one cut). By AI agents, Wed Nov 11 2026. No macro, syntax, notation, axiom, sorry.
-/
import Derived.Test.YtfiafjdgedhbbaaChecked
import GoSem.Claim
import GoSem.ClaimJoined
import GoSem.ClaimMapViews
import Derived.JoinedTies
import Derived.KernelRfl
namespace Go.Proofs.Ytfiafjdgedhbbaa
/- THE CELL 'sum', in the pinned program and in every row, IS THE sha256 OF THE DUMP (.gsa) THAT YtfiafjdgedhbbaaProg.lean LOADS. Nothing in Lean hashes anything: it is a label: what it is worth is what the hold of that sum in a sandbox is worth. -/
noncomputable def Try.pinned : Pinned := { name := "ytfiafjdgedhbbaa", sum := "6fdbca4ccd7e758ff4fa411396b654aed7bf97f56e2ef51f87767d5a3ba379d3", checked := Try.checked }
namespace Rows
def none {H : Type} : Left H := { results := [], args := [] }

/-- 'laws.FnExactIdle': WHATEVER THE INPUT: true; the input reads as it did. -/
def fnExactIdleSpec : ChangeSpec := { name := "fnExactIdle", fn := fun _ => fun
  | [d] => { results := [.lit (.bool true)], args := [d] }
  | _ => none }
def fnExactIdleRow : OpenClaim := { program := "ytfiafjdgedhbbaa", sum := "6fdbca4ccd7e758ff4fa411396b654aed7bf97f56e2ef51f87767d5a3ba379d3", func := "loop.example/g00973/laws.FnExactIdle", spec := "fnExactIdle", apart := false }
def FnExactIdleSaid : Prop := fnExactIdleRow.holds Try.pinned (OpenSpec.ofChange fnExactIdleSpec)

/-- ITS FALSE NEIGHBOUR: 'it returns false'. Refute it at one input. -/
def fnExactIdleWrong : ChangeSpec := { name := "fnExactIdle", fn := fun _ => fun
  | [d] => { results := [.lit (.bool false)], args := [d] }
  | _ => none }
def FnExactIdleWrongFalsely : Prop := fnExactIdleRow.holds Try.pinned (OpenSpec.ofChange fnExactIdleWrong)

/-- 'laws.FnExactOpenAt': WHATEVER THE INPUT: true; the input reads as it did. -/
def fnExactOpenAtSpec : ChangeSpec := { name := "fnExactOpenAt", fn := fun _ => fun
  | [d1, d2] => { results := [.lit (.bool true)], args := [d1, d2] }
  | _ => none }
def fnExactOpenAtRow : OpenClaim := { program := "ytfiafjdgedhbbaa", sum := "6fdbca4ccd7e758ff4fa411396b654aed7bf97f56e2ef51f87767d5a3ba379d3", func := "loop.example/g00973/laws.FnExactOpenAt", spec := "fnExactOpenAt", unfollowed := true, recurses := true, apart := false }
def FnExactOpenAtSaid : Prop := fnExactOpenAtRow.holds Try.pinned (OpenSpec.ofChange fnExactOpenAtSpec)

/-- ITS FALSE NEIGHBOUR: 'it returns false'. Refute it at one input. -/
def fnExactOpenAtWrong : ChangeSpec := { name := "fnExactOpenAt", fn := fun _ => fun
  | [d1, d2] => { results := [.lit (.bool false)], args := [d1, d2] }
  | _ => none }
def FnExactOpenAtWrongFalsely : Prop := fnExactOpenAtRow.holds Try.pinned (OpenSpec.ofChange fnExactOpenAtWrong)

/-- 'laws.FnExactIsDone': WHATEVER THE INPUT: true; the input reads as it did. -/
def fnExactIsDoneSpec : ChangeSpec := { name := "fnExactIsDone", fn := fun _ => fun
  | [d1, d2] => { results := [.lit (.bool true)], args := [d1, d2] }
  | _ => none }
def fnExactIsDoneRow : OpenClaim := { program := "ytfiafjdgedhbbaa", sum := "6fdbca4ccd7e758ff4fa411396b654aed7bf97f56e2ef51f87767d5a3ba379d3", func := "loop.example/g00973/laws.FnExactIsDone", spec := "fnExactIsDone", unfollowed := true, recurses := true, apart := false }
def FnExactIsDoneSaid : Prop := fnExactIsDoneRow.holds Try.pinned (OpenSpec.ofChange fnExactIsDoneSpec)

/-- ITS FALSE NEIGHBOUR: 'it returns false'. Refute it at one input. -/
def fnExactIsDoneWrong : ChangeSpec := { name := "fnExactIsDone", fn := fun _ => fun
  | [d1, d2] => { results := [.lit (.bool false)], args := [d1, d2] }
  | _ => none }
def FnExactIsDoneWrongFalsely : Prop := fnExactIsDoneRow.holds Try.pinned (OpenSpec.ofChange fnExactIsDoneWrong)

/-- 'laws.FnExactWorkAt': WHATEVER THE INPUT: true; the input reads as it did. -/
def fnExactWorkAtSpec : ChangeSpec := { name := "fnExactWorkAt", fn := fun _ => fun
  | [d1, d2] => { results := [.lit (.bool true)], args := [d1, d2] }
  | _ => none }
def fnExactWorkAtRow : OpenClaim := { program := "ytfiafjdgedhbbaa", sum := "6fdbca4ccd7e758ff4fa411396b654aed7bf97f56e2ef51f87767d5a3ba379d3", func := "loop.example/g00973/laws.FnExactWorkAt", spec := "fnExactWorkAt", apart := false }
def FnExactWorkAtSaid : Prop := fnExactWorkAtRow.holds Try.pinned (OpenSpec.ofChange fnExactWorkAtSpec)

/-- ITS FALSE NEIGHBOUR: 'it returns false'. Refute it at one input. -/
def fnExactWorkAtWrong : ChangeSpec := { name := "fnExactWorkAt", fn := fun _ => fun
  | [d1, d2] => { results := [.lit (.bool false)], args := [d1, d2] }
  | _ => none }
def FnExactWorkAtWrongFalsely : Prop := fnExactWorkAtRow.holds Try.pinned (OpenSpec.ofChange fnExactWorkAtWrong)

/-- 'laws.FnExactPassiveAt': WHATEVER THE INPUT: true; the input reads as it did. -/
def fnExactPassiveAtSpec : ChangeSpec := { name := "fnExactPassiveAt", fn := fun _ => fun
  | [d1, d2] => { results := [.lit (.bool true)], args := [d1, d2] }
  | _ => none }
def fnExactPassiveAtRow : OpenClaim := { program := "ytfiafjdgedhbbaa", sum := "6fdbca4ccd7e758ff4fa411396b654aed7bf97f56e2ef51f87767d5a3ba379d3", func := "loop.example/g00973/laws.FnExactPassiveAt", spec := "fnExactPassiveAt", unfollowed := true, recurses := true, apart := false }
def FnExactPassiveAtSaid : Prop := fnExactPassiveAtRow.holds Try.pinned (OpenSpec.ofChange fnExactPassiveAtSpec)

/-- ITS FALSE NEIGHBOUR: 'it returns false'. Refute it at one input. -/
def fnExactPassiveAtWrong : ChangeSpec := { name := "fnExactPassiveAt", fn := fun _ => fun
  | [d1, d2] => { results := [.lit (.bool false)], args := [d1, d2] }
  | _ => none }
def FnExactPassiveAtWrongFalsely : Prop := fnExactPassiveAtRow.holds Try.pinned (OpenSpec.ofChange fnExactPassiveAtWrong)

/-- 'laws.FnExactSameWorker': WHATEVER THE INPUT: true; the input reads as it did. -/
def fnExactSameWorkerSpec : ChangeSpec := { name := "fnExactSameWorker", fn := fun _ => fun
  | [d1, d2] => { results := [.lit (.bool true)], args := [d1, d2] }
  | _ => none }
def fnExactSameWorkerRow : OpenClaim := { program := "ytfiafjdgedhbbaa", sum := "6fdbca4ccd7e758ff4fa411396b654aed7bf97f56e2ef51f87767d5a3ba379d3", func := "loop.example/g00973/laws.FnExactSameWorker", spec := "fnExactSameWorker", apart := false }
def FnExactSameWorkerSaid : Prop := fnExactSameWorkerRow.holds Try.pinned (OpenSpec.ofChange fnExactSameWorkerSpec)

/-- ITS FALSE NEIGHBOUR: 'it returns false'. Refute it at one input. -/
def fnExactSameWorkerWrong : ChangeSpec := { name := "fnExactSameWorker", fn := fun _ => fun
  | [d1, d2] => { results := [.lit (.bool false)], args := [d1, d2] }
  | _ => none }
def FnExactSameWorkerWrongFalsely : Prop := fnExactSameWorkerRow.holds Try.pinned (OpenSpec.ofChange fnExactSameWorkerWrong)

/- THE SECOND FORM. 'bulk': how many values and letters a reading holds, each counted each time it is reached (what is shared counts as often as it is met; a slice's spare places count too). A statement '..UptoSaid' is the law's where the arguments, and the package variables that the reading takes, are together of bulk at most 1048576: NARROWER than '..Said'. Prove '..Said' where nothing that the law and all that it calls make is longer than what came in: it says more and counts as full. Else prove '..UptoSaid'. A law counts once. -/
mutual
def uptoBulk {H : Type} : DataW H → Nat
  | .lit (.string bytes) => bytes.length + 1
  | .lit _ => 1
  | .nil => 1
  | .ptr d => uptoBulk d + 1
  | .slice elems spare => uptoBulkAll elems + uptoBulkAll spare + 1
  | .agg parts => uptoBulkAll parts + 1
  | .iface _ d => uptoBulk d + 1
  | .map entries => uptoBulkEntries entries + 1
  | .held _ => 1
def uptoBulkAll {H : Type} : List (DataW H) → Nat
  | [] => 0
  | d :: r => uptoBulk d + uptoBulkAll r
def uptoBulkEntries {H : Type} : List (Lit × DataW H) → Nat
  | [] => 0
  | x :: r => uptoBulkEntry x + uptoBulkEntries r
def uptoBulkEntry {H : Type} : Lit × DataW H → Nat
  | (.string bytes, d) => bytes.length + uptoBulk d + 1
  | (_, d) => uptoBulk d + 1
 end
def uptoSmall : (H : Type) → List (DataW H) → Bool := fun _ ds => decide (uptoBulkAll ds ≤ 1048576)
def OpenSpec.upto (s : _root_.Go.ChangeSpec) : _root_.Go.OpenSpec := { _root_.Go.OpenSpec.ofChange s with cond := some uptoSmall }

/-- 'laws.FnExactIdle', WHERE WHAT IT READS IS OF BULK AT MOST 1048576: true; the input reads as it did. -/
def fnExactIdleUptoRow : OpenClaim := { program := "ytfiafjdgedhbbaa", sum := "6fdbca4ccd7e758ff4fa411396b654aed7bf97f56e2ef51f87767d5a3ba379d3", func := "loop.example/g00973/laws.FnExactIdle", spec := "fnExactIdle", apart := false, narrowed := true }
def FnExactIdleUptoSaid : Prop := fnExactIdleUptoRow.holds Try.pinned (OpenSpec.upto fnExactIdleSpec)

/-- 'laws.FnExactOpenAt', WHERE WHAT IT READS IS OF BULK AT MOST 1048576: true; the input reads as it did. -/
def fnExactOpenAtUptoRow : OpenClaim := { program := "ytfiafjdgedhbbaa", sum := "6fdbca4ccd7e758ff4fa411396b654aed7bf97f56e2ef51f87767d5a3ba379d3", func := "loop.example/g00973/laws.FnExactOpenAt", spec := "fnExactOpenAt", unfollowed := true, recurses := true, apart := false, narrowed := true }
def FnExactOpenAtUptoSaid : Prop := fnExactOpenAtUptoRow.holds Try.pinned (OpenSpec.upto fnExactOpenAtSpec)

/-- 'laws.FnExactIsDone', WHERE WHAT IT READS IS OF BULK AT MOST 1048576: true; the input reads as it did. -/
def fnExactIsDoneUptoRow : OpenClaim := { program := "ytfiafjdgedhbbaa", sum := "6fdbca4ccd7e758ff4fa411396b654aed7bf97f56e2ef51f87767d5a3ba379d3", func := "loop.example/g00973/laws.FnExactIsDone", spec := "fnExactIsDone", unfollowed := true, recurses := true, apart := false, narrowed := true }
def FnExactIsDoneUptoSaid : Prop := fnExactIsDoneUptoRow.holds Try.pinned (OpenSpec.upto fnExactIsDoneSpec)

/-- 'laws.FnExactWorkAt', WHERE WHAT IT READS IS OF BULK AT MOST 1048576: true; the input reads as it did. -/
def fnExactWorkAtUptoRow : OpenClaim := { program := "ytfiafjdgedhbbaa", sum := "6fdbca4ccd7e758ff4fa411396b654aed7bf97f56e2ef51f87767d5a3ba379d3", func := "loop.example/g00973/laws.FnExactWorkAt", spec := "fnExactWorkAt", apart := false, narrowed := true }
def FnExactWorkAtUptoSaid : Prop := fnExactWorkAtUptoRow.holds Try.pinned (OpenSpec.upto fnExactWorkAtSpec)

/-- 'laws.FnExactPassiveAt', WHERE WHAT IT READS IS OF BULK AT MOST 1048576: true; the input reads as it did. -/
def fnExactPassiveAtUptoRow : OpenClaim := { program := "ytfiafjdgedhbbaa", sum := "6fdbca4ccd7e758ff4fa411396b654aed7bf97f56e2ef51f87767d5a3ba379d3", func := "loop.example/g00973/laws.FnExactPassiveAt", spec := "fnExactPassiveAt", unfollowed := true, recurses := true, apart := false, narrowed := true }
def FnExactPassiveAtUptoSaid : Prop := fnExactPassiveAtUptoRow.holds Try.pinned (OpenSpec.upto fnExactPassiveAtSpec)

/-- 'laws.FnExactSameWorker', WHERE WHAT IT READS IS OF BULK AT MOST 1048576: true; the input reads as it did. -/
def fnExactSameWorkerUptoRow : OpenClaim := { program := "ytfiafjdgedhbbaa", sum := "6fdbca4ccd7e758ff4fa411396b654aed7bf97f56e2ef51f87767d5a3ba379d3", func := "loop.example/g00973/laws.FnExactSameWorker", spec := "fnExactSameWorker", apart := false, narrowed := true }
def FnExactSameWorkerUptoSaid : Prop := fnExactSameWorkerUptoRow.holds Try.pinned (OpenSpec.upto fnExactSameWorkerSpec)

end Rows
end Go.Proofs.Ytfiafjdgedhbbaa
