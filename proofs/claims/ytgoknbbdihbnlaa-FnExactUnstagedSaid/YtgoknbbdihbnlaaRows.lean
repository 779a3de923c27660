/-
  No cell of these rows narrows 'for every input' (looked for: loops, veiled, ifaces, maps, wideKeys, modest, calm, conditions, laid).
  DERIVED. THE GIVEN ROWS OF THIS SEAT. 5 by the template 'for every input the law returns true; each argument reads behind the call as it read before'; 0 by the template 'total and deterministic' (their statements: YtgoknbbdihbnlaaTotals.lean).
  GIVEN WITH THE SEED: the statements are not yours to turn. If you find one false, say at which input.
  Laid BY PROGRAM, IN A SANDBOX (cutbox-rows.mjs): the forced cells as the released guide's own fill.sh prints them over the translation 757c68d7fcfdf102… (all of the seat's roots in one cut). By AI agents, Wed Nov 11 2026. No macro, syntax, notation, axiom, sorry.
-/
import Derived.Test.YtgoknbbdihbnlaaChecked
import GoSem.Claim
import GoSem.ClaimJoined
import GoSem.ClaimMapViews
import Derived.JoinedTies
import Derived.KernelRfl
namespace Go.Proofs.Ytgoknbbdihbnlaa
/- THE CELL 'sum', in the pinned program and in every row, IS THE sha256 OF THE DUMP (.gsa) THAT YtgoknbbdihbnlaaProg.lean LOADS. Nothing in Lean hashes anything: it is a label: what it is worth is what the hold of that sum in a sandbox is worth. -/
noncomputable def Try.pinned : Pinned := { name := "ytgoknbbdihbnlaa", sum := "757c68d7fcfdf102ab540248b3e34e8c49659674ac355e59f18ba53b84221a50", checked := Try.checked }
namespace Rows
def none {H : Type} : Left H := { results := [], args := [] }

/-- 'laws.FnExactWorkerNew': WHATEVER THE INPUT: true; the input reads as it did. -/
def fnExactWorkerNewSpec : ChangeSpec := { name := "fnExactWorkerNew", fn := fun _ => fun
  | [d] => { results := [.lit (.bool true)], args := [d] }
  | _ => none }
def fnExactWorkerNewRow : OpenClaim := { program := "ytgoknbbdihbnlaa", sum := "757c68d7fcfdf102ab540248b3e34e8c49659674ac355e59f18ba53b84221a50", func := "loop.example/g00973/laws.FnExactWorkerNew", spec := "fnExactWorkerNew", apart := false }
def FnExactWorkerNewSaid : Prop := fnExactWorkerNewRow.holds Try.pinned (OpenSpec.ofChange fnExactWorkerNewSpec)

/-- ITS FALSE NEIGHBOUR: 'it returns false'. Refute it at one input. -/
def fnExactWorkerNewWrong : ChangeSpec := { name := "fnExactWorkerNew", fn := fun _ => fun
  | [d] => { results := [.lit (.bool false)], args := [d] }
  | _ => none }
def FnExactWorkerNewWrongFalsely : Prop := fnExactWorkerNewRow.holds Try.pinned (OpenSpec.ofChange fnExactWorkerNewWrong)

/-- 'laws.FnExactKept': WHATEVER THE INPUT: true; the input reads as it did. -/
def fnExactKeptSpec : ChangeSpec := { name := "fnExactKept", fn := fun _ => fun
  | [d1, d2] => { results := [.lit (.bool true)], args := [d1, d2] }
  | _ => none }
def fnExactKeptRow : OpenClaim := { program := "ytgoknbbdihbnlaa", sum := "757c68d7fcfdf102ab540248b3e34e8c49659674ac355e59f18ba53b84221a50", func := "loop.example/g00973/laws.FnExactKept", spec := "fnExactKept", apart := false }
def FnExactKeptSaid : Prop := fnExactKeptRow.holds Try.pinned (OpenSpec.ofChange fnExactKeptSpec)

/-- ITS FALSE NEIGHBOUR: 'it returns false'. Refute it at one input. -/
def fnExactKeptWrong : ChangeSpec := { name := "fnExactKept", fn := fun _ => fun
  | [d1, d2] => { results := [.lit (.bool false)], args := [d1, d2] }
  | _ => none }
def FnExactKeptWrongFalsely : Prop := fnExactKeptRow.holds Try.pinned (OpenSpec.ofChange fnExactKeptWrong)

/-- 'laws.FnExactSentAway': WHATEVER THE INPUT: true; the input reads as it did. -/
def fnExactSentAwaySpec : ChangeSpec := { name := "fnExactSentAway", fn := fun _ => fun
  | [d1, d2] => { results := [.lit (.bool true)], args := [d1, d2] }
  | _ => none }
def fnExactSentAwayRow : OpenClaim := { program := "ytgoknbbdihbnlaa", sum := "757c68d7fcfdf102ab540248b3e34e8c49659674ac355e59f18ba53b84221a50", func := "loop.example/g00973/laws.FnExactSentAway", spec := "fnExactSentAway", apart := false }
def FnExactSentAwaySaid : Prop := fnExactSentAwayRow.holds Try.pinned (OpenSpec.ofChange fnExactSentAwaySpec)

/-- ITS FALSE NEIGHBOUR: 'it returns false'. Refute it at one input. -/
def fnExactSentAwayWrong : ChangeSpec := { name := "fnExactSentAway", fn := fun _ => fun
  | [d1, d2] => { results := [.lit (.bool false)], args := [d1, d2] }
  | _ => none }
def FnExactSentAwayWrongFalsely : Prop := fnExactSentAwayRow.holds Try.pinned (OpenSpec.ofChange fnExactSentAwayWrong)

/-- 'laws.FnExactUnstaged': WHATEVER THE INPUT: true; the input reads as it did. -/
def fnExactUnstagedSpec : ChangeSpec := { name := "fnExactUnstaged", fn := fun _ => fun
  | [d] => { results := [.lit (.bool true)], args := [d] }
  | _ => none }
def fnExactUnstagedRow : OpenClaim := { program := "ytgoknbbdihbnlaa", sum := "757c68d7fcfdf102ab540248b3e34e8c49659674ac355e59f18ba53b84221a50", func := "loop.example/g00973/laws.FnExactUnstaged", spec := "fnExactUnstaged", apart := false }
def FnExactUnstagedSaid : Prop := fnExactUnstagedRow.holds Try.pinned (OpenSpec.ofChange fnExactUnstagedSpec)

/-- ITS FALSE NEIGHBOUR: 'it returns false'. Refute it at one input. -/
def fnExactUnstagedWrong : ChangeSpec := { name := "fnExactUnstaged", fn := fun _ => fun
  | [d] => { results := [.lit (.bool false)], args := [d] }
  | _ => none }
def FnExactUnstagedWrongFalsely : Prop := fnExactUnstagedRow.holds Try.pinned (OpenSpec.ofChange fnExactUnstagedWrong)

/-- 'laws.FnExactReceived': WHATEVER THE INPUT: true; the input reads as it did. -/
def fnExactReceivedSpec : ChangeSpec := { name := "fnExactReceived", fn := fun _ => fun
  | [d1, d2] => { results := [.lit (.bool true)], args := [d1, d2] }
  | _ => none }
def fnExactReceivedRow : OpenClaim := { program := "ytgoknbbdihbnlaa", sum := "757c68d7fcfdf102ab540248b3e34e8c49659674ac355e59f18ba53b84221a50", func := "loop.example/g00973/laws.FnExactReceived", spec := "fnExactReceived", apart := false }
def FnExactReceivedSaid : Prop := fnExactReceivedRow.holds Try.pinned (OpenSpec.ofChange fnExactReceivedSpec)

/-- ITS FALSE NEIGHBOUR: 'it returns false'. Refute it at one input. -/
def fnExactReceivedWrong : ChangeSpec := { name := "fnExactReceived", fn := fun _ => fun
  | [d1, d2] => { results := [.lit (.bool false)], args := [d1, d2] }
  | _ => none }
def FnExactReceivedWrongFalsely : Prop := fnExactReceivedRow.holds Try.pinned (OpenSpec.ofChange fnExactReceivedWrong)

/- THE SECOND FORM. 'bulk': how many values and letters a reading holds, each counted each time it is reached (what is shared counts as often as it is met; a slice's spare places count too). A statement '..UptoSaid' is the law's where the arguments, and the package variables that the reading takes, are together of bulk at most 1048576: NARROWER than '..Said'. Prove '..Said' where nothing that the law and all that it calls make is longer than what came in: it says more and counts as full. Else prove '..UptoSaid'. A law counts once. -/
mutual
def uptoBulk {H : Type} : DataW H → Nat
  | .lit (.string bytes) => bytes.length + 1
  | .lit _ => 1
  | .nil => 1
  | .ptr d => uptoBulk d + 1
  | .slice elems spare => uptoBulkAll elems + uptoBulkAll spare + 1
  | .agg parts => uptoBulkAll parts + 1
  | .iface _ d => uptoBulk d + 1
  | .map entries => uptoBulkEntries entries + 1
  | .held _ => 1
def uptoBulkAll {H : Type} : List (DataW H) → Nat
  | [] => 0
  | d :: r => uptoBulk d + uptoBulkAll r
def uptoBulkEntries {H : Type} : List (Lit × DataW H) → Nat
  | [] => 0
  | x :: r => uptoBulkEntry x + uptoBulkEntries r
def uptoBulkEntry {H : Type} : Lit × DataW H → Nat
  | (.string bytes, d) => bytes.length + uptoBulk d + 1
  | (_, d) => uptoBulk d + 1
 end
def uptoSmall : (H : Type) → List (DataW H) → Bool := fun _ ds => decide (uptoBulkAll ds ≤ 1048576)
def OpenSpec.upto (s : _root_.Go.ChangeSpec) : _root_.Go.OpenSpec := { _root_.Go.OpenSpec.ofChange s with cond := some uptoSmall }

/-- 'laws.FnExactWorkerNew', WHERE WHAT IT READS IS OF BULK AT MOST 1048576: true; the input reads as it did. -/
def fnExactWorkerNewUptoRow : OpenClaim := { program := "ytgoknbbdihbnlaa", sum := "757c68d7fcfdf102ab540248b3e34e8c49659674ac355e59f18ba53b84221a50", func := "loop.example/g00973/laws.FnExactWorkerNew", spec := "fnExactWorkerNew", apart := false, narrowed := true }
def FnExactWorkerNewUptoSaid : Prop := fnExactWorkerNewUptoRow.holds Try.pinned (OpenSpec.upto fnExactWorkerNewSpec)

/-- 'laws.FnExactKept', WHERE WHAT IT READS IS OF BULK AT MOST 1048576: true; the input reads as it did. -/
def fnExactKeptUptoRow : OpenClaim := { program := "ytgoknbbdihbnlaa", sum := "757c68d7fcfdf102ab540248b3e34e8c49659674ac355e59f18ba53b84221a50", func := "loop.example/g00973/laws.FnExactKept", spec := "fnExactKept", apart := false, narrowed := true }
def FnExactKeptUptoSaid : Prop := fnExactKeptUptoRow.holds Try.pinned (OpenSpec.upto fnExactKeptSpec)

/-- 'laws.FnExactSentAway', WHERE WHAT IT READS IS OF BULK AT MOST 1048576: true; the input reads as it did. -/
def fnExactSentAwayUptoRow : OpenClaim := { program := "ytgoknbbdihbnlaa", sum := "757c68d7fcfdf102ab540248b3e34e8c49659674ac355e59f18ba53b84221a50", func := "loop.example/g00973/laws.FnExactSentAway", spec := "fnExactSentAway", apart := false, narrowed := true }
def FnExactSentAwayUptoSaid : Prop := fnExactSentAwayUptoRow.holds Try.pinned (OpenSpec.upto fnExactSentAwaySpec)

/-- 'laws.FnExactUnstaged', WHERE WHAT IT READS IS OF BULK AT MOST 1048576: true; the input reads as it did. -/
def fnExactUnstagedUptoRow : OpenClaim := { program := "ytgoknbbdihbnlaa", sum := "757c68d7fcfdf102ab540248b3e34e8c49659674ac355e59f18ba53b84221a50", func := "loop.example/g00973/laws.FnExactUnstaged", spec := "fnExactUnstaged", apart := false, narrowed := true }
def FnExactUnstagedUptoSaid : Prop := fnExactUnstagedUptoRow.holds Try.pinned (OpenSpec.upto fnExactUnstagedSpec)

/-- 'laws.FnExactReceived', WHERE WHAT IT READS IS OF BULK AT MOST 1048576: true; the input reads as it did. -/
def fnExactReceivedUptoRow : OpenClaim := { program := "ytgoknbbdihbnlaa", sum := "757c68d7fcfdf102ab540248b3e34e8c49659674ac355e59f18ba53b84221a50", func := "loop.example/g00973/laws.FnExactReceived", spec := "fnExactReceived", apart := false, narrowed := true }
def FnExactReceivedUptoSaid : Prop := fnExactReceivedUptoRow.holds Try.pinned (OpenSpec.upto fnExactReceivedSpec)

end Rows
end Go.Proofs.Ytgoknbbdihbnlaa
