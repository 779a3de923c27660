/-
  No cell of these rows narrows 'for every input' (looked for: loops, veiled, ifaces, maps, wideKeys, modest, calm, conditions, laid).
  DERIVED. THE GIVEN ROWS OF THIS SEAT. 22 by the template 'for every input the law returns true; each argument reads behind the call as it read before'; 0 by the template 'total and deterministic' (their statements: YtlpimnkndeoanaaTotals.lean).
  GIVEN WITH THE SEED: the statements are not yours to turn. If you find one false, say at which input.
  Laid BY PROGRAM, IN A SANDBOX (cutbox-rows.mjs): the forced cells as the released guide's own fill.sh prints them over the translation e944a28d1d12242b… (all of the seat's roots in one cut). By AI agents, Wed Nov 11 2026. No macro, syntax, notation, axiom, sorry.
-/
import Derived.Test.YtlpimnkndeoanaaChecked
import GoSem.Claim
import GoSem.ClaimJoined
import GoSem.ClaimMapViews
import Derived.JoinedTies
import Derived.KernelRfl
namespace Go.Proofs.Ytlpimnkndeoanaa
/- THE CELL 'sum', in the pinned program and in every row, IS THE sha256 OF THE DUMP (.gsa) THAT YtlpimnkndeoanaaProg.lean LOADS. Nothing in Lean hashes anything: it is a label: what it is worth is what the hold of that sum in a sandbox is worth. -/
noncomputable def Try.pinned : Pinned := { name := "ytlpimnkndeoanaa", sum := "e944a28d1d12242bdb8de6dacff82f66162ca2410f5c1127be1462137cab532c", checked := Try.checked }
namespace Rows
def none {H : Type} : Left H := { results := [], args := [] }

/-- 'laws.FnExactOutsOf': WHATEVER THE INPUT: true; the input reads as it did. -/
def fnExactOutsOfSpec : ChangeSpec := { name := "fnExactOutsOf", fn := fun _ => fun
  | [d] => { results := [.lit (.bool true)], args := [d] }
  | _ => none }
def fnExactOutsOfRow : OpenClaim := { program := "ytlpimnkndeoanaa", sum := "e944a28d1d12242bdb8de6dacff82f66162ca2410f5c1127be1462137cab532c", func := "loop.example/g00973/laws.FnExactOutsOf", spec := "fnExactOutsOf", apart := false }
def FnExactOutsOfSaid : Prop := fnExactOutsOfRow.holds Try.pinned (OpenSpec.ofChange fnExactOutsOfSpec)

/-- ITS FALSE NEIGHBOUR: 'it returns false'. Refute it at one input. -/
def fnExactOutsOfWrong : ChangeSpec := { name := "fnExactOutsOf", fn := fun _ => fun
  | [d] => { results := [.lit (.bool false)], args := [d] }
  | _ => none }
def FnExactOutsOfWrongFalsely : Prop := fnExactOutsOfRow.holds Try.pinned (OpenSpec.ofChange fnExactOutsOfWrong)

/-- 'laws.FnExactNodeOf': WHATEVER THE INPUT: true; the input reads as it did. -/
def fnExactNodeOfSpec : ChangeSpec := { name := "fnExactNodeOf", fn := fun _ => fun
  | [d1, d2] => { results := [.lit (.bool true)], args := [d1, d2] }
  | _ => none }
def fnExactNodeOfRow : OpenClaim := { program := "ytlpimnkndeoanaa", sum := "e944a28d1d12242bdb8de6dacff82f66162ca2410f5c1127be1462137cab532c", func := "loop.example/g00973/laws.FnExactNodeOf", spec := "fnExactNodeOf", apart := false }
def FnExactNodeOfSaid : Prop := fnExactNodeOfRow.holds Try.pinned (OpenSpec.ofChange fnExactNodeOfSpec)

/-- ITS FALSE NEIGHBOUR: 'it returns false'. Refute it at one input. -/
def fnExactNodeOfWrong : ChangeSpec := { name := "fnExactNodeOf", fn := fun _ => fun
  | [d1, d2] => { results := [.lit (.bool false)], args := [d1, d2] }
  | _ => none }
def FnExactNodeOfWrongFalsely : Prop := fnExactNodeOfRow.holds Try.pinned (OpenSpec.ofChange fnExactNodeOfWrong)

/-- 'laws.FnExactOutsOnly': WHATEVER THE INPUT: true; the input reads as it did. -/
def fnExactOutsOnlySpec : ChangeSpec := { name := "fnExactOutsOnly", fn := fun _ => fun
  | [d1, d2] => { results := [.lit (.bool true)], args := [d1, d2] }
  | _ => none }
def fnExactOutsOnlyRow : OpenClaim := { program := "ytlpimnkndeoanaa", sum := "e944a28d1d12242bdb8de6dacff82f66162ca2410f5c1127be1462137cab532c", func := "loop.example/g00973/laws.FnExactOutsOnly", spec := "fnExactOutsOnly", apart := false }
def FnExactOutsOnlySaid : Prop := fnExactOutsOnlyRow.holds Try.pinned (OpenSpec.ofChange fnExactOutsOnlySpec)

/-- ITS FALSE NEIGHBOUR: 'it returns false'. Refute it at one input. -/
def fnExactOutsOnlyWrong : ChangeSpec := { name := "fnExactOutsOnly", fn := fun _ => fun
  | [d1, d2] => { results := [.lit (.bool false)], args := [d1, d2] }
  | _ => none }
def FnExactOutsOnlyWrongFalsely : Prop := fnExactOutsOnlyRow.holds Try.pinned (OpenSpec.ofChange fnExactOutsOnlyWrong)

/-- 'laws.FnExactReaches': WHATEVER THE INPUT: true; the input reads as it did. -/
def fnExactReachesSpec : ChangeSpec := { name := "fnExactReaches", fn := fun _ => fun
  | [d1, d2, d3] => { results := [.lit (.bool true)], args := [d1, d2, d3] }
  | _ => none }
def fnExactReachesRow : OpenClaim := { program := "ytlpimnkndeoanaa", sum := "e944a28d1d12242bdb8de6dacff82f66162ca2410f5c1127be1462137cab532c", func := "loop.example/g00973/laws.FnExactReaches", spec := "fnExactReaches", apart := false }
def FnExactReachesSaid : Prop := fnExactReachesRow.holds Try.pinned (OpenSpec.ofChange fnExactReachesSpec)

/-- ITS FALSE NEIGHBOUR: 'it returns false'. Refute it at one input. -/
def fnExactReachesWrong : ChangeSpec := { name := "fnExactReaches", fn := fun _ => fun
  | [d1, d2, d3] => { results := [.lit (.bool false)], args := [d1, d2, d3] }
  | _ => none }
def FnExactReachesWrongFalsely : Prop := fnExactReachesRow.holds Try.pinned (OpenSpec.ofChange fnExactReachesWrong)

/-- 'laws.FnExactCapped': WHATEVER THE INPUT: true; the input reads as it did. -/
def fnExactCappedSpec : ChangeSpec := { name := "fnExactCapped", fn := fun _ => fun
  | [d1, d2] => { results := [.lit (.bool true)], args := [d1, d2] }
  | _ => none }
def fnExactCappedRow : OpenClaim := { program := "ytlpimnkndeoanaa", sum := "e944a28d1d12242bdb8de6dacff82f66162ca2410f5c1127be1462137cab532c", func := "loop.example/g00973/laws.FnExactCapped", spec := "fnExactCapped", apart := false }
def FnExactCappedSaid : Prop := fnExactCappedRow.holds Try.pinned (OpenSpec.ofChange fnExactCappedSpec)

/-- ITS FALSE NEIGHBOUR: 'it returns false'. Refute it at one input. -/
def fnExactCappedWrong : ChangeSpec := { name := "fnExactCapped", fn := fun _ => fun
  | [d1, d2] => { results := [.lit (.bool false)], args := [d1, d2] }
  | _ => none }
def FnExactCappedWrongFalsely : Prop := fnExactCappedRow.holds Try.pinned (OpenSpec.ofChange fnExactCappedWrong)

/-- 'laws.FnExactHasLoop': WHATEVER THE INPUT: true; the input reads as it did. -/
def fnExactHasLoopSpec : ChangeSpec := { name := "fnExactHasLoop", fn := fun _ => fun
  | [d] => { results := [.lit (.bool true)], args := [d] }
  | _ => none }
def fnExactHasLoopRow : OpenClaim := { program := "ytlpimnkndeoanaa", sum := "e944a28d1d12242bdb8de6dacff82f66162ca2410f5c1127be1462137cab532c", func := "loop.example/g00973/laws.FnExactHasLoop", spec := "fnExactHasLoop", apart := false }
def FnExactHasLoopSaid : Prop := fnExactHasLoopRow.holds Try.pinned (OpenSpec.ofChange fnExactHasLoopSpec)

/-- ITS FALSE NEIGHBOUR: 'it returns false'. Refute it at one input. -/
def fnExactHasLoopWrong : ChangeSpec := { name := "fnExactHasLoop", fn := fun _ => fun
  | [d] => { results := [.lit (.bool false)], args := [d] }
  | _ => none }
def FnExactHasLoopWrongFalsely : Prop := fnExactHasLoopRow.holds Try.pinned (OpenSpec.ofChange fnExactHasLoopWrong)

/-- 'laws.FnExactIdle': WHATEVER THE INPUT: true; the input reads as it did. -/
def fnExactIdleSpec : ChangeSpec := { name := "fnExactIdle", fn := fun _ => fun
  | [d] => { results := [.lit (.bool true)], args := [d] }
  | _ => none }
def fnExactIdleRow : OpenClaim := { program := "ytlpimnkndeoanaa", sum := "e944a28d1d12242bdb8de6dacff82f66162ca2410f5c1127be1462137cab532c", func := "loop.example/g00973/laws.FnExactIdle", spec := "fnExactIdle", apart := false }
def FnExactIdleSaid : Prop := fnExactIdleRow.holds Try.pinned (OpenSpec.ofChange fnExactIdleSpec)

/-- ITS FALSE NEIGHBOUR: 'it returns false'. Refute it at one input. -/
def fnExactIdleWrong : ChangeSpec := { name := "fnExactIdle", fn := fun _ => fun
  | [d] => { results := [.lit (.bool false)], args := [d] }
  | _ => none }
def FnExactIdleWrongFalsely : Prop := fnExactIdleRow.holds Try.pinned (OpenSpec.ofChange fnExactIdleWrong)

/-- 'laws.FnExactPutCell': WHATEVER THE INPUT: true; the input reads as it did. -/
def fnExactPutCellSpec : ChangeSpec := { name := "fnExactPutCell", fn := fun _ => fun
  | [d1, d2] => { results := [.lit (.bool true)], args := [d1, d2] }
  | _ => none }
def fnExactPutCellRow : OpenClaim := { program := "ytlpimnkndeoanaa", sum := "e944a28d1d12242bdb8de6dacff82f66162ca2410f5c1127be1462137cab532c", func := "loop.example/g00973/laws.FnExactPutCell", spec := "fnExactPutCell", inPlace := ["slices.overlaps[loop.example/g00973/impl.Cell]"], apart := false }
def FnExactPutCellSaid : Prop := fnExactPutCellRow.holds Try.pinned (OpenSpec.ofChange fnExactPutCellSpec)

/-- ITS FALSE NEIGHBOUR: 'it returns false'. Refute it at one input. -/
def fnExactPutCellWrong : ChangeSpec := { name := "fnExactPutCell", fn := fun _ => fun
  | [d1, d2] => { results := [.lit (.bool false)], args := [d1, d2] }
  | _ => none }
def FnExactPutCellWrongFalsely : Prop := fnExactPutCellRow.holds Try.pinned (OpenSpec.ofChange fnExactPutCellWrong)

/-- 'laws.FnExactOpenAt': WHATEVER THE INPUT: true; the input reads as it did. -/
def fnExactOpenAtSpec : ChangeSpec := { name := "fnExactOpenAt", fn := fun _ => fun
  | [d1, d2] => { results := [.lit (.bool true)], args := [d1, d2] }
  | _ => none }
def fnExactOpenAtRow : OpenClaim := { program := "ytlpimnkndeoanaa", sum := "e944a28d1d12242bdb8de6dacff82f66162ca2410f5c1127be1462137cab532c", func := "loop.example/g00973/laws.FnExactOpenAt", spec := "fnExactOpenAt", unfollowed := true, recurses := true, apart := false }
def FnExactOpenAtSaid : Prop := fnExactOpenAtRow.holds Try.pinned (OpenSpec.ofChange fnExactOpenAtSpec)

/-- ITS FALSE NEIGHBOUR: 'it returns false'. Refute it at one input. -/
def fnExactOpenAtWrong : ChangeSpec := { name := "fnExactOpenAt", fn := fun _ => fun
  | [d1, d2] => { results := [.lit (.bool false)], args := [d1, d2] }
  | _ => none }
def FnExactOpenAtWrongFalsely : Prop := fnExactOpenAtRow.holds Try.pinned (OpenSpec.ofChange fnExactOpenAtWrong)

/-- 'laws.FnExactIsDone': WHATEVER THE INPUT: true; the input reads as it did. -/
def fnExactIsDoneSpec : ChangeSpec := { name := "fnExactIsDone", fn := fun _ => fun
  | [d1, d2] => { results := [.lit (.bool true)], args := [d1, d2] }
  | _ => none }
def fnExactIsDoneRow : OpenClaim := { program := "ytlpimnkndeoanaa", sum := "e944a28d1d12242bdb8de6dacff82f66162ca2410f5c1127be1462137cab532c", func := "loop.example/g00973/laws.FnExactIsDone", spec := "fnExactIsDone", unfollowed := true, recurses := true, apart := false }
def FnExactIsDoneSaid : Prop := fnExactIsDoneRow.holds Try.pinned (OpenSpec.ofChange fnExactIsDoneSpec)

/-- ITS FALSE NEIGHBOUR: 'it returns false'. Refute it at one input. -/
def fnExactIsDoneWrong : ChangeSpec := { name := "fnExactIsDone", fn := fun _ => fun
  | [d1, d2] => { results := [.lit (.bool false)], args := [d1, d2] }
  | _ => none }
def FnExactIsDoneWrongFalsely : Prop := fnExactIsDoneRow.holds Try.pinned (OpenSpec.ofChange fnExactIsDoneWrong)

/-- 'laws.FnExactWorkAt': WHATEVER THE INPUT: true; the input reads as it did. -/
def fnExactWorkAtSpec : ChangeSpec := { name := "fnExactWorkAt", fn := fun _ => fun
  | [d1, d2] => { results := [.lit (.bool true)], args := [d1, d2] }
  | _ => none }
def fnExactWorkAtRow : OpenClaim := { program := "ytlpimnkndeoanaa", sum := "e944a28d1d12242bdb8de6dacff82f66162ca2410f5c1127be1462137cab532c", func := "loop.example/g00973/laws.FnExactWorkAt", spec := "fnExactWorkAt", apart := false }
def FnExactWorkAtSaid : Prop := fnExactWorkAtRow.holds Try.pinned (OpenSpec.ofChange fnExactWorkAtSpec)

/-- ITS FALSE NEIGHBOUR: 'it returns false'. Refute it at one input. -/
def fnExactWorkAtWrong : ChangeSpec := { name := "fnExactWorkAt", fn := fun _ => fun
  | [d1, d2] => { results := [.lit (.bool false)], args := [d1, d2] }
  | _ => none }
def FnExactWorkAtWrongFalsely : Prop := fnExactWorkAtRow.holds Try.pinned (OpenSpec.ofChange fnExactWorkAtWrong)

/-- 'laws.FnExactPassiveAt': WHATEVER THE INPUT: true; the input reads as it did. -/
def fnExactPassiveAtSpec : ChangeSpec := { name := "fnExactPassiveAt", fn := fun _ => fun
  | [d1, d2] => { results := [.lit (.bool true)], args := [d1, d2] }
  | _ => none }
def fnExactPassiveAtRow : OpenClaim := { program := "ytlpimnkndeoanaa", sum := "e944a28d1d12242bdb8de6dacff82f66162ca2410f5c1127be1462137cab532c", func := "loop.example/g00973/laws.FnExactPassiveAt", spec := "fnExactPassiveAt", unfollowed := true, recurses := true, apart := false }
def FnExactPassiveAtSaid : Prop := fnExactPassiveAtRow.holds Try.pinned (OpenSpec.ofChange fnExactPassiveAtSpec)

/-- ITS FALSE NEIGHBOUR: 'it returns false'. Refute it at one input. -/
def fnExactPassiveAtWrong : ChangeSpec := { name := "fnExactPassiveAt", fn := fun _ => fun
  | [d1, d2] => { results := [.lit (.bool false)], args := [d1, d2] }
  | _ => none }
def FnExactPassiveAtWrongFalsely : Prop := fnExactPassiveAtRow.holds Try.pinned (OpenSpec.ofChange fnExactPassiveAtWrong)

/-- 'laws.FnExactWorkerNew': WHATEVER THE INPUT: true; the input reads as it did. -/
def fnExactWorkerNewSpec : ChangeSpec := { name := "fnExactWorkerNew", fn := fun _ => fun
  | [d] => { results := [.lit (.bool true)], args := [d] }
  | _ => none }
def fnExactWorkerNewRow : OpenClaim := { program := "ytlpimnkndeoanaa", sum := "e944a28d1d12242bdb8de6dacff82f66162ca2410f5c1127be1462137cab532c", func := "loop.example/g00973/laws.FnExactWorkerNew", spec := "fnExactWorkerNew", apart := false }
def FnExactWorkerNewSaid : Prop := fnExactWorkerNewRow.holds Try.pinned (OpenSpec.ofChange fnExactWorkerNewSpec)

/-- ITS FALSE NEIGHBOUR: 'it returns false'. Refute it at one input. -/
def fnExactWorkerNewWrong : ChangeSpec := { name := "fnExactWorkerNew", fn := fun _ => fun
  | [d] => { results := [.lit (.bool false)], args := [d] }
  | _ => none }
def FnExactWorkerNewWrongFalsely : Prop := fnExactWorkerNewRow.holds Try.pinned (OpenSpec.ofChange fnExactWorkerNewWrong)

/-- 'laws.FnExactSameWorker': WHATEVER THE INPUT: true; the input reads as it did. -/
def fnExactSameWorkerSpec : ChangeSpec := { name := "fnExactSameWorker", fn := fun _ => fun
  | [d1, d2] => { results := [.lit (.bool true)], args := [d1, d2] }
  | _ => none }
def fnExactSameWorkerRow : OpenClaim := { program := "ytlpimnkndeoanaa", sum := "e944a28d1d12242bdb8de6dacff82f66162ca2410f5c1127be1462137cab532c", func := "loop.example/g00973/laws.FnExactSameWorker", spec := "fnExactSameWorker", apart := false }
def FnExactSameWorkerSaid : Prop := fnExactSameWorkerRow.holds Try.pinned (OpenSpec.ofChange fnExactSameWorkerSpec)

/-- ITS FALSE NEIGHBOUR: 'it returns false'. Refute it at one input. -/
def fnExactSameWorkerWrong : ChangeSpec := { name := "fnExactSameWorker", fn := fun _ => fun
  | [d1, d2] => { results := [.lit (.bool false)], args := [d1, d2] }
  | _ => none }
def FnExactSameWorkerWrongFalsely : Prop := fnExactSameWorkerRow.holds Try.pinned (OpenSpec.ofChange fnExactSameWorkerWrong)

/-- 'laws.FnExactRecall': WHATEVER THE INPUT: true; the input reads as it did. -/
def fnExactRecallSpec : ChangeSpec := { name := "fnExactRecall", fn := fun _ => fun
  | [d1, d2, d3] => { results := [.lit (.bool true)], args := [d1, d2, d3] }
  | _ => none }
def fnExactRecallRow : OpenClaim := { program := "ytlpimnkndeoanaa", sum := "e944a28d1d12242bdb8de6dacff82f66162ca2410f5c1127be1462137cab532c", func := "loop.example/g00973/laws.FnExactRecall", spec := "fnExactRecall", inPlace := ["slices.overlaps[loop.example/g00973/impl.Cell]"], unfollowed := true, recurses := true, apart := false }
def FnExactRecallSaid : Prop := fnExactRecallRow.holds Try.pinned (OpenSpec.ofChange fnExactRecallSpec)

/-- ITS FALSE NEIGHBOUR: 'it returns false'. Refute it at one input. -/
def fnExactRecallWrong : ChangeSpec := { name := "fnExactRecall", fn := fun _ => fun
  | [d1, d2, d3] => { results := [.lit (.bool false)], args := [d1, d2, d3] }
  | _ => none }
def FnExactRecallWrongFalsely : Prop := fnExactRecallRow.holds Try.pinned (OpenSpec.ofChange fnExactRecallWrong)

/-- 'laws.FnGraphs': WHATEVER THE INPUT: true; the input reads as it did. -/
def fnGraphsSpec : ChangeSpec := { name := "fnGraphs", fn := fun _ => fun
  | [d] => { results := [.lit (.bool true)], args := [d] }
  | _ => none }
def fnGraphsRow : OpenClaim := { program := "ytlpimnkndeoanaa", sum := "e944a28d1d12242bdb8de6dacff82f66162ca2410f5c1127be1462137cab532c", func := "loop.example/g00973/laws.FnGraphs", spec := "fnGraphs", unfollowed := true, recurses := true, apart := false }
def FnGraphsSaid : Prop := fnGraphsRow.holds Try.pinned (OpenSpec.ofChange fnGraphsSpec)

/-- ITS FALSE NEIGHBOUR: 'it returns false'. Refute it at one input. -/
def fnGraphsWrong : ChangeSpec := { name := "fnGraphs", fn := fun _ => fun
  | [d] => { results := [.lit (.bool false)], args := [d] }
  | _ => none }
def FnGraphsWrongFalsely : Prop := fnGraphsRow.holds Try.pinned (OpenSpec.ofChange fnGraphsWrong)

/-- 'laws.FnMemory': WHATEVER THE INPUT: true; the input reads as it did. -/
def fnMemorySpec : ChangeSpec := { name := "fnMemory", fn := fun _ => fun
  | [d] => { results := [.lit (.bool true)], args := [d] }
  | _ => none }
def fnMemoryRow : OpenClaim := { program := "ytlpimnkndeoanaa", sum := "e944a28d1d12242bdb8de6dacff82f66162ca2410f5c1127be1462137cab532c", func := "loop.example/g00973/laws.FnMemory", spec := "fnMemory", inPlace := ["slices.overlaps[loop.example/g00973/impl.Cell]"], unfollowed := true, recurses := true, apart := false }
def FnMemorySaid : Prop := fnMemoryRow.holds Try.pinned (OpenSpec.ofChange fnMemorySpec)

/-- ITS FALSE NEIGHBOUR: 'it returns false'. Refute it at one input. -/
def fnMemoryWrong : ChangeSpec := { name := "fnMemory", fn := fun _ => fun
  | [d] => { results := [.lit (.bool false)], args := [d] }
  | _ => none }
def FnMemoryWrongFalsely : Prop := fnMemoryRow.holds Try.pinned (OpenSpec.ofChange fnMemoryWrong)

/-- 'laws.FnExactKept': WHATEVER THE INPUT: true; the input reads as it did. -/
def fnExactKeptSpec : ChangeSpec := { name := "fnExactKept", fn := fun _ => fun
  | [d1, d2] => { results := [.lit (.bool true)], args := [d1, d2] }
  | _ => none }
def fnExactKeptRow : OpenClaim := { program := "ytlpimnkndeoanaa", sum := "e944a28d1d12242bdb8de6dacff82f66162ca2410f5c1127be1462137cab532c", func := "loop.example/g00973/laws.FnExactKept", spec := "fnExactKept", apart := false }
def FnExactKeptSaid : Prop := fnExactKeptRow.holds Try.pinned (OpenSpec.ofChange fnExactKeptSpec)

/-- ITS FALSE NEIGHBOUR: 'it returns false'. Refute it at one input. -/
def fnExactKeptWrong : ChangeSpec := { name := "fnExactKept", fn := fun _ => fun
  | [d1, d2] => { results := [.lit (.bool false)], args := [d1, d2] }
  | _ => none }
def FnExactKeptWrongFalsely : Prop := fnExactKeptRow.holds Try.pinned (OpenSpec.ofChange fnExactKeptWrong)

/-- 'laws.FnExactSentAway': WHATEVER THE INPUT: true; the input reads as it did. -/
def fnExactSentAwaySpec : ChangeSpec := { name := "fnExactSentAway", fn := fun _ => fun
  | [d1, d2] => { results := [.lit (.bool true)], args := [d1, d2] }
  | _ => none }
def fnExactSentAwayRow : OpenClaim := { program := "ytlpimnkndeoanaa", sum := "e944a28d1d12242bdb8de6dacff82f66162ca2410f5c1127be1462137cab532c", func := "loop.example/g00973/laws.FnExactSentAway", spec := "fnExactSentAway", apart := false }
def FnExactSentAwaySaid : Prop := fnExactSentAwayRow.holds Try.pinned (OpenSpec.ofChange fnExactSentAwaySpec)

/-- ITS FALSE NEIGHBOUR: 'it returns false'. Refute it at one input. -/
def fnExactSentAwayWrong : ChangeSpec := { name := "fnExactSentAway", fn := fun _ => fun
  | [d1, d2] => { results := [.lit (.bool false)], args := [d1, d2] }
  | _ => none }
def FnExactSentAwayWrongFalsely : Prop := fnExactSentAwayRow.holds Try.pinned (OpenSpec.ofChange fnExactSentAwayWrong)

/-- 'laws.FnExactUnstaged': WHATEVER THE INPUT: true; the input reads as it did. -/
def fnExactUnstagedSpec : ChangeSpec := { name := "fnExactUnstaged", fn := fun _ => fun
  | [d] => { results := [.lit (.bool true)], args := [d] }
  | _ => none }
def fnExactUnstagedRow : OpenClaim := { program := "ytlpimnkndeoanaa", sum := "e944a28d1d12242bdb8de6dacff82f66162ca2410f5c1127be1462137cab532c", func := "loop.example/g00973/laws.FnExactUnstaged", spec := "fnExactUnstaged", apart := false }
def FnExactUnstagedSaid : Prop := fnExactUnstagedRow.holds Try.pinned (OpenSpec.ofChange fnExactUnstagedSpec)

/-- ITS FALSE NEIGHBOUR: 'it returns false'. Refute it at one input. -/
def fnExactUnstagedWrong : ChangeSpec := { name := "fnExactUnstaged", fn := fun _ => fun
  | [d] => { results := [.lit (.bool false)], args := [d] }
  | _ => none }
def FnExactUnstagedWrongFalsely : Prop := fnExactUnstagedRow.holds Try.pinned (OpenSpec.ofChange fnExactUnstagedWrong)

/-- 'laws.FnExactReceived': WHATEVER THE INPUT: true; the input reads as it did. -/
def fnExactReceivedSpec : ChangeSpec := { name := "fnExactReceived", fn := fun _ => fun
  | [d1, d2] => { results := [.lit (.bool true)], args := [d1, d2] }
  | _ => none }
def fnExactReceivedRow : OpenClaim := { program := "ytlpimnkndeoanaa", sum := "e944a28d1d12242bdb8de6dacff82f66162ca2410f5c1127be1462137cab532c", func := "loop.example/g00973/laws.FnExactReceived", spec := "fnExactReceived", apart := false }
def FnExactReceivedSaid : Prop := fnExactReceivedRow.holds Try.pinned (OpenSpec.ofChange fnExactReceivedSpec)

/-- ITS FALSE NEIGHBOUR: 'it returns false'. Refute it at one input. -/
def fnExactReceivedWrong : ChangeSpec := { name := "fnExactReceived", fn := fun _ => fun
  | [d1, d2] => { results := [.lit (.bool false)], args := [d1, d2] }
  | _ => none }
def FnExactReceivedWrongFalsely : Prop := fnExactReceivedRow.holds Try.pinned (OpenSpec.ofChange fnExactReceivedWrong)

/-- 'laws.FnExactWorkerOk': WHATEVER THE INPUT: true; the input reads as it did. -/
def fnExactWorkerOkSpec : ChangeSpec := { name := "fnExactWorkerOk", fn := fun _ => fun
  | [d1, d2] => { results := [.lit (.bool true)], args := [d1, d2] }
  | _ => none }
def fnExactWorkerOkRow : OpenClaim := { program := "ytlpimnkndeoanaa", sum := "e944a28d1d12242bdb8de6dacff82f66162ca2410f5c1127be1462137cab532c", func := "loop.example/g00973/laws.FnExactWorkerOk", spec := "fnExactWorkerOk", unfollowed := true, recurses := true, apart := false }
def FnExactWorkerOkSaid : Prop := fnExactWorkerOkRow.holds Try.pinned (OpenSpec.ofChange fnExactWorkerOkSpec)

/-- ITS FALSE NEIGHBOUR: 'it returns false'. Refute it at one input. -/
def fnExactWorkerOkWrong : ChangeSpec := { name := "fnExactWorkerOk", fn := fun _ => fun
  | [d1, d2] => { results := [.lit (.bool false)], args := [d1, d2] }
  | _ => none }
def FnExactWorkerOkWrongFalsely : Prop := fnExactWorkerOkRow.holds Try.pinned (OpenSpec.ofChange fnExactWorkerOkWrong)

/- THE SECOND FORM. 'bulk': how many values and letters a reading holds, each counted each time it is reached (what is shared counts as often as it is met; a slice's spare places count too). A statement '..UptoSaid' is the law's where the arguments, and the package variables that the reading takes, are together of bulk at most 1048576: NARROWER than '..Said'. Prove '..Said' where nothing that the law and all that it calls make is longer than what came in: it says more and counts as full. Else prove '..UptoSaid'. A law counts once. -/
mutual
def uptoBulk {H : Type} : DataW H → Nat
  | .lit (.string bytes) => bytes.length + 1
  | .lit _ => 1
  | .nil => 1
  | .ptr d => uptoBulk d + 1
  | .slice elems spare => uptoBulkAll elems + uptoBulkAll spare + 1
  | .agg parts => uptoBulkAll parts + 1
  | .iface _ d => uptoBulk d + 1
  | .map entries => uptoBulkEntries entries + 1
  | .held _ => 1
def uptoBulkAll {H : Type} : List (DataW H) → Nat
  | [] => 0
  | d :: r => uptoBulk d + uptoBulkAll r
def uptoBulkEntries {H : Type} : List (Lit × DataW H) → Nat
  | [] => 0
  | x :: r => uptoBulkEntry x + uptoBulkEntries r
def uptoBulkEntry {H : Type} : Lit × DataW H → Nat
  | (.string bytes, d) => bytes.length + uptoBulk d + 1
  | (_, d) => uptoBulk d + 1
 end
def uptoSmall : (H : Type) → List (DataW H) → Bool := fun _ ds => decide (uptoBulkAll ds ≤ 1048576)
def OpenSpec.upto (s : _root_.Go.ChangeSpec) : _root_.Go.OpenSpec := { _root_.Go.OpenSpec.ofChange s with cond := some uptoSmall }

/-- 'laws.FnExactOutsOf', WHERE WHAT IT READS IS OF BULK AT MOST 1048576: true; the input reads as it did. -/
def fnExactOutsOfUptoRow : OpenClaim := { program := "ytlpimnkndeoanaa", sum := "e944a28d1d12242bdb8de6dacff82f66162ca2410f5c1127be1462137cab532c", func := "loop.example/g00973/laws.FnExactOutsOf", spec := "fnExactOutsOf", apart := false, narrowed := true }
def FnExactOutsOfUptoSaid : Prop := fnExactOutsOfUptoRow.holds Try.pinned (OpenSpec.upto fnExactOutsOfSpec)

/-- 'laws.FnExactNodeOf', WHERE WHAT IT READS IS OF BULK AT MOST 1048576: true; the input reads as it did. -/
def fnExactNodeOfUptoRow : OpenClaim := { program := "ytlpimnkndeoanaa", sum := "e944a28d1d12242bdb8de6dacff82f66162ca2410f5c1127be1462137cab532c", func := "loop.example/g00973/laws.FnExactNodeOf", spec := "fnExactNodeOf", apart := false, narrowed := true }
def FnExactNodeOfUptoSaid : Prop := fnExactNodeOfUptoRow.holds Try.pinned (OpenSpec.upto fnExactNodeOfSpec)

/-- 'laws.FnExactOutsOnly', WHERE WHAT IT READS IS OF BULK AT MOST 1048576: true; the input reads as it did. -/
def fnExactOutsOnlyUptoRow : OpenClaim := { program := "ytlpimnkndeoanaa", sum := "e944a28d1d12242bdb8de6dacff82f66162ca2410f5c1127be1462137cab532c", func := "loop.example/g00973/laws.FnExactOutsOnly", spec := "fnExactOutsOnly", apart := false, narrowed := true }
def FnExactOutsOnlyUptoSaid : Prop := fnExactOutsOnlyUptoRow.holds Try.pinned (OpenSpec.upto fnExactOutsOnlySpec)

/-- 'laws.FnExactReaches', WHERE WHAT IT READS IS OF BULK AT MOST 1048576: true; the input reads as it did. -/
def fnExactReachesUptoRow : OpenClaim := { program := "ytlpimnkndeoanaa", sum := "e944a28d1d12242bdb8de6dacff82f66162ca2410f5c1127be1462137cab532c", func := "loop.example/g00973/laws.FnExactReaches", spec := "fnExactReaches", apart := false, narrowed := true }
def FnExactReachesUptoSaid : Prop := fnExactReachesUptoRow.holds Try.pinned (OpenSpec.upto fnExactReachesSpec)

/-- 'laws.FnExactCapped', WHERE WHAT IT READS IS OF BULK AT MOST 1048576: true; the input reads as it did. -/
def fnExactCappedUptoRow : OpenClaim := { program := "ytlpimnkndeoanaa", sum := "e944a28d1d12242bdb8de6dacff82f66162ca2410f5c1127be1462137cab532c", func := "loop.example/g00973/laws.FnExactCapped", spec := "fnExactCapped", apart := false, narrowed := true }
def FnExactCappedUptoSaid : Prop := fnExactCappedUptoRow.holds Try.pinned (OpenSpec.upto fnExactCappedSpec)

/-- 'laws.FnExactHasLoop', WHERE WHAT IT READS IS OF BULK AT MOST 1048576: true; the input reads as it did. -/
def fnExactHasLoopUptoRow : OpenClaim := { program := "ytlpimnkndeoanaa", sum := "e944a28d1d12242bdb8de6dacff82f66162ca2410f5c1127be1462137cab532c", func := "loop.example/g00973/laws.FnExactHasLoop", spec := "fnExactHasLoop", apart := false, narrowed := true }
def FnExactHasLoopUptoSaid : Prop := fnExactHasLoopUptoRow.holds Try.pinned (OpenSpec.upto fnExactHasLoopSpec)

/-- 'laws.FnExactIdle', WHERE WHAT IT READS IS OF BULK AT MOST 1048576: true; the input reads as it did. -/
def fnExactIdleUptoRow : OpenClaim := { program := "ytlpimnkndeoanaa", sum := "e944a28d1d12242bdb8de6dacff82f66162ca2410f5c1127be1462137cab532c", func := "loop.example/g00973/laws.FnExactIdle", spec := "fnExactIdle", apart := false, narrowed := true }
def FnExactIdleUptoSaid : Prop := fnExactIdleUptoRow.holds Try.pinned (OpenSpec.upto fnExactIdleSpec)

/-- 'laws.FnExactPutCell', WHERE WHAT IT READS IS OF BULK AT MOST 1048576: true; the input reads as it did. -/
def fnExactPutCellUptoRow : OpenClaim := { program := "ytlpimnkndeoanaa", sum := "e944a28d1d12242bdb8de6dacff82f66162ca2410f5c1127be1462137cab532c", func := "loop.example/g00973/laws.FnExactPutCell", spec := "fnExactPutCell", inPlace := ["slices.overlaps[loop.example/g00973/impl.Cell]"], apart := false, narrowed := true }
def FnExactPutCellUptoSaid : Prop := fnExactPutCellUptoRow.holds Try.pinned (OpenSpec.upto fnExactPutCellSpec)

/-- 'laws.FnExactOpenAt', WHERE WHAT IT READS IS OF BULK AT MOST 1048576: true; the input reads as it did. -/
def fnExactOpenAtUptoRow : OpenClaim := { program := "ytlpimnkndeoanaa", sum := "e944a28d1d12242bdb8de6dacff82f66162ca2410f5c1127be1462137cab532c", func := "loop.example/g00973/laws.FnExactOpenAt", spec := "fnExactOpenAt", unfollowed := true, recurses := true, apart := false, narrowed := true }
def FnExactOpenAtUptoSaid : Prop := fnExactOpenAtUptoRow.holds Try.pinned (OpenSpec.upto fnExactOpenAtSpec)

/-- 'laws.FnExactIsDone', WHERE WHAT IT READS IS OF BULK AT MOST 1048576: true; the input reads as it did. -/
def fnExactIsDoneUptoRow : OpenClaim := { program := "ytlpimnkndeoanaa", sum := "e944a28d1d12242bdb8de6dacff82f66162ca2410f5c1127be1462137cab532c", func := "loop.example/g00973/laws.FnExactIsDone", spec := "fnExactIsDone", unfollowed := true, recurses := true, apart := false, narrowed := true }
def FnExactIsDoneUptoSaid : Prop := fnExactIsDoneUptoRow.holds Try.pinned (OpenSpec.upto fnExactIsDoneSpec)

/-- 'laws.FnExactWorkAt', WHERE WHAT IT READS IS OF BULK AT MOST 1048576: true; the input reads as it did. -/
def fnExactWorkAtUptoRow : OpenClaim := { program := "ytlpimnkndeoanaa", sum := "e944a28d1d12242bdb8de6dacff82f66162ca2410f5c1127be1462137cab532c", func := "loop.example/g00973/laws.FnExactWorkAt", spec := "fnExactWorkAt", apart := false, narrowed := true }
def FnExactWorkAtUptoSaid : Prop := fnExactWorkAtUptoRow.holds Try.pinned (OpenSpec.upto fnExactWorkAtSpec)

/-- 'laws.FnExactPassiveAt', WHERE WHAT IT READS IS OF BULK AT MOST 1048576: true; the input reads as it did. -/
def fnExactPassiveAtUptoRow : OpenClaim := { program := "ytlpimnkndeoanaa", sum := "e944a28d1d12242bdb8de6dacff82f66162ca2410f5c1127be1462137cab532c", func := "loop.example/g00973/laws.FnExactPassiveAt", spec := "fnExactPassiveAt", unfollowed := true, recurses := true, apart := false, narrowed := true }
def FnExactPassiveAtUptoSaid : Prop := fnExactPassiveAtUptoRow.holds Try.pinned (OpenSpec.upto fnExactPassiveAtSpec)

/-- 'laws.FnExactWorkerNew', WHERE WHAT IT READS IS OF BULK AT MOST 1048576: true; the input reads as it did. -/
def fnExactWorkerNewUptoRow : OpenClaim := { program := "ytlpimnkndeoanaa", sum := "e944a28d1d12242bdb8de6dacff82f66162ca2410f5c1127be1462137cab532c", func := "loop.example/g00973/laws.FnExactWorkerNew", spec := "fnExactWorkerNew", apart := false, narrowed := true }
def FnExactWorkerNewUptoSaid : Prop := fnExactWorkerNewUptoRow.holds Try.pinned (OpenSpec.upto fnExactWorkerNewSpec)

/-- 'laws.FnExactSameWorker', WHERE WHAT IT READS IS OF BULK AT MOST 1048576: true; the input reads as it did. -/
def fnExactSameWorkerUptoRow : OpenClaim := { program := "ytlpimnkndeoanaa", sum := "e944a28d1d12242bdb8de6dacff82f66162ca2410f5c1127be1462137cab532c", func := "loop.example/g00973/laws.FnExactSameWorker", spec := "fnExactSameWorker", apart := false, narrowed := true }
def FnExactSameWorkerUptoSaid : Prop := fnExactSameWorkerUptoRow.holds Try.pinned (OpenSpec.upto fnExactSameWorkerSpec)

/-- 'laws.FnExactRecall', WHERE WHAT IT READS IS OF BULK AT MOST 1048576: true; the input reads as it did. -/
def fnExactRecallUptoRow : OpenClaim := { program := "ytlpimnkndeoanaa", sum := "e944a28d1d12242bdb8de6dacff82f66162ca2410f5c1127be1462137cab532c", func := "loop.example/g00973/laws.FnExactRecall", spec := "fnExactRecall", inPlace := ["slices.overlaps[loop.example/g00973/impl.Cell]"], unfollowed := true, recurses := true, apart := false, narrowed := true }
def FnExactRecallUptoSaid : Prop := fnExactRecallUptoRow.holds Try.pinned (OpenSpec.upto fnExactRecallSpec)

/-- 'laws.FnGraphs', WHERE WHAT IT READS IS OF BULK AT MOST 1048576: true; the input reads as it did. -/
def fnGraphsUptoRow : OpenClaim := { program := "ytlpimnkndeoanaa", sum := "e944a28d1d12242bdb8de6dacff82f66162ca2410f5c1127be1462137cab532c", func := "loop.example/g00973/laws.FnGraphs", spec := "fnGraphs", unfollowed := true, recurses := true, apart := false, narrowed := true }
def FnGraphsUptoSaid : Prop := fnGraphsUptoRow.holds Try.pinned (OpenSpec.upto fnGraphsSpec)

/-- 'laws.FnMemory', WHERE WHAT IT READS IS OF BULK AT MOST 1048576: true; the input reads as it did. -/
def fnMemoryUptoRow : OpenClaim := { program := "ytlpimnkndeoanaa", sum := "e944a28d1d12242bdb8de6dacff82f66162ca2410f5c1127be1462137cab532c", func := "loop.example/g00973/laws.FnMemory", spec := "fnMemory", inPlace := ["slices.overlaps[loop.example/g00973/impl.Cell]"], unfollowed := true, recurses := true, apart := false, narrowed := true }
def FnMemoryUptoSaid : Prop := fnMemoryUptoRow.holds Try.pinned (OpenSpec.upto fnMemorySpec)

/-- 'laws.FnExactKept', WHERE WHAT IT READS IS OF BULK AT MOST 1048576: true; the input reads as it did. -/
def fnExactKeptUptoRow : OpenClaim := { program := "ytlpimnkndeoanaa", sum := "e944a28d1d12242bdb8de6dacff82f66162ca2410f5c1127be1462137cab532c", func := "loop.example/g00973/laws.FnExactKept", spec := "fnExactKept", apart := false, narrowed := true }
def FnExactKeptUptoSaid : Prop := fnExactKeptUptoRow.holds Try.pinned (OpenSpec.upto fnExactKeptSpec)

/-- 'laws.FnExactSentAway', WHERE WHAT IT READS IS OF BULK AT MOST 1048576: true; the input reads as it did. -/
def fnExactSentAwayUptoRow : OpenClaim := { program := "ytlpimnkndeoanaa", sum := "e944a28d1d12242bdb8de6dacff82f66162ca2410f5c1127be1462137cab532c", func := "loop.example/g00973/laws.FnExactSentAway", spec := "fnExactSentAway", apart := false, narrowed := true }
def FnExactSentAwayUptoSaid : Prop := fnExactSentAwayUptoRow.holds Try.pinned (OpenSpec.upto fnExactSentAwaySpec)

/-- 'laws.FnExactUnstaged', WHERE WHAT IT READS IS OF BULK AT MOST 1048576: true; the input reads as it did. -/
def fnExactUnstagedUptoRow : OpenClaim := { program := "ytlpimnkndeoanaa", sum := "e944a28d1d12242bdb8de6dacff82f66162ca2410f5c1127be1462137cab532c", func := "loop.example/g00973/laws.FnExactUnstaged", spec := "fnExactUnstaged", apart := false, narrowed := true }
def FnExactUnstagedUptoSaid : Prop := fnExactUnstagedUptoRow.holds Try.pinned (OpenSpec.upto fnExactUnstagedSpec)

/-- 'laws.FnExactReceived', WHERE WHAT IT READS IS OF BULK AT MOST 1048576: true; the input reads as it did. -/
def fnExactReceivedUptoRow : OpenClaim := { program := "ytlpimnkndeoanaa", sum := "e944a28d1d12242bdb8de6dacff82f66162ca2410f5c1127be1462137cab532c", func := "loop.example/g00973/laws.FnExactReceived", spec := "fnExactReceived", apart := false, narrowed := true }
def FnExactReceivedUptoSaid : Prop := fnExactReceivedUptoRow.holds Try.pinned (OpenSpec.upto fnExactReceivedSpec)

/-- 'laws.FnExactWorkerOk', WHERE WHAT IT READS IS OF BULK AT MOST 1048576: true; the input reads as it did. -/
def fnExactWorkerOkUptoRow : OpenClaim := { program := "ytlpimnkndeoanaa", sum := "e944a28d1d12242bdb8de6dacff82f66162ca2410f5c1127be1462137cab532c", func := "loop.example/g00973/laws.FnExactWorkerOk", spec := "fnExactWorkerOk", unfollowed := true, recurses := true, apart := false, narrowed := true }
def FnExactWorkerOkUptoSaid : Prop := fnExactWorkerOkUptoRow.holds Try.pinned (OpenSpec.upto fnExactWorkerOkSpec)

end Rows
end Go.Proofs.Ytlpimnkndeoanaa
