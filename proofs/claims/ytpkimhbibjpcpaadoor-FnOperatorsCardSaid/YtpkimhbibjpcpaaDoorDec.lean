/- What a reading of an argument tells of its cells, a theorem a type; no condition. -/
import Derived.Test.YtpkimhbibjpcpaaDoorTypes
import Derived.ProofKit
namespace Go.Proofs.YtpkimhbibjpcpaaDoor
open Go Go.Proofs.YtpkimhbibjpcpaaDoor.X Go.Proofs
theorem ownk : ownKnob Tryd.prog.godebug = none := by kernel_rfl
theorem laidOut : laidOutB Tryd.prog = true := by kernel_rfl
theorem dec5 : Dec Tryd.prog 5 (fun _ cs (x : Byt) => cs = Enc.enc x ∧ True) := Dec_byt Tryd.underlying5
theorem cof5 : Tryd.prog.cellsOf 5 = 1 := by kernel_rfl
theorem dec22 : Dec Tryd.prog 22 (fun w cs (x : List Byt) => (∃ v, cs = [v] ∧ RdL w 1 (fun cs (x : Byt) => cs = Enc.enc x) v x) ∧ ∀ y ∈ x, True) := Dec_sliceO Tryd.underlying22 cof5 (by decide) dec5
end Go.Proofs.YtpkimhbibjpcpaaDoor
