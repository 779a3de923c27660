/- What a reading of an argument tells of its cells, a theorem a type; no condition. -/
import Derived.Test.YtcpjlfikdobckaaGreatTypes
import Derived.ProofKit
namespace Go.Proofs.YtcpjlfikdobckaaGreat
open Go Go.Proofs.YtcpjlfikdobckaaGreat.X Go.Proofs
theorem ownk : ownKnob Tryz.prog.godebug = none := by kernel_rfl
theorem laidOut : laidOutB Tryz.prog = true := by kernel_rfl
theorem dec5 : Dec Tryz.prog 5 (fun _ cs (x : Byt) => cs = Enc.enc x ∧ True) := Dec_byt Tryz.underlying5
theorem cof5 : Tryz.prog.cellsOf 5 = 1 := by kernel_rfl
theorem dec22 : Dec Tryz.prog 22 (fun w cs (x : List Byt) => (∃ v, cs = [v] ∧ RdL w 1 (fun cs (x : Byt) => cs = Enc.enc x) v x) ∧ ∀ y ∈ x, True) := Dec_sliceO Tryz.underlying22 cof5 (by decide) dec5
end Go.Proofs.YtcpjlfikdobckaaGreat
