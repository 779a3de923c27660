/- What a reading of an argument tells of its cells, a theorem a type; no condition. -/
import Derived.Test.YteljajfcppmeiaaTypes
import Derived.ProofKit
namespace Go.Proofs.Yteljajfcppmeiaa
open Go Go.Proofs.Yteljajfcppmeiaa.X Go.Proofs
theorem ownk : ownKnob Try.prog.godebug = none := by kernel_rfl
theorem laidOut : laidOutB Try.prog = true := by kernel_rfl
theorem dec5 : Dec Try.prog 5 (fun _ cs (x : Byt) => cs = Enc.enc x ∧ True) := Dec_byt Try.underlying5
theorem cof5 : Try.prog.cellsOf 5 = 1 := by kernel_rfl
theorem dec22 : Dec Try.prog 22 (fun w cs (x : List Byt) => (∃ v, cs = [v] ∧ RdL w 1 (fun cs (x : Byt) => cs = Enc.enc x) v x) ∧ ∀ y ∈ x, True) := Dec_sliceO Try.underlying22 cof5 (by decide) dec5
end Go.Proofs.Yteljajfcppmeiaa
