/- What is known of the types of the translated program; no condition. -/
import Derived.Test.YthjhhajipcdfbaaModel
import Derived.Test.YthjhhajipcdfbaaProg
namespace Go.Proofs.Ythjhhajipcdfbaa
open Go Go.Proofs.Ythjhhajipcdfbaa.X Go.Proofs
theorem mixed : Try.prog.follows .mixedOrders = true := by kernel_rfl
theorem st23 : StT Try.prog 23 4 [.int .i64 0, .int .i64 0, .int .i64 0, .int .i64 0] := ⟨fun _ => by kernel_rfl, fun _ => by kernel_rfl, fun _ => by kernel_rfl⟩
theorem st25 : StT Try.prog 25 4 [.int .i64 0, .int .i64 0, .int .i64 0, .int .i64 0] := ⟨fun _ => by kernel_rfl, fun _ => by kernel_rfl, fun _ => by kernel_rfl⟩
theorem sc3 : ScT Try.prog 3 (.int .i64 0) := ⟨fun _ => by kernel_rfl, fun _ => by kernel_rfl, fun _ => by kernel_rfl, rfl⟩
theorem sl28 : SlT Try.prog 28 23 4 32 [.int .i64 0, .int .i64 0, .int .i64 0, .int .i64 0] := ⟨Try.underlying28, ⟨Try.t23, _, Try.type23, rfl, rfl, rfl, rfl⟩, by decide, rfl⟩
theorem sl31 : SlT Try.prog 31 25 4 32 [.int .i64 0, .int .i64 0, .int .i64 0, .int .i64 0] := ⟨Try.underlying31, ⟨Try.t25, _, Try.type25, rfl, rfl, rfl, rfl⟩, by decide, rfl⟩
theorem fl23_0 : FldT Try.prog 23 0 0 := fun b o w => by simp [go_sem]
theorem fl23_1 : FldT Try.prog 23 1 1 := fun b o w => by simp [go_sem]
theorem fl23_2 : FldT Try.prog 23 2 2 := fun b o w => by simp [go_sem]
theorem fl23_3 : FldT Try.prog 23 3 3 := fun b o w => by simp [go_sem]
theorem fl25_0 : FldT Try.prog 25 0 0 := fun b o w => by simp [go_sem]
theorem fl25_1 : FldT Try.prog 25 1 1 := fun b o w => by simp [go_sem]
theorem fl25_2 : FldT Try.prog 25 2 2 := fun b o w => by simp [go_sem]
theorem fl25_3 : FldT Try.prog 25 3 3 := fun b o w => by simp [go_sem]
end Go.Proofs.Ythjhhajipcdfbaa
