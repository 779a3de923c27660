/- What is known of the types of the translated program; no condition. -/
import Derived.Test.YthjhhajipcdfbaaModel
import Derived.Test.YthjhhajipcdfbaaProg
namespace Go.Proofs.Ythjhhajipcdfbaa
open Go Go.Proofs.Ythjhhajipcdfbaa.X Go.Proofs
theorem mixed : Try.prog.follows .mixedOrders = true := by kernel_rfl
theorem st46 : StT Try.prog 46 3 [.slice none 0 0, .int .i64 0, .int .i64 0] := ⟨fun _ => by kernel_rfl, fun _ => by kernel_rfl, fun _ => by kernel_rfl⟩
theorem st51 : StT Try.prog 51 3 [.slice none 0 0, .int .i64 0, .int .i64 0] := ⟨fun _ => by kernel_rfl, fun _ => by kernel_rfl, fun _ => by kernel_rfl⟩
theorem st63 : StT Try.prog 63 4 [.int .i64 0, .int .i64 0, .int .i64 0, .slice none 0 0] := ⟨fun _ => by kernel_rfl, fun _ => by kernel_rfl, fun _ => by kernel_rfl⟩
theorem st86 : StT Try.prog 86 4 [.int .i64 0, .int .i64 0, .int .i64 0, .slice none 0 0] := ⟨fun _ => by kernel_rfl, fun _ => by kernel_rfl, fun _ => by kernel_rfl⟩
theorem sc3 : ScT Try.prog 3 (.int .i64 0) := ⟨fun _ => by kernel_rfl, fun _ => by kernel_rfl, fun _ => by kernel_rfl, rfl⟩
theorem sc44 : ScT Try.prog 44 (.slice none 0 0) := ⟨fun _ => by kernel_rfl, fun _ => by kernel_rfl, fun _ => by kernel_rfl, rfl⟩
theorem sc49 : ScT Try.prog 49 (.slice none 0 0) := ⟨fun _ => by kernel_rfl, fun _ => by kernel_rfl, fun _ => by kernel_rfl, rfl⟩
theorem sc55 : ScT Try.prog 55 (.slice none 0 0) := ⟨fun _ => by kernel_rfl, fun _ => by kernel_rfl, fun _ => by kernel_rfl, rfl⟩
theorem sl44 : SlT Try.prog 44 86 4 48 [.int .i64 0, .int .i64 0, .int .i64 0, .slice none 0 0] := ⟨Try.underlying44, ⟨Try.t86, _, Try.type86, rfl, rfl, rfl, rfl⟩, by decide, rfl⟩
theorem sl49 : SlT Try.prog 49 63 4 48 [.int .i64 0, .int .i64 0, .int .i64 0, .slice none 0 0] := ⟨Try.underlying49, ⟨Try.t63, _, Try.type63, rfl, rfl, rfl, rfl⟩, by decide, rfl⟩
theorem sl55 : SlT Try.prog 55 3 1 8 [.int .i64 0] := ⟨Try.underlying55, ⟨Try.t3, _, Try.type3, rfl, rfl, rfl, rfl⟩, by decide, rfl⟩
theorem fl46_0 : FldT Try.prog 46 0 0 := fun b o w => by simp [go_sem]
theorem fl46_1 : FldT Try.prog 46 1 1 := fun b o w => by simp [go_sem]
theorem fl46_2 : FldT Try.prog 46 2 2 := fun b o w => by simp [go_sem]
theorem fl51_0 : FldT Try.prog 51 0 0 := fun b o w => by simp [go_sem]
theorem fl51_1 : FldT Try.prog 51 1 1 := fun b o w => by simp [go_sem]
theorem fl51_2 : FldT Try.prog 51 2 2 := fun b o w => by simp [go_sem]
theorem fl63_0 : FldT Try.prog 63 0 0 := fun b o w => by simp [go_sem]
theorem fl63_1 : FldT Try.prog 63 1 1 := fun b o w => by simp [go_sem]
theorem fl63_2 : FldT Try.prog 63 2 2 := fun b o w => by simp [go_sem]
theorem fl63_3 : FldT Try.prog 63 3 3 := fun b o w => by simp [go_sem]
theorem fl86_0 : FldT Try.prog 86 0 0 := fun b o w => by simp [go_sem]
theorem fl86_1 : FldT Try.prog 86 1 1 := fun b o w => by simp [go_sem]
theorem fl86_2 : FldT Try.prog 86 2 2 := fun b o w => by simp [go_sem]
theorem fl86_3 : FldT Try.prog 86 3 3 := fun b o w => by simp [go_sem]
end Go.Proofs.Ythjhhajipcdfbaa
