/- What is known of the types of the translated program; no condition. -/
import Derived.Test.YtjhghibmkocdhaaModel
import Derived.Test.YtjhghibmkocdhaaProg
namespace Go.Proofs.Ytjhghibmkocdhaa
open Go Go.Proofs.Ytjhghibmkocdhaa.X Go.Proofs
theorem mixed : Try.prog.follows .mixedOrders = true := by kernel_rfl
theorem st24 : StT Try.prog 24 3 [.slice none 0 0, .int .i64 0, .int .i64 0] := ⟨fun _ => by kernel_rfl, fun _ => by kernel_rfl, fun _ => by kernel_rfl⟩
theorem st29 : StT Try.prog 29 3 [.slice none 0 0, .int .i64 0, .int .i64 0] := ⟨fun _ => by kernel_rfl, fun _ => by kernel_rfl, fun _ => by kernel_rfl⟩
theorem st51 : StT Try.prog 51 4 [.int .i64 0, .int .i64 0, .int .i64 0, .slice none 0 0] := ⟨fun _ => by kernel_rfl, fun _ => by kernel_rfl, fun _ => by kernel_rfl⟩
theorem st79 : StT Try.prog 79 4 [.int .i64 0, .int .i64 0, .int .i64 0, .int .i64 0] := ⟨fun _ => by kernel_rfl, fun _ => by kernel_rfl, fun _ => by kernel_rfl⟩
theorem st81 : StT Try.prog 81 4 [.int .i64 0, .int .i64 0, .int .i64 0, .int .i64 0] := ⟨fun _ => by kernel_rfl, fun _ => by kernel_rfl, fun _ => by kernel_rfl⟩
theorem st84 : StT Try.prog 84 4 [.int .i64 0, .int .i64 0, .int .i64 0, .slice none 0 0] := ⟨fun _ => by kernel_rfl, fun _ => by kernel_rfl, fun _ => by kernel_rfl⟩
theorem sc3 : ScT Try.prog 3 (.int .i64 0) := ⟨fun _ => by kernel_rfl, fun _ => by kernel_rfl, fun _ => by kernel_rfl, rfl⟩
theorem sc22 : ScT Try.prog 22 (.slice none 0 0) := ⟨fun _ => by kernel_rfl, fun _ => by kernel_rfl, fun _ => by kernel_rfl, rfl⟩
theorem sc27 : ScT Try.prog 27 (.slice none 0 0) := ⟨fun _ => by kernel_rfl, fun _ => by kernel_rfl, fun _ => by kernel_rfl, rfl⟩
theorem sc45 : ScT Try.prog 45 (.slice none 0 0) := ⟨fun _ => by kernel_rfl, fun _ => by kernel_rfl, fun _ => by kernel_rfl, rfl⟩
set_option maxRecDepth 20000 in
theorem sl22 : SlT Try.prog 22 84 4 48 [.int .i64 0, .int .i64 0, .int .i64 0, .slice none 0 0] := ⟨Try.underlying22, ⟨Try.t84, _, Try.type84, rfl, rfl, rfl, rfl⟩, by decide, rfl⟩
set_option maxRecDepth 20000 in
theorem sl27 : SlT Try.prog 27 51 4 48 [.int .i64 0, .int .i64 0, .int .i64 0, .slice none 0 0] := ⟨Try.underlying27, ⟨Try.t51, _, Try.type51, rfl, rfl, rfl, rfl⟩, by decide, rfl⟩
set_option maxRecDepth 20000 in
theorem sl45 : SlT Try.prog 45 3 1 8 [.int .i64 0] := ⟨Try.underlying45, ⟨Try.t3, _, Try.type3, rfl, rfl, rfl, rfl⟩, by decide, rfl⟩
set_option maxRecDepth 20000 in
theorem sl57 : SlT Try.prog 57 81 4 32 [.int .i64 0, .int .i64 0, .int .i64 0, .int .i64 0] := ⟨Try.underlying57, ⟨Try.t81, _, Try.type81, rfl, rfl, rfl, rfl⟩, by decide, rfl⟩
set_option maxRecDepth 20000 in
theorem sl59 : SlT Try.prog 59 79 4 32 [.int .i64 0, .int .i64 0, .int .i64 0, .int .i64 0] := ⟨Try.underlying59, ⟨Try.t79, _, Try.type79, rfl, rfl, rfl, rfl⟩, by decide, rfl⟩
theorem fl24_0 : FldT Try.prog 24 0 0 := fun b o w => by simp [go_sem]
theorem fl24_1 : FldT Try.prog 24 1 1 := fun b o w => by simp [go_sem]
theorem fl24_2 : FldT Try.prog 24 2 2 := fun b o w => by simp [go_sem]
theorem fl29_0 : FldT Try.prog 29 0 0 := fun b o w => by simp [go_sem]
theorem fl29_1 : FldT Try.prog 29 1 1 := fun b o w => by simp [go_sem]
theorem fl29_2 : FldT Try.prog 29 2 2 := fun b o w => by simp [go_sem]
theorem fl51_0 : FldT Try.prog 51 0 0 := fun b o w => by simp [go_sem]
theorem fl51_1 : FldT Try.prog 51 1 1 := fun b o w => by simp [go_sem]
theorem fl51_2 : FldT Try.prog 51 2 2 := fun b o w => by simp [go_sem]
theorem fl51_3 : FldT Try.prog 51 3 3 := fun b o w => by simp [go_sem]
theorem fl79_0 : FldT Try.prog 79 0 0 := fun b o w => by simp [go_sem]
theorem fl79_1 : FldT Try.prog 79 1 1 := fun b o w => by simp [go_sem]
theorem fl79_2 : FldT Try.prog 79 2 2 := fun b o w => by simp [go_sem]
theorem fl79_3 : FldT Try.prog 79 3 3 := fun b o w => by simp [go_sem]
theorem fl81_0 : FldT Try.prog 81 0 0 := fun b o w => by simp [go_sem]
theorem fl81_1 : FldT Try.prog 81 1 1 := fun b o w => by simp [go_sem]
theorem fl81_2 : FldT Try.prog 81 2 2 := fun b o w => by simp [go_sem]
theorem fl81_3 : FldT Try.prog 81 3 3 := fun b o w => by simp [go_sem]
theorem fl84_0 : FldT Try.prog 84 0 0 := fun b o w => by simp [go_sem]
theorem fl84_1 : FldT Try.prog 84 1 1 := fun b o w => by simp [go_sem]
theorem fl84_2 : FldT Try.prog 84 2 2 := fun b o w => by simp [go_sem]
theorem fl84_3 : FldT Try.prog 84 3 3 := fun b o w => by simp [go_sem]
end Go.Proofs.Ytjhghibmkocdhaa
