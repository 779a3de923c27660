/- What is known of the types of the translated program; no condition. -/
import Derived.Test.YtgoknbbdihbnlaaModel
import Derived.Test.YtgoknbbdihbnlaaProg
namespace Go.Proofs.Ytgoknbbdihbnlaa
open Go Go.Proofs.Ytgoknbbdihbnlaa.X Go.Proofs
theorem mixed : Try.prog.follows .mixedOrders = true := by kernel_rfl
theorem st30 : StT Try.prog 30 8 [.slice none 0 0, .slice none 0 0, .slice none 0 0, .slice none 0 0, .slice none 0 0, .slice none 0 0, .slice none 0 0, .slice none 0 0] := ⟨fun _ => by kernel_rfl, fun _ => by kernel_rfl, fun _ => by kernel_rfl⟩
theorem st41 : StT Try.prog 41 8 [.slice none 0 0, .slice none 0 0, .slice none 0 0, .slice none 0 0, .slice none 0 0, .slice none 0 0, .slice none 0 0, .slice none 0 0] := ⟨fun _ => by kernel_rfl, fun _ => by kernel_rfl, fun _ => by kernel_rfl⟩
theorem st43 : StT Try.prog 43 2 [.int .i64 0, .int .i64 0] := ⟨fun _ => by kernel_rfl, fun _ => by kernel_rfl, fun _ => by kernel_rfl⟩
theorem st45 : StT Try.prog 45 5 [.int .i64 0, .int .i64 0, .int .i64 0, .int .i64 0, .int .i64 0] := ⟨fun _ => by kernel_rfl, fun _ => by kernel_rfl, fun _ => by kernel_rfl⟩
theorem st49 : StT Try.prog 49 2 [.int .i64 0, .int .i64 0] := ⟨fun _ => by kernel_rfl, fun _ => by kernel_rfl, fun _ => by kernel_rfl⟩
theorem st51 : StT Try.prog 51 5 [.int .i64 0, .int .i64 0, .int .i64 0, .int .i64 0, .int .i64 0] := ⟨fun _ => by kernel_rfl, fun _ => by kernel_rfl, fun _ => by kernel_rfl⟩
theorem st81 : StT Try.prog 81 4 [.int .i64 0, .int .i64 0, .int .i64 0, .int .i64 0] := ⟨fun _ => by kernel_rfl, fun _ => by kernel_rfl, fun _ => by kernel_rfl⟩
theorem st84 : StT Try.prog 84 2 [.int .i64 0, .bool false] := ⟨fun _ => by kernel_rfl, fun _ => by kernel_rfl, fun _ => by kernel_rfl⟩
theorem st86 : StT Try.prog 86 4 [.int .i64 0, .int .i64 0, .int .i64 0, .int .i64 0] := ⟨fun _ => by kernel_rfl, fun _ => by kernel_rfl, fun _ => by kernel_rfl⟩
theorem st88 : StT Try.prog 88 2 [.int .i64 0, .bool false] := ⟨fun _ => by kernel_rfl, fun _ => by kernel_rfl, fun _ => by kernel_rfl⟩
theorem sc3 : ScT Try.prog 3 (.int .i64 0) := ⟨fun _ => by kernel_rfl, fun _ => by kernel_rfl, fun _ => by kernel_rfl, rfl⟩
theorem sc4 : ScT Try.prog 4 (.bool false) := ⟨fun _ => by kernel_rfl, fun _ => by kernel_rfl, fun _ => by kernel_rfl, rfl⟩
theorem sc22 : ScT Try.prog 22 (.slice none 0 0) := ⟨fun _ => by kernel_rfl, fun _ => by kernel_rfl, fun _ => by kernel_rfl, rfl⟩
theorem sc24 : ScT Try.prog 24 (.slice none 0 0) := ⟨fun _ => by kernel_rfl, fun _ => by kernel_rfl, fun _ => by kernel_rfl, rfl⟩
theorem sc25 : ScT Try.prog 25 (.slice none 0 0) := ⟨fun _ => by kernel_rfl, fun _ => by kernel_rfl, fun _ => by kernel_rfl, rfl⟩
theorem sc26 : ScT Try.prog 26 (.slice none 0 0) := ⟨fun _ => by kernel_rfl, fun _ => by kernel_rfl, fun _ => by kernel_rfl, rfl⟩
theorem sc27 : ScT Try.prog 27 (.slice none 0 0) := ⟨fun _ => by kernel_rfl, fun _ => by kernel_rfl, fun _ => by kernel_rfl, rfl⟩
theorem sc28 : ScT Try.prog 28 (.slice none 0 0) := ⟨fun _ => by kernel_rfl, fun _ => by kernel_rfl, fun _ => by kernel_rfl, rfl⟩
theorem sc38 : ScT Try.prog 38 (.slice none 0 0) := ⟨fun _ => by kernel_rfl, fun _ => by kernel_rfl, fun _ => by kernel_rfl, rfl⟩
theorem sc39 : ScT Try.prog 39 (.slice none 0 0) := ⟨fun _ => by kernel_rfl, fun _ => by kernel_rfl, fun _ => by kernel_rfl, rfl⟩
set_option maxRecDepth 20000 in
theorem sl22 : SlT Try.prog 22 45 5 40 [.int .i64 0, .int .i64 0, .int .i64 0, .int .i64 0, .int .i64 0] := ⟨Try.underlying22, ⟨Try.t45, _, Try.type45, rfl, rfl, rfl, rfl⟩, by decide, rfl⟩
set_option maxRecDepth 20000 in
theorem sl24 : SlT Try.prog 24 51 5 40 [.int .i64 0, .int .i64 0, .int .i64 0, .int .i64 0, .int .i64 0] := ⟨Try.underlying24, ⟨Try.t51, _, Try.type51, rfl, rfl, rfl, rfl⟩, by decide, rfl⟩
set_option maxRecDepth 20000 in
theorem sl25 : SlT Try.prog 25 81 4 32 [.int .i64 0, .int .i64 0, .int .i64 0, .int .i64 0] := ⟨Try.underlying25, ⟨Try.t81, _, Try.type81, rfl, rfl, rfl, rfl⟩, by decide, rfl⟩
set_option maxRecDepth 20000 in
theorem sl26 : SlT Try.prog 26 3 1 8 [.int .i64 0] := ⟨Try.underlying26, ⟨Try.t3, _, Try.type3, rfl, rfl, rfl, rfl⟩, by decide, rfl⟩
set_option maxRecDepth 20000 in
theorem sl27 : SlT Try.prog 27 4 1 1 [.bool false] := ⟨Try.underlying27, ⟨Try.t4, _, Try.type4, rfl, rfl, rfl, rfl⟩, by decide, rfl⟩
set_option maxRecDepth 20000 in
theorem sl28 : SlT Try.prog 28 84 2 16 [.int .i64 0, .bool false] := ⟨Try.underlying28, ⟨Try.t84, _, Try.type84, rfl, rfl, rfl, rfl⟩, by decide, rfl⟩
set_option maxRecDepth 20000 in
theorem sl38 : SlT Try.prog 38 86 4 32 [.int .i64 0, .int .i64 0, .int .i64 0, .int .i64 0] := ⟨Try.underlying38, ⟨Try.t86, _, Try.type86, rfl, rfl, rfl, rfl⟩, by decide, rfl⟩
set_option maxRecDepth 20000 in
theorem sl39 : SlT Try.prog 39 88 2 16 [.int .i64 0, .bool false] := ⟨Try.underlying39, ⟨Try.t88, _, Try.type88, rfl, rfl, rfl, rfl⟩, by decide, rfl⟩
theorem fl30_0 : FldT Try.prog 30 0 0 := fun b o w => by simp [go_sem]
theorem fl30_1 : FldT Try.prog 30 1 1 := fun b o w => by simp [go_sem]
theorem fl30_2 : FldT Try.prog 30 2 2 := fun b o w => by simp [go_sem]
theorem fl30_3 : FldT Try.prog 30 3 3 := fun b o w => by simp [go_sem]
theorem fl30_4 : FldT Try.prog 30 4 4 := fun b o w => by simp [go_sem]
theorem fl30_5 : FldT Try.prog 30 5 5 := fun b o w => by simp [go_sem]
theorem fl30_6 : FldT Try.prog 30 6 6 := fun b o w => by simp [go_sem]
theorem fl30_7 : FldT Try.prog 30 7 7 := fun b o w => by simp [go_sem]
theorem fl41_0 : FldT Try.prog 41 0 0 := fun b o w => by simp [go_sem]
theorem fl41_1 : FldT Try.prog 41 1 1 := fun b o w => by simp [go_sem]
theorem fl41_2 : FldT Try.prog 41 2 2 := fun b o w => by simp [go_sem]
theorem fl41_3 : FldT Try.prog 41 3 3 := fun b o w => by simp [go_sem]
theorem fl41_4 : FldT Try.prog 41 4 4 := fun b o w => by simp [go_sem]
theorem fl41_5 : FldT Try.prog 41 5 5 := fun b o w => by simp [go_sem]
theorem fl41_6 : FldT Try.prog 41 6 6 := fun b o w => by simp [go_sem]
theorem fl41_7 : FldT Try.prog 41 7 7 := fun b o w => by simp [go_sem]
theorem fl43_0 : FldT Try.prog 43 0 0 := fun b o w => by simp [go_sem]
theorem fl43_1 : FldT Try.prog 43 1 1 := fun b o w => by simp [go_sem]
theorem fl45_0 : FldT Try.prog 45 0 0 := fun b o w => by simp [go_sem]
theorem fl45_1 : FldT Try.prog 45 1 1 := fun b o w => by simp [go_sem]
theorem fl45_2 : FldT Try.prog 45 2 3 := fun b o w => by simp [go_sem]
theorem fl45_3 : FldT Try.prog 45 3 4 := fun b o w => by simp [go_sem]
theorem fl49_0 : FldT Try.prog 49 0 0 := fun b o w => by simp [go_sem]
theorem fl49_1 : FldT Try.prog 49 1 1 := fun b o w => by simp [go_sem]
theorem fl51_0 : FldT Try.prog 51 0 0 := fun b o w => by simp [go_sem]
theorem fl51_1 : FldT Try.prog 51 1 1 := fun b o w => by simp [go_sem]
theorem fl51_2 : FldT Try.prog 51 2 3 := fun b o w => by simp [go_sem]
theorem fl51_3 : FldT Try.prog 51 3 4 := fun b o w => by simp [go_sem]
theorem fl81_0 : FldT Try.prog 81 0 0 := fun b o w => by simp [go_sem]
theorem fl81_1 : FldT Try.prog 81 1 1 := fun b o w => by simp [go_sem]
theorem fl81_2 : FldT Try.prog 81 2 2 := fun b o w => by simp [go_sem]
theorem fl81_3 : FldT Try.prog 81 3 3 := fun b o w => by simp [go_sem]
theorem fl84_0 : FldT Try.prog 84 0 0 := fun b o w => by simp [go_sem]
theorem fl84_1 : FldT Try.prog 84 1 1 := fun b o w => by simp [go_sem]
theorem fl86_0 : FldT Try.prog 86 0 0 := fun b o w => by simp [go_sem]
theorem fl86_1 : FldT Try.prog 86 1 1 := fun b o w => by simp [go_sem]
theorem fl86_2 : FldT Try.prog 86 2 2 := fun b o w => by simp [go_sem]
theorem fl86_3 : FldT Try.prog 86 3 3 := fun b o w => by simp [go_sem]
theorem fl88_0 : FldT Try.prog 88 0 0 := fun b o w => by simp [go_sem]
theorem fl88_1 : FldT Try.prog 88 1 1 := fun b o w => by simp [go_sem]
end Go.Proofs.Ytgoknbbdihbnlaa
