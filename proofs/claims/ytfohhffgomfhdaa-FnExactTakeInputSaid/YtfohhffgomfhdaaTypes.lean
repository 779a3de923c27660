/- What is known of the types of the translated program; no condition. -/
import Derived.Test.YtfohhffgomfhdaaModel
import Derived.Test.YtfohhffgomfhdaaProg
namespace Go.Proofs.Ytfohhffgomfhdaa
open Go Go.Proofs.Ytfohhffgomfhdaa.X Go.Proofs
theorem mixed : Try.prog.follows .mixedOrders = true := by kernel_rfl
theorem st24 : StT Try.prog 24 3 [.slice none 0 0, .int .i64 0, .int .i64 0] := ⟨fun _ => by kernel_rfl, fun _ => by kernel_rfl, fun _ => by kernel_rfl⟩
theorem st27 : StT Try.prog 27 2 [.int .i64 0, .int .i64 0] := ⟨fun _ => by kernel_rfl, fun _ => by kernel_rfl, fun _ => by kernel_rfl⟩
theorem st29 : StT Try.prog 29 5 [.int .i64 0, .int .i64 0, .int .i64 0, .int .i64 0, .int .i64 0] := ⟨fun _ => by kernel_rfl, fun _ => by kernel_rfl, fun _ => by kernel_rfl⟩
theorem st38 : StT Try.prog 38 3 [.slice none 0 0, .int .i64 0, .int .i64 0] := ⟨fun _ => by kernel_rfl, fun _ => by kernel_rfl, fun _ => by kernel_rfl⟩
theorem st41 : StT Try.prog 41 2 [.int .i64 0, .int .i64 0] := ⟨fun _ => by kernel_rfl, fun _ => by kernel_rfl, fun _ => by kernel_rfl⟩
theorem st43 : StT Try.prog 43 5 [.int .i64 0, .int .i64 0, .int .i64 0, .int .i64 0, .int .i64 0] := ⟨fun _ => by kernel_rfl, fun _ => by kernel_rfl, fun _ => by kernel_rfl⟩
theorem st57 : StT Try.prog 57 8 [.slice none 0 0, .slice none 0 0, .slice none 0 0, .slice none 0 0, .slice none 0 0, .slice none 0 0, .slice none 0 0, .slice none 0 0] := ⟨fun _ => by kernel_rfl, fun _ => by kernel_rfl, fun _ => by kernel_rfl⟩
theorem st61 : StT Try.prog 61 8 [.slice none 0 0, .slice none 0 0, .slice none 0 0, .slice none 0 0, .slice none 0 0, .slice none 0 0, .slice none 0 0, .slice none 0 0] := ⟨fun _ => by kernel_rfl, fun _ => by kernel_rfl, fun _ => by kernel_rfl⟩
theorem st70 : StT Try.prog 70 4 [.int .i64 0, .int .i64 0, .int .i64 0, .slice none 0 0] := ⟨fun _ => by kernel_rfl, fun _ => by kernel_rfl, fun _ => by kernel_rfl⟩
theorem st81 : StT Try.prog 81 4 [.int .i64 0, .int .i64 0, .int .i64 0, .int .i64 0] := ⟨fun _ => by kernel_rfl, fun _ => by kernel_rfl, fun _ => by kernel_rfl⟩
theorem st86 : StT Try.prog 86 4 [.int .i64 0, .int .i64 0, .int .i64 0, .int .i64 0] := ⟨fun _ => by kernel_rfl, fun _ => by kernel_rfl, fun _ => by kernel_rfl⟩
theorem st109 : StT Try.prog 109 4 [.int .i64 0, .int .i64 0, .int .i64 0, .slice none 0 0] := ⟨fun _ => by kernel_rfl, fun _ => by kernel_rfl, fun _ => by kernel_rfl⟩
theorem st126 : StT Try.prog 126 2 [.int .i64 0, .bool false] := ⟨fun _ => by kernel_rfl, fun _ => by kernel_rfl, fun _ => by kernel_rfl⟩
theorem st128 : StT Try.prog 128 2 [.int .i64 0, .bool false] := ⟨fun _ => by kernel_rfl, fun _ => by kernel_rfl, fun _ => by kernel_rfl⟩
theorem sc3 : ScT Try.prog 3 (.int .i64 0) := ⟨fun _ => by kernel_rfl, fun _ => by kernel_rfl, fun _ => by kernel_rfl, rfl⟩
theorem sc4 : ScT Try.prog 4 (.bool false) := ⟨fun _ => by kernel_rfl, fun _ => by kernel_rfl, fun _ => by kernel_rfl, rfl⟩
theorem sc22 : ScT Try.prog 22 (.slice none 0 0) := ⟨fun _ => by kernel_rfl, fun _ => by kernel_rfl, fun _ => by kernel_rfl, rfl⟩
theorem sc25 : ScT Try.prog 25 (.slice none 0 0) := ⟨fun _ => by kernel_rfl, fun _ => by kernel_rfl, fun _ => by kernel_rfl, rfl⟩
theorem sc32 : ScT Try.prog 32 (.slice none 0 0) := ⟨fun _ => by kernel_rfl, fun _ => by kernel_rfl, fun _ => by kernel_rfl, rfl⟩
theorem sc33 : ScT Try.prog 33 (.slice none 0 0) := ⟨fun _ => by kernel_rfl, fun _ => by kernel_rfl, fun _ => by kernel_rfl, rfl⟩
theorem sc36 : ScT Try.prog 36 (.slice none 0 0) := ⟨fun _ => by kernel_rfl, fun _ => by kernel_rfl, fun _ => by kernel_rfl, rfl⟩
theorem sc52 : ScT Try.prog 52 (.slice none 0 0) := ⟨fun _ => by kernel_rfl, fun _ => by kernel_rfl, fun _ => by kernel_rfl, rfl⟩
theorem sc53 : ScT Try.prog 53 (.slice none 0 0) := ⟨fun _ => by kernel_rfl, fun _ => by kernel_rfl, fun _ => by kernel_rfl, rfl⟩
theorem sc54 : ScT Try.prog 54 (.slice none 0 0) := ⟨fun _ => by kernel_rfl, fun _ => by kernel_rfl, fun _ => by kernel_rfl, rfl⟩
theorem sc55 : ScT Try.prog 55 (.slice none 0 0) := ⟨fun _ => by kernel_rfl, fun _ => by kernel_rfl, fun _ => by kernel_rfl, rfl⟩
theorem sc59 : ScT Try.prog 59 (.slice none 0 0) := ⟨fun _ => by kernel_rfl, fun _ => by kernel_rfl, fun _ => by kernel_rfl, rfl⟩
set_option maxRecDepth 20000 in
theorem sl22 : SlT Try.prog 22 109 4 48 [.int .i64 0, .int .i64 0, .int .i64 0, .slice none 0 0] := ⟨Try.underlying22, ⟨Try.t109, _, Try.type109, rfl, rfl, rfl, rfl⟩, by decide, rfl⟩
set_option maxRecDepth 20000 in
theorem sl25 : SlT Try.prog 25 86 4 32 [.int .i64 0, .int .i64 0, .int .i64 0, .int .i64 0] := ⟨Try.underlying25, ⟨Try.t86, _, Try.type86, rfl, rfl, rfl, rfl⟩, by decide, rfl⟩
set_option maxRecDepth 20000 in
theorem sl32 : SlT Try.prog 32 81 4 32 [.int .i64 0, .int .i64 0, .int .i64 0, .int .i64 0] := ⟨Try.underlying32, ⟨Try.t81, _, Try.type81, rfl, rfl, rfl, rfl⟩, by decide, rfl⟩
set_option maxRecDepth 20000 in
theorem sl33 : SlT Try.prog 33 43 5 40 [.int .i64 0, .int .i64 0, .int .i64 0, .int .i64 0, .int .i64 0] := ⟨Try.underlying33, ⟨Try.t43, _, Try.type43, rfl, rfl, rfl, rfl⟩, by decide, rfl⟩
set_option maxRecDepth 20000 in
theorem sl36 : SlT Try.prog 36 70 4 48 [.int .i64 0, .int .i64 0, .int .i64 0, .slice none 0 0] := ⟨Try.underlying36, ⟨Try.t70, _, Try.type70, rfl, rfl, rfl, rfl⟩, by decide, rfl⟩
set_option maxRecDepth 20000 in
theorem sl52 : SlT Try.prog 52 29 5 40 [.int .i64 0, .int .i64 0, .int .i64 0, .int .i64 0, .int .i64 0] := ⟨Try.underlying52, ⟨Try.t29, _, Try.type29, rfl, rfl, rfl, rfl⟩, by decide, rfl⟩
set_option maxRecDepth 20000 in
theorem sl53 : SlT Try.prog 53 3 1 8 [.int .i64 0] := ⟨Try.underlying53, ⟨Try.t3, _, Try.type3, rfl, rfl, rfl, rfl⟩, by decide, rfl⟩
set_option maxRecDepth 20000 in
theorem sl54 : SlT Try.prog 54 4 1 1 [.bool false] := ⟨Try.underlying54, ⟨Try.t4, _, Try.type4, rfl, rfl, rfl, rfl⟩, by decide, rfl⟩
set_option maxRecDepth 20000 in
theorem sl55 : SlT Try.prog 55 128 2 16 [.int .i64 0, .bool false] := ⟨Try.underlying55, ⟨Try.t128, _, Try.type128, rfl, rfl, rfl, rfl⟩, by decide, rfl⟩
set_option maxRecDepth 20000 in
theorem sl59 : SlT Try.prog 59 126 2 16 [.int .i64 0, .bool false] := ⟨Try.underlying59, ⟨Try.t126, _, Try.type126, rfl, rfl, rfl, rfl⟩, by decide, rfl⟩
theorem fl24_0 : FldT Try.prog 24 0 0 := fun b o w => by simp [go_sem]
theorem fl24_1 : FldT Try.prog 24 1 1 := fun b o w => by simp [go_sem]
theorem fl24_2 : FldT Try.prog 24 2 2 := fun b o w => by simp [go_sem]
theorem fl27_0 : FldT Try.prog 27 0 0 := fun b o w => by simp [go_sem]
theorem fl27_1 : FldT Try.prog 27 1 1 := fun b o w => by simp [go_sem]
theorem fl29_0 : FldT Try.prog 29 0 0 := fun b o w => by simp [go_sem]
theorem fl29_1 : FldT Try.prog 29 1 1 := fun b o w => by simp [go_sem]
theorem fl29_2 : FldT Try.prog 29 2 3 := fun b o w => by simp [go_sem]
theorem fl29_3 : FldT Try.prog 29 3 4 := fun b o w => by simp [go_sem]
theorem fl38_0 : FldT Try.prog 38 0 0 := fun b o w => by simp [go_sem]
theorem fl38_1 : FldT Try.prog 38 1 1 := fun b o w => by simp [go_sem]
theorem fl38_2 : FldT Try.prog 38 2 2 := fun b o w => by simp [go_sem]
theorem fl41_0 : FldT Try.prog 41 0 0 := fun b o w => by simp [go_sem]
theorem fl41_1 : FldT Try.prog 41 1 1 := fun b o w => by simp [go_sem]
theorem fl43_0 : FldT Try.prog 43 0 0 := fun b o w => by simp [go_sem]
theorem fl43_1 : FldT Try.prog 43 1 1 := fun b o w => by simp [go_sem]
theorem fl43_2 : FldT Try.prog 43 2 3 := fun b o w => by simp [go_sem]
theorem fl43_3 : FldT Try.prog 43 3 4 := fun b o w => by simp [go_sem]
theorem fl57_0 : FldT Try.prog 57 0 0 := fun b o w => by simp [go_sem]
theorem fl57_1 : FldT Try.prog 57 1 1 := fun b o w => by simp [go_sem]
theorem fl57_2 : FldT Try.prog 57 2 2 := fun b o w => by simp [go_sem]
theorem fl57_3 : FldT Try.prog 57 3 3 := fun b o w => by simp [go_sem]
theorem fl57_4 : FldT Try.prog 57 4 4 := fun b o w => by simp [go_sem]
theorem fl57_5 : FldT Try.prog 57 5 5 := fun b o w => by simp [go_sem]
theorem fl57_6 : FldT Try.prog 57 6 6 := fun b o w => by simp [go_sem]
theorem fl57_7 : FldT Try.prog 57 7 7 := fun b o w => by simp [go_sem]
theorem fl61_0 : FldT Try.prog 61 0 0 := fun b o w => by simp [go_sem]
theorem fl61_1 : FldT Try.prog 61 1 1 := fun b o w => by simp [go_sem]
theorem fl61_2 : FldT Try.prog 61 2 2 := fun b o w => by simp [go_sem]
theorem fl61_3 : FldT Try.prog 61 3 3 := fun b o w => by simp [go_sem]
theorem fl61_4 : FldT Try.prog 61 4 4 := fun b o w => by simp [go_sem]
theorem fl61_5 : FldT Try.prog 61 5 5 := fun b o w => by simp [go_sem]
theorem fl61_6 : FldT Try.prog 61 6 6 := fun b o w => by simp [go_sem]
theorem fl61_7 : FldT Try.prog 61 7 7 := fun b o w => by simp [go_sem]
theorem fl70_0 : FldT Try.prog 70 0 0 := fun b o w => by simp [go_sem]
theorem fl70_1 : FldT Try.prog 70 1 1 := fun b o w => by simp [go_sem]
theorem fl70_2 : FldT Try.prog 70 2 2 := fun b o w => by simp [go_sem]
theorem fl70_3 : FldT Try.prog 70 3 3 := fun b o w => by simp [go_sem]
theorem fl81_0 : FldT Try.prog 81 0 0 := fun b o w => by simp [go_sem]
theorem fl81_1 : FldT Try.prog 81 1 1 := fun b o w => by simp [go_sem]
theorem fl81_2 : FldT Try.prog 81 2 2 := fun b o w => by simp [go_sem]
theorem fl81_3 : FldT Try.prog 81 3 3 := fun b o w => by simp [go_sem]
theorem fl86_0 : FldT Try.prog 86 0 0 := fun b o w => by simp [go_sem]
theorem fl86_1 : FldT Try.prog 86 1 1 := fun b o w => by simp [go_sem]
theorem fl86_2 : FldT Try.prog 86 2 2 := fun b o w => by simp [go_sem]
theorem fl86_3 : FldT Try.prog 86 3 3 := fun b o w => by simp [go_sem]
theorem fl109_0 : FldT Try.prog 109 0 0 := fun b o w => by simp [go_sem]
theorem fl109_1 : FldT Try.prog 109 1 1 := fun b o w => by simp [go_sem]
theorem fl109_2 : FldT Try.prog 109 2 2 := fun b o w => by simp [go_sem]
theorem fl109_3 : FldT Try.prog 109 3 3 := fun b o w => by simp [go_sem]
theorem fl126_0 : FldT Try.prog 126 0 0 := fun b o w => by simp [go_sem]
theorem fl126_1 : FldT Try.prog 126 1 1 := fun b o w => by simp [go_sem]
theorem fl128_0 : FldT Try.prog 128 0 0 := fun b o w => by simp [go_sem]
theorem fl128_1 : FldT Try.prog 128 1 1 := fun b o w => by simp [go_sem]
end Go.Proofs.Ytfohhffgomfhdaa
