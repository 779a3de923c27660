/- What is known of the types of the translated program; no condition. -/
import Derived.Test.YtlpimnkndeoanaaModel
import Derived.Test.YtlpimnkndeoanaaProg
namespace Go.Proofs.Ytlpimnkndeoanaa
open Go Go.Proofs.Ytlpimnkndeoanaa.X Go.Proofs
theorem mixed : Try.prog.follows .mixedOrders = true := by kernel_rfl
theorem st55 : StT Try.prog 55 2 [.int .i64 0, .int .i64 0] := ⟨fun _ => by kernel_rfl, fun _ => by kernel_rfl, fun _ => by kernel_rfl⟩
theorem st57 : StT Try.prog 57 5 [.int .i64 0, .int .i64 0, .int .i64 0, .int .i64 0, .int .i64 0] := ⟨fun _ => by kernel_rfl, fun _ => by kernel_rfl, fun _ => by kernel_rfl⟩
theorem st59 : StT Try.prog 59 2 [.int .i64 0, .int .i64 0] := ⟨fun _ => by kernel_rfl, fun _ => by kernel_rfl, fun _ => by kernel_rfl⟩
theorem st61 : StT Try.prog 61 5 [.int .i64 0, .int .i64 0, .int .i64 0, .int .i64 0, .int .i64 0] := ⟨fun _ => by kernel_rfl, fun _ => by kernel_rfl, fun _ => by kernel_rfl⟩
theorem st69 : StT Try.prog 69 8 [.slice none 0 0, .slice none 0 0, .slice none 0 0, .slice none 0 0, .slice none 0 0, .slice none 0 0, .slice none 0 0, .slice none 0 0] := ⟨fun _ => by kernel_rfl, fun _ => by kernel_rfl, fun _ => by kernel_rfl⟩
theorem st75 : StT Try.prog 75 8 [.slice none 0 0, .slice none 0 0, .slice none 0 0, .slice none 0 0, .slice none 0 0, .slice none 0 0, .slice none 0 0, .slice none 0 0] := ⟨fun _ => by kernel_rfl, fun _ => by kernel_rfl, fun _ => by kernel_rfl⟩
theorem st80 : StT Try.prog 80 4 [.int .i64 0, .int .i64 0, .int .i64 0, .int .i64 0] := ⟨fun _ => by kernel_rfl, fun _ => by kernel_rfl, fun _ => by kernel_rfl⟩
theorem st82 : StT Try.prog 82 4 [.int .i64 0, .int .i64 0, .int .i64 0, .int .i64 0] := ⟨fun _ => by kernel_rfl, fun _ => by kernel_rfl, fun _ => by kernel_rfl⟩
theorem st157 : StT Try.prog 157 2 [.int .i64 0, .bool false] := ⟨fun _ => by kernel_rfl, fun _ => by kernel_rfl, fun _ => by kernel_rfl⟩
theorem st185 : StT Try.prog 185 2 [.int .i64 0, .bool false] := ⟨fun _ => by kernel_rfl, fun _ => by kernel_rfl, fun _ => by kernel_rfl⟩
theorem sc3 : ScT Try.prog 3 (.int .i64 0) := ⟨fun _ => by kernel_rfl, fun _ => by kernel_rfl, fun _ => by kernel_rfl, rfl⟩
theorem sc4 : ScT Try.prog 4 (.bool false) := ⟨fun _ => by kernel_rfl, fun _ => by kernel_rfl, fun _ => by kernel_rfl, rfl⟩
theorem sc26 : ScT Try.prog 26 (.slice none 0 0) := ⟨fun _ => by kernel_rfl, fun _ => by kernel_rfl, fun _ => by kernel_rfl, rfl⟩
theorem sc44 : ScT Try.prog 44 (.slice none 0 0) := ⟨fun _ => by kernel_rfl, fun _ => by kernel_rfl, fun _ => by kernel_rfl, rfl⟩
theorem sc46 : ScT Try.prog 46 (.slice none 0 0) := ⟨fun _ => by kernel_rfl, fun _ => by kernel_rfl, fun _ => by kernel_rfl, rfl⟩
theorem sc65 : ScT Try.prog 65 (.slice none 0 0) := ⟨fun _ => by kernel_rfl, fun _ => by kernel_rfl, fun _ => by kernel_rfl, rfl⟩
theorem sc66 : ScT Try.prog 66 (.slice none 0 0) := ⟨fun _ => by kernel_rfl, fun _ => by kernel_rfl, fun _ => by kernel_rfl, rfl⟩
theorem sc67 : ScT Try.prog 67 (.slice none 0 0) := ⟨fun _ => by kernel_rfl, fun _ => by kernel_rfl, fun _ => by kernel_rfl, rfl⟩
theorem sc72 : ScT Try.prog 72 (.slice none 0 0) := ⟨fun _ => by kernel_rfl, fun _ => by kernel_rfl, fun _ => by kernel_rfl, rfl⟩
theorem sc73 : ScT Try.prog 73 (.slice none 0 0) := ⟨fun _ => by kernel_rfl, fun _ => by kernel_rfl, fun _ => by kernel_rfl, rfl⟩
set_option maxRecDepth 20000 in
theorem sl26 : SlT Try.prog 26 3 1 8 [.int .i64 0] := ⟨Try.underlying26, ⟨Try.t3, _, Try.type3, rfl, rfl, rfl, rfl⟩, by decide, rfl⟩
set_option maxRecDepth 20000 in
theorem sl44 : SlT Try.prog 44 80 4 32 [.int .i64 0, .int .i64 0, .int .i64 0, .int .i64 0] := ⟨Try.underlying44, ⟨Try.t80, _, Try.type80, rfl, rfl, rfl, rfl⟩, by decide, rfl⟩
set_option maxRecDepth 20000 in
theorem sl46 : SlT Try.prog 46 82 4 32 [.int .i64 0, .int .i64 0, .int .i64 0, .int .i64 0] := ⟨Try.underlying46, ⟨Try.t82, _, Try.type82, rfl, rfl, rfl, rfl⟩, by decide, rfl⟩
set_option maxRecDepth 20000 in
theorem sl65 : SlT Try.prog 65 57 5 40 [.int .i64 0, .int .i64 0, .int .i64 0, .int .i64 0, .int .i64 0] := ⟨Try.underlying65, ⟨Try.t57, _, Try.type57, rfl, rfl, rfl, rfl⟩, by decide, rfl⟩
set_option maxRecDepth 20000 in
theorem sl66 : SlT Try.prog 66 4 1 1 [.bool false] := ⟨Try.underlying66, ⟨Try.t4, _, Try.type4, rfl, rfl, rfl, rfl⟩, by decide, rfl⟩
set_option maxRecDepth 20000 in
theorem sl67 : SlT Try.prog 67 185 2 16 [.int .i64 0, .bool false] := ⟨Try.underlying67, ⟨Try.t185, _, Try.type185, rfl, rfl, rfl, rfl⟩, by decide, rfl⟩
set_option maxRecDepth 20000 in
theorem sl72 : SlT Try.prog 72 61 5 40 [.int .i64 0, .int .i64 0, .int .i64 0, .int .i64 0, .int .i64 0] := ⟨Try.underlying72, ⟨Try.t61, _, Try.type61, rfl, rfl, rfl, rfl⟩, by decide, rfl⟩
set_option maxRecDepth 20000 in
theorem sl73 : SlT Try.prog 73 157 2 16 [.int .i64 0, .bool false] := ⟨Try.underlying73, ⟨Try.t157, _, Try.type157, rfl, rfl, rfl, rfl⟩, by decide, rfl⟩
theorem fl55_0 : FldT Try.prog 55 0 0 := fun b o w => by simp [go_sem]
theorem fl55_1 : FldT Try.prog 55 1 1 := fun b o w => by simp [go_sem]
theorem fl57_0 : FldT Try.prog 57 0 0 := fun b o w => by simp [go_sem]
theorem fl57_1 : FldT Try.prog 57 1 1 := fun b o w => by simp [go_sem]
theorem fl57_2 : FldT Try.prog 57 2 3 := fun b o w => by simp [go_sem]
theorem fl57_3 : FldT Try.prog 57 3 4 := fun b o w => by simp [go_sem]
theorem fl59_0 : FldT Try.prog 59 0 0 := fun b o w => by simp [go_sem]
theorem fl59_1 : FldT Try.prog 59 1 1 := fun b o w => by simp [go_sem]
theorem fl61_0 : FldT Try.prog 61 0 0 := fun b o w => by simp [go_sem]
theorem fl61_1 : FldT Try.prog 61 1 1 := fun b o w => by simp [go_sem]
theorem fl61_2 : FldT Try.prog 61 2 3 := fun b o w => by simp [go_sem]
theorem fl61_3 : FldT Try.prog 61 3 4 := fun b o w => by simp [go_sem]
theorem fl69_0 : FldT Try.prog 69 0 0 := fun b o w => by simp [go_sem]
theorem fl69_1 : FldT Try.prog 69 1 1 := fun b o w => by simp [go_sem]
theorem fl69_2 : FldT Try.prog 69 2 2 := fun b o w => by simp [go_sem]
theorem fl69_3 : FldT Try.prog 69 3 3 := fun b o w => by simp [go_sem]
theorem fl69_4 : FldT Try.prog 69 4 4 := fun b o w => by simp [go_sem]
theorem fl69_5 : FldT Try.prog 69 5 5 := fun b o w => by simp [go_sem]
theorem fl69_6 : FldT Try.prog 69 6 6 := fun b o w => by simp [go_sem]
theorem fl69_7 : FldT Try.prog 69 7 7 := fun b o w => by simp [go_sem]
theorem fl75_0 : FldT Try.prog 75 0 0 := fun b o w => by simp [go_sem]
theorem fl75_1 : FldT Try.prog 75 1 1 := fun b o w => by simp [go_sem]
theorem fl75_2 : FldT Try.prog 75 2 2 := fun b o w => by simp [go_sem]
theorem fl75_3 : FldT Try.prog 75 3 3 := fun b o w => by simp [go_sem]
theorem fl75_4 : FldT Try.prog 75 4 4 := fun b o w => by simp [go_sem]
theorem fl75_5 : FldT Try.prog 75 5 5 := fun b o w => by simp [go_sem]
theorem fl75_6 : FldT Try.prog 75 6 6 := fun b o w => by simp [go_sem]
theorem fl75_7 : FldT Try.prog 75 7 7 := fun b o w => by simp [go_sem]
theorem fl80_0 : FldT Try.prog 80 0 0 := fun b o w => by simp [go_sem]
theorem fl80_1 : FldT Try.prog 80 1 1 := fun b o w => by simp [go_sem]
theorem fl80_2 : FldT Try.prog 80 2 2 := fun b o w => by simp [go_sem]
theorem fl80_3 : FldT Try.prog 80 3 3 := fun b o w => by simp [go_sem]
theorem fl82_0 : FldT Try.prog 82 0 0 := fun b o w => by simp [go_sem]
theorem fl82_1 : FldT Try.prog 82 1 1 := fun b o w => by simp [go_sem]
theorem fl82_2 : FldT Try.prog 82 2 2 := fun b o w => by simp [go_sem]
theorem fl82_3 : FldT Try.prog 82 3 3 := fun b o w => by simp [go_sem]
theorem fl157_0 : FldT Try.prog 157 0 0 := fun b o w => by simp [go_sem]
theorem fl157_1 : FldT Try.prog 157 1 1 := fun b o w => by simp [go_sem]
theorem fl185_0 : FldT Try.prog 185 0 0 := fun b o w => by simp [go_sem]
theorem fl185_1 : FldT Try.prog 185 1 1 := fun b o w => by simp [go_sem]
end Go.Proofs.Ytlpimnkndeoanaa
