/- What is known of the types of the translated program; no condition. -/
import Derived.Test.YtgafkiapefdkdaaModel
import Derived.Test.YtgafkiapefdkdaaProg
namespace Go.Proofs.Ytgafkiapefdkdaa
open Go Go.Proofs.Ytgafkiapefdkdaa.X Go.Proofs
theorem mixed : Try.prog.follows .mixedOrders = true := by kernel_rfl
theorem st24 : StT Try.prog 24 3 [.slice none 0 0, .int .i64 0, .int .i64 0] := ⟨fun _ => by kernel_rfl, fun _ => by kernel_rfl, fun _ => by kernel_rfl⟩
theorem st30 : StT Try.prog 30 7 [.slice none 0 0, .int .i64 0, .int .i64 0, .slice none 0 0, .slice none 0 0, .slice none 0 0, .slice none 0 0] := ⟨fun _ => by kernel_rfl, fun _ => by kernel_rfl, fun _ => by kernel_rfl⟩
theorem st35 : StT Try.prog 35 3 [.slice none 0 0, .int .i64 0, .int .i64 0] := ⟨fun _ => by kernel_rfl, fun _ => by kernel_rfl, fun _ => by kernel_rfl⟩
theorem st41 : StT Try.prog 41 7 [.slice none 0 0, .int .i64 0, .int .i64 0, .slice none 0 0, .slice none 0 0, .slice none 0 0, .slice none 0 0] := ⟨fun _ => by kernel_rfl, fun _ => by kernel_rfl, fun _ => by kernel_rfl⟩
theorem st58 : StT Try.prog 58 8 [.slice none 0 0, .slice none 0 0, .slice none 0 0, .slice none 0 0, .slice none 0 0, .slice none 0 0, .slice none 0 0, .slice none 0 0] := ⟨fun _ => by kernel_rfl, fun _ => by kernel_rfl, fun _ => by kernel_rfl⟩
theorem st60 : StT Try.prog 60 6 [.int .i64 0, .slice none 0 0, .int .i64 0, .int .i64 0, .int .i64 0, .int .i64 0] := ⟨fun _ => by kernel_rfl, fun _ => by kernel_rfl, fun _ => by kernel_rfl⟩
theorem st65 : StT Try.prog 65 5 [.bool false, .int .i64 0, .int .i64 0, .bool false, .bool false] := ⟨fun _ => by kernel_rfl, fun _ => by kernel_rfl, fun _ => by kernel_rfl⟩
theorem st67 : StT Try.prog 67 3 [.int .i64 0, .int .i64 0, .bool false] := ⟨fun _ => by kernel_rfl, fun _ => by kernel_rfl, fun _ => by kernel_rfl⟩
theorem st84 : StT Try.prog 84 8 [.slice none 0 0, .slice none 0 0, .slice none 0 0, .slice none 0 0, .slice none 0 0, .slice none 0 0, .slice none 0 0, .slice none 0 0] := ⟨fun _ => by kernel_rfl, fun _ => by kernel_rfl, fun _ => by kernel_rfl⟩
theorem st87 : StT Try.prog 87 6 [.int .i64 0, .slice none 0 0, .int .i64 0, .int .i64 0, .int .i64 0, .int .i64 0] := ⟨fun _ => by kernel_rfl, fun _ => by kernel_rfl, fun _ => by kernel_rfl⟩
theorem st89 : StT Try.prog 89 4 [.int .i64 0, .int .i64 0, .int .i64 0, .slice none 0 0] := ⟨fun _ => by kernel_rfl, fun _ => by kernel_rfl, fun _ => by kernel_rfl⟩
theorem st93 : StT Try.prog 93 2 [.int .i64 0, .int .i64 0] := ⟨fun _ => by kernel_rfl, fun _ => by kernel_rfl, fun _ => by kernel_rfl⟩
theorem st95 : StT Try.prog 95 5 [.int .i64 0, .int .i64 0, .int .i64 0, .int .i64 0, .int .i64 0] := ⟨fun _ => by kernel_rfl, fun _ => by kernel_rfl, fun _ => by kernel_rfl⟩
theorem st97 : StT Try.prog 97 2 [.int .i64 0, .bool false] := ⟨fun _ => by kernel_rfl, fun _ => by kernel_rfl, fun _ => by kernel_rfl⟩
theorem st103 : StT Try.prog 103 5 [.bool false, .int .i64 0, .int .i64 0, .bool false, .bool false] := ⟨fun _ => by kernel_rfl, fun _ => by kernel_rfl, fun _ => by kernel_rfl⟩
theorem st105 : StT Try.prog 105 3 [.int .i64 0, .int .i64 0, .bool false] := ⟨fun _ => by kernel_rfl, fun _ => by kernel_rfl, fun _ => by kernel_rfl⟩
theorem st115 : StT Try.prog 115 4 [.int .i64 0, .int .i64 0, .int .i64 0, .slice none 0 0] := ⟨fun _ => by kernel_rfl, fun _ => by kernel_rfl, fun _ => by kernel_rfl⟩
theorem st123 : StT Try.prog 123 4 [.int .i64 0, .int .i64 0, .int .i64 0, .int .i64 0] := ⟨fun _ => by kernel_rfl, fun _ => by kernel_rfl, fun _ => by kernel_rfl⟩
theorem st142 : StT Try.prog 142 2 [.int .i64 0, .int .i64 0] := ⟨fun _ => by kernel_rfl, fun _ => by kernel_rfl, fun _ => by kernel_rfl⟩
theorem st144 : StT Try.prog 144 5 [.int .i64 0, .int .i64 0, .int .i64 0, .int .i64 0, .int .i64 0] := ⟨fun _ => by kernel_rfl, fun _ => by kernel_rfl, fun _ => by kernel_rfl⟩
theorem st146 : StT Try.prog 146 4 [.int .i64 0, .int .i64 0, .int .i64 0, .int .i64 0] := ⟨fun _ => by kernel_rfl, fun _ => by kernel_rfl, fun _ => by kernel_rfl⟩
theorem st148 : StT Try.prog 148 2 [.int .i64 0, .bool false] := ⟨fun _ => by kernel_rfl, fun _ => by kernel_rfl, fun _ => by kernel_rfl⟩
theorem sc3 : ScT Try.prog 3 (.int .i64 0) := ⟨fun _ => by kernel_rfl, fun _ => by kernel_rfl, fun _ => by kernel_rfl, rfl⟩
theorem sc4 : ScT Try.prog 4 (.bool false) := ⟨fun _ => by kernel_rfl, fun _ => by kernel_rfl, fun _ => by kernel_rfl, rfl⟩
theorem sc22 : ScT Try.prog 22 (.slice none 0 0) := ⟨fun _ => by kernel_rfl, fun _ => by kernel_rfl, fun _ => by kernel_rfl, rfl⟩
theorem sc25 : ScT Try.prog 25 (.slice none 0 0) := ⟨fun _ => by kernel_rfl, fun _ => by kernel_rfl, fun _ => by kernel_rfl, rfl⟩
theorem sc26 : ScT Try.prog 26 (.slice none 0 0) := ⟨fun _ => by kernel_rfl, fun _ => by kernel_rfl, fun _ => by kernel_rfl, rfl⟩
theorem sc27 : ScT Try.prog 27 (.slice none 0 0) := ⟨fun _ => by kernel_rfl, fun _ => by kernel_rfl, fun _ => by kernel_rfl, rfl⟩
theorem sc28 : ScT Try.prog 28 (.slice none 0 0) := ⟨fun _ => by kernel_rfl, fun _ => by kernel_rfl, fun _ => by kernel_rfl, rfl⟩
theorem sc33 : ScT Try.prog 33 (.slice none 0 0) := ⟨fun _ => by kernel_rfl, fun _ => by kernel_rfl, fun _ => by kernel_rfl, rfl⟩
theorem sc36 : ScT Try.prog 36 (.slice none 0 0) := ⟨fun _ => by kernel_rfl, fun _ => by kernel_rfl, fun _ => by kernel_rfl, rfl⟩
theorem sc37 : ScT Try.prog 37 (.slice none 0 0) := ⟨fun _ => by kernel_rfl, fun _ => by kernel_rfl, fun _ => by kernel_rfl, rfl⟩
theorem sc38 : ScT Try.prog 38 (.slice none 0 0) := ⟨fun _ => by kernel_rfl, fun _ => by kernel_rfl, fun _ => by kernel_rfl, rfl⟩
theorem sc39 : ScT Try.prog 39 (.slice none 0 0) := ⟨fun _ => by kernel_rfl, fun _ => by kernel_rfl, fun _ => by kernel_rfl, rfl⟩
theorem sc52 : ScT Try.prog 52 (.slice none 0 0) := ⟨fun _ => by kernel_rfl, fun _ => by kernel_rfl, fun _ => by kernel_rfl, rfl⟩
theorem sc53 : ScT Try.prog 53 (.slice none 0 0) := ⟨fun _ => by kernel_rfl, fun _ => by kernel_rfl, fun _ => by kernel_rfl, rfl⟩
theorem sc54 : ScT Try.prog 54 (.slice none 0 0) := ⟨fun _ => by kernel_rfl, fun _ => by kernel_rfl, fun _ => by kernel_rfl, rfl⟩
theorem sc55 : ScT Try.prog 55 (.slice none 0 0) := ⟨fun _ => by kernel_rfl, fun _ => by kernel_rfl, fun _ => by kernel_rfl, rfl⟩
theorem sc56 : ScT Try.prog 56 (.slice none 0 0) := ⟨fun _ => by kernel_rfl, fun _ => by kernel_rfl, fun _ => by kernel_rfl, rfl⟩
theorem sc80 : ScT Try.prog 80 (.slice none 0 0) := ⟨fun _ => by kernel_rfl, fun _ => by kernel_rfl, fun _ => by kernel_rfl, rfl⟩
theorem sc81 : ScT Try.prog 81 (.slice none 0 0) := ⟨fun _ => by kernel_rfl, fun _ => by kernel_rfl, fun _ => by kernel_rfl, rfl⟩
theorem sc82 : ScT Try.prog 82 (.slice none 0 0) := ⟨fun _ => by kernel_rfl, fun _ => by kernel_rfl, fun _ => by kernel_rfl, rfl⟩
set_option maxRecDepth 20000 in
theorem sl22 : SlT Try.prog 22 115 4 48 [.int .i64 0, .int .i64 0, .int .i64 0, .slice none 0 0] := ⟨Try.underlying22, ⟨Try.t115, _, Try.type115, rfl, rfl, rfl, rfl⟩, by decide, rfl⟩
set_option maxRecDepth 20000 in
theorem sl25 : SlT Try.prog 25 84 8 192 [.slice none 0 0, .slice none 0 0, .slice none 0 0, .slice none 0 0, .slice none 0 0, .slice none 0 0, .slice none 0 0, .slice none 0 0] := ⟨Try.underlying25, ⟨Try.t84, _, Try.type84, rfl, rfl, rfl, rfl⟩, by decide, rfl⟩
set_option maxRecDepth 20000 in
theorem sl26 : SlT Try.prog 26 87 6 64 [.int .i64 0, .slice none 0 0, .int .i64 0, .int .i64 0, .int .i64 0, .int .i64 0] := ⟨Try.underlying26, ⟨Try.t87, _, Try.type87, rfl, rfl, rfl, rfl⟩, by decide, rfl⟩
set_option maxRecDepth 20000 in
theorem sl27 : SlT Try.prog 27 103 5 32 [.bool false, .int .i64 0, .int .i64 0, .bool false, .bool false] := ⟨Try.underlying27, ⟨Try.t103, _, Try.type103, rfl, rfl, rfl, rfl⟩, by decide, rfl⟩
set_option maxRecDepth 20000 in
theorem sl28 : SlT Try.prog 28 105 3 24 [.int .i64 0, .int .i64 0, .bool false] := ⟨Try.underlying28, ⟨Try.t105, _, Try.type105, rfl, rfl, rfl, rfl⟩, by decide, rfl⟩
set_option maxRecDepth 20000 in
theorem sl33 : SlT Try.prog 33 89 4 48 [.int .i64 0, .int .i64 0, .int .i64 0, .slice none 0 0] := ⟨Try.underlying33, ⟨Try.t89, _, Try.type89, rfl, rfl, rfl, rfl⟩, by decide, rfl⟩
set_option maxRecDepth 20000 in
theorem sl36 : SlT Try.prog 36 58 8 192 [.slice none 0 0, .slice none 0 0, .slice none 0 0, .slice none 0 0, .slice none 0 0, .slice none 0 0, .slice none 0 0, .slice none 0 0] := ⟨Try.underlying36, ⟨Try.t58, _, Try.type58, rfl, rfl, rfl, rfl⟩, by decide, rfl⟩
set_option maxRecDepth 20000 in
theorem sl37 : SlT Try.prog 37 60 6 64 [.int .i64 0, .slice none 0 0, .int .i64 0, .int .i64 0, .int .i64 0, .int .i64 0] := ⟨Try.underlying37, ⟨Try.t60, _, Try.type60, rfl, rfl, rfl, rfl⟩, by decide, rfl⟩
set_option maxRecDepth 20000 in
theorem sl38 : SlT Try.prog 38 65 5 32 [.bool false, .int .i64 0, .int .i64 0, .bool false, .bool false] := ⟨Try.underlying38, ⟨Try.t65, _, Try.type65, rfl, rfl, rfl, rfl⟩, by decide, rfl⟩
set_option maxRecDepth 20000 in
theorem sl39 : SlT Try.prog 39 67 3 24 [.int .i64 0, .int .i64 0, .bool false] := ⟨Try.underlying39, ⟨Try.t67, _, Try.type67, rfl, rfl, rfl, rfl⟩, by decide, rfl⟩
set_option maxRecDepth 20000 in
theorem sl52 : SlT Try.prog 52 95 5 40 [.int .i64 0, .int .i64 0, .int .i64 0, .int .i64 0, .int .i64 0] := ⟨Try.underlying52, ⟨Try.t95, _, Try.type95, rfl, rfl, rfl, rfl⟩, by decide, rfl⟩
set_option maxRecDepth 20000 in
theorem sl53 : SlT Try.prog 53 123 4 32 [.int .i64 0, .int .i64 0, .int .i64 0, .int .i64 0] := ⟨Try.underlying53, ⟨Try.t123, _, Try.type123, rfl, rfl, rfl, rfl⟩, by decide, rfl⟩
set_option maxRecDepth 20000 in
theorem sl54 : SlT Try.prog 54 3 1 8 [.int .i64 0] := ⟨Try.underlying54, ⟨Try.t3, _, Try.type3, rfl, rfl, rfl, rfl⟩, by decide, rfl⟩
set_option maxRecDepth 20000 in
theorem sl55 : SlT Try.prog 55 4 1 1 [.bool false] := ⟨Try.underlying55, ⟨Try.t4, _, Try.type4, rfl, rfl, rfl, rfl⟩, by decide, rfl⟩
set_option maxRecDepth 20000 in
theorem sl56 : SlT Try.prog 56 97 2 16 [.int .i64 0, .bool false] := ⟨Try.underlying56, ⟨Try.t97, _, Try.type97, rfl, rfl, rfl, rfl⟩, by decide, rfl⟩
set_option maxRecDepth 20000 in
theorem sl80 : SlT Try.prog 80 144 5 40 [.int .i64 0, .int .i64 0, .int .i64 0, .int .i64 0, .int .i64 0] := ⟨Try.underlying80, ⟨Try.t144, _, Try.type144, rfl, rfl, rfl, rfl⟩, by decide, rfl⟩
set_option maxRecDepth 20000 in
theorem sl81 : SlT Try.prog 81 146 4 32 [.int .i64 0, .int .i64 0, .int .i64 0, .int .i64 0] := ⟨Try.underlying81, ⟨Try.t146, _, Try.type146, rfl, rfl, rfl, rfl⟩, by decide, rfl⟩
set_option maxRecDepth 20000 in
theorem sl82 : SlT Try.prog 82 148 2 16 [.int .i64 0, .bool false] := ⟨Try.underlying82, ⟨Try.t148, _, Try.type148, rfl, rfl, rfl, rfl⟩, by decide, rfl⟩
theorem fl24_0 : FldT Try.prog 24 0 0 := fun b o w => by simp [go_sem]
theorem fl24_1 : FldT Try.prog 24 1 1 := fun b o w => by simp [go_sem]
theorem fl24_2 : FldT Try.prog 24 2 2 := fun b o w => by simp [go_sem]
theorem fl30_0 : FldT Try.prog 30 0 0 := fun b o w => by simp [go_sem]
theorem fl30_1 : FldT Try.prog 30 1 3 := fun b o w => by simp [go_sem]
theorem fl30_2 : FldT Try.prog 30 2 4 := fun b o w => by simp [go_sem]
theorem fl30_3 : FldT Try.prog 30 3 5 := fun b o w => by simp [go_sem]
theorem fl30_4 : FldT Try.prog 30 4 6 := fun b o w => by simp [go_sem]
theorem fl35_0 : FldT Try.prog 35 0 0 := fun b o w => by simp [go_sem]
theorem fl35_1 : FldT Try.prog 35 1 1 := fun b o w => by simp [go_sem]
theorem fl35_2 : FldT Try.prog 35 2 2 := fun b o w => by simp [go_sem]
theorem fl41_0 : FldT Try.prog 41 0 0 := fun b o w => by simp [go_sem]
theorem fl41_1 : FldT Try.prog 41 1 3 := fun b o w => by simp [go_sem]
theorem fl41_2 : FldT Try.prog 41 2 4 := fun b o w => by simp [go_sem]
theorem fl41_3 : FldT Try.prog 41 3 5 := fun b o w => by simp [go_sem]
theorem fl41_4 : FldT Try.prog 41 4 6 := fun b o w => by simp [go_sem]
theorem fl58_0 : FldT Try.prog 58 0 0 := fun b o w => by simp [go_sem]
theorem fl58_1 : FldT Try.prog 58 1 1 := fun b o w => by simp [go_sem]
theorem fl58_2 : FldT Try.prog 58 2 2 := fun b o w => by simp [go_sem]
theorem fl58_3 : FldT Try.prog 58 3 3 := fun b o w => by simp [go_sem]
theorem fl58_4 : FldT Try.prog 58 4 4 := fun b o w => by simp [go_sem]
theorem fl58_5 : FldT Try.prog 58 5 5 := fun b o w => by simp [go_sem]
theorem fl58_6 : FldT Try.prog 58 6 6 := fun b o w => by simp [go_sem]
theorem fl58_7 : FldT Try.prog 58 7 7 := fun b o w => by simp [go_sem]
theorem fl60_0 : FldT Try.prog 60 0 0 := fun b o w => by simp [go_sem]
theorem fl60_1 : FldT Try.prog 60 1 1 := fun b o w => by simp [go_sem]
theorem fl60_2 : FldT Try.prog 60 2 2 := fun b o w => by simp [go_sem]
theorem fl60_3 : FldT Try.prog 60 3 3 := fun b o w => by simp [go_sem]
theorem fl60_4 : FldT Try.prog 60 4 4 := fun b o w => by simp [go_sem]
theorem fl60_5 : FldT Try.prog 60 5 5 := fun b o w => by simp [go_sem]
theorem fl65_0 : FldT Try.prog 65 0 0 := fun b o w => by simp [go_sem]
theorem fl65_1 : FldT Try.prog 65 1 1 := fun b o w => by simp [go_sem]
theorem fl65_2 : FldT Try.prog 65 2 2 := fun b o w => by simp [go_sem]
theorem fl65_3 : FldT Try.prog 65 3 3 := fun b o w => by simp [go_sem]
theorem fl65_4 : FldT Try.prog 65 4 4 := fun b o w => by simp [go_sem]
theorem fl67_0 : FldT Try.prog 67 0 0 := fun b o w => by simp [go_sem]
theorem fl67_1 : FldT Try.prog 67 1 1 := fun b o w => by simp [go_sem]
theorem fl67_2 : FldT Try.prog 67 2 2 := fun b o w => by simp [go_sem]
theorem fl84_0 : FldT Try.prog 84 0 0 := fun b o w => by simp [go_sem]
theorem fl84_1 : FldT Try.prog 84 1 1 := fun b o w => by simp [go_sem]
theorem fl84_2 : FldT Try.prog 84 2 2 := fun b o w => by simp [go_sem]
theorem fl84_3 : FldT Try.prog 84 3 3 := fun b o w => by simp [go_sem]
theorem fl84_4 : FldT Try.prog 84 4 4 := fun b o w => by simp [go_sem]
theorem fl84_5 : FldT Try.prog 84 5 5 := fun b o w => by simp [go_sem]
theorem fl84_6 : FldT Try.prog 84 6 6 := fun b o w => by simp [go_sem]
theorem fl84_7 : FldT Try.prog 84 7 7 := fun b o w => by simp [go_sem]
theorem fl87_0 : FldT Try.prog 87 0 0 := fun b o w => by simp [go_sem]
theorem fl87_1 : FldT Try.prog 87 1 1 := fun b o w => by simp [go_sem]
theorem fl87_2 : FldT Try.prog 87 2 2 := fun b o w => by simp [go_sem]
theorem fl87_3 : FldT Try.prog 87 3 3 := fun b o w => by simp [go_sem]
theorem fl87_4 : FldT Try.prog 87 4 4 := fun b o w => by simp [go_sem]
theorem fl87_5 : FldT Try.prog 87 5 5 := fun b o w => by simp [go_sem]
theorem fl89_0 : FldT Try.prog 89 0 0 := fun b o w => by simp [go_sem]
theorem fl89_1 : FldT Try.prog 89 1 1 := fun b o w => by simp [go_sem]
theorem fl89_2 : FldT Try.prog 89 2 2 := fun b o w => by simp [go_sem]
theorem fl89_3 : FldT Try.prog 89 3 3 := fun b o w => by simp [go_sem]
theorem fl93_0 : FldT Try.prog 93 0 0 := fun b o w => by simp [go_sem]
theorem fl93_1 : FldT Try.prog 93 1 1 := fun b o w => by simp [go_sem]
theorem fl95_0 : FldT Try.prog 95 0 0 := fun b o w => by simp [go_sem]
theorem fl95_1 : FldT Try.prog 95 1 1 := fun b o w => by simp [go_sem]
theorem fl95_2 : FldT Try.prog 95 2 3 := fun b o w => by simp [go_sem]
theorem fl95_3 : FldT Try.prog 95 3 4 := fun b o w => by simp [go_sem]
theorem fl97_0 : FldT Try.prog 97 0 0 := fun b o w => by simp [go_sem]
theorem fl97_1 : FldT Try.prog 97 1 1 := fun b o w => by simp [go_sem]
theorem fl103_0 : FldT Try.prog 103 0 0 := fun b o w => by simp [go_sem]
theorem fl103_1 : FldT Try.prog 103 1 1 := fun b o w => by simp [go_sem]
theorem fl103_2 : FldT Try.prog 103 2 2 := fun b o w => by simp [go_sem]
theorem fl103_3 : FldT Try.prog 103 3 3 := fun b o w => by simp [go_sem]
theorem fl103_4 : FldT Try.prog 103 4 4 := fun b o w => by simp [go_sem]
theorem fl105_0 : FldT Try.prog 105 0 0 := fun b o w => by simp [go_sem]
theorem fl105_1 : FldT Try.prog 105 1 1 := fun b o w => by simp [go_sem]
theorem fl105_2 : FldT Try.prog 105 2 2 := fun b o w => by simp [go_sem]
theorem fl115_0 : FldT Try.prog 115 0 0 := fun b o w => by simp [go_sem]
theorem fl115_1 : FldT Try.prog 115 1 1 := fun b o w => by simp [go_sem]
theorem fl115_2 : FldT Try.prog 115 2 2 := fun b o w => by simp [go_sem]
theorem fl115_3 : FldT Try.prog 115 3 3 := fun b o w => by simp [go_sem]
theorem fl123_0 : FldT Try.prog 123 0 0 := fun b o w => by simp [go_sem]
theorem fl123_1 : FldT Try.prog 123 1 1 := fun b o w => by simp [go_sem]
theorem fl123_2 : FldT Try.prog 123 2 2 := fun b o w => by simp [go_sem]
theorem fl123_3 : FldT Try.prog 123 3 3 := fun b o w => by simp [go_sem]
theorem fl142_0 : FldT Try.prog 142 0 0 := fun b o w => by simp [go_sem]
theorem fl142_1 : FldT Try.prog 142 1 1 := fun b o w => by simp [go_sem]
theorem fl144_0 : FldT Try.prog 144 0 0 := fun b o w => by simp [go_sem]
theorem fl144_1 : FldT Try.prog 144 1 1 := fun b o w => by simp [go_sem]
theorem fl144_2 : FldT Try.prog 144 2 3 := fun b o w => by simp [go_sem]
theorem fl144_3 : FldT Try.prog 144 3 4 := fun b o w => by simp [go_sem]
theorem fl146_0 : FldT Try.prog 146 0 0 := fun b o w => by simp [go_sem]
theorem fl146_1 : FldT Try.prog 146 1 1 := fun b o w => by simp [go_sem]
theorem fl146_2 : FldT Try.prog 146 2 2 := fun b o w => by simp [go_sem]
theorem fl146_3 : FldT Try.prog 146 3 3 := fun b o w => by simp [go_sem]
theorem fl148_0 : FldT Try.prog 148 0 0 := fun b o w => by simp [go_sem]
theorem fl148_1 : FldT Try.prog 148 1 1 := fun b o w => by simp [go_sem]
end Go.Proofs.Ytgafkiapefdkdaa
