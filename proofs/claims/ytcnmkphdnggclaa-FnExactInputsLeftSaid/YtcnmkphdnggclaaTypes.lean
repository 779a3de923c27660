/- What is known of the types of the translated program; no condition. -/
import Derived.Test.YtcnmkphdnggclaaModel
import Derived.Test.YtcnmkphdnggclaaProg
namespace Go.Proofs.Ytcnmkphdnggclaa
open Go Go.Proofs.Ytcnmkphdnggclaa.X Go.Proofs
theorem mixed : Try.prog.follows .mixedOrders = true := by kernel_rfl
theorem st24 : StT Try.prog 24 3 [.slice none 0 0, .int .i64 0, .int .i64 0] := ⟨fun _ => by kernel_rfl, fun _ => by kernel_rfl, fun _ => by kernel_rfl⟩
theorem st30 : StT Try.prog 30 7 [.slice none 0 0, .int .i64 0, .int .i64 0, .slice none 0 0, .slice none 0 0, .slice none 0 0, .slice none 0 0] := ⟨fun _ => by kernel_rfl, fun _ => by kernel_rfl, fun _ => by kernel_rfl⟩
theorem st36 : StT Try.prog 36 3 [.slice none 0 0, .int .i64 0, .int .i64 0] := ⟨fun _ => by kernel_rfl, fun _ => by kernel_rfl, fun _ => by kernel_rfl⟩
theorem st42 : StT Try.prog 42 7 [.slice none 0 0, .int .i64 0, .int .i64 0, .slice none 0 0, .slice none 0 0, .slice none 0 0, .slice none 0 0] := ⟨fun _ => by kernel_rfl, fun _ => by kernel_rfl, fun _ => by kernel_rfl⟩
theorem st60 : StT Try.prog 60 8 [.slice none 0 0, .slice none 0 0, .slice none 0 0, .slice none 0 0, .slice none 0 0, .slice none 0 0, .slice none 0 0, .slice none 0 0] := ⟨fun _ => by kernel_rfl, fun _ => by kernel_rfl, fun _ => by kernel_rfl⟩
theorem st68 : StT Try.prog 68 2 [.int .i64 0, .int .i64 0] := ⟨fun _ => by kernel_rfl, fun _ => by kernel_rfl, fun _ => by kernel_rfl⟩
theorem st70 : StT Try.prog 70 5 [.int .i64 0, .int .i64 0, .int .i64 0, .int .i64 0, .int .i64 0] := ⟨fun _ => by kernel_rfl, fun _ => by kernel_rfl, fun _ => by kernel_rfl⟩
theorem st87 : StT Try.prog 87 8 [.slice none 0 0, .slice none 0 0, .slice none 0 0, .slice none 0 0, .slice none 0 0, .slice none 0 0, .slice none 0 0, .slice none 0 0] := ⟨fun _ => by kernel_rfl, fun _ => by kernel_rfl, fun _ => by kernel_rfl⟩
theorem st90 : StT Try.prog 90 6 [.int .i64 0, .slice none 0 0, .int .i64 0, .int .i64 0, .int .i64 0, .int .i64 0] := ⟨fun _ => by kernel_rfl, fun _ => by kernel_rfl, fun _ => by kernel_rfl⟩
theorem st94 : StT Try.prog 94 6 [.int .i64 0, .slice none 0 0, .int .i64 0, .int .i64 0, .int .i64 0, .int .i64 0] := ⟨fun _ => by kernel_rfl, fun _ => by kernel_rfl, fun _ => by kernel_rfl⟩
theorem st97 : StT Try.prog 97 5 [.bool false, .int .i64 0, .int .i64 0, .bool false, .bool false] := ⟨fun _ => by kernel_rfl, fun _ => by kernel_rfl, fun _ => by kernel_rfl⟩
theorem st99 : StT Try.prog 99 5 [.bool false, .int .i64 0, .int .i64 0, .bool false, .bool false] := ⟨fun _ => by kernel_rfl, fun _ => by kernel_rfl, fun _ => by kernel_rfl⟩
theorem st101 : StT Try.prog 101 3 [.int .i64 0, .int .i64 0, .bool false] := ⟨fun _ => by kernel_rfl, fun _ => by kernel_rfl, fun _ => by kernel_rfl⟩
theorem st103 : StT Try.prog 103 3 [.int .i64 0, .int .i64 0, .bool false] := ⟨fun _ => by kernel_rfl, fun _ => by kernel_rfl, fun _ => by kernel_rfl⟩
theorem st117 : StT Try.prog 117 4 [.int .i64 0, .int .i64 0, .int .i64 0, .slice none 0 0] := ⟨fun _ => by kernel_rfl, fun _ => by kernel_rfl, fun _ => by kernel_rfl⟩
theorem st121 : StT Try.prog 121 4 [.int .i64 0, .int .i64 0, .int .i64 0, .slice none 0 0] := ⟨fun _ => by kernel_rfl, fun _ => by kernel_rfl, fun _ => by kernel_rfl⟩
theorem st134 : StT Try.prog 134 4 [.int .i64 0, .int .i64 0, .int .i64 0, .int .i64 0] := ⟨fun _ => by kernel_rfl, fun _ => by kernel_rfl, fun _ => by kernel_rfl⟩
theorem st136 : StT Try.prog 136 2 [.int .i64 0, .bool false] := ⟨fun _ => by kernel_rfl, fun _ => by kernel_rfl, fun _ => by kernel_rfl⟩
theorem st138 : StT Try.prog 138 2 [.int .i64 0, .int .i64 0] := ⟨fun _ => by kernel_rfl, fun _ => by kernel_rfl, fun _ => by kernel_rfl⟩
theorem st140 : StT Try.prog 140 5 [.int .i64 0, .int .i64 0, .int .i64 0, .int .i64 0, .int .i64 0] := ⟨fun _ => by kernel_rfl, fun _ => by kernel_rfl, fun _ => by kernel_rfl⟩
theorem st142 : StT Try.prog 142 4 [.int .i64 0, .int .i64 0, .int .i64 0, .int .i64 0] := ⟨fun _ => by kernel_rfl, fun _ => by kernel_rfl, fun _ => by kernel_rfl⟩
theorem st144 : StT Try.prog 144 2 [.int .i64 0, .bool false] := ⟨fun _ => by kernel_rfl, fun _ => by kernel_rfl, fun _ => by kernel_rfl⟩
theorem sc3 : ScT Try.prog 3 (.int .i64 0) := ⟨fun _ => by kernel_rfl, fun _ => by kernel_rfl, fun _ => by kernel_rfl, rfl⟩
theorem sc4 : ScT Try.prog 4 (.bool false) := ⟨fun _ => by kernel_rfl, fun _ => by kernel_rfl, fun _ => by kernel_rfl, rfl⟩
theorem sc22 : ScT Try.prog 22 (.slice none 0 0) := ⟨fun _ => by kernel_rfl, fun _ => by kernel_rfl, fun _ => by kernel_rfl, rfl⟩
theorem sc25 : ScT Try.prog 25 (.slice none 0 0) := ⟨fun _ => by kernel_rfl, fun _ => by kernel_rfl, fun _ => by kernel_rfl, rfl⟩
theorem sc26 : ScT Try.prog 26 (.slice none 0 0) := ⟨fun _ => by kernel_rfl, fun _ => by kernel_rfl, fun _ => by kernel_rfl, rfl⟩
theorem sc27 : ScT Try.prog 27 (.slice none 0 0) := ⟨fun _ => by kernel_rfl, fun _ => by kernel_rfl, fun _ => by kernel_rfl, rfl⟩
theorem sc28 : ScT Try.prog 28 (.slice none 0 0) := ⟨fun _ => by kernel_rfl, fun _ => by kernel_rfl, fun _ => by kernel_rfl, rfl⟩
theorem sc32 : ScT Try.prog 32 (.slice none 0 0) := ⟨fun _ => by kernel_rfl, fun _ => by kernel_rfl, fun _ => by kernel_rfl, rfl⟩
theorem sc34 : ScT Try.prog 34 (.slice none 0 0) := ⟨fun _ => by kernel_rfl, fun _ => by kernel_rfl, fun _ => by kernel_rfl, rfl⟩
theorem sc37 : ScT Try.prog 37 (.slice none 0 0) := ⟨fun _ => by kernel_rfl, fun _ => by kernel_rfl, fun _ => by kernel_rfl, rfl⟩
theorem sc38 : ScT Try.prog 38 (.slice none 0 0) := ⟨fun _ => by kernel_rfl, fun _ => by kernel_rfl, fun _ => by kernel_rfl, rfl⟩
theorem sc39 : ScT Try.prog 39 (.slice none 0 0) := ⟨fun _ => by kernel_rfl, fun _ => by kernel_rfl, fun _ => by kernel_rfl, rfl⟩
theorem sc40 : ScT Try.prog 40 (.slice none 0 0) := ⟨fun _ => by kernel_rfl, fun _ => by kernel_rfl, fun _ => by kernel_rfl, rfl⟩
theorem sc55 : ScT Try.prog 55 (.slice none 0 0) := ⟨fun _ => by kernel_rfl, fun _ => by kernel_rfl, fun _ => by kernel_rfl, rfl⟩
theorem sc56 : ScT Try.prog 56 (.slice none 0 0) := ⟨fun _ => by kernel_rfl, fun _ => by kernel_rfl, fun _ => by kernel_rfl, rfl⟩
theorem sc57 : ScT Try.prog 57 (.slice none 0 0) := ⟨fun _ => by kernel_rfl, fun _ => by kernel_rfl, fun _ => by kernel_rfl, rfl⟩
theorem sc58 : ScT Try.prog 58 (.slice none 0 0) := ⟨fun _ => by kernel_rfl, fun _ => by kernel_rfl, fun _ => by kernel_rfl, rfl⟩
theorem sc83 : ScT Try.prog 83 (.slice none 0 0) := ⟨fun _ => by kernel_rfl, fun _ => by kernel_rfl, fun _ => by kernel_rfl, rfl⟩
theorem sc84 : ScT Try.prog 84 (.slice none 0 0) := ⟨fun _ => by kernel_rfl, fun _ => by kernel_rfl, fun _ => by kernel_rfl, rfl⟩
theorem sc85 : ScT Try.prog 85 (.slice none 0 0) := ⟨fun _ => by kernel_rfl, fun _ => by kernel_rfl, fun _ => by kernel_rfl, rfl⟩
set_option maxRecDepth 20000 in
theorem sl22 : SlT Try.prog 22 117 4 48 [.int .i64 0, .int .i64 0, .int .i64 0, .slice none 0 0] := ⟨Try.underlying22, ⟨Try.t117, _, Try.type117, rfl, rfl, rfl, rfl⟩, by decide, rfl⟩
set_option maxRecDepth 20000 in
theorem sl25 : SlT Try.prog 25 87 8 192 [.slice none 0 0, .slice none 0 0, .slice none 0 0, .slice none 0 0, .slice none 0 0, .slice none 0 0, .slice none 0 0, .slice none 0 0] := ⟨Try.underlying25, ⟨Try.t87, _, Try.type87, rfl, rfl, rfl, rfl⟩, by decide, rfl⟩
set_option maxRecDepth 20000 in
theorem sl26 : SlT Try.prog 26 90 6 64 [.int .i64 0, .slice none 0 0, .int .i64 0, .int .i64 0, .int .i64 0, .int .i64 0] := ⟨Try.underlying26, ⟨Try.t90, _, Try.type90, rfl, rfl, rfl, rfl⟩, by decide, rfl⟩
set_option maxRecDepth 20000 in
theorem sl27 : SlT Try.prog 27 99 5 32 [.bool false, .int .i64 0, .int .i64 0, .bool false, .bool false] := ⟨Try.underlying27, ⟨Try.t99, _, Try.type99, rfl, rfl, rfl, rfl⟩, by decide, rfl⟩
set_option maxRecDepth 20000 in
theorem sl28 : SlT Try.prog 28 103 3 24 [.int .i64 0, .int .i64 0, .bool false] := ⟨Try.underlying28, ⟨Try.t103, _, Try.type103, rfl, rfl, rfl, rfl⟩, by decide, rfl⟩
set_option maxRecDepth 20000 in
theorem sl32 : SlT Try.prog 32 70 5 40 [.int .i64 0, .int .i64 0, .int .i64 0, .int .i64 0, .int .i64 0] := ⟨Try.underlying32, ⟨Try.t70, _, Try.type70, rfl, rfl, rfl, rfl⟩, by decide, rfl⟩
set_option maxRecDepth 20000 in
theorem sl34 : SlT Try.prog 34 121 4 48 [.int .i64 0, .int .i64 0, .int .i64 0, .slice none 0 0] := ⟨Try.underlying34, ⟨Try.t121, _, Try.type121, rfl, rfl, rfl, rfl⟩, by decide, rfl⟩
set_option maxRecDepth 20000 in
theorem sl37 : SlT Try.prog 37 60 8 192 [.slice none 0 0, .slice none 0 0, .slice none 0 0, .slice none 0 0, .slice none 0 0, .slice none 0 0, .slice none 0 0, .slice none 0 0] := ⟨Try.underlying37, ⟨Try.t60, _, Try.type60, rfl, rfl, rfl, rfl⟩, by decide, rfl⟩
set_option maxRecDepth 20000 in
theorem sl38 : SlT Try.prog 38 94 6 64 [.int .i64 0, .slice none 0 0, .int .i64 0, .int .i64 0, .int .i64 0, .int .i64 0] := ⟨Try.underlying38, ⟨Try.t94, _, Try.type94, rfl, rfl, rfl, rfl⟩, by decide, rfl⟩
set_option maxRecDepth 20000 in
theorem sl39 : SlT Try.prog 39 97 5 32 [.bool false, .int .i64 0, .int .i64 0, .bool false, .bool false] := ⟨Try.underlying39, ⟨Try.t97, _, Try.type97, rfl, rfl, rfl, rfl⟩, by decide, rfl⟩
set_option maxRecDepth 20000 in
theorem sl40 : SlT Try.prog 40 101 3 24 [.int .i64 0, .int .i64 0, .bool false] := ⟨Try.underlying40, ⟨Try.t101, _, Try.type101, rfl, rfl, rfl, rfl⟩, by decide, rfl⟩
set_option maxRecDepth 20000 in
theorem sl55 : SlT Try.prog 55 134 4 32 [.int .i64 0, .int .i64 0, .int .i64 0, .int .i64 0] := ⟨Try.underlying55, ⟨Try.t134, _, Try.type134, rfl, rfl, rfl, rfl⟩, by decide, rfl⟩
set_option maxRecDepth 20000 in
theorem sl56 : SlT Try.prog 56 3 1 8 [.int .i64 0] := ⟨Try.underlying56, ⟨Try.t3, _, Try.type3, rfl, rfl, rfl, rfl⟩, by decide, rfl⟩
set_option maxRecDepth 20000 in
theorem sl57 : SlT Try.prog 57 4 1 1 [.bool false] := ⟨Try.underlying57, ⟨Try.t4, _, Try.type4, rfl, rfl, rfl, rfl⟩, by decide, rfl⟩
set_option maxRecDepth 20000 in
theorem sl58 : SlT Try.prog 58 136 2 16 [.int .i64 0, .bool false] := ⟨Try.underlying58, ⟨Try.t136, _, Try.type136, rfl, rfl, rfl, rfl⟩, by decide, rfl⟩
set_option maxRecDepth 20000 in
theorem sl83 : SlT Try.prog 83 140 5 40 [.int .i64 0, .int .i64 0, .int .i64 0, .int .i64 0, .int .i64 0] := ⟨Try.underlying83, ⟨Try.t140, _, Try.type140, rfl, rfl, rfl, rfl⟩, by decide, rfl⟩
set_option maxRecDepth 20000 in
theorem sl84 : SlT Try.prog 84 142 4 32 [.int .i64 0, .int .i64 0, .int .i64 0, .int .i64 0] := ⟨Try.underlying84, ⟨Try.t142, _, Try.type142, rfl, rfl, rfl, rfl⟩, by decide, rfl⟩
set_option maxRecDepth 20000 in
theorem sl85 : SlT Try.prog 85 144 2 16 [.int .i64 0, .bool false] := ⟨Try.underlying85, ⟨Try.t144, _, Try.type144, rfl, rfl, rfl, rfl⟩, by decide, rfl⟩
theorem fl24_0 : FldT Try.prog 24 0 0 := fun b o w => by simp [go_sem]
theorem fl24_1 : FldT Try.prog 24 1 1 := fun b o w => by simp [go_sem]
theorem fl24_2 : FldT Try.prog 24 2 2 := fun b o w => by simp [go_sem]
theorem fl30_0 : FldT Try.prog 30 0 0 := fun b o w => by simp [go_sem]
theorem fl30_1 : FldT Try.prog 30 1 3 := fun b o w => by simp [go_sem]
theorem fl30_2 : FldT Try.prog 30 2 4 := fun b o w => by simp [go_sem]
theorem fl30_3 : FldT Try.prog 30 3 5 := fun b o w => by simp [go_sem]
theorem fl30_4 : FldT Try.prog 30 4 6 := fun b o w => by simp [go_sem]
theorem fl36_0 : FldT Try.prog 36 0 0 := fun b o w => by simp [go_sem]
theorem fl36_1 : FldT Try.prog 36 1 1 := fun b o w => by simp [go_sem]
theorem fl36_2 : FldT Try.prog 36 2 2 := fun b o w => by simp [go_sem]
theorem fl42_0 : FldT Try.prog 42 0 0 := fun b o w => by simp [go_sem]
theorem fl42_1 : FldT Try.prog 42 1 3 := fun b o w => by simp [go_sem]
theorem fl42_2 : FldT Try.prog 42 2 4 := fun b o w => by simp [go_sem]
theorem fl42_3 : FldT Try.prog 42 3 5 := fun b o w => by simp [go_sem]
theorem fl42_4 : FldT Try.prog 42 4 6 := fun b o w => by simp [go_sem]
theorem fl60_0 : FldT Try.prog 60 0 0 := fun b o w => by simp [go_sem]
theorem fl60_1 : FldT Try.prog 60 1 1 := fun b o w => by simp [go_sem]
theorem fl60_2 : FldT Try.prog 60 2 2 := fun b o w => by simp [go_sem]
theorem fl60_3 : FldT Try.prog 60 3 3 := fun b o w => by simp [go_sem]
theorem fl60_4 : FldT Try.prog 60 4 4 := fun b o w => by simp [go_sem]
theorem fl60_5 : FldT Try.prog 60 5 5 := fun b o w => by simp [go_sem]
theorem fl60_6 : FldT Try.prog 60 6 6 := fun b o w => by simp [go_sem]
theorem fl60_7 : FldT Try.prog 60 7 7 := fun b o w => by simp [go_sem]
theorem fl68_0 : FldT Try.prog 68 0 0 := fun b o w => by simp [go_sem]
theorem fl68_1 : FldT Try.prog 68 1 1 := fun b o w => by simp [go_sem]
theorem fl70_0 : FldT Try.prog 70 0 0 := fun b o w => by simp [go_sem]
theorem fl70_1 : FldT Try.prog 70 1 1 := fun b o w => by simp [go_sem]
theorem fl70_2 : FldT Try.prog 70 2 3 := fun b o w => by simp [go_sem]
theorem fl70_3 : FldT Try.prog 70 3 4 := fun b o w => by simp [go_sem]
theorem fl87_0 : FldT Try.prog 87 0 0 := fun b o w => by simp [go_sem]
theorem fl87_1 : FldT Try.prog 87 1 1 := fun b o w => by simp [go_sem]
theorem fl87_2 : FldT Try.prog 87 2 2 := fun b o w => by simp [go_sem]
theorem fl87_3 : FldT Try.prog 87 3 3 := fun b o w => by simp [go_sem]
theorem fl87_4 : FldT Try.prog 87 4 4 := fun b o w => by simp [go_sem]
theorem fl87_5 : FldT Try.prog 87 5 5 := fun b o w => by simp [go_sem]
theorem fl87_6 : FldT Try.prog 87 6 6 := fun b o w => by simp [go_sem]
theorem fl87_7 : FldT Try.prog 87 7 7 := fun b o w => by simp [go_sem]
theorem fl90_0 : FldT Try.prog 90 0 0 := fun b o w => by simp [go_sem]
theorem fl90_1 : FldT Try.prog 90 1 1 := fun b o w => by simp [go_sem]
theorem fl90_2 : FldT Try.prog 90 2 2 := fun b o w => by simp [go_sem]
theorem fl90_3 : FldT Try.prog 90 3 3 := fun b o w => by simp [go_sem]
theorem fl90_4 : FldT Try.prog 90 4 4 := fun b o w => by simp [go_sem]
theorem fl90_5 : FldT Try.prog 90 5 5 := fun b o w => by simp [go_sem]
theorem fl94_0 : FldT Try.prog 94 0 0 := fun b o w => by simp [go_sem]
theorem fl94_1 : FldT Try.prog 94 1 1 := fun b o w => by simp [go_sem]
theorem fl94_2 : FldT Try.prog 94 2 2 := fun b o w => by simp [go_sem]
theorem fl94_3 : FldT Try.prog 94 3 3 := fun b o w => by simp [go_sem]
theorem fl94_4 : FldT Try.prog 94 4 4 := fun b o w => by simp [go_sem]
theorem fl94_5 : FldT Try.prog 94 5 5 := fun b o w => by simp [go_sem]
theorem fl97_0 : FldT Try.prog 97 0 0 := fun b o w => by simp [go_sem]
theorem fl97_1 : FldT Try.prog 97 1 1 := fun b o w => by simp [go_sem]
theorem fl97_2 : FldT Try.prog 97 2 2 := fun b o w => by simp [go_sem]
theorem fl97_3 : FldT Try.prog 97 3 3 := fun b o w => by simp [go_sem]
theorem fl97_4 : FldT Try.prog 97 4 4 := fun b o w => by simp [go_sem]
theorem fl99_0 : FldT Try.prog 99 0 0 := fun b o w => by simp [go_sem]
theorem fl99_1 : FldT Try.prog 99 1 1 := fun b o w => by simp [go_sem]
theorem fl99_2 : FldT Try.prog 99 2 2 := fun b o w => by simp [go_sem]
theorem fl99_3 : FldT Try.prog 99 3 3 := fun b o w => by simp [go_sem]
theorem fl99_4 : FldT Try.prog 99 4 4 := fun b o w => by simp [go_sem]
theorem fl101_0 : FldT Try.prog 101 0 0 := fun b o w => by simp [go_sem]
theorem fl101_1 : FldT Try.prog 101 1 1 := fun b o w => by simp [go_sem]
theorem fl101_2 : FldT Try.prog 101 2 2 := fun b o w => by simp [go_sem]
theorem fl103_0 : FldT Try.prog 103 0 0 := fun b o w => by simp [go_sem]
theorem fl103_1 : FldT Try.prog 103 1 1 := fun b o w => by simp [go_sem]
theorem fl103_2 : FldT Try.prog 103 2 2 := fun b o w => by simp [go_sem]
theorem fl117_0 : FldT Try.prog 117 0 0 := fun b o w => by simp [go_sem]
theorem fl117_1 : FldT Try.prog 117 1 1 := fun b o w => by simp [go_sem]
theorem fl117_2 : FldT Try.prog 117 2 2 := fun b o w => by simp [go_sem]
theorem fl117_3 : FldT Try.prog 117 3 3 := fun b o w => by simp [go_sem]
theorem fl121_0 : FldT Try.prog 121 0 0 := fun b o w => by simp [go_sem]
theorem fl121_1 : FldT Try.prog 121 1 1 := fun b o w => by simp [go_sem]
theorem fl121_2 : FldT Try.prog 121 2 2 := fun b o w => by simp [go_sem]
theorem fl121_3 : FldT Try.prog 121 3 3 := fun b o w => by simp [go_sem]
theorem fl134_0 : FldT Try.prog 134 0 0 := fun b o w => by simp [go_sem]
theorem fl134_1 : FldT Try.prog 134 1 1 := fun b o w => by simp [go_sem]
theorem fl134_2 : FldT Try.prog 134 2 2 := fun b o w => by simp [go_sem]
theorem fl134_3 : FldT Try.prog 134 3 3 := fun b o w => by simp [go_sem]
theorem fl136_0 : FldT Try.prog 136 0 0 := fun b o w => by simp [go_sem]
theorem fl136_1 : FldT Try.prog 136 1 1 := fun b o w => by simp [go_sem]
theorem fl138_0 : FldT Try.prog 138 0 0 := fun b o w => by simp [go_sem]
theorem fl138_1 : FldT Try.prog 138 1 1 := fun b o w => by simp [go_sem]
theorem fl140_0 : FldT Try.prog 140 0 0 := fun b o w => by simp [go_sem]
theorem fl140_1 : FldT Try.prog 140 1 1 := fun b o w => by simp [go_sem]
theorem fl140_2 : FldT Try.prog 140 2 3 := fun b o w => by simp [go_sem]
theorem fl140_3 : FldT Try.prog 140 3 4 := fun b o w => by simp [go_sem]
theorem fl142_0 : FldT Try.prog 142 0 0 := fun b o w => by simp [go_sem]
theorem fl142_1 : FldT Try.prog 142 1 1 := fun b o w => by simp [go_sem]
theorem fl142_2 : FldT Try.prog 142 2 2 := fun b o w => by simp [go_sem]
theorem fl142_3 : FldT Try.prog 142 3 3 := fun b o w => by simp [go_sem]
theorem fl144_0 : FldT Try.prog 144 0 0 := fun b o w => by simp [go_sem]
theorem fl144_1 : FldT Try.prog 144 1 1 := fun b o w => by simp [go_sem]
end Go.Proofs.Ytcnmkphdnggclaa
