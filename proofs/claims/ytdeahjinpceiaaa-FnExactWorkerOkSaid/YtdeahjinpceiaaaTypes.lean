/- What is known of the types of the translated program; no condition. -/
import Derived.Test.YtdeahjinpceiaaaModel
import Derived.Test.YtdeahjinpceiaaaProg
namespace Go.Proofs.Ytdeahjinpceiaaa
open Go Go.Proofs.Ytdeahjinpceiaaa.X Go.Proofs
theorem mixed : Try.prog.follows .mixedOrders = true := by kernel_rfl
theorem st24 : StT Try.prog 24 3 [.slice none 0 0, .int .i64 0, .int .i64 0] := ⟨fun _ => by kernel_rfl, fun _ => by kernel_rfl, fun _ => by kernel_rfl⟩
theorem st31 : StT Try.prog 31 8 [.slice none 0 0, .slice none 0 0, .slice none 0 0, .slice none 0 0, .slice none 0 0, .slice none 0 0, .slice none 0 0, .slice none 0 0] := ⟨fun _ => by kernel_rfl, fun _ => by kernel_rfl, fun _ => by kernel_rfl⟩
theorem st37 : StT Try.prog 37 3 [.slice none 0 0, .int .i64 0, .int .i64 0] := ⟨fun _ => by kernel_rfl, fun _ => by kernel_rfl, fun _ => by kernel_rfl⟩
theorem st43 : StT Try.prog 43 8 [.slice none 0 0, .slice none 0 0, .slice none 0 0, .slice none 0 0, .slice none 0 0, .slice none 0 0, .slice none 0 0, .slice none 0 0] := ⟨fun _ => by kernel_rfl, fun _ => by kernel_rfl, fun _ => by kernel_rfl⟩
theorem st57 : StT Try.prog 57 2 [.int .i64 0, .int .i64 0] := ⟨fun _ => by kernel_rfl, fun _ => by kernel_rfl, fun _ => by kernel_rfl⟩
theorem st59 : StT Try.prog 59 5 [.int .i64 0, .int .i64 0, .int .i64 0, .int .i64 0, .int .i64 0] := ⟨fun _ => by kernel_rfl, fun _ => by kernel_rfl, fun _ => by kernel_rfl⟩
theorem st62 : StT Try.prog 62 2 [.int .i64 0, .bool false] := ⟨fun _ => by kernel_rfl, fun _ => by kernel_rfl, fun _ => by kernel_rfl⟩
theorem st78 : StT Try.prog 78 4 [.int .i64 0, .int .i64 0, .int .i64 0, .slice none 0 0] := ⟨fun _ => by kernel_rfl, fun _ => by kernel_rfl, fun _ => by kernel_rfl⟩
theorem st82 : StT Try.prog 82 4 [.int .i64 0, .int .i64 0, .int .i64 0, .int .i64 0] := ⟨fun _ => by kernel_rfl, fun _ => by kernel_rfl, fun _ => by kernel_rfl⟩
theorem st83 : StT Try.prog 83 4 [.int .i64 0, .int .i64 0, .int .i64 0, .slice none 0 0] := ⟨fun _ => by kernel_rfl, fun _ => by kernel_rfl, fun _ => by kernel_rfl⟩
theorem st86 : StT Try.prog 86 2 [.int .i64 0, .int .i64 0] := ⟨fun _ => by kernel_rfl, fun _ => by kernel_rfl, fun _ => by kernel_rfl⟩
theorem st88 : StT Try.prog 88 5 [.int .i64 0, .int .i64 0, .int .i64 0, .int .i64 0, .int .i64 0] := ⟨fun _ => by kernel_rfl, fun _ => by kernel_rfl, fun _ => by kernel_rfl⟩
theorem st90 : StT Try.prog 90 4 [.int .i64 0, .int .i64 0, .int .i64 0, .int .i64 0] := ⟨fun _ => by kernel_rfl, fun _ => by kernel_rfl, fun _ => by kernel_rfl⟩
theorem st92 : StT Try.prog 92 2 [.int .i64 0, .bool false] := ⟨fun _ => by kernel_rfl, fun _ => by kernel_rfl, fun _ => by kernel_rfl⟩
theorem sc3 : ScT Try.prog 3 (.int .i64 0) := ⟨fun _ => by kernel_rfl, fun _ => by kernel_rfl, fun _ => by kernel_rfl, rfl⟩
theorem sc4 : ScT Try.prog 4 (.bool false) := ⟨fun _ => by kernel_rfl, fun _ => by kernel_rfl, fun _ => by kernel_rfl, rfl⟩
theorem sc22 : ScT Try.prog 22 (.slice none 0 0) := ⟨fun _ => by kernel_rfl, fun _ => by kernel_rfl, fun _ => by kernel_rfl, rfl⟩
theorem sc25 : ScT Try.prog 25 (.slice none 0 0) := ⟨fun _ => by kernel_rfl, fun _ => by kernel_rfl, fun _ => by kernel_rfl, rfl⟩
theorem sc26 : ScT Try.prog 26 (.slice none 0 0) := ⟨fun _ => by kernel_rfl, fun _ => by kernel_rfl, fun _ => by kernel_rfl, rfl⟩
theorem sc27 : ScT Try.prog 27 (.slice none 0 0) := ⟨fun _ => by kernel_rfl, fun _ => by kernel_rfl, fun _ => by kernel_rfl, rfl⟩
theorem sc28 : ScT Try.prog 28 (.slice none 0 0) := ⟨fun _ => by kernel_rfl, fun _ => by kernel_rfl, fun _ => by kernel_rfl, rfl⟩
theorem sc29 : ScT Try.prog 29 (.slice none 0 0) := ⟨fun _ => by kernel_rfl, fun _ => by kernel_rfl, fun _ => by kernel_rfl, rfl⟩
theorem sc35 : ScT Try.prog 35 (.slice none 0 0) := ⟨fun _ => by kernel_rfl, fun _ => by kernel_rfl, fun _ => by kernel_rfl, rfl⟩
theorem sc39 : ScT Try.prog 39 (.slice none 0 0) := ⟨fun _ => by kernel_rfl, fun _ => by kernel_rfl, fun _ => by kernel_rfl, rfl⟩
theorem sc40 : ScT Try.prog 40 (.slice none 0 0) := ⟨fun _ => by kernel_rfl, fun _ => by kernel_rfl, fun _ => by kernel_rfl, rfl⟩
theorem sc41 : ScT Try.prog 41 (.slice none 0 0) := ⟨fun _ => by kernel_rfl, fun _ => by kernel_rfl, fun _ => by kernel_rfl, rfl⟩
set_option maxRecDepth 20000 in
theorem sl22 : SlT Try.prog 22 78 4 48 [.int .i64 0, .int .i64 0, .int .i64 0, .slice none 0 0] := ⟨Try.underlying22, ⟨Try.t78, _, Try.type78, rfl, rfl, rfl, rfl⟩, by decide, rfl⟩
set_option maxRecDepth 20000 in
theorem sl25 : SlT Try.prog 25 88 5 40 [.int .i64 0, .int .i64 0, .int .i64 0, .int .i64 0, .int .i64 0] := ⟨Try.underlying25, ⟨Try.t88, _, Try.type88, rfl, rfl, rfl, rfl⟩, by decide, rfl⟩
set_option maxRecDepth 20000 in
theorem sl26 : SlT Try.prog 26 90 4 32 [.int .i64 0, .int .i64 0, .int .i64 0, .int .i64 0] := ⟨Try.underlying26, ⟨Try.t90, _, Try.type90, rfl, rfl, rfl, rfl⟩, by decide, rfl⟩
set_option maxRecDepth 20000 in
theorem sl27 : SlT Try.prog 27 3 1 8 [.int .i64 0] := ⟨Try.underlying27, ⟨Try.t3, _, Try.type3, rfl, rfl, rfl, rfl⟩, by decide, rfl⟩
set_option maxRecDepth 20000 in
theorem sl28 : SlT Try.prog 28 4 1 1 [.bool false] := ⟨Try.underlying28, ⟨Try.t4, _, Try.type4, rfl, rfl, rfl, rfl⟩, by decide, rfl⟩
set_option maxRecDepth 20000 in
theorem sl29 : SlT Try.prog 29 92 2 16 [.int .i64 0, .bool false] := ⟨Try.underlying29, ⟨Try.t92, _, Try.type92, rfl, rfl, rfl, rfl⟩, by decide, rfl⟩
set_option maxRecDepth 20000 in
theorem sl35 : SlT Try.prog 35 83 4 48 [.int .i64 0, .int .i64 0, .int .i64 0, .slice none 0 0] := ⟨Try.underlying35, ⟨Try.t83, _, Try.type83, rfl, rfl, rfl, rfl⟩, by decide, rfl⟩
set_option maxRecDepth 20000 in
theorem sl39 : SlT Try.prog 39 59 5 40 [.int .i64 0, .int .i64 0, .int .i64 0, .int .i64 0, .int .i64 0] := ⟨Try.underlying39, ⟨Try.t59, _, Try.type59, rfl, rfl, rfl, rfl⟩, by decide, rfl⟩
set_option maxRecDepth 20000 in
theorem sl40 : SlT Try.prog 40 82 4 32 [.int .i64 0, .int .i64 0, .int .i64 0, .int .i64 0] := ⟨Try.underlying40, ⟨Try.t82, _, Try.type82, rfl, rfl, rfl, rfl⟩, by decide, rfl⟩
set_option maxRecDepth 20000 in
theorem sl41 : SlT Try.prog 41 62 2 16 [.int .i64 0, .bool false] := ⟨Try.underlying41, ⟨Try.t62, _, Try.type62, rfl, rfl, rfl, rfl⟩, by decide, rfl⟩
theorem fl24_0 : FldT Try.prog 24 0 0 := fun b o w => by simp [go_sem]
theorem fl24_1 : FldT Try.prog 24 1 1 := fun b o w => by simp [go_sem]
theorem fl24_2 : FldT Try.prog 24 2 2 := fun b o w => by simp [go_sem]
theorem fl31_0 : FldT Try.prog 31 0 0 := fun b o w => by simp [go_sem]
theorem fl31_1 : FldT Try.prog 31 1 1 := fun b o w => by simp [go_sem]
theorem fl31_2 : FldT Try.prog 31 2 2 := fun b o w => by simp [go_sem]
theorem fl31_3 : FldT Try.prog 31 3 3 := fun b o w => by simp [go_sem]
theorem fl31_4 : FldT Try.prog 31 4 4 := fun b o w => by simp [go_sem]
theorem fl31_5 : FldT Try.prog 31 5 5 := fun b o w => by simp [go_sem]
theorem fl31_6 : FldT Try.prog 31 6 6 := fun b o w => by simp [go_sem]
theorem fl31_7 : FldT Try.prog 31 7 7 := fun b o w => by simp [go_sem]
theorem fl37_0 : FldT Try.prog 37 0 0 := fun b o w => by simp [go_sem]
theorem fl37_1 : FldT Try.prog 37 1 1 := fun b o w => by simp [go_sem]
theorem fl37_2 : FldT Try.prog 37 2 2 := fun b o w => by simp [go_sem]
theorem fl43_0 : FldT Try.prog 43 0 0 := fun b o w => by simp [go_sem]
theorem fl43_1 : FldT Try.prog 43 1 1 := fun b o w => by simp [go_sem]
theorem fl43_2 : FldT Try.prog 43 2 2 := fun b o w => by simp [go_sem]
theorem fl43_3 : FldT Try.prog 43 3 3 := fun b o w => by simp [go_sem]
theorem fl43_4 : FldT Try.prog 43 4 4 := fun b o w => by simp [go_sem]
theorem fl43_5 : FldT Try.prog 43 5 5 := fun b o w => by simp [go_sem]
theorem fl43_6 : FldT Try.prog 43 6 6 := fun b o w => by simp [go_sem]
theorem fl43_7 : FldT Try.prog 43 7 7 := fun b o w => by simp [go_sem]
theorem fl57_0 : FldT Try.prog 57 0 0 := fun b o w => by simp [go_sem]
theorem fl57_1 : FldT Try.prog 57 1 1 := fun b o w => by simp [go_sem]
theorem fl59_0 : FldT Try.prog 59 0 0 := fun b o w => by simp [go_sem]
theorem fl59_1 : FldT Try.prog 59 1 1 := fun b o w => by simp [go_sem]
theorem fl59_2 : FldT Try.prog 59 2 3 := fun b o w => by simp [go_sem]
theorem fl59_3 : FldT Try.prog 59 3 4 := fun b o w => by simp [go_sem]
theorem fl62_0 : FldT Try.prog 62 0 0 := fun b o w => by simp [go_sem]
theorem fl62_1 : FldT Try.prog 62 1 1 := fun b o w => by simp [go_sem]
theorem fl78_0 : FldT Try.prog 78 0 0 := fun b o w => by simp [go_sem]
theorem fl78_1 : FldT Try.prog 78 1 1 := fun b o w => by simp [go_sem]
theorem fl78_2 : FldT Try.prog 78 2 2 := fun b o w => by simp [go_sem]
theorem fl78_3 : FldT Try.prog 78 3 3 := fun b o w => by simp [go_sem]
theorem fl82_0 : FldT Try.prog 82 0 0 := fun b o w => by simp [go_sem]
theorem fl82_1 : FldT Try.prog 82 1 1 := fun b o w => by simp [go_sem]
theorem fl82_2 : FldT Try.prog 82 2 2 := fun b o w => by simp [go_sem]
theorem fl82_3 : FldT Try.prog 82 3 3 := fun b o w => by simp [go_sem]
theorem fl83_0 : FldT Try.prog 83 0 0 := fun b o w => by simp [go_sem]
theorem fl83_1 : FldT Try.prog 83 1 1 := fun b o w => by simp [go_sem]
theorem fl83_2 : FldT Try.prog 83 2 2 := fun b o w => by simp [go_sem]
theorem fl83_3 : FldT Try.prog 83 3 3 := fun b o w => by simp [go_sem]
theorem fl86_0 : FldT Try.prog 86 0 0 := fun b o w => by simp [go_sem]
theorem fl86_1 : FldT Try.prog 86 1 1 := fun b o w => by simp [go_sem]
theorem fl88_0 : FldT Try.prog 88 0 0 := fun b o w => by simp [go_sem]
theorem fl88_1 : FldT Try.prog 88 1 1 := fun b o w => by simp [go_sem]
theorem fl88_2 : FldT Try.prog 88 2 3 := fun b o w => by simp [go_sem]
theorem fl88_3 : FldT Try.prog 88 3 4 := fun b o w => by simp [go_sem]
theorem fl90_0 : FldT Try.prog 90 0 0 := fun b o w => by simp [go_sem]
theorem fl90_1 : FldT Try.prog 90 1 1 := fun b o w => by simp [go_sem]
theorem fl90_2 : FldT Try.prog 90 2 2 := fun b o w => by simp [go_sem]
theorem fl90_3 : FldT Try.prog 90 3 3 := fun b o w => by simp [go_sem]
theorem fl92_0 : FldT Try.prog 92 0 0 := fun b o w => by simp [go_sem]
theorem fl92_1 : FldT Try.prog 92 1 1 := fun b o w => by simp [go_sem]
end Go.Proofs.Ytdeahjinpceiaaa
