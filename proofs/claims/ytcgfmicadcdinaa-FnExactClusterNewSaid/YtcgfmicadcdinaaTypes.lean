/- What is known of the types of the translated program; no condition. -/
import Derived.Test.YtcgfmicadcdinaaModel
import Derived.Test.YtcgfmicadcdinaaProg
namespace Go.Proofs.Ytcgfmicadcdinaa
open Go Go.Proofs.Ytcgfmicadcdinaa.X Go.Proofs
theorem mixed : Try.prog.follows .mixedOrders = true := by kernel_rfl
theorem st24 : StT Try.prog 24 3 [.slice none 0 0, .int .i64 0, .int .i64 0] := ⟨fun _ => by kernel_rfl, fun _ => by kernel_rfl, fun _ => by kernel_rfl⟩
theorem st30 : StT Try.prog 30 3 [.slice none 0 0, .int .i64 0, .int .i64 0] := ⟨fun _ => by kernel_rfl, fun _ => by kernel_rfl, fun _ => by kernel_rfl⟩
theorem st36 : StT Try.prog 36 7 [.slice none 0 0, .int .i64 0, .int .i64 0, .slice none 0 0, .slice none 0 0, .slice none 0 0, .slice none 0 0] := ⟨fun _ => by kernel_rfl, fun _ => by kernel_rfl, fun _ => by kernel_rfl⟩
theorem st53 : StT Try.prog 53 2 [.int .i64 0, .int .i64 0] := ⟨fun _ => by kernel_rfl, fun _ => by kernel_rfl, fun _ => by kernel_rfl⟩
theorem st55 : StT Try.prog 55 5 [.int .i64 0, .int .i64 0, .int .i64 0, .int .i64 0, .int .i64 0] := ⟨fun _ => by kernel_rfl, fun _ => by kernel_rfl, fun _ => by kernel_rfl⟩
theorem st62 : StT Try.prog 62 8 [.slice none 0 0, .slice none 0 0, .slice none 0 0, .slice none 0 0, .slice none 0 0, .slice none 0 0, .slice none 0 0, .slice none 0 0] := ⟨fun _ => by kernel_rfl, fun _ => by kernel_rfl, fun _ => by kernel_rfl⟩
theorem st66 : StT Try.prog 66 6 [.int .i64 0, .slice none 0 0, .int .i64 0, .int .i64 0, .int .i64 0, .int .i64 0] := ⟨fun _ => by kernel_rfl, fun _ => by kernel_rfl, fun _ => by kernel_rfl⟩
theorem st70 : StT Try.prog 70 2 [.int .i64 0, .int .i64 0] := ⟨fun _ => by kernel_rfl, fun _ => by kernel_rfl, fun _ => by kernel_rfl⟩
theorem st72 : StT Try.prog 72 5 [.int .i64 0, .int .i64 0, .int .i64 0, .int .i64 0, .int .i64 0] := ⟨fun _ => by kernel_rfl, fun _ => by kernel_rfl, fun _ => by kernel_rfl⟩
theorem st88 : StT Try.prog 88 4 [.int .i64 0, .int .i64 0, .int .i64 0, .slice none 0 0] := ⟨fun _ => by kernel_rfl, fun _ => by kernel_rfl, fun _ => by kernel_rfl⟩
theorem st90 : StT Try.prog 90 4 [.int .i64 0, .int .i64 0, .int .i64 0, .slice none 0 0] := ⟨fun _ => by kernel_rfl, fun _ => by kernel_rfl, fun _ => by kernel_rfl⟩
theorem st103 : StT Try.prog 103 5 [.bool false, .int .i64 0, .int .i64 0, .bool false, .bool false] := ⟨fun _ => by kernel_rfl, fun _ => by kernel_rfl, fun _ => by kernel_rfl⟩
theorem st106 : StT Try.prog 106 3 [.int .i64 0, .int .i64 0, .bool false] := ⟨fun _ => by kernel_rfl, fun _ => by kernel_rfl, fun _ => by kernel_rfl⟩
theorem st119 : StT Try.prog 119 4 [.int .i64 0, .int .i64 0, .int .i64 0, .int .i64 0] := ⟨fun _ => by kernel_rfl, fun _ => by kernel_rfl, fun _ => by kernel_rfl⟩
theorem st121 : StT Try.prog 121 2 [.int .i64 0, .bool false] := ⟨fun _ => by kernel_rfl, fun _ => by kernel_rfl, fun _ => by kernel_rfl⟩
theorem sc3 : ScT Try.prog 3 (.int .i64 0) := ⟨fun _ => by kernel_rfl, fun _ => by kernel_rfl, fun _ => by kernel_rfl, rfl⟩
theorem sc4 : ScT Try.prog 4 (.bool false) := ⟨fun _ => by kernel_rfl, fun _ => by kernel_rfl, fun _ => by kernel_rfl, rfl⟩
theorem sc22 : ScT Try.prog 22 (.slice none 0 0) := ⟨fun _ => by kernel_rfl, fun _ => by kernel_rfl, fun _ => by kernel_rfl, rfl⟩
theorem sc28 : ScT Try.prog 28 (.slice none 0 0) := ⟨fun _ => by kernel_rfl, fun _ => by kernel_rfl, fun _ => by kernel_rfl, rfl⟩
theorem sc31 : ScT Try.prog 31 (.slice none 0 0) := ⟨fun _ => by kernel_rfl, fun _ => by kernel_rfl, fun _ => by kernel_rfl, rfl⟩
theorem sc32 : ScT Try.prog 32 (.slice none 0 0) := ⟨fun _ => by kernel_rfl, fun _ => by kernel_rfl, fun _ => by kernel_rfl, rfl⟩
theorem sc33 : ScT Try.prog 33 (.slice none 0 0) := ⟨fun _ => by kernel_rfl, fun _ => by kernel_rfl, fun _ => by kernel_rfl, rfl⟩
theorem sc34 : ScT Try.prog 34 (.slice none 0 0) := ⟨fun _ => by kernel_rfl, fun _ => by kernel_rfl, fun _ => by kernel_rfl, rfl⟩
theorem sc40 : ScT Try.prog 40 (.slice none 0 0) := ⟨fun _ => by kernel_rfl, fun _ => by kernel_rfl, fun _ => by kernel_rfl, rfl⟩
theorem sc57 : ScT Try.prog 57 (.slice none 0 0) := ⟨fun _ => by kernel_rfl, fun _ => by kernel_rfl, fun _ => by kernel_rfl, rfl⟩
theorem sc58 : ScT Try.prog 58 (.slice none 0 0) := ⟨fun _ => by kernel_rfl, fun _ => by kernel_rfl, fun _ => by kernel_rfl, rfl⟩
theorem sc59 : ScT Try.prog 59 (.slice none 0 0) := ⟨fun _ => by kernel_rfl, fun _ => by kernel_rfl, fun _ => by kernel_rfl, rfl⟩
theorem sc60 : ScT Try.prog 60 (.slice none 0 0) := ⟨fun _ => by kernel_rfl, fun _ => by kernel_rfl, fun _ => by kernel_rfl, rfl⟩
set_option maxRecDepth 20000 in
theorem sl22 : SlT Try.prog 22 88 4 48 [.int .i64 0, .int .i64 0, .int .i64 0, .slice none 0 0] := ⟨Try.underlying22, ⟨Try.t88, _, Try.type88, rfl, rfl, rfl, rfl⟩, by decide, rfl⟩
set_option maxRecDepth 20000 in
theorem sl25 : SlT Try.prog 25 72 5 40 [.int .i64 0, .int .i64 0, .int .i64 0, .int .i64 0, .int .i64 0] := ⟨Try.underlying25, ⟨Try.t72, _, Try.type72, rfl, rfl, rfl, rfl⟩, by decide, rfl⟩
set_option maxRecDepth 20000 in
theorem sl28 : SlT Try.prog 28 90 4 48 [.int .i64 0, .int .i64 0, .int .i64 0, .slice none 0 0] := ⟨Try.underlying28, ⟨Try.t90, _, Try.type90, rfl, rfl, rfl, rfl⟩, by decide, rfl⟩
set_option maxRecDepth 20000 in
theorem sl31 : SlT Try.prog 31 62 8 192 [.slice none 0 0, .slice none 0 0, .slice none 0 0, .slice none 0 0, .slice none 0 0, .slice none 0 0, .slice none 0 0, .slice none 0 0] := ⟨Try.underlying31, ⟨Try.t62, _, Try.type62, rfl, rfl, rfl, rfl⟩, by decide, rfl⟩
set_option maxRecDepth 20000 in
theorem sl32 : SlT Try.prog 32 66 6 64 [.int .i64 0, .slice none 0 0, .int .i64 0, .int .i64 0, .int .i64 0, .int .i64 0] := ⟨Try.underlying32, ⟨Try.t66, _, Try.type66, rfl, rfl, rfl, rfl⟩, by decide, rfl⟩
set_option maxRecDepth 20000 in
theorem sl33 : SlT Try.prog 33 103 5 32 [.bool false, .int .i64 0, .int .i64 0, .bool false, .bool false] := ⟨Try.underlying33, ⟨Try.t103, _, Try.type103, rfl, rfl, rfl, rfl⟩, by decide, rfl⟩
set_option maxRecDepth 20000 in
theorem sl34 : SlT Try.prog 34 106 3 24 [.int .i64 0, .int .i64 0, .bool false] := ⟨Try.underlying34, ⟨Try.t106, _, Try.type106, rfl, rfl, rfl, rfl⟩, by decide, rfl⟩
set_option maxRecDepth 20000 in
theorem sl40 : SlT Try.prog 40 55 5 40 [.int .i64 0, .int .i64 0, .int .i64 0, .int .i64 0, .int .i64 0] := ⟨Try.underlying40, ⟨Try.t55, _, Try.type55, rfl, rfl, rfl, rfl⟩, by decide, rfl⟩
set_option maxRecDepth 20000 in
theorem sl57 : SlT Try.prog 57 119 4 32 [.int .i64 0, .int .i64 0, .int .i64 0, .int .i64 0] := ⟨Try.underlying57, ⟨Try.t119, _, Try.type119, rfl, rfl, rfl, rfl⟩, by decide, rfl⟩
set_option maxRecDepth 20000 in
theorem sl58 : SlT Try.prog 58 3 1 8 [.int .i64 0] := ⟨Try.underlying58, ⟨Try.t3, _, Try.type3, rfl, rfl, rfl, rfl⟩, by decide, rfl⟩
set_option maxRecDepth 20000 in
theorem sl59 : SlT Try.prog 59 4 1 1 [.bool false] := ⟨Try.underlying59, ⟨Try.t4, _, Try.type4, rfl, rfl, rfl, rfl⟩, by decide, rfl⟩
set_option maxRecDepth 20000 in
theorem sl60 : SlT Try.prog 60 121 2 16 [.int .i64 0, .bool false] := ⟨Try.underlying60, ⟨Try.t121, _, Try.type121, rfl, rfl, rfl, rfl⟩, by decide, rfl⟩
theorem fl24_0 : FldT Try.prog 24 0 0 := fun b o w => by simp [go_sem]
theorem fl24_1 : FldT Try.prog 24 1 1 := fun b o w => by simp [go_sem]
theorem fl24_2 : FldT Try.prog 24 2 2 := fun b o w => by simp [go_sem]
theorem fl30_0 : FldT Try.prog 30 0 0 := fun b o w => by simp [go_sem]
theorem fl30_1 : FldT Try.prog 30 1 1 := fun b o w => by simp [go_sem]
theorem fl30_2 : FldT Try.prog 30 2 2 := fun b o w => by simp [go_sem]
theorem fl36_0 : FldT Try.prog 36 0 0 := fun b o w => by simp [go_sem]
theorem fl36_1 : FldT Try.prog 36 1 3 := fun b o w => by simp [go_sem]
theorem fl36_2 : FldT Try.prog 36 2 4 := fun b o w => by simp [go_sem]
theorem fl36_3 : FldT Try.prog 36 3 5 := fun b o w => by simp [go_sem]
theorem fl36_4 : FldT Try.prog 36 4 6 := fun b o w => by simp [go_sem]
theorem fl53_0 : FldT Try.prog 53 0 0 := fun b o w => by simp [go_sem]
theorem fl53_1 : FldT Try.prog 53 1 1 := fun b o w => by simp [go_sem]
theorem fl55_0 : FldT Try.prog 55 0 0 := fun b o w => by simp [go_sem]
theorem fl55_1 : FldT Try.prog 55 1 1 := fun b o w => by simp [go_sem]
theorem fl55_2 : FldT Try.prog 55 2 3 := fun b o w => by simp [go_sem]
theorem fl55_3 : FldT Try.prog 55 3 4 := fun b o w => by simp [go_sem]
theorem fl62_0 : FldT Try.prog 62 0 0 := fun b o w => by simp [go_sem]
theorem fl62_1 : FldT Try.prog 62 1 1 := fun b o w => by simp [go_sem]
theorem fl62_2 : FldT Try.prog 62 2 2 := fun b o w => by simp [go_sem]
theorem fl62_3 : FldT Try.prog 62 3 3 := fun b o w => by simp [go_sem]
theorem fl62_4 : FldT Try.prog 62 4 4 := fun b o w => by simp [go_sem]
theorem fl62_5 : FldT Try.prog 62 5 5 := fun b o w => by simp [go_sem]
theorem fl62_6 : FldT Try.prog 62 6 6 := fun b o w => by simp [go_sem]
theorem fl62_7 : FldT Try.prog 62 7 7 := fun b o w => by simp [go_sem]
theorem fl66_0 : FldT Try.prog 66 0 0 := fun b o w => by simp [go_sem]
theorem fl66_1 : FldT Try.prog 66 1 1 := fun b o w => by simp [go_sem]
theorem fl66_2 : FldT Try.prog 66 2 2 := fun b o w => by simp [go_sem]
theorem fl66_3 : FldT Try.prog 66 3 3 := fun b o w => by simp [go_sem]
theorem fl66_4 : FldT Try.prog 66 4 4 := fun b o w => by simp [go_sem]
theorem fl66_5 : FldT Try.prog 66 5 5 := fun b o w => by simp [go_sem]
theorem fl70_0 : FldT Try.prog 70 0 0 := fun b o w => by simp [go_sem]
theorem fl70_1 : FldT Try.prog 70 1 1 := fun b o w => by simp [go_sem]
theorem fl72_0 : FldT Try.prog 72 0 0 := fun b o w => by simp [go_sem]
theorem fl72_1 : FldT Try.prog 72 1 1 := fun b o w => by simp [go_sem]
theorem fl72_2 : FldT Try.prog 72 2 3 := fun b o w => by simp [go_sem]
theorem fl72_3 : FldT Try.prog 72 3 4 := fun b o w => by simp [go_sem]
theorem fl88_0 : FldT Try.prog 88 0 0 := fun b o w => by simp [go_sem]
theorem fl88_1 : FldT Try.prog 88 1 1 := fun b o w => by simp [go_sem]
theorem fl88_2 : FldT Try.prog 88 2 2 := fun b o w => by simp [go_sem]
theorem fl88_3 : FldT Try.prog 88 3 3 := fun b o w => by simp [go_sem]
theorem fl90_0 : FldT Try.prog 90 0 0 := fun b o w => by simp [go_sem]
theorem fl90_1 : FldT Try.prog 90 1 1 := fun b o w => by simp [go_sem]
theorem fl90_2 : FldT Try.prog 90 2 2 := fun b o w => by simp [go_sem]
theorem fl90_3 : FldT Try.prog 90 3 3 := fun b o w => by simp [go_sem]
theorem fl103_0 : FldT Try.prog 103 0 0 := fun b o w => by simp [go_sem]
theorem fl103_1 : FldT Try.prog 103 1 1 := fun b o w => by simp [go_sem]
theorem fl103_2 : FldT Try.prog 103 2 2 := fun b o w => by simp [go_sem]
theorem fl103_3 : FldT Try.prog 103 3 3 := fun b o w => by simp [go_sem]
theorem fl103_4 : FldT Try.prog 103 4 4 := fun b o w => by simp [go_sem]
theorem fl106_0 : FldT Try.prog 106 0 0 := fun b o w => by simp [go_sem]
theorem fl106_1 : FldT Try.prog 106 1 1 := fun b o w => by simp [go_sem]
theorem fl106_2 : FldT Try.prog 106 2 2 := fun b o w => by simp [go_sem]
theorem fl119_0 : FldT Try.prog 119 0 0 := fun b o w => by simp [go_sem]
theorem fl119_1 : FldT Try.prog 119 1 1 := fun b o w => by simp [go_sem]
theorem fl119_2 : FldT Try.prog 119 2 2 := fun b o w => by simp [go_sem]
theorem fl119_3 : FldT Try.prog 119 3 3 := fun b o w => by simp [go_sem]
theorem fl121_0 : FldT Try.prog 121 0 0 := fun b o w => by simp [go_sem]
theorem fl121_1 : FldT Try.prog 121 1 1 := fun b o w => by simp [go_sem]
end Go.Proofs.Ytcgfmicadcdinaa
