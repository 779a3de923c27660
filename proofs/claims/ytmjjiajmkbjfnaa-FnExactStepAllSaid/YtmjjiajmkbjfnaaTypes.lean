/- What is known of the types of the translated program; no condition. -/
import Derived.Test.YtmjjiajmkbjfnaaModel
import Derived.Test.YtmjjiajmkbjfnaaProg
namespace Go.Proofs.Ytmjjiajmkbjfnaa
open Go Go.Proofs.Ytmjjiajmkbjfnaa.X Go.Proofs
theorem mixed : Try.prog.follows .mixedOrders = true := by kernel_rfl
theorem st24 : StT Try.prog 24 3 [.slice none 0 0, .int .i64 0, .int .i64 0] := ⟨fun _ => by kernel_rfl, fun _ => by kernel_rfl, fun _ => by kernel_rfl⟩
theorem st36 : StT Try.prog 36 3 [.slice none 0 0, .int .i64 0, .int .i64 0] := ⟨fun _ => by kernel_rfl, fun _ => by kernel_rfl, fun _ => by kernel_rfl⟩
theorem st52 : StT Try.prog 52 2 [.int .i64 0, .int .i64 0] := ⟨fun _ => by kernel_rfl, fun _ => by kernel_rfl, fun _ => by kernel_rfl⟩
theorem st54 : StT Try.prog 54 5 [.int .i64 0, .int .i64 0, .int .i64 0, .int .i64 0, .int .i64 0] := ⟨fun _ => by kernel_rfl, fun _ => by kernel_rfl, fun _ => by kernel_rfl⟩
theorem st57 : StT Try.prog 57 4 [.int .i64 0, .int .i64 0, .int .i64 0, .int .i64 0] := ⟨fun _ => by kernel_rfl, fun _ => by kernel_rfl, fun _ => by kernel_rfl⟩
theorem st59 : StT Try.prog 59 4 [.int .i64 0, .int .i64 0, .int .i64 0, .int .i64 0] := ⟨fun _ => by kernel_rfl, fun _ => by kernel_rfl, fun _ => by kernel_rfl⟩
theorem st61 : StT Try.prog 61 2 [.int .i64 0, .int .i64 0] := ⟨fun _ => by kernel_rfl, fun _ => by kernel_rfl, fun _ => by kernel_rfl⟩
theorem st63 : StT Try.prog 63 5 [.int .i64 0, .int .i64 0, .int .i64 0, .int .i64 0, .int .i64 0] := ⟨fun _ => by kernel_rfl, fun _ => by kernel_rfl, fun _ => by kernel_rfl⟩
theorem st73 : StT Try.prog 73 4 [.int .i64 0, .int .i64 0, .int .i64 0, .slice none 0 0] := ⟨fun _ => by kernel_rfl, fun _ => by kernel_rfl, fun _ => by kernel_rfl⟩
theorem st74 : StT Try.prog 74 4 [.int .i64 0, .int .i64 0, .int .i64 0, .slice none 0 0] := ⟨fun _ => by kernel_rfl, fun _ => by kernel_rfl, fun _ => by kernel_rfl⟩
theorem sc3 : ScT Try.prog 3 (.int .i64 0) := ⟨fun _ => by kernel_rfl, fun _ => by kernel_rfl, fun _ => by kernel_rfl, rfl⟩
theorem sc22 : ScT Try.prog 22 (.slice none 0 0) := ⟨fun _ => by kernel_rfl, fun _ => by kernel_rfl, fun _ => by kernel_rfl, rfl⟩
theorem sc34 : ScT Try.prog 34 (.slice none 0 0) := ⟨fun _ => by kernel_rfl, fun _ => by kernel_rfl, fun _ => by kernel_rfl, rfl⟩
theorem sc71 : ScT Try.prog 71 (.slice none 0 0) := ⟨fun _ => by kernel_rfl, fun _ => by kernel_rfl, fun _ => by kernel_rfl, rfl⟩
set_option maxRecDepth 20000 in
theorem sl22 : SlT Try.prog 22 73 4 48 [.int .i64 0, .int .i64 0, .int .i64 0, .slice none 0 0] := ⟨Try.underlying22, ⟨Try.t73, _, Try.type73, rfl, rfl, rfl, rfl⟩, by decide, rfl⟩
set_option maxRecDepth 20000 in
theorem sl25 : SlT Try.prog 25 59 4 32 [.int .i64 0, .int .i64 0, .int .i64 0, .int .i64 0] := ⟨Try.underlying25, ⟨Try.t59, _, Try.type59, rfl, rfl, rfl, rfl⟩, by decide, rfl⟩
set_option maxRecDepth 20000 in
theorem sl26 : SlT Try.prog 26 63 5 40 [.int .i64 0, .int .i64 0, .int .i64 0, .int .i64 0, .int .i64 0] := ⟨Try.underlying26, ⟨Try.t63, _, Try.type63, rfl, rfl, rfl, rfl⟩, by decide, rfl⟩
set_option maxRecDepth 20000 in
theorem sl30 : SlT Try.prog 30 57 4 32 [.int .i64 0, .int .i64 0, .int .i64 0, .int .i64 0] := ⟨Try.underlying30, ⟨Try.t57, _, Try.type57, rfl, rfl, rfl, rfl⟩, by decide, rfl⟩
set_option maxRecDepth 20000 in
theorem sl31 : SlT Try.prog 31 54 5 40 [.int .i64 0, .int .i64 0, .int .i64 0, .int .i64 0, .int .i64 0] := ⟨Try.underlying31, ⟨Try.t54, _, Try.type54, rfl, rfl, rfl, rfl⟩, by decide, rfl⟩
set_option maxRecDepth 20000 in
theorem sl34 : SlT Try.prog 34 74 4 48 [.int .i64 0, .int .i64 0, .int .i64 0, .slice none 0 0] := ⟨Try.underlying34, ⟨Try.t74, _, Try.type74, rfl, rfl, rfl, rfl⟩, by decide, rfl⟩
set_option maxRecDepth 20000 in
theorem sl71 : SlT Try.prog 71 3 1 8 [.int .i64 0] := ⟨Try.underlying71, ⟨Try.t3, _, Try.type3, rfl, rfl, rfl, rfl⟩, by decide, rfl⟩
theorem fl24_0 : FldT Try.prog 24 0 0 := fun b o w => by simp [go_sem]
theorem fl24_1 : FldT Try.prog 24 1 1 := fun b o w => by simp [go_sem]
theorem fl24_2 : FldT Try.prog 24 2 2 := fun b o w => by simp [go_sem]
theorem fl36_0 : FldT Try.prog 36 0 0 := fun b o w => by simp [go_sem]
theorem fl36_1 : FldT Try.prog 36 1 1 := fun b o w => by simp [go_sem]
theorem fl36_2 : FldT Try.prog 36 2 2 := fun b o w => by simp [go_sem]
theorem fl52_0 : FldT Try.prog 52 0 0 := fun b o w => by simp [go_sem]
theorem fl52_1 : FldT Try.prog 52 1 1 := fun b o w => by simp [go_sem]
theorem fl54_0 : FldT Try.prog 54 0 0 := fun b o w => by simp [go_sem]
theorem fl54_1 : FldT Try.prog 54 1 1 := fun b o w => by simp [go_sem]
theorem fl54_2 : FldT Try.prog 54 2 3 := fun b o w => by simp [go_sem]
theorem fl54_3 : FldT Try.prog 54 3 4 := fun b o w => by simp [go_sem]
theorem fl57_0 : FldT Try.prog 57 0 0 := fun b o w => by simp [go_sem]
theorem fl57_1 : FldT Try.prog 57 1 1 := fun b o w => by simp [go_sem]
theorem fl57_2 : FldT Try.prog 57 2 2 := fun b o w => by simp [go_sem]
theorem fl57_3 : FldT Try.prog 57 3 3 := fun b o w => by simp [go_sem]
theorem fl59_0 : FldT Try.prog 59 0 0 := fun b o w => by simp [go_sem]
theorem fl59_1 : FldT Try.prog 59 1 1 := fun b o w => by simp [go_sem]
theorem fl59_2 : FldT Try.prog 59 2 2 := fun b o w => by simp [go_sem]
theorem fl59_3 : FldT Try.prog 59 3 3 := fun b o w => by simp [go_sem]
theorem fl61_0 : FldT Try.prog 61 0 0 := fun b o w => by simp [go_sem]
theorem fl61_1 : FldT Try.prog 61 1 1 := fun b o w => by simp [go_sem]
theorem fl63_0 : FldT Try.prog 63 0 0 := fun b o w => by simp [go_sem]
theorem fl63_1 : FldT Try.prog 63 1 1 := fun b o w => by simp [go_sem]
theorem fl63_2 : FldT Try.prog 63 2 3 := fun b o w => by simp [go_sem]
theorem fl63_3 : FldT Try.prog 63 3 4 := fun b o w => by simp [go_sem]
theorem fl73_0 : FldT Try.prog 73 0 0 := fun b o w => by simp [go_sem]
theorem fl73_1 : FldT Try.prog 73 1 1 := fun b o w => by simp [go_sem]
theorem fl73_2 : FldT Try.prog 73 2 2 := fun b o w => by simp [go_sem]
theorem fl73_3 : FldT Try.prog 73 3 3 := fun b o w => by simp [go_sem]
theorem fl74_0 : FldT Try.prog 74 0 0 := fun b o w => by simp [go_sem]
theorem fl74_1 : FldT Try.prog 74 1 1 := fun b o w => by simp [go_sem]
theorem fl74_2 : FldT Try.prog 74 2 2 := fun b o w => by simp [go_sem]
theorem fl74_3 : FldT Try.prog 74 3 3 := fun b o w => by simp [go_sem]
theorem eqg57 : Try.prog.eqGuardType Try.prog.depth 57 = false := by kernel_rfl
theorem eq57 (x y : Cell) (w : World) : (binOp .eql 57 (.agg (Enc.enc x).toArray) (.agg (Enc.enc y).toArray)).run Try.prog w = .ok (.bool (decide (x = y))) w := by
  rcases x with ⟨_, _, _, _⟩; rcases y with ⟨_, _, _, _⟩
  simp [go_sem, Enc.enc]
  repeat' split
  all_goals simp_all
theorem ne57 (x y : Cell) (w : World) : (binOp .neq 57 (.agg (Enc.enc x).toArray) (.agg (Enc.enc y).toArray)).run Try.prog w = .ok (.bool (!(decide (x = y)))) w := by
  rcases x with ⟨_, _, _, _⟩; rcases y with ⟨_, _, _, _⟩
  simp [go_sem, Enc.enc, Bool.not_and]
  repeat' split
  all_goals simp_all
end Go.Proofs.Ytmjjiajmkbjfnaa
