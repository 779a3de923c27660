/- What is known of the types of the translated program; no condition. -/
import Derived.Test.YtlhdkpdpkgocoaaModel
import Derived.Test.YtlhdkpdpkgocoaaProg
namespace Go.Proofs.Ytlhdkpdpkgocoaa
open Go Go.Proofs.Ytlhdkpdpkgocoaa.X Go.Proofs
theorem mixed : Try.prog.follows .mixedOrders = true := by kernel_rfl
theorem st24 : StT Try.prog 24 3 [.slice none 0 0, .int .i64 0, .int .i64 0] := ⟨fun _ => by kernel_rfl, fun _ => by kernel_rfl, fun _ => by kernel_rfl⟩
theorem st32 : StT Try.prog 32 3 [.slice none 0 0, .int .i64 0, .int .i64 0] := ⟨fun _ => by kernel_rfl, fun _ => by kernel_rfl, fun _ => by kernel_rfl⟩
theorem st45 : StT Try.prog 45 2 [.int .i64 0, .int .i64 0] := ⟨fun _ => by kernel_rfl, fun _ => by kernel_rfl, fun _ => by kernel_rfl⟩
theorem st47 : StT Try.prog 47 5 [.int .i64 0, .int .i64 0, .int .i64 0, .int .i64 0, .int .i64 0] := ⟨fun _ => by kernel_rfl, fun _ => by kernel_rfl, fun _ => by kernel_rfl⟩
theorem st50 : StT Try.prog 50 4 [.int .i64 0, .int .i64 0, .int .i64 0, .int .i64 0] := ⟨fun _ => by kernel_rfl, fun _ => by kernel_rfl, fun _ => by kernel_rfl⟩
theorem st55 : StT Try.prog 55 2 [.int .i64 0, .int .i64 0] := ⟨fun _ => by kernel_rfl, fun _ => by kernel_rfl, fun _ => by kernel_rfl⟩
theorem st57 : StT Try.prog 57 5 [.int .i64 0, .int .i64 0, .int .i64 0, .int .i64 0, .int .i64 0] := ⟨fun _ => by kernel_rfl, fun _ => by kernel_rfl, fun _ => by kernel_rfl⟩
theorem st67 : StT Try.prog 67 4 [.int .i64 0, .int .i64 0, .int .i64 0, .slice none 0 0] := ⟨fun _ => by kernel_rfl, fun _ => by kernel_rfl, fun _ => by kernel_rfl⟩
theorem st70 : StT Try.prog 70 4 [.int .i64 0, .int .i64 0, .int .i64 0, .slice none 0 0] := ⟨fun _ => by kernel_rfl, fun _ => by kernel_rfl, fun _ => by kernel_rfl⟩
theorem sc3 : ScT Try.prog 3 (.int .i64 0) := ⟨fun _ => by kernel_rfl, fun _ => by kernel_rfl, fun _ => by kernel_rfl, rfl⟩
theorem sc22 : ScT Try.prog 22 (.slice none 0 0) := ⟨fun _ => by kernel_rfl, fun _ => by kernel_rfl, fun _ => by kernel_rfl, rfl⟩
theorem sc30 : ScT Try.prog 30 (.slice none 0 0) := ⟨fun _ => by kernel_rfl, fun _ => by kernel_rfl, fun _ => by kernel_rfl, rfl⟩
theorem sc65 : ScT Try.prog 65 (.slice none 0 0) := ⟨fun _ => by kernel_rfl, fun _ => by kernel_rfl, fun _ => by kernel_rfl, rfl⟩
set_option maxRecDepth 20000 in
theorem sl22 : SlT Try.prog 22 67 4 48 [.int .i64 0, .int .i64 0, .int .i64 0, .slice none 0 0] := ⟨Try.underlying22, ⟨Try.t67, _, Try.type67, rfl, rfl, rfl, rfl⟩, by decide, rfl⟩
set_option maxRecDepth 20000 in
theorem sl25 : SlT Try.prog 25 57 5 40 [.int .i64 0, .int .i64 0, .int .i64 0, .int .i64 0, .int .i64 0] := ⟨Try.underlying25, ⟨Try.t57, _, Try.type57, rfl, rfl, rfl, rfl⟩, by decide, rfl⟩
set_option maxRecDepth 20000 in
theorem sl28 : SlT Try.prog 28 50 4 32 [.int .i64 0, .int .i64 0, .int .i64 0, .int .i64 0] := ⟨Try.underlying28, ⟨Try.t50, _, Try.type50, rfl, rfl, rfl, rfl⟩, by decide, rfl⟩
set_option maxRecDepth 20000 in
theorem sl30 : SlT Try.prog 30 70 4 48 [.int .i64 0, .int .i64 0, .int .i64 0, .slice none 0 0] := ⟨Try.underlying30, ⟨Try.t70, _, Try.type70, rfl, rfl, rfl, rfl⟩, by decide, rfl⟩
set_option maxRecDepth 20000 in
theorem sl34 : SlT Try.prog 34 47 5 40 [.int .i64 0, .int .i64 0, .int .i64 0, .int .i64 0, .int .i64 0] := ⟨Try.underlying34, ⟨Try.t47, _, Try.type47, rfl, rfl, rfl, rfl⟩, by decide, rfl⟩
set_option maxRecDepth 20000 in
theorem sl65 : SlT Try.prog 65 3 1 8 [.int .i64 0] := ⟨Try.underlying65, ⟨Try.t3, _, Try.type3, rfl, rfl, rfl, rfl⟩, by decide, rfl⟩
theorem fl24_0 : FldT Try.prog 24 0 0 := fun b o w => by simp [go_sem]
theorem fl24_1 : FldT Try.prog 24 1 1 := fun b o w => by simp [go_sem]
theorem fl24_2 : FldT Try.prog 24 2 2 := fun b o w => by simp [go_sem]
theorem fl32_0 : FldT Try.prog 32 0 0 := fun b o w => by simp [go_sem]
theorem fl32_1 : FldT Try.prog 32 1 1 := fun b o w => by simp [go_sem]
theorem fl32_2 : FldT Try.prog 32 2 2 := fun b o w => by simp [go_sem]
theorem fl45_0 : FldT Try.prog 45 0 0 := fun b o w => by simp [go_sem]
theorem fl45_1 : FldT Try.prog 45 1 1 := fun b o w => by simp [go_sem]
theorem fl47_0 : FldT Try.prog 47 0 0 := fun b o w => by simp [go_sem]
theorem fl47_1 : FldT Try.prog 47 1 1 := fun b o w => by simp [go_sem]
theorem fl47_2 : FldT Try.prog 47 2 3 := fun b o w => by simp [go_sem]
theorem fl47_3 : FldT Try.prog 47 3 4 := fun b o w => by simp [go_sem]
theorem fl50_0 : FldT Try.prog 50 0 0 := fun b o w => by simp [go_sem]
theorem fl50_1 : FldT Try.prog 50 1 1 := fun b o w => by simp [go_sem]
theorem fl50_2 : FldT Try.prog 50 2 2 := fun b o w => by simp [go_sem]
theorem fl50_3 : FldT Try.prog 50 3 3 := fun b o w => by simp [go_sem]
theorem fl55_0 : FldT Try.prog 55 0 0 := fun b o w => by simp [go_sem]
theorem fl55_1 : FldT Try.prog 55 1 1 := fun b o w => by simp [go_sem]
theorem fl57_0 : FldT Try.prog 57 0 0 := fun b o w => by simp [go_sem]
theorem fl57_1 : FldT Try.prog 57 1 1 := fun b o w => by simp [go_sem]
theorem fl57_2 : FldT Try.prog 57 2 3 := fun b o w => by simp [go_sem]
theorem fl57_3 : FldT Try.prog 57 3 4 := fun b o w => by simp [go_sem]
theorem fl67_0 : FldT Try.prog 67 0 0 := fun b o w => by simp [go_sem]
theorem fl67_1 : FldT Try.prog 67 1 1 := fun b o w => by simp [go_sem]
theorem fl67_2 : FldT Try.prog 67 2 2 := fun b o w => by simp [go_sem]
theorem fl67_3 : FldT Try.prog 67 3 3 := fun b o w => by simp [go_sem]
theorem fl70_0 : FldT Try.prog 70 0 0 := fun b o w => by simp [go_sem]
theorem fl70_1 : FldT Try.prog 70 1 1 := fun b o w => by simp [go_sem]
theorem fl70_2 : FldT Try.prog 70 2 2 := fun b o w => by simp [go_sem]
theorem fl70_3 : FldT Try.prog 70 3 3 := fun b o w => by simp [go_sem]
theorem eqg50 : Try.prog.eqGuardType Try.prog.depth 50 = false := by kernel_rfl
theorem eq50 (x y : Cell) (w : World) : (binOp .eql 50 (.agg (Enc.enc x).toArray) (.agg (Enc.enc y).toArray)).run Try.prog w = .ok (.bool (decide (x = y))) w := by
  rcases x with ⟨_, _, _, _⟩; rcases y with ⟨_, _, _, _⟩
  simp [go_sem, Enc.enc]
  repeat' split
  all_goals simp_all
theorem ne50 (x y : Cell) (w : World) : (binOp .neq 50 (.agg (Enc.enc x).toArray) (.agg (Enc.enc y).toArray)).run Try.prog w = .ok (.bool (!(decide (x = y)))) w := by
  rcases x with ⟨_, _, _, _⟩; rcases y with ⟨_, _, _, _⟩
  simp [go_sem, Enc.enc, Bool.not_and]
  repeat' split
  all_goals simp_all
end Go.Proofs.Ytlhdkpdpkgocoaa
