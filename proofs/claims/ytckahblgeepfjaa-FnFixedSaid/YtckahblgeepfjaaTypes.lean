/- What is known of the types of the translated program; no condition. -/
import Derived.Test.YtckahblgeepfjaaModel
import Derived.Test.YtckahblgeepfjaaProg
namespace Go.Proofs.Ytckahblgeepfjaa
open Go Go.Proofs.Ytckahblgeepfjaa.X Go.Proofs
theorem mixed : Try.prog.follows .mixedOrders = true := by kernel_rfl
theorem st26 : StT Try.prog 26 3 [.slice none 0 0, .int .i64 0, .int .i64 0] := ⟨fun _ => by kernel_rfl, fun _ => by kernel_rfl, fun _ => by kernel_rfl⟩
theorem st29 : StT Try.prog 29 2 [.int .i64 0, .int .i64 0] := ⟨fun _ => by kernel_rfl, fun _ => by kernel_rfl, fun _ => by kernel_rfl⟩
theorem st31 : StT Try.prog 31 5 [.int .i64 0, .int .i64 0, .int .i64 0, .int .i64 0, .int .i64 0] := ⟨fun _ => by kernel_rfl, fun _ => by kernel_rfl, fun _ => by kernel_rfl⟩
theorem st42 : StT Try.prog 42 4 [.int .i64 0, .int .i64 0, .int .i64 0, .slice none 0 0] := ⟨fun _ => by kernel_rfl, fun _ => by kernel_rfl, fun _ => by kernel_rfl⟩
theorem st56 : StT Try.prog 56 4 [.int .i64 0, .int .i64 0, .int .i64 0, .int .i64 0] := ⟨fun _ => by kernel_rfl, fun _ => by kernel_rfl, fun _ => by kernel_rfl⟩
theorem sc3 : ScT Try.prog 3 (.int .i64 0) := ⟨fun _ => by kernel_rfl, fun _ => by kernel_rfl, fun _ => by kernel_rfl, rfl⟩
theorem sc5 : ScT Try.prog 5 (.int .u8 0) := ⟨fun _ => by kernel_rfl, fun _ => by kernel_rfl, fun _ => by kernel_rfl, rfl⟩
theorem sc22 : ScT Try.prog 22 (.slice none 0 0) := ⟨fun _ => by kernel_rfl, fun _ => by kernel_rfl, fun _ => by kernel_rfl, rfl⟩
theorem sc24 : ScT Try.prog 24 (.slice none 0 0) := ⟨fun _ => by kernel_rfl, fun _ => by kernel_rfl, fun _ => by kernel_rfl, rfl⟩
theorem sc40 : ScT Try.prog 40 (.slice none 0 0) := ⟨fun _ => by kernel_rfl, fun _ => by kernel_rfl, fun _ => by kernel_rfl, rfl⟩
set_option maxRecDepth 20000 in
theorem sl22 : SlT Try.prog 22 5 1 1 [.int .u8 0] := ⟨Try.underlying22, ⟨Try.t5, _, Try.type5, rfl, rfl, rfl, rfl⟩, by decide, rfl⟩
set_option maxRecDepth 20000 in
theorem sl24 : SlT Try.prog 24 42 4 48 [.int .i64 0, .int .i64 0, .int .i64 0, .slice none 0 0] := ⟨Try.underlying24, ⟨Try.t42, _, Try.type42, rfl, rfl, rfl, rfl⟩, by decide, rfl⟩
set_option maxRecDepth 20000 in
theorem sl27 : SlT Try.prog 27 56 4 32 [.int .i64 0, .int .i64 0, .int .i64 0, .int .i64 0] := ⟨Try.underlying27, ⟨Try.t56, _, Try.type56, rfl, rfl, rfl, rfl⟩, by decide, rfl⟩
set_option maxRecDepth 20000 in
theorem sl34 : SlT Try.prog 34 31 5 40 [.int .i64 0, .int .i64 0, .int .i64 0, .int .i64 0, .int .i64 0] := ⟨Try.underlying34, ⟨Try.t31, _, Try.type31, rfl, rfl, rfl, rfl⟩, by decide, rfl⟩
set_option maxRecDepth 20000 in
theorem sl40 : SlT Try.prog 40 3 1 8 [.int .i64 0] := ⟨Try.underlying40, ⟨Try.t3, _, Try.type3, rfl, rfl, rfl, rfl⟩, by decide, rfl⟩
theorem fl26_0 : FldT Try.prog 26 0 0 := fun b o w => by simp [go_sem]
theorem fl26_1 : FldT Try.prog 26 1 1 := fun b o w => by simp [go_sem]
theorem fl26_2 : FldT Try.prog 26 2 2 := fun b o w => by simp [go_sem]
theorem fl29_0 : FldT Try.prog 29 0 0 := fun b o w => by simp [go_sem]
theorem fl29_1 : FldT Try.prog 29 1 1 := fun b o w => by simp [go_sem]
theorem fl31_0 : FldT Try.prog 31 0 0 := fun b o w => by simp [go_sem]
theorem fl31_1 : FldT Try.prog 31 1 1 := fun b o w => by simp [go_sem]
theorem fl31_2 : FldT Try.prog 31 2 3 := fun b o w => by simp [go_sem]
theorem fl31_3 : FldT Try.prog 31 3 4 := fun b o w => by simp [go_sem]
theorem fl42_0 : FldT Try.prog 42 0 0 := fun b o w => by simp [go_sem]
theorem fl42_1 : FldT Try.prog 42 1 1 := fun b o w => by simp [go_sem]
theorem fl42_2 : FldT Try.prog 42 2 2 := fun b o w => by simp [go_sem]
theorem fl42_3 : FldT Try.prog 42 3 3 := fun b o w => by simp [go_sem]
theorem fl56_0 : FldT Try.prog 56 0 0 := fun b o w => by simp [go_sem]
theorem fl56_1 : FldT Try.prog 56 1 1 := fun b o w => by simp [go_sem]
theorem fl56_2 : FldT Try.prog 56 2 2 := fun b o w => by simp [go_sem]
theorem fl56_3 : FldT Try.prog 56 3 3 := fun b o w => by simp [go_sem]
theorem fl96_0 : FldT Try.prog 96 0 0 := fun b o w => by simp [go_sem]
theorem fl96_1 : FldT Try.prog 96 1 1 := fun b o w => by simp [go_sem]
theorem fl96_2 : FldT Try.prog 96 2 2 := fun b o w => by simp [go_sem]
theorem eqg56 : Try.prog.eqGuardType Try.prog.depth 56 = false := by kernel_rfl
theorem eq56 (x y : Cell) (w : World) : (binOp .eql 56 (.agg (Enc.enc x).toArray) (.agg (Enc.enc y).toArray)).run Try.prog w = .ok (.bool (decide (x = y))) w := by
  rcases x with ⟨_, _, _, _⟩; rcases y with ⟨_, _, _, _⟩
  simp [go_sem, Enc.enc]
  repeat' split
  all_goals simp_all
theorem ne56 (x y : Cell) (w : World) : (binOp .neq 56 (.agg (Enc.enc x).toArray) (.agg (Enc.enc y).toArray)).run Try.prog w = .ok (.bool (!(decide (x = y)))) w := by
  rcases x with ⟨_, _, _, _⟩; rcases y with ⟨_, _, _, _⟩
  simp [go_sem, Enc.enc, Bool.not_and]
  repeat' split
  all_goals simp_all
end Go.Proofs.Ytckahblgeepfjaa
