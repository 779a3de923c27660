/- What is known of the types of the translated program; no condition. -/
import Derived.Test.YtajenejdlmenfaaModel
import Derived.Test.YtajenejdlmenfaaProg
namespace Go.Proofs.Ytajenejdlmenfaa
open Go Go.Proofs.Ytajenejdlmenfaa.X Go.Proofs
theorem mixed : Try.prog.follows .mixedOrders = true := by kernel_rfl
theorem st24 : StT Try.prog 24 3 [.slice none 0 0, .int .i64 0, .int .i64 0] := ⟨fun _ => by kernel_rfl, fun _ => by kernel_rfl, fun _ => by kernel_rfl⟩
theorem st31 : StT Try.prog 31 3 [.slice none 0 0, .int .i64 0, .int .i64 0] := ⟨fun _ => by kernel_rfl, fun _ => by kernel_rfl, fun _ => by kernel_rfl⟩
theorem st39 : StT Try.prog 39 4 [.int .i64 0, .int .i64 0, .int .i64 0, .int .i64 0] := ⟨fun _ => by kernel_rfl, fun _ => by kernel_rfl, fun _ => by kernel_rfl⟩
theorem st42 : StT Try.prog 42 4 [.int .i64 0, .int .i64 0, .int .i64 0, .int .i64 0] := ⟨fun _ => by kernel_rfl, fun _ => by kernel_rfl, fun _ => by kernel_rfl⟩
theorem st54 : StT Try.prog 54 4 [.int .i64 0, .int .i64 0, .int .i64 0, .slice none 0 0] := ⟨fun _ => by kernel_rfl, fun _ => by kernel_rfl, fun _ => by kernel_rfl⟩
theorem st68 : StT Try.prog 68 4 [.int .i64 0, .int .i64 0, .int .i64 0, .slice none 0 0] := ⟨fun _ => by kernel_rfl, fun _ => by kernel_rfl, fun _ => by kernel_rfl⟩
theorem sc3 : ScT Try.prog 3 (.int .i64 0) := ⟨fun _ => by kernel_rfl, fun _ => by kernel_rfl, fun _ => by kernel_rfl, rfl⟩
theorem sc22 : ScT Try.prog 22 (.slice none 0 0) := ⟨fun _ => by kernel_rfl, fun _ => by kernel_rfl, fun _ => by kernel_rfl, rfl⟩
theorem sc29 : ScT Try.prog 29 (.slice none 0 0) := ⟨fun _ => by kernel_rfl, fun _ => by kernel_rfl, fun _ => by kernel_rfl, rfl⟩
theorem sc52 : ScT Try.prog 52 (.slice none 0 0) := ⟨fun _ => by kernel_rfl, fun _ => by kernel_rfl, fun _ => by kernel_rfl, rfl⟩
set_option maxRecDepth 20000 in
theorem sl22 : SlT Try.prog 22 68 4 48 [.int .i64 0, .int .i64 0, .int .i64 0, .slice none 0 0] := ⟨Try.underlying22, ⟨Try.t68, _, Try.type68, rfl, rfl, rfl, rfl⟩, by decide, rfl⟩
set_option maxRecDepth 20000 in
theorem sl25 : SlT Try.prog 25 39 4 32 [.int .i64 0, .int .i64 0, .int .i64 0, .int .i64 0] := ⟨Try.underlying25, ⟨Try.t39, _, Try.type39, rfl, rfl, rfl, rfl⟩, by decide, rfl⟩
set_option maxRecDepth 20000 in
theorem sl29 : SlT Try.prog 29 54 4 48 [.int .i64 0, .int .i64 0, .int .i64 0, .slice none 0 0] := ⟨Try.underlying29, ⟨Try.t54, _, Try.type54, rfl, rfl, rfl, rfl⟩, by decide, rfl⟩
set_option maxRecDepth 20000 in
theorem sl33 : SlT Try.prog 33 42 4 32 [.int .i64 0, .int .i64 0, .int .i64 0, .int .i64 0] := ⟨Try.underlying33, ⟨Try.t42, _, Try.type42, rfl, rfl, rfl, rfl⟩, by decide, rfl⟩
set_option maxRecDepth 20000 in
theorem sl52 : SlT Try.prog 52 3 1 8 [.int .i64 0] := ⟨Try.underlying52, ⟨Try.t3, _, Try.type3, rfl, rfl, rfl, rfl⟩, by decide, rfl⟩
theorem fl24_0 : FldT Try.prog 24 0 0 := fun b o w => by simp [go_sem]
theorem fl24_1 : FldT Try.prog 24 1 1 := fun b o w => by simp [go_sem]
theorem fl24_2 : FldT Try.prog 24 2 2 := fun b o w => by simp [go_sem]
theorem fl31_0 : FldT Try.prog 31 0 0 := fun b o w => by simp [go_sem]
theorem fl31_1 : FldT Try.prog 31 1 1 := fun b o w => by simp [go_sem]
theorem fl31_2 : FldT Try.prog 31 2 2 := fun b o w => by simp [go_sem]
theorem fl39_0 : FldT Try.prog 39 0 0 := fun b o w => by simp [go_sem]
theorem fl39_1 : FldT Try.prog 39 1 1 := fun b o w => by simp [go_sem]
theorem fl39_2 : FldT Try.prog 39 2 2 := fun b o w => by simp [go_sem]
theorem fl39_3 : FldT Try.prog 39 3 3 := fun b o w => by simp [go_sem]
theorem fl42_0 : FldT Try.prog 42 0 0 := fun b o w => by simp [go_sem]
theorem fl42_1 : FldT Try.prog 42 1 1 := fun b o w => by simp [go_sem]
theorem fl42_2 : FldT Try.prog 42 2 2 := fun b o w => by simp [go_sem]
theorem fl42_3 : FldT Try.prog 42 3 3 := fun b o w => by simp [go_sem]
theorem fl54_0 : FldT Try.prog 54 0 0 := fun b o w => by simp [go_sem]
theorem fl54_1 : FldT Try.prog 54 1 1 := fun b o w => by simp [go_sem]
theorem fl54_2 : FldT Try.prog 54 2 2 := fun b o w => by simp [go_sem]
theorem fl54_3 : FldT Try.prog 54 3 3 := fun b o w => by simp [go_sem]
theorem fl68_0 : FldT Try.prog 68 0 0 := fun b o w => by simp [go_sem]
theorem fl68_1 : FldT Try.prog 68 1 1 := fun b o w => by simp [go_sem]
theorem fl68_2 : FldT Try.prog 68 2 2 := fun b o w => by simp [go_sem]
theorem fl68_3 : FldT Try.prog 68 3 3 := fun b o w => by simp [go_sem]
theorem eqg42 : Try.prog.eqGuardType Try.prog.depth 42 = false := by kernel_rfl
theorem eq42 (x y : Cell) (w : World) : (binOp .eql 42 (.agg (Enc.enc x).toArray) (.agg (Enc.enc y).toArray)).run Try.prog w = .ok (.bool (decide (x = y))) w := by
  rcases x with ⟨_, _, _, _⟩; rcases y with ⟨_, _, _, _⟩
  simp [go_sem, Enc.enc]
  repeat' split
  all_goals simp_all
theorem ne42 (x y : Cell) (w : World) : (binOp .neq 42 (.agg (Enc.enc x).toArray) (.agg (Enc.enc y).toArray)).run Try.prog w = .ok (.bool (!(decide (x = y)))) w := by
  rcases x with ⟨_, _, _, _⟩; rcases y with ⟨_, _, _, _⟩
  simp [go_sem, Enc.enc, Bool.not_and]
  repeat' split
  all_goals simp_all
end Go.Proofs.Ytajenejdlmenfaa
