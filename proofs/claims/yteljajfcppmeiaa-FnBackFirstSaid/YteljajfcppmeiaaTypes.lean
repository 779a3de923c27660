/- What is known of the types of the translated program; no condition. -/
import Derived.Test.YteljajfcppmeiaaModel
import Derived.Test.YteljajfcppmeiaaProg
namespace Go.Proofs.Yteljajfcppmeiaa
open Go Go.Proofs.Yteljajfcppmeiaa.X Go.Proofs
theorem mixed : Try.prog.follows .mixedOrders = true := by kernel_rfl
theorem st26 : StT Try.prog 26 3 [.slice none 0 0, .int .i64 0, .int .i64 0] := ⟨fun _ => by kernel_rfl, fun _ => by kernel_rfl, fun _ => by kernel_rfl⟩
theorem st33 : StT Try.prog 33 8 [.slice none 0 0, .slice none 0 0, .slice none 0 0, .slice none 0 0, .slice none 0 0, .slice none 0 0, .slice none 0 0, .slice none 0 0] := ⟨fun _ => by kernel_rfl, fun _ => by kernel_rfl, fun _ => by kernel_rfl⟩
theorem st41 : StT Try.prog 41 2 [.int .i64 0, .int .i64 0] := ⟨fun _ => by kernel_rfl, fun _ => by kernel_rfl, fun _ => by kernel_rfl⟩
theorem st43 : StT Try.prog 43 5 [.int .i64 0, .int .i64 0, .int .i64 0, .int .i64 0, .int .i64 0] := ⟨fun _ => by kernel_rfl, fun _ => by kernel_rfl, fun _ => by kernel_rfl⟩
theorem st45 : StT Try.prog 45 4 [.int .i64 0, .int .i64 0, .int .i64 0, .slice none 0 0] := ⟨fun _ => by kernel_rfl, fun _ => by kernel_rfl, fun _ => by kernel_rfl⟩
theorem st68 : StT Try.prog 68 2 [.int .i64 0, .bool false] := ⟨fun _ => by kernel_rfl, fun _ => by kernel_rfl, fun _ => by kernel_rfl⟩
theorem st74 : StT Try.prog 74 4 [.int .i64 0, .int .i64 0, .int .i64 0, .int .i64 0] := ⟨fun _ => by kernel_rfl, fun _ => by kernel_rfl, fun _ => by kernel_rfl⟩
theorem sc3 : ScT Try.prog 3 (.int .i64 0) := ⟨fun _ => by kernel_rfl, fun _ => by kernel_rfl, fun _ => by kernel_rfl, rfl⟩
theorem sc4 : ScT Try.prog 4 (.bool false) := ⟨fun _ => by kernel_rfl, fun _ => by kernel_rfl, fun _ => by kernel_rfl, rfl⟩
theorem sc5 : ScT Try.prog 5 (.int .u8 0) := ⟨fun _ => by kernel_rfl, fun _ => by kernel_rfl, fun _ => by kernel_rfl, rfl⟩
theorem sc22 : ScT Try.prog 22 (.slice none 0 0) := ⟨fun _ => by kernel_rfl, fun _ => by kernel_rfl, fun _ => by kernel_rfl, rfl⟩
theorem sc24 : ScT Try.prog 24 (.slice none 0 0) := ⟨fun _ => by kernel_rfl, fun _ => by kernel_rfl, fun _ => by kernel_rfl, rfl⟩
theorem sc27 : ScT Try.prog 27 (.slice none 0 0) := ⟨fun _ => by kernel_rfl, fun _ => by kernel_rfl, fun _ => by kernel_rfl, rfl⟩
theorem sc28 : ScT Try.prog 28 (.slice none 0 0) := ⟨fun _ => by kernel_rfl, fun _ => by kernel_rfl, fun _ => by kernel_rfl, rfl⟩
theorem sc29 : ScT Try.prog 29 (.slice none 0 0) := ⟨fun _ => by kernel_rfl, fun _ => by kernel_rfl, fun _ => by kernel_rfl, rfl⟩
theorem sc30 : ScT Try.prog 30 (.slice none 0 0) := ⟨fun _ => by kernel_rfl, fun _ => by kernel_rfl, fun _ => by kernel_rfl, rfl⟩
theorem sc31 : ScT Try.prog 31 (.slice none 0 0) := ⟨fun _ => by kernel_rfl, fun _ => by kernel_rfl, fun _ => by kernel_rfl, rfl⟩
set_option maxRecDepth 20000 in
theorem sl22 : SlT Try.prog 22 5 1 1 [.int .u8 0] := ⟨Try.underlying22, ⟨Try.t5, _, Try.type5, rfl, rfl, rfl, rfl⟩, by decide, rfl⟩
set_option maxRecDepth 20000 in
theorem sl24 : SlT Try.prog 24 45 4 48 [.int .i64 0, .int .i64 0, .int .i64 0, .slice none 0 0] := ⟨Try.underlying24, ⟨Try.t45, _, Try.type45, rfl, rfl, rfl, rfl⟩, by decide, rfl⟩
set_option maxRecDepth 20000 in
theorem sl27 : SlT Try.prog 27 43 5 40 [.int .i64 0, .int .i64 0, .int .i64 0, .int .i64 0, .int .i64 0] := ⟨Try.underlying27, ⟨Try.t43, _, Try.type43, rfl, rfl, rfl, rfl⟩, by decide, rfl⟩
set_option maxRecDepth 20000 in
theorem sl28 : SlT Try.prog 28 74 4 32 [.int .i64 0, .int .i64 0, .int .i64 0, .int .i64 0] := ⟨Try.underlying28, ⟨Try.t74, _, Try.type74, rfl, rfl, rfl, rfl⟩, by decide, rfl⟩
set_option maxRecDepth 20000 in
theorem sl29 : SlT Try.prog 29 3 1 8 [.int .i64 0] := ⟨Try.underlying29, ⟨Try.t3, _, Try.type3, rfl, rfl, rfl, rfl⟩, by decide, rfl⟩
set_option maxRecDepth 20000 in
theorem sl30 : SlT Try.prog 30 4 1 1 [.bool false] := ⟨Try.underlying30, ⟨Try.t4, _, Try.type4, rfl, rfl, rfl, rfl⟩, by decide, rfl⟩
set_option maxRecDepth 20000 in
theorem sl31 : SlT Try.prog 31 68 2 16 [.int .i64 0, .bool false] := ⟨Try.underlying31, ⟨Try.t68, _, Try.type68, rfl, rfl, rfl, rfl⟩, by decide, rfl⟩
theorem fl26_0 : FldT Try.prog 26 0 0 := fun b o w => by simp [go_sem]
theorem fl26_1 : FldT Try.prog 26 1 1 := fun b o w => by simp [go_sem]
theorem fl26_2 : FldT Try.prog 26 2 2 := fun b o w => by simp [go_sem]
theorem fl33_0 : FldT Try.prog 33 0 0 := fun b o w => by simp [go_sem]
theorem fl33_1 : FldT Try.prog 33 1 1 := fun b o w => by simp [go_sem]
theorem fl33_2 : FldT Try.prog 33 2 2 := fun b o w => by simp [go_sem]
theorem fl33_3 : FldT Try.prog 33 3 3 := fun b o w => by simp [go_sem]
theorem fl33_4 : FldT Try.prog 33 4 4 := fun b o w => by simp [go_sem]
theorem fl33_5 : FldT Try.prog 33 5 5 := fun b o w => by simp [go_sem]
theorem fl33_6 : FldT Try.prog 33 6 6 := fun b o w => by simp [go_sem]
theorem fl33_7 : FldT Try.prog 33 7 7 := fun b o w => by simp [go_sem]
theorem fl41_0 : FldT Try.prog 41 0 0 := fun b o w => by simp [go_sem]
theorem fl41_1 : FldT Try.prog 41 1 1 := fun b o w => by simp [go_sem]
theorem fl43_0 : FldT Try.prog 43 0 0 := fun b o w => by simp [go_sem]
theorem fl43_1 : FldT Try.prog 43 1 1 := fun b o w => by simp [go_sem]
theorem fl43_2 : FldT Try.prog 43 2 3 := fun b o w => by simp [go_sem]
theorem fl43_3 : FldT Try.prog 43 3 4 := fun b o w => by simp [go_sem]
theorem fl45_0 : FldT Try.prog 45 0 0 := fun b o w => by simp [go_sem]
theorem fl45_1 : FldT Try.prog 45 1 1 := fun b o w => by simp [go_sem]
theorem fl45_2 : FldT Try.prog 45 2 2 := fun b o w => by simp [go_sem]
theorem fl45_3 : FldT Try.prog 45 3 3 := fun b o w => by simp [go_sem]
theorem fl68_0 : FldT Try.prog 68 0 0 := fun b o w => by simp [go_sem]
theorem fl71_0 : FldT Try.prog 71 0 0 := fun b o w => by simp [go_sem]
theorem fl71_1 : FldT Try.prog 71 1 1 := fun b o w => by simp [go_sem]
theorem fl71_2 : FldT Try.prog 71 2 2 := fun b o w => by simp [go_sem]
theorem fl74_0 : FldT Try.prog 74 0 0 := fun b o w => by simp [go_sem]
theorem fl74_1 : FldT Try.prog 74 1 1 := fun b o w => by simp [go_sem]
theorem fl74_2 : FldT Try.prog 74 2 2 := fun b o w => by simp [go_sem]
theorem fl74_3 : FldT Try.prog 74 3 3 := fun b o w => by simp [go_sem]
theorem eqg43 : Try.prog.eqGuardType Try.prog.depth 43 = false := by kernel_rfl
theorem eq43 (x y : Record) (w : World) : (binOp .eql 43 (.agg (Enc.enc x).toArray) (.agg (Enc.enc y).toArray)).run Try.prog w = .ok (.bool (decide (x = y))) w := by
  rcases x with ⟨_, ⟨_, _⟩, _, _⟩; rcases y with ⟨_, ⟨_, _⟩, _, _⟩
  simp [go_sem, Enc.enc]
  repeat' split
  all_goals simp_all
theorem ne43 (x y : Record) (w : World) : (binOp .neq 43 (.agg (Enc.enc x).toArray) (.agg (Enc.enc y).toArray)).run Try.prog w = .ok (.bool (!(decide (x = y)))) w := by
  rcases x with ⟨_, ⟨_, _⟩, _, _⟩; rcases y with ⟨_, ⟨_, _⟩, _, _⟩
  simp [go_sem, Enc.enc, Bool.not_and]
  repeat' split
  all_goals simp_all
theorem eqg68 : Try.prog.eqGuardType Try.prog.depth 68 = false := by kernel_rfl
theorem eq68 (x y : Done) (w : World) : (binOp .eql 68 (.agg (Enc.enc x).toArray) (.agg (Enc.enc y).toArray)).run Try.prog w = .ok (.bool (decide (x = y))) w := by
  rcases x with ⟨_, _⟩; rcases y with ⟨_, _⟩
  simp [go_sem, Enc.enc]
  repeat' split
  all_goals simp_all
theorem ne68 (x y : Done) (w : World) : (binOp .neq 68 (.agg (Enc.enc x).toArray) (.agg (Enc.enc y).toArray)).run Try.prog w = .ok (.bool (!(decide (x = y)))) w := by
  rcases x with ⟨_, _⟩; rcases y with ⟨_, _⟩
  simp [go_sem, Enc.enc, Bool.not_and]
  repeat' split
  all_goals simp_all
theorem eqg74 : Try.prog.eqGuardType Try.prog.depth 74 = false := by kernel_rfl
theorem eq74 (x y : Cell) (w : World) : (binOp .eql 74 (.agg (Enc.enc x).toArray) (.agg (Enc.enc y).toArray)).run Try.prog w = .ok (.bool (decide (x = y))) w := by
  rcases x with ⟨_, _, _, _⟩; rcases y with ⟨_, _, _, _⟩
  simp [go_sem, Enc.enc]
  repeat' split
  all_goals simp_all
theorem ne74 (x y : Cell) (w : World) : (binOp .neq 74 (.agg (Enc.enc x).toArray) (.agg (Enc.enc y).toArray)).run Try.prog w = .ok (.bool (!(decide (x = y)))) w := by
  rcases x with ⟨_, _, _, _⟩; rcases y with ⟨_, _, _, _⟩
  simp [go_sem, Enc.enc, Bool.not_and]
  repeat' split
  all_goals simp_all
end Go.Proofs.Yteljajfcppmeiaa
