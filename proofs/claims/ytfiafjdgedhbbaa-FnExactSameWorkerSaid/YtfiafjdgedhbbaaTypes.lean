/- What is known of the types of the translated program; no condition. -/
import Derived.Test.YtfiafjdgedhbbaaModel
import Derived.Test.YtfiafjdgedhbbaaProg
namespace Go.Proofs.Ytfiafjdgedhbbaa
open Go Go.Proofs.Ytfiafjdgedhbbaa.X Go.Proofs
theorem mixed : Try.prog.follows .mixedOrders = true := by kernel_rfl
theorem st28 : StT Try.prog 28 8 [.slice none 0 0, .slice none 0 0, .slice none 0 0, .slice none 0 0, .slice none 0 0, .slice none 0 0, .slice none 0 0, .slice none 0 0] := ⟨fun _ => by kernel_rfl, fun _ => by kernel_rfl, fun _ => by kernel_rfl⟩
theorem st35 : StT Try.prog 35 8 [.slice none 0 0, .slice none 0 0, .slice none 0 0, .slice none 0 0, .slice none 0 0, .slice none 0 0, .slice none 0 0, .slice none 0 0] := ⟨fun _ => by kernel_rfl, fun _ => by kernel_rfl, fun _ => by kernel_rfl⟩
theorem st59 : StT Try.prog 59 2 [.int .i64 0, .int .i64 0] := ⟨fun _ => by kernel_rfl, fun _ => by kernel_rfl, fun _ => by kernel_rfl⟩
theorem st61 : StT Try.prog 61 5 [.int .i64 0, .int .i64 0, .int .i64 0, .int .i64 0, .int .i64 0] := ⟨fun _ => by kernel_rfl, fun _ => by kernel_rfl, fun _ => by kernel_rfl⟩
theorem st65 : StT Try.prog 65 2 [.int .i64 0, .bool false] := ⟨fun _ => by kernel_rfl, fun _ => by kernel_rfl, fun _ => by kernel_rfl⟩
theorem st69 : StT Try.prog 69 4 [.int .i64 0, .int .i64 0, .int .i64 0, .int .i64 0] := ⟨fun _ => by kernel_rfl, fun _ => by kernel_rfl, fun _ => by kernel_rfl⟩
theorem st71 : StT Try.prog 71 2 [.int .i64 0, .int .i64 0] := ⟨fun _ => by kernel_rfl, fun _ => by kernel_rfl, fun _ => by kernel_rfl⟩
theorem st73 : StT Try.prog 73 5 [.int .i64 0, .int .i64 0, .int .i64 0, .int .i64 0, .int .i64 0] := ⟨fun _ => by kernel_rfl, fun _ => by kernel_rfl, fun _ => by kernel_rfl⟩
theorem st75 : StT Try.prog 75 4 [.int .i64 0, .int .i64 0, .int .i64 0, .int .i64 0] := ⟨fun _ => by kernel_rfl, fun _ => by kernel_rfl, fun _ => by kernel_rfl⟩
theorem st77 : StT Try.prog 77 2 [.int .i64 0, .bool false] := ⟨fun _ => by kernel_rfl, fun _ => by kernel_rfl, fun _ => by kernel_rfl⟩
theorem sc3 : ScT Try.prog 3 (.int .i64 0) := ⟨fun _ => by kernel_rfl, fun _ => by kernel_rfl, fun _ => by kernel_rfl, rfl⟩
theorem sc4 : ScT Try.prog 4 (.bool false) := ⟨fun _ => by kernel_rfl, fun _ => by kernel_rfl, fun _ => by kernel_rfl, rfl⟩
theorem sc22 : ScT Try.prog 22 (.slice none 0 0) := ⟨fun _ => by kernel_rfl, fun _ => by kernel_rfl, fun _ => by kernel_rfl, rfl⟩
theorem sc23 : ScT Try.prog 23 (.slice none 0 0) := ⟨fun _ => by kernel_rfl, fun _ => by kernel_rfl, fun _ => by kernel_rfl, rfl⟩
theorem sc24 : ScT Try.prog 24 (.slice none 0 0) := ⟨fun _ => by kernel_rfl, fun _ => by kernel_rfl, fun _ => by kernel_rfl, rfl⟩
theorem sc25 : ScT Try.prog 25 (.slice none 0 0) := ⟨fun _ => by kernel_rfl, fun _ => by kernel_rfl, fun _ => by kernel_rfl, rfl⟩
theorem sc26 : ScT Try.prog 26 (.slice none 0 0) := ⟨fun _ => by kernel_rfl, fun _ => by kernel_rfl, fun _ => by kernel_rfl, rfl⟩
theorem sc31 : ScT Try.prog 31 (.slice none 0 0) := ⟨fun _ => by kernel_rfl, fun _ => by kernel_rfl, fun _ => by kernel_rfl, rfl⟩
theorem sc32 : ScT Try.prog 32 (.slice none 0 0) := ⟨fun _ => by kernel_rfl, fun _ => by kernel_rfl, fun _ => by kernel_rfl, rfl⟩
theorem sc33 : ScT Try.prog 33 (.slice none 0 0) := ⟨fun _ => by kernel_rfl, fun _ => by kernel_rfl, fun _ => by kernel_rfl, rfl⟩
set_option maxRecDepth 20000 in
theorem sl22 : SlT Try.prog 22 73 5 40 [.int .i64 0, .int .i64 0, .int .i64 0, .int .i64 0, .int .i64 0] := ⟨Try.underlying22, ⟨Try.t73, _, Try.type73, rfl, rfl, rfl, rfl⟩, by decide, rfl⟩
set_option maxRecDepth 20000 in
theorem sl23 : SlT Try.prog 23 75 4 32 [.int .i64 0, .int .i64 0, .int .i64 0, .int .i64 0] := ⟨Try.underlying23, ⟨Try.t75, _, Try.type75, rfl, rfl, rfl, rfl⟩, by decide, rfl⟩
set_option maxRecDepth 20000 in
theorem sl24 : SlT Try.prog 24 3 1 8 [.int .i64 0] := ⟨Try.underlying24, ⟨Try.t3, _, Try.type3, rfl, rfl, rfl, rfl⟩, by decide, rfl⟩
set_option maxRecDepth 20000 in
theorem sl25 : SlT Try.prog 25 4 1 1 [.bool false] := ⟨Try.underlying25, ⟨Try.t4, _, Try.type4, rfl, rfl, rfl, rfl⟩, by decide, rfl⟩
set_option maxRecDepth 20000 in
theorem sl26 : SlT Try.prog 26 77 2 16 [.int .i64 0, .bool false] := ⟨Try.underlying26, ⟨Try.t77, _, Try.type77, rfl, rfl, rfl, rfl⟩, by decide, rfl⟩
set_option maxRecDepth 20000 in
theorem sl31 : SlT Try.prog 31 61 5 40 [.int .i64 0, .int .i64 0, .int .i64 0, .int .i64 0, .int .i64 0] := ⟨Try.underlying31, ⟨Try.t61, _, Try.type61, rfl, rfl, rfl, rfl⟩, by decide, rfl⟩
set_option maxRecDepth 20000 in
theorem sl32 : SlT Try.prog 32 69 4 32 [.int .i64 0, .int .i64 0, .int .i64 0, .int .i64 0] := ⟨Try.underlying32, ⟨Try.t69, _, Try.type69, rfl, rfl, rfl, rfl⟩, by decide, rfl⟩
set_option maxRecDepth 20000 in
theorem sl33 : SlT Try.prog 33 65 2 16 [.int .i64 0, .bool false] := ⟨Try.underlying33, ⟨Try.t65, _, Try.type65, rfl, rfl, rfl, rfl⟩, by decide, rfl⟩
theorem fl28_0 : FldT Try.prog 28 0 0 := fun b o w => by simp [go_sem]
theorem fl28_1 : FldT Try.prog 28 1 1 := fun b o w => by simp [go_sem]
theorem fl28_2 : FldT Try.prog 28 2 2 := fun b o w => by simp [go_sem]
theorem fl28_3 : FldT Try.prog 28 3 3 := fun b o w => by simp [go_sem]
theorem fl28_4 : FldT Try.prog 28 4 4 := fun b o w => by simp [go_sem]
theorem fl28_5 : FldT Try.prog 28 5 5 := fun b o w => by simp [go_sem]
theorem fl28_6 : FldT Try.prog 28 6 6 := fun b o w => by simp [go_sem]
theorem fl28_7 : FldT Try.prog 28 7 7 := fun b o w => by simp [go_sem]
theorem fl35_0 : FldT Try.prog 35 0 0 := fun b o w => by simp [go_sem]
theorem fl35_1 : FldT Try.prog 35 1 1 := fun b o w => by simp [go_sem]
theorem fl35_2 : FldT Try.prog 35 2 2 := fun b o w => by simp [go_sem]
theorem fl35_3 : FldT Try.prog 35 3 3 := fun b o w => by simp [go_sem]
theorem fl35_4 : FldT Try.prog 35 4 4 := fun b o w => by simp [go_sem]
theorem fl35_5 : FldT Try.prog 35 5 5 := fun b o w => by simp [go_sem]
theorem fl35_6 : FldT Try.prog 35 6 6 := fun b o w => by simp [go_sem]
theorem fl35_7 : FldT Try.prog 35 7 7 := fun b o w => by simp [go_sem]
theorem fl59_0 : FldT Try.prog 59 0 0 := fun b o w => by simp [go_sem]
theorem fl59_1 : FldT Try.prog 59 1 1 := fun b o w => by simp [go_sem]
theorem fl61_0 : FldT Try.prog 61 0 0 := fun b o w => by simp [go_sem]
theorem fl61_1 : FldT Try.prog 61 1 1 := fun b o w => by simp [go_sem]
theorem fl61_2 : FldT Try.prog 61 2 3 := fun b o w => by simp [go_sem]
theorem fl61_3 : FldT Try.prog 61 3 4 := fun b o w => by simp [go_sem]
theorem fl65_0 : FldT Try.prog 65 0 0 := fun b o w => by simp [go_sem]
theorem fl65_1 : FldT Try.prog 65 1 1 := fun b o w => by simp [go_sem]
theorem fl69_0 : FldT Try.prog 69 0 0 := fun b o w => by simp [go_sem]
theorem fl69_1 : FldT Try.prog 69 1 1 := fun b o w => by simp [go_sem]
theorem fl69_2 : FldT Try.prog 69 2 2 := fun b o w => by simp [go_sem]
theorem fl69_3 : FldT Try.prog 69 3 3 := fun b o w => by simp [go_sem]
theorem fl71_0 : FldT Try.prog 71 0 0 := fun b o w => by simp [go_sem]
theorem fl71_1 : FldT Try.prog 71 1 1 := fun b o w => by simp [go_sem]
theorem fl73_0 : FldT Try.prog 73 0 0 := fun b o w => by simp [go_sem]
theorem fl73_1 : FldT Try.prog 73 1 1 := fun b o w => by simp [go_sem]
theorem fl73_2 : FldT Try.prog 73 2 3 := fun b o w => by simp [go_sem]
theorem fl73_3 : FldT Try.prog 73 3 4 := fun b o w => by simp [go_sem]
theorem fl75_0 : FldT Try.prog 75 0 0 := fun b o w => by simp [go_sem]
theorem fl75_1 : FldT Try.prog 75 1 1 := fun b o w => by simp [go_sem]
theorem fl75_2 : FldT Try.prog 75 2 2 := fun b o w => by simp [go_sem]
theorem fl75_3 : FldT Try.prog 75 3 3 := fun b o w => by simp [go_sem]
theorem fl77_0 : FldT Try.prog 77 0 0 := fun b o w => by simp [go_sem]
theorem fl77_1 : FldT Try.prog 77 1 1 := fun b o w => by simp [go_sem]
theorem eqg61 : Try.prog.eqGuardType Try.prog.depth 61 = false := by kernel_rfl
theorem eq61 (x y : Record) (w : World) : (binOp .eql 61 (.agg (Enc.enc x).toArray) (.agg (Enc.enc y).toArray)).run Try.prog w = .ok (.bool (decide (x = y))) w := by
  rcases x with ⟨_, ⟨_, _⟩, _, _⟩; rcases y with ⟨_, ⟨_, _⟩, _, _⟩
  simp [go_sem, Enc.enc]
  repeat' split
  all_goals simp_all
theorem ne61 (x y : Record) (w : World) : (binOp .neq 61 (.agg (Enc.enc x).toArray) (.agg (Enc.enc y).toArray)).run Try.prog w = .ok (.bool (!(decide (x = y)))) w := by
  rcases x with ⟨_, ⟨_, _⟩, _, _⟩; rcases y with ⟨_, ⟨_, _⟩, _, _⟩
  simp [go_sem, Enc.enc, Bool.not_and]
  repeat' split
  all_goals simp_all
theorem eqg65 : Try.prog.eqGuardType Try.prog.depth 65 = false := by kernel_rfl
theorem eq65 (x y : Done) (w : World) : (binOp .eql 65 (.agg (Enc.enc x).toArray) (.agg (Enc.enc y).toArray)).run Try.prog w = .ok (.bool (decide (x = y))) w := by
  rcases x with ⟨_, _⟩; rcases y with ⟨_, _⟩
  simp [go_sem, Enc.enc]
  repeat' split
  all_goals simp_all
theorem ne65 (x y : Done) (w : World) : (binOp .neq 65 (.agg (Enc.enc x).toArray) (.agg (Enc.enc y).toArray)).run Try.prog w = .ok (.bool (!(decide (x = y)))) w := by
  rcases x with ⟨_, _⟩; rcases y with ⟨_, _⟩
  simp [go_sem, Enc.enc, Bool.not_and]
  repeat' split
  all_goals simp_all
theorem eqg69 : Try.prog.eqGuardType Try.prog.depth 69 = false := by kernel_rfl
theorem eq69 (x y : Cell) (w : World) : (binOp .eql 69 (.agg (Enc.enc x).toArray) (.agg (Enc.enc y).toArray)).run Try.prog w = .ok (.bool (decide (x = y))) w := by
  rcases x with ⟨_, _, _, _⟩; rcases y with ⟨_, _, _, _⟩
  simp [go_sem, Enc.enc]
  repeat' split
  all_goals simp_all
theorem ne69 (x y : Cell) (w : World) : (binOp .neq 69 (.agg (Enc.enc x).toArray) (.agg (Enc.enc y).toArray)).run Try.prog w = .ok (.bool (!(decide (x = y)))) w := by
  rcases x with ⟨_, _, _, _⟩; rcases y with ⟨_, _, _, _⟩
  simp [go_sem, Enc.enc, Bool.not_and]
  repeat' split
  all_goals simp_all
end Go.Proofs.Ytfiafjdgedhbbaa
