/- What is known of the types of the translated program; no condition. -/
import Derived.Test.YtcpjlfikdobckaaModel
import Derived.Test.YtcpjlfikdobckaaProg
namespace Go.Proofs.Ytcpjlfikdobckaa
open Go Go.Proofs.Ytcpjlfikdobckaa.X Go.Proofs
theorem mixed : Try.prog.follows .mixedOrders = true := by kernel_rfl
theorem st28 : StT Try.prog 28 8 [.slice none 0 0, .slice none 0 0, .slice none 0 0, .slice none 0 0, .slice none 0 0, .slice none 0 0, .slice none 0 0, .slice none 0 0] := ⟨fun _ => by kernel_rfl, fun _ => by kernel_rfl, fun _ => by kernel_rfl⟩
theorem st36 : StT Try.prog 36 8 [.slice none 0 0, .slice none 0 0, .slice none 0 0, .slice none 0 0, .slice none 0 0, .slice none 0 0, .slice none 0 0, .slice none 0 0] := ⟨fun _ => by kernel_rfl, fun _ => by kernel_rfl, fun _ => by kernel_rfl⟩
theorem st57 : StT Try.prog 57 2 [.int .i64 0, .int .i64 0] := ⟨fun _ => by kernel_rfl, fun _ => by kernel_rfl, fun _ => by kernel_rfl⟩
theorem st59 : StT Try.prog 59 3 [.int .i64 0, .int .i64 0, .int .i64 0] := ⟨fun _ => by kernel_rfl, fun _ => by kernel_rfl, fun _ => by kernel_rfl⟩
theorem st71 : StT Try.prog 71 5 [.int .i64 0, .int .i64 0, .int .i64 0, .int .i64 0, .int .i64 0] := ⟨fun _ => by kernel_rfl, fun _ => by kernel_rfl, fun _ => by kernel_rfl⟩
theorem st73 : StT Try.prog 73 2 [.int .i64 0, .int .i64 0] := ⟨fun _ => by kernel_rfl, fun _ => by kernel_rfl, fun _ => by kernel_rfl⟩
theorem st75 : StT Try.prog 75 5 [.int .i64 0, .int .i64 0, .int .i64 0, .int .i64 0, .int .i64 0] := ⟨fun _ => by kernel_rfl, fun _ => by kernel_rfl, fun _ => by kernel_rfl⟩
theorem st77 : StT Try.prog 77 4 [.int .i64 0, .int .i64 0, .int .i64 0, .int .i64 0] := ⟨fun _ => by kernel_rfl, fun _ => by kernel_rfl, fun _ => by kernel_rfl⟩
theorem st79 : StT Try.prog 79 4 [.int .i64 0, .int .i64 0, .int .i64 0, .int .i64 0] := ⟨fun _ => by kernel_rfl, fun _ => by kernel_rfl, fun _ => by kernel_rfl⟩
theorem st81 : StT Try.prog 81 2 [.int .i64 0, .bool false] := ⟨fun _ => by kernel_rfl, fun _ => by kernel_rfl, fun _ => by kernel_rfl⟩
theorem st83 : StT Try.prog 83 2 [.int .i64 0, .bool false] := ⟨fun _ => by kernel_rfl, fun _ => by kernel_rfl, fun _ => by kernel_rfl⟩
theorem sc3 : ScT Try.prog 3 (.int .i64 0) := ⟨fun _ => by kernel_rfl, fun _ => by kernel_rfl, fun _ => by kernel_rfl, rfl⟩
theorem sc4 : ScT Try.prog 4 (.bool false) := ⟨fun _ => by kernel_rfl, fun _ => by kernel_rfl, fun _ => by kernel_rfl, rfl⟩
theorem sc22 : ScT Try.prog 22 (.slice none 0 0) := ⟨fun _ => by kernel_rfl, fun _ => by kernel_rfl, fun _ => by kernel_rfl, rfl⟩
theorem sc23 : ScT Try.prog 23 (.slice none 0 0) := ⟨fun _ => by kernel_rfl, fun _ => by kernel_rfl, fun _ => by kernel_rfl, rfl⟩
theorem sc24 : ScT Try.prog 24 (.slice none 0 0) := ⟨fun _ => by kernel_rfl, fun _ => by kernel_rfl, fun _ => by kernel_rfl, rfl⟩
theorem sc25 : ScT Try.prog 25 (.slice none 0 0) := ⟨fun _ => by kernel_rfl, fun _ => by kernel_rfl, fun _ => by kernel_rfl, rfl⟩
theorem sc26 : ScT Try.prog 26 (.slice none 0 0) := ⟨fun _ => by kernel_rfl, fun _ => by kernel_rfl, fun _ => by kernel_rfl, rfl⟩
theorem sc32 : ScT Try.prog 32 (.slice none 0 0) := ⟨fun _ => by kernel_rfl, fun _ => by kernel_rfl, fun _ => by kernel_rfl, rfl⟩
theorem sc33 : ScT Try.prog 33 (.slice none 0 0) := ⟨fun _ => by kernel_rfl, fun _ => by kernel_rfl, fun _ => by kernel_rfl, rfl⟩
theorem sc34 : ScT Try.prog 34 (.slice none 0 0) := ⟨fun _ => by kernel_rfl, fun _ => by kernel_rfl, fun _ => by kernel_rfl, rfl⟩
set_option maxRecDepth 20000 in
theorem sl22 : SlT Try.prog 22 75 5 40 [.int .i64 0, .int .i64 0, .int .i64 0, .int .i64 0, .int .i64 0] := ⟨Try.underlying22, ⟨Try.t75, _, Try.type75, rfl, rfl, rfl, rfl⟩, by decide, rfl⟩
set_option maxRecDepth 20000 in
theorem sl23 : SlT Try.prog 23 79 4 32 [.int .i64 0, .int .i64 0, .int .i64 0, .int .i64 0] := ⟨Try.underlying23, ⟨Try.t79, _, Try.type79, rfl, rfl, rfl, rfl⟩, by decide, rfl⟩
set_option maxRecDepth 20000 in
theorem sl24 : SlT Try.prog 24 3 1 8 [.int .i64 0] := ⟨Try.underlying24, ⟨Try.t3, _, Try.type3, rfl, rfl, rfl, rfl⟩, by decide, rfl⟩
set_option maxRecDepth 20000 in
theorem sl25 : SlT Try.prog 25 4 1 1 [.bool false] := ⟨Try.underlying25, ⟨Try.t4, _, Try.type4, rfl, rfl, rfl, rfl⟩, by decide, rfl⟩
set_option maxRecDepth 20000 in
theorem sl26 : SlT Try.prog 26 83 2 16 [.int .i64 0, .bool false] := ⟨Try.underlying26, ⟨Try.t83, _, Try.type83, rfl, rfl, rfl, rfl⟩, by decide, rfl⟩
set_option maxRecDepth 20000 in
theorem sl30 : SlT Try.prog 30 59 3 24 [.int .i64 0, .int .i64 0, .int .i64 0] := ⟨Try.underlying30, ⟨Try.t59, _, Try.type59, rfl, rfl, rfl, rfl⟩, by decide, rfl⟩
set_option maxRecDepth 20000 in
theorem sl32 : SlT Try.prog 32 71 5 40 [.int .i64 0, .int .i64 0, .int .i64 0, .int .i64 0, .int .i64 0] := ⟨Try.underlying32, ⟨Try.t71, _, Try.type71, rfl, rfl, rfl, rfl⟩, by decide, rfl⟩
set_option maxRecDepth 20000 in
theorem sl33 : SlT Try.prog 33 77 4 32 [.int .i64 0, .int .i64 0, .int .i64 0, .int .i64 0] := ⟨Try.underlying33, ⟨Try.t77, _, Try.type77, rfl, rfl, rfl, rfl⟩, by decide, rfl⟩
set_option maxRecDepth 20000 in
theorem sl34 : SlT Try.prog 34 81 2 16 [.int .i64 0, .bool false] := ⟨Try.underlying34, ⟨Try.t81, _, Try.type81, rfl, rfl, rfl, rfl⟩, by decide, rfl⟩
theorem fl28_0 : FldT Try.prog 28 0 0 := fun b o w => by simp [go_sem]
theorem fl28_1 : FldT Try.prog 28 1 1 := fun b o w => by simp [go_sem]
theorem fl28_2 : FldT Try.prog 28 2 2 := fun b o w => by simp [go_sem]
theorem fl28_3 : FldT Try.prog 28 3 3 := fun b o w => by simp [go_sem]
theorem fl28_4 : FldT Try.prog 28 4 4 := fun b o w => by simp [go_sem]
theorem fl28_5 : FldT Try.prog 28 5 5 := fun b o w => by simp [go_sem]
theorem fl28_6 : FldT Try.prog 28 6 6 := fun b o w => by simp [go_sem]
theorem fl28_7 : FldT Try.prog 28 7 7 := fun b o w => by simp [go_sem]
theorem fl36_0 : FldT Try.prog 36 0 0 := fun b o w => by simp [go_sem]
theorem fl36_1 : FldT Try.prog 36 1 1 := fun b o w => by simp [go_sem]
theorem fl36_2 : FldT Try.prog 36 2 2 := fun b o w => by simp [go_sem]
theorem fl36_3 : FldT Try.prog 36 3 3 := fun b o w => by simp [go_sem]
theorem fl36_4 : FldT Try.prog 36 4 4 := fun b o w => by simp [go_sem]
theorem fl36_5 : FldT Try.prog 36 5 5 := fun b o w => by simp [go_sem]
theorem fl36_6 : FldT Try.prog 36 6 6 := fun b o w => by simp [go_sem]
theorem fl36_7 : FldT Try.prog 36 7 7 := fun b o w => by simp [go_sem]
theorem fl57_0 : FldT Try.prog 57 0 0 := fun b o w => by simp [go_sem]
theorem fl57_1 : FldT Try.prog 57 1 1 := fun b o w => by simp [go_sem]
theorem fl59_0 : FldT Try.prog 59 0 0 := fun b o w => by simp [go_sem]
theorem fl59_1 : FldT Try.prog 59 1 2 := fun b o w => by simp [go_sem]
theorem fl71_0 : FldT Try.prog 71 0 0 := fun b o w => by simp [go_sem]
theorem fl71_1 : FldT Try.prog 71 1 1 := fun b o w => by simp [go_sem]
theorem fl71_2 : FldT Try.prog 71 2 3 := fun b o w => by simp [go_sem]
theorem fl71_3 : FldT Try.prog 71 3 4 := fun b o w => by simp [go_sem]
theorem fl73_0 : FldT Try.prog 73 0 0 := fun b o w => by simp [go_sem]
theorem fl73_1 : FldT Try.prog 73 1 1 := fun b o w => by simp [go_sem]
theorem fl75_0 : FldT Try.prog 75 0 0 := fun b o w => by simp [go_sem]
theorem fl75_1 : FldT Try.prog 75 1 1 := fun b o w => by simp [go_sem]
theorem fl75_2 : FldT Try.prog 75 2 3 := fun b o w => by simp [go_sem]
theorem fl75_3 : FldT Try.prog 75 3 4 := fun b o w => by simp [go_sem]
theorem fl77_0 : FldT Try.prog 77 0 0 := fun b o w => by simp [go_sem]
theorem fl77_1 : FldT Try.prog 77 1 1 := fun b o w => by simp [go_sem]
theorem fl77_2 : FldT Try.prog 77 2 2 := fun b o w => by simp [go_sem]
theorem fl77_3 : FldT Try.prog 77 3 3 := fun b o w => by simp [go_sem]
theorem fl79_0 : FldT Try.prog 79 0 0 := fun b o w => by simp [go_sem]
theorem fl79_1 : FldT Try.prog 79 1 1 := fun b o w => by simp [go_sem]
theorem fl79_2 : FldT Try.prog 79 2 2 := fun b o w => by simp [go_sem]
theorem fl79_3 : FldT Try.prog 79 3 3 := fun b o w => by simp [go_sem]
theorem fl81_0 : FldT Try.prog 81 0 0 := fun b o w => by simp [go_sem]
theorem fl81_1 : FldT Try.prog 81 1 1 := fun b o w => by simp [go_sem]
theorem fl83_0 : FldT Try.prog 83 0 0 := fun b o w => by simp [go_sem]
theorem fl83_1 : FldT Try.prog 83 1 1 := fun b o w => by simp [go_sem]
theorem eqg57 : Try.prog.eqGuardType Try.prog.depth 57 = false := by kernel_rfl
theorem eq57 (x y : Stamp) (w : World) : (binOp .eql 57 (.agg (Enc.enc x).toArray) (.agg (Enc.enc y).toArray)).run Try.prog w = .ok (.bool (decide (x = y))) w := by
  rcases x with ⟨_, _⟩; rcases y with ⟨_, _⟩
  simp [go_sem, Enc.enc]
  repeat' split
  all_goals simp_all
theorem ne57 (x y : Stamp) (w : World) : (binOp .neq 57 (.agg (Enc.enc x).toArray) (.agg (Enc.enc y).toArray)).run Try.prog w = .ok (.bool (!(decide (x = y)))) w := by
  rcases x with ⟨_, _⟩; rcases y with ⟨_, _⟩
  simp [go_sem, Enc.enc, Bool.not_and]
  repeat' split
  all_goals simp_all
end Go.Proofs.Ytcpjlfikdobckaa
