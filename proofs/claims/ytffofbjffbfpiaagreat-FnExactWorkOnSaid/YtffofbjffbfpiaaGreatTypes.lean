/- What is known of the types of the translated program; no condition. -/
import Derived.Test.YtffofbjffbfpiaaGreatModel
import Derived.Test.YtffofbjffbfpiaaGreatProg
namespace Go.Proofs.YtffofbjffbfpiaaGreat
open Go Go.Proofs.YtffofbjffbfpiaaGreat.X Go.Proofs
theorem mixed : Tryz.prog.follows .mixedOrders = true := by kernel_rfl
theorem st24 : StT Tryz.prog 24 3 [.slice none 0 0, .int .i64 0, .int .i64 0] := ⟨fun _ => by kernel_rfl, fun _ => by kernel_rfl, fun _ => by kernel_rfl⟩
theorem st31 : StT Tryz.prog 31 8 [.slice none 0 0, .slice none 0 0, .slice none 0 0, .slice none 0 0, .slice none 0 0, .slice none 0 0, .slice none 0 0, .slice none 0 0] := ⟨fun _ => by kernel_rfl, fun _ => by kernel_rfl, fun _ => by kernel_rfl⟩
theorem st38 : StT Tryz.prog 38 8 [.slice none 0 0, .slice none 0 0, .slice none 0 0, .slice none 0 0, .slice none 0 0, .slice none 0 0, .slice none 0 0, .slice none 0 0] := ⟨fun _ => by kernel_rfl, fun _ => by kernel_rfl, fun _ => by kernel_rfl⟩
theorem st43 : StT Tryz.prog 43 3 [.slice none 0 0, .int .i64 0, .int .i64 0] := ⟨fun _ => by kernel_rfl, fun _ => by kernel_rfl, fun _ => by kernel_rfl⟩
theorem st61 : StT Tryz.prog 61 2 [.int .i64 0, .int .i64 0] := ⟨fun _ => by kernel_rfl, fun _ => by kernel_rfl, fun _ => by kernel_rfl⟩
theorem st63 : StT Tryz.prog 63 5 [.int .i64 0, .int .i64 0, .int .i64 0, .int .i64 0, .int .i64 0] := ⟨fun _ => by kernel_rfl, fun _ => by kernel_rfl, fun _ => by kernel_rfl⟩
theorem st85 : StT Tryz.prog 85 4 [.int .i64 0, .int .i64 0, .int .i64 0, .slice none 0 0] := ⟨fun _ => by kernel_rfl, fun _ => by kernel_rfl, fun _ => by kernel_rfl⟩
theorem st87 : StT Tryz.prog 87 4 [.int .i64 0, .int .i64 0, .int .i64 0, .slice none 0 0] := ⟨fun _ => by kernel_rfl, fun _ => by kernel_rfl, fun _ => by kernel_rfl⟩
theorem st92 : StT Tryz.prog 92 2 [.int .i64 0, .bool false] := ⟨fun _ => by kernel_rfl, fun _ => by kernel_rfl, fun _ => by kernel_rfl⟩
theorem st102 : StT Tryz.prog 102 4 [.int .i64 0, .int .i64 0, .int .i64 0, .int .i64 0] := ⟨fun _ => by kernel_rfl, fun _ => by kernel_rfl, fun _ => by kernel_rfl⟩
theorem st107 : StT Tryz.prog 107 2 [.int .i64 0, .int .i64 0] := ⟨fun _ => by kernel_rfl, fun _ => by kernel_rfl, fun _ => by kernel_rfl⟩
theorem st109 : StT Tryz.prog 109 5 [.int .i64 0, .int .i64 0, .int .i64 0, .int .i64 0, .int .i64 0] := ⟨fun _ => by kernel_rfl, fun _ => by kernel_rfl, fun _ => by kernel_rfl⟩
theorem st111 : StT Tryz.prog 111 4 [.int .i64 0, .int .i64 0, .int .i64 0, .int .i64 0] := ⟨fun _ => by kernel_rfl, fun _ => by kernel_rfl, fun _ => by kernel_rfl⟩
theorem st113 : StT Tryz.prog 113 2 [.int .i64 0, .bool false] := ⟨fun _ => by kernel_rfl, fun _ => by kernel_rfl, fun _ => by kernel_rfl⟩
theorem sc3 : ScT Tryz.prog 3 (.int .i64 0) := ⟨fun _ => by kernel_rfl, fun _ => by kernel_rfl, fun _ => by kernel_rfl, rfl⟩
theorem sc4 : ScT Tryz.prog 4 (.bool false) := ⟨fun _ => by kernel_rfl, fun _ => by kernel_rfl, fun _ => by kernel_rfl, rfl⟩
theorem sc22 : ScT Tryz.prog 22 (.slice none 0 0) := ⟨fun _ => by kernel_rfl, fun _ => by kernel_rfl, fun _ => by kernel_rfl, rfl⟩
theorem sc25 : ScT Tryz.prog 25 (.slice none 0 0) := ⟨fun _ => by kernel_rfl, fun _ => by kernel_rfl, fun _ => by kernel_rfl, rfl⟩
theorem sc26 : ScT Tryz.prog 26 (.slice none 0 0) := ⟨fun _ => by kernel_rfl, fun _ => by kernel_rfl, fun _ => by kernel_rfl, rfl⟩
theorem sc27 : ScT Tryz.prog 27 (.slice none 0 0) := ⟨fun _ => by kernel_rfl, fun _ => by kernel_rfl, fun _ => by kernel_rfl, rfl⟩
theorem sc28 : ScT Tryz.prog 28 (.slice none 0 0) := ⟨fun _ => by kernel_rfl, fun _ => by kernel_rfl, fun _ => by kernel_rfl, rfl⟩
theorem sc29 : ScT Tryz.prog 29 (.slice none 0 0) := ⟨fun _ => by kernel_rfl, fun _ => by kernel_rfl, fun _ => by kernel_rfl, rfl⟩
theorem sc34 : ScT Tryz.prog 34 (.slice none 0 0) := ⟨fun _ => by kernel_rfl, fun _ => by kernel_rfl, fun _ => by kernel_rfl, rfl⟩
theorem sc35 : ScT Tryz.prog 35 (.slice none 0 0) := ⟨fun _ => by kernel_rfl, fun _ => by kernel_rfl, fun _ => by kernel_rfl, rfl⟩
theorem sc36 : ScT Tryz.prog 36 (.slice none 0 0) := ⟨fun _ => by kernel_rfl, fun _ => by kernel_rfl, fun _ => by kernel_rfl, rfl⟩
theorem sc41 : ScT Tryz.prog 41 (.slice none 0 0) := ⟨fun _ => by kernel_rfl, fun _ => by kernel_rfl, fun _ => by kernel_rfl, rfl⟩
set_option maxRecDepth 20000 in
theorem sl22 : SlT Tryz.prog 22 85 4 48 [.int .i64 0, .int .i64 0, .int .i64 0, .slice none 0 0] := ⟨Tryz.underlying22, ⟨Tryz.t85, _, Tryz.type85, rfl, rfl, rfl, rfl⟩, by decide, rfl⟩
set_option maxRecDepth 20000 in
theorem sl25 : SlT Tryz.prog 25 109 5 40 [.int .i64 0, .int .i64 0, .int .i64 0, .int .i64 0, .int .i64 0] := ⟨Tryz.underlying25, ⟨Tryz.t109, _, Tryz.type109, rfl, rfl, rfl, rfl⟩, by decide, rfl⟩
set_option maxRecDepth 20000 in
theorem sl26 : SlT Tryz.prog 26 111 4 32 [.int .i64 0, .int .i64 0, .int .i64 0, .int .i64 0] := ⟨Tryz.underlying26, ⟨Tryz.t111, _, Tryz.type111, rfl, rfl, rfl, rfl⟩, by decide, rfl⟩
set_option maxRecDepth 20000 in
theorem sl27 : SlT Tryz.prog 27 3 1 8 [.int .i64 0] := ⟨Tryz.underlying27, ⟨Tryz.t3, _, Tryz.type3, rfl, rfl, rfl, rfl⟩, by decide, rfl⟩
set_option maxRecDepth 20000 in
theorem sl28 : SlT Tryz.prog 28 4 1 1 [.bool false] := ⟨Tryz.underlying28, ⟨Tryz.t4, _, Tryz.type4, rfl, rfl, rfl, rfl⟩, by decide, rfl⟩
set_option maxRecDepth 20000 in
theorem sl29 : SlT Tryz.prog 29 113 2 16 [.int .i64 0, .bool false] := ⟨Tryz.underlying29, ⟨Tryz.t113, _, Tryz.type113, rfl, rfl, rfl, rfl⟩, by decide, rfl⟩
set_option maxRecDepth 20000 in
theorem sl34 : SlT Tryz.prog 34 63 5 40 [.int .i64 0, .int .i64 0, .int .i64 0, .int .i64 0, .int .i64 0] := ⟨Tryz.underlying34, ⟨Tryz.t63, _, Tryz.type63, rfl, rfl, rfl, rfl⟩, by decide, rfl⟩
set_option maxRecDepth 20000 in
theorem sl35 : SlT Tryz.prog 35 102 4 32 [.int .i64 0, .int .i64 0, .int .i64 0, .int .i64 0] := ⟨Tryz.underlying35, ⟨Tryz.t102, _, Tryz.type102, rfl, rfl, rfl, rfl⟩, by decide, rfl⟩
set_option maxRecDepth 20000 in
theorem sl36 : SlT Tryz.prog 36 92 2 16 [.int .i64 0, .bool false] := ⟨Tryz.underlying36, ⟨Tryz.t92, _, Tryz.type92, rfl, rfl, rfl, rfl⟩, by decide, rfl⟩
set_option maxRecDepth 20000 in
theorem sl41 : SlT Tryz.prog 41 87 4 48 [.int .i64 0, .int .i64 0, .int .i64 0, .slice none 0 0] := ⟨Tryz.underlying41, ⟨Tryz.t87, _, Tryz.type87, rfl, rfl, rfl, rfl⟩, by decide, rfl⟩
theorem fl24_0 : FldT Tryz.prog 24 0 0 := fun b o w => by simp [go_sem]
theorem fl24_1 : FldT Tryz.prog 24 1 1 := fun b o w => by simp [go_sem]
theorem fl24_2 : FldT Tryz.prog 24 2 2 := fun b o w => by simp [go_sem]
theorem fl31_0 : FldT Tryz.prog 31 0 0 := fun b o w => by simp [go_sem]
theorem fl31_1 : FldT Tryz.prog 31 1 1 := fun b o w => by simp [go_sem]
theorem fl31_2 : FldT Tryz.prog 31 2 2 := fun b o w => by simp [go_sem]
theorem fl31_3 : FldT Tryz.prog 31 3 3 := fun b o w => by simp [go_sem]
theorem fl31_4 : FldT Tryz.prog 31 4 4 := fun b o w => by simp [go_sem]
theorem fl31_5 : FldT Tryz.prog 31 5 5 := fun b o w => by simp [go_sem]
theorem fl31_6 : FldT Tryz.prog 31 6 6 := fun b o w => by simp [go_sem]
theorem fl31_7 : FldT Tryz.prog 31 7 7 := fun b o w => by simp [go_sem]
theorem fl38_0 : FldT Tryz.prog 38 0 0 := fun b o w => by simp [go_sem]
theorem fl38_1 : FldT Tryz.prog 38 1 1 := fun b o w => by simp [go_sem]
theorem fl38_2 : FldT Tryz.prog 38 2 2 := fun b o w => by simp [go_sem]
theorem fl38_3 : FldT Tryz.prog 38 3 3 := fun b o w => by simp [go_sem]
theorem fl38_4 : FldT Tryz.prog 38 4 4 := fun b o w => by simp [go_sem]
theorem fl38_5 : FldT Tryz.prog 38 5 5 := fun b o w => by simp [go_sem]
theorem fl38_6 : FldT Tryz.prog 38 6 6 := fun b o w => by simp [go_sem]
theorem fl38_7 : FldT Tryz.prog 38 7 7 := fun b o w => by simp [go_sem]
theorem fl43_0 : FldT Tryz.prog 43 0 0 := fun b o w => by simp [go_sem]
theorem fl43_1 : FldT Tryz.prog 43 1 1 := fun b o w => by simp [go_sem]
theorem fl43_2 : FldT Tryz.prog 43 2 2 := fun b o w => by simp [go_sem]
theorem fl61_0 : FldT Tryz.prog 61 0 0 := fun b o w => by simp [go_sem]
theorem fl61_1 : FldT Tryz.prog 61 1 1 := fun b o w => by simp [go_sem]
theorem fl63_0 : FldT Tryz.prog 63 0 0 := fun b o w => by simp [go_sem]
theorem fl63_1 : FldT Tryz.prog 63 1 1 := fun b o w => by simp [go_sem]
theorem fl63_2 : FldT Tryz.prog 63 2 3 := fun b o w => by simp [go_sem]
theorem fl63_3 : FldT Tryz.prog 63 3 4 := fun b o w => by simp [go_sem]
theorem fl85_0 : FldT Tryz.prog 85 0 0 := fun b o w => by simp [go_sem]
theorem fl85_1 : FldT Tryz.prog 85 1 1 := fun b o w => by simp [go_sem]
theorem fl85_2 : FldT Tryz.prog 85 2 2 := fun b o w => by simp [go_sem]
theorem fl85_3 : FldT Tryz.prog 85 3 3 := fun b o w => by simp [go_sem]
theorem fl87_0 : FldT Tryz.prog 87 0 0 := fun b o w => by simp [go_sem]
theorem fl87_1 : FldT Tryz.prog 87 1 1 := fun b o w => by simp [go_sem]
theorem fl87_2 : FldT Tryz.prog 87 2 2 := fun b o w => by simp [go_sem]
theorem fl87_3 : FldT Tryz.prog 87 3 3 := fun b o w => by simp [go_sem]
theorem fl92_0 : FldT Tryz.prog 92 0 0 := fun b o w => by simp [go_sem]
theorem fl92_1 : FldT Tryz.prog 92 1 1 := fun b o w => by simp [go_sem]
theorem fl102_0 : FldT Tryz.prog 102 0 0 := fun b o w => by simp [go_sem]
theorem fl102_1 : FldT Tryz.prog 102 1 1 := fun b o w => by simp [go_sem]
theorem fl102_2 : FldT Tryz.prog 102 2 2 := fun b o w => by simp [go_sem]
theorem fl102_3 : FldT Tryz.prog 102 3 3 := fun b o w => by simp [go_sem]
theorem fl107_0 : FldT Tryz.prog 107 0 0 := fun b o w => by simp [go_sem]
theorem fl107_1 : FldT Tryz.prog 107 1 1 := fun b o w => by simp [go_sem]
theorem fl109_0 : FldT Tryz.prog 109 0 0 := fun b o w => by simp [go_sem]
theorem fl109_1 : FldT Tryz.prog 109 1 1 := fun b o w => by simp [go_sem]
theorem fl109_2 : FldT Tryz.prog 109 2 3 := fun b o w => by simp [go_sem]
theorem fl109_3 : FldT Tryz.prog 109 3 4 := fun b o w => by simp [go_sem]
theorem fl111_0 : FldT Tryz.prog 111 0 0 := fun b o w => by simp [go_sem]
theorem fl111_1 : FldT Tryz.prog 111 1 1 := fun b o w => by simp [go_sem]
theorem fl111_2 : FldT Tryz.prog 111 2 2 := fun b o w => by simp [go_sem]
theorem fl111_3 : FldT Tryz.prog 111 3 3 := fun b o w => by simp [go_sem]
theorem fl113_0 : FldT Tryz.prog 113 0 0 := fun b o w => by simp [go_sem]
theorem fl113_1 : FldT Tryz.prog 113 1 1 := fun b o w => by simp [go_sem]
theorem eqg102 : Tryz.prog.eqGuardType Tryz.prog.depth 102 = false := by kernel_rfl
theorem eq102 (x y : Cell) (w : World) : (binOp .eql 102 (.agg (Enc.enc x).toArray) (.agg (Enc.enc y).toArray)).run Tryz.prog w = .ok (.bool (decide (x = y))) w := by
  rcases x with ⟨_, _, _, _⟩; rcases y with ⟨_, _, _, _⟩
  simp [go_sem, Enc.enc]
  repeat' split
  all_goals simp_all
theorem ne102 (x y : Cell) (w : World) : (binOp .neq 102 (.agg (Enc.enc x).toArray) (.agg (Enc.enc y).toArray)).run Tryz.prog w = .ok (.bool (!(decide (x = y)))) w := by
  rcases x with ⟨_, _, _, _⟩; rcases y with ⟨_, _, _, _⟩
  simp [go_sem, Enc.enc, Bool.not_and]
  repeat' split
  all_goals simp_all
end Go.Proofs.YtffofbjffbfpiaaGreat
