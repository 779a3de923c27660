/- What is known of the types of the translated program; no condition. -/
import Derived.Test.YtnfbnbdjdokmpaaModel
import Derived.Test.YtnfbnbdjdokmpaaProg
namespace Go.Proofs.Ytnfbnbdjdokmpaa
open Go Go.Proofs.Ytnfbnbdjdokmpaa.X Go.Proofs
theorem mixed : Try.prog.follows .mixedOrders = true := by kernel_rfl
theorem st24 : StT Try.prog 24 3 [.slice none 0 0, .int .i64 0, .int .i64 0] := ⟨fun _ => by kernel_rfl, fun _ => by kernel_rfl, fun _ => by kernel_rfl⟩
theorem st30 : StT Try.prog 30 7 [.slice none 0 0, .int .i64 0, .int .i64 0, .slice none 0 0, .slice none 0 0, .slice none 0 0, .slice none 0 0] := ⟨fun _ => by kernel_rfl, fun _ => by kernel_rfl, fun _ => by kernel_rfl⟩
theorem st35 : StT Try.prog 35 3 [.slice none 0 0, .int .i64 0, .int .i64 0] := ⟨fun _ => by kernel_rfl, fun _ => by kernel_rfl, fun _ => by kernel_rfl⟩
theorem st41 : StT Try.prog 41 7 [.slice none 0 0, .int .i64 0, .int .i64 0, .slice none 0 0, .slice none 0 0, .slice none 0 0, .slice none 0 0] := ⟨fun _ => by kernel_rfl, fun _ => by kernel_rfl, fun _ => by kernel_rfl⟩
theorem st54 : StT Try.prog 54 5 [.bool false, .int .i64 0, .int .i64 0, .bool false, .bool false] := ⟨fun _ => by kernel_rfl, fun _ => by kernel_rfl, fun _ => by kernel_rfl⟩
theorem st72 : StT Try.prog 72 8 [.slice none 0 0, .slice none 0 0, .slice none 0 0, .slice none 0 0, .slice none 0 0, .slice none 0 0, .slice none 0 0, .slice none 0 0] := ⟨fun _ => by kernel_rfl, fun _ => by kernel_rfl, fun _ => by kernel_rfl⟩
theorem st76 : StT Try.prog 76 6 [.int .i64 0, .slice none 0 0, .int .i64 0, .int .i64 0, .int .i64 0, .int .i64 0] := ⟨fun _ => by kernel_rfl, fun _ => by kernel_rfl, fun _ => by kernel_rfl⟩
theorem st78 : StT Try.prog 78 3 [.int .i64 0, .int .i64 0, .bool false] := ⟨fun _ => by kernel_rfl, fun _ => by kernel_rfl, fun _ => by kernel_rfl⟩
theorem st87 : StT Try.prog 87 8 [.slice none 0 0, .slice none 0 0, .slice none 0 0, .slice none 0 0, .slice none 0 0, .slice none 0 0, .slice none 0 0, .slice none 0 0] := ⟨fun _ => by kernel_rfl, fun _ => by kernel_rfl, fun _ => by kernel_rfl⟩
theorem st90 : StT Try.prog 90 6 [.int .i64 0, .slice none 0 0, .int .i64 0, .int .i64 0, .int .i64 0, .int .i64 0] := ⟨fun _ => by kernel_rfl, fun _ => by kernel_rfl, fun _ => by kernel_rfl⟩
theorem st95 : StT Try.prog 95 5 [.bool false, .int .i64 0, .int .i64 0, .bool false, .bool false] := ⟨fun _ => by kernel_rfl, fun _ => by kernel_rfl, fun _ => by kernel_rfl⟩
theorem st97 : StT Try.prog 97 3 [.int .i64 0, .int .i64 0, .bool false] := ⟨fun _ => by kernel_rfl, fun _ => by kernel_rfl, fun _ => by kernel_rfl⟩
theorem st102 : StT Try.prog 102 4 [.int .i64 0, .int .i64 0, .int .i64 0, .slice none 0 0] := ⟨fun _ => by kernel_rfl, fun _ => by kernel_rfl, fun _ => by kernel_rfl⟩
theorem st108 : StT Try.prog 108 2 [.int .i64 0, .bool false] := ⟨fun _ => by kernel_rfl, fun _ => by kernel_rfl, fun _ => by kernel_rfl⟩
theorem st112 : StT Try.prog 112 2 [.int .i64 0, .int .i64 0] := ⟨fun _ => by kernel_rfl, fun _ => by kernel_rfl, fun _ => by kernel_rfl⟩
theorem st114 : StT Try.prog 114 5 [.int .i64 0, .int .i64 0, .int .i64 0, .int .i64 0, .int .i64 0] := ⟨fun _ => by kernel_rfl, fun _ => by kernel_rfl, fun _ => by kernel_rfl⟩
theorem st116 : StT Try.prog 116 4 [.int .i64 0, .int .i64 0, .int .i64 0, .int .i64 0] := ⟨fun _ => by kernel_rfl, fun _ => by kernel_rfl, fun _ => by kernel_rfl⟩
theorem st119 : StT Try.prog 119 4 [.int .i64 0, .int .i64 0, .int .i64 0, .slice none 0 0] := ⟨fun _ => by kernel_rfl, fun _ => by kernel_rfl, fun _ => by kernel_rfl⟩
theorem st132 : StT Try.prog 132 2 [.int .i64 0, .int .i64 0] := ⟨fun _ => by kernel_rfl, fun _ => by kernel_rfl, fun _ => by kernel_rfl⟩
theorem st134 : StT Try.prog 134 5 [.int .i64 0, .int .i64 0, .int .i64 0, .int .i64 0, .int .i64 0] := ⟨fun _ => by kernel_rfl, fun _ => by kernel_rfl, fun _ => by kernel_rfl⟩
theorem st136 : StT Try.prog 136 4 [.int .i64 0, .int .i64 0, .int .i64 0, .int .i64 0] := ⟨fun _ => by kernel_rfl, fun _ => by kernel_rfl, fun _ => by kernel_rfl⟩
theorem st138 : StT Try.prog 138 2 [.int .i64 0, .bool false] := ⟨fun _ => by kernel_rfl, fun _ => by kernel_rfl, fun _ => by kernel_rfl⟩
theorem sc3 : ScT Try.prog 3 (.int .i64 0) := ⟨fun _ => by kernel_rfl, fun _ => by kernel_rfl, fun _ => by kernel_rfl, rfl⟩
theorem sc4 : ScT Try.prog 4 (.bool false) := ⟨fun _ => by kernel_rfl, fun _ => by kernel_rfl, fun _ => by kernel_rfl, rfl⟩
theorem sc22 : ScT Try.prog 22 (.slice none 0 0) := ⟨fun _ => by kernel_rfl, fun _ => by kernel_rfl, fun _ => by kernel_rfl, rfl⟩
theorem sc25 : ScT Try.prog 25 (.slice none 0 0) := ⟨fun _ => by kernel_rfl, fun _ => by kernel_rfl, fun _ => by kernel_rfl, rfl⟩
theorem sc26 : ScT Try.prog 26 (.slice none 0 0) := ⟨fun _ => by kernel_rfl, fun _ => by kernel_rfl, fun _ => by kernel_rfl, rfl⟩
theorem sc27 : ScT Try.prog 27 (.slice none 0 0) := ⟨fun _ => by kernel_rfl, fun _ => by kernel_rfl, fun _ => by kernel_rfl, rfl⟩
theorem sc28 : ScT Try.prog 28 (.slice none 0 0) := ⟨fun _ => by kernel_rfl, fun _ => by kernel_rfl, fun _ => by kernel_rfl, rfl⟩
theorem sc33 : ScT Try.prog 33 (.slice none 0 0) := ⟨fun _ => by kernel_rfl, fun _ => by kernel_rfl, fun _ => by kernel_rfl, rfl⟩
theorem sc36 : ScT Try.prog 36 (.slice none 0 0) := ⟨fun _ => by kernel_rfl, fun _ => by kernel_rfl, fun _ => by kernel_rfl, rfl⟩
theorem sc37 : ScT Try.prog 37 (.slice none 0 0) := ⟨fun _ => by kernel_rfl, fun _ => by kernel_rfl, fun _ => by kernel_rfl, rfl⟩
theorem sc38 : ScT Try.prog 38 (.slice none 0 0) := ⟨fun _ => by kernel_rfl, fun _ => by kernel_rfl, fun _ => by kernel_rfl, rfl⟩
theorem sc39 : ScT Try.prog 39 (.slice none 0 0) := ⟨fun _ => by kernel_rfl, fun _ => by kernel_rfl, fun _ => by kernel_rfl, rfl⟩
theorem sc66 : ScT Try.prog 66 (.slice none 0 0) := ⟨fun _ => by kernel_rfl, fun _ => by kernel_rfl, fun _ => by kernel_rfl, rfl⟩
theorem sc67 : ScT Try.prog 67 (.slice none 0 0) := ⟨fun _ => by kernel_rfl, fun _ => by kernel_rfl, fun _ => by kernel_rfl, rfl⟩
theorem sc68 : ScT Try.prog 68 (.slice none 0 0) := ⟨fun _ => by kernel_rfl, fun _ => by kernel_rfl, fun _ => by kernel_rfl, rfl⟩
theorem sc69 : ScT Try.prog 69 (.slice none 0 0) := ⟨fun _ => by kernel_rfl, fun _ => by kernel_rfl, fun _ => by kernel_rfl, rfl⟩
theorem sc70 : ScT Try.prog 70 (.slice none 0 0) := ⟨fun _ => by kernel_rfl, fun _ => by kernel_rfl, fun _ => by kernel_rfl, rfl⟩
theorem sc83 : ScT Try.prog 83 (.slice none 0 0) := ⟨fun _ => by kernel_rfl, fun _ => by kernel_rfl, fun _ => by kernel_rfl, rfl⟩
theorem sc84 : ScT Try.prog 84 (.slice none 0 0) := ⟨fun _ => by kernel_rfl, fun _ => by kernel_rfl, fun _ => by kernel_rfl, rfl⟩
theorem sc85 : ScT Try.prog 85 (.slice none 0 0) := ⟨fun _ => by kernel_rfl, fun _ => by kernel_rfl, fun _ => by kernel_rfl, rfl⟩
set_option maxRecDepth 20000 in
theorem sl22 : SlT Try.prog 22 119 4 48 [.int .i64 0, .int .i64 0, .int .i64 0, .slice none 0 0] := ⟨Try.underlying22, ⟨Try.t119, _, Try.type119, rfl, rfl, rfl, rfl⟩, by decide, rfl⟩
set_option maxRecDepth 20000 in
theorem sl25 : SlT Try.prog 25 87 8 192 [.slice none 0 0, .slice none 0 0, .slice none 0 0, .slice none 0 0, .slice none 0 0, .slice none 0 0, .slice none 0 0, .slice none 0 0] := ⟨Try.underlying25, ⟨Try.t87, _, Try.type87, rfl, rfl, rfl, rfl⟩, by decide, rfl⟩
set_option maxRecDepth 20000 in
theorem sl26 : SlT Try.prog 26 90 6 64 [.int .i64 0, .slice none 0 0, .int .i64 0, .int .i64 0, .int .i64 0, .int .i64 0] := ⟨Try.underlying26, ⟨Try.t90, _, Try.type90, rfl, rfl, rfl, rfl⟩, by decide, rfl⟩
set_option maxRecDepth 20000 in
theorem sl27 : SlT Try.prog 27 95 5 32 [.bool false, .int .i64 0, .int .i64 0, .bool false, .bool false] := ⟨Try.underlying27, ⟨Try.t95, _, Try.type95, rfl, rfl, rfl, rfl⟩, by decide, rfl⟩
set_option maxRecDepth 20000 in
theorem sl28 : SlT Try.prog 28 97 3 24 [.int .i64 0, .int .i64 0, .bool false] := ⟨Try.underlying28, ⟨Try.t97, _, Try.type97, rfl, rfl, rfl, rfl⟩, by decide, rfl⟩
set_option maxRecDepth 20000 in
theorem sl33 : SlT Try.prog 33 102 4 48 [.int .i64 0, .int .i64 0, .int .i64 0, .slice none 0 0] := ⟨Try.underlying33, ⟨Try.t102, _, Try.type102, rfl, rfl, rfl, rfl⟩, by decide, rfl⟩
set_option maxRecDepth 20000 in
theorem sl36 : SlT Try.prog 36 72 8 192 [.slice none 0 0, .slice none 0 0, .slice none 0 0, .slice none 0 0, .slice none 0 0, .slice none 0 0, .slice none 0 0, .slice none 0 0] := ⟨Try.underlying36, ⟨Try.t72, _, Try.type72, rfl, rfl, rfl, rfl⟩, by decide, rfl⟩
set_option maxRecDepth 20000 in
theorem sl37 : SlT Try.prog 37 76 6 64 [.int .i64 0, .slice none 0 0, .int .i64 0, .int .i64 0, .int .i64 0, .int .i64 0] := ⟨Try.underlying37, ⟨Try.t76, _, Try.type76, rfl, rfl, rfl, rfl⟩, by decide, rfl⟩
set_option maxRecDepth 20000 in
theorem sl38 : SlT Try.prog 38 54 5 32 [.bool false, .int .i64 0, .int .i64 0, .bool false, .bool false] := ⟨Try.underlying38, ⟨Try.t54, _, Try.type54, rfl, rfl, rfl, rfl⟩, by decide, rfl⟩
set_option maxRecDepth 20000 in
theorem sl39 : SlT Try.prog 39 78 3 24 [.int .i64 0, .int .i64 0, .bool false] := ⟨Try.underlying39, ⟨Try.t78, _, Try.type78, rfl, rfl, rfl, rfl⟩, by decide, rfl⟩
set_option maxRecDepth 20000 in
theorem sl66 : SlT Try.prog 66 114 5 40 [.int .i64 0, .int .i64 0, .int .i64 0, .int .i64 0, .int .i64 0] := ⟨Try.underlying66, ⟨Try.t114, _, Try.type114, rfl, rfl, rfl, rfl⟩, by decide, rfl⟩
set_option maxRecDepth 20000 in
theorem sl67 : SlT Try.prog 67 116 4 32 [.int .i64 0, .int .i64 0, .int .i64 0, .int .i64 0] := ⟨Try.underlying67, ⟨Try.t116, _, Try.type116, rfl, rfl, rfl, rfl⟩, by decide, rfl⟩
set_option maxRecDepth 20000 in
theorem sl68 : SlT Try.prog 68 3 1 8 [.int .i64 0] := ⟨Try.underlying68, ⟨Try.t3, _, Try.type3, rfl, rfl, rfl, rfl⟩, by decide, rfl⟩
set_option maxRecDepth 20000 in
theorem sl69 : SlT Try.prog 69 4 1 1 [.bool false] := ⟨Try.underlying69, ⟨Try.t4, _, Try.type4, rfl, rfl, rfl, rfl⟩, by decide, rfl⟩
set_option maxRecDepth 20000 in
theorem sl70 : SlT Try.prog 70 108 2 16 [.int .i64 0, .bool false] := ⟨Try.underlying70, ⟨Try.t108, _, Try.type108, rfl, rfl, rfl, rfl⟩, by decide, rfl⟩
set_option maxRecDepth 20000 in
theorem sl83 : SlT Try.prog 83 134 5 40 [.int .i64 0, .int .i64 0, .int .i64 0, .int .i64 0, .int .i64 0] := ⟨Try.underlying83, ⟨Try.t134, _, Try.type134, rfl, rfl, rfl, rfl⟩, by decide, rfl⟩
set_option maxRecDepth 20000 in
theorem sl84 : SlT Try.prog 84 136 4 32 [.int .i64 0, .int .i64 0, .int .i64 0, .int .i64 0] := ⟨Try.underlying84, ⟨Try.t136, _, Try.type136, rfl, rfl, rfl, rfl⟩, by decide, rfl⟩
set_option maxRecDepth 20000 in
theorem sl85 : SlT Try.prog 85 138 2 16 [.int .i64 0, .bool false] := ⟨Try.underlying85, ⟨Try.t138, _, Try.type138, rfl, rfl, rfl, rfl⟩, by decide, rfl⟩
theorem fl24_0 : FldT Try.prog 24 0 0 := fun b o w => by simp [go_sem]
theorem fl24_1 : FldT Try.prog 24 1 1 := fun b o w => by simp [go_sem]
theorem fl24_2 : FldT Try.prog 24 2 2 := fun b o w => by simp [go_sem]
theorem fl30_0 : FldT Try.prog 30 0 0 := fun b o w => by simp [go_sem]
theorem fl30_1 : FldT Try.prog 30 1 3 := fun b o w => by simp [go_sem]
theorem fl30_2 : FldT Try.prog 30 2 4 := fun b o w => by simp [go_sem]
theorem fl30_3 : FldT Try.prog 30 3 5 := fun b o w => by simp [go_sem]
theorem fl30_4 : FldT Try.prog 30 4 6 := fun b o w => by simp [go_sem]
theorem fl35_0 : FldT Try.prog 35 0 0 := fun b o w => by simp [go_sem]
theorem fl35_1 : FldT Try.prog 35 1 1 := fun b o w => by simp [go_sem]
theorem fl35_2 : FldT Try.prog 35 2 2 := fun b o w => by simp [go_sem]
theorem fl41_0 : FldT Try.prog 41 0 0 := fun b o w => by simp [go_sem]
theorem fl41_1 : FldT Try.prog 41 1 3 := fun b o w => by simp [go_sem]
theorem fl41_2 : FldT Try.prog 41 2 4 := fun b o w => by simp [go_sem]
theorem fl41_3 : FldT Try.prog 41 3 5 := fun b o w => by simp [go_sem]
theorem fl41_4 : FldT Try.prog 41 4 6 := fun b o w => by simp [go_sem]
theorem fl54_0 : FldT Try.prog 54 0 0 := fun b o w => by simp [go_sem]
theorem fl54_1 : FldT Try.prog 54 1 1 := fun b o w => by simp [go_sem]
theorem fl54_2 : FldT Try.prog 54 2 2 := fun b o w => by simp [go_sem]
theorem fl54_3 : FldT Try.prog 54 3 3 := fun b o w => by simp [go_sem]
theorem fl54_4 : FldT Try.prog 54 4 4 := fun b o w => by simp [go_sem]
theorem fl72_0 : FldT Try.prog 72 0 0 := fun b o w => by simp [go_sem]
theorem fl72_1 : FldT Try.prog 72 1 1 := fun b o w => by simp [go_sem]
theorem fl72_2 : FldT Try.prog 72 2 2 := fun b o w => by simp [go_sem]
theorem fl72_3 : FldT Try.prog 72 3 3 := fun b o w => by simp [go_sem]
theorem fl72_4 : FldT Try.prog 72 4 4 := fun b o w => by simp [go_sem]
theorem fl72_5 : FldT Try.prog 72 5 5 := fun b o w => by simp [go_sem]
theorem fl72_6 : FldT Try.prog 72 6 6 := fun b o w => by simp [go_sem]
theorem fl72_7 : FldT Try.prog 72 7 7 := fun b o w => by simp [go_sem]
theorem fl76_0 : FldT Try.prog 76 0 0 := fun b o w => by simp [go_sem]
theorem fl76_1 : FldT Try.prog 76 1 1 := fun b o w => by simp [go_sem]
theorem fl76_2 : FldT Try.prog 76 2 2 := fun b o w => by simp [go_sem]
theorem fl76_3 : FldT Try.prog 76 3 3 := fun b o w => by simp [go_sem]
theorem fl76_4 : FldT Try.prog 76 4 4 := fun b o w => by simp [go_sem]
theorem fl76_5 : FldT Try.prog 76 5 5 := fun b o w => by simp [go_sem]
theorem fl78_0 : FldT Try.prog 78 0 0 := fun b o w => by simp [go_sem]
theorem fl78_1 : FldT Try.prog 78 1 1 := fun b o w => by simp [go_sem]
theorem fl78_2 : FldT Try.prog 78 2 2 := fun b o w => by simp [go_sem]
theorem fl87_0 : FldT Try.prog 87 0 0 := fun b o w => by simp [go_sem]
theorem fl87_1 : FldT Try.prog 87 1 1 := fun b o w => by simp [go_sem]
theorem fl87_2 : FldT Try.prog 87 2 2 := fun b o w => by simp [go_sem]
theorem fl87_3 : FldT Try.prog 87 3 3 := fun b o w => by simp [go_sem]
theorem fl87_4 : FldT Try.prog 87 4 4 := fun b o w => by simp [go_sem]
theorem fl87_5 : FldT Try.prog 87 5 5 := fun b o w => by simp [go_sem]
theorem fl87_6 : FldT Try.prog 87 6 6 := fun b o w => by simp [go_sem]
theorem fl87_7 : FldT Try.prog 87 7 7 := fun b o w => by simp [go_sem]
theorem fl90_0 : FldT Try.prog 90 0 0 := fun b o w => by simp [go_sem]
theorem fl90_1 : FldT Try.prog 90 1 1 := fun b o w => by simp [go_sem]
theorem fl90_2 : FldT Try.prog 90 2 2 := fun b o w => by simp [go_sem]
theorem fl90_3 : FldT Try.prog 90 3 3 := fun b o w => by simp [go_sem]
theorem fl90_4 : FldT Try.prog 90 4 4 := fun b o w => by simp [go_sem]
theorem fl90_5 : FldT Try.prog 90 5 5 := fun b o w => by simp [go_sem]
theorem fl95_0 : FldT Try.prog 95 0 0 := fun b o w => by simp [go_sem]
theorem fl95_1 : FldT Try.prog 95 1 1 := fun b o w => by simp [go_sem]
theorem fl95_2 : FldT Try.prog 95 2 2 := fun b o w => by simp [go_sem]
theorem fl95_3 : FldT Try.prog 95 3 3 := fun b o w => by simp [go_sem]
theorem fl95_4 : FldT Try.prog 95 4 4 := fun b o w => by simp [go_sem]
theorem fl97_0 : FldT Try.prog 97 0 0 := fun b o w => by simp [go_sem]
theorem fl97_1 : FldT Try.prog 97 1 1 := fun b o w => by simp [go_sem]
theorem fl97_2 : FldT Try.prog 97 2 2 := fun b o w => by simp [go_sem]
theorem fl102_0 : FldT Try.prog 102 0 0 := fun b o w => by simp [go_sem]
theorem fl102_1 : FldT Try.prog 102 1 1 := fun b o w => by simp [go_sem]
theorem fl102_2 : FldT Try.prog 102 2 2 := fun b o w => by simp [go_sem]
theorem fl102_3 : FldT Try.prog 102 3 3 := fun b o w => by simp [go_sem]
theorem fl108_0 : FldT Try.prog 108 0 0 := fun b o w => by simp [go_sem]
theorem fl108_1 : FldT Try.prog 108 1 1 := fun b o w => by simp [go_sem]
theorem fl112_0 : FldT Try.prog 112 0 0 := fun b o w => by simp [go_sem]
theorem fl112_1 : FldT Try.prog 112 1 1 := fun b o w => by simp [go_sem]
theorem fl114_0 : FldT Try.prog 114 0 0 := fun b o w => by simp [go_sem]
theorem fl114_1 : FldT Try.prog 114 1 1 := fun b o w => by simp [go_sem]
theorem fl114_2 : FldT Try.prog 114 2 3 := fun b o w => by simp [go_sem]
theorem fl114_3 : FldT Try.prog 114 3 4 := fun b o w => by simp [go_sem]
theorem fl116_0 : FldT Try.prog 116 0 0 := fun b o w => by simp [go_sem]
theorem fl116_1 : FldT Try.prog 116 1 1 := fun b o w => by simp [go_sem]
theorem fl116_2 : FldT Try.prog 116 2 2 := fun b o w => by simp [go_sem]
theorem fl116_3 : FldT Try.prog 116 3 3 := fun b o w => by simp [go_sem]
theorem fl119_0 : FldT Try.prog 119 0 0 := fun b o w => by simp [go_sem]
theorem fl119_1 : FldT Try.prog 119 1 1 := fun b o w => by simp [go_sem]
theorem fl119_2 : FldT Try.prog 119 2 2 := fun b o w => by simp [go_sem]
theorem fl119_3 : FldT Try.prog 119 3 3 := fun b o w => by simp [go_sem]
theorem fl132_0 : FldT Try.prog 132 0 0 := fun b o w => by simp [go_sem]
theorem fl132_1 : FldT Try.prog 132 1 1 := fun b o w => by simp [go_sem]
theorem fl134_0 : FldT Try.prog 134 0 0 := fun b o w => by simp [go_sem]
theorem fl134_1 : FldT Try.prog 134 1 1 := fun b o w => by simp [go_sem]
theorem fl134_2 : FldT Try.prog 134 2 3 := fun b o w => by simp [go_sem]
theorem fl134_3 : FldT Try.prog 134 3 4 := fun b o w => by simp [go_sem]
theorem fl136_0 : FldT Try.prog 136 0 0 := fun b o w => by simp [go_sem]
theorem fl136_1 : FldT Try.prog 136 1 1 := fun b o w => by simp [go_sem]
theorem fl136_2 : FldT Try.prog 136 2 2 := fun b o w => by simp [go_sem]
theorem fl136_3 : FldT Try.prog 136 3 3 := fun b o w => by simp [go_sem]
theorem fl138_0 : FldT Try.prog 138 0 0 := fun b o w => by simp [go_sem]
theorem fl138_1 : FldT Try.prog 138 1 1 := fun b o w => by simp [go_sem]
theorem eqg54 : Try.prog.eqGuardType Try.prog.depth 54 = false := by kernel_rfl
theorem eq54 (x y : Token) (w : World) : (binOp .eql 54 (.agg (Enc.enc x).toArray) (.agg (Enc.enc y).toArray)).run Try.prog w = .ok (.bool (decide (x = y))) w := by
  rcases x with ⟨_, _, _, _, _⟩; rcases y with ⟨_, _, _, _, _⟩
  simp [go_sem, Enc.enc]
  repeat' split
  all_goals simp_all
theorem ne54 (x y : Token) (w : World) : (binOp .neq 54 (.agg (Enc.enc x).toArray) (.agg (Enc.enc y).toArray)).run Try.prog w = .ok (.bool (!(decide (x = y)))) w := by
  rcases x with ⟨_, _, _, _, _⟩; rcases y with ⟨_, _, _, _, _⟩
  simp [go_sem, Enc.enc, Bool.not_and]
  repeat' split
  all_goals simp_all
theorem eqg78 : Try.prog.eqGuardType Try.prog.depth 78 = false := by kernel_rfl
theorem eq78 (x y : News) (w : World) : (binOp .eql 78 (.agg (Enc.enc x).toArray) (.agg (Enc.enc y).toArray)).run Try.prog w = .ok (.bool (decide (x = y))) w := by
  rcases x with ⟨_, _, _⟩; rcases y with ⟨_, _, _⟩
  simp [go_sem, Enc.enc]
  repeat' split
  all_goals simp_all
theorem ne78 (x y : News) (w : World) : (binOp .neq 78 (.agg (Enc.enc x).toArray) (.agg (Enc.enc y).toArray)).run Try.prog w = .ok (.bool (!(decide (x = y)))) w := by
  rcases x with ⟨_, _, _⟩; rcases y with ⟨_, _, _⟩
  simp [go_sem, Enc.enc, Bool.not_and]
  repeat' split
  all_goals simp_all
theorem eqg108 : Try.prog.eqGuardType Try.prog.depth 108 = false := by kernel_rfl
theorem eq108 (x y : Done) (w : World) : (binOp .eql 108 (.agg (Enc.enc x).toArray) (.agg (Enc.enc y).toArray)).run Try.prog w = .ok (.bool (decide (x = y))) w := by
  rcases x with ⟨_, _⟩; rcases y with ⟨_, _⟩
  simp [go_sem, Enc.enc]
  repeat' split
  all_goals simp_all
theorem ne108 (x y : Done) (w : World) : (binOp .neq 108 (.agg (Enc.enc x).toArray) (.agg (Enc.enc y).toArray)).run Try.prog w = .ok (.bool (!(decide (x = y)))) w := by
  rcases x with ⟨_, _⟩; rcases y with ⟨_, _⟩
  simp [go_sem, Enc.enc, Bool.not_and]
  repeat' split
  all_goals simp_all
theorem eqg114 : Try.prog.eqGuardType Try.prog.depth 114 = false := by kernel_rfl
theorem eq114 (x y : Record) (w : World) : (binOp .eql 114 (.agg (Enc.enc x).toArray) (.agg (Enc.enc y).toArray)).run Try.prog w = .ok (.bool (decide (x = y))) w := by
  rcases x with ⟨_, ⟨_, _⟩, _, _⟩; rcases y with ⟨_, ⟨_, _⟩, _, _⟩
  simp [go_sem, Enc.enc]
  repeat' split
  all_goals simp_all
theorem ne114 (x y : Record) (w : World) : (binOp .neq 114 (.agg (Enc.enc x).toArray) (.agg (Enc.enc y).toArray)).run Try.prog w = .ok (.bool (!(decide (x = y)))) w := by
  rcases x with ⟨_, ⟨_, _⟩, _, _⟩; rcases y with ⟨_, ⟨_, _⟩, _, _⟩
  simp [go_sem, Enc.enc, Bool.not_and]
  repeat' split
  all_goals simp_all
theorem eqg116 : Try.prog.eqGuardType Try.prog.depth 116 = false := by kernel_rfl
theorem eq116 (x y : Cell) (w : World) : (binOp .eql 116 (.agg (Enc.enc x).toArray) (.agg (Enc.enc y).toArray)).run Try.prog w = .ok (.bool (decide (x = y))) w := by
  rcases x with ⟨_, _, _, _⟩; rcases y with ⟨_, _, _, _⟩
  simp [go_sem, Enc.enc]
  repeat' split
  all_goals simp_all
theorem ne116 (x y : Cell) (w : World) : (binOp .neq 116 (.agg (Enc.enc x).toArray) (.agg (Enc.enc y).toArray)).run Try.prog w = .ok (.bool (!(decide (x = y)))) w := by
  rcases x with ⟨_, _, _, _⟩; rcases y with ⟨_, _, _, _⟩
  simp [go_sem, Enc.enc, Bool.not_and]
  repeat' split
  all_goals simp_all
end Go.Proofs.Ytnfbnbdjdokmpaa
