/- What is known of the types of the translated program; no condition. -/
import Derived.Test.YtbnoffhbponglaaGreatModel
import Derived.Test.YtbnoffhbponglaaGreatProg
namespace Go.Proofs.YtbnoffhbponglaaGreat
open Go Go.Proofs.YtbnoffhbponglaaGreat.X Go.Proofs
theorem Z {α : Sort _} {a : α} : a = a := rfl
theorem Y8 : Tryz.prog.follows .mixedOrders = true := by kernel_rfl
theorem st24 : StT Tryz.prog 24 3 [.slice none 0 0, .int .i64 0, .int .i64 0] := ⟨fun _ => by kernel_rfl, fun _ => by kernel_rfl, fun _ => by kernel_rfl⟩
theorem st30 : StT Tryz.prog 30 7 [.slice none 0 0, .int .i64 0, .int .i64 0, .slice none 0 0, .slice none 0 0, .slice none 0 0, .slice none 0 0] := ⟨fun _ => by kernel_rfl, fun _ => by kernel_rfl, fun _ => by kernel_rfl⟩
theorem X2 : StT Tryz.prog 34 3 [.slice none 0 0, .int .i64 0, .int .i64 0] := ⟨fun _ => by kernel_rfl, fun _ => by kernel_rfl, fun _ => by kernel_rfl⟩
theorem Xd : StT Tryz.prog 40 7 [.slice none 0 0, .int .i64 0, .int .i64 0, .slice none 0 0, .slice none 0 0, .slice none 0 0, .slice none 0 0] := ⟨fun _ => by kernel_rfl, fun _ => by kernel_rfl, fun _ => by kernel_rfl⟩
theorem Xt : StT Tryz.prog 72 8 [.slice none 0 0, .slice none 0 0, .slice none 0 0, .slice none 0 0, .slice none 0 0, .slice none 0 0, .slice none 0 0, .slice none 0 0] := ⟨fun _ => by kernel_rfl, fun _ => by kernel_rfl, fun _ => by kernel_rfl⟩
theorem st88 : StT Tryz.prog 88 6 [.int .i64 0, .slice none 0 0, .int .i64 0, .int .i64 0, .int .i64 0, .int .i64 0] := ⟨fun _ => by kernel_rfl, fun _ => by kernel_rfl, fun _ => by kernel_rfl⟩
theorem st97 : StT Tryz.prog 97 8 [.slice none 0 0, .slice none 0 0, .slice none 0 0, .slice none 0 0, .slice none 0 0, .slice none 0 0, .slice none 0 0, .slice none 0 0] := ⟨fun _ => by kernel_rfl, fun _ => by kernel_rfl, fun _ => by kernel_rfl⟩
theorem st100 : StT Tryz.prog 100 6 [.int .i64 0, .slice none 0 0, .int .i64 0, .int .i64 0, .int .i64 0, .int .i64 0] := ⟨fun _ => by kernel_rfl, fun _ => by kernel_rfl, fun _ => by kernel_rfl⟩
theorem st103 : StT Tryz.prog 103 2 [.int .i64 0, .int .i64 0] := ⟨fun _ => by kernel_rfl, fun _ => by kernel_rfl, fun _ => by kernel_rfl⟩
theorem Kg : StT Tryz.prog 105 5 [.int .i64 0, .int .i64 0, .int .i64 0, .int .i64 0, .int .i64 0] := ⟨fun _ => by kernel_rfl, fun _ => by kernel_rfl, fun _ => by kernel_rfl⟩
theorem st110 : StT Tryz.prog 110 5 [.bool false, .int .i64 0, .int .i64 0, .bool false, .bool false] := ⟨fun _ => by kernel_rfl, fun _ => by kernel_rfl, fun _ => by kernel_rfl⟩
theorem st112 : StT Tryz.prog 112 5 [.bool false, .int .i64 0, .int .i64 0, .bool false, .bool false] := ⟨fun _ => by kernel_rfl, fun _ => by kernel_rfl, fun _ => by kernel_rfl⟩
theorem st114 : StT Tryz.prog 114 3 [.int .i64 0, .int .i64 0, .bool false] := ⟨fun _ => by kernel_rfl, fun _ => by kernel_rfl, fun _ => by kernel_rfl⟩
theorem st116 : StT Tryz.prog 116 3 [.int .i64 0, .int .i64 0, .bool false] := ⟨fun _ => by kernel_rfl, fun _ => by kernel_rfl, fun _ => by kernel_rfl⟩
theorem st138 : StT Tryz.prog 138 4 [.int .i64 0, .int .i64 0, .int .i64 0, .slice none 0 0] := ⟨fun _ => by kernel_rfl, fun _ => by kernel_rfl, fun _ => by kernel_rfl⟩
theorem Xz : StT Tryz.prog 143 4 [.int .i64 0, .int .i64 0, .int .i64 0, .slice none 0 0] := ⟨fun _ => by kernel_rfl, fun _ => by kernel_rfl, fun _ => by kernel_rfl⟩
theorem st156 : StT Tryz.prog 156 2 [.int .i64 0, .bool false] := ⟨fun _ => by kernel_rfl, fun _ => by kernel_rfl, fun _ => by kernel_rfl⟩
theorem st165 : StT Tryz.prog 165 4 [.int .i64 0, .int .i64 0, .int .i64 0, .int .i64 0] := ⟨fun _ => by kernel_rfl, fun _ => by kernel_rfl, fun _ => by kernel_rfl⟩
theorem st169 : StT Tryz.prog 169 2 [.int .i64 0, .int .i64 0] := ⟨fun _ => by kernel_rfl, fun _ => by kernel_rfl, fun _ => by kernel_rfl⟩
theorem st171 : StT Tryz.prog 171 5 [.int .i64 0, .int .i64 0, .int .i64 0, .int .i64 0, .int .i64 0] := ⟨fun _ => by kernel_rfl, fun _ => by kernel_rfl, fun _ => by kernel_rfl⟩
theorem st173 : StT Tryz.prog 173 4 [.int .i64 0, .int .i64 0, .int .i64 0, .int .i64 0] := ⟨fun _ => by kernel_rfl, fun _ => by kernel_rfl, fun _ => by kernel_rfl⟩
theorem st175 : StT Tryz.prog 175 2 [.int .i64 0, .bool false] := ⟨fun _ => by kernel_rfl, fun _ => by kernel_rfl, fun _ => by kernel_rfl⟩
theorem Yk : ScT Tryz.prog 3 (.int .i64 0) := ⟨fun _ => by kernel_rfl, fun _ => by kernel_rfl, fun _ => by kernel_rfl, rfl⟩
theorem sc4 : ScT Tryz.prog 4 (.bool false) := ⟨fun _ => by kernel_rfl, fun _ => by kernel_rfl, fun _ => by kernel_rfl, rfl⟩
theorem sc22 : ScT Tryz.prog 22 (.slice none 0 0) := ⟨fun _ => by kernel_rfl, fun _ => by kernel_rfl, fun _ => by kernel_rfl, rfl⟩
theorem sc25 : ScT Tryz.prog 25 (.slice none 0 0) := ⟨fun _ => by kernel_rfl, fun _ => by kernel_rfl, fun _ => by kernel_rfl, rfl⟩
theorem sc26 : ScT Tryz.prog 26 (.slice none 0 0) := ⟨fun _ => by kernel_rfl, fun _ => by kernel_rfl, fun _ => by kernel_rfl, rfl⟩
theorem sc27 : ScT Tryz.prog 27 (.slice none 0 0) := ⟨fun _ => by kernel_rfl, fun _ => by kernel_rfl, fun _ => by kernel_rfl, rfl⟩
theorem sc28 : ScT Tryz.prog 28 (.slice none 0 0) := ⟨fun _ => by kernel_rfl, fun _ => by kernel_rfl, fun _ => by kernel_rfl, rfl⟩
theorem sc32 : ScT Tryz.prog 32 (.slice none 0 0) := ⟨fun _ => by kernel_rfl, fun _ => by kernel_rfl, fun _ => by kernel_rfl, rfl⟩
theorem sc35 : ScT Tryz.prog 35 (.slice none 0 0) := ⟨fun _ => by kernel_rfl, fun _ => by kernel_rfl, fun _ => by kernel_rfl, rfl⟩
theorem sc36 : ScT Tryz.prog 36 (.slice none 0 0) := ⟨fun _ => by kernel_rfl, fun _ => by kernel_rfl, fun _ => by kernel_rfl, rfl⟩
theorem sc37 : ScT Tryz.prog 37 (.slice none 0 0) := ⟨fun _ => by kernel_rfl, fun _ => by kernel_rfl, fun _ => by kernel_rfl, rfl⟩
theorem sc38 : ScT Tryz.prog 38 (.slice none 0 0) := ⟨fun _ => by kernel_rfl, fun _ => by kernel_rfl, fun _ => by kernel_rfl, rfl⟩
theorem Xa : ScT Tryz.prog 66 (.slice none 0 0) := ⟨fun _ => by kernel_rfl, fun _ => by kernel_rfl, fun _ => by kernel_rfl, rfl⟩
theorem sc67 : ScT Tryz.prog 67 (.slice none 0 0) := ⟨fun _ => by kernel_rfl, fun _ => by kernel_rfl, fun _ => by kernel_rfl, rfl⟩
theorem Yy : ScT Tryz.prog 68 (.slice none 0 0) := ⟨fun _ => by kernel_rfl, fun _ => by kernel_rfl, fun _ => by kernel_rfl, rfl⟩
theorem sc69 : ScT Tryz.prog 69 (.slice none 0 0) := ⟨fun _ => by kernel_rfl, fun _ => by kernel_rfl, fun _ => by kernel_rfl, rfl⟩
theorem sc70 : ScT Tryz.prog 70 (.slice none 0 0) := ⟨fun _ => by kernel_rfl, fun _ => by kernel_rfl, fun _ => by kernel_rfl, rfl⟩
theorem sc93 : ScT Tryz.prog 93 (.slice none 0 0) := ⟨fun _ => by kernel_rfl, fun _ => by kernel_rfl, fun _ => by kernel_rfl, rfl⟩
theorem sc94 : ScT Tryz.prog 94 (.slice none 0 0) := ⟨fun _ => by kernel_rfl, fun _ => by kernel_rfl, fun _ => by kernel_rfl, rfl⟩
theorem sc95 : ScT Tryz.prog 95 (.slice none 0 0) := ⟨fun _ => by kernel_rfl, fun _ => by kernel_rfl, fun _ => by kernel_rfl, rfl⟩
set_option maxRecDepth 20000 in
theorem sl22 : SlT Tryz.prog 22 138 4 48 [.int .i64 0, .int .i64 0, .int .i64 0, .slice none 0 0] := ⟨Tryz.underlying22, ⟨Tryz.t138, _, Tryz.type138, rfl, rfl, rfl, rfl⟩, by decide, rfl⟩
set_option maxRecDepth 20000 in
theorem sl25 : SlT Tryz.prog 25 97 8 192 [.slice none 0 0, .slice none 0 0, .slice none 0 0, .slice none 0 0, .slice none 0 0, .slice none 0 0, .slice none 0 0, .slice none 0 0] := ⟨Tryz.underlying25, ⟨Tryz.t97, _, Tryz.type97, rfl, rfl, rfl, rfl⟩, by decide, rfl⟩
set_option maxRecDepth 20000 in
theorem sl26 : SlT Tryz.prog 26 100 6 64 [.int .i64 0, .slice none 0 0, .int .i64 0, .int .i64 0, .int .i64 0, .int .i64 0] := ⟨Tryz.underlying26, ⟨Tryz.t100, _, Tryz.type100, rfl, rfl, rfl, rfl⟩, by decide, rfl⟩
set_option maxRecDepth 20000 in
theorem sl27 : SlT Tryz.prog 27 112 5 32 [.bool false, .int .i64 0, .int .i64 0, .bool false, .bool false] := ⟨Tryz.underlying27, ⟨Tryz.t112, _, Tryz.type112, rfl, rfl, rfl, rfl⟩, by decide, rfl⟩
set_option maxRecDepth 20000 in
theorem sl28 : SlT Tryz.prog 28 116 3 24 [.int .i64 0, .int .i64 0, .bool false] := ⟨Tryz.underlying28, ⟨Tryz.t116, _, Tryz.type116, rfl, rfl, rfl, rfl⟩, by decide, rfl⟩
set_option maxRecDepth 20000 in
theorem sl32 : SlT Tryz.prog 32 143 4 48 [.int .i64 0, .int .i64 0, .int .i64 0, .slice none 0 0] := ⟨Tryz.underlying32, ⟨Tryz.t143, _, Tryz.type143, rfl, rfl, rfl, rfl⟩, by decide, rfl⟩
set_option maxRecDepth 20000 in
theorem Kf : SlT Tryz.prog 35 72 8 192 [.slice none 0 0, .slice none 0 0, .slice none 0 0, .slice none 0 0, .slice none 0 0, .slice none 0 0, .slice none 0 0, .slice none 0 0] := ⟨Tryz.underlying35, ⟨Tryz.t72, _, Tryz.type72, rfl, rfl, rfl, rfl⟩, by decide, rfl⟩
set_option maxRecDepth 20000 in
theorem sl36 : SlT Tryz.prog 36 88 6 64 [.int .i64 0, .slice none 0 0, .int .i64 0, .int .i64 0, .int .i64 0, .int .i64 0] := ⟨Tryz.underlying36, ⟨Tryz.t88, _, Tryz.type88, rfl, rfl, rfl, rfl⟩, by decide, rfl⟩
set_option maxRecDepth 20000 in
theorem sl37 : SlT Tryz.prog 37 110 5 32 [.bool false, .int .i64 0, .int .i64 0, .bool false, .bool false] := ⟨Tryz.underlying37, ⟨Tryz.t110, _, Tryz.type110, rfl, rfl, rfl, rfl⟩, by decide, rfl⟩
set_option maxRecDepth 20000 in
theorem sl38 : SlT Tryz.prog 38 114 3 24 [.int .i64 0, .int .i64 0, .bool false] := ⟨Tryz.underlying38, ⟨Tryz.t114, _, Tryz.type114, rfl, rfl, rfl, rfl⟩, by decide, rfl⟩
set_option maxRecDepth 20000 in
theorem Xx : SlT Tryz.prog 66 105 5 40 [.int .i64 0, .int .i64 0, .int .i64 0, .int .i64 0, .int .i64 0] := ⟨Tryz.underlying66, ⟨Tryz.t105, _, Tryz.type105, rfl, rfl, rfl, rfl⟩, by decide, rfl⟩
set_option maxRecDepth 20000 in
theorem sl67 : SlT Tryz.prog 67 165 4 32 [.int .i64 0, .int .i64 0, .int .i64 0, .int .i64 0] := ⟨Tryz.underlying67, ⟨Tryz.t165, _, Tryz.type165, rfl, rfl, rfl, rfl⟩, by decide, rfl⟩
set_option maxRecDepth 20000 in
theorem Y5 : SlT Tryz.prog 68 3 1 8 [.int .i64 0] := ⟨Tryz.underlying68, ⟨Tryz.t3, _, Tryz.type3, rfl, rfl, rfl, rfl⟩, by decide, rfl⟩
set_option maxRecDepth 20000 in
theorem sl69 : SlT Tryz.prog 69 4 1 1 [.bool false] := ⟨Tryz.underlying69, ⟨Tryz.t4, _, Tryz.type4, rfl, rfl, rfl, rfl⟩, by decide, rfl⟩
set_option maxRecDepth 20000 in
theorem sl70 : SlT Tryz.prog 70 156 2 16 [.int .i64 0, .bool false] := ⟨Tryz.underlying70, ⟨Tryz.t156, _, Tryz.type156, rfl, rfl, rfl, rfl⟩, by decide, rfl⟩
set_option maxRecDepth 20000 in
theorem sl93 : SlT Tryz.prog 93 171 5 40 [.int .i64 0, .int .i64 0, .int .i64 0, .int .i64 0, .int .i64 0] := ⟨Tryz.underlying93, ⟨Tryz.t171, _, Tryz.type171, rfl, rfl, rfl, rfl⟩, by decide, rfl⟩
set_option maxRecDepth 20000 in
theorem sl94 : SlT Tryz.prog 94 173 4 32 [.int .i64 0, .int .i64 0, .int .i64 0, .int .i64 0] := ⟨Tryz.underlying94, ⟨Tryz.t173, _, Tryz.type173, rfl, rfl, rfl, rfl⟩, by decide, rfl⟩
set_option maxRecDepth 20000 in
theorem sl95 : SlT Tryz.prog 95 175 2 16 [.int .i64 0, .bool false] := ⟨Tryz.underlying95, ⟨Tryz.t175, _, Tryz.type175, rfl, rfl, rfl, rfl⟩, by decide, rfl⟩
theorem fl24_0 : FldT Tryz.prog 24 0 0 := fun b o w => by simp [go_sem]
theorem fl24_1 : FldT Tryz.prog 24 1 1 := fun b o w => by simp [go_sem]
theorem fl24_2 : FldT Tryz.prog 24 2 2 := fun b o w => by simp [go_sem]
theorem fl30_0 : FldT Tryz.prog 30 0 0 := fun b o w => by simp [go_sem]
theorem fl30_1 : FldT Tryz.prog 30 1 3 := fun b o w => by simp [go_sem]
theorem fl30_2 : FldT Tryz.prog 30 2 4 := fun b o w => by simp [go_sem]
theorem fl30_3 : FldT Tryz.prog 30 3 5 := fun b o w => by simp [go_sem]
theorem fl30_4 : FldT Tryz.prog 30 4 6 := fun b o w => by simp [go_sem]
theorem Xp : FldT Tryz.prog 34 0 0 := fun b o w => by simp [go_sem]
theorem fl34_1 : FldT Tryz.prog 34 1 1 := fun b o w => by simp [go_sem]
theorem fl34_2 : FldT Tryz.prog 34 2 2 := fun b o w => by simp [go_sem]
theorem Kd : FldT Tryz.prog 40 0 0 := fun b o w => by simp [go_sem]
theorem Xk : FldT Tryz.prog 40 1 3 := fun b o w => by simp [go_sem]
theorem X1 : FldT Tryz.prog 40 2 4 := fun b o w => by simp [go_sem]
theorem Kj : FldT Tryz.prog 40 3 5 := fun b o w => by simp [go_sem]
theorem fl40_4 : FldT Tryz.prog 40 4 6 := fun b o w => by simp [go_sem]
theorem fl58_0 : FldT Tryz.prog 58 0 0 := fun b o w => by simp [go_sem]
theorem fl58_1 : FldT Tryz.prog 58 1 7 := fun b o w => by simp [go_sem]
theorem fl72_0 : FldT Tryz.prog 72 0 0 := fun b o w => by simp [go_sem]
theorem fl72_1 : FldT Tryz.prog 72 1 1 := fun b o w => by simp [go_sem]
theorem Xo : FldT Tryz.prog 72 2 2 := fun b o w => by simp [go_sem]
theorem fl72_3 : FldT Tryz.prog 72 3 3 := fun b o w => by simp [go_sem]
theorem fl72_4 : FldT Tryz.prog 72 4 4 := fun b o w => by simp [go_sem]
theorem fl72_5 : FldT Tryz.prog 72 5 5 := fun b o w => by simp [go_sem]
theorem fl72_6 : FldT Tryz.prog 72 6 6 := fun b o w => by simp [go_sem]
theorem fl72_7 : FldT Tryz.prog 72 7 7 := fun b o w => by simp [go_sem]
theorem fl88_0 : FldT Tryz.prog 88 0 0 := fun b o w => by simp [go_sem]
theorem X5 : FldT Tryz.prog 88 1 1 := fun b o w => by simp [go_sem]
theorem fl88_2 : FldT Tryz.prog 88 2 2 := fun b o w => by simp [go_sem]
theorem fl88_3 : FldT Tryz.prog 88 3 3 := fun b o w => by simp [go_sem]
theorem fl88_4 : FldT Tryz.prog 88 4 4 := fun b o w => by simp [go_sem]
theorem fl88_5 : FldT Tryz.prog 88 5 5 := fun b o w => by simp [go_sem]
theorem fl97_0 : FldT Tryz.prog 97 0 0 := fun b o w => by simp [go_sem]
theorem fl97_1 : FldT Tryz.prog 97 1 1 := fun b o w => by simp [go_sem]
theorem fl97_2 : FldT Tryz.prog 97 2 2 := fun b o w => by simp [go_sem]
theorem fl97_3 : FldT Tryz.prog 97 3 3 := fun b o w => by simp [go_sem]
theorem fl97_4 : FldT Tryz.prog 97 4 4 := fun b o w => by simp [go_sem]
theorem fl97_5 : FldT Tryz.prog 97 5 5 := fun b o w => by simp [go_sem]
theorem fl97_6 : FldT Tryz.prog 97 6 6 := fun b o w => by simp [go_sem]
theorem fl97_7 : FldT Tryz.prog 97 7 7 := fun b o w => by simp [go_sem]
theorem fl100_0 : FldT Tryz.prog 100 0 0 := fun b o w => by simp [go_sem]
theorem fl100_1 : FldT Tryz.prog 100 1 1 := fun b o w => by simp [go_sem]
theorem fl100_2 : FldT Tryz.prog 100 2 2 := fun b o w => by simp [go_sem]
theorem fl100_3 : FldT Tryz.prog 100 3 3 := fun b o w => by simp [go_sem]
theorem fl100_4 : FldT Tryz.prog 100 4 4 := fun b o w => by simp [go_sem]
theorem fl100_5 : FldT Tryz.prog 100 5 5 := fun b o w => by simp [go_sem]
theorem fl103_0 : FldT Tryz.prog 103 0 0 := fun b o w => by simp [go_sem]
theorem fl103_1 : FldT Tryz.prog 103 1 1 := fun b o w => by simp [go_sem]
theorem fl105_0 : FldT Tryz.prog 105 0 0 := fun b o w => by simp [go_sem]
theorem X9 : FldT Tryz.prog 105 1 1 := fun b o w => by simp [go_sem]
theorem fl105_2 : FldT Tryz.prog 105 2 3 := fun b o w => by simp [go_sem]
theorem fl105_3 : FldT Tryz.prog 105 3 4 := fun b o w => by simp [go_sem]
theorem fl110_0 : FldT Tryz.prog 110 0 0 := fun b o w => by simp [go_sem]
theorem fl110_1 : FldT Tryz.prog 110 1 1 := fun b o w => by simp [go_sem]
theorem fl110_2 : FldT Tryz.prog 110 2 2 := fun b o w => by simp [go_sem]
theorem fl110_3 : FldT Tryz.prog 110 3 3 := fun b o w => by simp [go_sem]
theorem fl110_4 : FldT Tryz.prog 110 4 4 := fun b o w => by simp [go_sem]
theorem fl112_0 : FldT Tryz.prog 112 0 0 := fun b o w => by simp [go_sem]
theorem fl112_1 : FldT Tryz.prog 112 1 1 := fun b o w => by simp [go_sem]
theorem fl112_2 : FldT Tryz.prog 112 2 2 := fun b o w => by simp [go_sem]
theorem fl112_3 : FldT Tryz.prog 112 3 3 := fun b o w => by simp [go_sem]
theorem fl112_4 : FldT Tryz.prog 112 4 4 := fun b o w => by simp [go_sem]
theorem fl114_0 : FldT Tryz.prog 114 0 0 := fun b o w => by simp [go_sem]
theorem fl114_1 : FldT Tryz.prog 114 1 1 := fun b o w => by simp [go_sem]
theorem fl114_2 : FldT Tryz.prog 114 2 2 := fun b o w => by simp [go_sem]
theorem fl116_0 : FldT Tryz.prog 116 0 0 := fun b o w => by simp [go_sem]
theorem fl116_1 : FldT Tryz.prog 116 1 1 := fun b o w => by simp [go_sem]
theorem fl116_2 : FldT Tryz.prog 116 2 2 := fun b o w => by simp [go_sem]
theorem fl138_0 : FldT Tryz.prog 138 0 0 := fun b o w => by simp [go_sem]
theorem fl138_1 : FldT Tryz.prog 138 1 1 := fun b o w => by simp [go_sem]
theorem fl138_2 : FldT Tryz.prog 138 2 2 := fun b o w => by simp [go_sem]
theorem fl138_3 : FldT Tryz.prog 138 3 3 := fun b o w => by simp [go_sem]
theorem Y3 : FldT Tryz.prog 143 0 0 := fun b o w => by simp [go_sem]
theorem Xq : FldT Tryz.prog 143 1 1 := fun b o w => by simp [go_sem]
theorem X8 : FldT Tryz.prog 143 2 2 := fun b o w => by simp [go_sem]
theorem Q6 : FldT Tryz.prog 143 3 3 := fun b o w => by simp [go_sem]
theorem fl156_0 : FldT Tryz.prog 156 0 0 := fun b o w => by simp [go_sem]
theorem fl156_1 : FldT Tryz.prog 156 1 1 := fun b o w => by simp [go_sem]
theorem fl165_0 : FldT Tryz.prog 165 0 0 := fun b o w => by simp [go_sem]
theorem fl165_1 : FldT Tryz.prog 165 1 1 := fun b o w => by simp [go_sem]
theorem fl165_2 : FldT Tryz.prog 165 2 2 := fun b o w => by simp [go_sem]
theorem fl165_3 : FldT Tryz.prog 165 3 3 := fun b o w => by simp [go_sem]
theorem fl169_0 : FldT Tryz.prog 169 0 0 := fun b o w => by simp [go_sem]
theorem fl169_1 : FldT Tryz.prog 169 1 1 := fun b o w => by simp [go_sem]
theorem fl171_0 : FldT Tryz.prog 171 0 0 := fun b o w => by simp [go_sem]
theorem fl171_1 : FldT Tryz.prog 171 1 1 := fun b o w => by simp [go_sem]
theorem fl171_2 : FldT Tryz.prog 171 2 3 := fun b o w => by simp [go_sem]
theorem fl171_3 : FldT Tryz.prog 171 3 4 := fun b o w => by simp [go_sem]
theorem fl173_0 : FldT Tryz.prog 173 0 0 := fun b o w => by simp [go_sem]
theorem fl173_1 : FldT Tryz.prog 173 1 1 := fun b o w => by simp [go_sem]
theorem fl173_2 : FldT Tryz.prog 173 2 2 := fun b o w => by simp [go_sem]
theorem fl173_3 : FldT Tryz.prog 173 3 3 := fun b o w => by simp [go_sem]
theorem fl175_0 : FldT Tryz.prog 175 0 0 := fun b o w => by simp [go_sem]
theorem fl175_1 : FldT Tryz.prog 175 1 1 := fun b o w => by simp [go_sem]
end Go.Proofs.YtbnoffhbponglaaGreat
