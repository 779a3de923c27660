/- What is known of the types of the translated program; no condition. -/
import Derived.Test.YtaangeddnfnhdaaGreatModel
import Derived.Test.YtaangeddnfnhdaaGreatProg
namespace Go.Proofs.YtaangeddnfnhdaaGreat
open Go Go.Proofs.YtaangeddnfnhdaaGreat.X Go.Proofs
theorem Z {α : Sort _} {a : α} : a = a := rfl
theorem Xi : Tryz.prog.follows .mixedOrders = true := by kernel_rfl
theorem st24 : StT Tryz.prog 24 3 [.slice none 0 0, .int .i64 0, .int .i64 0] := ⟨fun _ => by kernel_rfl, fun _ => by kernel_rfl, fun _ => by kernel_rfl⟩
theorem st30 : StT Tryz.prog 30 7 [.slice none 0 0, .int .i64 0, .int .i64 0, .slice none 0 0, .slice none 0 0, .slice none 0 0, .slice none 0 0] := ⟨fun _ => by kernel_rfl, fun _ => by kernel_rfl, fun _ => by kernel_rfl⟩
theorem Km : StT Tryz.prog 34 3 [.slice none 0 0, .int .i64 0, .int .i64 0] := ⟨fun _ => by kernel_rfl, fun _ => by kernel_rfl, fun _ => by kernel_rfl⟩
theorem X5 : StT Tryz.prog 40 7 [.slice none 0 0, .int .i64 0, .int .i64 0, .slice none 0 0, .slice none 0 0, .slice none 0 0, .slice none 0 0] := ⟨fun _ => by kernel_rfl, fun _ => by kernel_rfl, fun _ => by kernel_rfl⟩
theorem Kw : StT Tryz.prog 70 8 [.slice none 0 0, .slice none 0 0, .slice none 0 0, .slice none 0 0, .slice none 0 0, .slice none 0 0, .slice none 0 0, .slice none 0 0] := ⟨fun _ => by kernel_rfl, fun _ => by kernel_rfl, fun _ => by kernel_rfl⟩
theorem st89 : StT Tryz.prog 89 8 [.slice none 0 0, .slice none 0 0, .slice none 0 0, .slice none 0 0, .slice none 0 0, .slice none 0 0, .slice none 0 0, .slice none 0 0] := ⟨fun _ => by kernel_rfl, fun _ => by kernel_rfl, fun _ => by kernel_rfl⟩
theorem st92 : StT Tryz.prog 92 6 [.int .i64 0, .slice none 0 0, .int .i64 0, .int .i64 0, .int .i64 0, .int .i64 0] := ⟨fun _ => by kernel_rfl, fun _ => by kernel_rfl, fun _ => by kernel_rfl⟩
theorem Kb : StT Tryz.prog 95 2 [.int .i64 0, .int .i64 0] := ⟨fun _ => by kernel_rfl, fun _ => by kernel_rfl, fun _ => by kernel_rfl⟩
theorem Va : StT Tryz.prog 97 5 [.int .i64 0, .int .i64 0, .int .i64 0, .int .i64 0, .int .i64 0] := ⟨fun _ => by kernel_rfl, fun _ => by kernel_rfl, fun _ => by kernel_rfl⟩
theorem Ua : StT Tryz.prog 104 6 [.int .i64 0, .slice none 0 0, .int .i64 0, .int .i64 0, .int .i64 0, .int .i64 0] := ⟨fun _ => by kernel_rfl, fun _ => by kernel_rfl, fun _ => by kernel_rfl⟩
theorem Ca : StT Tryz.prog 107 5 [.bool false, .int .i64 0, .int .i64 0, .bool false, .bool false] := ⟨fun _ => by kernel_rfl, fun _ => by kernel_rfl, fun _ => by kernel_rfl⟩
theorem st109 : StT Tryz.prog 109 5 [.bool false, .int .i64 0, .int .i64 0, .bool false, .bool false] := ⟨fun _ => by kernel_rfl, fun _ => by kernel_rfl, fun _ => by kernel_rfl⟩
theorem T9 : StT Tryz.prog 111 3 [.int .i64 0, .int .i64 0, .bool false] := ⟨fun _ => by kernel_rfl, fun _ => by kernel_rfl, fun _ => by kernel_rfl⟩
theorem st113 : StT Tryz.prog 113 3 [.int .i64 0, .int .i64 0, .bool false] := ⟨fun _ => by kernel_rfl, fun _ => by kernel_rfl, fun _ => by kernel_rfl⟩
theorem st133 : StT Tryz.prog 133 4 [.int .i64 0, .int .i64 0, .int .i64 0, .slice none 0 0] := ⟨fun _ => by kernel_rfl, fun _ => by kernel_rfl, fun _ => by kernel_rfl⟩
theorem Xo : StT Tryz.prog 139 4 [.int .i64 0, .int .i64 0, .int .i64 0, .slice none 0 0] := ⟨fun _ => by kernel_rfl, fun _ => by kernel_rfl, fun _ => by kernel_rfl⟩
theorem Xn : StT Tryz.prog 149 4 [.int .i64 0, .int .i64 0, .int .i64 0, .int .i64 0] := ⟨fun _ => by kernel_rfl, fun _ => by kernel_rfl, fun _ => by kernel_rfl⟩
theorem Ty : StT Tryz.prog 164 2 [.int .i64 0, .bool false] := ⟨fun _ => by kernel_rfl, fun _ => by kernel_rfl, fun _ => by kernel_rfl⟩
theorem st180 : StT Tryz.prog 180 2 [.int .i64 0, .int .i64 0] := ⟨fun _ => by kernel_rfl, fun _ => by kernel_rfl, fun _ => by kernel_rfl⟩
theorem st182 : StT Tryz.prog 182 5 [.int .i64 0, .int .i64 0, .int .i64 0, .int .i64 0, .int .i64 0] := ⟨fun _ => by kernel_rfl, fun _ => by kernel_rfl, fun _ => by kernel_rfl⟩
theorem st184 : StT Tryz.prog 184 4 [.int .i64 0, .int .i64 0, .int .i64 0, .int .i64 0] := ⟨fun _ => by kernel_rfl, fun _ => by kernel_rfl, fun _ => by kernel_rfl⟩
theorem st186 : StT Tryz.prog 186 2 [.int .i64 0, .bool false] := ⟨fun _ => by kernel_rfl, fun _ => by kernel_rfl, fun _ => by kernel_rfl⟩
theorem Yo : ScT Tryz.prog 3 (.int .i64 0) := ⟨fun _ => by kernel_rfl, fun _ => by kernel_rfl, fun _ => by kernel_rfl, rfl⟩
theorem Tb : ScT Tryz.prog 4 (.bool false) := ⟨fun _ => by kernel_rfl, fun _ => by kernel_rfl, fun _ => by kernel_rfl, rfl⟩
theorem sc22 : ScT Tryz.prog 22 (.slice none 0 0) := ⟨fun _ => by kernel_rfl, fun _ => by kernel_rfl, fun _ => by kernel_rfl, rfl⟩
theorem sc25 : ScT Tryz.prog 25 (.slice none 0 0) := ⟨fun _ => by kernel_rfl, fun _ => by kernel_rfl, fun _ => by kernel_rfl, rfl⟩
theorem sc26 : ScT Tryz.prog 26 (.slice none 0 0) := ⟨fun _ => by kernel_rfl, fun _ => by kernel_rfl, fun _ => by kernel_rfl, rfl⟩
theorem sc27 : ScT Tryz.prog 27 (.slice none 0 0) := ⟨fun _ => by kernel_rfl, fun _ => by kernel_rfl, fun _ => by kernel_rfl, rfl⟩
theorem sc28 : ScT Tryz.prog 28 (.slice none 0 0) := ⟨fun _ => by kernel_rfl, fun _ => by kernel_rfl, fun _ => by kernel_rfl, rfl⟩
theorem Gc : ScT Tryz.prog 32 (.slice none 0 0) := ⟨fun _ => by kernel_rfl, fun _ => by kernel_rfl, fun _ => by kernel_rfl, rfl⟩
theorem Gh : ScT Tryz.prog 35 (.slice none 0 0) := ⟨fun _ => by kernel_rfl, fun _ => by kernel_rfl, fun _ => by kernel_rfl, rfl⟩
theorem H2 : ScT Tryz.prog 36 (.slice none 0 0) := ⟨fun _ => by kernel_rfl, fun _ => by kernel_rfl, fun _ => by kernel_rfl, rfl⟩
theorem Cu : ScT Tryz.prog 37 (.slice none 0 0) := ⟨fun _ => by kernel_rfl, fun _ => by kernel_rfl, fun _ => by kernel_rfl, rfl⟩
theorem B7 : ScT Tryz.prog 38 (.slice none 0 0) := ⟨fun _ => by kernel_rfl, fun _ => by kernel_rfl, fun _ => by kernel_rfl, rfl⟩
theorem Xy : ScT Tryz.prog 64 (.slice none 0 0) := ⟨fun _ => by kernel_rfl, fun _ => by kernel_rfl, fun _ => by kernel_rfl, rfl⟩
theorem A1 : ScT Tryz.prog 65 (.slice none 0 0) := ⟨fun _ => by kernel_rfl, fun _ => by kernel_rfl, fun _ => by kernel_rfl, rfl⟩
theorem Ke : ScT Tryz.prog 66 (.slice none 0 0) := ⟨fun _ => by kernel_rfl, fun _ => by kernel_rfl, fun _ => by kernel_rfl, rfl⟩
theorem G5 : ScT Tryz.prog 67 (.slice none 0 0) := ⟨fun _ => by kernel_rfl, fun _ => by kernel_rfl, fun _ => by kernel_rfl, rfl⟩
theorem A0 : ScT Tryz.prog 68 (.slice none 0 0) := ⟨fun _ => by kernel_rfl, fun _ => by kernel_rfl, fun _ => by kernel_rfl, rfl⟩
theorem sc85 : ScT Tryz.prog 85 (.slice none 0 0) := ⟨fun _ => by kernel_rfl, fun _ => by kernel_rfl, fun _ => by kernel_rfl, rfl⟩
theorem sc86 : ScT Tryz.prog 86 (.slice none 0 0) := ⟨fun _ => by kernel_rfl, fun _ => by kernel_rfl, fun _ => by kernel_rfl, rfl⟩
theorem sc87 : ScT Tryz.prog 87 (.slice none 0 0) := ⟨fun _ => by kernel_rfl, fun _ => by kernel_rfl, fun _ => by kernel_rfl, rfl⟩
set_option maxRecDepth 20000 in
theorem sl22 : SlT Tryz.prog 22 133 4 48 [.int .i64 0, .int .i64 0, .int .i64 0, .slice none 0 0] := ⟨Tryz.underlying22, ⟨Tryz.t133, _, Tryz.type133, rfl, rfl, rfl, rfl⟩, by decide, rfl⟩
set_option maxRecDepth 20000 in
theorem sl25 : SlT Tryz.prog 25 89 8 192 [.slice none 0 0, .slice none 0 0, .slice none 0 0, .slice none 0 0, .slice none 0 0, .slice none 0 0, .slice none 0 0, .slice none 0 0] := ⟨Tryz.underlying25, ⟨Tryz.t89, _, Tryz.type89, rfl, rfl, rfl, rfl⟩, by decide, rfl⟩
set_option maxRecDepth 20000 in
theorem sl26 : SlT Tryz.prog 26 92 6 64 [.int .i64 0, .slice none 0 0, .int .i64 0, .int .i64 0, .int .i64 0, .int .i64 0] := ⟨Tryz.underlying26, ⟨Tryz.t92, _, Tryz.type92, rfl, rfl, rfl, rfl⟩, by decide, rfl⟩
set_option maxRecDepth 20000 in
theorem sl27 : SlT Tryz.prog 27 109 5 32 [.bool false, .int .i64 0, .int .i64 0, .bool false, .bool false] := ⟨Tryz.underlying27, ⟨Tryz.t109, _, Tryz.type109, rfl, rfl, rfl, rfl⟩, by decide, rfl⟩
set_option maxRecDepth 20000 in
theorem sl28 : SlT Tryz.prog 28 113 3 24 [.int .i64 0, .int .i64 0, .bool false] := ⟨Tryz.underlying28, ⟨Tryz.t113, _, Tryz.type113, rfl, rfl, rfl, rfl⟩, by decide, rfl⟩
set_option maxRecDepth 20000 in
theorem Gv : SlT Tryz.prog 32 139 4 48 [.int .i64 0, .int .i64 0, .int .i64 0, .slice none 0 0] := ⟨Tryz.underlying32, ⟨Tryz.t139, _, Tryz.type139, rfl, rfl, rfl, rfl⟩, by decide, rfl⟩
set_option maxRecDepth 20000 in
theorem U8 : SlT Tryz.prog 35 70 8 192 [.slice none 0 0, .slice none 0 0, .slice none 0 0, .slice none 0 0, .slice none 0 0, .slice none 0 0, .slice none 0 0, .slice none 0 0] := ⟨Tryz.underlying35, ⟨Tryz.t70, _, Tryz.type70, rfl, rfl, rfl, rfl⟩, by decide, rfl⟩
set_option maxRecDepth 20000 in
theorem Gg : SlT Tryz.prog 36 104 6 64 [.int .i64 0, .slice none 0 0, .int .i64 0, .int .i64 0, .int .i64 0, .int .i64 0] := ⟨Tryz.underlying36, ⟨Tryz.t104, _, Tryz.type104, rfl, rfl, rfl, rfl⟩, by decide, rfl⟩
set_option maxRecDepth 20000 in
theorem Hg : SlT Tryz.prog 37 107 5 32 [.bool false, .int .i64 0, .int .i64 0, .bool false, .bool false] := ⟨Tryz.underlying37, ⟨Tryz.t107, _, Tryz.type107, rfl, rfl, rfl, rfl⟩, by decide, rfl⟩
set_option maxRecDepth 20000 in
theorem Cs : SlT Tryz.prog 38 111 3 24 [.int .i64 0, .int .i64 0, .bool false] := ⟨Tryz.underlying38, ⟨Tryz.t111, _, Tryz.type111, rfl, rfl, rfl, rfl⟩, by decide, rfl⟩
set_option maxRecDepth 20000 in
theorem Kn : SlT Tryz.prog 64 97 5 40 [.int .i64 0, .int .i64 0, .int .i64 0, .int .i64 0, .int .i64 0] := ⟨Tryz.underlying64, ⟨Tryz.t97, _, Tryz.type97, rfl, rfl, rfl, rfl⟩, by decide, rfl⟩
set_option maxRecDepth 20000 in
theorem Xq : SlT Tryz.prog 65 149 4 32 [.int .i64 0, .int .i64 0, .int .i64 0, .int .i64 0] := ⟨Tryz.underlying65, ⟨Tryz.t149, _, Tryz.type149, rfl, rfl, rfl, rfl⟩, by decide, rfl⟩
set_option maxRecDepth 20000 in
theorem Uv : SlT Tryz.prog 66 3 1 8 [.int .i64 0] := ⟨Tryz.underlying66, ⟨Tryz.t3, _, Tryz.type3, rfl, rfl, rfl, rfl⟩, by decide, rfl⟩
set_option maxRecDepth 20000 in
theorem C1 : SlT Tryz.prog 67 4 1 1 [.bool false] := ⟨Tryz.underlying67, ⟨Tryz.t4, _, Tryz.type4, rfl, rfl, rfl, rfl⟩, by decide, rfl⟩
set_option maxRecDepth 20000 in
theorem Cc : SlT Tryz.prog 68 164 2 16 [.int .i64 0, .bool false] := ⟨Tryz.underlying68, ⟨Tryz.t164, _, Tryz.type164, rfl, rfl, rfl, rfl⟩, by decide, rfl⟩
set_option maxRecDepth 20000 in
theorem sl85 : SlT Tryz.prog 85 182 5 40 [.int .i64 0, .int .i64 0, .int .i64 0, .int .i64 0, .int .i64 0] := ⟨Tryz.underlying85, ⟨Tryz.t182, _, Tryz.type182, rfl, rfl, rfl, rfl⟩, by decide, rfl⟩
set_option maxRecDepth 20000 in
theorem sl86 : SlT Tryz.prog 86 184 4 32 [.int .i64 0, .int .i64 0, .int .i64 0, .int .i64 0] := ⟨Tryz.underlying86, ⟨Tryz.t184, _, Tryz.type184, rfl, rfl, rfl, rfl⟩, by decide, rfl⟩
set_option maxRecDepth 20000 in
theorem sl87 : SlT Tryz.prog 87 186 2 16 [.int .i64 0, .bool false] := ⟨Tryz.underlying87, ⟨Tryz.t186, _, Tryz.type186, rfl, rfl, rfl, rfl⟩, by decide, rfl⟩
theorem fl24_0 : Xd Tryz.prog 24 0 0 := fun b o w => by simp [go_sem]
theorem fl24_1 : Xd Tryz.prog 24 1 1 := fun b o w => by simp [go_sem]
theorem fl24_2 : Xd Tryz.prog 24 2 2 := fun b o w => by simp [go_sem]
theorem fl30_0 : Xd Tryz.prog 30 0 0 := fun b o w => by simp [go_sem]
theorem fl30_1 : Xd Tryz.prog 30 1 3 := fun b o w => by simp [go_sem]
theorem fl30_2 : Xd Tryz.prog 30 2 4 := fun b o w => by simp [go_sem]
theorem fl30_3 : Xd Tryz.prog 30 3 5 := fun b o w => by simp [go_sem]
theorem fl30_4 : Xd Tryz.prog 30 4 6 := fun b o w => by simp [go_sem]
theorem Kd : Xd Tryz.prog 34 0 0 := fun b o w => by simp [go_sem]
theorem Cg : Xd Tryz.prog 34 1 1 := fun b o w => by simp [go_sem]
theorem Cf : Xd Tryz.prog 34 2 2 := fun b o w => by simp [go_sem]
theorem Ur : Xd Tryz.prog 40 0 0 := fun b o w => by simp [go_sem]
theorem Kh : Xd Tryz.prog 40 1 3 := fun b o w => by simp [go_sem]
theorem Uk : Xd Tryz.prog 40 2 4 := fun b o w => by simp [go_sem]
theorem Vk : Xd Tryz.prog 40 3 5 := fun b o w => by simp [go_sem]
theorem Hn : Xd Tryz.prog 40 4 6 := fun b o w => by simp [go_sem]
theorem Ab : Xd Tryz.prog 56 0 0 := fun b o w => by simp [go_sem]
theorem fl56_1 : Xd Tryz.prog 56 1 7 := fun b o w => by simp [go_sem]
theorem Vd : Xd Tryz.prog 70 0 0 := fun b o w => by simp [go_sem]
theorem Gm : Xd Tryz.prog 70 1 1 := fun b o w => by simp [go_sem]
theorem Vj : Xd Tryz.prog 70 2 2 := fun b o w => by simp [go_sem]
theorem Gl : Xd Tryz.prog 70 3 3 := fun b o w => by simp [go_sem]
theorem Hm : Xd Tryz.prog 70 4 4 := fun b o w => by simp [go_sem]
theorem Ts : Xd Tryz.prog 70 5 5 := fun b o w => by simp [go_sem]
theorem Hl : Xd Tryz.prog 70 6 6 := fun b o w => by simp [go_sem]
theorem Gk : Xd Tryz.prog 70 7 7 := fun b o w => by simp [go_sem]
theorem fl89_0 : Xd Tryz.prog 89 0 0 := fun b o w => by simp [go_sem]
theorem fl89_1 : Xd Tryz.prog 89 1 1 := fun b o w => by simp [go_sem]
theorem fl89_2 : Xd Tryz.prog 89 2 2 := fun b o w => by simp [go_sem]
theorem fl89_3 : Xd Tryz.prog 89 3 3 := fun b o w => by simp [go_sem]
theorem fl89_4 : Xd Tryz.prog 89 4 4 := fun b o w => by simp [go_sem]
theorem fl89_5 : Xd Tryz.prog 89 5 5 := fun b o w => by simp [go_sem]
theorem fl89_6 : Xd Tryz.prog 89 6 6 := fun b o w => by simp [go_sem]
theorem fl89_7 : Xd Tryz.prog 89 7 7 := fun b o w => by simp [go_sem]
theorem fl92_0 : Xd Tryz.prog 92 0 0 := fun b o w => by simp [go_sem]
theorem fl92_1 : Xd Tryz.prog 92 1 1 := fun b o w => by simp [go_sem]
theorem fl92_2 : Xd Tryz.prog 92 2 2 := fun b o w => by simp [go_sem]
theorem fl92_3 : Xd Tryz.prog 92 3 3 := fun b o w => by simp [go_sem]
theorem fl92_4 : Xd Tryz.prog 92 4 4 := fun b o w => by simp [go_sem]
theorem fl92_5 : Xd Tryz.prog 92 5 5 := fun b o w => by simp [go_sem]
theorem Vi : Xd Tryz.prog 95 0 0 := fun b o w => by simp [go_sem]
theorem V8 : Xd Tryz.prog 95 1 1 := fun b o w => by simp [go_sem]
theorem Uy : Xd Tryz.prog 97 0 0 := fun b o w => by simp [go_sem]
theorem Kx : Xd Tryz.prog 97 1 1 := fun b o w => by simp [go_sem]
theorem Hk : Xd Tryz.prog 97 2 3 := fun b o w => by simp [go_sem]
theorem Hj : Xd Tryz.prog 97 3 4 := fun b o w => by simp [go_sem]
theorem Uz : Xd Tryz.prog 104 0 0 := fun b o w => by simp [go_sem]
theorem Kt : Xd Tryz.prog 104 1 1 := fun b o w => by simp [go_sem]
theorem Hd : Xd Tryz.prog 104 2 2 := fun b o w => by simp [go_sem]
theorem Hc : Xd Tryz.prog 104 3 3 := fun b o w => by simp [go_sem]
theorem Hb : Xd Tryz.prog 104 4 4 := fun b o w => by simp [go_sem]
theorem Ha : Xd Tryz.prog 104 5 5 := fun b o w => by simp [go_sem]
theorem Tv : Xd Tryz.prog 107 0 0 := fun b o w => by simp [go_sem]
theorem G9 : Xd Tryz.prog 107 1 1 := fun b o w => by simp [go_sem]
theorem G8 : Xd Tryz.prog 107 2 2 := fun b o w => by simp [go_sem]
theorem Au : Xd Tryz.prog 107 3 3 := fun b o w => by simp [go_sem]
theorem As : Xd Tryz.prog 107 4 4 := fun b o w => by simp [go_sem]
theorem fl109_0 : Xd Tryz.prog 109 0 0 := fun b o w => by simp [go_sem]
theorem fl109_1 : Xd Tryz.prog 109 1 1 := fun b o w => by simp [go_sem]
theorem fl109_2 : Xd Tryz.prog 109 2 2 := fun b o w => by simp [go_sem]
theorem fl109_3 : Xd Tryz.prog 109 3 3 := fun b o w => by simp [go_sem]
theorem fl109_4 : Xd Tryz.prog 109 4 4 := fun b o w => by simp [go_sem]
theorem Tu : Xd Tryz.prog 111 0 0 := fun b o w => by simp [go_sem]
theorem Tt : Xd Tryz.prog 111 1 1 := fun b o w => by simp [go_sem]
theorem Ar : Xd Tryz.prog 111 2 2 := fun b o w => by simp [go_sem]
theorem fl113_0 : Xd Tryz.prog 113 0 0 := fun b o w => by simp [go_sem]
theorem fl113_1 : Xd Tryz.prog 113 1 1 := fun b o w => by simp [go_sem]
theorem fl113_2 : Xd Tryz.prog 113 2 2 := fun b o w => by simp [go_sem]
theorem fl133_0 : Xd Tryz.prog 133 0 0 := fun b o w => by simp [go_sem]
theorem fl133_1 : Xd Tryz.prog 133 1 1 := fun b o w => by simp [go_sem]
theorem fl133_2 : Xd Tryz.prog 133 2 2 := fun b o w => by simp [go_sem]
theorem fl133_3 : Xd Tryz.prog 133 3 3 := fun b o w => by simp [go_sem]
theorem Xk : Xd Tryz.prog 139 0 0 := fun b o w => by simp [go_sem]
theorem X2 : Xd Tryz.prog 139 1 1 := fun b o w => by simp [go_sem]
theorem Uf : Xd Tryz.prog 139 2 2 := fun b o w => by simp [go_sem]
theorem Y8 : Xd Tryz.prog 139 3 3 := fun b o w => by simp [go_sem]
theorem K5 : Xd Tryz.prog 149 0 0 := fun b o w => by simp [go_sem]
theorem K4 : Xd Tryz.prog 149 1 1 := fun b o w => by simp [go_sem]
theorem K3 : Xd Tryz.prog 149 2 2 := fun b o w => by simp [go_sem]
theorem Ul : Xd Tryz.prog 149 3 3 := fun b o w => by simp [go_sem]
theorem V9 : Xd Tryz.prog 164 0 0 := fun b o w => by simp [go_sem]
theorem Aq : Xd Tryz.prog 164 1 1 := fun b o w => by simp [go_sem]
theorem fl180_0 : Xd Tryz.prog 180 0 0 := fun b o w => by simp [go_sem]
theorem fl180_1 : Xd Tryz.prog 180 1 1 := fun b o w => by simp [go_sem]
theorem fl182_0 : Xd Tryz.prog 182 0 0 := fun b o w => by simp [go_sem]
theorem fl182_1 : Xd Tryz.prog 182 1 1 := fun b o w => by simp [go_sem]
theorem fl182_2 : Xd Tryz.prog 182 2 3 := fun b o w => by simp [go_sem]
theorem fl182_3 : Xd Tryz.prog 182 3 4 := fun b o w => by simp [go_sem]
theorem fl184_0 : Xd Tryz.prog 184 0 0 := fun b o w => by simp [go_sem]
theorem fl184_1 : Xd Tryz.prog 184 1 1 := fun b o w => by simp [go_sem]
theorem fl184_2 : Xd Tryz.prog 184 2 2 := fun b o w => by simp [go_sem]
theorem fl184_3 : Xd Tryz.prog 184 3 3 := fun b o w => by simp [go_sem]
theorem fl186_0 : Xd Tryz.prog 186 0 0 := fun b o w => by simp [go_sem]
theorem fl186_1 : Xd Tryz.prog 186 1 1 := fun b o w => by simp [go_sem]
theorem eqg149 : Tryz.prog.eqGuardType Tryz.prog.depth 149 = false := by kernel_rfl
theorem eq149 (x y : Cell) (w : World) : (binOp .eql 149 (.agg (Enc.enc x).toArray) (.agg (Enc.enc y).toArray)).run Tryz.prog w = .ok (.bool (decide (x = y))) w := by
  rcases x with ⟨_, _, _, _⟩; rcases y with ⟨_, _, _, _⟩
  simp [go_sem, Enc.enc]
  repeat' split
  all_goals simp_all
theorem ne149 (x y : Cell) (w : World) : (binOp .neq 149 (.agg (Enc.enc x).toArray) (.agg (Enc.enc y).toArray)).run Tryz.prog w = .ok (.bool (!(decide (x = y)))) w := by
  rcases x with ⟨_, _, _, _⟩; rcases y with ⟨_, _, _, _⟩
  simp [go_sem, Enc.enc, Bool.not_and]
  repeat' split
  all_goals simp_all
end Go.Proofs.YtaangeddnfnhdaaGreat
