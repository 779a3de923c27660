/- What is known of the types of the translated program; no condition. -/
import Derived.Test.YtjpoipdddpmeiaaGreatModel
import Derived.Test.YtjpoipdddpmeiaaGreatProg
namespace Go.Proofs.YtjpoipdddpmeiaaGreat
open Go Go.Proofs.YtjpoipdddpmeiaaGreat.X Go.Proofs
theorem Z {α : Sort _} {a : α} : a = a := rfl
theorem Xs : Tryz.prog.follows .mixedOrders = true := by kernel_rfl
theorem st24 : StT Tryz.prog 24 3 [.slice none 0 0, .int .i64 0, .int .i64 0] := ⟨fun _ => by kernel_rfl, fun _ => by kernel_rfl, fun _ => by kernel_rfl⟩
theorem st30 : StT Tryz.prog 30 7 [.slice none 0 0, .int .i64 0, .int .i64 0, .slice none 0 0, .slice none 0 0, .slice none 0 0, .slice none 0 0] := ⟨fun _ => by kernel_rfl, fun _ => by kernel_rfl, fun _ => by kernel_rfl⟩
theorem Uq : StT Tryz.prog 34 3 [.slice none 0 0, .int .i64 0, .int .i64 0] := ⟨fun _ => by kernel_rfl, fun _ => by kernel_rfl, fun _ => by kernel_rfl⟩
theorem Xw : StT Tryz.prog 40 7 [.slice none 0 0, .int .i64 0, .int .i64 0, .slice none 0 0, .slice none 0 0, .slice none 0 0, .slice none 0 0] := ⟨fun _ => by kernel_rfl, fun _ => by kernel_rfl, fun _ => by kernel_rfl⟩
theorem X4 : StT Tryz.prog 68 6 [.int .i64 0, .slice none 0 0, .int .i64 0, .int .i64 0, .int .i64 0, .int .i64 0] := ⟨fun _ => by kernel_rfl, fun _ => by kernel_rfl, fun _ => by kernel_rfl⟩
theorem Dd : StT Tryz.prog 70 2 [.int .i64 0, .int .i64 0] := ⟨fun _ => by kernel_rfl, fun _ => by kernel_rfl, fun _ => by kernel_rfl⟩
theorem Ul : StT Tryz.prog 72 5 [.int .i64 0, .int .i64 0, .int .i64 0, .int .i64 0, .int .i64 0] := ⟨fun _ => by kernel_rfl, fun _ => by kernel_rfl, fun _ => by kernel_rfl⟩
theorem X8 : StT Tryz.prog 80 8 [.slice none 0 0, .slice none 0 0, .slice none 0 0, .slice none 0 0, .slice none 0 0, .slice none 0 0, .slice none 0 0, .slice none 0 0] := ⟨fun _ => by kernel_rfl, fun _ => by kernel_rfl, fun _ => by kernel_rfl⟩
theorem st107 : StT Tryz.prog 107 8 [.slice none 0 0, .slice none 0 0, .slice none 0 0, .slice none 0 0, .slice none 0 0, .slice none 0 0, .slice none 0 0, .slice none 0 0] := ⟨fun _ => by kernel_rfl, fun _ => by kernel_rfl, fun _ => by kernel_rfl⟩
theorem st110 : StT Tryz.prog 110 6 [.int .i64 0, .slice none 0 0, .int .i64 0, .int .i64 0, .int .i64 0, .int .i64 0] := ⟨fun _ => by kernel_rfl, fun _ => by kernel_rfl, fun _ => by kernel_rfl⟩
theorem Tz : StT Tryz.prog 117 5 [.bool false, .int .i64 0, .int .i64 0, .bool false, .bool false] := ⟨fun _ => by kernel_rfl, fun _ => by kernel_rfl, fun _ => by kernel_rfl⟩
theorem st119 : StT Tryz.prog 119 5 [.bool false, .int .i64 0, .int .i64 0, .bool false, .bool false] := ⟨fun _ => by kernel_rfl, fun _ => by kernel_rfl, fun _ => by kernel_rfl⟩
theorem Ty : StT Tryz.prog 121 3 [.int .i64 0, .int .i64 0, .bool false] := ⟨fun _ => by kernel_rfl, fun _ => by kernel_rfl, fun _ => by kernel_rfl⟩
theorem st123 : StT Tryz.prog 123 3 [.int .i64 0, .int .i64 0, .bool false] := ⟨fun _ => by kernel_rfl, fun _ => by kernel_rfl, fun _ => by kernel_rfl⟩
theorem st143 : StT Tryz.prog 143 4 [.int .i64 0, .int .i64 0, .int .i64 0, .slice none 0 0] := ⟨fun _ => by kernel_rfl, fun _ => by kernel_rfl, fun _ => by kernel_rfl⟩
theorem Uf : StT Tryz.prog 150 4 [.int .i64 0, .int .i64 0, .int .i64 0, .slice none 0 0] := ⟨fun _ => by kernel_rfl, fun _ => by kernel_rfl, fun _ => by kernel_rfl⟩
theorem Tq : StT Tryz.prog 168 4 [.int .i64 0, .int .i64 0, .int .i64 0, .int .i64 0] := ⟨fun _ => by kernel_rfl, fun _ => by kernel_rfl, fun _ => by kernel_rfl⟩
theorem Tp : StT Tryz.prog 170 2 [.int .i64 0, .bool false] := ⟨fun _ => by kernel_rfl, fun _ => by kernel_rfl, fun _ => by kernel_rfl⟩
theorem st176 : StT Tryz.prog 176 2 [.int .i64 0, .int .i64 0] := ⟨fun _ => by kernel_rfl, fun _ => by kernel_rfl, fun _ => by kernel_rfl⟩
theorem st178 : StT Tryz.prog 178 5 [.int .i64 0, .int .i64 0, .int .i64 0, .int .i64 0, .int .i64 0] := ⟨fun _ => by kernel_rfl, fun _ => by kernel_rfl, fun _ => by kernel_rfl⟩
theorem st180 : StT Tryz.prog 180 4 [.int .i64 0, .int .i64 0, .int .i64 0, .int .i64 0] := ⟨fun _ => by kernel_rfl, fun _ => by kernel_rfl, fun _ => by kernel_rfl⟩
theorem st182 : StT Tryz.prog 182 2 [.int .i64 0, .bool false] := ⟨fun _ => by kernel_rfl, fun _ => by kernel_rfl, fun _ => by kernel_rfl⟩
theorem Yt : ScT Tryz.prog 3 (.int .i64 0) := ⟨fun _ => by kernel_rfl, fun _ => by kernel_rfl, fun _ => by kernel_rfl, rfl⟩
theorem Hs : ScT Tryz.prog 4 (.bool false) := ⟨fun _ => by kernel_rfl, fun _ => by kernel_rfl, fun _ => by kernel_rfl, rfl⟩
theorem sc22 : ScT Tryz.prog 22 (.slice none 0 0) := ⟨fun _ => by kernel_rfl, fun _ => by kernel_rfl, fun _ => by kernel_rfl, rfl⟩
theorem sc25 : ScT Tryz.prog 25 (.slice none 0 0) := ⟨fun _ => by kernel_rfl, fun _ => by kernel_rfl, fun _ => by kernel_rfl, rfl⟩
theorem sc26 : ScT Tryz.prog 26 (.slice none 0 0) := ⟨fun _ => by kernel_rfl, fun _ => by kernel_rfl, fun _ => by kernel_rfl, rfl⟩
theorem sc27 : ScT Tryz.prog 27 (.slice none 0 0) := ⟨fun _ => by kernel_rfl, fun _ => by kernel_rfl, fun _ => by kernel_rfl, rfl⟩
theorem sc28 : ScT Tryz.prog 28 (.slice none 0 0) := ⟨fun _ => by kernel_rfl, fun _ => by kernel_rfl, fun _ => by kernel_rfl, rfl⟩
theorem Gn : ScT Tryz.prog 32 (.slice none 0 0) := ⟨fun _ => by kernel_rfl, fun _ => by kernel_rfl, fun _ => by kernel_rfl, rfl⟩
theorem Uy : ScT Tryz.prog 35 (.slice none 0 0) := ⟨fun _ => by kernel_rfl, fun _ => by kernel_rfl, fun _ => by kernel_rfl, rfl⟩
theorem Gh : ScT Tryz.prog 36 (.slice none 0 0) := ⟨fun _ => by kernel_rfl, fun _ => by kernel_rfl, fun _ => by kernel_rfl, rfl⟩
theorem Co : ScT Tryz.prog 37 (.slice none 0 0) := ⟨fun _ => by kernel_rfl, fun _ => by kernel_rfl, fun _ => by kernel_rfl, rfl⟩
theorem Bn : ScT Tryz.prog 38 (.slice none 0 0) := ⟨fun _ => by kernel_rfl, fun _ => by kernel_rfl, fun _ => by kernel_rfl, rfl⟩
theorem Xq : ScT Tryz.prog 66 (.slice none 0 0) := ⟨fun _ => by kernel_rfl, fun _ => by kernel_rfl, fun _ => by kernel_rfl, rfl⟩
theorem sc75 : ScT Tryz.prog 75 (.slice none 0 0) := ⟨fun _ => by kernel_rfl, fun _ => by kernel_rfl, fun _ => by kernel_rfl, rfl⟩
theorem K0 : ScT Tryz.prog 76 (.slice none 0 0) := ⟨fun _ => by kernel_rfl, fun _ => by kernel_rfl, fun _ => by kernel_rfl, rfl⟩
theorem Hb : ScT Tryz.prog 77 (.slice none 0 0) := ⟨fun _ => by kernel_rfl, fun _ => by kernel_rfl, fun _ => by kernel_rfl, rfl⟩
theorem Aq : ScT Tryz.prog 78 (.slice none 0 0) := ⟨fun _ => by kernel_rfl, fun _ => by kernel_rfl, fun _ => by kernel_rfl, rfl⟩
theorem Az : ScT Tryz.prog 103 (.slice none 0 0) := ⟨fun _ => by kernel_rfl, fun _ => by kernel_rfl, fun _ => by kernel_rfl, rfl⟩
theorem sc104 : ScT Tryz.prog 104 (.slice none 0 0) := ⟨fun _ => by kernel_rfl, fun _ => by kernel_rfl, fun _ => by kernel_rfl, rfl⟩
theorem sc105 : ScT Tryz.prog 105 (.slice none 0 0) := ⟨fun _ => by kernel_rfl, fun _ => by kernel_rfl, fun _ => by kernel_rfl, rfl⟩
set_option maxRecDepth 20000 in
theorem sl22 : SlT Tryz.prog 22 143 4 48 [.int .i64 0, .int .i64 0, .int .i64 0, .slice none 0 0] := ⟨Tryz.underlying22, ⟨Tryz.t143, _, Tryz.type143, rfl, rfl, rfl, rfl⟩, by decide, rfl⟩
set_option maxRecDepth 20000 in
theorem sl25 : SlT Tryz.prog 25 107 8 192 [.slice none 0 0, .slice none 0 0, .slice none 0 0, .slice none 0 0, .slice none 0 0, .slice none 0 0, .slice none 0 0, .slice none 0 0] := ⟨Tryz.underlying25, ⟨Tryz.t107, _, Tryz.type107, rfl, rfl, rfl, rfl⟩, by decide, rfl⟩
set_option maxRecDepth 20000 in
theorem sl26 : SlT Tryz.prog 26 110 6 64 [.int .i64 0, .slice none 0 0, .int .i64 0, .int .i64 0, .int .i64 0, .int .i64 0] := ⟨Tryz.underlying26, ⟨Tryz.t110, _, Tryz.type110, rfl, rfl, rfl, rfl⟩, by decide, rfl⟩
set_option maxRecDepth 20000 in
theorem sl27 : SlT Tryz.prog 27 119 5 32 [.bool false, .int .i64 0, .int .i64 0, .bool false, .bool false] := ⟨Tryz.underlying27, ⟨Tryz.t119, _, Tryz.type119, rfl, rfl, rfl, rfl⟩, by decide, rfl⟩
set_option maxRecDepth 20000 in
theorem sl28 : SlT Tryz.prog 28 123 3 24 [.int .i64 0, .int .i64 0, .bool false] := ⟨Tryz.underlying28, ⟨Tryz.t123, _, Tryz.type123, rfl, rfl, rfl, rfl⟩, by decide, rfl⟩
set_option maxRecDepth 20000 in
theorem G0 : SlT Tryz.prog 32 150 4 48 [.int .i64 0, .int .i64 0, .int .i64 0, .slice none 0 0] := ⟨Tryz.underlying32, ⟨Tryz.t150, _, Tryz.type150, rfl, rfl, rfl, rfl⟩, by decide, rfl⟩
set_option maxRecDepth 20000 in
theorem K5 : SlT Tryz.prog 35 80 8 192 [.slice none 0 0, .slice none 0 0, .slice none 0 0, .slice none 0 0, .slice none 0 0, .slice none 0 0, .slice none 0 0, .slice none 0 0] := ⟨Tryz.underlying35, ⟨Tryz.t80, _, Tryz.type80, rfl, rfl, rfl, rfl⟩, by decide, rfl⟩
set_option maxRecDepth 20000 in
theorem Vl : SlT Tryz.prog 36 68 6 64 [.int .i64 0, .slice none 0 0, .int .i64 0, .int .i64 0, .int .i64 0, .int .i64 0] := ⟨Tryz.underlying36, ⟨Tryz.t68, _, Tryz.type68, rfl, rfl, rfl, rfl⟩, by decide, rfl⟩
set_option maxRecDepth 20000 in
theorem Gz : SlT Tryz.prog 37 117 5 32 [.bool false, .int .i64 0, .int .i64 0, .bool false, .bool false] := ⟨Tryz.underlying37, ⟨Tryz.t117, _, Tryz.type117, rfl, rfl, rfl, rfl⟩, by decide, rfl⟩
set_option maxRecDepth 20000 in
theorem Cn : SlT Tryz.prog 38 121 3 24 [.int .i64 0, .int .i64 0, .bool false] := ⟨Tryz.underlying38, ⟨Tryz.t121, _, Tryz.type121, rfl, rfl, rfl, rfl⟩, by decide, rfl⟩
set_option maxRecDepth 20000 in
theorem Kn : SlT Tryz.prog 66 72 5 40 [.int .i64 0, .int .i64 0, .int .i64 0, .int .i64 0, .int .i64 0] := ⟨Tryz.underlying66, ⟨Tryz.t72, _, Tryz.type72, rfl, rfl, rfl, rfl⟩, by decide, rfl⟩
set_option maxRecDepth 20000 in
theorem H2 : SlT Tryz.prog 75 168 4 32 [.int .i64 0, .int .i64 0, .int .i64 0, .int .i64 0] := ⟨Tryz.underlying75, ⟨Tryz.t168, _, Tryz.type168, rfl, rfl, rfl, rfl⟩, by decide, rfl⟩
set_option maxRecDepth 20000 in
theorem Ux : SlT Tryz.prog 76 3 1 8 [.int .i64 0] := ⟨Tryz.underlying76, ⟨Tryz.t3, _, Tryz.type3, rfl, rfl, rfl, rfl⟩, by decide, rfl⟩
set_option maxRecDepth 20000 in
theorem Ap : SlT Tryz.prog 77 4 1 1 [.bool false] := ⟨Tryz.underlying77, ⟨Tryz.t4, _, Tryz.type4, rfl, rfl, rfl, rfl⟩, by decide, rfl⟩
set_option maxRecDepth 20000 in
theorem T1 : SlT Tryz.prog 78 170 2 16 [.int .i64 0, .bool false] := ⟨Tryz.underlying78, ⟨Tryz.t170, _, Tryz.type170, rfl, rfl, rfl, rfl⟩, by decide, rfl⟩
set_option maxRecDepth 20000 in
theorem sl103 : SlT Tryz.prog 103 178 5 40 [.int .i64 0, .int .i64 0, .int .i64 0, .int .i64 0, .int .i64 0] := ⟨Tryz.underlying103, ⟨Tryz.t178, _, Tryz.type178, rfl, rfl, rfl, rfl⟩, by decide, rfl⟩
set_option maxRecDepth 20000 in
theorem sl104 : SlT Tryz.prog 104 180 4 32 [.int .i64 0, .int .i64 0, .int .i64 0, .int .i64 0] := ⟨Tryz.underlying104, ⟨Tryz.t180, _, Tryz.type180, rfl, rfl, rfl, rfl⟩, by decide, rfl⟩
set_option maxRecDepth 20000 in
theorem sl105 : SlT Tryz.prog 105 182 2 16 [.int .i64 0, .bool false] := ⟨Tryz.underlying105, ⟨Tryz.t182, _, Tryz.type182, rfl, rfl, rfl, rfl⟩, by decide, rfl⟩
theorem fl24_0 : Y9 Tryz.prog 24 0 0 := fun b o w => by simp [go_sem]
theorem fl24_1 : Y9 Tryz.prog 24 1 1 := fun b o w => by simp [go_sem]
theorem fl24_2 : Y9 Tryz.prog 24 2 2 := fun b o w => by simp [go_sem]
theorem fl30_0 : Y9 Tryz.prog 30 0 0 := fun b o w => by simp [go_sem]
theorem fl30_1 : Y9 Tryz.prog 30 1 3 := fun b o w => by simp [go_sem]
theorem fl30_2 : Y9 Tryz.prog 30 2 4 := fun b o w => by simp [go_sem]
theorem fl30_3 : Y9 Tryz.prog 30 3 5 := fun b o w => by simp [go_sem]
theorem fl30_4 : Y9 Tryz.prog 30 4 6 := fun b o w => by simp [go_sem]
theorem Kw : Y9 Tryz.prog 34 0 0 := fun b o w => by simp [go_sem]
theorem Vf : Y9 Tryz.prog 34 1 1 := fun b o w => by simp [go_sem]
theorem T8 : Y9 Tryz.prog 34 2 2 := fun b o w => by simp [go_sem]
theorem Ue : Y9 Tryz.prog 40 0 0 := fun b o w => by simp [go_sem]
theorem Xn : Y9 Tryz.prog 40 1 3 := fun b o w => by simp [go_sem]
theorem Ko : Y9 Tryz.prog 40 2 4 := fun b o w => by simp [go_sem]
theorem Ve : Y9 Tryz.prog 40 3 5 := fun b o w => by simp [go_sem]
theorem G6 : Y9 Tryz.prog 40 4 6 := fun b o w => by simp [go_sem]
theorem U7 : Y9 Tryz.prog 58 0 0 := fun b o w => by simp [go_sem]
theorem fl58_1 : Y9 Tryz.prog 58 1 7 := fun b o w => by simp [go_sem]
theorem Vo : Y9 Tryz.prog 68 0 0 := fun b o w => by simp [go_sem]
theorem Kv : Y9 Tryz.prog 68 1 1 := fun b o w => by simp [go_sem]
theorem Vn : Y9 Tryz.prog 68 2 2 := fun b o w => by simp [go_sem]
theorem Ti : Y9 Tryz.prog 68 3 3 := fun b o w => by simp [go_sem]
theorem Vm : Y9 Tryz.prog 68 4 4 := fun b o w => by simp [go_sem]
theorem Th : Y9 Tryz.prog 68 5 5 := fun b o w => by simp [go_sem]
theorem V9 : Y9 Tryz.prog 70 0 0 := fun b o w => by simp [go_sem]
theorem Tg : Y9 Tryz.prog 70 1 1 := fun b o w => by simp [go_sem]
theorem G5 : Y9 Tryz.prog 72 0 0 := fun b o w => by simp [go_sem]
theorem U6 : Y9 Tryz.prog 72 1 1 := fun b o w => by simp [go_sem]
theorem Tf : Y9 Tryz.prog 72 2 3 := fun b o w => by simp [go_sem]
theorem C4 : Y9 Tryz.prog 72 3 4 := fun b o w => by simp [go_sem]
theorem V8 : Y9 Tryz.prog 80 0 0 := fun b o w => by simp [go_sem]
theorem Un : Y9 Tryz.prog 80 1 1 := fun b o w => by simp [go_sem]
theorem Vd : Y9 Tryz.prog 80 2 2 := fun b o w => by simp [go_sem]
theorem Te : Y9 Tryz.prog 80 3 3 := fun b o w => by simp [go_sem]
theorem Vc : Y9 Tryz.prog 80 4 4 := fun b o w => by simp [go_sem]
theorem Td : Y9 Tryz.prog 80 5 5 := fun b o w => by simp [go_sem]
theorem Tc : Y9 Tryz.prog 80 6 6 := fun b o w => by simp [go_sem]
theorem V7 : Y9 Tryz.prog 80 7 7 := fun b o w => by simp [go_sem]
theorem fl107_0 : Y9 Tryz.prog 107 0 0 := fun b o w => by simp [go_sem]
theorem fl107_1 : Y9 Tryz.prog 107 1 1 := fun b o w => by simp [go_sem]
theorem fl107_2 : Y9 Tryz.prog 107 2 2 := fun b o w => by simp [go_sem]
theorem fl107_3 : Y9 Tryz.prog 107 3 3 := fun b o w => by simp [go_sem]
theorem fl107_4 : Y9 Tryz.prog 107 4 4 := fun b o w => by simp [go_sem]
theorem fl107_5 : Y9 Tryz.prog 107 5 5 := fun b o w => by simp [go_sem]
theorem fl107_6 : Y9 Tryz.prog 107 6 6 := fun b o w => by simp [go_sem]
theorem fl107_7 : Y9 Tryz.prog 107 7 7 := fun b o w => by simp [go_sem]
theorem fl110_0 : Y9 Tryz.prog 110 0 0 := fun b o w => by simp [go_sem]
theorem fl110_1 : Y9 Tryz.prog 110 1 1 := fun b o w => by simp [go_sem]
theorem fl110_2 : Y9 Tryz.prog 110 2 2 := fun b o w => by simp [go_sem]
theorem fl110_3 : Y9 Tryz.prog 110 3 3 := fun b o w => by simp [go_sem]
theorem fl110_4 : Y9 Tryz.prog 110 4 4 := fun b o w => by simp [go_sem]
theorem fl110_5 : Y9 Tryz.prog 110 5 5 := fun b o w => by simp [go_sem]
theorem Tl : Y9 Tryz.prog 117 0 0 := fun b o w => by simp [go_sem]
theorem Gx : Y9 Tryz.prog 117 1 1 := fun b o w => by simp [go_sem]
theorem Gw : Y9 Tryz.prog 117 2 2 := fun b o w => by simp [go_sem]
theorem Ak : Y9 Tryz.prog 117 3 3 := fun b o w => by simp [go_sem]
theorem Aj : Y9 Tryz.prog 117 4 4 := fun b o w => by simp [go_sem]
theorem fl119_0 : Y9 Tryz.prog 119 0 0 := fun b o w => by simp [go_sem]
theorem fl119_1 : Y9 Tryz.prog 119 1 1 := fun b o w => by simp [go_sem]
theorem fl119_2 : Y9 Tryz.prog 119 2 2 := fun b o w => by simp [go_sem]
theorem fl119_3 : Y9 Tryz.prog 119 3 3 := fun b o w => by simp [go_sem]
theorem fl119_4 : Y9 Tryz.prog 119 4 4 := fun b o w => by simp [go_sem]
theorem Tk : Y9 Tryz.prog 121 0 0 := fun b o w => by simp [go_sem]
theorem Tj : Y9 Tryz.prog 121 1 1 := fun b o w => by simp [go_sem]
theorem Ai : Y9 Tryz.prog 121 2 2 := fun b o w => by simp [go_sem]
theorem fl123_0 : Y9 Tryz.prog 123 0 0 := fun b o w => by simp [go_sem]
theorem fl123_1 : Y9 Tryz.prog 123 1 1 := fun b o w => by simp [go_sem]
theorem fl123_2 : Y9 Tryz.prog 123 2 2 := fun b o w => by simp [go_sem]
theorem fl143_0 : Y9 Tryz.prog 143 0 0 := fun b o w => by simp [go_sem]
theorem fl143_1 : Y9 Tryz.prog 143 1 1 := fun b o w => by simp [go_sem]
theorem fl143_2 : Y9 Tryz.prog 143 2 2 := fun b o w => by simp [go_sem]
theorem fl143_3 : Y9 Tryz.prog 143 3 3 := fun b o w => by simp [go_sem]
theorem Kj : Y9 Tryz.prog 150 0 0 := fun b o w => by simp [go_sem]
theorem Kx : Y9 Tryz.prog 150 1 1 := fun b o w => by simp [go_sem]
theorem Ut : Y9 Tryz.prog 150 2 2 := fun b o w => by simp [go_sem]
theorem Xu : Y9 Tryz.prog 150 3 3 := fun b o w => by simp [go_sem]
theorem Gv : Y9 Tryz.prog 168 0 0 := fun b o w => by simp [go_sem]
theorem Gu : Y9 Tryz.prog 168 1 1 := fun b o w => by simp [go_sem]
theorem Gt : Y9 Tryz.prog 168 2 2 := fun b o w => by simp [go_sem]
theorem Gs : Y9 Tryz.prog 168 3 3 := fun b o w => by simp [go_sem]
theorem Vy : Y9 Tryz.prog 170 0 0 := fun b o w => by simp [go_sem]
theorem Ah : Y9 Tryz.prog 170 1 1 := fun b o w => by simp [go_sem]
theorem fl176_0 : Y9 Tryz.prog 176 0 0 := fun b o w => by simp [go_sem]
theorem fl176_1 : Y9 Tryz.prog 176 1 1 := fun b o w => by simp [go_sem]
theorem fl178_0 : Y9 Tryz.prog 178 0 0 := fun b o w => by simp [go_sem]
theorem fl178_1 : Y9 Tryz.prog 178 1 1 := fun b o w => by simp [go_sem]
theorem fl178_2 : Y9 Tryz.prog 178 2 3 := fun b o w => by simp [go_sem]
theorem fl178_3 : Y9 Tryz.prog 178 3 4 := fun b o w => by simp [go_sem]
theorem fl180_0 : Y9 Tryz.prog 180 0 0 := fun b o w => by simp [go_sem]
theorem fl180_1 : Y9 Tryz.prog 180 1 1 := fun b o w => by simp [go_sem]
theorem fl180_2 : Y9 Tryz.prog 180 2 2 := fun b o w => by simp [go_sem]
theorem fl180_3 : Y9 Tryz.prog 180 3 3 := fun b o w => by simp [go_sem]
theorem fl182_0 : Y9 Tryz.prog 182 0 0 := fun b o w => by simp [go_sem]
theorem fl182_1 : Y9 Tryz.prog 182 1 1 := fun b o w => by simp [go_sem]
end Go.Proofs.YtjpoipdddpmeiaaGreat
