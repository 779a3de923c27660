/- What is known of the types of the translated program; no condition. -/
import Derived.Test.YteljajfcppmeiaaGreatModel
import Derived.Test.YteljajfcppmeiaaGreatProg
namespace Go.Proofs.YteljajfcppmeiaaGreat
open Go Go.Proofs.YteljajfcppmeiaaGreat.X Go.Proofs
theorem Z {α : Sort _} {a : α} : a = a := rfl
theorem Xo : Tryz.prog.follows .mixedOrders = true := by kernel_rfl
theorem Xt : StT Tryz.prog 26 3 [.slice none 0 0, .int .i64 0, .int .i64 0] := ⟨fun _ => by kernel_rfl, fun _ => by kernel_rfl, fun _ => by kernel_rfl⟩
theorem Q7 : StT Tryz.prog 33 8 [.slice none 0 0, .slice none 0 0, .slice none 0 0, .slice none 0 0, .slice none 0 0, .slice none 0 0, .slice none 0 0, .slice none 0 0] := ⟨fun _ => by kernel_rfl, fun _ => by kernel_rfl, fun _ => by kernel_rfl⟩
theorem X2 : StT Tryz.prog 40 2 [.int .i64 0, .int .i64 0] := ⟨fun _ => by kernel_rfl, fun _ => by kernel_rfl, fun _ => by kernel_rfl⟩
theorem Xh : StT Tryz.prog 42 5 [.int .i64 0, .int .i64 0, .int .i64 0, .int .i64 0, .int .i64 0] := ⟨fun _ => by kernel_rfl, fun _ => by kernel_rfl, fun _ => by kernel_rfl⟩
theorem st69 : StT Tryz.prog 69 2 [.int .i64 0, .bool false] := ⟨fun _ => by kernel_rfl, fun _ => by kernel_rfl, fun _ => by kernel_rfl⟩
theorem Kn : StT Tryz.prog 77 4 [.int .i64 0, .int .i64 0, .int .i64 0, .slice none 0 0] := ⟨fun _ => by kernel_rfl, fun _ => by kernel_rfl, fun _ => by kernel_rfl⟩
theorem Ku : StT Tryz.prog 87 4 [.int .i64 0, .int .i64 0, .int .i64 0, .int .i64 0] := ⟨fun _ => by kernel_rfl, fun _ => by kernel_rfl, fun _ => by kernel_rfl⟩
theorem Y6 : ScT Tryz.prog 3 (.int .i64 0) := ⟨fun _ => by kernel_rfl, fun _ => by kernel_rfl, fun _ => by kernel_rfl, rfl⟩
theorem sc4 : ScT Tryz.prog 4 (.bool false) := ⟨fun _ => by kernel_rfl, fun _ => by kernel_rfl, fun _ => by kernel_rfl, rfl⟩
theorem sc5 : ScT Tryz.prog 5 (.int .u8 0) := ⟨fun _ => by kernel_rfl, fun _ => by kernel_rfl, fun _ => by kernel_rfl, rfl⟩
theorem sc22 : ScT Tryz.prog 22 (.slice none 0 0) := ⟨fun _ => by kernel_rfl, fun _ => by kernel_rfl, fun _ => by kernel_rfl, rfl⟩
theorem V0 : ScT Tryz.prog 24 (.slice none 0 0) := ⟨fun _ => by kernel_rfl, fun _ => by kernel_rfl, fun _ => by kernel_rfl, rfl⟩
theorem Xi : ScT Tryz.prog 27 (.slice none 0 0) := ⟨fun _ => by kernel_rfl, fun _ => by kernel_rfl, fun _ => by kernel_rfl, rfl⟩
theorem Cd : ScT Tryz.prog 28 (.slice none 0 0) := ⟨fun _ => by kernel_rfl, fun _ => by kernel_rfl, fun _ => by kernel_rfl, rfl⟩
theorem Kg : ScT Tryz.prog 29 (.slice none 0 0) := ⟨fun _ => by kernel_rfl, fun _ => by kernel_rfl, fun _ => by kernel_rfl, rfl⟩
theorem Gk : ScT Tryz.prog 30 (.slice none 0 0) := ⟨fun _ => by kernel_rfl, fun _ => by kernel_rfl, fun _ => by kernel_rfl, rfl⟩
theorem Ts : ScT Tryz.prog 31 (.slice none 0 0) := ⟨fun _ => by kernel_rfl, fun _ => by kernel_rfl, fun _ => by kernel_rfl, rfl⟩
set_option maxRecDepth 20000 in
theorem sl22 : SlT Tryz.prog 22 5 1 1 [.int .u8 0] := ⟨Tryz.underlying22, ⟨Tryz.t5, _, Tryz.type5, rfl, rfl, rfl, rfl⟩, by decide, rfl⟩
set_option maxRecDepth 20000 in
theorem Tb : SlT Tryz.prog 24 77 4 48 [.int .i64 0, .int .i64 0, .int .i64 0, .slice none 0 0] := ⟨Tryz.underlying24, ⟨Tryz.t77, _, Tryz.type77, rfl, rfl, rfl, rfl⟩, by decide, rfl⟩
set_option maxRecDepth 20000 in
theorem X3 : SlT Tryz.prog 27 42 5 40 [.int .i64 0, .int .i64 0, .int .i64 0, .int .i64 0, .int .i64 0] := ⟨Tryz.underlying27, ⟨Tryz.t42, _, Tryz.type42, rfl, rfl, rfl, rfl⟩, by decide, rfl⟩
set_option maxRecDepth 20000 in
theorem X0 : SlT Tryz.prog 28 87 4 32 [.int .i64 0, .int .i64 0, .int .i64 0, .int .i64 0] := ⟨Tryz.underlying28, ⟨Tryz.t87, _, Tryz.type87, rfl, rfl, rfl, rfl⟩, by decide, rfl⟩
set_option maxRecDepth 20000 in
theorem Ke : SlT Tryz.prog 29 3 1 8 [.int .i64 0] := ⟨Tryz.underlying29, ⟨Tryz.t3, _, Tryz.type3, rfl, rfl, rfl, rfl⟩, by decide, rfl⟩
set_option maxRecDepth 20000 in
theorem Hr : SlT Tryz.prog 30 4 1 1 [.bool false] := ⟨Tryz.underlying30, ⟨Tryz.t4, _, Tryz.type4, rfl, rfl, rfl, rfl⟩, by decide, rfl⟩
set_option maxRecDepth 20000 in
theorem Ta : SlT Tryz.prog 31 69 2 16 [.int .i64 0, .bool false] := ⟨Tryz.underlying31, ⟨Tryz.t69, _, Tryz.type69, rfl, rfl, rfl, rfl⟩, by decide, rfl⟩
theorem Kr : U3 Tryz.prog 26 0 0 := fun b o w => by simp [go_sem]
theorem fl26_1 : U3 Tryz.prog 26 1 1 := fun b o w => by simp [go_sem]
theorem fl26_2 : U3 Tryz.prog 26 2 2 := fun b o w => by simp [go_sem]
theorem Xj : U3 Tryz.prog 33 0 0 := fun b o w => by simp [go_sem]
theorem K7 : U3 Tryz.prog 33 1 1 := fun b o w => by simp [go_sem]
theorem Kc : U3 Tryz.prog 33 2 2 := fun b o w => by simp [go_sem]
theorem Vx : U3 Tryz.prog 33 3 3 := fun b o w => by simp [go_sem]
theorem Uc : U3 Tryz.prog 33 4 4 := fun b o w => by simp [go_sem]
theorem Vw : U3 Tryz.prog 33 5 5 := fun b o w => by simp [go_sem]
theorem G9 : U3 Tryz.prog 33 6 6 := fun b o w => by simp [go_sem]
theorem Vk : U3 Tryz.prog 33 7 7 := fun b o w => by simp [go_sem]
theorem Vf : U3 Tryz.prog 40 0 0 := fun b o w => by simp [go_sem]
theorem Vv : U3 Tryz.prog 40 1 1 := fun b o w => by simp [go_sem]
theorem Uv : U3 Tryz.prog 42 0 0 := fun b o w => by simp [go_sem]
theorem Kz : U3 Tryz.prog 42 1 1 := fun b o w => by simp [go_sem]
theorem H1 : U3 Tryz.prog 42 2 3 := fun b o w => by simp [go_sem]
theorem H0 : U3 Tryz.prog 42 3 4 := fun b o w => by simp [go_sem]
theorem T4 : U3 Tryz.prog 69 0 0 := fun b o w => by simp [go_sem]
theorem X7 : U3 Tryz.prog 77 0 0 := fun b o w => by simp [go_sem]
theorem Uf : U3 Tryz.prog 77 1 1 := fun b o w => by simp [go_sem]
theorem Vu : U3 Tryz.prog 77 2 2 := fun b o w => by simp [go_sem]
theorem Xz : U3 Tryz.prog 77 3 3 := fun b o w => by simp [go_sem]
theorem Ve : U3 Tryz.prog 87 0 0 := fun b o w => by simp [go_sem]
theorem Vd : U3 Tryz.prog 87 1 1 := fun b o w => by simp [go_sem]
theorem Vc : U3 Tryz.prog 87 2 2 := fun b o w => by simp [go_sem]
theorem V6 : U3 Tryz.prog 87 3 3 := fun b o w => by simp [go_sem]
theorem fl97_0 : U3 Tryz.prog 97 0 0 := fun b o w => by simp [go_sem]
theorem fl97_1 : U3 Tryz.prog 97 1 1 := fun b o w => by simp [go_sem]
theorem fl97_2 : U3 Tryz.prog 97 2 2 := fun b o w => by simp [go_sem]
theorem eqg42 : Tryz.prog.eqGuardType Tryz.prog.depth 42 = false := by kernel_rfl
theorem eq42 (x y : Record) (w : World) : (binOp .eql 42 (.agg (Enc.enc x).toArray) (.agg (Enc.enc y).toArray)).run Tryz.prog w = .ok (.bool (decide (x = y))) w := by
  rcases x with ⟨_, ⟨_, _⟩, _, _⟩; rcases y with ⟨_, ⟨_, _⟩, _, _⟩
  simp [go_sem, Enc.enc]
  repeat' split
  all_goals simp_all
theorem ne42 (x y : Record) (w : World) : (binOp .neq 42 (.agg (Enc.enc x).toArray) (.agg (Enc.enc y).toArray)).run Tryz.prog w = .ok (.bool (!(decide (x = y)))) w := by
  rcases x with ⟨_, ⟨_, _⟩, _, _⟩; rcases y with ⟨_, ⟨_, _⟩, _, _⟩
  simp [go_sem, Enc.enc, Bool.not_and]
  repeat' split
  all_goals simp_all
theorem eqg69 : Tryz.prog.eqGuardType Tryz.prog.depth 69 = false := by kernel_rfl
theorem eq69 (x y : Done) (w : World) : (binOp .eql 69 (.agg (Enc.enc x).toArray) (.agg (Enc.enc y).toArray)).run Tryz.prog w = .ok (.bool (decide (x = y))) w := by
  rcases x with ⟨_, _⟩; rcases y with ⟨_, _⟩
  simp [go_sem, Enc.enc]
  repeat' split
  all_goals simp_all
theorem ne69 (x y : Done) (w : World) : (binOp .neq 69 (.agg (Enc.enc x).toArray) (.agg (Enc.enc y).toArray)).run Tryz.prog w = .ok (.bool (!(decide (x = y)))) w := by
  rcases x with ⟨_, _⟩; rcases y with ⟨_, _⟩
  simp [go_sem, Enc.enc, Bool.not_and]
  repeat' split
  all_goals simp_all
theorem eqg87 : Tryz.prog.eqGuardType Tryz.prog.depth 87 = false := by kernel_rfl
theorem eq87 (x y : Cell) (w : World) : (binOp .eql 87 (.agg (Enc.enc x).toArray) (.agg (Enc.enc y).toArray)).run Tryz.prog w = .ok (.bool (decide (x = y))) w := by
  rcases x with ⟨_, _, _, _⟩; rcases y with ⟨_, _, _, _⟩
  simp [go_sem, Enc.enc]
  repeat' split
  all_goals simp_all
theorem ne87 (x y : Cell) (w : World) : (binOp .neq 87 (.agg (Enc.enc x).toArray) (.agg (Enc.enc y).toArray)).run Tryz.prog w = .ok (.bool (!(decide (x = y)))) w := by
  rcases x with ⟨_, _, _, _⟩; rcases y with ⟨_, _, _, _⟩
  simp [go_sem, Enc.enc, Bool.not_and]
  repeat' split
  all_goals simp_all
end Go.Proofs.YteljajfcppmeiaaGreat
