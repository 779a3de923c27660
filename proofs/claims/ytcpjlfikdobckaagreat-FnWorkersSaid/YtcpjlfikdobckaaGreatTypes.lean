/- What is known of the types of the translated program; no condition. -/
import Derived.Test.YtcpjlfikdobckaaGreatModel
import Derived.Test.YtcpjlfikdobckaaGreatProg
namespace Go.Proofs.YtcpjlfikdobckaaGreat
open Go Go.Proofs.YtcpjlfikdobckaaGreat.X Go.Proofs
theorem Z {α : Sort _} {a : α} : a = a := rfl
theorem Xd : Tryz.prog.follows .mixedOrders = true := by kernel_rfl
theorem Xz : StT Tryz.prog 26 3 [.slice none 0 0, .int .i64 0, .int .i64 0] := ⟨fun _ => by kernel_rfl, fun _ => by kernel_rfl, fun _ => by kernel_rfl⟩
theorem Yh : StT Tryz.prog 33 8 [.slice none 0 0, .slice none 0 0, .slice none 0 0, .slice none 0 0, .slice none 0 0, .slice none 0 0, .slice none 0 0, .slice none 0 0] := ⟨fun _ => by kernel_rfl, fun _ => by kernel_rfl, fun _ => by kernel_rfl⟩
theorem Xs : StT Tryz.prog 53 2 [.int .i64 0, .int .i64 0] := ⟨fun _ => by kernel_rfl, fun _ => by kernel_rfl, fun _ => by kernel_rfl⟩
theorem Xq : StT Tryz.prog 55 5 [.int .i64 0, .int .i64 0, .int .i64 0, .int .i64 0, .int .i64 0] := ⟨fun _ => by kernel_rfl, fun _ => by kernel_rfl, fun _ => by kernel_rfl⟩
theorem st58 : StT Tryz.prog 58 2 [.int .i64 0, .bool false] := ⟨fun _ => by kernel_rfl, fun _ => by kernel_rfl, fun _ => by kernel_rfl⟩
theorem st61 : StT Tryz.prog 61 3 [.int .i64 0, .int .i64 0, .int .i64 0] := ⟨fun _ => by kernel_rfl, fun _ => by kernel_rfl, fun _ => by kernel_rfl⟩
theorem Vx : StT Tryz.prog 76 4 [.int .i64 0, .int .i64 0, .int .i64 0, .int .i64 0] := ⟨fun _ => by kernel_rfl, fun _ => by kernel_rfl, fun _ => by kernel_rfl⟩
theorem K9 : StT Tryz.prog 91 4 [.int .i64 0, .int .i64 0, .int .i64 0, .slice none 0 0] := ⟨fun _ => by kernel_rfl, fun _ => by kernel_rfl, fun _ => by kernel_rfl⟩
theorem Xi : ScT Tryz.prog 3 (.int .i64 0) := ⟨fun _ => by kernel_rfl, fun _ => by kernel_rfl, fun _ => by kernel_rfl, rfl⟩
theorem sc4 : ScT Tryz.prog 4 (.bool false) := ⟨fun _ => by kernel_rfl, fun _ => by kernel_rfl, fun _ => by kernel_rfl, rfl⟩
theorem sc5 : ScT Tryz.prog 5 (.int .u8 0) := ⟨fun _ => by kernel_rfl, fun _ => by kernel_rfl, fun _ => by kernel_rfl, rfl⟩
theorem sc22 : ScT Tryz.prog 22 (.slice none 0 0) := ⟨fun _ => by kernel_rfl, fun _ => by kernel_rfl, fun _ => by kernel_rfl, rfl⟩
theorem G8 : ScT Tryz.prog 24 (.slice none 0 0) := ⟨fun _ => by kernel_rfl, fun _ => by kernel_rfl, fun _ => by kernel_rfl, rfl⟩
theorem Xv : ScT Tryz.prog 27 (.slice none 0 0) := ⟨fun _ => by kernel_rfl, fun _ => by kernel_rfl, fun _ => by kernel_rfl, rfl⟩
theorem C9 : ScT Tryz.prog 28 (.slice none 0 0) := ⟨fun _ => by kernel_rfl, fun _ => by kernel_rfl, fun _ => by kernel_rfl, rfl⟩
theorem Uc : ScT Tryz.prog 29 (.slice none 0 0) := ⟨fun _ => by kernel_rfl, fun _ => by kernel_rfl, fun _ => by kernel_rfl, rfl⟩
theorem Gz : ScT Tryz.prog 30 (.slice none 0 0) := ⟨fun _ => by kernel_rfl, fun _ => by kernel_rfl, fun _ => by kernel_rfl, rfl⟩
theorem Hh : ScT Tryz.prog 31 (.slice none 0 0) := ⟨fun _ => by kernel_rfl, fun _ => by kernel_rfl, fun _ => by kernel_rfl, rfl⟩
set_option maxRecDepth 20000 in
theorem sl22 : SlT Tryz.prog 22 5 1 1 [.int .u8 0] := ⟨Tryz.underlying22, ⟨Tryz.t5, _, Tryz.type5, rfl, rfl, rfl, rfl⟩, by decide, rfl⟩
set_option maxRecDepth 20000 in
theorem A3 : SlT Tryz.prog 24 91 4 48 [.int .i64 0, .int .i64 0, .int .i64 0, .slice none 0 0] := ⟨Tryz.underlying24, ⟨Tryz.t91, _, Tryz.type91, rfl, rfl, rfl, rfl⟩, by decide, rfl⟩
set_option maxRecDepth 20000 in
theorem Xp : SlT Tryz.prog 27 55 5 40 [.int .i64 0, .int .i64 0, .int .i64 0, .int .i64 0, .int .i64 0] := ⟨Tryz.underlying27, ⟨Tryz.t55, _, Tryz.type55, rfl, rfl, rfl, rfl⟩, by decide, rfl⟩
set_option maxRecDepth 20000 in
theorem K3 : SlT Tryz.prog 28 76 4 32 [.int .i64 0, .int .i64 0, .int .i64 0, .int .i64 0] := ⟨Tryz.underlying28, ⟨Tryz.t76, _, Tryz.type76, rfl, rfl, rfl, rfl⟩, by decide, rfl⟩
set_option maxRecDepth 20000 in
theorem Kd : SlT Tryz.prog 29 3 1 8 [.int .i64 0] := ⟨Tryz.underlying29, ⟨Tryz.t3, _, Tryz.type3, rfl, rfl, rfl, rfl⟩, by decide, rfl⟩
set_option maxRecDepth 20000 in
theorem H2 : SlT Tryz.prog 30 4 1 1 [.bool false] := ⟨Tryz.underlying30, ⟨Tryz.t4, _, Tryz.type4, rfl, rfl, rfl, rfl⟩, by decide, rfl⟩
set_option maxRecDepth 20000 in
theorem H1 : SlT Tryz.prog 31 58 2 16 [.int .i64 0, .bool false] := ⟨Tryz.underlying31, ⟨Tryz.t58, _, Tryz.type58, rfl, rfl, rfl, rfl⟩, by decide, rfl⟩
set_option maxRecDepth 20000 in
theorem Uz : SlT Tryz.prog 38 61 3 24 [.int .i64 0, .int .i64 0, .int .i64 0] := ⟨Tryz.underlying38, ⟨Tryz.t61, _, Tryz.type61, rfl, rfl, rfl, rfl⟩, by decide, rfl⟩
theorem Uj : Ux Tryz.prog 26 0 0 := fun b o w => by simp [go_sem]
theorem fl26_1 : Ux Tryz.prog 26 1 1 := fun b o w => by simp [go_sem]
theorem fl26_2 : Ux Tryz.prog 26 2 2 := fun b o w => by simp [go_sem]
theorem Kf : Ux Tryz.prog 33 0 0 := fun b o w => by simp [go_sem]
theorem Ui : Ux Tryz.prog 33 1 1 := fun b o w => by simp [go_sem]
theorem X5 : Ux Tryz.prog 33 2 2 := fun b o w => by simp [go_sem]
theorem V5 : Ux Tryz.prog 33 3 3 := fun b o w => by simp [go_sem]
theorem Un : Ux Tryz.prog 33 4 4 := fun b o w => by simp [go_sem]
theorem V4 : Ux Tryz.prog 33 5 5 := fun b o w => by simp [go_sem]
theorem Hl : Ux Tryz.prog 33 6 6 := fun b o w => by simp [go_sem]
theorem Um : Ux Tryz.prog 33 7 7 := fun b o w => by simp [go_sem]
theorem Uh : Ux Tryz.prog 53 0 0 := fun b o w => by simp [go_sem]
theorem U8 : Ux Tryz.prog 53 1 1 := fun b o w => by simp [go_sem]
theorem Ve : Ux Tryz.prog 55 0 0 := fun b o w => by simp [go_sem]
theorem X4 : Ux Tryz.prog 55 1 1 := fun b o w => by simp [go_sem]
theorem Th : Ux Tryz.prog 55 2 3 := fun b o w => by simp [go_sem]
theorem Tg : Ux Tryz.prog 55 3 4 := fun b o w => by simp [go_sem]
theorem Tf : Ux Tryz.prog 58 0 0 := fun b o w => by simp [go_sem]
theorem Hk : Ux Tryz.prog 61 0 0 := fun b o w => by simp [go_sem]
theorem Ap : Ux Tryz.prog 61 1 2 := fun b o w => by simp [go_sem]
theorem V3 : Ux Tryz.prog 76 0 0 := fun b o w => by simp [go_sem]
theorem V2 : Ux Tryz.prog 76 1 1 := fun b o w => by simp [go_sem]
theorem V1 : Ux Tryz.prog 76 2 2 := fun b o w => by simp [go_sem]
theorem Hj : Ux Tryz.prog 76 3 3 := fun b o w => by simp [go_sem]
theorem fl89_0 : Ux Tryz.prog 89 0 0 := fun b o w => by simp [go_sem]
theorem fl89_1 : Ux Tryz.prog 89 1 1 := fun b o w => by simp [go_sem]
theorem fl89_2 : Ux Tryz.prog 89 2 2 := fun b o w => by simp [go_sem]
theorem Uw : Ux Tryz.prog 91 0 0 := fun b o w => by simp [go_sem]
theorem Hi : Ux Tryz.prog 91 1 1 := fun b o w => by simp [go_sem]
theorem fl91_2 : Ux Tryz.prog 91 2 2 := fun b o w => by simp [go_sem]
theorem Ky : Ux Tryz.prog 91 3 3 := fun b o w => by simp [go_sem]
theorem eqg53 : Tryz.prog.eqGuardType Tryz.prog.depth 53 = false := by kernel_rfl
theorem eq53 (x y : Stamp) (w : World) : (binOp .eql 53 (.agg (Enc.enc x).toArray) (.agg (Enc.enc y).toArray)).run Tryz.prog w = .ok (.bool (decide (x = y))) w := by
  rcases x with ⟨_, _⟩; rcases y with ⟨_, _⟩
  simp [go_sem, Enc.enc]
  repeat' split
  all_goals simp_all
theorem ne53 (x y : Stamp) (w : World) : (binOp .neq 53 (.agg (Enc.enc x).toArray) (.agg (Enc.enc y).toArray)).run Tryz.prog w = .ok (.bool (!(decide (x = y)))) w := by
  rcases x with ⟨_, _⟩; rcases y with ⟨_, _⟩
  simp [go_sem, Enc.enc, Bool.not_and]
  repeat' split
  all_goals simp_all
theorem eqg55 : Tryz.prog.eqGuardType Tryz.prog.depth 55 = false := by kernel_rfl
theorem eq55 (x y : Record) (w : World) : (binOp .eql 55 (.agg (Enc.enc x).toArray) (.agg (Enc.enc y).toArray)).run Tryz.prog w = .ok (.bool (decide (x = y))) w := by
  rcases x with ⟨_, ⟨_, _⟩, _, _⟩; rcases y with ⟨_, ⟨_, _⟩, _, _⟩
  simp [go_sem, Enc.enc]
  repeat' split
  all_goals simp_all
theorem ne55 (x y : Record) (w : World) : (binOp .neq 55 (.agg (Enc.enc x).toArray) (.agg (Enc.enc y).toArray)).run Tryz.prog w = .ok (.bool (!(decide (x = y)))) w := by
  rcases x with ⟨_, ⟨_, _⟩, _, _⟩; rcases y with ⟨_, ⟨_, _⟩, _, _⟩
  simp [go_sem, Enc.enc, Bool.not_and]
  repeat' split
  all_goals simp_all
theorem eqg58 : Tryz.prog.eqGuardType Tryz.prog.depth 58 = false := by kernel_rfl
theorem eq58 (x y : Done) (w : World) : (binOp .eql 58 (.agg (Enc.enc x).toArray) (.agg (Enc.enc y).toArray)).run Tryz.prog w = .ok (.bool (decide (x = y))) w := by
  rcases x with ⟨_, _⟩; rcases y with ⟨_, _⟩
  simp [go_sem, Enc.enc]
  repeat' split
  all_goals simp_all
theorem ne58 (x y : Done) (w : World) : (binOp .neq 58 (.agg (Enc.enc x).toArray) (.agg (Enc.enc y).toArray)).run Tryz.prog w = .ok (.bool (!(decide (x = y)))) w := by
  rcases x with ⟨_, _⟩; rcases y with ⟨_, _⟩
  simp [go_sem, Enc.enc, Bool.not_and]
  repeat' split
  all_goals simp_all
theorem eqg61 : Tryz.prog.eqGuardType Tryz.prog.depth 61 = false := by kernel_rfl
theorem eq61 (x y : Count) (w : World) : (binOp .eql 61 (.agg (Enc.enc x).toArray) (.agg (Enc.enc y).toArray)).run Tryz.prog w = .ok (.bool (decide (x = y))) w := by
  rcases x with ⟨⟨_, _⟩, _⟩; rcases y with ⟨⟨_, _⟩, _⟩
  simp [go_sem, Enc.enc]
  repeat' split
  all_goals simp_all
theorem ne61 (x y : Count) (w : World) : (binOp .neq 61 (.agg (Enc.enc x).toArray) (.agg (Enc.enc y).toArray)).run Tryz.prog w = .ok (.bool (!(decide (x = y)))) w := by
  rcases x with ⟨⟨_, _⟩, _⟩; rcases y with ⟨⟨_, _⟩, _⟩
  simp [go_sem, Enc.enc, Bool.not_and]
  repeat' split
  all_goals simp_all
theorem eqg76 : Tryz.prog.eqGuardType Tryz.prog.depth 76 = false := by kernel_rfl
theorem eq76 (x y : Cell) (w : World) : (binOp .eql 76 (.agg (Enc.enc x).toArray) (.agg (Enc.enc y).toArray)).run Tryz.prog w = .ok (.bool (decide (x = y))) w := by
  rcases x with ⟨_, _, _, _⟩; rcases y with ⟨_, _, _, _⟩
  simp [go_sem, Enc.enc]
  repeat' split
  all_goals simp_all
theorem ne76 (x y : Cell) (w : World) : (binOp .neq 76 (.agg (Enc.enc x).toArray) (.agg (Enc.enc y).toArray)).run Tryz.prog w = .ok (.bool (!(decide (x = y)))) w := by
  rcases x with ⟨_, _, _, _⟩; rcases y with ⟨_, _, _, _⟩
  simp [go_sem, Enc.enc, Bool.not_and]
  repeat' split
  all_goals simp_all
end Go.Proofs.YtcpjlfikdobckaaGreat
