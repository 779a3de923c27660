/- What is known of the types of the translated program; no condition. -/
import Derived.Test.YtpkimhbibjpcpaaDoorModel
import Derived.Test.YtpkimhbibjpcpaaDoorProg
namespace Go.Proofs.YtpkimhbibjpcpaaDoor
open Go Go.Proofs.YtpkimhbibjpcpaaDoor.X Go.Proofs
theorem mixed : Tryd.prog.follows .mixedOrders = true := by kernel_rfl
theorem st26 : StT Tryd.prog 26 4 [.int .i64 0, .int .i64 0, .int .i64 0, .slice none 0 0] := ⟨fun _ => by kernel_rfl, fun _ => by kernel_rfl, fun _ => by kernel_rfl⟩
theorem sc3 : ScT Tryd.prog 3 (.int .i64 0) := ⟨fun _ => by kernel_rfl, fun _ => by kernel_rfl, fun _ => by kernel_rfl, rfl⟩
theorem sc5 : ScT Tryd.prog 5 (.int .u8 0) := ⟨fun _ => by kernel_rfl, fun _ => by kernel_rfl, fun _ => by kernel_rfl, rfl⟩
theorem sc9 : ScT Tryd.prog 9 (.string ⟨#[]⟩) := ⟨fun _ => by kernel_rfl, fun _ => by kernel_rfl, fun _ => by kernel_rfl, rfl⟩
theorem sc22 : ScT Tryd.prog 22 (.slice none 0 0) := ⟨fun _ => by kernel_rfl, fun _ => by kernel_rfl, fun _ => by kernel_rfl, rfl⟩
theorem sc24 : ScT Tryd.prog 24 (.slice none 0 0) := ⟨fun _ => by kernel_rfl, fun _ => by kernel_rfl, fun _ => by kernel_rfl, rfl⟩
set_option maxRecDepth 20000 in
theorem sl22 : SlT Tryd.prog 22 5 1 1 [.int .u8 0] := ⟨Tryd.underlying22, ⟨Tryd.t5, _, Tryd.type5, rfl, rfl, rfl, rfl⟩, by decide, rfl⟩
set_option maxRecDepth 20000 in
theorem sl24 : SlT Tryd.prog 24 3 1 8 [.int .i64 0] := ⟨Tryd.underlying24, ⟨Tryd.t3, _, Tryd.type3, rfl, rfl, rfl, rfl⟩, by decide, rfl⟩
set_option maxRecDepth 20000 in
theorem sl45 : SlT Tryd.prog 45 9 1 16 [.string ⟨#[]⟩] := ⟨Tryd.underlying45, ⟨Tryd.t9, _, Tryd.type9, rfl, rfl, rfl, rfl⟩, by decide, rfl⟩
theorem fl26_0 : FldT Tryd.prog 26 0 0 := fun b o w => by simp [go_sem]
theorem fl26_1 : FldT Tryd.prog 26 1 1 := fun b o w => by simp [go_sem]
theorem fl26_2 : FldT Tryd.prog 26 2 2 := fun b o w => by simp [go_sem]
theorem fl26_3 : FldT Tryd.prog 26 3 3 := fun b o w => by simp [go_sem]
theorem fl47_0 : FldT Tryd.prog 47 0 0 := fun b o w => by simp [go_sem]
theorem fl47_1 : FldT Tryd.prog 47 1 1 := fun b o w => by simp [go_sem]
theorem fl47_2 : FldT Tryd.prog 47 2 2 := fun b o w => by simp [go_sem]
end Go.Proofs.YtpkimhbibjpcpaaDoor
