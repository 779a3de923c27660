/- What is known of the types of the translated program; no condition. -/
import Derived.Test.YtdmngeljbhlgmaaModel
import Derived.Test.YtdmngeljbhlgmaaProg
namespace Go.Proofs.Ytdmngeljbhlgmaa
open Go Go.Proofs.Ytdmngeljbhlgmaa.X Go.Proofs
theorem mixed : Try.prog.follows .mixedOrders = true := by kernel_rfl
theorem st26 : StT Try.prog 26 3 [.slice none 0 0, .int .i64 0, .int .i64 0] := ⟨fun _ => by kernel_rfl, fun _ => by kernel_rfl, fun _ => by kernel_rfl⟩
theorem st37 : StT Try.prog 37 4 [.int .i64 0, .int .i64 0, .int .i64 0, .slice none 0 0] := ⟨fun _ => by kernel_rfl, fun _ => by kernel_rfl, fun _ => by kernel_rfl⟩
theorem sc3 : ScT Try.prog 3 (.int .i64 0) := ⟨fun _ => by kernel_rfl, fun _ => by kernel_rfl, fun _ => by kernel_rfl, rfl⟩
theorem sc5 : ScT Try.prog 5 (.int .u8 0) := ⟨fun _ => by kernel_rfl, fun _ => by kernel_rfl, fun _ => by kernel_rfl, rfl⟩
theorem sc22 : ScT Try.prog 22 (.slice none 0 0) := ⟨fun _ => by kernel_rfl, fun _ => by kernel_rfl, fun _ => by kernel_rfl, rfl⟩
theorem sc24 : ScT Try.prog 24 (.slice none 0 0) := ⟨fun _ => by kernel_rfl, fun _ => by kernel_rfl, fun _ => by kernel_rfl, rfl⟩
theorem sc30 : ScT Try.prog 30 (.slice none 0 0) := ⟨fun _ => by kernel_rfl, fun _ => by kernel_rfl, fun _ => by kernel_rfl, rfl⟩
set_option maxRecDepth 20000 in
theorem sl22 : SlT Try.prog 22 5 1 1 [.int .u8 0] := ⟨Try.underlying22, ⟨Try.t5, _, Try.type5, rfl, rfl, rfl, rfl⟩, by decide, rfl⟩
set_option maxRecDepth 20000 in
theorem sl24 : SlT Try.prog 24 37 4 48 [.int .i64 0, .int .i64 0, .int .i64 0, .slice none 0 0] := ⟨Try.underlying24, ⟨Try.t37, _, Try.type37, rfl, rfl, rfl, rfl⟩, by decide, rfl⟩
set_option maxRecDepth 20000 in
theorem sl30 : SlT Try.prog 30 3 1 8 [.int .i64 0] := ⟨Try.underlying30, ⟨Try.t3, _, Try.type3, rfl, rfl, rfl, rfl⟩, by decide, rfl⟩
theorem fl26_0 : FldT Try.prog 26 0 0 := fun b o w => by simp [go_sem]
theorem fl26_1 : FldT Try.prog 26 1 1 := fun b o w => by simp [go_sem]
theorem fl26_2 : FldT Try.prog 26 2 2 := fun b o w => by simp [go_sem]
theorem fl37_0 : FldT Try.prog 37 0 0 := fun b o w => by simp [go_sem]
theorem fl37_1 : FldT Try.prog 37 1 1 := fun b o w => by simp [go_sem]
theorem fl37_2 : FldT Try.prog 37 2 2 := fun b o w => by simp [go_sem]
theorem fl37_3 : FldT Try.prog 37 3 3 := fun b o w => by simp [go_sem]
theorem fl102_0 : FldT Try.prog 102 0 0 := fun b o w => by simp [go_sem]
theorem fl102_1 : FldT Try.prog 102 1 1 := fun b o w => by simp [go_sem]
theorem fl102_2 : FldT Try.prog 102 2 2 := fun b o w => by simp [go_sem]
end Go.Proofs.Ytdmngeljbhlgmaa
