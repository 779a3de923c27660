/- What a reading of an argument tells of its cells, a theorem a type; no condition. -/
import Derived.Test.YtlpimnkndeoanaaTypes
import Derived.ProofKit
namespace Go.Proofs.Ytlpimnkndeoanaa
open Go Go.Proofs.Ytlpimnkndeoanaa.X Go.Proofs
theorem ownk : ownKnob Try.prog.godebug = none := by kernel_rfl
theorem laidOut : laidOutB Try.prog = true := by kernel_rfl
theorem dec3 : Dec Try.prog 3 (fun _ cs (x : Int) => cs = Enc.enc x ∧ rg x) := Dec_int Try.underlying3
theorem cof3 : Try.prog.cellsOf 3 = 1 := by kernel_rfl
theorem cof55 : Try.prog.cellsOf 55 = 2 := by kernel_rfl
theorem dec55 : Dec Try.prog 55 (fun _ cs (x : Stamp) => cs = Enc.enc x ∧ okStamp x) := fun en w fuel cs x h => by
  obtain ⟨hl, n, hf⟩ := struct_cells Try.underlying55 h
  obtain ⟨_, h0⟩ := hf 0 _ 0 1 3 rfl rfl rfl cof3
  obtain ⟨y0, e0, k0⟩ := dec3 en w n _ _ h0
  obtain ⟨_, h1⟩ := hf 1 _ 1 1 3 rfl rfl rfl cof3
  obtain ⟨y1, e1, k1⟩ := dec3 en w n _ _ h1
  rw [cof55] at hl
  match cs, hl with
  | [c0, c1], _ =>
    simp [Enc.enc] at e0 e1
    subst e0
    subst e1
    exact ⟨⟨y0, y1⟩, rfl, k0, k1⟩
theorem cof57 : Try.prog.cellsOf 57 = 5 := by kernel_rfl
theorem dec57 : Dec Try.prog 57 (fun _ cs (x : Record) => cs = Enc.enc x ∧ okRecord x) := fun en w fuel cs x h => by
  obtain ⟨hl, n, hf⟩ := struct_cells Try.underlying57 h
  obtain ⟨_, h0⟩ := hf 0 _ 0 1 3 rfl rfl rfl cof3
  obtain ⟨y0, e0, k0⟩ := dec3 en w n _ _ h0
  obtain ⟨_, h1⟩ := hf 1 _ 1 2 55 rfl rfl rfl cof55
  obtain ⟨y1, e1, k1⟩ := dec55 en w n _ _ h1
  obtain ⟨_, h2⟩ := hf 2 _ 3 1 3 rfl rfl rfl cof3
  obtain ⟨y2, e2, k2⟩ := dec3 en w n _ _ h2
  obtain ⟨_, h3⟩ := hf 3 _ 4 1 3 rfl rfl rfl cof3
  obtain ⟨y3, e3, k3⟩ := dec3 en w n _ _ h3
  rw [cof57] at hl
  match cs, hl with
  | [c0, c1, c2, c3, c4], _ =>
    simp [Enc.enc] at e0 e1 e2 e3
    subst e0
    obtain ⟨rfl, rfl⟩ := e1
    subst e2
    subst e3
    exact ⟨⟨y0, y1, y2, y3⟩, rfl, k0, k1, k2, k3⟩
theorem dec65 : Dec Try.prog 65 (fun w cs (x : List Record) => (∃ v, cs = [v] ∧ RdL w 5 (fun cs (x : Record) => cs = Enc.enc x) v x) ∧ ∀ y ∈ x, okRecord y) := Dec_sliceO Try.underlying65 cof57 (by decide) dec57
theorem cof80 : Try.prog.cellsOf 80 = 4 := by kernel_rfl
theorem dec80 : Dec Try.prog 80 (fun _ cs (x : Cell) => cs = Enc.enc x ∧ okCell x) := fun en w fuel cs x h => by
  obtain ⟨hl, n, hf⟩ := struct_cells Try.underlying80 h
  obtain ⟨_, h0⟩ := hf 0 _ 0 1 3 rfl rfl rfl cof3
  obtain ⟨y0, e0, k0⟩ := dec3 en w n _ _ h0
  obtain ⟨_, h1⟩ := hf 1 _ 1 1 3 rfl rfl rfl cof3
  obtain ⟨y1, e1, k1⟩ := dec3 en w n _ _ h1
  obtain ⟨_, h2⟩ := hf 2 _ 2 1 3 rfl rfl rfl cof3
  obtain ⟨y2, e2, k2⟩ := dec3 en w n _ _ h2
  obtain ⟨_, h3⟩ := hf 3 _ 3 1 3 rfl rfl rfl cof3
  obtain ⟨y3, e3, k3⟩ := dec3 en w n _ _ h3
  rw [cof80] at hl
  match cs, hl with
  | [c0, c1, c2, c3], _ =>
    simp [Enc.enc] at e0 e1 e2 e3
    subst e0
    subst e1
    subst e2
    subst e3
    exact ⟨⟨y0, y1, y2, y3⟩, rfl, k0, k1, k2, k3⟩
theorem dec44 : Dec Try.prog 44 (fun w cs (x : List Cell) => (∃ v, cs = [v] ∧ RdL w 4 (fun cs (x : Cell) => cs = Enc.enc x) v x) ∧ ∀ y ∈ x, okCell y) := Dec_sliceO Try.underlying44 cof80 (by decide) dec80
theorem dec26 : Dec Try.prog 26 (fun w cs (x : List Int) => (∃ v, cs = [v] ∧ RdL w 1 (fun cs (x : Int) => cs = Enc.enc x) v x) ∧ ∀ y ∈ x, rg y) := Dec_sliceO Try.underlying26 cof3 (by decide) dec3
theorem dec4 : Dec Try.prog 4 (fun _ cs (x : Bool) => cs = Enc.enc x ∧ True) := Dec_bool Try.underlying4
theorem cof4 : Try.prog.cellsOf 4 = 1 := by kernel_rfl
theorem dec66 : Dec Try.prog 66 (fun w cs (x : List Bool) => (∃ v, cs = [v] ∧ RdL w 1 (fun cs (x : Bool) => cs = Enc.enc x) v x) ∧ ∀ y ∈ x, True) := Dec_sliceO Try.underlying66 cof4 (by decide) dec4
theorem cof185 : Try.prog.cellsOf 185 = 2 := by kernel_rfl
theorem dec185 : Dec Try.prog 185 (fun _ cs (x : Done) => cs = Enc.enc x ∧ okDone x) := fun en w fuel cs x h => by
  obtain ⟨hl, n, hf⟩ := struct_cells Try.underlying185 h
  obtain ⟨_, h0⟩ := hf 0 _ 0 1 3 rfl rfl rfl cof3
  obtain ⟨y0, e0, k0⟩ := dec3 en w n _ _ h0
  obtain ⟨_, h1⟩ := hf 1 _ 1 1 4 rfl rfl rfl cof4
  obtain ⟨y1, e1, k1⟩ := dec4 en w n _ _ h1
  rw [cof185] at hl
  match cs, hl with
  | [c0, c1], _ =>
    simp [Enc.enc] at e0 e1
    subst e0
    subst e1
    exact ⟨⟨y0, y1⟩, rfl, k0, k1⟩
theorem dec67 : Dec Try.prog 67 (fun w cs (x : List Done) => (∃ v, cs = [v] ∧ RdL w 2 (fun cs (x : Done) => cs = Enc.enc x) v x) ∧ ∀ y ∈ x, okDone y) := Dec_sliceO Try.underlying67 cof185 (by decide) dec185
theorem cof65 : Try.prog.cellsOf 65 = 1 := by kernel_rfl
theorem cof44 : Try.prog.cellsOf 44 = 1 := by kernel_rfl
theorem cof26 : Try.prog.cellsOf 26 = 1 := by kernel_rfl
theorem cof66 : Try.prog.cellsOf 66 = 1 := by kernel_rfl
theorem cof67 : Try.prog.cellsOf 67 = 1 := by kernel_rfl
theorem cof69 : Try.prog.cellsOf 69 = 8 := by kernel_rfl
theorem dec69 : Dec Try.prog 69 (fun w cs (x : Worker) => Dat.R w 0 w.heap.size cs x ∧ okWorker x) := fun en w fuel cs x h => by
  obtain ⟨hl, n, hf⟩ := struct_cells Try.underlying69 h
  obtain ⟨_, h0⟩ := hf 0 _ 0 1 65 rfl rfl rfl cof65
  obtain ⟨y0, ⟨o0, e0, r0⟩, k0⟩ := dec65 en w n _ _ h0
  obtain ⟨_, h1⟩ := hf 1 _ 1 1 65 rfl rfl rfl cof65
  obtain ⟨y1, ⟨o1, e1, r1⟩, k1⟩ := dec65 en w n _ _ h1
  obtain ⟨_, h2⟩ := hf 2 _ 2 1 65 rfl rfl rfl cof65
  obtain ⟨y2, ⟨o2, e2, r2⟩, k2⟩ := dec65 en w n _ _ h2
  obtain ⟨_, h3⟩ := hf 3 _ 3 1 44 rfl rfl rfl cof44
  obtain ⟨y3, ⟨o3, e3, r3⟩, k3⟩ := dec44 en w n _ _ h3
  obtain ⟨_, h4⟩ := hf 4 _ 4 1 26 rfl rfl rfl cof26
  obtain ⟨y4, ⟨o4, e4, r4⟩, k4⟩ := dec26 en w n _ _ h4
  obtain ⟨_, h5⟩ := hf 5 _ 5 1 66 rfl rfl rfl cof66
  obtain ⟨y5, ⟨o5, e5, r5⟩, k5⟩ := dec66 en w n _ _ h5
  obtain ⟨_, h6⟩ := hf 6 _ 6 1 66 rfl rfl rfl cof66
  obtain ⟨y6, ⟨o6, e6, r6⟩, k6⟩ := dec66 en w n _ _ h6
  obtain ⟨_, h7⟩ := hf 7 _ 7 1 67 rfl rfl rfl cof67
  obtain ⟨y7, ⟨o7, e7, r7⟩, k7⟩ := dec67 en w n _ _ h7
  rw [cof69] at hl
  match cs, hl with
  | [c0, c1, c2, c3, c4, c5, c6, c7], _ =>
    simp [Enc.enc] at e0 e1 e2 e3 e4 e5 e6 e7
    subst e0
    subst e1
    subst e2
    subst e3
    subst e4
    subst e5
    subst e6
    subst e7
    exact ⟨⟨y0, y1, y2, y3, y4, y5, y6, y7⟩, Worker.mkR ⟨y0, y1, y2, y3, y4, y5, y6, y7⟩ (RdS.rdD r0) (RdS.rdD r1) (RdS.rdD r2) (RdS.rdD r3) (RdS.rdD r4) (RdS.rdD r5) (RdS.rdD r6) (RdS.rdD r7), k0, k1, k2, k3, k4, k5, k6, k7⟩
end Go.Proofs.Ytlpimnkndeoanaa
