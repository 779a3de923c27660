/- What a reading of an argument tells of its cells, a theorem a type; no condition. -/
import Derived.Test.YtgoknbbdihbnlaaTypes
import Derived.ProofKit
namespace Go.Proofs.Ytgoknbbdihbnlaa
open Go Go.Proofs.Ytgoknbbdihbnlaa.X Go.Proofs
theorem ownk : ownKnob Try.prog.godebug = none := by kernel_rfl
theorem laidOut : laidOutB Try.prog = true := by kernel_rfl
theorem dec3 : Dec Try.prog 3 (fun _ cs (x : Int) => cs = Enc.enc x ∧ rg x) := Dec_int Try.underlying3
theorem cof3 : Try.prog.cellsOf 3 = 1 := by kernel_rfl
theorem cof43 : Try.prog.cellsOf 43 = 2 := by kernel_rfl
theorem dec43 : Dec Try.prog 43 (fun _ cs (x : Stamp) => cs = Enc.enc x ∧ okStamp x) := fun en w fuel cs x h => by
  obtain ⟨hl, n, hf⟩ := struct_cells Try.underlying43 h
  obtain ⟨_, h0⟩ := hf 0 _ 0 1 3 rfl rfl rfl cof3
  obtain ⟨y0, e0, k0⟩ := dec3 en w n _ _ h0
  obtain ⟨_, h1⟩ := hf 1 _ 1 1 3 rfl rfl rfl cof3
  obtain ⟨y1, e1, k1⟩ := dec3 en w n _ _ h1
  rw [cof43] at hl
  match cs, hl with
  | [c0, c1], _ =>
    simp [Enc.enc] at e0 e1
    subst e0
    subst e1
    exact ⟨⟨y0, y1⟩, rfl, k0, k1⟩
theorem cof45 : Try.prog.cellsOf 45 = 5 := by kernel_rfl
theorem dec45 : Dec Try.prog 45 (fun _ cs (x : Record) => cs = Enc.enc x ∧ okRecord x) := fun en w fuel cs x h => by
  obtain ⟨hl, n, hf⟩ := struct_cells Try.underlying45 h
  obtain ⟨_, h0⟩ := hf 0 _ 0 1 3 rfl rfl rfl cof3
  obtain ⟨y0, e0, k0⟩ := dec3 en w n _ _ h0
  obtain ⟨_, h1⟩ := hf 1 _ 1 2 43 rfl rfl rfl cof43
  obtain ⟨y1, e1, k1⟩ := dec43 en w n _ _ h1
  obtain ⟨_, h2⟩ := hf 2 _ 3 1 3 rfl rfl rfl cof3
  obtain ⟨y2, e2, k2⟩ := dec3 en w n _ _ h2
  obtain ⟨_, h3⟩ := hf 3 _ 4 1 3 rfl rfl rfl cof3
  obtain ⟨y3, e3, k3⟩ := dec3 en w n _ _ h3
  rw [cof45] at hl
  match cs, hl with
  | [c0, c1, c2, c3, c4], _ =>
    simp [Enc.enc] at e0 e1 e2 e3
    subst e0
    obtain ⟨rfl, rfl⟩ := e1
    subst e2
    subst e3
    exact ⟨⟨y0, y1, y2, y3⟩, rfl, k0, k1, k2, k3⟩
theorem dec22 : Dec Try.prog 22 (fun w cs (x : List Record) => (∃ v, cs = [v] ∧ RdL w 5 (fun cs (x : Record) => cs = Enc.enc x) v x) ∧ ∀ y ∈ x, okRecord y) := Dec_sliceO Try.underlying22 cof45 (by decide) dec45
theorem cof86 : Try.prog.cellsOf 86 = 4 := by kernel_rfl
theorem dec86 : Dec Try.prog 86 (fun _ cs (x : Cell) => cs = Enc.enc x ∧ okCell x) := fun en w fuel cs x h => by
  obtain ⟨hl, n, hf⟩ := struct_cells Try.underlying86 h
  obtain ⟨_, h0⟩ := hf 0 _ 0 1 3 rfl rfl rfl cof3
  obtain ⟨y0, e0, k0⟩ := dec3 en w n _ _ h0
  obtain ⟨_, h1⟩ := hf 1 _ 1 1 3 rfl rfl rfl cof3
  obtain ⟨y1, e1, k1⟩ := dec3 en w n _ _ h1
  obtain ⟨_, h2⟩ := hf 2 _ 2 1 3 rfl rfl rfl cof3
  obtain ⟨y2, e2, k2⟩ := dec3 en w n _ _ h2
  obtain ⟨_, h3⟩ := hf 3 _ 3 1 3 rfl rfl rfl cof3
  obtain ⟨y3, e3, k3⟩ := dec3 en w n _ _ h3
  rw [cof86] at hl
  match cs, hl with
  | [c0, c1, c2, c3], _ =>
    simp [Enc.enc] at e0 e1 e2 e3
    subst e0
    subst e1
    subst e2
    subst e3
    exact ⟨⟨y0, y1, y2, y3⟩, rfl, k0, k1, k2, k3⟩
theorem dec38 : Dec Try.prog 38 (fun w cs (x : List Cell) => (∃ v, cs = [v] ∧ RdL w 4 (fun cs (x : Cell) => cs = Enc.enc x) v x) ∧ ∀ y ∈ x, okCell y) := Dec_sliceO Try.underlying38 cof86 (by decide) dec86
theorem dec26 : Dec Try.prog 26 (fun w cs (x : List Int) => (∃ v, cs = [v] ∧ RdL w 1 (fun cs (x : Int) => cs = Enc.enc x) v x) ∧ ∀ y ∈ x, rg y) := Dec_sliceO Try.underlying26 cof3 (by decide) dec3
theorem dec4 : Dec Try.prog 4 (fun _ cs (x : Bool) => cs = Enc.enc x ∧ True) := Dec_bool Try.underlying4
theorem cof4 : Try.prog.cellsOf 4 = 1 := by kernel_rfl
theorem dec27 : Dec Try.prog 27 (fun w cs (x : List Bool) => (∃ v, cs = [v] ∧ RdL w 1 (fun cs (x : Bool) => cs = Enc.enc x) v x) ∧ ∀ y ∈ x, True) := Dec_sliceO Try.underlying27 cof4 (by decide) dec4
theorem cof88 : Try.prog.cellsOf 88 = 2 := by kernel_rfl
theorem dec88 : Dec Try.prog 88 (fun _ cs (x : Done) => cs = Enc.enc x ∧ okDone x) := fun en w fuel cs x h => by
  obtain ⟨hl, n, hf⟩ := struct_cells Try.underlying88 h
  obtain ⟨_, h0⟩ := hf 0 _ 0 1 3 rfl rfl rfl cof3
  obtain ⟨y0, e0, k0⟩ := dec3 en w n _ _ h0
  obtain ⟨_, h1⟩ := hf 1 _ 1 1 4 rfl rfl rfl cof4
  obtain ⟨y1, e1, k1⟩ := dec4 en w n _ _ h1
  rw [cof88] at hl
  match cs, hl with
  | [c0, c1], _ =>
    simp [Enc.enc] at e0 e1
    subst e0
    subst e1
    exact ⟨⟨y0, y1⟩, rfl, k0, k1⟩
theorem dec39 : Dec Try.prog 39 (fun w cs (x : List Done) => (∃ v, cs = [v] ∧ RdL w 2 (fun cs (x : Done) => cs = Enc.enc x) v x) ∧ ∀ y ∈ x, okDone y) := Dec_sliceO Try.underlying39 cof88 (by decide) dec88
theorem cof22 : Try.prog.cellsOf 22 = 1 := by kernel_rfl
theorem cof38 : Try.prog.cellsOf 38 = 1 := by kernel_rfl
theorem cof26 : Try.prog.cellsOf 26 = 1 := by kernel_rfl
theorem cof27 : Try.prog.cellsOf 27 = 1 := by kernel_rfl
theorem cof39 : Try.prog.cellsOf 39 = 1 := by kernel_rfl
theorem cof41 : Try.prog.cellsOf 41 = 8 := by kernel_rfl
theorem dec41 : Dec Try.prog 41 (fun w cs (x : Worker) => Dat.R w 0 w.heap.size cs x ∧ okWorker x) := fun en w fuel cs x h => by
  obtain ⟨hl, n, hf⟩ := struct_cells Try.underlying41 h
  obtain ⟨_, h0⟩ := hf 0 _ 0 1 22 rfl rfl rfl cof22
  obtain ⟨y0, ⟨o0, e0, r0⟩, k0⟩ := dec22 en w n _ _ h0
  obtain ⟨_, h1⟩ := hf 1 _ 1 1 22 rfl rfl rfl cof22
  obtain ⟨y1, ⟨o1, e1, r1⟩, k1⟩ := dec22 en w n _ _ h1
  obtain ⟨_, h2⟩ := hf 2 _ 2 1 22 rfl rfl rfl cof22
  obtain ⟨y2, ⟨o2, e2, r2⟩, k2⟩ := dec22 en w n _ _ h2
  obtain ⟨_, h3⟩ := hf 3 _ 3 1 38 rfl rfl rfl cof38
  obtain ⟨y3, ⟨o3, e3, r3⟩, k3⟩ := dec38 en w n _ _ h3
  obtain ⟨_, h4⟩ := hf 4 _ 4 1 26 rfl rfl rfl cof26
  obtain ⟨y4, ⟨o4, e4, r4⟩, k4⟩ := dec26 en w n _ _ h4
  obtain ⟨_, h5⟩ := hf 5 _ 5 1 27 rfl rfl rfl cof27
  obtain ⟨y5, ⟨o5, e5, r5⟩, k5⟩ := dec27 en w n _ _ h5
  obtain ⟨_, h6⟩ := hf 6 _ 6 1 27 rfl rfl rfl cof27
  obtain ⟨y6, ⟨o6, e6, r6⟩, k6⟩ := dec27 en w n _ _ h6
  obtain ⟨_, h7⟩ := hf 7 _ 7 1 39 rfl rfl rfl cof39
  obtain ⟨y7, ⟨o7, e7, r7⟩, k7⟩ := dec39 en w n _ _ h7
  rw [cof41] at hl
  match cs, hl with
  | [c0, c1, c2, c3, c4, c5, c6, c7], _ =>
    simp [Enc.enc] at e0 e1 e2 e3 e4 e5 e6 e7
    subst e0
    subst e1
    subst e2
    subst e3
    subst e4
    subst e5
    subst e6
    subst e7
    exact ⟨⟨y0, y1, y2, y3, y4, y5, y6, y7⟩, Worker.mkR ⟨y0, y1, y2, y3, y4, y5, y6, y7⟩ (RdS.rdD r0) (RdS.rdD r1) (RdS.rdD r2) (RdS.rdD r3) (RdS.rdD r4) (RdS.rdD r5) (RdS.rdD r6) (RdS.rdD r7), k0, k1, k2, k3, k4, k5, k6, k7⟩
end Go.Proofs.Ytgoknbbdihbnlaa
