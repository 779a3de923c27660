/- What a reading of an argument tells of its cells, a theorem a type; no condition. -/
import Derived.Test.YtcpjlfikdobckaaTypes
import Derived.ProofKit
namespace Go.Proofs.Ytcpjlfikdobckaa
open Go Go.Proofs.Ytcpjlfikdobckaa.X Go.Proofs
theorem ownk : ownKnob Try.prog.godebug = none := by kernel_rfl
theorem laidOut : laidOutB Try.prog = true := by kernel_rfl
theorem dec3 : Dec Try.prog 3 (fun _ cs (x : Int) => cs = Enc.enc x ∧ rg x) := Dec_int Try.underlying3
theorem cof3 : Try.prog.cellsOf 3 = 1 := by kernel_rfl
theorem cof73 : Try.prog.cellsOf 73 = 2 := by kernel_rfl
theorem dec73 : Dec Try.prog 73 (fun _ cs (x : Stamp) => cs = Enc.enc x ∧ okStamp x) := fun en w fuel cs x h => by
  obtain ⟨hl, n, hf⟩ := struct_cells Try.underlying73 h
  obtain ⟨_, h0⟩ := hf 0 _ 0 1 3 rfl rfl rfl cof3
  obtain ⟨y0, e0, k0⟩ := dec3 en w n _ _ h0
  obtain ⟨_, h1⟩ := hf 1 _ 1 1 3 rfl rfl rfl cof3
  obtain ⟨y1, e1, k1⟩ := dec3 en w n _ _ h1
  rw [cof73] at hl
  match cs, hl with
  | [c0, c1], _ =>
    simp [Enc.enc] at e0 e1
    subst e0
    subst e1
    exact ⟨⟨y0, y1⟩, rfl, k0, k1⟩
theorem cof75 : Try.prog.cellsOf 75 = 5 := by kernel_rfl
theorem dec75 : Dec Try.prog 75 (fun _ cs (x : Record) => cs = Enc.enc x ∧ okRecord x) := fun en w fuel cs x h => by
  obtain ⟨hl, n, hf⟩ := struct_cells Try.underlying75 h
  obtain ⟨_, h0⟩ := hf 0 _ 0 1 3 rfl rfl rfl cof3
  obtain ⟨y0, e0, k0⟩ := dec3 en w n _ _ h0
  obtain ⟨_, h1⟩ := hf 1 _ 1 2 73 rfl rfl rfl cof73
  obtain ⟨y1, e1, k1⟩ := dec73 en w n _ _ h1
  obtain ⟨_, h2⟩ := hf 2 _ 3 1 3 rfl rfl rfl cof3
  obtain ⟨y2, e2, k2⟩ := dec3 en w n _ _ h2
  obtain ⟨_, h3⟩ := hf 3 _ 4 1 3 rfl rfl rfl cof3
  obtain ⟨y3, e3, k3⟩ := dec3 en w n _ _ h3
  rw [cof75] at hl
  match cs, hl with
  | [c0, c1, c2, c3, c4], _ =>
    simp [Enc.enc] at e0 e1 e2 e3
    subst e0
    obtain ⟨rfl, rfl⟩ := e1
    subst e2
    subst e3
    exact ⟨⟨y0, y1, y2, y3⟩, rfl, k0, k1, k2, k3⟩
theorem dec22 : Dec Try.prog 22 (fun w cs (x : List Record) => (∃ v, cs = [v] ∧ RdL w 5 (fun cs (x : Record) => cs = Enc.enc x) v x) ∧ ∀ y ∈ x, okRecord y) := Dec_sliceO Try.underlying22 cof75 (by decide) dec75
theorem cof79 : Try.prog.cellsOf 79 = 4 := by kernel_rfl
theorem dec79 : Dec Try.prog 79 (fun _ cs (x : Cell) => cs = Enc.enc x ∧ okCell x) := fun en w fuel cs x h => by
  obtain ⟨hl, n, hf⟩ := struct_cells Try.underlying79 h
  obtain ⟨_, h0⟩ := hf 0 _ 0 1 3 rfl rfl rfl cof3
  obtain ⟨y0, e0, k0⟩ := dec3 en w n _ _ h0
  obtain ⟨_, h1⟩ := hf 1 _ 1 1 3 rfl rfl rfl cof3
  obtain ⟨y1, e1, k1⟩ := dec3 en w n _ _ h1
  obtain ⟨_, h2⟩ := hf 2 _ 2 1 3 rfl rfl rfl cof3
  obtain ⟨y2, e2, k2⟩ := dec3 en w n _ _ h2
  obtain ⟨_, h3⟩ := hf 3 _ 3 1 3 rfl rfl rfl cof3
  obtain ⟨y3, e3, k3⟩ := dec3 en w n _ _ h3
  rw [cof79] at hl
  match cs, hl with
  | [c0, c1, c2, c3], _ =>
    simp [Enc.enc] at e0 e1 e2 e3
    subst e0
    subst e1
    subst e2
    subst e3
    exact ⟨⟨y0, y1, y2, y3⟩, rfl, k0, k1, k2, k3⟩
theorem dec23 : Dec Try.prog 23 (fun w cs (x : List Cell) => (∃ v, cs = [v] ∧ RdL w 4 (fun cs (x : Cell) => cs = Enc.enc x) v x) ∧ ∀ y ∈ x, okCell y) := Dec_sliceO Try.underlying23 cof79 (by decide) dec79
theorem dec24 : Dec Try.prog 24 (fun w cs (x : List Int) => (∃ v, cs = [v] ∧ RdL w 1 (fun cs (x : Int) => cs = Enc.enc x) v x) ∧ ∀ y ∈ x, rg y) := Dec_sliceO Try.underlying24 cof3 (by decide) dec3
theorem dec4 : Dec Try.prog 4 (fun _ cs (x : Bool) => cs = Enc.enc x ∧ True) := Dec_bool Try.underlying4
theorem cof4 : Try.prog.cellsOf 4 = 1 := by kernel_rfl
theorem dec25 : Dec Try.prog 25 (fun w cs (x : List Bool) => (∃ v, cs = [v] ∧ RdL w 1 (fun cs (x : Bool) => cs = Enc.enc x) v x) ∧ ∀ y ∈ x, True) := Dec_sliceO Try.underlying25 cof4 (by decide) dec4
theorem cof83 : Try.prog.cellsOf 83 = 2 := by kernel_rfl
theorem dec83 : Dec Try.prog 83 (fun _ cs (x : Done) => cs = Enc.enc x ∧ okDone x) := fun en w fuel cs x h => by
  obtain ⟨hl, n, hf⟩ := struct_cells Try.underlying83 h
  obtain ⟨_, h0⟩ := hf 0 _ 0 1 3 rfl rfl rfl cof3
  obtain ⟨y0, e0, k0⟩ := dec3 en w n _ _ h0
  obtain ⟨_, h1⟩ := hf 1 _ 1 1 4 rfl rfl rfl cof4
  obtain ⟨y1, e1, k1⟩ := dec4 en w n _ _ h1
  rw [cof83] at hl
  match cs, hl with
  | [c0, c1], _ =>
    simp [Enc.enc] at e0 e1
    subst e0
    subst e1
    exact ⟨⟨y0, y1⟩, rfl, k0, k1⟩
theorem dec26 : Dec Try.prog 26 (fun w cs (x : List Done) => (∃ v, cs = [v] ∧ RdL w 2 (fun cs (x : Done) => cs = Enc.enc x) v x) ∧ ∀ y ∈ x, okDone y) := Dec_sliceO Try.underlying26 cof83 (by decide) dec83
theorem cof22 : Try.prog.cellsOf 22 = 1 := by kernel_rfl
theorem cof23 : Try.prog.cellsOf 23 = 1 := by kernel_rfl
theorem cof24 : Try.prog.cellsOf 24 = 1 := by kernel_rfl
theorem cof25 : Try.prog.cellsOf 25 = 1 := by kernel_rfl
theorem cof26 : Try.prog.cellsOf 26 = 1 := by kernel_rfl
theorem cof28 : Try.prog.cellsOf 28 = 8 := by kernel_rfl
theorem dec28 : Dec Try.prog 28 (fun w cs (x : Worker) => Dat.R w 0 w.heap.size cs x ∧ okWorker x) := fun en w fuel cs x h => by
  obtain ⟨hl, n, hf⟩ := struct_cells Try.underlying28 h
  obtain ⟨_, h0⟩ := hf 0 _ 0 1 22 rfl rfl rfl cof22
  obtain ⟨y0, ⟨o0, e0, r0⟩, k0⟩ := dec22 en w n _ _ h0
  obtain ⟨_, h1⟩ := hf 1 _ 1 1 22 rfl rfl rfl cof22
  obtain ⟨y1, ⟨o1, e1, r1⟩, k1⟩ := dec22 en w n _ _ h1
  obtain ⟨_, h2⟩ := hf 2 _ 2 1 22 rfl rfl rfl cof22
  obtain ⟨y2, ⟨o2, e2, r2⟩, k2⟩ := dec22 en w n _ _ h2
  obtain ⟨_, h3⟩ := hf 3 _ 3 1 23 rfl rfl rfl cof23
  obtain ⟨y3, ⟨o3, e3, r3⟩, k3⟩ := dec23 en w n _ _ h3
  obtain ⟨_, h4⟩ := hf 4 _ 4 1 24 rfl rfl rfl cof24
  obtain ⟨y4, ⟨o4, e4, r4⟩, k4⟩ := dec24 en w n _ _ h4
  obtain ⟨_, h5⟩ := hf 5 _ 5 1 25 rfl rfl rfl cof25
  obtain ⟨y5, ⟨o5, e5, r5⟩, k5⟩ := dec25 en w n _ _ h5
  obtain ⟨_, h6⟩ := hf 6 _ 6 1 25 rfl rfl rfl cof25
  obtain ⟨y6, ⟨o6, e6, r6⟩, k6⟩ := dec25 en w n _ _ h6
  obtain ⟨_, h7⟩ := hf 7 _ 7 1 26 rfl rfl rfl cof26
  obtain ⟨y7, ⟨o7, e7, r7⟩, k7⟩ := dec26 en w n _ _ h7
  rw [cof28] at hl
  match cs, hl with
  | [c0, c1, c2, c3, c4, c5, c6, c7], _ =>
    simp [Enc.enc] at e0 e1 e2 e3 e4 e5 e6 e7
    subst e0
    subst e1
    subst e2
    subst e3
    subst e4
    subst e5
    subst e6
    subst e7
    exact ⟨⟨y0, y1, y2, y3, y4, y5, y6, y7⟩, Worker.mkR ⟨y0, y1, y2, y3, y4, y5, y6, y7⟩ (RdS.rdD r0) (RdS.rdD r1) (RdS.rdD r2) (RdS.rdD r3) (RdS.rdD r4) (RdS.rdD r5) (RdS.rdD r6) (RdS.rdD r7), k0, k1, k2, k3, k4, k5, k6, k7⟩
end Go.Proofs.Ytcpjlfikdobckaa
