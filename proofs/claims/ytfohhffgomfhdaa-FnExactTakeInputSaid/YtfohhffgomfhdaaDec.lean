/- What a reading of an argument tells of its cells, a theorem a type; no condition. -/
import Derived.Test.YtfohhffgomfhdaaTypes
import Derived.ProofKit
namespace Go.Proofs.Ytfohhffgomfhdaa
open Go Go.Proofs.Ytfohhffgomfhdaa.X Go.Proofs
theorem ownk : ownKnob Try.prog.godebug = none := by kernel_rfl
theorem laidOut : laidOutB Try.prog = true := by kernel_rfl
theorem dec3 : Dec Try.prog 3 (fun _ cs (x : Int) => cs = Enc.enc x ∧ rg x) := Dec_int Try.underlying3
theorem cof3 : Try.prog.cellsOf 3 = 1 := by kernel_rfl
theorem dec53 : Dec Try.prog 53 (fun w cs (x : List Int) => (∃ v, cs = [v] ∧ RdL w 1 (fun cs (x : Int) => cs = Enc.enc x) v x) ∧ ∀ y ∈ x, rg y) := Dec_sliceO Try.underlying53 cof3 (by decide) dec3
theorem cof53 : Try.prog.cellsOf 53 = 1 := by kernel_rfl
theorem cof109 : Try.prog.cellsOf 109 = 4 := by kernel_rfl
theorem dec109 : Dec Try.prog 109 (fun w cs (x : Node) => Dat.R w 0 w.heap.size cs x ∧ okNode x) := fun en w fuel cs x h => by
  obtain ⟨hl, n, hf⟩ := struct_cells Try.underlying109 h
  obtain ⟨_, h0⟩ := hf 0 _ 0 1 3 rfl rfl rfl cof3
  obtain ⟨y0, e0, k0⟩ := dec3 en w n _ _ h0
  obtain ⟨_, h1⟩ := hf 1 _ 1 1 3 rfl rfl rfl cof3
  obtain ⟨y1, e1, k1⟩ := dec3 en w n _ _ h1
  obtain ⟨_, h2⟩ := hf 2 _ 2 1 3 rfl rfl rfl cof3
  obtain ⟨y2, e2, k2⟩ := dec3 en w n _ _ h2
  obtain ⟨_, h3⟩ := hf 3 _ 3 1 53 rfl rfl rfl cof53
  obtain ⟨y3, ⟨o3, e3, r3⟩, k3⟩ := dec53 en w n _ _ h3
  rw [cof109] at hl
  match cs, hl with
  | [c0, c1, c2, c3], _ =>
    simp [Enc.enc] at e0 e1 e2 e3
    subst e0
    subst e1
    subst e2
    subst e3
    exact ⟨⟨y0, y1, y2, y3⟩, Node.mkR ⟨y0, y1, y2, y3⟩ (RdS.rdD r3), k0, k1, k2, k3⟩
theorem dec22 : Dec Try.prog 22 (fun w cs (x : List Node) => (∃ v, cs = [v] ∧ RdD w 0 w.heap.size v x) ∧ ∀ y ∈ x, okNode y) := Dec_sliceD Try.underlying22 cof109 dec109
theorem cof22 : Try.prog.cellsOf 22 = 1 := by kernel_rfl
theorem cof24 : Try.prog.cellsOf 24 = 3 := by kernel_rfl
theorem dec24 : Dec Try.prog 24 (fun w cs (x : Graph) => Dat.R w 0 w.heap.size cs x ∧ okGraph x) := fun en w fuel cs x h => by
  obtain ⟨hl, n, hf⟩ := struct_cells Try.underlying24 h
  obtain ⟨_, h0⟩ := hf 0 _ 0 1 22 rfl rfl rfl cof22
  obtain ⟨y0, ⟨o0, e0, r0⟩, k0⟩ := dec22 en w n _ _ h0
  obtain ⟨_, h1⟩ := hf 1 _ 1 1 3 rfl rfl rfl cof3
  obtain ⟨y1, e1, k1⟩ := dec3 en w n _ _ h1
  obtain ⟨_, h2⟩ := hf 2 _ 2 1 3 rfl rfl rfl cof3
  obtain ⟨y2, e2, k2⟩ := dec3 en w n _ _ h2
  rw [cof24] at hl
  match cs, hl with
  | [c0, c1, c2], _ =>
    simp [Enc.enc] at e0 e1 e2
    subst e0
    subst e1
    subst e2
    exact ⟨⟨y0, y1, y2⟩, Graph.mkR ⟨y0, y1, y2⟩ r0, k0, k1, k2⟩
theorem cof27 : Try.prog.cellsOf 27 = 2 := by kernel_rfl
theorem dec27 : Dec Try.prog 27 (fun _ cs (x : Stamp) => cs = Enc.enc x ∧ okStamp x) := fun en w fuel cs x h => by
  obtain ⟨hl, n, hf⟩ := struct_cells Try.underlying27 h
  obtain ⟨_, h0⟩ := hf 0 _ 0 1 3 rfl rfl rfl cof3
  obtain ⟨y0, e0, k0⟩ := dec3 en w n _ _ h0
  obtain ⟨_, h1⟩ := hf 1 _ 1 1 3 rfl rfl rfl cof3
  obtain ⟨y1, e1, k1⟩ := dec3 en w n _ _ h1
  rw [cof27] at hl
  match cs, hl with
  | [c0, c1], _ =>
    simp [Enc.enc] at e0 e1
    subst e0
    subst e1
    exact ⟨⟨y0, y1⟩, rfl, k0, k1⟩
theorem cof29 : Try.prog.cellsOf 29 = 5 := by kernel_rfl
theorem dec29 : Dec Try.prog 29 (fun _ cs (x : Record) => cs = Enc.enc x ∧ okRecord x) := fun en w fuel cs x h => by
  obtain ⟨hl, n, hf⟩ := struct_cells Try.underlying29 h
  obtain ⟨_, h0⟩ := hf 0 _ 0 1 3 rfl rfl rfl cof3
  obtain ⟨y0, e0, k0⟩ := dec3 en w n _ _ h0
  obtain ⟨_, h1⟩ := hf 1 _ 1 2 27 rfl rfl rfl cof27
  obtain ⟨y1, e1, k1⟩ := dec27 en w n _ _ h1
  obtain ⟨_, h2⟩ := hf 2 _ 3 1 3 rfl rfl rfl cof3
  obtain ⟨y2, e2, k2⟩ := dec3 en w n _ _ h2
  obtain ⟨_, h3⟩ := hf 3 _ 4 1 3 rfl rfl rfl cof3
  obtain ⟨y3, e3, k3⟩ := dec3 en w n _ _ h3
  rw [cof29] at hl
  match cs, hl with
  | [c0, c1, c2, c3, c4], _ =>
    simp [Enc.enc] at e0 e1 e2 e3
    subst e0
    obtain ⟨rfl, rfl⟩ := e1
    subst e2
    subst e3
    exact ⟨⟨y0, y1, y2, y3⟩, rfl, k0, k1, k2, k3⟩
theorem dec52 : Dec Try.prog 52 (fun w cs (x : List Record) => (∃ v, cs = [v] ∧ RdL w 5 (fun cs (x : Record) => cs = Enc.enc x) v x) ∧ ∀ y ∈ x, okRecord y) := Dec_sliceO Try.underlying52 cof29 (by decide) dec29
theorem cof86 : Try.prog.cellsOf 86 = 4 := by kernel_rfl
theorem dec86 : Dec Try.prog 86 (fun _ cs (x : Cell) => cs = Enc.enc x ∧ okCell x) := fun en w fuel cs x h => by
  obtain ⟨hl, n, hf⟩ := struct_cells Try.underlying86 h
  obtain ⟨_, h0⟩ := hf 0 _ 0 1 3 rfl rfl rfl cof3
  obtain ⟨y0, e0, k0⟩ := dec3 en w n _ _ h0
  obtain ⟨_, h1⟩ := hf 1 _ 1 1 3 rfl rfl rfl cof3
  obtain ⟨y1, e1, k1⟩ := dec3 en w n _ _ h1
  obtain ⟨_, h2⟩ := hf 2 _ 2 1 3 rfl rfl rfl cof3
  obtain ⟨y2, e2, k2⟩ := dec3 en w n _ _ h2
  obtain ⟨_, h3⟩ := hf 3 _ 3 1 3 rfl rfl rfl cof3
  obtain ⟨y3, e3, k3⟩ := dec3 en w n _ _ h3
  rw [cof86] at hl
  match cs, hl with
  | [c0, c1, c2, c3], _ =>
    simp [Enc.enc] at e0 e1 e2 e3
    subst e0
    subst e1
    subst e2
    subst e3
    exact ⟨⟨y0, y1, y2, y3⟩, rfl, k0, k1, k2, k3⟩
theorem dec25 : Dec Try.prog 25 (fun w cs (x : List Cell) => (∃ v, cs = [v] ∧ RdL w 4 (fun cs (x : Cell) => cs = Enc.enc x) v x) ∧ ∀ y ∈ x, okCell y) := Dec_sliceO Try.underlying25 cof86 (by decide) dec86
theorem dec4 : Dec Try.prog 4 (fun _ cs (x : Bool) => cs = Enc.enc x ∧ True) := Dec_bool Try.underlying4
theorem cof4 : Try.prog.cellsOf 4 = 1 := by kernel_rfl
theorem dec54 : Dec Try.prog 54 (fun w cs (x : List Bool) => (∃ v, cs = [v] ∧ RdL w 1 (fun cs (x : Bool) => cs = Enc.enc x) v x) ∧ ∀ y ∈ x, True) := Dec_sliceO Try.underlying54 cof4 (by decide) dec4
theorem cof128 : Try.prog.cellsOf 128 = 2 := by kernel_rfl
theorem dec128 : Dec Try.prog 128 (fun _ cs (x : Done) => cs = Enc.enc x ∧ okDone x) := fun en w fuel cs x h => by
  obtain ⟨hl, n, hf⟩ := struct_cells Try.underlying128 h
  obtain ⟨_, h0⟩ := hf 0 _ 0 1 3 rfl rfl rfl cof3
  obtain ⟨y0, e0, k0⟩ := dec3 en w n _ _ h0
  obtain ⟨_, h1⟩ := hf 1 _ 1 1 4 rfl rfl rfl cof4
  obtain ⟨y1, e1, k1⟩ := dec4 en w n _ _ h1
  rw [cof128] at hl
  match cs, hl with
  | [c0, c1], _ =>
    simp [Enc.enc] at e0 e1
    subst e0
    subst e1
    exact ⟨⟨y0, y1⟩, rfl, k0, k1⟩
theorem dec55 : Dec Try.prog 55 (fun w cs (x : List Done) => (∃ v, cs = [v] ∧ RdL w 2 (fun cs (x : Done) => cs = Enc.enc x) v x) ∧ ∀ y ∈ x, okDone y) := Dec_sliceO Try.underlying55 cof128 (by decide) dec128
theorem cof52 : Try.prog.cellsOf 52 = 1 := by kernel_rfl
theorem cof25 : Try.prog.cellsOf 25 = 1 := by kernel_rfl
theorem cof54 : Try.prog.cellsOf 54 = 1 := by kernel_rfl
theorem cof55 : Try.prog.cellsOf 55 = 1 := by kernel_rfl
theorem cof57 : Try.prog.cellsOf 57 = 8 := by kernel_rfl
theorem dec57 : Dec Try.prog 57 (fun w cs (x : Worker) => Dat.R w 0 w.heap.size cs x ∧ okWorker x) := fun en w fuel cs x h => by
  obtain ⟨hl, n, hf⟩ := struct_cells Try.underlying57 h
  obtain ⟨_, h0⟩ := hf 0 _ 0 1 52 rfl rfl rfl cof52
  obtain ⟨y0, ⟨o0, e0, r0⟩, k0⟩ := dec52 en w n _ _ h0
  obtain ⟨_, h1⟩ := hf 1 _ 1 1 52 rfl rfl rfl cof52
  obtain ⟨y1, ⟨o1, e1, r1⟩, k1⟩ := dec52 en w n _ _ h1
  obtain ⟨_, h2⟩ := hf 2 _ 2 1 52 rfl rfl rfl cof52
  obtain ⟨y2, ⟨o2, e2, r2⟩, k2⟩ := dec52 en w n _ _ h2
  obtain ⟨_, h3⟩ := hf 3 _ 3 1 25 rfl rfl rfl cof25
  obtain ⟨y3, ⟨o3, e3, r3⟩, k3⟩ := dec25 en w n _ _ h3
  obtain ⟨_, h4⟩ := hf 4 _ 4 1 53 rfl rfl rfl cof53
  obtain ⟨y4, ⟨o4, e4, r4⟩, k4⟩ := dec53 en w n _ _ h4
  obtain ⟨_, h5⟩ := hf 5 _ 5 1 54 rfl rfl rfl cof54
  obtain ⟨y5, ⟨o5, e5, r5⟩, k5⟩ := dec54 en w n _ _ h5
  obtain ⟨_, h6⟩ := hf 6 _ 6 1 54 rfl rfl rfl cof54
  obtain ⟨y6, ⟨o6, e6, r6⟩, k6⟩ := dec54 en w n _ _ h6
  obtain ⟨_, h7⟩ := hf 7 _ 7 1 55 rfl rfl rfl cof55
  obtain ⟨y7, ⟨o7, e7, r7⟩, k7⟩ := dec55 en w n _ _ h7
  rw [cof57] at hl
  match cs, hl with
  | [c0, c1, c2, c3, c4, c5, c6, c7], _ =>
    simp [Enc.enc] at e0 e1 e2 e3 e4 e5 e6 e7
    subst e0
    subst e1
    subst e2
    subst e3
    subst e4
    subst e5
    subst e6
    subst e7
    exact ⟨⟨y0, y1, y2, y3, y4, y5, y6, y7⟩, Worker.mkR ⟨y0, y1, y2, y3, y4, y5, y6, y7⟩ (RdS.rdD r0) (RdS.rdD r1) (RdS.rdD r2) (RdS.rdD r3) (RdS.rdD r4) (RdS.rdD r5) (RdS.rdD r6) (RdS.rdD r7), k0, k1, k2, k3, k4, k5, k6, k7⟩
end Go.Proofs.Ytfohhffgomfhdaa
