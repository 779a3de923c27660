/- What a reading of an argument tells of its cells, a theorem a type; no condition. -/
import Derived.Test.YtffofbjffbfpiaaGreatTypes
import Derived.ProofKit
namespace Go.Proofs.YtffofbjffbfpiaaGreat
open Go Go.Proofs.YtffofbjffbfpiaaGreat.X Go.Proofs
theorem ownk : ownKnob Tryz.prog.godebug = none := by kernel_rfl
theorem laidOut : laidOutB Tryz.prog = true := by kernel_rfl
theorem dec3 : Dec Tryz.prog 3 (fun _ cs (x : Int) => cs = Enc.enc x ∧ rg x) := Dec_int Tryz.underlying3
theorem cof3 : Tryz.prog.cellsOf 3 = 1 := by kernel_rfl
theorem dec27 : Dec Tryz.prog 27 (fun w cs (x : List Int) => (∃ v, cs = [v] ∧ RdL w 1 (fun cs (x : Int) => cs = Enc.enc x) v x) ∧ ∀ y ∈ x, rg y) := Dec_sliceO Tryz.underlying27 cof3 (by decide) dec3
theorem cof27 : Tryz.prog.cellsOf 27 = 1 := by kernel_rfl
theorem cof85 : Tryz.prog.cellsOf 85 = 4 := by kernel_rfl
theorem dec85 : Dec Tryz.prog 85 (fun w cs (x : Node) => Dat.R w 0 w.heap.size cs x ∧ okNode x) := fun en w fuel cs x h => by
  obtain ⟨hl, n, hf⟩ := struct_cells Tryz.underlying85 h
  obtain ⟨_, h0⟩ := hf 0 _ 0 1 3 rfl rfl rfl cof3
  obtain ⟨y0, e0, k0⟩ := dec3 en w n _ _ h0
  obtain ⟨_, h1⟩ := hf 1 _ 1 1 3 rfl rfl rfl cof3
  obtain ⟨y1, e1, k1⟩ := dec3 en w n _ _ h1
  obtain ⟨_, h2⟩ := hf 2 _ 2 1 3 rfl rfl rfl cof3
  obtain ⟨y2, e2, k2⟩ := dec3 en w n _ _ h2
  obtain ⟨_, h3⟩ := hf 3 _ 3 1 27 rfl rfl rfl cof27
  obtain ⟨y3, ⟨o3, e3, r3⟩, k3⟩ := dec27 en w n _ _ h3
  rw [cof85] at hl
  match cs, hl with
  | [c0, c1, c2, c3], _ =>
    simp [Enc.enc] at e0 e1 e2 e3
    subst e0
    subst e1
    subst e2
    subst e3
    exact ⟨⟨y0, y1, y2, y3⟩, Node.mkR ⟨y0, y1, y2, y3⟩ (RdS.rdD r3), k0, k1, k2, k3⟩
theorem dec22 : Dec Tryz.prog 22 (fun w cs (x : List Node) => (∃ v, cs = [v] ∧ RdD w 0 w.heap.size v x) ∧ ∀ y ∈ x, okNode y) := Dec_sliceD Tryz.underlying22 cof85 dec85
theorem cof22 : Tryz.prog.cellsOf 22 = 1 := by kernel_rfl
theorem cof24 : Tryz.prog.cellsOf 24 = 3 := by kernel_rfl
theorem dec24 : Dec Tryz.prog 24 (fun w cs (x : Graph) => Dat.R w 0 w.heap.size cs x ∧ okGraph x) := fun en w fuel cs x h => by
  obtain ⟨hl, n, hf⟩ := struct_cells Tryz.underlying24 h
  obtain ⟨_, h0⟩ := hf 0 _ 0 1 22 rfl rfl rfl cof22
  obtain ⟨y0, ⟨o0, e0, r0⟩, k0⟩ := dec22 en w n _ _ h0
  obtain ⟨_, h1⟩ := hf 1 _ 1 1 3 rfl rfl rfl cof3
  obtain ⟨y1, e1, k1⟩ := dec3 en w n _ _ h1
  obtain ⟨_, h2⟩ := hf 2 _ 2 1 3 rfl rfl rfl cof3
  obtain ⟨y2, e2, k2⟩ := dec3 en w n _ _ h2
  rw [cof24] at hl
  match cs, hl with
  | [c0, c1, c2], _ =>
    simp [Enc.enc] at e0 e1 e2
    subst e0
    subst e1
    subst e2
    exact ⟨⟨y0, y1, y2⟩, Graph.mkR ⟨y0, y1, y2⟩ r0, k0, k1, k2⟩
theorem cof107 : Tryz.prog.cellsOf 107 = 2 := by kernel_rfl
theorem dec107 : Dec Tryz.prog 107 (fun _ cs (x : Stamp) => cs = Enc.enc x ∧ okStamp x) := fun en w fuel cs x h => by
  obtain ⟨hl, n, hf⟩ := struct_cells Tryz.underlying107 h
  obtain ⟨_, h0⟩ := hf 0 _ 0 1 3 rfl rfl rfl cof3
  obtain ⟨y0, e0, k0⟩ := dec3 en w n _ _ h0
  obtain ⟨_, h1⟩ := hf 1 _ 1 1 3 rfl rfl rfl cof3
  obtain ⟨y1, e1, k1⟩ := dec3 en w n _ _ h1
  rw [cof107] at hl
  match cs, hl with
  | [c0, c1], _ =>
    simp [Enc.enc] at e0 e1
    subst e0
    subst e1
    exact ⟨⟨y0, y1⟩, rfl, k0, k1⟩
theorem cof109 : Tryz.prog.cellsOf 109 = 5 := by kernel_rfl
theorem dec109 : Dec Tryz.prog 109 (fun _ cs (x : Record) => cs = Enc.enc x ∧ okRecord x) := fun en w fuel cs x h => by
  obtain ⟨hl, n, hf⟩ := struct_cells Tryz.underlying109 h
  obtain ⟨_, h0⟩ := hf 0 _ 0 1 3 rfl rfl rfl cof3
  obtain ⟨y0, e0, k0⟩ := dec3 en w n _ _ h0
  obtain ⟨_, h1⟩ := hf 1 _ 1 2 107 rfl rfl rfl cof107
  obtain ⟨y1, e1, k1⟩ := dec107 en w n _ _ h1
  obtain ⟨_, h2⟩ := hf 2 _ 3 1 3 rfl rfl rfl cof3
  obtain ⟨y2, e2, k2⟩ := dec3 en w n _ _ h2
  obtain ⟨_, h3⟩ := hf 3 _ 4 1 3 rfl rfl rfl cof3
  obtain ⟨y3, e3, k3⟩ := dec3 en w n _ _ h3
  rw [cof109] at hl
  match cs, hl with
  | [c0, c1, c2, c3, c4], _ =>
    simp [Enc.enc] at e0 e1 e2 e3
    subst e0
    obtain ⟨rfl, rfl⟩ := e1
    subst e2
    subst e3
    exact ⟨⟨y0, y1, y2, y3⟩, rfl, k0, k1, k2, k3⟩
theorem dec25 : Dec Tryz.prog 25 (fun w cs (x : List Record) => (∃ v, cs = [v] ∧ RdL w 5 (fun cs (x : Record) => cs = Enc.enc x) v x) ∧ ∀ y ∈ x, okRecord y) := Dec_sliceO Tryz.underlying25 cof109 (by decide) dec109
theorem cof111 : Tryz.prog.cellsOf 111 = 4 := by kernel_rfl
theorem dec111 : Dec Tryz.prog 111 (fun _ cs (x : Cell) => cs = Enc.enc x ∧ okCell x) := fun en w fuel cs x h => by
  obtain ⟨hl, n, hf⟩ := struct_cells Tryz.underlying111 h
  obtain ⟨_, h0⟩ := hf 0 _ 0 1 3 rfl rfl rfl cof3
  obtain ⟨y0, e0, k0⟩ := dec3 en w n _ _ h0
  obtain ⟨_, h1⟩ := hf 1 _ 1 1 3 rfl rfl rfl cof3
  obtain ⟨y1, e1, k1⟩ := dec3 en w n _ _ h1
  obtain ⟨_, h2⟩ := hf 2 _ 2 1 3 rfl rfl rfl cof3
  obtain ⟨y2, e2, k2⟩ := dec3 en w n _ _ h2
  obtain ⟨_, h3⟩ := hf 3 _ 3 1 3 rfl rfl rfl cof3
  obtain ⟨y3, e3, k3⟩ := dec3 en w n _ _ h3
  rw [cof111] at hl
  match cs, hl with
  | [c0, c1, c2, c3], _ =>
    simp [Enc.enc] at e0 e1 e2 e3
    subst e0
    subst e1
    subst e2
    subst e3
    exact ⟨⟨y0, y1, y2, y3⟩, rfl, k0, k1, k2, k3⟩
theorem dec26 : Dec Tryz.prog 26 (fun w cs (x : List Cell) => (∃ v, cs = [v] ∧ RdL w 4 (fun cs (x : Cell) => cs = Enc.enc x) v x) ∧ ∀ y ∈ x, okCell y) := Dec_sliceO Tryz.underlying26 cof111 (by decide) dec111
theorem dec4 : Dec Tryz.prog 4 (fun _ cs (x : Bool) => cs = Enc.enc x ∧ True) := Dec_bool Tryz.underlying4
theorem cof4 : Tryz.prog.cellsOf 4 = 1 := by kernel_rfl
theorem dec28 : Dec Tryz.prog 28 (fun w cs (x : List Bool) => (∃ v, cs = [v] ∧ RdL w 1 (fun cs (x : Bool) => cs = Enc.enc x) v x) ∧ ∀ y ∈ x, True) := Dec_sliceO Tryz.underlying28 cof4 (by decide) dec4
theorem cof113 : Tryz.prog.cellsOf 113 = 2 := by kernel_rfl
theorem dec113 : Dec Tryz.prog 113 (fun _ cs (x : Done) => cs = Enc.enc x ∧ okDone x) := fun en w fuel cs x h => by
  obtain ⟨hl, n, hf⟩ := struct_cells Tryz.underlying113 h
  obtain ⟨_, h0⟩ := hf 0 _ 0 1 3 rfl rfl rfl cof3
  obtain ⟨y0, e0, k0⟩ := dec3 en w n _ _ h0
  obtain ⟨_, h1⟩ := hf 1 _ 1 1 4 rfl rfl rfl cof4
  obtain ⟨y1, e1, k1⟩ := dec4 en w n _ _ h1
  rw [cof113] at hl
  match cs, hl with
  | [c0, c1], _ =>
    simp [Enc.enc] at e0 e1
    subst e0
    subst e1
    exact ⟨⟨y0, y1⟩, rfl, k0, k1⟩
theorem dec29 : Dec Tryz.prog 29 (fun w cs (x : List Done) => (∃ v, cs = [v] ∧ RdL w 2 (fun cs (x : Done) => cs = Enc.enc x) v x) ∧ ∀ y ∈ x, okDone y) := Dec_sliceO Tryz.underlying29 cof113 (by decide) dec113
theorem cof25 : Tryz.prog.cellsOf 25 = 1 := by kernel_rfl
theorem cof26 : Tryz.prog.cellsOf 26 = 1 := by kernel_rfl
theorem cof28 : Tryz.prog.cellsOf 28 = 1 := by kernel_rfl
theorem cof29 : Tryz.prog.cellsOf 29 = 1 := by kernel_rfl
theorem cof31 : Tryz.prog.cellsOf 31 = 8 := by kernel_rfl
theorem dec31 : Dec Tryz.prog 31 (fun w cs (x : Worker) => Dat.R w 0 w.heap.size cs x ∧ okWorker x) := fun en w fuel cs x h => by
  obtain ⟨hl, n, hf⟩ := struct_cells Tryz.underlying31 h
  obtain ⟨_, h0⟩ := hf 0 _ 0 1 25 rfl rfl rfl cof25
  obtain ⟨y0, ⟨o0, e0, r0⟩, k0⟩ := dec25 en w n _ _ h0
  obtain ⟨_, h1⟩ := hf 1 _ 1 1 25 rfl rfl rfl cof25
  obtain ⟨y1, ⟨o1, e1, r1⟩, k1⟩ := dec25 en w n _ _ h1
  obtain ⟨_, h2⟩ := hf 2 _ 2 1 25 rfl rfl rfl cof25
  obtain ⟨y2, ⟨o2, e2, r2⟩, k2⟩ := dec25 en w n _ _ h2
  obtain ⟨_, h3⟩ := hf 3 _ 3 1 26 rfl rfl rfl cof26
  obtain ⟨y3, ⟨o3, e3, r3⟩, k3⟩ := dec26 en w n _ _ h3
  obtain ⟨_, h4⟩ := hf 4 _ 4 1 27 rfl rfl rfl cof27
  obtain ⟨y4, ⟨o4, e4, r4⟩, k4⟩ := dec27 en w n _ _ h4
  obtain ⟨_, h5⟩ := hf 5 _ 5 1 28 rfl rfl rfl cof28
  obtain ⟨y5, ⟨o5, e5, r5⟩, k5⟩ := dec28 en w n _ _ h5
  obtain ⟨_, h6⟩ := hf 6 _ 6 1 28 rfl rfl rfl cof28
  obtain ⟨y6, ⟨o6, e6, r6⟩, k6⟩ := dec28 en w n _ _ h6
  obtain ⟨_, h7⟩ := hf 7 _ 7 1 29 rfl rfl rfl cof29
  obtain ⟨y7, ⟨o7, e7, r7⟩, k7⟩ := dec29 en w n _ _ h7
  rw [cof31] at hl
  match cs, hl with
  | [c0, c1, c2, c3, c4, c5, c6, c7], _ =>
    simp [Enc.enc] at e0 e1 e2 e3 e4 e5 e6 e7
    subst e0
    subst e1
    subst e2
    subst e3
    subst e4
    subst e5
    subst e6
    subst e7
    exact ⟨⟨y0, y1, y2, y3, y4, y5, y6, y7⟩, Worker.mkR ⟨y0, y1, y2, y3, y4, y5, y6, y7⟩ (RdS.rdD r0) (RdS.rdD r1) (RdS.rdD r2) (RdS.rdD r3) (RdS.rdD r4) (RdS.rdD r5) (RdS.rdD r6) (RdS.rdD r7), k0, k1, k2, k3, k4, k5, k6, k7⟩
end Go.Proofs.YtffofbjffbfpiaaGreat
