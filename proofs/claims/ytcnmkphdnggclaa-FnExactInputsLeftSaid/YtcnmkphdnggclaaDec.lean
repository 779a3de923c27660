/- What a reading of an argument tells of its cells, a theorem a type; no condition. -/
import Derived.Test.YtcnmkphdnggclaaTypes
import Derived.ProofKit
namespace Go.Proofs.Ytcnmkphdnggclaa
open Go Go.Proofs.Ytcnmkphdnggclaa.X Go.Proofs
theorem ownk : ownKnob Try.prog.godebug = none := by kernel_rfl
theorem laidOut : laidOutB Try.prog = true := by kernel_rfl
theorem dec3 : Dec Try.prog 3 (fun _ cs (x : Int) => cs = Enc.enc x ∧ rg x) := Dec_int Try.underlying3
theorem cof3 : Try.prog.cellsOf 3 = 1 := by kernel_rfl
theorem dec56 : Dec Try.prog 56 (fun w cs (x : List Int) => (∃ v, cs = [v] ∧ RdL w 1 (fun cs (x : Int) => cs = Enc.enc x) v x) ∧ ∀ y ∈ x, rg y) := Dec_sliceO Try.underlying56 cof3 (by decide) dec3
theorem cof56 : Try.prog.cellsOf 56 = 1 := by kernel_rfl
theorem cof117 : Try.prog.cellsOf 117 = 4 := by kernel_rfl
theorem dec117 : Dec Try.prog 117 (fun w cs (x : Node) => Dat.R w 0 w.heap.size cs x ∧ okNode x) := fun en w fuel cs x h => by
  obtain ⟨hl, n, hf⟩ := struct_cells Try.underlying117 h
  obtain ⟨_, h0⟩ := hf 0 _ 0 1 3 rfl rfl rfl cof3
  obtain ⟨y0, e0, k0⟩ := dec3 en w n _ _ h0
  obtain ⟨_, h1⟩ := hf 1 _ 1 1 3 rfl rfl rfl cof3
  obtain ⟨y1, e1, k1⟩ := dec3 en w n _ _ h1
  obtain ⟨_, h2⟩ := hf 2 _ 2 1 3 rfl rfl rfl cof3
  obtain ⟨y2, e2, k2⟩ := dec3 en w n _ _ h2
  obtain ⟨_, h3⟩ := hf 3 _ 3 1 56 rfl rfl rfl cof56
  obtain ⟨y3, ⟨o3, e3, r3⟩, k3⟩ := dec56 en w n _ _ h3
  rw [cof117] at hl
  match cs, hl with
  | [c0, c1, c2, c3], _ =>
    simp [Enc.enc] at e0 e1 e2 e3
    subst e0
    subst e1
    subst e2
    subst e3
    exact ⟨⟨y0, y1, y2, y3⟩, Node.mkR ⟨y0, y1, y2, y3⟩ (RdS.rdD r3), k0, k1, k2, k3⟩
theorem dec22 : Dec Try.prog 22 (fun w cs (x : List Node) => (∃ v, cs = [v] ∧ RdD w 0 w.heap.size v x) ∧ ∀ y ∈ x, okNode y) := Dec_sliceD Try.underlying22 cof117 dec117
theorem cof22 : Try.prog.cellsOf 22 = 1 := by kernel_rfl
theorem cof24 : Try.prog.cellsOf 24 = 3 := by kernel_rfl
theorem dec24 : Dec Try.prog 24 (fun w cs (x : Graph) => Dat.R w 0 w.heap.size cs x ∧ okGraph x) := fun en w fuel cs x h => by
  obtain ⟨hl, n, hf⟩ := struct_cells Try.underlying24 h
  obtain ⟨_, h0⟩ := hf 0 _ 0 1 22 rfl rfl rfl cof22
  obtain ⟨y0, ⟨o0, e0, r0⟩, k0⟩ := dec22 en w n _ _ h0
  obtain ⟨_, h1⟩ := hf 1 _ 1 1 3 rfl rfl rfl cof3
  obtain ⟨y1, e1, k1⟩ := dec3 en w n _ _ h1
  obtain ⟨_, h2⟩ := hf 2 _ 2 1 3 rfl rfl rfl cof3
  obtain ⟨y2, e2, k2⟩ := dec3 en w n _ _ h2
  rw [cof24] at hl
  match cs, hl with
  | [c0, c1, c2], _ =>
    simp [Enc.enc] at e0 e1 e2
    subst e0
    subst e1
    subst e2
    exact ⟨⟨y0, y1, y2⟩, Graph.mkR ⟨y0, y1, y2⟩ r0, k0, k1, k2⟩
theorem cof138 : Try.prog.cellsOf 138 = 2 := by kernel_rfl
theorem dec138 : Dec Try.prog 138 (fun _ cs (x : Stamp) => cs = Enc.enc x ∧ okStamp x) := fun en w fuel cs x h => by
  obtain ⟨hl, n, hf⟩ := struct_cells Try.underlying138 h
  obtain ⟨_, h0⟩ := hf 0 _ 0 1 3 rfl rfl rfl cof3
  obtain ⟨y0, e0, k0⟩ := dec3 en w n _ _ h0
  obtain ⟨_, h1⟩ := hf 1 _ 1 1 3 rfl rfl rfl cof3
  obtain ⟨y1, e1, k1⟩ := dec3 en w n _ _ h1
  rw [cof138] at hl
  match cs, hl with
  | [c0, c1], _ =>
    simp [Enc.enc] at e0 e1
    subst e0
    subst e1
    exact ⟨⟨y0, y1⟩, rfl, k0, k1⟩
theorem cof140 : Try.prog.cellsOf 140 = 5 := by kernel_rfl
theorem dec140 : Dec Try.prog 140 (fun _ cs (x : Record) => cs = Enc.enc x ∧ okRecord x) := fun en w fuel cs x h => by
  obtain ⟨hl, n, hf⟩ := struct_cells Try.underlying140 h
  obtain ⟨_, h0⟩ := hf 0 _ 0 1 3 rfl rfl rfl cof3
  obtain ⟨y0, e0, k0⟩ := dec3 en w n _ _ h0
  obtain ⟨_, h1⟩ := hf 1 _ 1 2 138 rfl rfl rfl cof138
  obtain ⟨y1, e1, k1⟩ := dec138 en w n _ _ h1
  obtain ⟨_, h2⟩ := hf 2 _ 3 1 3 rfl rfl rfl cof3
  obtain ⟨y2, e2, k2⟩ := dec3 en w n _ _ h2
  obtain ⟨_, h3⟩ := hf 3 _ 4 1 3 rfl rfl rfl cof3
  obtain ⟨y3, e3, k3⟩ := dec3 en w n _ _ h3
  rw [cof140] at hl
  match cs, hl with
  | [c0, c1, c2, c3, c4], _ =>
    simp [Enc.enc] at e0 e1 e2 e3
    subst e0
    obtain ⟨rfl, rfl⟩ := e1
    subst e2
    subst e3
    exact ⟨⟨y0, y1, y2, y3⟩, rfl, k0, k1, k2, k3⟩
theorem dec83 : Dec Try.prog 83 (fun w cs (x : List Record) => (∃ v, cs = [v] ∧ RdL w 5 (fun cs (x : Record) => cs = Enc.enc x) v x) ∧ ∀ y ∈ x, okRecord y) := Dec_sliceO Try.underlying83 cof140 (by decide) dec140
theorem cof142 : Try.prog.cellsOf 142 = 4 := by kernel_rfl
theorem dec142 : Dec Try.prog 142 (fun _ cs (x : Cell) => cs = Enc.enc x ∧ okCell x) := fun en w fuel cs x h => by
  obtain ⟨hl, n, hf⟩ := struct_cells Try.underlying142 h
  obtain ⟨_, h0⟩ := hf 0 _ 0 1 3 rfl rfl rfl cof3
  obtain ⟨y0, e0, k0⟩ := dec3 en w n _ _ h0
  obtain ⟨_, h1⟩ := hf 1 _ 1 1 3 rfl rfl rfl cof3
  obtain ⟨y1, e1, k1⟩ := dec3 en w n _ _ h1
  obtain ⟨_, h2⟩ := hf 2 _ 2 1 3 rfl rfl rfl cof3
  obtain ⟨y2, e2, k2⟩ := dec3 en w n _ _ h2
  obtain ⟨_, h3⟩ := hf 3 _ 3 1 3 rfl rfl rfl cof3
  obtain ⟨y3, e3, k3⟩ := dec3 en w n _ _ h3
  rw [cof142] at hl
  match cs, hl with
  | [c0, c1, c2, c3], _ =>
    simp [Enc.enc] at e0 e1 e2 e3
    subst e0
    subst e1
    subst e2
    subst e3
    exact ⟨⟨y0, y1, y2, y3⟩, rfl, k0, k1, k2, k3⟩
theorem dec84 : Dec Try.prog 84 (fun w cs (x : List Cell) => (∃ v, cs = [v] ∧ RdL w 4 (fun cs (x : Cell) => cs = Enc.enc x) v x) ∧ ∀ y ∈ x, okCell y) := Dec_sliceO Try.underlying84 cof142 (by decide) dec142
theorem dec4 : Dec Try.prog 4 (fun _ cs (x : Bool) => cs = Enc.enc x ∧ True) := Dec_bool Try.underlying4
theorem cof4 : Try.prog.cellsOf 4 = 1 := by kernel_rfl
theorem dec57 : Dec Try.prog 57 (fun w cs (x : List Bool) => (∃ v, cs = [v] ∧ RdL w 1 (fun cs (x : Bool) => cs = Enc.enc x) v x) ∧ ∀ y ∈ x, True) := Dec_sliceO Try.underlying57 cof4 (by decide) dec4
theorem cof144 : Try.prog.cellsOf 144 = 2 := by kernel_rfl
theorem dec144 : Dec Try.prog 144 (fun _ cs (x : Done) => cs = Enc.enc x ∧ okDone x) := fun en w fuel cs x h => by
  obtain ⟨hl, n, hf⟩ := struct_cells Try.underlying144 h
  obtain ⟨_, h0⟩ := hf 0 _ 0 1 3 rfl rfl rfl cof3
  obtain ⟨y0, e0, k0⟩ := dec3 en w n _ _ h0
  obtain ⟨_, h1⟩ := hf 1 _ 1 1 4 rfl rfl rfl cof4
  obtain ⟨y1, e1, k1⟩ := dec4 en w n _ _ h1
  rw [cof144] at hl
  match cs, hl with
  | [c0, c1], _ =>
    simp [Enc.enc] at e0 e1
    subst e0
    subst e1
    exact ⟨⟨y0, y1⟩, rfl, k0, k1⟩
theorem dec85 : Dec Try.prog 85 (fun w cs (x : List Done) => (∃ v, cs = [v] ∧ RdL w 2 (fun cs (x : Done) => cs = Enc.enc x) v x) ∧ ∀ y ∈ x, okDone y) := Dec_sliceO Try.underlying85 cof144 (by decide) dec144
theorem cof83 : Try.prog.cellsOf 83 = 1 := by kernel_rfl
theorem cof84 : Try.prog.cellsOf 84 = 1 := by kernel_rfl
theorem cof57 : Try.prog.cellsOf 57 = 1 := by kernel_rfl
theorem cof85 : Try.prog.cellsOf 85 = 1 := by kernel_rfl
theorem cof87 : Try.prog.cellsOf 87 = 8 := by kernel_rfl
theorem dec87 : Dec Try.prog 87 (fun w cs (x : Worker) => Dat.R w 0 w.heap.size cs x ∧ okWorker x) := fun en w fuel cs x h => by
  obtain ⟨hl, n, hf⟩ := struct_cells Try.underlying87 h
  obtain ⟨_, h0⟩ := hf 0 _ 0 1 83 rfl rfl rfl cof83
  obtain ⟨y0, ⟨o0, e0, r0⟩, k0⟩ := dec83 en w n _ _ h0
  obtain ⟨_, h1⟩ := hf 1 _ 1 1 83 rfl rfl rfl cof83
  obtain ⟨y1, ⟨o1, e1, r1⟩, k1⟩ := dec83 en w n _ _ h1
  obtain ⟨_, h2⟩ := hf 2 _ 2 1 83 rfl rfl rfl cof83
  obtain ⟨y2, ⟨o2, e2, r2⟩, k2⟩ := dec83 en w n _ _ h2
  obtain ⟨_, h3⟩ := hf 3 _ 3 1 84 rfl rfl rfl cof84
  obtain ⟨y3, ⟨o3, e3, r3⟩, k3⟩ := dec84 en w n _ _ h3
  obtain ⟨_, h4⟩ := hf 4 _ 4 1 56 rfl rfl rfl cof56
  obtain ⟨y4, ⟨o4, e4, r4⟩, k4⟩ := dec56 en w n _ _ h4
  obtain ⟨_, h5⟩ := hf 5 _ 5 1 57 rfl rfl rfl cof57
  obtain ⟨y5, ⟨o5, e5, r5⟩, k5⟩ := dec57 en w n _ _ h5
  obtain ⟨_, h6⟩ := hf 6 _ 6 1 57 rfl rfl rfl cof57
  obtain ⟨y6, ⟨o6, e6, r6⟩, k6⟩ := dec57 en w n _ _ h6
  obtain ⟨_, h7⟩ := hf 7 _ 7 1 85 rfl rfl rfl cof85
  obtain ⟨y7, ⟨o7, e7, r7⟩, k7⟩ := dec85 en w n _ _ h7
  rw [cof87] at hl
  match cs, hl with
  | [c0, c1, c2, c3, c4, c5, c6, c7], _ =>
    simp [Enc.enc] at e0 e1 e2 e3 e4 e5 e6 e7
    subst e0
    subst e1
    subst e2
    subst e3
    subst e4
    subst e5
    subst e6
    subst e7
    exact ⟨⟨y0, y1, y2, y3, y4, y5, y6, y7⟩, Worker.mkR ⟨y0, y1, y2, y3, y4, y5, y6, y7⟩ (RdS.rdD r0) (RdS.rdD r1) (RdS.rdD r2) (RdS.rdD r3) (RdS.rdD r4) (RdS.rdD r5) (RdS.rdD r6) (RdS.rdD r7), k0, k1, k2, k3, k4, k5, k6, k7⟩
theorem dec25 : Dec Try.prog 25 (fun w cs (x : List Worker) => (∃ v, cs = [v] ∧ RdD w 0 w.heap.size v x) ∧ ∀ y ∈ x, okWorker y) := Dec_sliceD Try.underlying25 cof87 dec87
theorem cof90 : Try.prog.cellsOf 90 = 6 := by kernel_rfl
theorem dec90 : Dec Try.prog 90 (fun w cs (x : Link) => Dat.R w 0 w.heap.size cs x ∧ okLink x) := fun en w fuel cs x h => by
  obtain ⟨hl, n, hf⟩ := struct_cells Try.underlying90 h
  obtain ⟨_, h0⟩ := hf 0 _ 0 1 3 rfl rfl rfl cof3
  obtain ⟨y0, e0, k0⟩ := dec3 en w n _ _ h0
  obtain ⟨_, h1⟩ := hf 1 _ 1 1 83 rfl rfl rfl cof83
  obtain ⟨y1, ⟨o1, e1, r1⟩, k1⟩ := dec83 en w n _ _ h1
  obtain ⟨_, h2⟩ := hf 2 _ 2 1 3 rfl rfl rfl cof3
  obtain ⟨y2, e2, k2⟩ := dec3 en w n _ _ h2
  obtain ⟨_, h3⟩ := hf 3 _ 3 1 3 rfl rfl rfl cof3
  obtain ⟨y3, e3, k3⟩ := dec3 en w n _ _ h3
  obtain ⟨_, h4⟩ := hf 4 _ 4 1 3 rfl rfl rfl cof3
  obtain ⟨y4, e4, k4⟩ := dec3 en w n _ _ h4
  obtain ⟨_, h5⟩ := hf 5 _ 5 1 3 rfl rfl rfl cof3
  obtain ⟨y5, e5, k5⟩ := dec3 en w n _ _ h5
  rw [cof90] at hl
  match cs, hl with
  | [c0, c1, c2, c3, c4, c5], _ =>
    simp [Enc.enc] at e0 e1 e2 e3 e4 e5
    subst e0
    subst e1
    subst e2
    subst e3
    subst e4
    subst e5
    exact ⟨⟨y0, y1, y2, y3, y4, y5⟩, Link.mkR ⟨y0, y1, y2, y3, y4, y5⟩ (RdS.rdD r1), k0, k1, k2, k3, k4, k5⟩
theorem dec26 : Dec Try.prog 26 (fun w cs (x : List Link) => (∃ v, cs = [v] ∧ RdD w 0 w.heap.size v x) ∧ ∀ y ∈ x, okLink y) := Dec_sliceD Try.underlying26 cof90 dec90
theorem cof99 : Try.prog.cellsOf 99 = 5 := by kernel_rfl
theorem dec99 : Dec Try.prog 99 (fun _ cs (x : Token) => cs = Enc.enc x ∧ okToken x) := fun en w fuel cs x h => by
  obtain ⟨hl, n, hf⟩ := struct_cells Try.underlying99 h
  obtain ⟨_, h0⟩ := hf 0 _ 0 1 4 rfl rfl rfl cof4
  obtain ⟨y0, e0, k0⟩ := dec4 en w n _ _ h0
  obtain ⟨_, h1⟩ := hf 1 _ 1 1 3 rfl rfl rfl cof3
  obtain ⟨y1, e1, k1⟩ := dec3 en w n _ _ h1
  obtain ⟨_, h2⟩ := hf 2 _ 2 1 3 rfl rfl rfl cof3
  obtain ⟨y2, e2, k2⟩ := dec3 en w n _ _ h2
  obtain ⟨_, h3⟩ := hf 3 _ 3 1 4 rfl rfl rfl cof4
  obtain ⟨y3, e3, k3⟩ := dec4 en w n _ _ h3
  obtain ⟨_, h4⟩ := hf 4 _ 4 1 4 rfl rfl rfl cof4
  obtain ⟨y4, e4, k4⟩ := dec4 en w n _ _ h4
  rw [cof99] at hl
  match cs, hl with
  | [c0, c1, c2, c3, c4], _ =>
    simp [Enc.enc] at e0 e1 e2 e3 e4
    subst e0
    subst e1
    subst e2
    subst e3
    subst e4
    exact ⟨⟨y0, y1, y2, y3, y4⟩, rfl, k0, k1, k2, k3, k4⟩
theorem dec27 : Dec Try.prog 27 (fun w cs (x : List Token) => (∃ v, cs = [v] ∧ RdL w 5 (fun cs (x : Token) => cs = Enc.enc x) v x) ∧ ∀ y ∈ x, okToken y) := Dec_sliceO Try.underlying27 cof99 (by decide) dec99
theorem cof103 : Try.prog.cellsOf 103 = 3 := by kernel_rfl
theorem dec103 : Dec Try.prog 103 (fun _ cs (x : News) => cs = Enc.enc x ∧ okNews x) := fun en w fuel cs x h => by
  obtain ⟨hl, n, hf⟩ := struct_cells Try.underlying103 h
  obtain ⟨_, h0⟩ := hf 0 _ 0 1 3 rfl rfl rfl cof3
  obtain ⟨y0, e0, k0⟩ := dec3 en w n _ _ h0
  obtain ⟨_, h1⟩ := hf 1 _ 1 1 3 rfl rfl rfl cof3
  obtain ⟨y1, e1, k1⟩ := dec3 en w n _ _ h1
  obtain ⟨_, h2⟩ := hf 2 _ 2 1 4 rfl rfl rfl cof4
  obtain ⟨y2, e2, k2⟩ := dec4 en w n _ _ h2
  rw [cof103] at hl
  match cs, hl with
  | [c0, c1, c2], _ =>
    simp [Enc.enc] at e0 e1 e2
    subst e0
    subst e1
    subst e2
    exact ⟨⟨y0, y1, y2⟩, rfl, k0, k1, k2⟩
theorem dec28 : Dec Try.prog 28 (fun w cs (x : List News) => (∃ v, cs = [v] ∧ RdL w 3 (fun cs (x : News) => cs = Enc.enc x) v x) ∧ ∀ y ∈ x, okNews y) := Dec_sliceO Try.underlying28 cof103 (by decide) dec103
theorem cof25 : Try.prog.cellsOf 25 = 1 := by kernel_rfl
theorem cof26 : Try.prog.cellsOf 26 = 1 := by kernel_rfl
theorem cof27 : Try.prog.cellsOf 27 = 1 := by kernel_rfl
theorem cof28 : Try.prog.cellsOf 28 = 1 := by kernel_rfl
theorem cof30 : Try.prog.cellsOf 30 = 7 := by kernel_rfl
theorem dec30 : Dec Try.prog 30 (fun w cs (x : Cluster) => Dat.R w 0 w.heap.size cs x ∧ okCluster x) := fun en w fuel cs x h => by
  obtain ⟨hl, n, hf⟩ := struct_cells Try.underlying30 h
  obtain ⟨_, h0⟩ := hf 0 _ 0 3 24 rfl rfl rfl cof24
  obtain ⟨y0, g0, k0⟩ := dec24 en w n _ _ h0
  obtain ⟨o0_0, e0, r0_0⟩ := Graph.op g0
  obtain ⟨_, h1⟩ := hf 1 _ 3 1 25 rfl rfl rfl cof25
  obtain ⟨y1, ⟨o1, e1, r1⟩, k1⟩ := dec25 en w n _ _ h1
  obtain ⟨_, h2⟩ := hf 2 _ 4 1 26 rfl rfl rfl cof26
  obtain ⟨y2, ⟨o2, e2, r2⟩, k2⟩ := dec26 en w n _ _ h2
  obtain ⟨_, h3⟩ := hf 3 _ 5 1 27 rfl rfl rfl cof27
  obtain ⟨y3, ⟨o3, e3, r3⟩, k3⟩ := dec27 en w n _ _ h3
  obtain ⟨_, h4⟩ := hf 4 _ 6 1 28 rfl rfl rfl cof28
  obtain ⟨y4, ⟨o4, e4, r4⟩, k4⟩ := dec28 en w n _ _ h4
  rw [cof30] at hl
  match cs, hl with
  | [c0, c1, c2, c3, c4, c5, c6], _ =>
    simp [Enc.enc] at e0 e1 e2 e3 e4
    obtain ⟨rfl, rfl, rfl⟩ := e0
    subst e1
    subst e2
    subst e3
    subst e4
    exact ⟨⟨y0, y1, y2, y3, y4⟩, Cluster.mkR ⟨y0, y1, y2, y3, y4⟩ r0_0 r1 r2 (RdS.rdD r3) (RdS.rdD r4), k0, k1, k2, k3, k4⟩
end Go.Proofs.Ytcnmkphdnggclaa
