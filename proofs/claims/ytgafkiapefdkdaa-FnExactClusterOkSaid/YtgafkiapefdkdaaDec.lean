/- What a reading of an argument tells of its cells, a theorem a type; no condition. -/
import Derived.Test.YtgafkiapefdkdaaTypes
import Derived.ProofKit
namespace Go.Proofs.Ytgafkiapefdkdaa
open Go Go.Proofs.Ytgafkiapefdkdaa.X Go.Proofs
theorem ownk : ownKnob Try.prog.godebug = none := by kernel_rfl
theorem laidOut : laidOutB Try.prog = true := by kernel_rfl
theorem dec3 : Dec Try.prog 3 (fun _ cs (x : Int) => cs = Enc.enc x ∧ rg x) := Dec_int Try.underlying3
theorem cof3 : Try.prog.cellsOf 3 = 1 := by kernel_rfl
theorem dec54 : Dec Try.prog 54 (fun w cs (x : List Int) => (∃ v, cs = [v] ∧ RdL w 1 (fun cs (x : Int) => cs = Enc.enc x) v x) ∧ ∀ y ∈ x, rg y) := Dec_sliceO Try.underlying54 cof3 (by decide) dec3
theorem cof54 : Try.prog.cellsOf 54 = 1 := by kernel_rfl
theorem cof115 : Try.prog.cellsOf 115 = 4 := by kernel_rfl
theorem dec115 : Dec Try.prog 115 (fun w cs (x : Node) => Dat.R w 0 w.heap.size cs x ∧ okNode x) := fun en w fuel cs x h => by
  obtain ⟨hl, n, hf⟩ := struct_cells Try.underlying115 h
  obtain ⟨_, h0⟩ := hf 0 _ 0 1 3 rfl rfl rfl cof3
  obtain ⟨y0, e0, k0⟩ := dec3 en w n _ _ h0
  obtain ⟨_, h1⟩ := hf 1 _ 1 1 3 rfl rfl rfl cof3
  obtain ⟨y1, e1, k1⟩ := dec3 en w n _ _ h1
  obtain ⟨_, h2⟩ := hf 2 _ 2 1 3 rfl rfl rfl cof3
  obtain ⟨y2, e2, k2⟩ := dec3 en w n _ _ h2
  obtain ⟨_, h3⟩ := hf 3 _ 3 1 54 rfl rfl rfl cof54
  obtain ⟨y3, ⟨o3, e3, r3⟩, k3⟩ := dec54 en w n _ _ h3
  rw [cof115] at hl
  match cs, hl with
  | [c0, c1, c2, c3], _ =>
    simp [Enc.enc] at e0 e1 e2 e3
    subst e0
    subst e1
    subst e2
    subst e3
    exact ⟨⟨y0, y1, y2, y3⟩, Node.mkR ⟨y0, y1, y2, y3⟩ (RdS.rdD r3), k0, k1, k2, k3⟩
theorem dec22 : Dec Try.prog 22 (fun w cs (x : List Node) => (∃ v, cs = [v] ∧ RdD w 0 w.heap.size v x) ∧ ∀ y ∈ x, okNode y) := Dec_sliceD Try.underlying22 cof115 dec115
theorem cof22 : Try.prog.cellsOf 22 = 1 := by kernel_rfl
theorem cof24 : Try.prog.cellsOf 24 = 3 := by kernel_rfl
theorem dec24 : Dec Try.prog 24 (fun w cs (x : Graph) => Dat.R w 0 w.heap.size cs x ∧ okGraph x) := fun en w fuel cs x h => by
  obtain ⟨hl, n, hf⟩ := struct_cells Try.underlying24 h
  obtain ⟨_, h0⟩ := hf 0 _ 0 1 22 rfl rfl rfl cof22
  obtain ⟨y0, ⟨o0, e0, r0⟩, k0⟩ := dec22 en w n _ _ h0
  obtain ⟨_, h1⟩ := hf 1 _ 1 1 3 rfl rfl rfl cof3
  obtain ⟨y1, e1, k1⟩ := dec3 en w n _ _ h1
  obtain ⟨_, h2⟩ := hf 2 _ 2 1 3 rfl rfl rfl cof3
  obtain ⟨y2, e2, k2⟩ := dec3 en w n _ _ h2
  rw [cof24] at hl
  match cs, hl with
  | [c0, c1, c2], _ =>
    simp [Enc.enc] at e0 e1 e2
    subst e0
    subst e1
    subst e2
    exact ⟨⟨y0, y1, y2⟩, Graph.mkR ⟨y0, y1, y2⟩ r0, k0, k1, k2⟩
theorem cof142 : Try.prog.cellsOf 142 = 2 := by kernel_rfl
theorem dec142 : Dec Try.prog 142 (fun _ cs (x : Stamp) => cs = Enc.enc x ∧ okStamp x) := fun en w fuel cs x h => by
  obtain ⟨hl, n, hf⟩ := struct_cells Try.underlying142 h
  obtain ⟨_, h0⟩ := hf 0 _ 0 1 3 rfl rfl rfl cof3
  obtain ⟨y0, e0, k0⟩ := dec3 en w n _ _ h0
  obtain ⟨_, h1⟩ := hf 1 _ 1 1 3 rfl rfl rfl cof3
  obtain ⟨y1, e1, k1⟩ := dec3 en w n _ _ h1
  rw [cof142] at hl
  match cs, hl with
  | [c0, c1], _ =>
    simp [Enc.enc] at e0 e1
    subst e0
    subst e1
    exact ⟨⟨y0, y1⟩, rfl, k0, k1⟩
theorem cof144 : Try.prog.cellsOf 144 = 5 := by kernel_rfl
theorem dec144 : Dec Try.prog 144 (fun _ cs (x : Record) => cs = Enc.enc x ∧ okRecord x) := fun en w fuel cs x h => by
  obtain ⟨hl, n, hf⟩ := struct_cells Try.underlying144 h
  obtain ⟨_, h0⟩ := hf 0 _ 0 1 3 rfl rfl rfl cof3
  obtain ⟨y0, e0, k0⟩ := dec3 en w n _ _ h0
  obtain ⟨_, h1⟩ := hf 1 _ 1 2 142 rfl rfl rfl cof142
  obtain ⟨y1, e1, k1⟩ := dec142 en w n _ _ h1
  obtain ⟨_, h2⟩ := hf 2 _ 3 1 3 rfl rfl rfl cof3
  obtain ⟨y2, e2, k2⟩ := dec3 en w n _ _ h2
  obtain ⟨_, h3⟩ := hf 3 _ 4 1 3 rfl rfl rfl cof3
  obtain ⟨y3, e3, k3⟩ := dec3 en w n _ _ h3
  rw [cof144] at hl
  match cs, hl with
  | [c0, c1, c2, c3, c4], _ =>
    simp [Enc.enc] at e0 e1 e2 e3
    subst e0
    obtain ⟨rfl, rfl⟩ := e1
    subst e2
    subst e3
    exact ⟨⟨y0, y1, y2, y3⟩, rfl, k0, k1, k2, k3⟩
theorem dec80 : Dec Try.prog 80 (fun w cs (x : List Record) => (∃ v, cs = [v] ∧ RdL w 5 (fun cs (x : Record) => cs = Enc.enc x) v x) ∧ ∀ y ∈ x, okRecord y) := Dec_sliceO Try.underlying80 cof144 (by decide) dec144
theorem cof146 : Try.prog.cellsOf 146 = 4 := by kernel_rfl
theorem dec146 : Dec Try.prog 146 (fun _ cs (x : Cell) => cs = Enc.enc x ∧ okCell x) := fun en w fuel cs x h => by
  obtain ⟨hl, n, hf⟩ := struct_cells Try.underlying146 h
  obtain ⟨_, h0⟩ := hf 0 _ 0 1 3 rfl rfl rfl cof3
  obtain ⟨y0, e0, k0⟩ := dec3 en w n _ _ h0
  obtain ⟨_, h1⟩ := hf 1 _ 1 1 3 rfl rfl rfl cof3
  obtain ⟨y1, e1, k1⟩ := dec3 en w n _ _ h1
  obtain ⟨_, h2⟩ := hf 2 _ 2 1 3 rfl rfl rfl cof3
  obtain ⟨y2, e2, k2⟩ := dec3 en w n _ _ h2
  obtain ⟨_, h3⟩ := hf 3 _ 3 1 3 rfl rfl rfl cof3
  obtain ⟨y3, e3, k3⟩ := dec3 en w n _ _ h3
  rw [cof146] at hl
  match cs, hl with
  | [c0, c1, c2, c3], _ =>
    simp [Enc.enc] at e0 e1 e2 e3
    subst e0
    subst e1
    subst e2
    subst e3
    exact ⟨⟨y0, y1, y2, y3⟩, rfl, k0, k1, k2, k3⟩
theorem dec81 : Dec Try.prog 81 (fun w cs (x : List Cell) => (∃ v, cs = [v] ∧ RdL w 4 (fun cs (x : Cell) => cs = Enc.enc x) v x) ∧ ∀ y ∈ x, okCell y) := Dec_sliceO Try.underlying81 cof146 (by decide) dec146
theorem dec4 : Dec Try.prog 4 (fun _ cs (x : Bool) => cs = Enc.enc x ∧ True) := Dec_bool Try.underlying4
theorem cof4 : Try.prog.cellsOf 4 = 1 := by kernel_rfl
theorem dec55 : Dec Try.prog 55 (fun w cs (x : List Bool) => (∃ v, cs = [v] ∧ RdL w 1 (fun cs (x : Bool) => cs = Enc.enc x) v x) ∧ ∀ y ∈ x, True) := Dec_sliceO Try.underlying55 cof4 (by decide) dec4
theorem cof148 : Try.prog.cellsOf 148 = 2 := by kernel_rfl
theorem dec148 : Dec Try.prog 148 (fun _ cs (x : Done) => cs = Enc.enc x ∧ okDone x) := fun en w fuel cs x h => by
  obtain ⟨hl, n, hf⟩ := struct_cells Try.underlying148 h
  obtain ⟨_, h0⟩ := hf 0 _ 0 1 3 rfl rfl rfl cof3
  obtain ⟨y0, e0, k0⟩ := dec3 en w n _ _ h0
  obtain ⟨_, h1⟩ := hf 1 _ 1 1 4 rfl rfl rfl cof4
  obtain ⟨y1, e1, k1⟩ := dec4 en w n _ _ h1
  rw [cof148] at hl
  match cs, hl with
  | [c0, c1], _ =>
    simp [Enc.enc] at e0 e1
    subst e0
    subst e1
    exact ⟨⟨y0, y1⟩, rfl, k0, k1⟩
theorem dec82 : Dec Try.prog 82 (fun w cs (x : List Done) => (∃ v, cs = [v] ∧ RdL w 2 (fun cs (x : Done) => cs = Enc.enc x) v x) ∧ ∀ y ∈ x, okDone y) := Dec_sliceO Try.underlying82 cof148 (by decide) dec148
theorem cof80 : Try.prog.cellsOf 80 = 1 := by kernel_rfl
theorem cof81 : Try.prog.cellsOf 81 = 1 := by kernel_rfl
theorem cof55 : Try.prog.cellsOf 55 = 1 := by kernel_rfl
theorem cof82 : Try.prog.cellsOf 82 = 1 := by kernel_rfl
theorem cof84 : Try.prog.cellsOf 84 = 8 := by kernel_rfl
theorem dec84 : Dec Try.prog 84 (fun w cs (x : Worker) => Dat.R w 0 w.heap.size cs x ∧ okWorker x) := fun en w fuel cs x h => by
  obtain ⟨hl, n, hf⟩ := struct_cells Try.underlying84 h
  obtain ⟨_, h0⟩ := hf 0 _ 0 1 80 rfl rfl rfl cof80
  obtain ⟨y0, ⟨o0, e0, r0⟩, k0⟩ := dec80 en w n _ _ h0
  obtain ⟨_, h1⟩ := hf 1 _ 1 1 80 rfl rfl rfl cof80
  obtain ⟨y1, ⟨o1, e1, r1⟩, k1⟩ := dec80 en w n _ _ h1
  obtain ⟨_, h2⟩ := hf 2 _ 2 1 80 rfl rfl rfl cof80
  obtain ⟨y2, ⟨o2, e2, r2⟩, k2⟩ := dec80 en w n _ _ h2
  obtain ⟨_, h3⟩ := hf 3 _ 3 1 81 rfl rfl rfl cof81
  obtain ⟨y3, ⟨o3, e3, r3⟩, k3⟩ := dec81 en w n _ _ h3
  obtain ⟨_, h4⟩ := hf 4 _ 4 1 54 rfl rfl rfl cof54
  obtain ⟨y4, ⟨o4, e4, r4⟩, k4⟩ := dec54 en w n _ _ h4
  obtain ⟨_, h5⟩ := hf 5 _ 5 1 55 rfl rfl rfl cof55
  obtain ⟨y5, ⟨o5, e5, r5⟩, k5⟩ := dec55 en w n _ _ h5
  obtain ⟨_, h6⟩ := hf 6 _ 6 1 55 rfl rfl rfl cof55
  obtain ⟨y6, ⟨o6, e6, r6⟩, k6⟩ := dec55 en w n _ _ h6
  obtain ⟨_, h7⟩ := hf 7 _ 7 1 82 rfl rfl rfl cof82
  obtain ⟨y7, ⟨o7, e7, r7⟩, k7⟩ := dec82 en w n _ _ h7
  rw [cof84] at hl
  match cs, hl with
  | [c0, c1, c2, c3, c4, c5, c6, c7], _ =>
    simp [Enc.enc] at e0 e1 e2 e3 e4 e5 e6 e7
    subst e0
    subst e1
    subst e2
    subst e3
    subst e4
    subst e5
    subst e6
    subst e7
    exact ⟨⟨y0, y1, y2, y3, y4, y5, y6, y7⟩, Worker.mkR ⟨y0, y1, y2, y3, y4, y5, y6, y7⟩ (RdS.rdD r0) (RdS.rdD r1) (RdS.rdD r2) (RdS.rdD r3) (RdS.rdD r4) (RdS.rdD r5) (RdS.rdD r6) (RdS.rdD r7), k0, k1, k2, k3, k4, k5, k6, k7⟩
theorem dec25 : Dec Try.prog 25 (fun w cs (x : List Worker) => (∃ v, cs = [v] ∧ RdD w 0 w.heap.size v x) ∧ ∀ y ∈ x, okWorker y) := Dec_sliceD Try.underlying25 cof84 dec84
theorem cof87 : Try.prog.cellsOf 87 = 6 := by kernel_rfl
theorem dec87 : Dec Try.prog 87 (fun w cs (x : Link) => Dat.R w 0 w.heap.size cs x ∧ okLink x) := fun en w fuel cs x h => by
  obtain ⟨hl, n, hf⟩ := struct_cells Try.underlying87 h
  obtain ⟨_, h0⟩ := hf 0 _ 0 1 3 rfl rfl rfl cof3
  obtain ⟨y0, e0, k0⟩ := dec3 en w n _ _ h0
  obtain ⟨_, h1⟩ := hf 1 _ 1 1 80 rfl rfl rfl cof80
  obtain ⟨y1, ⟨o1, e1, r1⟩, k1⟩ := dec80 en w n _ _ h1
  obtain ⟨_, h2⟩ := hf 2 _ 2 1 3 rfl rfl rfl cof3
  obtain ⟨y2, e2, k2⟩ := dec3 en w n _ _ h2
  obtain ⟨_, h3⟩ := hf 3 _ 3 1 3 rfl rfl rfl cof3
  obtain ⟨y3, e3, k3⟩ := dec3 en w n _ _ h3
  obtain ⟨_, h4⟩ := hf 4 _ 4 1 3 rfl rfl rfl cof3
  obtain ⟨y4, e4, k4⟩ := dec3 en w n _ _ h4
  obtain ⟨_, h5⟩ := hf 5 _ 5 1 3 rfl rfl rfl cof3
  obtain ⟨y5, e5, k5⟩ := dec3 en w n _ _ h5
  rw [cof87] at hl
  match cs, hl with
  | [c0, c1, c2, c3, c4, c5], _ =>
    simp [Enc.enc] at e0 e1 e2 e3 e4 e5
    subst e0
    subst e1
    subst e2
    subst e3
    subst e4
    subst e5
    exact ⟨⟨y0, y1, y2, y3, y4, y5⟩, Link.mkR ⟨y0, y1, y2, y3, y4, y5⟩ (RdS.rdD r1), k0, k1, k2, k3, k4, k5⟩
theorem dec26 : Dec Try.prog 26 (fun w cs (x : List Link) => (∃ v, cs = [v] ∧ RdD w 0 w.heap.size v x) ∧ ∀ y ∈ x, okLink y) := Dec_sliceD Try.underlying26 cof87 dec87
theorem cof103 : Try.prog.cellsOf 103 = 5 := by kernel_rfl
theorem dec103 : Dec Try.prog 103 (fun _ cs (x : Token) => cs = Enc.enc x ∧ okToken x) := fun en w fuel cs x h => by
  obtain ⟨hl, n, hf⟩ := struct_cells Try.underlying103 h
  obtain ⟨_, h0⟩ := hf 0 _ 0 1 4 rfl rfl rfl cof4
  obtain ⟨y0, e0, k0⟩ := dec4 en w n _ _ h0
  obtain ⟨_, h1⟩ := hf 1 _ 1 1 3 rfl rfl rfl cof3
  obtain ⟨y1, e1, k1⟩ := dec3 en w n _ _ h1
  obtain ⟨_, h2⟩ := hf 2 _ 2 1 3 rfl rfl rfl cof3
  obtain ⟨y2, e2, k2⟩ := dec3 en w n _ _ h2
  obtain ⟨_, h3⟩ := hf 3 _ 3 1 4 rfl rfl rfl cof4
  obtain ⟨y3, e3, k3⟩ := dec4 en w n _ _ h3
  obtain ⟨_, h4⟩ := hf 4 _ 4 1 4 rfl rfl rfl cof4
  obtain ⟨y4, e4, k4⟩ := dec4 en w n _ _ h4
  rw [cof103] at hl
  match cs, hl with
  | [c0, c1, c2, c3, c4], _ =>
    simp [Enc.enc] at e0 e1 e2 e3 e4
    subst e0
    subst e1
    subst e2
    subst e3
    subst e4
    exact ⟨⟨y0, y1, y2, y3, y4⟩, rfl, k0, k1, k2, k3, k4⟩
theorem dec27 : Dec Try.prog 27 (fun w cs (x : List Token) => (∃ v, cs = [v] ∧ RdL w 5 (fun cs (x : Token) => cs = Enc.enc x) v x) ∧ ∀ y ∈ x, okToken y) := Dec_sliceO Try.underlying27 cof103 (by decide) dec103
theorem cof105 : Try.prog.cellsOf 105 = 3 := by kernel_rfl
theorem dec105 : Dec Try.prog 105 (fun _ cs (x : News) => cs = Enc.enc x ∧ okNews x) := fun en w fuel cs x h => by
  obtain ⟨hl, n, hf⟩ := struct_cells Try.underlying105 h
  obtain ⟨_, h0⟩ := hf 0 _ 0 1 3 rfl rfl rfl cof3
  obtain ⟨y0, e0, k0⟩ := dec3 en w n _ _ h0
  obtain ⟨_, h1⟩ := hf 1 _ 1 1 3 rfl rfl rfl cof3
  obtain ⟨y1, e1, k1⟩ := dec3 en w n _ _ h1
  obtain ⟨_, h2⟩ := hf 2 _ 2 1 4 rfl rfl rfl cof4
  obtain ⟨y2, e2, k2⟩ := dec4 en w n _ _ h2
  rw [cof105] at hl
  match cs, hl with
  | [c0, c1, c2], _ =>
    simp [Enc.enc] at e0 e1 e2
    subst e0
    subst e1
    subst e2
    exact ⟨⟨y0, y1, y2⟩, rfl, k0, k1, k2⟩
theorem dec28 : Dec Try.prog 28 (fun w cs (x : List News) => (∃ v, cs = [v] ∧ RdL w 3 (fun cs (x : News) => cs = Enc.enc x) v x) ∧ ∀ y ∈ x, okNews y) := Dec_sliceO Try.underlying28 cof105 (by decide) dec105
theorem cof25 : Try.prog.cellsOf 25 = 1 := by kernel_rfl
theorem cof26 : Try.prog.cellsOf 26 = 1 := by kernel_rfl
theorem cof27 : Try.prog.cellsOf 27 = 1 := by kernel_rfl
theorem cof28 : Try.prog.cellsOf 28 = 1 := by kernel_rfl
theorem cof30 : Try.prog.cellsOf 30 = 7 := by kernel_rfl
theorem dec30 : Dec Try.prog 30 (fun w cs (x : Cluster) => Dat.R w 0 w.heap.size cs x ∧ okCluster x) := fun en w fuel cs x h => by
  obtain ⟨hl, n, hf⟩ := struct_cells Try.underlying30 h
  obtain ⟨_, h0⟩ := hf 0 _ 0 3 24 rfl rfl rfl cof24
  obtain ⟨y0, g0, k0⟩ := dec24 en w n _ _ h0
  obtain ⟨o0_0, e0, r0_0⟩ := Graph.op g0
  obtain ⟨_, h1⟩ := hf 1 _ 3 1 25 rfl rfl rfl cof25
  obtain ⟨y1, ⟨o1, e1, r1⟩, k1⟩ := dec25 en w n _ _ h1
  obtain ⟨_, h2⟩ := hf 2 _ 4 1 26 rfl rfl rfl cof26
  obtain ⟨y2, ⟨o2, e2, r2⟩, k2⟩ := dec26 en w n _ _ h2
  obtain ⟨_, h3⟩ := hf 3 _ 5 1 27 rfl rfl rfl cof27
  obtain ⟨y3, ⟨o3, e3, r3⟩, k3⟩ := dec27 en w n _ _ h3
  obtain ⟨_, h4⟩ := hf 4 _ 6 1 28 rfl rfl rfl cof28
  obtain ⟨y4, ⟨o4, e4, r4⟩, k4⟩ := dec28 en w n _ _ h4
  rw [cof30] at hl
  match cs, hl with
  | [c0, c1, c2, c3, c4, c5, c6], _ =>
    simp [Enc.enc] at e0 e1 e2 e3 e4
    obtain ⟨rfl, rfl, rfl⟩ := e0
    subst e1
    subst e2
    subst e3
    subst e4
    exact ⟨⟨y0, y1, y2, y3, y4⟩, Cluster.mkR ⟨y0, y1, y2, y3, y4⟩ r0_0 r1 r2 (RdS.rdD r3) (RdS.rdD r4), k0, k1, k2, k3, k4⟩
end Go.Proofs.Ytgafkiapefdkdaa
