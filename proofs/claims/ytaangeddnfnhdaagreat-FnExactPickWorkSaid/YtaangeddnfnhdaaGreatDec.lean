/- What a reading of an argument tells of its cells, a theorem a type; no condition. -/
import Derived.Test.YtaangeddnfnhdaaGreatTypes
import Derived.ProofKit
namespace Go.Proofs.YtaangeddnfnhdaaGreat
open Go Go.Proofs.YtaangeddnfnhdaaGreat.X Go.Proofs
theorem ownk : ownKnob Tryz.prog.godebug = none := by kernel_rfl
theorem laidOut : laidOutB Tryz.prog = true := by kernel_rfl
theorem dec3 : Dec Tryz.prog 3 (fun _ cs (x : Int) => cs = Enc.enc x ∧ rg x) := Dec_int Tryz.underlying3
theorem cof3 : Tryz.prog.cellsOf 3 = 1 := by kernel_rfl
theorem dec66 : Dec Tryz.prog 66 (fun w cs (x : List Int) => (∃ v, cs = [v] ∧ RdL w 1 (fun cs (x : Int) => cs = Enc.enc x) v x) ∧ ∀ y ∈ x, rg y) := Vu Tryz.underlying66 cof3 (by decide) dec3
theorem cof66 : Tryz.prog.cellsOf 66 = 1 := by kernel_rfl
theorem cof133 : Tryz.prog.cellsOf 133 = 4 := by kernel_rfl
theorem dec133 : Dec Tryz.prog 133 (fun w cs (x : Node) => Dat.R w 0 w.heap.size cs x ∧ okNode x) := fun en w fuel cs x h => by
  obtain ⟨hl, n, hf⟩ := X7 Tryz.underlying133 h
  obtain ⟨_, h0⟩ := hf 0 _ 0 1 3 rfl rfl rfl cof3
  obtain ⟨y0, e0, k0⟩ := dec3 en w n _ _ h0
  obtain ⟨_, h1⟩ := hf 1 _ 1 1 3 rfl rfl rfl cof3
  obtain ⟨y1, e1, k1⟩ := dec3 en w n _ _ h1
  obtain ⟨_, h2⟩ := hf 2 _ 2 1 3 rfl rfl rfl cof3
  obtain ⟨y2, e2, k2⟩ := dec3 en w n _ _ h2
  obtain ⟨_, h3⟩ := hf 3 _ 3 1 66 rfl rfl rfl cof66
  obtain ⟨y3, ⟨o3, e3, r3⟩, k3⟩ := dec66 en w n _ _ h3
  rw [cof133] at hl
  match cs, hl with
  | [c0, c1, c2, c3], _ =>
    simp [Enc.enc] at e0 e1 e2 e3
    subst e0
    subst e1
    subst e2
    subst e3
    exact ⟨⟨y0, y1, y2, y3⟩, Node.mkR ⟨y0, y1, y2, y3⟩ (RdS.rdD r3), k0, k1, k2, k3⟩
theorem dec22 : Dec Tryz.prog 22 (fun w cs (x : List Node) => (∃ v, cs = [v] ∧ RdD w 0 w.heap.size v x) ∧ ∀ y ∈ x, okNode y) := Ae Tryz.underlying22 cof133 dec133
theorem cof22 : Tryz.prog.cellsOf 22 = 1 := by kernel_rfl
theorem cof24 : Tryz.prog.cellsOf 24 = 3 := by kernel_rfl
theorem dec24 : Dec Tryz.prog 24 (fun w cs (x : Graph) => Dat.R w 0 w.heap.size cs x ∧ okGraph x) := fun en w fuel cs x h => by
  obtain ⟨hl, n, hf⟩ := X7 Tryz.underlying24 h
  obtain ⟨_, h0⟩ := hf 0 _ 0 1 22 rfl rfl rfl cof22
  obtain ⟨y0, ⟨o0, e0, r0⟩, k0⟩ := dec22 en w n _ _ h0
  obtain ⟨_, h1⟩ := hf 1 _ 1 1 3 rfl rfl rfl cof3
  obtain ⟨y1, e1, k1⟩ := dec3 en w n _ _ h1
  obtain ⟨_, h2⟩ := hf 2 _ 2 1 3 rfl rfl rfl cof3
  obtain ⟨y2, e2, k2⟩ := dec3 en w n _ _ h2
  rw [cof24] at hl
  match cs, hl with
  | [c0, c1, c2], _ =>
    simp [Enc.enc] at e0 e1 e2
    subst e0
    subst e1
    subst e2
    exact ⟨⟨y0, y1, y2⟩, Graph.mkR ⟨y0, y1, y2⟩ r0, k0, k1, k2⟩
theorem cof180 : Tryz.prog.cellsOf 180 = 2 := by kernel_rfl
theorem dec180 : Dec Tryz.prog 180 (fun _ cs (x : Stamp) => cs = Enc.enc x ∧ okStamp x) := fun en w fuel cs x h => by
  obtain ⟨hl, n, hf⟩ := X7 Tryz.underlying180 h
  obtain ⟨_, h0⟩ := hf 0 _ 0 1 3 rfl rfl rfl cof3
  obtain ⟨y0, e0, k0⟩ := dec3 en w n _ _ h0
  obtain ⟨_, h1⟩ := hf 1 _ 1 1 3 rfl rfl rfl cof3
  obtain ⟨y1, e1, k1⟩ := dec3 en w n _ _ h1
  rw [cof180] at hl
  match cs, hl with
  | [c0, c1], _ =>
    simp [Enc.enc] at e0 e1
    subst e0
    subst e1
    exact ⟨⟨y0, y1⟩, rfl, k0, k1⟩
theorem cof182 : Tryz.prog.cellsOf 182 = 5 := by kernel_rfl
theorem dec182 : Dec Tryz.prog 182 (fun _ cs (x : Record) => cs = Enc.enc x ∧ Td x) := fun en w fuel cs x h => by
  obtain ⟨hl, n, hf⟩ := X7 Tryz.underlying182 h
  obtain ⟨_, h0⟩ := hf 0 _ 0 1 3 rfl rfl rfl cof3
  obtain ⟨y0, e0, k0⟩ := dec3 en w n _ _ h0
  obtain ⟨_, h1⟩ := hf 1 _ 1 2 180 rfl rfl rfl cof180
  obtain ⟨y1, e1, k1⟩ := dec180 en w n _ _ h1
  obtain ⟨_, h2⟩ := hf 2 _ 3 1 3 rfl rfl rfl cof3
  obtain ⟨y2, e2, k2⟩ := dec3 en w n _ _ h2
  obtain ⟨_, h3⟩ := hf 3 _ 4 1 3 rfl rfl rfl cof3
  obtain ⟨y3, e3, k3⟩ := dec3 en w n _ _ h3
  rw [cof182] at hl
  match cs, hl with
  | [c0, c1, c2, c3, c4], _ =>
    simp [Enc.enc] at e0 e1 e2 e3
    subst e0
    obtain ⟨rfl, rfl⟩ := e1
    subst e2
    subst e3
    exact ⟨⟨y0, y1, y2, y3⟩, rfl, k0, k1, k2, k3⟩
theorem dec85 : Dec Tryz.prog 85 (fun w cs (x : List Record) => (∃ v, cs = [v] ∧ RdL w 5 (fun cs (x : Record) => cs = Enc.enc x) v x) ∧ ∀ y ∈ x, Td y) := Vu Tryz.underlying85 cof182 (by decide) dec182
theorem cof184 : Tryz.prog.cellsOf 184 = 4 := by kernel_rfl
theorem dec184 : Dec Tryz.prog 184 (fun _ cs (x : Cell) => cs = Enc.enc x ∧ okCell x) := fun en w fuel cs x h => by
  obtain ⟨hl, n, hf⟩ := X7 Tryz.underlying184 h
  obtain ⟨_, h0⟩ := hf 0 _ 0 1 3 rfl rfl rfl cof3
  obtain ⟨y0, e0, k0⟩ := dec3 en w n _ _ h0
  obtain ⟨_, h1⟩ := hf 1 _ 1 1 3 rfl rfl rfl cof3
  obtain ⟨y1, e1, k1⟩ := dec3 en w n _ _ h1
  obtain ⟨_, h2⟩ := hf 2 _ 2 1 3 rfl rfl rfl cof3
  obtain ⟨y2, e2, k2⟩ := dec3 en w n _ _ h2
  obtain ⟨_, h3⟩ := hf 3 _ 3 1 3 rfl rfl rfl cof3
  obtain ⟨y3, e3, k3⟩ := dec3 en w n _ _ h3
  rw [cof184] at hl
  match cs, hl with
  | [c0, c1, c2, c3], _ =>
    simp [Enc.enc] at e0 e1 e2 e3
    subst e0
    subst e1
    subst e2
    subst e3
    exact ⟨⟨y0, y1, y2, y3⟩, rfl, k0, k1, k2, k3⟩
theorem dec86 : Dec Tryz.prog 86 (fun w cs (x : List Cell) => (∃ v, cs = [v] ∧ RdL w 4 (fun cs (x : Cell) => cs = Enc.enc x) v x) ∧ ∀ y ∈ x, okCell y) := Vu Tryz.underlying86 cof184 (by decide) dec184
theorem dec4 : Dec Tryz.prog 4 (fun _ cs (x : Bool) => cs = Enc.enc x ∧ True) := Dec_bool Tryz.underlying4
theorem cof4 : Tryz.prog.cellsOf 4 = 1 := by kernel_rfl
theorem dec67 : Dec Tryz.prog 67 (fun w cs (x : List Bool) => (∃ v, cs = [v] ∧ RdL w 1 (fun cs (x : Bool) => cs = Enc.enc x) v x) ∧ ∀ y ∈ x, True) := Vu Tryz.underlying67 cof4 (by decide) dec4
theorem cof186 : Tryz.prog.cellsOf 186 = 2 := by kernel_rfl
theorem dec186 : Dec Tryz.prog 186 (fun _ cs (x : Done) => cs = Enc.enc x ∧ okDone x) := fun en w fuel cs x h => by
  obtain ⟨hl, n, hf⟩ := X7 Tryz.underlying186 h
  obtain ⟨_, h0⟩ := hf 0 _ 0 1 3 rfl rfl rfl cof3
  obtain ⟨y0, e0, k0⟩ := dec3 en w n _ _ h0
  obtain ⟨_, h1⟩ := hf 1 _ 1 1 4 rfl rfl rfl cof4
  obtain ⟨y1, e1, k1⟩ := dec4 en w n _ _ h1
  rw [cof186] at hl
  match cs, hl with
  | [c0, c1], _ =>
    simp [Enc.enc] at e0 e1
    subst e0
    subst e1
    exact ⟨⟨y0, y1⟩, rfl, k0, k1⟩
theorem dec87 : Dec Tryz.prog 87 (fun w cs (x : List Done) => (∃ v, cs = [v] ∧ RdL w 2 (fun cs (x : Done) => cs = Enc.enc x) v x) ∧ ∀ y ∈ x, okDone y) := Vu Tryz.underlying87 cof186 (by decide) dec186
theorem cof85 : Tryz.prog.cellsOf 85 = 1 := by kernel_rfl
theorem cof86 : Tryz.prog.cellsOf 86 = 1 := by kernel_rfl
theorem cof67 : Tryz.prog.cellsOf 67 = 1 := by kernel_rfl
theorem cof87 : Tryz.prog.cellsOf 87 = 1 := by kernel_rfl
theorem cof89 : Tryz.prog.cellsOf 89 = 8 := by kernel_rfl
theorem dec89 : Dec Tryz.prog 89 (fun w cs (x : Worker) => Dat.R w 0 w.heap.size cs x ∧ Da x) := fun en w fuel cs x h => by
  obtain ⟨hl, n, hf⟩ := X7 Tryz.underlying89 h
  obtain ⟨_, h0⟩ := hf 0 _ 0 1 85 rfl rfl rfl cof85
  obtain ⟨y0, ⟨o0, e0, r0⟩, k0⟩ := dec85 en w n _ _ h0
  obtain ⟨_, h1⟩ := hf 1 _ 1 1 85 rfl rfl rfl cof85
  obtain ⟨y1, ⟨o1, e1, r1⟩, k1⟩ := dec85 en w n _ _ h1
  obtain ⟨_, h2⟩ := hf 2 _ 2 1 85 rfl rfl rfl cof85
  obtain ⟨y2, ⟨o2, e2, r2⟩, k2⟩ := dec85 en w n _ _ h2
  obtain ⟨_, h3⟩ := hf 3 _ 3 1 86 rfl rfl rfl cof86
  obtain ⟨y3, ⟨o3, e3, r3⟩, k3⟩ := dec86 en w n _ _ h3
  obtain ⟨_, h4⟩ := hf 4 _ 4 1 66 rfl rfl rfl cof66
  obtain ⟨y4, ⟨o4, e4, r4⟩, k4⟩ := dec66 en w n _ _ h4
  obtain ⟨_, h5⟩ := hf 5 _ 5 1 67 rfl rfl rfl cof67
  obtain ⟨y5, ⟨o5, e5, r5⟩, k5⟩ := dec67 en w n _ _ h5
  obtain ⟨_, h6⟩ := hf 6 _ 6 1 67 rfl rfl rfl cof67
  obtain ⟨y6, ⟨o6, e6, r6⟩, k6⟩ := dec67 en w n _ _ h6
  obtain ⟨_, h7⟩ := hf 7 _ 7 1 87 rfl rfl rfl cof87
  obtain ⟨y7, ⟨o7, e7, r7⟩, k7⟩ := dec87 en w n _ _ h7
  rw [cof89] at hl
  match cs, hl with
  | [c0, c1, c2, c3, c4, c5, c6, c7], _ =>
    simp [Enc.enc] at e0 e1 e2 e3 e4 e5 e6 e7
    subst e0
    subst e1
    subst e2
    subst e3
    subst e4
    subst e5
    subst e6
    subst e7
    exact ⟨⟨y0, y1, y2, y3, y4, y5, y6, y7⟩, Worker.mkR ⟨y0, y1, y2, y3, y4, y5, y6, y7⟩ (RdS.rdD r0) (RdS.rdD r1) (RdS.rdD r2) (RdS.rdD r3) (RdS.rdD r4) (RdS.rdD r5) (RdS.rdD r6) (RdS.rdD r7), k0, k1, k2, k3, k4, k5, k6, k7⟩
theorem dec25 : Dec Tryz.prog 25 (fun w cs (x : List Worker) => (∃ v, cs = [v] ∧ RdD w 0 w.heap.size v x) ∧ ∀ y ∈ x, Da y) := Ae Tryz.underlying25 cof89 dec89
theorem cof92 : Tryz.prog.cellsOf 92 = 6 := by kernel_rfl
theorem dec92 : Dec Tryz.prog 92 (fun w cs (x : Link) => Dat.R w 0 w.heap.size cs x ∧ okLink x) := fun en w fuel cs x h => by
  obtain ⟨hl, n, hf⟩ := X7 Tryz.underlying92 h
  obtain ⟨_, h0⟩ := hf 0 _ 0 1 3 rfl rfl rfl cof3
  obtain ⟨y0, e0, k0⟩ := dec3 en w n _ _ h0
  obtain ⟨_, h1⟩ := hf 1 _ 1 1 85 rfl rfl rfl cof85
  obtain ⟨y1, ⟨o1, e1, r1⟩, k1⟩ := dec85 en w n _ _ h1
  obtain ⟨_, h2⟩ := hf 2 _ 2 1 3 rfl rfl rfl cof3
  obtain ⟨y2, e2, k2⟩ := dec3 en w n _ _ h2
  obtain ⟨_, h3⟩ := hf 3 _ 3 1 3 rfl rfl rfl cof3
  obtain ⟨y3, e3, k3⟩ := dec3 en w n _ _ h3
  obtain ⟨_, h4⟩ := hf 4 _ 4 1 3 rfl rfl rfl cof3
  obtain ⟨y4, e4, k4⟩ := dec3 en w n _ _ h4
  obtain ⟨_, h5⟩ := hf 5 _ 5 1 3 rfl rfl rfl cof3
  obtain ⟨y5, e5, k5⟩ := dec3 en w n _ _ h5
  rw [cof92] at hl
  match cs, hl with
  | [c0, c1, c2, c3, c4, c5], _ =>
    simp [Enc.enc] at e0 e1 e2 e3 e4 e5
    subst e0
    subst e1
    subst e2
    subst e3
    subst e4
    subst e5
    exact ⟨⟨y0, y1, y2, y3, y4, y5⟩, Link.mkR ⟨y0, y1, y2, y3, y4, y5⟩ (RdS.rdD r1), k0, k1, k2, k3, k4, k5⟩
theorem dec26 : Dec Tryz.prog 26 (fun w cs (x : List Link) => (∃ v, cs = [v] ∧ RdD w 0 w.heap.size v x) ∧ ∀ y ∈ x, okLink y) := Ae Tryz.underlying26 cof92 dec92
theorem cof109 : Tryz.prog.cellsOf 109 = 5 := by kernel_rfl
theorem dec109 : Dec Tryz.prog 109 (fun _ cs (x : Token) => cs = Enc.enc x ∧ okToken x) := fun en w fuel cs x h => by
  obtain ⟨hl, n, hf⟩ := X7 Tryz.underlying109 h
  obtain ⟨_, h0⟩ := hf 0 _ 0 1 4 rfl rfl rfl cof4
  obtain ⟨y0, e0, k0⟩ := dec4 en w n _ _ h0
  obtain ⟨_, h1⟩ := hf 1 _ 1 1 3 rfl rfl rfl cof3
  obtain ⟨y1, e1, k1⟩ := dec3 en w n _ _ h1
  obtain ⟨_, h2⟩ := hf 2 _ 2 1 3 rfl rfl rfl cof3
  obtain ⟨y2, e2, k2⟩ := dec3 en w n _ _ h2
  obtain ⟨_, h3⟩ := hf 3 _ 3 1 4 rfl rfl rfl cof4
  obtain ⟨y3, e3, k3⟩ := dec4 en w n _ _ h3
  obtain ⟨_, h4⟩ := hf 4 _ 4 1 4 rfl rfl rfl cof4
  obtain ⟨y4, e4, k4⟩ := dec4 en w n _ _ h4
  rw [cof109] at hl
  match cs, hl with
  | [c0, c1, c2, c3, c4], _ =>
    simp [Enc.enc] at e0 e1 e2 e3 e4
    subst e0
    subst e1
    subst e2
    subst e3
    subst e4
    exact ⟨⟨y0, y1, y2, y3, y4⟩, rfl, k0, k1, k2, k3, k4⟩
theorem dec27 : Dec Tryz.prog 27 (fun w cs (x : List Token) => (∃ v, cs = [v] ∧ RdL w 5 (fun cs (x : Token) => cs = Enc.enc x) v x) ∧ ∀ y ∈ x, okToken y) := Vu Tryz.underlying27 cof109 (by decide) dec109
theorem cof113 : Tryz.prog.cellsOf 113 = 3 := by kernel_rfl
theorem dec113 : Dec Tryz.prog 113 (fun _ cs (x : News) => cs = Enc.enc x ∧ okNews x) := fun en w fuel cs x h => by
  obtain ⟨hl, n, hf⟩ := X7 Tryz.underlying113 h
  obtain ⟨_, h0⟩ := hf 0 _ 0 1 3 rfl rfl rfl cof3
  obtain ⟨y0, e0, k0⟩ := dec3 en w n _ _ h0
  obtain ⟨_, h1⟩ := hf 1 _ 1 1 3 rfl rfl rfl cof3
  obtain ⟨y1, e1, k1⟩ := dec3 en w n _ _ h1
  obtain ⟨_, h2⟩ := hf 2 _ 2 1 4 rfl rfl rfl cof4
  obtain ⟨y2, e2, k2⟩ := dec4 en w n _ _ h2
  rw [cof113] at hl
  match cs, hl with
  | [c0, c1, c2], _ =>
    simp [Enc.enc] at e0 e1 e2
    subst e0
    subst e1
    subst e2
    exact ⟨⟨y0, y1, y2⟩, rfl, k0, k1, k2⟩
theorem dec28 : Dec Tryz.prog 28 (fun w cs (x : List News) => (∃ v, cs = [v] ∧ RdL w 3 (fun cs (x : News) => cs = Enc.enc x) v x) ∧ ∀ y ∈ x, okNews y) := Vu Tryz.underlying28 cof113 (by decide) dec113
theorem cof25 : Tryz.prog.cellsOf 25 = 1 := by kernel_rfl
theorem cof26 : Tryz.prog.cellsOf 26 = 1 := by kernel_rfl
theorem cof27 : Tryz.prog.cellsOf 27 = 1 := by kernel_rfl
theorem cof28 : Tryz.prog.cellsOf 28 = 1 := by kernel_rfl
theorem cof30 : Tryz.prog.cellsOf 30 = 7 := by kernel_rfl
theorem dec30 : Dec Tryz.prog 30 (fun w cs (x : Cluster) => Dat.R w 0 w.heap.size cs x ∧ D5 x) := fun en w fuel cs x h => by
  obtain ⟨hl, n, hf⟩ := X7 Tryz.underlying30 h
  obtain ⟨_, h0⟩ := hf 0 _ 0 3 24 rfl rfl rfl cof24
  obtain ⟨y0, g0, k0⟩ := dec24 en w n _ _ h0
  obtain ⟨o0_0, e0, r0_0⟩ := Graph.op g0
  obtain ⟨_, h1⟩ := hf 1 _ 3 1 25 rfl rfl rfl cof25
  obtain ⟨y1, ⟨o1, e1, r1⟩, k1⟩ := dec25 en w n _ _ h1
  obtain ⟨_, h2⟩ := hf 2 _ 4 1 26 rfl rfl rfl cof26
  obtain ⟨y2, ⟨o2, e2, r2⟩, k2⟩ := dec26 en w n _ _ h2
  obtain ⟨_, h3⟩ := hf 3 _ 5 1 27 rfl rfl rfl cof27
  obtain ⟨y3, ⟨o3, e3, r3⟩, k3⟩ := dec27 en w n _ _ h3
  obtain ⟨_, h4⟩ := hf 4 _ 6 1 28 rfl rfl rfl cof28
  obtain ⟨y4, ⟨o4, e4, r4⟩, k4⟩ := dec28 en w n _ _ h4
  rw [cof30] at hl
  match cs, hl with
  | [c0, c1, c2, c3, c4, c5, c6], _ =>
    simp [Enc.enc] at e0 e1 e2 e3 e4
    obtain ⟨rfl, rfl, rfl⟩ := e0
    subst e1
    subst e2
    subst e3
    subst e4
    exact ⟨⟨y0, y1, y2, y3, y4⟩, Cluster.mkR ⟨y0, y1, y2, y3, y4⟩ r0_0 r1 r2 (RdS.rdD r3) (RdS.rdD r4), k0, k1, k2, k3, k4⟩
end Go.Proofs.YtaangeddnfnhdaaGreat
