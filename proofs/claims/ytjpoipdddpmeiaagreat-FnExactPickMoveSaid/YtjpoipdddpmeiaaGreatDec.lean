/- What a reading of an argument tells of its cells, a theorem a type; no condition. -/
import Derived.Test.YtjpoipdddpmeiaaGreatTypes
import Derived.ProofKit
namespace Go.Proofs.YtjpoipdddpmeiaaGreat
open Go Go.Proofs.YtjpoipdddpmeiaaGreat.X Go.Proofs
theorem ownk : ownKnob Tryz.prog.godebug = none := by kernel_rfl
theorem laidOut : laidOutB Tryz.prog = true := by kernel_rfl
theorem dec3 : Dec Tryz.prog 3 (fun _ cs (x : Int) => cs = Enc.enc x ∧ rg x) := Dec_int Tryz.underlying3
theorem cof3 : Tryz.prog.cellsOf 3 = 1 := by kernel_rfl
theorem dec76 : Dec Tryz.prog 76 (fun w cs (x : List Int) => (∃ v, cs = [v] ∧ RdL w 1 (fun cs (x : Int) => cs = Enc.enc x) v x) ∧ ∀ y ∈ x, rg y) := Vq Tryz.underlying76 cof3 (by decide) dec3
theorem cof76 : Tryz.prog.cellsOf 76 = 1 := by kernel_rfl
theorem cof143 : Tryz.prog.cellsOf 143 = 4 := by kernel_rfl
theorem dec143 : Dec Tryz.prog 143 (fun w cs (x : Node) => Dat.R w 0 w.heap.size cs x ∧ okNode x) := fun en w fuel cs x h => by
  obtain ⟨hl, n, hf⟩ := X7 Tryz.underlying143 h
  obtain ⟨_, h0⟩ := hf 0 _ 0 1 3 rfl rfl rfl cof3
  obtain ⟨y0, e0, k0⟩ := dec3 en w n _ _ h0
  obtain ⟨_, h1⟩ := hf 1 _ 1 1 3 rfl rfl rfl cof3
  obtain ⟨y1, e1, k1⟩ := dec3 en w n _ _ h1
  obtain ⟨_, h2⟩ := hf 2 _ 2 1 3 rfl rfl rfl cof3
  obtain ⟨y2, e2, k2⟩ := dec3 en w n _ _ h2
  obtain ⟨_, h3⟩ := hf 3 _ 3 1 76 rfl rfl rfl cof76
  obtain ⟨y3, ⟨o3, e3, r3⟩, k3⟩ := dec76 en w n _ _ h3
  rw [cof143] at hl
  match cs, hl with
  | [c0, c1, c2, c3], _ =>
    simp [Enc.enc] at e0 e1 e2 e3
    subst e0
    subst e1
    subst e2
    subst e3
    exact ⟨⟨y0, y1, y2, y3⟩, Node.mkR ⟨y0, y1, y2, y3⟩ (RdS.rdD r3), k0, k1, k2, k3⟩
theorem dec22 : Dec Tryz.prog 22 (fun w cs (x : List Node) => (∃ v, cs = [v] ∧ RdD w 0 w.heap.size v x) ∧ ∀ y ∈ x, okNode y) := C8 Tryz.underlying22 cof143 dec143
theorem cof22 : Tryz.prog.cellsOf 22 = 1 := by kernel_rfl
theorem cof24 : Tryz.prog.cellsOf 24 = 3 := by kernel_rfl
theorem dec24 : Dec Tryz.prog 24 (fun w cs (x : Graph) => Dat.R w 0 w.heap.size cs x ∧ okGraph x) := fun en w fuel cs x h => by
  obtain ⟨hl, n, hf⟩ := X7 Tryz.underlying24 h
  obtain ⟨_, h0⟩ := hf 0 _ 0 1 22 rfl rfl rfl cof22
  obtain ⟨y0, ⟨o0, e0, r0⟩, k0⟩ := dec22 en w n _ _ h0
  obtain ⟨_, h1⟩ := hf 1 _ 1 1 3 rfl rfl rfl cof3
  obtain ⟨y1, e1, k1⟩ := dec3 en w n _ _ h1
  obtain ⟨_, h2⟩ := hf 2 _ 2 1 3 rfl rfl rfl cof3
  obtain ⟨y2, e2, k2⟩ := dec3 en w n _ _ h2
  rw [cof24] at hl
  match cs, hl with
  | [c0, c1, c2], _ =>
    simp [Enc.enc] at e0 e1 e2
    subst e0
    subst e1
    subst e2
    exact ⟨⟨y0, y1, y2⟩, Graph.mkR ⟨y0, y1, y2⟩ r0, k0, k1, k2⟩
theorem cof176 : Tryz.prog.cellsOf 176 = 2 := by kernel_rfl
theorem dec176 : Dec Tryz.prog 176 (fun _ cs (x : Stamp) => cs = Enc.enc x ∧ okStamp x) := fun en w fuel cs x h => by
  obtain ⟨hl, n, hf⟩ := X7 Tryz.underlying176 h
  obtain ⟨_, h0⟩ := hf 0 _ 0 1 3 rfl rfl rfl cof3
  obtain ⟨y0, e0, k0⟩ := dec3 en w n _ _ h0
  obtain ⟨_, h1⟩ := hf 1 _ 1 1 3 rfl rfl rfl cof3
  obtain ⟨y1, e1, k1⟩ := dec3 en w n _ _ h1
  rw [cof176] at hl
  match cs, hl with
  | [c0, c1], _ =>
    simp [Enc.enc] at e0 e1
    subst e0
    subst e1
    exact ⟨⟨y0, y1⟩, rfl, k0, k1⟩
theorem cof178 : Tryz.prog.cellsOf 178 = 5 := by kernel_rfl
theorem dec178 : Dec Tryz.prog 178 (fun _ cs (x : Record) => cs = Enc.enc x ∧ Ht x) := fun en w fuel cs x h => by
  obtain ⟨hl, n, hf⟩ := X7 Tryz.underlying178 h
  obtain ⟨_, h0⟩ := hf 0 _ 0 1 3 rfl rfl rfl cof3
  obtain ⟨y0, e0, k0⟩ := dec3 en w n _ _ h0
  obtain ⟨_, h1⟩ := hf 1 _ 1 2 176 rfl rfl rfl cof176
  obtain ⟨y1, e1, k1⟩ := dec176 en w n _ _ h1
  obtain ⟨_, h2⟩ := hf 2 _ 3 1 3 rfl rfl rfl cof3
  obtain ⟨y2, e2, k2⟩ := dec3 en w n _ _ h2
  obtain ⟨_, h3⟩ := hf 3 _ 4 1 3 rfl rfl rfl cof3
  obtain ⟨y3, e3, k3⟩ := dec3 en w n _ _ h3
  rw [cof178] at hl
  match cs, hl with
  | [c0, c1, c2, c3, c4], _ =>
    simp [Enc.enc] at e0 e1 e2 e3
    subst e0
    obtain ⟨rfl, rfl⟩ := e1
    subst e2
    subst e3
    exact ⟨⟨y0, y1, y2, y3⟩, rfl, k0, k1, k2, k3⟩
theorem dec103 : Dec Tryz.prog 103 (fun w cs (x : List Record) => (∃ v, cs = [v] ∧ RdL w 5 (fun cs (x : Record) => cs = Enc.enc x) v x) ∧ ∀ y ∈ x, Ht y) := Vq Tryz.underlying103 cof178 (by decide) dec178
theorem cof180 : Tryz.prog.cellsOf 180 = 4 := by kernel_rfl
theorem dec180 : Dec Tryz.prog 180 (fun _ cs (x : Cell) => cs = Enc.enc x ∧ okCell x) := fun en w fuel cs x h => by
  obtain ⟨hl, n, hf⟩ := X7 Tryz.underlying180 h
  obtain ⟨_, h0⟩ := hf 0 _ 0 1 3 rfl rfl rfl cof3
  obtain ⟨y0, e0, k0⟩ := dec3 en w n _ _ h0
  obtain ⟨_, h1⟩ := hf 1 _ 1 1 3 rfl rfl rfl cof3
  obtain ⟨y1, e1, k1⟩ := dec3 en w n _ _ h1
  obtain ⟨_, h2⟩ := hf 2 _ 2 1 3 rfl rfl rfl cof3
  obtain ⟨y2, e2, k2⟩ := dec3 en w n _ _ h2
  obtain ⟨_, h3⟩ := hf 3 _ 3 1 3 rfl rfl rfl cof3
  obtain ⟨y3, e3, k3⟩ := dec3 en w n _ _ h3
  rw [cof180] at hl
  match cs, hl with
  | [c0, c1, c2, c3], _ =>
    simp [Enc.enc] at e0 e1 e2 e3
    subst e0
    subst e1
    subst e2
    subst e3
    exact ⟨⟨y0, y1, y2, y3⟩, rfl, k0, k1, k2, k3⟩
theorem dec104 : Dec Tryz.prog 104 (fun w cs (x : List Cell) => (∃ v, cs = [v] ∧ RdL w 4 (fun cs (x : Cell) => cs = Enc.enc x) v x) ∧ ∀ y ∈ x, okCell y) := Vq Tryz.underlying104 cof180 (by decide) dec180
theorem dec4 : Dec Tryz.prog 4 (fun _ cs (x : Bool) => cs = Enc.enc x ∧ True) := Dec_bool Tryz.underlying4
theorem cof4 : Tryz.prog.cellsOf 4 = 1 := by kernel_rfl
theorem dec77 : Dec Tryz.prog 77 (fun w cs (x : List Bool) => (∃ v, cs = [v] ∧ RdL w 1 (fun cs (x : Bool) => cs = Enc.enc x) v x) ∧ ∀ y ∈ x, True) := Vq Tryz.underlying77 cof4 (by decide) dec4
theorem cof182 : Tryz.prog.cellsOf 182 = 2 := by kernel_rfl
theorem dec182 : Dec Tryz.prog 182 (fun _ cs (x : Done) => cs = Enc.enc x ∧ okDone x) := fun en w fuel cs x h => by
  obtain ⟨hl, n, hf⟩ := X7 Tryz.underlying182 h
  obtain ⟨_, h0⟩ := hf 0 _ 0 1 3 rfl rfl rfl cof3
  obtain ⟨y0, e0, k0⟩ := dec3 en w n _ _ h0
  obtain ⟨_, h1⟩ := hf 1 _ 1 1 4 rfl rfl rfl cof4
  obtain ⟨y1, e1, k1⟩ := dec4 en w n _ _ h1
  rw [cof182] at hl
  match cs, hl with
  | [c0, c1], _ =>
    simp [Enc.enc] at e0 e1
    subst e0
    subst e1
    exact ⟨⟨y0, y1⟩, rfl, k0, k1⟩
theorem dec105 : Dec Tryz.prog 105 (fun w cs (x : List Done) => (∃ v, cs = [v] ∧ RdL w 2 (fun cs (x : Done) => cs = Enc.enc x) v x) ∧ ∀ y ∈ x, okDone y) := Vq Tryz.underlying105 cof182 (by decide) dec182
theorem cof103 : Tryz.prog.cellsOf 103 = 1 := by kernel_rfl
theorem cof104 : Tryz.prog.cellsOf 104 = 1 := by kernel_rfl
theorem cof77 : Tryz.prog.cellsOf 77 = 1 := by kernel_rfl
theorem cof105 : Tryz.prog.cellsOf 105 = 1 := by kernel_rfl
theorem cof107 : Tryz.prog.cellsOf 107 = 8 := by kernel_rfl
theorem dec107 : Dec Tryz.prog 107 (fun w cs (x : Worker) => Dat.R w 0 w.heap.size cs x ∧ Bp x) := fun en w fuel cs x h => by
  obtain ⟨hl, n, hf⟩ := X7 Tryz.underlying107 h
  obtain ⟨_, h0⟩ := hf 0 _ 0 1 103 rfl rfl rfl cof103
  obtain ⟨y0, ⟨o0, e0, r0⟩, k0⟩ := dec103 en w n _ _ h0
  obtain ⟨_, h1⟩ := hf 1 _ 1 1 103 rfl rfl rfl cof103
  obtain ⟨y1, ⟨o1, e1, r1⟩, k1⟩ := dec103 en w n _ _ h1
  obtain ⟨_, h2⟩ := hf 2 _ 2 1 103 rfl rfl rfl cof103
  obtain ⟨y2, ⟨o2, e2, r2⟩, k2⟩ := dec103 en w n _ _ h2
  obtain ⟨_, h3⟩ := hf 3 _ 3 1 104 rfl rfl rfl cof104
  obtain ⟨y3, ⟨o3, e3, r3⟩, k3⟩ := dec104 en w n _ _ h3
  obtain ⟨_, h4⟩ := hf 4 _ 4 1 76 rfl rfl rfl cof76
  obtain ⟨y4, ⟨o4, e4, r4⟩, k4⟩ := dec76 en w n _ _ h4
  obtain ⟨_, h5⟩ := hf 5 _ 5 1 77 rfl rfl rfl cof77
  obtain ⟨y5, ⟨o5, e5, r5⟩, k5⟩ := dec77 en w n _ _ h5
  obtain ⟨_, h6⟩ := hf 6 _ 6 1 77 rfl rfl rfl cof77
  obtain ⟨y6, ⟨o6, e6, r6⟩, k6⟩ := dec77 en w n _ _ h6
  obtain ⟨_, h7⟩ := hf 7 _ 7 1 105 rfl rfl rfl cof105
  obtain ⟨y7, ⟨o7, e7, r7⟩, k7⟩ := dec105 en w n _ _ h7
  rw [cof107] at hl
  match cs, hl with
  | [c0, c1, c2, c3, c4, c5, c6, c7], _ =>
    simp [Enc.enc] at e0 e1 e2 e3 e4 e5 e6 e7
    subst e0
    subst e1
    subst e2
    subst e3
    subst e4
    subst e5
    subst e6
    subst e7
    exact ⟨⟨y0, y1, y2, y3, y4, y5, y6, y7⟩, Worker.mkR ⟨y0, y1, y2, y3, y4, y5, y6, y7⟩ (RdS.rdD r0) (RdS.rdD r1) (RdS.rdD r2) (RdS.rdD r3) (RdS.rdD r4) (RdS.rdD r5) (RdS.rdD r6) (RdS.rdD r7), k0, k1, k2, k3, k4, k5, k6, k7⟩
theorem dec25 : Dec Tryz.prog 25 (fun w cs (x : List Worker) => (∃ v, cs = [v] ∧ RdD w 0 w.heap.size v x) ∧ ∀ y ∈ x, Bp y) := C8 Tryz.underlying25 cof107 dec107
theorem cof110 : Tryz.prog.cellsOf 110 = 6 := by kernel_rfl
theorem dec110 : Dec Tryz.prog 110 (fun w cs (x : Link) => Dat.R w 0 w.heap.size cs x ∧ okLink x) := fun en w fuel cs x h => by
  obtain ⟨hl, n, hf⟩ := X7 Tryz.underlying110 h
  obtain ⟨_, h0⟩ := hf 0 _ 0 1 3 rfl rfl rfl cof3
  obtain ⟨y0, e0, k0⟩ := dec3 en w n _ _ h0
  obtain ⟨_, h1⟩ := hf 1 _ 1 1 103 rfl rfl rfl cof103
  obtain ⟨y1, ⟨o1, e1, r1⟩, k1⟩ := dec103 en w n _ _ h1
  obtain ⟨_, h2⟩ := hf 2 _ 2 1 3 rfl rfl rfl cof3
  obtain ⟨y2, e2, k2⟩ := dec3 en w n _ _ h2
  obtain ⟨_, h3⟩ := hf 3 _ 3 1 3 rfl rfl rfl cof3
  obtain ⟨y3, e3, k3⟩ := dec3 en w n _ _ h3
  obtain ⟨_, h4⟩ := hf 4 _ 4 1 3 rfl rfl rfl cof3
  obtain ⟨y4, e4, k4⟩ := dec3 en w n _ _ h4
  obtain ⟨_, h5⟩ := hf 5 _ 5 1 3 rfl rfl rfl cof3
  obtain ⟨y5, e5, k5⟩ := dec3 en w n _ _ h5
  rw [cof110] at hl
  match cs, hl with
  | [c0, c1, c2, c3, c4, c5], _ =>
    simp [Enc.enc] at e0 e1 e2 e3 e4 e5
    subst e0
    subst e1
    subst e2
    subst e3
    subst e4
    subst e5
    exact ⟨⟨y0, y1, y2, y3, y4, y5⟩, Link.mkR ⟨y0, y1, y2, y3, y4, y5⟩ (RdS.rdD r1), k0, k1, k2, k3, k4, k5⟩
theorem dec26 : Dec Tryz.prog 26 (fun w cs (x : List Link) => (∃ v, cs = [v] ∧ RdD w 0 w.heap.size v x) ∧ ∀ y ∈ x, okLink y) := C8 Tryz.underlying26 cof110 dec110
theorem cof119 : Tryz.prog.cellsOf 119 = 5 := by kernel_rfl
theorem dec119 : Dec Tryz.prog 119 (fun _ cs (x : Token) => cs = Enc.enc x ∧ okToken x) := fun en w fuel cs x h => by
  obtain ⟨hl, n, hf⟩ := X7 Tryz.underlying119 h
  obtain ⟨_, h0⟩ := hf 0 _ 0 1 4 rfl rfl rfl cof4
  obtain ⟨y0, e0, k0⟩ := dec4 en w n _ _ h0
  obtain ⟨_, h1⟩ := hf 1 _ 1 1 3 rfl rfl rfl cof3
  obtain ⟨y1, e1, k1⟩ := dec3 en w n _ _ h1
  obtain ⟨_, h2⟩ := hf 2 _ 2 1 3 rfl rfl rfl cof3
  obtain ⟨y2, e2, k2⟩ := dec3 en w n _ _ h2
  obtain ⟨_, h3⟩ := hf 3 _ 3 1 4 rfl rfl rfl cof4
  obtain ⟨y3, e3, k3⟩ := dec4 en w n _ _ h3
  obtain ⟨_, h4⟩ := hf 4 _ 4 1 4 rfl rfl rfl cof4
  obtain ⟨y4, e4, k4⟩ := dec4 en w n _ _ h4
  rw [cof119] at hl
  match cs, hl with
  | [c0, c1, c2, c3, c4], _ =>
    simp [Enc.enc] at e0 e1 e2 e3 e4
    subst e0
    subst e1
    subst e2
    subst e3
    subst e4
    exact ⟨⟨y0, y1, y2, y3, y4⟩, rfl, k0, k1, k2, k3, k4⟩
theorem dec27 : Dec Tryz.prog 27 (fun w cs (x : List Token) => (∃ v, cs = [v] ∧ RdL w 5 (fun cs (x : Token) => cs = Enc.enc x) v x) ∧ ∀ y ∈ x, okToken y) := Vq Tryz.underlying27 cof119 (by decide) dec119
theorem cof123 : Tryz.prog.cellsOf 123 = 3 := by kernel_rfl
theorem dec123 : Dec Tryz.prog 123 (fun _ cs (x : News) => cs = Enc.enc x ∧ okNews x) := fun en w fuel cs x h => by
  obtain ⟨hl, n, hf⟩ := X7 Tryz.underlying123 h
  obtain ⟨_, h0⟩ := hf 0 _ 0 1 3 rfl rfl rfl cof3
  obtain ⟨y0, e0, k0⟩ := dec3 en w n _ _ h0
  obtain ⟨_, h1⟩ := hf 1 _ 1 1 3 rfl rfl rfl cof3
  obtain ⟨y1, e1, k1⟩ := dec3 en w n _ _ h1
  obtain ⟨_, h2⟩ := hf 2 _ 2 1 4 rfl rfl rfl cof4
  obtain ⟨y2, e2, k2⟩ := dec4 en w n _ _ h2
  rw [cof123] at hl
  match cs, hl with
  | [c0, c1, c2], _ =>
    simp [Enc.enc] at e0 e1 e2
    subst e0
    subst e1
    subst e2
    exact ⟨⟨y0, y1, y2⟩, rfl, k0, k1, k2⟩
theorem dec28 : Dec Tryz.prog 28 (fun w cs (x : List News) => (∃ v, cs = [v] ∧ RdL w 3 (fun cs (x : News) => cs = Enc.enc x) v x) ∧ ∀ y ∈ x, okNews y) := Vq Tryz.underlying28 cof123 (by decide) dec123
theorem cof25 : Tryz.prog.cellsOf 25 = 1 := by kernel_rfl
theorem cof26 : Tryz.prog.cellsOf 26 = 1 := by kernel_rfl
theorem cof27 : Tryz.prog.cellsOf 27 = 1 := by kernel_rfl
theorem cof28 : Tryz.prog.cellsOf 28 = 1 := by kernel_rfl
theorem cof30 : Tryz.prog.cellsOf 30 = 7 := by kernel_rfl
theorem dec30 : Dec Tryz.prog 30 (fun w cs (x : Cluster) => Dat.R w 0 w.heap.size cs x ∧ Dn x) := fun en w fuel cs x h => by
  obtain ⟨hl, n, hf⟩ := X7 Tryz.underlying30 h
  obtain ⟨_, h0⟩ := hf 0 _ 0 3 24 rfl rfl rfl cof24
  obtain ⟨y0, g0, k0⟩ := dec24 en w n _ _ h0
  obtain ⟨o0_0, e0, r0_0⟩ := Graph.op g0
  obtain ⟨_, h1⟩ := hf 1 _ 3 1 25 rfl rfl rfl cof25
  obtain ⟨y1, ⟨o1, e1, r1⟩, k1⟩ := dec25 en w n _ _ h1
  obtain ⟨_, h2⟩ := hf 2 _ 4 1 26 rfl rfl rfl cof26
  obtain ⟨y2, ⟨o2, e2, r2⟩, k2⟩ := dec26 en w n _ _ h2
  obtain ⟨_, h3⟩ := hf 3 _ 5 1 27 rfl rfl rfl cof27
  obtain ⟨y3, ⟨o3, e3, r3⟩, k3⟩ := dec27 en w n _ _ h3
  obtain ⟨_, h4⟩ := hf 4 _ 6 1 28 rfl rfl rfl cof28
  obtain ⟨y4, ⟨o4, e4, r4⟩, k4⟩ := dec28 en w n _ _ h4
  rw [cof30] at hl
  match cs, hl with
  | [c0, c1, c2, c3, c4, c5, c6], _ =>
    simp [Enc.enc] at e0 e1 e2 e3 e4
    obtain ⟨rfl, rfl, rfl⟩ := e0
    subst e1
    subst e2
    subst e3
    subst e4
    exact ⟨⟨y0, y1, y2, y3, y4⟩, Cluster.mkR ⟨y0, y1, y2, y3, y4⟩ r0_0 r1 r2 (RdS.rdD r3) (RdS.rdD r4), k0, k1, k2, k3, k4⟩
end Go.Proofs.YtjpoipdddpmeiaaGreat
