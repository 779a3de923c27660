/- What a reading of an argument tells of its cells, a theorem a type; no condition. -/
import Derived.Test.YtcgfmicadcdinaaTypes
import Derived.ProofKit
namespace Go.Proofs.Ytcgfmicadcdinaa
open Go Go.Proofs.Ytcgfmicadcdinaa.X Go.Proofs
theorem ownk : ownKnob Try.prog.godebug = none := by kernel_rfl
theorem laidOut : laidOutB Try.prog = true := by kernel_rfl
theorem dec3 : Dec Try.prog 3 (fun _ cs (x : Int) => cs = Enc.enc x ∧ rg x) := Dec_int Try.underlying3
theorem cof3 : Try.prog.cellsOf 3 = 1 := by kernel_rfl
theorem dec58 : Dec Try.prog 58 (fun w cs (x : List Int) => (∃ v, cs = [v] ∧ RdL w 1 (fun cs (x : Int) => cs = Enc.enc x) v x) ∧ ∀ y ∈ x, rg y) := Dec_sliceO Try.underlying58 cof3 (by decide) dec3
theorem cof58 : Try.prog.cellsOf 58 = 1 := by kernel_rfl
theorem cof88 : Try.prog.cellsOf 88 = 4 := by kernel_rfl
theorem dec88 : Dec Try.prog 88 (fun w cs (x : Node) => Dat.R w 0 w.heap.size cs x ∧ okNode x) := fun en w fuel cs x h => by
  obtain ⟨hl, n, hf⟩ := struct_cells Try.underlying88 h
  obtain ⟨_, h0⟩ := hf 0 _ 0 1 3 rfl rfl rfl cof3
  obtain ⟨y0, e0, k0⟩ := dec3 en w n _ _ h0
  obtain ⟨_, h1⟩ := hf 1 _ 1 1 3 rfl rfl rfl cof3
  obtain ⟨y1, e1, k1⟩ := dec3 en w n _ _ h1
  obtain ⟨_, h2⟩ := hf 2 _ 2 1 3 rfl rfl rfl cof3
  obtain ⟨y2, e2, k2⟩ := dec3 en w n _ _ h2
  obtain ⟨_, h3⟩ := hf 3 _ 3 1 58 rfl rfl rfl cof58
  obtain ⟨y3, ⟨o3, e3, r3⟩, k3⟩ := dec58 en w n _ _ h3
  rw [cof88] at hl
  match cs, hl with
  | [c0, c1, c2, c3], _ =>
    simp [Enc.enc] at e0 e1 e2 e3
    subst e0
    subst e1
    subst e2
    subst e3
    exact ⟨⟨y0, y1, y2, y3⟩, Node.mkR ⟨y0, y1, y2, y3⟩ (RdS.rdD r3), k0, k1, k2, k3⟩
theorem dec22 : Dec Try.prog 22 (fun w cs (x : List Node) => (∃ v, cs = [v] ∧ RdD w 0 w.heap.size v x) ∧ ∀ y ∈ x, okNode y) := Dec_sliceD Try.underlying22 cof88 dec88
theorem cof22 : Try.prog.cellsOf 22 = 1 := by kernel_rfl
theorem cof24 : Try.prog.cellsOf 24 = 3 := by kernel_rfl
theorem dec24 : Dec Try.prog 24 (fun w cs (x : Graph) => Dat.R w 0 w.heap.size cs x ∧ okGraph x) := fun en w fuel cs x h => by
  obtain ⟨hl, n, hf⟩ := struct_cells Try.underlying24 h
  obtain ⟨_, h0⟩ := hf 0 _ 0 1 22 rfl rfl rfl cof22
  obtain ⟨y0, ⟨o0, e0, r0⟩, k0⟩ := dec22 en w n _ _ h0
  obtain ⟨_, h1⟩ := hf 1 _ 1 1 3 rfl rfl rfl cof3
  obtain ⟨y1, e1, k1⟩ := dec3 en w n _ _ h1
  obtain ⟨_, h2⟩ := hf 2 _ 2 1 3 rfl rfl rfl cof3
  obtain ⟨y2, e2, k2⟩ := dec3 en w n _ _ h2
  rw [cof24] at hl
  match cs, hl with
  | [c0, c1, c2], _ =>
    simp [Enc.enc] at e0 e1 e2
    subst e0
    subst e1
    subst e2
    exact ⟨⟨y0, y1, y2⟩, Graph.mkR ⟨y0, y1, y2⟩ r0, k0, k1, k2⟩
theorem cof70 : Try.prog.cellsOf 70 = 2 := by kernel_rfl
theorem dec70 : Dec Try.prog 70 (fun _ cs (x : Stamp) => cs = Enc.enc x ∧ okStamp x) := fun en w fuel cs x h => by
  obtain ⟨hl, n, hf⟩ := struct_cells Try.underlying70 h
  obtain ⟨_, h0⟩ := hf 0 _ 0 1 3 rfl rfl rfl cof3
  obtain ⟨y0, e0, k0⟩ := dec3 en w n _ _ h0
  obtain ⟨_, h1⟩ := hf 1 _ 1 1 3 rfl rfl rfl cof3
  obtain ⟨y1, e1, k1⟩ := dec3 en w n _ _ h1
  rw [cof70] at hl
  match cs, hl with
  | [c0, c1], _ =>
    simp [Enc.enc] at e0 e1
    subst e0
    subst e1
    exact ⟨⟨y0, y1⟩, rfl, k0, k1⟩
theorem cof72 : Try.prog.cellsOf 72 = 5 := by kernel_rfl
theorem dec72 : Dec Try.prog 72 (fun _ cs (x : Record) => cs = Enc.enc x ∧ okRecord x) := fun en w fuel cs x h => by
  obtain ⟨hl, n, hf⟩ := struct_cells Try.underlying72 h
  obtain ⟨_, h0⟩ := hf 0 _ 0 1 3 rfl rfl rfl cof3
  obtain ⟨y0, e0, k0⟩ := dec3 en w n _ _ h0
  obtain ⟨_, h1⟩ := hf 1 _ 1 2 70 rfl rfl rfl cof70
  obtain ⟨y1, e1, k1⟩ := dec70 en w n _ _ h1
  obtain ⟨_, h2⟩ := hf 2 _ 3 1 3 rfl rfl rfl cof3
  obtain ⟨y2, e2, k2⟩ := dec3 en w n _ _ h2
  obtain ⟨_, h3⟩ := hf 3 _ 4 1 3 rfl rfl rfl cof3
  obtain ⟨y3, e3, k3⟩ := dec3 en w n _ _ h3
  rw [cof72] at hl
  match cs, hl with
  | [c0, c1, c2, c3, c4], _ =>
    simp [Enc.enc] at e0 e1 e2 e3
    subst e0
    obtain ⟨rfl, rfl⟩ := e1
    subst e2
    subst e3
    exact ⟨⟨y0, y1, y2, y3⟩, rfl, k0, k1, k2, k3⟩
theorem dec25 : Dec Try.prog 25 (fun w cs (x : List Record) => (∃ v, cs = [v] ∧ RdL w 5 (fun cs (x : Record) => cs = Enc.enc x) v x) ∧ ∀ y ∈ x, okRecord y) := Dec_sliceO Try.underlying25 cof72 (by decide) dec72
end Go.Proofs.Ytcgfmicadcdinaa
