/- What a reading of an argument tells of its cells, a theorem a type; no condition. -/
import Derived.Test.YtgoknbbdihbnlaaTypes
import Derived.ProofKit
namespace Go.Proofs.Ytgoknbbdihbnlaa
open Go Go.Proofs.Ytgoknbbdihbnlaa.X Go.Proofs
theorem ownk : ownKnob Try.prog.godebug = none := by kernel_rfl
theorem laidOut : laidOutB Try.prog = true := by kernel_rfl
theorem dec3 : Dec Try.prog 3 (fun _ cs (x : Int) => cs = Enc.enc x ∧ rg x) := Dec_int Try.underlying3
theorem cof3 : Try.prog.cellsOf 3 = 1 := by kernel_rfl
theorem cof43 : Try.prog.cellsOf 43 = 2 := by kernel_rfl
theorem dec43 : Dec Try.prog 43 (fun _ cs (x : Stamp) => cs = Enc.enc x ∧ okStamp x) := fun en w fuel cs x h => by
  obtain ⟨hl, n, hf⟩ := struct_cells Try.underlying43 h
  obtain ⟨_, h0⟩ := hf 0 _ 0 1 3 rfl rfl rfl cof3
  obtain ⟨y0, e0, k0⟩ := dec3 en w n _ _ h0
  obtain ⟨_, h1⟩ := hf 1 _ 1 1 3 rfl rfl rfl cof3
  obtain ⟨y1, e1, k1⟩ := dec3 en w n _ _ h1
  rw [cof43] at hl
  match cs, hl with
  | [c0, c1], _ =>
    simp [Enc.enc] at e0 e1
    subst e0
    subst e1
    exact ⟨⟨y0, y1⟩, rfl, k0, k1⟩
theorem cof45 : Try.prog.cellsOf 45 = 5 := by kernel_rfl
theorem dec45 : Dec Try.prog 45 (fun _ cs (x : Record) => cs = Enc.enc x ∧ okRecord x) := fun en w fuel cs x h => by
  obtain ⟨hl, n, hf⟩ := struct_cells Try.underlying45 h
  obtain ⟨_, h0⟩ := hf 0 _ 0 1 3 rfl rfl rfl cof3
  obtain ⟨y0, e0, k0⟩ := dec3 en w n _ _ h0
  obtain ⟨_, h1⟩ := hf 1 _ 1 2 43 rfl rfl rfl cof43
  obtain ⟨y1, e1, k1⟩ := dec43 en w n _ _ h1
  obtain ⟨_, h2⟩ := hf 2 _ 3 1 3 rfl rfl rfl cof3
  obtain ⟨y2, e2, k2⟩ := dec3 en w n _ _ h2
  obtain ⟨_, h3⟩ := hf 3 _ 4 1 3 rfl rfl rfl cof3
  obtain ⟨y3, e3, k3⟩ := dec3 en w n _ _ h3
  rw [cof45] at hl
  match cs, hl with
  | [c0, c1, c2, c3, c4], _ =>
    simp [Enc.enc] at e0 e1 e2 e3
    subst e0
    obtain ⟨rfl, rfl⟩ := e1
    subst e2
    subst e3
    exact ⟨⟨y0, y1, y2, y3⟩, rfl, k0, k1, k2, k3⟩
theorem dec22 : Dec Try.prog 22 (fun w cs (x : List Record) => (∃ v, cs = [v] ∧ RdL w 5 (fun cs (x : Record) => cs = Enc.enc x) v x) ∧ ∀ y ∈ x, okRecord y) := Dec_sliceO Try.underlying22 cof45 (by decide) dec45
end Go.Proofs.Ytgoknbbdihbnlaa
