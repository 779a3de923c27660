/-
  No cell of these rows narrows 'for every input' (looked for: loops, veiled, ifaces, maps, wideKeys, modest, calm, conditions, laid).
  DERIVED. THE GIVEN ROWS OF THIS SEAT. 2 by the template 'for every input the law returns true; each argument reads behind the call as it read before'; 0 by the template 'total and deterministic' (their statements: YtbnoffhbponglaaGreatTotals.lean).
  GIVEN WITH THE SEED: the statements are not yours to turn. If you find one false, say at which input.
  Laid BY PROGRAM, IN A SANDBOX (cutbox-rows.mjs): the forced cells as the released guide's own fill.sh prints them over the translation 5e5ed86a3dcb2519… (all of the seat's roots in one cut). By AI agents, Wed Nov 11 2026. No macro, syntax, notation, axiom, sorry.
-/
import Derived.Test.YtbnoffhbponglaaGreatChecked
import GoSem.Claim
import GoSem.ClaimJoined
import GoSem.ClaimMapViews
import Derived.JoinedTies
import Derived.KernelRfl
namespace Go.Proofs.YtbnoffhbponglaaGreat
/- THE CELL 'sum', in the pinned program and in every row, IS THE sha256 OF THE DUMP (.gsa) THAT YtbnoffhbponglaaGreatProg.lean LOADS. Nothing in Lean hashes anything: it is a label: what it is worth is what the hold of that sum in a sandbox is worth. -/
noncomputable def Tryz.pinned : Pinned := { name := "ytbnoffhbponglaagreat", sum := "5e5ed86a3dcb251964312d4cd5affb1e4d7756386f377b90a329974830dab98d", checked := Tryz.checked }
namespace Rows
def none {H : Type} : Left H := { results := [], args := [] }

/-- 'laws.FnExactPickInput': WHATEVER THE INPUT: true; the input reads as it did. -/
def fnExactPickInputSpec : ChangeSpec := { name := "fnExactPickInput", fn := fun _ => fun
  | [d1, d2] => { results := [.lit (.bool true)], args := [d1, d2] }
  | _ => none }
def fnExactPickInputRow : OpenClaim := { program := "ytbnoffhbponglaagreat", sum := "5e5ed86a3dcb251964312d4cd5affb1e4d7756386f377b90a329974830dab98d", func := "loop.example/g00973/laws.FnExactPickInput", spec := "fnExactPickInput", unfollowed := true, recurses := true, apart := false }
def FnExactPickInputSaid : Prop := fnExactPickInputRow.holds Tryz.pinned (OpenSpec.ofChange fnExactPickInputSpec)

/-- ITS FALSE NEIGHBOUR: 'it returns false'. Refute it at one input. -/
def fnExactPickInputWrong : ChangeSpec := { name := "fnExactPickInput", fn := fun _ => fun
  | [d1, d2] => { results := [.lit (.bool false)], args := [d1, d2] }
  | _ => none }
def FnExactPickInputWrongFalsely : Prop := fnExactPickInputRow.holds Tryz.pinned (OpenSpec.ofChange fnExactPickInputWrong)

/-- 'laws.FnExactPickCredit': WHATEVER THE INPUT: true; the input reads as it did. -/
def fnExactPickCreditSpec : ChangeSpec := { name := "fnExactPickCredit", fn := fun _ => fun
  | [d1, d2, d3] => { results := [.lit (.bool true)], args := [d1, d2, d3] }
  | _ => none }
def fnExactPickCreditRow : OpenClaim := { program := "ytbnoffhbponglaagreat", sum := "5e5ed86a3dcb251964312d4cd5affb1e4d7756386f377b90a329974830dab98d", func := "loop.example/g00973/laws.FnExactPickCredit", spec := "fnExactPickCredit", unfollowed := true, recurses := true, apart := false }
def FnExactPickCreditSaid : Prop := fnExactPickCreditRow.holds Tryz.pinned (OpenSpec.ofChange fnExactPickCreditSpec)

/-- ITS FALSE NEIGHBOUR: 'it returns false'. Refute it at one input. -/
def fnExactPickCreditWrong : ChangeSpec := { name := "fnExactPickCredit", fn := fun _ => fun
  | [d1, d2, d3] => { results := [.lit (.bool false)], args := [d1, d2, d3] }
  | _ => none }
def FnExactPickCreditWrongFalsely : Prop := fnExactPickCreditRow.holds Tryz.pinned (OpenSpec.ofChange fnExactPickCreditWrong)

/- THE SECOND FORM. 'bulk': how many values and letters a reading holds, each counted each time it is reached (what is shared counts as often as it is met; a slice's spare places count too). A statement '..UptoSaid' is the law's where the arguments, and the package variables that the reading takes, are together of bulk at most 1048576: NARROWER than '..Said'. Prove '..Said' where nothing that the law and all that it calls make is longer than what came in: it says more and counts as full. Else prove '..UptoSaid'. A law counts once. -/
mutual
def uptoBulk {H : Type} : DataW H → Nat
  | .lit (.string bytes) => bytes.length + 1
  | .lit _ => 1
  | .nil => 1
  | .ptr d => uptoBulk d + 1
  | .slice elems spare => uptoBulkAll elems + uptoBulkAll spare + 1
  | .agg parts => uptoBulkAll parts + 1
  | .iface _ d => uptoBulk d + 1
  | .map entries => uptoBulkEntries entries + 1
  | .held _ => 1
def uptoBulkAll {H : Type} : List (DataW H) → Nat
  | [] => 0
  | d :: r => uptoBulk d + uptoBulkAll r
def uptoBulkEntries {H : Type} : List (Lit × DataW H) → Nat
  | [] => 0
  | x :: r => uptoBulkEntry x + uptoBulkEntries r
def uptoBulkEntry {H : Type} : Lit × DataW H → Nat
  | (.string bytes, d) => bytes.length + uptoBulk d + 1
  | (_, d) => uptoBulk d + 1
 end
def uptoSmall : (H : Type) → List (DataW H) → Bool := fun _ ds => decide (uptoBulkAll ds ≤ 1048576)
def OpenSpec.upto (s : _root_.Go.ChangeSpec) : _root_.Go.OpenSpec := { _root_.Go.OpenSpec.ofChange s with cond := some uptoSmall }

/-- 'laws.FnExactPickInput', WHERE WHAT IT READS IS OF BULK AT MOST 1048576: true; the input reads as it did. -/
def fnExactPickInputUptoRow : OpenClaim := { program := "ytbnoffhbponglaagreat", sum := "5e5ed86a3dcb251964312d4cd5affb1e4d7756386f377b90a329974830dab98d", func := "loop.example/g00973/laws.FnExactPickInput", spec := "fnExactPickInput", unfollowed := true, recurses := true, apart := false, narrowed := true }
def FnExactPickInputUptoSaid : Prop := fnExactPickInputUptoRow.holds Tryz.pinned (OpenSpec.upto fnExactPickInputSpec)

/-- 'laws.FnExactPickCredit', WHERE WHAT IT READS IS OF BULK AT MOST 1048576: true; the input reads as it did. -/
def fnExactPickCreditUptoRow : OpenClaim := { program := "ytbnoffhbponglaagreat", sum := "5e5ed86a3dcb251964312d4cd5affb1e4d7756386f377b90a329974830dab98d", func := "loop.example/g00973/laws.FnExactPickCredit", spec := "fnExactPickCredit", unfollowed := true, recurses := true, apart := false, narrowed := true }
def FnExactPickCreditUptoSaid : Prop := fnExactPickCreditUptoRow.holds Tryz.pinned (OpenSpec.upto fnExactPickCreditSpec)

end Rows
end Go.Proofs.YtbnoffhbponglaaGreat
