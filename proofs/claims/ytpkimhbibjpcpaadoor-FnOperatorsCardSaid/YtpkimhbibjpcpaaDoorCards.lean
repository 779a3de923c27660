/-
  DERIVED. GIVEN WITH THE SEED: THE CARDS: each row of YtpkimhbibjpcpaaDoorRows.lean that lists a variable, with what it lists TIED to the program's text (the seventh form; the later family's looks); each row that meets fmt, with fmt's text TOLD by the authors' own Lean function (tested against real Go, not proved from fmt's source: count such statements apart). THE CARD IS WHAT COUNTS. Prove the row's statement (the work); the ties are given (YtpkimhbibjpcpaaDoorTie.lean); close each card by the builder's one call (the guide's Derived/Test/ToyasCard.lean, 'card_holds'). Laid BY PROGRAM, IN A SANDBOX (cutbox-door.mjs). By AI agents, Wed Nov 11 2026. No macro, syntax, notation, axiom, sorry.
-/
import Derived.Test.YtpkimhbibjpcpaaDoorRows
import GoSem.ClaimSeven
namespace Go.Proofs.YtpkimhbibjpcpaaDoor
namespace Rows

/-- THE TIED CARD OF 'laws.FnOperators'. -/
def fnOperatorsCard : Claim7 := { stood := { row := fnOperatorsRow, standIns := [], harness := (true, "55a86463039aa0593730f3e9fbffb909d7cd61f6453c646cdb89bb1ba36613e2"), looks := false }, kinds := [], alts := [], laidByText := true, laidKinds := [.data, .data, .data], laidTests := true, laidLooks := .later }
def FnOperatorsCardSaid : Prop := Claim7.holds Tryd.pinned (.plain (OpenSpec.ofChange fnOperatorsSpec)) fnOperatorsCard

/-- THE SECOND FORM's CARD OF 'laws.FnOperators'. -/
def fnOperatorsUptoCard : Claim7 := { stood := { row := fnOperatorsUptoRow, standIns := [], harness := (true, "55a86463039aa0593730f3e9fbffb909d7cd61f6453c646cdb89bb1ba36613e2"), looks := false }, kinds := [], alts := [], laidByText := true, laidKinds := [.data, .data, .data], laidTests := true, laidLooks := .later }
def FnOperatorsUptoCardSaid : Prop := Claim7.holds Tryd.pinned (.plain (OpenSpec.upto fnOperatorsSpec)) fnOperatorsUptoCard
end Rows
end Go.Proofs.YtpkimhbibjpcpaaDoor
