/-
  DERIVED. GIVEN WITH THE SEED: THE CARDS: each row of YtiekodnojmkfaaaDoorRows.lean that lists a variable, with what it lists TIED to the program's text (the seventh form; the later family's looks); each row that meets fmt, with fmt's text TOLD by the authors' own Lean function (tested against real Go, not proved from fmt's source: count such statements apart). THE CARD IS WHAT COUNTS. Prove the row's statement (the work); the ties are given (YtiekodnojmkfaaaDoorTie.lean); close each card by the builder's one call (the guide's Derived/Test/ToyasCard.lean, 'card_holds'). Laid BY PROGRAM, IN A SANDBOX (cutbox-door.mjs). By AI agents, Wed Nov 11 2026. No macro, syntax, notation, axiom, sorry.
-/
import Derived.Test.YtiekodnojmkfaaaDoorRows
import GoSem.ClaimSeven
namespace Go.Proofs.YtiekodnojmkfaaaDoor
namespace Rows

/-- THE TIED CARD OF 'laws.FnExactLoad'. -/
def fnExactLoadCard : Claim7 := { stood := { row := fnExactLoadRow, standIns := [], harness := (true, "31ed0c44dfaa0755c16f8f4b16556a4995fcda534e11571a21e7e37b230708c6"), looks := true }, kinds := [], alts := [], laidByText := true, laidKinds := [.handle], laidTests := true, laidLooks := .later }
def FnExactLoadCardSaid : Prop := Claim7.holds Tryd.pinned (.plain (OpenSpec.ofChange fnExactLoadSpec)) fnExactLoadCard

/-- THE SECOND FORM's CARD OF 'laws.FnExactLoad'. -/
def fnExactLoadUptoCard : Claim7 := { stood := { row := fnExactLoadUptoRow, standIns := [], harness := (true, "31ed0c44dfaa0755c16f8f4b16556a4995fcda534e11571a21e7e37b230708c6"), looks := true }, kinds := [], alts := [], laidByText := true, laidKinds := [.handle], laidTests := true, laidLooks := .later }
def FnExactLoadUptoCardSaid : Prop := Claim7.holds Tryd.pinned (.plain (OpenSpec.upto fnExactLoadSpec)) fnExactLoadUptoCard
end Rows
end Go.Proofs.YtiekodnojmkfaaaDoor
