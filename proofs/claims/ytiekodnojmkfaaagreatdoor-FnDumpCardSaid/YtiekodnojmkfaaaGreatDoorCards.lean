/-
  DERIVED. GIVEN WITH THE SEED: THE CARDS: each row of YtiekodnojmkfaaaGreatDoorRows.lean that lists a variable, with what it lists TIED to the program's text (the seventh form; the later family's looks); each row that meets fmt, with fmt's text TOLD by the authors' own Lean function (tested against real Go, not proved from fmt's source: count such statements apart). THE CARD IS WHAT COUNTS. Prove the row's statement (the work); the ties are given (YtiekodnojmkfaaaGreatDoorTie.lean); close each card by the builder's one call (the guide's Derived/Test/ToyasCard.lean, 'card_holds'). Laid BY PROGRAM, IN A SANDBOX (cutbox-door.mjs). By AI agents, Wed Nov 11 2026. No macro, syntax, notation, axiom, sorry.
-/
import Derived.Test.YtiekodnojmkfaaaGreatDoorRows
import GoSem.ClaimSeven
namespace Go.Proofs.YtiekodnojmkfaaaGreatDoor
namespace Rows

/-- THE TIED CARD OF 'laws.FnDump'. -/
def fnDumpCard : Claim7 := { stood := { row := fnDumpRow, standIns := [], harness := (true, "1fff764ddc8b4eff299cc5db367280568a51c6c0fbc48eb721dbdaed4599cbbd"), looks := true }, kinds := [], alts := [], laidByText := true, laidKinds := [.handle], laidTests := true, laidLooks := .later }
def FnDumpCardSaid : Prop := Claim7.holds Tryz.pinned (.plain (OpenSpec.ofChange fnDumpSpec)) fnDumpCard

/-- THE TIED CARD OF 'laws.FnLoad'. -/
def fnLoadCard : Claim7 := { stood := { row := fnLoadRow, standIns := [], harness := (true, "1fff764ddc8b4eff299cc5db367280568a51c6c0fbc48eb721dbdaed4599cbbd"), looks := true }, kinds := [], alts := [], laidByText := true, laidKinds := [.handle], laidTests := true, laidLooks := .later }
def FnLoadCardSaid : Prop := Claim7.holds Tryz.pinned (.plain (OpenSpec.ofChange fnLoadSpec)) fnLoadCard

/-- THE SECOND FORM's CARD OF 'laws.FnDump'. -/
def fnDumpUptoCard : Claim7 := { stood := { row := fnDumpUptoRow, standIns := [], harness := (true, "1fff764ddc8b4eff299cc5db367280568a51c6c0fbc48eb721dbdaed4599cbbd"), looks := true }, kinds := [], alts := [], laidByText := true, laidKinds := [.handle], laidTests := true, laidLooks := .later }
def FnDumpUptoCardSaid : Prop := Claim7.holds Tryz.pinned (.plain (OpenSpec.upto fnDumpSpec)) fnDumpUptoCard

/-- THE SECOND FORM's CARD OF 'laws.FnLoad'. -/
def fnLoadUptoCard : Claim7 := { stood := { row := fnLoadUptoRow, standIns := [], harness := (true, "1fff764ddc8b4eff299cc5db367280568a51c6c0fbc48eb721dbdaed4599cbbd"), looks := true }, kinds := [], alts := [], laidByText := true, laidKinds := [.handle], laidTests := true, laidLooks := .later }
def FnLoadUptoCardSaid : Prop := Claim7.holds Tryz.pinned (.plain (OpenSpec.upto fnLoadSpec)) fnLoadUptoCard
end Rows
end Go.Proofs.YtiekodnojmkfaaaGreatDoor
