/-
  DERIVED. GIVEN WITH THE SEED: THE CARDS: each row of YtnjchhkpomakoaaDoorRows.lean that lists a variable, with what it lists TIED to the program's text (the seventh form; the later family's looks); each row that meets fmt, with fmt's text TOLD by the authors' own Lean function (tested against real Go, not proved from fmt's source: count such statements apart). THE CARD IS WHAT COUNTS. Prove the row's statement (the work); the ties are given (YtnjchhkpomakoaaDoorTie.lean); close each card by the builder's one call (the guide's Derived/Test/ToyasCard.lean, 'card_holds'). Laid BY PROGRAM, IN A SANDBOX (cutbox-door.mjs). By AI agents, Wed Nov 11 2026. No macro, syntax, notation, axiom, sorry.
-/
import Derived.Test.YtnjchhkpomakoaaDoorRows
import GoSem.ClaimSeven
namespace Go.Proofs.YtnjchhkpomakoaaDoor
namespace Rows

/-- THE TIED CARD OF 'laws.FnExactOpName'. -/
def fnExactOpNameCard : Claim7 := { stood := { row := fnExactOpNameRow, standIns := [], harness := (true, "bd3fa40867eb35f02a0952a4ca634f8028591fe70cc24b91ede42989d669e009"), looks := false }, kinds := [], alts := [], laidByText := true, laidKinds := [.widerDeep], laidTests := true, laidLooks := .later }
def FnExactOpNameCardSaid : Prop := Claim7.holds Tryd.pinned (.plain (OpenSpec.ofChange fnExactOpNameSpec)) fnExactOpNameCard

/-- THE TIED CARD OF 'laws.FnExactOpCode'. -/
def fnExactOpCodeCard : Claim7 := { stood := { row := fnExactOpCodeRow, standIns := [], harness := (true, "bd3fa40867eb35f02a0952a4ca634f8028591fe70cc24b91ede42989d669e009"), looks := false }, kinds := [], alts := [], laidByText := true, laidKinds := [.widerDeep], laidTests := true, laidLooks := .later }
def FnExactOpCodeCardSaid : Prop := Claim7.holds Tryd.pinned (.plain (OpenSpec.ofChange fnExactOpCodeSpec)) fnExactOpCodeCard

/-- THE TIED CARD OF 'laws.FnExactUnpack'. -/
def fnExactUnpackCard : Claim7 := { stood := { row := fnExactUnpackRow, standIns := [], harness := (true, "bd3fa40867eb35f02a0952a4ca634f8028591fe70cc24b91ede42989d669e009"), looks := false }, kinds := [], alts := [], laidByText := true, laidKinds := [.data], laidTests := true, laidLooks := .later }
def FnExactUnpackCardSaid : Prop := Claim7.holds Tryd.pinned (.plain (OpenSpec.ofChange fnExactUnpackSpec)) fnExactUnpackCard

/-- THE TIED CARD OF 'laws.FnExactPack'. -/
def fnExactPackCard : Claim7 := { stood := { row := fnExactPackRow, standIns := [], harness := (true, "bd3fa40867eb35f02a0952a4ca634f8028591fe70cc24b91ede42989d669e009"), looks := false }, kinds := [], alts := [], laidByText := true, laidKinds := [.data], laidTests := true, laidLooks := .later }
def FnExactPackCardSaid : Prop := Claim7.holds Tryd.pinned (.plain (OpenSpec.ofChange fnExactPackSpec)) fnExactPackCard

/-- THE TIED CARD OF 'laws.FnWire'. -/
def fnWireCard : Claim7 := { stood := { row := fnWireRow, standIns := [], harness := (true, "bd3fa40867eb35f02a0952a4ca634f8028591fe70cc24b91ede42989d669e009"), looks := false }, kinds := [], alts := [], laidByText := true, laidKinds := [.data], laidTests := true, laidLooks := .later }
def FnWireCardSaid : Prop := Claim7.holds Tryd.pinned (.plain (OpenSpec.ofChange fnWireSpec)) fnWireCard

/-- THE TIED CARD OF 'laws.FnExactShow'. -/
def fnExactShowCard : Claim7 := { stood := { row := fnExactShowRow, standIns := [], harness := (true, "bd3fa40867eb35f02a0952a4ca634f8028591fe70cc24b91ede42989d669e009"), looks := false }, kinds := [], alts := [], laidByText := true, laidKinds := [.data, .data, .data], laidTests := true, laidLooks := .later }
def FnExactShowCardSaid : Prop := Claim7.holds Tryd.pinned (.plain (OpenSpec.ofChange fnExactShowSpec)) fnExactShowCard

/-- THE SECOND FORM's CARD OF 'laws.FnExactOpName'. -/
def fnExactOpNameUptoCard : Claim7 := { stood := { row := fnExactOpNameUptoRow, standIns := [], harness := (true, "bd3fa40867eb35f02a0952a4ca634f8028591fe70cc24b91ede42989d669e009"), looks := false }, kinds := [], alts := [], laidByText := true, laidKinds := [.widerDeep], laidTests := true, laidLooks := .later }
def FnExactOpNameUptoCardSaid : Prop := Claim7.holds Tryd.pinned (.plain (OpenSpec.upto fnExactOpNameSpec)) fnExactOpNameUptoCard

/-- THE SECOND FORM's CARD OF 'laws.FnExactOpCode'. -/
def fnExactOpCodeUptoCard : Claim7 := { stood := { row := fnExactOpCodeUptoRow, standIns := [], harness := (true, "bd3fa40867eb35f02a0952a4ca634f8028591fe70cc24b91ede42989d669e009"), looks := false }, kinds := [], alts := [], laidByText := true, laidKinds := [.widerDeep], laidTests := true, laidLooks := .later }
def FnExactOpCodeUptoCardSaid : Prop := Claim7.holds Tryd.pinned (.plain (OpenSpec.upto fnExactOpCodeSpec)) fnExactOpCodeUptoCard

/-- THE SECOND FORM's CARD OF 'laws.FnExactUnpack'. -/
def fnExactUnpackUptoCard : Claim7 := { stood := { row := fnExactUnpackUptoRow, standIns := [], harness := (true, "bd3fa40867eb35f02a0952a4ca634f8028591fe70cc24b91ede42989d669e009"), looks := false }, kinds := [], alts := [], laidByText := true, laidKinds := [.data], laidTests := true, laidLooks := .later }
def FnExactUnpackUptoCardSaid : Prop := Claim7.holds Tryd.pinned (.plain (OpenSpec.upto fnExactUnpackSpec)) fnExactUnpackUptoCard

/-- THE SECOND FORM's CARD OF 'laws.FnExactPack'. -/
def fnExactPackUptoCard : Claim7 := { stood := { row := fnExactPackUptoRow, standIns := [], harness := (true, "bd3fa40867eb35f02a0952a4ca634f8028591fe70cc24b91ede42989d669e009"), looks := false }, kinds := [], alts := [], laidByText := true, laidKinds := [.data], laidTests := true, laidLooks := .later }
def FnExactPackUptoCardSaid : Prop := Claim7.holds Tryd.pinned (.plain (OpenSpec.upto fnExactPackSpec)) fnExactPackUptoCard

/-- THE SECOND FORM's CARD OF 'laws.FnWire'. -/
def fnWireUptoCard : Claim7 := { stood := { row := fnWireUptoRow, standIns := [], harness := (true, "bd3fa40867eb35f02a0952a4ca634f8028591fe70cc24b91ede42989d669e009"), looks := false }, kinds := [], alts := [], laidByText := true, laidKinds := [.data], laidTests := true, laidLooks := .later }
def FnWireUptoCardSaid : Prop := Claim7.holds Tryd.pinned (.plain (OpenSpec.upto fnWireSpec)) fnWireUptoCard

/-- THE SECOND FORM's CARD OF 'laws.FnExactShow'. -/
def fnExactShowUptoCard : Claim7 := { stood := { row := fnExactShowUptoRow, standIns := [], harness := (true, "bd3fa40867eb35f02a0952a4ca634f8028591fe70cc24b91ede42989d669e009"), looks := false }, kinds := [], alts := [], laidByText := true, laidKinds := [.data, .data, .data], laidTests := true, laidLooks := .later }
def FnExactShowUptoCardSaid : Prop := Claim7.holds Tryd.pinned (.plain (OpenSpec.upto fnExactShowSpec)) fnExactShowUptoCard
end Rows
end Go.Proofs.YtnjchhkpomakoaaDoor
