-- Written by this session's own program over the kit's print: contracts by hand stand among the printed ones. Lean checks it.
import Derived.Test.YtnjchhkpomakoaaDoorProg
import Derived.Below
import Derived.Deep.Draws
import Derived.Deep.AppendLies
import Derived.Maps.AppendAt
import Derived.OwnWalk
import Derived.Laws.BytesArg
import Derived.Laws.MakeOwn
import Derived.Laws.OwnMore
import Derived.Deep.OwnRows
import Derived.Tactics
import Derived.Lib.ConvBytes
import Derived.Laws.Slices
import Derived.WalkKit
import Derived.KernelRfl
import Derived.RowKit3
import Derived.Deep.LoopGhost
import Derived.Deep.QuietTactic
import Derived.BigQuiet
import Derived.WideLaws
import Derived.Deep.DeepCutAuto
import Derived.Deep.CutBlock
import Derived.Deep.RegionHeld3
import Derived.Laws.Rows
import Derived.Lib.AppendStr
import Derived.ArgAppend
import Derived.Laws.IdiomCopy
import Derived.OrdersHeld
import Derived.Laws.BitsLemmas
import Derived.RowKit
import Derived.LoopN
import Derived.WalkLawsBesides
import Derived.Handy
import Derived.Test.YtnjchhkpomakoaaDoorWWords
import Derived.Test.YtnjchhkpomakoaaDoorWLast
import Derived.Test.YtnjchhkpomakoaaDoorWTab
import Derived.Test.YtnjchhkpomakoaaDoorWFour
import Derived.Test.YtnjchhkpomakoaaDoorWQPut
import Derived.Test.YtnjchhkpomakoaaDoorWApart
import Derived.Test.YtnjchhkpomakoaaDoorWArr
import Derived.Test.YtnjchhkpomakoaaDoorWZeros
import Derived.Test.YtnjchhkpomakoaaDoorWFoot
import Derived.Test.YtnjchhkpomakoaaDoorWKept
import Derived.Test.YtnjchhkpomakoaaDoorWShare
import Derived.Test.YtnjchhkpomakoaaDoorWN
import Derived.Test.YtnjchhkpomakoaaDoorWFootNe
import Derived.Test.YtnjchhkpomakoaaDoorWAt
import Derived.Test.YtnjchhkpomakoaaDoorWEqStruct
import Derived.Test.YtnjchhkpomakoaaDoorWRepsOne
import Derived.Test.YtnjchhkpomakoaaDoorWInv
import Derived.Test.YtnjchhkpomakoaaDoorWInvWords
import Derived.Test.YtnjchhkpomakoaaDoorWGuard
import Derived.Test.YtnjchhkpomakoaaDoorWNEv
import Derived.Test.YtnjchhkpomakoaaDoorWMore
namespace Go.Proofs.YtnjchhkpomakoaaDoor.PFnExactOpName
open Go.RowKit Go.Proofs.YtnjchhkpomakoaaDoorW.PrintWords Go.Proofs.YtnjchhkpomakoaaDoorW.PrintLast Go.Proofs.YtnjchhkpomakoaaDoorW.PrintMore
attribute [local go_sem] max2_int min2_int max_two min_two max_three min_three max_four min_four   -- for this text's walks alone
set_option linter.unusedVariables false
set_option linter.unusedSimpArgs false

/-- The names of the operations. -/
def opNames : List ByteArray := [(⟨#[109, 111, 118, 101]⟩ : ByteArray), (⟨#[108, 111, 97, 100, 107]⟩ : ByteArray), (⟨#[108, 111, 97, 100, 110, 105, 108]⟩ : ByteArray), (⟨#[108, 111, 97, 100, 98, 111, 111, 108]⟩ : ByteArray), (⟨#[103, 101, 116, 117, 112]⟩ : ByteArray), (⟨#[115, 101, 116, 117, 112]⟩ : ByteArray), (⟨#[110, 101, 119, 116, 97, 98, 108, 101]⟩ : ByteArray), (⟨#[103, 101, 116, 116, 97, 98, 108, 101]⟩ : ByteArray), (⟨#[115, 101, 116, 116, 97, 98, 108, 101]⟩ : ByteArray), (⟨#[97, 100, 100]⟩ : ByteArray), (⟨#[115, 117, 98]⟩ : ByteArray), (⟨#[109, 117, 108]⟩ : ByteArray), (⟨#[100, 105, 118]⟩ : ByteArray), (⟨#[109, 111, 100]⟩ : ByteArray), (⟨#[99, 111, 110, 99, 97, 116]⟩ : ByteArray), (⟨#[110, 111, 116]⟩ : ByteArray), (⟨#[110, 101, 103]⟩ : ByteArray), (⟨#[108, 101, 110]⟩ : ByteArray), (⟨#[106, 117, 109, 112]⟩ : ByteArray), (⟨#[101, 113]⟩ : ByteArray), (⟨#[108, 101, 115, 115]⟩ : ByteArray), (⟨#[116, 101, 115, 116]⟩ : ByteArray), (⟨#[99, 97, 108, 108]⟩ : ByteArray), (⟨#[114, 101, 116, 117, 114, 110]⟩ : ByteArray), (⟨#[118, 97, 114, 97, 114, 103]⟩ : ByteArray), (⟨#[99, 108, 111, 115, 117, 114, 101]⟩ : ByteArray), (⟨#[99, 108, 111, 115, 101]⟩ : ByteArray), (⟨#[102, 111, 114, 112, 114, 101, 112]⟩ : ByteArray), (⟨#[102, 111, 114, 108, 111, 111, 112]⟩ : ByteArray), (⟨#[99, 114, 101, 97, 116, 101]⟩ : ByteArray), (⟨#[114, 101, 115, 117, 109, 101]⟩ : ByteArray), (⟨#[121, 105, 101, 108, 100]⟩ : ByteArray), (⟨#[115, 116, 97, 116, 117, 115]⟩ : ByteArray), (⟨#[101, 114, 114, 111, 114]⟩ : ByteArray)]
theorem opNames_length : opNames.length = 34 := rfl
/-- The variable opNames, as the program's text lays it. -/
structure Glob (w : World) : Prop where mk :: (cells : ∀ j, j < 34 → w.cell? ⟨0, j, none⟩ = some (.string (opNames.getD j ByteArray.empty)))
theorem Glob.below {w w1 : World} (h : Glob w) (hb : Below w.heap.size w w1) : Glob w1 := ⟨fun j hj => pw_cell_below hb (h.cells j hj)⟩
theorem Glob.reads {w : World} (h : Glob w) : Kd.C Kd.string w (some ⟨0, 0, none⟩) opNames.length opNames :=
  Kd.C_of_reads (enc := Value.string) (d := ByteArray.empty) (h1 := fun _ => rfl) ⟨rfl, by rw [opNames_length]; omega, fun _ => ⟨⟨0, 0, none⟩, rfl, fun j hj => by rw [add_plain]; exact h.cells j hj⟩⟩



def errW : Option Int → Value
  | none => .nilIface
  | some c => .iface 0 (.int .i64 c)
theorem errW_none : errW none = .nilIface := rfl
theorem errW_some (c : Int) : errW (some c) = .iface 0 (.int .i64 c) := rfl

theorem info9 : (Tryd.prog.info? 9).map (fun i => (i.zero, i.size, i.bytes)) = some (some (.string ⟨#[]⟩), 1, 16) := by kernel_rfl
-- the values' own types

end Go.Proofs.YtnjchhkpomakoaaDoor.PFnExactOpName
