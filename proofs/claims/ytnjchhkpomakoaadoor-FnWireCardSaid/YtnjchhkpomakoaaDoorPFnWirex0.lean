-- Written by this session's own program over the kit's print: contracts by hand stand among the printed ones. Lean checks it.
import Derived.Test.YtnjchhkpomakoaaDoorProg
import Derived.Below
import Derived.Deep.Draws
import Derived.Deep.AppendLies
import Derived.Maps.AppendAt
import Derived.OwnWalk
import Derived.Laws.BytesArg
import Derived.Laws.MakeOwn
import Derived.Laws.OwnMore
import Derived.Deep.OwnRows
import Derived.Tactics
import Derived.Lib.ConvBytes
import Derived.Laws.Slices
import Derived.WalkKit
import Derived.KernelRfl
import Derived.RowKit3
import Derived.Deep.LoopGhost
import Derived.Deep.QuietTactic
import Derived.BigQuiet
import Derived.WideLaws
import Derived.Deep.DeepCutAuto
import Derived.Deep.CutBlock
import Derived.Deep.RegionHeld3
import Derived.Laws.Rows
import Derived.Lib.AppendStr
import Derived.ArgAppend
import Derived.Laws.IdiomCopy
import Derived.OrdersHeld
import Derived.Laws.BitsLemmas
import Derived.RowKit
import Derived.LoopN
import Derived.WalkLawsBesides
import Derived.Handy
import Derived.Test.YtnjchhkpomakoaaDoorWWords
import Derived.Test.YtnjchhkpomakoaaDoorWLast
import Derived.Test.YtnjchhkpomakoaaDoorWTab
import Derived.Test.YtnjchhkpomakoaaDoorWFour
import Derived.Test.YtnjchhkpomakoaaDoorWQPut
import Derived.Test.YtnjchhkpomakoaaDoorWApart
import Derived.Test.YtnjchhkpomakoaaDoorWArr
import Derived.Test.YtnjchhkpomakoaaDoorWZeros
import Derived.Test.YtnjchhkpomakoaaDoorWFoot
import Derived.Test.YtnjchhkpomakoaaDoorWKept
import Derived.Test.YtnjchhkpomakoaaDoorWShare
import Derived.Test.YtnjchhkpomakoaaDoorWN
import Derived.Test.YtnjchhkpomakoaaDoorWFootNe
import Derived.Test.YtnjchhkpomakoaaDoorWAt
import Derived.Test.YtnjchhkpomakoaaDoorWEqStruct
import Derived.Test.YtnjchhkpomakoaaDoorWRepsOne
import Derived.Test.YtnjchhkpomakoaaDoorWInv
import Derived.Test.YtnjchhkpomakoaaDoorWInvWords
import Derived.Test.YtnjchhkpomakoaaDoorWGuard
import Derived.Test.YtnjchhkpomakoaaDoorWNEv
import Derived.Test.YtnjchhkpomakoaaDoorWMore
namespace Go.Proofs.YtnjchhkpomakoaaDoor.PFnWire
open Go.RowKit Go.Proofs.YtnjchhkpomakoaaDoorW.PrintWords Go.Proofs.YtnjchhkpomakoaaDoorW.PrintLast Go.Proofs.YtnjchhkpomakoaaDoorW.PrintMore
attribute [local go_sem] max2_int min2_int max_two min_two max_three min_three max_four min_four   -- for this text's walks alone
set_option linter.unusedVariables false
set_option linter.unusedSimpArgs false

/-- The variable partBits, as the program's text lays it. -/
structure Glob (w : World) : Prop where
  c0 : w.cell? ⟨1, 0, none⟩ = some (.int .i64 6)
  c1 : w.cell? ⟨1, 1, none⟩ = some (.int .i64 8)
  c2 : w.cell? ⟨1, 2, none⟩ = some (.int .i64 9)
  c3 : w.cell? ⟨1, 3, none⟩ = some (.int .i64 9)
theorem Glob.below {w w1 : World} (h : Glob w) (hb : Below w.heap.size w w1) : Glob w1 :=
  ⟨pw_cell_below hb h.c0, pw_cell_below hb h.c1, pw_cell_below hb h.c2, pw_cell_below hb h.c3⟩



def errW : Option Int → Value
  | none => .nilIface
  | some c => .iface 0 (.int .i64 c)
theorem errW_none : errW none = .nilIface := rfl
theorem errW_some (c : Int) : errW (some c) = .iface 0 (.int .i64 c) := rfl

theorem info5 : (Tryd.prog.info? 5).map (fun i => (i.zero, i.size, i.bytes)) = some (some (.int .u8 0), 1, 1) := by kernel_rfl
-- the values' own types

end Go.Proofs.YtnjchhkpomakoaaDoor.PFnWire
