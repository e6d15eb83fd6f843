-- PRINTED BY print.sh 35421559b90ae4d0a3588c463048766b98c2df88dd9212a6774a882060cdf62d: not written by this session
import Derived.Test.YtnjchhkpomakoaaProg
import Derived.Below
import Derived.Deep.Draws
import Derived.Deep.AppendLies
import Derived.Maps.AppendAt
import Derived.OwnWalk
import Derived.Laws.BytesArg
import Derived.Laws.MakeOwn
import Derived.Laws.OwnMore
import Derived.Deep.OwnRows
import Derived.Tactics
import Derived.Lib.ConvBytes
import Derived.Laws.Slices
import Derived.WalkKit
import Derived.KernelRfl
import Derived.RowKit3
import Derived.Deep.LoopGhost
import Derived.Deep.QuietTactic
import Derived.BigQuiet
import Derived.WideLaws
import Derived.Deep.DeepCutAuto
import Derived.Deep.CutBlock
import Derived.Deep.RegionHeld3
import Derived.Laws.Rows
import Derived.Lib.AppendStr
import Derived.ArgAppend
import Derived.Laws.IdiomCopy
import Derived.OrdersHeld
import Derived.Laws.BitsLemmas
import Derived.RowKit
import Derived.Test.YtnjchhkpomakoaaWWords
import Derived.Test.YtnjchhkpomakoaaWLast
import Derived.Test.YtnjchhkpomakoaaWTab
import Derived.Test.YtnjchhkpomakoaaWFour
import Derived.Test.YtnjchhkpomakoaaWQPut
import Derived.Test.YtnjchhkpomakoaaWApart
import Derived.Test.YtnjchhkpomakoaaWArr
import Derived.Test.YtnjchhkpomakoaaWZeros
import Derived.Test.YtnjchhkpomakoaaWFoot
import Derived.Test.YtnjchhkpomakoaaWKept
import Derived.Test.YtnjchhkpomakoaaWShare
import Derived.Test.YtnjchhkpomakoaaWN
import Derived.Test.YtnjchhkpomakoaaWFootNe
import Derived.Test.YtnjchhkpomakoaaWAt
import Derived.Test.YtnjchhkpomakoaaWEqStruct
import Derived.Test.YtnjchhkpomakoaaWRepsOne
import Derived.Test.YtnjchhkpomakoaaWInv
import Derived.Test.YtnjchhkpomakoaaWInvWords
import Derived.Test.YtnjchhkpomakoaaWGuard
import Derived.Test.YtnjchhkpomakoaaWNEv
import Derived.Test.YtnjchhkpomakoaaWMore
namespace Go.Proofs.Ytnjchhkpomakoaa.PFnExactGetVarint
open Go.RowKit Go.Proofs.YtnjchhkpomakoaaW.PrintWords Go.Proofs.YtnjchhkpomakoaaW.PrintLast Go.Proofs.YtnjchhkpomakoaaW.PrintMore
attribute [local go_sem] max2_int min2_int max_two min_two max_three min_three max_four min_four   -- for this text's walks alone
set_option linter.unusedVariables false
set_option linter.unusedSimpArgs false



def errW : Option Int → Value
  | none => .nilIface
  | some c => .iface 0 (.int .i64 c)
theorem errW_none : errW none = .nilIface := rfl
theorem errW_some (c : Int) : errW (some c) = .iface 0 (.int .i64 c) := rfl

theorem info5 : (Try.prog.info? 5).map (fun i => (i.zero, i.size, i.bytes)) = some (some (.int .u8 0), 1, 1) := by kernel_rfl
-- the values' own types

end Go.Proofs.Ytnjchhkpomakoaa.PFnExactGetVarint
