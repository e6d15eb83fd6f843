-- Printed by the kit's print, or by this session's program over it; then cut by this session's program: the theorems that nothing here needs are left out. Lean checks it.
import Derived.Test.YtiekodnojmkfaaaWInv
import Derived.Test.YtiekodnojmkfaaaWFootNe
namespace Go.Proofs.YtiekodnojmkfaaaW.PrintWords
open Go.RowKit
end Go.Proofs.YtiekodnojmkfaaaW.PrintWords
namespace Go.Proofs.YtiekodnojmkfaaaW.PrintLast
section
variable {ops : Array Oper} {a : Act} {o og : Oper} {g : Nat} {t : Tmp} {u : Bool}
end
end Go.Proofs.YtiekodnojmkfaaaW.PrintLast
