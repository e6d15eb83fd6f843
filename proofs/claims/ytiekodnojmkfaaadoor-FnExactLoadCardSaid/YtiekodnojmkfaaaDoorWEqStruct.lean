-- Printed by the kit's print, or by this session's program over it; then cut by this session's program: the theorems that nothing here needs are left out. Lean checks it.
import Derived.Test.YtiekodnojmkfaaaDoorWWords
import Derived.Laws.StructEq
namespace Go.Proofs.YtiekodnojmkfaaaDoorW.PrintWords
open Go.RowKit
section
variable {P : Program} {d : Nat} {xs ys : Array Value} {f : Field} {fs : List Field} {a b : Value} {r s : Bool} {w : World}
end
end Go.Proofs.YtiekodnojmkfaaaDoorW.PrintWords
