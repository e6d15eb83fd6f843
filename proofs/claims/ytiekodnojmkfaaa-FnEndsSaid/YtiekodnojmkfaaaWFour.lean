-- Printed by the kit's print, or by this session's program over it; then cut by this session's program: the theorems that nothing here needs are left out. Lean checks it.
import Derived.Test.YtiekodnojmkfaaaWTab
namespace Go.Proofs.YtiekodnojmkfaaaW.PrintLast
section
variable {P : Program} {ops : Array Oper} {Q : Exit → Act → World → Prop} {md : Region.Mode} {S : World → Prop} {ds : List Nat} {T : Bool × List (List Nat × List Nat)}
end
end Go.Proofs.YtiekodnojmkfaaaW.PrintLast
