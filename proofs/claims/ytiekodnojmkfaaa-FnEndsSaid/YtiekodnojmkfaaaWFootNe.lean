-- Printed by the kit's print, or by this session's program over it; then cut by this session's program: the theorems that nothing here needs are left out. Lean checks it.
import Derived.Test.YtiekodnojmkfaaaWN
namespace Go.Proofs.YtiekodnojmkfaaaW.PrintWords
open Go.RowKit
namespace Kd
section
variable {α : Type} {d : Kd α} {W : World} {g n : Nat} {S ok : Nat → Prop} {A : Option Addr} {ad : Addr} {xs : List α}
end
end Kd
end Go.Proofs.YtiekodnojmkfaaaW.PrintWords
