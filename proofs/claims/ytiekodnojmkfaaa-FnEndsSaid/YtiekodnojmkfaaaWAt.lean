-- Printed by the kit's print, or by this session's program over it; then cut by this session's program: the theorems that nothing here needs are left out. Lean checks it.
import Derived.Test.YtiekodnojmkfaaaWFootNe
namespace Go.Proofs.YtiekodnojmkfaaaW.PrintWords
open Go.RowKit
section
variable {w w' u : World} {m B g : Nat} {o : Obj} {row : Option Nat} {S : Nat → Prop} {a : Addr} {v : Value}
end
namespace Kd
section
variable {α : Type} {d : Kd α} {e base n m : Nat} {ok : Nat → Prop} {w w' : World} {v : Value} {A : Option Addr} {xs : List α}
end
end Kd
end Go.Proofs.YtiekodnojmkfaaaW.PrintWords
