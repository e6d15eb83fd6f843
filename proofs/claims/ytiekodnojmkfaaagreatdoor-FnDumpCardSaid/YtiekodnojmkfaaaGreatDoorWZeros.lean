import Derived.Test.YtiekodnojmkfaaaGreatDoorWApart
import Derived.Test.YtiekodnojmkfaaaGreatDoorWArr
namespace Go.Proofs.YtiekodnojmkfaaaGreatDoorW.zF
open Go.RowKit
namespace Kd
def tagO {α : Type} (f : Nat → Nat) (d : Kd α) : Kd (α × Option Nat) where
  sz := d.sz
  E := d.E
  K := fun w x cs => d.K w x.1 cs
  M := fun w base ok x cs => d.M w base (fun k => ok k ∧ some (f k) = x.2) x.1 cs
  vC := fun h => d.vC h
  kF := fun h => d.kF h
  qP := fun hb h => d.qP hb h
  qy := fun h => d.qy h
  xB := fun hok h => d.xB (fun k hk => ⟨hok k hk.1, hk.2⟩) h
  qh := fun h => d.xB (fun _ hk => ⟨⟨hk.1.1, hk.2⟩, hk.1.2⟩) (d.qh h)
  qQ := fun hm h => d.qQ (fun k hk => hm k hk.1) h
  qK := fun hb h => d.qK hb h
section
variable {α : Type} {d : Kd α} {e : Nat} {w : World} {base : Nat} {ok : Nat → Prop} {v : Value} {xs : List α}
def zipO (xs : List α) (z : α) (m : Nat) : List (α × Option Nat) := xs.zipIdx.map (fun p => (p.1, some p.2)) ++ List.replicate m (z, none)
end
end Kd
end Go.Proofs.YtiekodnojmkfaaaGreatDoorW.zF
