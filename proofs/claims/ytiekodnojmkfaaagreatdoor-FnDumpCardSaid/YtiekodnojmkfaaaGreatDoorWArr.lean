import Derived.Test.YtiekodnojmkfaaaGreatDoorWWords
namespace Go.Proofs.YtiekodnojmkfaaaGreatDoorW.zF
open Go.RowKit
namespace Kd
theorem reps_one {α : Type} {R : α → List Value → Prop} {size : Nat} {ps : List α} {cs : List Value} (h : qx R size ps cs) (hs0 : 0 < size) (hR : ∀ p c, R p c → ∀ u ∈ c, u.oneCell' = true) : ∀ u ∈ cs, u.oneCell' = true := by
  intro u hu
  obtain ⟨q, hq, rfl⟩ := List.mem_iff_getElem.1 hu
  have hql : q / size < ps.length := by
    rw [Nat.div_lt_iff_lt_mul hs0, ← h.1]
    exact hq
  refine hR _ _ (h.2 (q / size) _ (List.getElem?_eq_getElem hql)) _ ?_
  rw [List.mem_iff_getElem?]
  refine ⟨q % size, ?_⟩
  rw [List.getElem?_take, if_pos (Nat.mod_lt _ hs0), List.getElem?_drop, Nat.mul_comm, Nat.div_add_mod, List.getElem?_eq_getElem hq]
def arr {α : Type} (n : Nat) (d : Kd α) (hs : 0 < d.sz) : Kd (List α) where
  sz := n * d.sz
  E := d.E
  K := fun w xs cs => xs.length = n ∧ qx (d.K w) d.sz xs cs
  M := fun w base ok xs cs => xs.length = n ∧ qx (d.M w base ok) d.sz xs cs
  vC := fun h => by rw [← h.1]; exact h.2.1
  kF := fun h => reps_one h.2 hs (fun _ _ hk => d.kF hk)
  qP := fun hb h => ⟨h.1, h.2.JF (fun _ _ hk => d.qP hb hk)⟩
  qy := fun h => ⟨h.1, h.2.JF (fun _ _ hk => d.qy hk)⟩
  xB := fun hok h => ⟨h.1, h.2.JF (fun _ _ hk => d.xB hok hk)⟩
  qh := fun h => ⟨h.1, h.2.JF (fun _ _ hk => d.qh hk)⟩
  qQ := fun hm h => ⟨h.1, h.2.JF (fun _ _ hk => d.qQ hm hk)⟩
  qK := fun hb h => ⟨h.1, h.2.JF (fun _ _ hk => d.qK hb hk)⟩
end Kd
end Go.Proofs.YtiekodnojmkfaaaGreatDoorW.zF
