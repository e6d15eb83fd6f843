import Derived.Test.YtiekodnojmkfaaaGreatDoorWWords
namespace Go.Proofs.YtiekodnojmkfaaaGreatDoorEv
open Go.RowKit Go.Proofs.YtiekodnojmkfaaaGreatDoorW.zF
def Evt {α : Type} (g : Nat → Option α) (a : α) : Prop := ∃ K, ∀ k, K ≤ k → g k = some a
theorem Evt.const {α : Type} {o : Option α} {a : α} (h : o = some a) : Evt (fun _ => o) a := ⟨0, fun _ _ => h⟩
theorem Evt.now {α : Type} {g : Nat → Option α} {a : α} (h : ∀ k, g k = some a) : Evt g a := ⟨0, fun k _ => h k⟩
theorem Evt.of_eq {α : Type} {g g' : Nat → Option α} {a : α} (h : Evt g a) (K : Nat) (he : ∀ k, K ≤ k → g' k = g k) : Evt g' a := by
  obtain ⟨L, hL⟩ := h
  exact ⟨max K L, fun k hk => by rw [he k (by omega), hL k (by omega)]⟩
theorem Evt.bind {α β : Type} {g : Nat → Option α} {a : α} {h : Nat → α → Option β} {b : β} (hg : Evt g a) (hh : Evt (fun k => h k a) b) : Evt (fun k => (g k).bind (h k)) b := by
  obtain ⟨K, hK⟩ := hg
  obtain ⟨L, hL⟩ := hh
  exact ⟨max K L, fun k hk => by simp only [hK k (by omega), Option.bind_some, hL k (by omega)]⟩
theorem Evt.succ {α : Type} {g : Nat → Option α} {a : α} (h : Evt (fun k => g (k + 1)) a) : Evt g a := by
  obtain ⟨K, hK⟩ := h
  exact ⟨K + 1, fun k hk => by
    obtain ⟨m, rfl⟩ : ∃ m, k = m + 1 := ⟨k - 1, by omega⟩
    exact hK m (by omega)⟩
theorem xw {n : Int} (h : -9223372036854775808 ≤ n) (h' : n ≤ 9223372036854775807) : wrap64 n = n := by unfold wrap64; omega
theorem jJ {n : Nat} (h : n < 9223372036854775807) : wrap64 ((n : Int) + 1) = ((n + 1 : Nat) : Int) := by rw [xw (by omega) (by omega)]; omega
theorem all_loop {n : Nat} {p : Nat → Bool} {L : Nat → Int → Option Bool} {rest : Bool}
    (hone : ∀ i : Nat, i < n → ∃ K, ∀ k, K ≤ k → L (k + 1) (i : Int) = if p i = true then L k ((i + 1 : Nat) : Int) else some false)
    (hend : Evt (fun k => L k (n : Int)) rest) : ∀ m i : Nat, i + m = n → Evt (fun k => L k (i : Int)) ((List.range' i m).all p && rest) := by
  intro m
  induction m with
  | zero =>
    intro i hi
    obtain rfl : i = n := by omega
    simpa using hend
  | succ m ih =>
    intro i hi
    obtain ⟨K, hK⟩ := hone i (by omega)
    refine Evt.succ ?_
    by_cases hp : p i = true
    · refine Evt.of_eq (g := fun k => L k ((i + 1 : Nat) : Int)) ?_ K (fun k hk => by rw [hK k hk, if_pos hp])
      have h := ih (i + 1) (by omega)
      simpa [List.range'_succ, hp] using h
    · refine Evt.of_eq (g := fun _ => some false) ?_ K (fun k hk => by rw [hK k hk, if_neg hp])
      refine Evt.const ?_
      simp [List.range'_succ, hp]
theorem QJ {α : Type} {xs : List α} {z : α} {q : α → Bool} {L : Nat → Int → Option Bool} {rest : Bool}
    (hone : ∀ i : Nat, i < xs.length → ∃ K, ∀ k, K ≤ k → L (k + 1) (i : Int) = if q (xs.getD i z) = true then L k ((i + 1 : Nat) : Int) else some false)
    (hend : Evt (fun k => L k (xs.length : Int)) rest) : Evt (fun k => L k 0) (xs.all q && rest) := by
  have h := all_loop (n := xs.length) (p := fun i => q (xs.getD i z)) (L := L) (rest := rest) hone hend xs.length 0 (by omega)
  have e : (List.range' 0 xs.length).all (fun i => q (xs.getD i z)) = xs.all q := by
    rw [Bool.eq_iff_iff, List.all_eq_true, List.all_eq_true]
    constructor
    · intro h x hx
      obtain ⟨i, hi, rfl⟩ := List.getElem_of_mem hx
      have := h i (by simp [List.mem_range', hi])
      simpa [List.getD, hi] using this
    · intro h i hi
      have hi : i < xs.length := by simpa [List.mem_range'] using hi
      have := h _ (List.getElem_mem hi)
      simpa [List.getD, hi] using this
  rw [e] at h
  exact h
end Go.Proofs.YtiekodnojmkfaaaGreatDoorEv
