/- FnExactPutVarint: the program's PutVarint answers as the reference's, for all numbers; no conditions. -/
import Derived.Test.YtnjchhkpomakoaaPFnExactPutVarintx1
import Derived.Test.YtnjchhkpomakoaaVint
namespace Go.Proofs.Ytnjchhkpomakoaa.Pure
open Go.RowKit Go.Proofs.Ytnjchhkpomakoaa.PFnExactPutVarint Go.Proofs.YtnjchhkpomakoaaW.PrintWords Go.Proofs.YtnjchhkpomakoaaW.PrintLast Go.Proofs.Ytnjchhkpomakoaa.Vint

theorem spec_put_small (k : Nat) {x : Int} (h0 : 0 ≤ x) (h : x < 128) : spec_PutVarint.f (k + 2) x = some (strOfNums (vl x)) := by
  have h2 : decide (x > 16777215) = false := decide_eq_false (by omega)
  simp only [spec_PutVarint.f]
  rw [if_neg (by omega), h2]
  simp only [spec_PutVarint.j0]
  rw [if_neg (by decide), if_pos h]
  simp only [spec_l1Byte.f, Option.bind_some]
  rw [vl_small h, show x % 256 = x by omega]

theorem spec_put_step (k : Nat) {x : Int} (h0 : 128 ≤ x) (h : x ≤ 16777215) (hr : spec_PutVarint.f k (x / 128) = some (strOfNums (vl (x / 128)))) :
    spec_PutVarint.f (k + 2) x = some (strOfNums (vl x)) := by
  have h2 : decide (x > 16777215) = false := decide_eq_false (by omega)
  have e1 : Int.tmod x 128 = x % 128 := Int.tmod_eq_emod_of_nonneg (by omega)
  have e2 : Int.tdiv x 128 = x / 128 := Int.tdiv_eq_ediv_of_nonneg (by omega)
  simp only [spec_PutVarint.f]
  rw [if_neg (by omega), h2]
  simp only [spec_PutVarint.j0]
  rw [if_neg (by decide), if_neg (by omega), e1, e2, wrap_id (by omega) (by omega), wrap_id (by omega) (by omega), hr]
  simp only [spec_l1Byte.f, Option.bind_some]
  have hs : (strOfNums [(x % 128 + 128) % 256]).size + (strOfNums (vl (x / 128))).size ≤ 9223372036854775807 := by
    rw [strOfNums_size, strOfNums_size, vl_size]
    simp only [List.length_cons, List.length_nil]
    split
    · omega
    · split
      · omega
      · split <;> omega
  rw [if_pos hs, str_append, vl_step h0 h, show (x % 128 + 128) % 256 = x % 128 + 128 by omega]
  rfl

theorem spec_put {x : Int} (h0 : 0 ≤ x) (h : x ≤ 16777215) : ∀ k, 8 ≤ k → spec_PutVarint.f k x = some (strOfNums (vl x)) := by
  intro k hk
  obtain ⟨m, rfl⟩ : ∃ m, k = m + 2 + 2 + 2 + 2 := ⟨k - 8, by omega⟩
  by_cases h1 : x < 128
  · exact spec_put_small _ h0 h1
  · refine spec_put_step _ (by omega) h ?_
    by_cases h2 : x / 128 < 128
    · exact spec_put_small _ (by omega) h2
    · refine spec_put_step _ (by omega) (by omega) ?_
      by_cases h3 : x / 128 / 128 < 128
      · exact spec_put_small _ (by omega) h3
      · refine spec_put_step _ (by omega) (by omega) ?_
        exact spec_put_small _ (by omega) (by omega)

theorem spec_put_none {x : Int} (h : x < 0 ∨ 16777215 < x) (k : Nat) : spec_PutVarint.f (k + 2) x = some (⟨#[]⟩ : ByteArray) := by
  simp only [spec_PutVarint.f]
  by_cases h0 : x < 0
  · rw [if_pos h0]; simp only [spec_PutVarint.j0, if_true]
  · rw [if_neg h0, decide_eq_true (show x > 16777215 by omega)]; simp only [spec_PutVarint.j0, if_true]

theorem impl_put_small (k : Nat) {x : Int} (out : List Int) (h0 : 0 ≤ x) (h : x < 128) (hl : out.length < 1000) : impl_PutVarint.l0 (k + 1) x out = some (strOfNums (out ++ vl x)) := by
  simp only [impl_PutVarint.l0]
  rw [if_neg (by omega), if_pos (by omega), vl_small h, show x % 256 = x by omega]

theorem impl_put_step (k : Nat) {x : Int} (out : List Int) (h0 : 128 ≤ x) (h : x ≤ 16777215) (hl : out.length < 1000)
    (hr : impl_PutVarint.l0 k (x / 128) (out ++ [x % 128 + 128]) = some (strOfNums (out ++ [x % 128 + 128] ++ vl (x / 128)))) :
    impl_PutVarint.l0 (k + 1) x out = some (strOfNums (out ++ vl x)) := by
  simp only [impl_PutVarint.l0]
  rw [if_pos (by omega), if_pos (by omega), or128, hr, vl_step h0 h]
  simp

theorem impl_put {x : Int} (h0 : 0 ≤ x) (h : x ≤ 16777215) (k : Nat) : impl_PutVarint.f (k + 5) x = some (strOfNums (vl x)) := by
  have h2 : decide (x > 16777215) = false := decide_eq_false (by omega)
  unfold impl_PutVarint.f
  rw [if_neg (by omega), h2]
  simp only [impl_PutVarint.j0]
  rw [if_neg (by decide)]
  have e : ∀ l : List Int, l = [] ++ l := fun l => rfl
  rw [e (vl x)]
  by_cases h1 : x < 128
  · exact impl_put_small _ _ h0 h1 (by simp)
  · refine impl_put_step _ _ (by omega) h (by simp) ?_
    by_cases h2 : x / 128 < 128
    · exact impl_put_small _ _ (by omega) h2 (by simp)
    · refine impl_put_step _ _ (by omega) (by omega) (by simp) ?_
      by_cases h3 : x / 128 / 128 < 128
      · exact impl_put_small _ _ (by omega) h3 (by simp)
      · refine impl_put_step _ _ (by omega) (by omega) (by simp) ?_
        exact impl_put_small _ _ (by omega) (by omega) (by simp)

theorem impl_put_none {x : Int} (h : x < 0 ∨ 16777215 < x) (k : Nat) : impl_PutVarint.f (k + 1) x = some (⟨#[]⟩ : ByteArray) := by
  unfold impl_PutVarint.f
  by_cases h0 : x < 0
  · rw [if_pos h0]; simp only [impl_PutVarint.j0, if_true]
  · rw [if_neg h0, decide_eq_true (show x > 16777215 by omega)]; simp only [impl_PutVarint.j0, if_true]

theorem FnExactPutVarint : laws_FnExactPutVarint.Pure := by
  intro x _
  refine ⟨8, ?_⟩
  unfold laws_FnExactPutVarint.f
  by_cases h : x < 0 ∨ 16777215 < x
  · rw [spec_put_none h 6, impl_put_none h 7]
    simp only [Option.bind_some, if_true]
  · rw [spec_put (by omega) (by omega) 8 (by omega), impl_put (by omega) (by omega) 3]
    simp only [Option.bind_some, if_true]

end Go.Proofs.Ytnjchhkpomakoaa.Pure
