/- FnExactPutInt: the program's PutInt answers as the reference's, for all numbers; no conditions. -/
import Derived.Test.YtnjchhkpomakoaaPFnExactPutIntx1
import Derived.Test.YtnjchhkpomakoaaVint
namespace Go.Proofs.Ytnjchhkpomakoaa.Pure
open Go.RowKit Go.Proofs.Ytnjchhkpomakoaa.PFnExactPutInt Go.Proofs.YtnjchhkpomakoaaW.PrintWords Go.Proofs.YtnjchhkpomakoaaW.PrintLast Go.Proofs.Ytnjchhkpomakoaa.Vint

theorem put_step (k : Nat) {u i : Int} (out : List Int) (h0 : 0 ≤ u) (h1 : u < 18446744073709551616) (hi0 : 0 ≤ i) (hi : i < 8) (hl : out.length < 1000) :
    spec_PutInt.l0 (k + 1) u out i = spec_PutInt.l0 k (u / 256) (out ++ [u % 256]) (i + 1) := by
  have e1 : Int.tdiv u 256 = u / 256 := Int.tdiv_eq_ediv_of_nonneg h0
  have e2 : Int.tmod u 256 = u % 256 := Int.tmod_eq_emod_of_nonneg h0
  conv => lhs; simp only [spec_PutInt.l0]
  rw [if_pos hi, if_pos (by omega), e1, e2, u64_id (by omega) (by omega), wrap_id (by omega) (by omega), show u % 256 % 256 = u % 256 by omega]

theorem put_end (k : Nat) (u : Int) (out : List Int) : spec_PutInt.l0 (k + 1) u out 8 = some (strOfNums out) := by
  simp only [spec_PutInt.l0]
  rw [if_neg (by omega)]

theorem put_same (n : Int) (k : Nat) : spec_PutInt.f (k + 9) n = impl_PutInt.f n := by
  unfold spec_PutInt.f impl_PutInt.f
  have hu : 0 ≤ IntKind.u64.wrap n ∧ IntKind.u64.wrap n < 18446744073709551616 := by rw [IntKind.wrap_u64]; omega
  generalize IntKind.u64.wrap n = u at hu
  obtain ⟨h0, h1⟩ := hu
  rw [put_step _ _ h0 h1 (by omega) (by omega) (by simp)]
  rw [put_step _ _ (by omega) (by omega) (by omega) (by omega) (by simp)]
  rw [put_step _ _ (by omega) (by omega) (by omega) (by omega) (by simp)]
  rw [put_step _ _ (by omega) (by omega) (by omega) (by omega) (by simp)]
  rw [put_step _ _ (by omega) (by omega) (by omega) (by omega) (by simp)]
  rw [put_step _ _ (by omega) (by omega) (by omega) (by omega) (by simp)]
  rw [put_step _ _ (by omega) (by omega) (by omega) (by omega) (by simp)]
  rw [put_step _ _ (by omega) (by omega) (by omega) (by omega) (by simp)]
  have e2 : u / 256 / 256 = u / 65536 := by omega
  have e3 : u / 65536 / 256 = u / 16777216 := by omega
  have e4 : u / 16777216 / 256 = u / 4294967296 := by omega
  have e5 : u / 4294967296 / 256 = u / 1099511627776 := by omega
  have e6 : u / 1099511627776 / 256 = u / 281474976710656 := by omega
  have e7 : u / 281474976710656 / 256 = u / 72057594037927936 := by omega
  rw [e2, e3, e4, e5, e6, e7]
  rw [show (0 : Int) + 1 + 1 + 1 + 1 + 1 + 1 + 1 + 1 = 8 by omega, put_end]
  rfl

theorem FnExactPutInt : laws_FnExactPutInt.Pure := by
  intro n _
  refine ⟨9, ?_⟩
  unfold laws_FnExactPutInt.f
  rw [put_same n 0]
  unfold impl_PutInt.f
  simp only [Option.bind_some, if_true]

end Go.Proofs.Ytnjchhkpomakoaa.Pure
