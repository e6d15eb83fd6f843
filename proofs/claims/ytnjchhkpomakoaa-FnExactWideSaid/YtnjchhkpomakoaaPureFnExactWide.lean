/- FnExactWide: the program's Wide answers as the reference's, for all arguments; no conditions. -/
import Derived.Test.YtnjchhkpomakoaaPFnExactWidex1
namespace Go.Proofs.Ytnjchhkpomakoaa.Pure
open Go.RowKit Go.Proofs.Ytnjchhkpomakoaa.PFnExactWide Go.Proofs.YtnjchhkpomakoaaW.PrintWords Go.Proofs.YtnjchhkpomakoaaW.PrintLast

theorem wide_same (a b c : Int) : impl_Wide.f a b c = spec_Wide.f a b c := by
  unfold impl_Wide.f spec_Wide.f
  by_cases h : c > 131071
  · rw [if_pos h, if_pos (show c ≥ 131072 by omega)]
  · rw [if_neg h, if_neg (show ¬ c ≥ 131072 by omega)]

theorem wide_some (a b c : Int) : ∃ r, spec_Wide.f a b c = some r := by
  unfold spec_Wide.f
  repeat (first | exact ⟨_, rfl⟩ | split)

theorem eq_self (a b c d e : Int) : laws_eqInstr.f a b c d e a b c d e = some true := by
  simp [laws_eqInstr.f]

theorem FnExactWide : laws_FnExactWide.Pure := by
  intro a b c _ _ _
  obtain ⟨r, hr⟩ := wide_some a b c
  unfold laws_FnExactWide.f
  rw [wide_same, hr]
  simp only [Option.bind_some, eq_self, if_true]

end Go.Proofs.Ytnjchhkpomakoaa.Pure
