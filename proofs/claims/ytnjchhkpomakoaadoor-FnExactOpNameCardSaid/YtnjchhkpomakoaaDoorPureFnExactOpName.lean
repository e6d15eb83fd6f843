/- FnExactOpName: the program's OpName answers as the reference's, for all numbers. The card ties the variable opNames (a tie by the deep look) to the program's text (a pruned copy of the project). -/
import Derived.Test.YtnjchhkpomakoaaDoorPFnExactOpNamex1
namespace Go.Proofs.YtnjchhkpomakoaaDoor.Pure
open Go.RowKit Go.Proofs.YtnjchhkpomakoaaDoor.PFnExactOpName Go.Proofs.YtnjchhkpomakoaaDoorW.PrintWords Go.Proofs.YtnjchhkpomakoaaDoorW.PrintLast

theorem names_same : spec_l2Names.f = some opNames := rfl

theorem name_same (n : Int) : spec_OpName.f n = impl_OpName.f n := by
  unfold spec_OpName.f impl_OpName.f
  rw [names_same]
  have hL : (opNames.length : Int) = 34 := rfl
  simp only [Option.bind_some]
  by_cases h0 : n < 0
  · rw [if_pos h0, if_neg (by omega)]
  · rw [if_neg h0]
    by_cases h1 : n < 34
    · rw [if_neg (show ¬ n ≥ (opNames.length : Int) by omega), if_pos (by omega), if_pos (show n < (opNames.length : Int) by omega), if_pos ⟨by omega, h1⟩]
    · rw [if_pos (show n ≥ (opNames.length : Int) by omega), if_neg (by omega)]

theorem FnExactOpName : laws_FnExactOpName.Pure := by
  intro n _
  unfold laws_FnExactOpName.f
  rw [name_same]
  unfold impl_OpName.f
  simp only [Option.bind_some, if_true]

end Go.Proofs.YtnjchhkpomakoaaDoor.Pure
