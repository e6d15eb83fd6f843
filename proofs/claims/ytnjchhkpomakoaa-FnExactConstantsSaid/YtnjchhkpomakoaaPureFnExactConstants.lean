/- FnExactConstants: the constants of the program are those of the reference; for every run, no conditions. -/
import Derived.Test.YtnjchhkpomakoaaPFnExactConstantsx1
namespace Go.Proofs.Ytnjchhkpomakoaa.Pure
open Go.RowKit Go.Proofs.Ytnjchhkpomakoaa.PFnExactConstants Go.Proofs.YtnjchhkpomakoaaW.PrintWords Go.Proofs.YtnjchhkpomakoaaW.PrintLast

theorem FnExactConstants : laws_FnExactConstants.Pure := by
  unfold laws_FnExactConstants.Pure laws_FnExactConstants.f
  rfl

end Go.Proofs.Ytnjchhkpomakoaa.Pure
