import Derived.Test.YtiekodnojmkfaaaGreatDoorPFnDumpx0
namespace Go.Proofs.YtiekodnojmkfaaaGreatDoor.yD
open Go.RowKit Go.Proofs.YtiekodnojmkfaaaGreatDoorW.zF Go.Proofs.YtiekodnojmkfaaaGreatDoorW.yC Go.Proofs.YtiekodnojmkfaaaGreatDoorW.yY
attribute [local go_sem] xM xO qG qH yZ xg xP xQ
set_option linter.unusedVariables false
set_option linter.unusedSimpArgs false
theorem eqA71 (d:Nat) (w:World) (x0 y0:Bool) (x1 y1:Int) :
  (Op.equalIn (d+2) 71 (.agg #[.bool x0,.int .i64 x1]) (.agg #[.bool y0,.int .i64 y1])).run Tryz.prog w=.ok (x0 == y0 && (x1 == y1)) w:=by
 refine eqA_of Tryz.underlying71 (by kernel_rfl) ?_
 refine YG (by rfl) (by go_simp;rfl) (by go_simp;rfl) (by go_simp) ?_
 exact eqf_last (by rfl) (by go_simp;rfl) (by go_simp;rfl) (by go_simp)
end Go.Proofs.YtiekodnojmkfaaaGreatDoor.yD
