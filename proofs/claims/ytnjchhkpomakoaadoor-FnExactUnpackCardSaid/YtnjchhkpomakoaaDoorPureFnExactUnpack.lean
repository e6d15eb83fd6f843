/- FnExactUnpack: the program's Unpack answers as the reference's, for all words. The card ties the variable partBits to the program's text (a pruned copy of the project). -/
import Derived.Test.YtnjchhkpomakoaaDoorPFnExactUnpackx1
namespace Go.Proofs.YtnjchhkpomakoaaDoor.Pure
open Go.RowKit Go.Proofs.YtnjchhkpomakoaaDoor.PFnExactUnpack Go.Proofs.YtnjchhkpomakoaaDoorW.PrintWords Go.Proofs.YtnjchhkpomakoaaDoorW.PrintLast

theorem u32_bounds {n : Int} (h : (Lit.int .u32 n).wf = true) : 0 ≤ n ∧ n ≤ 4294967295 := by
  simp only [Lit.wf, IntKind.min, IntKind.max, IntKind.signed, IntKind.bits, Bool.and_eq_true] at h
  obtain ⟨h0, h1⟩ := h
  constructor
  · simpa using h0
  · simpa using h1

theorem unpack_same {n : Int} (h : 0 ≤ n ∧ n ≤ 4294967295) : impl_Unpack.f n = spec_Unpack.f n := by
  unfold impl_Unpack.f spec_Unpack.f
  rw [if_pos h, if_pos h]
  have e1 : n / 64 / 256 = n / 16384 := by omega
  have e2 : n / 64 / 256 / 512 = n / 8388608 := by omega
  have e3 : n / 8388608 % 512 = n / 8388608 := by omega
  rw [e2, e1, e3]

theorem eq_self (a b c d e : Int) : laws_eqInstr.f a b c d e a b c d e = some true := by
  simp [laws_eqInstr.f]

theorem FnExactUnpack : laws_FnExactUnpack.Pure := by
  intro n hw
  have hb := u32_bounds hw
  unfold laws_FnExactUnpack.f
  rw [unpack_same hb]
  unfold spec_Unpack.f
  rw [if_pos hb]
  simp only [Option.bind_some, eq_self, if_true]

end Go.Proofs.YtnjchhkpomakoaaDoor.Pure
