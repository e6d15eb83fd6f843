/- FnExactPack: the program's Pack answers as the reference's, for all instructions. The card ties the variable partBits to the program's text (a pruned copy of the project). -/
import Derived.Test.YtnjchhkpomakoaaDoorPFnExactPackx2
namespace Go.Proofs.YtnjchhkpomakoaaDoor.Pure
open Go.RowKit Go.Proofs.YtnjchhkpomakoaaDoor.PFnExactPack Go.Proofs.YtnjchhkpomakoaaDoorW.PrintWords Go.Proofs.YtnjchhkpomakoaaDoorW.PrintLast

theorem wrap_id {n : Int} (h0 : -9223372036854775808 ≤ n) (h1 : n ≤ 9223372036854775807) : wrap64 n = n := by
  unfold wrap64; omega

theorem spec_bad (k : Nat) (a b c d e : Int) (h : ¬ (0 ≤ a ∧ a < 64 ∧ 0 ≤ b ∧ b < 256 ∧ 0 ≤ c ∧ c < 512 ∧ 0 ≤ d ∧ d < 512)) : spec_Pack.f (k + 1) a b c d e = some 0 := by
  unfold spec_Pack.f
  simp only [spec_Pack.j0, if_true]
  by_cases h1 : a < 0
  · rw [if_pos h1]
  · rw [if_neg h1]
    by_cases h2 : a > 63
    · rw [if_pos h2]
    · rw [if_neg h2]
      by_cases h3 : b < 0
      · rw [if_pos h3]
      · rw [if_neg h3]
        by_cases h4 : b > 255
        · rw [if_pos h4]
        · rw [if_neg h4]
          by_cases h5 : c < 0
          · rw [if_pos h5]
          · rw [if_neg h5]
            by_cases h6 : c > 511
            · rw [if_pos h6]
            · rw [if_neg h6]
              by_cases h7 : d < 0
              · rw [if_pos h7]
              · rw [if_neg h7, decide_eq_true (show d > 511 by omega), if_pos rfl]

theorem spec_good (k : Nat) (a b c d e : Int) (a0 : 0 ≤ a) (a1 : a < 64) (b0 : 0 ≤ b) (b1 : b < 256) (c0 : 0 ≤ c) (c1 : c < 512) (d0 : 0 ≤ d) (d1 : d < 512) :
    spec_Pack.f (k + 1) a b c d e = some (if e = c + 512 * d - 131072 then a + 64 * b + 16384 * c + 8388608 * d else 0) := by
  unfold spec_Pack.f
  rw [if_neg (show ¬ a < 0 by omega), if_neg (show ¬ a > 63 by omega), if_neg (show ¬ b < 0 by omega), if_neg (show ¬ b > 255 by omega), if_neg (show ¬ c < 0 by omega), if_neg (show ¬ c > 511 by omega), if_neg (show ¬ d < 0 by omega), decide_eq_false (show ¬ d > 511 by omega)]
  simp only [spec_Pack.j0]
  rw [if_neg (by decide), wrap_id (show -9223372036854775808 ≤ 64 * b by omega) (by omega), wrap_id (show -9223372036854775808 ≤ 16384 * c by omega) (by omega), wrap_id (show -9223372036854775808 ≤ 8388608 * d by omega) (by omega),
    wrap_id (show -9223372036854775808 ≤ a + 64 * b by omega) (by omega), wrap_id (show -9223372036854775808 ≤ a + 64 * b + 16384 * c by omega) (by omega), wrap_id (show -9223372036854775808 ≤ a + 64 * b + 16384 * c + 8388608 * d by omega) (by omega)]
  have em : (a + 64 * b + 16384 * c + 8388608 * d) % 4294967296 = a + 64 * b + 16384 * c + 8388608 * d := by omega
  rw [em]
  unfold spec_Unpack.f
  rw [if_pos ⟨by omega, by omega⟩]
  simp only [Option.bind_some]
  have e1 : (a + 64 * b + 16384 * c + 8388608 * d) % 64 = a := by omega
  have e2 : (a + 64 * b + 16384 * c + 8388608 * d) / 64 % 256 = b := by omega
  have e3 : (a + 64 * b + 16384 * c + 8388608 * d) / 16384 % 512 = c := by omega
  have e4 : (a + 64 * b + 16384 * c + 8388608 * d) / 8388608 = d := by omega
  rw [e1, e2, e3, e4]
  by_cases he : e = c + 512 * d - 131072
  · rw [if_pos he, ← he]
    simp
  · rw [if_neg he]
    have : (c + 512 * d - 131072 == e) = false := beq_eq_false_iff_ne.mpr (fun h => he h.symm)
    rw [this]
    simp

theorem pack_same (k : Nat) (a b c d e : Int) : spec_Pack.f (k + 1) a b c d e = impl_Pack.f a b c d e := by
  unfold impl_Pack.f
  by_cases h : 0 ≤ a ∧ a < 64 ∧ 0 ≤ b ∧ b < 256 ∧ 0 ≤ c ∧ c < 512 ∧ 0 ≤ d ∧ d < 512
  · obtain ⟨a0, a1, b0, b1, c0, c1, d0, d1⟩ := h
    rw [spec_good k a b c d e a0 a1 b0 b1 c0 c1 d0 d1]
    by_cases he : e = c + 512 * d - 131072
    · rw [if_pos he, if_pos ⟨a0, a1, b0, b1, c0, c1, d0, d1, he⟩]
    · rw [if_neg he, if_neg (fun h => he h.2.2.2.2.2.2.2.2)]
  · rw [spec_bad k a b c d e h, if_neg (fun h' => h ⟨h'.1, h'.2.1, h'.2.2.1, h'.2.2.2.1, h'.2.2.2.2.1, h'.2.2.2.2.2.1, h'.2.2.2.2.2.2.1, h'.2.2.2.2.2.2.2.1⟩)]

theorem FnExactPack (a b c d e : Int) : laws_FnExactPack.f 1 a b c d e = some true := by
  unfold laws_FnExactPack.f laws_toInstr.f
  simp only [Option.bind_some]
  rw [pack_same 0]
  unfold impl_Pack.f
  simp only [Option.bind_some, if_true]

end Go.Proofs.YtnjchhkpomakoaaDoor.Pure
