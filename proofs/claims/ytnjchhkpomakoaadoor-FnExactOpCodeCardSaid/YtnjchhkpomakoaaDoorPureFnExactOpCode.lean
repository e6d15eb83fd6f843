/- FnExactOpCode: the program's OpCode answers as the reference's, for all names. The card ties the variable opNames (a tie by the deep look) to the program's text (a pruned copy of the project). -/
import Derived.Test.YtnjchhkpomakoaaDoorPFnExactOpCodex1
namespace Go.Proofs.YtnjchhkpomakoaaDoor.Pure
open Go.RowKit Go.Proofs.YtnjchhkpomakoaaDoor.PFnExactOpCode Go.Proofs.YtnjchhkpomakoaaDoorW.PrintWords Go.Proofs.YtnjchhkpomakoaaDoorW.PrintLast

theorem names_same : spec_l2Names.f = some opNames := rfl

theorem wrap_id {n : Int} (h0 : 0 ≤ n) (h1 : n ≤ 40) : wrap64 (n + 1) = n + 1 := by
  unfold wrap64; omega

theorem loops (s : ByteArray) (d : Nat) : ∀ (k : Nat) (i : Int), 0 ≤ i → i + d = 34 → d < k →
    ∃ r, spec_OpCode.l0 k s opNames i = some r ∧ slices_Index_string_string.l0 k opNames s 34 i = some r := by
  have hL : (opNames.length : Int) = 34 := rfl
  induction d with
  | zero =>
    intro k i h0 hi hk
    obtain ⟨k, rfl⟩ : ∃ m, k = m + 1 := ⟨k - 1, by omega⟩
    refine ⟨-1, ?_, ?_⟩
    · simp only [spec_OpCode.l0]; rw [if_neg (by omega)]
    · simp only [slices_Index_string_string.l0]; rw [if_neg (by omega)]
  | succ d ih =>
    intro k i h0 hi hk
    obtain ⟨k, rfl⟩ : ∃ m, k = m + 1 := ⟨k - 1, by omega⟩
    simp only [spec_OpCode.l0, slices_Index_string_string.l0]
    rw [if_pos (show i < (opNames.length : Int) by omega), if_pos (show i < (34 : Int) by omega), if_pos h0, if_pos h0, if_pos (show i < (opNames.length : Int) by omega)]
    by_cases e : (rdOf ByteArray.empty opNames i).toList = s.toList
    · exact ⟨i, by rw [if_pos e], by rw [if_pos e.symm]⟩
    · rw [if_neg e, if_neg (fun h => e h.symm), wrap_id h0 (by omega)]
      exact ih k (i + 1) (by omega) (by omega) (by omega)

theorem FnExactOpCode : laws_FnExactOpCode.Pure := by
  intro s _
  refine ⟨40, ?_⟩
  obtain ⟨r, h1, h2⟩ := loops s 34 40 0 (by omega) (by omega) (by omega)
  unfold laws_FnExactOpCode.f
  unfold spec_OpCode.f impl_OpCode.f slices_Index_string_string.f
  rw [names_same]
  simp only [Option.bind_some]
  by_cases hb : (s.size : Int) > 1048576
  · rw [if_pos hb]
  · rw [if_neg hb, h1]
    simp only [Option.bind_some]
    rw [show ((opNames.length : Int)) = 34 from rfl, h2]
    simp only [Option.bind_some, if_true]

end Go.Proofs.YtnjchhkpomakoaaDoor.Pure
