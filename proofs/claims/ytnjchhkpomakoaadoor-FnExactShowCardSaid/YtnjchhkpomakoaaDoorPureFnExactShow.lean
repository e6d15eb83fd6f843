/- FnExactShow: the program's Show answers as the reference's, for all values. The card ties the library's tables of digits to the program's text (a pruned copy of the project). -/
import Derived.Test.YtnjchhkpomakoaaDoorPFnExactShowx1
namespace Go.Proofs.YtnjchhkpomakoaaDoor.Pure
open Go.RowKit Go.Proofs.YtnjchhkpomakoaaDoor.PFnExactShow Go.Proofs.YtnjchhkpomakoaaDoorW.PrintWords Go.Proofs.YtnjchhkpomakoaaDoorW.PrintLast

theorem wrap_id {n : Int} (h0 : -9223372036854775808 ≤ n) (h1 : n ≤ 9223372036854775807) : wrap64 n = n := by
  unfold wrap64; omega

theorem minus_append (l : List UInt8) : (⟨#[45]⟩ : ByteArray) ++ ⟨l.toArray⟩ = ⟨(45 :: l).toArray⟩ := by
  apply ByteArray.ext
  simp [ByteArray.data_append]

theorem show_int {n : Int} (h0 : -9223372036854775808 ≤ n) (h1 : n ≤ 9223372036854775807) : spec_l5Show.f n = some ⟨(Lib.itoa n).toArray⟩ := by
  have hl : ∀ u : Nat, u ≤ 9223372036854775808 → (⟨(Lib.decDigits u).toArray⟩ : ByteArray).size ≤ 19 := fun u hu => by
    have := digits_short hu
    have e : (⟨(Lib.decDigits u).toArray⟩ : ByteArray).size = (Lib.decDigits u).length := List.size_toArray
    omega
  unfold spec_l5Show.f
  by_cases hn : n < 0
  · rw [if_pos hn]
    unfold spec_l5ShowDown.f
    rw [if_pos ⟨h0, by omega⟩, Option.bind_some, if_pos (by have := hl n.natAbs (by omega); omega)]
    unfold Lib.itoa
    rw [if_pos hn, minus_append]
  · rw [if_neg hn, wrap_id (by omega) (by omega)]
    unfold spec_l5ShowDown.f
    rw [if_pos ⟨by omega, by omega⟩, Option.bind_some]
    unfold Lib.itoa
    rw [if_neg hn, show (-n).natAbs = n.toNat by omega]

theorem empty_iff (s : ByteArray) : (s.toList == ([] : List UInt8)) = decide (¬ (s.size : Int) > 0) := by
  rw [ByteArray.toList_eq]
  have hs : s.size = s.data.toList.length := Array.length_toList.symm
  cases h : s.data.toList with
  | nil => rw [hs, h]; rfl
  | cons x l =>
    rw [hs, h]
    have hp : ((x :: l).length : Int) > 0 := by rw [List.length_cons]; omega
    rw [decide_eq_false (fun hn => hn hp)]
    rfl

theorem show_same (a b : Int) (s : ByteArray) (b0 : -9223372036854775808 ≤ b) (b1 : b ≤ 9223372036854775807) (hs : s.size ≤ 1048576) : ∃ r, spec_Show.f a b s = some r ∧ impl_Show.f a b s = some r := by
  have q1 : ((⟨#[34]⟩ : ByteArray) ++ s).size = 1 + s.size := by rw [ByteArray.size_append]; rfl
  have c1 : 1 + s.size ≤ 9223372036854775807 := by omega
  have c2 : ((⟨#[34]⟩ : ByteArray) ++ s).size + 1 ≤ 9223372036854775807 := by omega
  have hi := show_int b0 b1
  have hf : strconv_FormatInt_45.f b 10 = some ⟨(Lib.itoa b).toArray⟩ := by
    unfold strconv_FormatInt_45.f strconv_FormatInt_48.f
    rw [if_pos ⟨rfl, b0, b1⟩]
    rfl
  have he := empty_iff s
  unfold spec_Show.f impl_Show.f spec_l2Plain.f impl_plain.f
  rw [he, hi, hf]
  unfold strconv_FormatBool_44.f strconv_FormatBool_47.f
  by_cases a4 : a = 4
  · subst a4; exact ⟨_, rfl, rfl⟩
  by_cases a5 : a = 5
  · subst a5; exact ⟨_, rfl, rfl⟩
  by_cases a6 : a = 6
  · subst a6; exact ⟨_, rfl, rfl⟩
  rw [if_neg a4, if_neg a5, if_neg a6, if_neg a4, if_neg a5, if_neg a6]
  by_cases a3 : a = 3
  · subst a3
    by_cases hb : b = 0
    · subst hb
      by_cases h1 : (s.size : Int) ≤ 1000
      · refine ⟨⟨#[34]⟩ ++ s ++ ⟨#[34]⟩, ?_, ?_⟩
        · rw [if_pos rfl, if_pos rfl, decide_eq_true h1, Option.bind_some, if_pos rfl, if_neg (by decide), if_neg (by decide), if_pos rfl, if_pos c1, if_pos c2]
        · rw [if_neg (by decide), if_neg (by decide), if_neg (by decide), if_pos rfl, if_pos rfl, decide_eq_true h1, Option.bind_some, if_pos rfl, if_neg (by decide), if_neg (by decide), if_neg (by decide), if_pos c1, if_pos c2]
      · refine ⟨⟨#[63]⟩, ?_, ?_⟩
        · rw [if_pos rfl, if_pos rfl, decide_eq_false h1, Option.bind_some, if_neg (by decide)]
        · rw [if_neg (by decide), if_neg (by decide), if_neg (by decide), if_pos rfl, if_pos rfl, decide_eq_false h1, Option.bind_some, if_neg (by decide)]
    · refine ⟨⟨#[63]⟩, ?_, ?_⟩
      · rw [if_pos rfl, if_neg hb, Option.bind_some, if_neg (by decide)]
      · rw [if_neg (by decide), if_neg (by decide), if_neg (by decide), if_pos rfl, if_neg hb, Option.bind_some, if_neg (by decide)]
  rw [if_neg a3]
  by_cases hsz : (s.size : Int) > 0
  · refine ⟨⟨#[63]⟩, ?_, ?_⟩
    · rw [if_pos hsz, Option.bind_some, if_neg (by decide)]
    · rw [decide_eq_false (fun h => h hsz), if_neg a3]
      simp only [ite_self, Option.bind_some]
      rw [if_neg (by decide)]
  rw [if_neg hsz, decide_eq_true hsz]
  by_cases a0 : a = 0
  · subst a0
    by_cases hb : b = 0
    · subst hb
      exact ⟨_, rfl, rfl⟩
    · have hbe : (b == 0) = false := beq_eq_false_iff_ne.mpr hb
      refine ⟨⟨#[63]⟩, ?_, ?_⟩
      · rw [if_neg (by decide), if_neg (by decide), if_pos rfl, hbe, Option.bind_some, if_neg (by decide)]
      · rw [if_pos rfl, if_neg hb, Option.bind_some, if_neg (by decide)]
  by_cases a1 : a = 1
  · subst a1
    by_cases hb : b = 0
    · subst hb
      exact ⟨_, rfl, rfl⟩
    · by_cases hb1 : b = 1
      · subst hb1
        exact ⟨_, rfl, rfl⟩
      · have hbe : (b == 1) = false := beq_eq_false_iff_ne.mpr hb1
        refine ⟨⟨#[63]⟩, ?_, ?_⟩
        · rw [if_pos rfl, if_neg hb, hbe, Option.bind_some, if_neg (by decide)]
        · rw [if_neg (by decide), if_pos rfl, if_neg hb, if_neg hb1, Option.bind_some, if_neg (by decide)]
  rw [if_neg a1, if_neg a0, if_neg a1]
  by_cases a2 : a = 2
  · subst a2
    exact ⟨⟨(Lib.itoa b).toArray⟩, rfl, rfl⟩
  · refine ⟨⟨#[63]⟩, ?_, ?_⟩
    · simp only [a2, a0, if_false, Option.bind_some, Bool.false_eq_true]
    · simp only [a0, a2, a3, if_false, Option.bind_some, Bool.false_eq_true]

theorem FnExactShow (a b : Int) (s : ByteArray) (b0 : -9223372036854775808 ≤ b) (b1 : b ≤ 9223372036854775807) (hs : s.size ≤ 9223372036854775807) : laws_FnExactShow.f a b s = some true := by
  unfold laws_FnExactShow.f laws_szValue.f laws_toValue.f
  rw [wrap_id (by omega) (by omega)]
  by_cases h : (1048576 : Int) - (s.size : Int) < 0
  · rw [if_pos h, Option.bind_some, if_pos (by omega)]
  · rw [if_neg h, Option.bind_some, if_neg h]
    obtain ⟨r, h1, h2⟩ := show_same a b s b0 b1 (by omega)
    simp only [Option.bind_some, h1, h2, if_true]

end Go.Proofs.YtnjchhkpomakoaaDoor.Pure
