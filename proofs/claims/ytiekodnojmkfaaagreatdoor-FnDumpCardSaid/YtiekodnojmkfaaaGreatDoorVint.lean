import Derived.Laws.BytesArg
import Derived.Laws.BitsLemmas
import Derived.Laws.Bits64
import Derived.RowKit
namespace Go.Proofs.YtiekodnojmkfaaaGreatDoorVint
open Go.RowKit
theorem u64_id {n : Int} (h0 : 0 ≤ n) (h1 : n ≤ 18446744073709551615) : IntKind.u64.wrap n = n := by
  rw [IntKind.wrap_u64]; omega
theorem u64_wraps (n : Int) (h₀ : 0 ≤ n) (h₁ : n < 2 ^ 64) : IntKind.u64.wrap n = n := by rw [IntKind.wrap_u64]; omega
theorem Q5 (n : Int) (h₀ : 0 ≤ n) (h₁ : n < 2 ^ 63) : IntKind.i64.wrap n = n := by rw [IntKind.wrap_i64]; omega
def vl (x : Int) : List Int :=
  if x < 128 then [x] else if x < 16384 then [x % 128 + 128, x / 128]
  else if x < 2097152 then [x % 128 + 128, x / 128 % 128 + 128, x / 16384]
  else [x % 128 + 128, x / 128 % 128 + 128, x / 16384 % 128 + 128, x / 2097152]
theorem vl_small {x : Int} (h : x < 128) : vl x = [x] := by unfold vl; rw [if_pos h]
theorem vl_step {x : Int} (h : 128 ≤ x) (h1 : x ≤ 16777215) : vl x = (x % 128 + 128) :: vl (x / 128) := by
  have e1 : x / 128 / 128 = x / 16384 := by omega
  have e2 : x / 128 / 16384 = x / 2097152 := by omega
  unfold vl
  rw [if_neg (show ¬ x < 128 by omega), e1, e2]
  by_cases h2 : x < 16384
  · rw [if_pos h2, if_pos (show x / 128 < 128 by omega)]
  · rw [if_neg h2, if_neg (show ¬ x / 128 < 128 by omega)]
    by_cases h3 : x < 2097152
    · rw [if_pos h3, if_pos (show x / 128 < 16384 by omega)]
    · rw [if_neg h3, if_neg (show ¬ x / 128 < 16384 by omega), if_pos (show x / 128 < 2097152 by omega)]
theorem vl_size (x : Int) : (vl x).length = if x < 128 then 1 else if x < 16384 then 2 else if x < 2097152 then 3 else 4 := by
  unfold vl
  by_cases h : x < 128
  · simp [h]
  · by_cases h2 : x < 16384
    · simp [h, h2]
    · by_cases h3 : x < 2097152
      · simp [h, h2, h3]
      · simp [h, h2, h3]
theorem or128 {x : Int} : bits .or .u8 (x % 256) 128 = x % 128 + 128 := by
  have hc : ∀ a : Fin 256, bits .or .u8 ((a.val : Nat) : Int) 128 = ((a.val % 128 + 128 : Nat) : Int) := by decide +kernel
  have h2 : 0 ≤ x % 256 := by omega
  obtain ⟨a, ha⟩ := Int.eq_ofNat_of_zero_le h2
  have := hc ⟨a, by omega⟩
  rw [ha]
  simp only at this
  rw [this]
  omega
theorem and127 {x : Int} (h : 0 ≤ x) (h1 : x ≤ 255) : bits .and .u8 x 127 = x % 128 := by
  have := bits_mask .u8 8 (by decide) wraps_u8 7 (by decide) x h (by omega)
  simpa using this
theorem or_sum_u64 (i : Nat) (x y : Int) (hx₀ : 0 ≤ x) (hx : x % 2 ^ i = 0) (hx₁ : x < 2 ^ 64) (hy₀ : 0 ≤ y) (hy : y < 2 ^ i) (hy₁ : y < 2 ^ 64) : bits .or .u64 x y = x + y :=
  bits_join .u64 64 (by decide) u64_wraps i x y hx₀ hx hx₁ hy₀ hy hy₁
theorem Qb (i : Nat) (x y : Int) (hx₀ : 0 ≤ x) (hx : x % 2 ^ i = 0) (hx₁ : x < 2 ^ 63) (hy₀ : 0 ≤ y) (hy : y < 2 ^ i) (hy₁ : y < 2 ^ 63) : bits .or .i64 x y = x + y :=
  bits_join .i64 63 (by decide) Q5 i x y hx₀ hx hx₁ hy₀ hy hy₁
theorem or_comm_i64 (x y : Int) : bits .or .i64 x y = bits .or .i64 y x := by
  unfold bits
  simp only [BitVec.or_comm]
end Go.Proofs.YtiekodnojmkfaaaGreatDoorVint
