/- FnExactGetVarint: the program's GetVarint answers as the reference's, for all texts and places; no conditions. -/
import Derived.Test.YtnjchhkpomakoaaPFnExactGetVarintx2
import Derived.Test.YtnjchhkpomakoaaVint
namespace Go.Proofs.Ytnjchhkpomakoaa.Pure
open Go.RowKit Go.Proofs.Ytnjchhkpomakoaa.PFnExactGetVarint Go.Proofs.YtnjchhkpomakoaaW.PrintWords Go.Proofs.YtnjchhkpomakoaaW.PrintLast Go.Proofs.YtnjchhkpomakoaaW.PrintMore Go.Proofs.Ytnjchhkpomakoaa.Vint

theorem spec_put_small (k : Nat) {x : Int} (h0 : 0 ≤ x) (h : x < 128) : spec_PutVarint.f (k + 2) x = some (strOfNums (vl x)) := by
  have h2 : decide (x > 16777215) = false := decide_eq_false (by omega)
  simp only [spec_PutVarint.f]
  rw [if_neg (by omega), h2]
  simp only [spec_PutVarint.j0]
  rw [if_neg (by decide), if_pos h]
  simp only [spec_l1Byte.f, Option.bind_some]
  rw [vl_small h, show x % 256 = x by omega]

theorem spec_put_step (k : Nat) {x : Int} (h0 : 128 ≤ x) (h : x ≤ 16777215) (hr : spec_PutVarint.f k (x / 128) = some (strOfNums (vl (x / 128)))) :
    spec_PutVarint.f (k + 2) x = some (strOfNums (vl x)) := by
  have h2 : decide (x > 16777215) = false := decide_eq_false (by omega)
  have e1 : Int.tmod x 128 = x % 128 := Int.tmod_eq_emod_of_nonneg (by omega)
  have e2 : Int.tdiv x 128 = x / 128 := Int.tdiv_eq_ediv_of_nonneg (by omega)
  simp only [spec_PutVarint.f]
  rw [if_neg (by omega), h2]
  simp only [spec_PutVarint.j0]
  rw [if_neg (by decide), if_neg (by omega), e1, e2, wrap_id (by omega) (by omega), wrap_id (by omega) (by omega), hr]
  simp only [spec_l1Byte.f, Option.bind_some]
  have hs : (strOfNums [(x % 128 + 128) % 256]).size + (strOfNums (vl (x / 128))).size ≤ 9223372036854775807 := by
    rw [strOfNums_size, strOfNums_size, vl_size]
    simp only [List.length_cons, List.length_nil]
    split
    · omega
    · split
      · omega
      · split <;> omega
  rw [if_pos hs, str_append, vl_step h0 h, show (x % 128 + 128) % 256 = x % 128 + 128 by omega]
  rfl

theorem spec_put {x : Int} (h0 : 0 ≤ x) (h : x ≤ 16777215) : ∀ k, 8 ≤ k → spec_PutVarint.f k x = some (strOfNums (vl x)) := by
  intro k hk
  obtain ⟨m, rfl⟩ : ∃ m, k = m + 2 + 2 + 2 + 2 := ⟨k - 8, by omega⟩
  by_cases h1 : x < 128
  · exact spec_put_small _ h0 h1
  · refine spec_put_step _ (by omega) h ?_
    by_cases h2 : x / 128 < 128
    · exact spec_put_small _ (by omega) h2
    · refine spec_put_step _ (by omega) (by omega) ?_
      by_cases h3 : x / 128 / 128 < 128
      · exact spec_put_small _ (by omega) h3
      · refine spec_put_step _ (by omega) (by omega) ?_
        exact spec_put_small _ (by omega) (by omega)

theorem spec_put_none {x : Int} (h : x < 0 ∨ 16777215 < x) (k : Nat) : spec_PutVarint.f (k + 2) x = some (⟨#[]⟩ : ByteArray) := by
  simp only [spec_PutVarint.f]
  by_cases h0 : x < 0
  · rw [if_pos h0]; simp only [spec_PutVarint.j0, if_true]
  · rw [if_neg h0, decide_eq_true (show x > 16777215 by omega)]; simp only [spec_PutVarint.j0, if_true]

/-- Byte number j of a varint and what one in it counts. -/
def Place (j P : Int) : Prop := (j = 0 ∧ P = 1) ∨ (j = 1 ∧ P = 128) ∨ (j = 2 ∧ P = 16384) ∨ (j = 3 ∧ P = 2097152)

theorem acc {j P n b : Int} (hj : Place j P) (h0 : 0 ≤ n) (h1 : n < P) (hb0 : 0 ≤ b) (hb : b ≤ 255) :
    Go.bits .or .i64 n (shl .i64 (wrap64 (Go.bits .and .u8 b 127)) (wrap64 (7 * j))) = n + b % 128 * P := by
  rw [and127 hb0 hb, wrap_id (show -9223372036854775808 ≤ b % 128 by omega) (by omega), or_comm_i64]
  have hs : ∀ (m : Nat) (y : Int), y = (m : Int) → m ≤ 21 → shl .i64 (b % 128) y = b % 128 * 2 ^ m := by
    intro m y e hm
    subst e
    have hk : IntKind.i64.bits = 64 := rfl
    unfold shl
    rw [hk, Int.toNat_natCast, Nat.min_eq_left (by omega)]
    have hp : (2 : Int) ^ m ≤ 2 ^ 21 := by exact_mod_cast Nat.pow_le_pow_right (by decide) hm
    have hp0 : (0 : Int) < 2 ^ m := by exact_mod_cast Nat.two_pow_pos m
    have hmul : b % 128 * 2 ^ m ≤ 127 * 2 ^ 21 := by
      have := Int.mul_le_mul (show b % 128 ≤ 127 by omega) hp (by omega) (by omega)
      exact this
    have hmul0 : 0 ≤ b % 128 * 2 ^ m := Int.mul_nonneg (by omega) (by omega)
    exact i64_wraps _ hmul0 (by omega)
  rcases hj with ⟨rfl, rfl⟩ | ⟨rfl, rfl⟩ | ⟨rfl, rfl⟩ | ⟨rfl, rfl⟩
  · rw [show wrap64 (7 * 0) = ((0 : Nat) : Int) from by unfold wrap64; omega, hs 0 _ rfl (by omega), or_sum_i64 0 _ _ (by omega) (by omega) (by omega) (by omega) (by omega) (by omega)]
    omega
  · rw [show wrap64 (7 * 1) = ((7 : Nat) : Int) from by unfold wrap64; omega, hs 7 _ rfl (by omega), or_sum_i64 7 _ _ (by omega) (by omega) (by omega) (by omega) (by omega) (by omega)]
    omega
  · rw [show wrap64 (7 * 2) = ((14 : Nat) : Int) from by unfold wrap64; omega, hs 14 _ rfl (by omega), or_sum_i64 14 _ _ (by omega) (by omega) (by omega) (by omega) (by omega) (by omega)]
    omega
  · rw [show wrap64 (7 * 3) = ((21 : Nat) : Int) from by unfold wrap64; omega, hs 21 _ rfl (by omega), or_sum_i64 21 _ _ (by omega) (by omega) (by omega) (by omega) (by omega) (by omega)]
    omega

/-- What comes of a byte below 128 at place j. -/
def fin (at_ j m b : Int) : Int × Int × Bool := if (b = 0 ∧ 0 < j) ∨ 16777215 < m then (0, 0, false) else (m, at_ + j + 1, true)

theorem spec_fin {j P n b at_ : Int} (hj : Place j P) (h0 : 0 ≤ n) (h1 : n < P) (hb0 : 0 ≤ b) (hb : b < 128) (ha : 0 ≤ at_) (ha1 : at_ ≤ 1048576) (k : Nat) (hk : 8 ≤ k) :
    ((spec_PutVarint.f k (n + b * P)).bind fun t => (if (t.size : Int) = (wrap64 (j + 1)) then (some (n + b * P, wrap64 (at_ + j + 1), true)) else (some (0, 0, false)))) = some (fin at_ j (n + b * P) b) := by
  have hj3 : 0 ≤ j ∧ j ≤ 3 := by rcases hj with ⟨rfl, rfl⟩ | ⟨rfl, rfl⟩ | ⟨rfl, rfl⟩ | ⟨rfl, rfl⟩ <;> omega
  have hm : 0 ≤ n + b * P := by rcases hj with ⟨rfl, rfl⟩ | ⟨rfl, rfl⟩ | ⟨rfl, rfl⟩ | ⟨rfl, rfl⟩ <;> omega
  rw [wrap_id (show -9223372036854775808 ≤ j + 1 by omega) (by omega), wrap_id (show -9223372036854775808 ≤ at_ + j + 1 by omega) (by omega)]
  unfold fin
  by_cases hbig : 16777215 < n + b * P
  · obtain ⟨k, rfl⟩ : ∃ m, k = m + 2 := ⟨k - 2, by omega⟩
    rw [spec_put_none (.inr hbig) k, if_pos (.inr hbig)]
    simp only [Option.bind_some]
    rw [if_neg]
    have : (⟨#[]⟩ : ByteArray).size = 0 := rfl
    rw [this]; omega
  · rw [spec_put hm (by omega) k hk]
    simp only [Option.bind_some]
    rw [strOfNums_size, vl_size]
    by_cases hz : b = 0 ∧ 0 < j
    · obtain ⟨rfl, hj0⟩ := hz
      rw [if_pos (show ((0 : Int) = 0 ∧ 0 < j) ∨ 16777215 < n + 0 * P from .inl ⟨rfl, hj0⟩), if_neg]
      rcases hj with ⟨rfl, rfl⟩ | ⟨rfl, rfl⟩ | ⟨rfl, rfl⟩ | ⟨rfl, rfl⟩
      · omega
      · rw [if_pos (by omega)]; omega
      · split
        · omega
        · rw [if_pos (by omega)]; omega
      · split
        · omega
        · split
          · omega
          · rw [if_pos (by omega)]; omega
    · rw [if_neg (show ¬((b = 0 ∧ 0 < j) ∨ 16777215 < n + b * P) from fun h => h.elim hz hbig), if_pos]
      rcases hj with ⟨rfl, rfl⟩ | ⟨rfl, rfl⟩ | ⟨rfl, rfl⟩ | ⟨rfl, rfl⟩
      · rw [if_pos (by omega)]; omega
      · rw [if_neg (by omega), if_pos (by omega)]; omega
      · rw [if_neg (by omega), if_neg (by omega), if_pos (by omega)]; omega
      · rw [if_neg (by omega), if_neg (by omega), if_neg (by omega)]; omega

theorem loop (s : ByteArray) (at_ : Int) (ha : 0 ≤ at_) (ha1 : at_ ≤ (s.size : Int)) (hs : (s.size : Int) ≤ 1048576) (d : Nat) :
    ∀ (j P n : Int), j + d = 4 → 0 ≤ j → (j < 4 → Place j P) → 0 ≤ n → n < P → ∃ r, ∀ k, 2 * d + 10 ≤ k →
      impl_GetVarint.l0 k s at_ n (at_ + j) = some r ∧ spec_GetVarint.l0 k s at_ n P j = some r := by
  induction d with
  | zero =>
    intro j P n hjd _ _ _ _
    obtain rfl : j = 4 := by omega
    refine ⟨(0, 0, false), fun k hk => ?_⟩
    obtain ⟨k, rfl⟩ : ∃ m, k = m + 2 := ⟨k - 2, by omega⟩
    simp only [impl_GetVarint.l0, spec_GetVarint.l0]
    rw [if_neg (show ¬ (4 : Int) < 4 by omega), wrap_id (show -9223372036854775808 ≤ at_ + 4 by omega) (by omega), decide_eq_false (show ¬ at_ + 4 < at_ + 4 by omega)]
    simp only [impl_GetVarint.j2, spec_GetVarint.j2, Bool.false_eq_true, if_false, ite_self, and_self]
  | succ d ih =>
    intro j P n hjd hj0 hjP h0 h1
    have hj := hjP (by omega)
    by_cases hin : at_ + j < (s.size : Int)
    · have hb := bt_range s (at_ + j)
      have e1 : wrap64 (at_ + j) = at_ + j := wrap_id (by omega) (by omega)
      have e2 : wrap64 (at_ + 4) = at_ + 4 := wrap_id (by omega) (by omega)
      have e3 : wrap64 (at_ + j - at_) = j := by rw [wrap_id (by omega) (by omega)]; omega
      have e4 : wrap64 (7 * j) = 7 * j := wrap_id (by omega) (by omega)
      have e5 : wrap64 (Int.tmod (bt s (at_ + j)) 128) = bt s (at_ + j) % 128 := by
        rw [Int.tmod_eq_emod_of_nonneg hb.1, wrap_id (by omega) (by omega)]
      have e6 : wrap64 (at_ + j + 1) = at_ + j + 1 := wrap_id (by omega) (by omega)
      have e7 : wrap64 (j + 1) = j + 1 := wrap_id (by omega) (by omega)
      have e8 : wrap64 (P * 128) = P * 128 := by rcases hj with ⟨rfl, rfl⟩ | ⟨rfl, rfl⟩ | ⟨rfl, rfl⟩ | ⟨rfl, rfl⟩ <;> (unfold wrap64; omega)
      have hm0 : 0 ≤ bt s (at_ + j) % 128 * P ∧ bt s (at_ + j) % 128 * P ≤ 127 * 2097152 ∧ n + bt s (at_ + j) % 128 * P < P * 128 := by
        rcases hj with ⟨rfl, rfl⟩ | ⟨rfl, rfl⟩ | ⟨rfl, rfl⟩ | ⟨rfl, rfl⟩ <;> omega
      have hn0 : n < 2097152 := by rcases hj with ⟨rfl, rfl⟩ | ⟨rfl, rfl⟩ | ⟨rfl, rfl⟩ | ⟨rfl, rfl⟩ <;> omega
      have e9 : wrap64 (bt s (at_ + j) % 128 * P) = bt s (at_ + j) % 128 * P := wrap_id (by omega) (by omega)
      have e10 : wrap64 (n + bt s (at_ + j) % 128 * P) = n + bt s (at_ + j) % 128 * P := wrap_id (by omega) (by omega)
      have ea := acc hj h0 h1 hb.1 hb.2
      rw [e4] at ea
      by_cases hlow : bt s (at_ + j) < 128
      · have em : bt s (at_ + j) % 128 = bt s (at_ + j) := by omega
        refine ⟨fin at_ j (n + bt s (at_ + j) * P) (bt s (at_ + j)), fun k hk => ?_⟩
        obtain ⟨k, rfl⟩ : ∃ m, k = m + 2 := ⟨k - 2, by omega⟩
        constructor
        · simp only [impl_GetVarint.l0]
          rw [if_pos hin, e2, decide_eq_true (show at_ + j < at_ + 4 by omega)]
          simp only [impl_GetVarint.j2, if_true]
          rw [if_pos (show 0 ≤ at_ + j by omega), if_pos hin, e3, e4, if_pos (show 0 ≤ 7 * j by omega), if_pos hlow, ea, em, e6]
          unfold fin
          by_cases hz : bt s (at_ + j) = 0
          · rw [if_pos hz]
            by_cases hj1 : 0 < j
            · rw [if_pos (show at_ + j > at_ by omega), if_pos (.inl ⟨hz, hj1⟩)]
            · rw [if_neg (show ¬ at_ + j > at_ by omega)]
              by_cases hbig : 16777215 < n + bt s (at_ + j) * P
              · rw [if_pos hbig, if_pos (.inr hbig)]
              · rw [if_neg hbig, if_neg (fun h' => h'.elim (fun h => hj1 h.2) hbig)]
          · rw [if_neg hz]
            by_cases hbig : 16777215 < n + bt s (at_ + j) * P
            · rw [if_pos hbig, if_pos (.inr hbig)]
            · rw [if_neg hbig, if_neg (fun h' => h'.elim (fun h => hz h.1) hbig)]
        · simp only [spec_GetVarint.l0]
          rw [if_pos (show j < 4 by omega), e1, decide_eq_true hin]
          simp only [spec_GetVarint.j2, if_true]
          rw [e1, if_pos (show 0 ≤ at_ + j by omega), if_pos hin, if_pos hlow, e5, e9, e10, em]
          exact spec_fin hj h0 h1 hb.1 hlow ha (by omega) k (by omega)
      · obtain ⟨r, hr⟩ := ih (j + 1) (P * 128) (n + bt s (at_ + j) % 128 * P) (by omega) (by omega)
          (fun hlt => by
            rcases hj with ⟨rfl, rfl⟩ | ⟨rfl, rfl⟩ | ⟨rfl, rfl⟩ | ⟨rfl, rfl⟩
            · exact .inr (.inl ⟨rfl, rfl⟩)
            · exact .inr (.inr (.inl ⟨rfl, rfl⟩))
            · exact .inr (.inr (.inr ⟨rfl, rfl⟩))
            · omega) (by omega) hm0.2.2
        refine ⟨r, fun k hk => ?_⟩
        obtain ⟨k, rfl⟩ : ∃ m, k = m + 2 := ⟨k - 2, by omega⟩
        obtain ⟨hr1, hr2⟩ := hr k (by omega)
        constructor
        · simp only [impl_GetVarint.l0]
          rw [if_pos hin, e2, decide_eq_true (show at_ + j < at_ + 4 by omega)]
          simp only [impl_GetVarint.j2, if_true]
          rw [if_pos (show 0 ≤ at_ + j by omega), if_pos hin, e3, e4, if_pos (show 0 ≤ 7 * j by omega), if_neg hlow, ea, e6]
          rw [show at_ + j + 1 = at_ + (j + 1) by omega]
          exact hr1
        · simp only [spec_GetVarint.l0]
          rw [if_pos (show j < 4 by omega), e1, decide_eq_true hin]
          simp only [spec_GetVarint.j2, if_true]
          rw [e1, if_pos (show 0 ≤ at_ + j by omega), if_pos hin, if_neg hlow, e5, e9, e10, e8, e7]
          exact hr2
    · refine ⟨(0, 0, false), fun k hk => ?_⟩
      obtain ⟨k, rfl⟩ : ∃ m, k = m + 2 := ⟨k - 2, by omega⟩
      simp only [impl_GetVarint.l0, spec_GetVarint.l0]
      rw [if_neg hin, if_pos (show j < 4 by omega), wrap_id (show -9223372036854775808 ≤ at_ + j by omega) (by omega), decide_eq_false hin]
      simp only [impl_GetVarint.j2, spec_GetVarint.j2, Bool.false_eq_true, if_false, and_self]

theorem both (s : ByteArray) (at_ : Int) (hs : (s.size : Int) ≤ 1048576) : ∃ r, spec_GetVarint.f 20 s at_ = some r ∧ impl_GetVarint.f 20 s at_ = some r := by
  unfold spec_GetVarint.f impl_GetVarint.f
  by_cases h0 : at_ < 0
  · rw [if_pos h0, if_pos h0]
    exact ⟨(0, 0, false), by simp only [spec_GetVarint.j0, if_true], by simp only [impl_GetVarint.j0, if_true]⟩
  · rw [if_neg h0, if_neg h0]
    by_cases h1 : at_ > (s.size : Int)
    · rw [decide_eq_true h1]
      exact ⟨(0, 0, false), by simp only [spec_GetVarint.j0, if_true], by simp only [impl_GetVarint.j0, if_true]⟩
    · rw [decide_eq_false h1]
      obtain ⟨r, hr⟩ := loop s at_ (by omega) (by omega) hs 4 0 1 0 (by omega) (by omega) (fun _ => .inl ⟨rfl, rfl⟩) (by omega) (by omega)
      obtain ⟨hr1, hr2⟩ := hr 19 (by omega)
      rw [Int.add_zero] at hr1
      refine ⟨r, ?_, ?_⟩
      · simp only [spec_GetVarint.j0, Bool.false_eq_true, if_false]; exact hr2
      · simp only [impl_GetVarint.j0, Bool.false_eq_true, if_false]; exact hr1

theorem FnExactGetVarint : laws_FnExactGetVarint.Pure := by
  intro s at_ _ _
  refine ⟨20, ?_⟩
  unfold laws_FnExactGetVarint.f
  by_cases h : (s.size : Int) > 1048576
  · rw [if_pos h]
  · rw [if_neg h]
    obtain ⟨r, h1, h2⟩ := both s at_ (by omega)
    rw [h1, h2]
    simp only [Option.bind_some, if_true, bne_self_eq_false, Bool.false_eq_true, if_false]

end Go.Proofs.Ytnjchhkpomakoaa.Pure
