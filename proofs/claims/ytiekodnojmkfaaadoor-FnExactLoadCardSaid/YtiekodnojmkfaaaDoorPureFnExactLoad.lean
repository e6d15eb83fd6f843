/- The plain law of FnExactLoad: what the readers answer on both sides, that a chunk is like itself, its marks, and that all is as the law asks. -/
import Derived.Test.YtiekodnojmkfaaaDoorLm
import Derived.Test.YtiekodnojmkfaaaDoorEv
import Derived.Test.YtiekodnojmkfaaaDoorVint
import Derived.Laws.Strings
namespace Go.Proofs.YtiekodnojmkfaaaDoor.Pure
open Go.RowKit Go.Proofs.YtiekodnojmkfaaaDoor.PFnExactLoad Go.Proofs.YtiekodnojmkfaaaDoorW.PrintWords Go.Proofs.YtiekodnojmkfaaaDoorW.PrintLast Go.Proofs.YtiekodnojmkfaaaDoorW.PrintMore Go.Proofs.YtiekodnojmkfaaaDoorEv Go.Proofs.YtiekodnojmkfaaaDoorVint
theorem spec_put_small (k : Nat) {x : Int} (h0 : 0 ≤ x) (h : x < 128) : spec_PutVarint.f (k + 2) x = some (strOfNums (vl x)) := by
  have h2 : decide (x > 16777215) = false := decide_eq_false (by omega)
  simp only [spec_PutVarint.f]
  rw [if_neg (by omega), h2]
  simp only [spec_PutVarint.j0]
  rw [if_neg (by decide), if_pos h]
  simp only [spec_l1Byte.f, Option.bind_some]
  rw [vl_small h, show x % 256 = x by omega]

theorem spec_put_step (k : Nat) {x : Int} (h0 : 128 ≤ x) (h : x ≤ 16777215) (hr : spec_PutVarint.f k (x / 128) = some (strOfNums (vl (x / 128)))) :
    spec_PutVarint.f (k + 2) x = some (strOfNums (vl x)) := by
  have h2 : decide (x > 16777215) = false := decide_eq_false (by omega)
  have e1 : Int.tmod x 128 = x % 128 := Int.tmod_eq_emod_of_nonneg (by omega)
  have e2 : Int.tdiv x 128 = x / 128 := Int.tdiv_eq_ediv_of_nonneg (by omega)
  simp only [spec_PutVarint.f]
  rw [if_neg (by omega), h2]
  simp only [spec_PutVarint.j0]
  rw [if_neg (by decide), if_neg (by omega), e1, e2, wrap_id (by omega) (by omega), wrap_id (by omega) (by omega), hr]
  simp only [spec_l1Byte.f, Option.bind_some]
  have hs : (strOfNums [(x % 128 + 128) % 256]).size + (strOfNums (vl (x / 128))).size ≤ 9223372036854775807 := by
    rw [strOfNums_size, strOfNums_size, vl_size]
    simp only [List.length_cons, List.length_nil]
    split
    · omega
    · split
      · omega
      · split <;> omega
  rw [if_pos hs, str_append, vl_step h0 h, show (x % 128 + 128) % 256 = x % 128 + 128 by omega]
  rfl

theorem spec_put {x : Int} (h0 : 0 ≤ x) (h : x ≤ 16777215) : ∀ k, 8 ≤ k → spec_PutVarint.f k x = some (strOfNums (vl x)) := by
  intro k hk
  obtain ⟨m, rfl⟩ : ∃ m, k = m + 2 + 2 + 2 + 2 := ⟨k - 8, by omega⟩
  by_cases h1 : x < 128
  · exact spec_put_small _ h0 h1
  · refine spec_put_step _ (by omega) h ?_
    by_cases h2 : x / 128 < 128
    · exact spec_put_small _ (by omega) h2
    · refine spec_put_step _ (by omega) (by omega) ?_
      by_cases h3 : x / 128 / 128 < 128
      · exact spec_put_small _ (by omega) h3
      · refine spec_put_step _ (by omega) (by omega) ?_
        exact spec_put_small _ (by omega) (by omega)

theorem spec_put_none {x : Int} (h : x < 0 ∨ 16777215 < x) (k : Nat) : spec_PutVarint.f (k + 2) x = some (⟨#[]⟩ : ByteArray) := by
  simp only [spec_PutVarint.f]
  by_cases h0 : x < 0
  · rw [if_pos h0]; simp only [spec_PutVarint.j0, if_true]
  · rw [if_neg h0, decide_eq_true (show x > 16777215 by omega)]; simp only [spec_PutVarint.j0, if_true]

/-- Byte number j of a varint and what one in it counts. -/
def Place (j P : Int) : Prop := (j = 0 ∧ P = 1) ∨ (j = 1 ∧ P = 128) ∨ (j = 2 ∧ P = 16384) ∨ (j = 3 ∧ P = 2097152)

theorem acc {j P n b : Int} (hj : Place j P) (h0 : 0 ≤ n) (h1 : n < P) (hb0 : 0 ≤ b) (hb : b ≤ 255) :
    Go.bits .or .i64 n (shl .i64 (wrap64 (Go.bits .and .u8 b 127)) (wrap64 (7 * j))) = n + b % 128 * P := by
  rw [and127 hb0 hb, wrap_id (show -9223372036854775808 ≤ b % 128 by omega) (by omega), or_comm_i64]
  have hs : ∀ (m : Nat) (y : Int), y = (m : Int) → m ≤ 21 → shl .i64 (b % 128) y = b % 128 * 2 ^ m := by
    intro m y e hm
    subst e
    have hk : IntKind.i64.bits = 64 := rfl
    unfold shl
    rw [hk, Int.toNat_natCast, Nat.min_eq_left (by omega)]
    have hp : (2 : Int) ^ m ≤ 2 ^ 21 := by exact_mod_cast Nat.pow_le_pow_right (by decide) hm
    have hp0 : (0 : Int) < 2 ^ m := by exact_mod_cast Nat.two_pow_pos m
    have hmul : b % 128 * 2 ^ m ≤ 127 * 2 ^ 21 := by
      have := Int.mul_le_mul (show b % 128 ≤ 127 by omega) hp (by omega) (by omega)
      exact this
    have hmul0 : 0 ≤ b % 128 * 2 ^ m := Int.mul_nonneg (by omega) (by omega)
    exact i64_wraps _ hmul0 (by omega)
  rcases hj with ⟨rfl, rfl⟩ | ⟨rfl, rfl⟩ | ⟨rfl, rfl⟩ | ⟨rfl, rfl⟩
  · rw [show wrap64 (7 * 0) = ((0 : Nat) : Int) from by unfold wrap64; omega, hs 0 _ rfl (by omega), or_sum_i64 0 _ _ (by omega) (by omega) (by omega) (by omega) (by omega) (by omega)]
    omega
  · rw [show wrap64 (7 * 1) = ((7 : Nat) : Int) from by unfold wrap64; omega, hs 7 _ rfl (by omega), or_sum_i64 7 _ _ (by omega) (by omega) (by omega) (by omega) (by omega) (by omega)]
    omega
  · rw [show wrap64 (7 * 2) = ((14 : Nat) : Int) from by unfold wrap64; omega, hs 14 _ rfl (by omega), or_sum_i64 14 _ _ (by omega) (by omega) (by omega) (by omega) (by omega) (by omega)]
    omega
  · rw [show wrap64 (7 * 3) = ((21 : Nat) : Int) from by unfold wrap64; omega, hs 21 _ rfl (by omega), or_sum_i64 21 _ _ (by omega) (by omega) (by omega) (by omega) (by omega) (by omega)]
    omega

/-- What comes of a byte below 128 at place j. -/
def fin (at_ j m b : Int) : Int × Int × Bool := if (b = 0 ∧ 0 < j) ∨ 16777215 < m then (0, 0, false) else (m, at_ + j + 1, true)

theorem spec_fin {j P n b at_ : Int} (hj : Place j P) (h0 : 0 ≤ n) (h1 : n < P) (hb0 : 0 ≤ b) (hb : b < 128) (ha : 0 ≤ at_) (ha1 : at_ ≤ 1048576) (k : Nat) (hk : 8 ≤ k) :
    ((spec_PutVarint.f k (n + b * P)).bind fun t => (if (t.size : Int) = (wrap64 (j + 1)) then (some (n + b * P, wrap64 (at_ + j + 1), true)) else (some (0, 0, false)))) = some (fin at_ j (n + b * P) b) := by
  have hj3 : 0 ≤ j ∧ j ≤ 3 := by rcases hj with ⟨rfl, rfl⟩ | ⟨rfl, rfl⟩ | ⟨rfl, rfl⟩ | ⟨rfl, rfl⟩ <;> omega
  have hm : 0 ≤ n + b * P := by rcases hj with ⟨rfl, rfl⟩ | ⟨rfl, rfl⟩ | ⟨rfl, rfl⟩ | ⟨rfl, rfl⟩ <;> omega
  rw [wrap_id (show -9223372036854775808 ≤ j + 1 by omega) (by omega), wrap_id (show -9223372036854775808 ≤ at_ + j + 1 by omega) (by omega)]
  unfold fin
  by_cases hbig : 16777215 < n + b * P
  · obtain ⟨k, rfl⟩ : ∃ m, k = m + 2 := ⟨k - 2, by omega⟩
    rw [spec_put_none (.inr hbig) k, if_pos (.inr hbig)]
    simp only [Option.bind_some]
    rw [if_neg]
    have : (⟨#[]⟩ : ByteArray).size = 0 := rfl
    rw [this]; omega
  · rw [spec_put hm (by omega) k hk]
    simp only [Option.bind_some]
    rw [strOfNums_size, vl_size]
    by_cases hz : b = 0 ∧ 0 < j
    · obtain ⟨rfl, hj0⟩ := hz
      rw [if_pos (show ((0 : Int) = 0 ∧ 0 < j) ∨ 16777215 < n + 0 * P from .inl ⟨rfl, hj0⟩), if_neg]
      rcases hj with ⟨rfl, rfl⟩ | ⟨rfl, rfl⟩ | ⟨rfl, rfl⟩ | ⟨rfl, rfl⟩
      · omega
      · rw [if_pos (by omega)]; omega
      · split
        · omega
        · rw [if_pos (by omega)]; omega
      · split
        · omega
        · split
          · omega
          · rw [if_pos (by omega)]; omega
    · rw [if_neg (show ¬((b = 0 ∧ 0 < j) ∨ 16777215 < n + b * P) from fun h => h.elim hz hbig), if_pos]
      rcases hj with ⟨rfl, rfl⟩ | ⟨rfl, rfl⟩ | ⟨rfl, rfl⟩ | ⟨rfl, rfl⟩
      · rw [if_pos (by omega)]; omega
      · rw [if_neg (by omega), if_pos (by omega)]; omega
      · rw [if_neg (by omega), if_neg (by omega), if_pos (by omega)]; omega
      · rw [if_neg (by omega), if_neg (by omega), if_neg (by omega)]; omega

theorem fin_ok {at_ j m b : Int} {s : ByteArray} (h0 : 0 ≤ m) (hin : at_ + j < (s.size : Int)) (h : (fin at_ j m b).2.2 = true) : 0 ≤ (fin at_ j m b).1 ∧ (fin at_ j m b).1 ≤ 16777215 ∧ at_ + j < (fin at_ j m b).2.1 ∧ (fin at_ j m b).2.1 ≤ (s.size : Int) := by
  unfold fin at h ⊢
  split at h
  · exact absurd h (by decide)
  · rename_i hc
    rw [if_neg hc]
    exact ⟨h0, by omega, by show at_ + j < at_ + j + 1; omega, by show at_ + j + 1 ≤ _; omega⟩
theorem loop (s : ByteArray) (at_ : Int) (ha : 0 ≤ at_) (ha1 : at_ ≤ (s.size : Int)) (hs : (s.size : Int) ≤ 1048576) (d : Nat) :
    ∀ (j P n : Int), j + d = 4 → 0 ≤ j → (j < 4 → Place j P) → 0 ≤ n → n < P → ∃ r : Int × Int × Bool, (r.2.2 = true → 0 ≤ r.1 ∧ r.1 ≤ 16777215 ∧ at_ + j < r.2.1 ∧ r.2.1 ≤ (s.size : Int)) ∧ ∀ k, 2 * d + 10 ≤ k →
      impl_GetVarint.l0 k s at_ n (at_ + j) = some r ∧ spec_GetVarint.l0 k s at_ n P j = some r := by
  induction d with
  | zero =>
    intro j P n hjd _ _ _ _
    obtain rfl : j = 4 := by omega
    refine ⟨(0, 0, false), fun h => absurd h (by decide), fun k hk => ?_⟩
    obtain ⟨k, rfl⟩ : ∃ m, k = m + 2 := ⟨k - 2, by omega⟩
    simp only [impl_GetVarint.l0, spec_GetVarint.l0]
    rw [if_neg (show ¬ (4 : Int) < 4 by omega), wrap_id (show -9223372036854775808 ≤ at_ + 4 by omega) (by omega), decide_eq_false (show ¬ at_ + 4 < at_ + 4 by omega)]
    simp only [impl_GetVarint.j2, spec_GetVarint.j2, Bool.false_eq_true, if_false, ite_self, and_self]
  | succ d ih =>
    intro j P n hjd hj0 hjP h0 h1
    have hj := hjP (by omega)
    by_cases hin : at_ + j < (s.size : Int)
    · have hb := bt_range s (at_ + j)
      have e1 : wrap64 (at_ + j) = at_ + j := wrap_id (by omega) (by omega)
      have e2 : wrap64 (at_ + 4) = at_ + 4 := wrap_id (by omega) (by omega)
      have e3 : wrap64 (at_ + j - at_) = j := by rw [wrap_id (by omega) (by omega)]; omega
      have e4 : wrap64 (7 * j) = 7 * j := wrap_id (by omega) (by omega)
      have e5 : wrap64 (Int.tmod (bt s (at_ + j)) 128) = bt s (at_ + j) % 128 := by
        rw [Int.tmod_eq_emod_of_nonneg hb.1, wrap_id (by omega) (by omega)]
      have e6 : wrap64 (at_ + j + 1) = at_ + j + 1 := wrap_id (by omega) (by omega)
      have e7 : wrap64 (j + 1) = j + 1 := wrap_id (by omega) (by omega)
      have e8 : wrap64 (P * 128) = P * 128 := by rcases hj with ⟨rfl, rfl⟩ | ⟨rfl, rfl⟩ | ⟨rfl, rfl⟩ | ⟨rfl, rfl⟩ <;> (unfold wrap64; omega)
      have hm0 : 0 ≤ bt s (at_ + j) % 128 * P ∧ bt s (at_ + j) % 128 * P ≤ 127 * 2097152 ∧ n + bt s (at_ + j) % 128 * P < P * 128 := by
        rcases hj with ⟨rfl, rfl⟩ | ⟨rfl, rfl⟩ | ⟨rfl, rfl⟩ | ⟨rfl, rfl⟩ <;> omega
      have hn0 : n < 2097152 := by rcases hj with ⟨rfl, rfl⟩ | ⟨rfl, rfl⟩ | ⟨rfl, rfl⟩ | ⟨rfl, rfl⟩ <;> omega
      have e9 : wrap64 (bt s (at_ + j) % 128 * P) = bt s (at_ + j) % 128 * P := wrap_id (by omega) (by omega)
      have e10 : wrap64 (n + bt s (at_ + j) % 128 * P) = n + bt s (at_ + j) % 128 * P := wrap_id (by omega) (by omega)
      have ea := acc hj h0 h1 hb.1 hb.2
      rw [e4] at ea
      by_cases hlow : bt s (at_ + j) < 128
      · have em : bt s (at_ + j) % 128 = bt s (at_ + j) := by omega
        refine ⟨fin at_ j (n + bt s (at_ + j) * P) (bt s (at_ + j)), fin_ok (by rw [em] at hm0; omega) hin, fun k hk => ?_⟩
        obtain ⟨k, rfl⟩ : ∃ m, k = m + 2 := ⟨k - 2, by omega⟩
        constructor
        · simp only [impl_GetVarint.l0]
          rw [if_pos hin, e2, decide_eq_true (show at_ + j < at_ + 4 by omega)]
          simp only [impl_GetVarint.j2, if_true]
          rw [if_pos (show 0 ≤ at_ + j by omega), if_pos hin, e3, e4, if_pos (show 0 ≤ 7 * j by omega), if_pos hlow, ea, em, e6]
          unfold fin
          by_cases hz : bt s (at_ + j) = 0
          · rw [if_pos hz]
            by_cases hj1 : 0 < j
            · rw [if_pos (show at_ + j > at_ by omega), if_pos (.inl ⟨hz, hj1⟩)]
            · rw [if_neg (show ¬ at_ + j > at_ by omega)]
              by_cases hbig : 16777215 < n + bt s (at_ + j) * P
              · rw [if_pos hbig, if_pos (.inr hbig)]
              · rw [if_neg hbig, if_neg (fun h' => h'.elim (fun h => hj1 h.2) hbig)]
          · rw [if_neg hz]
            by_cases hbig : 16777215 < n + bt s (at_ + j) * P
            · rw [if_pos hbig, if_pos (.inr hbig)]
            · rw [if_neg hbig, if_neg (fun h' => h'.elim (fun h => hz h.1) hbig)]
        · simp only [spec_GetVarint.l0]
          rw [if_pos (show j < 4 by omega), e1, decide_eq_true hin]
          simp only [spec_GetVarint.j2, if_true]
          rw [e1, if_pos (show 0 ≤ at_ + j by omega), if_pos hin, if_pos hlow, e5, e9, e10, em]
          exact spec_fin hj h0 h1 hb.1 hlow ha (by omega) k (by omega)
      · obtain ⟨r, hq, hr⟩ := ih (j + 1) (P * 128) (n + bt s (at_ + j) % 128 * P) (by omega) (by omega)
          (fun hlt => by
            rcases hj with ⟨rfl, rfl⟩ | ⟨rfl, rfl⟩ | ⟨rfl, rfl⟩ | ⟨rfl, rfl⟩
            · exact .inr (.inl ⟨rfl, rfl⟩)
            · exact .inr (.inr (.inl ⟨rfl, rfl⟩))
            · exact .inr (.inr (.inr ⟨rfl, rfl⟩))
            · omega) (by omega) hm0.2.2
        refine ⟨r, fun h => by have := hq h; omega, fun k hk => ?_⟩
        obtain ⟨k, rfl⟩ : ∃ m, k = m + 2 := ⟨k - 2, by omega⟩
        obtain ⟨hr1, hr2⟩ := hr k (by omega)
        constructor
        · simp only [impl_GetVarint.l0]
          rw [if_pos hin, e2, decide_eq_true (show at_ + j < at_ + 4 by omega)]
          simp only [impl_GetVarint.j2, if_true]
          rw [if_pos (show 0 ≤ at_ + j by omega), if_pos hin, e3, e4, if_pos (show 0 ≤ 7 * j by omega), if_neg hlow, ea, e6]
          rw [show at_ + j + 1 = at_ + (j + 1) by omega]
          exact hr1
        · simp only [spec_GetVarint.l0]
          rw [if_pos (show j < 4 by omega), e1, decide_eq_true hin]
          simp only [spec_GetVarint.j2, if_true]
          rw [e1, if_pos (show 0 ≤ at_ + j by omega), if_pos hin, if_neg hlow, e5, e9, e10, e8, e7]
          exact hr2
    · refine ⟨(0, 0, false), fun h => absurd h (by decide), fun k hk => ?_⟩
      obtain ⟨k, rfl⟩ : ∃ m, k = m + 2 := ⟨k - 2, by omega⟩
      simp only [impl_GetVarint.l0, spec_GetVarint.l0]
      rw [if_neg hin, if_pos (show j < 4 by omega), wrap_id (show -9223372036854775808 ≤ at_ + j by omega) (by omega), decide_eq_false hin]
      simp only [impl_GetVarint.j2, spec_GetVarint.j2, Bool.false_eq_true, if_false, and_self]

theorem or_byte (x b : Int) (hb0 : 0 ≤ b) (hb : b ≤ 255) :
    bits .or .u64 (IntKind.u64.wrap (x * 256)) (IntKind.u64.wrap b) = IntKind.u64.wrap (IntKind.u64.wrap (x * 256) + IntKind.u64.wrap b) := by
  have e : IntKind.u64.wrap (x * 256) = x * 256 % 18446744073709551616 := IntKind.wrap_u64 _
  have hp : 0 ≤ IntKind.u64.wrap (x * 256) ∧ IntKind.u64.wrap (x * 256) < 18446744073709551616 ∧ IntKind.u64.wrap (x * 256) % 256 = 0 := by rw [e]; omega
  have e2 : IntKind.u64.wrap b = b := u64_id hb0 (by omega)
  rw [e2]
  generalize IntKind.u64.wrap (x * 256) = y at hp
  obtain ⟨h1, h2, h3⟩ := hp
  rw [or_sum_u64 8 y b h1 h3 (by omega) hb0 (by omega) (by omega), u64_id (by omega) (by omega)]

theorem loops_same (s : ByteArray) (at_ : Int) (k : Nat) : ∀ (x i : Int), impl_GetInt.l0 k s at_ x i = spec_GetInt.l0 k s at_ x i := by
  induction k with
  | zero => intro x i; simp only [impl_GetInt.l0, spec_GetInt.l0]
  | succ k ih =>
    intro x i
    simp only [impl_GetInt.l0, spec_GetInt.l0]
    have hb := bt_range s (wrap64 (at_ + i))
    rw [or_byte _ _ hb.1 hb.2, ih]

theorem int_loop (s : ByteArray) (at_ : Int) (h0 : 0 ≤ at_) (h1 : at_ + 8 ≤ (s.size : Int)) (hs : (s.size : Int) ≤ 1048576) (d : Nat) :
    ∀ (x i : Int), i + 1 = d → d ≤ 8 → ∃ r, ∀ k, d < k → spec_GetInt.l0 k s at_ x i = some r := by
  induction d with
  | zero =>
    intro x i hi _
    refine ⟨(wrap64 x, wrap64 (at_ + 8), true), fun k hk => ?_⟩
    obtain ⟨k, rfl⟩ : ∃ m, k = m + 1 := ⟨k - 1, by omega⟩
    simp only [spec_GetInt.l0]
    rw [if_neg (by omega)]
  | succ d ih =>
    intro x i hi hd
    have e : wrap64 (at_ + i) = at_ + i := wrap_id (by omega) (by omega)
    have e2 : wrap64 (i - 1) = i - 1 := wrap_id (by omega) (by omega)
    obtain ⟨r, hr⟩ := ih (IntKind.u64.wrap (IntKind.u64.wrap (x * 256) + IntKind.u64.wrap (bt s (at_ + i)))) (i - 1) (by omega) (by omega)
    refine ⟨r, fun k hk => ?_⟩
    obtain ⟨k, rfl⟩ : ∃ m, k = m + 1 := ⟨k - 1, by omega⟩
    simp only [spec_GetInt.l0]
    rw [e, e2, if_pos (by omega), if_pos (by omega), if_pos (by omega)]
    exact hr k (by omega)
/-- GetInt at the head of a text: with rounds enough both answer alike. -/
theorem int_both (s : ByteArray) (hs : (s.size : Int) ≤ 1048576) : ∃ r, ∀ k, 12 ≤ k → spec_GetInt.f k s 0 = some r ∧ impl_GetInt.f k s 0 = some r := by
  have hw : wrap64 ((s.size : Int) - 0) = (s.size : Int) := by rw [wrap_id (by omega) (by omega)]; omega
  by_cases h : (s.size : Int) < 8
  · refine ⟨(0, 0, false), fun k hk => ?_⟩
    obtain ⟨k, rfl⟩ : ∃ m, k = m + 1 := ⟨k - 1, by omega⟩
    unfold spec_GetInt.f impl_GetInt.f
    rw [hw, if_neg (by omega), if_neg (by omega), if_neg (by omega), decide_eq_true h]
    simp only [spec_GetInt.j0, impl_GetInt.j0, if_true, and_self]
  · obtain ⟨r, hr⟩ := int_loop s 0 (by omega) (by omega) hs 8 0 7 (by omega) (by omega)
    refine ⟨r, fun k hk => ?_⟩
    obtain ⟨k, rfl⟩ : ∃ m, k = m + 1 := ⟨k - 1, by omega⟩
    unfold spec_GetInt.f impl_GetInt.f
    rw [hw, if_neg (by omega), if_neg (by omega), if_neg (by omega), decide_eq_false h]
    simp only [spec_GetInt.j0, impl_GetInt.j0]
    rw [if_neg (by decide), loops_same]
    exact ⟨hr k (by omega), hr k (by omega)⟩
theorem gv_all {s : ByteArray} (hs : s.size ≤ 1048576) {a : Int} (ha : 0 ≤ a) (h1 : a ≤ (s.size : Int)) : ∃ r : Int × Int × Bool, (r.2.2 = true → 0 ≤ r.1 ∧ r.1 ≤ 16777215 ∧ a < r.2.1 ∧ r.2.1 ≤ (s.size : Int)) ∧ ∀ k, 20 ≤ k → impl_GetVarint.f k s a = some r ∧ spec_GetVarint.f k s a = some r := by
  obtain ⟨r, hq, hr⟩ := loop s a ha h1 (by omega) 4 0 1 0 (by omega) (by omega) (fun _ => .inl ⟨rfl, rfl⟩) (by omega) (by omega)
  rw [Int.add_zero] at hq hr
  refine ⟨r, hq, fun k hk => ?_⟩
  obtain ⟨k, rfl⟩ : ∃ m, k = m + 1 := ⟨k - 1, by omega⟩
  obtain ⟨hr1, hr2⟩ := hr k (by omega)
  unfold spec_GetVarint.f impl_GetVarint.f
  rw [if_neg (by omega), if_neg (by omega), decide_eq_false (by omega)]
  simp only [spec_GetVarint.j0, impl_GetVarint.j0]
  rw [if_neg (by decide), if_neg (by decide)]
  exact ⟨hr1, hr2⟩
theorem gv_ok {s : ByteArray} (hs : s.size ≤ 1048576) : GvOk s := fun a ha h1 => by
  obtain ⟨r, hq, hr⟩ := gv_all hs ha h1
  have e : gv s a = r := by unfold gv; rw [(hr 40 (by decide)).1]; rfl
  rw [e]
  exact ⟨(hr 40 (by decide)).1, hq⟩
theorem spec_gv {s : ByteArray} (hs : s.size ≤ 1048576) {a : Int} (ha : 0 ≤ a) (h1 : a ≤ (s.size : Int)) (k : Nat) (hk : 20 ≤ k) : spec_GetVarint.f k s a = some (gv s a) := by
  obtain ⟨r, hq, hr⟩ := gv_all hs ha h1
  have e : gv s a = r := by unfold gv; rw [(hr 40 (by decide)).1]; rfl
  rw [e]
  exact (hr k hk).2
theorem l3Fail_eq (s : ByteArray) (a e c : Int) : spec_l3Fail.f s a e c = some (s, a, if e = 0 then c else e) := by
  unfold spec_l3Fail.f
  split <;> rfl
/-! ### where a varint that is none ends -/
theorem stop_end {s : ByteArray} {i : Nat} (h : s.size ≤ i) : stop s i = i := by
  unfold PFnExactLoad.stop
  rw [show s.size - i = 0 by omega]
  rfl
theorem stop_here {s : ByteArray} {i : Nat} (h : i < s.size) (hb : bt s (i : Int) < 128) : stop s i = i := by
  unfold PFnExactLoad.stop
  obtain ⟨n, hn⟩ : ∃ n, s.size - i = n + 1 := ⟨s.size - i - 1, by omega⟩
  rw [hn, stopAt, if_neg (fun hh => by omega)]
theorem stop_next {s : ByteArray} {i : Nat} (h : i < s.size) (hb : 128 ≤ bt s (i : Int)) : stop s i = stop s (i + 1) := by
  unfold PFnExactLoad.stop
  obtain ⟨n, hn⟩ : ∃ n, s.size - i = n + 1 := ⟨s.size - i - 1, by omega⟩
  rw [hn, stopAt, if_pos ⟨h, hb⟩, show s.size - (i + 1) = n by omega]
theorem stopAt_ge (s : ByteArray) : ∀ n i, i ≤ stopAt s n i
  | 0, i => Nat.le_refl _
  | n + 1, i => by
    rw [stopAt]
    split
    · exact Nat.le_trans (Nat.le_succ _) (stopAt_ge s n (i + 1))
    · exact Nat.le_refl _
theorem stop_ge {s : ByteArray} {i : Nat} : i ≤ stop s i := stopAt_ge s _ i
theorem number_tail {s : ByteArray} (hs : s.size ≤ 1048576) {a : Nat} (ha : a ≤ s.size) : ∀ (d c : Nat), c + d = 4 → a + c ≤ s.size → stop s a = stop s (a + c) → ∀ k, 2 * d + 10 ≤ k →
    spec_l3Number.l0 k (c : Int) s (a : Int) 0 = some (0, s, (a : Int), gvErr s (a : Int)) := by
  have ht : ((a : Nat) : Int).toNat = a := Int.toNat_natCast a
  intro d
  induction d with
  | zero =>
    intro c hc hle hst k hk
    obtain ⟨k, rfl⟩ : ∃ m, k = m + 3 := ⟨k - 3, by omega⟩
    have e1 : wrap64 ((a : Int) + (c : Int)) = (a : Int) + (c : Int) := wrap_id (by omega) (by omega)
    have hg : gvErr s (a : Int) = 3 := by
      unfold gvErr
      rw [ht]
      have := stop_ge (s := s) (i := a + c)
      rw [if_neg (fun h => by omega)]
    have hj : spec_l3Number.j1 (k + 2) (c : Int) s (a : Int) 0 = some (0, s, (a : Int), 3) := by
      simp only [spec_l3Number.j1]
      rw [if_neg (by omega)]
      simp only [spec_l3Number.j2, Bool.false_eq_true, if_false, l3Fail_eq, Option.bind_some, if_true]
    rw [hg, spec_l3Number.l0, e1]
    split
    · rw [if_neg (by omega)]
      exact hj
    · exact hj
  | succ d ih =>
    intro c hc hle hst k hk
    obtain ⟨k, rfl⟩ : ∃ m, k = m + 3 := ⟨k - 3, by omega⟩
    have e1 : wrap64 ((a : Int) + (c : Int)) = (a : Int) + (c : Int) := wrap_id (by omega) (by omega)
    have e2 : wrap64 ((c : Int) + 1) = ((c + 1 : Nat) : Int) := by rw [wrap_id (by omega) (by omega)]; omega
    have e3 : (a : Int) + (c : Int) = ((a + c : Nat) : Int) := by omega
    rw [spec_l3Number.l0, e1]
    by_cases hin : a + c < s.size
    · rw [if_pos (by omega), if_pos (by omega), if_pos (by omega)]
      by_cases hb : 128 ≤ bt s ((a : Int) + (c : Int))
      · rw [if_pos hb, e2]
        refine ih (c + 1) (by omega) (by omega) ?_ (k + 2) (by omega)
        rw [hst, stop_next hin (by rw [← e3]; exact hb), Nat.add_assoc]
      · rw [if_neg (by omega)]
        have h1 := stop_here hin (by rw [← e3]; omega)
        have hg : gvErr s (a : Int) = 3 := by
          unfold gvErr
          rw [ht, hst, h1, if_neg (fun h => by omega)]
        rw [hg]
        simp only [spec_l3Number.j1]
        rw [if_pos (by omega), e1, decide_eq_false (by omega)]
        simp only [spec_l3Number.j2, Bool.false_eq_true, if_false, l3Fail_eq, Option.bind_some, if_true]
    · rw [if_neg (by omega)]
      have h1 := stop_end (s := s) (i := a + c) (by omega)
      have hg : gvErr s (a : Int) = 2 := by
        unfold gvErr
        rw [ht, hst, h1, if_pos ⟨by omega, by omega⟩]
      rw [hg]
      simp only [spec_l3Number.j1]
      rw [if_pos (by omega), e1, decide_eq_true (by omega)]
      simp only [spec_l3Number.j2, if_true, l3Fail_eq, Option.bind_some]
theorem number_eq {s : ByteArray} (hs : s.size ≤ 1048576) (k : Nat) (hk : 30 ≤ k) (lo hi a e : Int) (ha : 0 ≤ a) (h1 : a ≤ (s.size : Int)) : spec_l3Number.f k s a e lo hi = some ((rNum s lo hi a e).1, s, (rNum s lo hi a e).2) := by
  unfold spec_l3Number.f
  by_cases he : e = 0
  · subst he
    unfold rNum
    rw [if_pos rfl, if_pos rfl, spec_gv hs ha h1 k (by omega)]
    dsimp only [Option.bind]
    by_cases hok : (gv s a).2.2 = true
    · rw [if_pos hok, if_pos hok]
      by_cases hl : (gv s a).1 < lo
      · rw [if_pos hl, if_pos (.inl hl), l3Fail_eq]
        simp only [Option.bind_some, if_true]
      · rw [if_neg hl]
        by_cases hh : hi < (gv s a).1
        · rw [if_pos hh, if_pos (.inr hh), l3Fail_eq]
          simp only [Option.bind_some, if_true]
        · rw [if_neg hh, if_neg (fun h => h.elim hl hh)]
    · rw [if_neg hok, if_neg hok]
      have := number_tail hs (a := a.toNat) (by omega) 4 0 (by omega) (by omega) rfl k (by omega)
      rw [Int.toNat_of_nonneg ha] at this
      exact this
  · rw [if_neg he, rNum_err he]
theorem byte_eq {s : ByteArray} (hs : s.size ≤ 1048576) (m a e : Int) (ha : 0 ≤ a) (h1 : a ≤ (s.size : Int)) : spec_l3Byte.f s a e m = some ((rOctet s m a e).1, s, (rOctet s m a e).2) := by
  have hb := bt_range s a
  have e1 : wrap64 (bt s a) = bt s a := wrap_id (by omega) (by omega)
  have e2 : wrap64 (a + 1) = a + 1 := wrap_id (by omega) (by omega)
  unfold spec_l3Byte.f
  by_cases he : e = 0
  · subst he
    unfold rOctet
    rw [if_pos rfl, if_pos rfl, e1, e2]
    by_cases hz : a = (s.size : Int)
    · rw [if_pos (by omega), if_pos hz, l3Fail_eq]
      simp only [Option.bind_some, if_true]
    · rw [if_neg (by omega), if_neg hz, if_pos ha, if_pos (by omega)]
      by_cases hm : m < bt s a
      · rw [if_pos hm, if_pos hm, l3Fail_eq]
        simp only [Option.bind_some, if_true]
      · rw [if_neg hm, if_neg hm]
  · rw [if_neg he, rOctet_err he]
theorem bytes_eq {s : ByteArray} (hs : s.size ≤ 1048576) (n a e : Int) (hn : 0 ≤ n) (hn2 : n ≤ 16777215) (ha : 0 ≤ a) (h1 : a ≤ (s.size : Int)) : spec_l3Bytes.f s a e n = some ((rBytes s n a e).1, s, (rBytes s n a e).2) := by
  have e1 : wrap64 ((s.size : Int) - a) = (s.size : Int) - a := wrap_id (by omega) (by omega)
  have e2 : wrap64 (a + n) = a + n := wrap_id (by omega) (by omega)
  have e3 : wrap64 (a + n - n) = a := by rw [wrap_id (by omega) (by omega)]; omega
  unfold spec_l3Bytes.f
  by_cases he : e = 0
  · subst he
    unfold rBytes
    rw [if_pos rfl, if_pos rfl, e1, e2, e3]
    by_cases hz : (s.size : Int) - a < n
    · rw [if_pos hz, if_pos hz, l3Fail_eq]
      simp only [Option.bind_some, if_true]
    · rw [if_neg hz, if_neg hz, if_pos ha, if_pos (by omega), if_pos (by omega)]
  · rw [if_neg he]
    unfold rBytes
    rw [if_neg he]
theorem text_eq {s : ByteArray} (hs : s.size ≤ 1048576) (k : Nat) (hk : 30 ≤ k) (a e : Int) (ha : 0 ≤ a) (h1 : a ≤ (s.size : Int)) : spec_l3Text.f k s a e = some ((rText s a e).1, s, (rText s a e).2) := by
  obtain ⟨g1, g2, g3, g4, g5, _⟩ := rNum_ok (e := e) (gv_ok hs) ha h1 (Int.le_refl 0) (show (0 : Int) ≤ 1000 by decide)
  unfold spec_l3Text.f rText
  rw [number_eq hs k hk 0 1000 a e ha h1]
  simp only [Option.bind_some]
  rw [bytes_eq hs _ _ _ g1 g3 (Int.le_trans ha g4) g5]
  simp only [Option.bind_some]
theorem const3 (k : Nat) (hk : 12 ≤ k) {t : ByteArray} (ht : t.size ≤ 8) {s : ByteArray} {a1 e1 a2 e2 : Int} (hB : spec_l3Bytes.f s a1 e1 8 = some (t, s, a2, e2)) : spec_l3ReadConst.j0 (k + 1) 3 false s a1 e1 = some (2, gi (k + 1) t, (⟨#[]⟩ : ByteArray), s, a2, e2) := by
  obtain ⟨r, hr⟩ := int_both t (by omega)
  rw [gi_eq (hr (k + 1) (by omega)).2, spec_l3ReadConst.j0, if_neg (by decide), if_pos rfl]
  exact Option.bind_eq_some_iff.mpr ⟨_, hB, Option.bind_eq_some_iff.mpr ⟨r, (hr k hk).1, rfl⟩⟩
theorem const_eq {s : ByteArray} (hs : s.size ≤ 1048576) (k : Nat) (hk : 40 ≤ k) (a e : Int) (ha : 0 ≤ a) (h1 : a ≤ (s.size : Int)) : spec_l3ReadConst.f k s a e = some ((rValue k s a e).1, (rValue k s a e).2.1, (rValue k s a e).2.2.1, s, (rValue k s a e).2.2.2) := by
  obtain ⟨g1, g2, g3, g4, _⟩ := rOctet_ok (m := 4) (e := e) ha h1 (by decide)
  obtain ⟨k, rfl⟩ : ∃ m, k = m + 1 := ⟨k - 1, by omega⟩
  unfold spec_l3ReadConst.f rValue
  rw [byte_eq hs 4 a e ha h1]
  simp only [Option.bind_some]
  obtain ⟨v, a1, e1, hv⟩ : ∃ v a1 e1, rOctet s 4 a e = (v, a1, e1) := ⟨_, _, _, rfl⟩
  rw [hv] at g1 g2 g3 g4 ⊢
  dsimp only at g1 g2 g3 g4 ⊢
  have b1 : 0 ≤ a1 := Int.le_trans ha g3
  by_cases v1 : v = 1
  · subst v1
    rw [if_pos rfl, if_pos rfl]
    simp only [spec_l3ReadConst.j0, if_true]
    rw [show wrap64 (1 - 1) = 0 from wrap_id (by decide) (by decide)]
  · rw [if_neg v1, if_neg v1]
    by_cases v2 : v = 2
    · subst v2
      rw [if_pos rfl]
      simp only [spec_l3ReadConst.j0, beq_self_eq_true, if_true]
      rw [show wrap64 (2 - 1) = 1 from wrap_id (by decide) (by decide)]
    · rw [if_neg v2, show (v == 2) = false from beq_eq_false_iff_ne.mpr v2]
      by_cases v3 : v = 3
      · subst v3
        obtain ⟨t, a2, e2, hb⟩ := tri (rBytes s 8 a1 e1)
        have hz : t.size ≤ 8 := by
          have h := (rBytes_ok (n := 8) (e := e1) (by decide) b1 g4).2.2.2.2
          rw [hb] at h
          exact h
        have hB := bytes_eq hs 8 a1 e1 (by decide) (by decide) b1 g4
        rw [hb] at hB
        rw [if_pos rfl, hb]
        exact const3 k (by omega) hz hB
      · rw [if_neg v3]
        simp only [spec_l3ReadConst.j0, Bool.false_eq_true, if_false]
        rw [if_neg v3]
        by_cases v4 : v = 4
        · obtain ⟨t, a2, e2, hb⟩ := tri (rText s a1 e1)
          have hB := text_eq hs k (by omega) a1 e1 b1 g4
          rw [hb] at hB
          rw [if_pos v4, if_pos v4, hB, hb]
          rfl
        · rw [if_neg v4, if_neg v4]
theorem sp_ok {s : ByteArray} (hs : s.size ≤ 1048576) : SpOk 100 s :=
  ⟨fun lo hi a e ha h1 => number_eq hs 100 (by decide) lo hi a e ha h1, fun m a e ha h1 => byte_eq hs m a e ha h1, fun n a e hn hn2 ha h1 => bytes_eq hs n a e hn hn2 ha h1, fun a e ha h1 => text_eq hs 100 (by decide) a e ha h1, fun a e ha h1 => const_eq hs 100 (by decide) a e ha h1, fun a e c => l3Fail_eq s a e c⟩
/-! ### a chunk is like itself -/
theorem all_true {n : Nat} {L : Nat → Int → Option Bool} (hone : ∀ i : Nat, i < n → ∃ K, ∀ k, K ≤ k → L (k + 1) (i : Int) = L k ((i + 1 : Nat) : Int)) (hend : ∀ k, L (k + 1) (n : Int) = some true) : Evt (fun k => L k 0) true := by
  have h := all_loop (n := n) (p := fun _ => true) (L := L) (rest := true) (fun i hi => by
    obtain ⟨K, hK⟩ := hone i hi
    exact ⟨K, fun k hk => by rw [hK k hk, if_pos rfl]⟩) (Evt.succ (Evt.now hend)) n 0 (by omega)
  rw [show ((List.range' 0 n).all (fun _ => true) && true) = true from by rw [Bool.and_true, List.all_eq_true]; exact fun _ _ => rfl] at h
  exact h
theorem eqUint32S_eq {l : List Int} (hl : l.length ≤ 1048576) : Evt (fun k => laws_eqUint32S.f k l l) true := by
  refine (all_true (n := l.length) (L := fun k i => laws_eqUint32S.l0 k l l i) (fun i hi => ⟨0, fun k _ => ?_⟩) (fun k => ?_)).of_eq 0 fun k _ => by unfold laws_eqUint32S.f; rw [if_pos rfl]
  · show laws_eqUint32S.l0 (k + 1) l l i = laws_eqUint32S.l0 k l l _
    rw [laws_eqUint32S.l0, if_pos (by omega), if_pos (by omega), if_pos (by omega), if_pos rfl, wrap_nat (by omega)]
  · show laws_eqUint32S.l0 (k + 1) l l l.length = _
    rw [laws_eqUint32S.l0, if_neg (by omega)]
theorem eqIntS_eq {l : List Int} (hl : l.length ≤ 1048576) : Evt (fun k => laws_eqIntS.f k l l) true := by
  refine (all_true (n := l.length) (L := fun k i => laws_eqIntS.l0 k l l i) (fun i hi => ⟨0, fun k _ => ?_⟩) (fun k => ?_)).of_eq 0 fun k _ => by unfold laws_eqIntS.f; rw [if_pos rfl]
  · show laws_eqIntS.l0 (k + 1) l l i = laws_eqIntS.l0 k l l _
    rw [laws_eqIntS.l0, if_pos (by omega), if_pos (by omega), if_pos (by omega), if_pos rfl, wrap_nat (by omega)]
  · show laws_eqIntS.l0 (k + 1) l l l.length = _
    rw [laws_eqIntS.l0, if_neg (by omega)]
theorem eqStringS_eq {l : List ByteArray} (hl : l.length ≤ 1048576) : Evt (fun k => laws_eqStringS.f k l l) true := by
  refine (all_true (n := l.length) (L := fun k i => laws_eqStringS.l0 k l l i) (fun i hi => ⟨0, fun k _ => ?_⟩) (fun k => ?_)).of_eq 0 fun k _ => by unfold laws_eqStringS.f; rw [if_pos rfl]
  · show laws_eqStringS.l0 (k + 1) l l i = laws_eqStringS.l0 k l l _
    rw [laws_eqStringS.l0, if_pos (by omega), if_pos (by omega), if_pos (by omega), if_pos rfl, wrap_nat (by omega)]
  · show laws_eqStringS.l0 (k + 1) l l l.length = _
    rw [laws_eqStringS.l0, if_neg (by omega)]
theorem eqValueS_eq {l : List S63} (hl : l.length ≤ 1048576) : Evt (fun k => laws_eqValueS.f k l l) true := by
  refine (all_true (n := l.length) (L := fun k i => laws_eqValueS.l0 k l l i) (fun i hi => ⟨0, fun k _ => ?_⟩) (fun k => ?_)).of_eq 0 fun k _ => by unfold laws_eqValueS.f; rw [if_pos rfl]
  · show laws_eqValueS.l0 (k + 1) l l i = laws_eqValueS.l0 k l l _
    rw [laws_eqValueS.l0, if_pos (by omega), if_pos (by omega), if_pos (by omega), laws_eqValue.f, if_pos rfl, if_pos rfl, if_pos rfl, Option.bind_some, if_pos rfl, wrap_nat (by omega)]
  · show laws_eqValueS.l0 (k + 1) l l l.length = _
    rw [laws_eqValueS.l0, if_neg (by omega)]
theorem eqUpS_eq {l : List S67} (hl : l.length ≤ 1048576) : Evt (fun k => laws_eqUpS.f k l l) true := by
  refine (all_true (n := l.length) (L := fun k i => laws_eqUpS.l0 k l l i) (fun i hi => ⟨0, fun k _ => ?_⟩) (fun k => ?_)).of_eq 0 fun k _ => by unfold laws_eqUpS.f; rw [if_pos rfl]
  · show laws_eqUpS.l0 (k + 1) l l i = laws_eqUpS.l0 k l l _
    rw [laws_eqUpS.l0, if_pos (by omega), if_pos (by omega), if_pos (by omega), laws_eqUp.f, if_neg (by simp), if_pos rfl, Option.bind_some, if_pos rfl, wrap_nat (by omega)]
  · show laws_eqUpS.l0 (k + 1) l l l.length = _
    rw [laws_eqUpS.l0, if_neg (by omega)]
/-- What fits into 2 ^ 20, of the program's own prototype. -/
structure Fit (x : S38) : Prop where
  l3 : x.f3.length ≤ 1048576
  l4 : x.f4.length ≤ 1048576
  l5 : x.f5.length ≤ 1048576
  l8 : x.f8.length ≤ 1048576
  l9 : x.f9.length ≤ 1048576
theorem eqProto_eq {x : S38} (hx : Fit x) : Evt (fun k => laws_eqProto.f k x.f0 x.f1 x.f2 x.f3 x.f4 x.f5 x.f6 x.f7 x.f8 x.f9 x.f0 x.f1 x.f2 x.f3 x.f4 x.f5 x.f6 x.f7 x.f8 x.f9) true := by
  obtain ⟨K1, h1⟩ := eqUint32S_eq hx.l3
  obtain ⟨K2, h2⟩ := eqValueS_eq hx.l4
  obtain ⟨K3, h3⟩ := eqUpS_eq hx.l5
  obtain ⟨K4, h4⟩ := eqIntS_eq hx.l8
  obtain ⟨K5, h5⟩ := eqStringS_eq hx.l9
  refine ⟨K1 + K2 + K3 + K4 + K5, fun k hk => ?_⟩
  have h1 : laws_eqUint32S.f k x.f3 x.f3 = some true := h1 k (by omega)
  have h2 : laws_eqValueS.f k x.f4 x.f4 = some true := h2 k (by omega)
  have h3 : laws_eqUpS.f k x.f5 x.f5 = some true := h3 k (by omega)
  have h4 : laws_eqIntS.f k x.f8 x.f8 = some true := h4 k (by omega)
  have h5 : laws_eqStringS.f k x.f9 x.f9 = some true := h5 k (by omega)
  unfold laws_eqProto.f
  simp only [h1, h2, h3, h4, h5, Option.bind_some, if_true, bne_self_eq_false, Bool.false_eq_true, if_false]
theorem eqChunk_eq {l : List S38} (hl : l.length ≤ 1048576) (hx : ∀ x ∈ l, Fit x) : Evt (fun k => laws_eqChunk.f k l l) true := by
  have h : Evt (fun k => laws_eqProtoS.f k l l) true := by
    refine (all_true (n := l.length) (L := fun k i => laws_eqProtoS.l0 k l l i) (fun i hi => ?_) (fun k => ?_)).of_eq 0 fun k _ => by unfold laws_eqProtoS.f; rw [if_pos rfl]
    · obtain ⟨K, hK0⟩ := eqProto_eq (hx _ (List.getElem_mem hi))
      have e : rd_T38 l (i : Int) = l[i] := by simp [rd_T38, List.getD, hi]
      refine ⟨K, fun k hk => ?_⟩
      have hK := hK0 k hk
      show laws_eqProtoS.l0 (k + 1) l l i = laws_eqProtoS.l0 k l l _
      rw [laws_eqProtoS.l0, if_pos (by omega), if_pos (by omega), if_pos (by omega), e]
      dsimp only at hK
      rw [hK, Option.bind_some, if_pos rfl, wrap_nat (by omega)]
    · show laws_eqProtoS.l0 (k + 1) l l l.length = _
      rw [laws_eqProtoS.l0, if_neg (by omega)]
  exact h.bind (h := fun _ t => if t = true then some true else some false) (Evt.const rfl)
-- ---- Marks: what they leave, and that it is held.
theorem markText_ev : ∀ (n : Nat) (x : Int) (s : ByteArray), x.toNat ≤ n → x.toNat + s.size ≤ 4611686018427387904 → ∃ t, Evt (fun k => laws_markText.l0 k x s) t := by
  intro n
  induction n with
  | zero =>
    intro x s hx hs
    refine ⟨(⟨#[109]⟩ : ByteArray) ++ s, Evt.succ (Evt.now fun k => ?_)⟩
    rw [laws_markText.l0, if_neg (by omega), if_pos (by omega)]
  | succ n ih =>
    intro x s hx hs
    by_cases h : x > 0
    · have hq : Int.tdiv x 10 = x / 10 := by rw [Int.tdiv_eq_ediv]; simp [show 0 ≤ x by omega]
      have hw : wrap64 (Int.tdiv x 10) = x / 10 := by rw [hq]; exact wrap_id (by omega) (by omega)
      have hz : ∀ y : Int, (strOfNums [y]).size = 1 := fun y => rfl
      obtain ⟨t, ht⟩ := ih (x / 10) (strOfNums [(wrap64 (48 + (Int.tmod x 10))) % 256] ++ s) (by omega) (by rw [ByteArray.size_append, hz]; omega)
      refine ⟨t, Evt.succ (Evt.of_eq ht 0 fun k _ => ?_)⟩
      rw [laws_markText.l0, if_pos h, Option.bind_some, hz, if_pos (by omega), hw]
    · refine ⟨(⟨#[109]⟩ : ByteArray) ++ s, Evt.succ (Evt.now fun k => ?_)⟩
      rw [laws_markText.l0, if_neg h, if_pos (by omega)]
theorem markText_some {a : Int} (h : a ≤ 2305843009213693952) : ∃ t, Evt (fun k => laws_markText.f k a) t := by
  by_cases h0 : a ≤ 0
  · exact ⟨_, Evt.now fun k => by rw [laws_markText.f, if_pos h0]⟩
  · obtain ⟨t, ht⟩ := markText_ev a.toNat a (⟨#[]⟩ : ByteArray) (Nat.le_refl _) (by show a.toNat + 0 ≤ _; omega)
    exact ⟨t, Evt.of_eq ht 0 fun k _ => by rw [laws_markText.f, if_neg h0]⟩
open Classical in
noncomputable def mt (a : Int) : ByteArray := if h : ∃ t, Evt (fun k => laws_markText.f k a) t then h.choose else (⟨#[]⟩ : ByteArray)
theorem mt_ev {a : Int} (h : a ≤ 2305843009213693952) : ∃ K, ∀ k, K ≤ k → laws_markText.f k a = some (mt a) := by
  have hs := markText_some h
  unfold mt
  rw [dif_pos hs]
  exact (hs.choose_spec : Evt _ _)
/-- A row's marks: element j is c (a + s * j). -/
theorem mark_loop {α : Type} {n s : Nat} {a : Int} {c : Int → α} {L : Nat → List α → Int → Int → Option (Int × List α)}
    (hone : ∀ i : Nat, i < n → ∃ K, ∀ k, K ≤ k → ∀ ys : List α, ys.length = n → L (k + 1) ys (a + (s * i : Nat)) (i : Int) = L k (ys.set i (c (a + (s * i : Nat)))) (a + (s * (i + 1) : Nat)) ((i + 1 : Nat) : Int))
    (hend : ∀ (k : Nat) (ys : List α) (b : Int), ys.length = n → L (k + 1) ys b (n : Int) = some (b, ys)) (ys : List α) (hys : ys.length = n) :
    Evt (fun k => L k ys a 0) (a + (s * n : Nat), (List.range n).map fun j => c (a + (s * j : Nat))) := by
  have key : ∀ m i : Nat, i + m = n → ∀ ys : List α, ys.length = n → ys.take i = (List.range i).map (fun j => c (a + (s * j : Nat))) → Evt (fun k => L k ys (a + (s * i : Nat)) (i : Int)) (a + (s * n : Nat), (List.range n).map fun j => c (a + (s * j : Nat))) := by
    intro m
    induction m with
    | zero =>
      intro i hi ys hl ht
      obtain rfl : i = n := by omega
      rw [← hl, List.take_length, hl] at ht
      rw [← ht]
      exact Evt.succ (Evt.now fun k => hend k ys _ hl)
    | succ m ih =>
      intro i hi ys hl ht
      obtain ⟨K, hK⟩ := hone i (by omega)
      refine Evt.succ (Evt.of_eq (ih (i + 1) (by omega) (ys.set i (c (a + (s * i : Nat)))) (by simpa using hl) ?_) K (fun k hk => hK k hk ys hl))
      rw [List.take_succ_eq_append_getElem (by simp; omega), List.take_set_of_le (by omega), List.getElem_set_self, ht, List.range_succ, List.map_append]
      rfl
  have h := key n 0 (by omega) ys hys rfl
  simpa using h
/-- And that they are held. -/
theorem held_loop {n s : Nat} {a : Int} {L : Nat → Int → Int → Option Int}
    (hone : ∀ i : Nat, i < n → ∃ K, ∀ k, K ≤ k → L (k + 1) (a + (s * i : Nat)) (i : Int) = L k (a + (s * (i + 1) : Nat)) ((i + 1 : Nat) : Int))
    (hend : ∀ (k : Nat) (b : Int), L (k + 1) b (n : Int) = some b) : Evt (fun k => L k a 0) (a + (s * n : Nat)) := by
  have key : ∀ m i : Nat, i + m = n → Evt (fun k => L k (a + (s * i : Nat)) (i : Int)) (a + (s * n : Nat)) := by
    intro m
    induction m with
    | zero =>
      intro i hi
      obtain rfl : i = n := by omega
      exact Evt.succ (Evt.now fun k => hend k _)
    | succ m ih =>
      intro i hi
      obtain ⟨K, hK⟩ := hone i (by omega)
      exact Evt.succ (Evt.of_eq (ih (i + 1) (by omega)) K hK)
  have h := key n 0 (by omega)
  simpa using h
def cI (a : Int) : Int := a % 4294967296
noncomputable def cV (a : Int) : S63 := ⟨a, a + 1, mt (a + 2)⟩
def cU (a : Int) : S67 := ⟨Int.tmod a 3 == 0, a + 1⟩
theorem rng_get {α : Type} {z : α} {n i : Nat} {f : Nat → α} (h : i < n) : ((List.range n).map f).getD i z = f i := by simp [List.getD, h]
theorem rng_len {α : Type} {n : Nat} {f : Nat → α} : ((List.range n).map f).length = n := by simp
theorem mark3 {l : List Int} {a : Int} (h0 : 0 ≤ a) (h1 : a ≤ 1152921504606846976) (hl : l.length ≤ 1048576) : Evt (fun k => laws_markUint32S.f k l a) (a + (1 * l.length : Nat), (List.range l.length).map fun j => cI (a + (1 * j : Nat))) := by
  refine mark_loop (L := laws_markUint32S.l0) (fun i hi => ⟨0, fun k _ ys hy => ?_⟩) (fun k ys b hy => ?_) l rfl
  · rw [laws_markUint32S.l0, if_pos (by omega), if_pos (by omega), wrap_id (by omega) (by omega), wrap_nat (by omega)]
    simp only [Int.toNat_natCast, cI]
    congr 1
    omega
  · rw [laws_markUint32S.l0, if_neg (by omega)]
theorem mark8 {l : List Int} {a : Int} (h0 : 0 ≤ a) (h1 : a ≤ 1152921504606846976) (hl : l.length ≤ 1048576) : Evt (fun k => laws_markIntS.f k l a) (a + (1 * l.length : Nat), (List.range l.length).map fun j => a + (1 * j : Nat)) := by
  refine mark_loop (L := laws_markIntS.l0) (c := fun a => a) (fun i hi => ⟨0, fun k _ ys hy => ?_⟩) (fun k ys b hy => ?_) l rfl
  · rw [laws_markIntS.l0, if_pos (by omega), if_pos (by omega), wrap_id (by omega) (by omega), wrap_nat (by omega)]
    simp only [Int.toNat_natCast]
    congr 1
    omega
  · rw [laws_markIntS.l0, if_neg (by omega)]
theorem mark9 {l : List ByteArray} {a : Int} (h0 : 0 ≤ a) (h1 : a ≤ 1152921504606846976) (hl : l.length ≤ 1048576) : Evt (fun k => laws_markStringS.f k l a) (a + (1 * l.length : Nat), (List.range l.length).map fun j => mt (a + (1 * j : Nat))) := by
  refine mark_loop (L := laws_markStringS.l0) (c := mt) (fun i hi => ?_) (fun k ys b hy => ?_) l rfl
  · obtain ⟨K, hK⟩ := mt_ev (a := a + (1 * i : Nat)) (by omega)
    refine ⟨K, fun k hk ys hy => ?_⟩
    rw [laws_markStringS.l0, if_pos (by omega), hK k hk, Option.bind_some, if_pos (by omega), wrap_id (by omega) (by omega), wrap_nat (by omega)]
    simp only [Int.toNat_natCast]
    congr 1
    omega
  · rw [laws_markStringS.l0, if_neg (by omega)]
theorem mark5 {l : List S67} {a : Int} (h0 : 0 ≤ a) (h1 : a ≤ 1152921504606846976) (hl : l.length ≤ 1048576) : Evt (fun k => laws_markUpS.f k l a) (a + (2 * l.length : Nat), (List.range l.length).map fun j => cU (a + (2 * j : Nat))) := by
  refine mark_loop (L := laws_markUpS.l0) (fun i hi => ⟨0, fun k _ ys hy => ?_⟩) (fun k ys b hy => ?_) l rfl
  · rw [laws_markUpS.l0, if_pos (by omega), if_pos (by omega), Option.bind_some, wrap_id (n := a + (2 * i : Nat) + 1) (by omega) (by omega), wrap_id (by omega) (by omega), wrap_nat (by omega)]
    have hg : ∀ x : S67, (ys.set i x).getD i z67 = x := fun x => by simp [List.getD, hy, hi]
    simp only [Int.toNat_natCast, cU, rd_T67, List.set_set, hg]
    congr 1
    omega
  · rw [laws_markUpS.l0, if_neg (by omega)]
theorem mark4 {l : List S63} {a : Int} (h0 : 0 ≤ a) (h1 : a ≤ 1152921504606846976) (hl : l.length ≤ 1048576) : Evt (fun k => laws_markValueS.f k l a) (a + (3 * l.length : Nat), (List.range l.length).map fun j => cV (a + (3 * j : Nat))) := by
  refine mark_loop (L := laws_markValueS.l0) (fun i hi => ?_) (fun k ys b hy => ?_) l rfl
  · obtain ⟨K, hK⟩ := mt_ev (a := a + (3 * i : Nat) + 2) (by omega)
    refine ⟨K, fun k hk ys hy => ?_⟩
    rw [laws_markValueS.l0, if_pos (by omega), if_pos (by omega), Option.bind_some, Option.bind_some, wrap_id (n := a + (3 * i : Nat) + 1) (by omega) (by omega), wrap_id (n := a + (3 * i : Nat) + 1 + 1) (by omega) (by omega), show a + ((3 * i : Nat) : Int) + 1 + 1 = a + (3 * i : Nat) + 2 by omega, hK k hk, Option.bind_some, wrap_id (by omega) (by omega), wrap_nat (by omega)]
    simp only [Int.toNat_natCast, cV, rd_T63, List.set_set]
    have hg : ∀ x : S63, (ys.set i x).getD i z63 = x := fun x => by simp [List.getD, hy, hi]
    simp only [hg, List.set_set]
    congr 1
    omega
  · rw [laws_markValueS.l0, if_neg (by omega)]
theorem held3 {n : Nat} {a : Int} (h0 : 0 ≤ a) (h1 : a ≤ 1152921504606846976) (hl : n ≤ 1048576) : ∃ K, ∀ k, K ≤ k → laws_heldUint32S.f k ((List.range n).map fun j => cI (a + (1 * j : Nat))) a = some (a + (1 * n : Nat)) := by
  refine held_loop (L := fun k b i => laws_heldUint32S.l0 k ((List.range n).map fun j => cI (a + (1 * j : Nat))) b i) (fun i hi => ⟨0, fun k _ => ?_⟩) (fun k b => ?_)
  · rw [laws_heldUint32S.l0, if_pos (by rw [rng_len]; omega), if_pos (by omega), if_pos (by rw [rd, Int.toNat_natCast, rng_get hi]; rfl), wrap_id (by omega) (by omega), wrap_nat (by omega)]
    congr 1
    omega
  · rw [laws_heldUint32S.l0, if_neg (by rw [rng_len]; omega)]
theorem held8 {n : Nat} {a : Int} (h0 : 0 ≤ a) (h1 : a ≤ 1152921504606846976) (hl : n ≤ 1048576) : ∃ K, ∀ k, K ≤ k → laws_heldIntS.f k ((List.range n).map fun j => a + (1 * j : Nat)) a = some (a + (1 * n : Nat)) := by
  refine held_loop (L := fun k b i => laws_heldIntS.l0 k ((List.range n).map fun j => a + (1 * j : Nat)) b i) (fun i hi => ⟨0, fun k _ => ?_⟩) (fun k b => ?_)
  · rw [laws_heldIntS.l0, if_pos (by rw [rng_len]; omega), if_pos (by omega), if_pos (by rw [rd, Int.toNat_natCast, rng_get hi]), wrap_id (by omega) (by omega), wrap_nat (by omega)]
    congr 1
    omega
  · rw [laws_heldIntS.l0, if_neg (by rw [rng_len]; omega)]
theorem held9 {n : Nat} {a : Int} (h0 : 0 ≤ a) (h1 : a ≤ 1152921504606846976) (hl : n ≤ 1048576) : ∃ K, ∀ k, K ≤ k → laws_heldStringS.f k ((List.range n).map fun j => mt (a + (1 * j : Nat))) a = some (a + (1 * n : Nat)) := by
  refine held_loop (L := fun k b i => laws_heldStringS.l0 k ((List.range n).map fun j => mt (a + (1 * j : Nat))) b i) (fun i hi => ?_) (fun k b => ?_)
  · obtain ⟨K, hK⟩ := mt_ev (a := a + (1 * i : Nat)) (by omega)
    refine ⟨K, fun k hk => ?_⟩
    rw [laws_heldStringS.l0, if_pos (by rw [rng_len]; omega), if_pos (by omega), hK k hk, Option.bind_some, if_pos (by rw [rdOf, Int.toNat_natCast, rng_get hi]), wrap_id (by omega) (by omega), wrap_nat (by omega)]
    congr 1
    omega
  · rw [laws_heldStringS.l0, if_neg (by rw [rng_len]; omega)]
theorem held5 {n : Nat} {a : Int} (h0 : 0 ≤ a) (h1 : a ≤ 1152921504606846976) (hl : n ≤ 1048576) : ∃ K, ∀ k, K ≤ k → laws_heldUpS.f k ((List.range n).map fun j => cU (a + (2 * j : Nat))) a = some (a + (2 * n : Nat)) := by
  refine held_loop (L := fun k b i => laws_heldUpS.l0 k ((List.range n).map fun j => cU (a + (2 * j : Nat))) b i) (fun i hi => ⟨0, fun k _ => ?_⟩) (fun k b => ?_)
  · have hg : rd_T67 ((List.range n).map fun j => cU (a + (2 * j : Nat))) (i : Int) = cU (a + (2 * i : Nat)) := by rw [rd_T67, Int.toNat_natCast, rng_get hi]
    rw [laws_heldUpS.l0, if_pos (by rw [rng_len]; omega), if_pos (by omega), hg, if_neg (by simp [cU]), wrap_id (n := a + (2 * i : Nat) + 1) (by omega) (by omega), if_pos (show (cU (a + (2 * i : Nat))).f1 = a + (2 * i : Nat) + 1 from rfl), wrap_id (by omega) (by omega), wrap_nat (by omega)]
    congr 1
    omega
  · rw [laws_heldUpS.l0, if_neg (by rw [rng_len]; omega)]
theorem held4 {n : Nat} {a : Int} (h0 : 0 ≤ a) (h1 : a ≤ 1152921504606846976) (hl : n ≤ 1048576) : ∃ K, ∀ k, K ≤ k → laws_heldValueS.f k ((List.range n).map fun j => cV (a + (3 * j : Nat))) a = some (a + (3 * n : Nat)) := by
  refine held_loop (L := fun k b i => laws_heldValueS.l0 k ((List.range n).map fun j => cV (a + (3 * j : Nat))) b i) (fun i hi => ?_) (fun k b => ?_)
  · obtain ⟨K, hK⟩ := mt_ev (a := a + (3 * i : Nat) + 2) (by omega)
    refine ⟨K, fun k hk => ?_⟩
    have hg : rd_T63 ((List.range n).map fun j => cV (a + (3 * j : Nat))) (i : Int) = cV (a + (3 * i : Nat)) := by rw [rd_T63, Int.toNat_natCast, rng_get hi]
    rw [laws_heldValueS.l0, if_pos (by rw [rng_len]; omega), if_pos (by omega), hg, if_pos (show (cV (a + (3 * i : Nat))).f0 = a + (3 * i : Nat) from rfl), wrap_id (n := a + (3 * i : Nat) + 1) (by omega) (by omega), if_pos (show (cV (a + (3 * i : Nat))).f1 = a + (3 * i : Nat) + 1 from rfl), wrap_id (n := a + (3 * i : Nat) + 1 + 1) (by omega) (by omega), show a + ((3 * i : Nat) : Int) + 1 + 1 = a + (3 * i : Nat) + 2 by omega, hK k hk, Option.bind_some, if_pos (show (cV (a + (3 * i : Nat))).f2.toList = (mt (a + (3 * i : Nat) + 2)).toList from rfl), wrap_id (by omega) (by omega), wrap_nat (by omega)]
    congr 1
    omega
  · rw [laws_heldValueS.l0, if_neg (by rw [rng_len]; omega)]
/-- The marks of a prototype: where each row ends, and what it is then. -/
def b3 (x : S38) (a : Int) : Int := a + 3 + (1 * x.f3.length : Nat)
def b4 (x : S38) (a : Int) : Int := b3 x a + (3 * x.f4.length : Nat)
def b5 (x : S38) (a : Int) : Int := b4 x a + (2 * x.f5.length : Nat)
def b8 (x : S38) (a : Int) : Int := b5 x a + 2 + (1 * x.f8.length : Nat)
def b9 (x : S38) (a : Int) : Int := b8 x a + (1 * x.f9.length : Nat)
noncomputable def mpr (x : S38) (a : Int) : S38 :=
  ⟨a, decide (Int.tmod (a + 1) 3 = 0), a + 2, (List.range x.f3.length).map fun j => cI (a + 3 + (1 * j : Nat)), (List.range x.f4.length).map fun j => cV (b3 x a + (3 * j : Nat)), (List.range x.f5.length).map fun j => cU (b4 x a + (2 * j : Nat)),
    b5 x a, mt (b5 x a + 1), (List.range x.f8.length).map fun j => b5 x a + 2 + (1 * j : Nat), (List.range x.f9.length).map fun j => mt (b8 x a + (1 * j : Nat))⟩
theorem bs {x : S38} (hx : Fit x) {a : Int} (h0 : 0 ≤ a) (h1 : a ≤ 576460752303423488) : a + 3 ≤ b3 x a ∧ b3 x a ≤ b4 x a ∧ b4 x a ≤ b5 x a ∧ b5 x a + 2 ≤ b8 x a ∧ b8 x a ≤ b9 x a ∧ b9 x a ≤ a + 9437184 := by
  have := hx.l3; have := hx.l4; have := hx.l5; have := hx.l8; have := hx.l9
  simp only [b3, b4, b5, b8, b9]
  omega
theorem ws {x : S38} (hx : Fit x) {a : Int} (h0 : 0 ≤ a) (h1 : a ≤ 576460752303423488) : wrap64 (a + 1) = a + 1 ∧ wrap64 (a + 1 + 1) = a + 2 ∧ wrap64 (a + 2 + 1) = a + 3 ∧ wrap64 (b5 x a + 1) = b5 x a + 1 ∧ wrap64 (b5 x a + 1 + 1) = b5 x a + 2 := by
  obtain ⟨_, _, _, _, _, _⟩ := bs hx h0 h1
  refine ⟨wrap_id (by omega) (by omega), ?_, ?_, wrap_id (by omega) (by omega), ?_⟩
  · rw [wrap_id (by omega) (by omega)]; omega
  · rw [wrap_id (by omega) (by omega)]; omega
  · rw [wrap_id (by omega) (by omega)]; omega
theorem markProto_ev {x : S38} (hx : Fit x) {a : Int} (h0 : 0 ≤ a) (h1 : a ≤ 576460752303423488) : Evt (fun k => markProto k x a) (b9 x a, mpr x a) := by
  obtain ⟨_, _, _, _, _, _⟩ := bs hx h0 h1
  obtain ⟨w1, w2, w3, w5, w6⟩ := ws hx h0 h1
  unfold markProto
  simp only [w1, w2, w3]
  refine Evt.bind (mark3 (by omega) (by omega) hx.l3) (Evt.bind (mark4 (a := b3 x a) (by omega) (by omega) hx.l4) (Evt.bind (mark5 (a := b4 x a) (by omega) (by omega) hx.l5) ?_))
  show Evt (fun k => (laws_markText.f k (wrap64 (b5 x a + 1))).bind fun t7 => (laws_markIntS.f k x.f8 (wrap64 (wrap64 (b5 x a + 1) + 1))).bind fun p8 => (laws_markStringS.f k x.f9 p8.1).bind fun p9 => some (p9.1, (⟨a, decide (Int.tmod (a + 1) 3 = 0), a + 2, _, _, _, b5 x a, t7, p8.2, p9.2⟩ : S38))) _
  simp only [w5, w6]
  exact Evt.bind (mt_ev (a := b5 x a + 1) (by omega)) (Evt.bind (mark8 (a := b5 x a + 2) (by omega) (by omega) hx.l8) (Evt.bind (mark9 (a := b8 x a) (by omega) (by omega) hx.l9) (Evt.now fun k => rfl)))
theorem heldProto_step {zs : List S38} {i : Nat} {x : S38} {a : Int} (hi : i < zs.length) (hn : zs.length ≤ 1048576) (hy : zs.getD i z38 = mpr x a) (hx : Fit x) (h0 : 0 ≤ a) (h1 : a ≤ 576460752303423488) :
    ∃ K, ∀ k, K ≤ k → laws_heldProtoS.l0 (k + 1) zs a (i : Int) = laws_heldProtoS.l0 k zs (b9 x a) ((i + 1 : Nat) : Int) := by
  obtain ⟨_, _, _, _, _, _⟩ := bs hx h0 h1
  obtain ⟨w1, w2, w3, w5, w6⟩ := ws hx h0 h1
  obtain ⟨K3, h3⟩ := held3 (n := x.f3.length) (a := a + 3) (by omega) (by omega) hx.l3
  obtain ⟨K4, h4⟩ := held4 (n := x.f4.length) (a := b3 x a) (by omega) (by omega) hx.l4
  obtain ⟨K5, h5⟩ := held5 (n := x.f5.length) (a := b4 x a) (by omega) (by omega) hx.l5
  obtain ⟨K7, h7⟩ := mt_ev (a := b5 x a + 1) (by omega)
  obtain ⟨K8, h8⟩ := held8 (n := x.f8.length) (a := b5 x a + 2) (by omega) (by omega) hx.l8
  obtain ⟨K9, h9⟩ := held9 (n := x.f9.length) (a := b8 x a) (by omega) (by omega) hx.l9
  refine ⟨K3 + K4 + K5 + K7 + K8 + K9, fun k hk => ?_⟩
  have hg : rd_T38 zs (i : Int) = mpr x a := by rw [rd_T38, Int.toNat_natCast, hy]
  have e3 : laws_heldUint32S.f k (mpr x a).f3 (a + 3) = some (b3 x a) := h3 k (by omega)
  have e4 : laws_heldValueS.f k (mpr x a).f4 (b3 x a) = some (b4 x a) := h4 k (by omega)
  have e5 : laws_heldUpS.f k (mpr x a).f5 (b4 x a) = some (b5 x a) := h5 k (by omega)
  have e8 : laws_heldIntS.f k (mpr x a).f8 (b5 x a + 2) = some (b8 x a) := h8 k (by omega)
  have e9 : laws_heldStringS.f k (mpr x a).f9 (b8 x a) = some (b9 x a) := h9 k (by omega)
  have e7 := h7 k (by omega)
  rw [laws_heldProtoS.l0, if_pos (by omega), if_pos (by omega), hg, if_pos (show (mpr x a).f0 = a from rfl), w1, if_neg (by rw [show (mpr x a).f1 = (Int.tmod (a + 1) 3 == 0) from rfl, bne_self_eq_false]; decide), w2, if_pos (show (mpr x a).f2 = a + 2 from rfl), w3, e3, Option.bind_some, if_neg (by omega), e4, Option.bind_some, if_neg (by omega), e5, Option.bind_some, if_neg (by omega), if_pos (show (mpr x a).f6 = b5 x a from rfl), w5, e7, Option.bind_some, if_pos (show (mpr x a).f7.toList = (mt (b5 x a + 1)).toList from rfl), w6, e8, Option.bind_some, if_neg (by omega), e9, Option.bind_some, if_neg (by omega), wrap_nat (by omega)]
/-- The marks of a row of prototypes. -/
def cnt : List S38 → Int → Int
  | [], a => a
  | x :: t, a => cnt t (b9 x a)
noncomputable def mks : List S38 → Int → List S38
  | [], _ => []
  | x :: t, a => mpr x a :: mks t (b9 x a)
theorem mks_len : ∀ (l : List S38) (a : Int), (mks l a).length = l.length
  | [], _ => rfl
  | x :: t, a => by rw [mks, List.length_cons, mks_len, List.length_cons]
theorem cnt_le : ∀ (l : List S38) (a : Int), (∀ x ∈ l, Fit x) → 0 ≤ a → a + 9437184 * l.length ≤ 576460752303423488 → a ≤ cnt l a ∧ cnt l a ≤ a + 9437184 * l.length
  | [], a, _, _, _ => by simp [cnt]
  | x :: t, a, hx, h0, h1 => by
    rw [List.length_cons] at h1
    obtain ⟨_, _, _, _, _, _⟩ := bs (hx x (by simp)) h0 (by omega)
    have := cnt_le t (b9 x a) (fun y hy => hx y (by simp [hy])) (by omega) (by omega)
    rw [cnt, List.length_cons]
    omega
theorem mark_ev : ∀ (l : List S38) (a : Int), (∀ x ∈ l, Fit x) → 0 ≤ a → a + 9437184 * l.length ≤ 576460752303423488 → Evt (fun k => laws_markProtoS.f k l a) (cnt l a, mks l a)
  | [], a, _, _, _ => Evt.now fun k => rfl
  | x :: t, a, hx, h0, h1 => by
    rw [List.length_cons] at h1
    obtain ⟨_, _, _, _, _, _⟩ := bs (hx x (by simp)) h0 (by omega)
    have h2 := mark_ev t (b9 x a) (fun y hy => hx y (by simp [hy])) (by omega) (by omega)
    exact Evt.bind (markProto_ev (hx x (by simp)) h0 (by omega)) (Evt.bind h2 (Evt.now fun k => rfl))
theorem held_ev : ∀ (l : List S38) (done : List S38) (a : Int), (∀ x ∈ l, Fit x) → 0 ≤ a → a + 9437184 * l.length ≤ 576460752303423488 → done.length + l.length ≤ 1048576 → Evt (fun k => laws_heldProtoS.l0 k (done ++ mks l a) a (done.length : Int)) (cnt l a)
  | [], done, a, _, _, _, _ => Evt.succ (Evt.now fun k => by simp only [mks, List.append_nil]; rw [laws_heldProtoS.l0, if_neg (by omega)]; rfl)
  | x :: t, done, a, hx, h0, h1, h2 => by
    rw [List.length_cons] at h1 h2
    obtain ⟨_, _, _, _, _, _⟩ := bs (hx x (by simp)) h0 (by omega)
    have hl : (done ++ mks (x :: t) a).length = done.length + (t.length + 1) := by rw [List.length_append, mks_len, List.length_cons]
    obtain ⟨K, hK⟩ := heldProto_step (zs := done ++ mks (x :: t) a) (i := done.length) (x := x) (a := a) (by omega) (by omega) (by rw [List.getD_eq_getElem?_getD, List.getElem?_append_right (Nat.le_refl _), Nat.sub_self]; rfl) (hx x (by simp)) h0 (by omega)
    have h3 := held_ev t (done ++ [mpr x a]) (b9 x a) (fun y hy => hx y (by simp [hy])) (by omega) (by omega) (by rw [List.length_append, List.length_singleton]; omega)
    rw [List.append_assoc, List.length_append, List.length_singleton] at h3
    exact Evt.succ (Evt.of_eq h3 K fun k hk => hK k hk)
theorem heldChunk_ev {l : List S38} {a : Int} (hx : ∀ x ∈ l, Fit x) (h0 : 0 ≤ a) (h1 : a + 9437184 * l.length ≤ 576460752303423488) (h2 : l.length ≤ 1048576) : Evt (fun k => laws_heldChunk.f k (mks l a) a) (cnt l a) := by
  have h := held_ev l [] a hx h0 h1 (by simpa using h2)
  have hc := cnt_le l a hx h0 h1
  exact Evt.bind h (Evt.now fun k => by rw [if_neg (by omega)])
/-! ### what has been read is not too large -/
theorem rSome_len {α : Type} {F : Int → Int → α × Int × Int} : ∀ (n : Nat) (a e : Int), (rSome F n a e).1.length ≤ n
  | 0, _, _ => Nat.le_refl _
  | n + 1, a, e => by
    rw [rSome]
    split
    · have := rSome_len (F := F) n (F a e).2.1 (F a e).2.2
      simpa using this
    · exact Nat.zero_le _
theorem proto_fit {k : Nat} {s : ByteArray} {kids a e : Int} {p : S38} {a' e' : Int} (hg : GvOk s) (hk : 0 ≤ kids) (ha : 0 ≤ a) (hs : a ≤ (s.size : Int)) (hr : rProto k s kids a e = (p, a', e')) : Fit p := by
  unfold rProto at hr
  obtain ⟨q, v, a11, e11, hq⟩ : ∃ q v a11 e11, rHead k s kids a e = (q, v, a11, e11) := ⟨_, _, _, _, rfl⟩
  rw [hq] at hr
  dsimp only at hr
  obtain ⟨q7, q8, q9, v1, a1, e1, a2, e2, a3, e3, n4, a4, e4, a5, e5, n6, a6, e6, a7, e7, n8, a8, e8, a9, e9, a10, e10, hA⟩ := head_at hg hk ha hs hq
  have h4 : q.f4.length ≤ n6 := by
    have := rSome_len (F := fun a e => rV k s a e) n6 a6 e6
    rw [hA.h7.1] at this
    exact this
  have c11 := Int.le_trans (Int.le_trans (Int.le_trans (Int.le_trans (Int.le_trans (Int.le_trans (Int.le_trans (Int.le_trans (Int.le_trans (Int.le_trans (Int.le_trans ha hA.h1.2.1) hA.h2.2.1) hA.h3.2.1) hA.h4.2.1) hA.h5.2.1) hA.h6.2.1) hA.h7.2.1) hA.h8.2.1) hA.h9.2.1) hA.h10.2.1) hA.h11.2.1
  have m3 := hA.h5.2.2.2
  have m5 := hA.h9.2.2.2
  have m6 := hA.h6.2.2.2
  by_cases hv : v = 1
  · rw [if_pos hv] at hr
    obtain ⟨f7, l8, l9, a12, e12, n13, a13, e13, a14, e14, n15, a15, e15, e16, hD, hp, he⟩ := debug_at hg c11 hA.h11.2.2.1 m3 m5 hr
    have h8 : l8.length ≤ n13 := by
      have := rSome_len (F := fun a e => rNum s 0 16777215 a e) n13 a13 e13
      rw [hD.d3.1] at this
      exact this
    have h9 : l9.length ≤ n15 := by
      have := rSome_len (F := fun a e => rText s a e) n15 a15 e15
      rw [hD.d5.1] at this
      exact this
    have m8 := hD.d2.2.2.2
    have m9 := hD.d4.2.2.2
    subst hp
    exact ⟨by show q.f3.length ≤ _; omega, by show q.f4.length ≤ _; omega, by show q.f5.length ≤ _; omega, by show l8.length ≤ _; omega, by show l9.length ≤ _; omega⟩
  · rw [if_neg hv] at hr
    obtain ⟨g1, g2, g3⟩ := pr3 hr
    subst g1
    exact ⟨by omega, by omega, by omega, by rw [q8]; exact Nat.zero_le _, by rw [q9]; exact Nat.zero_le _⟩
theorem loop_fit {k : Nat} {s : ByteArray} {T : List S38 × Int × Int} (hg : GvOk s) : ∀ (n : Nat) (ps : List S38) (a e wanted : Int) (op : List Int), LP k s T n ps a e wanted op → (∀ x ∈ ps, Fit x) → (∀ x ∈ T.1, Fit x) ∧ T.1.length ≤ 200
  | 0, ps, a, e, wanted, op, h, hf => by
    have ht : T = (ps, a, e) := h.run.symm
    have := h.l0
    have := h.w1
    rw [ht]
    exact ⟨hf, by show ps.length ≤ 200; omega⟩
  | n + 1, ps, a, e, wanted, op, h, hf => by
    by_cases hw : (ps.length : Int) < wanted ∧ e = 0
    · obtain ⟨hw, rfl⟩ := hw
      obtain ⟨p, a', e', hr⟩ := tri (rProto k s (if 63 ≤ op.length then 0 else 200 - wanted) a 0)
      have hk0 : 0 ≤ (if 63 ≤ op.length then (0 : Int) else 200 - wanted) := by have := h.w1; split <;> omega
      obtain ⟨hL, _, _⟩ := h.next hg hw rfl hr
      refine loop_fit hg n _ _ _ _ _ hL (fun x hx => ?_)
      rcases List.mem_append.1 hx with hx | hx
      · exact hf x hx
      · rw [List.mem_singleton.1 hx]
        exact proto_fit hg hk0 h.a0 h.a1 hr
    · have ht := h.stop hw
      have := h.l0
      have := h.w1
      rw [ht]
      exact ⟨hf, by show ps.length ≤ 200; omega⟩
theorem prefix_some (s : ByteArray) : ∃ pf, strings_HasPrefix.f s ⟨#[27, 76, 82, 86, 1, 0]⟩ = some pf ∧ (pf = true → 6 ≤ s.size) := by
  have h6 : (⟨#[27, 76, 82, 86, 1, 0]⟩ : ByteArray).size = 6 := rfl
  unfold strings_HasPrefix.f stringslite_HasPrefix.f
  rw [h6]
  by_cases h : s.size < 6
  · rw [if_neg (by omega)]
    exact ⟨false, rfl, fun h => by cases h⟩
  · rw [if_pos (by omega), if_pos (by decide), if_pos (by omega)]
    exact ⟨_, rfl, fun _ => by omega⟩
theorem load_fit {s : ByteArray} (hs : s.size ≤ 1048576) {r1 : List S38} {r2 : Int} (hr : rLoad 100 s = (r1, r2)) : (∀ x ∈ r1, Fit x) ∧ r1.length ≤ 200 := by
  obtain ⟨pf, hp, h6⟩ := prefix_some s
  unfold rLoad at hr
  rw [hp] at hr
  cases pf
  · rw [if_neg (by simp)] at hr
    cases hr
    exact ⟨fun x hx => by simp at hx, Nat.zero_le _⟩
  · rw [if_pos rfl] at hr
    have h6 := h6 rfl
    have P0 : LP 100 s (rLoop 100 s 200 6 0 [] 1 []) 200 [] 6 0 1 [] := ⟨by decide, by omega, by decide, by decide, by decide, by decide, by decide, fun x hx => by simp at hx, rfl⟩
    have h := loop_fit (gv_ok hs) 200 [] 6 0 1 [] P0 (fun x hx => by simp at hx)
    split at hr
    · split at hr
      · cases hr
        exact ⟨fun x hx => by simp at hx, Nat.zero_le _⟩
      · cases hr
        exact h
    · cases hr
      exact ⟨fun x hx => by simp at hx, Nat.zero_le _⟩
/-- All that the walk of the law asks. -/
theorem load_law {s : ByteArray} (hs : s.size ≤ 1048576) : ∃ ke km kh pf r1 r2 m rm, (∀ s : ByteArray, s.size ≤ 8 → ∃ r, impl_GetInt.f 100 s 0 = some r) ∧ strings_HasPrefix.f s ⟨#[27, 76, 82, 86, 1, 0]⟩ = some pf ∧ (pf = true → 6 ≤ s.size) ∧ rLoad 100 s = (r1, r2) ∧ laws_eqChunk.f ke r1 r1 = some true ∧ laws_markProtoS.f km r1 1 = some (m, rm) ∧ rm.length = r1.length ∧ laws_heldChunk.f kh rm 1 = some m ∧ 0 ≤ m := by
  obtain ⟨pf, hp, h6⟩ := prefix_some s
  obtain ⟨r1, r2, hr⟩ : ∃ r1 r2, rLoad 100 s = (r1, r2) := ⟨_, _, rfl⟩
  obtain ⟨hf, hl⟩ := load_fit hs hr
  obtain ⟨K1, h1⟩ := eqChunk_eq (l := r1) (by omega) hf
  obtain ⟨K2, h2⟩ := mark_ev r1 1 hf (by decide) (by omega)
  obtain ⟨K3, h3⟩ := heldChunk_ev (l := r1) (a := 1) hf (by decide) (by omega) (by omega)
  have hc := cnt_le r1 1 hf (by decide) (by omega)
  exact ⟨K1, K2, K3, pf, r1, r2, _, _, fun s hs => (int_both s (by omega)).imp fun r h => (h 100 (by decide)).2, hp, h6, hr, h1 _ (Nat.le_refl _), h2 _ (Nat.le_refl _), mks_len _ _, h3 _ (Nat.le_refl _), by omega⟩
end Go.Proofs.YtiekodnojmkfaaaDoor.Pure
