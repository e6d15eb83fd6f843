/- FnWire: for drawn numbers and words what the program writes is the reference's and is read back between other texts; Unpack, Pack and Wide fit together. No conditions. The card ties the variable partBits to the program's text (a pruned copy of the project). -/
import Derived.Test.YtnjchhkpomakoaaDoorPFnWirex6
import Derived.Test.YtnjchhkpomakoaaDoorVint
namespace Go.Proofs.YtnjchhkpomakoaaDoor.Pure
open Go.RowKit Go.Proofs.YtnjchhkpomakoaaDoor.PFnWire Go.Proofs.YtnjchhkpomakoaaDoorW.PrintWords Go.Proofs.YtnjchhkpomakoaaDoorW.PrintLast Go.Proofs.YtnjchhkpomakoaaDoorW.PrintMore Go.Proofs.YtnjchhkpomakoaaDoor.Vint

theorem spec_put_small (k : Nat) {x : Int} (h0 : 0 ≤ x) (h : x < 128) : spec_PutVarint.f (k + 2) x = some (strOfNums (vl x)) := by
  have h2 : decide (x > 16777215) = false := decide_eq_false (by omega)
  simp only [spec_PutVarint.f]
  rw [if_neg (by omega), h2]
  simp only [spec_PutVarint.j0]
  rw [if_neg (by decide), if_pos h]
  simp only [spec_l1Byte.f, Option.bind_some]
  rw [vl_small h, show x % 256 = x by omega]

theorem spec_put_step (k : Nat) {x : Int} (h0 : 128 ≤ x) (h : x ≤ 16777215) (hr : spec_PutVarint.f k (x / 128) = some (strOfNums (vl (x / 128)))) :
    spec_PutVarint.f (k + 2) x = some (strOfNums (vl x)) := by
  have h2 : decide (x > 16777215) = false := decide_eq_false (by omega)
  have e1 : Int.tmod x 128 = x % 128 := Int.tmod_eq_emod_of_nonneg (by omega)
  have e2 : Int.tdiv x 128 = x / 128 := Int.tdiv_eq_ediv_of_nonneg (by omega)
  simp only [spec_PutVarint.f]
  rw [if_neg (by omega), h2]
  simp only [spec_PutVarint.j0]
  rw [if_neg (by decide), if_neg (by omega), e1, e2, wrap_id (by omega) (by omega), wrap_id (by omega) (by omega), hr]
  simp only [spec_l1Byte.f, Option.bind_some]
  have hs : (strOfNums [(x % 128 + 128) % 256]).size + (strOfNums (vl (x / 128))).size ≤ 9223372036854775807 := by
    rw [strOfNums_size, strOfNums_size, vl_size]
    simp only [List.length_cons, List.length_nil]
    split
    · omega
    · split
      · omega
      · split <;> omega
  rw [if_pos hs, str_append, vl_step h0 h, show (x % 128 + 128) % 256 = x % 128 + 128 by omega]
  rfl

theorem spec_put {x : Int} (h0 : 0 ≤ x) (h : x ≤ 16777215) : ∀ k, 8 ≤ k → spec_PutVarint.f k x = some (strOfNums (vl x)) := by
  intro k hk
  obtain ⟨m, rfl⟩ : ∃ m, k = m + 2 + 2 + 2 + 2 := ⟨k - 8, by omega⟩
  by_cases h1 : x < 128
  · exact spec_put_small _ h0 h1
  · refine spec_put_step _ (by omega) h ?_
    by_cases h2 : x / 128 < 128
    · exact spec_put_small _ (by omega) h2
    · refine spec_put_step _ (by omega) (by omega) ?_
      by_cases h3 : x / 128 / 128 < 128
      · exact spec_put_small _ (by omega) h3
      · refine spec_put_step _ (by omega) (by omega) ?_
        exact spec_put_small _ (by omega) (by omega)

theorem spec_put_none {x : Int} (h : x < 0 ∨ 16777215 < x) (k : Nat) : spec_PutVarint.f (k + 2) x = some (⟨#[]⟩ : ByteArray) := by
  simp only [spec_PutVarint.f]
  by_cases h0 : x < 0
  · rw [if_pos h0]; simp only [spec_PutVarint.j0, if_true]
  · rw [if_neg h0, decide_eq_true (show x > 16777215 by omega)]; simp only [spec_PutVarint.j0, if_true]

theorem impl_put_small (k : Nat) {x : Int} (out : List Int) (h0 : 0 ≤ x) (h : x < 128) (hl : out.length < 1000) : impl_PutVarint.l0 (k + 1) x out = some (strOfNums (out ++ vl x)) := by
  simp only [impl_PutVarint.l0]
  rw [if_neg (by omega), if_pos (by omega), vl_small h, show x % 256 = x by omega]

theorem impl_put_step (k : Nat) {x : Int} (out : List Int) (h0 : 128 ≤ x) (h : x ≤ 16777215) (hl : out.length < 1000)
    (hr : impl_PutVarint.l0 k (x / 128) (out ++ [x % 128 + 128]) = some (strOfNums (out ++ [x % 128 + 128] ++ vl (x / 128)))) :
    impl_PutVarint.l0 (k + 1) x out = some (strOfNums (out ++ vl x)) := by
  simp only [impl_PutVarint.l0]
  rw [if_pos (by omega), if_pos (by omega), or128, hr, vl_step h0 h]
  simp

theorem impl_put {x : Int} (h0 : 0 ≤ x) (h : x ≤ 16777215) (k : Nat) : impl_PutVarint.f (k + 5) x = some (strOfNums (vl x)) := by
  have h2 : decide (x > 16777215) = false := decide_eq_false (by omega)
  unfold impl_PutVarint.f
  rw [if_neg (by omega), h2]
  simp only [impl_PutVarint.j0]
  rw [if_neg (by decide)]
  have e : ∀ l : List Int, l = [] ++ l := fun l => rfl
  rw [e (vl x)]
  by_cases h1 : x < 128
  · exact impl_put_small _ _ h0 h1 (by simp)
  · refine impl_put_step _ _ (by omega) h (by simp) ?_
    by_cases h2 : x / 128 < 128
    · exact impl_put_small _ _ (by omega) h2 (by simp)
    · refine impl_put_step _ _ (by omega) (by omega) (by simp) ?_
      by_cases h3 : x / 128 / 128 < 128
      · exact impl_put_small _ _ (by omega) h3 (by simp)
      · refine impl_put_step _ _ (by omega) (by omega) (by simp) ?_
        exact impl_put_small _ _ (by omega) (by omega) (by simp)

theorem impl_put_none {x : Int} (h : x < 0 ∨ 16777215 < x) (k : Nat) : impl_PutVarint.f (k + 1) x = some (⟨#[]⟩ : ByteArray) := by
  unfold impl_PutVarint.f
  by_cases h0 : x < 0
  · rw [if_pos h0]; simp only [impl_PutVarint.j0, if_true]
  · rw [if_neg h0, decide_eq_true (show x > 16777215 by omega)]; simp only [impl_PutVarint.j0, if_true]

theorem put_step (k : Nat) {u i : Int} (out : List Int) (h0 : 0 ≤ u) (h1 : u < 18446744073709551616) (hi0 : 0 ≤ i) (hi : i < 8) (hl : out.length < 1000) :
    spec_PutInt.l0 (k + 1) u out i = spec_PutInt.l0 k (u / 256) (out ++ [u % 256]) (i + 1) := by
  have e1 : Int.tdiv u 256 = u / 256 := Int.tdiv_eq_ediv_of_nonneg h0
  have e2 : Int.tmod u 256 = u % 256 := Int.tmod_eq_emod_of_nonneg h0
  conv => lhs; simp only [spec_PutInt.l0]
  rw [if_pos hi, if_pos (by omega), e1, e2, u64_id (by omega) (by omega), wrap_id (by omega) (by omega), show u % 256 % 256 = u % 256 by omega]

theorem put_end (k : Nat) (u : Int) (out : List Int) : spec_PutInt.l0 (k + 1) u out 8 = some (strOfNums out) := by
  simp only [spec_PutInt.l0]
  rw [if_neg (by omega)]

theorem put_same (n : Int) (k : Nat) : spec_PutInt.f (k + 9) n = impl_PutInt.f n := by
  unfold spec_PutInt.f impl_PutInt.f
  have hu : 0 ≤ IntKind.u64.wrap n ∧ IntKind.u64.wrap n < 18446744073709551616 := by rw [IntKind.wrap_u64]; omega
  generalize IntKind.u64.wrap n = u at hu
  obtain ⟨h0, h1⟩ := hu
  rw [put_step _ _ h0 h1 (by omega) (by omega) (by simp)]
  rw [put_step _ _ (by omega) (by omega) (by omega) (by omega) (by simp)]
  rw [put_step _ _ (by omega) (by omega) (by omega) (by omega) (by simp)]
  rw [put_step _ _ (by omega) (by omega) (by omega) (by omega) (by simp)]
  rw [put_step _ _ (by omega) (by omega) (by omega) (by omega) (by simp)]
  rw [put_step _ _ (by omega) (by omega) (by omega) (by omega) (by simp)]
  rw [put_step _ _ (by omega) (by omega) (by omega) (by omega) (by simp)]
  rw [put_step _ _ (by omega) (by omega) (by omega) (by omega) (by simp)]
  have e2 : u / 256 / 256 = u / 65536 := by omega
  have e3 : u / 65536 / 256 = u / 16777216 := by omega
  have e4 : u / 16777216 / 256 = u / 4294967296 := by omega
  have e5 : u / 4294967296 / 256 = u / 1099511627776 := by omega
  have e6 : u / 1099511627776 / 256 = u / 281474976710656 := by omega
  have e7 : u / 281474976710656 / 256 = u / 72057594037927936 := by omega
  rw [e2, e3, e4, e5, e6, e7]
  rw [show (0 : Int) + 1 + 1 + 1 + 1 + 1 + 1 + 1 + 1 = 8 by omega, put_end]
  rfl

theorem or_byte (x b : Int) (hb0 : 0 ≤ b) (hb : b ≤ 255) :
    bits .or .u64 (IntKind.u64.wrap (x * 256)) (IntKind.u64.wrap b) = IntKind.u64.wrap (IntKind.u64.wrap (x * 256) + IntKind.u64.wrap b) := by
  have e : IntKind.u64.wrap (x * 256) = x * 256 % 18446744073709551616 := IntKind.wrap_u64 _
  have hp : 0 ≤ IntKind.u64.wrap (x * 256) ∧ IntKind.u64.wrap (x * 256) < 18446744073709551616 ∧ IntKind.u64.wrap (x * 256) % 256 = 0 := by rw [e]; omega
  have e2 : IntKind.u64.wrap b = b := u64_id hb0 (by omega)
  rw [e2]
  generalize IntKind.u64.wrap (x * 256) = y at hp
  obtain ⟨h1, h2, h3⟩ := hp
  rw [or_sum_u64 8 y b h1 h3 (by omega) hb0 (by omega) (by omega), u64_id (by omega) (by omega)]

theorem u32_bounds {n : Int} (h : (Lit.int .u32 n).wf = true) : 0 ≤ n ∧ n ≤ 4294967295 := by
  simp only [Lit.wf, IntKind.min, IntKind.max, IntKind.signed, IntKind.bits, Bool.and_eq_true] at h
  obtain ⟨h0, h1⟩ := h
  constructor
  · simpa using h0
  · simpa using h1

theorem unpack_same {n : Int} (h : 0 ≤ n ∧ n ≤ 4294967295) : impl_Unpack.f n = spec_Unpack.f n := by
  unfold impl_Unpack.f spec_Unpack.f
  rw [if_pos h, if_pos h]
  have e1 : n / 64 / 256 = n / 16384 := by omega
  have e2 : n / 64 / 256 / 512 = n / 8388608 := by omega
  have e3 : n / 8388608 % 512 = n / 8388608 := by omega
  rw [e2, e1, e3]

theorem spec_bad (k : Nat) (a b c d e : Int) (h : ¬ (0 ≤ a ∧ a < 64 ∧ 0 ≤ b ∧ b < 256 ∧ 0 ≤ c ∧ c < 512 ∧ 0 ≤ d ∧ d < 512)) : spec_Pack.f (k + 1) a b c d e = some 0 := by
  unfold spec_Pack.f
  simp only [spec_Pack.j0, if_true]
  by_cases h1 : a < 0
  · rw [if_pos h1]
  · rw [if_neg h1]
    by_cases h2 : a > 63
    · rw [if_pos h2]
    · rw [if_neg h2]
      by_cases h3 : b < 0
      · rw [if_pos h3]
      · rw [if_neg h3]
        by_cases h4 : b > 255
        · rw [if_pos h4]
        · rw [if_neg h4]
          by_cases h5 : c < 0
          · rw [if_pos h5]
          · rw [if_neg h5]
            by_cases h6 : c > 511
            · rw [if_pos h6]
            · rw [if_neg h6]
              by_cases h7 : d < 0
              · rw [if_pos h7]
              · rw [if_neg h7, decide_eq_true (show d > 511 by omega), if_pos rfl]

theorem spec_good (k : Nat) (a b c d e : Int) (a0 : 0 ≤ a) (a1 : a < 64) (b0 : 0 ≤ b) (b1 : b < 256) (c0 : 0 ≤ c) (c1 : c < 512) (d0 : 0 ≤ d) (d1 : d < 512) :
    spec_Pack.f (k + 1) a b c d e = some (if e = c + 512 * d - 131072 then a + 64 * b + 16384 * c + 8388608 * d else 0) := by
  unfold spec_Pack.f
  rw [if_neg (show ¬ a < 0 by omega), if_neg (show ¬ a > 63 by omega), if_neg (show ¬ b < 0 by omega), if_neg (show ¬ b > 255 by omega), if_neg (show ¬ c < 0 by omega), if_neg (show ¬ c > 511 by omega), if_neg (show ¬ d < 0 by omega), decide_eq_false (show ¬ d > 511 by omega)]
  simp only [spec_Pack.j0]
  rw [if_neg (by decide), wrap_id (show -9223372036854775808 ≤ 64 * b by omega) (by omega), wrap_id (show -9223372036854775808 ≤ 16384 * c by omega) (by omega), wrap_id (show -9223372036854775808 ≤ 8388608 * d by omega) (by omega),
    wrap_id (show -9223372036854775808 ≤ a + 64 * b by omega) (by omega), wrap_id (show -9223372036854775808 ≤ a + 64 * b + 16384 * c by omega) (by omega), wrap_id (show -9223372036854775808 ≤ a + 64 * b + 16384 * c + 8388608 * d by omega) (by omega)]
  have em : (a + 64 * b + 16384 * c + 8388608 * d) % 4294967296 = a + 64 * b + 16384 * c + 8388608 * d := by omega
  rw [em]
  unfold spec_Unpack.f
  rw [if_pos ⟨by omega, by omega⟩]
  simp only [Option.bind_some]
  have e1 : (a + 64 * b + 16384 * c + 8388608 * d) % 64 = a := by omega
  have e2 : (a + 64 * b + 16384 * c + 8388608 * d) / 64 % 256 = b := by omega
  have e3 : (a + 64 * b + 16384 * c + 8388608 * d) / 16384 % 512 = c := by omega
  have e4 : (a + 64 * b + 16384 * c + 8388608 * d) / 8388608 = d := by omega
  rw [e1, e2, e3, e4]
  by_cases he : e = c + 512 * d - 131072
  · rw [if_pos he, ← he]
    simp
  · rw [if_neg he]
    have : (c + 512 * d - 131072 == e) = false := beq_eq_false_iff_ne.mpr (fun h => he h.symm)
    rw [this]
    simp

theorem pack_same (k : Nat) (a b c d e : Int) : spec_Pack.f (k + 1) a b c d e = impl_Pack.f a b c d e := by
  unfold impl_Pack.f
  by_cases h : 0 ≤ a ∧ a < 64 ∧ 0 ≤ b ∧ b < 256 ∧ 0 ≤ c ∧ c < 512 ∧ 0 ≤ d ∧ d < 512
  · obtain ⟨a0, a1, b0, b1, c0, c1, d0, d1⟩ := h
    rw [spec_good k a b c d e a0 a1 b0 b1 c0 c1 d0 d1]
    by_cases he : e = c + 512 * d - 131072
    · rw [if_pos he, if_pos ⟨a0, a1, b0, b1, c0, c1, d0, d1, he⟩]
    · rw [if_neg he, if_neg (fun h => he h.2.2.2.2.2.2.2.2)]
  · rw [spec_bad k a b c d e h, if_neg (fun h' => h ⟨h'.1, h'.2.1, h'.2.2.1, h'.2.2.2.1, h'.2.2.2.2.1, h'.2.2.2.2.2.1, h'.2.2.2.2.2.2.1, h'.2.2.2.2.2.2.2.1⟩)]

theorem xor_is (a b : Nat) (ha : a < 2 ^ 62) (hb : b < 2 ^ 62) : bits .xor .i64 (a : Int) (b : Int) = ((a ^^^ b : Nat) : Int) := by
  have hk : IntKind.i64.bits = 64 := rfl
  have ha' : a % 2 ^ 64 = a := Nat.mod_eq_of_lt (by omega)
  have hb' : b % 2 ^ 64 = b := Nat.mod_eq_of_lt (by omega)
  have hx : a ^^^ b < 2 ^ 62 := Nat.xor_lt_two_pow ha hb
  simp only [bits, hk, BitVec.ofInt_natCast, BitVec.toNat_xor, BitVec.toNat_ofNat, ha', hb']
  exact i64_wraps _ (Int.natCast_nonneg _) (by omega)

theorem xor_nonneg {x y : Int} (hx0 : 0 ≤ x) (hx : x < 2 ^ 62) (hy0 : 0 ≤ y) (hy : y < 2 ^ 62) : 0 ≤ bits .xor .i64 x y := by
  obtain ⟨a, rfl⟩ := Int.eq_ofNat_of_zero_le hx0
  obtain ⟨b, rfl⟩ := Int.eq_ofNat_of_zero_le hy0
  rw [xor_is a b (by omega) (by omega)]
  exact Int.natCast_nonneg _

theorem rd_byte {l : List Int} (hw : ∀ x ∈ l, 0 ≤ x ∧ x ≤ 255) (i : Int) : 0 ≤ rd l i ∧ rd l i ≤ 255 := by
  unfold rd
  rw [List.getD_eq_getElem?_getD]
  by_cases h : i.toNat < l.length
  · rw [List.getElem?_eq_getElem h]
    exact hw _ (List.getElem_mem h)
  · rw [List.getElem?_eq_none (by omega)]
    exact ⟨by decide, by decide⟩

theorem take_ok {l : List Int} (hl : (l.length : Int) ≤ 1048576) (hw : ∀ x ∈ l, 0 ≤ x ∧ x ≤ 255) {p n : Int} (hp0 : 0 ≤ p) (hp : p ≤ 1000000000) (hn : 1 ≤ n) (k : Nat) :
    ∃ r, spec_l1Take.f (k + 1) l p n = some (r, p + 1) ∧ 0 ≤ r ∧ r < n := by
  have ep : wrap64 (p + 1) = p + 1 := wrap_id (by omega) (by omega)
  unfold spec_l1Take.f
  rw [if_neg (show ¬ n < 1 by omega)]
  by_cases h0 : (l.length : Int) = 0
  · rw [show ((l.length : Int) == 0) = true from beq_iff_eq.mpr h0]
    refine ⟨0, ?_, by omega, by omega⟩
    simp only [spec_l1Take.j0, if_true, ep]
  · rw [show ((l.length : Int) == 0) = false from beq_eq_false_iff_ne.mpr h0]
    simp only [spec_l1Take.j0, Bool.false_eq_true, if_false]
    have hlp : (1 : Int) ≤ (l.length : Int) := by omega
    have er1 : Int.tmod p (l.length : Int) = p % (l.length : Int) := Int.tmod_eq_emod_of_nonneg hp0
    have e7 : wrap64 (wrap64 (p * 7) + 3) = p * 7 + 3 := by rw [wrap_id (show -9223372036854775808 ≤ p * 7 by omega) (by omega), wrap_id (by omega) (by omega)]
    have er2 : Int.tmod (p * 7 + 3) (l.length : Int) = (p * 7 + 3) % (l.length : Int) := Int.tmod_eq_emod_of_nonneg (by omega)
    have ed : Int.tdiv p (l.length : Int) = p / (l.length : Int) := Int.tdiv_eq_ediv_of_nonneg hp0
    have m1 : 0 ≤ p % (l.length : Int) ∧ p % (l.length : Int) < (l.length : Int) := ⟨Int.emod_nonneg _ (by omega), Int.emod_lt_of_pos _ (by omega)⟩
    have m2 : 0 ≤ (p * 7 + 3) % (l.length : Int) ∧ (p * 7 + 3) % (l.length : Int) < (l.length : Int) := ⟨Int.emod_nonneg _ (by omega), Int.emod_lt_of_pos _ (by omega)⟩
    have hd : 0 ≤ p / (l.length : Int) ∧ p / (l.length : Int) ≤ p := ⟨Int.ediv_nonneg hp0 (by omega), Int.ediv_le_self _ hp0⟩
    rw [e7, er1, er2, ed]
    have ha := rd_byte hw (p % (l.length : Int))
    have hb := rd_byte hw ((p * 7 + 3) % (l.length : Int))
    have hc := rd_byte hw p
    generalize rd l (p % (l.length : Int)) = a at ha
    generalize rd l ((p * 7 + 3) % (l.length : Int)) = b at hb
    generalize rd l p = c at hc
    generalize p / (l.length : Int) = q at hd
    have ea : wrap64 a = a := wrap_id (by omega) (by omega)
    have eb : wrap64 b = b := wrap_id (by omega) (by omega)
    have ec : wrap64 c = c := wrap_id (by omega) (by omega)
    have eq' : wrap64 q = q := wrap_id (by omega) (by omega)
    rw [ea, eb, ec, eq', ep]
    rw [wrap_id (show -9223372036854775808 ≤ a * 131 by omega) (by omega), wrap_id (show -9223372036854775808 ≤ b * 1117 by omega) (by omega), wrap_id (show -9223372036854775808 ≤ a * 131 + b * 1117 by omega) (by omega),
      wrap_id (show -9223372036854775808 ≤ p * 29 by omega) (by omega), wrap_id (show -9223372036854775808 ≤ a * 131 + b * 1117 + p * 29 by omega) (by omega), wrap_id (show -9223372036854775808 ≤ q * 53 by omega) (by omega), wrap_id (show -9223372036854775808 ≤ a * 131 + b * 1117 + p * 29 + q * 53 by omega) (by omega)]
    have hx0 : 0 ≤ a * 131 + b * 1117 + p * 29 + q * 53 ∧ a * 131 + b * 1117 + p * 29 + q * 53 < 2 ^ 62 := ⟨by omega, by omega⟩
    generalize a * 131 + b * 1117 + p * 29 + q * 53 = x at hx0
    have ex : Int.tdiv x 64 = x / 64 := Int.tdiv_eq_ediv_of_nonneg hx0.1
    rw [ex, wrap_id (show -9223372036854775808 ≤ x / 64 by omega) (by omega)]
    have hxo : 0 ≤ bits .xor .i64 x (x / 64) := xor_nonneg hx0.1 hx0.2 (by omega) (by omega)
    generalize bits .xor .i64 x (x / 64) = y at hxo
    rw [if_neg h0, if_pos m1.1, if_pos m1.2, if_pos m2.1, if_pos m2.2, if_pos hp0, if_neg (show ¬ n = 0 by omega)]
    have ey : Int.tmod y n = y % n := Int.tmod_eq_emod_of_nonneg hxo
    have ecn : Int.tmod c n = c % n := Int.tmod_eq_emod_of_nonneg (by omega)
    rw [ey, ecn]
    have hy : 0 ≤ y % n ∧ y % n < n := ⟨Int.emod_nonneg _ (by omega), Int.emod_lt_of_pos _ (by omega)⟩
    have hcn : 0 ≤ c % n ∧ c % n < n := ⟨Int.emod_nonneg _ (by omega), Int.emod_lt_of_pos _ (by omega)⟩
    by_cases h1 : p < (l.length : Int)
    · rw [if_pos h1]
      by_cases h2 : n ≤ 256
      · rw [if_pos h2]; exact ⟨_, rfl, hcn.1, hcn.2⟩
      · rw [if_neg h2, if_neg (show ¬ n = 0 by omega)]; exact ⟨_, rfl, hy.1, hy.2⟩
    · rw [if_neg h1, if_neg (show ¬ n = 0 by omega)]; exact ⟨_, rfl, hy.1, hy.2⟩

/-- Byte number j of a varint and what one in it counts. -/
def Place (j P : Int) : Prop := (j = 0 ∧ P = 1) ∨ (j = 1 ∧ P = 128) ∨ (j = 2 ∧ P = 16384) ∨ (j = 3 ∧ P = 2097152)

theorem acc {j P n b : Int} (hj : Place j P) (h0 : 0 ≤ n) (h1 : n < P) (hb0 : 0 ≤ b) (hb : b ≤ 255) :
    Go.bits .or .i64 n (shl .i64 (wrap64 (Go.bits .and .u8 b 127)) (wrap64 (7 * j))) = n + b % 128 * P := by
  rw [and127 hb0 hb, wrap_id (show -9223372036854775808 ≤ b % 128 by omega) (by omega), or_comm_i64]
  have hs : ∀ (m : Nat) (y : Int), y = (m : Int) → m ≤ 21 → shl .i64 (b % 128) y = b % 128 * 2 ^ m := by
    intro m y e hm
    subst e
    have hk : IntKind.i64.bits = 64 := rfl
    unfold shl
    rw [hk, Int.toNat_natCast, Nat.min_eq_left (by omega)]
    have hp : (2 : Int) ^ m ≤ 2 ^ 21 := by exact_mod_cast Nat.pow_le_pow_right (by decide) hm
    have hp0 : (0 : Int) < 2 ^ m := by exact_mod_cast Nat.two_pow_pos m
    have hmul : b % 128 * 2 ^ m ≤ 127 * 2 ^ 21 := by
      have := Int.mul_le_mul (show b % 128 ≤ 127 by omega) hp (by omega) (by omega)
      exact this
    have hmul0 : 0 ≤ b % 128 * 2 ^ m := Int.mul_nonneg (by omega) (by omega)
    exact i64_wraps _ hmul0 (by omega)
  rcases hj with ⟨rfl, rfl⟩ | ⟨rfl, rfl⟩ | ⟨rfl, rfl⟩ | ⟨rfl, rfl⟩
  · rw [show wrap64 (7 * 0) = ((0 : Nat) : Int) from by unfold wrap64; omega, hs 0 _ rfl (by omega), or_sum_i64 0 _ _ (by omega) (by omega) (by omega) (by omega) (by omega) (by omega)]
    omega
  · rw [show wrap64 (7 * 1) = ((7 : Nat) : Int) from by unfold wrap64; omega, hs 7 _ rfl (by omega), or_sum_i64 7 _ _ (by omega) (by omega) (by omega) (by omega) (by omega) (by omega)]
    omega
  · rw [show wrap64 (7 * 2) = ((14 : Nat) : Int) from by unfold wrap64; omega, hs 14 _ rfl (by omega), or_sum_i64 14 _ _ (by omega) (by omega) (by omega) (by omega) (by omega) (by omega)]
    omega
  · rw [show wrap64 (7 * 3) = ((21 : Nat) : Int) from by unfold wrap64; omega, hs 21 _ rfl (by omega), or_sum_i64 21 _ _ (by omega) (by omega) (by omega) (by omega) (by omega) (by omega)]
    omega

theorem acc_is {j P n b : Int} (hj : Place j P) (h0 : 0 ≤ n) (h1 : n < P) (hb0 : 0 ≤ b) (hb : b ≤ 255) :
    Go.bits .or .i64 n (shl .i64 (wrap64 (Go.bits .and .u8 b 127)) (wrap64 (7 * j))) = n + b % 128 * P := acc hj h0 h1 hb0 hb


/-! ### reading behind a text and before another -/
theorem bt_mid (pre tail : ByteArray) (l : List Int) (j : Nat) (hj : j < l.length) (hb : ∀ x ∈ l, 0 ≤ x ∧ x ≤ 255) : bt (pre ++ strOfNums l ++ tail) ((pre.size : Int) + j) = l[j] := by
  have hn : ((pre.size : Int) + j).toNat = pre.size + j := by omega
  have hs : (pre ++ strOfNums l ++ tail).size = pre.size + l.length + tail.size := by rw [ByteArray.size_append, ByteArray.size_append, strOfNums_size]
  have hlt : pre.size + j < (pre ++ strOfNums l ++ tail).size := by omega
  unfold bt
  rw [hn, dif_pos hlt]
  have hx := hb l[j] (List.getElem_mem hj)
  have e : (pre ++ strOfNums l ++ tail)[pre.size + j] = UInt8.ofNat l[j].toNat := by
    rw [ByteArray.getElem_append_left (by rw [ByteArray.size_append, strOfNums_size]; omega), ByteArray.getElem_append_right (by omega)]
    have : (strOfNums l)[pre.size + j - pre.size]'(by rw [strOfNums_size]; omega) = (strOfNums l).data[pre.size + j - pre.size]'(by have := strOfNums_size l; simp only [ByteArray.size] at this; omega) := rfl
    rw [this]
    simp only [strOfNums, List.getElem_toArray, List.getElem_map]
    congr 2
    simp
  rw [e]
  have : (UInt8.ofNat l[j].toNat).toNat = l[j].toNat := by
    rw [UInt8.toNat_ofNat']
    exact Nat.mod_eq_of_lt (by omega)
  rw [this]
  omega

theorem vl_bytes {x : Int} (h0 : 0 ≤ x) (h1 : x ≤ 16777215) : ∀ b ∈ vl x, 0 ≤ b ∧ b ≤ 255 := by
  intro b hb
  unfold vl at hb
  by_cases h : x < 128
  · rw [if_pos h] at hb; simp only [List.mem_cons, List.not_mem_nil, or_false] at hb; omega
  · rw [if_neg h] at hb
    by_cases h2 : x < 16384
    · rw [if_pos h2] at hb; simp only [List.mem_cons, List.not_mem_nil, or_false] at hb; omega
    · rw [if_neg h2] at hb
      by_cases h3 : x < 2097152
      · rw [if_pos h3] at hb; simp only [List.mem_cons, List.not_mem_nil, or_false] at hb; omega
      · rw [if_neg h3] at hb; simp only [List.mem_cons, List.not_mem_nil, or_false] at hb; omega

theorem read_vl (T : ByteArray) (at_ : Int) (ha : 0 ≤ at_) (ha1 : at_ ≤ 100) (d : Nat) : ∀ (j P m acc : Int), j + d = 4 → 0 ≤ j → Place j P → 0 ≤ acc → acc < P → 0 ≤ m → (j = 0 ∨ 1 ≤ m) → acc + m * P ≤ 16777215 →
    (∀ i (h : i < (vl m).length), bt T (at_ + j + i) = (vl m)[i]) → at_ + j + (vl m).length ≤ (T.size : Int) → ∀ k, 2 * d + 2 ≤ k →
    impl_GetVarint.l0 k T at_ acc (at_ + j) = some (acc + m * P, at_ + j + (vl m).length, true) := by
  induction d with
  | zero =>
    intro j P m acc hjd _ hj
    rcases hj with ⟨rfl, rfl⟩ | ⟨rfl, rfl⟩ | ⟨rfl, rfl⟩ | ⟨rfl, rfl⟩ <;> omega
  | succ d ih =>
    intro j P m acc hjd hj0 hj h0 h1 hm0 hm1 hmax hbt hsz k hk
    obtain ⟨k, rfl⟩ : ∃ m, k = m + 2 := ⟨k - 2, by omega⟩
    have hj3 : j ≤ 3 := by rcases hj with ⟨rfl, rfl⟩ | ⟨rfl, rfl⟩ | ⟨rfl, rfl⟩ | ⟨rfl, rfl⟩ <;> omega
    have hP : 1 ≤ P ∧ P ≤ 2097152 := by rcases hj with ⟨rfl, rfl⟩ | ⟨rfl, rfl⟩ | ⟨rfl, rfl⟩ | ⟨rfl, rfl⟩ <;> omega
    have hmm : m ≤ 16777215 := by rcases hj with ⟨rfl, rfl⟩ | ⟨rfl, rfl⟩ | ⟨rfl, rfl⟩ | ⟨rfl, rfl⟩ <;> omega
    have hlen := vl_size m
    have hl1 : 1 ≤ (vl m).length := by
      rw [hlen]; split
      · omega
      · split
        · omega
        · split <;> omega
    have hb0 := hbt 0 (by omega)
    rw [show at_ + j + ((0 : Nat) : Int) = at_ + j by omega] at hb0
    have hin : at_ + j < (T.size : Int) := by omega
    have hr := bt_range T (at_ + j)
    have ea := acc_is hj h0 h1 hr.1 hr.2
    have e2 : wrap64 (at_ + 4) = at_ + 4 := wrap_id (by omega) (by omega)
    have e3 : wrap64 (at_ + j - at_) = j := by rw [wrap_id (by omega) (by omega)]; omega
    have e4 : wrap64 (7 * j) = 7 * j := wrap_id (by omega) (by omega)
    have e6 : wrap64 (at_ + j + 1) = at_ + j + 1 := wrap_id (by omega) (by omega)
    rw [e4] at ea
    simp only [impl_GetVarint.l0]
    rw [if_pos hin, e2, decide_eq_true (show at_ + j < at_ + 4 by omega)]
    simp only [impl_GetVarint.j2, if_true]
    rw [if_pos (show 0 ≤ at_ + j by omega), if_pos hin, e3, e4, if_pos (show 0 ≤ 7 * j by omega), ea, e6]
    by_cases hs : m < 128
    · have ev : vl m = [m] := vl_small hs
      have hbm : bt T (at_ + j) = m := by rw [hb0]; simp [ev]
      rw [hbm, show m % 128 = m by omega, if_pos hs, ev]
      have hz : ¬ 16777215 < acc + m * P := by omega
      have hfin : (some (acc + m * P, at_ + j + 1, true) : Option (Int × Int × Bool)) = some (acc + m * P, at_ + j + (([m] : List Int).length : Int), true) := rfl
      by_cases hm : m = 0
      · have hj00 : j = 0 := by omega
        rw [if_pos hm, if_neg (show ¬ at_ + j > at_ by omega), if_neg hz, hfin]
      · rw [if_neg hm, if_neg hz, hfin]
    · have ev : vl m = (m % 128 + 128) :: vl (m / 128) := vl_step (by omega) hmm
      have hbm : bt T (at_ + j) = m % 128 + 128 := by rw [hb0]; simp [ev]
      rw [hbm, if_neg (show ¬ m % 128 + 128 < 128 by omega), show (m % 128 + 128) % 128 = m % 128 by omega, show at_ + j + 1 = at_ + (j + 1) by omega]
      have hlc : (vl m).length = (vl (m / 128)).length + 1 := by rw [ev]; rfl
      have hsum : acc + m % 128 * P + m / 128 * (P * 128) = acc + m * P := by
        rcases hj with ⟨rfl, rfl⟩ | ⟨rfl, rfl⟩ | ⟨rfl, rfl⟩ | ⟨rfl, rfl⟩ <;> omega
      have := ih (j + 1) (P * 128) (m / 128) (acc + m % 128 * P) (by omega) (by omega)
        (by
          rcases hj with ⟨rfl, rfl⟩ | ⟨rfl, rfl⟩ | ⟨rfl, rfl⟩ | ⟨rfl, rfl⟩
          · exact .inr (.inl ⟨rfl, rfl⟩)
          · exact .inr (.inr (.inl ⟨rfl, rfl⟩))
          · exact .inr (.inr (.inr ⟨rfl, rfl⟩))
          · omega)
        (by rcases hj with ⟨rfl, rfl⟩ | ⟨rfl, rfl⟩ | ⟨rfl, rfl⟩ | ⟨rfl, rfl⟩ <;> omega)
        (by rcases hj with ⟨rfl, rfl⟩ | ⟨rfl, rfl⟩ | ⟨rfl, rfl⟩ | ⟨rfl, rfl⟩ <;> omega)
        (by omega) (.inr (by omega)) (by omega)
        (fun i hi => by
          have := hbt (i + 1) (by omega)
          rw [show at_ + (j + 1) + (i : Int) = at_ + j + ((i + 1 : Nat) : Int) by omega, this]
          simp [ev])
        (by omega) k (by omega)
      rw [this, hsum]
      have hf : at_ + (j + 1) + ((vl (m / 128)).length : Int) = at_ + j + ((vl m).length : Int) := by omega
      rw [hf]

theorem get_of_put (pre tail : ByteArray) (hp : pre.size ≤ 100) (n : Int) (h0 : 0 ≤ n) (h1 : n ≤ 16777215) (k : Nat) (hk : 11 ≤ k) :
    impl_GetVarint.f k (pre ++ strOfNums (vl n) ++ tail) (pre.size : Int) = some (n, (pre.size : Int) + (strOfNums (vl n)).size, true) := by
  obtain ⟨k, rfl⟩ : ∃ m, k = m + 1 := ⟨k - 1, by omega⟩
  have hs : (pre ++ strOfNums (vl n) ++ tail).size = pre.size + (vl n).length + tail.size := by rw [ByteArray.size_append, ByteArray.size_append, strOfNums_size]
  unfold impl_GetVarint.f
  rw [if_neg (by omega), decide_eq_false (by omega)]
  simp only [impl_GetVarint.j0, Bool.false_eq_true, if_false]
  have := read_vl (pre ++ strOfNums (vl n) ++ tail) (pre.size : Int) (by omega) (by omega) 4 0 1 n 0 (by omega) (by omega) (.inl ⟨rfl, rfl⟩) (by omega) (by omega) h0 (.inl rfl) (by omega)
    (fun i hi => by rw [Int.add_zero]; exact bt_mid pre tail (vl n) i hi (vl_bytes h0 h1)) (by omega) k (by omega)
  rw [Int.add_zero] at this
  rw [this, strOfNums_size, show (0 : Int) + n * 1 = n by omega]

/-! ### eight bytes -/
def eight (u : Int) : List Int := [u % 256, u / 256 % 256, u / 65536 % 256, u / 16777216 % 256, u / 4294967296 % 256, u / 1099511627776 % 256, u / 281474976710656 % 256, u / 72057594037927936 % 256]
theorem eight_bytes (u : Int) : ∀ b ∈ eight u, 0 ≤ b ∧ b ≤ 255 := by
  intro b hb
  unfold eight at hb
  simp only [List.mem_cons, List.not_mem_nil, or_false] at hb
  rcases hb with h | h | h | h | h | h | h | h <;> omega

theorem get_step (T : ByteArray) (at_ : Int) (ha : 0 ≤ at_) (ha1 : at_ ≤ 100) (hT : at_ + 8 ≤ (T.size : Int)) (k : Nat) {x i b y : Int} (hi0 : 0 ≤ i) (hi : i ≤ 7) (hb : bt T (at_ + i) = b) (hx0 : 0 ≤ x) (hx : x < 72057594037927936) (hy : y = x * 256 + b) :
    impl_GetInt.l0 (k + 1) T at_ x i = impl_GetInt.l0 k T at_ y (i - 1) := by
  have hr := bt_range T (at_ + i)
  rw [hb] at hr
  have e : wrap64 (at_ + i) = at_ + i := wrap_id (by omega) (by omega)
  have e2 : wrap64 (i - 1) = i - 1 := wrap_id (by omega) (by omega)
  conv => lhs; simp only [impl_GetInt.l0]
  rw [e, e2, if_pos hi0, if_pos (by omega), if_pos (by omega), hb, or_byte _ _ hr.1 hr.2, u64_id (show 0 ≤ x * 256 by omega) (by omega), u64_id hr.1 (by omega), u64_id (show 0 ≤ x * 256 + b by omega) (by omega), ← hy]

theorem get_eight (pre tail : ByteArray) (hp : pre.size ≤ 100) (ht : tail.size ≤ 100) (u : Int) (h0 : 0 ≤ u) (h1 : u < 18446744073709551616) (k : Nat) (hk : 10 ≤ k) :
    impl_GetInt.f k (pre ++ strOfNums (eight u) ++ tail) (pre.size : Int) = some (wrap64 u, (pre.size : Int) + 8, true) := by
  obtain ⟨k, rfl⟩ : ∃ m, k = m + 10 := ⟨k - 10, by omega⟩
  have hs : (pre ++ strOfNums (eight u) ++ tail).size = pre.size + 8 + tail.size := by rw [ByteArray.size_append, ByteArray.size_append, strOfNums_size]; rfl
  unfold impl_GetInt.f
  rw [if_neg (by omega), decide_eq_false (by rw [wrap_id (by omega) (by omega)]; omega)]
  simp only [impl_GetInt.j0, Bool.false_eq_true, if_false]
  have hb : ∀ (j : Nat) (h : j < 8), bt (pre ++ strOfNums (eight u) ++ tail) ((pre.size : Int) + j) = (eight u)[j]'h := fun j h => bt_mid pre tail (eight u) j h (eight_bytes u)
  have b0 : bt (pre ++ strOfNums (eight u) ++ tail) ((pre.size : Int) + 0) = u % 256 := hb 0 (by omega)
  have b1 : bt (pre ++ strOfNums (eight u) ++ tail) ((pre.size : Int) + 1) = u / 256 % 256 := hb 1 (by omega)
  have b2 : bt (pre ++ strOfNums (eight u) ++ tail) ((pre.size : Int) + 2) = u / 65536 % 256 := hb 2 (by omega)
  have b3 : bt (pre ++ strOfNums (eight u) ++ tail) ((pre.size : Int) + 3) = u / 16777216 % 256 := hb 3 (by omega)
  have b4 : bt (pre ++ strOfNums (eight u) ++ tail) ((pre.size : Int) + 4) = u / 4294967296 % 256 := hb 4 (by omega)
  have b5 : bt (pre ++ strOfNums (eight u) ++ tail) ((pre.size : Int) + 5) = u / 1099511627776 % 256 := hb 5 (by omega)
  have b6 : bt (pre ++ strOfNums (eight u) ++ tail) ((pre.size : Int) + 6) = u / 281474976710656 % 256 := hb 6 (by omega)
  have b7 : bt (pre ++ strOfNums (eight u) ++ tail) ((pre.size : Int) + 7) = u / 72057594037927936 % 256 := hb 7 (by omega)
  generalize pre ++ strOfNums (eight u) ++ tail = T at b0 b1 b2 b3 b4 b5 b6 b7 hs ⊢
  have hT : (pre.size : Int) + 8 ≤ (T.size : Int) := by omega
  have ha : (0 : Int) ≤ (pre.size : Int) := by omega
  have ha1 : (pre.size : Int) ≤ 100 := by omega
  rw [get_step T _ ha ha1 hT (k + 8) (y := u / 72057594037927936) (by omega) (by omega) b7 (by omega) (by omega) (by omega), show (7 : Int) - 1 = 6 by omega]
  rw [get_step T _ ha ha1 hT (k + 7) (y := u / 281474976710656) (by omega) (by omega) b6 (by omega) (by omega) (by omega), show (6 : Int) - 1 = 5 by omega]
  rw [get_step T _ ha ha1 hT (k + 6) (y := u / 1099511627776) (by omega) (by omega) b5 (by omega) (by omega) (by omega), show (5 : Int) - 1 = 4 by omega]
  rw [get_step T _ ha ha1 hT (k + 5) (y := u / 4294967296) (by omega) (by omega) b4 (by omega) (by omega) (by omega), show (4 : Int) - 1 = 3 by omega]
  rw [get_step T _ ha ha1 hT (k + 4) (y := u / 16777216) (by omega) (by omega) b3 (by omega) (by omega) (by omega), show (3 : Int) - 1 = 2 by omega]
  rw [get_step T _ ha ha1 hT (k + 3) (y := u / 65536) (by omega) (by omega) b2 (by omega) (by omega) (by omega), show (2 : Int) - 1 = 1 by omega]
  rw [get_step T _ ha ha1 hT (k + 2) (y := u / 256) (by omega) (by omega) b1 (by omega) (by omega) (by omega), show (1 : Int) - 1 = 0 by omega]
  rw [get_step T _ ha ha1 hT (k + 1) (y := u) (by omega) (by omega) b0 (by omega) (by omega) (by omega), show (0 : Int) - 1 = -1 by omega]
  simp only [impl_GetInt.l0]
  rw [if_neg (by omega), wrap_id (show -9223372036854775808 ≤ (pre.size : Int) + 8 by omega) (by omega)]

theorem u8_bounds {n : Int} (h : (Lit.int .u8 n).wf = true) : 0 ≤ n ∧ n ≤ 255 := by
  simp only [Lit.wf, IntKind.min, IntKind.max, IntKind.signed, IntKind.bits, Bool.and_eq_true] at h
  obtain ⟨h0, h1⟩ := h
  constructor
  · simpa using h0
  · simpa using h1

section
variable {l : List Int} (hl : (l.length : Int) ≤ 1048576) (hw : ∀ x ∈ l, 0 ≤ x ∧ x ≤ 255)
include hl hw

theorem drawVarint (k : Nat) : ∃ n, spec_DrawPutVarint.f (k + 1) l = some n := by
  obtain ⟨a, ha, _⟩ := take_ok hl hw (p := 0) (n := 10) (by omega) (by omega) (by omega) k
  obtain ⟨b, hb, _⟩ := take_ok hl hw (p := 0 + 1) (n := 256) (by omega) (by omega) (by omega) k
  obtain ⟨c, hc, _⟩ := take_ok hl hw (p := 0 + 1 + 1) (n := 256) (by omega) (by omega) (by omega) k
  unfold spec_DrawPutVarint.f
  rw [ha, Option.bind_some, hb, Option.bind_some, hc, Option.bind_some]
  repeat (first | exact ⟨_, rfl⟩ | split)

theorem drawInt_loop (d : Nat) : ∀ (k : Nat) (x n p i : Int), i + d = n → 0 ≤ i → 0 ≤ p → p + d ≤ 1000 → d < k → -9223372036854775808 ≤ x → x ≤ 9223372036854775807 → n ≤ 100 →
    ∃ y, spec_DrawPutInt.l0 (k + 1) l x n p i = some y ∧ -9223372036854775808 ≤ y ∧ y ≤ 9223372036854775807 := by
  induction d with
  | zero =>
    intro k x n p i hi h0 hp hp1 hk hx0 hx1 hn
    obtain ⟨k, rfl⟩ : ∃ m, k = m + 1 := ⟨k - 1, by omega⟩
    obtain ⟨a, ha, _⟩ := take_ok hl hw (p := p) (n := 8) (by omega) (by omega) (by omega) k
    rw [spec_DrawPutInt.l0.eq_def]
    simp only
    rw [if_neg (by omega), ha, Option.bind_some]
    by_cases h7 : a = 7
    · rw [if_pos h7]; exact ⟨_, rfl, by omega, by omega⟩
    · rw [if_neg h7]
      by_cases h6 : a = 6
      · rw [if_pos h6]; exact ⟨_, rfl, by unfold wrap64; omega, by unfold wrap64; omega⟩
      · rw [if_neg h6]; exact ⟨_, rfl, hx0, hx1⟩
  | succ d ih =>
    intro k x n p i hi h0 hp hp1 hk hx0 hx1 hn
    obtain ⟨k, rfl⟩ : ∃ m, k = m + 1 := ⟨k - 1, by omega⟩
    obtain ⟨a, ha, _⟩ := take_ok hl hw (p := p) (n := 256) (by omega) (by omega) (by omega) k
    rw [spec_DrawPutInt.l0.eq_def]
    simp only
    rw [if_pos (by omega), ha, Option.bind_some, wrap_id (show -9223372036854775808 ≤ i + 1 by omega) (by omega)]
    exact ih k _ n (p + 1) (i + 1) (by omega) (by omega) (by omega) (by omega) (by omega) (by unfold wrap64; omega) (by unfold wrap64; omega) hn

theorem drawInt (k : Nat) (hk : 20 ≤ k) : ∃ y, spec_DrawPutInt.f k l = some y ∧ -9223372036854775808 ≤ y ∧ y ≤ 9223372036854775807 := by
  obtain ⟨k, rfl⟩ : ∃ m, k = m + 1 := ⟨k - 1, by omega⟩
  obtain ⟨a, ha, a0, a1⟩ := take_ok hl hw (p := 0) (n := 9) (by omega) (by omega) (by omega) k
  unfold spec_DrawPutInt.f
  rw [ha, Option.bind_some]
  exact drawInt_loop hl hw a.toNat k 0 a (0 + 1) 0 (by omega) (by omega) (by omega) (by omega) (by omega) (by omega) (by omega) (by omega)

theorem pick_ok (i : Int) (h0 : 0 ≤ i) (h1 : i ≤ 255) : ∃ t, laws_wPick.f l i = some t ∧ 0 ≤ t ∧ t ≤ 255 := by
  unfold laws_wPick.f
  by_cases h : (l.length : Int) = 0
  · rw [if_pos h]; exact ⟨_, rfl, h0, h1⟩
  · rw [if_neg h]
    have er : Int.tmod i (l.length : Int) = i % (l.length : Int) := Int.tmod_eq_emod_of_nonneg h0
    rw [er, if_pos (Int.emod_nonneg _ h), if_pos (Int.emod_lt_of_pos _ (by omega))]
    have hr := rd_byte hw (i % (l.length : Int))
    rw [wrap_id (by omega) (by omega)]
    exact ⟨_, rfl, hr.1, hr.2⟩

theorem drawWord_loop (d : Nat) : ∀ (k : Nat) (x p i : Int), i + d = 4 → 0 ≤ i → 0 ≤ p → p + d ≤ 1000 → d < k → 0 ≤ x → x ≤ 4294967295 → ∃ y, spec_DrawUnpack.l0 (k + 1) l x p i = some y ∧ 0 ≤ y ∧ y ≤ 4294967295 := by
  induction d with
  | zero =>
    intro k x p i hi h0 hp hp1 hk hx0 hx1
    rw [spec_DrawUnpack.l0.eq_def]
    simp only
    rw [if_neg (by omega)]
    exact ⟨x, rfl, hx0, hx1⟩
  | succ d ih =>
    intro k x p i hi h0 hp hp1 hk hx0 hx1
    obtain ⟨k, rfl⟩ : ∃ m, k = m + 1 := ⟨k - 1, by omega⟩
    obtain ⟨a, ha, _⟩ := take_ok hl hw (p := p) (n := 256) (by omega) (by omega) (by omega) k
    rw [spec_DrawUnpack.l0.eq_def]
    simp only
    rw [if_pos (by omega), ha, Option.bind_some, wrap_id (show -9223372036854775808 ≤ i + 1 by omega) (by omega)]
    exact ih k _ (p + 1) (i + 1) (by omega) (by omega) (by omega) (by omega) (by omega) (by omega) (by omega)

theorem drawWord (k : Nat) (hk : 10 ≤ k) : ∃ y, spec_DrawUnpack.f k l = some y ∧ 0 ≤ y ∧ y ≤ 4294967295 := by
  obtain ⟨k, rfl⟩ : ∃ m, k = m + 1 := ⟨k - 1, by omega⟩
  unfold spec_DrawUnpack.f
  exact drawWord_loop hl hw 4 k 0 0 0 (by omega) (by omega) (by omega) (by omega) (by omega) (by omega) (by omega)

theorem drawInstr (k : Nat) : ∃ a b c d e, spec_l1DrawInstr.f (k + 1) l 0 = some (a, b, c, d, e, 4) := by
  obtain ⟨a, ha, _⟩ := take_ok hl hw (p := 0) (n := 40) (by omega) (by omega) (by omega) k
  obtain ⟨b, hb, _⟩ := take_ok hl hw (p := 0 + 1) (n := 256) (by omega) (by omega) (by omega) k
  obtain ⟨c, hc, _⟩ := take_ok hl hw (p := 0 + 1 + 1) (n := 256) (by omega) (by omega) (by omega) k
  obtain ⟨d, hd, _⟩ := take_ok hl hw (p := 0 + 1 + 1 + 1) (n := 256) (by omega) (by omega) (by omega) k
  unfold spec_l1DrawInstr.f
  rw [ha, Option.bind_some, hb, Option.bind_some, hc, Option.bind_some, hd, Option.bind_some]
  unfold spec_Unpack.f
  rw [if_pos ⟨Int.emod_nonneg _ (by omega), by have := Int.emod_lt_of_pos (wrap64 (wrap64 (wrap64 (a + wrap64 (64 * b)) + wrap64 (16384 * Int.tmod (wrap64 (c * 2)) 512)) + wrap64 (8388608 * Int.tmod (wrap64 (d * 3)) 512))) (show (0 : Int) < 4294967296 by omega); omega⟩]
  exact ⟨_, _, _, _, _, rfl⟩

theorem drawPack (k : Nat) (hk : 5 ≤ k) : ∃ a b c d e, spec_DrawPack.f k l = some (a, b, c, d, e) := by
  obtain ⟨k, rfl⟩ : ∃ m, k = m + 2 := ⟨k - 2, by omega⟩
  obtain ⟨a, b, c, d, e, hi⟩ := drawInstr hl hw (k + 1)
  obtain ⟨x, hx, _⟩ := take_ok hl hw (p := 4) (n := 16) (by omega) (by omega) (by omega) (k + 1)
  obtain ⟨y, hy, _⟩ := take_ok hl hw (p := 4 + 1) (n := 3) (by omega) (by omega) (by omega) (k + 1)
  unfold spec_DrawPack.f
  rw [hi, Option.bind_some, hx, Option.bind_some, hy, Option.bind_some]
  simp only [spec_DrawPack.j0, spec_DrawPack.j1]
  repeat (first | exact ⟨_, _, _, _, _, rfl⟩ | split)
end

theorem impl_pack_range (a b c d e : Int) : ∃ r, impl_Pack.f a b c d e = some r ∧ 0 ≤ r ∧ r ≤ 4294967295 := by
  unfold impl_Pack.f
  by_cases h : 0 ≤ a ∧ a < 64 ∧ 0 ≤ b ∧ b < 256 ∧ 0 ≤ c ∧ c < 512 ∧ 0 ≤ d ∧ d < 512 ∧ e = c + 512 * d - 131072
  · rw [if_pos h]; exact ⟨_, rfl, by omega, by omega⟩
  · rw [if_neg h]; exact ⟨_, rfl, by omega, by omega⟩

theorem last {l : List Int} (hl : (l.length : Int) ≤ 1048576) (hw : ∀ x ∈ l, 0 ≤ x ∧ x ≤ 255) (k : Nat) (hk : 10 ≤ k) : laws_FnWire.j3 k l false = some true := by
  obtain ⟨k, rfl⟩ : ∃ m, k = m + 2 := ⟨k - 2, by omega⟩
  obtain ⟨a, b, c, d, e, hi⟩ := drawPack hl hw (k + 1) (by omega)
  obtain ⟨r, hr, r0, r1⟩ := impl_pack_range a b c d e
  have hs : spec_Pack.f (k + 1) a b c d e = some r := (pack_same k a b c d e).trans hr
  rw [laws_FnWire.j3.eq_def]
  simp only [Bool.false_eq_true, if_false]
  rw [hi, Option.bind_some]
  simp only
  rw [hr, Option.bind_some, hs, Option.bind_some, if_pos rfl, Option.bind_some]
  rw [unpack_same ⟨r0, r1⟩]
  obtain ⟨x1, x2, x3, x4, x5, hx⟩ : ∃ x1 x2 x3 x4 x5, spec_Unpack.f r = some (x1, x2, x3, x4, x5) := by
    unfold spec_Unpack.f; rw [if_pos ⟨r0, r1⟩]; exact ⟨_, _, _, _, _, rfl⟩
  rw [hx, Option.bind_some]
  simp only
  by_cases h : (!(x1 == a) || (!(x2 == b) || (!(x3 == c) || (!(x4 == d) || !(x5 == e))))) = true
  · rw [if_pos h]
  · rw [if_neg h, Option.bind_some]
    simp only
    cases h1 : (x1 == a) <;> cases h2 : (x2 == b) <;> cases h3 : (x3 == c) <;> cases h4 : (x4 == d) <;> cases h5 : (x5 == e) <;> simp_all

theorem third {l : List Int} (hl : (l.length : Int) ≤ 1048576) (hw : ∀ x ∈ l, 0 ≤ x ∧ x ≤ 255) (k : Nat) (hk : 20 ≤ k) : laws_FnWire.j2 k l false = some true := by
  obtain ⟨k, rfl⟩ : ∃ m, k = m + 1 := ⟨k - 1, by omega⟩
  obtain ⟨w, hword, w0, w1⟩ := drawWord hl hw k (by omega)
  have hlast := last hl hw k (by omega)
  rw [laws_FnWire.j2.eq_def]
  simp only [Bool.false_eq_true, if_false]
  rw [hword, Option.bind_some]
  have hu : impl_Unpack.f w = some (w % 64, w / 64 % 256, w / 64 / 256 % 512, w / 64 / 256 / 512 % 512, w / 64 / 256 % 512 + 512 * (w / 64 / 256 / 512 % 512) - 131072) := by
    unfold impl_Unpack.f; rw [if_pos ⟨w0, w1⟩]
  rw [hu, Option.bind_some]
  simp only
  have hp : impl_Pack.f (w % 64) (w / 64 % 256) (w / 64 / 256 % 512) (w / 64 / 256 / 512 % 512) (w / 64 / 256 % 512 + 512 * (w / 64 / 256 / 512 % 512) - 131072) = some w := by
    unfold impl_Pack.f
    rw [if_pos ⟨by omega, by omega, by omega, by omega, by omega, by omega, by omega, by omega, rfl⟩]
    congr 1
    omega
  have hwide : impl_Wide.f (w % 64) (w / 64 % 256) (w / 64 / 256 % 512 + 512 * (w / 64 / 256 / 512 % 512) - 131072) =
      some (w % 64, w / 64 % 256, w / 64 / 256 % 512, w / 64 / 256 / 512 % 512, w / 64 / 256 % 512 + 512 * (w / 64 / 256 / 512 % 512) - 131072) := by
    unfold impl_Wide.f
    rw [if_neg (by omega), if_neg (by omega), if_neg (by omega), if_neg (by omega), if_neg (by omega), if_neg (by omega)]
    have c0 : 0 ≤ w / 64 / 256 % 512 ∧ w / 64 / 256 % 512 < 512 := by omega
    have d0 : 0 ≤ w / 64 / 256 / 512 % 512 ∧ w / 64 / 256 / 512 % 512 < 512 := by omega
    generalize w / 64 / 256 % 512 = c at c0
    generalize w / 64 / 256 / 512 % 512 = d at d0
    rw [wrap_id (show -9223372036854775808 ≤ c + 512 * d - 131072 + 131072 by omega) (by omega)]
    have e1 : Int.tmod (c + 512 * d - 131072 + 131072) 512 = c := by rw [Int.tmod_eq_emod_of_nonneg (by omega)]; omega
    have e2 : Int.tdiv (c + 512 * d - 131072 + 131072) 512 = d := by rw [Int.tdiv_eq_ediv_of_nonneg (by omega)]; omega
    rw [e1, e2, wrap_id (by omega) (by omega)]
  rw [hp, Option.bind_some, if_pos rfl, hwide, Option.bind_some]
  simp only [BEq.rfl, Bool.not_true, Bool.or_false]
  exact hlast

theorem impl_put_is (n : Int) : impl_PutInt.f n = some (strOfNums (eight (IntKind.u64.wrap n))) := rfl

theorem second {l : List Int} (hl : (l.length : Int) ≤ 1048576) (hw : ∀ x ∈ l, 0 ≤ x ∧ x ≤ 255) (pre tail : ByteArray) (hp : pre.size ≤ 100) (ht : tail.size ≤ 100) (y : Int) (y0 : -9223372036854775808 ≤ y) (y1 : y ≤ 9223372036854775807) (k : Nat) (hk : 30 ≤ k) :
    laws_FnWire.j1 k l y pre tail = some true := by
  obtain ⟨k, rfl⟩ : ∃ m, k = m + 10 := ⟨k - 10, by omega⟩
  have h3 := third hl hw (k + 9) (by omega)
  rw [laws_FnWire.j1.eq_def]
  simp only
  rw [put_same y k, impl_put_is, Option.bind_some, Option.bind_some, if_pos rfl]
  have hs : (strOfNums (eight (IntKind.u64.wrap y))).size = 8 := strOfNums_size _
  rw [if_pos (by omega), if_pos (by rw [ByteArray.size_append]; omega)]
  have hu : 0 ≤ IntKind.u64.wrap y ∧ IntKind.u64.wrap y < 18446744073709551616 := by rw [IntKind.wrap_u64]; omega
  rw [get_eight pre tail hp ht _ hu.1 hu.2 (k + 9) (by omega), Option.bind_some]
  have hback : wrap64 (IntKind.u64.wrap y) = y := by rw [IntKind.wrap_u64]; unfold wrap64; omega
  simp only [if_true]
  rw [if_pos hback, if_pos (by rw [wrap_id (by omega) (by omega)]), hs]
  exact h3

theorem first_ {l l1 : List Int} (hl : (l.length : Int) ≤ 1048576) (hw : ∀ x ∈ l, 0 ≤ x ∧ x ≤ 255) (hl1 : (l1.length : Int) ≤ 1048576) (hw1 : ∀ x ∈ l1, 0 ≤ x ∧ x ≤ 255) : laws_FnWire.j0 80 l l1 false = some true := by
  obtain ⟨n, hn⟩ := drawVarint hl hw 78
  obtain ⟨y, hy, y0, y1⟩ := drawInt hl hw 79 (by omega)
  obtain ⟨t0, ht0, t00, t01⟩ := pick_ok hl1 hw1 0 (by omega) (by omega)
  obtain ⟨t1, ht1, _⟩ := pick_ok hl1 hw1 1 (by omega) (by omega)
  obtain ⟨t2, ht2, _⟩ := pick_ok hl1 hw1 2 (by omega) (by omega)
  have em : Int.tmod t0 4 = t0 % 4 := Int.tmod_eq_emod_of_nonneg t00
  rw [laws_FnWire.j0.eq_def]
  simp only [Bool.false_eq_true, if_false]
  rw [hn, Option.bind_some, hy, Option.bind_some, ht0, Option.bind_some, em, if_pos (by omega), if_pos (by omega), ht1, Option.bind_some, ht2, Option.bind_some, Option.bind_some]
  have hpre : ((⟨#[112, 114, 101]⟩ : ByteArray).extract 0 ((t0 % 4 : Int)).toNat).size ≤ 100 := by
    rw [ByteArray.size_extract]
    have : (⟨#[112, 114, 101]⟩ : ByteArray).size = 3 := rfl
    omega
  have htail : (strOfNums [t1 % 256, t2 % 256]).size ≤ 100 := by rw [strOfNums_size]; simp
  generalize (⟨#[112, 114, 101]⟩ : ByteArray).extract 0 ((t0 % 4 : Int)).toNat = pre at hpre
  generalize strOfNums [t1 % 256, t2 % 256] = tail at htail
  have h2 := second hl hw pre tail hpre htail y y0 y1 79 (by omega)
  by_cases hr : n < 0 ∨ 16777215 < n
  · rw [impl_put_none hr 78, Option.bind_some, spec_put_none hr 77, Option.bind_some, if_pos rfl, if_neg (by decide)]
    exact h2
  · have r0 : 0 ≤ n := by omega
    have r1 : n ≤ 16777215 := by omega
    rw [impl_put r0 r1 74, Option.bind_some, spec_put r0 r1 79 (by omega), Option.bind_some, if_pos rfl]
    have hsz : (strOfNums (vl n)).size ≤ 4 ∧ 1 ≤ (strOfNums (vl n)).size := by
      rw [strOfNums_size, vl_size]
      split
      · omega
      · split
        · omega
        · split <;> omega
    rw [if_pos (by omega), if_pos (by omega), if_pos (by rw [ByteArray.size_append]; omega), get_of_put pre tail hpre n r0 r1 79 (by omega), Option.bind_some]
    simp only [if_true]
    rw [if_pos (by rw [wrap_id (by omega) (by omega)])]
    exact h2

theorem FnWire : laws_FnWire.Pure := by
  intro l l1 _ _ hw0 _ _ hw1
  refine ⟨80, ?_⟩
  unfold laws_FnWire.f
  have b0 : ∀ x ∈ l, 0 ≤ x ∧ x ≤ 255 := fun x hx => u8_bounds (hw0 x hx)
  have b1 : ∀ x ∈ l1, 0 ≤ x ∧ x ≤ 255 := fun x hx => u8_bounds (hw1 x hx)
  by_cases h0 : (l.length : Int) > 1048576
  · rw [if_pos h0, laws_FnWire.j0.eq_def]; simp only [if_true]
  · rw [if_neg h0]
    by_cases h1 : (l1.length : Int) > 1048576
    · rw [decide_eq_true h1, laws_FnWire.j0.eq_def]; simp only [if_true]
    · rw [decide_eq_false h1]
      exact first_ (by omega) b0 (by omega) b1

end Go.Proofs.YtnjchhkpomakoaaDoor.Pure
