/- The plain law of FnEnds: the draws answer, what is drawn fits, the tree's ends, and that both answer alike, from End to End. -/
import Derived.Test.YtiekodnojmkfaaaPFnEndsx14
import Derived.Test.YtiekodnojmkfaaaEv
import Derived.Laws.Strings
namespace Go.Proofs.Ytiekodnojmkfaaa.Pure
set_option linter.unusedSectionVars false
open Go Go.RowKit Go.Proofs.Ytiekodnojmkfaaa.PFnEnds Go.Proofs.YtiekodnojmkfaaaW.PrintWords Go.Proofs.YtiekodnojmkfaaaW.PrintLast Go.Proofs.YtiekodnojmkfaaaEv
theorem i64_wraps (n : Int) (h₀ : 0 ≤ n) (h₁ : n < 2 ^ 63) : IntKind.i64.wrap n = n := by rw [IntKind.wrap_i64]; omega
theorem xor_is (a b : Nat) (ha : a < 2 ^ 62) (hb : b < 2 ^ 62) : bits .xor .i64 (a : Int) (b : Int) = ((a ^^^ b : Nat) : Int) := by
  have hk : IntKind.i64.bits = 64 := rfl
  have ha' : a % 2 ^ 64 = a := Nat.mod_eq_of_lt (by omega)
  have hb' : b % 2 ^ 64 = b := Nat.mod_eq_of_lt (by omega)
  have hx : a ^^^ b < 2 ^ 62 := Nat.xor_lt_two_pow ha hb
  simp only [bits, hk, BitVec.ofInt_natCast, BitVec.toNat_xor, BitVec.toNat_ofNat, ha', hb']
  exact i64_wraps _ (Int.natCast_nonneg _) (by omega)

theorem xor_nonneg {x y : Int} (hx0 : 0 ≤ x) (hx : x < 2 ^ 62) (hy0 : 0 ≤ y) (hy : y < 2 ^ 62) : 0 ≤ bits .xor .i64 x y := by
  obtain ⟨a, rfl⟩ := Int.eq_ofNat_of_zero_le hx0
  obtain ⟨b, rfl⟩ := Int.eq_ofNat_of_zero_le hy0
  rw [xor_is a b (by omega) (by omega)]
  exact Int.natCast_nonneg _

theorem rd_byte {l : List Int} (hw : ∀ x ∈ l, 0 ≤ x ∧ x ≤ 255) (i : Int) : 0 ≤ rd l i ∧ rd l i ≤ 255 := by
  unfold rd
  rw [List.getD_eq_getElem?_getD]
  by_cases h : i.toNat < l.length
  · rw [List.getElem?_eq_getElem h]
    exact hw _ (List.getElem_mem h)
  · rw [List.getElem?_eq_none (by omega)]
    exact ⟨by decide, by decide⟩

theorem take_ok {l : List Int} (hl : (l.length : Int) ≤ 1048576) (hw : ∀ x ∈ l, 0 ≤ x ∧ x ≤ 255) {p n : Int} (hp0 : 0 ≤ p) (hp : p ≤ 1000000000) (hn : 1 ≤ n) (k : Nat) :
    ∃ r, spec_l1Take.f (k + 1) l p n = some (r, p + 1) ∧ 0 ≤ r ∧ r < n := by
  have ep : wrap64 (p + 1) = p + 1 := wrap_id (by omega) (by omega)
  unfold spec_l1Take.f
  rw [if_neg (show ¬ n < 1 by omega)]
  by_cases h0 : (l.length : Int) = 0
  · rw [show ((l.length : Int) == 0) = true from beq_iff_eq.mpr h0]
    refine ⟨0, ?_, by omega, by omega⟩
    simp only [spec_l1Take.j0, if_true, ep]
  · rw [show ((l.length : Int) == 0) = false from beq_eq_false_iff_ne.mpr h0]
    simp only [spec_l1Take.j0, Bool.false_eq_true, if_false]
    have hlp : (1 : Int) ≤ (l.length : Int) := by omega
    have er1 : Int.tmod p (l.length : Int) = p % (l.length : Int) := Int.tmod_eq_emod_of_nonneg hp0
    have e7 : wrap64 (wrap64 (p * 7) + 3) = p * 7 + 3 := by rw [wrap_id (show -9223372036854775808 ≤ p * 7 by omega) (by omega), wrap_id (by omega) (by omega)]
    have er2 : Int.tmod (p * 7 + 3) (l.length : Int) = (p * 7 + 3) % (l.length : Int) := Int.tmod_eq_emod_of_nonneg (by omega)
    have ed : Int.tdiv p (l.length : Int) = p / (l.length : Int) := Int.tdiv_eq_ediv_of_nonneg hp0
    have m1 : 0 ≤ p % (l.length : Int) ∧ p % (l.length : Int) < (l.length : Int) := ⟨Int.emod_nonneg _ (by omega), Int.emod_lt_of_pos _ (by omega)⟩
    have m2 : 0 ≤ (p * 7 + 3) % (l.length : Int) ∧ (p * 7 + 3) % (l.length : Int) < (l.length : Int) := ⟨Int.emod_nonneg _ (by omega), Int.emod_lt_of_pos _ (by omega)⟩
    have hd : 0 ≤ p / (l.length : Int) ∧ p / (l.length : Int) ≤ p := ⟨Int.ediv_nonneg hp0 (by omega), Int.ediv_le_self _ hp0⟩
    rw [e7, er1, er2, ed]
    have ha := rd_byte hw (p % (l.length : Int))
    have hb := rd_byte hw ((p * 7 + 3) % (l.length : Int))
    have hc := rd_byte hw p
    generalize rd l (p % (l.length : Int)) = a at ha
    generalize rd l ((p * 7 + 3) % (l.length : Int)) = b at hb
    generalize rd l p = c at hc
    generalize p / (l.length : Int) = q at hd
    have ea : wrap64 a = a := wrap_id (by omega) (by omega)
    have eb : wrap64 b = b := wrap_id (by omega) (by omega)
    have ec : wrap64 c = c := wrap_id (by omega) (by omega)
    have eq' : wrap64 q = q := wrap_id (by omega) (by omega)
    rw [ea, eb, ec, eq', ep]
    rw [wrap_id (show -9223372036854775808 ≤ a * 131 by omega) (by omega), wrap_id (show -9223372036854775808 ≤ b * 1117 by omega) (by omega), wrap_id (show -9223372036854775808 ≤ a * 131 + b * 1117 by omega) (by omega),
      wrap_id (show -9223372036854775808 ≤ p * 29 by omega) (by omega), wrap_id (show -9223372036854775808 ≤ a * 131 + b * 1117 + p * 29 by omega) (by omega), wrap_id (show -9223372036854775808 ≤ q * 53 by omega) (by omega), wrap_id (show -9223372036854775808 ≤ a * 131 + b * 1117 + p * 29 + q * 53 by omega) (by omega)]
    have hx0 : 0 ≤ a * 131 + b * 1117 + p * 29 + q * 53 ∧ a * 131 + b * 1117 + p * 29 + q * 53 < 2 ^ 62 := ⟨by omega, by omega⟩
    generalize a * 131 + b * 1117 + p * 29 + q * 53 = x at hx0
    have ex : Int.tdiv x 64 = x / 64 := Int.tdiv_eq_ediv_of_nonneg hx0.1
    rw [ex, wrap_id (show -9223372036854775808 ≤ x / 64 by omega) (by omega)]
    have hxo : 0 ≤ bits .xor .i64 x (x / 64) := xor_nonneg hx0.1 hx0.2 (by omega) (by omega)
    generalize bits .xor .i64 x (x / 64) = y at hxo
    rw [if_neg h0, if_pos m1.1, if_pos m1.2, if_pos m2.1, if_pos m2.2, if_pos hp0, if_neg (show ¬ n = 0 by omega)]
    have ey : Int.tmod y n = y % n := Int.tmod_eq_emod_of_nonneg hxo
    have ecn : Int.tmod c n = c % n := Int.tmod_eq_emod_of_nonneg (by omega)
    rw [ey, ecn]
    have hy : 0 ≤ y % n ∧ y % n < n := ⟨Int.emod_nonneg _ (by omega), Int.emod_lt_of_pos _ (by omega)⟩
    have hcn : 0 ≤ c % n ∧ c % n < n := ⟨Int.emod_nonneg _ (by omega), Int.emod_lt_of_pos _ (by omega)⟩
    by_cases h1 : p < (l.length : Int)
    · rw [if_pos h1]
      by_cases h2 : n ≤ 256
      · rw [if_pos h2]; exact ⟨_, rfl, hcn.1, hcn.2⟩
      · rw [if_neg h2, if_neg (show ¬ n = 0 by omega)]; exact ⟨_, rfl, hy.1, hy.2⟩
    · rw [if_neg h1, if_neg (show ¬ n = 0 by omega)]; exact ⟨_, rfl, hy.1, hy.2⟩

/-! ### that the draws answer -/
/-- With rounds enough it answers, and P tells of the answer. -/
def Tot {α : Type} (g : Nat → Option α) (P : α → Prop) : Prop := ∃ a, Evt g a ∧ P a
theorem Tot.bind {α β : Type} {g : Nat → Option α} {h : Nat → α → Option β} {P : α → Prop} {Q : β → Prop} (hg : Tot g P) (hh : ∀ a, P a → Tot (fun k => h k a) Q) : Tot (fun k => (g k).bind (h k)) Q := by
  obtain ⟨a, ha, hp⟩ := hg
  obtain ⟨b, hb, hq⟩ := hh a hp
  exact ⟨b, ha.bind hb, hq⟩
theorem Tot.mono {α : Type} {g : Nat → Option α} {P Q : α → Prop} (h : Tot g P) (hq : ∀ a, P a → Q a) : Tot g Q := by
  obtain ⟨a, ha, hp⟩ := h
  exact ⟨a, ha, hq a hp⟩
theorem Tot.now {α : Type} {g : Nat → Option α} {P : α → Prop} {a : α} (h : ∀ k, g k = some a) (hp : P a) : Tot g P := ⟨a, Evt.now h, hp⟩
theorem Tot.of_eq {α : Type} {g g' : Nat → Option α} {P : α → Prop} (h : Tot g P) (he : ∀ k, g' k = g k) : Tot g' P := by
  obtain ⟨a, ha, hp⟩ := h
  exact ⟨a, ha.of_eq 0 (fun k _ => he k), hp⟩
theorem Tot.succ {α : Type} {g : Nat → Option α} {P : α → Prop} (h : Tot (fun k => g (k + 1)) P) : Tot g P := by
  obtain ⟨a, ha, hp⟩ := h
  exact ⟨a, ha.succ, hp⟩
/-- The bytes. -/
structure Bytes (l : List Int) : Prop where
  len : (l.length : Int) ≤ 1048576
  rng : ∀ x ∈ l, 0 ≤ x ∧ x ≤ 255
theorem take_tot {l : List Int} (hb : Bytes l) {p n : Int} (hp0 : 0 ≤ p) (hp : p ≤ 1000000000) (hn : 1 ≤ n) : Tot (fun k => spec_l1Take.f k l p n) (fun t => t.2 = p + 1 ∧ 0 ≤ t.1 ∧ t.1 < n) := by
  obtain ⟨r, hr, h0, h1⟩ := take_ok hb.len hb.rng hp0 hp hn 0
  refine Tot.succ ⟨(r, p + 1), ⟨0, fun k _ => ?_⟩, rfl, h0, h1⟩
  obtain ⟨r', hr', _, _⟩ := take_ok hb.len hb.rng hp0 hp hn k
  have h2 : ∀ m, LeO (spec_l1Take.f 1 l p n) (spec_l1Take.f (1 + m) l p n) := by
    intro m
    induction m with
    | zero => exact LeO.refl _
    | succ m ih => exact fun r h => spec_l1Take.mono _ _ _ _ r (ih r h)
  have h3 := h2 k (r, p + 1) hr
  rw [show 1 + k = k + 1 by omega] at h3
  exact h3
theorem count_tot {l : List Int} (hb : Bytes l) : ∃ t, spec_l1Count.f l 10 2 7 = some t ∧ 2 ≤ t ∧ t ≤ 7 := by
  have h := hb.len
  unfold spec_l1Count.f
  rw [if_neg (by decide)]
  have e : wrap64 (2 + wrap64 ((l.length : Int) / 10)) = 2 + (l.length : Int) / 10 := by unfold wrap64; omega
  rw [e]
  by_cases c : 2 + (l.length : Int) / 10 > 7
  · exact ⟨7, if_pos c, by omega, by omega⟩
  · exact ⟨_, if_neg c, by omega, by omega⟩
theorem ite_len {α : Type} {c : Prop} [Decidable c] {a b : List α} {n : Nat} (ha : a.length ≤ n) (hb : b.length ≤ n) : (if c then a else b).length ≤ n := by
  split
  · exact ha
  · exact hb
theorem blk_len (a x y z kids ups : Int) (v i : Bool) (hz : 0 ≤ z ∧ z ≤ 15) : (blkL a x y z kids ups v i).length ≤ 40 := by
  have ht : (threadR x y (1 + Int.tmod z 3).toNat).length ≤ 12 := by
    have h1 : ∀ n, (threadR x y n).length = 4 * n := by
      intro n
      induction n with
      | zero => rfl
      | succ n ih => rw [threadR, List.length_append, List.length_append, ih]; show 4 * n + 3 + 1 = _; omega
    rw [h1, Int.tmod_eq_emod_of_nonneg hz.1]
    omega
  have hl : (loopL x y z kids).length ≤ 40 := by
    unfold loopL loopB
    by_cases c : 0 < kids ∧ Int.tmod z 2 = 0
    · rw [if_pos c]; simp
    · rw [if_neg c]; simp
  have hc : (callL x y z kids).length ≤ 40 := by
    unfold callL callTail
    rw [List.length_append]
    exact Nat.add_le_add (Nat.le_refl 3) (ite_len (n := 37) (by simp) (ite_len (by simp) (ite_len (by simp) (by simp))))
  have hh : (threadL x y z kids).length ≤ 40 := by
    unfold threadL
    by_cases c : z = 15
    · rw [if_pos c]; simp only [List.length_append, List.length_cons, List.length_nil]; omega
    · rw [if_neg c]; simp only [List.length_append, List.length_cons, List.length_nil]; omega
  unfold blkL
  repeat' refine ite_len ?_ ?_
  all_goals (first | exact hl | exact hc | exact hh | (simp only [List.length_cons, List.length_nil]; omega))
theorem block_tot {l : List Int} (hb : Bytes l) {p kids ups : Int} {v i : Bool} (hp0 : 0 ≤ p) (hp : p ≤ 100000000) (hk : 0 ≤ kids ∧ kids ≤ 100) (hu : 0 ≤ ups ∧ ups ≤ 100) :
    Tot (fun k => spec_l4Block.f k l p kids ups v i) (fun t => t.2 = p + 4 ∧ t.1.length ≤ 40) := by
  unfold spec_l4Block.f
  refine (take_tot hb hp0 (by omega) (by decide)).bind fun a ha => (take_tot hb (by omega) (by omega) (by decide)).bind fun x hx => (take_tot hb (by omega) (by omega) (by decide)).bind fun y hy => (take_tot hb (by omega) (by omega) (by decide)).bind fun z hz => ?_
  refine Tot.now (fun k => if_pos (by unfold inA; omega)) ⟨by show z.2 = _; omega, blk_len _ _ _ _ _ _ _ _ (by omega)⟩
/-! ### trees -/
structure G (q : S44) : Prop where
  l3 : 0 < q.f3.length
  l3b : q.f3.length ≤ 500
  l4 : q.f4.length ≤ 6
  l5 : q.f5.length ≤ 2
  k0 : 0 ≤ q.f6
  k1 : q.f6 ≤ 100
  l8 : q.f8.length ≤ 500
  l9 : q.f9.length ≤ 2
def tc (L : Int) : Int := if L = 2 then 100 else if L = 1 then 400 else 2000
def tm (L : Int) : Nat := if L = 2 then 1 else if L = 1 then 3 else 10
def tk (L : Int) : Int := if L = 2 then 0 else if L = 1 then 2 else 3
structure TreeR (L p ups : Int) (t : List S44 × Int) : Prop where
  lo : p ≤ t.2
  hi : t.2 ≤ p + tc L
  ne : ∃ q r, t.1 = q :: r ∧ q.f5.length = ups.toNat
  len : t.1.length ≤ tm L
  good : ∀ q ∈ t.1, G q
def TreeTot (T : TreeF) (l : List Int) (L : Int) : Prop := ∀ p ups, 0 ≤ p → p ≤ 1000000 - 10000 * (3 - L) → 0 ≤ ups → ups ≤ 2 → Tot (fun k => T k l p L ups) (TreeR L p ups)
structure KidsR (L p : Int) (l5 : List S89) (t : List S44 × Int) : Prop where
  lo : p ≤ t.2
  hi : t.2 ≤ p + tc L - 50
  ne : ∃ q r, t.1 = q :: r ∧ q.f5 = l5
  len : t.1.length ≤ tm L
  good : ∀ q ∈ t.1, G q
def KidsTot (f : Nat → List Int → Int → Int → Int → Bool → Int → List Int → List S85 → List S89 → Int → ByteArray → List Int → List ByteArray → Option (List S44 × Int)) (l : List Int) (L : Int) : Prop :=
  ∀ p f0 f1 l3 l4 l5 f6, 0 ≤ p → p ≤ 1000000 - 10000 * (3 - L) + 5000 → 0 < l3.length → l3.length ≤ 500 → l4.length ≤ 6 → l5.length ≤ 2 → 0 ≤ f6 → f6 ≤ tk L → Tot (fun k => f k l p L f0 f1 12 l3 l4 l5 f6 ⟨#[]⟩ [] []) (KidsR L p l5)
theorem setUp_ok {m : Int} {s : List S44} {q : S44} {r : List S44} (h : s = q :: r) (h5 : 0 < q.f5.length) (hg : ∀ z ∈ s, G z) : ∃ s', setUp m s = some s' ∧ s'.length = s.length ∧ ∀ z ∈ s', G z := by
  subst h
  obtain ⟨a0, a1, a2, a3, a4, a5, a6, a7, a8, a9⟩ := q
  cases a5 with
  | nil => exact absurd h5 (by simp)
  | cons u us =>
    refine ⟨_, rfl, by simp, fun z hz => ?_⟩
    rcases List.mem_cons.1 hz with rfl | hz
    · have g := hg _ (List.mem_cons_self ..)
      exact ⟨g.l3, g.l3b, g.l4, g.l5, g.k0, g.k1, g.l8, g.l9⟩
    · exact hg z (List.mem_cons_of_mem _ hz)
theorem kidsL_tot {T : TreeF} {l : List Int} (hb : Bytes l) {L : Int} (hL : 0 ≤ L ∧ L ≤ 1) (hT : TreeTot T l (L + 1)) {nu : Nat} : ∀ (n i : Nat) (p : Int) (out : List S44), 0 ≤ p → p + (n : Int) * (1 + tc (L + 1)) ≤ 1000000 - 10000 * (3 - (L + 1)) → (∀ q ∈ out, G q) → out.length + n * tm (L + 1) ≤ 1000 →
    Tot (fun k => kidsL T k l L nu n i p out) (fun t => p ≤ t.2 ∧ t.2 ≤ p + (n : Int) * (1 + tc (L + 1)) ∧ (∃ r, t.1 = out ++ r ∧ r.length ≤ n * tm (L + 1)) ∧ ∀ q ∈ t.1, G q)
  | 0, i, p, out, h0, h1, hg, hl => Tot.now (a := (out, p)) (fun k => rfl) ⟨Int.le_refl _, by simp, ⟨[], by simp, by simp⟩, hg⟩
  | n + 1, i, p, out, h0, h1, hg, hl => by
    have htc : 0 ≤ tc (L + 1) := by unfold tc; split <;> (try split) <;> omega
    have e1 : ((n + 1 : Nat) : Int) * (1 + tc (L + 1)) = (n : Int) * (1 + tc (L + 1)) + (1 + tc (L + 1)) := by rw [Int.natCast_add, Int.add_mul]; simp
    have e2 : (n + 1) * tm (L + 1) = n * tm (L + 1) + tm (L + 1) := by rw [Nat.add_mul]; simp
    have e3 : 0 ≤ (n : Int) * (1 + tc (L + 1)) := Int.mul_nonneg (by omega) (by omega)
    rw [e1] at h1
    rw [e2] at hl
    refine Tot.of_eq (g := fun k => (spec_l1Take.f k l p 3).bind fun t => (T k l t.2 (L + 1) t.1).bind fun s => (if 0 < nu ∧ 0 < t.1 ∧ i = 0 then setUp ((nu : Int) - 1) s.1 else some s.1).bind fun sub => if 0 < sub.length ∧ out.length + sub.length ≤ 100000 then kidsL T k l L nu n (i + 1) s.2 (out ++ sub) else none) ?_ (fun k => rfl)
    refine (take_tot hb h0 (by omega) (by decide)).bind fun t ht => (hT t.2 t.1 (by omega) (by omega) (by omega) (by omega)).bind fun s hs => ?_
    obtain ⟨q, r, hq, hq5⟩ := hs.ne
    have hsub : ∃ sub, (if 0 < nu ∧ 0 < t.1 ∧ i = 0 then setUp ((nu : Int) - 1) s.1 else some s.1) = some sub ∧ sub.length = s.1.length ∧ ∀ z ∈ sub, G z := by
      by_cases c : 0 < nu ∧ 0 < t.1 ∧ i = 0
      · rw [if_pos c]
        exact setUp_ok hq (by omega) hs.good
      · rw [if_neg c]
        exact ⟨_, rfl, rfl, hs.good⟩
    obtain ⟨sub, h2, h3, h4⟩ := hsub
    have hsl : 0 < s.1.length := by rw [hq]; simp
    have hlen := hs.len
    have ih := kidsL_tot hb hL hT (nu := nu) n (i + 1) s.2 (out ++ sub) (by have := hs.lo; omega) (by have := hs.hi; omega) (fun z hz => (List.mem_append.1 hz).elim (hg z) (h4 z)) (by rw [List.length_append]; omega)
    refine Tot.of_eq (g := fun k => kidsL T k l L nu n (i + 1) s.2 (out ++ sub)) (ih.mono fun t' h => ?_) (fun k => by rw [h2, Option.bind_some, if_pos (by omega)])
    obtain ⟨a1, a2, ⟨r', a3, a4⟩, a5⟩ := h
    have := hs.lo
    have := hs.hi
    refine ⟨by omega, by rw [e1]; omega, ⟨sub ++ r', by rw [a3, List.append_assoc], by rw [List.length_append, e2]; omega⟩, a5⟩
theorem kidsF_tot {T : TreeF} {l : List Int} (hb : Bytes l) {L : Int} (hL : L = 0 ∨ L = 1 ∨ L = 2) (hT : L ≤ 1 → TreeTot T l (L + 1)) : KidsTot (kidsF T) l L := by
  intro p f0 f1 l3 l4 l5 f6 hp0 hp1 h3 h3b h4 h5 h60 h61
  have h6 : f6 ≤ 3 := by unfold tk at h61; split at h61 <;> (try split at h61) <;> omega
  unfold kidsF
  refine Tot.of_eq (g := fun k => (spec_l1Take.f k l p 8).bind fun t => if 0 ≤ t.1 ∧ t.1 ≤ 7 then kidsL T k l L l5.length f6.toNat 0 t.2 [(⟨f0, f1, 12, l3, l4, l5, f6, if t.1 < 3 then strOfNums [102] ++ strOfNums [97 + t.1] else ⟨#[]⟩, if t.1 = 2 then (List.range l3.length).map (fun i : Nat => (i : Int) * 37) else [], if t.1 = 2 then List.replicate l5.length (strOfNums [117]) else []⟩ : S44)] else none) ?_ (fun k => if_pos (by omega))
  refine (take_tot hb hp0 (by omega) (by decide)).bind fun t ht => ?_
  have hg : ∀ q ∈ [(⟨f0, f1, 12, l3, l4, l5, f6, if t.1 < 3 then strOfNums [102] ++ strOfNums [97 + t.1] else ⟨#[]⟩, if t.1 = 2 then (List.range l3.length).map (fun i : Nat => (i : Int) * 37) else [], if t.1 = 2 then List.replicate l5.length (strOfNums [117]) else []⟩ : S44)], G q := by
    intro q hq
    obtain rfl := List.mem_singleton.1 hq
    refine ⟨h3, h3b, h4, h5, h60, by show f6 ≤ 100; omega, ?_, ?_⟩
    · exact ite_len (by simpa using h3b) (by simp)
    · exact ite_len (by simpa using h5) (by simp)
  generalize hx : (⟨f0, f1, 12, l3, l4, l5, f6, if t.1 < 3 then strOfNums [102] ++ strOfNums [97 + t.1] else ⟨#[]⟩, if t.1 = 2 then (List.range l3.length).map (fun i : Nat => (i : Int) * 37) else [], if t.1 = 2 then List.replicate l5.length (strOfNums [117]) else []⟩ : S44) = x at hg ⊢
  have hx5 : x.f5 = l5 := by rw [← hx]
  refine Tot.of_eq (g := fun k => kidsL T k l L l5.length f6.toNat 0 t.2 [x]) ?_ (fun k => if_pos (by omega))
  by_cases h2 : L = 2
  · subst h2
    have e0 : f6.toNat = 0 := by have : f6 ≤ 0 := h61; omega
    rw [e0]
    refine Tot.now (a := ([x], t.2)) (fun k => rfl) ⟨by show p ≤ t.2; omega, by show t.2 ≤ p + 100 - 50; omega, ⟨x, [], rfl, hx5⟩, Nat.le_refl _, hg⟩
  · have hL1 : L ≤ 1 := by omega
    have hn : ∃ n : Nat, f6.toNat = n ∧ (n : Int) ≤ tk L := ⟨f6.toNat, rfl, by omega⟩
    obtain ⟨n, en, hn⟩ := hn
    rw [en]
    have hB : (n : Int) * (1 + tc (L + 1)) ≤ tc L - 60 ∧ n * tm (L + 1) + 1 ≤ tm L ∧ 0 ≤ (n : Int) * (1 + tc (L + 1)) := by
      rcases hL with rfl | rfl | rfl
      · have : (n : Int) ≤ 3 := hn
        show (n : Int) * (1 + 400) ≤ 2000 - 60 ∧ n * 3 + 1 ≤ 10 ∧ 0 ≤ (n : Int) * (1 + 400)
        omega
      · have : (n : Int) ≤ 2 := hn
        show (n : Int) * (1 + 100) ≤ 400 - 60 ∧ n * 1 + 1 ≤ 3 ∧ 0 ≤ (n : Int) * (1 + 100)
        omega
      · omega
    have hm : tm L ≤ 10 := by unfold tm; split <;> (try split) <;> omega
    have htL : tc L ≤ 2000 := by unfold tc; split <;> (try split) <;> omega
    refine (kidsL_tot hb (by omega) (hT hL1) (nu := l5.length) n 0 t.2 [x] (by omega) (by omega) hg (by simp; omega)).mono fun s hs => ?_
    obtain ⟨a1, a2, ⟨r, a3, a4⟩, a5⟩ := hs
    exact ⟨by omega, by omega, ⟨x, r, by rw [a3]; rfl, hx5⟩, by rw [a3, List.length_append]; show 1 + r.length ≤ _; omega, a5⟩
section
variable [K : Inhabited KidsS]
/-- What is known of a tree's answer behind the draws of its code. -/
def TR (L p : Int) (n5 : Nat) (e : Int) (t : List S44 × Int) : Prop := p ≤ t.2 ∧ t.2 ≤ p + e + tc L - 50 ∧ (∃ q r, t.1 = q :: r ∧ q.f5.length = n5) ∧ t.1.length ≤ tm L ∧ ∀ q ∈ t.1, G q
theorem l3_tot {l : List Int} (hb : Bytes l) {L : Int} (HK : KidsTot spec_l4Kids.f l L) {f0 : Int} {f1 : Bool} {l3 : List Int} {l4 : List S85} {f6 ups : Int} (h3 : 0 < l3.length) (h3b : l3.length ≤ 500) (h4 : l4.length ≤ 6) (h6 : 0 ≤ f6 ∧ f6 ≤ tk L) :
    ∀ (n : Nat) (i p : Int) (us : List S89), i + (n : Int) = ups → 0 ≤ i → ups ≤ 2 → us.length + n ≤ 2 → 0 ≤ p → p + (n : Int) ≤ 1000000 - 10000 * (3 - L) + 5000 → 0 ≤ L ∧ L ≤ 2 → Tot (fun k => spec_l4Tree.l3 k l p L ups i f0 f1 12 l3 l4 us f6 ⟨#[]⟩) (TR L p (us.length + n) n)
  | 0, i, p, us, hi, h0, hu, hl, hp0, hp1, hL => by
    refine Tot.succ (Tot.of_eq (g := fun k => (spec_l4Kids.f k l p L f0 f1 12 l3 l4 us f6 ⟨#[]⟩ [] []).bind fun bt => some (bt.1, bt.2)) ?_ (fun k => by rw [spec_l4Tree.l3, if_neg (by omega)]))
    refine (HK p f0 f1 l3 l4 us f6 hp0 (by omega) h3 h3b h4 (by omega) h6.1 h6.2).bind fun t ht => Tot.now (fun k => rfl) ?_
    obtain ⟨q, r, e1, e2⟩ := ht.ne
    exact ⟨ht.lo, by have := ht.hi; show t.2 ≤ p + (0 : Nat) + tc L - 50; omega, ⟨q, r, e1, by rw [e2]; rfl⟩, ht.len, ht.good⟩
  | n + 1, i, p, us, hi, h0, hu, hl, hp0, hp1, hL => by
    have w : wrap64 (i + 1) = i + 1 := wrap_id (by omega) (by omega)
    refine Tot.succ (Tot.of_eq (g := fun k => (spec_l1Take.f k l p 4).bind fun bt => if us.length < 8796093022208 then spec_l4Tree.l3 k l bt.2 L ups (wrap64 (i + 1)) f0 f1 12 l3 l4 (us ++ [(⟨true, bt.1⟩ : S89)]) f6 ⟨#[]⟩ else none) ?_ (fun k => by rw [spec_l4Tree.l3, if_pos (by omega)]))
    refine (take_tot hb hp0 (by omega) (by decide)).bind fun t ht => ?_
    rw [w]
    have ih := l3_tot hb HK h3 h3b h4 h6 (f0 := f0) (f1 := f1) (ups := ups) n (i + 1) t.2 (us ++ [(⟨true, t.1⟩ : S89)]) (by omega) (by omega) hu (by rw [List.length_append]; show us.length + 1 + n ≤ 2; omega) (by omega) (by omega) hL
    refine (Tot.of_eq ih (fun k => if_pos (by omega))).mono fun s hs => ?_
    obtain ⟨a1, a2, ⟨q, r, e1, e2⟩, a4, a5⟩ := hs
    exact ⟨by omega, by omega, ⟨q, r, e1, by rw [e2, List.length_append]; show us.length + 1 + n = _; omega⟩, a4, a5⟩
theorem TR.up {L p p' e e' : Int} {n5 : Nat} {t : List S44 × Int} (h : TR L p' n5 e' t) (h1 : p ≤ p') (h2 : p' + e' ≤ p + e) : TR L p n5 e t := ⟨by have := h.1; omega, by have := h.2.1; omega, h.2.2⟩
section
variable {l : List Int} (hb : Bytes l) {L : Int} (HK : KidsTot spec_l4Kids.f l L) (hL : 0 ≤ L ∧ L ≤ 2) {f0 : Int} {f1 : Bool} {l4 : List S85} {f6 ups : Int} (h4 : l4.length ≤ 6) (h6 : 0 ≤ f6 ∧ f6 ≤ tk L) (hu : 0 ≤ ups ∧ ups ≤ 2)
include hb HK hL h4 h6 hu
theorem j6_tot {p : Int} {c : List Int} (h3 : 0 < c.length) (h3b : c.length ≤ 500) (hp0 : 0 ≤ p) (hp1 : p ≤ 1000000 - 10000 * (3 - L) + 4000) : Tot (fun k => spec_l4Tree.j6 k l p L ups f0 f1 12 c l4 f6 ⟨#[]⟩) (TR L p ups.toNat ups) := by
  refine Tot.succ (Tot.of_eq ((l3_tot hb HK h3 h3b h4 h6 (f0 := f0) (f1 := f1) (ups := ups) ups.toNat 0 p [] (by omega) (by omega) hu.2 (by show 0 + _ ≤ 2; omega) hp0 (by omega) hL).mono fun t ht => ?_) (fun k => by rw [spec_l4Tree.j6]))
  rw [show ([] : List S89).length + ups.toNat = ups.toNat by simp, show ((ups.toNat : Nat) : Int) = ups by omega] at ht
  exact ht
theorem j5_tot {p a : Int} {v : Bool} {c : List Int} (ha : 0 ≤ a ∧ a ≤ 5) (h3b : c.length ≤ 490) (hp0 : 0 ≤ p) (hp1 : p ≤ 1000000 - 10000 * (3 - L) + 4000) : Tot (fun k => spec_l4Tree.j5 k l p L ups a v f0 f1 12 c l4 f6 ⟨#[]⟩) (TR L p ups.toNat ups) := by
  have hw : wrap64 (1 + a) = 1 + a := wrap_id (by omega) (by omega)
  refine Tot.succ ?_
  cases v
  · refine Tot.of_eq (j6_tot hb HK hL h4 h6 hu (f0 := f0) (f1 := f1) (c := c ++ [wI 23 0 (1 + a) 0]) (by simp) (by simp; omega) hp0 hp1) (fun k => ?_)
    rw [spec_l4Tree.j5, if_neg (by decide), hw, show spec_l4I.f 23 0 (1 + a) 0 = some (wI 23 0 (1 + a) 0) from if_pos (by unfold inI; omega), Option.bind_some, if_pos (by omega)]
  · refine Tot.of_eq (j6_tot hb HK hL h4 h6 hu (f0 := f0) (f1 := f1) (c := c ++ [wI 24 2 511 0, wI 23 0 511 0]) (by simp) (by simp; omega) hp0 hp1) (fun k => ?_)
    rw [spec_l4Tree.j5, if_pos rfl, show spec_l4I.f 24 2 511 0 = some (wI 24 2 511 0) from if_pos (by unfold inI; omega), Option.bind_some, show spec_l4I.f 23 0 511 0 = some (wI 23 0 511 0) from if_pos (by unfold inI; omega), Option.bind_some, Option.bind_some, if_pos (by show c.length + 2 < _; omega)]
theorem l2_tot {p kids n x16 : Int} {x17 : List Int} {Q : List S44 × Int → Prop} : ∀ (m i : Nat) (c : List Int), i + m = x17.length → c.length + m ≤ 100000 → x17.length ≤ 40 → Tot (fun k => spec_l4Tree.l1 k l p L ups kids n (wrap64 (x16 + 1)) f0 f1 12 (c ++ x17.drop i) l4 f6 ⟨#[]⟩) Q → Tot (fun k => spec_l4Tree.l2 k l p L ups kids n x16 x17 (i : Int) f0 f1 12 c l4 f6 ⟨#[]⟩) Q
  | 0, i, c, hi, hc, hx, h => by
    refine Tot.succ (Tot.of_eq h (fun k => ?_))
    rw [spec_l4Tree.l2, if_neg (by omega), List.drop_of_length_le (by omega), List.append_nil]
  | m + 1, i, c, hi, hc, hx, h => by
    have w : wrap64 ((i : Int) + 1) = ((i + 1 : Nat) : Int) := wrap_nat (by omega)
    have hd : x17.drop i = rd x17 (i : Int) :: x17.drop (i + 1) := by
      rw [List.drop_eq_getElem_cons (by omega)]
      congr 1
      simp [rd, List.getD, show i < x17.length by omega]
    refine Tot.succ (Tot.of_eq (l2_tot m (i + 1) (c ++ [rd x17 (i : Int)]) (by omega) (by rw [List.length_append]; show c.length + 1 + m ≤ _; omega) hx (by rw [List.append_assoc]; rw [hd] at h; exact h)) (fun k => ?_))
    rw [spec_l4Tree.l2, if_pos (by omega), if_pos (by omega), if_pos (by omega), w]
theorem l1_tot {kids n : Int} (hk : 0 ≤ kids ∧ kids ≤ 100) (hn : n ≤ 7) : ∀ (m : Nat) (x16 p : Int) (c : List Int), x16 + (m : Int) = n → 0 ≤ x16 → c.length + 40 * m ≤ 490 → 0 ≤ p → p + 4 * (m : Int) ≤ 1000000 - 10000 * (3 - L) + 3000 → Tot (fun k => spec_l4Tree.l1 k l p L ups kids n x16 f0 f1 12 c l4 f6 ⟨#[]⟩) (TR L p ups.toNat (4 * (m : Int) + 1 + ups))
  | 0, x16, p, c, hx, h0, hc, hp0, hp1 => by
    refine Tot.succ (Tot.of_eq (g := fun k => (spec_l1Take.f k l p 6).bind fun bt => if bt.1 = 0 then spec_l4Tree.j5 k l bt.2 L ups bt.1 f1 f0 f1 12 c l4 f6 ⟨#[]⟩ else spec_l4Tree.j5 k l bt.2 L ups bt.1 false f0 f1 12 c l4 f6 ⟨#[]⟩) ?_ (fun k => by rw [spec_l4Tree.l1, if_neg (by omega)]))
    refine (take_tot hb hp0 (by omega) (by decide)).bind fun t ht => ?_
    by_cases e : t.1 = 0
    · exact (Tot.of_eq (j5_tot hb HK hL h4 h6 hu (f0 := f0) (f1 := f1) (p := t.2) (a := t.1) (v := f1) (c := c) (by omega) (by omega) (by omega) (by omega)) (fun k => if_pos e)).mono fun s hs => hs.up (by omega) (by simp; omega)
    · exact (Tot.of_eq (j5_tot hb HK hL h4 h6 hu (f0 := f0) (f1 := f1) (p := t.2) (a := t.1) (v := false) (c := c) (by omega) (by omega) (by omega) (by omega)) (fun k => if_neg e)).mono fun s hs => hs.up (by omega) (by simp; omega)
  | m + 1, x16, p, c, hx, h0, hc, hp0, hp1 => by
    have w : wrap64 (x16 + 1) = x16 + 1 := wrap_id (by omega) (by omega)
    refine Tot.succ (Tot.of_eq (g := fun k => (spec_l4Block.f k l p kids ups f1 (decide (L > 0))).bind fun bt => spec_l4Tree.l2 k l bt.2 L ups kids n x16 bt.1 0 f0 f1 12 c l4 f6 ⟨#[]⟩) ?_ (fun k => by rw [spec_l4Tree.l1, if_pos (by omega)]))
    refine (block_tot hb hp0 (by omega) hk (by omega)).bind fun t ht => ?_
    refine l2_tot hb HK hL h4 h6 hu t.1.length 0 c (by omega) (by omega) ht.2 ?_
    rw [w, List.drop_zero]
    exact (l1_tot hk hn m (x16 + 1) t.2 (c ++ t.1) (by omega) (by omega) (by rw [List.length_append]; omega) (by omega) (by omega)).mono fun s hs => hs.up (by omega) (by rw [ht.1]; omega)
end
end
section
variable [K : Inhabited KidsS] {l : List Int} (hb : Bytes l) {L : Int} (HK : KidsTot spec_l4Kids.f l L) (hL : 0 ≤ L ∧ L ≤ 2) {f0 : Int} {f1 : Bool} {l4 : List S85} {f6 ups : Int} (h4 : l4.length ≤ 6) (h6 : 0 ≤ f6 ∧ f6 ≤ tk L) (hu : 0 ≤ ups ∧ ups ≤ 2)
include hb HK hL h4 h6 hu
theorem l0_tot {kids n a p : Int} (hk : 0 ≤ kids ∧ kids ≤ 100) (hn : 0 ≤ n ∧ n ≤ 7) (ha : 0 ≤ a ∧ a ≤ 11) (hp0 : 0 ≤ p) (hp1 : p ≤ 1000000 - 10000 * (3 - L) + 2000) : ∀ (m : Nat) (x15 : Int) (c : List Int), x15 + (m : Int) = 4 → 0 ≤ x15 → c.length + m ≤ 100 → Tot (fun k => spec_l4Tree.l0 k l p L ups kids n a x15 f0 f1 12 c l4 f6 ⟨#[]⟩) (TR L p ups.toNat (4 * n + 1 + ups))
  | 0, x15, c, hx, h0, hc => by
    obtain ⟨nn, rfl⟩ : ∃ nn : Nat, n = (nn : Int) := ⟨n.toNat, by omega⟩
    refine Tot.succ (Tot.of_eq (l1_tot hb HK hL h4 h6 hu (f0 := f0) (f1 := f1) (kids := kids) (n := (nn : Int)) hk (by omega) nn 0 p (c ++ [wI 6 4 0 0, wW 1 5 4]) (by omega) (by omega) (by rw [List.length_append]; show c.length + 2 + 40 * nn ≤ 490; omega) hp0 (by omega)) (fun k => ?_))
    rw [spec_l4Tree.l0, if_neg (by omega), show spec_l4I.f 6 4 0 0 = some (wI 6 4 0 0) from if_pos (by unfold inI; omega), Option.bind_some, show spec_l4W.f 1 5 4 = some (wW 1 5 4) from if_pos (by unfold inW; omega), Option.bind_some, Option.bind_some, if_pos (by show c.length + 2 < _; omega)]
  | m + 1, x15, c, hx, h0, hc => by
    have w : wrap64 (x15 + 1) = x15 + 1 := wrap_id (by omega) (by omega)
    have w2 : wrap64 (a + x15) = a + x15 := wrap_id (by omega) (by omega)
    have e : Int.tmod (a + x15) 4 = (a + x15) % 4 := Int.tmod_eq_emod_of_nonneg (by omega)
    refine Tot.succ (Tot.of_eq (l0_tot hk hn ha hp0 hp1 m (x15 + 1) (c ++ [wW 1 x15 ((a + x15) % 4)]) (by omega) (by omega) (by rw [List.length_append]; show c.length + 1 + m ≤ _; omega)) (fun k => ?_))
    rw [spec_l4Tree.l0, if_pos (by omega), w2, e, show spec_l4W.f 1 x15 ((a + x15) % 4) = some (wW 1 x15 ((a + x15) % 4)) from if_pos (by unfold inW; omega), Option.bind_some, if_pos (by omega), w]
end
section
variable [K : Inhabited KidsS] {l : List Int} (hb : Bytes l) {L : Int} (HK : KidsTot spec_l4Kids.f l L) (hL : 0 ≤ L ∧ L ≤ 2) {ups : Int} (hu : 0 ≤ ups ∧ ups ≤ 2)
include hb HK hL hu
theorem j1_tot {kids p : Int} (hk : 0 ≤ kids ∧ kids ≤ tk L) (hp0 : 0 ≤ p) (hp1 : p ≤ 1000000 - 10000 * (3 - L) + 1000) : Tot (fun k => spec_l4Tree.j1 k l p L ups kids) (TR L p ups.toNat (31 + ups)) := by
  obtain ⟨n, hn, n0, n7⟩ := count_tot hb
  have htk : tk L ≤ 3 := by unfold tk; split <;> (try split) <;> omega
  refine Tot.succ (Tot.of_eq (g := fun k => (spec_l1Take.f k l p 12).bind fun bt139 => (spec_l1Take.f k l bt139.2 6).bind fun bt141 => spec_l4Tree.l0 k l bt141.2 L ups kids n bt139.1 (Int.tmod bt139.1 4) (Int.tmod bt139.1 4) (decide (bt141.1 < 3)) 12 ([] : List Int) (([(⟨2, bt139.1, (⟨#[]⟩ : ByteArray)⟩ : S85), (⟨2, wrap64 (bt141.1 - 2), (⟨#[]⟩ : ByteArray)⟩ : S85), (⟨2, wrap64 (bt141.1 + 1), (⟨#[]⟩ : ByteArray)⟩ : S85), (⟨2, 1, (⟨#[]⟩ : ByteArray)⟩ : S85), (⟨3, 0, (⟨#[115]⟩ : ByteArray)⟩ : S85), (⟨1, 1, (⟨#[]⟩ : ByteArray)⟩ : S85)] : List (S85))) kids (⟨#[]⟩ : ByteArray)) ?_ (fun k => by rw [spec_l4Tree.j1, hn, Option.bind_some]))
  refine (take_tot hb hp0 (by omega) (by decide)).bind fun a ha => (take_tot hb (by omega) (by omega) (by decide)).bind fun b hb2 => ?_
  have e : Int.tmod a.1 4 = a.1 % 4 := Int.tmod_eq_emod_of_nonneg ha.2.1
  rw [e]
  refine (l0_tot hb HK hL (f0 := a.1 % 4) (f1 := decide (b.1 < 3)) (by simp) hk hu (kids := kids) (n := n) (a := a.1) (p := b.2) (by omega) (by omega) (by omega) (by omega) (by omega) (4 - a.1 % 4).toNat (a.1 % 4) [] (by omega) (by omega) (by show 0 + _ ≤ 100; omega)).mono fun s hs => hs.up (by omega) (by omega)
theorem tree_tot (p : Int) (hp0 : 0 ≤ p) (hp1 : p ≤ 1000000 - 10000 * (3 - L)) : Tot (fun k => spec_l4Tree.f k l p L ups) (TreeR L p ups) := by
  have j0 : ∀ kids q : Int, (0 ≤ kids ∧ (L ≤ 1 → kids ≤ tk L)) → 0 ≤ q → q ≤ 1000000 - 10000 * (3 - L) + 1000 → Tot (fun k => spec_l4Tree.j0 k l q L ups kids) (TR L q ups.toNat (31 + ups)) := by
    intro kids q hk hq0 hq1
    refine Tot.succ ?_
    by_cases c : L > 1
    · refine Tot.of_eq (j1_tot hb HK hL hu (kids := 0) ⟨Int.le_refl _, by unfold tk; split <;> (try split) <;> omega⟩ hq0 hq1) (fun k => by rw [spec_l4Tree.j0, if_pos c])
    · refine Tot.of_eq (j1_tot hb HK hL hu (kids := kids) ⟨hk.1, hk.2 (by omega)⟩ hq0 hq1) (fun k => by rw [spec_l4Tree.j0, if_neg c])
  have fin : ∀ t : Int × Int, t.2 = p + 1 → ∀ s, TR L t.2 ups.toNat (31 + ups) s → TreeR L p ups s := fun t ht s hs => ⟨by have := hs.1; omega, by have := hs.2.1; omega, hs.2.2.1, hs.2.2.2.1, hs.2.2.2.2⟩
  unfold spec_l4Tree.f
  refine (take_tot hb hp0 (by omega) (by decide)).bind fun t ht => ?_
  by_cases c : L = 0
  · have w : wrap64 (t.1 + 1) = t.1 + 1 := wrap_id (by omega) (by omega)
    exact (Tot.of_eq (j0 (t.1 + 1) t.2 ⟨by omega, fun _ => by subst c; show t.1 + 1 ≤ 3; omega⟩ (by omega) (by omega)) (fun k => by rw [if_pos c, w])).mono (fin t ht.1)
  · have hk : L ≤ 1 → t.1 ≤ tk L := by
      intro h
      have e : L = 1 := by omega
      subst e
      show t.1 ≤ 2
      omega
    exact (Tot.of_eq (j0 t.1 t.2 ⟨by omega, hk⟩ (by omega) (by omega)) (fun k => by rw [if_neg c])).mono (fin t ht.1)
end
/-! ### the levels -/
theorem levels {l : List Int} (hb : Bytes l) : TreeTot (@spec_l4Tree.f ⟨kidsN 3⟩) l 0 := by
  have t2 : TreeTot (@spec_l4Tree.f ⟨kidsN 1⟩) l 2 := fun p ups h0 h1 h2 h3 => @tree_tot ⟨kidsN 1⟩ l hb 2 (kidsF_tot hb (.inr (.inr rfl)) (fun h => absurd h (by decide))) ⟨by decide, by decide⟩ ups ⟨h2, h3⟩ p h0 h1
  have t1 : TreeTot (@spec_l4Tree.f ⟨kidsN 2⟩) l 1 := fun p ups h0 h1 h2 h3 => @tree_tot ⟨kidsN 2⟩ l hb 1 (kidsF_tot hb (.inr (.inl rfl)) (fun _ => t2)) ⟨by decide, by decide⟩ ups ⟨h2, h3⟩ p h0 h1
  exact fun p ups h0 h1 h2 h3 => @tree_tot ⟨kidsN 3⟩ l hb 0 (kidsF_tot hb (.inl rfl) (fun _ => t1)) ⟨by decide, by decide⟩ ups ⟨h2, h3⟩ p h0 h1
/-! ### the drawn chunk, copied -/
theorem chunk_tot {l : List Int} (hb : Bytes l) {p : Int} (hp0 : 0 ≤ p) (hp1 : p ≤ 1000) : Tot (fun k => spec_l4DrawChunk.f k l p) (TreeR 0 p 0) := by
  unfold spec_l4DrawChunk.f
  exact (levels hb p 0 hp0 (by omega) (by decide) (by decide)).bind fun t ht => Tot.now (fun k => rfl) ht
theorem copyL {c : List S44} (hc : c.length ≤ 100000) : ∀ (m i : Nat), i + m = c.length → Tot (fun k => spec_l2Copy.l0 k (i : Int) c (c.take i)) (fun r => r = c)
  | 0, i, hi => by
    refine Tot.succ (Tot.now (fun k => ?_) rfl)
    rw [spec_l2Copy.l0, if_neg (by omega), List.take_of_length_le (by omega)]
  | m + 1, i, hi => by
    have w : wrap64 ((i : Int) + 1) = ((i + 1 : Nat) : Int) := wrap_nat (by omega)
    have ht : c.take i ++ [(⟨(rd_T44 c (i : Int)).f0, (rd_T44 c (i : Int)).f1, (rd_T44 c (i : Int)).f2, (rd_T44 c (i : Int)).f3, (rd_T44 c (i : Int)).f4, (rd_T44 c (i : Int)).f5, (rd_T44 c (i : Int)).f6, (rd_T44 c (i : Int)).f7, (rd_T44 c (i : Int)).f8, (rd_T44 c (i : Int)).f9⟩ : S44)] = c.take (i + 1) := by
      rw [List.take_add_one, List.getElem?_eq_getElem (by omega)]
      have e : rd_T44 c (i : Int) = c[i] := by simp [rd_T44, List.getD, show i < c.length by omega]
      rw [e]
      rfl
    refine Tot.succ (Tot.of_eq (copyL hc m (i + 1) (by omega)) (fun k => ?_))
    rw [spec_l2Copy.l0, if_pos (by omega), if_pos (by omega), if_pos (by rw [List.length_take]; omega), w, ht]
theorem copy_tot {c : List S44} (hc : c.length ≤ 100000) : Tot (fun k => spec_l2Copy.f k c) (fun r => r = c) := by
  have h := copyL hc c.length 0 (by omega)
  rw [List.take_zero] at h
  exact h
structure Fit (x : S44) : Prop where
  l3 : x.f3.length ≤ 1048576
  l4 : x.f4.length ≤ 1048576
  l5 : x.f5.length ≤ 1048576
  l8 : x.f8.length ≤ 1048576
  l9 : x.f9.length ≤ 1048576
structure Well (r : List S44) : Prop where
  len : r.length ≤ 1000
  fit : ∀ q ∈ r, Fit q
  kid : ∀ q ∈ r, q.f6 ≤ 9223372036854775807
theorem wrap_le (n : Int) : wrap64 n ≤ 9223372036854775807 := by unfold wrap64; omega
theorem G.fit {q : S44} (h : G q) : Fit q := ⟨by have := h.l3b; omega, by have := h.l4; omega, by have := h.l5; omega, by have := h.l8; omega, by have := h.l9; omega⟩
theorem leaf_fit (n : Int) : Fit (leafK n) := ⟨by show 1 ≤ _; omega, by show 0 ≤ _; omega, by show 0 ≤ _; omega, by show 0 ≤ _; omega, by show 0 ≤ _; omega⟩
theorem ite_of {α : Type} {P : α → Prop} {c : Prop} [Decidable c] {a b : α} (ha : P a) (hb : P b) : P (if c then a else b) := by
  by_cases h : c
  · rw [if_pos h]; exact ha
  · rw [if_neg h]; exact hb
theorem spQ_fit {q : S44} (h : G q) {a x : Int} (hx : 0 ≤ x ∧ x ≤ 1) : Fit (spQ a x q) ∧ (spQ a x q).f6 ≤ 9223372036854775807 := by
  have f := h.fit
  have k1 := h.k1
  have b3 := h.l3b
  have b4 := h.l4
  have b5 := h.l5
  have b8 := h.l8
  have b9 := h.l9
  unfold spQ
  refine ite_of (P := fun z : S44 => Fit z ∧ z.f6 ≤ 9223372036854775807) ?_ ?_
  · exact ⟨⟨f.l3, f.l4, f.l5, f.l8, f.l9⟩, by show q.f6 ≤ _; omega⟩
  refine ite_of (P := fun z : S44 => Fit z ∧ z.f6 ≤ 9223372036854775807) ?_ ?_
  · exact ⟨⟨f.l3, f.l4, f.l5, f.l8, f.l9⟩, by show q.f6 ≤ _; omega⟩
  refine ite_of (P := fun z : S44 => Fit z ∧ z.f6 ≤ 9223372036854775807) ?_ ?_
  · exact ⟨⟨f.l3, f.l4, f.l5, f.l8, f.l9⟩, wrap_le _⟩
  refine ite_of (P := fun z : S44 => Fit z ∧ z.f6 ≤ 9223372036854775807) ?_ ?_
  · exact ⟨⟨by simp, f.l4, f.l5, f.l8, f.l9⟩, by show q.f6 ≤ _; omega⟩
  refine ite_of (P := fun z : S44 => Fit z ∧ z.f6 ≤ 9223372036854775807) ?_ ?_
  · exact ⟨⟨by simp only [List.length_replicate]; omega, f.l4, f.l5, by simp, f.l9⟩, by show q.f6 ≤ _; omega⟩
  refine ite_of (P := fun z : S44 => Fit z ∧ z.f6 ≤ 9223372036854775807) ?_ ?_
  · exact ⟨⟨f.l3, by simp only [List.length_append, List.length_singleton]; omega, f.l5, f.l8, f.l9⟩, by show q.f6 ≤ _; omega⟩
  refine ite_of (P := fun z : S44 => Fit z ∧ z.f6 ≤ 9223372036854775807) ?_ ?_
  · exact ⟨⟨f.l3, by simp only [List.length_append, List.length_singleton]; omega, f.l5, f.l8, f.l9⟩, by show q.f6 ≤ _; omega⟩
  refine ite_of (P := fun z : S44 => Fit z ∧ z.f6 ≤ 9223372036854775807) ?_ ?_
  · exact ⟨⟨f.l3, by simp only [List.length_append, List.length_singleton]; omega, f.l5, f.l8, f.l9⟩, by show q.f6 ≤ _; omega⟩
  refine ite_of (P := fun z : S44 => Fit z ∧ z.f6 ≤ 9223372036854775807) ?_ ?_
  · exact ⟨⟨f.l3, by simp only [List.length_replicate]; omega, f.l5, f.l8, f.l9⟩, by show q.f6 ≤ _; omega⟩
  refine ite_of (P := fun z : S44 => Fit z ∧ z.f6 ≤ 9223372036854775807) ?_ ?_
  · exact ⟨⟨f.l3, f.l4, by simp only [List.length_replicate]; omega, f.l8, by simp⟩, by show q.f6 ≤ _; omega⟩
  refine ite_of (P := fun z : S44 => Fit z ∧ z.f6 ≤ 9223372036854775807) ?_ ?_
  · exact ⟨⟨f.l3, f.l4, by simp only [List.length_append, List.length_singleton]; omega, f.l8, by simp⟩, by show q.f6 ≤ _; omega⟩
  refine ite_of (P := fun z : S44 => Fit z ∧ z.f6 ≤ 9223372036854775807) ?_ ?_
  · exact ⟨⟨f.l3, f.l4, f.l5, f.l8, f.l9⟩, by show q.f6 ≤ _; omega⟩
  refine ite_of (P := fun z : S44 => Fit z ∧ z.f6 ≤ 9223372036854775807) ?_ ?_
  · exact ⟨⟨f.l3, f.l4, f.l5, by simp only [List.length_append, List.length_singleton]; omega, f.l9⟩, by show q.f6 ≤ _; omega⟩
  refine ite_of (P := fun z : S44 => Fit z ∧ z.f6 ≤ 9223372036854775807) ?_ ?_
  · exact ⟨⟨f.l3, f.l4, f.l5, by simp only [List.length_set, List.length_replicate]; omega, f.l9⟩, by show q.f6 ≤ _; omega⟩
  refine ite_of (P := fun z : S44 => Fit z ∧ z.f6 ≤ 9223372036854775807) ?_ ?_
  · exact ⟨⟨f.l3, f.l4, f.l5, f.l8, by simp only [List.length_append, List.length_singleton]; omega⟩, by show q.f6 ≤ _; omega⟩
  refine ite_of (P := fun z : S44 => Fit z ∧ z.f6 ≤ 9223372036854775807) ?_ ?_
  · exact ⟨⟨f.l3, by simp only [List.length_append, List.length_singleton]; omega, f.l5, f.l8, f.l9⟩, by show q.f6 ≤ _; omega⟩
  · exact ⟨f, by omega⟩
theorem all_well {a b x : Int} {c : List S44} (hc : c.length ≤ 10) (hg : ∀ q ∈ c, G q) (hb : 0 ≤ b ∧ b < (c.length : Int)) (hx : 0 ≤ x ∧ x ≤ 1) : Well (spAll a b x c) := by
  have hkg : ∀ q, G q → q.f6 ≤ 9223372036854775807 := fun q h => by have := h.k1; omega
  unfold spAll
  split
  · have hm : rd_T44 c b ∈ c := by
      have : b.toNat < c.length := by omega
      rw [show rd_T44 c b = c[b.toNat] by simp [rd_T44, List.getD, this]]
      exact List.getElem_mem this
    have hq := spQ_fit (hg _ hm) (a := a) hx
    refine ⟨by rw [List.length_set]; omega, fun q h => ?_, fun q h => ?_⟩
    · rcases List.mem_or_eq_of_mem_set h with h | rfl
      · exact (hg q h).fit
      · exact hq.1
    · rcases List.mem_or_eq_of_mem_set h with h | rfl
      · exact hkg q (hg q h)
      · exact hq.2
  split
  · exact ⟨by simp, fun q h => absurd h (by simp), fun q h => absurd h (by simp)⟩
  have lf : ∀ (n : Int), n ≤ 1000 → Fit (leafK n) ∧ (leafK n).f6 ≤ 9223372036854775807 := fun n hn => ⟨leaf_fit n, by show n ≤ _; omega⟩
  split
  · have hm : ∀ q ∈ List.replicate (63 + x).toNat (leafK 1) ++ [leafK 0], Fit q ∧ q.f6 ≤ 9223372036854775807 := fun q h => by
      rcases List.mem_append.1 h with h | h
      · rw [(List.mem_replicate.1 h).2]; exact lf 1 (by decide)
      · rw [List.mem_singleton.1 h]; exact lf 0 (by decide)
    exact ⟨by simp; omega, fun q h => (hm q h).1, fun q h => (hm q h).2⟩
  split
  · have hm : ∀ q ∈ leafK (199 + x) :: List.replicate (199 + x).toNat (leafK 0), Fit q ∧ q.f6 ≤ 9223372036854775807 := fun q h => by
      rcases List.mem_cons.1 h with rfl | h
      · exact lf _ (by omega)
      · rw [(List.mem_replicate.1 h).2]; exact lf 0 (by decide)
    exact ⟨by simp; omega, fun q h => (hm q h).1, fun q h => (hm q h).2⟩
  · have hm : ∀ q ∈ c ++ [leafK 0], Fit q ∧ q.f6 ≤ 9223372036854775807 := fun q h => by
      rcases List.mem_append.1 h with h | h
      · exact ⟨(hg q h).fit, hkg q (hg q h)⟩
      · rw [List.mem_singleton.1 h]; exact lf 0 (by decide)
    exact ⟨by simp; omega, fun q h => (hm q h).1, fun q h => (hm q h).2⟩
theorem spoil_tot {l : List Int} (hbs : Bytes l) {p : Int} (hp0 : 0 ≤ p) (hp1 : p ≤ 100000) {c : List S44} (hc0 : 0 < c.length) (hc : c.length ≤ 10) (hg : ∀ q ∈ c, G q) : Tot (fun k => spec_l2Spoil.f k l p c) Well := by
  unfold spec_l2Spoil.f
  refine (take_tot hbs hp0 (by omega) (by decide)).bind fun a ha => (take_tot hbs (by omega) (by omega) (by omega)).bind fun b hb => (take_tot hbs (by omega) (by omega) (by decide)).bind fun x hx => (copy_tot (by omega)).bind fun c' hc' => ?_
  subst hc'
  have hm : rd_T44 c' b.1 ∈ c' := by
    have : b.1.toNat < c'.length := by omega
    rw [show rd_T44 c' b.1 = c'[b.1.toNat] by simp [rd_T44, List.getD, this]]
    exact List.getElem_mem this
  have g := hg _ hm
  have g1 := g.l3
  have g2 := g.l3b
  have g3 := g.l4
  have g4 := g.l5
  have g5 := g.l8
  have g6 := g.l9
  exact Tot.now (fun k => if_pos (by unfold inS; omega)) (all_well hc hg (by omega) (by omega))
/-! ### a prototype in order -/
def pl (v : S85) : Bool := if v.f0 = 3 then decide (v.f1 = 0) && decide (v.f2.size ≤ 1000) else if v.f2.size > 0 then false else if v.f0 = 1 then decide (v.f1 = 0) || decide (v.f1 = 1) else if v.f0 = 2 then true else if v.f0 = 0 then decide (v.f1 = 0) else false
def num (n : Int) : Bool := decide (0 ≤ n) && decide (n ≤ 16777215)
def frame (p : S44) : Bool := !impl_Proto_good.c1 p.f0 p.f2 p.f3.length p.f4.length p.f5.length p.f7.size
def texts (p : S44) : Bool := (decide (p.f8.length = 0) || decide (p.f8.length = p.f3.length)) && (decide (p.f9.length = 0) || decide (p.f9.length = p.f5.length))
def ok (p : S44) : Bool := frame p && (texts p && (p.f4.all pl && (p.f5.all (fun u => num u.f1) && (p.f8.all num && (p.f9.all fun s => decide (s.size ≤ 1000))))))
theorem toList_nil (s : ByteArray) : (s.toList == ([] : List UInt8)) = decide (s.size = 0) := by
  rw [Bool.eq_iff_iff, beq_iff_eq, decide_eq_true_iff]
  constructor
  · intro h
    have e : s.toList.length = s.size := by rw [ByteArray.toList_eq]; exact Array.length_toList
    rw [h] at e
    exact e.symm
  · intro h
    have e : s.toList.length = s.size := by rw [ByteArray.toList_eq]; exact Array.length_toList
    exact List.length_eq_zero_iff.1 (by omega)
theorem spec_pl (v : S85) : spec_l2Plain.f v.f0 v.f1 v.f2 = some (pl v) := by
  unfold spec_l2Plain.f pl
  by_cases h3 : v.f0 = 3
  · rw [if_pos h3, if_pos h3]
    by_cases h1 : v.f1 = 0
    · rw [if_pos h1]
      simp only [h1, decide_true, Bool.true_and, Option.some.injEq, decide_eq_decide]
      omega
    · rw [if_neg h1]
      simp [h1]
  · rw [if_neg h3, if_neg h3]
    by_cases hs : v.f2.size > 0
    · rw [if_pos (show (v.f2.size : Int) > 0 by omega), if_pos hs]
    · rw [if_neg (show ¬ (v.f2.size : Int) > 0 by omega), if_neg hs]
      by_cases h1 : v.f0 = 1
      · rw [if_pos h1, if_pos h1]
        by_cases h0 : v.f1 = 0
        · rw [if_pos h0]; simp [h0]
        · rw [if_neg h0]
          simp only [Option.some.injEq, h0, decide_false, Bool.false_or]
          rw [Bool.eq_iff_iff, beq_iff_eq, decide_eq_true_iff]
      · rw [if_neg h1, if_neg h1]
        by_cases h2 : v.f0 = 2
        · rw [if_pos h2, if_pos h2]
        · rw [if_neg h2, if_neg h2]
          by_cases h0 : v.f0 = 0
          · rw [if_pos h0, if_pos h0]
            simp only [Option.some.injEq]
            rw [Bool.eq_iff_iff, beq_iff_eq, decide_eq_true_iff]
          · rw [if_neg h0, if_neg h0]
theorem impl_pl (v : S85) : impl_plain.f v.f0 v.f1 v.f2 = some (pl v) := by
  unfold impl_plain.f pl
  simp only [toList_nil]
  by_cases h3 : v.f0 = 3
  · rw [if_neg (by omega), if_neg (by omega), if_neg (by omega), if_pos h3, if_pos h3]
    by_cases h1 : v.f1 = 0
    · rw [if_pos h1]
      simp only [h1, decide_true, Bool.true_and, Option.some.injEq, decide_eq_decide]
      omega
    · rw [if_neg h1]
      simp [h1]
  · rw [if_neg h3, if_neg h3]
    by_cases hs : v.f2.size > 0
    · rw [if_pos hs]
      have e : decide (v.f2.size = 0) = false := decide_eq_false (by omega)
      simp only [e]
      repeat' split
      all_goals rfl
    · rw [if_neg hs]
      have e : decide (v.f2.size = 0) = true := decide_eq_true (by omega)
      simp only [e]
      by_cases h0 : v.f0 = 0
      · have e1 : ¬ v.f0 = 1 := by omega
        have e2 : ¬ v.f0 = 2 := by omega
        simp only [if_pos h0, if_neg e1, if_neg e2]
        by_cases h1 : v.f1 = 0 <;> simp [h1]
      · rw [if_neg h0]
        by_cases h1 : v.f0 = 1
        · rw [if_pos h1, if_pos h1]
          by_cases h2 : v.f1 = 0
          · simp [h2]
          · by_cases h4 : v.f1 = 1 <;> simp [h2, h4]
        · rw [if_neg h1, if_neg h1]
          by_cases h2 : v.f0 = 2
          · rw [if_pos h2, if_pos h2]
          · rw [if_neg h2, if_neg h2, if_neg h0]
theorem spec_num (n : Int) : spec_l2NumOk.f n = some (num n) := by
  unfold spec_l2NumOk.f num
  by_cases h : n ≥ 0
  · rw [if_pos h]; simp [show 0 ≤ n from h]
  · rw [if_neg h]; simp [show ¬ 0 ≤ n from h]
theorem impl_num (n : Int) : impl_within.f n 0 16777215 = some (num n) := by
  unfold impl_within.f num
  by_cases h : 0 ≤ n
  · rw [if_pos h]; simp [h]
  · rw [if_neg h]; simp [h]
theorem idx_all {α : Type} {z : α} {p : α → Option Bool} {q : α → Bool} (hp : ∀ x, p x = some (!q x)) (l : List α) (hl : l.length ≤ 1048576) : ∀ m i : Nat, i + m = l.length → ∃ r, impl_Proto_good.idx z p (m + 1) l (i : Int) = some r ∧ (0 ≤ r ↔ (l.drop i).all q = false) := by
  intro m
  induction m with
  | zero =>
    intro i hi
    refine ⟨-1, by rw [impl_Proto_good.idx, if_neg (by omega)], ?_⟩
    rw [show i = l.length by omega, List.drop_length]
    simp
  | succ m ih =>
    intro i hi
    have hil : i < l.length := by omega
    have e : l.getD (i : Int).toNat z = l[i] := by simp [List.getD, hil]
    by_cases hq : q l[i] = true
    · obtain ⟨r, hr, h⟩ := ih (i + 1) (by omega)
      refine ⟨r, ?_, ?_⟩
      · rw [impl_Proto_good.idx, if_pos (by omega), if_pos (by omega), e, hp, Option.bind_some, if_neg (by simp [hq]), wrap_nat (by omega)]
        exact hr
      · rw [h, List.drop_eq_getElem_cons hil, List.all_cons, hq, Bool.true_and]
    · refine ⟨i, ?_, ?_⟩
      · rw [impl_Proto_good.idx, if_pos (by omega), if_pos (by omega), e, hp, Option.bind_some, if_pos (by simp [hq])]
      · rw [List.drop_eq_getElem_cons hil, List.all_cons]
        simp [hq]
theorem idx_if {α : Type} {z : α} {p : α → Option Bool} {q : α → Bool} (hp : ∀ x, p x = some (!q x)) (l : List α) (hl : l.length ≤ 1048576) (o : Option Bool) : (impl_Proto_good.idx z p (l.length + 1) l 0).bind (fun r => if 0 ≤ r then some false else o) = if l.all q = true then o else some false := by
  obtain ⟨r, hr, h⟩ := idx_all (z := z) hp l hl l.length 0 (by omega)
  rw [show ((0 : Nat) : Int) = 0 from rfl] at hr
  rw [hr, Option.bind_some]
  rw [List.drop_zero] at h
  by_cases hq : l.all q = true
  · rw [if_pos hq, if_neg (fun h0 => by rw [h.1 h0] at hq; cases hq)]
  · rw [if_neg hq, if_pos (h.2 (by simpa using hq))]
theorem impl_good (p : S44) (hx : Fit p) : impl_Proto_good.f p.f0 p.f1 p.f2 p.f3 p.f4 p.f5 p.f6 p.f7 p.f8 p.f9 = some (ok p && decide (0 ≤ p.f6)) := by
  unfold impl_Proto_good.f
  rw [idx_if (q := pl) (fun v => by rw [impl_pl]; rfl) p.f4 hx.l4]
  rw [idx_if (q := fun u : S89 => num u.f1) (fun v => by rw [impl_num]; rfl) p.f5 hx.l5]
  rw [idx_if (q := num) (fun v => by rw [impl_num]; rfl) p.f8 hx.l8]
  rw [idx_if (q := fun s : ByteArray => decide (s.size ≤ 1000)) (fun v => by
    unfold impl_Proto_good.short
    rw [Option.map_some]
    congr 2
    rw [decide_eq_decide]
    omega) p.f9 hx.l9]
  unfold ok frame
  by_cases h1 : impl_Proto_good.c1 p.f0 p.f2 p.f3.length p.f4.length p.f5.length p.f7.size = true
  · rw [if_pos h1, h1]; rfl
  · rw [if_neg h1]
    have h1 : impl_Proto_good.c1 p.f0 p.f2 p.f3.length p.f4.length p.f5.length p.f7.size = false := by simpa using h1
    rw [h1]
    have h2 : impl_Proto_good.c2 p.f3.length p.f5.length p.f8.length p.f9.length p.f6 = !(texts p && decide (0 ≤ p.f6)) := by
      unfold impl_Proto_good.c2 texts
      by_cases a : p.f8.length = 0 <;> by_cases b : p.f8.length = p.f3.length <;> by_cases c : p.f9.length = 0 <;> by_cases d : p.f9.length = p.f5.length <;> by_cases e : p.f6 < 0 <;> simp [a, b, c, d, e] <;> omega
    rw [h2]
    cases texts p <;> cases decide (0 ≤ p.f6) <;> cases p.f4.all pl <;> cases (p.f5.all fun u => num u.f1) <;> cases p.f8.all num <;> cases (p.f9.all fun s => decide (s.size ≤ 1000)) <;> rfl
/-! ### the reference's word on a prototype -/
theorem spec_ok (p : S44) (hx : Fit p) : Evt (fun k => spec_l2ProtoOk.f k p.f0 p.f1 p.f2 p.f3 p.f4 p.f5 p.f6 p.f7 p.f8 p.f9) (ok p) := by
  have h3 : Evt (fun k => spec_l2ProtoOk.l3 k 0 p.f0 p.f1 p.f2 p.f3 p.f4 p.f5 p.f6 p.f7 p.f8 p.f9) (p.f9.all (fun s => decide (s.size ≤ 1000)) && true) := by
    refine all_list (xs := p.f9) (z := ByteArray.empty) (q := fun s => decide (s.size ≤ 1000)) (L := fun k i => spec_l2ProtoOk.l3 k i p.f0 p.f1 p.f2 p.f3 p.f4 p.f5 p.f6 p.f7 p.f8 p.f9) (fun i hi => ⟨0, fun k _ => ?_⟩) (Evt.succ (Evt.now fun k => ?_))
    · have := hx.l9
      have e : rdOf ByteArray.empty p.f9 (i : Int) = p.f9.getD i ByteArray.empty := by simp [rdOf]
      rw [← e]
      show spec_l2ProtoOk.l3 (k + 1) i _ _ _ _ _ _ _ _ _ _ = if _ then spec_l2ProtoOk.l3 k _ _ _ _ _ _ _ _ _ _ _ else _
      rw [spec_l2ProtoOk.l3, if_pos (by omega), if_pos (by omega), wrap_nat (by omega)]
      generalize rdOf ByteArray.empty p.f9 (i : Int) = v
      by_cases h : v.size ≤ 1000
      · rw [if_neg (by omega), if_pos (by simpa using h)]
      · rw [if_pos (by omega), if_neg (by simpa using h)]
    · show spec_l2ProtoOk.l3 (k + 1) p.f9.length _ _ _ _ _ _ _ _ _ _ = _
      rw [spec_l2ProtoOk.l3, if_neg (by omega)]
  have h2 : Evt (fun k => spec_l2ProtoOk.l2 k 0 p.f0 p.f1 p.f2 p.f3 p.f4 p.f5 p.f6 p.f7 p.f8 p.f9) (p.f8.all num && (p.f9.all (fun s => decide (s.size ≤ 1000)) && true)) := by
    refine all_list (xs := p.f8) (z := 0) (q := num) (L := fun k i => spec_l2ProtoOk.l2 k i p.f0 p.f1 p.f2 p.f3 p.f4 p.f5 p.f6 p.f7 p.f8 p.f9) (fun i hi => ⟨0, fun k _ => ?_⟩) (Evt.succ (h3.of_eq 0 fun k _ => ?_))
    · have := hx.l8
      have e : rd p.f8 (i : Int) = p.f8.getD i 0 := by simp [rd]
      rw [← e]
      show spec_l2ProtoOk.l2 (k + 1) i _ _ _ _ _ _ _ _ _ _ = if _ then spec_l2ProtoOk.l2 k _ _ _ _ _ _ _ _ _ _ _ else _
      rw [spec_l2ProtoOk.l2, if_pos (by omega), if_pos (by omega), wrap_nat (by omega), spec_num, Option.bind_some]
    · show spec_l2ProtoOk.l2 (k + 1) p.f8.length _ _ _ _ _ _ _ _ _ _ = _
      rw [spec_l2ProtoOk.l2, if_neg (by omega)]
  have h1 : Evt (fun k => spec_l2ProtoOk.l1 k 0 p.f0 p.f1 p.f2 p.f3 p.f4 p.f5 p.f6 p.f7 p.f8 p.f9) (p.f5.all (fun u => num u.f1) && (p.f8.all num && (p.f9.all (fun s => decide (s.size ≤ 1000)) && true))) := by
    refine all_list (xs := p.f5) (z := z89) (q := fun u => num u.f1) (L := fun k i => spec_l2ProtoOk.l1 k i p.f0 p.f1 p.f2 p.f3 p.f4 p.f5 p.f6 p.f7 p.f8 p.f9) (fun i hi => ⟨0, fun k _ => ?_⟩) (Evt.succ (h2.of_eq 0 fun k _ => ?_))
    · have := hx.l5
      have e : rd_T89 p.f5 (i : Int) = p.f5.getD i z89 := by simp [rd_T89]
      rw [← e]
      show spec_l2ProtoOk.l1 (k + 1) i _ _ _ _ _ _ _ _ _ _ = if _ then spec_l2ProtoOk.l1 k _ _ _ _ _ _ _ _ _ _ _ else _
      rw [spec_l2ProtoOk.l1, if_pos (by omega), if_pos (by omega), wrap_nat (by omega), spec_num, Option.bind_some]
    · show spec_l2ProtoOk.l1 (k + 1) p.f5.length _ _ _ _ _ _ _ _ _ _ = _
      rw [spec_l2ProtoOk.l1, if_neg (by omega)]
  have h0 : Evt (fun k => spec_l2ProtoOk.l0 k 0 p.f0 p.f1 p.f2 p.f3 p.f4 p.f5 p.f6 p.f7 p.f8 p.f9) (p.f4.all pl && (p.f5.all (fun u => num u.f1) && (p.f8.all num && (p.f9.all (fun s => decide (s.size ≤ 1000)) && true)))) := by
    refine all_list (xs := p.f4) (z := z85) (q := pl) (L := fun k i => spec_l2ProtoOk.l0 k i p.f0 p.f1 p.f2 p.f3 p.f4 p.f5 p.f6 p.f7 p.f8 p.f9) (fun i hi => ⟨0, fun k _ => ?_⟩) (Evt.succ (h1.of_eq 0 fun k _ => ?_))
    · have := hx.l4
      have e : rd_T85 p.f4 (i : Int) = p.f4.getD i z85 := by simp [rd_T85]
      rw [← e]
      show spec_l2ProtoOk.l0 (k + 1) i _ _ _ _ _ _ _ _ _ _ = if _ then spec_l2ProtoOk.l0 k _ _ _ _ _ _ _ _ _ _ _ else _
      rw [spec_l2ProtoOk.l0, if_pos (by omega), if_pos (by omega), wrap_nat (by omega), spec_pl, Option.bind_some]
    · show spec_l2ProtoOk.l0 (k + 1) p.f4.length _ _ _ _ _ _ _ _ _ _ = _
      rw [spec_l2ProtoOk.l0, if_neg (by omega)]
  obtain ⟨V, hV⟩ : ∃ V, (p.f4.all pl && (p.f5.all (fun u => num u.f1) && (p.f8.all num && (p.f9.all (fun s => decide (s.size ≤ 1000)) && true)))) = V := ⟨_, rfl⟩
  rw [hV] at h0
  have hj2 : ∀ b, Evt (fun k => spec_l2ProtoOk.j2 k b p.f0 p.f1 p.f2 p.f3 p.f4 p.f5 p.f6 p.f7 p.f8 p.f9) (!b && V) := by
    intro b
    refine Evt.succ ?_
    cases b
    · exact h0.of_eq 0 fun k _ => by rw [spec_l2ProtoOk.j2, if_neg (by decide)]
    · exact Evt.now fun k => by rw [spec_l2ProtoOk.j2, if_pos rfl]; rfl
  have hj1 : ∀ b, Evt (fun k => spec_l2ProtoOk.j1 k b p.f0 p.f1 p.f2 p.f3 p.f4 p.f5 p.f6 p.f7 p.f8 p.f9) (!b && (texts p && V)) := by
    intro b
    refine Evt.succ ?_
    cases b
    · have e : texts p = !(if (p.f8.length : Int) > 0 then (if (p.f8.length : Int) = (p.f3.length : Int) then (if (p.f9.length : Int) > 0 then ((p.f9.length : Int) != (p.f5.length : Int)) else false) else true) else (if (p.f9.length : Int) > 0 then ((p.f9.length : Int) != (p.f5.length : Int)) else false)) := by
        unfold texts
        have ne : ((p.f9.length : Int) != (p.f5.length : Int)) = !decide (p.f9.length = p.f5.length) := by
          rw [bne, Bool.eq_iff_iff, Bool.not_eq_true', beq_eq_false_iff_ne, Bool.not_eq_true', decide_eq_false_iff_not]
          omega
        rw [ne]
        by_cases a : p.f8.length = 0
        · rw [if_neg (by omega)]
          by_cases c : p.f9.length = 0
          · rw [if_neg (by omega)]; simp [a, c]
          · rw [if_pos (by omega)]; simp [a, c]
        · rw [if_pos (by omega)]
          by_cases b : p.f8.length = p.f3.length
          · rw [if_pos (by omega)]
            by_cases c : p.f9.length = 0
            · rw [if_neg (by omega)]; simp [b, c]
            · rw [if_pos (by omega)]; simp [b, c]
          · rw [if_neg (by omega)]; simp [a, b]
      refine (hj2 (!texts p)).of_eq 0 (fun k _ => ?_) |> fun h => by simpa using h
      rw [spec_l2ProtoOk.j1, if_neg (by decide), e, Bool.not_not]
      repeat' split
      all_goals rfl
    · exact Evt.now fun k => by rw [spec_l2ProtoOk.j1, if_pos rfl]; rfl
  have hj0 : ∀ b, Evt (fun k => spec_l2ProtoOk.j0 k b p.f0 p.f1 p.f2 p.f3 p.f4 p.f5 p.f6 p.f7 p.f8 p.f9) (!(b || (decide (500 < p.f4.length) || (decide (60 < p.f5.length) || decide (1000 < p.f7.size)))) && (texts p && V)) := by
    intro b
    refine Evt.succ ?_
    cases b
    · refine (hj1 (decide (500 < p.f4.length) || (decide (60 < p.f5.length) || decide (1000 < p.f7.size)))).of_eq 0 (fun k _ => ?_) |> fun h => by simpa using h
      rw [spec_l2ProtoOk.j0, if_neg (by decide)]
      by_cases a : 500 < p.f4.length
      · rw [if_pos (by omega)]; simp [a]
      · rw [if_neg (by omega)]
        by_cases b : 60 < p.f5.length
        · rw [if_pos (by omega)]; simp [b]
        · rw [if_neg (by omega)]
          have e : decide ((p.f7.size : Int) > 1000) = decide (1000 < p.f7.size) := by rw [decide_eq_decide]; omega
          rw [e]; simp [a, b]
    · exact Evt.now fun k => by rw [spec_l2ProtoOk.j0, if_pos rfl]; rfl
  have e : ok p = (!((!(impl_Proto_good.wi p.f2 1 250) || (!(impl_Proto_good.wi p.f0 0 p.f2) || !(impl_Proto_good.wi (p.f3.length : Int) 1 2000))) || (decide (500 < p.f4.length) || (decide (60 < p.f5.length) || decide (1000 < p.f7.size)))) && (texts p && V)) := by
    rw [← hV, ok, frame, impl_Proto_good.c1, Bool.and_true]
    simp only [Bool.or_assoc]
  rw [e]
  refine (hj0 _).of_eq 0 fun k _ => ?_
  unfold spec_l2ProtoOk.f impl_Proto_good.wi
  by_cases a : p.f2 < 1
  · rw [if_pos a]; simp [show ¬ 1 ≤ p.f2 by omega]
  · rw [if_neg a]
    by_cases b : p.f2 > 250
    · rw [if_pos b]; simp [show ¬ p.f2 ≤ 250 by omega]
    · rw [if_neg b]
      by_cases c : p.f0 < 0
      · rw [if_pos c]; simp [show ¬ 0 ≤ p.f0 by omega]
      · rw [if_neg c]
        by_cases d : p.f0 > p.f2
        · rw [if_pos d]; simp [show ¬ p.f0 ≤ p.f2 by omega]
        · rw [if_neg d]
          by_cases f : (p.f3.length : Int) < 1
          · rw [if_pos f]; simp [show ¬ 1 ≤ (p.f3.length : Int) by omega]
          · rw [if_neg f]
            have q : (!(decide (1 ≤ p.f2) && decide (p.f2 ≤ 250)) || (!(decide (0 ≤ p.f0) && decide (p.f0 ≤ p.f2)) || !(decide (1 ≤ (p.f3.length : Int)) && decide ((p.f3.length : Int) ≤ 2000)))) = decide ((p.f3.length : Int) > 2000) := by
              rw [decide_eq_true (show 1 ≤ p.f2 by omega), decide_eq_true (show p.f2 ≤ 250 by omega), decide_eq_true (show 0 ≤ p.f0 by omega), decide_eq_true (show p.f0 ≤ p.f2 by omega), decide_eq_true (show 1 ≤ (p.f3.length : Int) by omega)]
              by_cases g : (p.f3.length : Int) ≤ 2000
              · rw [decide_eq_true g, decide_eq_false (by omega)]; rfl
              · rw [decide_eq_false g, decide_eq_true (by omega)]; rfl
            rw [q]
/-! ### the tree -/
def lpE (g : Nat → Int) : Nat → Nat → Int
  | 0, at_ => (at_ : Int)
  | m + 1, at_ => if g at_ < 0 then -1 else lpE g m (g at_).toNat
def endOf (ks : List Int) : Nat → Nat → Int
  | 0, _ => -1
  | f + 1, i => if ks.length ≤ i then -1 else if ks.getD i 0 < 0 then -1 else lpE (endOf ks f) (ks.getD i 0).toNat (i + 1)
theorem lpE_bounds {ks : List Int} {g : Nat → Int} (hg : ∀ i, i ≤ ks.length → g i = -1 ∨ ((i : Int) < g i ∧ g i ≤ ks.length ∧ ∀ j : Nat, i ≤ j → (j : Int) < g i → 0 ≤ ks.getD j 0)) :
    ∀ m at_ : Nat, at_ ≤ ks.length → lpE g m at_ = -1 ∨ ((at_ : Int) ≤ lpE g m at_ ∧ lpE g m at_ ≤ ks.length ∧ ∀ j : Nat, at_ ≤ j → (j : Int) < lpE g m at_ → 0 ≤ ks.getD j 0) := by
  intro m
  induction m with
  | zero => exact fun at_ h => .inr ⟨Int.le_refl _, by simp only [lpE]; omega, fun j h1 h2 => by simp only [lpE] at h2; omega⟩
  | succ m ih =>
    intro at_ h
    simp only [lpE]
    by_cases hn : g at_ < 0
    · rw [if_pos hn]; exact .inl rfl
    · rw [if_neg hn]
      rcases hg at_ h with h1 | ⟨h1, h2, h3⟩
      · omega
      · rcases ih (g at_).toNat (by omega) with h4 | ⟨h4, h5, h6⟩
        · exact .inl h4
        · refine .inr ⟨by omega, h5, fun j hj1 hj2 => ?_⟩
          by_cases hj : (j : Int) < g at_
          · exact h3 j hj1 hj
          · exact h6 j (by omega) hj2
theorem endOf_bounds {ks : List Int} : ∀ f i : Nat, i ≤ ks.length → endOf ks f i = -1 ∨ ((i : Int) < endOf ks f i ∧ endOf ks f i ≤ ks.length ∧ ∀ j : Nat, i ≤ j → (j : Int) < endOf ks f i → 0 ≤ ks.getD j 0) := by
  intro f
  induction f with
  | zero => exact fun i _ => .inl rfl
  | succ f ih =>
    intro i hi
    simp only [endOf]
    by_cases h1 : ks.length ≤ i
    · rw [if_pos h1]; exact .inl rfl
    · rw [if_neg h1]
      by_cases h2 : ks.getD i 0 < 0
      · rw [if_pos h2]; exact .inl rfl
      · rw [if_neg h2]
        rcases lpE_bounds ih (ks.getD i 0).toNat (i + 1) (by omega) with h4 | ⟨h4, h5, h6⟩
        · exact .inl h4
        · refine .inr ⟨by omega, h5, fun j hj1 hj2 => ?_⟩
          by_cases hj : j = i
          · subst hj; omega
          · exact h6 j (by omega) hj2
theorem wk_end {ks : List Int} (hk : ∀ j : Nat, 0 ≤ ks.getD j 0) : ∀ (f i : Nat) (s : List Int × List Int), (impl_WellFormed.wk ks f i s).1 = endOf ks f i := by
  intro f
  induction f with
  | zero => exact fun i s => rfl
  | succ f ih =>
    intro i s
    have inner : ∀ (m at_ : Nat) (s : List Int × List Int), (impl_WellFormed.lp (impl_WellFormed.wk ks f) m at_ s).1 = lpE (endOf ks f) m at_ := by
      intro m
      induction m with
      | zero => exact fun at_ s => rfl
      | succ m ihm =>
        intro at_ s
        simp only [impl_WellFormed.lp, lpE]
        rw [ih at_ s]
        by_cases hn : endOf ks f at_ < 0
        · rw [if_pos hn, if_pos hn]
        · rw [if_neg hn, if_neg hn]
          exact ihm _ _
    simp only [impl_WellFormed.wk, endOf]
    by_cases h1 : ks.length ≤ i
    · rw [if_pos h1, if_pos h1]
    · have hkn : ¬ ks.getD i 0 < 0 := by have := hk i; omega
      rw [if_neg h1, if_neg h1, if_neg hkn]
      rw [inner]
      by_cases hn : lpE (endOf ks f) (ks.getD i 0).toNat (i + 1) < 0
      · rw [if_pos hn]
        have := lpE_bounds (ks := ks) (endOf_bounds f) (ks.getD i 0).toNat (i + 1) (by omega)
        omega
      · rw [if_neg hn]
theorem spec_end {ps : List S44} (hn : ps.length ≤ 1048576) (hk : ∀ p ∈ ps, p.f6 ≤ 9223372036854775807) : ∀ (f i : Nat), f ≤ 64 → Evt (fun k => spec_l2End.f k ps (i : Int) (64 - (f : Int))) (endOf (ps.map (·.f6)) f i) := by
  have hlen : (ps.map (·.f6)).length = ps.length := by simp
  intro f
  induction f with
  | zero =>
    intro i _
    refine Evt.succ (Evt.succ (Evt.now fun k => ?_))
    show spec_l2End.f (k + 1 + 1) ps (i : Int) (64 - ((0 : Nat) : Int)) = some (-1)
    rw [spec_l2End.f]
    by_cases hi : (i : Int) ≥ (ps.length : Int)
    · rw [if_pos hi, spec_l2End.j0, if_pos rfl]
    · rw [if_neg hi, if_pos (by omega), spec_l2End.j0, if_pos rfl]
  | succ f ih =>
    intro i hf
    simp only [endOf]
    rw [hlen]
    by_cases hi : ps.length ≤ i
    · rw [if_pos hi]
      refine Evt.succ (Evt.succ (Evt.now fun k => ?_))
      show spec_l2End.f (k + 1 + 1) ps (i : Int) _ = some (-1)
      rw [spec_l2End.f, if_pos (by omega), spec_l2End.j0, if_pos rfl]
    · rw [if_neg hi]
      have hil : i < ps.length := by omega
      have e : rd_T44 ps (i : Int) = ps[i] := by simp [rd_T44, List.getD, hil]
      have ek : (ps.map (·.f6)).getD i 0 = ps[i].f6 := by simp [List.getD, hil]
      rw [ek]
      have hK : ps[i].f6 ≤ 9223372036854775807 := hk _ (List.getElem_mem hil)
      have e64 : (64 : Int) - ((f + 1 : Nat) : Int) = 63 - (f : Int) := by omega
      rw [e64]
      obtain ⟨K, hKd⟩ : ∃ K, K = ps[i].f6 := ⟨_, rfl⟩
      rw [← hKd] at hK ⊢
      have head : ∀ k, spec_l2End.f (k + 1) ps (i : Int) (63 - (f : Int)) = spec_l2End.j0 k ps (i : Int) (63 - (f : Int)) (decide (K < 0)) := by
        intro k
        rw [spec_l2End.f, if_neg (by omega), if_neg (by omega), if_pos (by omega), if_pos (by omega), e, ← hKd]
      by_cases hneg : K < 0
      · rw [if_pos hneg]
        refine Evt.succ (Evt.succ (Evt.now fun k => ?_))
        show spec_l2End.f (k + 1 + 1) ps (i : Int) _ = some (-1)
        rw [head, spec_l2End.j0, if_pos (decide_eq_true hneg)]
      · rw [if_neg hneg]
        have loop : ∀ d m at_ : Nat, ps.length - at_ ≤ d → at_ ≤ ps.length → (m : Int) ≤ K → Evt (fun k => spec_l2End.l0 k ps (i : Int) (63 - (f : Int)) (at_ : Int) (K - (m : Int))) (lpE (endOf (ps.map (·.f6)) f) m at_) := by
          intro d
          induction d with
          | zero =>
            intro m at_ hd ha hm
            have hat : at_ = ps.length := by omega
            cases m with
            | zero =>
              refine Evt.succ (Evt.now fun k => ?_)
              show spec_l2End.l0 (k + 1) ps (i : Int) _ (at_ : Int) (K - ((0 : Nat) : Int)) = some _
              rw [spec_l2End.l0, if_pos (by omega), if_pos (by omega), e, ← hKd, if_neg (by omega)]
              rfl
            | succ m =>
              have hb := endOf_bounds (ks := ps.map (·.f6)) f at_ (by omega)
              have hv : endOf (ps.map (·.f6)) f at_ = -1 := by
                rcases hb with hb | ⟨h1, h2, _⟩
                · exact hb
                · omega
              simp only [lpE]
              rw [hv, if_pos (by decide)]
              obtain ⟨L, hL⟩ := ih at_ (by omega)
              rw [hv] at hL
              refine ⟨L + 2, fun k hk' => ?_⟩
              obtain ⟨k, rfl⟩ : ∃ q, k = q + 1 + 1 := ⟨k - 2, by omega⟩
              have h1 : spec_l2End.f (k + 1) ps (at_ : Int) (64 - (f : Int)) = some (-1) := hL _ (by omega)
              show spec_l2End.l0 (k + 1 + 1) ps (i : Int) _ (at_ : Int) (K - ((m + 1 : Nat) : Int)) = some _
              rw [spec_l2End.l0, if_pos (by omega), if_pos (by omega), e, ← hKd, if_pos (by omega), if_pos (by omega), wrap_id (by omega) (by omega), show (63 - (f : Int) + 1) = 64 - (f : Int) by omega, h1, Option.bind_some]
              rw [spec_l2End.l0, if_pos (by omega), if_pos (by omega)]
              by_cases q : wrap64 (K - ((m + 1 : Nat) : Int) + 1) < (rd_T44 ps (i : Int)).f6
              · rw [if_pos q, if_neg (by decide)]
              · rw [if_neg q]
          | succ d ihd =>
            intro m at_ hd ha hm
            cases m with
            | zero =>
              refine Evt.succ (Evt.now fun k => ?_)
              show spec_l2End.l0 (k + 1) ps (i : Int) _ (at_ : Int) (K - ((0 : Nat) : Int)) = some _
              rw [spec_l2End.l0, if_pos (by omega), if_pos (by omega), e, ← hKd, if_neg (by omega)]
              rfl
            | succ m =>
              have hb := endOf_bounds (ks := ps.map (·.f6)) f at_ (by omega)
              obtain ⟨L, hL⟩ := ih at_ (by omega)
              simp only [lpE]
              by_cases hv : endOf (ps.map (·.f6)) f at_ < 0
              · rw [if_pos hv]
                have hv1 : endOf (ps.map (·.f6)) f at_ = -1 := by
                  rcases hb with hb | ⟨h1, _, _⟩
                  · exact hb
                  · omega
                rw [hv1] at hL
                refine ⟨L + 2, fun k hk' => ?_⟩
                obtain ⟨k, rfl⟩ : ∃ q, k = q + 1 + 1 := ⟨k - 2, by omega⟩
                have h1 : spec_l2End.f (k + 1) ps (at_ : Int) (64 - (f : Int)) = some (-1) := hL _ (by omega)
                show spec_l2End.l0 (k + 1 + 1) ps (i : Int) _ (at_ : Int) (K - ((m + 1 : Nat) : Int)) = some _
                rw [spec_l2End.l0, if_pos (by omega), if_pos (by omega), e, ← hKd, if_pos (by omega), if_pos (by omega), wrap_id (by omega) (by omega), show (63 - (f : Int) + 1) = 64 - (f : Int) by omega, h1, Option.bind_some]
                rw [spec_l2End.l0, if_pos (by omega), if_pos (by omega)]
                by_cases q : wrap64 (K - ((m + 1 : Nat) : Int) + 1) < (rd_T44 ps (i : Int)).f6
                · rw [if_pos q, if_neg (by decide)]
                · rw [if_neg q]
              · rw [if_neg hv]
                obtain ⟨t, ht⟩ : ∃ t : Nat, endOf (ps.map (·.f6)) f at_ = (t : Int) := ⟨(endOf (ps.map (·.f6)) f at_).toNat, by omega⟩
                rw [ht] at hb hL ⊢
                have hb2 : at_ < t ∧ t ≤ ps.length := by
                  rcases hb with hb | ⟨h1, h2, _⟩
                  · omega
                  · rw [hlen] at h2; omega
                have hrest := ihd m t (by omega) hb2.2 (by omega)
                rw [Int.toNat_natCast]
                refine Evt.succ (hrest.of_eq L fun k hk' => ?_)
                have h1 : spec_l2End.f k ps (at_ : Int) (64 - (f : Int)) = some (t : Int) := hL _ hk'
                show spec_l2End.l0 (k + 1) ps (i : Int) _ (at_ : Int) (K - ((m + 1 : Nat) : Int)) = _
                rw [spec_l2End.l0, if_pos (by omega), if_pos (by omega), e, ← hKd, if_pos (by omega), if_pos (by omega), wrap_id (by omega) (by omega), show (63 - (f : Int) + 1) = 64 - (f : Int) by omega, h1, Option.bind_some, wrap_id (by omega) (by omega), show K - ((m + 1 : Nat) : Int) + 1 = K - (m : Int) by omega]
        have h := loop ps.length K.toNat (i + 1) (by omega) (by omega) (by omega)
        rw [show K - (K.toNat : Int) = 0 by omega] at h
        refine Evt.succ (Evt.succ (h.of_eq 0 fun k _ => ?_))
        show spec_l2End.f (k + 1 + 1) ps (i : Int) _ = _
        rw [head, spec_l2End.j0, if_neg (by simpa using hneg), wrap_nat (by omega)]
/-! ### both answer alike -/
def word (l : List S44) : Bool := decide (1 ≤ l.length ∧ l.length ≤ 200) && (decide (endOf (l.map (·.f6)) 64 0 = (l.length : Int)) && l.all ok)
theorem spec_word {l : List S44} (hl : l.length ≤ 1048576) (hx : ∀ p ∈ l, Fit p) (hk : ∀ p ∈ l, p.f6 ≤ 9223372036854775807) : Evt (fun k => spec_WellFormed.f k l) (word l) := by
  have hend := spec_end hl hk 64 0 (Nat.le_refl _)
  have hall : Evt (fun k => spec_WellFormed.l0 k (l.length : Int) 0 l) (l.all ok && true) := by
    refine all_list (xs := l) (z := z44) (q := ok) (L := fun k i => spec_WellFormed.l0 k (l.length : Int) i l) (fun i hi => ?_) (Evt.succ (Evt.now fun k => ?_))
    · obtain ⟨K, hK0⟩ := spec_ok _ (hx _ (List.getElem_mem hi))
      have e : rd_T44 l (i : Int) = l[i] := by simp [rd_T44, List.getD, hi]
      have e2 : l.getD i z44 = l[i] := by simp [List.getD, hi]
      refine ⟨K, fun k hk => ?_⟩
      have hK := hK0 k hk
      dsimp only at hK
      show spec_WellFormed.l0 (k + 1) (l.length : Int) i l = if _ then spec_WellFormed.l0 k (l.length : Int) _ l else _
      rw [spec_WellFormed.l0, if_pos (by omega), if_pos (by omega), if_pos (by omega), e, hK, Option.bind_some, wrap_nat (by omega), e2]
    · show spec_WellFormed.l0 (k + 1) (l.length : Int) l.length l = _
      rw [spec_WellFormed.l0, if_neg (by omega)]
  rw [Bool.and_true] at hall
  have hj : ∀ b, Evt (fun k => spec_WellFormed.j0 k (l.length : Int) b l) (!b && l.all ok) := by
    intro b
    refine Evt.succ ?_
    cases b
    · exact hall.of_eq 0 fun k _ => by rw [spec_WellFormed.j0, if_neg (by decide)]
    · exact Evt.now fun k => by rw [spec_WellFormed.j0, if_pos rfl]; rfl
  unfold word
  by_cases h1 : l.length < 1
  · rw [decide_eq_false (by omega), Bool.false_and]
    exact (hj true).of_eq 0 fun k _ => by unfold spec_WellFormed.f; rw [if_pos (by omega)]
  · by_cases h2 : l.length > 200
    · rw [decide_eq_false (by omega), Bool.false_and]
      exact (hj true).of_eq 0 fun k _ => by unfold spec_WellFormed.f; rw [if_neg (by omega), if_pos (by omega)]
    · rw [decide_eq_true (by omega), Bool.true_and]
      have hb : Evt (fun k => (spec_l2End.f k l 0 0).bind fun t => spec_WellFormed.j0 k (l.length : Int) (t != (l.length : Int)) l) (!(endOf (l.map (·.f6)) 64 0 != (l.length : Int)) && l.all ok) := hend.bind (h := fun k t => spec_WellFormed.j0 k (l.length : Int) (t != (l.length : Int)) l) (hj _)
      have e : (!(endOf (l.map (·.f6)) 64 0 != (l.length : Int))) = decide (endOf (l.map (·.f6)) 64 0 = (l.length : Int)) := by
        rw [bne, Bool.not_not, Bool.eq_iff_iff, beq_iff_eq, decide_eq_true_iff]
      rw [e] at hb
      exact hb.of_eq 0 fun k _ => by unfold spec_WellFormed.f; rw [if_neg (by omega), if_neg (by omega)]
theorem goods_all {l : List S44} (hx : ∀ p ∈ l, Fit p) : impl_WellFormed.goods l = some (l.all fun p => ok p && decide (0 ≤ p.f6)) := by
  induction l with
  | nil => rfl
  | cons p l ih =>
    rw [impl_WellFormed.goods, impl_good p (hx p List.mem_cons_self), Option.bind_some, ih (fun q hq => hx q (List.mem_cons_of_mem _ hq)), List.all_cons]
    cases (ok p && decide (0 ≤ p.f6)) <;> rfl
theorem impl_word {l : List S44} (hx : ∀ p ∈ l, Fit p) (hk : ∀ p ∈ l, p.f6 ≤ 9223372036854775807) : impl_WellFormed.f l = some (word l) := by
  unfold impl_WellFormed.f word
  by_cases h1 : l.length < 1 ∨ 200 < l.length
  · rw [if_pos h1, decide_eq_false (by omega), Bool.false_and]
  · rw [if_neg h1, decide_eq_true (show 1 ≤ l.length ∧ l.length ≤ 200 by omega), Bool.true_and]
    have hs : impl_WellFormed.small l = true := List.all_eq_true.2 fun p hp => decide_eq_true (hk p hp)
    rw [if_pos hs, goods_all hx, Option.bind_some]
    by_cases hg : (l.all fun p => ok p && decide (0 ≤ p.f6)) = true
    · rw [if_pos hg]
      have hok : l.all ok = true := List.all_eq_true.2 fun p hp => by
        have := List.all_eq_true.1 hg p hp
        rw [Bool.and_eq_true] at this
        exact this.1
      have hk0 : ∀ j : Nat, 0 ≤ (l.map (·.f6)).getD j 0 := by
        intro j
        by_cases hj : j < l.length
        · have := List.all_eq_true.1 hg _ (List.getElem_mem hj)
          rw [Bool.and_eq_true, decide_eq_true_iff] at this
          have e : (l.map (·.f6)).getD j 0 = l[j].f6 := by simp [List.getD, hj]
          rw [e]
          exact this.2
        · have e : (l.map (·.f6)).getD j 0 = 0 := by simp [List.getD, hj]
          rw [e]
          exact Int.le_refl _
      rw [hok, Bool.and_true]
      have ef : (impl_WellFormed.fin (l.map (·.f6))).1 = endOf (l.map (·.f6)) 64 0 := wk_end hk0 64 0 _
      congr 1
      rw [decide_eq_decide, impl_WellFormed.come, ef, List.length_map]
      by_cases he : endOf (l.map (·.f6)) 64 0 = (l.length : Int)
      · rw [if_pos he]
        simp [impl_WellFormed.all, he]
      · rw [if_neg he]
        simp only [List.length_nil]
        constructor
        · intro h; omega
        · intro h; exact absurd h he
    · rw [if_neg hg]
      congr 1
      symm
      rw [Bool.and_eq_false_iff]
      by_cases hok : l.all ok = true
      · left
        refine decide_eq_false fun he => hg ?_
        have hb := endOf_bounds (ks := l.map (·.f6)) 64 0 (Nat.zero_le _)
        rw [he] at hb
        rcases hb with hb | ⟨_, _, hb⟩
        · omega
        · refine List.all_eq_true.2 fun p hp => ?_
          obtain ⟨j, hj, rfl⟩ := List.getElem_of_mem hp
          have h0 := hb j (Nat.zero_le _) (by omega)
          have e : (l.map (·.f6)).getD j 0 = l[j].f6 := by simp [List.getD, hj]
          rw [e] at h0
          rw [List.all_eq_true.1 hok _ hp, Bool.true_and]
          exact decide_eq_true h0
      · right
        simpa using hok
/-! ### the ends -/
theorem lpE_mono {g g' : Nat → Int} (hg : ∀ i, 0 ≤ g i → g' i = g i) : ∀ m at_ : Nat, 0 ≤ lpE g m at_ → lpE g' m at_ = lpE g m at_ := by
  intro m
  induction m with
  | zero => exact fun at_ _ => rfl
  | succ m ih =>
    intro at_ h
    simp only [lpE] at h ⊢
    by_cases hn : g at_ < 0
    · rw [if_pos hn] at h; omega
    · rw [if_neg hn] at h ⊢
      rw [hg at_ (by omega), if_neg hn]
      exact ih _ h
theorem endOf_succ {ks : List Int} : ∀ f i : Nat, 0 ≤ endOf ks f i → endOf ks (f + 1) i = endOf ks f i := by
  intro f
  induction f with
  | zero => intro i h; simp only [endOf] at h; omega
  | succ f ih =>
    intro i h
    rw [endOf] at h ⊢
    rw [show endOf ks (f + 1) i = if ks.length ≤ i then -1 else if ks.getD i 0 < 0 then -1 else lpE (endOf ks f) (ks.getD i 0).toNat (i + 1) from rfl]
    by_cases h1 : ks.length ≤ i
    · rw [if_pos h1] at h; omega
    · rw [if_neg h1] at h ⊢
      by_cases h2 : ks.getD i 0 < 0
      · rw [if_pos h2] at h; omega
      · rw [if_neg h2] at h
        rw [if_neg h2, if_neg h1, if_neg h2]
        exact lpE_mono (fun i hi => ih i hi) _ _ h
theorem endOf_le {ks : List Int} {f i : Nat} (h : 0 ≤ endOf ks f i) : ∀ d : Nat, endOf ks (f + d) i = endOf ks f i := by
  intro d
  induction d with
  | zero => rfl
  | succ d ih => rw [show f + (d + 1) = (f + d) + 1 from rfl, endOf_succ (f + d) i (by omega), ih]
theorem endOf_64 {ks : List Int} {f i : Nat} (hf : f ≤ 64) (h : 0 ≤ endOf ks f i) : endOf ks 64 i = endOf ks f i := by
  have := endOf_le h (64 - f)
  rwa [show f + (64 - f) = 64 by omega] at this
/-- The walk writes down the end of each that it has visited, and of no other. -/
structure Wrote (ks : List Int) (at_ : Nat) (r : Int) (s s' : List Int) : Prop where
  len : s'.length = s.length
  inn : ∀ j : Nat, at_ ≤ j → (j : Int) < r → s'.getD j 0 = endOf ks 64 j
  out : ∀ j : Nat, j < at_ ∨ r ≤ (j : Int) → s'.getD j 0 = s.getD j 0
theorem wk_wrote {ks : List Int} (hk : ∀ j : Nat, 0 ≤ ks.getD j 0) : ∀ (f i : Nat) (s : List Int × List Int), f ≤ 64 → i ≤ ks.length → s.2.length = ks.length → 0 ≤ endOf ks f i → Wrote ks i (endOf ks f i) s.2 (impl_WellFormed.wk ks f i s).2.2 := by
  intro f
  induction f with
  | zero => intro i s _ _ _ h; simp only [endOf] at h; omega
  | succ f ih =>
    intro i s hf hi hs h
    have inner : ∀ (m at_ : Nat) (s : List Int × List Int), at_ ≤ ks.length → s.2.length = ks.length → 0 ≤ lpE (endOf ks f) m at_ → Wrote ks at_ (lpE (endOf ks f) m at_) s.2 (impl_WellFormed.lp (impl_WellFormed.wk ks f) m at_ s).2.2 := by
      intro m
      induction m with
      | zero =>
        intro at_ s _ _ _
        exact ⟨rfl, fun j h1 h2 => by simp only [lpE] at h2; omega, fun j _ => rfl⟩
      | succ m ihm =>
        intro at_ s ha hs h
        simp only [impl_WellFormed.lp, lpE] at h ⊢
        rw [wk_end hk f at_ s]
        by_cases hn : endOf ks f at_ < 0
        · rw [if_pos hn] at h; omega
        · rw [if_neg hn] at h
          rw [if_neg hn, if_neg hn]
          have w1 := ih at_ s (by omega) ha hs (by omega)
          obtain ⟨b1, b2, _⟩ : (at_ : Int) < endOf ks f at_ ∧ endOf ks f at_ ≤ ks.length ∧ True := by
            rcases endOf_bounds (ks := ks) f at_ ha with hb | ⟨h1, h2, _⟩
            · omega
            · exact ⟨h1, h2, trivial⟩
          have w2 := ihm (endOf ks f at_).toNat (impl_WellFormed.wk ks f at_ s).2 (by omega) (by rw [w1.len]; exact hs) h
          have b3 : endOf ks f at_ ≤ lpE (endOf ks f) m (endOf ks f at_).toNat := by
            rcases lpE_bounds (ks := ks) (endOf_bounds f) m (endOf ks f at_).toNat (by omega) with hb | ⟨h1, _, _⟩
            · omega
            · omega
          refine ⟨w2.len.trans w1.len, fun j h1 h2 => ?_, fun j h1 => ?_⟩
          · by_cases hj : (j : Int) < endOf ks f at_
            · rw [w2.out j (.inl (by omega))]
              exact w1.inn j h1 hj
            · exact w2.inn j (by omega) h2
          · rw [w2.out j (by omega)]
            exact w1.out j (by omega)
    have hEq : endOf ks (f + 1) i = lpE (endOf ks f) (ks.getD i 0).toNat (i + 1) ∧ i < ks.length := by
      rw [endOf] at h ⊢
      by_cases h1 : ks.length ≤ i
      · rw [if_pos h1] at h; omega
      · rw [if_neg h1, if_neg (show ¬ ks.getD i 0 < 0 by have := hk i; omega)]
        exact ⟨rfl, by omega⟩
    obtain ⟨hEq, hil⟩ := hEq
    have h64 := endOf_64 (ks := ks) hf h
    rw [hEq] at h h64 ⊢
    have w := inner (ks.getD i 0).toNat (i + 1) (s.1.set i (63 - (f : Int)), s.2) (by omega) hs h
    have hq : (impl_WellFormed.lp (impl_WellFormed.wk ks f) (ks.getD i 0).toNat (i + 1) (s.1.set i (63 - (f : Int)), s.2)).1 = lpE (endOf ks f) (ks.getD i 0).toNat (i + 1) := by
      have g : ∀ (m at_ : Nat) (s : List Int × List Int), (impl_WellFormed.lp (impl_WellFormed.wk ks f) m at_ s).1 = lpE (endOf ks f) m at_ := by
        intro m
        induction m with
        | zero => exact fun at_ s => rfl
        | succ m ihm =>
          intro at_ s
          simp only [impl_WellFormed.lp, lpE]
          rw [wk_end hk f at_ s]
          by_cases hn : endOf ks f at_ < 0
          · rw [if_pos hn, if_pos hn]
          · rw [if_neg hn, if_neg hn]
            exact ihm _ _
      exact g _ _ _
    have b : (i : Int) + 1 ≤ lpE (endOf ks f) (ks.getD i 0).toNat (i + 1) := by
      rcases lpE_bounds (ks := ks) (endOf_bounds f) (ks.getD i 0).toNat (i + 1) (by omega) with hb | ⟨h1, _, _⟩
      · omega
      · omega
    have hwk : (impl_WellFormed.wk ks (f + 1) i s).2.2 = (impl_WellFormed.lp (impl_WellFormed.wk ks f) (ks.getD i 0).toNat (i + 1) (s.1.set i (63 - (f : Int)), s.2)).2.2.set i (lpE (endOf ks f) (ks.getD i 0).toNat (i + 1)) := by
      rw [impl_WellFormed.wk, if_neg (by omega), if_neg (by rw [hq]; omega), hq]
    rw [hwk]
    refine ⟨by rw [List.length_set]; exact w.len, fun j h1 h2 => ?_, fun j h1 => ?_⟩
    · by_cases hj : i = j
      · subst hj
        rw [h64]
        have hl := w.len
        dsimp only at hl
        rw [List.getD_eq_getElem?_getD, List.getElem?_set_self (by omega)]
        rfl
      · simp only [List.getD]
        rw [List.getElem?_set_ne hj]
        have := w.inn j (by omega) h2
        simpa only [List.getD] using this
    · have hj : i ≠ j := by omega
      simp only [List.getD]
      rw [List.getElem?_set_ne hj]
      have := w.out j (by omega)
      simpa only [List.getD] using this
theorem pick_all {s : List Int × List Int} {a : Int} : ∀ n : Nat, impl_End.pick a (impl_WellFormed.all s n) = if 0 ≤ a ∧ a < (n : Int) then s.2.getD a.toNat 0 else -1 := by
  intro n
  by_cases h : 0 ≤ a ∧ a < (n : Int)
  · rw [if_pos h]
    obtain ⟨j, rfl⟩ : ∃ j : Nat, a = (j : Int) := ⟨a.toNat, by omega⟩
    have hj : j < n := by omega
    have e : impl_WellFormed.all s n = impl_WellFormed.all s j ++ ((j : Int), s.1.getD j 0, s.2.getD j 0) :: ((List.range (n - (j + 1))).map (j + 1 + ·)).map (fun (i : Nat) => ((i : Int), s.1.getD i 0, s.2.getD i 0)) := by
      unfold impl_WellFormed.all
      rw [show n = (j + 1) + (n - (j + 1)) by omega, List.range_add, List.range_succ, List.map_append, List.map_append, List.append_assoc, show j + 1 + (n - (j + 1)) - (j + 1) = n - (j + 1) by omega]
      rfl
    rw [e, impl_End.pick_at (i := (j : Int)) (x := ((j : Int), s.1.getD j 0, s.2.getD j 0)) rfl (fun y hy => ?_), Int.toNat_natCast]
    obtain ⟨q, hq, rfl⟩ := List.mem_map.1 hy
    have := List.mem_range.1 hq
    show (q : Int) ≠ (j : Int)
    omega
  · rw [if_neg h]
    refine impl_End.pick_none fun y hy => ?_
    obtain ⟨q, hq, rfl⟩ := List.mem_map.1 hy
    have := List.mem_range.1 hq
    show (q : Int) ≠ a
    omega
/-- What End answers. -/
def ends (l : List S44) (a : Int) : Int := if word l = true then (if 0 ≤ a ∧ a < (l.length : Int) then endOf (l.map (·.f6)) 64 a.toNat else -1) else -1
theorem spec_ends {l : List S44} (hl : l.length ≤ 1048576) (hx : ∀ p ∈ l, Fit p) (hk : ∀ p ∈ l, p.f6 ≤ 9223372036854775807) (a : Int) : Evt (fun k => spec_End.f k l a) (ends l a) := by
  unfold ends
  refine (spec_word hl hx hk).bind (h := fun k t246 => (if t246 = true then (if a < 0 then (some (-1)) else (if a ≥ (l.length : Int) then (some (-1)) else ((spec_l2End.f k l a 0).bind fun t247 => (some t247)))) else (some (-1)))) ?_ |>.of_eq 0 fun k _ => by unfold spec_End.f; rfl
  by_cases hw : word l = true
  · rw [if_pos hw]
    by_cases h1 : a < 0
    · rw [if_neg (by omega)]
      exact Evt.now fun k => by show (if _ then _ else _) = _; rw [if_pos hw, if_pos h1]
    · by_cases h2 : a ≥ (l.length : Int)
      · rw [if_neg (by omega)]
        exact Evt.now fun k => by show (if _ then _ else _) = _; rw [if_pos hw, if_neg h1, if_pos h2]
      · rw [if_pos (by omega)]
        obtain ⟨j, rfl⟩ : ∃ j : Nat, a = (j : Int) := ⟨a.toNat, by omega⟩
        rw [Int.toNat_natCast]
        exact (spec_end hl hk 64 j (Nat.le_refl _)).bind (h := fun _ t => some t) (Evt.const rfl) |>.of_eq 0 fun k _ => by show (if _ then _ else _) = _; rw [if_pos hw, if_neg h1, if_neg h2]; rfl
  · rw [if_neg hw]
    exact Evt.now fun k => by show (if _ then _ else _) = _; rw [if_neg hw]
theorem impl_ends {l : List S44} (hx : ∀ p ∈ l, Fit p) (hk : ∀ p ∈ l, p.f6 ≤ 9223372036854775807) (a : Int) : impl_End.f l a = some (ends l a) := by
  unfold impl_End.f ends
  rw [impl_word hx hk, Option.bind_some]
  by_cases hw : word l = true
  · rw [if_pos hw, if_pos hw]
    have hw2 := hw
    unfold word at hw2
    simp only [Bool.and_eq_true, decide_eq_true_eq] at hw2
    obtain ⟨h1, he, hok⟩ := hw2
    have hb := endOf_bounds (ks := l.map (·.f6)) 64 0 (Nat.zero_le _)
    rw [he] at hb
    have hk0 : ∀ j : Nat, 0 ≤ (l.map (·.f6)).getD j 0 := by
      intro j
      by_cases hj : j < l.length
      · rcases hb with hb | ⟨_, _, hb⟩
        · omega
        · exact hb j (Nat.zero_le _) (by omega)
      · have e : (l.map (·.f6)).getD j 0 = 0 := by simp [List.getD, hj]
        rw [e]
        exact Int.le_refl _
    have ef : (impl_WellFormed.fin (l.map (·.f6))).1 = endOf (l.map (·.f6)) 64 0 := wk_end hk0 64 0 _
    rw [impl_WellFormed.come, ef, List.length_map, if_pos he, pick_all]
    by_cases ha : 0 ≤ a ∧ a < (l.length : Int)
    · rw [if_pos ha, if_pos ha]
      congr 1
      have w := wk_wrote hk0 64 0 (List.replicate (l.map (·.f6)).length 0, List.replicate (l.map (·.f6)).length 0) (Nat.le_refl _) (Nat.zero_le _) (by simp) (by rw [he]; omega)
      exact w.inn a.toNat (Nat.zero_le _) (by rw [he]; omega)
    · rw [if_neg ha, if_neg ha]
  · rw [if_neg hw, if_neg hw]
theorem good_well {c : List S44} (hc : c.length ≤ 10) (hg : ∀ q ∈ c, G q) : Well c := ⟨by omega, fun q h => (hg q h).fit, fun q h => by have := (hg q h).k1; omega⟩
theorem drawEnd_tot {l : List Int} (hb : Bytes l) : Tot (fun k => spec_DrawEnd.f k l) (fun t => Well t.1 ∧ -1 ≤ t.2 ∧ t.2 ≤ 100000) := by
  unfold spec_DrawEnd.f
  refine (take_tot hb (Int.le_refl 0) (by decide) (by decide)).bind fun a ha => (chunk_tot hb (by omega) (by omega)).bind fun c hc => ?_
  obtain ⟨q, r, e, _⟩ := hc.ne
  have hl : c.1.length ≤ 10 := hc.len
  have hl0 : 0 < c.1.length := by rw [e]; simp
  have h1 := hc.lo
  have h2 : c.2 ≤ a.2 + 2000 := hc.hi
  have w : wrap64 ((c.1.length : Int) + 2) = (c.1.length : Int) + 2 := wrap_id (by omega) (by omega)
  rw [w]
  refine (take_tot hb (by omega) (by omega) (by omega)).bind fun i hi => ?_
  by_cases h9 : a.1 = 9
  · refine Tot.of_eq (g := fun k => (spec_l2Spoil.f k l c.2 c.1).bind fun t => some (t, i.1)) ?_ (fun k => if_pos h9)
    exact (spoil_tot hb (by omega) (by omega) hl0 hl hc.good).bind fun t ht => Tot.now (fun k => rfl) ⟨ht, by show -1 ≤ i.1; omega, by show i.1 ≤ _; omega⟩
  · have w2 : wrap64 (i.1 - 1) = i.1 - 1 := wrap_id (by omega) (by omega)
    refine Tot.now (a := (c.1, i.1 - 1)) (fun k => by rw [if_neg h9, w2]) ⟨good_well hl hc.good, by show -1 ≤ i.1 - 1; omega, by show i.1 - 1 ≤ _; omega⟩
/-! ### the law: from End to End -/
theorem impl_at {l : List S44} (hx : ∀ p ∈ l, Fit p) (hk : ∀ p ∈ l, p.f6 ≤ 9223372036854775807) (hw : word l = true) (at_ : Nat) (h : 0 ≤ endOf (l.map (·.f6)) 63 at_) : impl_End.f l (at_ : Int) = some (endOf (l.map (·.f6)) 63 at_) := by
  have hl : at_ < l.length := by
    rcases Nat.lt_or_ge at_ l.length with h1 | h1
    · exact h1
    · rw [endOf, if_pos (by rw [List.length_map]; exact h1)] at h
      omega
  rw [impl_ends hx hk]
  unfold ends
  rw [if_pos hw, if_pos ⟨by omega, by omega⟩, Int.toNat_natCast, endOf_64 (by decide) h]
theorem loop_law {l : List S44} (hl : l.length ≤ 1000) (hx : ∀ p ∈ l, Fit p) (hk : ∀ p ∈ l, p.f6 ≤ 9223372036854775807) (hw : word l = true) {i : Nat} (hi : i < l.length) {want : Int} (h0 : 0 ≤ want) : ∀ (m : Nat) (x : Int) (at_ : Nat), x + (m : Int) = (rd_T44 l (i : Int)).f6 → 0 ≤ x → at_ ≤ l.length → lpE (endOf (l.map (·.f6)) 63) m at_ = want → Evt (fun k => laws_FnEnds.l0 k (i : Int) want (at_ : Int) x l l) true
  | 0, x, at_, hx1, hx0, ha, he => by
    refine Evt.succ (Evt.now fun k => ?_)
    rw [laws_FnEnds.l0, if_pos (by omega), if_pos (by omega), if_neg (by omega)]
    simp only [lpE] at he
    rw [he]
    simp
  | m + 1, x, at_, hx1, hx0, ha, he => by
    rw [lpE] at he
    by_cases hn : endOf (l.map (·.f6)) 63 at_ < 0
    · rw [if_pos hn] at he; omega
    · rw [if_neg hn] at he
      have hb := endOf_bounds (ks := l.map (·.f6)) 63 at_ (by rw [List.length_map]; exact ha)
      have hb2 : (at_ : Int) < endOf (l.map (·.f6)) 63 at_ ∧ endOf (l.map (·.f6)) 63 at_ ≤ (l.length : Int) := by
        rcases hb with hb | ⟨h1, h2, _⟩
        · omega
        · rw [List.length_map] at h2
          exact ⟨by omega, h2⟩
      obtain ⟨n, hN⟩ : ∃ n : Nat, endOf (l.map (·.f6)) 63 at_ = (n : Int) := ⟨_, (Int.toNat_of_nonneg (by omega)).symm⟩
      have hf6 : (rd_T44 l (i : Int)).f6 ≤ 9223372036854775807 := by
        rw [show rd_T44 l (i : Int) = l[i] by simp [rd_T44, List.getD, hi]]
        exact hk _ (List.getElem_mem hi)
      have w : wrap64 (x + 1) = x + 1 := wrap_id (by omega) (by omega)
      have hq := impl_at hx hk hw at_ (by omega)
      rw [hN] at hb2 he hq
      rw [Int.toNat_natCast] at he
      have ih := loop_law hl hx hk hw hi h0 m (x + 1) n (by omega) (by omega) (by omega) he
      refine Evt.succ (ih.of_eq 0 fun k _ => ?_)
      rw [laws_FnEnds.l0, if_pos (by omega), if_pos (by omega), if_pos (by omega), hq, Option.bind_some, if_neg (by omega), w]
theorem law_of {l : List Int} (hD : Tot (fun k => spec_DrawEnd.f k l) (fun t => Well t.1 ∧ -1 ≤ t.2 ∧ t.2 ≤ 100000)) : Evt (fun k => laws_FnEnds.f k l) true := by
  by_cases hlen : (l.length : Int) > 1048576
  · exact Evt.now fun k => by unfold laws_FnEnds.f; rw [if_pos hlen]
  obtain ⟨⟨c, i⟩, hE, hW0, hi0, hi1⟩ := hD
  have hW : Well c := hW0
  have hi1 : i ≤ 100000 := hi1
  have hs := spec_ends (by have := hW.len; omega) hW.fit hW.kid i
  have hm := impl_ends hW.fit hW.kid i
  have key : Evt (fun k => if ends c i < 0 then some true else laws_FnEnds.l0 k i (ends c i) (wrap64 (i + 1)) 0 c c) true := by
    by_cases hn : ends c i < 0
    · exact Evt.now fun k => if_pos hn
    · refine Evt.of_eq (g := fun k => laws_FnEnds.l0 k i (ends c i) (wrap64 (i + 1)) 0 c c) ?_ 0 (fun k _ => if_neg hn)
      have h1 : word c = true ∧ 0 ≤ i ∧ i < (c.length : Int) := by
        unfold ends at hn
        by_cases hw : word c = true
        · rw [if_pos hw] at hn
          by_cases hr : 0 ≤ i ∧ i < (c.length : Int)
          · exact ⟨hw, hr⟩
          · rw [if_neg hr] at hn; omega
        · rw [if_neg hw] at hn; omega
      obtain ⟨hw, hr0, hr1⟩ := h1
      obtain ⟨j, rfl⟩ : ∃ j : Nat, i = (j : Int) := ⟨i.toNat, by omega⟩
      have hj : j < c.length := by omega
      have he : ends c (j : Int) = endOf (c.map (fun z : S44 => z.f6)) 64 j := by unfold ends; rw [if_pos hw, if_pos ⟨hr0, hr1⟩, Int.toNat_natCast]
      have hk0 : (c.map (fun z : S44 => z.f6)).getD j 0 = (rd_T44 c (j : Int)).f6 := by simp [rd_T44, List.getD, hj]
      have hk : ¬ (c.map (fun z : S44 => z.f6)).getD j 0 < 0 := by
        intro hlt
        rw [he, endOf, if_neg (by rw [List.length_map]; omega), if_pos hlt] at hn
        omega
      have he2 : lpE (endOf (c.map (fun z : S44 => z.f6)) 63) ((c.map (fun z : S44 => z.f6)).getD j 0).toNat (j + 1) = ends c (j : Int) := by
        rw [he, endOf, if_neg (by rw [List.length_map]; omega), if_neg hk]
      have w : wrap64 ((j : Int) + 1) = ((j + 1 : Nat) : Int) := wrap_nat (by omega)
      rw [w]
      exact loop_law (l := c) hW.len hW.fit hW.kid hw hj (by omega) ((c.map (fun z : S44 => z.f6)).getD j 0).toNat 0 (j + 1) (by omega) (Int.le_refl _) (by omega) he2
  obtain ⟨K1, h1⟩ := hE
  obtain ⟨K2, h2⟩ := hs
  obtain ⟨K3, h3⟩ := key
  refine ⟨K1 + K2 + K3, fun k hk => ?_⟩
  have h1 : spec_DrawEnd.f k l = some (c, i) := h1 k (by omega)
  have h2 : spec_End.f k c i = some (ends c i) := h2 k (by omega)
  have h3 := h3 k (by omega)
  show laws_FnEnds.f k l = some true
  unfold laws_FnEnds.f
  rw [if_neg hlen, h1, Option.bind_some, Option.bind_some, h2, Option.bind_some, hm, Option.bind_some, if_pos rfl]
  exact h3
theorem FnEnds : laws_FnEnds.Pure := by
  intro l hl _ hw
  by_cases hlen : (l.length : Int) > 1048576
  · exact ⟨0, by unfold laws_FnEnds.f; rw [if_pos hlen]⟩
  · have hB : Bytes l := ⟨by omega, fun x hx => by have h := hw x hx; simp [Lit.wf, IntKind.min, IntKind.max, IntKind.signed, IntKind.bits] at h; omega⟩
    obtain ⟨K, hK⟩ := law_of (drawEnd_tot hB)
    exact ⟨K, hK K (Nat.le_refl _)⟩
end Go.Proofs.Ytiekodnojmkfaaa.Pure
