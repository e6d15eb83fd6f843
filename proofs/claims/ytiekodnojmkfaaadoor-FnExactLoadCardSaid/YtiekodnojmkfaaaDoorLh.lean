import Derived.Tactics2
import Derived.Deep.DeepCutAuto
import Derived.Deep.CutBlock
import Derived.Shelf.RegionOpenPlain
import Derived.Shelf.Abstract
import Derived.Shelf.RegionOpen
import Derived.WalkKit
import Derived.OwnWalkIn
import Derived.TacticsInMore
import Derived.LoopNIn
import Derived.LoopIn
import Derived.Laws.EntriesVeiled
import Derived.LoopN
import Derived.WalkLawsBesides
import Derived.Test.YtiekodnojmkfaaaDoorLg
namespace Go.Proofs.YtiekodnojmkfaaaDoor.PFnExactLoad
open Go.RowKit Go.Proofs.YtiekodnojmkfaaaDoorW.PrintWords Go.Proofs.YtiekodnojmkfaaaDoorW.PrintLast Go.Proofs.YtiekodnojmkfaaaDoorW.PrintMore
attribute [local go_sem] max2_int min2_int max_two min_two max_three min_three max_four min_four
set_option linter.unusedVariables false
set_option linter.unusedSimpArgs false
theorem rNum_err {s : ByteArray} {lo hi a e : Int} (he : e ≠ 0) : rNum s lo hi a e = (0, a, e) := by unfold rNum; exact if_neg he
theorem rSome_err {α : Type} {F : Int → Int → α × Int × Int} {n : Nat} {a e : Int} (he : e ≠ 0) : rSome F n a e = ([], a, e) := by
  cases n with
  | zero => rfl
  | succ n => rw [rSome, if_neg he]
theorem rOctet_err {s : ByteArray} {m a e : Int} (he : e ≠ 0) : rOctet s m a e = (0, a, e) := by unfold rOctet; exact if_neg he
theorem none_vs {s : ByteArray} (hg : GvOk s) {n3 : Nat} (h3 : n3 ≤ 2000) {a1 e1 : Int} (ha : 0 ≤ a1) (hs : a1 ≤ (s.size : Int)) {m : Nat} {a2 x2 : Int} (hr : rNone s (n3 : Int) a1 e1 = ((m : Int), a2, x2)) :
    ∃ (n : Nat) (e2 : Int), rNum s 0 (n3 : Int) a1 e1 = ((n : Int), a2, e2) ∧ n ≤ 2000 ∧ (if 0 < n ∧ n ≠ n3 then (if e2 = 0 then 4 else e2) else e2) = x2 ∧ ∀ (α : Type) (F : Int → Int → α × Int × Int), rSome F n a2 x2 = rSome F m a2 x2 := by
  unfold rNone at hr
  by_cases he : e1 = 0
  · subst he
    have hgv := (hg a1 ha hs).2
    unfold rNum at hr ⊢
    rw [if_pos rfl] at hr ⊢
    by_cases hok : (gv s a1).2.2 = true
    · obtain ⟨g0, g1, _, _⟩ := hgv hok
      rw [if_pos hok] at hr ⊢
      rw [if_neg (show ¬ ((gv s a1).1 < 0 ∨ 16777215 < (gv s a1).1) by omega)] at hr
      dsimp only at hr
      by_cases hn : (gv s a1).1 ≠ 0 ∧ (gv s a1).1 ≠ (n3 : Int)
      · rw [if_pos hn, if_pos rfl] at hr
        obtain ⟨h1, h2, h4⟩ := pr3 hr
        subst h2
        subst h4
        by_cases hb : (gv s a1).1 < 0 ∨ (n3 : Int) < (gv s a1).1
        · rw [if_pos hb]
          exact ⟨0, 4, rfl, by omega, by rw [if_neg (fun h => absurd h.1 (Nat.lt_irrefl 0))], fun α F => by rw [rSome_err (by decide), rSome_err (by decide)]⟩
        · rw [if_neg hb]
          exact ⟨(gv s a1).1.toNat, 0, by rw [Int.toNat_of_nonneg g0], by omega, by rw [if_pos ⟨by omega, by omega⟩, if_pos rfl], fun α F => by rw [rSome_err (by decide), rSome_err (by decide)]⟩
      · rw [if_neg hn] at hr
        obtain ⟨h1, h2, h4⟩ := pr3 hr
        subst h2
        subst h4
        rw [if_neg (show ¬ ((gv s a1).1 < 0 ∨ (n3 : Int) < (gv s a1).1) by omega)]
        exact ⟨m, 0, by rw [h1], by omega, by rw [if_neg (by omega)], fun α F => rfl⟩
    · rw [if_neg hok] at hr ⊢
      dsimp only at hr
      rw [if_neg (fun h => absurd rfl h.1)] at hr
      obtain ⟨h1, h2, h4⟩ := pr3 hr
      subst h2
      subst h4
      exact ⟨0, _, rfl, by omega, by rw [if_neg (fun h => absurd h.1 (Nat.lt_irrefl 0))], fun α F => by rw [show m = 0 by omega]⟩
  · rw [rNum_err he] at hr ⊢
    dsimp only at hr
    rw [if_neg (fun h => absurd rfl h.1)] at hr
    obtain ⟨h1, h2, h4⟩ := pr3 hr
    subst h2
    subst h4
    exact ⟨0, _, rfl, by omega, by rw [if_neg (fun h => absurd h.1 (Nat.lt_irrefl 0))], fun α F => by rw [show m = 0 by omega]⟩
theorem sdebug_of {s : ByteArray} (hg : GvOk s) {l3 : List Int} {l5 : List S67} {a e : Int} {f7 : ByteArray} {l8 : List Int} {l9 : List ByteArray} {a1 e1 : Int} {n : Nat} {a2 e2 a3 e3 : Int} {m : Nat} {a4 e4 a5 e5 : Int} (ha : 0 ≤ a) (hs : a ≤ (s.size : Int)) (h3 : l3.length ≤ 2000) (h5 : l5.length ≤ 2000)
    (h : DebugAt s l3 l5 a e f7 l8 l9 a1 e1 n a2 e2 a3 e3 m a4 e4 a5 e5) : ∃ n' e2' m' e4', SDebug s l3.length l5.length a e f7 l8 l9 a1 e1 n' a2 e2' e2 a3 e3 m' a4 e4' e4 a5 e5 := by
  have b1 := Int.le_trans ha h.d1.2.1
  have b2 := Int.le_trans b1 h.d2.2.1
  have b3 := Int.le_trans b2 h.d3.2.1
  have b4 := Int.le_trans b3 h.d4.2.1
  have b5 := Int.le_trans b4 h.d5.2.1
  obtain ⟨n', e2', k1, k2, k3, k4⟩ := none_vs hg h3 b1 h.d1.2.2 h.d2.1
  obtain ⟨m', e4', j1, j2, j3, j4⟩ := none_vs hg h5 b3 h.d3.2.2 h.d4.1
  exact ⟨n', e2', m', e4', ⟨ha, hs⟩, ⟨h.d1.1, b1, h.d1.2.2⟩, ⟨k1, b2, h.d2.2.2.1, k2⟩, k3, ⟨(k4 _ _).trans h.d3.1, b3, h.d3.2.2⟩, ⟨j1, b4, h.d4.2.2.1, j2⟩, j3, ⟨(j4 _ _).trans h.d5.1, b5, h.d5.2.2⟩⟩
theorem max1 (f : Int) : max 1 f = if 1 < f then f else 1 := by
  split <;> omega
theorem sproto_of {k : Nat} {s : ByteArray} {kids a e : Int} {p : S38} {a' e' : Int} (hg : GvOk s) (hk : 0 ≤ kids) (ha : 0 ≤ a) (hs : a ≤ (s.size : Int)) (hr : rProto k s kids a e = (p, a', e')) :
    ∃ p2 f0 f2 l3 l4 l5 f6 v a11 e11 v1 a1 e1 a2 e2 a3 e3 n4 a4 e4 a5 e5 n6 a6 e6 a7 e7 n8 a8 e8 a9 e9 a10 e10, SHead k s kids a e f0 f2 l3 l4 l5 f6 v a11 e11 v1 a1 e1 a2 e2 a3 e3 n4 a4 e4 a5 e5 n6 a6 e6 a7 e7 n8 a8 e8 a9 e9 a10 e10 ∧ SEnd s l3 l4 l5 f0 (v1 == 1) f2 f6 v a11 e11 p2 a' e' ∧ (e' = 0 → p2 = p) := by
  unfold rProto at hr
  obtain ⟨q, v, a11, e11, hq⟩ : ∃ q v a11 e11, rHead k s kids a e = (q, v, a11, e11) := ⟨_, _, _, _, rfl⟩
  rw [hq] at hr
  dsimp only at hr
  obtain ⟨q7, q8, q9, v1, a1, e1, a2, e2, a3, e3, n4, a4, e4, a5, e5, n6, a6, e6, a7, e7, n8, a8, e8, a9, e9, a10, e10, hA⟩ := head_at hg hk ha hs hq
  obtain ⟨w1, w2, w3⟩ := sWords_eq s n4 a4 e4
  obtain ⟨L3, hL3⟩ : ∃ L, (sWords s n4 a4 e4).1 = L := ⟨_, rfl⟩
  rw [hA.h5.1] at w1 w2
  have hw : sWords s n4 a4 e4 = (L3, a5, e5) := by rw [← hL3]; exact Prod.ext rfl w1
  have c1 := Int.le_trans ha hA.h1.2.1
  have c2 := Int.le_trans c1 hA.h2.2.1
  have c3 := Int.le_trans c2 hA.h3.2.1
  have c4 := Int.le_trans c3 hA.h4.2.1
  have c5 := Int.le_trans c4 hA.h5.2.1
  have c6 := Int.le_trans c5 hA.h6.2.1
  have c7 := Int.le_trans c6 hA.h7.2.1
  have c8 := Int.le_trans c7 hA.h8.2.1
  have c9 := Int.le_trans c8 hA.h9.2.1
  have c10 := Int.le_trans c9 hA.h10.2.1
  have c11 := Int.le_trans c10 hA.h11.2.1
  have hhead : SHead k s kids a e q.f0 q.f2 L3 q.f4 q.f5 q.f6 v a11 e11 v1 a1 e1 a2 e2 a3 e3 n4 a4 e4 a5 e5 n6 a6 e6 a7 e7 n8 a8 e8 a9 e9 a10 e10 :=
    ⟨⟨ha, hs⟩, ⟨hA.h1.1, c1, hA.h1.2.2⟩, ⟨hA.h2.1, c2, hA.h2.2.2.1⟩, ⟨by rw [← max1]; exact hA.h3.1, c3, hA.h3.2.2⟩, ⟨hA.h4.1, c4, hA.h4.2.2.1, hA.h4.2.2.2⟩, ⟨hw, c5, hA.h5.2.2.1⟩, ⟨hA.h6.1, c6, hA.h6.2.2.1, hA.h6.2.2.2⟩, ⟨hA.h7.1, c7, hA.h7.2.2⟩, ⟨hA.h8.1, c8, hA.h8.2.2.1, hA.h8.2.2.2⟩, ⟨hA.h9.1, c9, hA.h9.2.2.1⟩, ⟨hA.h10.1, c10, hA.h10.2.2⟩, ⟨hA.h11.1, c11, hA.h11.2.2.1⟩⟩
  have herr : e5 ≠ 0 → v = 0 ∧ e11 = e5 := fun h5 => by
    have g6 := hA.h6.1
    rw [rNum_err h5] at g6
    obtain ⟨_, _, g6⟩ := pr3 g6
    have g7 := hA.h7.1
    rw [rSome_err (by rw [← g6]; exact h5)] at g7
    obtain ⟨_, _, g7⟩ := pr3 g7
    have g8 := hA.h8.1
    rw [rNum_err (by rw [← g7, ← g6]; exact h5)] at g8
    obtain ⟨_, _, g8⟩ := pr3 g8
    have g9 := hA.h9.1
    rw [rSome_err (by rw [← g8, ← g7, ← g6]; exact h5)] at g9
    obtain ⟨_, _, g9⟩ := pr3 g9
    have g10 := hA.h10.1
    rw [rNum_err (by rw [← g9, ← g8, ← g7, ← g6]; exact h5)] at g10
    obtain ⟨_, _, g10⟩ := pr3 g10
    have g11 := hA.h11.1
    rw [rOctet_err (by rw [← g10, ← g9, ← g8, ← g7, ← g6]; exact h5)] at g11
    obtain ⟨gv, _, g11⟩ := pr3 g11
    exact ⟨gv.symm, by rw [← g11, ← g10, ← g9, ← g8, ← g7, ← g6]⟩
  have hlen : L3.length ≤ 2000 ∧ q.f5.length ≤ 2000 := ⟨by rw [hL3] at w3; have := hA.h4.2.2.2; omega, hA.h9.2.2.2⟩
  have hl3 : e5 = 0 → L3 = q.f3 := fun h => by
    have := w2 h
    rw [hw] at this
    exact (pr3 this).1
  by_cases hv : v = 1
  · rw [if_pos hv] at hr
    have h5 : e5 = 0 := Classical.byContradiction fun h => by have := (herr h).1; omega
    have hL := hl3 h5
    obtain ⟨f7, l8, l9, a12, e12, n13, a13, e13, a14, e14, n15, a15, e15, e16, hD, hp, he⟩ := debug_at hg c11 hA.h11.2.2.1 hA.h5.2.2.2 hA.h9.2.2.2 hr
    obtain ⟨n', e2', m', e4', hS⟩ := sdebug_of hg c11 hA.h11.2.2.1 hA.h5.2.2.2 hA.h9.2.2.2 hD
    refine ⟨p, _, _, _, _, _, _, _, _, _, _, _, _, _, _, _, _, _, _, _, _, _, _, _, _, _, _, _, _, _, _, _, _, _, hhead, ⟨hlen, fun h => absurd hv h, fun _ => ⟨f7, l8, l9, a12, e12, n', a13, e2', e13, a14, e14, m', a15, e4', e15, e16, ?_, he.symm, ?_⟩⟩, fun _ => rfl⟩
    · rw [hL]; exact hS
    · rw [hp, hL, hA.g1]
  · rw [if_neg hv] at hr
    obtain ⟨g1, g2, g3⟩ := pr3 hr
    refine ⟨⟨q.f0, v1 == 1, q.f2, L3, q.f4, q.f5, q.f6, ⟨#[]⟩, [], []⟩, _, _, _, _, _, _, _, _, _, _, _, _, _, _, _, _, _, _, _, _, _, _, _, _, _, _, _, _, _, _, _, _, _, hhead, ⟨hlen, fun _ => ⟨rfl, g2.symm, g3.symm⟩, fun h => absurd h hv⟩, fun h => ?_⟩
    have h5 : e5 = 0 := Classical.byContradiction fun h5 => by have := (herr h5).2; omega
    rw [hl3 h5, ← hA.g1, ← q7, ← q8, ← q9]
    exact g1
theorem spProto {k : Nat} {s : ByteArray} (hk : SpOk k s) (hg : GvOk s) (hz : s.size ≤ 140737488351232) {kids a e : Int} {p : S38} {a' e' : Int} (w : World) (hkd : 0 ≤ kids) (ha : 0 ≤ a) (hs : a ≤ (s.size : Int)) (hr : rProto k s kids a e = (p, a', e')) :
    Calls Tryd.prog 9 #[.agg #[.string s, .int .i64 a, .int .i64 e], .int .i64 kids] w fun r w' =>
      ∃ p2 : S38, (e' = 0 → p2 = p) ∧ ∃ v3 v4 v5 v8 v9, r = .returned (.tuple #[.agg #[.int .i64 p2.f0, .bool p2.f1, .int .i64 p2.f2, v3, v4, v5, .int .i64 p2.f6, .string p2.f7, v8, v9], .agg #[.string s, .int .i64 a', .int .i64 e']]) ∧ (Kd.int .u32).R 61 w' w.heap.size (fun _ => True) v3 p2.f3 ∧ k63.R 63 w' w.heap.size (fun _ => True) v4 p2.f4 ∧ k67.R 67 w' w.heap.size (fun _ => True) v5 p2.f5 ∧ (Kd.int .i64).R 3 w' w.heap.size (fun _ => True) v8 p2.f8 ∧ Kd.string.R 9 w' w.heap.size (fun _ => True) v9 p2.f9 ∧ Below w.heap.size w w' := by
  obtain ⟨p2, f0, f2, l3, l4, l5, f6, v, a11, e11, v1, a1, e1, a2, e2, a3, e3, n4, a4, e4, a5, e5, n6, a6, e6, a7, e7, n8, a8, e8, a9, e9, a10, e10, hH, hE, hp⟩ := sproto_of hg hkd ha hs hr
  exact (spProto0 hk hg hz kids a e f0 f2 l3 l4 l5 f6 v a11 e11 v1 a1 e1 a2 e2 a3 e3 n4 a4 e4 a5 e5 n6 a6 e6 a7 e7 n8 a8 e8 a9 e9 a10 e10 w hH p2 a' e' hE).mono fun r w' h => ⟨p2, hp, h⟩
def upT : Nat → List Int → List Int
  | 0, l => l
  | n + 1, l => if 0 < l.length then (if 0 < rd l ((l.length : Int) - 1) - 1 then l.take (l.length - 1) ++ [rd l ((l.length : Int) - 1) - 1] else upT n (l.take (l.length - 1))) else l
def Big (l : List Int) : Prop := ∀ x ∈ l, 1 ≤ x ∧ x ≤ 200
theorem big_take {l : List Int} (h : Big l) (n : Nat) : Big (l.take n) := fun x hx => h x (List.mem_of_mem_take hx)
theorem rd_map {l : List Int} {i : Int} (h0 : 0 ≤ i) (h1 : i < l.length) : rd (l.map (· - 1)) i = rd l i - 1 := by
  have hi : i.toNat < l.length := by omega
  simp [rd, List.getD, hi]
theorem upT_big : ∀ (n : Nat) (l : List Int), Big l → Big (upT n l)
  | 0, l, h => h
  | n + 1, l, h => by
    rw [upT]
    split
    · split
      · intro x hx
        rcases List.mem_append.1 hx with hx | hx
        · exact big_take h _ x hx
        · have hm := h _ (rd_mem (l := l) (i := (l.length : Int) - 1) (by omega) (by omega))
          rw [List.mem_singleton.1 hx]
          omega
      · exact upT_big n _ (big_take h _)
    · exact h
theorem upd_step {l : List Int} (h : 0 < l.length) (hz : rd l ((l.length : Int) - 1) = 0) : upd (l.take (l.length - 1)) = upd l := by
  unfold upd
  rw [popZ_step h hz]
theorem set_last {l : List Int} (h : 0 < l.length) (x : Int) : l.set (l.length - 1) x = l.take (l.length - 1) ++ [x] := by
  refine List.ext_getElem? fun j => ?_
  rw [List.getElem?_set]
  by_cases hj : l.length - 1 = j
  · subst hj
    rw [if_pos rfl, if_pos (by omega), List.getElem?_append_right (by simp)]
    simp [Nat.min_eq_left (show l.length - 1 ≤ l.length by omega)]
  · rw [if_neg hj]
    by_cases hj2 : j < l.length - 1
    · rw [List.getElem?_append_left (by simp; omega), List.getElem?_take, if_pos hj2]
    · rw [List.getElem?_eq_none (by omega), List.getElem?_eq_none (by simp; omega)]
theorem upd_stop {l : List Int} (h : 0 < l.length) (hz : rd l ((l.length : Int) - 1) ≠ 0) : upd l = l.take (l.length - 1) ++ [rd l ((l.length : Int) - 1) - 1] := by
  unfold upd
  rw [popZ_stop (fun hh => hz hh.2), if_pos h, set_last h]
theorem upT_upd : ∀ (n : Nat) (l : List Int), l.length ≤ n → Big l → (upT n l).map (· - 1) = upd (l.map (· - 1))
  | 0, l, h, _ => by
    obtain rfl : l = [] := List.eq_nil_of_length_eq_zero (by omega)
    rfl
  | n + 1, l, h, hb => by
    rw [upT]
    by_cases hl : 0 < l.length
    · rw [if_pos hl]
      have hm : 0 < (l.map (· - 1)).length := by rw [List.length_map]; exact hl
      have hr := rd_map (l := l) (i := (l.length : Int) - 1) (by omega) (by omega)
      have hx := hb _ (rd_mem (l := l) (i := (l.length : Int) - 1) (by omega) (by omega))
      by_cases h1 : 0 < rd l ((l.length : Int) - 1) - 1
      · rw [if_pos h1, upd_stop hm (by rw [List.length_map, hr]; omega), List.length_map, hr]
        simp [List.map_take]
      · rw [if_neg h1, upT_upd n _ (by simp; omega) (big_take hb _), ← upd_step hm (by rw [List.length_map, hr]; omega), List.length_map]
        simp [List.map_take]
    · rw [if_neg hl]
      obtain rfl : l = [] := List.eq_nil_of_length_eq_zero (by omega)
      rfl
theorem upd_zero (l : List Int) : upd (l ++ [0]) = upd l := by
  have h := upd_step (l := l ++ [0]) (by simp) (by
    have : ((l ++ [0]).length : Int) - 1 = (l.length : Int) := by simp
    rw [this]
    simp [rd, List.getD])
  rw [← h]
  simp
theorem upd_more {l : List Int} {x : Int} (hx : 0 < x) : upd (l ++ [x]) = l ++ [x - 1] := by
  have e : ((l ++ [x]).length : Int) - 1 = (l.length : Int) := by simp
  have hr : rd (l ++ [x]) (((l ++ [x]).length : Int) - 1) = x := by
    rw [e]
    simp [rd, List.getD]
  rw [upd_stop (by simp) (by rw [hr]; omega), hr]
  simp
theorem l3Up_eq : ∀ (n : Nat) (l : List Int), l.length < n → l.length ≤ 1000 → Big l → spec_l3Up.l0 n l = some (upT n l)
  | 0, l, h, _, _ => by omega
  | n + 1, l, h, hc, hb => by
    rw [spec_l3Up.l0, upT]
    by_cases hl : 0 < l.length
    · have hx := hb _ (rd_mem (l := l) (i := (l.length : Int) - 1) (by omega) (by omega))
      have hw : wrap64 ((l.length : Int) - 1) = (l.length : Int) - 1 := by unfold wrap64; omega
      have hw2 : wrap64 (rd l ((l.length : Int) - 1) - 1) = rd l ((l.length : Int) - 1) - 1 := by unfold wrap64; omega
      have ht : ((l.length : Int) - 1).toNat = l.length - 1 := by omega
      rw [if_pos hl, if_pos (show (l.length : Int) > 0 by omega), hw, if_pos (by omega), if_pos (by omega), if_pos (by omega), hw2, ht]
      dsimp only [Option.bind]
      by_cases h1 : 0 < rd l ((l.length : Int) - 1) - 1
      · rw [if_pos h1, if_pos h1, if_pos (by simp; omega)]
      · rw [if_neg h1, if_neg h1]
        exact l3Up_eq n _ (by simp; omega) (by simp; omega) (big_take hb _)
    · rw [if_neg hl, if_neg (by omega)]
theorem below_new {w : World} (o : Obj) : Below w.heap.size w (w.alloc o) := (Below.refl _ _).alloc (Nat.le_refl _) _
structure LS (s : ByteArray) (w : World) (v5 v6 : Value) (ps : List S38) (a e : Int) (left : List Int) (W : World) : Prop where
  bel : Below w.heap.size w W
  rb : W.heap[w.heap.size]? = some (.cells #[.slice none 0 0] 24 (0, 0))
  rd : W.heap[w.heap.size + 1]? = some (.cells #[.string s, .int .i64 a, .int .i64 e] 31 (0, 0))
  cb : W.heap[w.heap.size + 1 + 1]? = some (.cells #[v5] 24 (0, 0))
  r5 : Kd.S k38 38 W (w.heap.size + 3) (fun k => some k ≠ v6.ownBlock) v5 ps
  r6 : (Kd.int .i64).R 3 W w.heap.size (fun k => w.heap.size + 3 ≤ k) v6 left
theorem LS.size3 {s : ByteArray} {w W : World} {v5 v6 : Value} {ps : List S38} {a e : Int} {left : List Int} (h : LS s w v5 v6 ps a e left W) : w.heap.size + 3 ≤ W.heap.size := blk_lt h.cb
theorem LS.below {s : ByteArray} {w W W1 : World} {v5 v6 : Value} {ps : List S38} {a e : Int} {left : List Int} (h : LS s w v5 v6 ps a e left W) (hb : Below W.heap.size W W1) : LS s w v5 v6 ps a e left W1 :=
  ⟨h.bel.trans (hb.mono h.bel.size), (hb.block _ (blk_lt h.rb)).trans h.rb, (hb.block _ (blk_lt h.rd)).trans h.rd, (hb.block _ (blk_lt h.cb)).trans h.cb, Kd.S_below h.r5 hb, Kd.R_below h.r6 hb⟩
theorem LS.set {s : ByteArray} {w W : World} {v5 v6 : Value} {ps : List S38} {a e a' e' : Int} {left : List Int} (h : LS s w v5 v6 ps a e left W) (j : Nat) (u : Value) (hs : (W.setCell ⟨w.heap.size + 1, j, none⟩ u).heap[w.heap.size + 1]? = some (.cells #[.string s, .int .i64 a', .int .i64 e'] 31 (0, 0))) : LS s w v5 v6 ps a' e' left (W.setCell ⟨w.heap.size + 1, j, none⟩ u) :=
  ⟨h.bel.setCell (p := ⟨w.heap.size + 1, j, none⟩) (show w.heap.size ≤ w.heap.size + 1 by omega) _, (Below.heap_setCell W ⟨w.heap.size + 1, j, none⟩ _ _ (show w.heap.size ≠ w.heap.size + 1 by omega)).trans h.rb, hs, (Below.heap_setCell W ⟨w.heap.size + 1, j, none⟩ _ _ (show w.heap.size + 1 + 1 ≠ w.heap.size + 1 by omega)).trans h.cb,
    Kd.S_mono (Kd.S_step (Kd.S_bound h.r5) (fun k hk _ => Below.heap_setCell W ⟨w.heap.size + 1, j, none⟩ _ k (show k ≠ w.heap.size + 1 by have := hk.2.1; omega))) (fun k hk => hk.1),
    Kd.R_step h.r6 (fun k hk _ => Below.heap_setCell W ⟨w.heap.size + 1, j, none⟩ _ k (show k ≠ w.heap.size + 1 by omega))⟩
theorem LS.rd3 {s : ByteArray} {w W : World} {v5 v6 : Value} {ps : List S38} {a e : Int} {left : List Int} (h : LS s w v5 v6 ps a e left W) (a' e' : Int) : LS s w v5 v6 ps a' e' left (((W.setCell ⟨w.heap.size + 1, 0, none⟩ (.string s)).setCell ⟨w.heap.size + 1, 1, none⟩ (.int .i64 a')).setCell ⟨w.heap.size + 1, 2, none⟩ (.int .i64 e')) := by
  have h1 := h.set (a' := a) (e' := e) 0 (.string s) ((blk_set h.rd 0 _).trans rfl)
  have h2 := h1.set (a' := a') (e' := e) 1 (.int .i64 a') ((blk_set h1.rd 1 _).trans rfl)
  exact h2.set (a' := a') (e' := e') 2 (.int .i64 e') ((blk_set h2.rd 2 _).trans rfl)
theorem LS.cells {s : ByteArray} {w W : World} {v5 v6 : Value} {ps : List S38} {a e : Int} {left : List Int} (h : LS s w v5 v6 ps a e left W) : W.cell? ⟨w.heap.size + 1, 0, none⟩ = some (.string s) ∧ W.cell? ⟨w.heap.size + 1, 1, none⟩ = some (.int .i64 a) ∧ W.cell? ⟨w.heap.size + 1, 2, none⟩ = some (.int .i64 e) ∧ W.frozen? ⟨w.heap.size + 1, 0, none⟩ = false ∧ W.frozen? ⟨w.heap.size + 1, 1, none⟩ = false ∧ W.frozen? ⟨w.heap.size + 1, 2, none⟩ = false ∧ W.cell? ⟨w.heap.size + 1 + 1, 0, none⟩ = some v5 ∧ W.frozen? ⟨w.heap.size + 1 + 1, 0, none⟩ = false ∧ W.cell? ⟨w.heap.size, 0, none⟩ = some (.slice none 0 0) ∧ W.frozen? ⟨w.heap.size, 0, none⟩ = false ∧ w.heap.size + 1 + 1 < W.heap.size :=
  ⟨(blk_cell h.rd 0).trans rfl, (blk_cell h.rd 1).trans rfl, (blk_cell h.rd 2).trans rfl, blk_frozen h.rd 0, blk_frozen h.rd 1, blk_frozen h.rd 2, (blk_cell h.cb 0).trans rfl, blk_frozen h.cb 0, (blk_cell h.rb 0).trans rfl, blk_frozen h.rb 0, blk_lt h.cb⟩
structure LN (k : Nat) (s : ByteArray) (T : List S38 × Int × Int) (n : Nat) (ps : List S38) (a e wanted : Int) (left : List Int) : Prop where
  lp : LP k s T n ps a e wanted (left.map (· - 1))
  big : Big left
  e0 : e = 0
theorem LN.next {k : Nat} {s : ByteArray} {T : List S38 × Int × Int} {n : Nat} {ps : List S38} {a wanted : Int} {left : List Int} (hg : GvOk s) (h : LN k s T (n + 1) ps a 0 wanted left) (hw : (ps.length : Int) < wanted) {kids : Int} (hkd : (if 63 ≤ left.length then 0 else 200 - wanted) = kids) {p : S38} {a' : Int} (hr : rProto k s kids a 0 = (p, a', 0)) :
    0 ≤ p.f6 ∧ p.f6 ≤ 200 ∧ (0 < p.f6 → LN k s T n (ps ++ [p]) a' 0 (wanted + p.f6) (left ++ [p.f6])) ∧ (p.f6 = 0 → LN k s T n (ps ++ [p]) a' 0 (wanted + p.f6) (upT (left.length + 1) left)) := by
  obtain ⟨hL, h0, h1⟩ := h.lp.next hg hw (by rw [List.length_map]; exact hkd) hr
  refine ⟨h0, h1, fun hp => ⟨?_, ?_, rfl⟩, fun hp => ⟨?_, upT_big _ _ h.big, rfl⟩⟩
  · rw [upd_more hp] at hL
    rwa [List.map_append, List.map_singleton]
  · intro x hx
    rcases List.mem_append.1 hx with hx | hx
    · exact h.big x hx
    · rw [List.mem_singleton.1 hx]
      omega
  · rw [hp, upd_zero] at hL
    rw [hp, upT_upd _ _ (Nat.le_succ _) h.big]
    exact hL
theorem LN.fail {k : Nat} {s : ByteArray} {T : List S38 × Int × Int} {n : Nat} {ps : List S38} {a wanted : Int} {left : List Int} (h : LN k s T (n + 1) ps a 0 wanted left) (hw : (ps.length : Int) < wanted) {kids : Int} (hkd : (if 63 ≤ left.length then 0 else 200 - wanted) = kids) {p : S38} {a' e' : Int} (hr : rProto k s kids a 0 = (p, a', e')) (he : ¬ e' = 0) : T.2.2 = e' := by
  have hrun := h.lp.run
  rw [rLoop, if_pos ⟨hw, rfl⟩, List.length_map, hkd, hr] at hrun
  rw [← hrun]
  cases n with
  | zero => rfl
  | succ n =>
    rw [rLoop, if_neg (fun h => he h.2)]
theorem LS.start {s : ByteArray} {w : World} : LS s w (.slice none 0 0) (.slice (some ⟨w.heap.size + 1 + 1 + 1, 0, none⟩) 0 0) [] 6 0 [] ((((w.alloc (.cells #[.slice none 0 0] 24 (0, 0))).alloc (.cells #[.string s, .int .i64 6, .int .i64 0] 31 (0, 0))).alloc (.cells #[.slice none 0 0] 24 (0, 0))).alloc (.cells #[] 3 (0, 0))) := by
  have b1 := blk_new w (.cells #[.slice none 0 0] 24 (0, 0))
  have h1 : Below w.heap.size w (w.alloc (.cells #[.slice none 0 0] 24 (0, 0))) := below_alloc (Below.refl _ _) _
  have s1 : (w.alloc (.cells #[.slice none 0 0] 24 (0, 0))).heap.size = w.heap.size + 1 := World.size_alloc _ _
  generalize w.alloc (.cells #[.slice none 0 0] 24 (0, 0)) = W1 at *
  have b2 := blk_new W1 (.cells #[.string s, .int .i64 6, .int .i64 0] 31 (0, 0))
  rw [s1] at b2
  have h2 := below_alloc h1 (.cells #[.string s, .int .i64 6, .int .i64 0] 31 (0, 0))
  have c1 := blk_alloc b1 (.cells #[.string s, .int .i64 6, .int .i64 0] 31 (0, 0))
  have s2 : (W1.alloc (.cells #[.string s, .int .i64 6, .int .i64 0] 31 (0, 0))).heap.size = w.heap.size + 1 + 1 := by rw [World.size_alloc, s1]
  generalize W1.alloc (.cells #[.string s, .int .i64 6, .int .i64 0] 31 (0, 0)) = W2 at *
  have b3 := blk_new W2 (.cells #[.slice none 0 0] 24 (0, 0))
  rw [s2] at b3
  have h3 := below_alloc h2 (.cells #[.slice none 0 0] 24 (0, 0))
  have d1 := blk_alloc c1 (.cells #[.slice none 0 0] 24 (0, 0))
  have d2 := blk_alloc b2 (.cells #[.slice none 0 0] 24 (0, 0))
  have s3 : (W2.alloc (.cells #[.slice none 0 0] 24 (0, 0))).heap.size = w.heap.size + 1 + 1 + 1 := by rw [World.size_alloc, s2]
  generalize W2.alloc (.cells #[.slice none 0 0] 24 (0, 0)) = W3 at *
  refine ⟨below_alloc h3 _, blk_alloc d1 _, blk_alloc d2 _, blk_alloc b3 _, Kd.S_nil _ _ _ _ _, ?_⟩
  have ho := own_lit_of (enc := Value.int .i64) W3 w.heap.size 3 [] (by omega) (by decide)
  rw [s3] at ho
  exact Kd.R_of_own ho (fun k hk => by
    have : w.heap.size + 1 + 1 + 1 = k := by simpa [Value.ownBlock] using hk
    omega)
theorem LS.appended {s : ByteArray} {w W w3 : World} {v5 v5' v6 : Value} {ps : List S38} {p : S38} {a e : Int} {left : List Int} {pb : Nat} {ob : Obj}
    (h : LS s w v5 v6 ps a e left W) (hg : W.grownBy w3 v5.ownBlock) (hS : Kd.S k38 38 w3 (w.heap.size + 3) (fun k => some k ≠ v6.ownBlock) v5' (ps ++ [p])) (hpb : W.heap[pb]? = some ob) (hpl : some pb ≠ v5.ownBlock) :
    LS s w v5' v6 (ps ++ [p]) a e left (w3.setCell ⟨w.heap.size + 1 + 1, 0, none⟩ v5') ∧ w3.cell? ⟨w.heap.size + 1 + 1, 0, none⟩ = some v5 ∧ w3.frozen? ⟨w.heap.size + 1 + 1, 0, none⟩ = false ∧ w3.heap[pb]? = some ob := by
  have hba := Kd.S_base h.r5
  have k1 : ∀ g t cs, W.heap[g]? = some (.cells cs t (0, 0)) → g < w.heap.size + 3 → w3.heap[g]? = some (.cells cs t (0, 0)) := fun g t cs hq hgl => (hg.block g (blk_lt hq) (fun he => by have := hba g he.symm; omega)).trans hq
  have c3 := k1 _ _ _ h.cb (by omega)
  refine ⟨⟨?_, ?_, ?_, ?_, ?_, ?_⟩, (blk_cell c3 0).trans rfl, blk_frozen c3 0, (hg.block pb (blk_lt hpb) hpl).trans hpb⟩
  · have hbel : Below w.heap.size W w3 := ⟨hg.os, hg.tape, hg.output, hg.size, fun k hk => hg.block k (by have := h.bel.size; omega) (fun he => by have := hba k he.symm; omega)⟩
    exact (h.bel.trans hbel).setCell (p := ⟨w.heap.size + 1 + 1, 0, none⟩) (show w.heap.size ≤ w.heap.size + 1 + 1 by omega) _
  · exact (Below.heap_setCell w3 ⟨w.heap.size + 1 + 1, 0, none⟩ _ _ (show w.heap.size ≠ w.heap.size + 1 + 1 by omega)).trans (k1 _ _ _ h.rb (by omega))
  · exact (Below.heap_setCell w3 ⟨w.heap.size + 1 + 1, 0, none⟩ _ _ (show w.heap.size + 1 ≠ w.heap.size + 1 + 1 by omega)).trans (k1 _ _ _ h.rd (by omega))
  · exact (blk_set c3 0 _).trans rfl
  · exact Kd.S_mono (Kd.S_step (Kd.S_bound hS) (fun k hk _ => Below.heap_setCell w3 ⟨w.heap.size + 1 + 1, 0, none⟩ _ k (show k ≠ w.heap.size + 1 + 1 by have := hk.2.1; omega))) (fun k hk => hk.1)
  · refine Kd.R_step (Kd.R_grown2 h.r6 rfl hg (fun k hk he => ?_)) (fun k hk _ => Below.heap_setCell w3 ⟨w.heap.size + 1 + 1, 0, none⟩ _ k (show k ≠ w.heap.size + 1 + 1 by omega))
    obtain ⟨cs, hcs⟩ := Kd.S_typed h.r5 k hk
    exact Kd.R_ne h.r6 hcs (by decide) he
theorem LS.pushed {s : ByteArray} {w W w5 : World} {v5 v6 v6' : Value} {ps : List S38} {a e : Int} {left left' : List Int} (h : LS s w v5 v6 ps a e left W) (hg : W.grownBy w5 v6.ownBlock) (hR : (Kd.int .i64).R 3 w5 w.heap.size (fun k => w.heap.size + 3 ≤ k) v6' left') (hat : v6'.ownBlock = v6.ownBlock ∨ ∃ b, v6'.ownBlock = some b ∧ W.heap.size ≤ b) :
    LS s w v5 v6' ps a e left' w5 := by
  have hba := h.r6.1
  have k1 : ∀ g t cs, W.heap[g]? = some (.cells cs t (0, 0)) → g < w.heap.size + 3 → w5.heap[g]? = some (.cells cs t (0, 0)) := fun g t cs hq hgl => (hg.block g (blk_lt hq) (fun he => by have := hba g he.symm; omega)).trans hq
  refine ⟨?_, k1 _ _ _ h.rb (by omega), k1 _ _ _ h.rd (by omega), k1 _ _ _ h.cb (by omega), ?_, hR⟩
  · exact h.bel.trans ⟨hg.os, hg.tape, hg.output, hg.size, fun k hk => hg.block k (by have := h.bel.size; omega) (fun he => by have := hba k he.symm; omega)⟩
  · exact Kd.S_mono (Kd.S_after (ok := fun _ => True) (Kd.S_mono h.r5 (fun k hk => ⟨trivial, hk⟩)) hg hat) (fun k hk => hk.2)
theorem LS.upped {s : ByteArray} {w W w5 : World} {v5 v6 v6' : Value} {ps : List S38} {a e : Int} {left left' : List Int} (h : LS s w v5 v6 ps a e left W) (hb : Below w.heap.size w w5) (hk : Kept W w5 (fun k => v6.ownBlock = some k)) (hR : (Kd.int .i64).R 3 w5 w.heap.size (fun k => v6.ownBlock = some k ∨ W.heap.size ≤ k) v6' left') :
    LS s w v5 v6' ps a e left' w5 := by
  have hba := h.r6.1
  have h3 := h.size3
  have k1 : ∀ g t cs, W.heap[g]? = some (.cells cs t (0, 0)) → g < w.heap.size + 3 → w5.heap[g]? = some (.cells cs t (0, 0)) := fun g t cs hq hgl => (hk.2 g (blk_lt hq) (fun he => by have := hba g he; omega)).trans hq
  refine ⟨hb, k1 _ _ _ h.rb (by omega), k1 _ _ _ h.rd (by omega), k1 _ _ _ h.cb (by omega), ?_, Kd.R_mono hR (fun k hk' => hk'.elim (fun h1 => hba k h1) (fun h1 => by omega))⟩
  refine Kd.S_mono (Kd.S_keptB h.r5 hk (fun k ho he => ho he.symm)) (fun k hk' he => ?_)
  rcases hR.1 k he.symm with h1 | h1
  · exact hk'.1 h1.symm
  · have := hk'.2.2
    omega
theorem LS.own {s : ByteArray} {w W : World} {v5 v6 : Value} {ps : List S38} {a e : Int} {left : List Int} (h : LS s w v5 v6 ps a e left W) : (Kd.int .i64).R 3 W w.heap.size (fun k => v6.ownBlock = some k) v6 left := Kd.R_of_own (int_inner h.r6) (fun _ hk => hk)
theorem row_at {α : Type} {d : Kd α} {q N base g : Nat} {w1 : World} {u0 u1 u2 : Value} {o1 o2 : Obj} {v : Value} {xs : List α} (h : d.R q w1 N (fun _ => True) v xs) (hN : base ≤ N) (hg : g < N) : d.R q (((((w1.setCell ⟨g, 0, none⟩ u0).setCell ⟨g, 1, none⟩ u1).setCell ⟨g, 2, none⟩ u2).alloc o1).alloc o2) base (fun k => N ≤ k) v xs :=
  Kd.R_lower (Kd.R_mono (Kd.R_bound (Kd.R_alloc (Kd.R_alloc (R_farN (R_farN (R_farN h hg) hg) hg) o1) o2)) (fun k hk => hk.2.1)) hN
theorem S_farN {α : Type} {d : Kd α} {q g j N : Nat} {w : World} {ok : Nat → Prop} {v u : Value} {xs : List α} (h : Kd.S d q w N ok v xs) (hg : g < N) : Kd.S d q (w.setCell ⟨g, j, none⟩ u) N ok v xs :=
  Kd.S_mono (Kd.S_step (Kd.S_bound h) (fun k hk _ => Below.heap_setCell w ⟨g, j, none⟩ u k (show k ≠ g by have := hk.2.1; omega))) (fun _ h => h.1)
theorem ps_at {α : Type} {d : Kd α} {q base g : Nat} {w0 w1 : World} {ok : Nat → Prop} {u0 u1 u2 : Value} {o1 o2 : Obj} {v : Value} {xs : List α} (h : Kd.S d q w0 base ok v xs) (hb : Below w0.heap.size w0 w1) (hg : g < base) : Kd.S d q (((((w1.setCell ⟨g, 0, none⟩ u0).setCell ⟨g, 1, none⟩ u1).setCell ⟨g, 2, none⟩ u2).alloc o1).alloc o2) base (fun k => ok k ∧ k < w0.heap.size) v xs :=
  Kd.S_alloc (Kd.S_alloc (S_farN (S_farN (S_farN (Kd.S_below (Kd.S_mono (Kd.S_bound h) (fun k hk => (⟨hk.1, hk.2.2.1⟩ : ok k ∧ k < w0.heap.size))) hb) hg) hg) hg) o1) o2
set_option maxRecDepth 100000 in
set_option maxHeartbeats 32000000 in
theorem spLoad0 (k : Nat) (s : ByteArray) (hk : SpOk k s) (w : World) (hg : GvOk s) (hz : s.size ≤ 140737488351232) (pf : Bool) (hp : strings_HasPrefix.f s ⟨#[27, 76, 82, 86, 1, 0]⟩ = some pf) (h6 : pf = true → 6 ≤ s.size) (r1 : List S38) (r2 : Int) (hr : rLoad k s = (r1, r2)) :
    Calls Tryd.prog 4 #[.string s] w fun e w' => ∃ v0, e = .returned (.tuple #[.agg #[v0], .int .i64 r2]) ∧ Kd.S k38 38 w' w.heap.size (fun _ => True) v0 r1 ∧ Below w.heap.size w w' := by
  have hu24 := Tryd.underlying24
  have hmix : Tryd.prog.follows .mixedOrders = true := by kernel_rfl
  unfold rLoad at hr
  rw [hp] at hr
  have BK := Aside0.mk (blk_new w (.cells #[.slice none 0 0] 24 (0, 0)))
  have HB := Aside0.mk (below_alloc (Below.refl w.heap.size w) (.cells #[.slice none 0 0] 24 (0, 0)))
  have HH : (s.size < 6 ∧ pf = false) ∨ (¬ s.size < 6 ∧ ((s.extract 0 6).toList == [27, 76, 82, 86, 1, 0]) = pf) := by
    unfold strings_HasPrefix.f stringslite_HasPrefix.f at hp
    by_cases h : s.size < 6
    · left
      rw [if_neg (show ¬ ((s.size : Int) ≥ ((⟨#[27, 76, 82, 86, 1, 0]⟩ : ByteArray).size : Int)) from fun hh => by have h6 : (⟨#[27, 76, 82, 86, 1, 0]⟩ : ByteArray).size = 6 := rfl; rw [h6] at hh; omega)] at hp
      exact ⟨h, (Option.some.inj hp).symm⟩
    · right
      have h6 : (⟨#[27, 76, 82, 86, 1, 0]⟩ : ByteArray).size = 6 := rfl
      rw [h6, if_pos (by omega), if_pos (by decide), if_pos (by omega)] at hp
      refine ⟨h, ?_⟩
      have := Option.some.inj hp
      have ht : (⟨#[27, 76, 82, 86, 1, 0]⟩ : ByteArray).toList = [27, 76, 82, 86, 1, 0] := by rw [ByteArray.toList_eq]
      rw [← this, ht]
      rfl
  clear hp
  go_enter Tryd.func4, Tryd.ntmps4
  go_upto_region 1 with (fail)
  go_cut [18] (fun sb wx => sb = .bool (!pf) ∧ wx = w.alloc (.cells #[.slice none 0 0] 24 (0, 0)))
  case first =>
    rcases HH with ⟨h, rfl⟩ | ⟨h, hb⟩
    · have d0 : decide ((s.size : Int) < 6) = true := decide_eq_true (by omega)
      go_wp2
      go_meet
      exact ⟨rfl, rfl⟩
    · have d0 : decide ((s.size : Int) < 6) = false := decide_eq_false (by omega)
      have d1 : (6 : Int) ≤ (s.size : Int) := by omega
      have d2 : 6 ≤ s.size := by omega
      go_wp2
      go_meet
      exact ⟨rfl, rfl⟩
  case rest =>
  obtain ⟨rfl, rfl⟩ := hcut
  cases pf
  · rw [if_neg (by simp)] at hr
    cases hr
    go_wp2
    exact bodyPost_ret (results_ct rfl _ _ w.heap.size 24 #[.slice none 0 0] (0, 0) _ rfl BK.out hu24 rfl (by kernel_rfl)) rfl ⟨_, rfl, Kd.S_nil _ _ _ _ _, HB.out⟩
  · rw [if_pos rfl] at hr
    have h6 := h6 rfl
    obtain ⟨T, hT⟩ : ∃ T, rLoop k s 200 6 0 [] 1 [] = T := ⟨_, rfl⟩
    rw [hT] at hr
    have HR := Aside0.mk hr
    have P0 : Aside0 (LN k s T 200 [] 6 0 1 []) := ⟨⟨⟨by decide, by omega, by decide, by decide, by decide, by decide, by decide, fun x hx => by simp at hx, hT⟩, fun x hx => by simp at hx, rfl⟩⟩
    clear hr hT h6 HH
    have L0 := Aside0.mk (LS.start (s := s) (w := w))
    go_wp2_with (fail)
    clear BK HB
    go_loopg [6, 7] 200 (fun kq v6 v7 W' => ∃ (n : Nat) (v5 : Value) (ps : List S38) (a e wanted : Int) (left : List Int), v7 = .int .i64 wanted ∧ Aside0 (kq = n) ∧ Aside0 (LS s w v5 v6 ps a e left W') ∧ Aside0 (LN k s T n ps a e wanted left))
    case atStart => exact ⟨200, _, [], 6, 0, 1, [], rfl, ⟨rfl⟩, L0, P0⟩
    case round =>
      obtain ⟨n, v5, ps, a, e, wanted, left, rfl, HJ, HM, HL⟩ := hrel
      clear L0 P0
      obtain rfl := HL.out.e0
      obtain ⟨A5, q5, rfl⟩ := Kd.S_slice HM.out.r5
      obtain ⟨A6, q6, rfl⟩ := Kd.R_slice HM.out.r6
      obtain ⟨c0, c1, c2, f0, f1, f2, cc, fc, cr, fr, lt2⟩ := HM.out.cells
      by_cases hw : (ps.length : Int) < wanted
      · have d0 : decide ((ps.length : Int) < wanted) = true := decide_eq_true hw
        obtain ⟨n, rfl⟩ : ∃ m, n = m + 1 := ⟨n - 1, by have h1 := HL.out.lp.l1; have h2 := HL.out.lp.w1; omega⟩
        have hw0 := HL.out.lp.w0
        have hw1 := HL.out.lp.w1
        have HL2 : Aside0 (ps.length ≤ 200 ∧ left.length ≤ 200) := ⟨by have := HL.out.lp.l0; have h := HL.out.lp.l2; rw [List.length_map] at h; omega, by have := HL.out.lp.l0; have h := HL.out.lp.l2; rw [List.length_map] at h; omega⟩
        obtain ⟨kids, hkd⟩ : ∃ kd, (if 63 ≤ left.length then 0 else 200 - wanted) = kd := ⟨_, rfl⟩
        obtain ⟨p, a', e', hpr⟩ := tri (rProto k s kids a 0)
        have hkd0 : 0 ≤ kids := by rw [← hkd]; split <;> omega
        have HPR := Aside0.mk hpr
        have HKD := Aside0.mk hkd
        obtain ⟨gm, hgm⟩ : ∃ gm, gk = gm + 1 := ⟨gk - 1, by have := HJ.out; omega⟩
        have HGM := Aside0.mk hgm
        have HWW := Aside0.mk hw
        clear hw hkd hpr hgm
        go_upto_if 33 with (fail)
        go_cut [8] (fun s8 wx => s8 = .int .i64 kids ∧ wx = wr)
        case first =>
          by_cases h63 : 63 ≤ left.length
          · have i1 : (63 : Int) ≤ (left.length : Int) := by omega
            have e1 : decide ((63 : Int) ≤ (left.length : Int)) = true := decide_eq_true i1
            have k0 : 0 = kids := by rw [← HKD.out, if_pos h63]
            go_wp2
            go_meet
            exact ⟨by first | rfl | rw [k0], rfl⟩
          · have i1 : ¬ (63 : Int) ≤ (left.length : Int) := by omega
            have e1 : decide ((63 : Int) ≤ (left.length : Int)) = false := decide_eq_false i1
            have k0 : 200 - wanted = kids := by rw [← HKD.out, if_neg h63]
            go_wp2
            go_meet
            exact ⟨by first | rfl | rw [k0], rfl⟩
        case rest =>
        obtain ⟨rfl, rfl⟩ := hcut
        by_cases he : e' = 0
        · subst he
          go_upto_region 15 with (go_at_call 9; refine (spProto hk hg hz _ hkd0 HL.out.lp.a0 HL.out.lp.a1 HPR.out).mono ?_; rintro r w1 ⟨p2, hp2, u3, u4, u5, u8, u9, rfl, g3, g4, g5, g8, g9, hb⟩; obtain rfl : p2 = p := hp2 rfl; clear hp2; obtain ⟨B3, m3, rfl⟩ := Kd.R_slice g3; obtain ⟨B4, m4, rfl⟩ := Kd.R_slice g4; obtain ⟨B5, m5, rfl⟩ := Kd.R_slice g5; obtain ⟨B8, m8, rfl⟩ := Kd.R_slice g8; obtain ⟨B9, m9, rfl⟩ := Kd.R_slice g9; have hd := HM.out.below hb; clear c0 c1 c2 f0 f1 f2 cc fc cr fr lt2; obtain ⟨c0, c1, c2, f0, f1, f2, cc, fc, cr, fr, lt2⟩ := hd.cells; have lt1 : w.heap.size + 1 < w1.heap.size := Nat.lt_of_succ_lt lt2; have lt0 : w.heap.size < w1.heap.size := Nat.lt_of_succ_lt lt1; have ne1 : ¬ w1.heap.size = w.heap.size + 1 := Nat.ne_of_gt lt1; have ne2 : ¬ w1.heap.size + 1 = w.heap.size + 1 := fun h => (by omega); have ne3 : w.heap.size + 1 < w1.heap.size + 1 := (by omega); have ne4 : w.heap.size + 1 < w1.heap.size + 1 + 1 := (by omega); have MC := Aside0.mk hd; have G3 := Aside0.mk g3; have G4 := Aside0.mk g4; have G5 := Aside0.mk g5; have G8 := Aside0.mk g8; have G9 := Aside0.mk g9; have BB := Aside0.mk hb; clear g3 g4 g5 g8 g9 hb hd)
          have hN : w.heap.size + 3 ≤ wc.heap.size := HM.out.size3
          have D2 := Aside0.mk (((MC.out.rd3 a' 0).below (below_new (.cells #[.int .i64 p2.f0, .bool p2.f1, .int .i64 p2.f2, .slice B3 p2.f3.length m3, .slice B4 p2.f4.length m4, .slice B5 p2.f5.length m5, .int .i64 p2.f6, .string p2.f7, .slice B8 p2.f8.length m8, .slice B9 p2.f9.length m9] 38 (0, 0)))).below (below_new (.cells #[.string s, .int .i64 a', .int .i64 0] 31 (0, 0))))
          have HO := Aside0.mk (ps_at (o1 := .cells #[.int .i64 p2.f0, .bool p2.f1, .int .i64 p2.f2, .slice B3 p2.f3.length m3, .slice B4 p2.f4.length m4, .slice B5 p2.f5.length m5, .int .i64 p2.f6, .string p2.f7, .slice B8 p2.f8.length m8, .slice B9 p2.f9.length m9] 38 (0, 0)) (o2 := .cells #[.string s, .int .i64 a', .int .i64 0] 31 (0, 0)) (g := w.heap.size + 1) (u0 := .string s) (u1 := .int .i64 a') (u2 := .int .i64 0) HM.out.r5 BB.out (by omega))
          have H3 := Aside0.mk (row_at (o1 := .cells #[.int .i64 p2.f0, .bool p2.f1, .int .i64 p2.f2, .slice B3 p2.f3.length m3, .slice B4 p2.f4.length m4, .slice B5 p2.f5.length m5, .int .i64 p2.f6, .string p2.f7, .slice B8 p2.f8.length m8, .slice B9 p2.f9.length m9] 38 (0, 0)) (o2 := .cells #[.string s, .int .i64 a', .int .i64 0] 31 (0, 0)) (g := w.heap.size + 1) (u0 := .string s) (u1 := .int .i64 a') (u2 := .int .i64 0) G3.out hN (by omega))
          have H4 := Aside0.mk (row_at (o1 := .cells #[.int .i64 p2.f0, .bool p2.f1, .int .i64 p2.f2, .slice B3 p2.f3.length m3, .slice B4 p2.f4.length m4, .slice B5 p2.f5.length m5, .int .i64 p2.f6, .string p2.f7, .slice B8 p2.f8.length m8, .slice B9 p2.f9.length m9] 38 (0, 0)) (o2 := .cells #[.string s, .int .i64 a', .int .i64 0] 31 (0, 0)) (g := w.heap.size + 1) (u0 := .string s) (u1 := .int .i64 a') (u2 := .int .i64 0) G4.out hN (by omega))
          have H5 := Aside0.mk (row_at (o1 := .cells #[.int .i64 p2.f0, .bool p2.f1, .int .i64 p2.f2, .slice B3 p2.f3.length m3, .slice B4 p2.f4.length m4, .slice B5 p2.f5.length m5, .int .i64 p2.f6, .string p2.f7, .slice B8 p2.f8.length m8, .slice B9 p2.f9.length m9] 38 (0, 0)) (o2 := .cells #[.string s, .int .i64 a', .int .i64 0] 31 (0, 0)) (g := w.heap.size + 1) (u0 := .string s) (u1 := .int .i64 a') (u2 := .int .i64 0) G5.out hN (by omega))
          have H8 := Aside0.mk (row_at (o1 := .cells #[.int .i64 p2.f0, .bool p2.f1, .int .i64 p2.f2, .slice B3 p2.f3.length m3, .slice B4 p2.f4.length m4, .slice B5 p2.f5.length m5, .int .i64 p2.f6, .string p2.f7, .slice B8 p2.f8.length m8, .slice B9 p2.f9.length m9] 38 (0, 0)) (o2 := .cells #[.string s, .int .i64 a', .int .i64 0] 31 (0, 0)) (g := w.heap.size + 1) (u0 := .string s) (u1 := .int .i64 a') (u2 := .int .i64 0) G8.out hN (by omega))
          have H9 := Aside0.mk (row_at (o1 := .cells #[.int .i64 p2.f0, .bool p2.f1, .int .i64 p2.f2, .slice B3 p2.f3.length m3, .slice B4 p2.f4.length m4, .slice B5 p2.f5.length m5, .int .i64 p2.f6, .string p2.f7, .slice B8 p2.f8.length m8, .slice B9 p2.f9.length m9] 38 (0, 0)) (o2 := .cells #[.string s, .int .i64 a', .int .i64 0] 31 (0, 0)) (g := w.heap.size + 1) (u0 := .string s) (u1 := .int .i64 a') (u2 := .int .i64 0) G9.out hN (by omega))
          obtain ⟨pbx, hpbx⟩ : ∃ b, b = w1.heap.size := ⟨_, rfl⟩
          have hpb0 := blk_alloc (blk_new (((w1.setCell ⟨w.heap.size + 1, 0, none⟩ (.string s)).setCell ⟨w.heap.size + 1, 1, none⟩ (.int .i64 a')).setCell ⟨w.heap.size + 1, 2, none⟩ (.int .i64 0)) (.cells #[.int .i64 p2.f0, .bool p2.f1, .int .i64 p2.f2, .slice B3 p2.f3.length m3, .slice B4 p2.f4.length m4, .slice B5 p2.f5.length m5, .int .i64 p2.f6, .string p2.f7, .slice B8 p2.f8.length m8, .slice B9 p2.f9.length m9] 38 (0, 0))) (.cells #[.string s, .int .i64 a', .int .i64 0] 31 (0, 0))
          rw [World.size_setCell, World.size_setCell, World.size_setCell, ← hpbx] at hpb0
          have PB := Aside0.mk hpb0
          have hpl : wc.heap.size ≤ pbx := by rw [hpbx]; exact BB.out.size
          rw [← hpbx]
          clear hpb0 MC G3 G4 G5 G8 G9 BB c0 c1 c2 f0 f1 f2 cc fc cr fr lt2 lt1 lt0 ne1 ne2 ne3 ne4 hpbx
          generalize World.alloc _ (.cells #[.string s, .int .i64 a', .int .i64 0] 31 (0, 0)) = W2 at D2 HO H3 H4 H5 H8 H9 PB ⊢
          obtain ⟨c0, c1, c2, f0, f1, f2, cc, fc, cr, fr, lt2⟩ := D2.out.cells
          have P0 := (blk_cell PB.out 0).trans rfl
          have P1 := (blk_cell PB.out 1).trans rfl
          have P2 := (blk_cell PB.out 2).trans rfl
          have P3 := (blk_cell PB.out 3).trans rfl
          have P4 := (blk_cell PB.out 4).trans rfl
          have P5 := (blk_cell PB.out 5).trans rfl
          have P6 := (blk_cell PB.out 6).trans rfl
          have P7 := (blk_cell PB.out 7).trans rfl
          have P8 := (blk_cell PB.out 8).trans rfl
          have P9 := (blk_cell PB.out 9).trans rfl
          go_upto_region 16 with (at_builtin; refine Kd.S_append k38 (w0 := _) (w.heap.size + 3) rfl (.tmp 48) (.tmp 50) 22 38 (.agg #[(.int .i64 0), (.bool false), (.int .i64 0), (.slice none 0 0), (.slice none 0 0), (.slice none 0 0), (.int .i64 0), (.string ⟨#[]⟩), (.slice none 0 0), (.slice none 0 0)]) 168 rfl Tryd.underlying22 info38 rfl (by decide) (by decide) (.slice A5 ps.length q5) ps p2 [.int .i64 p2.f0, .bool p2.f1, .int .i64 p2.f2, .slice B3 p2.f3.length m3, .slice B4 p2.f4.length m4, .slice B5 p2.f5.length m5, .int .i64 p2.f6, .string p2.f7, .slice B8 p2.f8.length m8, .slice B9 p2.f9.length m9] (fun k_ => some k_ ≠ (Value.slice A6 left.length q6).ownBlock) (fun k_ => wc.heap.size ≤ k_) rfl (by first | (go_simp; done) | (go_simp; rfl) | rfl) ?aP ?aK ?aF ?aO (Below.refl _ _) ?aS ?aL ?_; (case aP => exact k38_mkM _ _ _ p2 H3.out H4.out H5.out H8.out H9.out); (case aK => exact fun k_ hk => ⟨fun he => by have := Kd.R_lt HM.out.r6 k_ he.symm; omega, fun he => by have := Kd.S_lt HM.out.r5 k_ he.symm; omega⟩); (case aF => exact fun k_ hk he => by have h1 := Kd.R_lt HM.out.r6 k_ he.symm; have h2 := blk_lt PB.out; omega); (case aO => exact Kd.S_mono HO.out (fun k_ hk => ⟨hk.1, by have := hk.2; omega⟩)); (case aS => exact D2.out.size3); (case aL => have := HL2.out; omega); intro v5' w3 hS _ hg3 _; obtain ⟨A5', q5', rfl⟩ := Kd.S_slice hS; obtain ⟨LA, c3, f3, p3⟩ := D2.out.appended hg3 hS PB.out (fun he => by have := Kd.S_lt HM.out.r5 pbx he.symm; omega); rw [show (ps ++ [p2]).length = ps.length + 1 by simp] at LA; have LA' := Aside0.mk LA; have PB3 := Aside0.mk p3; clear LA p3 hS hg3)
          have PBW := Aside0.mk ((Below.heap_setCell w3 ⟨w.heap.size + 1 + 1, 0, none⟩ (.slice A5' (ps.length + 1) q5') pbx (show pbx ≠ w.heap.size + 1 + 1 by omega)).trans PB3.out)
          clear c0 c1 c2 f0 f1 f2 cc fc cr fr lt2 P0 P1 P2 P3 P4 P5 P6 P7 P8 P9 c3 f3 PB3 PB D2 HO H3 H4 H5 H8 H9
          generalize World.setCell w3 ⟨w.heap.size + 1 + 1, 0, none⟩ (.slice A5' (ps.length + 1) q5') = W4 at LA' PBW ⊢
          have P6 := (blk_cell PBW.out 6).trans rfl
          obtain ⟨hp0, hp1, hpush, hup⟩ := HL.out.next hg HWW.out HKD.out HPR.out
          have WWr : Aside0 (IntKind.i64.wrap (wanted + p2.f6) = wanted + p2.f6) := ⟨by rw [IntKind.wrap_i64]; omega⟩
          by_cases hp : 0 < p2.f6
          · have dp : decide (0 < p2.f6) = true := decide_eq_true hp
            have HN := Aside0.mk (hpush hp)
            clear hpush hup
            go_wp2_with (at_builtin; refine Kd.R_append (Kd.int .i64) (w0 := _) w.heap.size rfl (.tmp 60) (.tmp 63) 32 3 (.int .i64 0) 8 rfl Tryd.underlying32 info3 rfl (by decide) (by decide) (.slice A6 left.length q6) left p2.f6 [.int .i64 p2.f6] (fun k_ => w.heap.size + 3 ≤ k_) (fun _ => False) rfl (by first | (go_simp; done) | (go_simp; rfl) | rfl) rfl (fun _ hk => hk.elim) ?bF LA'.out.r6 (Below.refl _ _) ?bS ?bL ?_; (case bF => exact fun k_ hk => Nat.le_trans LA'.out.size3 hk); (case bS => exact LA'.out.bel.size); (case bL => have := HL2.out; omega); intro v6' w5 hR _ hg5 hat5; obtain ⟨A6', q6', rfl⟩ := Kd.R_slice hR; have lb := LA'.out.pushed hg5 hR hat5; rw [show (left ++ [p2.f6]).length = left.length + 1 by simp] at lb; have LB := Aside0.mk lb; clear hR hg5 hat5 lb)
            have hgm := HGM.out
            subst hgm
            go_roundg gm
            case measure => have := HJ.out; omega
            case rel => exact ⟨n, _, ps ++ [p2], a', 0, wanted + p2.f6, left ++ [p2.f6], by first | rfl | (rw [WWr.out]), ⟨by have := HJ.out; omega⟩, LB, HN⟩
          · have dp : decide (0 < p2.f6) = false := decide_eq_false hp
            have HN := Aside0.mk (hup (by omega))
            clear hpush hup
            go_wp2_with (go_at_call 10; refine (spec_l3Up.calls (left.length + 1) (fun k_ => (Value.slice A6 left.length q6).ownBlock = some k_) _ left (upT (left.length + 1) left) w W4 LA'.out.bel LA'.out.own (l3Up_eq _ _ (Nat.lt_succ_self _) (by have := HL2.out; omega) HL.out.big)).mono ?_; rintro r w5 ⟨v6', rfl, hR, hb, hkp⟩; obtain ⟨A6', q6', rfl⟩ := Kd.R_slice hR; have LB := Aside0.mk (LA'.out.upped hb hkp hR); clear hR hb hkp)
            have hgm := HGM.out
            subst hgm
            go_roundg gm
            case measure => have := HJ.out; omega
            case rel => exact ⟨n, _, ps ++ [p2], a', 0, wanted + p2.f6, upT (left.length + 1) left, by first | rfl | (rw [WWr.out]), ⟨by have := HJ.out; omega⟩, LB, HN⟩
        · have d1 : (e' != 0) = true := by rw [bne_iff_ne]; exact he
          go_upto_region 14 with (go_at_call 9; refine (spProto hk hg hz _ hkd0 HL.out.lp.a0 HL.out.lp.a1 HPR.out).mono ?_; rintro r w1 ⟨p2, hp2, u3, u4, u5, u8, u9, rfl, g3, g4, g5, g8, g9, hb⟩; obtain ⟨B3, m3, rfl⟩ := Kd.R_slice g3; obtain ⟨B4, m4, rfl⟩ := Kd.R_slice g4; obtain ⟨B5, m5, rfl⟩ := Kd.R_slice g5; obtain ⟨B8, m8, rfl⟩ := Kd.R_slice g8; obtain ⟨B9, m9, rfl⟩ := Kd.R_slice g9; have hd := HM.out.below hb; clear c0 c1 c2 f0 f1 f2 cc fc cr fr lt2; obtain ⟨c0, c1, c2, f0, f1, f2, cc, fc, cr, fr, lt2⟩ := hd.cells; have lt1 : w.heap.size + 1 < w1.heap.size := Nat.lt_of_succ_lt lt2; have lt0 : w.heap.size < w1.heap.size := Nat.lt_of_succ_lt lt1; have ne1 : ¬ w1.heap.size = w.heap.size + 1 := Nat.ne_of_gt lt1; have ne2 : ¬ w1.heap.size + 1 = w.heap.size + 1 := fun h => (by omega); have ne3 : w.heap.size + 1 < w1.heap.size + 1 := (by omega); have ne4 : w.heap.size + 1 < w1.heap.size + 1 + 1 := (by omega); have MC := Aside0.mk hd; have G3 := Aside0.mk g3; have G4 := Aside0.mk g4; have G5 := Aside0.mk g5; have G8 := Aside0.mk g8; have G9 := Aside0.mk g9; have PP := Aside0.mk hp2; have BB := Aside0.mk hb; clear g3 g4 g5 g8 g9 hb hd hp2)
          have HT := HL.out.fail HWW.out HKD.out HPR.out he
          have HR2 : Aside0 (r1 = [] ∧ r2 = e') := ⟨by have h := HR.out; rw [HT, if_neg he] at h; cases h; exact ⟨rfl, rfl⟩⟩
          have D2 := Aside0.mk (((MC.out.rd3 a' e').below (below_new (.cells #[.int .i64 p2.f0, .bool p2.f1, .int .i64 p2.f2, .slice B3 p2.f3.length m3, .slice B4 p2.f4.length m4, .slice B5 p2.f5.length m5, .int .i64 p2.f6, .string p2.f7, .slice B8 p2.f8.length m8, .slice B9 p2.f9.length m9] 38 (0, 0)))).below (below_new (.cells #[.string s, .int .i64 a', .int .i64 e'] 31 (0, 0))))
          clear HT HR MC G3 G4 G5 G8 G9 PP BB c0 c1 c2 f0 f1 f2 cc fc cr fr lt2 lt1 lt0 ne1 ne2 ne3 ne4
          generalize World.alloc _ (.cells #[.string s, .int .i64 a', .int .i64 e'] 31 (0, 0)) = W2 at D2 ⊢
          obtain ⟨c0, c1, c2, f0, f1, f2, cc, fc, cr, fr, lt2⟩ := D2.out.cells
          go_region_with_o (fail)
          all_goals
            go_wp2
            refine bodyPost_ret (results_ct rfl _ _ w.heap.size 24 #[.slice none 0 0] (0, 0) _ rfl ((blk_set D2.out.rb 0 _).trans rfl) hu24 rfl (by kernel_rfl)) rfl ?_
            obtain ⟨rfl, rfl⟩ := HR2.out
            exact ⟨_, rfl, Kd.S_nil _ _ _ _ _, by repeat (with_reducible first | exact D2.out.bel.setCell (p := ⟨w.heap.size, 0, none⟩) (Nat.le_refl _) _ | apply pw_below_drewN | apply below_drew1)⟩
      · obtain rfl := HL.out.lp.stop (fun h => hw h.1)
        have d0 : decide ((ps.length : Int) < wanted) = false := decide_eq_false hw
        by_cases ha : a < (s.size : Int)
        · have d1 : (a != (s.size : Int)) = true := by rw [bne_iff_ne]; omega
          have HR2 : Aside0 (r1 = [] ∧ r2 = 5) := ⟨by have h := HR.out; rw [if_pos rfl, if_pos ha] at h; cases h; exact ⟨rfl, rfl⟩⟩
          clear HR ha hw
          go_wp2
          refine bodyPost_ret (results_ct rfl _ _ w.heap.size 24 #[.slice none 0 0] (0, 0) _ rfl ((blk_set HM.out.rb 0 _).trans rfl) hu24 rfl (by kernel_rfl)) rfl ?_
          obtain ⟨rfl, rfl⟩ := HR2.out
          exact ⟨_, rfl, Kd.S_nil _ _ _ _ _, HM.out.bel.setCell (p := ⟨w.heap.size, 0, none⟩) (Nat.le_refl _) _⟩
        · have h1 := HL.out.lp.a1
          obtain rfl : a = (s.size : Int) := by omega
          have d1 : ((s.size : Int) != (s.size : Int)) = false := by simp
          have HR2 : Aside0 (r1 = ps ∧ r2 = 0) := ⟨by have h := HR.out; rw [if_pos rfl, if_neg ha] at h; cases h; exact ⟨rfl, rfl⟩⟩
          clear HR ha hw
          go_wp2
          refine bodyPost_ret (results_ct rfl _ _ w.heap.size 24 #[.slice A5 ps.length q5] (0, 0) _ rfl ((blk_set HM.out.rb 0 _).trans rfl) hu24 rfl (by kernel_rfl)) rfl ?_
          obtain ⟨rfl, rfl⟩ := HR2.out
          exact ⟨_, rfl, Kd.S_lower (Kd.S_mono (S_farN HM.out.r5 (by omega)) (fun _ _ => trivial)) (by omega), HM.out.bel.setCell (p := ⟨w.heap.size, 0, none⟩) (Nat.le_refl _) _⟩
end Go.Proofs.YtiekodnojmkfaaaDoor.PFnExactLoad
