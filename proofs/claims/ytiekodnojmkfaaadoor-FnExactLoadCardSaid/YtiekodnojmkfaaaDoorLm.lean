import Derived.Tactics2
import Derived.Deep.DeepCutAuto
import Derived.Deep.CutBlock
import Derived.Shelf.RegionOpenPlain
import Derived.Shelf.Abstract
import Derived.Shelf.RegionOpen
import Derived.WalkKit
import Derived.OwnWalkIn
import Derived.TacticsInMore
import Derived.LoopNIn
import Derived.LoopIn
import Derived.Laws.EntriesVeiled
import Derived.LoopN
import Derived.WalkLawsBesides
import Derived.Test.YtiekodnojmkfaaaDoorLc
import Derived.Test.YtiekodnojmkfaaaDoorLh
import Derived.Test.YtiekodnojmkfaaaDoorWApart
import Derived.Test.YtiekodnojmkfaaaDoorWKept
import Derived.Test.YtiekodnojmkfaaaDoorPFnExactLoadx6
import Derived.Test.YtiekodnojmkfaaaDoorPFnExactLoadx7
import Derived.Test.YtiekodnojmkfaaaDoorPFnExactLoadx8
import Derived.Test.YtiekodnojmkfaaaDoorPFnExactLoadx9
import Derived.Test.YtiekodnojmkfaaaDoorPFnExactLoadx10
namespace Go.Proofs.YtiekodnojmkfaaaDoor.PFnExactLoad
open Go.RowKit Go.Proofs.YtiekodnojmkfaaaDoorW.PrintWords Go.Proofs.YtiekodnojmkfaaaDoorW.PrintLast Go.Proofs.YtiekodnojmkfaaaDoorW.PrintMore
attribute [local go_sem] max2_int min2_int max_two min_two max_three min_three max_four min_four
set_option linter.unusedVariables false
set_option linter.unusedSimpArgs false
theorem R_other {α β : Type} {d : Kd α} {d' : Kd β} {e e' : Nat} {W w1 : World} {base : Nat} {oki oku : Nat → Prop} {v u : Value} {xs : List α} {ys : List β} (hE : d.E = []) (h : d.R e W base oki v xs) (h' : d'.R e' W base oku u ys) (hne : e ≠ e') (hk : Kept W w1 (fun k => some k = u.ownBlock)) : d.R e w1 base oki v xs :=
  Kd.R_mono (Kd.R_step (Kd.R_tight hE h) (fun k hk0 hlt => hk.2 k hlt (fun he => by
    obtain ⟨c1, h1⟩ := Kd.R_typed h k hk0.symm
    obtain ⟨c2, h2⟩ := Kd.R_typed h' k he.symm
    rw [h1] at h2
    injection h2 with h2
    injection h2 with _ h2
    exact hne h2))) (fun k hk0 => h.1 k hk0.symm)
theorem R_again {α : Type} {d : Kd α} {e : Nat} {W w1 : World} {base : Nat} {oki oku : Nat → Prop} {v : Value} {xs ys : List α} (hE : d.E = []) (h : d.R e W base oki v xs) (h' : d.R e w1 base oku v ys) : d.R e w1 base oki v ys :=
  Kd.R_mono (Kd.R_tight hE h') (fun k hk0 => h.1 k hk0.symm)
structure El (w0 w : World) (P0 : Nat → Prop) (W : World) (g n cap : Nat) (xs : List S38) (m : Nat) (x : S38) (oki : Nat → Prop) (v3 v4 v5 v8 v9 : Value) : Prop where
  hH : Kd.H k38 38 W w0.heap.size P0 (.slice (some ⟨g, 0, none⟩) n cap) xs (m : Int) oki [.int .i64 x.f0, .bool x.f1, .int .i64 x.f2, v3, v4, v5, .int .i64 x.f6, .string x.f7, v8, v9]
  lt : m < n
  base : w0.heap.size ≤ g
  own : P0 g
  far : ∀ k, oki k → k ≠ g
  h3 : Kd.R (Kd.int .u32) 61 W w0.heap.size oki v3 x.f3
  h4 : Kd.R k63 63 W w0.heap.size oki v4 x.f4
  h5 : Kd.R k67 67 W w0.heap.size oki v5 x.f5
  h8 : Kd.R (Kd.int .i64) 3 W w0.heap.size oki v8 x.f8
  h9 : Kd.R Kd.string 9 W w0.heap.size oki v9 x.f9
  hB : Below w0.heap.size w0 W
  hK : Kept w W P0
section
variable {w0 w W w1 : World} {P0 : Nat → Prop} {g n cap : Nat} {xs : List S38} {m : Nat} {x : S38} {oki : Nat → Prop} {v3 v4 v5 v8 v9 : Value}
theorem El_open (h : Kd.S k38 38 W w0.heap.size P0 (.slice (some ⟨g, 0, none⟩) n cap) xs) (hm : m < n) (hx : xs[m]? = some x) (hB : Below w0.heap.size w0 W) (hK : Kept w W P0) : ∃ oki v3 v4 v5 v8 v9, El w0 w P0 W g n cap xs m x oki v3 v4 v5 v8 v9 := by
  obtain ⟨oki, c, hcl, hM, hcc, hfr, hok, hH⟩ := Kd.S_elem h z38 (m : Int) (by omega) (by omega)
  have hg : (Value.slice (some ⟨g, 0, none⟩) n cap).ownBlock = some g := rfl
  have hx' : xs.getD (m : Int).toNat z38 = x := by rw [List.getD_eq_getElem?_getD, Int.toNat_natCast, hx]; rfl
  rw [hx'] at hM
  obtain ⟨v3, v4, v5, v8, v9, rfl, h3, h4, h5, h8, h9⟩ := k38_openM hM
  exact ⟨oki, v3, v4, v5, v8, v9, hH, hm, Kd.S_base h g hg, (Kd.S_R h).1 g hg, fun k hk => (hok k hk).2, h3, h4, h5, h8, h9, hB, hK⟩
theorem El_close (h : El w0 w P0 W g n cap xs m x oki v3 v4 v5 v8 v9) : Kd.S k38 38 W w0.heap.size P0 (.slice (some ⟨g, 0, none⟩) n cap) (xs.set m x) :=
  Kd.H_back h.hH (k38_mkM W _ oki x h.h3 h.h4 h.h5 h.h8 h.h9) (fun _ hk => hk)
theorem El_cells (h : El w0 w P0 W g n cap xs m x oki v3 v4 v5 v8 v9) : W.cell? ⟨g, m * 10, none⟩ = some (.int .i64 x.f0) ∧ W.cell? ⟨g, m * 10 + 1, none⟩ = some (.bool x.f1) ∧ W.cell? ⟨g, m * 10 + 2, none⟩ = some (.int .i64 x.f2) ∧ W.cell? ⟨g, m * 10 + 3, none⟩ = some v3 ∧ W.cell? ⟨g, m * 10 + 4, none⟩ = some v4 ∧ W.cell? ⟨g, m * 10 + 5, none⟩ = some v5 ∧ W.cell? ⟨g, m * 10 + 6, none⟩ = some (.int .i64 x.f6) ∧ W.cell? ⟨g, m * 10 + 7, none⟩ = some (.string x.f7) ∧ W.cell? ⟨g, m * 10 + 8, none⟩ = some v8 ∧ W.cell? ⟨g, m * 10 + 9, none⟩ = some v9 ∧ W.frozen? ⟨g, m * 10, none⟩ = false ∧ W.frozen? ⟨g, m * 10 + 1, none⟩ = false ∧ W.frozen? ⟨g, m * 10 + 2, none⟩ = false ∧ W.frozen? ⟨g, m * 10 + 3, none⟩ = false ∧ W.frozen? ⟨g, m * 10 + 4, none⟩ = false ∧ W.frozen? ⟨g, m * 10 + 5, none⟩ = false ∧ W.frozen? ⟨g, m * 10 + 6, none⟩ = false ∧ W.frozen? ⟨g, m * 10 + 7, none⟩ = false ∧ W.frozen? ⟨g, m * 10 + 8, none⟩ = false ∧ W.frozen? ⟨g, m * 10 + 9, none⟩ = false := by
  obtain ⟨rows, _, hraw, _, _, hcc, _⟩ := Kd.H_raw h.hH (by omega) (by have := h.lt; omega)
  obtain ⟨_, _, _, _, hfr⟩ := Kd.R_elem hraw [] (m : Int) (by omega) (by have := h.lt; omega)
  exact ⟨hcc 0 _ rfl, hcc 1 _ rfl, hcc 2 _ rfl, hcc 3 _ rfl, hcc 4 _ rfl, hcc 5 _ rfl, hcc 6 _ rfl, hcc 7 _ rfl, hcc 8 _ rfl, hcc 9 _ rfl, hfr 0, hfr 1, hfr 2, hfr 3, hfr 4, hfr 5, hfr 6, hfr 7, hfr 8, hfr 9⟩
theorem El_below (h : El w0 w P0 W g n cap xs m x oki v3 v4 v5 v8 v9) (hb : Below W.heap.size W w1) : El w0 w P0 w1 g n cap xs m x oki v3 v4 v5 v8 v9 :=
  ⟨Kd.H_below h.hH hb, h.lt, h.base, h.own, h.far, Kd.R_below h.h3 hb, Kd.R_below h.h4 hb, Kd.R_below h.h5 hb, Kd.R_below h.h8 hb, Kd.R_below h.h9 hb, below_step h.hB hb, Kept.below h.hK hb⟩
theorem El_set0 (h : El w0 w P0 W g n cap xs m x oki v3 v4 v5 v8 v9) (a : Int) : El w0 w P0 (W.setCell ⟨g, m * 10, none⟩ (.int .i64 a)) g n cap xs m (⟨a, x.f1, x.f2, x.f3, x.f4, x.f5, x.f6, x.f7, x.f8, x.f9⟩ : S38) oki v3 v4 v5 v8 v9 := by
  have hH := (Kd.H_seg h.hH (by omega) (by have := h.lt; omega) (seg := [.int .i64 a]) (j := 0) (by show 1 ≤ 10; decide) (by intro q hq; rw [List.mem_singleton] at hq; rw [hq]; rfl)).1
  have hf : ∀ k, oki k → k < W.heap.size → (W.setCell ⟨g, m * 10, none⟩ (.int .i64 a)).heap[k]? = W.heap[k]? := fun k hk _ => Below.heap_setCell W _ _ k (h.far k hk)
  exact ⟨hH, h.lt, h.base, h.own, h.far, Kd.R_step h.h3 hf, Kd.R_step h.h4 hf, Kd.R_step h.h5 hf, Kd.R_step h.h8 hf, Kd.R_step h.h9 hf, below_set h.hB h.base, Kept.setCell h.hK (.inl h.own) _⟩
theorem El_set1 (h : El w0 w P0 W g n cap xs m x oki v3 v4 v5 v8 v9) (a : Bool) : El w0 w P0 (W.setCell ⟨g, m * 10 + 1, none⟩ (.bool a)) g n cap xs m (⟨x.f0, a, x.f2, x.f3, x.f4, x.f5, x.f6, x.f7, x.f8, x.f9⟩ : S38) oki v3 v4 v5 v8 v9 := by
  have hH := (Kd.H_seg h.hH (by omega) (by have := h.lt; omega) (seg := [.bool a]) (j := 1) (by show 2 ≤ 10; decide) (by intro q hq; rw [List.mem_singleton] at hq; rw [hq]; rfl)).1
  have hf : ∀ k, oki k → k < W.heap.size → (W.setCell ⟨g, m * 10 + 1, none⟩ (.bool a)).heap[k]? = W.heap[k]? := fun k hk _ => Below.heap_setCell W _ _ k (h.far k hk)
  exact ⟨hH, h.lt, h.base, h.own, h.far, Kd.R_step h.h3 hf, Kd.R_step h.h4 hf, Kd.R_step h.h5 hf, Kd.R_step h.h8 hf, Kd.R_step h.h9 hf, below_set h.hB h.base, Kept.setCell h.hK (.inl h.own) _⟩
theorem El_set2 (h : El w0 w P0 W g n cap xs m x oki v3 v4 v5 v8 v9) (a : Int) : El w0 w P0 (W.setCell ⟨g, m * 10 + 2, none⟩ (.int .i64 a)) g n cap xs m (⟨x.f0, x.f1, a, x.f3, x.f4, x.f5, x.f6, x.f7, x.f8, x.f9⟩ : S38) oki v3 v4 v5 v8 v9 := by
  have hH := (Kd.H_seg h.hH (by omega) (by have := h.lt; omega) (seg := [.int .i64 a]) (j := 2) (by show 3 ≤ 10; decide) (by intro q hq; rw [List.mem_singleton] at hq; rw [hq]; rfl)).1
  have hf : ∀ k, oki k → k < W.heap.size → (W.setCell ⟨g, m * 10 + 2, none⟩ (.int .i64 a)).heap[k]? = W.heap[k]? := fun k hk _ => Below.heap_setCell W _ _ k (h.far k hk)
  exact ⟨hH, h.lt, h.base, h.own, h.far, Kd.R_step h.h3 hf, Kd.R_step h.h4 hf, Kd.R_step h.h5 hf, Kd.R_step h.h8 hf, Kd.R_step h.h9 hf, below_set h.hB h.base, Kept.setCell h.hK (.inl h.own) _⟩
theorem El_set6 (h : El w0 w P0 W g n cap xs m x oki v3 v4 v5 v8 v9) (a : Int) : El w0 w P0 (W.setCell ⟨g, m * 10 + 6, none⟩ (.int .i64 a)) g n cap xs m (⟨x.f0, x.f1, x.f2, x.f3, x.f4, x.f5, a, x.f7, x.f8, x.f9⟩ : S38) oki v3 v4 v5 v8 v9 := by
  have hH := (Kd.H_seg h.hH (by omega) (by have := h.lt; omega) (seg := [.int .i64 a]) (j := 6) (by show 7 ≤ 10; decide) (by intro q hq; rw [List.mem_singleton] at hq; rw [hq]; rfl)).1
  have hf : ∀ k, oki k → k < W.heap.size → (W.setCell ⟨g, m * 10 + 6, none⟩ (.int .i64 a)).heap[k]? = W.heap[k]? := fun k hk _ => Below.heap_setCell W _ _ k (h.far k hk)
  exact ⟨hH, h.lt, h.base, h.own, h.far, Kd.R_step h.h3 hf, Kd.R_step h.h4 hf, Kd.R_step h.h5 hf, Kd.R_step h.h8 hf, Kd.R_step h.h9 hf, below_set h.hB h.base, Kept.setCell h.hK (.inl h.own) _⟩
theorem El_set7 (h : El w0 w P0 W g n cap xs m x oki v3 v4 v5 v8 v9) (a : ByteArray) : El w0 w P0 (W.setCell ⟨g, m * 10 + 7, none⟩ (.string a)) g n cap xs m (⟨x.f0, x.f1, x.f2, x.f3, x.f4, x.f5, x.f6, a, x.f8, x.f9⟩ : S38) oki v3 v4 v5 v8 v9 := by
  have hH := (Kd.H_seg h.hH (by omega) (by have := h.lt; omega) (seg := [.string a]) (j := 7) (by show 8 ≤ 10; decide) (by intro q hq; rw [List.mem_singleton] at hq; rw [hq]; rfl)).1
  have hf : ∀ k, oki k → k < W.heap.size → (W.setCell ⟨g, m * 10 + 7, none⟩ (.string a)).heap[k]? = W.heap[k]? := fun k hk _ => Below.heap_setCell W _ _ k (h.far k hk)
  exact ⟨hH, h.lt, h.base, h.own, h.far, Kd.R_step h.h3 hf, Kd.R_step h.h4 hf, Kd.R_step h.h5 hf, Kd.R_step h.h8 hf, Kd.R_step h.h9 hf, below_set h.hB h.base, Kept.setCell h.hK (.inl h.own) _⟩
theorem El_row3 (h : El w0 w P0 W g n cap xs m x oki v3 v4 v5 v8 v9) {oku : Nat → Prop} {l : List Int} (hr : Kd.R (Kd.int .u32) 61 w1 w0.heap.size oku v3 l) (hb : Below w0.heap.size w0 w1) (hk : Kept W w1 (fun k => some k = v3.ownBlock)) : El w0 w P0 w1 g n cap xs m (⟨x.f0, x.f1, x.f2, l, x.f4, x.f5, x.f6, x.f7, x.f8, x.f9⟩ : S38) oki v3 v4 v5 v8 v9 :=
  ⟨Kd.H_step h.hH (fun k _ hn hlt => hk.2 k hlt (fun he => hn (h.h3.1 k he.symm))), h.lt, h.base, h.own, h.far, R_again rfl h.h3 hr, R_other rfl h.h4 h.h3 (by decide) hk, R_other rfl h.h5 h.h3 (by decide) hk, R_other rfl h.h8 h.h3 (by decide) hk, R_other rfl h.h9 h.h3 (by decide) hk, hb, Kept.then_ h.hK hk (fun k he => .inl (h.hH.1 k (h.h3.1 k he.symm)))⟩
theorem El_row4 (h : El w0 w P0 W g n cap xs m x oki v3 v4 v5 v8 v9) {oku : Nat → Prop} {l : List S63} (hr : Kd.R k63 63 w1 w0.heap.size oku v4 l) (hb : Below w0.heap.size w0 w1) (hk : Kept W w1 (fun k => some k = v4.ownBlock)) : El w0 w P0 w1 g n cap xs m (⟨x.f0, x.f1, x.f2, x.f3, l, x.f5, x.f6, x.f7, x.f8, x.f9⟩ : S38) oki v3 v4 v5 v8 v9 :=
  ⟨Kd.H_step h.hH (fun k _ hn hlt => hk.2 k hlt (fun he => hn (h.h4.1 k he.symm))), h.lt, h.base, h.own, h.far, R_other rfl h.h3 h.h4 (by decide) hk, R_again rfl h.h4 hr, R_other rfl h.h5 h.h4 (by decide) hk, R_other rfl h.h8 h.h4 (by decide) hk, R_other rfl h.h9 h.h4 (by decide) hk, hb, Kept.then_ h.hK hk (fun k he => .inl (h.hH.1 k (h.h4.1 k he.symm)))⟩
theorem El_row5 (h : El w0 w P0 W g n cap xs m x oki v3 v4 v5 v8 v9) {oku : Nat → Prop} {l : List S67} (hr : Kd.R k67 67 w1 w0.heap.size oku v5 l) (hb : Below w0.heap.size w0 w1) (hk : Kept W w1 (fun k => some k = v5.ownBlock)) : El w0 w P0 w1 g n cap xs m (⟨x.f0, x.f1, x.f2, x.f3, x.f4, l, x.f6, x.f7, x.f8, x.f9⟩ : S38) oki v3 v4 v5 v8 v9 :=
  ⟨Kd.H_step h.hH (fun k _ hn hlt => hk.2 k hlt (fun he => hn (h.h5.1 k he.symm))), h.lt, h.base, h.own, h.far, R_other rfl h.h3 h.h5 (by decide) hk, R_other rfl h.h4 h.h5 (by decide) hk, R_again rfl h.h5 hr, R_other rfl h.h8 h.h5 (by decide) hk, R_other rfl h.h9 h.h5 (by decide) hk, hb, Kept.then_ h.hK hk (fun k he => .inl (h.hH.1 k (h.h5.1 k he.symm)))⟩
theorem El_row8 (h : El w0 w P0 W g n cap xs m x oki v3 v4 v5 v8 v9) {oku : Nat → Prop} {l : List Int} (hr : Kd.R (Kd.int .i64) 3 w1 w0.heap.size oku v8 l) (hb : Below w0.heap.size w0 w1) (hk : Kept W w1 (fun k => some k = v8.ownBlock)) : El w0 w P0 w1 g n cap xs m (⟨x.f0, x.f1, x.f2, x.f3, x.f4, x.f5, x.f6, x.f7, l, x.f9⟩ : S38) oki v3 v4 v5 v8 v9 :=
  ⟨Kd.H_step h.hH (fun k _ hn hlt => hk.2 k hlt (fun he => hn (h.h8.1 k he.symm))), h.lt, h.base, h.own, h.far, R_other rfl h.h3 h.h8 (by decide) hk, R_other rfl h.h4 h.h8 (by decide) hk, R_other rfl h.h5 h.h8 (by decide) hk, R_again rfl h.h8 hr, R_other rfl h.h9 h.h8 (by decide) hk, hb, Kept.then_ h.hK hk (fun k he => .inl (h.hH.1 k (h.h8.1 k he.symm)))⟩
theorem El_row9 (h : El w0 w P0 W g n cap xs m x oki v3 v4 v5 v8 v9) {oku : Nat → Prop} {l : List ByteArray} (hr : Kd.R Kd.string 9 w1 w0.heap.size oku v9 l) (hb : Below w0.heap.size w0 w1) (hk : Kept W w1 (fun k => some k = v9.ownBlock)) : El w0 w P0 w1 g n cap xs m (⟨x.f0, x.f1, x.f2, x.f3, x.f4, x.f5, x.f6, x.f7, x.f8, l⟩ : S38) oki v3 v4 v5 v8 v9 :=
  ⟨Kd.H_step h.hH (fun k _ hn hlt => hk.2 k hlt (fun he => hn (h.h9.1 k he.symm))), h.lt, h.base, h.own, h.far, R_other rfl h.h3 h.h9 (by decide) hk, R_other rfl h.h4 h.h9 (by decide) hk, R_other rfl h.h5 h.h9 (by decide) hk, R_other rfl h.h8 h.h9 (by decide) hk, R_again rfl h.h9 hr, hb, Kept.then_ h.hK hk (fun k he => .inl (h.hH.1 k (h.h9.1 k he.symm)))⟩
end
def markProto (k : Nat) (x : S38) (a : Int) : Option (Int × S38) :=
  (laws_markUint32S.f k x.f3 (wrap64 (wrap64 (wrap64 (a + 1) + 1) + 1))).bind fun p3 =>
  (laws_markValueS.f k x.f4 p3.1).bind fun p4 =>
  (laws_markUpS.f k x.f5 p4.1).bind fun p5 =>
  (laws_markText.f k (wrap64 (p5.1 + 1))).bind fun t7 =>
  (laws_markIntS.f k x.f8 (wrap64 (wrap64 (p5.1 + 1) + 1))).bind fun p8 =>
  (laws_markStringS.f k x.f9 p8.1).bind fun p9 =>
  some (p9.1, (⟨a, decide (Int.tmod (wrap64 (a + 1)) 3 = 0), wrap64 (wrap64 (a + 1) + 1), p3.2, p4.2, p5.2, p5.1, t7, p8.2, p9.2⟩ : S38))
def laws_markProtoS.f (k : Nat) : List S38 → Int → Option (Int × List S38)
  | [], a => some (a, [])
  | x :: t, a => (markProto k x a).bind fun p => (laws_markProtoS.f k t p.1).bind fun q => some (q.1, p.2 :: q.2)
theorem markProto_some {k : Nat} {x : S38} {a r : Int} {y : S38} (h : markProto k x a = some (r, y)) : ∃ b3 l3 b4 l4 b5 l5 t7 b8 l8 l9,
    laws_markUint32S.f k x.f3 (wrap64 (wrap64 (wrap64 (a + 1) + 1) + 1)) = some (b3, l3) ∧ laws_markValueS.f k x.f4 b3 = some (b4, l4) ∧ laws_markUpS.f k x.f5 b4 = some (b5, l5) ∧ laws_markText.f k (wrap64 (b5 + 1)) = some t7 ∧
    laws_markIntS.f k x.f8 (wrap64 (wrap64 (b5 + 1) + 1)) = some (b8, l8) ∧ laws_markStringS.f k x.f9 b8 = some (r, l9) ∧
    y = (⟨a, decide (Int.tmod (wrap64 (a + 1)) 3 = 0), wrap64 (wrap64 (a + 1) + 1), l3, l4, l5, b5, t7, l8, l9⟩ : S38) := by
  unfold markProto at h
  obtain ⟨⟨b3, l3⟩, h3, h⟩ := Option.bind_eq_some_iff.mp h
  obtain ⟨⟨b4, l4⟩, h4, h⟩ := Option.bind_eq_some_iff.mp h
  obtain ⟨⟨b5, l5⟩, h5, h⟩ := Option.bind_eq_some_iff.mp h
  obtain ⟨t7, h7, h⟩ := Option.bind_eq_some_iff.mp h
  obtain ⟨⟨b8, l8⟩, h8, h⟩ := Option.bind_eq_some_iff.mp h
  obtain ⟨⟨b9, l9⟩, h9, h⟩ := Option.bind_eq_some_iff.mp h
  simp only [Option.some.injEq, Prod.mk.injEq] at h
  obtain ⟨rfl, rfl⟩ := h
  exact ⟨b3, l3, b4, l4, b5, l5, t7, b8, l8, l9, h3, h4, h5, h7, h8, h9, rfl⟩
theorem markL_cons {k : Nat} {x : S38} {t : List S38} {a r1 : Int} {r2 : List S38} (h : laws_markProtoS.f k (x :: t) a = some (r1, r2)) : ∃ b y t', markProto k x a = some (b, y) ∧ laws_markProtoS.f k t b = some (r1, t') ∧ r2 = y :: t' := by
  unfold laws_markProtoS.f at h
  obtain ⟨⟨b, y⟩, h1, h⟩ := Option.bind_eq_some_iff.mp h
  obtain ⟨⟨c, t'⟩, h2, h⟩ := Option.bind_eq_some_iff.mp h
  simp only [Option.some.injEq, Prod.mk.injEq] at h
  obtain ⟨rfl, rfl⟩ := h
  exact ⟨b, y, t', h1, h2, rfl⟩
theorem set_done {done t : List S38} {x y : S38} : (done ++ x :: t).set done.length y = (done ++ [y]) ++ t := by simp
theorem wrap_small {n : Nat} (h : n ≤ 9223372036854775806) : wrap64 ((n : Int) + 1) = ((n + 1 : Nat) : Int) := by
  unfold wrap64; omega
set_option maxHeartbeats 8000000 in
set_option maxRecDepth 100000 in
theorem laws_markProtoS.calls (k : Nat) (P0_ : Nat → Prop) (u9000_ : Value) (l0 : List (S38)) (a1 : Int) (r1 : Int) (r2 : List (S38)) (w0 w : World) (hB : Below w0.heap.size w0 w) (ho0 : Kd.S k38 38 w w0.heap.size P0_ u9000_ l0) (h : laws_markProtoS.f k l0 a1 = some (r1, r2)) :
    Calls Tryd.prog 16 #[u9000_, .int .i64 a1] w fun e w' => e = .returned (.int .i64 r1) ∧ Kd.S k38 38 w' w0.heap.size P0_ u9000_ r2 ∧ Below w0.heap.size w0 w' ∧ Kept w w' P0_ := by
  obtain ⟨A, cp, rfl⟩ := Kd.S_slice ho0
  have hl := (Kd.S_reads' ho0).2.2.2.1
  have HL := Aside0.mk hl
  have HO := Aside0.mk ho0
  have HK := Aside0.mk (Kept.refl w P0_)
  have HB := Aside0.mk hB
  have HM := Aside0.mk h
  clear hB ho0 h hl
  have hu44 := Tryd.underlying38
  go_enter Tryd.func16, Tryd.ntmps16
  go_wp2
  go_loopg [1, 5] l0.length (fun kq q1 q5 w' => ∃ (done rest rest' : List S38) (a : Int), q1 = .int .i64 a ∧ q5 = .int .i64 (done.length : Int) ∧ Aside0 (kq = rest.length) ∧ Aside0 ((done ++ rest).length = l0.length) ∧ Aside0 (laws_markProtoS.f k rest a = some (r1, rest')) ∧ Aside0 (r2 = done ++ rest') ∧ Aside0 (Kd.S k38 38 w' w0.heap.size P0_ (.slice A l0.length cp) (done ++ rest)) ∧ Aside0 (Kept w w' P0_) ∧ Aside0 (Below w0.heap.size w0 w'))
  case atStart => exact ⟨[], l0, r2, a1, rfl, rfl, ⟨rfl⟩, ⟨rfl⟩, HM, ⟨rfl⟩, HO, HK, HB⟩
  case round =>
    clear HM HO HK HB
    obtain ⟨done, rest, rest', a, rfl, rfl, HQ, HN, HM, HR, HO, HK, HB⟩ := hrel
    rcases rest with _ | ⟨x, t⟩
    · have hd : done.length = l0.length := by have := HN.out; simpa using this
      have hc : decide ((done.length : Int) < (l0.length : Int)) = false := decide_eq_false (by omega)
      have hc2 : ((done.length : Int) < (l0.length : Int)) = False := eq_false (by omega)
      have hc3 : (done.length < l0.length) = False := eq_false (by omega)
      clear hd
      obtain ⟨e1, e2⟩ : a = r1 ∧ rest' = [] := by
        have := HM.out
        simp only [laws_markProtoS.f, Option.some.injEq, Prod.mk.injEq] at this
        exact ⟨this.1, this.2.symm⟩
      subst e1
      have HO' : Kd.S k38 38 wr w0.heap.size P0_ (.slice A l0.length cp) r2 := by
        rw [HR.out, e2]; exact HO.out
      have HO := Aside0.mk HO'
      clear HO' e2
      go_wp2
      go_ret
      exact ⟨by first | rfl | (simp; done), HO.out, HB.out, HK.out⟩
    · obtain ⟨b, y, t', hM1, hM2, hM3⟩ := markL_cons HM.out
      obtain ⟨b3, l3, b4, l4, b5, l5, t7, b8, l8, l9, m3, m4, m5, m7, m8, m9, hy⟩ := markProto_some hM1
      have HN' := HN.out
      rw [List.length_append, List.length_cons] at HN'
      obtain ⟨m, hm⟩ : ∃ m, m = done.length := ⟨_, rfl⟩
      obtain ⟨g, cap, eo, gb, gl, gc⟩ := Kd.S_form HO.out (by rw [List.length_append, List.length_cons]; omega)
      injection eo with ea en ec
      subst ea
      have HS : Kd.S k38 38 wr w0.heap.size P0_ (.slice (some ⟨g, 0, none⟩) l0.length cp) (done ++ x :: t) := HO.out
      obtain ⟨oki, v3, v4, v5, v8, v9, hE⟩ := El_open (m := m) (x := x) HS (by omega) (by rw [hm, List.getElem?_append_right (Nat.le_refl _), Nat.sub_self]; rfl) HB.out HK.out
      have HE := Aside0.mk hE
      obtain ⟨hx0, hx1, hx2, hx3, hx4, hx5, hx6, hx7, hx8, hx9, hf0, hf1, hf2, hf3, hf4, hf5, hf6, hf7, hf8, hf9⟩ := El_cells HE.out
      have hc : decide ((done.length : Int) < (l0.length : Int)) = true := decide_eq_true (by omega)
      have hc2 : ((done.length : Int) < (l0.length : Int)) = True := eq_true (by omega)
      have hc3 : (done.length < l0.length) = True := eq_true (by omega)
      have M3 := Aside0.mk m3
      have M4 := Aside0.mk m4
      have M5 := Aside0.mk m5
      have M7 := Aside0.mk m7
      have M8 := Aside0.mk m8
      have M9 := Aside0.mk m9
      have HY := Aside0.mk hy
      have HM2 := Aside0.mk hM2
      have HM3 := Aside0.mk hM3
      have HNm := Aside0.mk hm
      clear hM1 hM2 hM3 m3 m4 m5 m7 m8 m9 hy hE HO HB HK HS HM en ec gc gb gl
      rw [← hm] at hc hc2 hc3 ⊢
      have h0m : (0 ≤ (m : Int)) = True := eq_true (by omega)
      clear HN' hm
      go_wp2_with (first | ((with_reducible refine gate_store (t := 3) (p := 16) rfl ?_); refine store_event (t := 3) (p := 16) (v := ?vo_wq1) (w1 := (wr.setCell ⟨g, m * 10, none⟩ (.int .i64 a))) ?hg ?ho ?hn ?hr ?_; (case ho => rfl); (case hg => rfl); (case hn => rfl); (case hr => first | (go_simp; done) | (go_simp; rfl)); intro wq1 hw; have n0_ := Aside0.mk (show El w0 w P0_ wq1 g _ _ _ m _ _ _ _ _ _ _ from hw ▸ El_set0 HE.out a); clear hw; clear HE hx0 hx1 hx2 hx3 hx4 hx5 hx6 hx7 hx8 hx9 hf0 hf1 hf2 hf3 hf4 hf5 hf6 hf7 hf8 hf9; have HE := n0_; clear n0_; obtain ⟨hx0, hx1, hx2, hx3, hx4, hx5, hx6, hx7, hx8, hx9, hf0, hf1, hf2, hf3, hf4, hf5, hf6, hf7, hf8, hf9⟩ := El_cells HE.out) | ((with_reducible refine gate_store (t := 4) (p := 25) rfl ?_); refine store_event (t := 4) (p := 25) (v := ?vo_wq2) (w1 := (wq1.setCell ⟨g, m * 10 + 1, none⟩ (.bool (decide (Int.tmod (wrap64 (a + 1)) 3 = 0))))) ?hg ?ho ?hn ?hr ?_; (case ho => rfl); (case hg => rfl); (case hn => rfl); (case hr => first | (go_simp; done) | (go_simp; rfl)); intro wq2 hw; have n0_ := Aside0.mk (show El w0 w P0_ wq2 g _ _ _ m _ _ _ _ _ _ _ from hw ▸ El_set1 HE.out (decide (Int.tmod (wrap64 (a + 1)) 3 = 0))); clear hw; clear HE hx0 hx1 hx2 hx3 hx4 hx5 hx6 hx7 hx8 hx9 hf0 hf1 hf2 hf3 hf4 hf5 hf6 hf7 hf8 hf9; have HE := n0_; clear n0_; obtain ⟨hx0, hx1, hx2, hx3, hx4, hx5, hx6, hx7, hx8, hx9, hf0, hf1, hf2, hf3, hf4, hf5, hf6, hf7, hf8, hf9⟩ := El_cells HE.out) | ((with_reducible refine gate_store (t := 3) (p := 32) rfl ?_); refine store_event (t := 3) (p := 32) (v := ?vo_wq3) (w1 := (wq2.setCell ⟨g, m * 10 + 2, none⟩ (.int .i64 (wrap64 (wrap64 (a + 1) + 1))))) ?hg ?ho ?hn ?hr ?_; (case ho => rfl); (case hg => rfl); (case hn => rfl); (case hr => first | (go_simp; done) | (go_simp; rfl)); intro wq3 hw; have n0_ := Aside0.mk (show El w0 w P0_ wq3 g _ _ _ m _ _ _ _ _ _ _ from hw ▸ El_set2 HE.out (wrap64 (wrap64 (a + 1) + 1))); clear hw; clear HE hx0 hx1 hx2 hx3 hx4 hx5 hx6 hx7 hx8 hx9 hf0 hf1 hf2 hf3 hf4 hf5 hf6 hf7 hf8 hf9; have HE := n0_; clear n0_; obtain ⟨hx0, hx1, hx2, hx3, hx4, hx5, hx6, hx7, hx8, hx9, hf0, hf1, hf2, hf3, hf4, hf5, hf6, hf7, hf8, hf9⟩ := El_cells HE.out) | ((with_reducible refine gate_callee (f := 43) rfl ?_); refine goesL_ (some 41) rfl rfl Tryd.func43 (by kernel_rfl) rfl #[v3, .int .i64 (wrap64 (wrap64 (wrap64 (a + 1) + 1) + 1))] rfl (by (try simp only [List.map_toArray, List.map_cons, List.map_nil]); first | done | rfl | (simp only [List.length_drop, List.length_take]; rfl)) ?_; (with_reducible refine (laws_markUint32S.calls k (fun k_ => some k_ = v3.ownBlock) v3 _ (wrap64 (wrap64 (wrap64 (a + 1) + 1) + 1)) _ _ w0 _ HE.out.hB (Kd.R_tight rfl HE.out.h3) M3.out).mono ?_); rintro e wq4 ⟨rfl, ho_, hb, hk⟩; refine ⟨_, rfl, ?_⟩; have n0_ := Aside0.mk (show El w0 w P0_ wq4 g _ _ _ m _ _ _ _ _ _ _ from El_row3 HE.out ho_ hb hk); clear ho_ hb hk; clear HE hx0 hx1 hx2 hx3 hx4 hx5 hx6 hx7 hx8 hx9 hf0 hf1 hf2 hf3 hf4 hf5 hf6 hf7 hf8 hf9; have HE := n0_; clear n0_; obtain ⟨hx0, hx1, hx2, hx3, hx4, hx5, hx6, hx7, hx8, hx9, hf0, hf1, hf2, hf3, hf4, hf5, hf6, hf7, hf8, hf9⟩ := El_cells HE.out) | ((with_reducible refine gate_callee (f := 44) rfl ?_); refine goesL_ (some 48) rfl rfl Tryd.func44 (by kernel_rfl) rfl #[v4, .int .i64 (b3)] rfl (by (try simp only [List.map_toArray, List.map_cons, List.map_nil]); first | done | rfl | (simp only [List.length_drop, List.length_take]; rfl)) ?_; (with_reducible refine (laws_markValueS.calls k (fun k_ => some k_ = v4.ownBlock) v4 _ (b3) _ _ w0 _ HE.out.hB (Kd.R_tight rfl HE.out.h4) M4.out).mono ?_); rintro e wq5 ⟨rfl, ho_, hb, hk⟩; refine ⟨_, rfl, ?_⟩; have n0_ := Aside0.mk (show El w0 w P0_ wq5 g _ _ _ m _ _ _ _ _ _ _ from El_row4 HE.out ho_ hb hk); clear ho_ hb hk; clear HE hx0 hx1 hx2 hx3 hx4 hx5 hx6 hx7 hx8 hx9 hf0 hf1 hf2 hf3 hf4 hf5 hf6 hf7 hf8 hf9; have HE := n0_; clear n0_; obtain ⟨hx0, hx1, hx2, hx3, hx4, hx5, hx6, hx7, hx8, hx9, hf0, hf1, hf2, hf3, hf4, hf5, hf6, hf7, hf8, hf9⟩ := El_cells HE.out) | ((with_reducible refine gate_callee (f := 45) rfl ?_); refine goesL_ (some 55) rfl rfl Tryd.func45 (by kernel_rfl) rfl #[v5, .int .i64 (b4)] rfl (by (try simp only [List.map_toArray, List.map_cons, List.map_nil]); first | done | rfl | (simp only [List.length_drop, List.length_take]; rfl)) ?_; (with_reducible refine (laws_markUpS.calls k (fun k_ => some k_ = v5.ownBlock) v5 _ (b4) _ _ w0 _ HE.out.hB (Kd.R_tight rfl HE.out.h5) M5.out).mono ?_); rintro e wq6 ⟨rfl, ho_, hb, hk⟩; refine ⟨_, rfl, ?_⟩; have n0_ := Aside0.mk (show El w0 w P0_ wq6 g _ _ _ m _ _ _ _ _ _ _ from El_row5 HE.out ho_ hb hk); clear ho_ hb hk; clear HE hx0 hx1 hx2 hx3 hx4 hx5 hx6 hx7 hx8 hx9 hf0 hf1 hf2 hf3 hf4 hf5 hf6 hf7 hf8 hf9; have HE := n0_; clear n0_; obtain ⟨hx0, hx1, hx2, hx3, hx4, hx5, hx6, hx7, hx8, hx9, hf0, hf1, hf2, hf3, hf4, hf5, hf6, hf7, hf8, hf9⟩ := El_cells HE.out) | ((with_reducible refine gate_store (t := 3) (p := 60) rfl ?_); refine store_event (t := 3) (p := 60) (v := ?vo_wq7) (w1 := (wq6.setCell ⟨g, m * 10 + 6, none⟩ (.int .i64 b5))) ?hg ?ho ?hn ?hr ?_; (case ho => rfl); (case hg => rfl); (case hn => rfl); (case hr => first | (go_simp; done) | (go_simp; rfl)); intro wq7 hw; have n0_ := Aside0.mk (show El w0 w P0_ wq7 g _ _ _ m _ _ _ _ _ _ _ from hw ▸ El_set6 HE.out b5); clear hw; clear HE hx0 hx1 hx2 hx3 hx4 hx5 hx6 hx7 hx8 hx9 hf0 hf1 hf2 hf3 hf4 hf5 hf6 hf7 hf8 hf9; have HE := n0_; clear n0_; obtain ⟨hx0, hx1, hx2, hx3, hx4, hx5, hx6, hx7, hx8, hx9, hf0, hf1, hf2, hf3, hf4, hf5, hf6, hf7, hf8, hf9⟩ := El_cells HE.out) | ((with_reducible refine gate_callee (f := 46) rfl ?_); refine goesL_ (some 66) rfl rfl Tryd.func46 (by kernel_rfl) rfl #[.int .i64 (wrap64 (b5 + 1))] rfl (by (try simp only [List.map_toArray, List.map_cons, List.map_nil]); first | done | rfl) ?_; (with_reducible refine (laws_markText.calls k (wrap64 (b5 + 1)) t7 _ M7.out).mono ?_); rintro e wq8 ⟨rfl, hb⟩; refine ⟨_, rfl, ?_⟩; have n0_ := Aside0.mk (show El w0 w P0_ wq8 g _ _ _ m _ _ _ _ _ _ _ from El_below HE.out hb); clear hb; clear HE hx0 hx1 hx2 hx3 hx4 hx5 hx6 hx7 hx8 hx9 hf0 hf1 hf2 hf3 hf4 hf5 hf6 hf7 hf8 hf9; have HE := n0_; clear n0_; obtain ⟨hx0, hx1, hx2, hx3, hx4, hx5, hx6, hx7, hx8, hx9, hf0, hf1, hf2, hf3, hf4, hf5, hf6, hf7, hf8, hf9⟩ := El_cells HE.out) | ((with_reducible refine gate_store (t := 9) (p := 68) rfl ?_); refine store_event (t := 9) (p := 68) (v := ?vo_wq9) (w1 := (wq8.setCell ⟨g, m * 10 + 7, none⟩ (.string t7))) ?hg ?ho ?hn ?hr ?_; (case ho => rfl); (case hg => rfl); (case hn => rfl); (case hr => first | (go_simp; done) | (go_simp; rfl)); intro wq9 hw; have n0_ := Aside0.mk (show El w0 w P0_ wq9 g _ _ _ m _ _ _ _ _ _ _ from hw ▸ El_set7 HE.out t7); clear hw; clear HE hx0 hx1 hx2 hx3 hx4 hx5 hx6 hx7 hx8 hx9 hf0 hf1 hf2 hf3 hf4 hf5 hf6 hf7 hf8 hf9; have HE := n0_; clear n0_; obtain ⟨hx0, hx1, hx2, hx3, hx4, hx5, hx6, hx7, hx8, hx9, hf0, hf1, hf2, hf3, hf4, hf5, hf6, hf7, hf8, hf9⟩ := El_cells HE.out) | ((with_reducible refine gate_callee (f := 47) rfl ?_); refine goesL_ (some 77) rfl rfl Tryd.func47 (by kernel_rfl) rfl #[v8, .int .i64 (wrap64 (wrap64 (b5 + 1) + 1))] rfl (by (try simp only [List.map_toArray, List.map_cons, List.map_nil]); first | done | rfl | (simp only [List.length_drop, List.length_take]; rfl)) ?_; (with_reducible refine (laws_markIntS.calls k (fun k_ => some k_ = v8.ownBlock) v8 _ (wrap64 (wrap64 (b5 + 1) + 1)) _ _ w0 _ HE.out.hB (Kd.R_tight rfl HE.out.h8) M8.out).mono ?_); rintro e wq10 ⟨rfl, ho_, hb, hk⟩; refine ⟨_, rfl, ?_⟩; have n0_ := Aside0.mk (show El w0 w P0_ wq10 g _ _ _ m _ _ _ _ _ _ _ from El_row8 HE.out ho_ hb hk); clear ho_ hb hk; clear HE hx0 hx1 hx2 hx3 hx4 hx5 hx6 hx7 hx8 hx9 hf0 hf1 hf2 hf3 hf4 hf5 hf6 hf7 hf8 hf9; have HE := n0_; clear n0_; obtain ⟨hx0, hx1, hx2, hx3, hx4, hx5, hx6, hx7, hx8, hx9, hf0, hf1, hf2, hf3, hf4, hf5, hf6, hf7, hf8, hf9⟩ := El_cells HE.out) | ((with_reducible refine gate_callee (f := 48) rfl ?_); refine goesL_ (some 84) rfl rfl Tryd.func48 (by kernel_rfl) rfl #[v9, .int .i64 (b8)] rfl (by (try simp only [List.map_toArray, List.map_cons, List.map_nil]); first | done | rfl | (simp only [List.length_drop, List.length_take]; rfl)) ?_; (with_reducible refine (laws_markStringS.calls k (fun k_ => some k_ = v9.ownBlock) v9 _ (b8) _ _ w0 _ HE.out.hB (Kd.R_tight rfl HE.out.h9) M9.out).mono ?_); rintro e wq11 ⟨rfl, ho_, hb, hk⟩; refine ⟨_, rfl, ?_⟩; have n0_ := Aside0.mk (show El w0 w P0_ wq11 g _ _ _ m _ _ _ _ _ _ _ from El_row9 HE.out ho_ hb hk); clear ho_ hb hk; clear HE hx0 hx1 hx2 hx3 hx4 hx5 hx6 hx7 hx8 hx9 hf0 hf1 hf2 hf3 hf4 hf5 hf6 hf7 hf8 hf9; have HE := n0_; clear n0_; obtain ⟨hx0, hx1, hx2, hx3, hx4, hx5, hx6, hx7, hx8, hx9, hf0, hf1, hf2, hf3, hf4, hf5, hf6, hf7, hf8, hf9⟩ := El_cells HE.out))
      go_roundg t.length
      case measure => have := HQ.out; simp only [List.length_cons] at this; omega
      case rel => exact ⟨done ++ [y], t, t', b, rfl, by have h1 := HL.out; have h2 := HN.out; simp only [List.length_append, List.length_cons] at h2; first | (rw [List.length_append, List.length_singleton, ← HNm.out, ← wrap_small (n := m) (by have := HNm.out; omega)]; done) | (rw [List.length_append, List.length_singleton, ← HNm.out, ← wrap_small (n := m) (by have := HNm.out; omega)]; rfl), ⟨rfl⟩, ⟨by have := HN.out; simp at this ⊢; omega⟩, HM2, ⟨by rw [HR.out, HM3.out]; simp⟩, ⟨by have := El_close HE.out; rw [HNm.out, set_done] at this; rw [HY.out]; exact this⟩, ⟨HE.out.hK⟩, ⟨HE.out.hB⟩⟩
set_option maxHeartbeats 1000000 in
theorem laws_markChunk.calls (k : Nat) (P0_ : Nat → Prop) (u : Value) (l0 : List (S38)) (a1 : Int) (r1 : Int) (r2 : List (S38)) (w0 w : World) (hB : Below w0.heap.size w0 w) (ho0 : Kd.S k38 38 w w0.heap.size P0_ u l0) (h : laws_markProtoS.f k l0 a1 = some (r1, r2)) :
    Calls Tryd.prog 7 #[.agg #[u], .int .i64 a1] w fun e w' => e = .returned (.int .i64 r1) ∧ Kd.S k38 38 w' w0.heap.size P0_ u r2 ∧ Below w0.heap.size w0 w' ∧ Kept w w' P0_ := by
  have hu24 := Tryd.underlying24
  obtain ⟨A, c, rfl⟩ := Kd.S_slice ho0
  have HO := Aside0.mk ho0
  have HB := Aside0.mk hB
  have HM := Aside0.mk h
  have HK := Aside0.mk (Kept.refl w P0_)
  clear ho0 hB h
  go_enter Tryd.func7, Tryd.ntmps7
  go_wp2_with (first
    | ((with_reducible refine gate_dst (N := 2) rfl ?_); refine box_event ?hg (N := 2) ?hd (cs := #[.slice A l0.length c]) (t := 24) ?hr ?_; (case hd => rfl); (case hg => rfl); (case hr => first | (go_simp; done) | (go_simp; rfl)); intro gb hg w1 hbox hb; have n0_ := Aside0.mk (Kd.S_below HO.out hb); have n1_ := Aside0.mk (below_step HB.out hb); have n2_ := Aside0.mk (Kept.below HK.out hb); clear HO HB HK; have HO := n0_; have HB := n1_; have HK := n2_; clear n0_ n1_ n2_; have hcz : w1.cell? ⟨gb, 0, none⟩ = some (.slice A l0.length c) := (blk_cell hbox 0).trans rfl; clear hb hbox hg)
    | ((with_reducible refine gate_callee (f := 16) rfl ?_); refine goesL_ (some 8) rfl rfl Tryd.func16 (by kernel_rfl) rfl #[.slice A l0.length c, .int .i64 a1] rfl (by (try simp only [List.map_toArray, List.map_cons, List.map_nil]); first | done | rfl | (simp only [List.length_drop, List.length_take]; rfl)) ?_; (with_reducible refine (laws_markProtoS.calls k P0_ _ l0 a1 r1 r2 w0 _ HB.out HO.out HM.out).mono ?_); rintro e w2 ⟨rfl, ho_, hb, hk⟩; refine ⟨_, rfl, ?_⟩; have n0_ := Aside0.mk ho_; have n1_ := Aside0.mk hb; have n2_ := Aside0.mk (Kept.then_ HK.out hk (fun _ h => .inl h)); clear HO HB HK; have HO := n0_; have HB := n1_; have HK := n2_; clear n0_ n1_ n2_ ho_ hb hk hcz))
  go_ret
  exact ⟨by first | rfl | (simp; done), HO.out, HB.out, HK.out⟩
structure Held (w W : World) (g : Nat) (v : Value) (o : Nat → Prop) (l : List S38) : Prop where
  box : W.heap[g]? = some (.cells #[v] 24 (0, 0))
  row : Kd.S k38 38 W w.heap.size o v l
  lt : ∀ k, o k → k < W.heap.size
section
variable {w W W0 W1 W2 : World} {g g' : Nat} {v u z : Value} {o oX : Nat → Prop} {l l' : List S38}
theorem Held.below (h : Held w W g v o l) (hb : Below W.heap.size W W1) : Held w W1 g v o l :=
  ⟨(hb.block g (blk_lt h.box)).trans h.box, Kd.S_below h.row hb, fun k hk => Nat.lt_of_lt_of_le (h.lt k hk) hb.size⟩
theorem Held.kept (h : Held w W g v o l) (hk : Kept W W1 oX) (hd : ∀ k, o k → ¬ oX k) (hg : ¬ oX g) : Held w W1 g v o l :=
  ⟨(hk.2 g (blk_lt h.box) hg).trans h.box, Kd.S_step h.row (fun k ho hlt => hk.2 k hlt (hd k ho)), fun k ho => Nat.lt_of_lt_of_le (h.lt k ho) hk.1⟩
theorem Held.marked (h : Held w W g v o l) (hk : Kept W W1 o) (hg : ¬ o g) (hs : Kd.S k38 38 W1 w.heap.size o v l') : Held w W1 g v o l' :=
  ⟨(hk.2 g (blk_lt h.box) hg).trans h.box, hs, fun k ho => Nat.lt_of_lt_of_le (h.lt k ho) hk.1⟩
theorem Held.made (h : Held w W1 g' v o l) (hg : g = W1.heap.size) (hb : Below W1.heap.size W1 W2) : Held w (W2.setCell ⟨g, 0, none⟩ u) g' v o l := by
  have h1 := blk_lt h.box
  refine ⟨(Below.heap_setCell W2 _ u g' (by show g' ≠ g; omega)).trans ((hb.block g' h1).trans h.box), ?_, fun k hk => ?_⟩
  · exact Kd.S_step h.row (fun k ho hlt => (Below.heap_setCell W2 _ u k (by show k ≠ g; omega)).trans (hb.block k hlt))
  · have := h.lt k hk
    have h2 := hb.size
    have h3 : (W2.setCell ⟨g, 0, none⟩ u).heap.size = W2.heap.size := by simp
    omega
theorem Held.new (h0 : w.heap.size ≤ W0.heap.size) (ho : Kd.S k38 38 W1 W0.heap.size (fun _ => True) v l) (hb1 : Below W0.heap.size W0 W1) (hg : g = W1.heap.size) (hbox : W2.heap[g]? = some (.cells #[z] 24 (0, 0))) (hb2 : Below W1.heap.size W1 W2) :
    ∃ o, Held w (W2.setCell ⟨g, 0, none⟩ v) g v o l ∧ ∀ k, o k → W0.heap.size ≤ k ∧ k < g := by
  have hS : Kd.S k38 38 W1 W0.heap.size (fun k => W0.heap.size ≤ k ∧ k < g) v l := Kd.S_mono (Kd.S_bound ho) (fun k hk => ⟨hk.2.1, by rw [hg]; exact hk.2.2.1⟩)
  have hgl := blk_lt hbox
  refine ⟨fun k => W0.heap.size ≤ k ∧ k < g, ⟨?_, ?_, fun k hk => ?_⟩, fun k hk => hk⟩
  · exact blk_put (cs := #[z]) hbox 0 v rfl
  · exact Kd.S_lower (Kd.S_step hS (fun k hk hlt => (Below.heap_setCell W2 _ v k (by show k ≠ g; omega)).trans (hb2.block k hlt))) h0
  · have h3 : (W2.setCell ⟨g, 0, none⟩ v).heap.size = W2.heap.size := by simp
    omega
end
theorem Held.fresh {w W W1 : World} {v : Value} {l : List S38} (h0 : w.heap.size ≤ W.heap.size) (hb : Below W.heap.size W W1) (hS : Kd.S k38 38 W1 W.heap.size (fun _ => True) v l) :
    Held w (W1.alloc (.cells #[v] 24 (0, 0))) W1.heap.size v (fun k => W.heap.size ≤ k ∧ k < W1.heap.size) l :=
  ⟨blk_new W1 _, Kd.S_lower (Kd.S_alloc (Kd.S_mono (Kd.S_bound hS) (fun k hk => ⟨hk.2.1, hk.2.2.1⟩)) _) h0, fun k hk => by rw [World.size_alloc]; exact Nat.lt_succ_of_lt hk.2⟩
theorem Held.C {w W : World} {g n c : Nat} {A : Option Addr} {o : Nat → Prop} {l : List S38} (h : Held w W g (.slice A n c) o l) : Kd.C k38 W A l.length l ∧ l.length ≤ c := by
  obtain ⟨h1, h2, h3⟩ := Kd.S_reads' h.row
  subst h1
  exact ⟨h3, h2⟩
theorem held_call (kh : Nat) {A : Option Addr} {c n : Nat} {l : List S38} {m : Int} {W : World} (hn : l.length = n) (hC : Kd.C k38 W A l.length l ∧ l.length ≤ c) (hh : laws_heldChunk.f kh l 1 = some m) (hm0 : 0 ≤ m) :
    Calls Tryd.prog 8 #[.agg #[.slice A n c], .int .i64 1] W fun e w' => e = .returned (.int .i64 m) ∧ Below W.heap.size W w' := by
  subst hn
  exact laws_heldChunk.calls kh A c l 1 m W hC.1 hC.2 hh hm0
set_option maxRecDepth 100000 in
set_option maxHeartbeats 8000000 in
theorem lawShort (s : ByteArray) (w : World) (hs : ¬ s.size ≤ 1048576) : Calls Tryd.prog 3 #[.string s] w fun e w' => e = .returned (.bool true) ∧ Below w.heap.size w w' := by
  have d0 : decide ((s.size : Int) > 1048576) = true := decide_eq_true (by omega)
  have d1 : decide ((1048576 : Int) < (s.size : Int)) = true := decide_eq_true (by omega)
  have d2 : (1048576 : Int) < (s.size : Int) := by omega
  go_enter Tryd.func3, Tryd.ntmps3
  go_wp2
  go_ret
  exact ⟨rfl, Below.refl _ _⟩
set_option maxRecDepth 100000 in
set_option maxHeartbeats 8000000 in
theorem lawLoad (k ke km kh : Nat) (s : ByteArray) (w : World) (hk : SpOk k s) (hk8 : ∀ s : ByteArray, s.size ≤ 8 → ∃ r, impl_GetInt.f k s 0 = some r) (hg : GvOk s) (hs : s.size ≤ 1048576) (pf : Bool) (hp : strings_HasPrefix.f s ⟨#[27, 76, 82, 86, 1, 0]⟩ = some pf) (h6 : pf = true → 6 ≤ s.size)
    (hgl : w.cell? ⟨0, 0, none⟩ = some (.iface 111 (.agg #[.pointer (some ⟨1, 45, none⟩)]))) (r1 : List S38) (r2 : Int) (hr : rLoad k s = (r1, r2)) (heq : laws_eqChunk.f ke r1 r1 = some true) (m : Int) (rm : List S38) (hm : laws_markProtoS.f km r1 1 = some (m, rm)) (hl : rm.length = r1.length) (hh : laws_heldChunk.f kh rm 1 = some m) (hm0 : 0 ≤ m) :
    Calls Tryd.prog 3 #[.string s] w fun e w' => e = .returned (.bool true) ∧ Below w.heap.size w w' := by
  have hu24 := Tryd.underlying24
  have hz : s.size ≤ 140737488351232 := by omega
  have d0 : decide ((1048576 : Int) < (s.size : Int)) = false := decide_eq_false (by omega)
  have d2 : ¬ (1048576 : Int) < (s.size : Int) := by omega
  have e0 : decide (m < 0) = false := decide_eq_false (by omega)
  have HEQ := Aside0.mk heq
  have HMK := Aside0.mk hm
  have HHH := Aside0.mk hh
  have HLN := Aside0.mk hl
  have HP := Aside0.mk hp
  have H6 := Aside0.mk h6
  have HR := Aside0.mk hr
  have hmm : (m != m) = false := by simp
  have hrr : (r2 != r2) = false := by simp
  clear heq hm hh hl hp h6 hr hs
  have HW := Aside0.mk (Below.refl w.heap.size w)
  go_enter Tryd.func3, Tryd.ntmps3
  go_wp2_with (first
    | (go_at_call 4; have hq := HW; clear hq; refine (spLoad0 k s hk _ hg hz pf HP.out H6.out r1 r2 HR.out).mono ?_; rintro r w1 ⟨v0, rfl, hS, hb⟩; obtain ⟨A3, q3, rfl⟩ := Kd.S_slice hS; have H3 := Aside0.mk (Held.fresh (Nat.le_refl _) hb hS); have B3 := Aside0.mk (below_alloc hb (.cells #[.slice A3 r1.length q3] 24 (0, 0))); have O3 := Aside0.mk (show w.heap.size ≤ w1.heap.size from hb.size); clear hS hb HW)
    | (go_at_call 5; have hq := B3; clear hq; refine (load0 k hk8 s _ hg hz pf HP.out H6.out (glob_at B3.out hgl) r1 r2 HR.out).mono ?_; rintro r w2 ⟨v0, rfl, hS, hb⟩; obtain ⟨A5, q5, rfl⟩ := Kd.S_slice hS; have H5 := Aside0.mk (Held.fresh (w := w) B3.out.size hb hS); have G3 := Aside0.mk (H3.out.below hb); have c3 : w2.cell? ⟨w1.heap.size, 0, none⟩ = some (.slice A3 r1.length q3) := (blk_cell G3.out.box 0).trans rfl; have l3 : w1.heap.size < w2.heap.size := blk_lt G3.out.box; have ne3 : ¬ w2.heap.size = w1.heap.size := Nat.ne_of_gt l3; have B5 := Aside0.mk (below_alloc (below_step B3.out hb) (.cells #[.slice A5 r1.length q5] 24 (0, 0))); have L5 := Aside0.mk l3; have N3 := Aside0.mk (G3.out.below (below_new (.cells #[.slice A5 r1.length q5] 24 (0, 0)))); have O5 := Aside0.mk (show (w1.alloc (.cells #[.slice A3 r1.length q3] 24 (0, 0))).heap.size ≤ w2.heap.size from hb.size); clear hS hb B3 H3 G3)
    | (go_at_call 6; have hq := B5; clear hq; refine (laws_eqChunk.calls ke A5 q5 r1 A3 q3 r1 true _ H5.out.C.1 H5.out.C.2 N3.out.C.1 N3.out.C.2 HEQ.out rfl).mono ?_; rintro r w4 ⟨rfl, hb⟩; have H5' := Aside0.mk (H5.out.below hb); have H3' := Aside0.mk (N3.out.below hb); have B6 := Aside0.mk (below_step B5.out hb); clear c3 l3; have c3 : w4.cell? ⟨w1.heap.size, 0, none⟩ = some (.slice A3 r1.length q3) := (blk_cell H3'.out.box 0).trans rfl; have c5 : w4.cell? ⟨w2.heap.size, 0, none⟩ = some (.slice A5 r1.length q5) := (blk_cell H5'.out.box 0).trans rfl; clear hb B5 H5 N3)
    | (go_at_call 7; have hq := B6; clear hq; refine (laws_markChunk.calls km _ _ r1 1 m rm w _ B6.out H5'.out.row HMK.out).mono ?_; rintro r w5 ⟨rfl, hS, hb, hkp⟩; have H5m := Aside0.mk (H5'.out.marked hkp (fun h => Nat.lt_irrefl _ h.2) hS); have H3m := Aside0.mk (H3'.out.kept hkp (fun k_ h3 h5 => by have h1 := h3.2; have h2 := h5.1; rw [World.size_alloc] at h2; omega) (fun h => by have h2 := h.1; rw [World.size_alloc] at h2; omega)); have B7 := Aside0.mk hb; clear c3 c5; have c3 : w5.cell? ⟨w1.heap.size, 0, none⟩ = some (.slice A3 r1.length q3) := (blk_cell H3m.out.box 0).trans rfl; have c5 : w5.cell? ⟨w2.heap.size, 0, none⟩ = some (.slice A5 r1.length q5) := (blk_cell H5m.out.box 0).trans rfl; clear hS hb hkp B6 H5' H3')
    | (go_at_call 8; have hq := B7; clear hq; refine (held_call kh HLN.out H5m.out.C HHH.out hm0).mono ?_; rintro r w6 ⟨rfl, hb⟩; have H3n := Aside0.mk (H3m.out.below hb); have B8 := Aside0.mk (below_step B7.out hb); clear c3 c5; have c3 : w6.cell? ⟨w1.heap.size, 0, none⟩ = some (.slice A3 r1.length q3) := (blk_cell H3n.out.box 0).trans rfl; clear hb B7 H5m H3m)
    | (go_at_call 5; have hq := B8; clear hq; refine (load0 k hk8 s _ hg hz pf HP.out H6.out (glob_at B8.out hgl) r1 r2 HR.out).mono ?_; rintro r w7 ⟨v0, rfl, hS, hb⟩; obtain ⟨A9, q9, rfl⟩ := Kd.S_slice hS; have H9 := Aside0.mk (Held.fresh (w := w) B8.out.size hb hS); have G3 := Aside0.mk (H3n.out.below hb); clear c3 ne3; have c3 : w7.cell? ⟨w1.heap.size, 0, none⟩ = some (.slice A3 r1.length q3) := (blk_cell G3.out.box 0).trans rfl; have l3 : w1.heap.size < w7.heap.size := blk_lt G3.out.box; have ne3 : ¬ w7.heap.size = w1.heap.size := Nat.ne_of_gt l3; have B9 := Aside0.mk (below_alloc (below_step B8.out hb) (.cells #[.slice A9 r1.length q9] 24 (0, 0))); have N3 := Aside0.mk (G3.out.below (below_new (.cells #[.slice A9 r1.length q9] 24 (0, 0)))); clear hS hb B8 H3n G3)
    | (go_at_call 6; have hq := B9; clear hq; refine (laws_eqChunk.calls ke A9 q9 r1 A3 q3 r1 true _ H9.out.C.1 H9.out.C.2 N3.out.C.1 N3.out.C.2 HEQ.out rfl).mono ?_; rintro r w8 ⟨rfl, hb⟩; have BA := Aside0.mk (below_step B9.out hb); clear hb B9 H9 N3))
  refine bodyPost_ret (results_tmp rfl _ _ _) rfl ?_
  exact ⟨rfl, BA.out⟩
end Go.Proofs.YtiekodnojmkfaaaDoor.PFnExactLoad
