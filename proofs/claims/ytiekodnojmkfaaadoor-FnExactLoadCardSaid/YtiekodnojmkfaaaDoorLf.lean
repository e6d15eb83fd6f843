import Derived.Tactics2
import Derived.Deep.DeepCutAuto
import Derived.Deep.CutBlock
import Derived.Shelf.RegionOpenPlain
import Derived.Shelf.Abstract
import Derived.Shelf.RegionOpen
import Derived.WalkKit
import Derived.OwnWalkIn
import Derived.TacticsInMore
import Derived.LoopNIn
import Derived.LoopIn
import Derived.Laws.EntriesVeiled
import Derived.LoopN
import Derived.WalkLawsBesides
import Derived.Test.YtiekodnojmkfaaaDoorLd
namespace Go.Proofs.YtiekodnojmkfaaaDoor.PFnExactLoad
open Go.RowKit Go.Proofs.YtiekodnojmkfaaaDoorW.PrintWords Go.Proofs.YtiekodnojmkfaaaDoorW.PrintLast Go.Proofs.YtiekodnojmkfaaaDoorW.PrintMore
attribute [local go_sem] max2_int min2_int max_two min_two max_three min_three max_four min_four
set_option linter.unusedVariables false
set_option linter.unusedSimpArgs false
structure QAt (s : ByteArray) (w : World) (a e : Int) (f0 : Int) (f1 : Bool) (f2 : Int) (f6 : Int) (l3 : List Int) (l4 : List S63) (l5 : List S67) (v3 v4 v5 : Value) (W : World) : Prop where
  bel : Below w.heap.size w W
  b2 : W.heap[w.heap.size]? = some (.cells #[.string s, .int .i64 a, .int .i64 e] 31 (0, 0))
  b4 : W.heap[w.heap.size + 1]? = some (.cells #[.int .i64 0, .bool false, .int .i64 0, .slice none 0 0, .slice none 0 0, .slice none 0 0, .int .i64 0, .string ⟨#[]⟩, .slice none 0 0, .slice none 0 0] 38 (0, 0))
  b5 : W.heap[w.heap.size + 1 + 1]? = some (.cells #[.string ⟨#[]⟩, .int .i64 0, .int .i64 0] 31 (0, 0))
  b6 : W.heap[w.heap.size + 1 + 1 + 1]? = some (.cells #[.int .i64 f0, .bool f1, .int .i64 f2, v3, v4, v5, .int .i64 f6, .string ⟨#[]⟩, .slice none 0 0, .slice none 0 0] 38 (0, 0))
  r3 : (Kd.int .u32).R 61 W (w.heap.size + 4) (fun _ => True) v3 l3
  r4 : k63.R 63 W (w.heap.size + 4) (fun _ => True) v4 l4
  r5 : k67.R 67 W (w.heap.size + 4) (fun _ => True) v5 l5
theorem QAt.below {s : ByteArray} {w : World} {a e : Int} {f0 : Int} {f1 : Bool} {f2 f6 : Int} {l3 : List Int} {l4 : List S63} {l5 : List S67} {v3 v4 v5 : Value} {W : World} {W1 : World} (h : QAt s w a e f0 f1 f2 f6 l3 l4 l5 v3 v4 v5 W) (hb : Below W.heap.size W W1) : QAt s w a e f0 f1 f2 f6 l3 l4 l5 v3 v4 v5 W1 :=
  ⟨h.bel.trans (hb.mono h.bel.size), (hb.block _ (blk_lt h.b2)).trans h.b2, (hb.block _ (blk_lt h.b4)).trans h.b4, (hb.block _ (blk_lt h.b5)).trans h.b5, (hb.block _ (blk_lt h.b6)).trans h.b6, Kd.R_below h.r3 hb, Kd.R_below h.r4 hb, Kd.R_below h.r5 hb⟩
theorem QAt.size4 {s : ByteArray} {w : World} {a e : Int} {f0 : Int} {f1 : Bool} {f2 f6 : Int} {l3 : List Int} {l4 : List S63} {l5 : List S67} {v3 v4 v5 : Value} {W : World} (h : QAt s w a e f0 f1 f2 f6 l3 l4 l5 v3 v4 v5 W) : w.heap.size + 4 ≤ W.heap.size := blk_lt h.b6
theorem QAt.rd0 {s : ByteArray} {w : World} {a e : Int} {f0 : Int} {f1 : Bool} {f2 f6 : Int} {l3 : List Int} {l4 : List S63} {l5 : List S67} {v3 v4 v5 : Value} {W : World} (h : QAt s w a e f0 f1 f2 f6 l3 l4 l5 v3 v4 v5 W) : QAt s w a e f0 f1 f2 f6 l3 l4 l5 v3 v4 v5 (W.setCell ⟨w.heap.size, 0, none⟩ (.string s)) :=
  ⟨h.bel.setCell (p := ⟨w.heap.size, 0, none⟩) (show w.heap.size ≤ w.heap.size by omega) _, (blk_set h.b2 0 _).trans rfl, (Below.heap_setCell W ⟨w.heap.size, 0, none⟩ _ _ (show w.heap.size + 1 ≠ w.heap.size by omega)).trans h.b4, (Below.heap_setCell W ⟨w.heap.size, 0, none⟩ _ _ (show w.heap.size + 1 + 1 ≠ w.heap.size by omega)).trans h.b5, (Below.heap_setCell W ⟨w.heap.size, 0, none⟩ _ _ (show w.heap.size + 1 + 1 + 1 ≠ w.heap.size by omega)).trans h.b6, R_farN h.r3 (by omega), R_farN h.r4 (by omega), R_farN h.r5 (by omega)⟩
theorem QAt.rd1 {s : ByteArray} {w : World} {a e : Int} {f0 : Int} {f1 : Bool} {f2 f6 : Int} {l3 : List Int} {l4 : List S63} {l5 : List S67} {v3 v4 v5 : Value} {W : World} (h : QAt s w a e f0 f1 f2 f6 l3 l4 l5 v3 v4 v5 W) (x : Int) : QAt s w x e f0 f1 f2 f6 l3 l4 l5 v3 v4 v5 (W.setCell ⟨w.heap.size, 1, none⟩ (.int .i64 x)) :=
  ⟨h.bel.setCell (p := ⟨w.heap.size, 1, none⟩) (show w.heap.size ≤ w.heap.size by omega) _, (blk_set h.b2 1 _).trans rfl, (Below.heap_setCell W ⟨w.heap.size, 1, none⟩ _ _ (show w.heap.size + 1 ≠ w.heap.size by omega)).trans h.b4, (Below.heap_setCell W ⟨w.heap.size, 1, none⟩ _ _ (show w.heap.size + 1 + 1 ≠ w.heap.size by omega)).trans h.b5, (Below.heap_setCell W ⟨w.heap.size, 1, none⟩ _ _ (show w.heap.size + 1 + 1 + 1 ≠ w.heap.size by omega)).trans h.b6, R_farN h.r3 (by omega), R_farN h.r4 (by omega), R_farN h.r5 (by omega)⟩
theorem QAt.rd2 {s : ByteArray} {w : World} {a e : Int} {f0 : Int} {f1 : Bool} {f2 f6 : Int} {l3 : List Int} {l4 : List S63} {l5 : List S67} {v3 v4 v5 : Value} {W : World} (h : QAt s w a e f0 f1 f2 f6 l3 l4 l5 v3 v4 v5 W) (x : Int) : QAt s w a x f0 f1 f2 f6 l3 l4 l5 v3 v4 v5 (W.setCell ⟨w.heap.size, 2, none⟩ (.int .i64 x)) :=
  ⟨h.bel.setCell (p := ⟨w.heap.size, 2, none⟩) (show w.heap.size ≤ w.heap.size by omega) _, (blk_set h.b2 2 _).trans rfl, (Below.heap_setCell W ⟨w.heap.size, 2, none⟩ _ _ (show w.heap.size + 1 ≠ w.heap.size by omega)).trans h.b4, (Below.heap_setCell W ⟨w.heap.size, 2, none⟩ _ _ (show w.heap.size + 1 + 1 ≠ w.heap.size by omega)).trans h.b5, (Below.heap_setCell W ⟨w.heap.size, 2, none⟩ _ _ (show w.heap.size + 1 + 1 + 1 ≠ w.heap.size by omega)).trans h.b6, R_farN h.r3 (by omega), R_farN h.r4 (by omega), R_farN h.r5 (by omega)⟩
theorem QAt.rd3 {s : ByteArray} {w : World} {a e : Int} {f0 : Int} {f1 : Bool} {f2 f6 : Int} {l3 : List Int} {l4 : List S63} {l5 : List S67} {v3 v4 v5 : Value} {W : World} (h : QAt s w a e f0 f1 f2 f6 l3 l4 l5 v3 v4 v5 W) (a' e' : Int) : QAt s w a' e' f0 f1 f2 f6 l3 l4 l5 v3 v4 v5 (((W.setCell ⟨w.heap.size, 0, none⟩ (.string s)).setCell ⟨w.heap.size, 1, none⟩ (.int .i64 a')).setCell ⟨w.heap.size, 2, none⟩ (.int .i64 e')) := ((h.rd0).rd1 a').rd2 e'
theorem QAt.set0 {s : ByteArray} {w : World} {a e : Int} {f0 : Int} {f1 : Bool} {f2 f6 : Int} {l3 : List Int} {l4 : List S63} {l5 : List S67} {v3 v4 v5 : Value} {W : World} (h : QAt s w a e f0 f1 f2 f6 l3 l4 l5 v3 v4 v5 W) (x : Int) : QAt s w a e x f1 f2 f6 l3 l4 l5 v3 v4 v5 (W.setCell ⟨w.heap.size + 1 + 1 + 1, 0, none⟩ (.int .i64 x)) :=
  ⟨h.bel.setCell (p := ⟨w.heap.size + 1 + 1 + 1, 0, none⟩) (show w.heap.size ≤ w.heap.size + 1 + 1 + 1 by omega) _, (Below.heap_setCell W ⟨w.heap.size + 1 + 1 + 1, 0, none⟩ _ _ (show w.heap.size ≠ w.heap.size + 1 + 1 + 1 by omega)).trans h.b2, (Below.heap_setCell W ⟨w.heap.size + 1 + 1 + 1, 0, none⟩ _ _ (show w.heap.size + 1 ≠ w.heap.size + 1 + 1 + 1 by omega)).trans h.b4, (Below.heap_setCell W ⟨w.heap.size + 1 + 1 + 1, 0, none⟩ _ _ (show w.heap.size + 1 + 1 ≠ w.heap.size + 1 + 1 + 1 by omega)).trans h.b5, (blk_set h.b6 0 _).trans rfl, R_farN h.r3 (by omega), R_farN h.r4 (by omega), R_farN h.r5 (by omega)⟩
theorem QAt.set1 {s : ByteArray} {w : World} {a e : Int} {f0 : Int} {f1 : Bool} {f2 f6 : Int} {l3 : List Int} {l4 : List S63} {l5 : List S67} {v3 v4 v5 : Value} {W : World} (h : QAt s w a e f0 f1 f2 f6 l3 l4 l5 v3 v4 v5 W) (x : Bool) : QAt s w a e f0 x f2 f6 l3 l4 l5 v3 v4 v5 (W.setCell ⟨w.heap.size + 1 + 1 + 1, 1, none⟩ (.bool x)) :=
  ⟨h.bel.setCell (p := ⟨w.heap.size + 1 + 1 + 1, 1, none⟩) (show w.heap.size ≤ w.heap.size + 1 + 1 + 1 by omega) _, (Below.heap_setCell W ⟨w.heap.size + 1 + 1 + 1, 1, none⟩ _ _ (show w.heap.size ≠ w.heap.size + 1 + 1 + 1 by omega)).trans h.b2, (Below.heap_setCell W ⟨w.heap.size + 1 + 1 + 1, 1, none⟩ _ _ (show w.heap.size + 1 ≠ w.heap.size + 1 + 1 + 1 by omega)).trans h.b4, (Below.heap_setCell W ⟨w.heap.size + 1 + 1 + 1, 1, none⟩ _ _ (show w.heap.size + 1 + 1 ≠ w.heap.size + 1 + 1 + 1 by omega)).trans h.b5, (blk_set h.b6 1 _).trans rfl, R_farN h.r3 (by omega), R_farN h.r4 (by omega), R_farN h.r5 (by omega)⟩
theorem QAt.set2 {s : ByteArray} {w : World} {a e : Int} {f0 : Int} {f1 : Bool} {f2 f6 : Int} {l3 : List Int} {l4 : List S63} {l5 : List S67} {v3 v4 v5 : Value} {W : World} (h : QAt s w a e f0 f1 f2 f6 l3 l4 l5 v3 v4 v5 W) (x : Int) : QAt s w a e f0 f1 x f6 l3 l4 l5 v3 v4 v5 (W.setCell ⟨w.heap.size + 1 + 1 + 1, 2, none⟩ (.int .i64 x)) :=
  ⟨h.bel.setCell (p := ⟨w.heap.size + 1 + 1 + 1, 2, none⟩) (show w.heap.size ≤ w.heap.size + 1 + 1 + 1 by omega) _, (Below.heap_setCell W ⟨w.heap.size + 1 + 1 + 1, 2, none⟩ _ _ (show w.heap.size ≠ w.heap.size + 1 + 1 + 1 by omega)).trans h.b2, (Below.heap_setCell W ⟨w.heap.size + 1 + 1 + 1, 2, none⟩ _ _ (show w.heap.size + 1 ≠ w.heap.size + 1 + 1 + 1 by omega)).trans h.b4, (Below.heap_setCell W ⟨w.heap.size + 1 + 1 + 1, 2, none⟩ _ _ (show w.heap.size + 1 + 1 ≠ w.heap.size + 1 + 1 + 1 by omega)).trans h.b5, (blk_set h.b6 2 _).trans rfl, R_farN h.r3 (by omega), R_farN h.r4 (by omega), R_farN h.r5 (by omega)⟩
theorem QAt.set6 {s : ByteArray} {w : World} {a e : Int} {f0 : Int} {f1 : Bool} {f2 f6 : Int} {l3 : List Int} {l4 : List S63} {l5 : List S67} {v3 v4 v5 : Value} {W : World} (h : QAt s w a e f0 f1 f2 f6 l3 l4 l5 v3 v4 v5 W) (x : Int) : QAt s w a e f0 f1 f2 x l3 l4 l5 v3 v4 v5 (W.setCell ⟨w.heap.size + 1 + 1 + 1, 6, none⟩ (.int .i64 x)) :=
  ⟨h.bel.setCell (p := ⟨w.heap.size + 1 + 1 + 1, 6, none⟩) (show w.heap.size ≤ w.heap.size + 1 + 1 + 1 by omega) _, (Below.heap_setCell W ⟨w.heap.size + 1 + 1 + 1, 6, none⟩ _ _ (show w.heap.size ≠ w.heap.size + 1 + 1 + 1 by omega)).trans h.b2, (Below.heap_setCell W ⟨w.heap.size + 1 + 1 + 1, 6, none⟩ _ _ (show w.heap.size + 1 ≠ w.heap.size + 1 + 1 + 1 by omega)).trans h.b4, (Below.heap_setCell W ⟨w.heap.size + 1 + 1 + 1, 6, none⟩ _ _ (show w.heap.size + 1 + 1 ≠ w.heap.size + 1 + 1 + 1 by omega)).trans h.b5, (blk_set h.b6 6 _).trans rfl, R_farN h.r3 (by omega), R_farN h.r4 (by omega), R_farN h.r5 (by omega)⟩
theorem QAt.app3 {s : ByteArray} {w : World} {a e : Int} {f0 : Int} {f1 : Bool} {f2 f6 : Int} {l3 : List Int} {l4 : List S63} {l5 : List S67} {v3 v4 v5 : Value} {W : World} {w3 : World} {v' : Value} {x : Int} (h : QAt s w a e f0 f1 f2 f6 l3 l4 l5 v3 v4 v5 W) (hg : W.grownBy w3 v3.ownBlock) (hR : (Kd.int .u32).R 61 w3 (w.heap.size + 4) (fun _ => True) v' (l3 ++ [x])) :
    QAt s w a e f0 f1 f2 f6 (l3 ++ [x]) l4 l5 v' v4 v5 (w3.setCell ⟨w.heap.size + 1 + 1 + 1, 3, none⟩ v') ∧ w3.cell? ⟨w.heap.size + 1 + 1 + 1, 3, none⟩ = some v3 ∧ w3.frozen? ⟨w.heap.size + 1 + 1 + 1, 3, none⟩ = false := by
  have hba := Kd.R_base h.r3
  have k1 : ∀ g t cs, W.heap[g]? = some (.cells cs t (0, 0)) → g < w.heap.size + 4 → w3.heap[g]? = some (.cells cs t (0, 0)) := fun g t cs hq hgl => (hg.block g (blk_lt hq) (fun he => by have := hba g he.symm; omega)).trans hq
  have hbel : Below w.heap.size w w3 := h.bel.trans ⟨hg.os, hg.tape, hg.output, hg.size, fun k hk => hg.block k (by have := h.bel.size; omega) (fun he => by have := hba k he.symm; omega)⟩
  have hO4 : k63.R 63 w3 (w.heap.size + 4) (fun _ => True) v4 l4 := Kd.R_grown2 h.r4 rfl hg (fun k hk he => by
    obtain ⟨cs, hcs⟩ := Kd.R_typed h.r3 k hk
    exact Kd.R_ne h.r4 hcs (by decide) he)
  have hO5 : k67.R 67 w3 (w.heap.size + 4) (fun _ => True) v5 l5 := Kd.R_grown2 h.r5 rfl hg (fun k hk he => by
    obtain ⟨cs, hcs⟩ := Kd.R_typed h.r3 k hk
    exact Kd.R_ne h.r5 hcs (by decide) he)
  have c3 := k1 _ _ _ h.b6 (by omega)
  exact ⟨⟨hbel.setCell (p := ⟨w.heap.size + 1 + 1 + 1, 3, none⟩) (show w.heap.size ≤ w.heap.size + 1 + 1 + 1 by omega) _, (Below.heap_setCell w3 ⟨w.heap.size + 1 + 1 + 1, 3, none⟩ _ _ (show w.heap.size ≠ w.heap.size + 1 + 1 + 1 by omega)).trans (k1 _ _ _ h.b2 (by omega)), (Below.heap_setCell w3 ⟨w.heap.size + 1 + 1 + 1, 3, none⟩ _ _ (show w.heap.size + 1 ≠ w.heap.size + 1 + 1 + 1 by omega)).trans (k1 _ _ _ h.b4 (by omega)), (Below.heap_setCell w3 ⟨w.heap.size + 1 + 1 + 1, 3, none⟩ _ _ (show w.heap.size + 1 + 1 ≠ w.heap.size + 1 + 1 + 1 by omega)).trans (k1 _ _ _ h.b5 (by omega)), (blk_set c3 3 _).trans rfl, R_farN hR (by omega), R_farN hO4 (by omega), R_farN hO5 (by omega)⟩, (blk_cell c3 3).trans rfl, blk_frozen c3 3⟩
theorem QAt.app4 {s : ByteArray} {w : World} {a e : Int} {f0 : Int} {f1 : Bool} {f2 f6 : Int} {l3 : List Int} {l4 : List S63} {l5 : List S67} {v3 v4 v5 : Value} {W : World} {w3 : World} {v' : Value} {x : S63} (h : QAt s w a e f0 f1 f2 f6 l3 l4 l5 v3 v4 v5 W) (hg : W.grownBy w3 v4.ownBlock) (hR : k63.R 63 w3 (w.heap.size + 4) (fun _ => True) v' (l4 ++ [x])) :
    QAt s w a e f0 f1 f2 f6 l3 (l4 ++ [x]) l5 v3 v' v5 (w3.setCell ⟨w.heap.size + 1 + 1 + 1, 4, none⟩ v') ∧ w3.cell? ⟨w.heap.size + 1 + 1 + 1, 4, none⟩ = some v4 ∧ w3.frozen? ⟨w.heap.size + 1 + 1 + 1, 4, none⟩ = false := by
  have hba := Kd.R_base h.r4
  have k1 : ∀ g t cs, W.heap[g]? = some (.cells cs t (0, 0)) → g < w.heap.size + 4 → w3.heap[g]? = some (.cells cs t (0, 0)) := fun g t cs hq hgl => (hg.block g (blk_lt hq) (fun he => by have := hba g he.symm; omega)).trans hq
  have hbel : Below w.heap.size w w3 := h.bel.trans ⟨hg.os, hg.tape, hg.output, hg.size, fun k hk => hg.block k (by have := h.bel.size; omega) (fun he => by have := hba k he.symm; omega)⟩
  have hO3 : (Kd.int .u32).R 61 w3 (w.heap.size + 4) (fun _ => True) v3 l3 := Kd.R_grown2 h.r3 rfl hg (fun k hk he => by
    obtain ⟨cs, hcs⟩ := Kd.R_typed h.r4 k hk
    exact Kd.R_ne h.r3 hcs (by decide) he)
  have hO5 : k67.R 67 w3 (w.heap.size + 4) (fun _ => True) v5 l5 := Kd.R_grown2 h.r5 rfl hg (fun k hk he => by
    obtain ⟨cs, hcs⟩ := Kd.R_typed h.r4 k hk
    exact Kd.R_ne h.r5 hcs (by decide) he)
  have c3 := k1 _ _ _ h.b6 (by omega)
  exact ⟨⟨hbel.setCell (p := ⟨w.heap.size + 1 + 1 + 1, 4, none⟩) (show w.heap.size ≤ w.heap.size + 1 + 1 + 1 by omega) _, (Below.heap_setCell w3 ⟨w.heap.size + 1 + 1 + 1, 4, none⟩ _ _ (show w.heap.size ≠ w.heap.size + 1 + 1 + 1 by omega)).trans (k1 _ _ _ h.b2 (by omega)), (Below.heap_setCell w3 ⟨w.heap.size + 1 + 1 + 1, 4, none⟩ _ _ (show w.heap.size + 1 ≠ w.heap.size + 1 + 1 + 1 by omega)).trans (k1 _ _ _ h.b4 (by omega)), (Below.heap_setCell w3 ⟨w.heap.size + 1 + 1 + 1, 4, none⟩ _ _ (show w.heap.size + 1 + 1 ≠ w.heap.size + 1 + 1 + 1 by omega)).trans (k1 _ _ _ h.b5 (by omega)), (blk_set c3 4 _).trans rfl, R_farN hO3 (by omega), R_farN hR (by omega), R_farN hO5 (by omega)⟩, (blk_cell c3 4).trans rfl, blk_frozen c3 4⟩
theorem QAt.app5 {s : ByteArray} {w : World} {a e : Int} {f0 : Int} {f1 : Bool} {f2 f6 : Int} {l3 : List Int} {l4 : List S63} {l5 : List S67} {v3 v4 v5 : Value} {W : World} {w3 : World} {v' : Value} {x : S67} (h : QAt s w a e f0 f1 f2 f6 l3 l4 l5 v3 v4 v5 W) (hg : W.grownBy w3 v5.ownBlock) (hR : k67.R 67 w3 (w.heap.size + 4) (fun _ => True) v' (l5 ++ [x])) :
    QAt s w a e f0 f1 f2 f6 l3 l4 (l5 ++ [x]) v3 v4 v' (w3.setCell ⟨w.heap.size + 1 + 1 + 1, 5, none⟩ v') ∧ w3.cell? ⟨w.heap.size + 1 + 1 + 1, 5, none⟩ = some v5 ∧ w3.frozen? ⟨w.heap.size + 1 + 1 + 1, 5, none⟩ = false := by
  have hba := Kd.R_base h.r5
  have k1 : ∀ g t cs, W.heap[g]? = some (.cells cs t (0, 0)) → g < w.heap.size + 4 → w3.heap[g]? = some (.cells cs t (0, 0)) := fun g t cs hq hgl => (hg.block g (blk_lt hq) (fun he => by have := hba g he.symm; omega)).trans hq
  have hbel : Below w.heap.size w w3 := h.bel.trans ⟨hg.os, hg.tape, hg.output, hg.size, fun k hk => hg.block k (by have := h.bel.size; omega) (fun he => by have := hba k he.symm; omega)⟩
  have hO3 : (Kd.int .u32).R 61 w3 (w.heap.size + 4) (fun _ => True) v3 l3 := Kd.R_grown2 h.r3 rfl hg (fun k hk he => by
    obtain ⟨cs, hcs⟩ := Kd.R_typed h.r5 k hk
    exact Kd.R_ne h.r3 hcs (by decide) he)
  have hO4 : k63.R 63 w3 (w.heap.size + 4) (fun _ => True) v4 l4 := Kd.R_grown2 h.r4 rfl hg (fun k hk he => by
    obtain ⟨cs, hcs⟩ := Kd.R_typed h.r5 k hk
    exact Kd.R_ne h.r4 hcs (by decide) he)
  have c3 := k1 _ _ _ h.b6 (by omega)
  exact ⟨⟨hbel.setCell (p := ⟨w.heap.size + 1 + 1 + 1, 5, none⟩) (show w.heap.size ≤ w.heap.size + 1 + 1 + 1 by omega) _, (Below.heap_setCell w3 ⟨w.heap.size + 1 + 1 + 1, 5, none⟩ _ _ (show w.heap.size ≠ w.heap.size + 1 + 1 + 1 by omega)).trans (k1 _ _ _ h.b2 (by omega)), (Below.heap_setCell w3 ⟨w.heap.size + 1 + 1 + 1, 5, none⟩ _ _ (show w.heap.size + 1 ≠ w.heap.size + 1 + 1 + 1 by omega)).trans (k1 _ _ _ h.b4 (by omega)), (Below.heap_setCell w3 ⟨w.heap.size + 1 + 1 + 1, 5, none⟩ _ _ (show w.heap.size + 1 + 1 ≠ w.heap.size + 1 + 1 + 1 by omega)).trans (k1 _ _ _ h.b5 (by omega)), (blk_set c3 5 _).trans rfl, R_farN hO3 (by omega), R_farN hO4 (by omega), R_farN hR (by omega)⟩, (blk_cell c3 5).trans rfl, blk_frozen c3 5⟩
theorem QAt.cells {s : ByteArray} {w : World} {a e : Int} {f0 : Int} {f1 : Bool} {f2 f6 : Int} {l3 : List Int} {l4 : List S63} {l5 : List S67} {v3 v4 v5 : Value} {W : World} (h : QAt s w a e f0 f1 f2 f6 l3 l4 l5 v3 v4 v5 W) : W.cell? ⟨w.heap.size, 0, none⟩ = some (.string s) ∧ W.cell? ⟨w.heap.size, 1, none⟩ = some (.int .i64 a) ∧ W.cell? ⟨w.heap.size, 2, none⟩ = some (.int .i64 e) ∧ W.frozen? ⟨w.heap.size, 0, none⟩ = false ∧ W.frozen? ⟨w.heap.size, 1, none⟩ = false ∧ W.frozen? ⟨w.heap.size, 2, none⟩ = false ∧ W.cell? ⟨w.heap.size + 1 + 1 + 1, 0, none⟩ = some (.int .i64 f0) ∧ W.cell? ⟨w.heap.size + 1 + 1 + 1, 1, none⟩ = some (.bool f1) ∧ W.cell? ⟨w.heap.size + 1 + 1 + 1, 2, none⟩ = some (.int .i64 f2) ∧ W.cell? ⟨w.heap.size + 1 + 1 + 1, 3, none⟩ = some (v3) ∧ W.cell? ⟨w.heap.size + 1 + 1 + 1, 4, none⟩ = some (v4) ∧ W.cell? ⟨w.heap.size + 1 + 1 + 1, 5, none⟩ = some (v5) ∧ W.cell? ⟨w.heap.size + 1 + 1 + 1, 6, none⟩ = some (.int .i64 f6) ∧ W.cell? ⟨w.heap.size + 1 + 1 + 1, 7, none⟩ = some (.string ⟨#[]⟩) ∧ W.cell? ⟨w.heap.size + 1 + 1 + 1, 8, none⟩ = some (.slice none 0 0) ∧ W.cell? ⟨w.heap.size + 1 + 1 + 1, 9, none⟩ = some (.slice none 0 0) ∧ W.frozen? ⟨w.heap.size + 1 + 1 + 1, 0, none⟩ = false ∧ W.frozen? ⟨w.heap.size + 1 + 1 + 1, 1, none⟩ = false ∧ W.frozen? ⟨w.heap.size + 1 + 1 + 1, 2, none⟩ = false ∧ W.frozen? ⟨w.heap.size + 1 + 1 + 1, 3, none⟩ = false ∧ W.frozen? ⟨w.heap.size + 1 + 1 + 1, 4, none⟩ = false ∧ W.frozen? ⟨w.heap.size + 1 + 1 + 1, 5, none⟩ = false ∧ W.frozen? ⟨w.heap.size + 1 + 1 + 1, 6, none⟩ = false ∧ W.frozen? ⟨w.heap.size + 1 + 1 + 1, 7, none⟩ = false ∧ W.frozen? ⟨w.heap.size + 1 + 1 + 1, 8, none⟩ = false ∧ W.frozen? ⟨w.heap.size + 1 + 1 + 1, 9, none⟩ = false :=
  ⟨(blk_cell h.b2 0).trans rfl, (blk_cell h.b2 1).trans rfl, (blk_cell h.b2 2).trans rfl, blk_frozen h.b2 0, blk_frozen h.b2 1, blk_frozen h.b2 2, (blk_cell h.b6 0).trans rfl, (blk_cell h.b6 1).trans rfl, (blk_cell h.b6 2).trans rfl, (blk_cell h.b6 3).trans rfl, (blk_cell h.b6 4).trans rfl, (blk_cell h.b6 5).trans rfl, (blk_cell h.b6 6).trans rfl, (blk_cell h.b6 7).trans rfl, (blk_cell h.b6 8).trans rfl, (blk_cell h.b6 9).trans rfl, blk_frozen h.b6 0, blk_frozen h.b6 1, blk_frozen h.b6 2, blk_frozen h.b6 3, blk_frozen h.b6 4, blk_frozen h.b6 5, blk_frozen h.b6 6, blk_frozen h.b6 7, blk_frozen h.b6 8, blk_frozen h.b6 9⟩
theorem QAt.cells2 {s : ByteArray} {w : World} {a e : Int} {f0 : Int} {f1 : Bool} {f2 f6 : Int} {l3 : List Int} {l4 : List S63} {l5 : List S67} {v3 v4 v5 : Value} {W : World} (h : QAt s w a e f0 f1 f2 f6 l3 l4 l5 v3 v4 v5 W) : W.cell? ⟨w.heap.size + 1, 0, none⟩ = some (.int .i64 0) ∧ W.cell? ⟨w.heap.size + 1, 1, none⟩ = some (.bool false) ∧ W.cell? ⟨w.heap.size + 1, 2, none⟩ = some (.int .i64 0) ∧ W.cell? ⟨w.heap.size + 1, 3, none⟩ = some (.slice none 0 0) ∧ W.cell? ⟨w.heap.size + 1, 4, none⟩ = some (.slice none 0 0) ∧ W.cell? ⟨w.heap.size + 1, 5, none⟩ = some (.slice none 0 0) ∧ W.cell? ⟨w.heap.size + 1, 6, none⟩ = some (.int .i64 0) ∧ W.cell? ⟨w.heap.size + 1, 7, none⟩ = some (.string ⟨#[]⟩) ∧ W.cell? ⟨w.heap.size + 1, 8, none⟩ = some (.slice none 0 0) ∧ W.cell? ⟨w.heap.size + 1, 9, none⟩ = some (.slice none 0 0) ∧ W.frozen? ⟨w.heap.size + 1, 0, none⟩ = false ∧ W.frozen? ⟨w.heap.size + 1, 1, none⟩ = false ∧ W.frozen? ⟨w.heap.size + 1, 2, none⟩ = false ∧ W.frozen? ⟨w.heap.size + 1, 3, none⟩ = false ∧ W.frozen? ⟨w.heap.size + 1, 4, none⟩ = false ∧ W.frozen? ⟨w.heap.size + 1, 5, none⟩ = false ∧ W.frozen? ⟨w.heap.size + 1, 6, none⟩ = false ∧ W.frozen? ⟨w.heap.size + 1, 7, none⟩ = false ∧ W.frozen? ⟨w.heap.size + 1, 8, none⟩ = false ∧ W.frozen? ⟨w.heap.size + 1, 9, none⟩ = false ∧ W.cell? ⟨w.heap.size + 1 + 1, 0, none⟩ = some (.string ⟨#[]⟩) ∧ W.cell? ⟨w.heap.size + 1 + 1, 1, none⟩ = some (.int .i64 0) ∧ W.cell? ⟨w.heap.size + 1 + 1, 2, none⟩ = some (.int .i64 0) ∧ W.frozen? ⟨w.heap.size + 1 + 1, 0, none⟩ = false ∧ W.frozen? ⟨w.heap.size + 1 + 1, 1, none⟩ = false ∧ W.frozen? ⟨w.heap.size + 1 + 1, 2, none⟩ = false :=
  ⟨(blk_cell h.b4 0).trans rfl, (blk_cell h.b4 1).trans rfl, (blk_cell h.b4 2).trans rfl, (blk_cell h.b4 3).trans rfl, (blk_cell h.b4 4).trans rfl, (blk_cell h.b4 5).trans rfl, (blk_cell h.b4 6).trans rfl, (blk_cell h.b4 7).trans rfl, (blk_cell h.b4 8).trans rfl, (blk_cell h.b4 9).trans rfl, blk_frozen h.b4 0, blk_frozen h.b4 1, blk_frozen h.b4 2, blk_frozen h.b4 3, blk_frozen h.b4 4, blk_frozen h.b4 5, blk_frozen h.b4 6, blk_frozen h.b4 7, blk_frozen h.b4 8, blk_frozen h.b4 9, (blk_cell h.b5 0).trans rfl, (blk_cell h.b5 1).trans rfl, (blk_cell h.b5 2).trans rfl, blk_frozen h.b5 0, blk_frozen h.b5 1, blk_frozen h.b5 2⟩
def sWords (s : ByteArray) : Nat → Int → Int → List Int × Int × Int
  | 0, a, e => ([], a, e)
  | n + 1, a, e => if e = 0 then (if (rBytes s 4 a 0).2.2 = 0 then (le4 (rBytes s 4 a 0).1 :: (sWords s n (rBytes s 4 a 0).2.1 0).1, (sWords s n (rBytes s 4 a 0).2.1 0).2) else ([], (rBytes s 4 a 0).2)) else ([], a, e)
theorem sWords_eq (s : ByteArray) : ∀ (n : Nat) (a e : Int), (sWords s n a e).2 = (rSome (fun a e => rWord s a e) n a e).2 ∧ ((rSome (fun a e => rWord s a e) n a e).2.2 = 0 → sWords s n a e = rSome (fun a e => rWord s a e) n a e) ∧ (sWords s n a e).1.length ≤ n
  | 0, a, e => ⟨rfl, fun _ => rfl, Nat.le_refl _⟩
  | n + 1, a, e => by
    rw [sWords, rSome]
    by_cases he : e = 0
    · rw [if_pos he, if_pos he]
      subst he
      by_cases hb : (rBytes s 4 a 0).2.2 = 0
      · rw [if_pos hb]
        have h2 : (rWord s a 0).2 = (rBytes s 4 a 0).2 := rfl
        have h3 : (rWord s a 0).1 = le4 (rBytes s 4 a 0).1 := by unfold rWord; exact if_pos hb
        obtain ⟨k1, k2, k3⟩ := sWords_eq s n (rBytes s 4 a 0).2.1 0
        rw [h2, h3, hb]
        exact ⟨k1, fun h => by rw [k2 h], by simpa using k3⟩
      · rw [if_neg hb]
        have h2 : (rWord s a 0).2 = (rBytes s 4 a 0).2 := rfl
        rw [h2]
        have h4 : rSome (fun a e => rWord s a e) n (rBytes s 4 a 0).2.1 (rBytes s 4 a 0).2.2 = ([], (rBytes s 4 a 0).2.1, (rBytes s 4 a 0).2.2) := by
          cases n with
          | zero => rfl
          | succ n => rw [rSome, if_neg hb]
        rw [h4]
        exact ⟨rfl, fun h => absurd h hb, Nat.zero_le _⟩
    · rw [if_neg he, if_neg he]
      exact ⟨rfl, fun _ => rfl, Nat.zero_le _⟩
theorem QAt.start {s : ByteArray} {w : World} {a e : Int} :
    QAt s w a e 0 false 0 0 [] [] [] (.slice none 0 0) (.slice none 0 0) (.slice none 0 0) ((((w.alloc (.cells #[.string s, .int .i64 a, .int .i64 e] 31 (0, 0))).alloc (.cells #[.int .i64 0, .bool false, .int .i64 0, .slice none 0 0, .slice none 0 0, .slice none 0 0, .int .i64 0, .string ⟨#[]⟩, .slice none 0 0, .slice none 0 0] 38 (0, 0))).alloc (.cells #[.string ⟨#[]⟩, .int .i64 0, .int .i64 0] 31 (0, 0))).alloc (.cells #[.int .i64 0, .bool false, .int .i64 0, .slice none 0 0, .slice none 0 0, .slice none 0 0, .int .i64 0, .string ⟨#[]⟩, .slice none 0 0, .slice none 0 0] 38 (0, 0))) := by
  obtain ⟨P, hP⟩ : ∃ P : Obj, P = .cells #[.int .i64 0, .bool false, .int .i64 0, .slice none 0 0, .slice none 0 0, .slice none 0 0, .int .i64 0, .string ⟨#[]⟩, .slice none 0 0, .slice none 0 0] 38 (0, 0) := ⟨_, rfl⟩
  obtain ⟨R, hR⟩ : ∃ R : Obj, R = .cells #[.string ⟨#[]⟩, .int .i64 0, .int .i64 0] 31 (0, 0) := ⟨_, rfl⟩
  obtain ⟨Q, hQ⟩ : ∃ Q : Obj, Q = .cells #[.string s, .int .i64 a, .int .i64 e] 31 (0, 0) := ⟨_, rfl⟩
  rw [← hP, ← hR, ← hQ]
  obtain ⟨W1, e1⟩ : ∃ X, X = w.alloc Q := ⟨_, rfl⟩
  have b1 := blk_new w Q
  have s1 : W1.heap.size = w.heap.size + 1 := by rw [e1, World.size_alloc]
  have h1 : Below w.heap.size w W1 := by rw [e1]; exact below_alloc (Below.refl _ _) _
  rw [← e1] at b1 ⊢
  clear e1
  obtain ⟨W2, e2⟩ : ∃ X, X = W1.alloc P := ⟨_, rfl⟩
  have b2 := blk_new W1 P
  have s2 : W2.heap.size = w.heap.size + 1 + 1 := by rw [e2, World.size_alloc, s1]
  have h2 : Below w.heap.size w W2 := by rw [e2]; exact below_alloc h1 _
  have c1 := blk_alloc b1 P
  rw [← e2] at b2 c1 ⊢
  rw [s1] at b2
  clear e2
  obtain ⟨W3, e3⟩ : ∃ X, X = W2.alloc R := ⟨_, rfl⟩
  have b3 := blk_new W2 R
  have s3 : W3.heap.size = w.heap.size + 1 + 1 + 1 := by rw [e3, World.size_alloc, s2]
  have h3 : Below w.heap.size w W3 := by rw [e3]; exact below_alloc h2 _
  have d1 := blk_alloc c1 R
  have d2 := blk_alloc b2 R
  rw [← e3] at b3 d1 d2 ⊢
  rw [s2] at b3
  clear e3
  have b4 := blk_new W3 P
  rw [s3] at b4
  have f1 := blk_alloc d1 P
  have f2 := blk_alloc d2 P
  have f3 := blk_alloc b3 P
  have f4 := below_alloc h3 P
  subst hP
  subst hR
  subst hQ
  exact ⟨f4, f1, f2, f3, b4, Kd.R_nil _ _ _ _ _, Kd.R_nil _ _ _ _ _, Kd.R_nil _ _ _ _ _⟩
structure SHead (k : Nat) (s : ByteArray) (kids a e : Int) (f0 f2 : Int) (l3 : List Int) (l4 : List S63) (l5 : List S67) (f6 : Int) (v a11 e11 v1 a1 e1 a2 e2 a3 e3 : Int) (n4 : Nat) (a4 e4 a5 e5 : Int) (n6 : Nat) (a6 e6 a7 e7 : Int) (n8 : Nat) (a8 e8 a9 e9 a10 e10 : Int) : Prop where
  h0 : 0 ≤ a ∧ a ≤ (s.size : Int)
  h1 : rOctet s 1 a e = (v1, a1, e1) ∧ 0 ≤ a1 ∧ a1 ≤ (s.size : Int)
  h2 : rNum s 0 250 a1 e1 = (f0, a2, e2) ∧ 0 ≤ a2 ∧ a2 ≤ (s.size : Int)
  h3 : rNum s (if 1 < f0 then f0 else 1) 250 a2 e2 = (f2, a3, e3) ∧ 0 ≤ a3 ∧ a3 ≤ (s.size : Int)
  h4 : rNum s 1 2000 a3 e3 = ((n4 : Int), a4, e4) ∧ 0 ≤ a4 ∧ a4 ≤ (s.size : Int) ∧ n4 ≤ 2000
  h5 : sWords s n4 a4 e4 = (l3, a5, e5) ∧ 0 ≤ a5 ∧ a5 ≤ (s.size : Int)
  h6 : rNum s 0 500 a5 e5 = ((n6 : Int), a6, e6) ∧ 0 ≤ a6 ∧ a6 ≤ (s.size : Int) ∧ n6 ≤ 2000
  h7 : rSome (fun a e => rV k s a e) n6 a6 e6 = (l4, a7, e7) ∧ 0 ≤ a7 ∧ a7 ≤ (s.size : Int)
  h8 : rNum s 0 60 a7 e7 = ((n8 : Int), a8, e8) ∧ 0 ≤ a8 ∧ a8 ≤ (s.size : Int) ∧ n8 ≤ 2000
  h9 : rSome (fun a e => rU s a e) n8 a8 e8 = (l5, a9, e9) ∧ 0 ≤ a9 ∧ a9 ≤ (s.size : Int)
  h10 : rNum s 0 kids a9 e9 = (f6, a10, e10) ∧ 0 ≤ a10 ∧ a10 ≤ (s.size : Int)
  h11 : rOctet s 1 a10 e10 = (v, a11, e11) ∧ 0 ≤ a11 ∧ a11 ≤ (s.size : Int)
structure SW (s : ByteArray) (n : Nat) (xs : List Int) (A E : Int) (j : Nat) (ys : List Int) (a e : Int) : Prop where
  a0 : 0 ≤ a
  a1 : a ≤ (s.size : Int)
  jn : j ≤ n
  n2 : n ≤ 2000
  len : ys.length ≤ j
  run : (sWords s (n - j) a e).2 = (A, E)
  all : ys ++ (sWords s (n - j) a e).1 = xs
theorem SW.start {s : ByteArray} {n : Nat} {xs : List Int} {A E a e : Int} (h0 : 0 ≤ a) (h1 : a ≤ (s.size : Int)) (hn : n ≤ 2000) (hr : sWords s n a e = (xs, A, E)) : SW s n xs A E 0 [] a e :=
  ⟨h0, h1, Nat.zero_le _, hn, Nat.le_refl _, by rw [Nat.sub_zero, hr], by rw [Nat.sub_zero, hr]; rfl⟩
theorem SW.next {s : ByteArray} {n : Nat} {xs : List Int} {A E a : Int} {j : Nat} {ys : List Int} (h : SW s n xs A E j ys a 0) (hj : j < n) {x : ByteArray} {a' : Int} (hF : rBytes s 4 a 0 = (x, a', 0)) (h1 : 0 ≤ a') (h2 : a' ≤ (s.size : Int)) : SW s n xs A E (j + 1) (ys ++ [le4 x]) a' 0 := by
  have hr := h.run
  have ha := h.all
  rw [show n - j = (n - (j + 1)) + 1 by omega, sWords, if_pos rfl, hF] at hr ha
  dsimp only at hr ha
  rw [if_pos rfl] at hr ha
  exact ⟨h1, h2, hj, h.n2, by have := h.len; simp; omega, hr, by rw [List.append_assoc]; exact ha⟩
theorem SW.fail {s : ByteArray} {n : Nat} {xs : List Int} {A E a : Int} {j : Nat} {ys : List Int} (h : SW s n xs A E j ys a 0) (hj : j < n) {x : ByteArray} {a' e' : Int} (hF : rBytes s 4 a 0 = (x, a', e')) (he : ¬ e' = 0) (h1 : 0 ≤ a') (h2 : a' ≤ (s.size : Int)) : SW s n xs A E (j + 1) ys a' e' := by
  have hr := h.run
  have ha := h.all
  rw [show n - j = (n - (j + 1)) + 1 by omega, sWords, if_pos rfl, hF] at hr ha
  dsimp only at hr ha
  rw [if_neg he] at hr ha
  have h3 : sWords s (n - (j + 1)) a' e' = ([], a', e') := by
    cases n - (j + 1) with
    | zero => rfl
    | succ m => rw [sWords, if_neg he]
  exact ⟨h1, h2, hj, h.n2, by have := h.len; omega, by rw [h3]; exact hr, by rw [h3]; exact ha⟩
theorem SW.stop {s : ByteArray} {n : Nat} {xs : List Int} {A E a e : Int} {j : Nat} {ys : List Int} (h : SW s n xs A E j ys a e) (hj : ¬ (j < n ∧ e = 0)) : ys = xs ∧ a = A ∧ e = E := by
  have e0 : sWords s (n - j) a e = ([], a, e) := by
    cases hm : n - j with
    | zero => rfl
    | succ m => rw [sWords, if_neg (fun he => hj ⟨by omega, he⟩)]
  have hr := h.run
  have ha := h.all
  rw [e0] at hr ha
  rw [List.append_nil] at ha
  exact ⟨ha, (Prod.mk.inj hr).1, (Prod.mk.inj hr).2⟩
theorem spConst {k : Nat} {s : ByteArray} (h : SpOk k s) {a e : Int} {x : S63} {a' e' : Int} (w : World) (ha : 0 ≤ a) (hs : a ≤ (s.size : Int)) (hr : rV k s a e = (x, a', e')) :
    Calls Tryd.prog 21 #[.agg #[.string s, .int .i64 a, .int .i64 e]] w fun r w' => r = .returned (.tuple #[.agg #[.int .i64 x.f0, .int .i64 x.f1, .string x.f2], .agg #[.string s, .int .i64 a', .int .i64 e']]) ∧ Below w.heap.size w w' :=
  spec_l3ReadConst.calls k s a e x.f0 x.f1 x.f2 s a' e' w (by rw [h.const a e ha hs, rV_eq hr])
theorem QAt.kept3 {s : ByteArray} {w : World} {a e : Int} {f0 : Int} {f1 : Bool} {f2 f6 : Int} {l3 : List Int} {l4 : List S63} {l5 : List S67} {v3 v4 v5 : Value} {W w3 : World} (h : QAt s w a e f0 f1 f2 f6 l3 l4 l5 v3 v4 v5 W) (hg : W.grownBy w3 v3.ownBlock) : w3.heap[w.heap.size + 1 + 1 + 1]? = some (.cells #[.int .i64 f0, .bool f1, .int .i64 f2, v3, v4, v5, .int .i64 f6, .string ⟨#[]⟩, .slice none 0 0, .slice none 0 0] 38 (0, 0)) :=
  (hg.block _ (blk_lt h.b6) (fun he => by have := Kd.R_base h.r3 _ he.symm; omega)).trans h.b6
theorem below_all1 {W W1 : World} {o : Obj} (hb : Below (W.alloc o).heap.size (W.alloc o) W1) : Below W.heap.size W W1 := (below_alloc (Below.refl _ _) _).trans (hb.mono (by rw [World.size_alloc]; exact Nat.le_succ _))
theorem box63 {W W1 : World} (hb : Below (W.alloc (.cells #[.int .i64 0, .int .i64 0, .string ⟨#[]⟩] 63 (0, 0))).heap.size (W.alloc (.cells #[.int .i64 0, .int .i64 0, .string ⟨#[]⟩] 63 (0, 0))) W1) (x y : Int) (z : ByteArray) :
    Below W.heap.size W (((W1.setCell ⟨W.heap.size, 0, none⟩ (.int .i64 x)).setCell ⟨W.heap.size, 1, none⟩ (.int .i64 y)).setCell ⟨W.heap.size, 2, none⟩ (.string z)) ∧ (((W1.setCell ⟨W.heap.size, 0, none⟩ (.int .i64 x)).setCell ⟨W.heap.size, 1, none⟩ (.int .i64 y)).setCell ⟨W.heap.size, 2, none⟩ (.string z)).heap[W.heap.size]? = some (.cells #[.int .i64 x, .int .i64 y, .string z] 63 (0, 0)) ∧ W1.heap[W.heap.size]? = some (.cells #[.int .i64 0, .int .i64 0, .string ⟨#[]⟩] 63 (0, 0)) := by
  have h1 : Below W.heap.size W W1 := (below_alloc (Below.refl _ _) _).trans (hb.mono (by rw [World.size_alloc]; exact Nat.le_succ _))
  have b1 : W1.heap[W.heap.size]? = some (.cells #[.int .i64 0, .int .i64 0, .string ⟨#[]⟩] 63 (0, 0)) := blk_below (blk_new W _) hb
  exact ⟨((h1.setCell (p := ⟨W.heap.size, 0, none⟩) (Nat.le_refl _) _).setCell (p := ⟨W.heap.size, 1, none⟩) (Nat.le_refl _) _).setCell (p := ⟨W.heap.size, 2, none⟩) (Nat.le_refl _) _, (blk_set (blk_set (blk_set b1 0 _) 1 _) 2 _).trans rfl, b1⟩
theorem finPR {s : ByteArray} {w W : World} {a e : Int} {f0 : Int} {f1 : Bool} {f2 f6 : Int} {f7 : ByteArray} {l3 : List Int} {l4 : List S63} {l5 : List S67} {l8 : List Int} {l9 : List ByteArray} {v3 v4 v5 v8 v9 : Value} (h0 : Below w.heap.size w W) (p0 : W.heap[w.heap.size + 1]? = some (.cells #[.int .i64 0, .bool false, .int .i64 0, .slice none 0 0, .slice none 0 0, .slice none 0 0, .int .i64 0, .string ⟨#[]⟩, .slice none 0 0, .slice none 0 0] 38 (0, 0))) (q0 : W.heap[w.heap.size + 1 + 1]? = some (.cells #[.string ⟨#[]⟩, .int .i64 0, .int .i64 0] 31 (0, 0))) (x3_0 : (Kd.int .u32).R 61 W (w.heap.size + 4) (fun _ => True) v3 l3) (x4_0 : k63.R 63 W (w.heap.size + 4) (fun _ => True) v4 l4) (x5_0 : k67.R 67 W (w.heap.size + 4) (fun _ => True) v5 l5) (x8_0 : (Kd.int .i64).R 3 W (w.heap.size + 4) (fun _ => True) v8 l8) (x9_0 : Kd.string.R 9 W (w.heap.size + 4) (fun _ => True) v9 l9) :
    ∃ W', W' = (((((((((((((W.setCell ⟨w.heap.size + 1, 0, none⟩ (.int .i64 f0)).setCell ⟨w.heap.size + 1, 1, none⟩ (.bool f1)).setCell ⟨w.heap.size + 1, 2, none⟩ (.int .i64 f2)).setCell ⟨w.heap.size + 1, 3, none⟩ v3).setCell ⟨w.heap.size + 1, 4, none⟩ v4).setCell ⟨w.heap.size + 1, 5, none⟩ v5).setCell ⟨w.heap.size + 1, 6, none⟩ (.int .i64 f6)).setCell ⟨w.heap.size + 1, 7, none⟩ (.string f7)).setCell ⟨w.heap.size + 1, 8, none⟩ v8).setCell ⟨w.heap.size + 1, 9, none⟩ v9).setCell ⟨w.heap.size + 1 + 1, 0, none⟩ (.string s)).setCell ⟨w.heap.size + 1 + 1, 1, none⟩ (.int .i64 a)).setCell ⟨w.heap.size + 1 + 1, 2, none⟩ (.int .i64 e)) ∧ W'.heap[w.heap.size + 1]? = some (.cells #[.int .i64 f0, .bool f1, .int .i64 f2, v3, v4, v5, .int .i64 f6, .string f7, v8, v9] 38 (0, 0)) ∧ W'.heap[w.heap.size + 1 + 1]? = some (.cells #[.string s, .int .i64 a, .int .i64 e] 31 (0, 0)) ∧ (Kd.int .u32).R 61 W' w.heap.size (fun _ => True) v3 l3 ∧ k63.R 63 W' w.heap.size (fun _ => True) v4 l4 ∧ k67.R 67 W' w.heap.size (fun _ => True) v5 l5 ∧ (Kd.int .i64).R 3 W' w.heap.size (fun _ => True) v8 l8 ∧ Kd.string.R 9 W' w.heap.size (fun _ => True) v9 l9 ∧ Below w.heap.size w W' := by
  obtain ⟨W1, e0⟩ : ∃ X, X = W.setCell ⟨w.heap.size + 1, 0, none⟩ (.int .i64 f0) := ⟨_, rfl⟩
  rw [← e0]
  have p1 : W1.heap[w.heap.size + 1]? = some (.cells #[.int .i64 f0, .bool false, .int .i64 0, .slice none 0 0, .slice none 0 0, .slice none 0 0, .int .i64 0, .string ⟨#[]⟩, .slice none 0 0, .slice none 0 0] 38 (0, 0)) := by rw [e0]; exact (blk_set p0 0 _).trans rfl
  have q1 : W1.heap[w.heap.size + 1 + 1]? = some (.cells #[.string ⟨#[]⟩, .int .i64 0, .int .i64 0] 31 (0, 0)) := by rw [e0]; exact (Below.heap_setCell W ⟨w.heap.size + 1, 0, none⟩ _ _ (show w.heap.size + 1 + 1 ≠ w.heap.size + 1 by omega)).trans q0
  have h1 : Below w.heap.size w W1 := by rw [e0]; exact h0.setCell (p := ⟨w.heap.size + 1, 0, none⟩) (show w.heap.size ≤ w.heap.size + 1 by omega) _
  have x3_1 : (Kd.int .u32).R 61 W1 (w.heap.size + 4) (fun _ => True) v3 l3 := by rw [e0]; exact R_farN x3_0 (by omega)
  have x4_1 : k63.R 63 W1 (w.heap.size + 4) (fun _ => True) v4 l4 := by rw [e0]; exact R_farN x4_0 (by omega)
  have x5_1 : k67.R 67 W1 (w.heap.size + 4) (fun _ => True) v5 l5 := by rw [e0]; exact R_farN x5_0 (by omega)
  have x8_1 : (Kd.int .i64).R 3 W1 (w.heap.size + 4) (fun _ => True) v8 l8 := by rw [e0]; exact R_farN x8_0 (by omega)
  have x9_1 : Kd.string.R 9 W1 (w.heap.size + 4) (fun _ => True) v9 l9 := by rw [e0]; exact R_farN x9_0 (by omega)
  clear p0 q0 h0 x3_0 x4_0 x5_0 x8_0 x9_0 e0
  obtain ⟨W2, e1⟩ : ∃ X, X = W1.setCell ⟨w.heap.size + 1, 1, none⟩ (.bool f1) := ⟨_, rfl⟩
  rw [← e1]
  have p2 : W2.heap[w.heap.size + 1]? = some (.cells #[.int .i64 f0, .bool f1, .int .i64 0, .slice none 0 0, .slice none 0 0, .slice none 0 0, .int .i64 0, .string ⟨#[]⟩, .slice none 0 0, .slice none 0 0] 38 (0, 0)) := by rw [e1]; exact (blk_set p1 1 _).trans rfl
  have q2 : W2.heap[w.heap.size + 1 + 1]? = some (.cells #[.string ⟨#[]⟩, .int .i64 0, .int .i64 0] 31 (0, 0)) := by rw [e1]; exact (Below.heap_setCell W1 ⟨w.heap.size + 1, 1, none⟩ _ _ (show w.heap.size + 1 + 1 ≠ w.heap.size + 1 by omega)).trans q1
  have h2 : Below w.heap.size w W2 := by rw [e1]; exact h1.setCell (p := ⟨w.heap.size + 1, 1, none⟩) (show w.heap.size ≤ w.heap.size + 1 by omega) _
  have x3_2 : (Kd.int .u32).R 61 W2 (w.heap.size + 4) (fun _ => True) v3 l3 := by rw [e1]; exact R_farN x3_1 (by omega)
  have x4_2 : k63.R 63 W2 (w.heap.size + 4) (fun _ => True) v4 l4 := by rw [e1]; exact R_farN x4_1 (by omega)
  have x5_2 : k67.R 67 W2 (w.heap.size + 4) (fun _ => True) v5 l5 := by rw [e1]; exact R_farN x5_1 (by omega)
  have x8_2 : (Kd.int .i64).R 3 W2 (w.heap.size + 4) (fun _ => True) v8 l8 := by rw [e1]; exact R_farN x8_1 (by omega)
  have x9_2 : Kd.string.R 9 W2 (w.heap.size + 4) (fun _ => True) v9 l9 := by rw [e1]; exact R_farN x9_1 (by omega)
  clear p1 q1 h1 x3_1 x4_1 x5_1 x8_1 x9_1 e1
  obtain ⟨W3, e2⟩ : ∃ X, X = W2.setCell ⟨w.heap.size + 1, 2, none⟩ (.int .i64 f2) := ⟨_, rfl⟩
  rw [← e2]
  have p3 : W3.heap[w.heap.size + 1]? = some (.cells #[.int .i64 f0, .bool f1, .int .i64 f2, .slice none 0 0, .slice none 0 0, .slice none 0 0, .int .i64 0, .string ⟨#[]⟩, .slice none 0 0, .slice none 0 0] 38 (0, 0)) := by rw [e2]; exact (blk_set p2 2 _).trans rfl
  have q3 : W3.heap[w.heap.size + 1 + 1]? = some (.cells #[.string ⟨#[]⟩, .int .i64 0, .int .i64 0] 31 (0, 0)) := by rw [e2]; exact (Below.heap_setCell W2 ⟨w.heap.size + 1, 2, none⟩ _ _ (show w.heap.size + 1 + 1 ≠ w.heap.size + 1 by omega)).trans q2
  have h3 : Below w.heap.size w W3 := by rw [e2]; exact h2.setCell (p := ⟨w.heap.size + 1, 2, none⟩) (show w.heap.size ≤ w.heap.size + 1 by omega) _
  have x3_3 : (Kd.int .u32).R 61 W3 (w.heap.size + 4) (fun _ => True) v3 l3 := by rw [e2]; exact R_farN x3_2 (by omega)
  have x4_3 : k63.R 63 W3 (w.heap.size + 4) (fun _ => True) v4 l4 := by rw [e2]; exact R_farN x4_2 (by omega)
  have x5_3 : k67.R 67 W3 (w.heap.size + 4) (fun _ => True) v5 l5 := by rw [e2]; exact R_farN x5_2 (by omega)
  have x8_3 : (Kd.int .i64).R 3 W3 (w.heap.size + 4) (fun _ => True) v8 l8 := by rw [e2]; exact R_farN x8_2 (by omega)
  have x9_3 : Kd.string.R 9 W3 (w.heap.size + 4) (fun _ => True) v9 l9 := by rw [e2]; exact R_farN x9_2 (by omega)
  clear p2 q2 h2 x3_2 x4_2 x5_2 x8_2 x9_2 e2
  obtain ⟨W4, e3⟩ : ∃ X, X = W3.setCell ⟨w.heap.size + 1, 3, none⟩ v3 := ⟨_, rfl⟩
  rw [← e3]
  have p4 : W4.heap[w.heap.size + 1]? = some (.cells #[.int .i64 f0, .bool f1, .int .i64 f2, v3, .slice none 0 0, .slice none 0 0, .int .i64 0, .string ⟨#[]⟩, .slice none 0 0, .slice none 0 0] 38 (0, 0)) := by rw [e3]; exact (blk_set p3 3 _).trans rfl
  have q4 : W4.heap[w.heap.size + 1 + 1]? = some (.cells #[.string ⟨#[]⟩, .int .i64 0, .int .i64 0] 31 (0, 0)) := by rw [e3]; exact (Below.heap_setCell W3 ⟨w.heap.size + 1, 3, none⟩ _ _ (show w.heap.size + 1 + 1 ≠ w.heap.size + 1 by omega)).trans q3
  have h4 : Below w.heap.size w W4 := by rw [e3]; exact h3.setCell (p := ⟨w.heap.size + 1, 3, none⟩) (show w.heap.size ≤ w.heap.size + 1 by omega) _
  have x3_4 : (Kd.int .u32).R 61 W4 (w.heap.size + 4) (fun _ => True) v3 l3 := by rw [e3]; exact R_farN x3_3 (by omega)
  have x4_4 : k63.R 63 W4 (w.heap.size + 4) (fun _ => True) v4 l4 := by rw [e3]; exact R_farN x4_3 (by omega)
  have x5_4 : k67.R 67 W4 (w.heap.size + 4) (fun _ => True) v5 l5 := by rw [e3]; exact R_farN x5_3 (by omega)
  have x8_4 : (Kd.int .i64).R 3 W4 (w.heap.size + 4) (fun _ => True) v8 l8 := by rw [e3]; exact R_farN x8_3 (by omega)
  have x9_4 : Kd.string.R 9 W4 (w.heap.size + 4) (fun _ => True) v9 l9 := by rw [e3]; exact R_farN x9_3 (by omega)
  clear p3 q3 h3 x3_3 x4_3 x5_3 x8_3 x9_3 e3
  obtain ⟨W5, e4⟩ : ∃ X, X = W4.setCell ⟨w.heap.size + 1, 4, none⟩ v4 := ⟨_, rfl⟩
  rw [← e4]
  have p5 : W5.heap[w.heap.size + 1]? = some (.cells #[.int .i64 f0, .bool f1, .int .i64 f2, v3, v4, .slice none 0 0, .int .i64 0, .string ⟨#[]⟩, .slice none 0 0, .slice none 0 0] 38 (0, 0)) := by rw [e4]; exact (blk_set p4 4 _).trans rfl
  have q5 : W5.heap[w.heap.size + 1 + 1]? = some (.cells #[.string ⟨#[]⟩, .int .i64 0, .int .i64 0] 31 (0, 0)) := by rw [e4]; exact (Below.heap_setCell W4 ⟨w.heap.size + 1, 4, none⟩ _ _ (show w.heap.size + 1 + 1 ≠ w.heap.size + 1 by omega)).trans q4
  have h5 : Below w.heap.size w W5 := by rw [e4]; exact h4.setCell (p := ⟨w.heap.size + 1, 4, none⟩) (show w.heap.size ≤ w.heap.size + 1 by omega) _
  have x3_5 : (Kd.int .u32).R 61 W5 (w.heap.size + 4) (fun _ => True) v3 l3 := by rw [e4]; exact R_farN x3_4 (by omega)
  have x4_5 : k63.R 63 W5 (w.heap.size + 4) (fun _ => True) v4 l4 := by rw [e4]; exact R_farN x4_4 (by omega)
  have x5_5 : k67.R 67 W5 (w.heap.size + 4) (fun _ => True) v5 l5 := by rw [e4]; exact R_farN x5_4 (by omega)
  have x8_5 : (Kd.int .i64).R 3 W5 (w.heap.size + 4) (fun _ => True) v8 l8 := by rw [e4]; exact R_farN x8_4 (by omega)
  have x9_5 : Kd.string.R 9 W5 (w.heap.size + 4) (fun _ => True) v9 l9 := by rw [e4]; exact R_farN x9_4 (by omega)
  clear p4 q4 h4 x3_4 x4_4 x5_4 x8_4 x9_4 e4
  obtain ⟨W6, e5⟩ : ∃ X, X = W5.setCell ⟨w.heap.size + 1, 5, none⟩ v5 := ⟨_, rfl⟩
  rw [← e5]
  have p6 : W6.heap[w.heap.size + 1]? = some (.cells #[.int .i64 f0, .bool f1, .int .i64 f2, v3, v4, v5, .int .i64 0, .string ⟨#[]⟩, .slice none 0 0, .slice none 0 0] 38 (0, 0)) := by rw [e5]; exact (blk_set p5 5 _).trans rfl
  have q6 : W6.heap[w.heap.size + 1 + 1]? = some (.cells #[.string ⟨#[]⟩, .int .i64 0, .int .i64 0] 31 (0, 0)) := by rw [e5]; exact (Below.heap_setCell W5 ⟨w.heap.size + 1, 5, none⟩ _ _ (show w.heap.size + 1 + 1 ≠ w.heap.size + 1 by omega)).trans q5
  have h6 : Below w.heap.size w W6 := by rw [e5]; exact h5.setCell (p := ⟨w.heap.size + 1, 5, none⟩) (show w.heap.size ≤ w.heap.size + 1 by omega) _
  have x3_6 : (Kd.int .u32).R 61 W6 (w.heap.size + 4) (fun _ => True) v3 l3 := by rw [e5]; exact R_farN x3_5 (by omega)
  have x4_6 : k63.R 63 W6 (w.heap.size + 4) (fun _ => True) v4 l4 := by rw [e5]; exact R_farN x4_5 (by omega)
  have x5_6 : k67.R 67 W6 (w.heap.size + 4) (fun _ => True) v5 l5 := by rw [e5]; exact R_farN x5_5 (by omega)
  have x8_6 : (Kd.int .i64).R 3 W6 (w.heap.size + 4) (fun _ => True) v8 l8 := by rw [e5]; exact R_farN x8_5 (by omega)
  have x9_6 : Kd.string.R 9 W6 (w.heap.size + 4) (fun _ => True) v9 l9 := by rw [e5]; exact R_farN x9_5 (by omega)
  clear p5 q5 h5 x3_5 x4_5 x5_5 x8_5 x9_5 e5
  obtain ⟨W7, e6⟩ : ∃ X, X = W6.setCell ⟨w.heap.size + 1, 6, none⟩ (.int .i64 f6) := ⟨_, rfl⟩
  rw [← e6]
  have p7 : W7.heap[w.heap.size + 1]? = some (.cells #[.int .i64 f0, .bool f1, .int .i64 f2, v3, v4, v5, .int .i64 f6, .string ⟨#[]⟩, .slice none 0 0, .slice none 0 0] 38 (0, 0)) := by rw [e6]; exact (blk_set p6 6 _).trans rfl
  have q7 : W7.heap[w.heap.size + 1 + 1]? = some (.cells #[.string ⟨#[]⟩, .int .i64 0, .int .i64 0] 31 (0, 0)) := by rw [e6]; exact (Below.heap_setCell W6 ⟨w.heap.size + 1, 6, none⟩ _ _ (show w.heap.size + 1 + 1 ≠ w.heap.size + 1 by omega)).trans q6
  have h7 : Below w.heap.size w W7 := by rw [e6]; exact h6.setCell (p := ⟨w.heap.size + 1, 6, none⟩) (show w.heap.size ≤ w.heap.size + 1 by omega) _
  have x3_7 : (Kd.int .u32).R 61 W7 (w.heap.size + 4) (fun _ => True) v3 l3 := by rw [e6]; exact R_farN x3_6 (by omega)
  have x4_7 : k63.R 63 W7 (w.heap.size + 4) (fun _ => True) v4 l4 := by rw [e6]; exact R_farN x4_6 (by omega)
  have x5_7 : k67.R 67 W7 (w.heap.size + 4) (fun _ => True) v5 l5 := by rw [e6]; exact R_farN x5_6 (by omega)
  have x8_7 : (Kd.int .i64).R 3 W7 (w.heap.size + 4) (fun _ => True) v8 l8 := by rw [e6]; exact R_farN x8_6 (by omega)
  have x9_7 : Kd.string.R 9 W7 (w.heap.size + 4) (fun _ => True) v9 l9 := by rw [e6]; exact R_farN x9_6 (by omega)
  clear p6 q6 h6 x3_6 x4_6 x5_6 x8_6 x9_6 e6
  obtain ⟨W8, e7⟩ : ∃ X, X = W7.setCell ⟨w.heap.size + 1, 7, none⟩ (.string f7) := ⟨_, rfl⟩
  rw [← e7]
  have p8 : W8.heap[w.heap.size + 1]? = some (.cells #[.int .i64 f0, .bool f1, .int .i64 f2, v3, v4, v5, .int .i64 f6, .string f7, .slice none 0 0, .slice none 0 0] 38 (0, 0)) := by rw [e7]; exact (blk_set p7 7 _).trans rfl
  have q8 : W8.heap[w.heap.size + 1 + 1]? = some (.cells #[.string ⟨#[]⟩, .int .i64 0, .int .i64 0] 31 (0, 0)) := by rw [e7]; exact (Below.heap_setCell W7 ⟨w.heap.size + 1, 7, none⟩ _ _ (show w.heap.size + 1 + 1 ≠ w.heap.size + 1 by omega)).trans q7
  have h8 : Below w.heap.size w W8 := by rw [e7]; exact h7.setCell (p := ⟨w.heap.size + 1, 7, none⟩) (show w.heap.size ≤ w.heap.size + 1 by omega) _
  have x3_8 : (Kd.int .u32).R 61 W8 (w.heap.size + 4) (fun _ => True) v3 l3 := by rw [e7]; exact R_farN x3_7 (by omega)
  have x4_8 : k63.R 63 W8 (w.heap.size + 4) (fun _ => True) v4 l4 := by rw [e7]; exact R_farN x4_7 (by omega)
  have x5_8 : k67.R 67 W8 (w.heap.size + 4) (fun _ => True) v5 l5 := by rw [e7]; exact R_farN x5_7 (by omega)
  have x8_8 : (Kd.int .i64).R 3 W8 (w.heap.size + 4) (fun _ => True) v8 l8 := by rw [e7]; exact R_farN x8_7 (by omega)
  have x9_8 : Kd.string.R 9 W8 (w.heap.size + 4) (fun _ => True) v9 l9 := by rw [e7]; exact R_farN x9_7 (by omega)
  clear p7 q7 h7 x3_7 x4_7 x5_7 x8_7 x9_7 e7
  obtain ⟨W9, e8⟩ : ∃ X, X = W8.setCell ⟨w.heap.size + 1, 8, none⟩ v8 := ⟨_, rfl⟩
  rw [← e8]
  have p9 : W9.heap[w.heap.size + 1]? = some (.cells #[.int .i64 f0, .bool f1, .int .i64 f2, v3, v4, v5, .int .i64 f6, .string f7, v8, .slice none 0 0] 38 (0, 0)) := by rw [e8]; exact (blk_set p8 8 _).trans rfl
  have q9 : W9.heap[w.heap.size + 1 + 1]? = some (.cells #[.string ⟨#[]⟩, .int .i64 0, .int .i64 0] 31 (0, 0)) := by rw [e8]; exact (Below.heap_setCell W8 ⟨w.heap.size + 1, 8, none⟩ _ _ (show w.heap.size + 1 + 1 ≠ w.heap.size + 1 by omega)).trans q8
  have h9 : Below w.heap.size w W9 := by rw [e8]; exact h8.setCell (p := ⟨w.heap.size + 1, 8, none⟩) (show w.heap.size ≤ w.heap.size + 1 by omega) _
  have x3_9 : (Kd.int .u32).R 61 W9 (w.heap.size + 4) (fun _ => True) v3 l3 := by rw [e8]; exact R_farN x3_8 (by omega)
  have x4_9 : k63.R 63 W9 (w.heap.size + 4) (fun _ => True) v4 l4 := by rw [e8]; exact R_farN x4_8 (by omega)
  have x5_9 : k67.R 67 W9 (w.heap.size + 4) (fun _ => True) v5 l5 := by rw [e8]; exact R_farN x5_8 (by omega)
  have x8_9 : (Kd.int .i64).R 3 W9 (w.heap.size + 4) (fun _ => True) v8 l8 := by rw [e8]; exact R_farN x8_8 (by omega)
  have x9_9 : Kd.string.R 9 W9 (w.heap.size + 4) (fun _ => True) v9 l9 := by rw [e8]; exact R_farN x9_8 (by omega)
  clear p8 q8 h8 x3_8 x4_8 x5_8 x8_8 x9_8 e8
  obtain ⟨W10, e9⟩ : ∃ X, X = W9.setCell ⟨w.heap.size + 1, 9, none⟩ v9 := ⟨_, rfl⟩
  rw [← e9]
  have p10 : W10.heap[w.heap.size + 1]? = some (.cells #[.int .i64 f0, .bool f1, .int .i64 f2, v3, v4, v5, .int .i64 f6, .string f7, v8, v9] 38 (0, 0)) := by rw [e9]; exact (blk_set p9 9 _).trans rfl
  have q10 : W10.heap[w.heap.size + 1 + 1]? = some (.cells #[.string ⟨#[]⟩, .int .i64 0, .int .i64 0] 31 (0, 0)) := by rw [e9]; exact (Below.heap_setCell W9 ⟨w.heap.size + 1, 9, none⟩ _ _ (show w.heap.size + 1 + 1 ≠ w.heap.size + 1 by omega)).trans q9
  have h10 : Below w.heap.size w W10 := by rw [e9]; exact h9.setCell (p := ⟨w.heap.size + 1, 9, none⟩) (show w.heap.size ≤ w.heap.size + 1 by omega) _
  have x3_10 : (Kd.int .u32).R 61 W10 (w.heap.size + 4) (fun _ => True) v3 l3 := by rw [e9]; exact R_farN x3_9 (by omega)
  have x4_10 : k63.R 63 W10 (w.heap.size + 4) (fun _ => True) v4 l4 := by rw [e9]; exact R_farN x4_9 (by omega)
  have x5_10 : k67.R 67 W10 (w.heap.size + 4) (fun _ => True) v5 l5 := by rw [e9]; exact R_farN x5_9 (by omega)
  have x8_10 : (Kd.int .i64).R 3 W10 (w.heap.size + 4) (fun _ => True) v8 l8 := by rw [e9]; exact R_farN x8_9 (by omega)
  have x9_10 : Kd.string.R 9 W10 (w.heap.size + 4) (fun _ => True) v9 l9 := by rw [e9]; exact R_farN x9_9 (by omega)
  clear p9 q9 h9 x3_9 x4_9 x5_9 x8_9 x9_9 e9
  obtain ⟨W11, e10⟩ : ∃ X, X = W10.setCell ⟨w.heap.size + 1 + 1, 0, none⟩ (.string s) := ⟨_, rfl⟩
  rw [← e10]
  have p11 : W11.heap[w.heap.size + 1]? = some (.cells #[.int .i64 f0, .bool f1, .int .i64 f2, v3, v4, v5, .int .i64 f6, .string f7, v8, v9] 38 (0, 0)) := by rw [e10]; exact (Below.heap_setCell W10 ⟨w.heap.size + 1 + 1, 0, none⟩ _ _ (show w.heap.size + 1 ≠ w.heap.size + 1 + 1 by omega)).trans p10
  have q11 : W11.heap[w.heap.size + 1 + 1]? = some (.cells #[.string s, .int .i64 0, .int .i64 0] 31 (0, 0)) := by rw [e10]; exact (blk_set q10 0 _).trans rfl
  have h11 : Below w.heap.size w W11 := by rw [e10]; exact h10.setCell (p := ⟨w.heap.size + 1 + 1, 0, none⟩) (show w.heap.size ≤ w.heap.size + 1 + 1 by omega) _
  have x3_11 : (Kd.int .u32).R 61 W11 (w.heap.size + 4) (fun _ => True) v3 l3 := by rw [e10]; exact R_farN x3_10 (by omega)
  have x4_11 : k63.R 63 W11 (w.heap.size + 4) (fun _ => True) v4 l4 := by rw [e10]; exact R_farN x4_10 (by omega)
  have x5_11 : k67.R 67 W11 (w.heap.size + 4) (fun _ => True) v5 l5 := by rw [e10]; exact R_farN x5_10 (by omega)
  have x8_11 : (Kd.int .i64).R 3 W11 (w.heap.size + 4) (fun _ => True) v8 l8 := by rw [e10]; exact R_farN x8_10 (by omega)
  have x9_11 : Kd.string.R 9 W11 (w.heap.size + 4) (fun _ => True) v9 l9 := by rw [e10]; exact R_farN x9_10 (by omega)
  clear p10 q10 h10 x3_10 x4_10 x5_10 x8_10 x9_10 e10
  obtain ⟨W12, e11⟩ : ∃ X, X = W11.setCell ⟨w.heap.size + 1 + 1, 1, none⟩ (.int .i64 a) := ⟨_, rfl⟩
  rw [← e11]
  have p12 : W12.heap[w.heap.size + 1]? = some (.cells #[.int .i64 f0, .bool f1, .int .i64 f2, v3, v4, v5, .int .i64 f6, .string f7, v8, v9] 38 (0, 0)) := by rw [e11]; exact (Below.heap_setCell W11 ⟨w.heap.size + 1 + 1, 1, none⟩ _ _ (show w.heap.size + 1 ≠ w.heap.size + 1 + 1 by omega)).trans p11
  have q12 : W12.heap[w.heap.size + 1 + 1]? = some (.cells #[.string s, .int .i64 a, .int .i64 0] 31 (0, 0)) := by rw [e11]; exact (blk_set q11 1 _).trans rfl
  have h12 : Below w.heap.size w W12 := by rw [e11]; exact h11.setCell (p := ⟨w.heap.size + 1 + 1, 1, none⟩) (show w.heap.size ≤ w.heap.size + 1 + 1 by omega) _
  have x3_12 : (Kd.int .u32).R 61 W12 (w.heap.size + 4) (fun _ => True) v3 l3 := by rw [e11]; exact R_farN x3_11 (by omega)
  have x4_12 : k63.R 63 W12 (w.heap.size + 4) (fun _ => True) v4 l4 := by rw [e11]; exact R_farN x4_11 (by omega)
  have x5_12 : k67.R 67 W12 (w.heap.size + 4) (fun _ => True) v5 l5 := by rw [e11]; exact R_farN x5_11 (by omega)
  have x8_12 : (Kd.int .i64).R 3 W12 (w.heap.size + 4) (fun _ => True) v8 l8 := by rw [e11]; exact R_farN x8_11 (by omega)
  have x9_12 : Kd.string.R 9 W12 (w.heap.size + 4) (fun _ => True) v9 l9 := by rw [e11]; exact R_farN x9_11 (by omega)
  clear p11 q11 h11 x3_11 x4_11 x5_11 x8_11 x9_11 e11
  obtain ⟨W13, e12⟩ : ∃ X, X = W12.setCell ⟨w.heap.size + 1 + 1, 2, none⟩ (.int .i64 e) := ⟨_, rfl⟩
  rw [← e12]
  have p13 : W13.heap[w.heap.size + 1]? = some (.cells #[.int .i64 f0, .bool f1, .int .i64 f2, v3, v4, v5, .int .i64 f6, .string f7, v8, v9] 38 (0, 0)) := by rw [e12]; exact (Below.heap_setCell W12 ⟨w.heap.size + 1 + 1, 2, none⟩ _ _ (show w.heap.size + 1 ≠ w.heap.size + 1 + 1 by omega)).trans p12
  have q13 : W13.heap[w.heap.size + 1 + 1]? = some (.cells #[.string s, .int .i64 a, .int .i64 e] 31 (0, 0)) := by rw [e12]; exact (blk_set q12 2 _).trans rfl
  have h13 : Below w.heap.size w W13 := by rw [e12]; exact h12.setCell (p := ⟨w.heap.size + 1 + 1, 2, none⟩) (show w.heap.size ≤ w.heap.size + 1 + 1 by omega) _
  have x3_13 : (Kd.int .u32).R 61 W13 (w.heap.size + 4) (fun _ => True) v3 l3 := by rw [e12]; exact R_farN x3_12 (by omega)
  have x4_13 : k63.R 63 W13 (w.heap.size + 4) (fun _ => True) v4 l4 := by rw [e12]; exact R_farN x4_12 (by omega)
  have x5_13 : k67.R 67 W13 (w.heap.size + 4) (fun _ => True) v5 l5 := by rw [e12]; exact R_farN x5_12 (by omega)
  have x8_13 : (Kd.int .i64).R 3 W13 (w.heap.size + 4) (fun _ => True) v8 l8 := by rw [e12]; exact R_farN x8_12 (by omega)
  have x9_13 : Kd.string.R 9 W13 (w.heap.size + 4) (fun _ => True) v9 l9 := by rw [e12]; exact R_farN x9_12 (by omega)
  clear p12 q12 h12 x3_12 x4_12 x5_12 x8_12 x9_12 e12
  exact ⟨_, rfl, p13, q13, Kd.R_lower x3_13 (by omega), Kd.R_lower x4_13 (by omega), Kd.R_lower x5_13 (by omega), Kd.R_lower x8_13 (by omega), Kd.R_lower x9_13 (by omega), h13⟩
theorem finRP {s : ByteArray} {w W : World} {a e : Int} {f0 : Int} {f1 : Bool} {f2 f6 : Int} {f7 : ByteArray} {l3 : List Int} {l4 : List S63} {l5 : List S67} {l8 : List Int} {l9 : List ByteArray} {v3 v4 v5 v8 v9 : Value} (h0 : Below w.heap.size w W) (p0 : W.heap[w.heap.size + 1]? = some (.cells #[.int .i64 0, .bool false, .int .i64 0, .slice none 0 0, .slice none 0 0, .slice none 0 0, .int .i64 0, .string ⟨#[]⟩, .slice none 0 0, .slice none 0 0] 38 (0, 0))) (q0 : W.heap[w.heap.size + 1 + 1]? = some (.cells #[.string ⟨#[]⟩, .int .i64 0, .int .i64 0] 31 (0, 0))) (x3_0 : (Kd.int .u32).R 61 W (w.heap.size + 4) (fun _ => True) v3 l3) (x4_0 : k63.R 63 W (w.heap.size + 4) (fun _ => True) v4 l4) (x5_0 : k67.R 67 W (w.heap.size + 4) (fun _ => True) v5 l5) (x8_0 : (Kd.int .i64).R 3 W (w.heap.size + 4) (fun _ => True) v8 l8) (x9_0 : Kd.string.R 9 W (w.heap.size + 4) (fun _ => True) v9 l9) :
    ∃ W', W' = (((((((((((((W.setCell ⟨w.heap.size + 1 + 1, 0, none⟩ (.string s)).setCell ⟨w.heap.size + 1 + 1, 1, none⟩ (.int .i64 a)).setCell ⟨w.heap.size + 1 + 1, 2, none⟩ (.int .i64 e)).setCell ⟨w.heap.size + 1, 0, none⟩ (.int .i64 f0)).setCell ⟨w.heap.size + 1, 1, none⟩ (.bool f1)).setCell ⟨w.heap.size + 1, 2, none⟩ (.int .i64 f2)).setCell ⟨w.heap.size + 1, 3, none⟩ v3).setCell ⟨w.heap.size + 1, 4, none⟩ v4).setCell ⟨w.heap.size + 1, 5, none⟩ v5).setCell ⟨w.heap.size + 1, 6, none⟩ (.int .i64 f6)).setCell ⟨w.heap.size + 1, 7, none⟩ (.string f7)).setCell ⟨w.heap.size + 1, 8, none⟩ v8).setCell ⟨w.heap.size + 1, 9, none⟩ v9) ∧ W'.heap[w.heap.size + 1]? = some (.cells #[.int .i64 f0, .bool f1, .int .i64 f2, v3, v4, v5, .int .i64 f6, .string f7, v8, v9] 38 (0, 0)) ∧ W'.heap[w.heap.size + 1 + 1]? = some (.cells #[.string s, .int .i64 a, .int .i64 e] 31 (0, 0)) ∧ (Kd.int .u32).R 61 W' w.heap.size (fun _ => True) v3 l3 ∧ k63.R 63 W' w.heap.size (fun _ => True) v4 l4 ∧ k67.R 67 W' w.heap.size (fun _ => True) v5 l5 ∧ (Kd.int .i64).R 3 W' w.heap.size (fun _ => True) v8 l8 ∧ Kd.string.R 9 W' w.heap.size (fun _ => True) v9 l9 ∧ Below w.heap.size w W' := by
  obtain ⟨W1, e0⟩ : ∃ X, X = W.setCell ⟨w.heap.size + 1 + 1, 0, none⟩ (.string s) := ⟨_, rfl⟩
  rw [← e0]
  have p1 : W1.heap[w.heap.size + 1]? = some (.cells #[.int .i64 0, .bool false, .int .i64 0, .slice none 0 0, .slice none 0 0, .slice none 0 0, .int .i64 0, .string ⟨#[]⟩, .slice none 0 0, .slice none 0 0] 38 (0, 0)) := by rw [e0]; exact (Below.heap_setCell W ⟨w.heap.size + 1 + 1, 0, none⟩ _ _ (show w.heap.size + 1 ≠ w.heap.size + 1 + 1 by omega)).trans p0
  have q1 : W1.heap[w.heap.size + 1 + 1]? = some (.cells #[.string s, .int .i64 0, .int .i64 0] 31 (0, 0)) := by rw [e0]; exact (blk_set q0 0 _).trans rfl
  have h1 : Below w.heap.size w W1 := by rw [e0]; exact h0.setCell (p := ⟨w.heap.size + 1 + 1, 0, none⟩) (show w.heap.size ≤ w.heap.size + 1 + 1 by omega) _
  have x3_1 : (Kd.int .u32).R 61 W1 (w.heap.size + 4) (fun _ => True) v3 l3 := by rw [e0]; exact R_farN x3_0 (by omega)
  have x4_1 : k63.R 63 W1 (w.heap.size + 4) (fun _ => True) v4 l4 := by rw [e0]; exact R_farN x4_0 (by omega)
  have x5_1 : k67.R 67 W1 (w.heap.size + 4) (fun _ => True) v5 l5 := by rw [e0]; exact R_farN x5_0 (by omega)
  have x8_1 : (Kd.int .i64).R 3 W1 (w.heap.size + 4) (fun _ => True) v8 l8 := by rw [e0]; exact R_farN x8_0 (by omega)
  have x9_1 : Kd.string.R 9 W1 (w.heap.size + 4) (fun _ => True) v9 l9 := by rw [e0]; exact R_farN x9_0 (by omega)
  clear p0 q0 h0 x3_0 x4_0 x5_0 x8_0 x9_0 e0
  obtain ⟨W2, e1⟩ : ∃ X, X = W1.setCell ⟨w.heap.size + 1 + 1, 1, none⟩ (.int .i64 a) := ⟨_, rfl⟩
  rw [← e1]
  have p2 : W2.heap[w.heap.size + 1]? = some (.cells #[.int .i64 0, .bool false, .int .i64 0, .slice none 0 0, .slice none 0 0, .slice none 0 0, .int .i64 0, .string ⟨#[]⟩, .slice none 0 0, .slice none 0 0] 38 (0, 0)) := by rw [e1]; exact (Below.heap_setCell W1 ⟨w.heap.size + 1 + 1, 1, none⟩ _ _ (show w.heap.size + 1 ≠ w.heap.size + 1 + 1 by omega)).trans p1
  have q2 : W2.heap[w.heap.size + 1 + 1]? = some (.cells #[.string s, .int .i64 a, .int .i64 0] 31 (0, 0)) := by rw [e1]; exact (blk_set q1 1 _).trans rfl
  have h2 : Below w.heap.size w W2 := by rw [e1]; exact h1.setCell (p := ⟨w.heap.size + 1 + 1, 1, none⟩) (show w.heap.size ≤ w.heap.size + 1 + 1 by omega) _
  have x3_2 : (Kd.int .u32).R 61 W2 (w.heap.size + 4) (fun _ => True) v3 l3 := by rw [e1]; exact R_farN x3_1 (by omega)
  have x4_2 : k63.R 63 W2 (w.heap.size + 4) (fun _ => True) v4 l4 := by rw [e1]; exact R_farN x4_1 (by omega)
  have x5_2 : k67.R 67 W2 (w.heap.size + 4) (fun _ => True) v5 l5 := by rw [e1]; exact R_farN x5_1 (by omega)
  have x8_2 : (Kd.int .i64).R 3 W2 (w.heap.size + 4) (fun _ => True) v8 l8 := by rw [e1]; exact R_farN x8_1 (by omega)
  have x9_2 : Kd.string.R 9 W2 (w.heap.size + 4) (fun _ => True) v9 l9 := by rw [e1]; exact R_farN x9_1 (by omega)
  clear p1 q1 h1 x3_1 x4_1 x5_1 x8_1 x9_1 e1
  obtain ⟨W3, e2⟩ : ∃ X, X = W2.setCell ⟨w.heap.size + 1 + 1, 2, none⟩ (.int .i64 e) := ⟨_, rfl⟩
  rw [← e2]
  have p3 : W3.heap[w.heap.size + 1]? = some (.cells #[.int .i64 0, .bool false, .int .i64 0, .slice none 0 0, .slice none 0 0, .slice none 0 0, .int .i64 0, .string ⟨#[]⟩, .slice none 0 0, .slice none 0 0] 38 (0, 0)) := by rw [e2]; exact (Below.heap_setCell W2 ⟨w.heap.size + 1 + 1, 2, none⟩ _ _ (show w.heap.size + 1 ≠ w.heap.size + 1 + 1 by omega)).trans p2
  have q3 : W3.heap[w.heap.size + 1 + 1]? = some (.cells #[.string s, .int .i64 a, .int .i64 e] 31 (0, 0)) := by rw [e2]; exact (blk_set q2 2 _).trans rfl
  have h3 : Below w.heap.size w W3 := by rw [e2]; exact h2.setCell (p := ⟨w.heap.size + 1 + 1, 2, none⟩) (show w.heap.size ≤ w.heap.size + 1 + 1 by omega) _
  have x3_3 : (Kd.int .u32).R 61 W3 (w.heap.size + 4) (fun _ => True) v3 l3 := by rw [e2]; exact R_farN x3_2 (by omega)
  have x4_3 : k63.R 63 W3 (w.heap.size + 4) (fun _ => True) v4 l4 := by rw [e2]; exact R_farN x4_2 (by omega)
  have x5_3 : k67.R 67 W3 (w.heap.size + 4) (fun _ => True) v5 l5 := by rw [e2]; exact R_farN x5_2 (by omega)
  have x8_3 : (Kd.int .i64).R 3 W3 (w.heap.size + 4) (fun _ => True) v8 l8 := by rw [e2]; exact R_farN x8_2 (by omega)
  have x9_3 : Kd.string.R 9 W3 (w.heap.size + 4) (fun _ => True) v9 l9 := by rw [e2]; exact R_farN x9_2 (by omega)
  clear p2 q2 h2 x3_2 x4_2 x5_2 x8_2 x9_2 e2
  obtain ⟨W4, e3⟩ : ∃ X, X = W3.setCell ⟨w.heap.size + 1, 0, none⟩ (.int .i64 f0) := ⟨_, rfl⟩
  rw [← e3]
  have p4 : W4.heap[w.heap.size + 1]? = some (.cells #[.int .i64 f0, .bool false, .int .i64 0, .slice none 0 0, .slice none 0 0, .slice none 0 0, .int .i64 0, .string ⟨#[]⟩, .slice none 0 0, .slice none 0 0] 38 (0, 0)) := by rw [e3]; exact (blk_set p3 0 _).trans rfl
  have q4 : W4.heap[w.heap.size + 1 + 1]? = some (.cells #[.string s, .int .i64 a, .int .i64 e] 31 (0, 0)) := by rw [e3]; exact (Below.heap_setCell W3 ⟨w.heap.size + 1, 0, none⟩ _ _ (show w.heap.size + 1 + 1 ≠ w.heap.size + 1 by omega)).trans q3
  have h4 : Below w.heap.size w W4 := by rw [e3]; exact h3.setCell (p := ⟨w.heap.size + 1, 0, none⟩) (show w.heap.size ≤ w.heap.size + 1 by omega) _
  have x3_4 : (Kd.int .u32).R 61 W4 (w.heap.size + 4) (fun _ => True) v3 l3 := by rw [e3]; exact R_farN x3_3 (by omega)
  have x4_4 : k63.R 63 W4 (w.heap.size + 4) (fun _ => True) v4 l4 := by rw [e3]; exact R_farN x4_3 (by omega)
  have x5_4 : k67.R 67 W4 (w.heap.size + 4) (fun _ => True) v5 l5 := by rw [e3]; exact R_farN x5_3 (by omega)
  have x8_4 : (Kd.int .i64).R 3 W4 (w.heap.size + 4) (fun _ => True) v8 l8 := by rw [e3]; exact R_farN x8_3 (by omega)
  have x9_4 : Kd.string.R 9 W4 (w.heap.size + 4) (fun _ => True) v9 l9 := by rw [e3]; exact R_farN x9_3 (by omega)
  clear p3 q3 h3 x3_3 x4_3 x5_3 x8_3 x9_3 e3
  obtain ⟨W5, e4⟩ : ∃ X, X = W4.setCell ⟨w.heap.size + 1, 1, none⟩ (.bool f1) := ⟨_, rfl⟩
  rw [← e4]
  have p5 : W5.heap[w.heap.size + 1]? = some (.cells #[.int .i64 f0, .bool f1, .int .i64 0, .slice none 0 0, .slice none 0 0, .slice none 0 0, .int .i64 0, .string ⟨#[]⟩, .slice none 0 0, .slice none 0 0] 38 (0, 0)) := by rw [e4]; exact (blk_set p4 1 _).trans rfl
  have q5 : W5.heap[w.heap.size + 1 + 1]? = some (.cells #[.string s, .int .i64 a, .int .i64 e] 31 (0, 0)) := by rw [e4]; exact (Below.heap_setCell W4 ⟨w.heap.size + 1, 1, none⟩ _ _ (show w.heap.size + 1 + 1 ≠ w.heap.size + 1 by omega)).trans q4
  have h5 : Below w.heap.size w W5 := by rw [e4]; exact h4.setCell (p := ⟨w.heap.size + 1, 1, none⟩) (show w.heap.size ≤ w.heap.size + 1 by omega) _
  have x3_5 : (Kd.int .u32).R 61 W5 (w.heap.size + 4) (fun _ => True) v3 l3 := by rw [e4]; exact R_farN x3_4 (by omega)
  have x4_5 : k63.R 63 W5 (w.heap.size + 4) (fun _ => True) v4 l4 := by rw [e4]; exact R_farN x4_4 (by omega)
  have x5_5 : k67.R 67 W5 (w.heap.size + 4) (fun _ => True) v5 l5 := by rw [e4]; exact R_farN x5_4 (by omega)
  have x8_5 : (Kd.int .i64).R 3 W5 (w.heap.size + 4) (fun _ => True) v8 l8 := by rw [e4]; exact R_farN x8_4 (by omega)
  have x9_5 : Kd.string.R 9 W5 (w.heap.size + 4) (fun _ => True) v9 l9 := by rw [e4]; exact R_farN x9_4 (by omega)
  clear p4 q4 h4 x3_4 x4_4 x5_4 x8_4 x9_4 e4
  obtain ⟨W6, e5⟩ : ∃ X, X = W5.setCell ⟨w.heap.size + 1, 2, none⟩ (.int .i64 f2) := ⟨_, rfl⟩
  rw [← e5]
  have p6 : W6.heap[w.heap.size + 1]? = some (.cells #[.int .i64 f0, .bool f1, .int .i64 f2, .slice none 0 0, .slice none 0 0, .slice none 0 0, .int .i64 0, .string ⟨#[]⟩, .slice none 0 0, .slice none 0 0] 38 (0, 0)) := by rw [e5]; exact (blk_set p5 2 _).trans rfl
  have q6 : W6.heap[w.heap.size + 1 + 1]? = some (.cells #[.string s, .int .i64 a, .int .i64 e] 31 (0, 0)) := by rw [e5]; exact (Below.heap_setCell W5 ⟨w.heap.size + 1, 2, none⟩ _ _ (show w.heap.size + 1 + 1 ≠ w.heap.size + 1 by omega)).trans q5
  have h6 : Below w.heap.size w W6 := by rw [e5]; exact h5.setCell (p := ⟨w.heap.size + 1, 2, none⟩) (show w.heap.size ≤ w.heap.size + 1 by omega) _
  have x3_6 : (Kd.int .u32).R 61 W6 (w.heap.size + 4) (fun _ => True) v3 l3 := by rw [e5]; exact R_farN x3_5 (by omega)
  have x4_6 : k63.R 63 W6 (w.heap.size + 4) (fun _ => True) v4 l4 := by rw [e5]; exact R_farN x4_5 (by omega)
  have x5_6 : k67.R 67 W6 (w.heap.size + 4) (fun _ => True) v5 l5 := by rw [e5]; exact R_farN x5_5 (by omega)
  have x8_6 : (Kd.int .i64).R 3 W6 (w.heap.size + 4) (fun _ => True) v8 l8 := by rw [e5]; exact R_farN x8_5 (by omega)
  have x9_6 : Kd.string.R 9 W6 (w.heap.size + 4) (fun _ => True) v9 l9 := by rw [e5]; exact R_farN x9_5 (by omega)
  clear p5 q5 h5 x3_5 x4_5 x5_5 x8_5 x9_5 e5
  obtain ⟨W7, e6⟩ : ∃ X, X = W6.setCell ⟨w.heap.size + 1, 3, none⟩ v3 := ⟨_, rfl⟩
  rw [← e6]
  have p7 : W7.heap[w.heap.size + 1]? = some (.cells #[.int .i64 f0, .bool f1, .int .i64 f2, v3, .slice none 0 0, .slice none 0 0, .int .i64 0, .string ⟨#[]⟩, .slice none 0 0, .slice none 0 0] 38 (0, 0)) := by rw [e6]; exact (blk_set p6 3 _).trans rfl
  have q7 : W7.heap[w.heap.size + 1 + 1]? = some (.cells #[.string s, .int .i64 a, .int .i64 e] 31 (0, 0)) := by rw [e6]; exact (Below.heap_setCell W6 ⟨w.heap.size + 1, 3, none⟩ _ _ (show w.heap.size + 1 + 1 ≠ w.heap.size + 1 by omega)).trans q6
  have h7 : Below w.heap.size w W7 := by rw [e6]; exact h6.setCell (p := ⟨w.heap.size + 1, 3, none⟩) (show w.heap.size ≤ w.heap.size + 1 by omega) _
  have x3_7 : (Kd.int .u32).R 61 W7 (w.heap.size + 4) (fun _ => True) v3 l3 := by rw [e6]; exact R_farN x3_6 (by omega)
  have x4_7 : k63.R 63 W7 (w.heap.size + 4) (fun _ => True) v4 l4 := by rw [e6]; exact R_farN x4_6 (by omega)
  have x5_7 : k67.R 67 W7 (w.heap.size + 4) (fun _ => True) v5 l5 := by rw [e6]; exact R_farN x5_6 (by omega)
  have x8_7 : (Kd.int .i64).R 3 W7 (w.heap.size + 4) (fun _ => True) v8 l8 := by rw [e6]; exact R_farN x8_6 (by omega)
  have x9_7 : Kd.string.R 9 W7 (w.heap.size + 4) (fun _ => True) v9 l9 := by rw [e6]; exact R_farN x9_6 (by omega)
  clear p6 q6 h6 x3_6 x4_6 x5_6 x8_6 x9_6 e6
  obtain ⟨W8, e7⟩ : ∃ X, X = W7.setCell ⟨w.heap.size + 1, 4, none⟩ v4 := ⟨_, rfl⟩
  rw [← e7]
  have p8 : W8.heap[w.heap.size + 1]? = some (.cells #[.int .i64 f0, .bool f1, .int .i64 f2, v3, v4, .slice none 0 0, .int .i64 0, .string ⟨#[]⟩, .slice none 0 0, .slice none 0 0] 38 (0, 0)) := by rw [e7]; exact (blk_set p7 4 _).trans rfl
  have q8 : W8.heap[w.heap.size + 1 + 1]? = some (.cells #[.string s, .int .i64 a, .int .i64 e] 31 (0, 0)) := by rw [e7]; exact (Below.heap_setCell W7 ⟨w.heap.size + 1, 4, none⟩ _ _ (show w.heap.size + 1 + 1 ≠ w.heap.size + 1 by omega)).trans q7
  have h8 : Below w.heap.size w W8 := by rw [e7]; exact h7.setCell (p := ⟨w.heap.size + 1, 4, none⟩) (show w.heap.size ≤ w.heap.size + 1 by omega) _
  have x3_8 : (Kd.int .u32).R 61 W8 (w.heap.size + 4) (fun _ => True) v3 l3 := by rw [e7]; exact R_farN x3_7 (by omega)
  have x4_8 : k63.R 63 W8 (w.heap.size + 4) (fun _ => True) v4 l4 := by rw [e7]; exact R_farN x4_7 (by omega)
  have x5_8 : k67.R 67 W8 (w.heap.size + 4) (fun _ => True) v5 l5 := by rw [e7]; exact R_farN x5_7 (by omega)
  have x8_8 : (Kd.int .i64).R 3 W8 (w.heap.size + 4) (fun _ => True) v8 l8 := by rw [e7]; exact R_farN x8_7 (by omega)
  have x9_8 : Kd.string.R 9 W8 (w.heap.size + 4) (fun _ => True) v9 l9 := by rw [e7]; exact R_farN x9_7 (by omega)
  clear p7 q7 h7 x3_7 x4_7 x5_7 x8_7 x9_7 e7
  obtain ⟨W9, e8⟩ : ∃ X, X = W8.setCell ⟨w.heap.size + 1, 5, none⟩ v5 := ⟨_, rfl⟩
  rw [← e8]
  have p9 : W9.heap[w.heap.size + 1]? = some (.cells #[.int .i64 f0, .bool f1, .int .i64 f2, v3, v4, v5, .int .i64 0, .string ⟨#[]⟩, .slice none 0 0, .slice none 0 0] 38 (0, 0)) := by rw [e8]; exact (blk_set p8 5 _).trans rfl
  have q9 : W9.heap[w.heap.size + 1 + 1]? = some (.cells #[.string s, .int .i64 a, .int .i64 e] 31 (0, 0)) := by rw [e8]; exact (Below.heap_setCell W8 ⟨w.heap.size + 1, 5, none⟩ _ _ (show w.heap.size + 1 + 1 ≠ w.heap.size + 1 by omega)).trans q8
  have h9 : Below w.heap.size w W9 := by rw [e8]; exact h8.setCell (p := ⟨w.heap.size + 1, 5, none⟩) (show w.heap.size ≤ w.heap.size + 1 by omega) _
  have x3_9 : (Kd.int .u32).R 61 W9 (w.heap.size + 4) (fun _ => True) v3 l3 := by rw [e8]; exact R_farN x3_8 (by omega)
  have x4_9 : k63.R 63 W9 (w.heap.size + 4) (fun _ => True) v4 l4 := by rw [e8]; exact R_farN x4_8 (by omega)
  have x5_9 : k67.R 67 W9 (w.heap.size + 4) (fun _ => True) v5 l5 := by rw [e8]; exact R_farN x5_8 (by omega)
  have x8_9 : (Kd.int .i64).R 3 W9 (w.heap.size + 4) (fun _ => True) v8 l8 := by rw [e8]; exact R_farN x8_8 (by omega)
  have x9_9 : Kd.string.R 9 W9 (w.heap.size + 4) (fun _ => True) v9 l9 := by rw [e8]; exact R_farN x9_8 (by omega)
  clear p8 q8 h8 x3_8 x4_8 x5_8 x8_8 x9_8 e8
  obtain ⟨W10, e9⟩ : ∃ X, X = W9.setCell ⟨w.heap.size + 1, 6, none⟩ (.int .i64 f6) := ⟨_, rfl⟩
  rw [← e9]
  have p10 : W10.heap[w.heap.size + 1]? = some (.cells #[.int .i64 f0, .bool f1, .int .i64 f2, v3, v4, v5, .int .i64 f6, .string ⟨#[]⟩, .slice none 0 0, .slice none 0 0] 38 (0, 0)) := by rw [e9]; exact (blk_set p9 6 _).trans rfl
  have q10 : W10.heap[w.heap.size + 1 + 1]? = some (.cells #[.string s, .int .i64 a, .int .i64 e] 31 (0, 0)) := by rw [e9]; exact (Below.heap_setCell W9 ⟨w.heap.size + 1, 6, none⟩ _ _ (show w.heap.size + 1 + 1 ≠ w.heap.size + 1 by omega)).trans q9
  have h10 : Below w.heap.size w W10 := by rw [e9]; exact h9.setCell (p := ⟨w.heap.size + 1, 6, none⟩) (show w.heap.size ≤ w.heap.size + 1 by omega) _
  have x3_10 : (Kd.int .u32).R 61 W10 (w.heap.size + 4) (fun _ => True) v3 l3 := by rw [e9]; exact R_farN x3_9 (by omega)
  have x4_10 : k63.R 63 W10 (w.heap.size + 4) (fun _ => True) v4 l4 := by rw [e9]; exact R_farN x4_9 (by omega)
  have x5_10 : k67.R 67 W10 (w.heap.size + 4) (fun _ => True) v5 l5 := by rw [e9]; exact R_farN x5_9 (by omega)
  have x8_10 : (Kd.int .i64).R 3 W10 (w.heap.size + 4) (fun _ => True) v8 l8 := by rw [e9]; exact R_farN x8_9 (by omega)
  have x9_10 : Kd.string.R 9 W10 (w.heap.size + 4) (fun _ => True) v9 l9 := by rw [e9]; exact R_farN x9_9 (by omega)
  clear p9 q9 h9 x3_9 x4_9 x5_9 x8_9 x9_9 e9
  obtain ⟨W11, e10⟩ : ∃ X, X = W10.setCell ⟨w.heap.size + 1, 7, none⟩ (.string f7) := ⟨_, rfl⟩
  rw [← e10]
  have p11 : W11.heap[w.heap.size + 1]? = some (.cells #[.int .i64 f0, .bool f1, .int .i64 f2, v3, v4, v5, .int .i64 f6, .string f7, .slice none 0 0, .slice none 0 0] 38 (0, 0)) := by rw [e10]; exact (blk_set p10 7 _).trans rfl
  have q11 : W11.heap[w.heap.size + 1 + 1]? = some (.cells #[.string s, .int .i64 a, .int .i64 e] 31 (0, 0)) := by rw [e10]; exact (Below.heap_setCell W10 ⟨w.heap.size + 1, 7, none⟩ _ _ (show w.heap.size + 1 + 1 ≠ w.heap.size + 1 by omega)).trans q10
  have h11 : Below w.heap.size w W11 := by rw [e10]; exact h10.setCell (p := ⟨w.heap.size + 1, 7, none⟩) (show w.heap.size ≤ w.heap.size + 1 by omega) _
  have x3_11 : (Kd.int .u32).R 61 W11 (w.heap.size + 4) (fun _ => True) v3 l3 := by rw [e10]; exact R_farN x3_10 (by omega)
  have x4_11 : k63.R 63 W11 (w.heap.size + 4) (fun _ => True) v4 l4 := by rw [e10]; exact R_farN x4_10 (by omega)
  have x5_11 : k67.R 67 W11 (w.heap.size + 4) (fun _ => True) v5 l5 := by rw [e10]; exact R_farN x5_10 (by omega)
  have x8_11 : (Kd.int .i64).R 3 W11 (w.heap.size + 4) (fun _ => True) v8 l8 := by rw [e10]; exact R_farN x8_10 (by omega)
  have x9_11 : Kd.string.R 9 W11 (w.heap.size + 4) (fun _ => True) v9 l9 := by rw [e10]; exact R_farN x9_10 (by omega)
  clear p10 q10 h10 x3_10 x4_10 x5_10 x8_10 x9_10 e10
  obtain ⟨W12, e11⟩ : ∃ X, X = W11.setCell ⟨w.heap.size + 1, 8, none⟩ v8 := ⟨_, rfl⟩
  rw [← e11]
  have p12 : W12.heap[w.heap.size + 1]? = some (.cells #[.int .i64 f0, .bool f1, .int .i64 f2, v3, v4, v5, .int .i64 f6, .string f7, v8, .slice none 0 0] 38 (0, 0)) := by rw [e11]; exact (blk_set p11 8 _).trans rfl
  have q12 : W12.heap[w.heap.size + 1 + 1]? = some (.cells #[.string s, .int .i64 a, .int .i64 e] 31 (0, 0)) := by rw [e11]; exact (Below.heap_setCell W11 ⟨w.heap.size + 1, 8, none⟩ _ _ (show w.heap.size + 1 + 1 ≠ w.heap.size + 1 by omega)).trans q11
  have h12 : Below w.heap.size w W12 := by rw [e11]; exact h11.setCell (p := ⟨w.heap.size + 1, 8, none⟩) (show w.heap.size ≤ w.heap.size + 1 by omega) _
  have x3_12 : (Kd.int .u32).R 61 W12 (w.heap.size + 4) (fun _ => True) v3 l3 := by rw [e11]; exact R_farN x3_11 (by omega)
  have x4_12 : k63.R 63 W12 (w.heap.size + 4) (fun _ => True) v4 l4 := by rw [e11]; exact R_farN x4_11 (by omega)
  have x5_12 : k67.R 67 W12 (w.heap.size + 4) (fun _ => True) v5 l5 := by rw [e11]; exact R_farN x5_11 (by omega)
  have x8_12 : (Kd.int .i64).R 3 W12 (w.heap.size + 4) (fun _ => True) v8 l8 := by rw [e11]; exact R_farN x8_11 (by omega)
  have x9_12 : Kd.string.R 9 W12 (w.heap.size + 4) (fun _ => True) v9 l9 := by rw [e11]; exact R_farN x9_11 (by omega)
  clear p11 q11 h11 x3_11 x4_11 x5_11 x8_11 x9_11 e11
  obtain ⟨W13, e12⟩ : ∃ X, X = W12.setCell ⟨w.heap.size + 1, 9, none⟩ v9 := ⟨_, rfl⟩
  rw [← e12]
  have p13 : W13.heap[w.heap.size + 1]? = some (.cells #[.int .i64 f0, .bool f1, .int .i64 f2, v3, v4, v5, .int .i64 f6, .string f7, v8, v9] 38 (0, 0)) := by rw [e12]; exact (blk_set p12 9 _).trans rfl
  have q13 : W13.heap[w.heap.size + 1 + 1]? = some (.cells #[.string s, .int .i64 a, .int .i64 e] 31 (0, 0)) := by rw [e12]; exact (Below.heap_setCell W12 ⟨w.heap.size + 1, 9, none⟩ _ _ (show w.heap.size + 1 + 1 ≠ w.heap.size + 1 by omega)).trans q12
  have h13 : Below w.heap.size w W13 := by rw [e12]; exact h12.setCell (p := ⟨w.heap.size + 1, 9, none⟩) (show w.heap.size ≤ w.heap.size + 1 by omega) _
  have x3_13 : (Kd.int .u32).R 61 W13 (w.heap.size + 4) (fun _ => True) v3 l3 := by rw [e12]; exact R_farN x3_12 (by omega)
  have x4_13 : k63.R 63 W13 (w.heap.size + 4) (fun _ => True) v4 l4 := by rw [e12]; exact R_farN x4_12 (by omega)
  have x5_13 : k67.R 67 W13 (w.heap.size + 4) (fun _ => True) v5 l5 := by rw [e12]; exact R_farN x5_12 (by omega)
  have x8_13 : (Kd.int .i64).R 3 W13 (w.heap.size + 4) (fun _ => True) v8 l8 := by rw [e12]; exact R_farN x8_12 (by omega)
  have x9_13 : Kd.string.R 9 W13 (w.heap.size + 4) (fun _ => True) v9 l9 := by rw [e12]; exact R_farN x9_12 (by omega)
  clear p12 q12 h12 x3_12 x4_12 x5_12 x8_12 x9_12 e12
  exact ⟨_, rfl, p13, q13, Kd.R_lower x3_13 (by omega), Kd.R_lower x4_13 (by omega), Kd.R_lower x5_13 (by omega), Kd.R_lower x8_13 (by omega), Kd.R_lower x9_13 (by omega), h13⟩
end Go.Proofs.YtiekodnojmkfaaaDoor.PFnExactLoad
