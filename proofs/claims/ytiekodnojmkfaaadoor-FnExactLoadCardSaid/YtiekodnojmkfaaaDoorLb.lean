import Derived.Shelf.Abstract
import Derived.Shelf.RegionOpen
import Derived.WalkKit
import Derived.OwnWalkIn
import Derived.TacticsInMore
import Derived.LoopNIn
import Derived.LoopIn
import Derived.Laws.EntriesVeiled
import Derived.LoopN
import Derived.WalkLawsBesides
import Derived.Test.YtiekodnojmkfaaaDoorLa
namespace Go.Proofs.YtiekodnojmkfaaaDoor.PFnExactLoad
open Go.RowKit Go.Proofs.YtiekodnojmkfaaaDoorW.PrintWords Go.Proofs.YtiekodnojmkfaaaDoorW.PrintLast Go.Proofs.YtiekodnojmkfaaaDoorW.PrintMore
attribute [local go_sem] max2_int min2_int max_two min_two max_three min_three max_four min_four
set_option linter.unusedVariables false
set_option linter.unusedSimpArgs false
theorem R_farN {α : Type} {d : Kd α} {q g j N : Nat} {w : World} {ok : Nat → Prop} {v u : Value} {xs : List α} (h : d.R q w N ok v xs) (hg : g < N) : d.R q (w.setCell ⟨g, j, none⟩ u) N ok v xs :=
  Kd.R_mono (Kd.R_step (Kd.R_bound h) (fun k hk _ => Below.heap_setCell w ⟨g, j, none⟩ u k (show k ≠ g by have := hk.2.1; omega))) (fun _ h => h.1)
structure PAt (B b : Nat) (s : ByteArray) (w : World) (a e : Int) (f0 : Int) (f1 : Bool) (f2 : Int) (l3 : List Int) (l4 : List S63) (l5 : List S67) (f6 : Int) (f7 : ByteArray) (l8 : List Int) (l9 : List ByteArray) (v3 v4 v5 v8 v9 : Value) (W : World) : Prop where
  a0 : 0 ≤ a
  a1 : a ≤ (s.size : Int)
  hb : b < w.heap.size
  hB : B ≤ w.heap.size
  rd : RD b s a e W
  fk : Fk B b w W
  p4 : W.heap[w.heap.size]? = some (.cells #[.int .i64 0, .bool false, .int .i64 0, .slice none 0 0, .slice none 0 0, .slice none 0 0, .int .i64 0, .string ⟨#[]⟩, .slice none 0 0, .slice none 0 0] 38 (0, 0))
  p5 : W.heap[w.heap.size + 1]? = some (.cells #[.int .i64 f0, .bool f1, .int .i64 f2, v3, v4, v5, .int .i64 f6, .string f7, v8, v9] 38 (0, 0))
  r3 : (Kd.int .u32).R 61 W (w.heap.size + 2) (fun _ => True) v3 l3
  r4 : k63.R 63 W (w.heap.size + 2) (fun _ => True) v4 l4
  r5 : k67.R 67 W (w.heap.size + 2) (fun _ => True) v5 l5
  r8 : (Kd.int .i64).R 3 W (w.heap.size + 2) (fun _ => True) v8 l8
  r9 : Kd.string.R 9 W (w.heap.size + 2) (fun _ => True) v9 l9
theorem PAt.call {B b : Nat} {s : ByteArray} {w : World} {a e : Int} {f0 : Int} {f1 : Bool} {f2 : Int} {l3 : List Int} {l4 : List S63} {l5 : List S67} {f6 : Int} {f7 : ByteArray} {l8 : List Int} {l9 : List ByteArray} {v3 v4 v5 v8 v9 : Value} {W : World} {W1 : World} {a' e' : Int} (h : PAt B b s w a e f0 f1 f2 l3 l4 l5 f6 f7 l8 l9 v3 v4 v5 v8 v9 W) (h1 : a ≤ a') (h2 : a' ≤ (s.size : Int)) (hr : RD b s a' e' W1) (hk : Fk B b W W1) : PAt B b s w a' e' f0 f1 f2 l3 l4 l5 f6 f7 l8 l9 v3 v4 v5 v8 v9 W1 :=
  ⟨Int.le_trans h.a0 h1, h2, h.hb, h.hB, hr, h.fk.trans hk, (hk.oth _ (by have := h.hb; omega) (blk_lt h.p4)).trans h.p4, (hk.oth _ (by have := h.hb; omega) (blk_lt h.p5)).trans h.p5, R_fk h.r3 (by have := h.hb; omega) hk, R_fk h.r4 (by have := h.hb; omega) hk, R_fk h.r5 (by have := h.hb; omega) hk, R_fk h.r8 (by have := h.hb; omega) hk, R_fk h.r9 (by have := h.hb; omega) hk⟩
theorem PAt.below {B b : Nat} {s : ByteArray} {w : World} {a e : Int} {f0 : Int} {f1 : Bool} {f2 : Int} {l3 : List Int} {l4 : List S63} {l5 : List S67} {f6 : Int} {f7 : ByteArray} {l8 : List Int} {l9 : List ByteArray} {v3 v4 v5 v8 v9 : Value} {W : World} {W1 : World} (h : PAt B b s w a e f0 f1 f2 l3 l4 l5 f6 f7 l8 l9 v3 v4 v5 v8 v9 W) (hb : Below W.heap.size W W1) : PAt B b s w a e f0 f1 f2 l3 l4 l5 f6 f7 l8 l9 v3 v4 v5 v8 v9 W1 := h.call (Int.le_refl _) h.a1 (h.rd.below hb) (Fk.below (Nat.le_trans h.hB h.fk.size) hb)
theorem PAt.c0 {B b : Nat} {s : ByteArray} {w : World} {a e : Int} {f0 : Int} {f1 : Bool} {f2 : Int} {l3 : List Int} {l4 : List S63} {l5 : List S67} {f6 : Int} {f7 : ByteArray} {l8 : List Int} {l9 : List ByteArray} {v3 v4 v5 v8 v9 : Value} {W : World} (h : PAt B b s w a e f0 f1 f2 l3 l4 l5 f6 f7 l8 l9 v3 v4 v5 v8 v9 W) : W.cell? ⟨w.heap.size + 1, 0, none⟩ = some (.int .i64 f0) := (blk_cell h.p5 0).trans rfl
theorem PAt.z0 {B b : Nat} {s : ByteArray} {w : World} {a e : Int} {f0 : Int} {f1 : Bool} {f2 : Int} {l3 : List Int} {l4 : List S63} {l5 : List S67} {f6 : Int} {f7 : ByteArray} {l8 : List Int} {l9 : List ByteArray} {v3 v4 v5 v8 v9 : Value} {W : World} (h : PAt B b s w a e f0 f1 f2 l3 l4 l5 f6 f7 l8 l9 v3 v4 v5 v8 v9 W) : W.cell? ⟨w.heap.size, 0, none⟩ = some (.int .i64 0) := (blk_cell h.p4 0).trans rfl
theorem PAt.set0 {B b : Nat} {s : ByteArray} {w : World} {a e : Int} {f0 : Int} {f1 : Bool} {f2 : Int} {l3 : List Int} {l4 : List S63} {l5 : List S67} {f6 : Int} {f7 : ByteArray} {l8 : List Int} {l9 : List ByteArray} {v3 v4 v5 v8 v9 : Value} {W : World} (h : PAt B b s w a e f0 f1 f2 l3 l4 l5 f6 f7 l8 l9 v3 v4 v5 v8 v9 W) (x : Int) : PAt B b s w a e x f1 f2 l3 l4 l5 f6 f7 l8 l9 v3 v4 v5 v8 v9 (W.setCell ⟨w.heap.size + 1, 0, none⟩ (.int .i64 x)) :=
  ⟨h.a0, h.a1, h.hb, h.hB, h.rd.far (by have := h.hb; omega) _ _, h.fk.setNew (by omega) h.hB _ _, (Below.heap_setCell W ⟨w.heap.size + 1, 0, none⟩ _ w.heap.size (show w.heap.size ≠ w.heap.size + 1 by omega)).trans h.p4, (blk_set h.p5 0 _).trans rfl, R_farN h.r3 (by omega), R_farN h.r4 (by omega), R_farN h.r5 (by omega), R_farN h.r8 (by omega), R_farN h.r9 (by omega)⟩
theorem PAt.c1 {B b : Nat} {s : ByteArray} {w : World} {a e : Int} {f0 : Int} {f1 : Bool} {f2 : Int} {l3 : List Int} {l4 : List S63} {l5 : List S67} {f6 : Int} {f7 : ByteArray} {l8 : List Int} {l9 : List ByteArray} {v3 v4 v5 v8 v9 : Value} {W : World} (h : PAt B b s w a e f0 f1 f2 l3 l4 l5 f6 f7 l8 l9 v3 v4 v5 v8 v9 W) : W.cell? ⟨w.heap.size + 1, 1, none⟩ = some (.bool f1) := (blk_cell h.p5 1).trans rfl
theorem PAt.z1 {B b : Nat} {s : ByteArray} {w : World} {a e : Int} {f0 : Int} {f1 : Bool} {f2 : Int} {l3 : List Int} {l4 : List S63} {l5 : List S67} {f6 : Int} {f7 : ByteArray} {l8 : List Int} {l9 : List ByteArray} {v3 v4 v5 v8 v9 : Value} {W : World} (h : PAt B b s w a e f0 f1 f2 l3 l4 l5 f6 f7 l8 l9 v3 v4 v5 v8 v9 W) : W.cell? ⟨w.heap.size, 1, none⟩ = some (.bool false) := (blk_cell h.p4 1).trans rfl
theorem PAt.set1 {B b : Nat} {s : ByteArray} {w : World} {a e : Int} {f0 : Int} {f1 : Bool} {f2 : Int} {l3 : List Int} {l4 : List S63} {l5 : List S67} {f6 : Int} {f7 : ByteArray} {l8 : List Int} {l9 : List ByteArray} {v3 v4 v5 v8 v9 : Value} {W : World} (h : PAt B b s w a e f0 f1 f2 l3 l4 l5 f6 f7 l8 l9 v3 v4 v5 v8 v9 W) (x : Bool) : PAt B b s w a e f0 x f2 l3 l4 l5 f6 f7 l8 l9 v3 v4 v5 v8 v9 (W.setCell ⟨w.heap.size + 1, 1, none⟩ (.bool x)) :=
  ⟨h.a0, h.a1, h.hb, h.hB, h.rd.far (by have := h.hb; omega) _ _, h.fk.setNew (by omega) h.hB _ _, (Below.heap_setCell W ⟨w.heap.size + 1, 1, none⟩ _ w.heap.size (show w.heap.size ≠ w.heap.size + 1 by omega)).trans h.p4, (blk_set h.p5 1 _).trans rfl, R_farN h.r3 (by omega), R_farN h.r4 (by omega), R_farN h.r5 (by omega), R_farN h.r8 (by omega), R_farN h.r9 (by omega)⟩
theorem PAt.c2 {B b : Nat} {s : ByteArray} {w : World} {a e : Int} {f0 : Int} {f1 : Bool} {f2 : Int} {l3 : List Int} {l4 : List S63} {l5 : List S67} {f6 : Int} {f7 : ByteArray} {l8 : List Int} {l9 : List ByteArray} {v3 v4 v5 v8 v9 : Value} {W : World} (h : PAt B b s w a e f0 f1 f2 l3 l4 l5 f6 f7 l8 l9 v3 v4 v5 v8 v9 W) : W.cell? ⟨w.heap.size + 1, 2, none⟩ = some (.int .i64 f2) := (blk_cell h.p5 2).trans rfl
theorem PAt.z2 {B b : Nat} {s : ByteArray} {w : World} {a e : Int} {f0 : Int} {f1 : Bool} {f2 : Int} {l3 : List Int} {l4 : List S63} {l5 : List S67} {f6 : Int} {f7 : ByteArray} {l8 : List Int} {l9 : List ByteArray} {v3 v4 v5 v8 v9 : Value} {W : World} (h : PAt B b s w a e f0 f1 f2 l3 l4 l5 f6 f7 l8 l9 v3 v4 v5 v8 v9 W) : W.cell? ⟨w.heap.size, 2, none⟩ = some (.int .i64 0) := (blk_cell h.p4 2).trans rfl
theorem PAt.set2 {B b : Nat} {s : ByteArray} {w : World} {a e : Int} {f0 : Int} {f1 : Bool} {f2 : Int} {l3 : List Int} {l4 : List S63} {l5 : List S67} {f6 : Int} {f7 : ByteArray} {l8 : List Int} {l9 : List ByteArray} {v3 v4 v5 v8 v9 : Value} {W : World} (h : PAt B b s w a e f0 f1 f2 l3 l4 l5 f6 f7 l8 l9 v3 v4 v5 v8 v9 W) (x : Int) : PAt B b s w a e f0 f1 x l3 l4 l5 f6 f7 l8 l9 v3 v4 v5 v8 v9 (W.setCell ⟨w.heap.size + 1, 2, none⟩ (.int .i64 x)) :=
  ⟨h.a0, h.a1, h.hb, h.hB, h.rd.far (by have := h.hb; omega) _ _, h.fk.setNew (by omega) h.hB _ _, (Below.heap_setCell W ⟨w.heap.size + 1, 2, none⟩ _ w.heap.size (show w.heap.size ≠ w.heap.size + 1 by omega)).trans h.p4, (blk_set h.p5 2 _).trans rfl, R_farN h.r3 (by omega), R_farN h.r4 (by omega), R_farN h.r5 (by omega), R_farN h.r8 (by omega), R_farN h.r9 (by omega)⟩
theorem PAt.c3 {B b : Nat} {s : ByteArray} {w : World} {a e : Int} {f0 : Int} {f1 : Bool} {f2 : Int} {l3 : List Int} {l4 : List S63} {l5 : List S67} {f6 : Int} {f7 : ByteArray} {l8 : List Int} {l9 : List ByteArray} {v3 v4 v5 v8 v9 : Value} {W : World} (h : PAt B b s w a e f0 f1 f2 l3 l4 l5 f6 f7 l8 l9 v3 v4 v5 v8 v9 W) : W.cell? ⟨w.heap.size + 1, 3, none⟩ = some (v3) := (blk_cell h.p5 3).trans rfl
theorem PAt.z3 {B b : Nat} {s : ByteArray} {w : World} {a e : Int} {f0 : Int} {f1 : Bool} {f2 : Int} {l3 : List Int} {l4 : List S63} {l5 : List S67} {f6 : Int} {f7 : ByteArray} {l8 : List Int} {l9 : List ByteArray} {v3 v4 v5 v8 v9 : Value} {W : World} (h : PAt B b s w a e f0 f1 f2 l3 l4 l5 f6 f7 l8 l9 v3 v4 v5 v8 v9 W) : W.cell? ⟨w.heap.size, 3, none⟩ = some (.slice none 0 0) := (blk_cell h.p4 3).trans rfl
theorem PAt.set3 {B b : Nat} {s : ByteArray} {w : World} {a e : Int} {f0 : Int} {f1 : Bool} {f2 : Int} {l3 : List Int} {l4 : List S63} {l5 : List S67} {f6 : Int} {f7 : ByteArray} {l8 : List Int} {l9 : List ByteArray} {v3 v4 v5 v8 v9 : Value} {W : World} (h : PAt B b s w a e f0 f1 f2 l3 l4 l5 f6 f7 l8 l9 v3 v4 v5 v8 v9 W) (x : List Int) (u : Value) (hx : (Kd.int .u32).R 61 W (w.heap.size + 2) (fun _ => True) u x) : PAt B b s w a e f0 f1 f2 x l4 l5 f6 f7 l8 l9 u v4 v5 v8 v9 (W.setCell ⟨w.heap.size + 1, 3, none⟩ u) :=
  ⟨h.a0, h.a1, h.hb, h.hB, h.rd.far (by have := h.hb; omega) _ _, h.fk.setNew (by omega) h.hB _ _, (Below.heap_setCell W ⟨w.heap.size + 1, 3, none⟩ _ w.heap.size (show w.heap.size ≠ w.heap.size + 1 by omega)).trans h.p4, (blk_set h.p5 3 _).trans rfl, R_farN hx (by omega), R_farN h.r4 (by omega), R_farN h.r5 (by omega), R_farN h.r8 (by omega), R_farN h.r9 (by omega)⟩
theorem PAt.c4 {B b : Nat} {s : ByteArray} {w : World} {a e : Int} {f0 : Int} {f1 : Bool} {f2 : Int} {l3 : List Int} {l4 : List S63} {l5 : List S67} {f6 : Int} {f7 : ByteArray} {l8 : List Int} {l9 : List ByteArray} {v3 v4 v5 v8 v9 : Value} {W : World} (h : PAt B b s w a e f0 f1 f2 l3 l4 l5 f6 f7 l8 l9 v3 v4 v5 v8 v9 W) : W.cell? ⟨w.heap.size + 1, 4, none⟩ = some (v4) := (blk_cell h.p5 4).trans rfl
theorem PAt.z4 {B b : Nat} {s : ByteArray} {w : World} {a e : Int} {f0 : Int} {f1 : Bool} {f2 : Int} {l3 : List Int} {l4 : List S63} {l5 : List S67} {f6 : Int} {f7 : ByteArray} {l8 : List Int} {l9 : List ByteArray} {v3 v4 v5 v8 v9 : Value} {W : World} (h : PAt B b s w a e f0 f1 f2 l3 l4 l5 f6 f7 l8 l9 v3 v4 v5 v8 v9 W) : W.cell? ⟨w.heap.size, 4, none⟩ = some (.slice none 0 0) := (blk_cell h.p4 4).trans rfl
theorem PAt.set4 {B b : Nat} {s : ByteArray} {w : World} {a e : Int} {f0 : Int} {f1 : Bool} {f2 : Int} {l3 : List Int} {l4 : List S63} {l5 : List S67} {f6 : Int} {f7 : ByteArray} {l8 : List Int} {l9 : List ByteArray} {v3 v4 v5 v8 v9 : Value} {W : World} (h : PAt B b s w a e f0 f1 f2 l3 l4 l5 f6 f7 l8 l9 v3 v4 v5 v8 v9 W) (x : List S63) (u : Value) (hx : k63.R 63 W (w.heap.size + 2) (fun _ => True) u x) : PAt B b s w a e f0 f1 f2 l3 x l5 f6 f7 l8 l9 v3 u v5 v8 v9 (W.setCell ⟨w.heap.size + 1, 4, none⟩ u) :=
  ⟨h.a0, h.a1, h.hb, h.hB, h.rd.far (by have := h.hb; omega) _ _, h.fk.setNew (by omega) h.hB _ _, (Below.heap_setCell W ⟨w.heap.size + 1, 4, none⟩ _ w.heap.size (show w.heap.size ≠ w.heap.size + 1 by omega)).trans h.p4, (blk_set h.p5 4 _).trans rfl, R_farN h.r3 (by omega), R_farN hx (by omega), R_farN h.r5 (by omega), R_farN h.r8 (by omega), R_farN h.r9 (by omega)⟩
theorem PAt.c5 {B b : Nat} {s : ByteArray} {w : World} {a e : Int} {f0 : Int} {f1 : Bool} {f2 : Int} {l3 : List Int} {l4 : List S63} {l5 : List S67} {f6 : Int} {f7 : ByteArray} {l8 : List Int} {l9 : List ByteArray} {v3 v4 v5 v8 v9 : Value} {W : World} (h : PAt B b s w a e f0 f1 f2 l3 l4 l5 f6 f7 l8 l9 v3 v4 v5 v8 v9 W) : W.cell? ⟨w.heap.size + 1, 5, none⟩ = some (v5) := (blk_cell h.p5 5).trans rfl
theorem PAt.z5 {B b : Nat} {s : ByteArray} {w : World} {a e : Int} {f0 : Int} {f1 : Bool} {f2 : Int} {l3 : List Int} {l4 : List S63} {l5 : List S67} {f6 : Int} {f7 : ByteArray} {l8 : List Int} {l9 : List ByteArray} {v3 v4 v5 v8 v9 : Value} {W : World} (h : PAt B b s w a e f0 f1 f2 l3 l4 l5 f6 f7 l8 l9 v3 v4 v5 v8 v9 W) : W.cell? ⟨w.heap.size, 5, none⟩ = some (.slice none 0 0) := (blk_cell h.p4 5).trans rfl
theorem PAt.set5 {B b : Nat} {s : ByteArray} {w : World} {a e : Int} {f0 : Int} {f1 : Bool} {f2 : Int} {l3 : List Int} {l4 : List S63} {l5 : List S67} {f6 : Int} {f7 : ByteArray} {l8 : List Int} {l9 : List ByteArray} {v3 v4 v5 v8 v9 : Value} {W : World} (h : PAt B b s w a e f0 f1 f2 l3 l4 l5 f6 f7 l8 l9 v3 v4 v5 v8 v9 W) (x : List S67) (u : Value) (hx : k67.R 67 W (w.heap.size + 2) (fun _ => True) u x) : PAt B b s w a e f0 f1 f2 l3 l4 x f6 f7 l8 l9 v3 v4 u v8 v9 (W.setCell ⟨w.heap.size + 1, 5, none⟩ u) :=
  ⟨h.a0, h.a1, h.hb, h.hB, h.rd.far (by have := h.hb; omega) _ _, h.fk.setNew (by omega) h.hB _ _, (Below.heap_setCell W ⟨w.heap.size + 1, 5, none⟩ _ w.heap.size (show w.heap.size ≠ w.heap.size + 1 by omega)).trans h.p4, (blk_set h.p5 5 _).trans rfl, R_farN h.r3 (by omega), R_farN h.r4 (by omega), R_farN hx (by omega), R_farN h.r8 (by omega), R_farN h.r9 (by omega)⟩
theorem PAt.c6 {B b : Nat} {s : ByteArray} {w : World} {a e : Int} {f0 : Int} {f1 : Bool} {f2 : Int} {l3 : List Int} {l4 : List S63} {l5 : List S67} {f6 : Int} {f7 : ByteArray} {l8 : List Int} {l9 : List ByteArray} {v3 v4 v5 v8 v9 : Value} {W : World} (h : PAt B b s w a e f0 f1 f2 l3 l4 l5 f6 f7 l8 l9 v3 v4 v5 v8 v9 W) : W.cell? ⟨w.heap.size + 1, 6, none⟩ = some (.int .i64 f6) := (blk_cell h.p5 6).trans rfl
theorem PAt.z6 {B b : Nat} {s : ByteArray} {w : World} {a e : Int} {f0 : Int} {f1 : Bool} {f2 : Int} {l3 : List Int} {l4 : List S63} {l5 : List S67} {f6 : Int} {f7 : ByteArray} {l8 : List Int} {l9 : List ByteArray} {v3 v4 v5 v8 v9 : Value} {W : World} (h : PAt B b s w a e f0 f1 f2 l3 l4 l5 f6 f7 l8 l9 v3 v4 v5 v8 v9 W) : W.cell? ⟨w.heap.size, 6, none⟩ = some (.int .i64 0) := (blk_cell h.p4 6).trans rfl
theorem PAt.set6 {B b : Nat} {s : ByteArray} {w : World} {a e : Int} {f0 : Int} {f1 : Bool} {f2 : Int} {l3 : List Int} {l4 : List S63} {l5 : List S67} {f6 : Int} {f7 : ByteArray} {l8 : List Int} {l9 : List ByteArray} {v3 v4 v5 v8 v9 : Value} {W : World} (h : PAt B b s w a e f0 f1 f2 l3 l4 l5 f6 f7 l8 l9 v3 v4 v5 v8 v9 W) (x : Int) : PAt B b s w a e f0 f1 f2 l3 l4 l5 x f7 l8 l9 v3 v4 v5 v8 v9 (W.setCell ⟨w.heap.size + 1, 6, none⟩ (.int .i64 x)) :=
  ⟨h.a0, h.a1, h.hb, h.hB, h.rd.far (by have := h.hb; omega) _ _, h.fk.setNew (by omega) h.hB _ _, (Below.heap_setCell W ⟨w.heap.size + 1, 6, none⟩ _ w.heap.size (show w.heap.size ≠ w.heap.size + 1 by omega)).trans h.p4, (blk_set h.p5 6 _).trans rfl, R_farN h.r3 (by omega), R_farN h.r4 (by omega), R_farN h.r5 (by omega), R_farN h.r8 (by omega), R_farN h.r9 (by omega)⟩
theorem PAt.c7 {B b : Nat} {s : ByteArray} {w : World} {a e : Int} {f0 : Int} {f1 : Bool} {f2 : Int} {l3 : List Int} {l4 : List S63} {l5 : List S67} {f6 : Int} {f7 : ByteArray} {l8 : List Int} {l9 : List ByteArray} {v3 v4 v5 v8 v9 : Value} {W : World} (h : PAt B b s w a e f0 f1 f2 l3 l4 l5 f6 f7 l8 l9 v3 v4 v5 v8 v9 W) : W.cell? ⟨w.heap.size + 1, 7, none⟩ = some (.string f7) := (blk_cell h.p5 7).trans rfl
theorem PAt.z7 {B b : Nat} {s : ByteArray} {w : World} {a e : Int} {f0 : Int} {f1 : Bool} {f2 : Int} {l3 : List Int} {l4 : List S63} {l5 : List S67} {f6 : Int} {f7 : ByteArray} {l8 : List Int} {l9 : List ByteArray} {v3 v4 v5 v8 v9 : Value} {W : World} (h : PAt B b s w a e f0 f1 f2 l3 l4 l5 f6 f7 l8 l9 v3 v4 v5 v8 v9 W) : W.cell? ⟨w.heap.size, 7, none⟩ = some (.string ⟨#[]⟩) := (blk_cell h.p4 7).trans rfl
theorem PAt.set7 {B b : Nat} {s : ByteArray} {w : World} {a e : Int} {f0 : Int} {f1 : Bool} {f2 : Int} {l3 : List Int} {l4 : List S63} {l5 : List S67} {f6 : Int} {f7 : ByteArray} {l8 : List Int} {l9 : List ByteArray} {v3 v4 v5 v8 v9 : Value} {W : World} (h : PAt B b s w a e f0 f1 f2 l3 l4 l5 f6 f7 l8 l9 v3 v4 v5 v8 v9 W) (x : ByteArray) : PAt B b s w a e f0 f1 f2 l3 l4 l5 f6 x l8 l9 v3 v4 v5 v8 v9 (W.setCell ⟨w.heap.size + 1, 7, none⟩ (.string x)) :=
  ⟨h.a0, h.a1, h.hb, h.hB, h.rd.far (by have := h.hb; omega) _ _, h.fk.setNew (by omega) h.hB _ _, (Below.heap_setCell W ⟨w.heap.size + 1, 7, none⟩ _ w.heap.size (show w.heap.size ≠ w.heap.size + 1 by omega)).trans h.p4, (blk_set h.p5 7 _).trans rfl, R_farN h.r3 (by omega), R_farN h.r4 (by omega), R_farN h.r5 (by omega), R_farN h.r8 (by omega), R_farN h.r9 (by omega)⟩
theorem PAt.c8 {B b : Nat} {s : ByteArray} {w : World} {a e : Int} {f0 : Int} {f1 : Bool} {f2 : Int} {l3 : List Int} {l4 : List S63} {l5 : List S67} {f6 : Int} {f7 : ByteArray} {l8 : List Int} {l9 : List ByteArray} {v3 v4 v5 v8 v9 : Value} {W : World} (h : PAt B b s w a e f0 f1 f2 l3 l4 l5 f6 f7 l8 l9 v3 v4 v5 v8 v9 W) : W.cell? ⟨w.heap.size + 1, 8, none⟩ = some (v8) := (blk_cell h.p5 8).trans rfl
theorem PAt.z8 {B b : Nat} {s : ByteArray} {w : World} {a e : Int} {f0 : Int} {f1 : Bool} {f2 : Int} {l3 : List Int} {l4 : List S63} {l5 : List S67} {f6 : Int} {f7 : ByteArray} {l8 : List Int} {l9 : List ByteArray} {v3 v4 v5 v8 v9 : Value} {W : World} (h : PAt B b s w a e f0 f1 f2 l3 l4 l5 f6 f7 l8 l9 v3 v4 v5 v8 v9 W) : W.cell? ⟨w.heap.size, 8, none⟩ = some (.slice none 0 0) := (blk_cell h.p4 8).trans rfl
theorem PAt.set8 {B b : Nat} {s : ByteArray} {w : World} {a e : Int} {f0 : Int} {f1 : Bool} {f2 : Int} {l3 : List Int} {l4 : List S63} {l5 : List S67} {f6 : Int} {f7 : ByteArray} {l8 : List Int} {l9 : List ByteArray} {v3 v4 v5 v8 v9 : Value} {W : World} (h : PAt B b s w a e f0 f1 f2 l3 l4 l5 f6 f7 l8 l9 v3 v4 v5 v8 v9 W) (x : List Int) (u : Value) (hx : (Kd.int .i64).R 3 W (w.heap.size + 2) (fun _ => True) u x) : PAt B b s w a e f0 f1 f2 l3 l4 l5 f6 f7 x l9 v3 v4 v5 u v9 (W.setCell ⟨w.heap.size + 1, 8, none⟩ u) :=
  ⟨h.a0, h.a1, h.hb, h.hB, h.rd.far (by have := h.hb; omega) _ _, h.fk.setNew (by omega) h.hB _ _, (Below.heap_setCell W ⟨w.heap.size + 1, 8, none⟩ _ w.heap.size (show w.heap.size ≠ w.heap.size + 1 by omega)).trans h.p4, (blk_set h.p5 8 _).trans rfl, R_farN h.r3 (by omega), R_farN h.r4 (by omega), R_farN h.r5 (by omega), R_farN hx (by omega), R_farN h.r9 (by omega)⟩
theorem PAt.c9 {B b : Nat} {s : ByteArray} {w : World} {a e : Int} {f0 : Int} {f1 : Bool} {f2 : Int} {l3 : List Int} {l4 : List S63} {l5 : List S67} {f6 : Int} {f7 : ByteArray} {l8 : List Int} {l9 : List ByteArray} {v3 v4 v5 v8 v9 : Value} {W : World} (h : PAt B b s w a e f0 f1 f2 l3 l4 l5 f6 f7 l8 l9 v3 v4 v5 v8 v9 W) : W.cell? ⟨w.heap.size + 1, 9, none⟩ = some (v9) := (blk_cell h.p5 9).trans rfl
theorem PAt.z9 {B b : Nat} {s : ByteArray} {w : World} {a e : Int} {f0 : Int} {f1 : Bool} {f2 : Int} {l3 : List Int} {l4 : List S63} {l5 : List S67} {f6 : Int} {f7 : ByteArray} {l8 : List Int} {l9 : List ByteArray} {v3 v4 v5 v8 v9 : Value} {W : World} (h : PAt B b s w a e f0 f1 f2 l3 l4 l5 f6 f7 l8 l9 v3 v4 v5 v8 v9 W) : W.cell? ⟨w.heap.size, 9, none⟩ = some (.slice none 0 0) := (blk_cell h.p4 9).trans rfl
theorem PAt.set9 {B b : Nat} {s : ByteArray} {w : World} {a e : Int} {f0 : Int} {f1 : Bool} {f2 : Int} {l3 : List Int} {l4 : List S63} {l5 : List S67} {f6 : Int} {f7 : ByteArray} {l8 : List Int} {l9 : List ByteArray} {v3 v4 v5 v8 v9 : Value} {W : World} (h : PAt B b s w a e f0 f1 f2 l3 l4 l5 f6 f7 l8 l9 v3 v4 v5 v8 v9 W) (x : List ByteArray) (u : Value) (hx : Kd.string.R 9 W (w.heap.size + 2) (fun _ => True) u x) : PAt B b s w a e f0 f1 f2 l3 l4 l5 f6 f7 l8 x v3 v4 v5 v8 u (W.setCell ⟨w.heap.size + 1, 9, none⟩ u) :=
  ⟨h.a0, h.a1, h.hb, h.hB, h.rd.far (by have := h.hb; omega) _ _, h.fk.setNew (by omega) h.hB _ _, (Below.heap_setCell W ⟨w.heap.size + 1, 9, none⟩ _ w.heap.size (show w.heap.size ≠ w.heap.size + 1 by omega)).trans h.p4, (blk_set h.p5 9 _).trans rfl, R_farN h.r3 (by omega), R_farN h.r4 (by omega), R_farN h.r5 (by omega), R_farN h.r8 (by omega), R_farN hx (by omega)⟩
theorem PAt.fz {B b : Nat} {s : ByteArray} {w : World} {a e : Int} {f0 : Int} {f1 : Bool} {f2 : Int} {l3 : List Int} {l4 : List S63} {l5 : List S67} {f6 : Int} {f7 : ByteArray} {l8 : List Int} {l9 : List ByteArray} {v3 v4 v5 v8 v9 : Value} {W : World} (h : PAt B b s w a e f0 f1 f2 l3 l4 l5 f6 f7 l8 l9 v3 v4 v5 v8 v9 W) (j : Nat) : W.frozen? ⟨w.heap.size + 1, j, none⟩ = false := blk_frozen h.p5 j
theorem PAt.gz {B b : Nat} {s : ByteArray} {w : World} {a e : Int} {f0 : Int} {f1 : Bool} {f2 : Int} {l3 : List Int} {l4 : List S63} {l5 : List S67} {f6 : Int} {f7 : ByteArray} {l8 : List Int} {l9 : List ByteArray} {v3 v4 v5 v8 v9 : Value} {W : World} (h : PAt B b s w a e f0 f1 f2 l3 l4 l5 f6 f7 l8 l9 v3 v4 v5 v8 v9 W) (j : Nat) : W.frozen? ⟨w.heap.size, j, none⟩ = false := blk_frozen h.p4 j
theorem PAt.fin {B b : Nat} {s : ByteArray} {w : World} {a e : Int} {f0 : Int} {f1 : Bool} {f2 : Int} {l3 : List Int} {l4 : List S63} {l5 : List S67} {f6 : Int} {f7 : ByteArray} {l8 : List Int} {l9 : List ByteArray} {v3 v4 v5 v8 v9 : Value} {W : World} (h : PAt B b s w a e f0 f1 f2 l3 l4 l5 f6 f7 l8 l9 v3 v4 v5 v8 v9 W) : ∃ W', W' = ((((((((((W.setCell ⟨w.heap.size, 0, none⟩ (.int .i64 f0)).setCell ⟨w.heap.size, 1, none⟩ (.bool f1)).setCell ⟨w.heap.size, 2, none⟩ (.int .i64 f2)).setCell ⟨w.heap.size, 3, none⟩ v3).setCell ⟨w.heap.size, 4, none⟩ v4).setCell ⟨w.heap.size, 5, none⟩ v5).setCell ⟨w.heap.size, 6, none⟩ (.int .i64 f6)).setCell ⟨w.heap.size, 7, none⟩ (.string f7)).setCell ⟨w.heap.size, 8, none⟩ v8).setCell ⟨w.heap.size, 9, none⟩ v9) ∧ W'.heap[w.heap.size]? = some (.cells #[.int .i64 f0, .bool f1, .int .i64 f2, v3, v4, v5, .int .i64 f6, .string f7, v8, v9] 38 (0, 0)) ∧ RD b s a e W' ∧ Fk B b w W' ∧ (Kd.int .u32).R 61 W' w.heap.size (fun _ => True) v3 l3 ∧ k63.R 63 W' w.heap.size (fun _ => True) v4 l4 ∧ k67.R 67 W' w.heap.size (fun _ => True) v5 l5 ∧ (Kd.int .i64).R 3 W' w.heap.size (fun _ => True) v8 l8 ∧ Kd.string.R 9 W' w.heap.size (fun _ => True) v9 l9 := by
  have hn : b ≠ w.heap.size := by have := h.hb; omega
  have hs : w.heap.size < w.heap.size + 1 := Nat.lt_succ_self _
  have hd0 := h.rd
  have hk0 := h.fk
  have p0 := h.p4
  have h30 := Kd.R_lower h.r3 (show w.heap.size + 1 ≤ w.heap.size + 2 by omega)
  have h40 := Kd.R_lower h.r4 (show w.heap.size + 1 ≤ w.heap.size + 2 by omega)
  have h50 := Kd.R_lower h.r5 (show w.heap.size + 1 ≤ w.heap.size + 2 by omega)
  have h80 := Kd.R_lower h.r8 (show w.heap.size + 1 ≤ w.heap.size + 2 by omega)
  have h90 := Kd.R_lower h.r9 (show w.heap.size + 1 ≤ w.heap.size + 2 by omega)
  have hB := h.hB
  clear h
  obtain ⟨W1, e0⟩ : ∃ X, X = W.setCell ⟨w.heap.size, 0, none⟩ (.int .i64 f0) := ⟨_, rfl⟩
  rw [← e0]
  have p1 : W1.heap[w.heap.size]? = some (.cells #[.int .i64 f0, .bool false, .int .i64 0, .slice none 0 0, .slice none 0 0, .slice none 0 0, .int .i64 0, .string ⟨#[]⟩, .slice none 0 0, .slice none 0 0] 38 (0, 0)) := by rw [e0]; exact (blk_set p0 0 _).trans rfl
  have hd1 : RD b s a e W1 := by rw [e0]; exact hd0.far hn _ _
  have hk1 : Fk B b w W1 := by rw [e0]; exact hk0.setNew (Nat.le_refl _) hB _ _
  have h31 : (Kd.int .u32).R 61 W1 (w.heap.size + 1) (fun _ => True) v3 l3 := by rw [e0]; exact R_farN h30 hs
  have h41 : k63.R 63 W1 (w.heap.size + 1) (fun _ => True) v4 l4 := by rw [e0]; exact R_farN h40 hs
  have h51 : k67.R 67 W1 (w.heap.size + 1) (fun _ => True) v5 l5 := by rw [e0]; exact R_farN h50 hs
  have h81 : (Kd.int .i64).R 3 W1 (w.heap.size + 1) (fun _ => True) v8 l8 := by rw [e0]; exact R_farN h80 hs
  have h91 : Kd.string.R 9 W1 (w.heap.size + 1) (fun _ => True) v9 l9 := by rw [e0]; exact R_farN h90 hs
  clear p0 hd0 hk0 h30 h40 h50 h80 h90 e0
  obtain ⟨W2, e1⟩ : ∃ X, X = W1.setCell ⟨w.heap.size, 1, none⟩ (.bool f1) := ⟨_, rfl⟩
  rw [← e1]
  have p2 : W2.heap[w.heap.size]? = some (.cells #[.int .i64 f0, .bool f1, .int .i64 0, .slice none 0 0, .slice none 0 0, .slice none 0 0, .int .i64 0, .string ⟨#[]⟩, .slice none 0 0, .slice none 0 0] 38 (0, 0)) := by rw [e1]; exact (blk_set p1 1 _).trans rfl
  have hd2 : RD b s a e W2 := by rw [e1]; exact hd1.far hn _ _
  have hk2 : Fk B b w W2 := by rw [e1]; exact hk1.setNew (Nat.le_refl _) hB _ _
  have h32 : (Kd.int .u32).R 61 W2 (w.heap.size + 1) (fun _ => True) v3 l3 := by rw [e1]; exact R_farN h31 hs
  have h42 : k63.R 63 W2 (w.heap.size + 1) (fun _ => True) v4 l4 := by rw [e1]; exact R_farN h41 hs
  have h52 : k67.R 67 W2 (w.heap.size + 1) (fun _ => True) v5 l5 := by rw [e1]; exact R_farN h51 hs
  have h82 : (Kd.int .i64).R 3 W2 (w.heap.size + 1) (fun _ => True) v8 l8 := by rw [e1]; exact R_farN h81 hs
  have h92 : Kd.string.R 9 W2 (w.heap.size + 1) (fun _ => True) v9 l9 := by rw [e1]; exact R_farN h91 hs
  clear p1 hd1 hk1 h31 h41 h51 h81 h91 e1
  obtain ⟨W3, e2⟩ : ∃ X, X = W2.setCell ⟨w.heap.size, 2, none⟩ (.int .i64 f2) := ⟨_, rfl⟩
  rw [← e2]
  have p3 : W3.heap[w.heap.size]? = some (.cells #[.int .i64 f0, .bool f1, .int .i64 f2, .slice none 0 0, .slice none 0 0, .slice none 0 0, .int .i64 0, .string ⟨#[]⟩, .slice none 0 0, .slice none 0 0] 38 (0, 0)) := by rw [e2]; exact (blk_set p2 2 _).trans rfl
  have hd3 : RD b s a e W3 := by rw [e2]; exact hd2.far hn _ _
  have hk3 : Fk B b w W3 := by rw [e2]; exact hk2.setNew (Nat.le_refl _) hB _ _
  have h33 : (Kd.int .u32).R 61 W3 (w.heap.size + 1) (fun _ => True) v3 l3 := by rw [e2]; exact R_farN h32 hs
  have h43 : k63.R 63 W3 (w.heap.size + 1) (fun _ => True) v4 l4 := by rw [e2]; exact R_farN h42 hs
  have h53 : k67.R 67 W3 (w.heap.size + 1) (fun _ => True) v5 l5 := by rw [e2]; exact R_farN h52 hs
  have h83 : (Kd.int .i64).R 3 W3 (w.heap.size + 1) (fun _ => True) v8 l8 := by rw [e2]; exact R_farN h82 hs
  have h93 : Kd.string.R 9 W3 (w.heap.size + 1) (fun _ => True) v9 l9 := by rw [e2]; exact R_farN h92 hs
  clear p2 hd2 hk2 h32 h42 h52 h82 h92 e2
  obtain ⟨W4, e3⟩ : ∃ X, X = W3.setCell ⟨w.heap.size, 3, none⟩ v3 := ⟨_, rfl⟩
  rw [← e3]
  have p4 : W4.heap[w.heap.size]? = some (.cells #[.int .i64 f0, .bool f1, .int .i64 f2, v3, .slice none 0 0, .slice none 0 0, .int .i64 0, .string ⟨#[]⟩, .slice none 0 0, .slice none 0 0] 38 (0, 0)) := by rw [e3]; exact (blk_set p3 3 _).trans rfl
  have hd4 : RD b s a e W4 := by rw [e3]; exact hd3.far hn _ _
  have hk4 : Fk B b w W4 := by rw [e3]; exact hk3.setNew (Nat.le_refl _) hB _ _
  have h34 : (Kd.int .u32).R 61 W4 (w.heap.size + 1) (fun _ => True) v3 l3 := by rw [e3]; exact R_farN h33 hs
  have h44 : k63.R 63 W4 (w.heap.size + 1) (fun _ => True) v4 l4 := by rw [e3]; exact R_farN h43 hs
  have h54 : k67.R 67 W4 (w.heap.size + 1) (fun _ => True) v5 l5 := by rw [e3]; exact R_farN h53 hs
  have h84 : (Kd.int .i64).R 3 W4 (w.heap.size + 1) (fun _ => True) v8 l8 := by rw [e3]; exact R_farN h83 hs
  have h94 : Kd.string.R 9 W4 (w.heap.size + 1) (fun _ => True) v9 l9 := by rw [e3]; exact R_farN h93 hs
  clear p3 hd3 hk3 h33 h43 h53 h83 h93 e3
  obtain ⟨W5, e4⟩ : ∃ X, X = W4.setCell ⟨w.heap.size, 4, none⟩ v4 := ⟨_, rfl⟩
  rw [← e4]
  have p5 : W5.heap[w.heap.size]? = some (.cells #[.int .i64 f0, .bool f1, .int .i64 f2, v3, v4, .slice none 0 0, .int .i64 0, .string ⟨#[]⟩, .slice none 0 0, .slice none 0 0] 38 (0, 0)) := by rw [e4]; exact (blk_set p4 4 _).trans rfl
  have hd5 : RD b s a e W5 := by rw [e4]; exact hd4.far hn _ _
  have hk5 : Fk B b w W5 := by rw [e4]; exact hk4.setNew (Nat.le_refl _) hB _ _
  have h35 : (Kd.int .u32).R 61 W5 (w.heap.size + 1) (fun _ => True) v3 l3 := by rw [e4]; exact R_farN h34 hs
  have h45 : k63.R 63 W5 (w.heap.size + 1) (fun _ => True) v4 l4 := by rw [e4]; exact R_farN h44 hs
  have h55 : k67.R 67 W5 (w.heap.size + 1) (fun _ => True) v5 l5 := by rw [e4]; exact R_farN h54 hs
  have h85 : (Kd.int .i64).R 3 W5 (w.heap.size + 1) (fun _ => True) v8 l8 := by rw [e4]; exact R_farN h84 hs
  have h95 : Kd.string.R 9 W5 (w.heap.size + 1) (fun _ => True) v9 l9 := by rw [e4]; exact R_farN h94 hs
  clear p4 hd4 hk4 h34 h44 h54 h84 h94 e4
  obtain ⟨W6, e5⟩ : ∃ X, X = W5.setCell ⟨w.heap.size, 5, none⟩ v5 := ⟨_, rfl⟩
  rw [← e5]
  have p6 : W6.heap[w.heap.size]? = some (.cells #[.int .i64 f0, .bool f1, .int .i64 f2, v3, v4, v5, .int .i64 0, .string ⟨#[]⟩, .slice none 0 0, .slice none 0 0] 38 (0, 0)) := by rw [e5]; exact (blk_set p5 5 _).trans rfl
  have hd6 : RD b s a e W6 := by rw [e5]; exact hd5.far hn _ _
  have hk6 : Fk B b w W6 := by rw [e5]; exact hk5.setNew (Nat.le_refl _) hB _ _
  have h36 : (Kd.int .u32).R 61 W6 (w.heap.size + 1) (fun _ => True) v3 l3 := by rw [e5]; exact R_farN h35 hs
  have h46 : k63.R 63 W6 (w.heap.size + 1) (fun _ => True) v4 l4 := by rw [e5]; exact R_farN h45 hs
  have h56 : k67.R 67 W6 (w.heap.size + 1) (fun _ => True) v5 l5 := by rw [e5]; exact R_farN h55 hs
  have h86 : (Kd.int .i64).R 3 W6 (w.heap.size + 1) (fun _ => True) v8 l8 := by rw [e5]; exact R_farN h85 hs
  have h96 : Kd.string.R 9 W6 (w.heap.size + 1) (fun _ => True) v9 l9 := by rw [e5]; exact R_farN h95 hs
  clear p5 hd5 hk5 h35 h45 h55 h85 h95 e5
  obtain ⟨W7, e6⟩ : ∃ X, X = W6.setCell ⟨w.heap.size, 6, none⟩ (.int .i64 f6) := ⟨_, rfl⟩
  rw [← e6]
  have p7 : W7.heap[w.heap.size]? = some (.cells #[.int .i64 f0, .bool f1, .int .i64 f2, v3, v4, v5, .int .i64 f6, .string ⟨#[]⟩, .slice none 0 0, .slice none 0 0] 38 (0, 0)) := by rw [e6]; exact (blk_set p6 6 _).trans rfl
  have hd7 : RD b s a e W7 := by rw [e6]; exact hd6.far hn _ _
  have hk7 : Fk B b w W7 := by rw [e6]; exact hk6.setNew (Nat.le_refl _) hB _ _
  have h37 : (Kd.int .u32).R 61 W7 (w.heap.size + 1) (fun _ => True) v3 l3 := by rw [e6]; exact R_farN h36 hs
  have h47 : k63.R 63 W7 (w.heap.size + 1) (fun _ => True) v4 l4 := by rw [e6]; exact R_farN h46 hs
  have h57 : k67.R 67 W7 (w.heap.size + 1) (fun _ => True) v5 l5 := by rw [e6]; exact R_farN h56 hs
  have h87 : (Kd.int .i64).R 3 W7 (w.heap.size + 1) (fun _ => True) v8 l8 := by rw [e6]; exact R_farN h86 hs
  have h97 : Kd.string.R 9 W7 (w.heap.size + 1) (fun _ => True) v9 l9 := by rw [e6]; exact R_farN h96 hs
  clear p6 hd6 hk6 h36 h46 h56 h86 h96 e6
  obtain ⟨W8, e7⟩ : ∃ X, X = W7.setCell ⟨w.heap.size, 7, none⟩ (.string f7) := ⟨_, rfl⟩
  rw [← e7]
  have p8 : W8.heap[w.heap.size]? = some (.cells #[.int .i64 f0, .bool f1, .int .i64 f2, v3, v4, v5, .int .i64 f6, .string f7, .slice none 0 0, .slice none 0 0] 38 (0, 0)) := by rw [e7]; exact (blk_set p7 7 _).trans rfl
  have hd8 : RD b s a e W8 := by rw [e7]; exact hd7.far hn _ _
  have hk8 : Fk B b w W8 := by rw [e7]; exact hk7.setNew (Nat.le_refl _) hB _ _
  have h38 : (Kd.int .u32).R 61 W8 (w.heap.size + 1) (fun _ => True) v3 l3 := by rw [e7]; exact R_farN h37 hs
  have h48 : k63.R 63 W8 (w.heap.size + 1) (fun _ => True) v4 l4 := by rw [e7]; exact R_farN h47 hs
  have h58 : k67.R 67 W8 (w.heap.size + 1) (fun _ => True) v5 l5 := by rw [e7]; exact R_farN h57 hs
  have h88 : (Kd.int .i64).R 3 W8 (w.heap.size + 1) (fun _ => True) v8 l8 := by rw [e7]; exact R_farN h87 hs
  have h98 : Kd.string.R 9 W8 (w.heap.size + 1) (fun _ => True) v9 l9 := by rw [e7]; exact R_farN h97 hs
  clear p7 hd7 hk7 h37 h47 h57 h87 h97 e7
  obtain ⟨W9, e8⟩ : ∃ X, X = W8.setCell ⟨w.heap.size, 8, none⟩ v8 := ⟨_, rfl⟩
  rw [← e8]
  have p9 : W9.heap[w.heap.size]? = some (.cells #[.int .i64 f0, .bool f1, .int .i64 f2, v3, v4, v5, .int .i64 f6, .string f7, v8, .slice none 0 0] 38 (0, 0)) := by rw [e8]; exact (blk_set p8 8 _).trans rfl
  have hd9 : RD b s a e W9 := by rw [e8]; exact hd8.far hn _ _
  have hk9 : Fk B b w W9 := by rw [e8]; exact hk8.setNew (Nat.le_refl _) hB _ _
  have h39 : (Kd.int .u32).R 61 W9 (w.heap.size + 1) (fun _ => True) v3 l3 := by rw [e8]; exact R_farN h38 hs
  have h49 : k63.R 63 W9 (w.heap.size + 1) (fun _ => True) v4 l4 := by rw [e8]; exact R_farN h48 hs
  have h59 : k67.R 67 W9 (w.heap.size + 1) (fun _ => True) v5 l5 := by rw [e8]; exact R_farN h58 hs
  have h89 : (Kd.int .i64).R 3 W9 (w.heap.size + 1) (fun _ => True) v8 l8 := by rw [e8]; exact R_farN h88 hs
  have h99 : Kd.string.R 9 W9 (w.heap.size + 1) (fun _ => True) v9 l9 := by rw [e8]; exact R_farN h98 hs
  clear p8 hd8 hk8 h38 h48 h58 h88 h98 e8
  obtain ⟨W10, e9⟩ : ∃ X, X = W9.setCell ⟨w.heap.size, 9, none⟩ v9 := ⟨_, rfl⟩
  rw [← e9]
  have p10 : W10.heap[w.heap.size]? = some (.cells #[.int .i64 f0, .bool f1, .int .i64 f2, v3, v4, v5, .int .i64 f6, .string f7, v8, v9] 38 (0, 0)) := by rw [e9]; exact (blk_set p9 9 _).trans rfl
  have hd10 : RD b s a e W10 := by rw [e9]; exact hd9.far hn _ _
  have hk10 : Fk B b w W10 := by rw [e9]; exact hk9.setNew (Nat.le_refl _) hB _ _
  have h310 : (Kd.int .u32).R 61 W10 (w.heap.size + 1) (fun _ => True) v3 l3 := by rw [e9]; exact R_farN h39 hs
  have h410 : k63.R 63 W10 (w.heap.size + 1) (fun _ => True) v4 l4 := by rw [e9]; exact R_farN h49 hs
  have h510 : k67.R 67 W10 (w.heap.size + 1) (fun _ => True) v5 l5 := by rw [e9]; exact R_farN h59 hs
  have h810 : (Kd.int .i64).R 3 W10 (w.heap.size + 1) (fun _ => True) v8 l8 := by rw [e9]; exact R_farN h89 hs
  have h910 : Kd.string.R 9 W10 (w.heap.size + 1) (fun _ => True) v9 l9 := by rw [e9]; exact R_farN h99 hs
  clear p9 hd9 hk9 h39 h49 h59 h89 h99 e9
  exact ⟨W10, rfl, p10, hd10, hk10, Kd.R_lower h310 (show w.heap.size ≤ w.heap.size + 1 by omega), Kd.R_lower h410 (show w.heap.size ≤ w.heap.size + 1 by omega), Kd.R_lower h510 (show w.heap.size ≤ w.heap.size + 1 by omega), Kd.R_lower h810 (show w.heap.size ≤ w.heap.size + 1 by omega), Kd.R_lower h910 (show w.heap.size ≤ w.heap.size + 1 by omega)⟩
def bareB (x : ByteArray) (ls : List Int) (us : List ByteArray) : Bool := decide (x.toList = []) && (decide (ls.length = 0) && decide (us.length = 0))
theorem bare_eq (f0 : Int) (f1 : Bool) (f2 : Int) (l3 : List Int) (l4 : List S63) (l5 : List S67) (f6 : Int) (f7 : ByteArray) (l8 : List Int) (l9 : List ByteArray) : impl_Proto_bare.f f0 f1 f2 l3 l4 l5 f6 f7 l8 l9 = some (bareB f7 l8 l9) := by
  unfold impl_Proto_bare.f bareB
  by_cases h1 : f7.toList = []
  · rw [if_pos h1, decide_eq_true h1]
    by_cases h2 : l8.length = 0
    · rw [if_pos (by omega), decide_eq_true h2]
      by_cases h3 : l9.length = 0
      · simp [h3]
      · have : ((l9.length : Int) == 0) = false := beq_eq_false_iff_ne.mpr (by omega)
        rw [this, decide_eq_false h3]; rfl
    · rw [if_neg (by omega), decide_eq_false h2]; rfl
  · rw [if_neg h1, decide_eq_false h1]; rfl
theorem rSome_ok {α : Type} {F : Int → Int → α × Int × Int} {s : ByteArray} (hF : ∀ a, 0 ≤ a → a ≤ (s.size : Int) → a ≤ (F a 0).2.1 ∧ (F a 0).2.1 ≤ (s.size : Int)) : ∀ (n : Nat) (a e : Int), 0 ≤ a → a ≤ (s.size : Int) → a ≤ (rSome F n a e).2.1 ∧ (rSome F n a e).2.1 ≤ (s.size : Int) ∧ (rSome F n a e).1.length ≤ n ∧ (e ≠ 0 → (rSome F n a e).2.2 = e)
  | 0, a, e, _, hs => ⟨Int.le_refl _, hs, Nat.le_refl _, fun _ => rfl⟩
  | n + 1, a, e, ha, hs => by
    rw [rSome]
    by_cases he : e = 0
    · rw [if_pos he]
      subst he
      obtain ⟨h1, h2⟩ := hF a ha hs
      obtain ⟨k1, k2, k3, _⟩ := rSome_ok hF n (F a 0).2.1 (F a 0).2.2 (Int.le_trans ha h1) h2
      exact ⟨Int.le_trans h1 k1, k2, by simpa using k3, fun h => absurd rfl h⟩
    · rw [if_neg he]
      exact ⟨Int.le_refl _, hs, Nat.zero_le _, fun _ => rfl⟩
theorem rNone_ok {s : ByteArray} {n a e : Int} (hg : GvOk s) (ha : 0 ≤ a) (hs : a ≤ (s.size : Int)) : ((rNone s n a e).1 = 0 ∨ (rNone s n a e).1 = n) ∧ 0 ≤ (rNone s n a e).1 ∧ a ≤ (rNone s n a e).2.1 ∧ (rNone s n a e).2.1 ≤ (s.size : Int) ∧ (e ≠ 0 → (rNone s n a e).2.2 = e) := by
  obtain ⟨h1, h2, _, h3, h4, h5, _⟩ := rNum_ok (e := e) hg ha hs (Int.le_refl 0) (show (0 : Int) ≤ 16777215 by decide)
  unfold rNone
  split
  · exact ⟨.inl rfl, Int.le_refl _, h3, h4, fun he => by show (if _ then _ else _) = e; rw [h5 he, if_neg he]⟩
  · refine ⟨?_, h1, h3, h4, h5⟩
    by_cases h0 : (rNum s 0 16777215 a e).1 = 0
    · exact .inl h0
    · by_cases hn : (rNum s 0 16777215 a e).1 = n
      · exact .inr hn
      · exact absurd (And.intro h0 hn) ‹_›
def rHead (k : Nat) (s : ByteArray) (kids a e : Int) : S38 × Int × Int × Int :=
  let r1 := rOctet s 1 a e
  let r2 := rNum s 0 250 r1.2.1 r1.2.2
  let r3 := rNum s (max 1 r2.1) 250 r2.2.1 r2.2.2
  let r4 := rNum s 1 2000 r3.2.1 r3.2.2
  let r5 := rSome (fun a e => rWord s a e) r4.1.toNat r4.2.1 r4.2.2
  let r6 := rNum s 0 500 r5.2.1 r5.2.2
  let r7 := rSome (fun a e => rV k s a e) r6.1.toNat r6.2.1 r6.2.2
  let r8 := rNum s 0 60 r7.2.1 r7.2.2
  let r9 := rSome (fun a e => rU s a e) r8.1.toNat r8.2.1 r8.2.2
  let r10 := rNum s 0 kids r9.2.1 r9.2.2
  (⟨r2.1, r1.1 == 1, r3.1, r5.1, r7.1, r9.1, r10.1, ⟨#[]⟩, [], []⟩, rOctet s 1 r10.2.1 r10.2.2)
def rDebug (s : ByteArray) (p : S38) (a e : Int) : S38 × Int × Int :=
  let r1 := rText s a e
  let r2 := rNone s (p.f3.length : Int) r1.2.1 r1.2.2
  let r3 := rSome (fun a e => rNum s 0 16777215 a e) r2.1.toNat r2.2.1 r2.2.2
  let r4 := rNone s (p.f5.length : Int) r3.2.1 r3.2.2
  let r5 := rSome (fun a e => rText s a e) r4.1.toNat r4.2.1 r4.2.2
  (⟨p.f0, p.f1, p.f2, p.f3, p.f4, p.f5, p.f6, r1.1, r3.1, r5.1⟩, r5.2.1, if bareB r1.1 r3.1 r5.1 = true then (if r5.2.2 = 0 then 3 else r5.2.2) else r5.2.2)
def rProto (k : Nat) (s : ByteArray) (kids a e : Int) : S38 × Int × Int :=
  if (rHead k s kids a e).2.1 = 1 then rDebug s (rHead k s kids a e).1 (rHead k s kids a e).2.2.1 (rHead k s kids a e).2.2.2 else ((rHead k s kids a e).1, (rHead k s kids a e).2.2)
structure HeadAt (k : Nat) (s : ByteArray) (kids a e : Int) (f0 : Int) (f1 : Bool) (f2 : Int) (l3 : List Int) (l4 : List S63) (l5 : List S67) (f6 : Int) (v a11 e11 v1 a1 e1 a2 e2 a3 e3 : Int) (n4 : Nat) (a4 e4 a5 e5 : Int) (n6 : Nat) (a6 e6 a7 e7 : Int) (n8 : Nat) (a8 e8 a9 e9 a10 e10 : Int) : Prop where
  h1 : rOctet s 1 a e = (v1, a1, e1) ∧ a ≤ a1 ∧ a1 ≤ (s.size : Int)
  g1 : f1 = (v1 == 1)
  h2 : rNum s 0 250 a1 e1 = (f0, a2, e2) ∧ a1 ≤ a2 ∧ a2 ≤ (s.size : Int) ∧ 0 ≤ f0 ∧ f0 ≤ 250
  h3 : rNum s (max 1 f0) 250 a2 e2 = (f2, a3, e3) ∧ a2 ≤ a3 ∧ a3 ≤ (s.size : Int)
  h4 : rNum s 1 2000 a3 e3 = ((n4 : Int), a4, e4) ∧ a3 ≤ a4 ∧ a4 ≤ (s.size : Int) ∧ n4 ≤ 2000
  h5 : rSome (fun a e => rWord s a e) n4 a4 e4 = (l3, a5, e5) ∧ a4 ≤ a5 ∧ a5 ≤ (s.size : Int) ∧ l3.length ≤ 2000
  h6 : rNum s 0 500 a5 e5 = ((n6 : Int), a6, e6) ∧ a5 ≤ a6 ∧ a6 ≤ (s.size : Int) ∧ n6 ≤ 2000
  h7 : rSome (fun a e => rV k s a e) n6 a6 e6 = (l4, a7, e7) ∧ a6 ≤ a7 ∧ a7 ≤ (s.size : Int)
  h8 : rNum s 0 60 a7 e7 = ((n8 : Int), a8, e8) ∧ a7 ≤ a8 ∧ a8 ≤ (s.size : Int) ∧ n8 ≤ 2000
  h9 : rSome (fun a e => rU s a e) n8 a8 e8 = (l5, a9, e9) ∧ a8 ≤ a9 ∧ a9 ≤ (s.size : Int) ∧ l5.length ≤ 2000
  h10 : rNum s 0 kids a9 e9 = (f6, a10, e10) ∧ a9 ≤ a10 ∧ a10 ≤ (s.size : Int)
  h11 : rOctet s 1 a10 e10 = (v, a11, e11) ∧ a10 ≤ a11 ∧ a11 ≤ (s.size : Int) ∧ 0 ≤ v ∧ v ≤ 1
theorem tri {α β γ : Type} (x : α × β × γ) : ∃ a b c, x = (a, b, c) := ⟨x.1, x.2.1, x.2.2, rfl⟩
theorem word_ok {s : ByteArray} : ∀ a, 0 ≤ a → a ≤ (s.size : Int) → a ≤ ((fun a e => rWord s a e) a 0).2.1 ∧ ((fun a e => rWord s a e) a 0).2.1 ≤ (s.size : Int) := fun a ha hs => (fun h => ⟨h.1, h.2.1⟩) (rBytes_ok (n := 4) (e := 0) (by decide) ha hs)
theorem head_at {k : Nat} {s : ByteArray} {kids a e : Int} (hg : GvOk s) (hk : 0 ≤ kids) (ha : 0 ≤ a) (hs : a ≤ (s.size : Int)) {p : S38} {v a11 e11 : Int} (hr : rHead k s kids a e = (p, v, a11, e11)) :
    p.f7 = ⟨#[]⟩ ∧ p.f8 = [] ∧ p.f9 = [] ∧ ∃ v1 a1 e1 a2 e2 a3 e3 n4 a4 e4 a5 e5 n6 a6 e6 a7 e7 n8 a8 e8 a9 e9 a10 e10, HeadAt k s kids a e p.f0 p.f1 p.f2 p.f3 p.f4 p.f5 p.f6 v a11 e11 v1 a1 e1 a2 e2 a3 e3 n4 a4 e4 a5 e5 n6 a6 e6 a7 e7 n8 a8 e8 a9 e9 a10 e10 := by
  unfold rHead at hr
  dsimp only at hr
  obtain ⟨_, _, o3, o4, _⟩ := rOctet_ok (m := 1) (e := e) ha hs (by decide)
  obtain ⟨v1, a1, e1, h1⟩ := tri (rOctet s 1 a e)
  rw [h1] at hr o3 o4
  dsimp only at hr o3 o4
  have b1 : 0 ≤ a1 := Int.le_trans ha o3
  obtain ⟨p1, p2, _, p3, p4, _⟩ := rNum_ok (lo := 0) (hi := 250) (e := e1) hg b1 o4 (by decide) (by decide)
  obtain ⟨f0, a2, e2, h2⟩ := tri (rNum s 0 250 a1 e1)
  rw [h2] at hr p1 p2 p3 p4
  dsimp only at hr p1 p2 p3 p4
  have b2 : 0 ≤ a2 := Int.le_trans b1 p3
  obtain ⟨_, _, _, q3, q4, _⟩ := rNum_ok (lo := max 1 f0) (hi := 250) (e := e2) hg b2 p4 (by omega) (by decide)
  obtain ⟨f2, a3, e3, h3⟩ := tri (rNum s (max 1 f0) 250 a2 e2)
  rw [h3] at hr q3 q4
  dsimp only at hr q3 q4
  have b3 : 0 ≤ a3 := Int.le_trans b2 q3
  obtain ⟨r1, r2, _, r3, r4, _⟩ := rNum_ok (lo := 1) (hi := 2000) (e := e3) hg b3 q4 (by decide) (by decide)
  obtain ⟨m4, a4, e4, h4⟩ := tri (rNum s 1 2000 a3 e3)
  rw [h4] at hr r1 r2 r3 r4
  dsimp only at hr r1 r2 r3 r4
  obtain ⟨n4, rfl⟩ : ∃ n : Nat, m4 = (n : Int) := ⟨m4.toNat, by omega⟩
  rw [Int.toNat_natCast] at hr
  have b4 : 0 ≤ a4 := Int.le_trans b3 r3
  obtain ⟨s1, s2, s3, _⟩ := rSome_ok (word_ok (s := s)) n4 a4 e4 b4 r4
  obtain ⟨l3, a5, e5, h5⟩ := tri (rSome (fun a e => rWord s a e) n4 a4 e4)
  rw [h5] at hr s1 s2 s3
  dsimp only at hr s1 s2 s3
  have b5 : 0 ≤ a5 := Int.le_trans b4 s1
  obtain ⟨t1, t2, _, t3, t4, _⟩ := rNum_ok (lo := 0) (hi := 500) (e := e5) hg b5 s2 (by decide) (by decide)
  obtain ⟨m6, a6, e6, h6⟩ := tri (rNum s 0 500 a5 e5)
  rw [h6] at hr t1 t2 t3 t4
  dsimp only at hr t1 t2 t3 t4
  obtain ⟨n6, rfl⟩ : ∃ n : Nat, m6 = (n : Int) := ⟨m6.toNat, by omega⟩
  rw [Int.toNat_natCast] at hr
  have b6 : 0 ≤ a6 := Int.le_trans b5 t3
  obtain ⟨u1, u2, _, _⟩ := rSome_ok (F := fun a e => rV k s a e) (fun a ha hs => (fun h => ⟨h.1, h.2.1⟩) (rV_ok (k := k) (e := 0) hg ha hs)) n6 a6 e6 b6 t4
  obtain ⟨l4, a7, e7, h7⟩ := tri (rSome (fun a e => rV k s a e) n6 a6 e6)
  rw [h7] at hr u1 u2
  dsimp only at hr u1 u2
  have b7 : 0 ≤ a7 := Int.le_trans b6 u1
  obtain ⟨w1, w2, _, w3, w4, _⟩ := rNum_ok (lo := 0) (hi := 60) (e := e7) hg b7 u2 (by decide) (by decide)
  obtain ⟨m8, a8, e8, h8⟩ := tri (rNum s 0 60 a7 e7)
  rw [h8] at hr w1 w2 w3 w4
  dsimp only at hr w1 w2 w3 w4
  obtain ⟨n8, rfl⟩ : ∃ n : Nat, m8 = (n : Int) := ⟨m8.toNat, by omega⟩
  rw [Int.toNat_natCast] at hr
  have b8 : 0 ≤ a8 := Int.le_trans b7 w3
  obtain ⟨x1, x2, x3, _⟩ := rSome_ok (F := fun a e => rU s a e) (fun a ha hs => (fun h => ⟨h.1, h.2.1⟩) (rU_ok (e := 0) hg ha hs)) n8 a8 e8 b8 w4
  obtain ⟨l5, a9, e9, h9⟩ := tri (rSome (fun a e => rU s a e) n8 a8 e8)
  rw [h9] at hr x1 x2 x3
  dsimp only at hr x1 x2 x3
  have b9 : 0 ≤ a9 := Int.le_trans b8 x1
  obtain ⟨_, _, _, y3, y4, _⟩ := rNum_ok (lo := 0) (hi := kids) (e := e9) hg b9 x2 (by decide) hk
  obtain ⟨f6, a10, e10, h10⟩ := tri (rNum s 0 kids a9 e9)
  rw [h10] at hr y3 y4
  dsimp only at hr y3 y4
  have b10 : 0 ≤ a10 := Int.le_trans b9 y3
  obtain ⟨z1, z2, z3, z4, _⟩ := rOctet_ok (m := 1) (e := e10) b10 y4 (by decide)
  obtain ⟨vv, a11', e11', h11⟩ := tri (rOctet s 1 a10 e10)
  rw [h11] at hr z1 z2 z3 z4
  dsimp only at hr z1 z2 z3 z4
  cases hr
  exact ⟨rfl, rfl, rfl, v1, a1, e1, a2, e2, a3, e3, n4, a4, e4, a5, e5, n6, a6, e6, a7, e7, n8, a8, e8, a9, e9, a10, e10, ⟨⟨h1, o3, o4⟩, rfl, ⟨h2, p3, p4, p1, p2⟩, ⟨h3, q3, q4⟩, ⟨h4, r3, r4, by omega⟩, ⟨h5, s1, s2, Nat.le_trans s3 (by omega)⟩, ⟨h6, t3, t4, by omega⟩, ⟨h7, u1, u2⟩, ⟨h8, w3, w4, by omega⟩, ⟨h9, x1, x2, Nat.le_trans x3 (by omega)⟩, ⟨h10, y3, y4⟩, ⟨h11, z3, z4, z1, z2⟩⟩⟩
structure DebugAt (s : ByteArray) (l3 : List Int) (l5 : List S67) (a11 e11 : Int) (f7 : ByteArray) (l8 : List Int) (l9 : List ByteArray) (a12 e12 : Int) (n13 : Nat) (a13 e13 a14 e14 : Int) (n15 : Nat) (a15 e15 a16 e16 : Int) : Prop where
  d1 : rText s a11 e11 = (f7, a12, e12) ∧ a11 ≤ a12 ∧ a12 ≤ (s.size : Int)
  d2 : rNone s (l3.length : Int) a12 e12 = ((n13 : Int), a13, e13) ∧ a12 ≤ a13 ∧ a13 ≤ (s.size : Int) ∧ n13 ≤ 2000
  d3 : rSome (fun a e => rNum s 0 16777215 a e) n13 a13 e13 = (l8, a14, e14) ∧ a13 ≤ a14 ∧ a14 ≤ (s.size : Int)
  d4 : rNone s (l5.length : Int) a14 e14 = ((n15 : Int), a15, e15) ∧ a14 ≤ a15 ∧ a15 ≤ (s.size : Int) ∧ n15 ≤ 2000
  d5 : rSome (fun a e => rText s a e) n15 a15 e15 = (l9, a16, e16) ∧ a15 ≤ a16 ∧ a16 ≤ (s.size : Int)
theorem debug_at {s : ByteArray} (hg : GvOk s) {p q : S38} {a11 e11 a' e' : Int} (ha : 0 ≤ a11) (hs : a11 ≤ (s.size : Int)) (h3 : p.f3.length ≤ 2000) (h5 : p.f5.length ≤ 2000) (hr : rDebug s p a11 e11 = (q, a', e')) :
    ∃ f7 l8 l9 a12 e12 n13 a13 e13 a14 e14 n15 a15 e15 e16, DebugAt s p.f3 p.f5 a11 e11 f7 l8 l9 a12 e12 n13 a13 e13 a14 e14 n15 a15 e15 a' e16 ∧ q = ⟨p.f0, p.f1, p.f2, p.f3, p.f4, p.f5, p.f6, f7, l8, l9⟩ ∧ e' = if bareB f7 l8 l9 = true then (if e16 = 0 then 3 else e16) else e16 := by
  unfold rDebug at hr
  dsimp only at hr
  obtain ⟨o1, o2, _, _⟩ := rText_ok (e := e11) hg ha hs
  obtain ⟨f7, a12, e12, h1⟩ := tri (rText s a11 e11)
  rw [h1] at hr o1 o2
  dsimp only at hr o1 o2
  have b1 : 0 ≤ a12 := Int.le_trans ha o1
  obtain ⟨p0, p1, p2, p3, _⟩ := rNone_ok (n := (p.f3.length : Int)) (e := e12) hg b1 o2
  obtain ⟨m13, a13, e13, h2⟩ := tri (rNone s (p.f3.length : Int) a12 e12)
  rw [h2] at hr p0 p1 p2 p3
  dsimp only at hr p0 p1 p2 p3
  obtain ⟨n13, rfl⟩ : ∃ n : Nat, m13 = (n : Int) := ⟨m13.toNat, by omega⟩
  rw [Int.toNat_natCast] at hr
  have b2 : 0 ≤ a13 := Int.le_trans b1 p2
  obtain ⟨q1, q2, _, _⟩ := rSome_ok (F := fun a e => rNum s 0 16777215 a e) (fun a ha hs => (fun h => ⟨h.2.2.2.1, h.2.2.2.2.1⟩) (rNum_ok (e := 0) hg ha hs (Int.le_refl 0) (show (0 : Int) ≤ 16777215 by decide))) n13 a13 e13 b2 p3
  obtain ⟨l8, a14, e14, h3'⟩ := tri (rSome (fun a e => rNum s 0 16777215 a e) n13 a13 e13)
  rw [h3'] at hr q1 q2
  dsimp only at hr q1 q2
  have b3 : 0 ≤ a14 := Int.le_trans b2 q1
  obtain ⟨r0, r1, r2, r3, _⟩ := rNone_ok (n := (p.f5.length : Int)) (e := e14) hg b3 q2
  obtain ⟨m15, a15, e15, h4⟩ := tri (rNone s (p.f5.length : Int) a14 e14)
  rw [h4] at hr r0 r1 r2 r3
  dsimp only at hr r0 r1 r2 r3
  obtain ⟨n15, rfl⟩ : ∃ n : Nat, m15 = (n : Int) := ⟨m15.toNat, by omega⟩
  rw [Int.toNat_natCast] at hr
  have b4 : 0 ≤ a15 := Int.le_trans b3 r2
  obtain ⟨s1, s2, _, _⟩ := rSome_ok (F := fun a e => rText s a e) (fun a ha hs => (fun h => ⟨h.1, h.2.1⟩) (rText_ok (e := 0) hg ha hs)) n15 a15 e15 b4 r3
  obtain ⟨l9, a16, e16, h5'⟩ := tri (rSome (fun a e => rText s a e) n15 a15 e15)
  rw [h5'] at hr s1 s2
  dsimp only at hr s1 s2
  obtain ⟨g1, g2, g3⟩ := pr3 hr
  subst g2
  exact ⟨f7, l8, l9, a12, e12, n13, a13, e13, a14, e14, n15, a15, e15, e16, ⟨⟨h1, o1, o2⟩, ⟨h2, p2, p3, by omega⟩, ⟨h3', q1, q2⟩, ⟨h4, r2, r3, by omega⟩, ⟨h5', s1, s2⟩⟩, g1.symm, g3.symm⟩
set_option maxRecDepth 100000 in
set_option maxHeartbeats 32000000 in
theorem proto_start {B b : Nat} {s : ByteArray} {a e : Int} {w : World} (h : RD b s a e w) (hBw : B ≤ w.heap.size) (ha : 0 ≤ a) (hs : a ≤ (s.size : Int)) :
    PAt B b s w a e 0 false 0 [] [] [] 0 ⟨#[]⟩ [] [] (.slice none 0 0) (.slice none 0 0) (.slice none 0 0) (.slice none 0 0) (.slice none 0 0) ((w.alloc (.cells #[.int .i64 0, .bool false, .int .i64 0, .slice none 0 0, .slice none 0 0, .slice none 0 0, .int .i64 0, .string ⟨#[]⟩, .slice none 0 0, .slice none 0 0] 38 (0, 0))).alloc (.cells #[.int .i64 0, .bool false, .int .i64 0, .slice none 0 0, .slice none 0 0, .slice none 0 0, .int .i64 0, .string ⟨#[]⟩, .slice none 0 0, .slice none 0 0] 38 (0, 0))) := by
  have h1 : Below w.heap.size w (w.alloc (.cells #[.int .i64 0, .bool false, .int .i64 0, .slice none 0 0, .slice none 0 0, .slice none 0 0, .int .i64 0, .string ⟨#[]⟩, .slice none 0 0, .slice none 0 0] 38 (0, 0))) := below_alloc (Below.refl _ _) _
  have h2 := below_alloc h1 (.cells #[.int .i64 0, .bool false, .int .i64 0, .slice none 0 0, .slice none 0 0, .slice none 0 0, .int .i64 0, .string ⟨#[]⟩, .slice none 0 0, .slice none 0 0] 38 (0, 0))
  refine ⟨ha, hs, h.lt, hBw, h.below h2, Fk.below hBw h2, ?_, ?_, Kd.R_nil _ _ _ _ _, Kd.R_nil _ _ _ _ _, Kd.R_nil _ _ _ _ _, Kd.R_nil _ _ _ _ _, Kd.R_nil _ _ _ _ _⟩
  · exact blk_alloc (blk_new w _) _
  · have := blk_new (w.alloc (.cells #[.int .i64 0, .bool false, .int .i64 0, .slice none 0 0, .slice none 0 0, .slice none 0 0, .int .i64 0, .string ⟨#[]⟩, .slice none 0 0, .slice none 0 0] 38 (0, 0))) (.cells #[.int .i64 0, .bool false, .int .i64 0, .slice none 0 0, .slice none 0 0, .slice none 0 0, .int .i64 0, .string ⟨#[]⟩, .slice none 0 0, .slice none 0 0] 38 (0, 0))
    rwa [World.size_alloc] at this
theorem bare_of {bb : Bool} {f0 : Int} {f1 : Bool} {f2 : Int} {l3 : List Int} {l4 : List S63} {l5 : List S67} {f6 : Int} {f7 : ByteArray} {l8 : List Int} {l9 : List ByteArray} (h : bareB f7 l8 l9 = bb) : impl_Proto_bare.f f0 f1 f2 l3 l4 l5 f6 f7 l8 l9 = some bb := (bare_eq ..).trans (congrArg some h)
def ProtoEnd (B b : Nat) (s : ByteArray) (w : World) (p : S38) (a' e' : Int) (r : Ending) (w' : World) : Prop :=
  ∃ v3 v4 v5 v8 v9, r = .returned (.agg #[.int .i64 p.f0, .bool p.f1, .int .i64 p.f2, v3, v4, v5, .int .i64 p.f6, .string p.f7, v8, v9]) ∧ (Kd.int .u32).R 61 w' w.heap.size (fun _ => True) v3 p.f3 ∧ k63.R 63 w' w.heap.size (fun _ => True) v4 p.f4 ∧ k67.R 67 w' w.heap.size (fun _ => True) v5 p.f5 ∧ (Kd.int .i64).R 3 w' w.heap.size (fun _ => True) v8 p.f8 ∧ Kd.string.R 9 w' w.heap.size (fun _ => True) v9 p.f9 ∧ RD b s a' e' w' ∧ Fk B b w w'
theorem PAt.done {B b : Nat} {s : ByteArray} {w : World} {a e : Int} {f0 : Int} {f1 : Bool} {f2 : Int} {l3 : List Int} {l4 : List S63} {l5 : List S67} {f6 : Int} {f7 : ByteArray} {l8 : List Int} {l9 : List ByteArray} {v3 v4 v5 v8 v9 : Value} {W : World} (h : PAt B b s w a e f0 f1 f2 l3 l4 l5 f6 f7 l8 l9 v3 v4 v5 v8 v9 W) : ∃ W', W' = ((((((((((W.setCell ⟨w.heap.size, 0, none⟩ (.int .i64 f0)).setCell ⟨w.heap.size, 1, none⟩ (.bool f1)).setCell ⟨w.heap.size, 2, none⟩ (.int .i64 f2)).setCell ⟨w.heap.size, 3, none⟩ v3).setCell ⟨w.heap.size, 4, none⟩ v4).setCell ⟨w.heap.size, 5, none⟩ v5).setCell ⟨w.heap.size, 6, none⟩ (.int .i64 f6)).setCell ⟨w.heap.size, 7, none⟩ (.string f7)).setCell ⟨w.heap.size, 8, none⟩ v8).setCell ⟨w.heap.size, 9, none⟩ v9) ∧ W'.heap[w.heap.size]? = some (.cells #[.int .i64 f0, .bool f1, .int .i64 f2, v3, v4, v5, .int .i64 f6, .string f7, v8, v9] 38 (0, 0)) ∧ ProtoEnd B b s w ⟨f0, f1, f2, l3, l4, l5, f6, f7, l8, l9⟩ a e (.returned (.agg #[.int .i64 f0, .bool f1, .int .i64 f2, v3, v4, v5, .int .i64 f6, .string f7, v8, v9])) W' := by
  obtain ⟨W', hW, hh, hd, hk, h3, h4, h5, h8, h9⟩ := h.fin
  exact ⟨W', hW, hh, v3, v4, v5, v8, v9, rfl, h3, h4, h5, h8, h9, hd, hk⟩
set_option maxRecDepth 100000 in
set_option maxHeartbeats 32000000 in
theorem proto0 (k : Nat) (hk8 : ∀ s : ByteArray, s.size ≤ 8 → ∃ r, impl_GetInt.f k s 0 = some r) (B b : Nat) (s : ByteArray) (kids a e : Int) (f0 : Int) (f2 : Int) (l3 : List Int) (l4 : List S63) (l5 : List S67) (f6 v a11 e11 v1 a1 e1 a2 e2 a3 e3 : Int) (n4 : Nat) (a4 e4 a5 e5 : Int) (n6 : Nat) (a6 e6 a7 e7 : Int) (n8 : Nat) (a8 e8 a9 e9 a10 e10 : Int) (w : World) (h : RD b s a e w) (hB : B ≤ b) (hBw : B ≤ w.heap.size) (hg : GvOk s) (ha : 0 ≤ a) (hs : a ≤ (s.size : Int)) (hz : s.size ≤ 140737488351232)
    (hA : HeadAt k s kids a e f0 (v1 == 1) f2 l3 l4 l5 f6 v a11 e11 v1 a1 e1 a2 e2 a3 e3 n4 a4 e4 a5 e5 n6 a6 e6 a7 e7 n8 a8 e8 a9 e9 a10 e10)
    (f7 : ByteArray) (l8 : List Int) (l9 : List ByteArray) (a12 e12 : Int) (n13 : Nat) (a13 e13 a14 e14 : Int) (n15 : Nat) (a15 e15 a16 e16 : Int) (bb : Bool)
    (p : S38) (a' e' : Int) (hd : (v ≠ 1 ∧ ⟨f0, v1 == 1, f2, l3, l4, l5, f6, ⟨#[]⟩, [], []⟩ = p ∧ a11 = a' ∧ e11 = e') ∨
      (v = 1 ∧ DebugAt s l3 l5 a11 e11 f7 l8 l9 a12 e12 n13 a13 e13 a14 e14 n15 a15 e15 a16 e16 ∧ bareB f7 l8 l9 = bb ∧ ⟨f0, v1 == 1, f2, l3, l4, l5, f6, f7, l8, l9⟩ = p ∧ a16 = a' ∧ e' = if bb = true then (if e16 = 0 then 3 else e16) else e16)) :
    Calls Tryd.prog 12 #[.pointer (some ⟨b, 0, none⟩), .int .i64 kids] w (ProtoEnd B b s w p a' e') := by
  have hu38 := Tryd.underlying38
  have P0 := Aside0.mk (proto_start h hBw ha hs)
  have HA := Aside0.mk hA
  have hf0 := hA.h2.2.2.2
  have hlt := h.lt
  obtain ⟨M, hM⟩ : ∃ M, (if 1 < f0 then f0 else 1) = M := ⟨_, rfl⟩
  have HM : Aside0 (max 1 f0 = M) := ⟨by rw [← hM]; split <;> omega⟩
  have H3 := Aside0.mk (HM.out ▸ hA.h3)
  clear h hA ha hs
  rcases hd with ⟨hv, rfl, rfl, rfl⟩ | ⟨hv, da, hbb, rfl, rfl, he⟩
  · have hv0 : (v == 1) = false := beq_eq_false_iff_ne.mpr hv
    clear hv
    go_enter Tryd.func12, Tryd.ntmps12
    go_wp2_with (first | (go_at_call 24; refine (flag B b s a e v1 a1 e1 _ P0.out.rd hB P0.out.a0 P0.out.a1 hz HA.out.h1.1).mono ?_; rintro r w1 ⟨rfl, hh, hk⟩; have hp := P0.out.call HA.out.h1.2.1 HA.out.h1.2.2 hh hk; have c1 := hp.c1; have d1 := hp.fz 1; have P1 := Aside0.mk (hp); clear hh hk hp; clear P0) | (go_at_call 25; refine (num B b s 0 250 a1 e1 f0 a2 e2 _ (P1.out.set1 (v1 == 1)).rd hB hg (P1.out.set1 (v1 == 1)).a0 (P1.out.set1 (v1 == 1)).a1 hz HA.out.h2.1).mono ?_; rintro r w2 ⟨rfl, hh, hk⟩; have hp := (P1.out.set1 (v1 == 1)).call HA.out.h2.2.1 HA.out.h2.2.2.1 hh hk; have c0 := hp.c0; have d0 := hp.fz 0; have P2 := Aside0.mk hp; clear hh hk hp; clear P1) | (go_at_call 25; refine (num B b s M 250 a2 e2 f2 a3 e3 _ (P2.out.set0 f0).rd hB hg (P2.out.set0 f0).a0 (P2.out.set0 f0).a1 hz H3.out.1).mono ?_; rintro r w3 ⟨rfl, hh, hk⟩; have hp := (P2.out.set0 f0).call H3.out.2.1 H3.out.2.2 hh hk; have c2 := hp.c2; have d2 := hp.fz 2; have P3 := Aside0.mk hp; clear hh hk hp; clear P2) | (go_at_call 25; refine (num B b s 1 2000 a3 e3 (n4 : Int) a4 e4 _ (P3.out.set2 f2).rd hB hg (P3.out.set2 f2).a0 (P3.out.set2 f2).a1 hz HA.out.h4.1).mono ?_; rintro r w4 ⟨rfl, hh, hk⟩; have hp := (P3.out.set2 f2).call HA.out.h4.2.1 HA.out.h4.2.2.1 hh hk; have P4 := Aside0.mk hp; clear hh hk hp; clear P3) | (go_at_call 26; refine (some26 B b s n4 a4 e4 l3 a5 e5 _ P4.out.rd hB (Nat.le_trans hBw P4.out.fk.size) hg HA.out.h4.2.2.2 P4.out.a0 P4.out.a1 hz HA.out.h5.1).mono ?_; rintro r w5 ⟨u, rfl, hu, hh, hk⟩; obtain ⟨A3, q3, rfl, hl3, hC3⟩ := Kd.R_reads hu; have hu' := Kd.R_lower hu (show w.heap.size + 2 ≤ _ from blk_lt P4.out.p5); have hp := P4.out.call HA.out.h5.2.1 HA.out.h5.2.2.1 hh hk; have U3 := Aside0.mk hu'; have L3 := Aside0.mk hl3; have c3 := hp.c3; have d3 := hp.fz 3; have P5 := Aside0.mk hp; clear hh hk hp hu hu' hl3 hC3; clear P4) | (go_at_call 25; refine (num B b s 0 500 a5 e5 (n6 : Int) a6 e6 _ (P5.out.set3 l3 _ U3.out).rd hB hg (P5.out.set3 l3 _ U3.out).a0 (P5.out.set3 l3 _ U3.out).a1 hz HA.out.h6.1).mono ?_; rintro r w6 ⟨rfl, hh, hk⟩; have hp := (P5.out.set3 l3 _ U3.out).call HA.out.h6.2.1 HA.out.h6.2.2.1 hh hk; have P6 := Aside0.mk hp; clear hh hk hp; clear P5) | (go_at_call 28; refine (some28 k hk8 B b s n6 a6 e6 l4 a7 e7 _ P6.out.rd hB (Nat.le_trans hBw P6.out.fk.size) hg HA.out.h6.2.2.2 P6.out.a0 P6.out.a1 hz HA.out.h7.1).mono ?_; rintro r w7 ⟨u, rfl, hu, hh, hk⟩; obtain ⟨A4, q4, rfl, hl4, hC4⟩ := Kd.R_reads hu; have hu' := Kd.R_lower hu (show w.heap.size + 2 ≤ _ from blk_lt P6.out.p5); have hp := P6.out.call HA.out.h7.2.1 HA.out.h7.2.2 hh hk; have U4 := Aside0.mk hu'; have L4 := Aside0.mk hl4; have c4 := hp.c4; have d4 := hp.fz 4; have P7 := Aside0.mk hp; clear hh hk hp hu hu' hl4 hC4; clear P6) | (go_at_call 25; refine (num B b s 0 60 a7 e7 (n8 : Int) a8 e8 _ (P7.out.set4 l4 _ U4.out).rd hB hg (P7.out.set4 l4 _ U4.out).a0 (P7.out.set4 l4 _ U4.out).a1 hz HA.out.h8.1).mono ?_; rintro r w8 ⟨rfl, hh, hk⟩; have hp := (P7.out.set4 l4 _ U4.out).call HA.out.h8.2.1 HA.out.h8.2.2.1 hh hk; have P8 := Aside0.mk hp; clear hh hk hp; clear P7) | (go_at_call 30; refine (some30 B b s n8 a8 e8 l5 a9 e9 _ P8.out.rd hB (Nat.le_trans hBw P8.out.fk.size) hg HA.out.h8.2.2.2 P8.out.a0 P8.out.a1 hz HA.out.h9.1).mono ?_; rintro r w9 ⟨u, rfl, hu, hh, hk⟩; obtain ⟨A5, q5, rfl, hl5, hC5⟩ := Kd.R_reads hu; have hu' := Kd.R_lower hu (show w.heap.size + 2 ≤ _ from blk_lt P8.out.p5); have hp := P8.out.call HA.out.h9.2.1 HA.out.h9.2.2.1 hh hk; have U5 := Aside0.mk hu'; have L5 := Aside0.mk hl5; have c5 := hp.c5; have d5 := hp.fz 5; have P9 := Aside0.mk hp; clear hh hk hp hu hu' hl5 hC5; clear P8) | (go_at_call 25; refine (num B b s 0 kids a9 e9 f6 a10 e10 _ (P9.out.set5 l5 _ U5.out).rd hB hg (P9.out.set5 l5 _ U5.out).a0 (P9.out.set5 l5 _ U5.out).a1 hz HA.out.h10.1).mono ?_; rintro r w10 ⟨rfl, hh, hk⟩; have hp := (P9.out.set5 l5 _ U5.out).call HA.out.h10.2.1 HA.out.h10.2.2 hh hk; have c6 := hp.c6; have d6 := hp.fz 6; have P10 := Aside0.mk hp; clear hh hk hp; clear P9) | (go_at_call 24; refine (flag B b s a10 e10 v a11 e11 _ (P10.out.set6 f6).rd hB (P10.out.set6 f6).a0 (P10.out.set6 f6).a1 hz HA.out.h11.1).mono ?_; rintro r w11 ⟨rfl, hh, hk⟩; have hp := (P10.out.set6 f6).call HA.out.h11.2.1 HA.out.h11.2.2.1 hh hk; have c0 := hp.c0; have c1 := hp.c1; have c2 := hp.c2; have c3 := hp.c3; have c4 := hp.c4; have c5 := hp.c5; have c6 := hp.c6; have c7 := hp.c7; have c8 := hp.c8; have c9 := hp.c9; have d0 := hp.fz 0; have d1 := hp.fz 1; have d2 := hp.fz 2; have d3 := hp.fz 3; have d4 := hp.fz 4; have d5 := hp.fz 5; have d6 := hp.fz 6; have d7 := hp.fz 7; have d8 := hp.fz 8; have d9 := hp.fz 9; have z0 := hp.z0; have z1 := hp.z1; have z2 := hp.z2; have z3 := hp.z3; have z4 := hp.z4; have z5 := hp.z5; have z6 := hp.z6; have z7 := hp.z7; have z8 := hp.z8; have z9 := hp.z9; have y0 := hp.gz 0; have y1 := hp.gz 1; have y2 := hp.gz 2; have y3 := hp.gz 3; have y4 := hp.gz 4; have y5 := hp.gz 5; have y6 := hp.gz 6; have y7 := hp.gz 7; have y8 := hp.gz 8; have y9 := hp.gz 9; have P11 := Aside0.mk hp; clear hh hk hp; clear P10))
    obtain ⟨W', hW, hh, hend⟩ := P11.out.done
    rw [← hW]
    exact bodyPost_ret (results_cell_row (P := Tryd.prog) rfl _ _ w.heap.size 38 _ (0, 0) _ rfl hh hu38 rfl (by kernel_rfl)) rfl hend
  · have hv0 : (v == 1) = true := by rw [hv]; rfl
    have DA := Aside0.mk da
    have BB := Aside0.mk hbb
    clear da hbb hv
    cases bb
    · obtain rfl : e16 = e' := by rw [he]; rfl
      clear he
      go_enter Tryd.func12, Tryd.ntmps12
      go_wp2_with (first | (go_at_call 24; refine (flag B b s a e v1 a1 e1 _ P0.out.rd hB P0.out.a0 P0.out.a1 hz HA.out.h1.1).mono ?_; rintro r w1 ⟨rfl, hh, hk⟩; have hp := P0.out.call HA.out.h1.2.1 HA.out.h1.2.2 hh hk; have c1 := hp.c1; have d1 := hp.fz 1; have P1 := Aside0.mk (hp); clear hh hk hp; clear P0) | (go_at_call 25; refine (num B b s 0 250 a1 e1 f0 a2 e2 _ (P1.out.set1 (v1 == 1)).rd hB hg (P1.out.set1 (v1 == 1)).a0 (P1.out.set1 (v1 == 1)).a1 hz HA.out.h2.1).mono ?_; rintro r w2 ⟨rfl, hh, hk⟩; have hp := (P1.out.set1 (v1 == 1)).call HA.out.h2.2.1 HA.out.h2.2.2.1 hh hk; have c0 := hp.c0; have d0 := hp.fz 0; have P2 := Aside0.mk hp; clear hh hk hp; clear P1) | (go_at_call 25; refine (num B b s M 250 a2 e2 f2 a3 e3 _ (P2.out.set0 f0).rd hB hg (P2.out.set0 f0).a0 (P2.out.set0 f0).a1 hz H3.out.1).mono ?_; rintro r w3 ⟨rfl, hh, hk⟩; have hp := (P2.out.set0 f0).call H3.out.2.1 H3.out.2.2 hh hk; have c2 := hp.c2; have d2 := hp.fz 2; have P3 := Aside0.mk hp; clear hh hk hp; clear P2) | (go_at_call 25; refine (num B b s 1 2000 a3 e3 (n4 : Int) a4 e4 _ (P3.out.set2 f2).rd hB hg (P3.out.set2 f2).a0 (P3.out.set2 f2).a1 hz HA.out.h4.1).mono ?_; rintro r w4 ⟨rfl, hh, hk⟩; have hp := (P3.out.set2 f2).call HA.out.h4.2.1 HA.out.h4.2.2.1 hh hk; have P4 := Aside0.mk hp; clear hh hk hp; clear P3) | (go_at_call 26; refine (some26 B b s n4 a4 e4 l3 a5 e5 _ P4.out.rd hB (Nat.le_trans hBw P4.out.fk.size) hg HA.out.h4.2.2.2 P4.out.a0 P4.out.a1 hz HA.out.h5.1).mono ?_; rintro r w5 ⟨u, rfl, hu, hh, hk⟩; obtain ⟨A3, q3, rfl, hl3, hC3⟩ := Kd.R_reads hu; have hu' := Kd.R_lower hu (show w.heap.size + 2 ≤ _ from blk_lt P4.out.p5); have hp := P4.out.call HA.out.h5.2.1 HA.out.h5.2.2.1 hh hk; have U3 := Aside0.mk hu'; have L3 := Aside0.mk hl3; have c3 := hp.c3; have d3 := hp.fz 3; have P5 := Aside0.mk hp; clear hh hk hp hu hu' hl3 hC3; clear P4) | (go_at_call 25; refine (num B b s 0 500 a5 e5 (n6 : Int) a6 e6 _ (P5.out.set3 l3 _ U3.out).rd hB hg (P5.out.set3 l3 _ U3.out).a0 (P5.out.set3 l3 _ U3.out).a1 hz HA.out.h6.1).mono ?_; rintro r w6 ⟨rfl, hh, hk⟩; have hp := (P5.out.set3 l3 _ U3.out).call HA.out.h6.2.1 HA.out.h6.2.2.1 hh hk; have P6 := Aside0.mk hp; clear hh hk hp; clear P5) | (go_at_call 28; refine (some28 k hk8 B b s n6 a6 e6 l4 a7 e7 _ P6.out.rd hB (Nat.le_trans hBw P6.out.fk.size) hg HA.out.h6.2.2.2 P6.out.a0 P6.out.a1 hz HA.out.h7.1).mono ?_; rintro r w7 ⟨u, rfl, hu, hh, hk⟩; obtain ⟨A4, q4, rfl, hl4, hC4⟩ := Kd.R_reads hu; have hu' := Kd.R_lower hu (show w.heap.size + 2 ≤ _ from blk_lt P6.out.p5); have hp := P6.out.call HA.out.h7.2.1 HA.out.h7.2.2 hh hk; have U4 := Aside0.mk hu'; have L4 := Aside0.mk hl4; have c4 := hp.c4; have d4 := hp.fz 4; have P7 := Aside0.mk hp; clear hh hk hp hu hu' hl4 hC4; clear P6) | (go_at_call 25; refine (num B b s 0 60 a7 e7 (n8 : Int) a8 e8 _ (P7.out.set4 l4 _ U4.out).rd hB hg (P7.out.set4 l4 _ U4.out).a0 (P7.out.set4 l4 _ U4.out).a1 hz HA.out.h8.1).mono ?_; rintro r w8 ⟨rfl, hh, hk⟩; have hp := (P7.out.set4 l4 _ U4.out).call HA.out.h8.2.1 HA.out.h8.2.2.1 hh hk; have P8 := Aside0.mk hp; clear hh hk hp; clear P7) | (go_at_call 30; refine (some30 B b s n8 a8 e8 l5 a9 e9 _ P8.out.rd hB (Nat.le_trans hBw P8.out.fk.size) hg HA.out.h8.2.2.2 P8.out.a0 P8.out.a1 hz HA.out.h9.1).mono ?_; rintro r w9 ⟨u, rfl, hu, hh, hk⟩; obtain ⟨A5, q5, rfl, hl5, hC5⟩ := Kd.R_reads hu; have hu' := Kd.R_lower hu (show w.heap.size + 2 ≤ _ from blk_lt P8.out.p5); have hp := P8.out.call HA.out.h9.2.1 HA.out.h9.2.2.1 hh hk; have U5 := Aside0.mk hu'; have L5 := Aside0.mk hl5; have c5 := hp.c5; have d5 := hp.fz 5; have P9 := Aside0.mk hp; clear hh hk hp hu hu' hl5 hC5; clear P8) | (go_at_call 25; refine (num B b s 0 kids a9 e9 f6 a10 e10 _ (P9.out.set5 l5 _ U5.out).rd hB hg (P9.out.set5 l5 _ U5.out).a0 (P9.out.set5 l5 _ U5.out).a1 hz HA.out.h10.1).mono ?_; rintro r w10 ⟨rfl, hh, hk⟩; have hp := (P9.out.set5 l5 _ U5.out).call HA.out.h10.2.1 HA.out.h10.2.2 hh hk; have c6 := hp.c6; have d6 := hp.fz 6; have P10 := Aside0.mk hp; clear hh hk hp; clear P9) | (go_at_call 24; refine (flag B b s a10 e10 v a11 e11 _ (P10.out.set6 f6).rd hB (P10.out.set6 f6).a0 (P10.out.set6 f6).a1 hz HA.out.h11.1).mono ?_; rintro r w11 ⟨rfl, hh, hk⟩; have hp := (P10.out.set6 f6).call HA.out.h11.2.1 HA.out.h11.2.2.1 hh hk; have c0 := hp.c0; have c1 := hp.c1; have c2 := hp.c2; have c3 := hp.c3; have c4 := hp.c4; have c5 := hp.c5; have c6 := hp.c6; have c7 := hp.c7; have c8 := hp.c8; have c9 := hp.c9; have d0 := hp.fz 0; have d1 := hp.fz 1; have d2 := hp.fz 2; have d3 := hp.fz 3; have d4 := hp.fz 4; have d5 := hp.fz 5; have d6 := hp.fz 6; have d7 := hp.fz 7; have d8 := hp.fz 8; have d9 := hp.fz 9; have z0 := hp.z0; have z1 := hp.z1; have z2 := hp.z2; have z3 := hp.z3; have z4 := hp.z4; have z5 := hp.z5; have z6 := hp.z6; have z7 := hp.z7; have z8 := hp.z8; have z9 := hp.z9; have y0 := hp.gz 0; have y1 := hp.gz 1; have y2 := hp.gz 2; have y3 := hp.gz 3; have y4 := hp.gz 4; have y5 := hp.gz 5; have y6 := hp.gz 6; have y7 := hp.gz 7; have y8 := hp.gz 8; have y9 := hp.gz 9; have P11 := Aside0.mk hp; clear hh hk hp; clear P10) | (go_at_call 32; refine (text B b s a11 e11 f7 a12 e12 _ P11.out.rd hB hg P11.out.a0 P11.out.a1 hz DA.out.d1.1).mono ?_; rintro r w12 ⟨rfl, hh, hk⟩; have hp := P11.out.call DA.out.d1.2.1 DA.out.d1.2.2 hh hk; have c3 := hp.c3; have c7 := hp.c7; have d3 := hp.fz 3; have d7 := hp.fz 7; have P12 := Aside0.mk hp; clear hh hk hp; clear P11) | (go_at_call 34; refine (noneOr B b s (l3.length : Int) a12 e12 (n13 : Int) a13 e13 _ (P12.out.set7 f7).rd hB hg (P12.out.set7 f7).a0 (P12.out.set7 f7).a1 hz DA.out.d2.1).mono ?_; rintro r w13 ⟨rfl, hh, hk⟩; have hp := (P12.out.set7 f7).call DA.out.d2.2.1 DA.out.d2.2.2.1 hh hk; have P13 := Aside0.mk hp; clear hh hk hp; clear P12) | (go_at_call 33; refine (some33 B b s n13 a13 e13 l8 a14 e14 _ P13.out.rd hB (Nat.le_trans hBw P13.out.fk.size) hg DA.out.d2.2.2.2 P13.out.a0 P13.out.a1 hz DA.out.d3.1).mono ?_; rintro r w14 ⟨u, rfl, hu, hh, hk⟩; obtain ⟨A8, q8, rfl, hl8, hC8⟩ := Kd.R_reads hu; have hu' := Kd.R_lower hu (show w.heap.size + 2 ≤ _ from blk_lt P13.out.p5); have hp := P13.out.call DA.out.d3.2.1 DA.out.d3.2.2 hh hk; have U8 := Aside0.mk hu'; have c5 := hp.c5; have c8 := hp.c8; have d5 := hp.fz 5; have d8 := hp.fz 8; have P14 := Aside0.mk hp; clear hh hk hp hu hu' hl8 hC8; clear P13) | (go_at_call 34; refine (noneOr B b s (l5.length : Int) a14 e14 (n15 : Int) a15 e15 _ (P14.out.set8 l8 _ U8.out).rd hB hg (P14.out.set8 l8 _ U8.out).a0 (P14.out.set8 l8 _ U8.out).a1 hz DA.out.d4.1).mono ?_; rintro r w15 ⟨rfl, hh, hk⟩; have hp := (P14.out.set8 l8 _ U8.out).call DA.out.d4.2.1 DA.out.d4.2.2.1 hh hk; have P15 := Aside0.mk hp; clear hh hk hp; clear P14) | (go_at_call 36; refine (some36 B b s n15 a15 e15 l9 a16 e16 _ P15.out.rd hB (Nat.le_trans hBw P15.out.fk.size) hg DA.out.d4.2.2.2 P15.out.a0 P15.out.a1 hz DA.out.d5.1).mono ?_; rintro r w16 ⟨u, rfl, hu, hh, hk⟩; obtain ⟨A9, q9, rfl, hl9, hC9⟩ := Kd.R_reads hu; have hu' := Kd.R_lower hu (show w.heap.size + 2 ≤ _ from blk_lt P15.out.p5); have hp := P15.out.call DA.out.d5.2.1 DA.out.d5.2.2 hh hk; have U9 := Aside0.mk hu'; have c0 := hp.c0; have c1 := hp.c1; have c2 := hp.c2; have c3 := hp.c3; have c4 := hp.c4; have c5 := hp.c5; have c6 := hp.c6; have c7 := hp.c7; have c8 := hp.c8; have c9 := hp.c9; have d0 := hp.fz 0; have d1 := hp.fz 1; have d2 := hp.fz 2; have d3 := hp.fz 3; have d4 := hp.fz 4; have d5 := hp.fz 5; have d6 := hp.fz 6; have d7 := hp.fz 7; have d8 := hp.fz 8; have d9 := hp.fz 9; have P16 := Aside0.mk hp; clear hh hk hp hu hu' hl9 hC9; clear P15) | (go_at_call 37; refine (impl_Proto_bare.calls f0 (v1 == 1) f2 A3 q3 l3 A4 q4 l4 A5 q5 l5 f6 f7 A8 q8 l8 A9 q9 l9 _ _ (Kd.R_reads' (P16.out.set9 l9 _ U9.out).r3).2.2 (Kd.R_reads' (P16.out.set9 l9 _ U9.out).r3).2.1 (Kd.R_reads' (P16.out.set9 l9 _ U9.out).r4).2.2 (Kd.R_reads' (P16.out.set9 l9 _ U9.out).r4).2.1 (Kd.R_reads' (P16.out.set9 l9 _ U9.out).r5).2.2 (Kd.R_reads' (P16.out.set9 l9 _ U9.out).r5).2.1 (Kd.R_reads' (P16.out.set9 l9 _ U9.out).r8).2.2 (Kd.R_reads' (P16.out.set9 l9 _ U9.out).r8).2.1 (Kd.R_reads' (P16.out.set9 l9 _ U9.out).r9).2.2 (Kd.R_reads' (P16.out.set9 l9 _ U9.out).r9).2.1 (bare_of BB.out)).mono ?_; rintro r w17 ⟨rfl, hb⟩; have hp := (P16.out.set9 l9 _ U9.out).below hb; have c0 := hp.c0; have c1 := hp.c1; have c2 := hp.c2; have c3 := hp.c3; have c4 := hp.c4; have c5 := hp.c5; have c6 := hp.c6; have c7 := hp.c7; have c8 := hp.c8; have c9 := hp.c9; have d0 := hp.fz 0; have d1 := hp.fz 1; have d2 := hp.fz 2; have d3 := hp.fz 3; have d4 := hp.fz 4; have d5 := hp.fz 5; have d6 := hp.fz 6; have d7 := hp.fz 7; have d8 := hp.fz 8; have d9 := hp.fz 9; have z0 := hp.z0; have z1 := hp.z1; have z2 := hp.z2; have z3 := hp.z3; have z4 := hp.z4; have z5 := hp.z5; have z6 := hp.z6; have z7 := hp.z7; have z8 := hp.z8; have z9 := hp.z9; have y0 := hp.gz 0; have y1 := hp.gz 1; have y2 := hp.gz 2; have y3 := hp.gz 3; have y4 := hp.gz 4; have y5 := hp.gz 5; have y6 := hp.gz 6; have y7 := hp.gz 7; have y8 := hp.gz 8; have y9 := hp.gz 9; have P17 := Aside0.mk hp; clear hb hp; clear P16))
      obtain ⟨W', hW, hh, hend⟩ := P17.out.done
      rw [← hW]
      exact bodyPost_ret (results_cell_row (P := Tryd.prog) rfl _ _ w.heap.size 38 _ (0, 0) _ rfl hh hu38 rfl (by kernel_rfl)) rfl hend
    · have HE : Aside0 ((if e16 = 0 then 3 else e16) = e') := ⟨by rw [he]; rfl⟩
      clear he
      go_enter Tryd.func12, Tryd.ntmps12
      go_wp2_with (first | (go_at_call 24; refine (flag B b s a e v1 a1 e1 _ P0.out.rd hB P0.out.a0 P0.out.a1 hz HA.out.h1.1).mono ?_; rintro r w1 ⟨rfl, hh, hk⟩; have hp := P0.out.call HA.out.h1.2.1 HA.out.h1.2.2 hh hk; have c1 := hp.c1; have d1 := hp.fz 1; have P1 := Aside0.mk (hp); clear hh hk hp; clear P0) | (go_at_call 25; refine (num B b s 0 250 a1 e1 f0 a2 e2 _ (P1.out.set1 (v1 == 1)).rd hB hg (P1.out.set1 (v1 == 1)).a0 (P1.out.set1 (v1 == 1)).a1 hz HA.out.h2.1).mono ?_; rintro r w2 ⟨rfl, hh, hk⟩; have hp := (P1.out.set1 (v1 == 1)).call HA.out.h2.2.1 HA.out.h2.2.2.1 hh hk; have c0 := hp.c0; have d0 := hp.fz 0; have P2 := Aside0.mk hp; clear hh hk hp; clear P1) | (go_at_call 25; refine (num B b s M 250 a2 e2 f2 a3 e3 _ (P2.out.set0 f0).rd hB hg (P2.out.set0 f0).a0 (P2.out.set0 f0).a1 hz H3.out.1).mono ?_; rintro r w3 ⟨rfl, hh, hk⟩; have hp := (P2.out.set0 f0).call H3.out.2.1 H3.out.2.2 hh hk; have c2 := hp.c2; have d2 := hp.fz 2; have P3 := Aside0.mk hp; clear hh hk hp; clear P2) | (go_at_call 25; refine (num B b s 1 2000 a3 e3 (n4 : Int) a4 e4 _ (P3.out.set2 f2).rd hB hg (P3.out.set2 f2).a0 (P3.out.set2 f2).a1 hz HA.out.h4.1).mono ?_; rintro r w4 ⟨rfl, hh, hk⟩; have hp := (P3.out.set2 f2).call HA.out.h4.2.1 HA.out.h4.2.2.1 hh hk; have P4 := Aside0.mk hp; clear hh hk hp; clear P3) | (go_at_call 26; refine (some26 B b s n4 a4 e4 l3 a5 e5 _ P4.out.rd hB (Nat.le_trans hBw P4.out.fk.size) hg HA.out.h4.2.2.2 P4.out.a0 P4.out.a1 hz HA.out.h5.1).mono ?_; rintro r w5 ⟨u, rfl, hu, hh, hk⟩; obtain ⟨A3, q3, rfl, hl3, hC3⟩ := Kd.R_reads hu; have hu' := Kd.R_lower hu (show w.heap.size + 2 ≤ _ from blk_lt P4.out.p5); have hp := P4.out.call HA.out.h5.2.1 HA.out.h5.2.2.1 hh hk; have U3 := Aside0.mk hu'; have L3 := Aside0.mk hl3; have c3 := hp.c3; have d3 := hp.fz 3; have P5 := Aside0.mk hp; clear hh hk hp hu hu' hl3 hC3; clear P4) | (go_at_call 25; refine (num B b s 0 500 a5 e5 (n6 : Int) a6 e6 _ (P5.out.set3 l3 _ U3.out).rd hB hg (P5.out.set3 l3 _ U3.out).a0 (P5.out.set3 l3 _ U3.out).a1 hz HA.out.h6.1).mono ?_; rintro r w6 ⟨rfl, hh, hk⟩; have hp := (P5.out.set3 l3 _ U3.out).call HA.out.h6.2.1 HA.out.h6.2.2.1 hh hk; have P6 := Aside0.mk hp; clear hh hk hp; clear P5) | (go_at_call 28; refine (some28 k hk8 B b s n6 a6 e6 l4 a7 e7 _ P6.out.rd hB (Nat.le_trans hBw P6.out.fk.size) hg HA.out.h6.2.2.2 P6.out.a0 P6.out.a1 hz HA.out.h7.1).mono ?_; rintro r w7 ⟨u, rfl, hu, hh, hk⟩; obtain ⟨A4, q4, rfl, hl4, hC4⟩ := Kd.R_reads hu; have hu' := Kd.R_lower hu (show w.heap.size + 2 ≤ _ from blk_lt P6.out.p5); have hp := P6.out.call HA.out.h7.2.1 HA.out.h7.2.2 hh hk; have U4 := Aside0.mk hu'; have L4 := Aside0.mk hl4; have c4 := hp.c4; have d4 := hp.fz 4; have P7 := Aside0.mk hp; clear hh hk hp hu hu' hl4 hC4; clear P6) | (go_at_call 25; refine (num B b s 0 60 a7 e7 (n8 : Int) a8 e8 _ (P7.out.set4 l4 _ U4.out).rd hB hg (P7.out.set4 l4 _ U4.out).a0 (P7.out.set4 l4 _ U4.out).a1 hz HA.out.h8.1).mono ?_; rintro r w8 ⟨rfl, hh, hk⟩; have hp := (P7.out.set4 l4 _ U4.out).call HA.out.h8.2.1 HA.out.h8.2.2.1 hh hk; have P8 := Aside0.mk hp; clear hh hk hp; clear P7) | (go_at_call 30; refine (some30 B b s n8 a8 e8 l5 a9 e9 _ P8.out.rd hB (Nat.le_trans hBw P8.out.fk.size) hg HA.out.h8.2.2.2 P8.out.a0 P8.out.a1 hz HA.out.h9.1).mono ?_; rintro r w9 ⟨u, rfl, hu, hh, hk⟩; obtain ⟨A5, q5, rfl, hl5, hC5⟩ := Kd.R_reads hu; have hu' := Kd.R_lower hu (show w.heap.size + 2 ≤ _ from blk_lt P8.out.p5); have hp := P8.out.call HA.out.h9.2.1 HA.out.h9.2.2.1 hh hk; have U5 := Aside0.mk hu'; have L5 := Aside0.mk hl5; have c5 := hp.c5; have d5 := hp.fz 5; have P9 := Aside0.mk hp; clear hh hk hp hu hu' hl5 hC5; clear P8) | (go_at_call 25; refine (num B b s 0 kids a9 e9 f6 a10 e10 _ (P9.out.set5 l5 _ U5.out).rd hB hg (P9.out.set5 l5 _ U5.out).a0 (P9.out.set5 l5 _ U5.out).a1 hz HA.out.h10.1).mono ?_; rintro r w10 ⟨rfl, hh, hk⟩; have hp := (P9.out.set5 l5 _ U5.out).call HA.out.h10.2.1 HA.out.h10.2.2 hh hk; have c6 := hp.c6; have d6 := hp.fz 6; have P10 := Aside0.mk hp; clear hh hk hp; clear P9) | (go_at_call 24; refine (flag B b s a10 e10 v a11 e11 _ (P10.out.set6 f6).rd hB (P10.out.set6 f6).a0 (P10.out.set6 f6).a1 hz HA.out.h11.1).mono ?_; rintro r w11 ⟨rfl, hh, hk⟩; have hp := (P10.out.set6 f6).call HA.out.h11.2.1 HA.out.h11.2.2.1 hh hk; have c0 := hp.c0; have c1 := hp.c1; have c2 := hp.c2; have c3 := hp.c3; have c4 := hp.c4; have c5 := hp.c5; have c6 := hp.c6; have c7 := hp.c7; have c8 := hp.c8; have c9 := hp.c9; have d0 := hp.fz 0; have d1 := hp.fz 1; have d2 := hp.fz 2; have d3 := hp.fz 3; have d4 := hp.fz 4; have d5 := hp.fz 5; have d6 := hp.fz 6; have d7 := hp.fz 7; have d8 := hp.fz 8; have d9 := hp.fz 9; have z0 := hp.z0; have z1 := hp.z1; have z2 := hp.z2; have z3 := hp.z3; have z4 := hp.z4; have z5 := hp.z5; have z6 := hp.z6; have z7 := hp.z7; have z8 := hp.z8; have z9 := hp.z9; have y0 := hp.gz 0; have y1 := hp.gz 1; have y2 := hp.gz 2; have y3 := hp.gz 3; have y4 := hp.gz 4; have y5 := hp.gz 5; have y6 := hp.gz 6; have y7 := hp.gz 7; have y8 := hp.gz 8; have y9 := hp.gz 9; have P11 := Aside0.mk hp; clear hh hk hp; clear P10) | (go_at_call 32; refine (text B b s a11 e11 f7 a12 e12 _ P11.out.rd hB hg P11.out.a0 P11.out.a1 hz DA.out.d1.1).mono ?_; rintro r w12 ⟨rfl, hh, hk⟩; have hp := P11.out.call DA.out.d1.2.1 DA.out.d1.2.2 hh hk; have c3 := hp.c3; have c7 := hp.c7; have d3 := hp.fz 3; have d7 := hp.fz 7; have P12 := Aside0.mk hp; clear hh hk hp; clear P11) | (go_at_call 34; refine (noneOr B b s (l3.length : Int) a12 e12 (n13 : Int) a13 e13 _ (P12.out.set7 f7).rd hB hg (P12.out.set7 f7).a0 (P12.out.set7 f7).a1 hz DA.out.d2.1).mono ?_; rintro r w13 ⟨rfl, hh, hk⟩; have hp := (P12.out.set7 f7).call DA.out.d2.2.1 DA.out.d2.2.2.1 hh hk; have P13 := Aside0.mk hp; clear hh hk hp; clear P12) | (go_at_call 33; refine (some33 B b s n13 a13 e13 l8 a14 e14 _ P13.out.rd hB (Nat.le_trans hBw P13.out.fk.size) hg DA.out.d2.2.2.2 P13.out.a0 P13.out.a1 hz DA.out.d3.1).mono ?_; rintro r w14 ⟨u, rfl, hu, hh, hk⟩; obtain ⟨A8, q8, rfl, hl8, hC8⟩ := Kd.R_reads hu; have hu' := Kd.R_lower hu (show w.heap.size + 2 ≤ _ from blk_lt P13.out.p5); have hp := P13.out.call DA.out.d3.2.1 DA.out.d3.2.2 hh hk; have U8 := Aside0.mk hu'; have c5 := hp.c5; have c8 := hp.c8; have d5 := hp.fz 5; have d8 := hp.fz 8; have P14 := Aside0.mk hp; clear hh hk hp hu hu' hl8 hC8; clear P13) | (go_at_call 34; refine (noneOr B b s (l5.length : Int) a14 e14 (n15 : Int) a15 e15 _ (P14.out.set8 l8 _ U8.out).rd hB hg (P14.out.set8 l8 _ U8.out).a0 (P14.out.set8 l8 _ U8.out).a1 hz DA.out.d4.1).mono ?_; rintro r w15 ⟨rfl, hh, hk⟩; have hp := (P14.out.set8 l8 _ U8.out).call DA.out.d4.2.1 DA.out.d4.2.2.1 hh hk; have P15 := Aside0.mk hp; clear hh hk hp; clear P14) | (go_at_call 36; refine (some36 B b s n15 a15 e15 l9 a16 e16 _ P15.out.rd hB (Nat.le_trans hBw P15.out.fk.size) hg DA.out.d4.2.2.2 P15.out.a0 P15.out.a1 hz DA.out.d5.1).mono ?_; rintro r w16 ⟨u, rfl, hu, hh, hk⟩; obtain ⟨A9, q9, rfl, hl9, hC9⟩ := Kd.R_reads hu; have hu' := Kd.R_lower hu (show w.heap.size + 2 ≤ _ from blk_lt P15.out.p5); have hp := P15.out.call DA.out.d5.2.1 DA.out.d5.2.2 hh hk; have U9 := Aside0.mk hu'; have c0 := hp.c0; have c1 := hp.c1; have c2 := hp.c2; have c3 := hp.c3; have c4 := hp.c4; have c5 := hp.c5; have c6 := hp.c6; have c7 := hp.c7; have c8 := hp.c8; have c9 := hp.c9; have d0 := hp.fz 0; have d1 := hp.fz 1; have d2 := hp.fz 2; have d3 := hp.fz 3; have d4 := hp.fz 4; have d5 := hp.fz 5; have d6 := hp.fz 6; have d7 := hp.fz 7; have d8 := hp.fz 8; have d9 := hp.fz 9; have P16 := Aside0.mk hp; clear hh hk hp hu hu' hl9 hC9; clear P15) | (go_at_call 37; refine (impl_Proto_bare.calls f0 (v1 == 1) f2 A3 q3 l3 A4 q4 l4 A5 q5 l5 f6 f7 A8 q8 l8 A9 q9 l9 _ _ (Kd.R_reads' (P16.out.set9 l9 _ U9.out).r3).2.2 (Kd.R_reads' (P16.out.set9 l9 _ U9.out).r3).2.1 (Kd.R_reads' (P16.out.set9 l9 _ U9.out).r4).2.2 (Kd.R_reads' (P16.out.set9 l9 _ U9.out).r4).2.1 (Kd.R_reads' (P16.out.set9 l9 _ U9.out).r5).2.2 (Kd.R_reads' (P16.out.set9 l9 _ U9.out).r5).2.1 (Kd.R_reads' (P16.out.set9 l9 _ U9.out).r8).2.2 (Kd.R_reads' (P16.out.set9 l9 _ U9.out).r8).2.1 (Kd.R_reads' (P16.out.set9 l9 _ U9.out).r9).2.2 (Kd.R_reads' (P16.out.set9 l9 _ U9.out).r9).2.1 (bare_of BB.out)).mono ?_; rintro r w17 ⟨rfl, hb⟩; have hp := (P16.out.set9 l9 _ U9.out).below hb; have c0 := hp.c0; have c1 := hp.c1; have c2 := hp.c2; have c3 := hp.c3; have c4 := hp.c4; have c5 := hp.c5; have c6 := hp.c6; have c7 := hp.c7; have c8 := hp.c8; have c9 := hp.c9; have d0 := hp.fz 0; have d1 := hp.fz 1; have d2 := hp.fz 2; have d3 := hp.fz 3; have d4 := hp.fz 4; have d5 := hp.fz 5; have d6 := hp.fz 6; have d7 := hp.fz 7; have d8 := hp.fz 8; have d9 := hp.fz 9; have z0 := hp.z0; have z1 := hp.z1; have z2 := hp.z2; have z3 := hp.z3; have z4 := hp.z4; have z5 := hp.z5; have z6 := hp.z6; have z7 := hp.z7; have z8 := hp.z8; have z9 := hp.z9; have y0 := hp.gz 0; have y1 := hp.gz 1; have y2 := hp.gz 2; have y3 := hp.gz 3; have y4 := hp.gz 4; have y5 := hp.gz 5; have y6 := hp.gz 6; have y7 := hp.gz 7; have y8 := hp.gz 8; have y9 := hp.gz 9; have P17 := Aside0.mk hp; clear hb hp; clear P16) | (go_at_call 13; refine (fail B b s a16 e16 3 _ P17.out.rd hB (by decide)).mono ?_; rintro r w18 ⟨rfl, hh, hk⟩; have hp := P17.out.call (Int.le_refl _) P17.out.a1 hh hk; have c0 := hp.c0; have c1 := hp.c1; have c2 := hp.c2; have c3 := hp.c3; have c4 := hp.c4; have c5 := hp.c5; have c6 := hp.c6; have c7 := hp.c7; have c8 := hp.c8; have c9 := hp.c9; have d0 := hp.fz 0; have d1 := hp.fz 1; have d2 := hp.fz 2; have d3 := hp.fz 3; have d4 := hp.fz 4; have d5 := hp.fz 5; have d6 := hp.fz 6; have d7 := hp.fz 7; have d8 := hp.fz 8; have d9 := hp.fz 9; have z0 := hp.z0; have z1 := hp.z1; have z2 := hp.z2; have z3 := hp.z3; have z4 := hp.z4; have z5 := hp.z5; have z6 := hp.z6; have z7 := hp.z7; have z8 := hp.z8; have z9 := hp.z9; have y0 := hp.gz 0; have y1 := hp.gz 1; have y2 := hp.gz 2; have y3 := hp.gz 3; have y4 := hp.gz 4; have y5 := hp.gz 5; have y6 := hp.gz 6; have y7 := hp.gz 7; have y8 := hp.gz 8; have y9 := hp.gz 9; have P18 := Aside0.mk hp; clear hh hk hp; clear P17))
      obtain ⟨W', hW, hh, hend⟩ := P18.out.done
      rw [HE.out] at hend
      rw [← hW]
      exact bodyPost_ret (results_cell_row (P := Tryd.prog) rfl _ _ w.heap.size 38 _ (0, 0) _ rfl hh hu38 rfl (by kernel_rfl)) rfl hend
def popN : Nat → List Int → List Int
  | 0, l => l
  | n + 1, l => if 0 < l.length ∧ rd l ((l.length : Int) - 1) = 0 then popN n (l.take (l.length - 1)) else l
def popZ (l : List Int) : List Int := popN l.length l
def upd (l : List Int) : List Int := if 0 < (popZ l).length then (popZ l).set ((popZ l).length - 1) (rd (popZ l) (((popZ l).length : Int) - 1) - 1) else popZ l
def rLoop (k : Nat) (s : ByteArray) : Nat → Int → Int → List S38 → Int → List Int → List S38 × Int × Int
  | 0, a, e, ps, _, _ => (ps, a, e)
  | n + 1, a, e, ps, wanted, op => if (ps.length : Int) < wanted ∧ e = 0 then
      rLoop k s n (rProto k s (if 63 ≤ op.length then 0 else 200 - wanted) a e).2.1 (rProto k s (if 63 ≤ op.length then 0 else 200 - wanted) a e).2.2 (ps ++ [(rProto k s (if 63 ≤ op.length then 0 else 200 - wanted) a e).1]) (wanted + (rProto k s (if 63 ≤ op.length then 0 else 200 - wanted) a e).1.f6) (upd (op ++ [(rProto k s (if 63 ≤ op.length then 0 else 200 - wanted) a e).1.f6])) else (ps, a, e)
def rLoad (k : Nat) (s : ByteArray) : List S38 × Int :=
  if strings_HasPrefix.f s ⟨#[27, 76, 82, 86, 1, 0]⟩ = some true then
    (if (rLoop k s 200 6 0 [] 1 []).2.2 = 0 then (if (rLoop k s 200 6 0 [] 1 []).2.1 < (s.size : Int) then ([], 5) else ((rLoop k s 200 6 0 [] 1 []).1, 0)) else ([], (rLoop k s 200 6 0 [] 1 []).2.2)) else ([], 1)
theorem popN_len : ∀ (n : Nat) (l : List Int), (popN n l).length ≤ l.length
  | 0, l => Nat.le_refl _
  | n + 1, l => by
    rw [popN]
    split
    · exact Nat.le_trans (popN_len n _) (by simp)
    · exact Nat.le_refl _
theorem popN_mem : ∀ (n : Nat) (l : List Int) (x : Int), x ∈ popN n l → x ∈ l
  | 0, l, x, h => h
  | n + 1, l, x, h => by
    rw [popN] at h
    split at h
    · exact List.mem_of_mem_take (popN_mem n _ x h)
    · exact h
theorem popZ_step {l : List Int} (h : 0 < l.length) (hz : rd l ((l.length : Int) - 1) = 0) : popZ (l.take (l.length - 1)) = popZ l := by
  unfold popZ
  obtain ⟨m, hm⟩ : ∃ m, l.length = m + 1 := ⟨l.length - 1, by omega⟩
  rw [show (l.take (l.length - 1)).length = m by simp; omega]
  conv => rhs; rw [hm, popN, if_pos ⟨h, hz⟩]
theorem popZ_stop {l : List Int} (h : ¬ (0 < l.length ∧ rd l ((l.length : Int) - 1) = 0)) : popZ l = l := by
  unfold popZ
  cases hl : l.length with
  | zero => rfl
  | succ m => rw [popN, if_neg h]
theorem rd_mem {l : List Int} {i : Int} (h0 : 0 ≤ i) (h1 : i < l.length) : rd l i ∈ l := by
  have hi : i.toNat < l.length := by omega
  have : rd l i = l[i.toNat] := by simp [rd, List.getD, hi]
  rw [this]
  exact List.getElem_mem hi
def Small (l : List Int) : Prop := ∀ x ∈ l, 0 ≤ x ∧ x ≤ 200
theorem small_upd {l : List Int} (h : Small l) : Small (upd l) := by
  have hz : Small (popZ l) := fun x hx => h x (popN_mem _ _ _ hx)
  unfold upd
  split
  · intro x hx
    rcases List.mem_or_eq_of_mem_set hx with hx | rfl
    · exact hz x hx
    · have hm := rd_mem (l := popZ l) (i := ((popZ l).length : Int) - 1) (by omega) (by omega)
      have hne : rd (popZ l) (((popZ l).length : Int) - 1) ≠ 0 := by
        intro h0
        have hs : ∀ (n : Nat) (l : List Int), l.length ≤ n → 0 < (popN n l).length → rd (popN n l) (((popN n l).length : Int) - 1) ≠ 0 := by
          intro n
          induction n with
          | zero => intro l hl hp; simp [popN] at hp; omega
          | succ n ih =>
            intro l hl
            rw [popN]
            split
            · exact ih _ (by simp; omega)
            · rename_i hc
              exact fun hp hz => hc ⟨hp, hz⟩
        exact hs _ _ (Nat.le_refl _) ‹_› h0
      have := hz _ hm
      omega
  · exact hz
theorem upd_len (l : List Int) : (upd l).length ≤ l.length := by
  unfold upd
  split
  · rw [List.length_set]; exact popN_len _ _
  · exact popN_len _ _
theorem int_inner {t : Nat} {W : World} {base : Nat} {ok : Nat → Prop} {v : Value} {xs : List Int} (h : (Kd.int .i64).R t W base ok v xs) : W.ownsRow base t 1 v xs.length (encs (Value.int .i64) xs) := by
  obtain ⟨_, inner, hown, hr⟩ := h
  have hi : inner = encs (Value.int .i64) xs := by
    have hl : inner.length = xs.length := by have := hr.1; simpa [Kd.int, Kd.scalar] using this
    refine List.ext_getElem? fun j => ?_
    by_cases hj : j < xs.length
    · have h1 := hr.2 j xs[j] (List.getElem?_eq_getElem hj)
      have h2 : (inner.drop (j * 1)).take 1 = [Value.int .i64 xs[j]] := h1
      rw [Nat.mul_one, List.drop_eq_getElem_cons (by omega), List.take_succ_cons, List.take_zero] at h2
      have h3 : inner[j]'(by omega) = Value.int .i64 xs[j] := by injection h2
      rw [List.getElem?_eq_getElem (by omega), h3]
      simp [encs, hj]
    · rw [List.getElem?_eq_none (by omega), List.getElem?_eq_none (by simp [encs]; omega)]
  rw [← hi]
  exact hown
theorem int_set {t : Nat} {W : World} {base : Nat} {ok : Nat → Prop} {g n cap : Nat} {xs : List Int} (h : (Kd.int .i64).R t W base ok (.slice (some ⟨g, 0, none⟩) n cap) xs) (j : Nat) (x : Int) : (Kd.int .i64).R t (W.setCell ⟨g, j, none⟩ (.int .i64 x)) base ok (.slice (some ⟨g, 0, none⟩) n cap) (xs.set j x) := by
  obtain ⟨hn, _, _⟩ := Kd.R_reads' h
  subst hn
  have h1 := ((int_inner h).stored j (.int .i64 x)).1
  refine Kd.R_of_own ?_ h.1
  rw [List.length_set]
  have e : encs (Value.int .i64) (xs.set j x) = (encs (Value.int .i64) xs).set j (.int .i64 x) := by simp [encs, List.map_set]
  rw [e]
  exact h1
structure LM (s : ByteArray) (w : World) (v5 v7 : Value) (ps : List S38) (a e : Int) (op : List Int) (W : World) : Prop where
  rd : RD (w.heap.size + 1) s a e W
  bel : Below w.heap.size w W
  rb : W.heap[w.heap.size]? = some (.cells #[.slice none 0 0] 24 (0, 0))
  cb : W.heap[w.heap.size + 1 + 1]? = some (.cells #[v5] 24 (0, 0))
  r5 : Kd.S k38 38 W (w.heap.size + 3) (fun k => some k ≠ v7.ownBlock) v5 ps
  r7 : (Kd.int .i64).R 3 W (w.heap.size + 3) (fun _ => True) v7 op
theorem LM.below {s : ByteArray} {w W W1 : World} {v5 v7 : Value} {ps : List S38} {a e : Int} {op : List Int} (h : LM s w v5 v7 ps a e op W) (hb : Below W.heap.size W W1) : LM s w v5 v7 ps a e op W1 :=
  ⟨h.rd.below hb, h.bel.trans (hb.mono h.bel.size), (hb.block _ (blk_lt h.rb)).trans h.rb, (hb.block _ (blk_lt h.cb)).trans h.cb, Kd.S_below h.r5 hb, Kd.R_below h.r7 hb⟩
theorem LM.take {s : ByteArray} {w W : World} {v5 : Value} {A : Option Addr} {n q : Nat} {ps : List S38} {a e : Int} {op : List Int} (h : LM s w v5 (.slice A n q) ps a e op W) (m : Nat) (hm : m ≤ op.length) : LM s w v5 (.slice A m q) ps a e (op.take m) W :=
  ⟨h.rd, h.bel, h.rb, h.cb, Kd.S_mono h.r5 (fun k hk => by cases A <;> exact hk), Kd.R_take h.r7 hm⟩
theorem LM.dec {s : ByteArray} {w W : World} {v5 : Value} {g n q : Nat} {ps : List S38} {a e : Int} {op : List Int} (h : LM s w v5 (.slice (some ⟨g, 0, none⟩) n q) ps a e op W) (j : Nat) (x : Int) : LM s w v5 (.slice (some ⟨g, 0, none⟩) n q) ps a e (op.set j x) (W.setCell ⟨g, j, none⟩ (.int .i64 x)) := by
  have hg : w.heap.size + 3 ≤ g := Kd.R_base h.r7 g (by simp [Value.ownBlock])
  exact ⟨h.rd.far (by omega) _ _, h.bel.setCell (p := ⟨g, j, none⟩) (show w.heap.size ≤ g by omega) _, (Below.heap_setCell W ⟨g, j, none⟩ _ _ (show w.heap.size ≠ g by omega)).trans h.rb, (Below.heap_setCell W ⟨g, j, none⟩ _ _ (show w.heap.size + 1 + 1 ≠ g by omega)).trans h.cb, Kd.S_far h.r5 (fun k hk he => hk (by subst he; simp [Value.ownBlock])) _, int_set h.r7 j x⟩
theorem LM.call {s : ByteArray} {w W W1 : World} {v5 v7 : Value} {ps : List S38} {a e a' e' : Int} {op : List Int} (h : LM s w v5 v7 ps a e op W) (hr : RD (w.heap.size + 1) s a' e' W1) (hk : Fk w.heap.size (w.heap.size + 1) W W1) :
    RD (w.heap.size + 1) s a' e' W1 ∧ Below w.heap.size w W1 ∧ W1.heap[w.heap.size]? = some (.cells #[.slice none 0 0] 24 (0, 0)) ∧ W1.heap[w.heap.size + 1 + 1]? = some (.cells #[v5] 24 (0, 0)) ∧ Kd.S k38 38 W1 (w.heap.size + 3) (fun k => some k ≠ v7.ownBlock ∧ k < W.heap.size) v5 ps ∧ (Kd.int .i64).R 3 W1 (w.heap.size + 3) (fun _ => True) v7 op :=
  ⟨hr, h.bel.trans hk.bel, (hk.oth _ (by omega) (blk_lt h.rb)).trans h.rb, (hk.oth _ (by omega) (blk_lt h.cb)).trans h.cb,
    Kd.S_mono (Kd.S_step (Kd.S_bound h.r5) (fun k hk' hl => hk.oth k (by have := hk'.2.1; omega) hl)) (fun k hk => ⟨hk.1, hk.2.2.1⟩),
    R_fk h.r7 (by omega) hk⟩
theorem proto (k : Nat) (hk8 : ∀ s : ByteArray, s.size ≤ 8 → ∃ r, impl_GetInt.f k s 0 = some r) (B b : Nat) (s : ByteArray) (kids a e : Int) (p : S38) (a' e' : Int) (w : World) (h : RD b s a e w) (hB : B ≤ b) (hBw : B ≤ w.heap.size) (hg : GvOk s) (ha : 0 ≤ a) (hs : a ≤ (s.size : Int)) (hz : s.size ≤ 140737488351232) (hkd : 0 ≤ kids) (hr : rProto k s kids a e = (p, a', e')) :
    Calls Tryd.prog 12 #[.pointer (some ⟨b, 0, none⟩), .int .i64 kids] w (ProtoEnd B b s w p a' e') := by
  unfold rProto at hr
  obtain ⟨q, v, a11, e11, hq⟩ : ∃ q v a11 e11, rHead k s kids a e = (q, v, a11, e11) := ⟨_, _, _, _, rfl⟩
  rw [hq] at hr
  dsimp only at hr
  obtain ⟨q7, q8, q9, v1, a1, e1, a2, e2, a3, e3, n4, a4, e4, a5, e5, n6, a6, e6, a7, e7, n8, a8, e8, a9, e9, a10, e10, hA⟩ := head_at hg hkd ha hs hq
  have hA' := hA
  rw [hA.g1] at hA'
  by_cases hv : v = 1
  · rw [if_pos hv] at hr
    obtain ⟨f7, l8, l9, a12, e12, n13, a13, e13, a14, e14, n15, a15, e15, e16, hD, hp, he⟩ := debug_at hg (Int.le_trans ha (Int.le_trans (Int.le_trans (Int.le_trans (Int.le_trans (Int.le_trans (Int.le_trans (Int.le_trans (Int.le_trans (Int.le_trans (Int.le_trans hA.h1.2.1 hA.h2.2.1) hA.h3.2.1) hA.h4.2.1) hA.h5.2.1) hA.h6.2.1) hA.h7.2.1) hA.h8.2.1) hA.h9.2.1) hA.h10.2.1) hA.h11.2.1)) hA.h11.2.2.1 hA.h5.2.2.2 hA.h9.2.2.2 hr
    exact proto0 k hk8 B b s kids a e q.f0 q.f2 q.f3 q.f4 q.f5 q.f6 v a11 e11 v1 a1 e1 a2 e2 a3 e3 n4 a4 e4 a5 e5 n6 a6 e6 a7 e7 n8 a8 e8 a9 e9 a10 e10 w h hB hBw hg ha hs hz hA' f7 l8 l9 a12 e12 n13 a13 e13 a14 e14 n15 a15 e15 a' e16 _ p a' e' (.inr ⟨hv, hD, rfl, by rw [hp, hA.g1], rfl, he⟩)
  · rw [if_neg hv] at hr
    obtain ⟨g1, g2, g3⟩ := pr3 hr
    exact proto0 k hk8 B b s kids a e q.f0 q.f2 q.f3 q.f4 q.f5 q.f6 v a11 e11 v1 a1 e1 a2 e2 a3 e3 n4 a4 e4 a5 e5 n6 a6 e6 a7 e7 n8 a8 e8 a9 e9 a10 e10 w h hB hBw hg ha hs hz hA' ⟨#[]⟩ [] [] 0 0 0 0 0 0 0 0 0 0 0 0 false p a' e' (.inl ⟨hv, by rw [← g1, ← hA.g1, ← q7, ← q8, ← q9], g2, g3⟩)
theorem LM.appended {s : ByteArray} {w W W1 w3 : World} {v5 v5' v7 : Value} {ps : List S38} {p : S38} {a e : Int} {op : List Int} {ok : Nat → Prop} {pb : Nat} {ob : Obj}
    (hc : RD (w.heap.size + 1) s a e W1 ∧ Below w.heap.size w W1 ∧ W1.heap[w.heap.size]? = some (.cells #[.slice none 0 0] 24 (0, 0)) ∧ W1.heap[w.heap.size + 1 + 1]? = some (.cells #[v5] 24 (0, 0)) ∧ Kd.S k38 38 W1 (w.heap.size + 3) ok v5 ps ∧ (Kd.int .i64).R 3 W1 (w.heap.size + 3) (fun _ => True) v7 op)
    (hb : Below W1.heap.size W1 W) (hg : W.grownBy w3 v5.ownBlock) (hS : Kd.S k38 38 w3 (w.heap.size + 3) (fun k => some k ≠ v7.ownBlock) v5' (ps ++ [p])) (hpb : W.heap[pb]? = some ob) (hpl : W1.heap.size ≤ pb) :
    LM s w v5' v7 (ps ++ [p]) a e op (w3.setCell ⟨w.heap.size + 1 + 1, 0, none⟩ v5') ∧ w3.cell? ⟨w.heap.size + 1 + 1, 0, none⟩ = some v5 ∧ w3.frozen? ⟨w.heap.size + 1 + 1, 0, none⟩ = false ∧ w3.heap[pb]? = some ob := by
  obtain ⟨h1, h2, h3, h4, h5, h6⟩ := hc
  have hlt := Kd.S_lt h5
  have hba := Kd.S_base h5
  have k1 : ∀ g t cs, W1.heap[g]? = some (.cells cs t (0, 0)) → g < w.heap.size + 3 → w3.heap[g]? = some (.cells cs t (0, 0)) := fun g t cs hq hgl => ((hg.block g (by rw [show W.heap.size = W.heap.size from rfl]; exact Nat.lt_of_lt_of_le (blk_lt hq) hb.size) (fun he => by have := hba g he.symm; omega)).trans (hb.block g (blk_lt hq))).trans hq
  have c3 := k1 _ _ _ h4 (by omega)
  refine ⟨⟨?_, ?_, ?_, ?_, ?_, ?_⟩, (blk_cell c3 0).trans rfl, blk_frozen c3 0, ?_⟩
  · exact RD.far (k1 _ _ _ h1 (by omega)) (by omega) _ _
  · have hbel : Below w.heap.size W w3 := ⟨hg.os, hg.tape, hg.output, hg.size, fun k hk => hg.block k (by have := h2.size; have := hb.size; omega) (fun he => by have := hba k he.symm; omega)⟩
    exact ((h2.trans (hb.mono h2.size)).trans hbel).setCell (p := ⟨w.heap.size + 1 + 1, 0, none⟩) (show w.heap.size ≤ w.heap.size + 1 + 1 by omega) _
  · exact (Below.heap_setCell w3 ⟨w.heap.size + 1 + 1, 0, none⟩ _ _ (show w.heap.size ≠ w.heap.size + 1 + 1 by omega)).trans (k1 _ _ _ h3 (by omega))
  · exact (blk_set c3 0 _).trans rfl
  · exact Kd.S_mono (Kd.S_step (Kd.S_bound hS) (fun k hk _ => Below.heap_setCell w3 ⟨w.heap.size + 1 + 1, 0, none⟩ _ k (show k ≠ w.heap.size + 1 + 1 by have := hk.2.1; omega))) (fun k hk => hk.1)
  · refine R_farN (Kd.R_grown2 (Kd.R_below h6 hb) rfl hg (fun k hk he => ?_)) (by omega)
    obtain ⟨cs, hcs⟩ := Kd.S_typed (Kd.S_below h5 hb) k hk
    exact Kd.R_ne (Kd.R_below h6 hb) hcs (by decide) he
  · exact (hg.block pb (blk_lt hpb) (fun he => by have := hlt pb he.symm; omega)).trans hpb
theorem LM.pushed {s : ByteArray} {w W w5 : World} {v5 v7 v7' : Value} {ps : List S38} {a e x : Int} {op : List Int} (h : LM s w v5 v7 ps a e op W) (hg : W.grownBy w5 v7.ownBlock) (hR : (Kd.int .i64).R 3 w5 (w.heap.size + 3) (fun _ => True) v7' (op ++ [x])) (hat : v7'.ownBlock = v7.ownBlock ∨ ∃ b, v7'.ownBlock = some b ∧ W.heap.size ≤ b) :
    LM s w v5 v7' ps a e (op ++ [x]) w5 := by
  have hba := Kd.R_base h.r7
  have k1 : ∀ g t cs, W.heap[g]? = some (.cells cs t (0, 0)) → g < w.heap.size + 3 → w5.heap[g]? = some (.cells cs t (0, 0)) := fun g t cs hq hgl => (hg.block g (blk_lt hq) (fun he => by have := hba g he.symm; omega)).trans hq
  refine ⟨k1 _ _ _ h.rd (by omega), ?_, k1 _ _ _ h.rb (by omega), k1 _ _ _ h.cb (by omega), ?_, hR⟩
  · exact h.bel.trans ⟨hg.os, hg.tape, hg.output, hg.size, fun k hk => hg.block k (by have := h.bel.size; omega) (fun he => by have := hba k he.symm; omega)⟩
  · exact Kd.S_mono (Kd.S_after (ok := fun _ => True) (Kd.S_mono h.r5 (fun k hk => ⟨trivial, hk⟩)) hg hat) (fun k hk => hk.2)
structure LP (k : Nat) (s : ByteArray) (T : List S38 × Int × Int) (n : Nat) (ps : List S38) (a e wanted : Int) (op : List Int) : Prop where
  a0 : 0 ≤ a
  a1 : a ≤ (s.size : Int)
  w0 : 1 ≤ wanted
  w1 : wanted ≤ 200
  l0 : (ps.length : Int) ≤ wanted
  l1 : 200 ≤ ps.length + n
  l2 : op.length ≤ ps.length
  sm : Small op
  run : rLoop k s n a e ps wanted op = T
theorem rHead_kids {k : Nat} {s : ByteArray} {kids a e : Int} {p : S38} {v a' e' : Int} (hg : GvOk s) (ha : 0 ≤ a) (hs : a ≤ (s.size : Int)) (hk : 0 ≤ kids) (hr : rHead k s kids a e = (p, v, a', e')) : 0 ≤ p.f6 ∧ p.f6 ≤ kids ∧ a ≤ a' ∧ a' ≤ (s.size : Int) ∧ p.f3.length ≤ 2000 ∧ p.f5.length ≤ 2000 := by
  obtain ⟨q7, q8, q9, v1, a1, e1, a2, e2, a3, e3, n4, a4, e4, a5, e5, n6, a6, e6, a7, e7, n8, a8, e8, a9, e9, a10, e10, hA⟩ := head_at hg hk ha hs hr
  have h1 := Int.le_trans hA.h1.2.1 hA.h2.2.1
  have h2 := Int.le_trans h1 (Int.le_trans hA.h3.2.1 hA.h4.2.1)
  have h3 := Int.le_trans h2 (Int.le_trans hA.h5.2.1 hA.h6.2.1)
  have h4 := Int.le_trans h3 (Int.le_trans hA.h7.2.1 hA.h8.2.1)
  have h5 := Int.le_trans h4 hA.h9.2.1
  obtain ⟨n1, n2, _⟩ := rNum_ok (lo := 0) (hi := kids) (e := e9) hg (Int.le_trans ha h5) hA.h9.2.2.1 (Int.le_refl 0) hk
  rw [hA.h10.1] at n1 n2
  exact ⟨n1, n2, Int.le_trans h5 (Int.le_trans hA.h10.2.1 hA.h11.2.1), hA.h11.2.2.1, hA.h5.2.2.2, hA.h9.2.2.2⟩
theorem rProto_kids {k : Nat} {s : ByteArray} {kids a e : Int} {p : S38} {a' e' : Int} (hg : GvOk s) (ha : 0 ≤ a) (hs : a ≤ (s.size : Int)) (hk : 0 ≤ kids) (hr : rProto k s kids a e = (p, a', e')) : 0 ≤ p.f6 ∧ p.f6 ≤ kids ∧ a ≤ a' ∧ a' ≤ (s.size : Int) := by
  unfold rProto at hr
  obtain ⟨q, v, a11, e11, hq⟩ : ∃ q v a11 e11, rHead k s kids a e = (q, v, a11, e11) := ⟨_, _, _, _, rfl⟩
  rw [hq] at hr
  dsimp only at hr
  obtain ⟨h1, h2, h3, h4, h5, h6⟩ := rHead_kids hg ha hs hk hq
  by_cases hv : v = 1
  · rw [if_pos hv] at hr
    obtain ⟨f7, l8, l9, a12, e12, n13, a13, e13, a14, e14, n15, a15, e15, e16, hD, hp, he⟩ := debug_at hg (Int.le_trans ha h3) h4 h5 h6 hr
    subst hp
    exact ⟨h1, h2, Int.le_trans h3 (Int.le_trans (Int.le_trans hD.d1.2.1 (Int.le_trans hD.d2.2.1 hD.d3.2.1)) (Int.le_trans hD.d4.2.1 hD.d5.2.1)), hD.d5.2.2⟩
  · rw [if_neg hv] at hr
    obtain ⟨g1, g2, g3⟩ := pr3 hr
    subst g1
    subst g2
    exact ⟨h1, h2, h3, h4⟩
theorem LP.next {k : Nat} {s : ByteArray} {T : List S38 × Int × Int} {n : Nat} {ps : List S38} {a wanted : Int} {op : List Int} (hg : GvOk s) (h : LP k s T (n + 1) ps a 0 wanted op) (hw : (ps.length : Int) < wanted) {kids : Int} (hkd : (if 63 ≤ op.length then 0 else 200 - wanted) = kids) {p : S38} {a' e' : Int} (hr : rProto k s kids a 0 = (p, a', e')) :
    LP k s T n (ps ++ [p]) a' e' (wanted + p.f6) (upd (op ++ [p.f6])) ∧ 0 ≤ p.f6 ∧ p.f6 ≤ 200 := by
  have hw1 := h.w1
  have hk0 : 0 ≤ kids := by rw [← hkd]; split <;> omega
  have hk1 : kids ≤ 200 - wanted := by rw [← hkd]; split <;> omega
  obtain ⟨h1, h2, h3, h4⟩ := rProto_kids hg h.a0 h.a1 hk0 hr
  have hrun := h.run
  rw [rLoop, if_pos ⟨hw, rfl⟩, hkd, hr] at hrun
  have hsm : Small (op ++ [p.f6]) := fun x hx => by
    rcases List.mem_append.1 hx with hx | hx
    · exact h.sm x hx
    · rw [List.mem_singleton.1 hx]; have := h.w0; omega
  refine ⟨⟨Int.le_trans h.a0 h3, h4, by have := h.w0; omega, by omega, by rw [List.length_append]; simp; omega, by have := h.l1; rw [List.length_append]; simp; omega, ?_, small_upd hsm, hrun⟩, h1, by have := h.w0; omega⟩
  have h5 := upd_len (op ++ [p.f6])
  have h6 := h.l2
  rw [List.length_append] at h5 ⊢
  simp at h5 ⊢
  omega
theorem LP.stop {k : Nat} {s : ByteArray} {T : List S38 × Int × Int} {n : Nat} {ps : List S38} {a e wanted : Int} {op : List Int} (h : LP k s T n ps a e wanted op) (hw : ¬ ((ps.length : Int) < wanted ∧ e = 0)) : T = (ps, a, e) := by
  have hrun := h.run
  cases n with
  | zero => exact hrun.symm
  | succ n => rw [rLoop, if_neg hw] at hrun; exact hrun.symm
end Go.Proofs.YtiekodnojmkfaaaDoor.PFnExactLoad
