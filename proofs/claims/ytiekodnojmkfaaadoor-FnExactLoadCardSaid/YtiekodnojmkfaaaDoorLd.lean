import Derived.Tactics2
import Derived.Deep.DeepCutAuto
import Derived.Deep.CutBlock
import Derived.Shelf.RegionOpenPlain
import Derived.Shelf.Abstract
import Derived.Shelf.RegionOpen
import Derived.WalkKit
import Derived.OwnWalkIn
import Derived.TacticsInMore
import Derived.LoopNIn
import Derived.LoopIn
import Derived.Laws.EntriesVeiled
import Derived.LoopN
import Derived.WalkLawsBesides
import Derived.Test.YtiekodnojmkfaaaDoorLb
namespace Go.Proofs.YtiekodnojmkfaaaDoor.PFnExactLoad
open Go.RowKit Go.Proofs.YtiekodnojmkfaaaDoorW.PrintWords Go.Proofs.YtiekodnojmkfaaaDoorW.PrintLast Go.Proofs.YtiekodnojmkfaaaDoorW.PrintMore
attribute [local go_sem] max2_int min2_int max_two min_two max_three min_three max_four min_four
set_option linter.unusedVariables false
set_option linter.unusedSimpArgs false
structure SpOk (k : Nat) (s : ByteArray) : Prop where
  num : ∀ lo hi a e : Int, 0 ≤ a → a ≤ (s.size : Int) → spec_l3Number.f k s a e lo hi = some ((rNum s lo hi a e).1, s, (rNum s lo hi a e).2)
  byte : ∀ m a e : Int, 0 ≤ a → a ≤ (s.size : Int) → spec_l3Byte.f s a e m = some ((rOctet s m a e).1, s, (rOctet s m a e).2)
  bytes : ∀ n a e : Int, 0 ≤ n → n ≤ 16777215 → 0 ≤ a → a ≤ (s.size : Int) → spec_l3Bytes.f s a e n = some ((rBytes s n a e).1, s, (rBytes s n a e).2)
  text : ∀ a e : Int, 0 ≤ a → a ≤ (s.size : Int) → spec_l3Text.f k s a e = some ((rText s a e).1, s, (rText s a e).2)
  const : ∀ a e : Int, 0 ≤ a → a ≤ (s.size : Int) → spec_l3ReadConst.f k s a e = some ((rValue k s a e).1, (rValue k s a e).2.1, (rValue k s a e).2.2.1, s, (rValue k s a e).2.2.2)
  fail : ∀ a e c : Int, spec_l3Fail.f s a e c = some (s, a, if e = 0 then c else e)
def rda (s : ByteArray) (a e : Int) : Value := .agg #[.string s, .int .i64 a, .int .i64 e]
theorem spNum {k : Nat} {s : ByteArray} (h : SpOk k s) {lo hi a e v a' e' : Int} (w : World) (ha : 0 ≤ a) (hs : a ≤ (s.size : Int)) (hr : rNum s lo hi a e = (v, a', e')) :
    Calls Tryd.prog 19 #[.agg #[.string s, .int .i64 a, .int .i64 e], .int .i64 lo, .int .i64 hi] w fun r w' => r = .returned (.tuple #[.int .i64 v, .agg #[.string s, .int .i64 a', .int .i64 e']]) ∧ Below w.heap.size w w' :=
  spec_l3Number.calls k s a e lo hi v s a' e' w (by rw [h.num lo hi a e ha hs, hr])
theorem spByte {k : Nat} {s : ByteArray} (h : SpOk k s) {m a e v a' e' : Int} (w : World) (ha : 0 ≤ a) (hs : a ≤ (s.size : Int)) (hr : rOctet s m a e = (v, a', e')) :
    Calls Tryd.prog 18 #[.agg #[.string s, .int .i64 a, .int .i64 e], .int .i64 m] w fun r w' => r = .returned (.tuple #[.int .i64 v, .agg #[.string s, .int .i64 a', .int .i64 e']]) ∧ Below w.heap.size w w' :=
  spec_l3Byte.calls s a e m v s a' e' w (by rw [h.byte m a e ha hs, hr])
theorem spBytes {k : Nat} {s : ByteArray} (h : SpOk k s) {n a e : Int} {v : ByteArray} {a' e' : Int} (w : World) (hn : 0 ≤ n) (hn2 : n ≤ 16777215) (ha : 0 ≤ a) (hs : a ≤ (s.size : Int)) (hr : rBytes s n a e = (v, a', e')) :
    Calls Tryd.prog 20 #[.agg #[.string s, .int .i64 a, .int .i64 e], .int .i64 n] w fun r w' => r = .returned (.tuple #[.string v, .agg #[.string s, .int .i64 a', .int .i64 e']]) ∧ Below w.heap.size w w' :=
  spec_l3Bytes.calls s a e n v s a' e' w (by rw [h.bytes n a e hn hn2 ha hs, hr])
theorem spText {k : Nat} {s : ByteArray} (h : SpOk k s) {a e : Int} {v : ByteArray} {a' e' : Int} (w : World) (ha : 0 ≤ a) (hs : a ≤ (s.size : Int)) (hr : rText s a e = (v, a', e')) :
    Calls Tryd.prog 57 #[.agg #[.string s, .int .i64 a, .int .i64 e]] w fun r w' => r = .returned (.tuple #[.string v, .agg #[.string s, .int .i64 a', .int .i64 e']]) ∧ Below w.heap.size w w' :=
  spec_l3Text.calls k s a e v s a' e' w (by rw [h.text a e ha hs, hr])
theorem spFail {k : Nat} {s : ByteArray} (h : SpOk k s) (a e c x : Int) (hx : (if e = 0 then c else e) = x) (w : World) :
    Calls Tryd.prog 54 #[.agg #[.string s, .int .i64 a, .int .i64 e], .int .i64 c] w fun r w' => r = .returned (.agg #[.string s, .int .i64 a, .int .i64 x]) ∧ Below w.heap.size w w' :=
  spec_l3Fail.calls s a e c s a x w (by rw [h.fail a e c, hx])
structure DAt (s : ByteArray) (w : World) (a e : Int) (f0 : Int) (f1 : Bool) (f2 : Int) (f6 : Int) (f7 : ByteArray) (l8 : List Int) (l9 : List ByteArray) (v3 v4 v5 v8 v9 : Value) (W : World) : Prop where
  bel : Below w.heap.size w W
  b2 : W.heap[w.heap.size]? = some (.cells #[.string s, .int .i64 a, .int .i64 e] 31 (0, 0))
  b3 : W.heap[w.heap.size + 1]? = some (.cells #[.int .i64 f0, .bool f1, .int .i64 f2, v3, v4, v5, .int .i64 f6, .string f7, v8, v9] 38 (0, 0))
  b4 : W.heap[w.heap.size + 1 + 1]? = some (.cells #[.int .i64 0, .bool false, .int .i64 0, .slice none 0 0, .slice none 0 0, .slice none 0 0, .int .i64 0, .string ⟨#[]⟩, .slice none 0 0, .slice none 0 0] 38 (0, 0))
  b5 : W.heap[w.heap.size + 1 + 1 + 1]? = some (.cells #[.string ⟨#[]⟩, .int .i64 0, .int .i64 0] 31 (0, 0))
  r8 : (Kd.int .i64).R 3 W (w.heap.size + 4) (fun _ => True) v8 l8
  r9 : Kd.string.R 9 W (w.heap.size + 4) (fun _ => True) v9 l9
theorem DAt.below {s : ByteArray} {w : World} {a e : Int} {f0 : Int} {f1 : Bool} {f2 f6 : Int} {f7 : ByteArray} {l8 : List Int} {l9 : List ByteArray} {v3 v4 v5 v8 v9 : Value} {W : World} {W1 : World} (h : DAt s w a e f0 f1 f2 f6 f7 l8 l9 v3 v4 v5 v8 v9 W) (hb : Below W.heap.size W W1) : DAt s w a e f0 f1 f2 f6 f7 l8 l9 v3 v4 v5 v8 v9 W1 :=
  ⟨h.bel.trans (hb.mono h.bel.size), (hb.block _ (blk_lt h.b2)).trans h.b2, (hb.block _ (blk_lt h.b3)).trans h.b3, (hb.block _ (blk_lt h.b4)).trans h.b4, (hb.block _ (blk_lt h.b5)).trans h.b5, Kd.R_below h.r8 hb, Kd.R_below h.r9 hb⟩
theorem DAt.far {s : ByteArray} {w : World} {a e : Int} {f0 : Int} {f1 : Bool} {f2 f6 : Int} {f7 : ByteArray} {l8 : List Int} {l9 : List ByteArray} {v3 v4 v5 v8 v9 : Value} {W : World} (h : DAt s w a e f0 f1 f2 f6 f7 l8 l9 v3 v4 v5 v8 v9 W) (j : Nat) (u : Value) {p : Addr} (hp : p.block = w.heap.size ∨ p.block = w.heap.size + 1) : (Below w.heap.size w (W.setCell p u)) ∧ ((W.setCell p u).heap[w.heap.size + 1 + 1]? = some (.cells #[.int .i64 0, .bool false, .int .i64 0, .slice none 0 0, .slice none 0 0, .slice none 0 0, .int .i64 0, .string ⟨#[]⟩, .slice none 0 0, .slice none 0 0] 38 (0, 0))) ∧ ((W.setCell p u).heap[w.heap.size + 1 + 1 + 1]? = some (.cells #[.string ⟨#[]⟩, .int .i64 0, .int .i64 0] 31 (0, 0))) ∧ (Kd.int .i64).R 3 (W.setCell p u) (w.heap.size + 4) (fun _ => True) v8 l8 ∧ Kd.string.R 9 (W.setCell p u) (w.heap.size + 4) (fun _ => True) v9 l9 :=
  ⟨h.bel.setCell (by omega) _, (Below.heap_setCell W p u _ (by omega)).trans h.b4, (Below.heap_setCell W p u _ (by omega)).trans h.b5,
    Kd.R_mono (Kd.R_step (Kd.R_bound h.r8) (fun k hk _ => Below.heap_setCell W p u k (by have := hk.2.1; omega))) (fun _ h => h.1), Kd.R_mono (Kd.R_step (Kd.R_bound h.r9) (fun k hk _ => Below.heap_setCell W p u k (by have := hk.2.1; omega))) (fun _ h => h.1)⟩
theorem DAt.rd0 {s : ByteArray} {w : World} {a e : Int} {f0 : Int} {f1 : Bool} {f2 f6 : Int} {f7 : ByteArray} {l8 : List Int} {l9 : List ByteArray} {v3 v4 v5 v8 v9 : Value} {W : World} (h : DAt s w a e f0 f1 f2 f6 f7 l8 l9 v3 v4 v5 v8 v9 W) : DAt s w a e f0 f1 f2 f6 f7 l8 l9 v3 v4 v5 v8 v9 (W.setCell ⟨w.heap.size, 0, none⟩ (.string s)) := by
  obtain ⟨h1, h4, h5, h8, h9⟩ := h.far 0 (.string s) (p := ⟨w.heap.size, 0, none⟩) (.inl rfl)
  exact ⟨h1, (blk_set h.b2 0 _).trans rfl, (Below.heap_setCell W ⟨w.heap.size, 0, none⟩ _ _ (show w.heap.size + 1 ≠ w.heap.size by omega)).trans h.b3, h4, h5, h8, h9⟩
theorem DAt.rd1 {s : ByteArray} {w : World} {a e : Int} {f0 : Int} {f1 : Bool} {f2 f6 : Int} {f7 : ByteArray} {l8 : List Int} {l9 : List ByteArray} {v3 v4 v5 v8 v9 : Value} {W : World} (h : DAt s w a e f0 f1 f2 f6 f7 l8 l9 v3 v4 v5 v8 v9 W) (x : Int) : DAt s w x e f0 f1 f2 f6 f7 l8 l9 v3 v4 v5 v8 v9 (W.setCell ⟨w.heap.size, 1, none⟩ (.int .i64 x)) := by
  obtain ⟨h1, h4, h5, h8, h9⟩ := h.far 1 (.int .i64 x) (p := ⟨w.heap.size, 1, none⟩) (.inl rfl)
  exact ⟨h1, (blk_set h.b2 1 _).trans rfl, (Below.heap_setCell W ⟨w.heap.size, 1, none⟩ _ _ (show w.heap.size + 1 ≠ w.heap.size by omega)).trans h.b3, h4, h5, h8, h9⟩
theorem DAt.rd2 {s : ByteArray} {w : World} {a e : Int} {f0 : Int} {f1 : Bool} {f2 f6 : Int} {f7 : ByteArray} {l8 : List Int} {l9 : List ByteArray} {v3 v4 v5 v8 v9 : Value} {W : World} (h : DAt s w a e f0 f1 f2 f6 f7 l8 l9 v3 v4 v5 v8 v9 W) (x : Int) : DAt s w a x f0 f1 f2 f6 f7 l8 l9 v3 v4 v5 v8 v9 (W.setCell ⟨w.heap.size, 2, none⟩ (.int .i64 x)) := by
  obtain ⟨h1, h4, h5, h8, h9⟩ := h.far 2 (.int .i64 x) (p := ⟨w.heap.size, 2, none⟩) (.inl rfl)
  exact ⟨h1, (blk_set h.b2 2 _).trans rfl, (Below.heap_setCell W ⟨w.heap.size, 2, none⟩ _ _ (show w.heap.size + 1 ≠ w.heap.size by omega)).trans h.b3, h4, h5, h8, h9⟩
theorem DAt.rd3 {s : ByteArray} {w : World} {a e : Int} {f0 : Int} {f1 : Bool} {f2 f6 : Int} {f7 : ByteArray} {l8 : List Int} {l9 : List ByteArray} {v3 v4 v5 v8 v9 : Value} {W : World} (h : DAt s w a e f0 f1 f2 f6 f7 l8 l9 v3 v4 v5 v8 v9 W) (a' e' : Int) : DAt s w a' e' f0 f1 f2 f6 f7 l8 l9 v3 v4 v5 v8 v9 (((W.setCell ⟨w.heap.size, 0, none⟩ (.string s)).setCell ⟨w.heap.size, 1, none⟩ (.int .i64 a')).setCell ⟨w.heap.size, 2, none⟩ (.int .i64 e')) := ((h.rd0).rd1 a').rd2 e'
theorem DAt.set7 {s : ByteArray} {w : World} {a e : Int} {f0 : Int} {f1 : Bool} {f2 f6 : Int} {f7 : ByteArray} {l8 : List Int} {l9 : List ByteArray} {v3 v4 v5 v8 v9 : Value} {W : World} (h : DAt s w a e f0 f1 f2 f6 f7 l8 l9 v3 v4 v5 v8 v9 W) (x : ByteArray) : DAt s w a e f0 f1 f2 f6 x l8 l9 v3 v4 v5 v8 v9 (W.setCell ⟨w.heap.size + 1, 7, none⟩ (.string x)) := by
  obtain ⟨h1, h4, h5, h8, h9⟩ := h.far 7 (.string x) (p := ⟨w.heap.size + 1, 7, none⟩) (.inr rfl)
  exact ⟨h1, (Below.heap_setCell W ⟨w.heap.size + 1, 7, none⟩ _ _ (show w.heap.size ≠ w.heap.size + 1 by omega)).trans h.b2, (blk_set h.b3 7 _).trans rfl, h4, h5, h8, h9⟩
theorem DAt.app8 {s : ByteArray} {w : World} {a e : Int} {f0 : Int} {f1 : Bool} {f2 f6 : Int} {f7 : ByteArray} {l8 : List Int} {l9 : List ByteArray} {v3 v4 v5 v8 v9 : Value} {W : World} {w3 : World} {v' : Value} {x : Int} (h : DAt s w a e f0 f1 f2 f6 f7 l8 l9 v3 v4 v5 v8 v9 W) (hg : W.grownBy w3 v8.ownBlock) (hR : (Kd.int .i64).R 3 w3 (w.heap.size + 4) (fun _ => True) v' (l8 ++ [x])) :
    DAt s w a e f0 f1 f2 f6 f7 (l8 ++ [x]) l9 v3 v4 v5 v' v9 (w3.setCell ⟨w.heap.size + 1, 8, none⟩ v') ∧ w3.cell? ⟨w.heap.size + 1, 8, none⟩ = some v8 ∧ w3.frozen? ⟨w.heap.size + 1, 8, none⟩ = false := by
  have hba := Kd.R_base h.r8
  have k1 : ∀ g t cs, W.heap[g]? = some (.cells cs t (0, 0)) → g < w.heap.size + 4 → w3.heap[g]? = some (.cells cs t (0, 0)) := fun g t cs hq hgl => (hg.block g (blk_lt hq) (fun he => by have := hba g he.symm; omega)).trans hq
  have hbel : Below w.heap.size w w3 := h.bel.trans ⟨hg.os, hg.tape, hg.output, hg.size, fun k hk => hg.block k (by have := h.bel.size; omega) (fun he => by have := hba k he.symm; omega)⟩
  have hO : Kd.string.R 9 w3 (w.heap.size + 4) (fun _ => True) v9 l9 := Kd.R_grown2 h.r9 rfl hg (fun k hk he => by
    obtain ⟨cs, hcs⟩ := Kd.R_typed h.r8 k hk
    exact Kd.R_ne h.r9 hcs (by decide) he)
  have c3 := k1 _ _ _ h.b3 (by omega)
  refine ⟨⟨hbel.setCell (p := ⟨w.heap.size + 1, 8, none⟩) (show w.heap.size ≤ w.heap.size + 1 by omega) _, (Below.heap_setCell w3 ⟨w.heap.size + 1, 8, none⟩ _ _ (show w.heap.size ≠ w.heap.size + 1 by omega)).trans (k1 _ _ _ h.b2 (by omega)), (blk_set c3 8 _).trans rfl, (Below.heap_setCell w3 ⟨w.heap.size + 1, 8, none⟩ _ _ (show w.heap.size + 1 + 1 ≠ w.heap.size + 1 by omega)).trans (k1 _ _ _ h.b4 (by omega)), (Below.heap_setCell w3 ⟨w.heap.size + 1, 8, none⟩ _ _ (show w.heap.size + 1 + 1 + 1 ≠ w.heap.size + 1 by omega)).trans (k1 _ _ _ h.b5 (by omega)), R_farN hR (by omega), R_farN hO (by omega)⟩, (blk_cell c3 8).trans rfl, blk_frozen c3 8⟩
theorem DAt.app9 {s : ByteArray} {w : World} {a e : Int} {f0 : Int} {f1 : Bool} {f2 f6 : Int} {f7 : ByteArray} {l8 : List Int} {l9 : List ByteArray} {v3 v4 v5 v8 v9 : Value} {W : World} {w3 : World} {v' : Value} {x : ByteArray} (h : DAt s w a e f0 f1 f2 f6 f7 l8 l9 v3 v4 v5 v8 v9 W) (hg : W.grownBy w3 v9.ownBlock) (hR : Kd.string.R 9 w3 (w.heap.size + 4) (fun _ => True) v' (l9 ++ [x])) :
    DAt s w a e f0 f1 f2 f6 f7 l8 (l9 ++ [x]) v3 v4 v5 v8 v' (w3.setCell ⟨w.heap.size + 1, 9, none⟩ v') ∧ w3.cell? ⟨w.heap.size + 1, 9, none⟩ = some v9 ∧ w3.frozen? ⟨w.heap.size + 1, 9, none⟩ = false := by
  have hba := Kd.R_base h.r9
  have k1 : ∀ g t cs, W.heap[g]? = some (.cells cs t (0, 0)) → g < w.heap.size + 4 → w3.heap[g]? = some (.cells cs t (0, 0)) := fun g t cs hq hgl => (hg.block g (blk_lt hq) (fun he => by have := hba g he.symm; omega)).trans hq
  have hbel : Below w.heap.size w w3 := h.bel.trans ⟨hg.os, hg.tape, hg.output, hg.size, fun k hk => hg.block k (by have := h.bel.size; omega) (fun he => by have := hba k he.symm; omega)⟩
  have hO : (Kd.int .i64).R 3 w3 (w.heap.size + 4) (fun _ => True) v8 l8 := Kd.R_grown2 h.r8 rfl hg (fun k hk he => by
    obtain ⟨cs, hcs⟩ := Kd.R_typed h.r9 k hk
    exact Kd.R_ne h.r8 hcs (by decide) he)
  have c3 := k1 _ _ _ h.b3 (by omega)
  refine ⟨⟨hbel.setCell (p := ⟨w.heap.size + 1, 9, none⟩) (show w.heap.size ≤ w.heap.size + 1 by omega) _, (Below.heap_setCell w3 ⟨w.heap.size + 1, 9, none⟩ _ _ (show w.heap.size ≠ w.heap.size + 1 by omega)).trans (k1 _ _ _ h.b2 (by omega)), (blk_set c3 9 _).trans rfl, (Below.heap_setCell w3 ⟨w.heap.size + 1, 9, none⟩ _ _ (show w.heap.size + 1 + 1 ≠ w.heap.size + 1 by omega)).trans (k1 _ _ _ h.b4 (by omega)), (Below.heap_setCell w3 ⟨w.heap.size + 1, 9, none⟩ _ _ (show w.heap.size + 1 + 1 + 1 ≠ w.heap.size + 1 by omega)).trans (k1 _ _ _ h.b5 (by omega)), R_farN hO (by omega), R_farN hR (by omega)⟩, (blk_cell c3 9).trans rfl, blk_frozen c3 9⟩
theorem DAt.cells {s : ByteArray} {w : World} {a e : Int} {f0 : Int} {f1 : Bool} {f2 f6 : Int} {f7 : ByteArray} {l8 : List Int} {l9 : List ByteArray} {v3 v4 v5 v8 v9 : Value} {W : World} (h : DAt s w a e f0 f1 f2 f6 f7 l8 l9 v3 v4 v5 v8 v9 W) :
    W.cell? ⟨w.heap.size, 0, none⟩ = some (.string s) ∧ W.cell? ⟨w.heap.size, 1, none⟩ = some (.int .i64 a) ∧ W.cell? ⟨w.heap.size, 2, none⟩ = some (.int .i64 e) ∧ W.frozen? ⟨w.heap.size, 0, none⟩ = false ∧ W.frozen? ⟨w.heap.size, 1, none⟩ = false ∧ W.frozen? ⟨w.heap.size, 2, none⟩ = false
    ∧ W.cell? ⟨w.heap.size + 1, 3, none⟩ = some v3 ∧ W.cell? ⟨w.heap.size + 1, 5, none⟩ = some v5 ∧ W.cell? ⟨w.heap.size + 1, 7, none⟩ = some (.string f7) ∧ W.cell? ⟨w.heap.size + 1, 8, none⟩ = some v8 ∧ W.cell? ⟨w.heap.size + 1, 9, none⟩ = some v9
    ∧ W.frozen? ⟨w.heap.size + 1, 7, none⟩ = false ∧ W.frozen? ⟨w.heap.size + 1, 8, none⟩ = false ∧ W.frozen? ⟨w.heap.size + 1, 9, none⟩ = false :=
  ⟨(blk_cell h.b2 0).trans rfl, (blk_cell h.b2 1).trans rfl, (blk_cell h.b2 2).trans rfl, blk_frozen h.b2 0, blk_frozen h.b2 1, blk_frozen h.b2 2, (blk_cell h.b3 3).trans rfl, (blk_cell h.b3 5).trans rfl, (blk_cell h.b3 7).trans rfl, (blk_cell h.b3 8).trans rfl, (blk_cell h.b3 9).trans rfl, blk_frozen h.b3 7, blk_frozen h.b3 8, blk_frozen h.b3 9⟩
theorem DAt.size4 {s : ByteArray} {w : World} {a e : Int} {f0 : Int} {f1 : Bool} {f2 f6 : Int} {f7 : ByteArray} {l8 : List Int} {l9 : List ByteArray} {v3 v4 v5 v8 v9 : Value} {W : World} (h : DAt s w a e f0 f1 f2 f6 f7 l8 l9 v3 v4 v5 v8 v9 W) : w.heap.size + 4 ≤ W.heap.size := blk_lt h.b5
theorem DAt.start {s : ByteArray} {w : World} {a e : Int} {f0 : Int} {f1 : Bool} {f2 f6 : Int} {f7 : ByteArray} {v3 v4 v5 : Value} :
    DAt s w a e f0 f1 f2 f6 f7 [] [] v3 v4 v5 (.slice none 0 0) (.slice none 0 0) ((((w.alloc (.cells #[.string s, .int .i64 a, .int .i64 e] 31 (0, 0))).alloc (.cells #[.int .i64 f0, .bool f1, .int .i64 f2, v3, v4, v5, .int .i64 f6, .string f7, .slice none 0 0, .slice none 0 0] 38 (0, 0))).alloc (.cells #[.int .i64 0, .bool false, .int .i64 0, .slice none 0 0, .slice none 0 0, .slice none 0 0, .int .i64 0, .string ⟨#[]⟩, .slice none 0 0, .slice none 0 0] 38 (0, 0))).alloc (.cells #[.string ⟨#[]⟩, .int .i64 0, .int .i64 0] 31 (0, 0))) := by
  obtain ⟨W1, e1⟩ : ∃ X, X = w.alloc (.cells #[.string s, .int .i64 a, .int .i64 e] 31 (0, 0)) := ⟨_, rfl⟩
  have b1 := blk_new w (.cells #[.string s, .int .i64 a, .int .i64 e] 31 (0, 0))
  have s1 : W1.heap.size = w.heap.size + 1 := by rw [e1, World.size_alloc]
  have h1 : Below w.heap.size w W1 := by rw [e1]; exact below_alloc (Below.refl _ _) _
  rw [← e1] at b1 ⊢
  clear e1
  obtain ⟨W2, e2⟩ : ∃ X, X = W1.alloc (.cells #[.int .i64 f0, .bool f1, .int .i64 f2, v3, v4, v5, .int .i64 f6, .string f7, .slice none 0 0, .slice none 0 0] 38 (0, 0)) := ⟨_, rfl⟩
  have b2 := blk_new W1 (.cells #[.int .i64 f0, .bool f1, .int .i64 f2, v3, v4, v5, .int .i64 f6, .string f7, .slice none 0 0, .slice none 0 0] 38 (0, 0))
  have s2 : W2.heap.size = w.heap.size + 1 + 1 := by rw [e2, World.size_alloc, s1]
  have h2 : Below w.heap.size w W2 := by rw [e2]; exact below_alloc h1 _
  have c1 := blk_alloc b1 (.cells #[.int .i64 f0, .bool f1, .int .i64 f2, v3, v4, v5, .int .i64 f6, .string f7, .slice none 0 0, .slice none 0 0] 38 (0, 0))
  rw [← e2] at c1
  rw [← e2] at b2 ⊢
  rw [s1] at b2
  clear e2
  obtain ⟨W3, e3⟩ : ∃ X, X = W2.alloc (.cells #[.int .i64 0, .bool false, .int .i64 0, .slice none 0 0, .slice none 0 0, .slice none 0 0, .int .i64 0, .string ⟨#[]⟩, .slice none 0 0, .slice none 0 0] 38 (0, 0)) := ⟨_, rfl⟩
  have b3 := blk_new W2 (.cells #[.int .i64 0, .bool false, .int .i64 0, .slice none 0 0, .slice none 0 0, .slice none 0 0, .int .i64 0, .string ⟨#[]⟩, .slice none 0 0, .slice none 0 0] 38 (0, 0))
  have s3 : W3.heap.size = w.heap.size + 1 + 1 + 1 := by rw [e3, World.size_alloc, s2]
  have h3 : Below w.heap.size w W3 := by rw [e3]; exact below_alloc h2 _
  have d1 := blk_alloc c1 (.cells #[.int .i64 0, .bool false, .int .i64 0, .slice none 0 0, .slice none 0 0, .slice none 0 0, .int .i64 0, .string ⟨#[]⟩, .slice none 0 0, .slice none 0 0] 38 (0, 0))
  have d2 := blk_alloc b2 (.cells #[.int .i64 0, .bool false, .int .i64 0, .slice none 0 0, .slice none 0 0, .slice none 0 0, .int .i64 0, .string ⟨#[]⟩, .slice none 0 0, .slice none 0 0] 38 (0, 0))
  rw [← e3] at d1 d2
  rw [← e3] at b3 ⊢
  rw [s2] at b3
  clear e3
  have b4 := blk_new W3 (.cells #[.string ⟨#[]⟩, .int .i64 0, .int .i64 0] 31 (0, 0))
  rw [s3] at b4
  exact ⟨below_alloc h3 _, blk_alloc d1 _, blk_alloc d2 _, blk_alloc b3 _, b4, Kd.R_nil _ _ _ _ _, Kd.R_nil _ _ _ _ _⟩
structure SDebug (s : ByteArray) (n3 n5 : Nat) (a e : Int) (f7 : ByteArray) (l8 : List Int) (l9 : List ByteArray) (a1 e1 : Int) (n : Nat) (a2 e2 x2 a3 e3 : Int) (m : Nat) (a4 e4 x4 a5 e5 : Int) : Prop where
  d0 : 0 ≤ a ∧ a ≤ (s.size : Int)
  d1 : rText s a e = (f7, a1, e1) ∧ 0 ≤ a1 ∧ a1 ≤ (s.size : Int)
  d2 : rNum s 0 (n3 : Int) a1 e1 = ((n : Int), a2, e2) ∧ 0 ≤ a2 ∧ a2 ≤ (s.size : Int) ∧ n ≤ 2000
  g2 : (if 0 < n ∧ n ≠ n3 then (if e2 = 0 then 4 else e2) else e2) = x2
  d3 : rSome (fun a e => rNum s 0 16777215 a e) n a2 x2 = (l8, a3, e3) ∧ 0 ≤ a3 ∧ a3 ≤ (s.size : Int)
  d4 : rNum s 0 (n5 : Int) a3 e3 = ((m : Int), a4, e4) ∧ 0 ≤ a4 ∧ a4 ≤ (s.size : Int) ∧ m ≤ 2000
  g4 : (if 0 < m ∧ m ≠ n5 then (if e4 = 0 then 4 else e4) else e4) = x4
  d5 : rSome (fun a e => rText s a e) m a4 x4 = (l9, a5, e5) ∧ 0 ≤ a5 ∧ a5 ≤ (s.size : Int)
structure SL {α : Type} (F : Int → Int → α × Int × Int) (s : ByteArray) (n : Nat) (xs : List α) (A E : Int) (j : Nat) (ys : List α) (a e : Int) : Prop where
  a0 : 0 ≤ a
  a1 : a ≤ (s.size : Int)
  jn : j ≤ n
  n2 : n ≤ 2000
  len : ys.length ≤ j
  run : rSome F (n - j) a e = ((rSome F (n - j) a e).1, A, E)
  all : ys ++ (rSome F (n - j) a e).1 = xs
theorem SL.start {α : Type} {F : Int → Int → α × Int × Int} {s : ByteArray} {n : Nat} {xs : List α} {A E a e : Int} (h0 : 0 ≤ a) (h1 : a ≤ (s.size : Int)) (hn : n ≤ 2000) (hr : rSome F n a e = (xs, A, E)) : SL F s n xs A E 0 [] a e :=
  ⟨h0, h1, Nat.zero_le _, hn, Nat.le_refl _, by rw [Nat.sub_zero, hr], by rw [Nat.sub_zero, hr]; rfl⟩
theorem SL.next {α : Type} {F : Int → Int → α × Int × Int} {s : ByteArray} {n : Nat} {xs : List α} {A E a : Int} {j : Nat} {ys : List α} (h : SL F s n xs A E j ys a 0) (hj : j < n) {x : α} {a' e' : Int} (hF : F a 0 = (x, a', e')) (h1 : 0 ≤ a') (h2 : a' ≤ (s.size : Int)) : SL F s n xs A E (j + 1) (ys ++ [x]) a' e' := by
  have hr := h.run
  have ha := h.all
  rw [show n - j = (n - (j + 1)) + 1 by omega, rSome, if_pos rfl, hF] at hr ha
  dsimp only at hr ha
  exact ⟨h1, h2, hj, h.n2, by have := h.len; simp; omega, Prod.ext rfl (Prod.mk.inj hr).2, by rw [List.append_assoc]; exact ha⟩
theorem SL.stop {α : Type} {F : Int → Int → α × Int × Int} {s : ByteArray} {n : Nat} {xs : List α} {A E a e : Int} {j : Nat} {ys : List α} (h : SL F s n xs A E j ys a e) (hj : ¬ (j < n ∧ e = 0)) : ys = xs ∧ a = A ∧ e = E := by
  have e0 : rSome F (n - j) a e = ([], a, e) := by
    cases hm : n - j with
    | zero => rfl
    | succ m => rw [rSome, if_neg (fun he => hj ⟨by omega, he⟩)]
  have hr := h.run
  have ha := h.all
  rw [e0] at hr ha
  obtain ⟨_, h2, h3⟩ := pr3 hr
  rw [List.append_nil] at ha
  exact ⟨ha, h2, h3⟩
theorem DAt.cells2 {s : ByteArray} {w : World} {a e : Int} {f0 : Int} {f1 : Bool} {f2 f6 : Int} {f7 : ByteArray} {l8 : List Int} {l9 : List ByteArray} {v3 v4 v5 v8 v9 : Value} {W : World} (h : DAt s w a e f0 f1 f2 f6 f7 l8 l9 v3 v4 v5 v8 v9 W) : W.cell? ⟨w.heap.size + 1, 0, none⟩ = some (.int .i64 f0) ∧ W.cell? ⟨w.heap.size + 1, 1, none⟩ = some (.bool f1) ∧ W.cell? ⟨w.heap.size + 1, 2, none⟩ = some (.int .i64 f2) ∧ W.cell? ⟨w.heap.size + 1, 3, none⟩ = some (v3) ∧ W.cell? ⟨w.heap.size + 1, 4, none⟩ = some (v4) ∧ W.cell? ⟨w.heap.size + 1, 5, none⟩ = some (v5) ∧ W.cell? ⟨w.heap.size + 1, 6, none⟩ = some (.int .i64 f6) ∧ W.cell? ⟨w.heap.size + 1, 7, none⟩ = some (.string f7) ∧ W.cell? ⟨w.heap.size + 1, 8, none⟩ = some (v8) ∧ W.cell? ⟨w.heap.size + 1, 9, none⟩ = some (v9) ∧ W.cell? ⟨w.heap.size + 1 + 1, 0, none⟩ = some (.int .i64 0) ∧ W.cell? ⟨w.heap.size + 1 + 1, 1, none⟩ = some (.bool false) ∧ W.cell? ⟨w.heap.size + 1 + 1, 2, none⟩ = some (.int .i64 0) ∧ W.cell? ⟨w.heap.size + 1 + 1, 3, none⟩ = some (.slice none 0 0) ∧ W.cell? ⟨w.heap.size + 1 + 1, 4, none⟩ = some (.slice none 0 0) ∧ W.cell? ⟨w.heap.size + 1 + 1, 5, none⟩ = some (.slice none 0 0) ∧ W.cell? ⟨w.heap.size + 1 + 1, 6, none⟩ = some (.int .i64 0) ∧ W.cell? ⟨w.heap.size + 1 + 1, 7, none⟩ = some (.string ⟨#[]⟩) ∧ W.cell? ⟨w.heap.size + 1 + 1, 8, none⟩ = some (.slice none 0 0) ∧ W.cell? ⟨w.heap.size + 1 + 1, 9, none⟩ = some (.slice none 0 0) ∧ W.frozen? ⟨w.heap.size + 1 + 1, 0, none⟩ = false ∧ W.frozen? ⟨w.heap.size + 1 + 1, 1, none⟩ = false ∧ W.frozen? ⟨w.heap.size + 1 + 1, 2, none⟩ = false ∧ W.frozen? ⟨w.heap.size + 1 + 1, 3, none⟩ = false ∧ W.frozen? ⟨w.heap.size + 1 + 1, 4, none⟩ = false ∧ W.frozen? ⟨w.heap.size + 1 + 1, 5, none⟩ = false ∧ W.frozen? ⟨w.heap.size + 1 + 1, 6, none⟩ = false ∧ W.frozen? ⟨w.heap.size + 1 + 1, 7, none⟩ = false ∧ W.frozen? ⟨w.heap.size + 1 + 1, 8, none⟩ = false ∧ W.frozen? ⟨w.heap.size + 1 + 1, 9, none⟩ = false ∧ W.cell? ⟨w.heap.size + 1 + 1 + 1, 0, none⟩ = some (.string ⟨#[]⟩) ∧ W.cell? ⟨w.heap.size + 1 + 1 + 1, 1, none⟩ = some (.int .i64 0) ∧ W.cell? ⟨w.heap.size + 1 + 1 + 1, 2, none⟩ = some (.int .i64 0) ∧ W.frozen? ⟨w.heap.size + 1 + 1 + 1, 0, none⟩ = false ∧ W.frozen? ⟨w.heap.size + 1 + 1 + 1, 1, none⟩ = false ∧ W.frozen? ⟨w.heap.size + 1 + 1 + 1, 2, none⟩ = false :=
  ⟨(blk_cell h.b3 0).trans rfl, (blk_cell h.b3 1).trans rfl, (blk_cell h.b3 2).trans rfl, (blk_cell h.b3 3).trans rfl, (blk_cell h.b3 4).trans rfl, (blk_cell h.b3 5).trans rfl, (blk_cell h.b3 6).trans rfl, (blk_cell h.b3 7).trans rfl, (blk_cell h.b3 8).trans rfl, (blk_cell h.b3 9).trans rfl, (blk_cell h.b4 0).trans rfl, (blk_cell h.b4 1).trans rfl, (blk_cell h.b4 2).trans rfl, (blk_cell h.b4 3).trans rfl, (blk_cell h.b4 4).trans rfl, (blk_cell h.b4 5).trans rfl, (blk_cell h.b4 6).trans rfl, (blk_cell h.b4 7).trans rfl, (blk_cell h.b4 8).trans rfl, (blk_cell h.b4 9).trans rfl, blk_frozen h.b4 0, blk_frozen h.b4 1, blk_frozen h.b4 2, blk_frozen h.b4 3, blk_frozen h.b4 4, blk_frozen h.b4 5, blk_frozen h.b4 6, blk_frozen h.b4 7, blk_frozen h.b4 8, blk_frozen h.b4 9, (blk_cell h.b5 0).trans rfl, (blk_cell h.b5 1).trans rfl, (blk_cell h.b5 2).trans rfl, blk_frozen h.b5 0, blk_frozen h.b5 1, blk_frozen h.b5 2⟩
theorem sbare_eq {bb : Bool} {f0 : Int} {f1 : Bool} {f2 : Int} {l3 : List Int} {l4 : List S63} {l5 : List S67} {f6 : Int} {f7 : ByteArray} {l8 : List Int} {l9 : List ByteArray} (h : bareB f7 l8 l9 = bb) : spec_l3Bare.f f0 f1 f2 l3 l4 l5 f6 f7 l8 l9 = some bb := by
  rw [← h, ← Option.some_inj.2 (rfl : bareB f7 l8 l9 = bareB f7 l8 l9), ← bare_eq f0 f1 f2 l3 l4 l5 f6 f7 l8 l9]
  unfold spec_l3Bare.f impl_Proto_bare.f
  by_cases h1 : f7.toList = []
  · have h2 : f7.size = 0 := by
      have := congrArg List.length h1
      rw [ByteArray.toList_eq] at this
      simpa using this
    rw [if_pos h1, if_pos (by omega)]
  · have h2 : ¬ ((f7.size : Int) = 0) := fun h => h1 (by
      rw [ByteArray.toList_eq]
      have h3 : f7.size = 0 := by omega
      have h4 : f7.data.toList.length = 0 := by rw [Array.length_toList]; exact h3
      exact List.eq_nil_of_length_eq_zero h4)
    rw [if_neg h1, if_neg h2]
theorem DAt.finP {s : ByteArray} {w : World} {a e : Int} {f0 : Int} {f1 : Bool} {f2 f6 : Int} {f7 : ByteArray} {l8 : List Int} {l9 : List ByteArray} {v3 v4 v5 v8 v9 : Value} {W : World} (h : DAt s w a e f0 f1 f2 f6 f7 l8 l9 v3 v4 v5 v8 v9 W) : ∃ W', W' = (((((((((((((W.setCell ⟨w.heap.size + 1 + 1, 0, none⟩ (.int .i64 f0)).setCell ⟨w.heap.size + 1 + 1, 1, none⟩ (.bool f1)).setCell ⟨w.heap.size + 1 + 1, 2, none⟩ (.int .i64 f2)).setCell ⟨w.heap.size + 1 + 1, 3, none⟩ v3).setCell ⟨w.heap.size + 1 + 1, 4, none⟩ v4).setCell ⟨w.heap.size + 1 + 1, 5, none⟩ v5).setCell ⟨w.heap.size + 1 + 1, 6, none⟩ (.int .i64 f6)).setCell ⟨w.heap.size + 1 + 1, 7, none⟩ (.string f7)).setCell ⟨w.heap.size + 1 + 1, 8, none⟩ v8).setCell ⟨w.heap.size + 1 + 1, 9, none⟩ v9).setCell ⟨w.heap.size + 1 + 1 + 1, 0, none⟩ (.string s)).setCell ⟨w.heap.size + 1 + 1 + 1, 1, none⟩ (.int .i64 a)).setCell ⟨w.heap.size + 1 + 1 + 1, 2, none⟩ (.int .i64 e)) ∧ W'.heap[w.heap.size + 1 + 1]? = some (.cells #[.int .i64 f0, .bool f1, .int .i64 f2, v3, v4, v5, .int .i64 f6, .string f7, v8, v9] 38 (0, 0)) ∧ W'.heap[w.heap.size + 1 + 1 + 1]? = some (.cells #[.string s, .int .i64 a, .int .i64 e] 31 (0, 0)) ∧ (Kd.int .i64).R 3 W' w.heap.size (fun _ => True) v8 l8 ∧ Kd.string.R 9 W' w.heap.size (fun _ => True) v9 l9 ∧ Below w.heap.size w W' := by
  have p0 := h.b4
  have q0 := h.b5
  have h0 := h.bel
  have x0 := h.r8
  have y0 := h.r9
  clear h
  obtain ⟨W1, e0⟩ : ∃ X, X = W.setCell ⟨w.heap.size + 1 + 1, 0, none⟩ (.int .i64 f0) := ⟨_, rfl⟩
  rw [← e0]
  have p1 : W1.heap[w.heap.size + 1 + 1]? = some (.cells #[.int .i64 f0, .bool false, .int .i64 0, .slice none 0 0, .slice none 0 0, .slice none 0 0, .int .i64 0, .string ⟨#[]⟩, .slice none 0 0, .slice none 0 0] 38 (0, 0)) := by rw [e0]; exact (blk_set p0 0 _).trans rfl
  have q1 : W1.heap[w.heap.size + 1 + 1 + 1]? = some (.cells #[.string ⟨#[]⟩, .int .i64 0, .int .i64 0] 31 (0, 0)) := by rw [e0]; exact (Below.heap_setCell W ⟨w.heap.size + 1 + 1, 0, none⟩ _ _ (show w.heap.size + 1 + 1 + 1 ≠ w.heap.size + 1 + 1 by omega)).trans q0
  have h1 : Below w.heap.size w W1 := by rw [e0]; exact h0.setCell (p := ⟨w.heap.size + 1 + 1, 0, none⟩) (show w.heap.size ≤ w.heap.size + 1 + 1 by omega) _
  have x1 : (Kd.int .i64).R 3 W1 (w.heap.size + 4) (fun _ => True) v8 l8 := by rw [e0]; exact R_farN x0 (by omega)
  have y1 : Kd.string.R 9 W1 (w.heap.size + 4) (fun _ => True) v9 l9 := by rw [e0]; exact R_farN y0 (by omega)
  clear p0 q0 h0 x0 y0 e0
  obtain ⟨W2, e1⟩ : ∃ X, X = W1.setCell ⟨w.heap.size + 1 + 1, 1, none⟩ (.bool f1) := ⟨_, rfl⟩
  rw [← e1]
  have p2 : W2.heap[w.heap.size + 1 + 1]? = some (.cells #[.int .i64 f0, .bool f1, .int .i64 0, .slice none 0 0, .slice none 0 0, .slice none 0 0, .int .i64 0, .string ⟨#[]⟩, .slice none 0 0, .slice none 0 0] 38 (0, 0)) := by rw [e1]; exact (blk_set p1 1 _).trans rfl
  have q2 : W2.heap[w.heap.size + 1 + 1 + 1]? = some (.cells #[.string ⟨#[]⟩, .int .i64 0, .int .i64 0] 31 (0, 0)) := by rw [e1]; exact (Below.heap_setCell W1 ⟨w.heap.size + 1 + 1, 1, none⟩ _ _ (show w.heap.size + 1 + 1 + 1 ≠ w.heap.size + 1 + 1 by omega)).trans q1
  have h2 : Below w.heap.size w W2 := by rw [e1]; exact h1.setCell (p := ⟨w.heap.size + 1 + 1, 1, none⟩) (show w.heap.size ≤ w.heap.size + 1 + 1 by omega) _
  have x2 : (Kd.int .i64).R 3 W2 (w.heap.size + 4) (fun _ => True) v8 l8 := by rw [e1]; exact R_farN x1 (by omega)
  have y2 : Kd.string.R 9 W2 (w.heap.size + 4) (fun _ => True) v9 l9 := by rw [e1]; exact R_farN y1 (by omega)
  clear p1 q1 h1 x1 y1 e1
  obtain ⟨W3, e2⟩ : ∃ X, X = W2.setCell ⟨w.heap.size + 1 + 1, 2, none⟩ (.int .i64 f2) := ⟨_, rfl⟩
  rw [← e2]
  have p3 : W3.heap[w.heap.size + 1 + 1]? = some (.cells #[.int .i64 f0, .bool f1, .int .i64 f2, .slice none 0 0, .slice none 0 0, .slice none 0 0, .int .i64 0, .string ⟨#[]⟩, .slice none 0 0, .slice none 0 0] 38 (0, 0)) := by rw [e2]; exact (blk_set p2 2 _).trans rfl
  have q3 : W3.heap[w.heap.size + 1 + 1 + 1]? = some (.cells #[.string ⟨#[]⟩, .int .i64 0, .int .i64 0] 31 (0, 0)) := by rw [e2]; exact (Below.heap_setCell W2 ⟨w.heap.size + 1 + 1, 2, none⟩ _ _ (show w.heap.size + 1 + 1 + 1 ≠ w.heap.size + 1 + 1 by omega)).trans q2
  have h3 : Below w.heap.size w W3 := by rw [e2]; exact h2.setCell (p := ⟨w.heap.size + 1 + 1, 2, none⟩) (show w.heap.size ≤ w.heap.size + 1 + 1 by omega) _
  have x3 : (Kd.int .i64).R 3 W3 (w.heap.size + 4) (fun _ => True) v8 l8 := by rw [e2]; exact R_farN x2 (by omega)
  have y3 : Kd.string.R 9 W3 (w.heap.size + 4) (fun _ => True) v9 l9 := by rw [e2]; exact R_farN y2 (by omega)
  clear p2 q2 h2 x2 y2 e2
  obtain ⟨W4, e3⟩ : ∃ X, X = W3.setCell ⟨w.heap.size + 1 + 1, 3, none⟩ v3 := ⟨_, rfl⟩
  rw [← e3]
  have p4 : W4.heap[w.heap.size + 1 + 1]? = some (.cells #[.int .i64 f0, .bool f1, .int .i64 f2, v3, .slice none 0 0, .slice none 0 0, .int .i64 0, .string ⟨#[]⟩, .slice none 0 0, .slice none 0 0] 38 (0, 0)) := by rw [e3]; exact (blk_set p3 3 _).trans rfl
  have q4 : W4.heap[w.heap.size + 1 + 1 + 1]? = some (.cells #[.string ⟨#[]⟩, .int .i64 0, .int .i64 0] 31 (0, 0)) := by rw [e3]; exact (Below.heap_setCell W3 ⟨w.heap.size + 1 + 1, 3, none⟩ _ _ (show w.heap.size + 1 + 1 + 1 ≠ w.heap.size + 1 + 1 by omega)).trans q3
  have h4 : Below w.heap.size w W4 := by rw [e3]; exact h3.setCell (p := ⟨w.heap.size + 1 + 1, 3, none⟩) (show w.heap.size ≤ w.heap.size + 1 + 1 by omega) _
  have x4 : (Kd.int .i64).R 3 W4 (w.heap.size + 4) (fun _ => True) v8 l8 := by rw [e3]; exact R_farN x3 (by omega)
  have y4 : Kd.string.R 9 W4 (w.heap.size + 4) (fun _ => True) v9 l9 := by rw [e3]; exact R_farN y3 (by omega)
  clear p3 q3 h3 x3 y3 e3
  obtain ⟨W5, e4⟩ : ∃ X, X = W4.setCell ⟨w.heap.size + 1 + 1, 4, none⟩ v4 := ⟨_, rfl⟩
  rw [← e4]
  have p5 : W5.heap[w.heap.size + 1 + 1]? = some (.cells #[.int .i64 f0, .bool f1, .int .i64 f2, v3, v4, .slice none 0 0, .int .i64 0, .string ⟨#[]⟩, .slice none 0 0, .slice none 0 0] 38 (0, 0)) := by rw [e4]; exact (blk_set p4 4 _).trans rfl
  have q5 : W5.heap[w.heap.size + 1 + 1 + 1]? = some (.cells #[.string ⟨#[]⟩, .int .i64 0, .int .i64 0] 31 (0, 0)) := by rw [e4]; exact (Below.heap_setCell W4 ⟨w.heap.size + 1 + 1, 4, none⟩ _ _ (show w.heap.size + 1 + 1 + 1 ≠ w.heap.size + 1 + 1 by omega)).trans q4
  have h5 : Below w.heap.size w W5 := by rw [e4]; exact h4.setCell (p := ⟨w.heap.size + 1 + 1, 4, none⟩) (show w.heap.size ≤ w.heap.size + 1 + 1 by omega) _
  have x5 : (Kd.int .i64).R 3 W5 (w.heap.size + 4) (fun _ => True) v8 l8 := by rw [e4]; exact R_farN x4 (by omega)
  have y5 : Kd.string.R 9 W5 (w.heap.size + 4) (fun _ => True) v9 l9 := by rw [e4]; exact R_farN y4 (by omega)
  clear p4 q4 h4 x4 y4 e4
  obtain ⟨W6, e5⟩ : ∃ X, X = W5.setCell ⟨w.heap.size + 1 + 1, 5, none⟩ v5 := ⟨_, rfl⟩
  rw [← e5]
  have p6 : W6.heap[w.heap.size + 1 + 1]? = some (.cells #[.int .i64 f0, .bool f1, .int .i64 f2, v3, v4, v5, .int .i64 0, .string ⟨#[]⟩, .slice none 0 0, .slice none 0 0] 38 (0, 0)) := by rw [e5]; exact (blk_set p5 5 _).trans rfl
  have q6 : W6.heap[w.heap.size + 1 + 1 + 1]? = some (.cells #[.string ⟨#[]⟩, .int .i64 0, .int .i64 0] 31 (0, 0)) := by rw [e5]; exact (Below.heap_setCell W5 ⟨w.heap.size + 1 + 1, 5, none⟩ _ _ (show w.heap.size + 1 + 1 + 1 ≠ w.heap.size + 1 + 1 by omega)).trans q5
  have h6 : Below w.heap.size w W6 := by rw [e5]; exact h5.setCell (p := ⟨w.heap.size + 1 + 1, 5, none⟩) (show w.heap.size ≤ w.heap.size + 1 + 1 by omega) _
  have x6 : (Kd.int .i64).R 3 W6 (w.heap.size + 4) (fun _ => True) v8 l8 := by rw [e5]; exact R_farN x5 (by omega)
  have y6 : Kd.string.R 9 W6 (w.heap.size + 4) (fun _ => True) v9 l9 := by rw [e5]; exact R_farN y5 (by omega)
  clear p5 q5 h5 x5 y5 e5
  obtain ⟨W7, e6⟩ : ∃ X, X = W6.setCell ⟨w.heap.size + 1 + 1, 6, none⟩ (.int .i64 f6) := ⟨_, rfl⟩
  rw [← e6]
  have p7 : W7.heap[w.heap.size + 1 + 1]? = some (.cells #[.int .i64 f0, .bool f1, .int .i64 f2, v3, v4, v5, .int .i64 f6, .string ⟨#[]⟩, .slice none 0 0, .slice none 0 0] 38 (0, 0)) := by rw [e6]; exact (blk_set p6 6 _).trans rfl
  have q7 : W7.heap[w.heap.size + 1 + 1 + 1]? = some (.cells #[.string ⟨#[]⟩, .int .i64 0, .int .i64 0] 31 (0, 0)) := by rw [e6]; exact (Below.heap_setCell W6 ⟨w.heap.size + 1 + 1, 6, none⟩ _ _ (show w.heap.size + 1 + 1 + 1 ≠ w.heap.size + 1 + 1 by omega)).trans q6
  have h7 : Below w.heap.size w W7 := by rw [e6]; exact h6.setCell (p := ⟨w.heap.size + 1 + 1, 6, none⟩) (show w.heap.size ≤ w.heap.size + 1 + 1 by omega) _
  have x7 : (Kd.int .i64).R 3 W7 (w.heap.size + 4) (fun _ => True) v8 l8 := by rw [e6]; exact R_farN x6 (by omega)
  have y7 : Kd.string.R 9 W7 (w.heap.size + 4) (fun _ => True) v9 l9 := by rw [e6]; exact R_farN y6 (by omega)
  clear p6 q6 h6 x6 y6 e6
  obtain ⟨W8, e7⟩ : ∃ X, X = W7.setCell ⟨w.heap.size + 1 + 1, 7, none⟩ (.string f7) := ⟨_, rfl⟩
  rw [← e7]
  have p8 : W8.heap[w.heap.size + 1 + 1]? = some (.cells #[.int .i64 f0, .bool f1, .int .i64 f2, v3, v4, v5, .int .i64 f6, .string f7, .slice none 0 0, .slice none 0 0] 38 (0, 0)) := by rw [e7]; exact (blk_set p7 7 _).trans rfl
  have q8 : W8.heap[w.heap.size + 1 + 1 + 1]? = some (.cells #[.string ⟨#[]⟩, .int .i64 0, .int .i64 0] 31 (0, 0)) := by rw [e7]; exact (Below.heap_setCell W7 ⟨w.heap.size + 1 + 1, 7, none⟩ _ _ (show w.heap.size + 1 + 1 + 1 ≠ w.heap.size + 1 + 1 by omega)).trans q7
  have h8 : Below w.heap.size w W8 := by rw [e7]; exact h7.setCell (p := ⟨w.heap.size + 1 + 1, 7, none⟩) (show w.heap.size ≤ w.heap.size + 1 + 1 by omega) _
  have x8 : (Kd.int .i64).R 3 W8 (w.heap.size + 4) (fun _ => True) v8 l8 := by rw [e7]; exact R_farN x7 (by omega)
  have y8 : Kd.string.R 9 W8 (w.heap.size + 4) (fun _ => True) v9 l9 := by rw [e7]; exact R_farN y7 (by omega)
  clear p7 q7 h7 x7 y7 e7
  obtain ⟨W9, e8⟩ : ∃ X, X = W8.setCell ⟨w.heap.size + 1 + 1, 8, none⟩ v8 := ⟨_, rfl⟩
  rw [← e8]
  have p9 : W9.heap[w.heap.size + 1 + 1]? = some (.cells #[.int .i64 f0, .bool f1, .int .i64 f2, v3, v4, v5, .int .i64 f6, .string f7, v8, .slice none 0 0] 38 (0, 0)) := by rw [e8]; exact (blk_set p8 8 _).trans rfl
  have q9 : W9.heap[w.heap.size + 1 + 1 + 1]? = some (.cells #[.string ⟨#[]⟩, .int .i64 0, .int .i64 0] 31 (0, 0)) := by rw [e8]; exact (Below.heap_setCell W8 ⟨w.heap.size + 1 + 1, 8, none⟩ _ _ (show w.heap.size + 1 + 1 + 1 ≠ w.heap.size + 1 + 1 by omega)).trans q8
  have h9 : Below w.heap.size w W9 := by rw [e8]; exact h8.setCell (p := ⟨w.heap.size + 1 + 1, 8, none⟩) (show w.heap.size ≤ w.heap.size + 1 + 1 by omega) _
  have x9 : (Kd.int .i64).R 3 W9 (w.heap.size + 4) (fun _ => True) v8 l8 := by rw [e8]; exact R_farN x8 (by omega)
  have y9 : Kd.string.R 9 W9 (w.heap.size + 4) (fun _ => True) v9 l9 := by rw [e8]; exact R_farN y8 (by omega)
  clear p8 q8 h8 x8 y8 e8
  obtain ⟨W10, e9⟩ : ∃ X, X = W9.setCell ⟨w.heap.size + 1 + 1, 9, none⟩ v9 := ⟨_, rfl⟩
  rw [← e9]
  have p10 : W10.heap[w.heap.size + 1 + 1]? = some (.cells #[.int .i64 f0, .bool f1, .int .i64 f2, v3, v4, v5, .int .i64 f6, .string f7, v8, v9] 38 (0, 0)) := by rw [e9]; exact (blk_set p9 9 _).trans rfl
  have q10 : W10.heap[w.heap.size + 1 + 1 + 1]? = some (.cells #[.string ⟨#[]⟩, .int .i64 0, .int .i64 0] 31 (0, 0)) := by rw [e9]; exact (Below.heap_setCell W9 ⟨w.heap.size + 1 + 1, 9, none⟩ _ _ (show w.heap.size + 1 + 1 + 1 ≠ w.heap.size + 1 + 1 by omega)).trans q9
  have h10 : Below w.heap.size w W10 := by rw [e9]; exact h9.setCell (p := ⟨w.heap.size + 1 + 1, 9, none⟩) (show w.heap.size ≤ w.heap.size + 1 + 1 by omega) _
  have x10 : (Kd.int .i64).R 3 W10 (w.heap.size + 4) (fun _ => True) v8 l8 := by rw [e9]; exact R_farN x9 (by omega)
  have y10 : Kd.string.R 9 W10 (w.heap.size + 4) (fun _ => True) v9 l9 := by rw [e9]; exact R_farN y9 (by omega)
  clear p9 q9 h9 x9 y9 e9
  obtain ⟨W11, e10⟩ : ∃ X, X = W10.setCell ⟨w.heap.size + 1 + 1 + 1, 0, none⟩ (.string s) := ⟨_, rfl⟩
  rw [← e10]
  have p11 : W11.heap[w.heap.size + 1 + 1]? = some (.cells #[.int .i64 f0, .bool f1, .int .i64 f2, v3, v4, v5, .int .i64 f6, .string f7, v8, v9] 38 (0, 0)) := by rw [e10]; exact (Below.heap_setCell W10 ⟨w.heap.size + 1 + 1 + 1, 0, none⟩ _ _ (show w.heap.size + 1 + 1 ≠ w.heap.size + 1 + 1 + 1 by omega)).trans p10
  have q11 : W11.heap[w.heap.size + 1 + 1 + 1]? = some (.cells #[.string s, .int .i64 0, .int .i64 0] 31 (0, 0)) := by rw [e10]; exact (blk_set q10 0 _).trans rfl
  have h11 : Below w.heap.size w W11 := by rw [e10]; exact h10.setCell (p := ⟨w.heap.size + 1 + 1 + 1, 0, none⟩) (show w.heap.size ≤ w.heap.size + 1 + 1 + 1 by omega) _
  have x11 : (Kd.int .i64).R 3 W11 (w.heap.size + 4) (fun _ => True) v8 l8 := by rw [e10]; exact R_farN x10 (by omega)
  have y11 : Kd.string.R 9 W11 (w.heap.size + 4) (fun _ => True) v9 l9 := by rw [e10]; exact R_farN y10 (by omega)
  clear p10 q10 h10 x10 y10 e10
  obtain ⟨W12, e11⟩ : ∃ X, X = W11.setCell ⟨w.heap.size + 1 + 1 + 1, 1, none⟩ (.int .i64 a) := ⟨_, rfl⟩
  rw [← e11]
  have p12 : W12.heap[w.heap.size + 1 + 1]? = some (.cells #[.int .i64 f0, .bool f1, .int .i64 f2, v3, v4, v5, .int .i64 f6, .string f7, v8, v9] 38 (0, 0)) := by rw [e11]; exact (Below.heap_setCell W11 ⟨w.heap.size + 1 + 1 + 1, 1, none⟩ _ _ (show w.heap.size + 1 + 1 ≠ w.heap.size + 1 + 1 + 1 by omega)).trans p11
  have q12 : W12.heap[w.heap.size + 1 + 1 + 1]? = some (.cells #[.string s, .int .i64 a, .int .i64 0] 31 (0, 0)) := by rw [e11]; exact (blk_set q11 1 _).trans rfl
  have h12 : Below w.heap.size w W12 := by rw [e11]; exact h11.setCell (p := ⟨w.heap.size + 1 + 1 + 1, 1, none⟩) (show w.heap.size ≤ w.heap.size + 1 + 1 + 1 by omega) _
  have x12 : (Kd.int .i64).R 3 W12 (w.heap.size + 4) (fun _ => True) v8 l8 := by rw [e11]; exact R_farN x11 (by omega)
  have y12 : Kd.string.R 9 W12 (w.heap.size + 4) (fun _ => True) v9 l9 := by rw [e11]; exact R_farN y11 (by omega)
  clear p11 q11 h11 x11 y11 e11
  obtain ⟨W13, e12⟩ : ∃ X, X = W12.setCell ⟨w.heap.size + 1 + 1 + 1, 2, none⟩ (.int .i64 e) := ⟨_, rfl⟩
  rw [← e12]
  have p13 : W13.heap[w.heap.size + 1 + 1]? = some (.cells #[.int .i64 f0, .bool f1, .int .i64 f2, v3, v4, v5, .int .i64 f6, .string f7, v8, v9] 38 (0, 0)) := by rw [e12]; exact (Below.heap_setCell W12 ⟨w.heap.size + 1 + 1 + 1, 2, none⟩ _ _ (show w.heap.size + 1 + 1 ≠ w.heap.size + 1 + 1 + 1 by omega)).trans p12
  have q13 : W13.heap[w.heap.size + 1 + 1 + 1]? = some (.cells #[.string s, .int .i64 a, .int .i64 e] 31 (0, 0)) := by rw [e12]; exact (blk_set q12 2 _).trans rfl
  have h13 : Below w.heap.size w W13 := by rw [e12]; exact h12.setCell (p := ⟨w.heap.size + 1 + 1 + 1, 2, none⟩) (show w.heap.size ≤ w.heap.size + 1 + 1 + 1 by omega) _
  have x13 : (Kd.int .i64).R 3 W13 (w.heap.size + 4) (fun _ => True) v8 l8 := by rw [e12]; exact R_farN x12 (by omega)
  have y13 : Kd.string.R 9 W13 (w.heap.size + 4) (fun _ => True) v9 l9 := by rw [e12]; exact R_farN y12 (by omega)
  clear p12 q12 h12 x12 y12 e12
  exact ⟨_, rfl, p13, q13, Kd.R_lower x13 (by omega), Kd.R_lower y13 (by omega), h13⟩
theorem DAt.finR {s : ByteArray} {w : World} {a e : Int} {f0 : Int} {f1 : Bool} {f2 f6 : Int} {f7 : ByteArray} {l8 : List Int} {l9 : List ByteArray} {v3 v4 v5 v8 v9 : Value} {W : World} (h : DAt s w a e f0 f1 f2 f6 f7 l8 l9 v3 v4 v5 v8 v9 W) : ∃ W', W' = (((((((((((((W.setCell ⟨w.heap.size + 1 + 1 + 1, 0, none⟩ (.string s)).setCell ⟨w.heap.size + 1 + 1 + 1, 1, none⟩ (.int .i64 a)).setCell ⟨w.heap.size + 1 + 1 + 1, 2, none⟩ (.int .i64 e)).setCell ⟨w.heap.size + 1 + 1, 0, none⟩ (.int .i64 f0)).setCell ⟨w.heap.size + 1 + 1, 1, none⟩ (.bool f1)).setCell ⟨w.heap.size + 1 + 1, 2, none⟩ (.int .i64 f2)).setCell ⟨w.heap.size + 1 + 1, 3, none⟩ v3).setCell ⟨w.heap.size + 1 + 1, 4, none⟩ v4).setCell ⟨w.heap.size + 1 + 1, 5, none⟩ v5).setCell ⟨w.heap.size + 1 + 1, 6, none⟩ (.int .i64 f6)).setCell ⟨w.heap.size + 1 + 1, 7, none⟩ (.string f7)).setCell ⟨w.heap.size + 1 + 1, 8, none⟩ v8).setCell ⟨w.heap.size + 1 + 1, 9, none⟩ v9) ∧ W'.heap[w.heap.size + 1 + 1]? = some (.cells #[.int .i64 f0, .bool f1, .int .i64 f2, v3, v4, v5, .int .i64 f6, .string f7, v8, v9] 38 (0, 0)) ∧ W'.heap[w.heap.size + 1 + 1 + 1]? = some (.cells #[.string s, .int .i64 a, .int .i64 e] 31 (0, 0)) ∧ (Kd.int .i64).R 3 W' w.heap.size (fun _ => True) v8 l8 ∧ Kd.string.R 9 W' w.heap.size (fun _ => True) v9 l9 ∧ Below w.heap.size w W' := by
  have p0 := h.b4
  have q0 := h.b5
  have h0 := h.bel
  have x0 := h.r8
  have y0 := h.r9
  clear h
  obtain ⟨W1, e0⟩ : ∃ X, X = W.setCell ⟨w.heap.size + 1 + 1 + 1, 0, none⟩ (.string s) := ⟨_, rfl⟩
  rw [← e0]
  have p1 : W1.heap[w.heap.size + 1 + 1]? = some (.cells #[.int .i64 0, .bool false, .int .i64 0, .slice none 0 0, .slice none 0 0, .slice none 0 0, .int .i64 0, .string ⟨#[]⟩, .slice none 0 0, .slice none 0 0] 38 (0, 0)) := by rw [e0]; exact (Below.heap_setCell W ⟨w.heap.size + 1 + 1 + 1, 0, none⟩ _ _ (show w.heap.size + 1 + 1 ≠ w.heap.size + 1 + 1 + 1 by omega)).trans p0
  have q1 : W1.heap[w.heap.size + 1 + 1 + 1]? = some (.cells #[.string s, .int .i64 0, .int .i64 0] 31 (0, 0)) := by rw [e0]; exact (blk_set q0 0 _).trans rfl
  have h1 : Below w.heap.size w W1 := by rw [e0]; exact h0.setCell (p := ⟨w.heap.size + 1 + 1 + 1, 0, none⟩) (show w.heap.size ≤ w.heap.size + 1 + 1 + 1 by omega) _
  have x1 : (Kd.int .i64).R 3 W1 (w.heap.size + 4) (fun _ => True) v8 l8 := by rw [e0]; exact R_farN x0 (by omega)
  have y1 : Kd.string.R 9 W1 (w.heap.size + 4) (fun _ => True) v9 l9 := by rw [e0]; exact R_farN y0 (by omega)
  clear p0 q0 h0 x0 y0 e0
  obtain ⟨W2, e1⟩ : ∃ X, X = W1.setCell ⟨w.heap.size + 1 + 1 + 1, 1, none⟩ (.int .i64 a) := ⟨_, rfl⟩
  rw [← e1]
  have p2 : W2.heap[w.heap.size + 1 + 1]? = some (.cells #[.int .i64 0, .bool false, .int .i64 0, .slice none 0 0, .slice none 0 0, .slice none 0 0, .int .i64 0, .string ⟨#[]⟩, .slice none 0 0, .slice none 0 0] 38 (0, 0)) := by rw [e1]; exact (Below.heap_setCell W1 ⟨w.heap.size + 1 + 1 + 1, 1, none⟩ _ _ (show w.heap.size + 1 + 1 ≠ w.heap.size + 1 + 1 + 1 by omega)).trans p1
  have q2 : W2.heap[w.heap.size + 1 + 1 + 1]? = some (.cells #[.string s, .int .i64 a, .int .i64 0] 31 (0, 0)) := by rw [e1]; exact (blk_set q1 1 _).trans rfl
  have h2 : Below w.heap.size w W2 := by rw [e1]; exact h1.setCell (p := ⟨w.heap.size + 1 + 1 + 1, 1, none⟩) (show w.heap.size ≤ w.heap.size + 1 + 1 + 1 by omega) _
  have x2 : (Kd.int .i64).R 3 W2 (w.heap.size + 4) (fun _ => True) v8 l8 := by rw [e1]; exact R_farN x1 (by omega)
  have y2 : Kd.string.R 9 W2 (w.heap.size + 4) (fun _ => True) v9 l9 := by rw [e1]; exact R_farN y1 (by omega)
  clear p1 q1 h1 x1 y1 e1
  obtain ⟨W3, e2⟩ : ∃ X, X = W2.setCell ⟨w.heap.size + 1 + 1 + 1, 2, none⟩ (.int .i64 e) := ⟨_, rfl⟩
  rw [← e2]
  have p3 : W3.heap[w.heap.size + 1 + 1]? = some (.cells #[.int .i64 0, .bool false, .int .i64 0, .slice none 0 0, .slice none 0 0, .slice none 0 0, .int .i64 0, .string ⟨#[]⟩, .slice none 0 0, .slice none 0 0] 38 (0, 0)) := by rw [e2]; exact (Below.heap_setCell W2 ⟨w.heap.size + 1 + 1 + 1, 2, none⟩ _ _ (show w.heap.size + 1 + 1 ≠ w.heap.size + 1 + 1 + 1 by omega)).trans p2
  have q3 : W3.heap[w.heap.size + 1 + 1 + 1]? = some (.cells #[.string s, .int .i64 a, .int .i64 e] 31 (0, 0)) := by rw [e2]; exact (blk_set q2 2 _).trans rfl
  have h3 : Below w.heap.size w W3 := by rw [e2]; exact h2.setCell (p := ⟨w.heap.size + 1 + 1 + 1, 2, none⟩) (show w.heap.size ≤ w.heap.size + 1 + 1 + 1 by omega) _
  have x3 : (Kd.int .i64).R 3 W3 (w.heap.size + 4) (fun _ => True) v8 l8 := by rw [e2]; exact R_farN x2 (by omega)
  have y3 : Kd.string.R 9 W3 (w.heap.size + 4) (fun _ => True) v9 l9 := by rw [e2]; exact R_farN y2 (by omega)
  clear p2 q2 h2 x2 y2 e2
  obtain ⟨W4, e3⟩ : ∃ X, X = W3.setCell ⟨w.heap.size + 1 + 1, 0, none⟩ (.int .i64 f0) := ⟨_, rfl⟩
  rw [← e3]
  have p4 : W4.heap[w.heap.size + 1 + 1]? = some (.cells #[.int .i64 f0, .bool false, .int .i64 0, .slice none 0 0, .slice none 0 0, .slice none 0 0, .int .i64 0, .string ⟨#[]⟩, .slice none 0 0, .slice none 0 0] 38 (0, 0)) := by rw [e3]; exact (blk_set p3 0 _).trans rfl
  have q4 : W4.heap[w.heap.size + 1 + 1 + 1]? = some (.cells #[.string s, .int .i64 a, .int .i64 e] 31 (0, 0)) := by rw [e3]; exact (Below.heap_setCell W3 ⟨w.heap.size + 1 + 1, 0, none⟩ _ _ (show w.heap.size + 1 + 1 + 1 ≠ w.heap.size + 1 + 1 by omega)).trans q3
  have h4 : Below w.heap.size w W4 := by rw [e3]; exact h3.setCell (p := ⟨w.heap.size + 1 + 1, 0, none⟩) (show w.heap.size ≤ w.heap.size + 1 + 1 by omega) _
  have x4 : (Kd.int .i64).R 3 W4 (w.heap.size + 4) (fun _ => True) v8 l8 := by rw [e3]; exact R_farN x3 (by omega)
  have y4 : Kd.string.R 9 W4 (w.heap.size + 4) (fun _ => True) v9 l9 := by rw [e3]; exact R_farN y3 (by omega)
  clear p3 q3 h3 x3 y3 e3
  obtain ⟨W5, e4⟩ : ∃ X, X = W4.setCell ⟨w.heap.size + 1 + 1, 1, none⟩ (.bool f1) := ⟨_, rfl⟩
  rw [← e4]
  have p5 : W5.heap[w.heap.size + 1 + 1]? = some (.cells #[.int .i64 f0, .bool f1, .int .i64 0, .slice none 0 0, .slice none 0 0, .slice none 0 0, .int .i64 0, .string ⟨#[]⟩, .slice none 0 0, .slice none 0 0] 38 (0, 0)) := by rw [e4]; exact (blk_set p4 1 _).trans rfl
  have q5 : W5.heap[w.heap.size + 1 + 1 + 1]? = some (.cells #[.string s, .int .i64 a, .int .i64 e] 31 (0, 0)) := by rw [e4]; exact (Below.heap_setCell W4 ⟨w.heap.size + 1 + 1, 1, none⟩ _ _ (show w.heap.size + 1 + 1 + 1 ≠ w.heap.size + 1 + 1 by omega)).trans q4
  have h5 : Below w.heap.size w W5 := by rw [e4]; exact h4.setCell (p := ⟨w.heap.size + 1 + 1, 1, none⟩) (show w.heap.size ≤ w.heap.size + 1 + 1 by omega) _
  have x5 : (Kd.int .i64).R 3 W5 (w.heap.size + 4) (fun _ => True) v8 l8 := by rw [e4]; exact R_farN x4 (by omega)
  have y5 : Kd.string.R 9 W5 (w.heap.size + 4) (fun _ => True) v9 l9 := by rw [e4]; exact R_farN y4 (by omega)
  clear p4 q4 h4 x4 y4 e4
  obtain ⟨W6, e5⟩ : ∃ X, X = W5.setCell ⟨w.heap.size + 1 + 1, 2, none⟩ (.int .i64 f2) := ⟨_, rfl⟩
  rw [← e5]
  have p6 : W6.heap[w.heap.size + 1 + 1]? = some (.cells #[.int .i64 f0, .bool f1, .int .i64 f2, .slice none 0 0, .slice none 0 0, .slice none 0 0, .int .i64 0, .string ⟨#[]⟩, .slice none 0 0, .slice none 0 0] 38 (0, 0)) := by rw [e5]; exact (blk_set p5 2 _).trans rfl
  have q6 : W6.heap[w.heap.size + 1 + 1 + 1]? = some (.cells #[.string s, .int .i64 a, .int .i64 e] 31 (0, 0)) := by rw [e5]; exact (Below.heap_setCell W5 ⟨w.heap.size + 1 + 1, 2, none⟩ _ _ (show w.heap.size + 1 + 1 + 1 ≠ w.heap.size + 1 + 1 by omega)).trans q5
  have h6 : Below w.heap.size w W6 := by rw [e5]; exact h5.setCell (p := ⟨w.heap.size + 1 + 1, 2, none⟩) (show w.heap.size ≤ w.heap.size + 1 + 1 by omega) _
  have x6 : (Kd.int .i64).R 3 W6 (w.heap.size + 4) (fun _ => True) v8 l8 := by rw [e5]; exact R_farN x5 (by omega)
  have y6 : Kd.string.R 9 W6 (w.heap.size + 4) (fun _ => True) v9 l9 := by rw [e5]; exact R_farN y5 (by omega)
  clear p5 q5 h5 x5 y5 e5
  obtain ⟨W7, e6⟩ : ∃ X, X = W6.setCell ⟨w.heap.size + 1 + 1, 3, none⟩ v3 := ⟨_, rfl⟩
  rw [← e6]
  have p7 : W7.heap[w.heap.size + 1 + 1]? = some (.cells #[.int .i64 f0, .bool f1, .int .i64 f2, v3, .slice none 0 0, .slice none 0 0, .int .i64 0, .string ⟨#[]⟩, .slice none 0 0, .slice none 0 0] 38 (0, 0)) := by rw [e6]; exact (blk_set p6 3 _).trans rfl
  have q7 : W7.heap[w.heap.size + 1 + 1 + 1]? = some (.cells #[.string s, .int .i64 a, .int .i64 e] 31 (0, 0)) := by rw [e6]; exact (Below.heap_setCell W6 ⟨w.heap.size + 1 + 1, 3, none⟩ _ _ (show w.heap.size + 1 + 1 + 1 ≠ w.heap.size + 1 + 1 by omega)).trans q6
  have h7 : Below w.heap.size w W7 := by rw [e6]; exact h6.setCell (p := ⟨w.heap.size + 1 + 1, 3, none⟩) (show w.heap.size ≤ w.heap.size + 1 + 1 by omega) _
  have x7 : (Kd.int .i64).R 3 W7 (w.heap.size + 4) (fun _ => True) v8 l8 := by rw [e6]; exact R_farN x6 (by omega)
  have y7 : Kd.string.R 9 W7 (w.heap.size + 4) (fun _ => True) v9 l9 := by rw [e6]; exact R_farN y6 (by omega)
  clear p6 q6 h6 x6 y6 e6
  obtain ⟨W8, e7⟩ : ∃ X, X = W7.setCell ⟨w.heap.size + 1 + 1, 4, none⟩ v4 := ⟨_, rfl⟩
  rw [← e7]
  have p8 : W8.heap[w.heap.size + 1 + 1]? = some (.cells #[.int .i64 f0, .bool f1, .int .i64 f2, v3, v4, .slice none 0 0, .int .i64 0, .string ⟨#[]⟩, .slice none 0 0, .slice none 0 0] 38 (0, 0)) := by rw [e7]; exact (blk_set p7 4 _).trans rfl
  have q8 : W8.heap[w.heap.size + 1 + 1 + 1]? = some (.cells #[.string s, .int .i64 a, .int .i64 e] 31 (0, 0)) := by rw [e7]; exact (Below.heap_setCell W7 ⟨w.heap.size + 1 + 1, 4, none⟩ _ _ (show w.heap.size + 1 + 1 + 1 ≠ w.heap.size + 1 + 1 by omega)).trans q7
  have h8 : Below w.heap.size w W8 := by rw [e7]; exact h7.setCell (p := ⟨w.heap.size + 1 + 1, 4, none⟩) (show w.heap.size ≤ w.heap.size + 1 + 1 by omega) _
  have x8 : (Kd.int .i64).R 3 W8 (w.heap.size + 4) (fun _ => True) v8 l8 := by rw [e7]; exact R_farN x7 (by omega)
  have y8 : Kd.string.R 9 W8 (w.heap.size + 4) (fun _ => True) v9 l9 := by rw [e7]; exact R_farN y7 (by omega)
  clear p7 q7 h7 x7 y7 e7
  obtain ⟨W9, e8⟩ : ∃ X, X = W8.setCell ⟨w.heap.size + 1 + 1, 5, none⟩ v5 := ⟨_, rfl⟩
  rw [← e8]
  have p9 : W9.heap[w.heap.size + 1 + 1]? = some (.cells #[.int .i64 f0, .bool f1, .int .i64 f2, v3, v4, v5, .int .i64 0, .string ⟨#[]⟩, .slice none 0 0, .slice none 0 0] 38 (0, 0)) := by rw [e8]; exact (blk_set p8 5 _).trans rfl
  have q9 : W9.heap[w.heap.size + 1 + 1 + 1]? = some (.cells #[.string s, .int .i64 a, .int .i64 e] 31 (0, 0)) := by rw [e8]; exact (Below.heap_setCell W8 ⟨w.heap.size + 1 + 1, 5, none⟩ _ _ (show w.heap.size + 1 + 1 + 1 ≠ w.heap.size + 1 + 1 by omega)).trans q8
  have h9 : Below w.heap.size w W9 := by rw [e8]; exact h8.setCell (p := ⟨w.heap.size + 1 + 1, 5, none⟩) (show w.heap.size ≤ w.heap.size + 1 + 1 by omega) _
  have x9 : (Kd.int .i64).R 3 W9 (w.heap.size + 4) (fun _ => True) v8 l8 := by rw [e8]; exact R_farN x8 (by omega)
  have y9 : Kd.string.R 9 W9 (w.heap.size + 4) (fun _ => True) v9 l9 := by rw [e8]; exact R_farN y8 (by omega)
  clear p8 q8 h8 x8 y8 e8
  obtain ⟨W10, e9⟩ : ∃ X, X = W9.setCell ⟨w.heap.size + 1 + 1, 6, none⟩ (.int .i64 f6) := ⟨_, rfl⟩
  rw [← e9]
  have p10 : W10.heap[w.heap.size + 1 + 1]? = some (.cells #[.int .i64 f0, .bool f1, .int .i64 f2, v3, v4, v5, .int .i64 f6, .string ⟨#[]⟩, .slice none 0 0, .slice none 0 0] 38 (0, 0)) := by rw [e9]; exact (blk_set p9 6 _).trans rfl
  have q10 : W10.heap[w.heap.size + 1 + 1 + 1]? = some (.cells #[.string s, .int .i64 a, .int .i64 e] 31 (0, 0)) := by rw [e9]; exact (Below.heap_setCell W9 ⟨w.heap.size + 1 + 1, 6, none⟩ _ _ (show w.heap.size + 1 + 1 + 1 ≠ w.heap.size + 1 + 1 by omega)).trans q9
  have h10 : Below w.heap.size w W10 := by rw [e9]; exact h9.setCell (p := ⟨w.heap.size + 1 + 1, 6, none⟩) (show w.heap.size ≤ w.heap.size + 1 + 1 by omega) _
  have x10 : (Kd.int .i64).R 3 W10 (w.heap.size + 4) (fun _ => True) v8 l8 := by rw [e9]; exact R_farN x9 (by omega)
  have y10 : Kd.string.R 9 W10 (w.heap.size + 4) (fun _ => True) v9 l9 := by rw [e9]; exact R_farN y9 (by omega)
  clear p9 q9 h9 x9 y9 e9
  obtain ⟨W11, e10⟩ : ∃ X, X = W10.setCell ⟨w.heap.size + 1 + 1, 7, none⟩ (.string f7) := ⟨_, rfl⟩
  rw [← e10]
  have p11 : W11.heap[w.heap.size + 1 + 1]? = some (.cells #[.int .i64 f0, .bool f1, .int .i64 f2, v3, v4, v5, .int .i64 f6, .string f7, .slice none 0 0, .slice none 0 0] 38 (0, 0)) := by rw [e10]; exact (blk_set p10 7 _).trans rfl
  have q11 : W11.heap[w.heap.size + 1 + 1 + 1]? = some (.cells #[.string s, .int .i64 a, .int .i64 e] 31 (0, 0)) := by rw [e10]; exact (Below.heap_setCell W10 ⟨w.heap.size + 1 + 1, 7, none⟩ _ _ (show w.heap.size + 1 + 1 + 1 ≠ w.heap.size + 1 + 1 by omega)).trans q10
  have h11 : Below w.heap.size w W11 := by rw [e10]; exact h10.setCell (p := ⟨w.heap.size + 1 + 1, 7, none⟩) (show w.heap.size ≤ w.heap.size + 1 + 1 by omega) _
  have x11 : (Kd.int .i64).R 3 W11 (w.heap.size + 4) (fun _ => True) v8 l8 := by rw [e10]; exact R_farN x10 (by omega)
  have y11 : Kd.string.R 9 W11 (w.heap.size + 4) (fun _ => True) v9 l9 := by rw [e10]; exact R_farN y10 (by omega)
  clear p10 q10 h10 x10 y10 e10
  obtain ⟨W12, e11⟩ : ∃ X, X = W11.setCell ⟨w.heap.size + 1 + 1, 8, none⟩ v8 := ⟨_, rfl⟩
  rw [← e11]
  have p12 : W12.heap[w.heap.size + 1 + 1]? = some (.cells #[.int .i64 f0, .bool f1, .int .i64 f2, v3, v4, v5, .int .i64 f6, .string f7, v8, .slice none 0 0] 38 (0, 0)) := by rw [e11]; exact (blk_set p11 8 _).trans rfl
  have q12 : W12.heap[w.heap.size + 1 + 1 + 1]? = some (.cells #[.string s, .int .i64 a, .int .i64 e] 31 (0, 0)) := by rw [e11]; exact (Below.heap_setCell W11 ⟨w.heap.size + 1 + 1, 8, none⟩ _ _ (show w.heap.size + 1 + 1 + 1 ≠ w.heap.size + 1 + 1 by omega)).trans q11
  have h12 : Below w.heap.size w W12 := by rw [e11]; exact h11.setCell (p := ⟨w.heap.size + 1 + 1, 8, none⟩) (show w.heap.size ≤ w.heap.size + 1 + 1 by omega) _
  have x12 : (Kd.int .i64).R 3 W12 (w.heap.size + 4) (fun _ => True) v8 l8 := by rw [e11]; exact R_farN x11 (by omega)
  have y12 : Kd.string.R 9 W12 (w.heap.size + 4) (fun _ => True) v9 l9 := by rw [e11]; exact R_farN y11 (by omega)
  clear p11 q11 h11 x11 y11 e11
  obtain ⟨W13, e12⟩ : ∃ X, X = W12.setCell ⟨w.heap.size + 1 + 1, 9, none⟩ v9 := ⟨_, rfl⟩
  rw [← e12]
  have p13 : W13.heap[w.heap.size + 1 + 1]? = some (.cells #[.int .i64 f0, .bool f1, .int .i64 f2, v3, v4, v5, .int .i64 f6, .string f7, v8, v9] 38 (0, 0)) := by rw [e12]; exact (blk_set p12 9 _).trans rfl
  have q13 : W13.heap[w.heap.size + 1 + 1 + 1]? = some (.cells #[.string s, .int .i64 a, .int .i64 e] 31 (0, 0)) := by rw [e12]; exact (Below.heap_setCell W12 ⟨w.heap.size + 1 + 1, 9, none⟩ _ _ (show w.heap.size + 1 + 1 + 1 ≠ w.heap.size + 1 + 1 by omega)).trans q12
  have h13 : Below w.heap.size w W13 := by rw [e12]; exact h12.setCell (p := ⟨w.heap.size + 1 + 1, 9, none⟩) (show w.heap.size ≤ w.heap.size + 1 + 1 by omega) _
  have x13 : (Kd.int .i64).R 3 W13 (w.heap.size + 4) (fun _ => True) v8 l8 := by rw [e12]; exact R_farN x12 (by omega)
  have y13 : Kd.string.R 9 W13 (w.heap.size + 4) (fun _ => True) v9 l9 := by rw [e12]; exact R_farN y12 (by omega)
  clear p12 q12 h12 x12 y12 e12
  exact ⟨_, rfl, p13, q13, Kd.R_lower x13 (by omega), Kd.R_lower y13 (by omega), h13⟩
end Go.Proofs.YtiekodnojmkfaaaDoor.PFnExactLoad
