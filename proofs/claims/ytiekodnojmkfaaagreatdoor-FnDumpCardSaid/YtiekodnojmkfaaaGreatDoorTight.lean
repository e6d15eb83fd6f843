/- The cells of a box in one step; shorter names for what the walks say again and again. -/
import Derived.Test.YtiekodnojmkfaaaGreatDoorWRepsOne
import Derived.Test.YtiekodnojmkfaaaGreatDoorWWords
import Derived.Test.YtiekodnojmkfaaaGreatDoorWN
import Derived.Test.YtiekodnojmkfaaaGreatDoorWApart
namespace Go.Proofs.YtiekodnojmkfaaaGreatDoorW.zF
open Go.RowKit
theorem bk1 {w : World} {g : Nat} {t : TypeId} {v0 : Value} (h : w.heap[g]? = some (.cells #[v0] t (0, 0))) : w.cell? ⟨g, 0, none⟩ = some v0 ∧ w.frozen? ⟨g, 0, none⟩ = false := ⟨(zi h 0).trans rfl, zn h 0⟩
theorem bk2 {w : World} {g : Nat} {t : TypeId} {v0 v1 : Value} (h : w.heap[g]? = some (.cells #[v0, v1] t (0, 0))) : w.cell? ⟨g, 0, none⟩ = some v0 ∧ w.cell? ⟨g, 1, none⟩ = some v1 ∧ w.frozen? ⟨g, 0, none⟩ = false ∧ w.frozen? ⟨g, 1, none⟩ = false := ⟨(zi h 0).trans rfl, (zi h 1).trans rfl, zn h 0, zn h 1⟩
theorem bk3 {w : World} {g : Nat} {t : TypeId} {v0 v1 v2 : Value} (h : w.heap[g]? = some (.cells #[v0, v1, v2] t (0, 0))) : w.cell? ⟨g, 0, none⟩ = some v0 ∧ w.cell? ⟨g, 1, none⟩ = some v1 ∧ w.cell? ⟨g, 2, none⟩ = some v2 ∧ w.frozen? ⟨g, 0, none⟩ = false ∧ w.frozen? ⟨g, 1, none⟩ = false ∧ w.frozen? ⟨g, 2, none⟩ = false := ⟨(zi h 0).trans rfl, (zi h 1).trans rfl, (zi h 2).trans rfl, zn h 0, zn h 1, zn h 2⟩
theorem bk5 {w : World} {g : Nat} {t : TypeId} {v0 v1 v2 v3 v4 : Value} (h : w.heap[g]? = some (.cells #[v0, v1, v2, v3, v4] t (0, 0))) : w.cell? ⟨g, 0, none⟩ = some v0 ∧ w.cell? ⟨g, 1, none⟩ = some v1 ∧ w.cell? ⟨g, 2, none⟩ = some v2 ∧ w.cell? ⟨g, 3, none⟩ = some v3 ∧ w.cell? ⟨g, 4, none⟩ = some v4 ∧ w.frozen? ⟨g, 0, none⟩ = false ∧ w.frozen? ⟨g, 1, none⟩ = false ∧ w.frozen? ⟨g, 2, none⟩ = false ∧ w.frozen? ⟨g, 3, none⟩ = false ∧ w.frozen? ⟨g, 4, none⟩ = false := ⟨(zi h 0).trans rfl, (zi h 1).trans rfl, (zi h 2).trans rfl, (zi h 3).trans rfl, (zi h 4).trans rfl, zn h 0, zn h 1, zn h 2, zn h 3, zn h 4⟩
theorem jV {w : World} {g : Nat} {t : TypeId} {v0 v1 v2 v3 v4 v5 v6 v7 v8 v9 : Value} (h : w.heap[g]? = some (.cells #[v0, v1, v2, v3, v4, v5, v6, v7, v8, v9] t (0, 0))) : w.cell? ⟨g, 0, none⟩ = some v0 ∧ w.cell? ⟨g, 1, none⟩ = some v1 ∧ w.cell? ⟨g, 2, none⟩ = some v2 ∧ w.cell? ⟨g, 3, none⟩ = some v3 ∧ w.cell? ⟨g, 4, none⟩ = some v4 ∧ w.cell? ⟨g, 5, none⟩ = some v5 ∧ w.cell? ⟨g, 6, none⟩ = some v6 ∧ w.cell? ⟨g, 7, none⟩ = some v7 ∧ w.cell? ⟨g, 8, none⟩ = some v8 ∧ w.cell? ⟨g, 9, none⟩ = some v9 ∧ w.frozen? ⟨g, 0, none⟩ = false ∧ w.frozen? ⟨g, 1, none⟩ = false ∧ w.frozen? ⟨g, 2, none⟩ = false ∧ w.frozen? ⟨g, 3, none⟩ = false ∧ w.frozen? ⟨g, 4, none⟩ = false ∧ w.frozen? ⟨g, 5, none⟩ = false ∧ w.frozen? ⟨g, 6, none⟩ = false ∧ w.frozen? ⟨g, 7, none⟩ = false ∧ w.frozen? ⟨g, 8, none⟩ = false ∧ w.frozen? ⟨g, 9, none⟩ = false := ⟨(zi h 0).trans rfl, (zi h 1).trans rfl, (zi h 2).trans rfl, (zi h 3).trans rfl, (zi h 4).trans rfl, (zi h 5).trans rfl, (zi h 6).trans rfl, (zi h 7).trans rfl, (zi h 8).trans rfl, (zi h 9).trans rfl, zn h 0, zn h 1, zn h 2, zn h 3, zn h 4, zn h 5, zn h 6, zn h 7, zn h 8, zn h 9⟩
theorem Ak {p : Prop} (h : p) : zh p := ⟨h⟩
/-! ### steps that the walks take again and again: what a default asks is proved where the step is taken -/
section
variable {n e base : Nat} {w w1 w2 w3 : World}
theorem bl (h : zh (Below w.heap.size w w1)) (k : Below w.heap.size w w1 → Below w.heap.size w w2 := by intro hq_; repeat (first | (with_reducible first | exact hq_ | apply zS | apply zJ | apply zO | refine yT ?_ (zh.out (by assumption))) | exact hq_)) : Below w.heap.size w w2 := k h.out
theorem BS (h : zh (Below w.heap.size w w1)) (hb : Below w2.heap.size w2 w3) (k : Below w.heap.size w w1 → Below w.heap.size w w2 := by intro hq_; repeat (first | (with_reducible first | exact hq_ | apply zS | apply zJ | apply zO | refine yT ?_ (zh.out (by assumption))) | exact hq_)) : zh (Below w.heap.size w w3) := ⟨zI (k h.out) hb⟩
theorem gs {g : Nat} (h : zh (Below w.heap.size w w1)) (hg : g = w2.heap.size) (k : Below w.heap.size w w1 → Below w.heap.size w w2 := by intro hq_; repeat (first | (with_reducible first | exact hq_ | apply zS | apply zJ | apply zO | refine yT ?_ (zh.out (by assumption))) | exact hq_)) : zh (w.heap.size ≤ g) := ⟨by rw [hg]; exact zH (k h.out)⟩
theorem bo {g : Nat} {o : Obj} (h : zh (w1.heap[g]? = some o)) (k : w1.heap[g]? = some o → w2.heap[g]? = some o := by intro hq_; (with_reducible repeat (first | refine qJ ?_ _ | refine xI ?_ | refine zT ?_ _)); exact hq_) : w2.heap[g]? = some o := k h.out
theorem BB {g : Nat} {o : Obj} (h : zh (w1.heap[g]? = some o)) (hb : Below w2.heap.size w2 w3) (k : w1.heap[g]? = some o → w2.heap[g]? = some o := by intro hq_; (with_reducible repeat (first | refine qJ ?_ _ | refine xI ?_ | refine zT ?_ _)); exact hq_) : zh (w3.heap[g]? = some o) := ⟨yc (k h.out) hb⟩
section
variable {α : Type} {d : Kd α} {v : Value} {xs : List α} {ok : Nat → Prop}
theorem ro (h : zh (d.R e w1 base ok v xs)) (k : d.R e w1 base ok v xs → d.R e w2 base ok v xs := by intro hq_; (with_reducible repeat (first | apply Kd.Vq | apply Kd.R_drewN | apply Kd.ZP)); exact hq_) : d.R e w2 base ok v xs := k h.out
theorem RB (h : zh (d.R e w1 base ok v xs)) (hb : Below w2.heap.size w2 w3) (k : d.R e w1 base ok v xs → d.R e w2 base ok v xs := by intro hq_; (with_reducible repeat (first | apply Kd.Vq | apply Kd.R_drewN | apply Kd.ZP)); exact hq_) : zh (d.R e w3 base ok v xs) := ⟨Kd.vJ (k h.out) hb⟩
theorem no (h : zh (d.N e w1 base ok v xs)) (k : d.N e w1 base ok v xs → d.N e w2 base ok v xs := by intro hq_; (with_reducible repeat (first | apply Kd.N_alloc | apply Kd.N_drewN | apply Kd.N_drew)); exact hq_) : d.N e w2 base ok v xs := k h.out
theorem co {A : Option Addr} {m : Nat} (h : zh (d.C w A m xs)) (hb : zh (Below w.heap.size w w1)) (k : d.C w1 A m xs → d.C w2 A m xs := by intro hq_; repeat (first | exact hq_ | (with_reducible refine Kd.qC ?_ _) | (with_reducible refine Kd.qE ?_ _) | (with_reducible refine Kd.ji ?_))) : d.C w2 A m xs := k (Kd.zY h.out hb.out)
end
theorem cu {a : Addr} {v : Value} (hb : zh (Below w.heap.size w w1)) (hc : w.cell? a = some v) : w1.cell? a = some v := (hb.out.cell (World.block_lt_of_cell? w _ hc)).trans hc
theorem ef {p : Prop} (h : p := by first | rfl | (simp [errW_none, errW_some] <;> rfl) | (simp [*, errW_none, errW_some] <;> rfl)) : p := h
theorem es {p : Prop} (h : p := by first | rfl | (simp; done) | (simp [*]; done)) : p := h
theorem et {p : Prop} (h : p := by first | rfl | (simp; done)) : p := h
theorem eo {p : Prop} (h : p := by first | omega | exact Nat.le_refl _) : p := h
theorem em {p : Prop} (h : p := by (try simp only [List.map_toArray, List.map_cons, List.map_nil]); first | done | rfl | (simp only [List.length_drop, List.length_take]; rfl)) : p := h
theorem bc10 {g : Nat} {t : TypeId} {v0 v1 v2 v3 v4 v5 v6 v7 v8 v9 : Value} (h : w.heap[g]? = some (.cells #[v0, v1, v2, v3, v4, v5, v6, v7, v8, v9] t (0, 0))) : w.cell? ⟨g, 0, none⟩ = some v0 ∧ w.cell? ⟨g, 1, none⟩ = some v1 ∧ w.cell? ⟨g, 2, none⟩ = some v2 ∧ w.cell? ⟨g, 3, none⟩ = some v3 ∧ w.cell? ⟨g, 4, none⟩ = some v4 ∧ w.cell? ⟨g, 5, none⟩ = some v5 ∧ w.cell? ⟨g, 6, none⟩ = some v6 ∧ w.cell? ⟨g, 7, none⟩ = some v7 ∧ w.cell? ⟨g, 8, none⟩ = some v8 ∧ w.cell? ⟨g, 9, none⟩ = some v9 := ⟨(zi h 0).trans rfl, (zi h 1).trans rfl, (zi h 2).trans rfl, (zi h 3).trans rfl, (zi h 4).trans rfl, (zi h 5).trans rfl, (zi h 6).trans rfl, (zi h 7).trans rfl, (zi h 8).trans rfl, (zi h 9).trans rfl⟩
end
theorem ng {α : Type} {c : Prop} [Decidable c] {a b r : α} (h : b = r) (hc : ¬ c := by first | omega | (rintro ⟨q1, q2⟩; first | omega | (cases q2; done) | (obtain ⟨q2, q3⟩ := q2; first | omega | (cases q2; done)))) : (if c then a else b) = r := (if_neg hc).trans h
theorem ps {α : Type} {c : Prop} [Decidable c] {a b r : α} (h : a = r) (hc : c := by first | omega | exact ⟨by omega, rfl⟩ | exact ⟨by omega, rfl, by omega⟩) : (if c then a else b) = r := (if_pos hc).trans h
section
variable {P : Program} {ops : Array Oper} {rest : List Oper} {o : Oper} {a : Act} {Q : Exit → Act → World → Prop}
theorem LU {W : World} (e : Nat) {N : Tmp} {xs : List Int} {inner : List Value} (h : ∀ v1 w1, (Kd.int .u32).R e w1 W.heap.size (fun _ => True) v1 xs → Below W.heap.size W w1 → W.grownBy w1 none → (∃ b, v1.ownBlock = some b ∧ W.heap.size ≤ b) → wpList P ops Q rest (a.put o.dst v1) w1)
    (hgd : o.guard = none := by rfl) (hd : o.dst = some N := by rfl) (hrun : (execOp a.eval o).run P W = .ok (.value (.slice (some ⟨W.heap.size, 0, none⟩) xs.length xs.length)) (W.alloc (.cells inner.toArray e)) := by first | (go_simp; done) | (go_simp; rfl))
    (hrep : qx ((Kd.int .u32).M W W.heap.size (fun _ => True)) (Kd.int .u32).sz xs inner := by repeat (first | exact qx.none _ _ | refine qx.one (show Kd.M (Kd.int .u32) _ _ _ _ [_] from rfl) ?_)) (hm : xs.length ≤ 9223372036854775807 := by simp) : wpList P ops Q (o :: rest) a W :=
  Kd.XU (Kd.int .u32) _ e hgd hd hrun hrep (fun _ hk => hk) trivial (Below.refl _ _) (Nat.le_refl _) hm h
end
/-! ### shorter names, and what a default proves where it is used -/
section
variable {p : Prop} [Decidable p]
theorem df (h : ¬ p) : decide p = false := decide_eq_false h
theorem dt (h : p) : decide p = true := decide_eq_true h
theorem od (h : decide p = true := by assumption) : p := of_decide_eq_true h
end
theorem dF (p : Prop) [Decidable p] (h : ¬ p := by omega) : decide p = false := decide_eq_false h
theorem dT (p : Prop) [Decidable p] (h : p := by omega) : decide p = true := decide_eq_true h
section
variable {a b : Int}
theorem fg (h : ¬ a > b) : decide (b < a) = false := decide_eq_false h
theorem tg (h : a > b) : decide (b < a) = true := decide_eq_true h
theorem fG (h : ¬ a ≥ b) : decide (b ≤ a) = false := decide_eq_false h
theorem tG (h : a ≥ b) : decide (b ≤ a) = true := decide_eq_true h
end
section
variable {α : Type} [BEq α] [LawfulBEq α] {a b : α}
theorem bF (h : ¬ a = b) : (a == b) = false := beq_eq_false_iff_ne.mpr h
theorem bT (h : a = b) : (a == b) = true := beq_iff_eq.mpr h
theorem nT (h : ¬ a = b) : (a != b) = true := bne_iff_ne.mpr h
theorem nF (h : a = b) : (a != b) = false := bne_eq_false_iff_eq.mpr h
end
theorem eF (a b : Int) (h : ¬ a = b := by omega) : (a == b) = false := bF h
theorem eT (a b : Int) (h : a = b := by omega) : (a == b) = true := bT h
theorem dz {w w' : World} (h : xX w w' := by repeat (first | exact xX.refl _ | apply xX.step)) : xX w w' := h
section
variable {n : Nat} {w w1 w2 : World}
theorem lo {α : Type} {d : Kd α} {e : Nat} {v : Value} {xs ys : List α} {ok : Nat → Prop} {W : World} (HB : zh (Below w.heap.size w w1)) (Y : zh (ys = xs)) (ho : d.R e w2 W.heap.size ok v xs) (k : Below w.heap.size w w1 → Below w.heap.size w W := by intro hq_; repeat (first | (with_reducible first | exact hq_ | apply zS | apply zJ | apply zO | refine yT ?_ (zh.out (by assumption))) | exact hq_)) : zh (d.R e w2 w.heap.size ok v ys) := ⟨by rw [Y.out]; exact Kd.yH ho (zH (k HB.out))⟩
theorem bq {g : Nat} {o o' : Obj} (h : zh (w1.heap[g]? = some o)) (k : w1.heap[g]? = some o → w2.heap[g]? = some o' := by intro hq_; (with_reducible repeat (first | refine qJ ?_ _ | refine xI ?_ | refine zT ?_ _ | apply xK)); exact hq_; (repeat any_goals (first | (simp only [List.setIfInBounds_toArray, List.set_cons_zero, List.set_cons_succ]; done) | (simp only [List.setIfInBounds_toArray, List.set_cons_zero, List.set_cons_succ]; rfl)))) : w2.heap[g]? = some o' := k h.out
section
variable {α : Type} {d : Kd α} {e base : Nat} {v : Value} {xs : List α} {ok ok' : Nat → Prop}
theorem rm (h : d.R e w1 base ok v xs) (hm : ∀ k, ok k → ok' k) (k : d.R e w1 base ok' v xs → d.R e w2 base ok' v xs := by intro hq_; (with_reducible repeat (first | apply Kd.Vq | apply Kd.R_drewN | apply Kd.ZP)); exact hq_) : d.R e w2 base ok' v xs := k (Kd.qm h hm)
theorem nm (h : d.N e w1 base ok v xs) (hm : ∀ k, ok k → ok' k) (k : d.N e w1 base ok' v xs → d.N e w2 base ok' v xs := by intro hq_; (with_reducible repeat (first | apply Kd.N_alloc | apply Kd.N_drewN | apply Kd.N_drew)); exact hq_) : d.N e w2 base ok' v xs := k (Kd.Zl h hm)
end
theorem cB {P : Program} {f : FuncId} {args : Array Value} {W : World} {r : Ending} (HB : zh (Below w.heap.size w w1)) (hc : Calls P f args W fun e w' => e = r ∧ Below W.heap.size W w') (k : Below w.heap.size w w1 → Below w.heap.size w W := by intro hq_; repeat (first | (with_reducible first | exact hq_ | apply zS | apply zJ | apply zO | refine yT ?_ (zh.out (by assumption))) | exact hq_)) : Calls P f args W fun e w' => e = r ∧ zh (Below w.heap.size w w') := Calls.mono hc fun e w' h => ⟨h.1, ⟨zI (k HB.out) h.2⟩⟩
end
section
variable {P : Program} {ops : Array Oper} {rest : List Oper} {o : Oper} {a : Act} {Q : Exit → Act → World → Prop} {w w1 W : World} {xs ys : List Int}
theorem repsU {R : Int → List Value → Prop} {f : Int → Value} (h : ∀ x, R x [f x]) : ∀ l : List Int, qx R 1 l (l.map f)
  | [] => qx.none _ _
  | x :: l => qx.one (h x) (repsU h l)
theorem LV (e : Nat) (HB : zh (Below w.heap.size w w1)) (Y : zh (ys = xs)) (h : ∀ v1 w2, zh ((Kd.int .u32).R e w2 w.heap.size (fun _ => True) v1 ys) → zh (Below w.heap.size w w2) → wpList P ops Q rest (a.put o.dst v1) w2) {N : Tmp} (hgd : o.guard = none := by rfl) (hd : o.dst = some N := by rfl)
    (hrun : (execOp a.eval o).run P W = .ok (.value (.slice (some ⟨W.heap.size, 0, none⟩) xs.length xs.length)) (W.alloc (.cells (xs.map (Value.int .u32)).toArray e)) := by simp only [List.map_cons, List.map_nil]; first | (go_simp; done) | (go_simp; rfl)) (hm : xs.length ≤ 9223372036854775807 := by simp)
    (k : Below w.heap.size w w1 → Below w.heap.size w W := by intro hq_; repeat (first | (with_reducible first | exact hq_ | apply zS | apply zJ | apply zO | refine yT ?_ (zh.out (by assumption))) | exact hq_)) : wpList P ops Q (o :: rest) a W :=
  LU (N := N) (inner := xs.map (Value.int .u32)) e (fun v1 w2 ho hb _ _ => h v1 w2 ⟨by rw [Y.out]; exact Kd.yH ho (zH (k HB.out))⟩ ⟨zI (k HB.out) hb⟩) hgd hd hrun (repsU (R := (Kd.int .u32).M W W.heap.size (fun _ => True)) (f := Value.int .u32) (fun _ => rfl) xs) hm
end
end Go.Proofs.YtiekodnojmkfaaaGreatDoorW.zF
