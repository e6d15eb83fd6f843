import Derived.Test.YtiekodnojmkfaaaWWords
import Derived.Deep.Slices
import Derived.Deep.Fields
import Derived.ChangeArms
namespace Go.Proofs.YtiekodnojmkfaaaOpen
open Go.ChangeShapes Go.WideShapes Go.Deep
open Go.Proofs.YtiekodnojmkfaaaW Go.Proofs.YtiekodnojmkfaaaW.PrintWords
def Opn {α : Type} (P : Program) (t : TypeId) (d : Kd α) (ok : α → Prop) : Prop :=
  ∀ (H : Type) (enc : TypeId × Value → H) (w : World) (spare : Nat → Bool) (held : Bool) (fuel : Nat) (cs : List Value) (x : DataW H × List MemPlace),
    DataW.trod enc P w 0 spare held fuel t cs = some x → ∃ a, ok a ∧ d.K w a cs
theorem opn_int {P : Program} {t : TypeId} {k : IntKind} (ht : P.underlying t = some (.int k)) : Opn P t (Kd.int k) (fun n => (Lit.int k n).wf = true) := by
  intro H enc w spare held fuel cs x h
  obtain ⟨n, rfl, _, hw⟩ := DataW.trod_int ht h
  exact ⟨n, hw, rfl⟩
theorem opn_bool {P : Program} {t : TypeId} (ht : P.underlying t = some .bool) : Opn P t Kd.bool (fun _ => True) := by
  intro H enc w spare held fuel cs x h
  obtain ⟨n, rfl, _⟩ := DataW.trod_bool ht h
  exact ⟨n, trivial, rfl⟩
theorem opn_string {P : Program} {t : TypeId} (ht : P.underlying t = some .string) : Opn P t Kd.string (fun s => s.size ≤ maxLen) := by
  intro H enc w spare held fuel cs x h
  obtain ⟨n, rfl, _, hl⟩ := DataW.trod_string ht h
  exact ⟨n, hl, rfl⟩
theorem list_of {α : Type} {n : Nat} {p : Nat → α → Prop} (h : ∀ i, i < n → ∃ y, p i y) : ∃ xs : List α, xs.length = n ∧ ∀ (i : Nat) (y : α), xs[i]? = some y → p i y := by
  induction n with
  | zero => exact ⟨[], rfl, fun i y h => by simp at h⟩
  | succ n ih =>
    obtain ⟨xs, hl, hx⟩ := ih (fun i hi => h i (by omega))
    obtain ⟨y, hy⟩ := h n (by omega)
    refine ⟨xs ++ [y], by simp [hl], fun i z hz => ?_⟩
    rcases Nat.lt_trichotomy i xs.length with hi | hi | hi
    · rw [List.getElem?_append_left hi] at hz
      exact hx i z hz
    · subst hi
      rw [List.getElem?_append_right (Nat.le_refl _)] at hz
      simp at hz
      subst hz
      rw [hl]
      exact hy
    · rw [List.getElem?_eq_none (by simp; omega)] at hz
      cases hz
theorem maxLen_le : maxLen ≤ 9223372036854775807 := by decide
theorem opn_slice {α : Type} {P : Program} {t e : TypeId} {d : Kd α} {ok : α → Prop} (ht : P.underlying t = some (.slice e)) (hsz : P.cellsOf e = d.sz) (h : Opn P e d ok) :
    Opn P t (Kd.slice e d) (fun xs => xs.length ≤ maxLen ∧ ∀ x ∈ xs, ok x) := by
  intro H enc w spare held fuel cs x hx
  rcases open_slice ht hx with ⟨rfl, _⟩ | ⟨a, len, cap, m, n, D, Pl, rfl, _, hl, hm, hmm, _, hel⟩
  · exact ⟨[], ⟨Nat.zero_le _, by simp⟩, none, 0, rfl, Nat.le_refl _, rfl, Nat.zero_le _, fun h => absurd h (Nat.lt_irrefl 0)⟩
  · have hlm : len ≤ m := by
      rw [hmm]
      split
      · exact hl
      · exact Nat.le_refl _
    obtain ⟨xs, hxl, hxs⟩ := list_of (n := len) (p := fun i (y : α) => ok y ∧ ∃ c : List Value, c.length = d.sz ∧ d.K w y c ∧ ∀ j u, c[j]? = some u → w.cell? (a.add (i * d.sz + j)) = some u) (fun i hi => by
      obtain ⟨cs', h1, h2⟩ := hel i (by omega)
      obtain ⟨y, hy, hk⟩ := h _ _ _ _ _ _ _ _ h2
      obtain ⟨_, hlen, hat⟩ := World.cells?_some h1
      refine ⟨y, hy, cs', d.K_len hk, hk, fun j u hu => ?_⟩
      have hj : j < P.cellsOf e := by rw [← hlen]; exact (List.getElem?_eq_some_iff.1 hu).1
      have hcell := hat j hj
      rw [hu, Go.Deep.add_add, hsz] at hcell
      exact hcell)
    subst hxl
    refine ⟨xs, ⟨by omega, fun y hy => ?_⟩, some a, cap, rfl, hl, rfl, by have := maxLen_le; omega, fun _ => ⟨a, rfl, fun j p hp => (hxs j p hp).2⟩⟩
    obtain ⟨i, hi⟩ := List.getElem?_of_mem hy
    exact (hxs i y hi).1
def OpnL {α : Type} (P : Program) (ts : List TypeId) (d : Kd α) (ok : α → Prop) : Prop :=
  ∀ (H : Type) (enc : TypeId × Value → H) (w : World) (spare : Nat → Bool) (held : Bool) (fuel : Nat) (cs : List Value),
    cs.length = ts.length → (∀ (i : Nat) (t : TypeId), ts[i]? = some t → ∃ c y, cs[i]? = some c ∧ DataW.trod enc P w 0 spare held fuel t [c] = some y) → ∃ a, ok a ∧ d.K w a cs
theorem opnL_one {α : Type} {P : Program} {t : TypeId} {d : Kd α} {ok : α → Prop} (h : Opn P t d ok) : OpnL P [t] d ok := by
  intro H enc w spare held fuel cs hl hf
  match cs, hl with
  | [c0], _ =>
    obtain ⟨c, y, hc, hy⟩ := hf 0 t rfl
    simp at hc
    subst hc
    exact h _ _ _ _ _ _ _ _ hy
theorem opnL_pair {α β : Type} {P : Program} {t : TypeId} {ts : List TypeId} {a : Kd α} {b : Kd β} {oka : α → Prop} {okb : β → Prop} (ha : Opn P t a oka) (hb : OpnL P ts b okb) : OpnL P (t :: ts) (Kd.pair a b) (fun x => oka x.1 ∧ okb x.2) := by
  intro H enc w spare held fuel cs hl hf
  match cs, hl with
  | c0 :: rest, hl =>
    obtain ⟨c, y, hc, hy⟩ := hf 0 t rfl
    simp at hc
    subst hc
    obtain ⟨x0, ho0, hk0⟩ := ha _ _ _ _ _ _ _ _ hy
    obtain ⟨x1, ho1, hk1⟩ := hb H enc w spare held fuel rest (by simpa using hl) (fun i t' ht' => by
      obtain ⟨c', y', hc', hy'⟩ := hf (i + 1) t' (by simpa using ht')
      exact ⟨c', y', by simpa using hc', hy'⟩)
    exact ⟨(x0, x1), ⟨ho0, ho1⟩, [c0], rest, rfl, hk0, hk1⟩
theorem opnL_iso {α β : Type} {P : Program} {ts : List TypeId} {d : Kd α} {ok : α → Prop} (f : β → α) (g : α → β) (hg : ∀ a, f (g a) = a) (h : OpnL P ts d ok) : OpnL P ts (d.iso f) (fun b => ok (f b)) := by
  intro H enc w spare held fuel cs hl hf
  obtain ⟨a, ho, hk⟩ := h H enc w spare held fuel cs hl hf
  refine ⟨g a, by show ok (f (g a)); rw [hg]; exact ho, ?_⟩
  show d.K w (f (g a)) cs
  rw [hg]
  exact hk
theorem opn_struct {α : Type} {P : Program} {t : TypeId} {fs : Array Field} {ts : List TypeId} {d : Kd α} {ok : α → Prop} (ht : P.underlying t = some (.struct fs)) (hone : oneCellFields P fs = true) (hC : P.cellsOf t = fs.size) (hts : fs.toList.map (·.type) = ts) (h : OpnL P ts d ok) : Opn P t d ok := by
  intro H enc w spare held fuel cs x hx
  obtain ⟨xs, n, _, _, hl, hxl, hf⟩ := DataW.trod_struct ht hx
  refine h H enc w spare held n cs (by rw [hl, hC, ← hts]; simp) (fun i t' ht' => ?_)
  rw [← hts] at ht'
  simp at ht'
  obtain ⟨f, hfi, rfl⟩ := ht'
  obtain ⟨ho, hc1⟩ := hone_of hone i f hfi
  have hi : i < fs.size := (Array.getElem?_eq_some_iff.1 hfi).1
  have g := hf i f hfi
  rw [ho, hc1, List.getElem?_eq_getElem (by omega), List.drop_eq_getElem_cons (by omega)] at g
  exact ⟨cs[i]'(by omega), _, List.getElem?_eq_getElem (by omega), g⟩
end Go.Proofs.YtiekodnojmkfaaaOpen
