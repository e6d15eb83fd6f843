import Derived.Shelf.Abstract
import Derived.Shelf.RegionOpen
import Derived.WalkKit
import Derived.OwnWalkIn
import Derived.TacticsInMore
import Derived.LoopNIn
import Derived.LoopIn
import Derived.Laws.EntriesVeiled
import Derived.LoopN
import Derived.WalkLawsBesides
import Derived.Test.YtiekodnojmkfaaaDoorPFnExactLoadx1
import Derived.Test.YtiekodnojmkfaaaDoorPFnExactLoadx2
import Derived.Test.YtiekodnojmkfaaaDoorPFnExactLoadx3
import Derived.Test.YtiekodnojmkfaaaDoorPFnExactLoadx4
import Derived.Test.YtiekodnojmkfaaaDoorPFnExactLoadx5
namespace Go.Proofs.YtiekodnojmkfaaaDoor.PFnExactLoad
open Go.RowKit Go.Proofs.YtiekodnojmkfaaaDoorW.PrintWords Go.Proofs.YtiekodnojmkfaaaDoorW.PrintLast Go.Proofs.YtiekodnojmkfaaaDoorW.PrintMore
attribute [local go_sem] max2_int min2_int max_two min_two max_three min_three max_four min_four
set_option linter.unusedVariables false
set_option linter.unusedSimpArgs false
theorem info38 : (Tryd.prog.info? 38).map (fun i => (i.zero, i.size, i.bytes)) = some (some (.agg #[(.int .i64 0), (.bool false), (.int .i64 0), (.slice none 0 0), (.slice none 0 0), (.slice none 0 0), (.int .i64 0), (.string ⟨#[]⟩), (.slice none 0 0), (.slice none 0 0)]), 10, 168) := by kernel_rfl
theorem info61 : (Tryd.prog.info? 61).map (fun i => (i.zero, i.size, i.bytes)) = some (some (.int .u32 0), 1, 4) := by kernel_rfl
theorem info63 : (Tryd.prog.info? 63).map (fun i => (i.zero, i.size, i.bytes)) = some (some (.agg #[(.int .i64 0), (.int .i64 0), (.string ⟨#[]⟩)]), 3, 32) := by kernel_rfl
theorem info67 : (Tryd.prog.info? 67).map (fun i => (i.zero, i.size, i.bytes)) = some (some (.agg #[(.bool false), (.int .i64 0)]), 2, 16) := by kernel_rfl
def erv (e : Int) : Value := if e = 0 then .nilIface else .iface 51 (.agg #[.int .i64 e])
theorem erv0 : erv 0 = .nilIface := rfl
theorem ervn {e : Int} (h : e ≠ 0) : erv e = .iface 51 (.agg #[.int .i64 e]) := if_neg h
def RD (b : Nat) (s : ByteArray) (a e : Int) (w : World) : Prop := w.heap[b]? = some (.cells #[.string s, .int .i64 a, erv e] 47 (0, 0))
structure Fk (B b : Nat) (w w' : World) : Prop where
  bel : Below B w w'
  oth : ∀ k, k ≠ b → k < w.heap.size → w'.heap[k]? = w.heap[k]?
theorem Fk.refl (B b : Nat) (w : World) : Fk B b w w := ⟨Below.refl _ _, fun _ _ _ => rfl⟩
theorem Fk.size {B b : Nat} {w w' : World} (h : Fk B b w w') : w.heap.size ≤ w'.heap.size := h.bel.size
theorem Fk.trans {B b : Nat} {w w1 w2 : World} (h : Fk B b w w1) (k : Fk B b w1 w2) : Fk B b w w2 := ⟨h.bel.trans k.bel, fun j hj hl => (k.oth j hj (by have := h.size; omega)).trans (h.oth j hj hl)⟩
theorem Fk.drew {B b : Nat} {w w1 : World} (h : Fk B b w w1) : Fk B b w w1.drew := ⟨below_drew1 h.bel, h.oth⟩
theorem Fk.drewN {B b : Nat} {w w1 : World} (h : Fk B b w w1) (n : Nat) : Fk B b w (w1.drewN n) := ⟨pw_below_drewN h.bel n, h.oth⟩
theorem Fk.below {B b : Nat} {w w' : World} (hB : B ≤ w.heap.size) (h : Below w.heap.size w w') : Fk B b w w' := ⟨h.mono hB, fun k _ hl => h.block k hl⟩
theorem Fk.set {B b : Nat} {w w1 : World} (h : Fk B b w w1) (hb : B ≤ b) (j : Nat) (v : Value) : Fk B b w (w1.setCell ⟨b, j, none⟩ v) := ⟨h.bel.setCell (p := ⟨b, j, none⟩) hb _, fun k hk hl => (Below.heap_setCell w1 ⟨b, j, none⟩ v k hk).trans (h.oth k hk hl)⟩
theorem RD.drew {b : Nat} {s : ByteArray} {a e : Int} {w : World} (h : RD b s a e w) : RD b s a e w.drew := h
theorem RD.drewN {b : Nat} {s : ByteArray} {a e : Int} {w : World} (h : RD b s a e w) (n : Nat) : RD b s a e (w.drewN n) := h
theorem RD.lt {b : Nat} {s : ByteArray} {a e : Int} {w : World} (h : RD b s a e w) : b < w.heap.size := blk_lt h
theorem RD.below {b : Nat} {s : ByteArray} {a e : Int} {w w' : World} (h : RD b s a e w) (hb : Below w.heap.size w w') : RD b s a e w' := (hb.block b h.lt).trans h
theorem RD.c0 {b : Nat} {s : ByteArray} {a e : Int} {w : World} (h : RD b s a e w) : w.cell? ⟨b, 0, none⟩ = some (.string s) := (blk_cell h 0).trans rfl
theorem RD.c1 {b : Nat} {s : ByteArray} {a e : Int} {w : World} (h : RD b s a e w) : w.cell? ⟨b, 1, none⟩ = some (.int .i64 a) := (blk_cell h 1).trans rfl
theorem RD.c2 {b : Nat} {s : ByteArray} {a e : Int} {w : World} (h : RD b s a e w) : w.cell? ⟨b, 2, none⟩ = some (erv e) := (blk_cell h 2).trans rfl
theorem RD.f {b : Nat} {s : ByteArray} {a e : Int} {w : World} (h : RD b s a e w) (j : Nat) : w.frozen? ⟨b, j, none⟩ = false := blk_frozen h j
theorem RD.set1 {b : Nat} {s : ByteArray} {a e : Int} {w : World} (h : RD b s a e w) (a' : Int) : RD b s a' e (w.setCell ⟨b, 1, none⟩ (.int .i64 a')) := (blk_set h 1 (.int .i64 a')).trans rfl
theorem RD.set2 {b : Nat} {s : ByteArray} {a e : Int} {w : World} (h : RD b s a e w) (e' : Int) (he : e' ≠ 0) : RD b s a e' (w.setCell ⟨b, 2, none⟩ (.iface 51 (.agg #[.int .i64 e']))) := (blk_set h 2 _).trans (by rw [ervn he]; rfl)
set_option maxHeartbeats 4000000 in
theorem fail (B b : Nat) (s : ByteArray) (a e c : Int) (w : World) (h : RD b s a e w) (hB : B ≤ b) (hc : c ≠ 0) :
    Calls Tryd.prog 13 #[.pointer (some ⟨b, 0, none⟩), .int .i64 c] w fun r w' => r = .returned (.tuple #[]) ∧ RD b s a (if e = 0 then c else e) w' ∧ Fk B b w w' := by
  have H := Aside0.mk h
  have HC := Aside0.mk hc
  have h2 := h.c2
  have hf := h.f 2
  clear h hc
  by_cases he : e = 0
  · subst he
    rw [erv0] at h2
    go_enter Tryd.func13, Tryd.ntmps13
    go_wp2
    go_end0
    exact ⟨rfl, H.out.set2 c HC.out, (Fk.refl B b w).set hB _ _⟩
  · rw [ervn he] at h2
    rw [if_neg he]
    go_enter Tryd.func13, Tryd.ntmps13
    go_wp2
    go_end0
    exact ⟨rfl, H.out, Fk.refl B b w⟩
def rOctet (s : ByteArray) (m a e : Int) : Int × Int × Int :=
  if e = 0 then (if a = (s.size : Int) then (0, a, 2) else if m < bt s a then (0, a + 1, 3) else (bt s a, a + 1, 0)) else (0, a, e)
set_option maxHeartbeats 4000000 in
theorem octet (B b : Nat) (s : ByteArray) (m a e v a' e' : Int) (w : World) (h : RD b s a e w) (hB : B ≤ b) (ha : 0 ≤ a) (hs : a ≤ (s.size : Int)) (hz : s.size ≤ 140737488351232) (hr : rOctet s m a e = (v, a', e')) :
    Calls Tryd.prog 59 #[.pointer (some ⟨b, 0, none⟩), .int .u8 m] w fun r w' => r = .returned (.int .u8 v) ∧ RD b s a' e' w' ∧ Fk B b w w' := by
  have H := Aside0.mk h
  have h0 := h.c0
  have h1 := h.c1
  have h2 := h.c2
  have hf1 := h.f 1
  have hmix : Tryd.prog.follows .mixedOrders = true := by kernel_rfl
  clear h
  unfold rOctet at hr
  by_cases he : e = 0
  · subst he
    rw [erv0] at h2
    rw [if_pos rfl] at hr
    by_cases hq : a = (s.size : Int)
    · subst hq
      rw [if_pos rfl] at hr
      cases hr
      clear ha hs
      go_enter Tryd.func59, Tryd.ntmps59
      go_wp2
      go_quiet ((fail))
      go_wp2_with (go_at_call 13; refine (fail B b s _ 0 2 _ (H.out.drewN _) hB (by decide)).mono ?_; rintro r w1 ⟨rfl, hh, hk⟩; have H1 := Aside0.mk hh; have K1 := Aside0.mk hk; have g2 := hh.c2; rw [if_pos rfl, ervn (by decide)] at g2; clear hh hk)
      go_ret
      exact ⟨rfl, H1.out, ((Fk.refl B b w).drewN _).trans K1.out⟩
    · rw [if_neg hq] at hr
      have q0 : (a == (s.size : Int)) = false := beq_eq_false_iff_ne.mpr hq
      have q1 : a < (s.size : Int) := by omega
      have hbt := bt_at s a
      obtain ⟨x, hx⟩ : ∃ x, bt s a = x := ⟨_, rfl⟩
      have hxr := bt_range s a
      rw [hx] at hr hbt hxr
      have HX := Aside0.mk hx
      clear hx
      by_cases hm : m < x
      · rw [if_pos hm] at hr
        have d0 : decide (m < x) = true := decide_eq_true hm
        cases hr
        go_enter Tryd.func59, Tryd.ntmps59
        go_wp2
        go_quiet ((fail))
        go_wp2
        go_quiet ((fail))
        go_wp2_with (go_at_call 13; refine (fail B b s _ 0 3 _ ((H.out.drewN _).set1 _) hB (by decide)).mono ?_; rintro r w1 ⟨rfl, hh, hk⟩; have H1 := Aside0.mk hh; have K1 := Aside0.mk hk; clear hh hk)
        go_ret
        exact ⟨rfl, H1.out, (((Fk.refl B b w).drewN _).set hB _ _).trans K1.out⟩
      · rw [if_neg hm] at hr
        have d0 : decide (m < x) = false := decide_eq_false hm
        cases hr
        go_enter Tryd.func59, Tryd.ntmps59
        go_wp2
        go_quiet ((fail))
        go_wp2
        go_quiet ((fail))
        go_wp2
        go_ret
        exact ⟨rfl, (H.out.drewN _).set1 _, ((Fk.refl B b w).drewN _).set hB _ _⟩
  · rw [ervn he] at h2
    rw [if_neg he] at hr
    cases hr
    clear ha hs
    go_enter Tryd.func59, Tryd.ntmps59
    go_wp2
    go_quiet ((fail))
    go_wp2
    go_ret
    exact ⟨rfl, H.out.drewN _, (Fk.refl B b w).drewN _⟩
set_option maxHeartbeats 4000000 in
theorem flag (B b : Nat) (s : ByteArray) (a e v a' e' : Int) (w : World) (h : RD b s a e w) (hB : B ≤ b) (ha : 0 ≤ a) (hs : a ≤ (s.size : Int)) (hz : s.size ≤ 140737488351232) (hr : rOctet s 1 a e = (v, a', e')) :
    Calls Tryd.prog 24 #[.pointer (some ⟨b, 0, none⟩)] w fun r w' => r = .returned (.bool (v == 1)) ∧ RD b s a' e' w' ∧ Fk B b w w' := by
  have H := Aside0.mk h
  have HR := Aside0.mk hr
  clear h hr
  go_enter Tryd.func24, Tryd.ntmps24
  go_wp2_with (go_at_call 59; refine (octet B b s 1 a e v a' e' _ H.out hB ha hs hz HR.out).mono ?_; rintro r w1 ⟨rfl, hh, hk⟩; have H1 := Aside0.mk hh; have K1 := Aside0.mk hk; clear hh hk)
  go_ret
  exact ⟨rfl, H1.out, K1.out⟩
def rBytes (s : ByteArray) (n a e : Int) : ByteArray × Int × Int :=
  if e = 0 then (if (s.size : Int) - a < n then (⟨#[]⟩, a, 2) else (s.extract a.toNat (a + n).toNat, a + n, 0)) else (⟨#[]⟩, a, e)
set_option maxHeartbeats 4000000 in
theorem bytes (B b : Nat) (s : ByteArray) (n a e : Int) (v : ByteArray) (a' e' : Int) (w : World) (h : RD b s a e w) (hB : B ≤ b) (hn : 0 ≤ n) (hn2 : n ≤ 16777215) (ha : 0 ≤ a) (hs : a ≤ (s.size : Int)) (hz : s.size ≤ 140737488351232) (hr : rBytes s n a e = (v, a', e')) :
    Calls Tryd.prog 61 #[.pointer (some ⟨b, 0, none⟩), .int .i64 n] w fun r w' => r = .returned (.string v) ∧ RD b s a' e' w' ∧ Fk B b w w' := by
  have H := Aside0.mk h
  have h0 := h.c0
  have h1 := h.c1
  have h2 := h.c2
  have hf1 := h.f 1
  have hmix : Tryd.prog.follows .mixedOrders = true := by kernel_rfl
  clear h
  unfold rBytes at hr
  have e1 : IntKind.i64.wrap ((s.size : Int) - a) = (s.size : Int) - a := by rw [IntKind.wrap_i64]; omega
  have e2 : IntKind.i64.wrap (a + n) = a + n := by rw [IntKind.wrap_i64]; omega
  have e3 : IntKind.i64.wrap (a + n - n) = a := by rw [IntKind.wrap_i64]; omega
  by_cases he : e = 0
  · subst he
    rw [erv0] at h2
    rw [if_pos rfl] at hr
    by_cases hq : (s.size : Int) - a < n
    · rw [if_pos hq] at hr
      cases hr
      have d0 : decide ((s.size : Int) - a < n) = true := decide_eq_true hq
      clear ha hs hn hn2
      go_enter Tryd.func61, Tryd.ntmps61
      go_wp2
      go_quiet ((fail))
      go_wp2_with (go_at_call 13; refine (fail B b s _ 0 2 _ (H.out.drewN _) hB (by decide)).mono ?_; rintro r w1 ⟨rfl, hh, hk⟩; have H1 := Aside0.mk hh; have K1 := Aside0.mk hk; have g2 := hh.c2; rw [if_pos rfl, ervn (by decide)] at g2; clear hh hk)
      go_ret
      exact ⟨rfl, H1.out, ((Fk.refl B b w).drewN _).trans K1.out⟩
    · rw [if_neg hq] at hr
      cases hr
      have d0 : decide ((s.size : Int) - a < n) = false := decide_eq_false hq
      have q2 : a + n ≤ (s.size : Int) := by omega
      have q3 : a ≤ a + n := by omega
      have q4 : 0 ≤ a + n := by omega
      go_enter Tryd.func61, Tryd.ntmps61
      go_wp2
      go_quiet ((fail))
      go_wp2
      go_quiet ((fail))
      go_wp2
      go_ret
      exact ⟨rfl, ((H.out.drewN _).set1 _).drewN _, (((Fk.refl B b w).drewN _).set hB _ _).drewN _⟩
  · rw [ervn he] at h2
    rw [if_neg he] at hr
    cases hr
    clear ha hs hn hn2
    go_enter Tryd.func61, Tryd.ntmps61
    go_wp2
    go_quiet ((fail))
    go_wp2
    go_ret
    exact ⟨rfl, H.out.drewN _, (Fk.refl B b w).drewN _⟩
def gv (s : ByteArray) (a : Int) : Int × Int × Bool := (impl_GetVarint.f 40 s a).getD (0, 0, false)
def GvOk (s : ByteArray) : Prop := ∀ a : Int, 0 ≤ a → a ≤ (s.size : Int) → impl_GetVarint.f 40 s a = some (gv s a) ∧ ((gv s a).2.2 = true → 0 ≤ (gv s a).1 ∧ (gv s a).1 ≤ 16777215 ∧ a < (gv s a).2.1 ∧ (gv s a).2.1 ≤ (s.size : Int))
def stopAt (s : ByteArray) : Nat → Nat → Nat
  | 0, i => i
  | n + 1, i => if i < s.size ∧ 128 ≤ bt s (i : Int) then stopAt s n (i + 1) else i
def stop (s : ByteArray) (i : Nat) : Nat := stopAt s (s.size - i) i
theorem stop_go {s : ByteArray} {i : Nat} (h : i < s.size) (hb : 128 ≤ bt s (i : Int)) : stop s (i + 1) = stop s i := by
  obtain ⟨m, hm⟩ : ∃ m, s.size - i = m + 1 := ⟨s.size - i - 1, by omega⟩
  unfold stop
  rw [hm, show s.size - (i + 1) = m by omega, stopAt, if_pos ⟨h, hb⟩]
theorem stop_end {s : ByteArray} {i : Nat} (h : ¬ (i < s.size ∧ 128 ≤ bt s (i : Int))) : stop s i = i := by
  unfold stop
  cases s.size - i with
  | zero => rfl
  | succ m => rw [stopAt, if_neg h]
def gvErr (s : ByteArray) (a : Int) : Int := if stop s a.toNat = s.size ∧ ((stop s a.toNat : Nat) : Int) - a < 4 then 2 else 3
def rNum (s : ByteArray) (lo hi a e : Int) : Int × Int × Int :=
  if e = 0 then (if (gv s a).2.2 = true then (if (gv s a).1 < lo ∨ hi < (gv s a).1 then (0, (gv s a).2.1, 4) else ((gv s a).1, (gv s a).2.1, 0)) else (0, a, gvErr s a)) else (0, a, e)
theorem decl_or {p q : Prop} [Decidable p] [Decidable q] (h : p ∨ q) : (decide p = true) ∨ (decide p = false ∧ decide q = true) := by
  by_cases hp : p
  · exact .inl (decide_eq_true hp)
  · exact .inr ⟨decide_eq_false hp, decide_eq_true (h.resolve_left hp)⟩
theorem gv_quiet {P : Program} {f : FuncId} {args : Array Value} {w : World} {n : Nat} {v : Value} (h : Calls P f args (w.drewN n) fun e w' => e = .returned v ∧ Drawn0 (w.drewN n) w') : Calls P f args (w.drewN n) fun e w'' => e = .returned v ∧ ∃ m, w'' = w.drewN m :=
  Calls.quiet_of (h.mono fun _ _ ⟨he, hd⟩ => ⟨he, hd.out⟩)
set_option maxHeartbeats 8000000 in
theorem num (B b : Nat) (s : ByteArray) (lo hi a e v a' e' : Int) (w : World) (h : RD b s a e w) (hB : B ≤ b) (hg : GvOk s) (ha : 0 ≤ a) (hs : a ≤ (s.size : Int)) (hz : s.size ≤ 140737488351232) (hr : rNum s lo hi a e = (v, a', e')) :
    Calls Tryd.prog 25 #[.pointer (some ⟨b, 0, none⟩), .int .i64 lo, .int .i64 hi] w fun r w' => r = .returned (.int .i64 v) ∧ RD b s a' e' w' ∧ Fk B b w w' := by
  have H := Aside0.mk h
  have h0 := h.c0
  have h1 := h.c1
  have h2 := h.c2
  have hf1 := h.f 1
  have hmix : Tryd.prog.follows .mixedOrders = true := by kernel_rfl
  clear h
  unfold rNum at hr
  obtain ⟨hg1, hg2⟩ := hg a ha hs
  obtain ⟨n, nx, ok, hG⟩ : ∃ n nx ok, gv s a = (n, nx, ok) := ⟨_, _, _, rfl⟩
  rw [hG] at hr hg1 hg2
  have HG := Aside0.mk hg1
  clear hg1 hG
  by_cases he : e = 0
  · subst he
    rw [erv0] at h2
    rw [if_pos rfl] at hr
    cases ok
    · rw [if_neg (by simp)] at hr
      cases hr
      clear hg2
      obtain ⟨q, rfl⟩ : ∃ q : Nat, a = (q : Int) := ⟨a.toNat, by omega⟩
      have hq : q ≤ s.size := by omega
      clear ha hs
      go_enter Tryd.func25, Tryd.ntmps25
      go_wp2
      go_quiet ((go_at_call 60; exact gv_quiet (impl_GetVarint.calls _ _ _ _ _ _ _ HG.out)))
      go_wp2
      obtain ⟨E, hE⟩ : ∃ E, stop s q = E := ⟨_, rfl⟩
      have HE := Aside0.mk hE
      have W1 := Aside0.mk ((Fk.refl B b w).drewN nq)
      have H1 := Aside0.mk (H.out.drewN nq)
      clear hE
      go_loop [10] (fun v10 => ∃ j : Nat, j ≤ s.size ∧ q ≤ j ∧ v10 = .int .i64 (j : Int) ∧ Aside0 (stop s j = E)) (fun v10 => s.size - (intOf v10).toNat)
      case atStart => exact ⟨q, hq, Nat.le_refl _, rfl, HE⟩
      case round =>
        obtain ⟨j, hj, hqj, rfl, HJ⟩ := hrel
        by_cases hin : j < s.size
        · have hbt := bt_at s (j : Int)
          obtain ⟨x, hx⟩ : ∃ x, bt s (j : Int) = x := ⟨_, rfl⟩
          have HX := Aside0.mk hx
          rw [hx] at hbt
          clear hx
          simp only [Int.toNat_natCast] at hbt
          by_cases hb : 128 ≤ x
          · have HS : Aside0 (stop s (j + 1) = E) := ⟨(stop_go hin (by rw [HX.out]; exact hb)).trans HJ.out⟩
            go_wp2
            go_round
            case rel => exact ⟨j + 1, by omega, by omega, by go_num, HS⟩
            case measure => simp [intOf]; omega
          · have hje : E = j := HJ.out.symm.trans (stop_end (fun h => hb (by have := h.2; rw [HX.out] at this; exact this)))
            have hne : ¬ ((j : Int) = (s.size : Int)) := by omega
            have d1 : ((j : Int) == (s.size : Int)) = false := beq_eq_false_iff_ne.mpr hne
            have d2 : decide (128 ≤ x) = false := decide_eq_false hb
            have HV : Aside0 (gvErr s (q : Int) = 3) := ⟨by unfold gvErr; rw [Int.toNat_natCast, HE.out, hje]; exact if_neg (fun h => by omega)⟩
            clear hje hne
            go_wp2_with (go_at_call 13; refine (fail B b s _ 0 3 _ H1.out hB (by decide)).mono ?_; rintro r w1 ⟨rfl, hh, hk⟩; have H2 := Aside0.mk hh; have K2 := Aside0.mk (W1.out.trans hk); clear hh hk)
            go_ret
            exact ⟨rfl, HV.out ▸ H2.out, K2.out⟩
        · obtain rfl : j = s.size := by omega
          have hje : E = s.size := HJ.out.symm.trans (stop_end (fun h => hin h.1))
          have d0 : ((s.size : Int) == (s.size : Int)) = true := by simp
          by_cases h4 : (s.size : Int) - (q : Int) < 4
          · have HV : Aside0 (gvErr s (q : Int) = 2) := ⟨by unfold gvErr; rw [Int.toNat_natCast, HE.out, hje]; exact if_pos ⟨rfl, h4⟩⟩
            have d2 : decide ((s.size : Int) - (q : Int) < 4) = true := decide_eq_true h4
            have d3 : IntKind.i64.wrap ((s.size : Int) - (q : Int)) = (s.size : Int) - (q : Int) := by rw [IntKind.wrap_i64]; omega
            clear hje
            go_wp2_with (go_at_call 13; refine (fail B b s _ 0 2 _ H1.out hB (by decide)).mono ?_; rintro r w1 ⟨rfl, hh, hk⟩; have H2 := Aside0.mk hh; have K2 := Aside0.mk (W1.out.trans hk); clear hh hk)
            go_ret
            exact ⟨rfl, HV.out ▸ H2.out, K2.out⟩
          · have HV : Aside0 (gvErr s (q : Int) = 3) := ⟨by unfold gvErr; rw [Int.toNat_natCast, HE.out, hje]; exact if_neg (fun h => h4 h.2)⟩
            have d2 : decide ((s.size : Int) - (q : Int) < 4) = false := decide_eq_false h4
            have d3 : IntKind.i64.wrap ((s.size : Int) - (q : Int)) = (s.size : Int) - (q : Int) := by rw [IntKind.wrap_i64]; omega
            clear hje
            go_wp2_with (go_at_call 13; refine (fail B b s _ 0 3 _ H1.out hB (by decide)).mono ?_; rintro r w1 ⟨rfl, hh, hk⟩; have H2 := Aside0.mk hh; have K2 := Aside0.mk (W1.out.trans hk); clear hh hk)
            go_ret
            exact ⟨rfl, HV.out ▸ H2.out, K2.out⟩
    · rw [if_pos rfl] at hr
      have hg3 := hg2 rfl
      by_cases ho : n < lo ∨ hi < n
      · rw [if_pos ho] at hr
        cases hr
        rcases decl_or ho with d0 | ⟨d0, d1⟩
        all_goals
          go_enter Tryd.func25, Tryd.ntmps25
          go_wp2
          go_quiet ((go_at_call 60; exact gv_quiet (impl_GetVarint.calls _ _ _ _ _ _ _ HG.out)))
          go_wp2_with (go_at_call 13; refine (fail B b s _ 0 4 _ ((H.out.drewN _).set1 _) hB (by decide)).mono ?_; rintro r w1 ⟨rfl, hh, hk⟩; have H1 := Aside0.mk hh; have K1 := Aside0.mk hk; clear hh hk)
          go_ret
          exact ⟨rfl, H1.out, (((Fk.refl B b w).drewN _).set hB _ _).trans K1.out⟩
      · rw [if_neg ho] at hr
        cases hr
        have d0 : decide (n < lo) = false := decide_eq_false (by omega)
        have d1 : decide (hi < n) = false := decide_eq_false (by omega)
        go_enter Tryd.func25, Tryd.ntmps25
        go_wp2
        go_quiet ((go_at_call 60; exact gv_quiet (impl_GetVarint.calls _ _ _ _ _ _ _ HG.out)))
        go_wp2
        go_ret
        exact ⟨rfl, (H.out.drewN _).set1 _, ((Fk.refl B b w).drewN _).set hB _ _⟩
  · rw [ervn he] at h2
    rw [if_neg he] at hr
    cases hr
    clear hg2 ha hs
    go_enter Tryd.func25, Tryd.ntmps25
    go_wp2
    go_ret
    exact ⟨rfl, H.out, Fk.refl B b w⟩
theorem RD.far {b g : Nat} {s : ByteArray} {a e : Int} {w : World} (h : RD b s a e w) (hg : b ≠ g) (j : Nat) (v : Value) : RD b s a e (w.setCell ⟨g, j, none⟩ v) := (Below.heap_setCell w ⟨g, j, none⟩ v b hg).trans h
theorem Fk.setNew {B b g : Nat} {w w1 : World} (h : Fk B b w w1) (hg : w.heap.size ≤ g) (hB : B ≤ w.heap.size) (j : Nat) (v : Value) : Fk B b w (w1.setCell ⟨g, j, none⟩ v) := ⟨h.bel.setCell (p := ⟨g, j, none⟩) (Nat.le_trans hB hg) _, fun k hk hl => (Below.heap_setCell w1 ⟨g, j, none⟩ v k (show k ≠ g by omega)).trans (h.oth k hk hl)⟩
theorem rOctet_ok {s : ByteArray} {m a e : Int} (ha : 0 ≤ a) (hs : a ≤ (s.size : Int)) (hm : 0 ≤ m) : 0 ≤ (rOctet s m a e).1 ∧ (rOctet s m a e).1 ≤ m ∧ a ≤ (rOctet s m a e).2.1 ∧ (rOctet s m a e).2.1 ≤ (s.size : Int) ∧ (e ≠ 0 → (rOctet s m a e).2.2 = e) := by
  unfold rOctet
  have hb := bt_range s a
  split
  · split
    · exact ⟨Int.le_refl _, hm, Int.le_refl _, hs, fun h => absurd ‹_› h⟩
    · split
      · exact ⟨Int.le_refl _, hm, show a ≤ a + 1 by omega, show a + 1 ≤ _ by omega, fun h => absurd ‹_› h⟩
      · exact ⟨hb.1, show bt s a ≤ m by omega, show a ≤ a + 1 by omega, show a + 1 ≤ _ by omega, fun h => absurd ‹_› h⟩
  · exact ⟨Int.le_refl _, hm, Int.le_refl _, hs, fun _ => rfl⟩
theorem rBytes_ok {s : ByteArray} {n a e : Int} (hn : 0 ≤ n) (ha : 0 ≤ a) (hs : a ≤ (s.size : Int)) : a ≤ (rBytes s n a e).2.1 ∧ (rBytes s n a e).2.1 ≤ (s.size : Int) ∧ (e ≠ 0 → (rBytes s n a e).2.2 = e) ∧ ((rBytes s n a e).2.2 = 0 → (rBytes s n a e).1.size = n.toNat) ∧ (rBytes s n a e).1.size ≤ n.toNat := by
  unfold rBytes
  split
  · split
    · exact ⟨Int.le_refl _, hs, fun h => absurd ‹_› h, fun h => absurd (show (2 : Int) = 0 from h) (by decide), Nat.zero_le _⟩
    · have hz : (s.extract a.toNat (a + n).toNat).size = n.toNat := by rw [ByteArray.size_extract]; omega
      exact ⟨by show a ≤ a + n; omega, by show a + n ≤ _; omega, fun h => absurd ‹_› h, fun _ => hz, Nat.le_of_eq hz⟩
  · exact ⟨Int.le_refl _, hs, fun _ => rfl, fun h => absurd h ‹_›, Nat.zero_le _⟩
theorem rNum_ok {s : ByteArray} {lo hi a e : Int} (hg : GvOk s) (ha : 0 ≤ a) (hs : a ≤ (s.size : Int)) (hlo : 0 ≤ lo) (hh : 0 ≤ hi) : 0 ≤ (rNum s lo hi a e).1 ∧ (rNum s lo hi a e).1 ≤ hi ∧ (rNum s lo hi a e).1 ≤ 16777215 ∧ a ≤ (rNum s lo hi a e).2.1 ∧ (rNum s lo hi a e).2.1 ≤ (s.size : Int) ∧ (e ≠ 0 → (rNum s lo hi a e).2.2 = e) ∧ ((rNum s lo hi a e).2.2 = 0 → lo ≤ (rNum s lo hi a e).1) := by
  have h := (hg a ha hs).2
  unfold rNum
  split
  · split
    · have h' := h ‹_›
      split
      · exact ⟨Int.le_refl _, hh, by omega, Int.le_of_lt h'.2.2.1, h'.2.2.2, fun h => absurd ‹_› h, fun h => absurd (show (4 : Int) = 0 from h) (by decide)⟩
      · exact ⟨h'.1, by show (gv s a).1 ≤ hi; omega, h'.2.1, Int.le_of_lt h'.2.2.1, h'.2.2.2, fun h => absurd ‹_› h, fun _ => by show lo ≤ (gv s a).1; omega⟩
    · refine ⟨Int.le_refl _, hh, by omega, Int.le_refl _, hs, fun h => absurd ‹_› h, fun h => ?_⟩
      have h : gvErr s a = 0 := h
      unfold gvErr at h
      split at h
      · exact absurd h (by decide)
      · exact absurd h (by decide)
  · exact ⟨Int.le_refl _, hh, by omega, Int.le_refl _, hs, fun _ => rfl, fun h => absurd h ‹_›⟩
def rText (s : ByteArray) (a e : Int) : ByteArray × Int × Int := rBytes s (rNum s 0 1000 a e).1 (rNum s 0 1000 a e).2.1 (rNum s 0 1000 a e).2.2
theorem rText_ok {s : ByteArray} {a e : Int} (hg : GvOk s) (ha : 0 ≤ a) (hs : a ≤ (s.size : Int)) : a ≤ (rText s a e).2.1 ∧ (rText s a e).2.1 ≤ (s.size : Int) ∧ (e ≠ 0 → (rText s a e).2.2 = e) ∧ (rText s a e).1.size ≤ 1000 := by
  obtain ⟨h1, h2, _, h3, h4, h5, _⟩ := rNum_ok (e := e) hg ha hs (Int.le_refl 0) (show (0 : Int) ≤ 1000 by decide)
  obtain ⟨k1, k2, k3, _, k4⟩ := rBytes_ok (e := (rNum s 0 1000 a e).2.2) h1 (Int.le_trans ha h3) h4
  refine ⟨Int.le_trans h3 k1, k2, fun he => (k3 (by rw [h5 he]; exact he)).trans (h5 he), ?_⟩
  show (rBytes s (rNum s 0 1000 a e).1 (rNum s 0 1000 a e).2.1 (rNum s 0 1000 a e).2.2).1.size ≤ 1000
  omega
set_option maxHeartbeats 4000000 in
theorem text (B b : Nat) (s : ByteArray) (a e : Int) (v : ByteArray) (a' e' : Int) (w : World) (h : RD b s a e w) (hB : B ≤ b) (hg : GvOk s) (ha : 0 ≤ a) (hs : a ≤ (s.size : Int)) (hz : s.size ≤ 140737488351232) (hr : rText s a e = (v, a', e')) :
    Calls Tryd.prog 32 #[.pointer (some ⟨b, 0, none⟩)] w fun r w' => r = .returned (.string v) ∧ RD b s a' e' w' ∧ Fk B b w w' := by
  obtain ⟨h1, h2, h6, h3, h4, _, _⟩ := rNum_ok (e := e) hg ha hs (Int.le_refl 0) (show (0 : Int) ≤ 1000 by decide)
  unfold rText at hr
  obtain ⟨n, a1, e1, hn⟩ : ∃ n a1 e1, rNum s 0 1000 a e = (n, a1, e1) := ⟨_, _, _, rfl⟩
  rw [hn] at hr h1 h2 h3 h4 h6
  have H := Aside0.mk h
  have HR := Aside0.mk hr
  have HN := Aside0.mk hn
  have ha1 : 0 ≤ a1 := Int.le_trans ha h3
  clear h hr hn
  go_enter Tryd.func32, Tryd.ntmps32
  go_wp2_with (first | (go_at_call 25; refine (num B b s 0 1000 a e n a1 e1 _ H.out hB hg ha hs hz HN.out).mono ?_; rintro r w1 ⟨rfl, hh, hk⟩; have H1 := Aside0.mk hh; have K1 := Aside0.mk hk; clear hh hk) | (go_at_call 61; refine (bytes B b s n a1 e1 v a' e' _ H1.out hB h1 h6 ha1 h4 hz HR.out).mono ?_; rintro r w2 ⟨rfl, hh, hk⟩; have H2 := Aside0.mk hh; have K2 := Aside0.mk (K1.out.trans hk); clear hh hk))
  go_ret
  exact ⟨rfl, H2.out, K2.out⟩
set_option maxHeartbeats 4000000 in
theorem line (B b : Nat) (s : ByteArray) (a e : Int) (v : Int) (a' e' : Int) (w : World) (h : RD b s a e w) (hB : B ≤ b) (hg : GvOk s) (ha : 0 ≤ a) (hs : a ≤ (s.size : Int)) (hz : s.size ≤ 140737488351232) (hr : rNum s 0 16777215 a e = (v, a', e')) :
    Calls Tryd.prog 35 #[.pointer (some ⟨b, 0, none⟩)] w fun r w' => r = .returned (.int .i64 v) ∧ RD b s a' e' w' ∧ Fk B b w w' := by
  have H := Aside0.mk h
  have HR := Aside0.mk hr
  clear h hr
  go_enter Tryd.func35, Tryd.ntmps35
  go_wp2_with (go_at_call 25; refine (num B b s 0 16777215 a e v a' e' _ H.out hB hg ha hs hz HR.out).mono ?_; rintro r w1 ⟨rfl, hh, hk⟩; have H1 := Aside0.mk hh; have K1 := Aside0.mk hk; clear hh hk)
  go_ret
  exact ⟨rfl, H1.out, K1.out⟩
theorem pr3 {α β γ : Type} {a a' : α} {b b' : β} {c c' : γ} (h : (a, b, c) = (a', b', c')) : a = a' ∧ b = b' ∧ c = c' := by cases h; exact ⟨rfl, rfl, rfl⟩
def rNone (s : ByteArray) (n a e : Int) : Int × Int × Int :=
  if (rNum s 0 16777215 a e).1 ≠ 0 ∧ (rNum s 0 16777215 a e).1 ≠ n then (0, (rNum s 0 16777215 a e).2.1, if (rNum s 0 16777215 a e).2.2 = 0 then 4 else (rNum s 0 16777215 a e).2.2) else rNum s 0 16777215 a e
set_option maxHeartbeats 4000000 in
theorem noneOr (B b : Nat) (s : ByteArray) (m a e : Int) (v : Int) (a' e' : Int) (w : World) (h : RD b s a e w) (hB : B ≤ b) (hg : GvOk s) (ha : 0 ≤ a) (hs : a ≤ (s.size : Int)) (hz : s.size ≤ 140737488351232) (hr : rNone s m a e = (v, a', e')) :
    Calls Tryd.prog 34 #[.pointer (some ⟨b, 0, none⟩), .int .i64 m] w fun r w' => r = .returned (.int .i64 v) ∧ RD b s a' e' w' ∧ Fk B b w w' := by
  unfold rNone at hr
  obtain ⟨n, a1, e1, hn⟩ : ∃ n a1 e1, rNum s 0 16777215 a e = (n, a1, e1) := ⟨_, _, _, rfl⟩
  rw [hn] at hr
  have H := Aside0.mk h
  have HN := Aside0.mk hn
  clear h hn
  by_cases h0 : n = 0
  · rw [if_neg (fun hc => hc.1 h0)] at hr
    obtain ⟨rfl, rfl, rfl⟩ := pr3 hr
    have d0 : (n == 0) = true := beq_iff_eq.mpr h0
    have d1 : (n != 0) = false := by rw [bne, d0]; rfl
    clear h0
    go_enter Tryd.func34, Tryd.ntmps34
    go_wp2_with (go_at_call 25; refine (num B b s 0 16777215 a e n a1 e1 _ H.out hB hg ha hs hz HN.out).mono ?_; rintro r w1 ⟨rfl, hh, hk⟩; have H1 := Aside0.mk hh; have K1 := Aside0.mk hk; clear hh hk)
    go_ret
    exact ⟨rfl, H1.out, K1.out⟩
  · have d0 : (n == 0) = false := beq_eq_false_iff_ne.mpr h0
    have d1 : (n != 0) = true := by rw [bne, d0]; rfl
    by_cases hm : n = m
    · rw [if_neg (fun hc => hc.2 hm)] at hr
      obtain ⟨rfl, rfl, rfl⟩ := pr3 hr
      subst hm
      go_enter Tryd.func34, Tryd.ntmps34
      go_wp2_with (go_at_call 25; refine (num B b s 0 16777215 a e n a1 e1 _ H.out hB hg ha hs hz HN.out).mono ?_; rintro r w1 ⟨rfl, hh, hk⟩; have H1 := Aside0.mk hh; have K1 := Aside0.mk hk; clear hh hk)
      go_ret
      exact ⟨rfl, H1.out, K1.out⟩
    · rw [if_pos ⟨h0, hm⟩] at hr
      obtain ⟨g1, g2, g3⟩ := pr3 hr
      subst g1
      subst g2
      have HE := Aside0.mk g3
      clear g3 hr
      have d2 : (n == m) = false := beq_eq_false_iff_ne.mpr hm
      have d3 : (n != m) = true := by rw [bne, d2]; rfl
      go_enter Tryd.func34, Tryd.ntmps34
      go_wp2_with (first | (go_at_call 25; refine (num B b s 0 16777215 a e n a1 e1 _ H.out hB hg ha hs hz HN.out).mono ?_; rintro r w1 ⟨rfl, hh, hk⟩; have H1 := Aside0.mk hh; have K1 := Aside0.mk hk; clear hh hk) | (go_at_call 13; refine (fail B b s a1 e1 4 _ H1.out hB (by decide)).mono ?_; rintro r w2 ⟨rfl, hh, hk⟩; have H2 := Aside0.mk hh; have K2 := Aside0.mk (K1.out.trans hk); clear hh hk))
      go_ret
      exact ⟨rfl, HE.out ▸ H2.out, K2.out⟩
def rUp (s : ByteArray) (a e : Int) : Bool × Int × Int × Int :=
  ((rOctet s 1 a e).1 == 1, rNum s 0 16777215 (rOctet s 1 a e).2.1 (rOctet s 1 a e).2.2)
set_option maxRecDepth 100000 in
set_option maxHeartbeats 4000000 in
theorem up (B b : Nat) (s : ByteArray) (a e : Int) (v1 : Bool) (v2 : Int) (a' e' : Int) (w : World) (h : RD b s a e w) (hB : B ≤ b) (hBw : B ≤ w.heap.size) (hg : GvOk s) (ha : 0 ≤ a) (hs : a ≤ (s.size : Int)) (hz : s.size ≤ 140737488351232) (hr : rUp s a e = (v1, v2, a', e')) :
    Calls Tryd.prog 31 #[.pointer (some ⟨b, 0, none⟩)] w fun r w' => r = .returned (.agg #[.bool v1, .int .i64 v2]) ∧ RD b s a' e' w' ∧ Fk B b w w' := by
  obtain ⟨h1, h2, h3, h4, _⟩ := rOctet_ok (e := e) ha hs (show (0 : Int) ≤ 1 by decide)
  unfold rUp at hr
  obtain ⟨n, a1, e1, hn⟩ : ∃ n a1 e1, rOctet s 1 a e = (n, a1, e1) := ⟨_, _, _, rfl⟩
  rw [hn] at hr h1 h2 h3 h4
  obtain ⟨rfl, hr2⟩ := Prod.mk.inj hr
  have hu67 := Tryd.underlying67
  have hb0 : Below w.heap.size w (w.alloc (.cells #[.bool false, .int .i64 0] 67 (0, 0))) := below_alloc (Below.refl _ _) _
  have H := Aside0.mk (h.below hb0)
  have K := Aside0.mk (Fk.below (b := b) hBw hb0)
  have hlt := h.lt
  have HR := Aside0.mk hr2
  have HN := Aside0.mk hn
  have ha1 : 0 ≤ a1 := Int.le_trans ha h3
  clear h hr hr2 hn hb0
  go_enter Tryd.func31, Tryd.ntmps31
  go_wp2_with (first | (go_at_call 24; (refine (flag B b s a e n a1 e1 _ H.out hB ha hs hz HN.out).mono ?_; rintro r w1 ⟨rfl, hh, hk⟩; have H1 := Aside0.mk hh; have K1 := Aside0.mk (K.out.trans hk); have Q1 := Aside0.mk ((hk.oth w.heap.size (by omega) (by simp)).trans (blk_new w _)); clear hh hk)) | (go_at_call 25; (refine (num B b s 0 16777215 a1 e1 v2 a' e' _ H1.out hB hg ha1 h4 hz HR.out).mono ?_; rintro r w2 ⟨rfl, hh, hk⟩; have H2 := Aside0.mk hh; have K2 := Aside0.mk (K1.out.trans hk); have q2 := (hk.oth w.heap.size (by omega) (blk_lt Q1.out)).trans Q1.out; have Q2 := Aside0.mk q2; have c0 := blk_cell q2 0; have c1 := blk_cell q2 1; have f0 := blk_frozen q2 0; have f1 := blk_frozen q2 1; clear hh hk q2)))
  refine bodyPost_ret (results_cell_row (P := Tryd.prog) rfl _ _ w.heap.size 67 #[.bool (n == 1), .int .i64 v2] (0, 0) _ rfl ((blk_set (blk_set Q2.out 0 _) 1 _).trans rfl) hu67 rfl (by kernel_rfl)) rfl ?_
  exact ⟨rfl, (H2.out.far (by omega) _ _).far (by omega) _ _, (K2.out.setNew (Nat.le_refl _) hBw _ _).setNew (Nat.le_refl _) hBw _ _⟩
def gi (k : Nat) (t : ByteArray) : Int := ((impl_GetInt.f k t 0).getD (0, 0, false)).1
theorem gi_eq {k : Nat} {t : ByteArray} {r : Int × Int × Bool} (h : impl_GetInt.f k t 0 = some r) : gi k t = r.1 := by unfold gi; rw [h]; rfl
def rValue (k : Nat) (s : ByteArray) (a e : Int) : Int × Int × ByteArray × Int × Int :=
  if (rOctet s 4 a e).1 = 1 then (1, 0, ⟨#[]⟩, (rOctet s 4 a e).2) else if (rOctet s 4 a e).1 = 2 then (1, 1, ⟨#[]⟩, (rOctet s 4 a e).2)
  else if (rOctet s 4 a e).1 = 3 then (2, gi k (rBytes s 8 (rOctet s 4 a e).2.1 (rOctet s 4 a e).2.2).1, ⟨#[]⟩, (rBytes s 8 (rOctet s 4 a e).2.1 (rOctet s 4 a e).2.2).2)
  else if (rOctet s 4 a e).1 = 4 then (3, 0, rText s (rOctet s 4 a e).2.1 (rOctet s 4 a e).2.2) else (0, 0, ⟨#[]⟩, (rOctet s 4 a e).2)
theorem pr5 {α β γ δ ε : Type} {a a' : α} {b b' : β} {c c' : γ} {d d' : δ} {e e' : ε} (h : (a, b, c, d, e) = (a', b', c', d', e')) : a = a' ∧ b = b' ∧ c = c' ∧ d = d' ∧ e = e' := by cases h; exact ⟨rfl, rfl, rfl, rfl, rfl⟩
def GiOk : Prop := ∃ k, ∀ s : ByteArray, s.size ≤ 8 → ∃ r, impl_GetInt.f k s 0 = some r
theorem value_end {B b : Nat} {s : ByteArray} {a' e' : Int} {w w1 : World} {v u0 u1 u2 : Value} (hlt : b < w.heap.size) (hBw : B ≤ w.heap.size) (h : RD b s a' e' w1) (hk : Fk B b w w1) :
    Ending.returned v = .returned v ∧ RD b s a' e' (((w1.setCell ⟨w.heap.size, 0, none⟩ u0).setCell ⟨w.heap.size, 1, none⟩ u1).setCell ⟨w.heap.size, 2, none⟩ u2) ∧ Fk B b w (((w1.setCell ⟨w.heap.size, 0, none⟩ u0).setCell ⟨w.heap.size, 1, none⟩ u1).setCell ⟨w.heap.size, 2, none⟩ u2) :=
  ⟨rfl, ((h.far (by omega) _ _).far (by omega) _ _).far (by omega) _ _, ((hk.setNew (Nat.le_refl _) hBw _ _).setNew (Nat.le_refl _) hBw _ _).setNew (Nat.le_refl _) hBw _ _⟩
set_option maxRecDepth 100000 in
set_option maxHeartbeats 8000000 in
theorem value (k : Nat) (hk8 : ∀ s : ByteArray, s.size ≤ 8 → ∃ r, impl_GetInt.f k s 0 = some r) (B b : Nat) (s : ByteArray) (a e : Int) (v1 v2 : Int) (v3 : ByteArray) (a' e' : Int) (w : World) (h : RD b s a e w) (hB : B ≤ b) (hBw : B ≤ w.heap.size) (hg : GvOk s) (ha : 0 ≤ a) (hs : a ≤ (s.size : Int)) (hz : s.size ≤ 140737488351232) (hr : rValue k s a e = (v1, v2, v3, a', e')) :
    Calls Tryd.prog 29 #[.pointer (some ⟨b, 0, none⟩)] w fun r w' => r = .returned (.agg #[.int .i64 v1, .int .i64 v2, .string v3]) ∧ RD b s a' e' w' ∧ Fk B b w w' := by
  obtain ⟨h1, h2, h3, h4, _⟩ := rOctet_ok (e := e) ha hs (show (0 : Int) ≤ 4 by decide)
  unfold rValue at hr
  obtain ⟨n, a1, e1, hn⟩ : ∃ n a1 e1, rOctet s 4 a e = (n, a1, e1) := ⟨_, _, _, rfl⟩
  rw [hn] at hr h1 h2 h3 h4
  dsimp only at hr h1 h2 h3 h4
  have hu63 := Tryd.underlying63
  have hb0 : Below w.heap.size w (w.alloc (.cells #[.int .i64 0, .int .i64 0, .string ⟨#[]⟩] 63 (0, 0))) := below_alloc (Below.refl _ _) _
  have H := Aside0.mk (h.below hb0)
  have K := Aside0.mk (Fk.below (b := b) hBw hb0)
  have hlt := h.lt
  have HN := Aside0.mk hn
  have ha1 : 0 ≤ a1 := Int.le_trans ha h3
  clear h hn hb0
  by_cases n1 : n = 1
  · subst n1
    rw [if_pos rfl] at hr
    obtain ⟨rfl, rfl, rfl, rfl, rfl⟩ := pr5 hr
    clear hr
    go_enter Tryd.func29, Tryd.ntmps29
    go_wp2_with (go_at_call 59; refine (octet B b s 4 a e 1 a1 e1 _ H.out hB ha hs hz HN.out).mono ?_; rintro r w1 ⟨rfl, hh, hk⟩; have H1 := Aside0.mk hh; have K1 := Aside0.mk (K.out.trans hk); have q1 := (hk.oth w.heap.size (by omega) (by simp)).trans (blk_new w _); have Q1 := Aside0.mk q1; have c0 := blk_cell q1 0; have c1 := blk_cell q1 1; have c2 := blk_cell q1 2; have f0 := blk_frozen q1 0; have f1 := blk_frozen q1 1; have f2 := blk_frozen q1 2; clear hh hk q1)
    refine bodyPost_ret (results_cell_row (P := Tryd.prog) rfl _ _ w.heap.size 63 #[.int .i64 1, .int .i64 0, .string ⟨#[]⟩] (0, 0) _ rfl ((blk_set (blk_set (blk_set Q1.out 0 _) 1 _) 2 _).trans rfl) hu63 rfl (by kernel_rfl)) rfl ?_
    exact value_end hlt hBw H1.out K1.out
  by_cases n2 : n = 2
  · subst n2
    rw [if_neg (by decide), if_pos rfl] at hr
    obtain ⟨rfl, rfl, rfl, rfl, rfl⟩ := pr5 hr
    clear hr
    go_enter Tryd.func29, Tryd.ntmps29
    go_wp2_with (go_at_call 59; refine (octet B b s 4 a e 2 a1 e1 _ H.out hB ha hs hz HN.out).mono ?_; rintro r w1 ⟨rfl, hh, hk⟩; have H1 := Aside0.mk hh; have K1 := Aside0.mk (K.out.trans hk); have q1 := (hk.oth w.heap.size (by omega) (by simp)).trans (blk_new w _); have Q1 := Aside0.mk q1; have c0 := blk_cell q1 0; have c1 := blk_cell q1 1; have c2 := blk_cell q1 2; have f0 := blk_frozen q1 0; have f1 := blk_frozen q1 1; have f2 := blk_frozen q1 2; clear hh hk q1)
    refine bodyPost_ret (results_cell_row (P := Tryd.prog) rfl _ _ w.heap.size 63 #[.int .i64 1, .int .i64 1, .string ⟨#[]⟩] (0, 0) _ rfl ((blk_set (blk_set (blk_set Q1.out 0 _) 1 _) 2 _).trans rfl) hu63 rfl (by kernel_rfl)) rfl ?_
    exact value_end hlt hBw H1.out K1.out
  by_cases n3 : n = 3
  · subst n3
    rw [if_neg (by decide), if_neg (by decide), if_pos rfl] at hr
    obtain ⟨hx1, hx2, _, _, hx5⟩ := rBytes_ok (e := e1) (show (0 : Int) ≤ 8 by decide) ha1 h4
    obtain ⟨x, a2, e2, hx⟩ : ∃ x a2 e2, rBytes s 8 a1 e1 = (x, a2, e2) := ⟨_, _, _, rfl⟩
    rw [hx] at hr hx1 hx2 hx5
    obtain ⟨⟨y1, y2, y3⟩, hy⟩ := hk8 x hx5
    rw [gi_eq hy] at hr
    obtain ⟨rfl, rfl, rfl, rfl, rfl⟩ := pr5 hr
    have HX := Aside0.mk hx
    have HY := Aside0.mk hy
    clear hr hx hy hk8 hx5
    go_enter Tryd.func29, Tryd.ntmps29
    go_wp2_with (first | (go_at_call 59; refine (octet B b s 4 a e 3 a1 e1 _ H.out hB ha hs hz HN.out).mono ?_; rintro r w1 ⟨rfl, hh, hk⟩; have H1 := Aside0.mk hh; have K1 := Aside0.mk (K.out.trans hk); have q1 := (hk.oth w.heap.size (by omega) (by simp)).trans (blk_new w _); have Q1 := Aside0.mk q1; clear hh hk q1) | (go_at_call 61; refine (bytes B b s 8 a1 e1 x a2 e2 _ H1.out hB (by decide) (by decide) ha1 h4 hz HX.out).mono ?_; rintro r w2 ⟨rfl, hh, hk⟩; have H2 := Aside0.mk hh; have K2 := Aside0.mk (K1.out.trans hk); have q2 := (hk.oth w.heap.size (by omega) (blk_lt Q1.out)).trans Q1.out; have Q2 := Aside0.mk q2; clear hh hk q2) | (go_at_call 62; refine (impl_GetInt.calls k x 0 y1 y2 y3 _ HY.out).mono ?_; rintro r w3 ⟨rfl, hd⟩; have hd := hd.below; have H3 := Aside0.mk (H2.out.below hd); have K3 := Aside0.mk (K2.out.trans (Fk.below (Nat.le_trans hBw K2.out.size) hd)); have q3 := (hd.block w.heap.size (blk_lt Q2.out)).trans Q2.out; have Q3 := Aside0.mk q3; have c0 := blk_cell q3 0; have c1 := blk_cell q3 1; have c2 := blk_cell q3 2; have f0 := blk_frozen q3 0; have f1 := blk_frozen q3 1; have f2 := blk_frozen q3 2; clear hd q3))
    refine bodyPost_ret (results_cell_row (P := Tryd.prog) rfl _ _ w.heap.size 63 #[.int .i64 2, .int .i64 y1, .string ⟨#[]⟩] (0, 0) _ rfl ((blk_set (blk_set (blk_set Q3.out 0 _) 1 _) 2 _).trans rfl) hu63 rfl (by kernel_rfl)) rfl ?_
    exact value_end hlt hBw H3.out K3.out
  by_cases n4 : n = 4
  · subst n4
    rw [if_neg (by decide), if_neg (by decide), if_neg (by decide), if_pos rfl] at hr
    obtain ⟨g1, hr2⟩ := Prod.mk.inj hr
    obtain ⟨g2, hx⟩ := Prod.mk.inj hr2
    subst g1
    subst g2
    have HX := Aside0.mk hx
    clear hr hr2 hx hk8
    go_enter Tryd.func29, Tryd.ntmps29
    go_wp2_with (first | (go_at_call 59; refine (octet B b s 4 a e 4 a1 e1 _ H.out hB ha hs hz HN.out).mono ?_; rintro r w1 ⟨rfl, hh, hk⟩; have H1 := Aside0.mk hh; have K1 := Aside0.mk (K.out.trans hk); have q1 := (hk.oth w.heap.size (by omega) (by simp)).trans (blk_new w _); have Q1 := Aside0.mk q1; clear hh hk q1) | (go_at_call 32; refine (text B b s a1 e1 v3 a' e' _ H1.out hB hg ha1 h4 hz HX.out).mono ?_; rintro r w2 ⟨rfl, hh, hk⟩; have H2 := Aside0.mk hh; have K2 := Aside0.mk (K1.out.trans hk); have q2 := (hk.oth w.heap.size (by omega) (blk_lt Q1.out)).trans Q1.out; have Q2 := Aside0.mk q2; have c0 := blk_cell q2 0; have c1 := blk_cell q2 1; have c2 := blk_cell q2 2; have f0 := blk_frozen q2 0; have f1 := blk_frozen q2 1; have f2 := blk_frozen q2 2; clear hh hk q2))
    refine bodyPost_ret (results_cell_row (P := Tryd.prog) rfl _ _ w.heap.size 63 #[.int .i64 3, .int .i64 0, .string v3] (0, 0) _ rfl ((blk_set (blk_set (blk_set Q2.out 0 _) 1 _) 2 _).trans rfl) hu63 rfl (by kernel_rfl)) rfl ?_
    exact value_end hlt hBw H2.out K2.out
  · obtain rfl : n = 0 := by omega
    rw [if_neg n1, if_neg n2, if_neg n3, if_neg n4] at hr
    obtain ⟨rfl, rfl, rfl, rfl, rfl⟩ := pr5 hr
    clear hr hk8
    go_enter Tryd.func29, Tryd.ntmps29
    go_wp2_with (go_at_call 59; refine (octet B b s 4 a e 0 a1 e1 _ H.out hB ha hs hz HN.out).mono ?_; rintro r w1 ⟨rfl, hh, hk⟩; have H1 := Aside0.mk hh; have K1 := Aside0.mk (K.out.trans hk); have q1 := (hk.oth w.heap.size (by omega) (by simp)).trans (blk_new w _); have Q1 := Aside0.mk q1; have c0 := blk_cell q1 0; have c1 := blk_cell q1 1; have c2 := blk_cell q1 2; have f0 := blk_frozen q1 0; have f1 := blk_frozen q1 1; have f2 := blk_frozen q1 2; clear hh hk q1)
    refine bodyPost_ret (results_cell_row (P := Tryd.prog) rfl _ _ w.heap.size 63 #[.int .i64 0, .int .i64 0, .string ⟨#[]⟩] (0, 0) _ rfl ((blk_set (blk_set (blk_set Q1.out 0 _) 1 _) 2 _).trans rfl) hu63 rfl (by kernel_rfl)) rfl ?_
    exact value_end hlt hBw H1.out K1.out
theorem u32_wraps (n : Int) (h₀ : 0 ≤ n) (h₁ : n < 2 ^ 32) : IntKind.u32.wrap n = n := by rw [IntKind.wrap_u32]; omega
theorem or_low (i : Nat) (x y : Int) (hx₀ : 0 ≤ x) (hx : x % 2 ^ i = 0) (hx₁ : x < 2 ^ 32) (hy₀ : 0 ≤ y) (hy : y < 2 ^ i) (hy₁ : y < 2 ^ 32) : bits .or .u32 y x = y + x := by
  have hc : bits .or .u32 y x = bits .or .u32 x y := by unfold bits; simp only [BitVec.or_comm]
  rw [hc, bits_join .u32 32 (by decide) u32_wraps i x y hx₀ hx hx₁ hy₀ hy hy₁, Int.add_comm]
theorem or4 {y0 y1 y2 y3 : Int} (h0 : 0 ≤ y0 ∧ y0 ≤ 255) (h1 : 0 ≤ y1 ∧ y1 ≤ 255) (h2 : 0 ≤ y2 ∧ y2 ≤ 255) (h3 : 0 ≤ y3 ∧ y3 ≤ 255) :
    bits .or .u32 (bits .or .u32 (bits .or .u32 y0 (y1 * 256)) (y2 * 65536)) (y3 * 16777216) = y0 + y1 * 256 + y2 * 65536 + y3 * 16777216 := by
  rw [or_low 8 (y1 * 256) y0 (by omega) (by omega) (by omega) (by omega) (by omega) (by omega), or_low 16 (y2 * 65536) _ (by omega) (by omega) (by omega) (by omega) (by omega) (by omega), or_low 24 (y3 * 16777216) _ (by omega) (by omega) (by omega) (by omega) (by omega) (by omega)]
def le4 (x : ByteArray) : Int := bt x 0 + bt x 1 * 256 + bt x 2 * 65536 + bt x 3 * 16777216
def rWord (s : ByteArray) (a e : Int) : Int × Int × Int := (if (rBytes s 4 a e).2.2 = 0 then le4 (rBytes s 4 a e).1 else 0, (rBytes s 4 a e).2)
set_option maxHeartbeats 8000000 in
theorem word (B b : Nat) (s : ByteArray) (a e : Int) (v : Int) (a' e' : Int) (w : World) (h : RD b s a e w) (hB : B ≤ b) (ha : 0 ≤ a) (hs : a ≤ (s.size : Int)) (hz : s.size ≤ 140737488351232) (hr : rWord s a e = (v, a', e')) :
    Calls Tryd.prog 27 #[.pointer (some ⟨b, 0, none⟩)] w fun r w' => r = .returned (.int .u32 v) ∧ RD b s a' e' w' ∧ Fk B b w w' := by
  obtain ⟨h1, h2, _, h3, _⟩ := rBytes_ok (e := e) (show (0 : Int) ≤ 4 by decide) ha hs
  unfold rWord at hr
  obtain ⟨x, a1, e1, hn⟩ : ∃ x a1 e1, rBytes s 4 a e = (x, a1, e1) := ⟨_, _, _, rfl⟩
  rw [hn] at hr h1 h2 h3
  dsimp only at hr h1 h2 h3
  obtain ⟨g1, g2, g3⟩ := pr3 hr
  subst g1
  subst g2
  subst g3
  have H := Aside0.mk h
  have HN := Aside0.mk hn
  have hmix : Tryd.prog.follows .mixedOrders = true := by kernel_rfl
  clear h hn hr
  by_cases he : e1 = 0
  · subst he
    rw [if_pos rfl]
    have hz4 := h3 rfl
    have hx : (4 : Int).toNat = 4 := rfl
    rw [hx] at hz4
    have b0 := bt_at x 0
    have b1 := bt_at x 1
    have b2 := bt_at x 2
    have b3 := bt_at x 3
    have r0 := bt_range x 0
    have r1 := bt_range x 1
    have r2 := bt_range x 2
    have r3 := bt_range x 3
    unfold le4
    obtain ⟨y0, hy0⟩ : ∃ y, bt x 0 = y := ⟨_, rfl⟩
    obtain ⟨y1, hy1⟩ : ∃ y, bt x 1 = y := ⟨_, rfl⟩
    obtain ⟨y2, hy2⟩ : ∃ y, bt x 2 = y := ⟨_, rfl⟩
    obtain ⟨y3, hy3⟩ : ∃ y, bt x 3 = y := ⟨_, rfl⟩
    rw [hy0] at b0 r0
    rw [hy1] at b1 r1
    rw [hy2] at b2 r2
    rw [hy3] at b3 r3
    rw [hy0, hy1, hy2, hy3]
    simp only [Int.toNat_zero, Int.reduceToNat] at b0 b1 b2 b3
    have l0 : 0 < x.size := by omega
    have l1 : 1 < x.size := by omega
    have l2 : 2 < x.size := by omega
    have l3 : 3 < x.size := by omega
    clear hy0 hy1 hy2 hy3 h3 hx h1 h2
    go_enter Tryd.func27, Tryd.ntmps27
    go_wp2_with (go_at_call 61; refine (bytes B b s 4 a e x a1 0 _ H.out hB (by decide) (by decide) ha hs hz HN.out).mono ?_; rintro r w1 ⟨rfl, hh, hk⟩; have H1 := Aside0.mk hh; have K1 := Aside0.mk hk; have g2 := hh.c2; rw [erv0] at g2; clear hh hk)
    go_quiet ((fail))
    go_wp2
    go_ret
    exact ⟨congrArg (fun z => Ending.returned (Value.int .u32 z)) (or4 r0 r1 r2 r3), H1.out.drewN _, K1.out.drewN _⟩
  · rw [if_neg he]
    clear h3
    go_enter Tryd.func27, Tryd.ntmps27
    go_wp2_with (go_at_call 61; refine (bytes B b s 4 a e x a1 e1 _ H.out hB (by decide) (by decide) ha hs hz HN.out).mono ?_; rintro r w1 ⟨rfl, hh, hk⟩; have H1 := Aside0.mk hh; have K1 := Aside0.mk hk; have g2 := hh.c2; rw [ervn he] at g2; clear hh hk)
    go_ret
    exact ⟨rfl, H1.out, K1.out⟩
def rSome {α : Type} (F : Int → Int → α × Int × Int) : Nat → Int → Int → List α × Int × Int
  | 0, a, e => ([], a, e)
  | n + 1, a, e => if e = 0 then ((F a e).1 :: (rSome F n (F a e).2.1 (F a e).2.2).1, (rSome F n (F a e).2.1 (F a e).2.2).2) else ([], a, e)
theorem R_fk {α : Type} {d : Kd α} {q : Nat} {w w' : World} {base B b : Nat} {ok : Nat → Prop} {v : Value} {xs : List α} (h : d.R q w base ok v xs) (hb : b < base) (hk : Fk B b w w') : d.R q w' base ok v xs :=
  Kd.R_mono (Kd.R_step (Kd.R_bound h) (fun k hk' hl => hk.oth k (by have := hk'.2.1; omega) hl)) (fun _ h => h.1)
theorem Fk.thenB {B b : Nat} {w w1 w2 : World} (h : Fk B b w w1) (hB : B ≤ w.heap.size) (hb : Below w.heap.size w1 w2) : Fk B b w w2 := ⟨h.bel.trans (hb.mono hB), fun k hk hl => (hb.block k hl).trans (h.oth k hk hl)⟩
theorem RD.keep {b : Nat} {s : ByteArray} {a e : Int} {N : Nat} {w w' : World} (h : RD b s a e w) (hN : b < N) (hb : Below N w w') : RD b s a e w' := (hb.block b hN).trans h
structure SomeAt {α : Type} (d : Kd α) (q : Nat) (F : Int → Int → α × Int × Int) (B b : Nat) (s : ByteArray) (w : World) (xs : List α) (a' e' : Int) (m : Nat) (v : Value) (W : World) (ys : List α) (a e : Int) : Prop where
  a0 : 0 ≤ a
  a1 : a ≤ (s.size : Int)
  rd : RD b s a e W
  fk : Fk B b w W
  row : d.R q W w.heap.size (fun _ => True) v ys
  tail : rSome F m a e = ((rSome F m a e).1, a', e')
  all : ys ++ (rSome F m a e).1 = xs
  len : ys.length + m ≤ 2000
theorem SomeAt.start {α : Type} {d : Kd α} {q : Nat} {F : Int → Int → α × Int × Int} {B b : Nat} {s : ByteArray} {w : World} {xs : List α} {a' e' a e : Int} {m : Nat} (ha : 0 ≤ a) (hs : a ≤ (s.size : Int)) (h : RD b s a e w) (hm : m ≤ 2000) (hr : rSome F m a e = (xs, a', e')) :
    SomeAt d q F B b s w xs a' e' m (.slice none 0 0) w [] a e := ⟨ha, hs, h, Fk.refl _ _ _, Kd.R_nil _ _ _ _ _, by rw [hr], by rw [hr]; rfl, by simpa using hm⟩
theorem SomeAt.step {α : Type} {d : Kd α} {q : Nat} {F : Int → Int → α × Int × Int} {B b : Nat} {s : ByteArray} {w : World} {xs : List α} {a' e' a : Int} {m : Nat} {v v' : Value} {W W1 W2 : World} {ys : List α} {x : α} {a1 e1 : Int}
    (h : SomeAt d q F B b s w xs a' e' (m + 1) v W ys a 0) (hB : B ≤ w.heap.size) (hF : F a 0 = (x, a1, e1)) (h1 : a ≤ a1) (h2 : a1 ≤ (s.size : Int)) (hr : RD b s a1 e1 W1) (hk : Fk B b W W1) (hx : d.R q W2 w.heap.size (fun _ => True) v' (ys ++ [x])) (hb : Below w.heap.size W1 W2) (hbl : b < w.heap.size) :
    SomeAt d q F B b s w xs a' e' m v' W2 (ys ++ [x]) a1 e1 := by
  have ht := h.tail
  have hl := h.all
  rw [rSome, if_pos rfl, hF] at ht hl
  dsimp only at ht hl
  refine ⟨Int.le_trans h.a0 h1, h2, hr.keep hbl hb, (h.fk.trans hk).thenB hB hb, hx, ?_, by rw [List.append_assoc]; exact hl, by have := h.len; simp; omega⟩
  have := (Prod.mk.inj ht).2
  exact Prod.ext rfl this
theorem SomeAt.stop0 {α : Type} {d : Kd α} {q : Nat} {F : Int → Int → α × Int × Int} {B b : Nat} {s : ByteArray} {w : World} {xs : List α} {a' e' a e : Int} {v : Value} {W : World} {ys : List α} {m : Nat} (h : SomeAt d q F B b s w xs a' e' m v W ys a e) (hm : m = 0 ∨ e ≠ 0) : d.R q W w.heap.size (fun _ => True) v xs ∧ RD b s a' e' W ∧ Fk B b w W := by
  have ht := h.tail
  have hl := h.all
  have e0 : rSome F m a e = ([], a, e) := by
    cases m with
    | zero => rfl
    | succ m => rw [rSome, if_neg (hm.resolve_left (by omega))]
  rw [e0] at ht hl
  obtain ⟨-, rfl, rfl⟩ := pr3 ht
  rw [List.append_nil] at hl
  subst hl
  exact ⟨h.row, h.rd, h.fk⟩
def rV (k : Nat) (s : ByteArray) (a e : Int) : S63 × Int × Int := (⟨(rValue k s a e).1, (rValue k s a e).2.1, (rValue k s a e).2.2.1⟩, (rValue k s a e).2.2.2)
def rU (s : ByteArray) (a e : Int) : S67 × Int × Int := (⟨(rUp s a e).1, (rUp s a e).2.1⟩, (rUp s a e).2.2)
theorem rV_eq {k : Nat} {s : ByteArray} {a e : Int} {x : S63} {a' e' : Int} (h : rV k s a e = (x, a', e')) : rValue k s a e = (x.f0, x.f1, x.f2, a', e') := by
  have h1 := congrArg (fun p => p.1) h
  have h2 := congrArg (fun p => p.2) h
  dsimp only at h1 h2
  rw [← h1, ← h2]
  rfl
theorem rU_eq {s : ByteArray} {a e : Int} {x : S67} {a' e' : Int} (h : rU s a e = (x, a', e')) : rUp s a e = (x.f0, x.f1, a', e') := by
  have h1 := congrArg (fun p => p.1) h
  have h2 := congrArg (fun p => p.2) h
  dsimp only at h1 h2
  rw [← h1, ← h2]
  rfl
theorem rV_ok {k : Nat} {s : ByteArray} {a e : Int} (hg : GvOk s) (ha : 0 ≤ a) (hs : a ≤ (s.size : Int)) : a ≤ (rV k s a e).2.1 ∧ (rV k s a e).2.1 ≤ (s.size : Int) ∧ (e ≠ 0 → (rV k s a e).2.2 = e) := by
  obtain ⟨_, _, h3, h4, h5⟩ := rOctet_ok (e := e) ha hs (show (0 : Int) ≤ 4 by decide)
  obtain ⟨b1, b2, b3, _, _⟩ := rBytes_ok (n := 8) (e := (rOctet s 4 a e).2.2) (by decide) (Int.le_trans ha h3) h4
  obtain ⟨t1, t2, t3, _⟩ := rText_ok (e := (rOctet s 4 a e).2.2) hg (Int.le_trans ha h3) h4
  unfold rV rValue
  dsimp only
  split
  · exact ⟨h3, h4, h5⟩
  · split
    · exact ⟨h3, h4, h5⟩
    · split
      · exact ⟨Int.le_trans h3 b1, b2, fun he => (b3 (by rw [h5 he]; exact he)).trans (h5 he)⟩
      · split
        · exact ⟨Int.le_trans h3 t1, t2, fun he => (t3 (by rw [h5 he]; exact he)).trans (h5 he)⟩
        · exact ⟨h3, h4, h5⟩
theorem rU_ok {s : ByteArray} {a e : Int} (hg : GvOk s) (ha : 0 ≤ a) (hs : a ≤ (s.size : Int)) : a ≤ (rU s a e).2.1 ∧ (rU s a e).2.1 ≤ (s.size : Int) ∧ (e ≠ 0 → (rU s a e).2.2 = e) := by
  obtain ⟨_, _, h3, h4, h5⟩ := rOctet_ok (e := e) ha hs (show (0 : Int) ≤ 1 by decide)
  obtain ⟨_, _, _, n1, n2, n3, _⟩ := rNum_ok (e := (rOctet s 1 a e).2.2) hg (Int.le_trans ha h3) h4 (Int.le_refl 0) (show (0 : Int) ≤ 16777215 by decide)
  exact ⟨Int.le_trans h3 n1, n2, fun he => (n3 (by rw [h5 he]; exact he)).trans (h5 he)⟩
set_option maxRecDepth 100000 in
set_option maxHeartbeats 8000000 in
theorem some26 (B b : Nat) (s : ByteArray) (m : Nat) (a e : Int) (xs : List Int) (a' e' : Int) (w : World) (h : RD b s a e w) (hB : B ≤ b) (hBw : B ≤ w.heap.size) (hg : GvOk s) (hm : m ≤ 2000) (ha : 0 ≤ a) (hs : a ≤ (s.size : Int)) (hz : s.size ≤ 140737488351232) (hr : rSome (fun a e => rWord s a e) m a e = (xs, a', e')) :
    Calls Tryd.prog 26 #[.pointer (some ⟨b, 0, none⟩), .int .i64 (m : Int), .func (.func 27) #[.pointer (some ⟨b, 0, none⟩)] #[]] w fun r w' => ∃ v, r = .returned v ∧ (Kd.int .u32).R 61 w' w.heap.size (fun _ => True) v xs ∧ RD b s a' e' w' ∧ Fk B b w w' := by
  have hbl := h.lt
  have H0 := Aside0.mk (SomeAt.start (d := (Kd.int .u32)) (q := 61) (B := B) ha hs h hm hr)
  clear h hr ha hs hm
  go_enter Tryd.func26, Tryd.ntmps26
  go_wp2
  go_loopg [1, 7] m (fun kq v1 v7 W' => ∃ (j : Nat) (ys : List Int) (a1 e1 : Int), v1 = .int .i64 (j : Int) ∧ Aside0 (kq = j) ∧ Aside0 (SomeAt (Kd.int .u32) 61 (fun a e => rWord s a e) B b s w xs a' e' j v7 W' ys a1 e1))
  case atStart => exact ⟨m, [], a, e, rfl, ⟨rfl⟩, H0⟩
  case round =>
    obtain ⟨j, ys, a1, e1, rfl, HJ, HV⟩ := hrel
    clear H0
    have c2 := HV.out.rd.c2
    by_cases hj : 0 < j
    · by_cases he : e1 = 0
      · subst he
        rw [erv0] at c2
        obtain ⟨i, rfl⟩ : ∃ i, j = i + 1 := ⟨j - 1, by omega⟩
        obtain ⟨gm, hgm⟩ : ∃ gm, gk = gm + 1 := ⟨gk - 1, by have := HJ.out; omega⟩
        have HGM := Aside0.mk hgm
        have hok := (show a1 ≤ (rWord s a1 0).2.1 ∧ (rWord s a1 0).2.1 ≤ (s.size : Int) from (fun h => ⟨h.1, h.2.1⟩) (rBytes_ok (n := 4) (e := 0) (by decide) HV.out.a0 HV.out.a1))
        obtain ⟨x, a2, e2, hx⟩ : ∃ x a2 e2, (fun a e => rWord s a e) a1 0 = (x, a2, e2) := ⟨_, _, _, rfl⟩
        have hx' := hx
        dsimp only at hx'
        have HX := Aside0.mk hx
        have HOK : Aside0 (a1 ≤ a2 ∧ a2 ≤ (s.size : Int)) := ⟨by have h := hok; rw [hx'] at h; exact h⟩
        have HLN : Aside0 (ys.length ≤ 2000) := ⟨by have := HV.out.len; omega⟩
        have WW : Aside0 (wrap64 (i : Int) = (i : Int)) := ⟨by unfold wrap64; have := HV.out.len; omega⟩
        have HX' := Aside0.mk hx'
        clear hgm hx hx' hok
        go_wp2_with (first | (go_at_call 27; refine (word B b s a1 0 x a2 e2 _ HV.out.rd hB HV.out.a0 HV.out.a1 hz HX'.out).mono ?_; rintro r w1 ⟨rfl, hh, hk⟩; have H1 := Aside0.mk hh; have K1 := Aside0.mk hk; clear hh hk) | (at_builtin; refine Kd.R_append (Kd.int .u32) (w0 := w1) w.heap.size rfl (.tmp 19) (.tmp 22) 33 61 (.int .u32 0) 4 rfl Tryd.underlying33 info61 rfl (by decide) (by omega) _ ys x [.int .u32 x] (fun _ => True) (fun _ => False) rfl (by first | (go_simp; done) | (go_simp; rfl) | rfl) rfl (fun _ hk => hk.elim) (fun _ _ => trivial) (R_fk HV.out.row hbl K1.out) (Below.refl _ _) (Nat.le_trans HV.out.fk.size K1.out.size) (by have := HLN.out; omega) ?_; intro v3 w3 ho hb3 _ _; have HS := Aside0.mk (HV.out.step hBw HX.out HOK.out.1 HOK.out.2 H1.out K1.out ho hb3 hbl); clear ho hb3))
        have hgk := HGM.out
        subst hgk
        go_roundg gm
        case measure => have := HJ.out; omega
        case rel => exact ⟨i, _, a2, e2, by rw [WW.out], ⟨by have := HJ.out; omega⟩, HS⟩
      · rw [ervn he] at c2
        have HE := Aside0.mk (HV.out.stop0 (.inr he))
        have t1 : decide ((0 : Int) < (j : Int)) = true := decide_eq_true (by omega)
        clear HV he
        go_wp2
        go_ret
        exact ⟨_, rfl, HE.out⟩
    · obtain rfl : j = 0 := by omega
      have HE := Aside0.mk (HV.out.stop0 (.inl rfl))
      clear HV hj c2
      go_wp2
      go_ret
      exact ⟨_, rfl, HE.out⟩
set_option maxRecDepth 100000 in
set_option maxHeartbeats 8000000 in
theorem some28 (kc : Nat) (hk8 : ∀ s : ByteArray, s.size ≤ 8 → ∃ r, impl_GetInt.f kc s 0 = some r) (B b : Nat) (s : ByteArray) (m : Nat) (a e : Int) (xs : List S63) (a' e' : Int) (w : World) (h : RD b s a e w) (hB : B ≤ b) (hBw : B ≤ w.heap.size) (hg : GvOk s) (hm : m ≤ 2000) (ha : 0 ≤ a) (hs : a ≤ (s.size : Int)) (hz : s.size ≤ 140737488351232) (hr : rSome (fun a e => rV kc s a e) m a e = (xs, a', e')) :
    Calls Tryd.prog 28 #[.pointer (some ⟨b, 0, none⟩), .int .i64 (m : Int), .func (.func 29) #[.pointer (some ⟨b, 0, none⟩)] #[]] w fun r w' => ∃ v, r = .returned v ∧ k63.R 63 w' w.heap.size (fun _ => True) v xs ∧ RD b s a' e' w' ∧ Fk B b w w' := by
  have hu63 := Tryd.underlying63
  have hbl := h.lt
  have H0 := Aside0.mk (SomeAt.start (d := k63) (q := 63) (B := B) ha hs h hm hr)
  clear h hr ha hs hm
  go_enter Tryd.func28, Tryd.ntmps28
  go_wp2
  go_loopg [1, 7] m (fun kq v1 v7 W' => ∃ (j : Nat) (ys : List S63) (a1 e1 : Int), v1 = .int .i64 (j : Int) ∧ Aside0 (kq = j) ∧ Aside0 (SomeAt k63 63 (fun a e => rV kc s a e) B b s w xs a' e' j v7 W' ys a1 e1))
  case atStart => exact ⟨m, [], a, e, rfl, ⟨rfl⟩, H0⟩
  case round =>
    obtain ⟨j, ys, a1, e1, rfl, HJ, HV⟩ := hrel
    clear H0
    have c2 := HV.out.rd.c2
    by_cases hj : 0 < j
    · by_cases he : e1 = 0
      · subst he
        rw [erv0] at c2
        obtain ⟨i, rfl⟩ : ∃ i, j = i + 1 := ⟨j - 1, by omega⟩
        obtain ⟨gm, hgm⟩ : ∃ gm, gk = gm + 1 := ⟨gk - 1, by have := HJ.out; omega⟩
        have HGM := Aside0.mk hgm
        have hok := (show a1 ≤ (rV kc s a1 0).2.1 ∧ (rV kc s a1 0).2.1 ≤ (s.size : Int) from (fun h => ⟨h.1, h.2.1⟩) (rV_ok (k := kc) (e := 0) hg HV.out.a0 HV.out.a1))
        obtain ⟨x, a2, e2, hx⟩ : ∃ x a2 e2, (fun a e => rV kc s a e) a1 0 = (x, a2, e2) := ⟨_, _, _, rfl⟩
        have hx' := hx
        dsimp only at hx'
        have HX := Aside0.mk hx
        have HOK : Aside0 (a1 ≤ a2 ∧ a2 ≤ (s.size : Int)) := ⟨by have h := hok; rw [hx'] at h; exact h⟩
        have HLN : Aside0 (ys.length ≤ 2000) := ⟨by have := HV.out.len; omega⟩
        have WW : Aside0 (wrap64 (i : Int) = (i : Int)) := ⟨by unfold wrap64; have := HV.out.len; omega⟩
        have HX' := Aside0.mk hx'
        clear hgm hx hx' hok
        go_wp2_with (first | (go_at_call 29; refine (value kc hk8 B b s a1 0 x.f0 x.f1 x.f2 a2 e2 _ HV.out.rd hB (Nat.le_trans hBw HV.out.fk.size) hg HV.out.a0 HV.out.a1 hz (rV_eq HX'.out)).mono ?_; rintro r w1 ⟨rfl, hh, hk⟩; have H1 := Aside0.mk hh; have K1 := Aside0.mk hk; clear hh hk) | (at_builtin; refine Kd.R_append k63 (w0 := w1) w.heap.size rfl (.tmp 19) (.tmp 22) 34 63 (.agg #[(.int .i64 0), (.int .i64 0), (.string ⟨#[]⟩)]) 32 rfl Tryd.underlying34 info63 rfl (by decide) (by omega) _ ys x [.int .i64 x.f0, .int .i64 x.f1, .string x.f2] (fun _ => True) (fun _ => False) rfl (by first | (go_simp; done) | (go_simp; rfl) | rfl) (k63_mkM _ _ _ x) (fun _ hk => hk.elim) (fun _ _ => trivial) (R_fk HV.out.row hbl K1.out) (Below.refl _ _) (Nat.le_trans HV.out.fk.size K1.out.size) (by have := HLN.out; omega) ?_; intro v3 w3 ho hb3 _ _; have HS := Aside0.mk (HV.out.step hBw HX.out HOK.out.1 HOK.out.2 H1.out K1.out ho hb3 hbl); clear ho hb3))
        have hgk := HGM.out
        subst hgk
        go_roundg gm
        case measure => have := HJ.out; omega
        case rel => exact ⟨i, _, a2, e2, by rw [WW.out], ⟨by have := HJ.out; omega⟩, HS⟩
      · rw [ervn he] at c2
        have HE := Aside0.mk (HV.out.stop0 (.inr he))
        have t1 : decide ((0 : Int) < (j : Int)) = true := decide_eq_true (by omega)
        clear HV he
        go_wp2
        go_ret
        exact ⟨_, rfl, HE.out⟩
    · obtain rfl : j = 0 := by omega
      have HE := Aside0.mk (HV.out.stop0 (.inl rfl))
      clear HV hj c2
      go_wp2
      go_ret
      exact ⟨_, rfl, HE.out⟩
set_option maxRecDepth 100000 in
set_option maxHeartbeats 8000000 in
theorem some30 (B b : Nat) (s : ByteArray) (m : Nat) (a e : Int) (xs : List S67) (a' e' : Int) (w : World) (h : RD b s a e w) (hB : B ≤ b) (hBw : B ≤ w.heap.size) (hg : GvOk s) (hm : m ≤ 2000) (ha : 0 ≤ a) (hs : a ≤ (s.size : Int)) (hz : s.size ≤ 140737488351232) (hr : rSome (fun a e => rU s a e) m a e = (xs, a', e')) :
    Calls Tryd.prog 30 #[.pointer (some ⟨b, 0, none⟩), .int .i64 (m : Int), .func (.func 31) #[.pointer (some ⟨b, 0, none⟩)] #[]] w fun r w' => ∃ v, r = .returned v ∧ k67.R 67 w' w.heap.size (fun _ => True) v xs ∧ RD b s a' e' w' ∧ Fk B b w w' := by
  have hu67 := Tryd.underlying67
  have hbl := h.lt
  have H0 := Aside0.mk (SomeAt.start (d := k67) (q := 67) (B := B) ha hs h hm hr)
  clear h hr ha hs hm
  go_enter Tryd.func30, Tryd.ntmps30
  go_wp2
  go_loopg [1, 7] m (fun kq v1 v7 W' => ∃ (j : Nat) (ys : List S67) (a1 e1 : Int), v1 = .int .i64 (j : Int) ∧ Aside0 (kq = j) ∧ Aside0 (SomeAt k67 67 (fun a e => rU s a e) B b s w xs a' e' j v7 W' ys a1 e1))
  case atStart => exact ⟨m, [], a, e, rfl, ⟨rfl⟩, H0⟩
  case round =>
    obtain ⟨j, ys, a1, e1, rfl, HJ, HV⟩ := hrel
    clear H0
    have c2 := HV.out.rd.c2
    by_cases hj : 0 < j
    · by_cases he : e1 = 0
      · subst he
        rw [erv0] at c2
        obtain ⟨i, rfl⟩ : ∃ i, j = i + 1 := ⟨j - 1, by omega⟩
        obtain ⟨gm, hgm⟩ : ∃ gm, gk = gm + 1 := ⟨gk - 1, by have := HJ.out; omega⟩
        have HGM := Aside0.mk hgm
        have hok := (show a1 ≤ (rU s a1 0).2.1 ∧ (rU s a1 0).2.1 ≤ (s.size : Int) from (fun h => ⟨h.1, h.2.1⟩) (rU_ok (e := 0) hg HV.out.a0 HV.out.a1))
        obtain ⟨x, a2, e2, hx⟩ : ∃ x a2 e2, (fun a e => rU s a e) a1 0 = (x, a2, e2) := ⟨_, _, _, rfl⟩
        have hx' := hx
        dsimp only at hx'
        have HX := Aside0.mk hx
        have HOK : Aside0 (a1 ≤ a2 ∧ a2 ≤ (s.size : Int)) := ⟨by have h := hok; rw [hx'] at h; exact h⟩
        have HLN : Aside0 (ys.length ≤ 2000) := ⟨by have := HV.out.len; omega⟩
        have WW : Aside0 (wrap64 (i : Int) = (i : Int)) := ⟨by unfold wrap64; have := HV.out.len; omega⟩
        have HX' := Aside0.mk hx'
        clear hgm hx hx' hok
        go_wp2_with (first | (go_at_call 31; refine (up B b s a1 0 x.f0 x.f1 a2 e2 _ HV.out.rd hB (Nat.le_trans hBw HV.out.fk.size) hg HV.out.a0 HV.out.a1 hz (rU_eq HX'.out)).mono ?_; rintro r w1 ⟨rfl, hh, hk⟩; have H1 := Aside0.mk hh; have K1 := Aside0.mk hk; clear hh hk) | (at_builtin; refine Kd.R_append k67 (w0 := w1) w.heap.size rfl (.tmp 19) (.tmp 22) 35 67 (.agg #[(.bool false), (.int .i64 0)]) 16 rfl Tryd.underlying35 info67 rfl (by decide) (by omega) _ ys x [.bool x.f0, .int .i64 x.f1] (fun _ => True) (fun _ => False) rfl (by first | (go_simp; done) | (go_simp; rfl) | rfl) (k67_mkM _ _ _ x) (fun _ hk => hk.elim) (fun _ _ => trivial) (R_fk HV.out.row hbl K1.out) (Below.refl _ _) (Nat.le_trans HV.out.fk.size K1.out.size) (by have := HLN.out; omega) ?_; intro v3 w3 ho hb3 _ _; have HS := Aside0.mk (HV.out.step hBw HX.out HOK.out.1 HOK.out.2 H1.out K1.out ho hb3 hbl); clear ho hb3))
        have hgk := HGM.out
        subst hgk
        go_roundg gm
        case measure => have := HJ.out; omega
        case rel => exact ⟨i, _, a2, e2, by rw [WW.out], ⟨by have := HJ.out; omega⟩, HS⟩
      · rw [ervn he] at c2
        have HE := Aside0.mk (HV.out.stop0 (.inr he))
        have t1 : decide ((0 : Int) < (j : Int)) = true := decide_eq_true (by omega)
        clear HV he
        go_wp2
        go_ret
        exact ⟨_, rfl, HE.out⟩
    · obtain rfl : j = 0 := by omega
      have HE := Aside0.mk (HV.out.stop0 (.inl rfl))
      clear HV hj c2
      go_wp2
      go_ret
      exact ⟨_, rfl, HE.out⟩
set_option maxRecDepth 100000 in
set_option maxHeartbeats 8000000 in
theorem some33 (B b : Nat) (s : ByteArray) (m : Nat) (a e : Int) (xs : List Int) (a' e' : Int) (w : World) (h : RD b s a e w) (hB : B ≤ b) (hBw : B ≤ w.heap.size) (hg : GvOk s) (hm : m ≤ 2000) (ha : 0 ≤ a) (hs : a ≤ (s.size : Int)) (hz : s.size ≤ 140737488351232) (hr : rSome (fun a e => rNum s 0 16777215 a e) m a e = (xs, a', e')) :
    Calls Tryd.prog 33 #[.pointer (some ⟨b, 0, none⟩), .int .i64 (m : Int), .func (.func 35) #[.pointer (some ⟨b, 0, none⟩)] #[]] w fun r w' => ∃ v, r = .returned v ∧ (Kd.int .i64).R 3 w' w.heap.size (fun _ => True) v xs ∧ RD b s a' e' w' ∧ Fk B b w w' := by
  have hbl := h.lt
  have H0 := Aside0.mk (SomeAt.start (d := (Kd.int .i64)) (q := 3) (B := B) ha hs h hm hr)
  clear h hr ha hs hm
  go_enter Tryd.func33, Tryd.ntmps33
  go_wp2
  go_loopg [1, 7] m (fun kq v1 v7 W' => ∃ (j : Nat) (ys : List Int) (a1 e1 : Int), v1 = .int .i64 (j : Int) ∧ Aside0 (kq = j) ∧ Aside0 (SomeAt (Kd.int .i64) 3 (fun a e => rNum s 0 16777215 a e) B b s w xs a' e' j v7 W' ys a1 e1))
  case atStart => exact ⟨m, [], a, e, rfl, ⟨rfl⟩, H0⟩
  case round =>
    obtain ⟨j, ys, a1, e1, rfl, HJ, HV⟩ := hrel
    clear H0
    have c2 := HV.out.rd.c2
    by_cases hj : 0 < j
    · by_cases he : e1 = 0
      · subst he
        rw [erv0] at c2
        obtain ⟨i, rfl⟩ : ∃ i, j = i + 1 := ⟨j - 1, by omega⟩
        obtain ⟨gm, hgm⟩ : ∃ gm, gk = gm + 1 := ⟨gk - 1, by have := HJ.out; omega⟩
        have HGM := Aside0.mk hgm
        have hok := (show a1 ≤ (rNum s 0 16777215 a1 0).2.1 ∧ (rNum s 0 16777215 a1 0).2.1 ≤ (s.size : Int) from (fun h => ⟨h.2.2.2.1, h.2.2.2.2.1⟩) (rNum_ok (e := 0) hg HV.out.a0 HV.out.a1 (Int.le_refl 0) (show (0 : Int) ≤ 16777215 by decide)))
        obtain ⟨x, a2, e2, hx⟩ : ∃ x a2 e2, (fun a e => rNum s 0 16777215 a e) a1 0 = (x, a2, e2) := ⟨_, _, _, rfl⟩
        have hx' := hx
        dsimp only at hx'
        have HX := Aside0.mk hx
        have HOK : Aside0 (a1 ≤ a2 ∧ a2 ≤ (s.size : Int)) := ⟨by have h := hok; rw [hx'] at h; exact h⟩
        have HLN : Aside0 (ys.length ≤ 2000) := ⟨by have := HV.out.len; omega⟩
        have WW : Aside0 (wrap64 (i : Int) = (i : Int)) := ⟨by unfold wrap64; have := HV.out.len; omega⟩
        have HX' := Aside0.mk hx'
        clear hgm hx hx' hok
        go_wp2_with (first | (go_at_call 35; refine (line B b s a1 0 x a2 e2 _ HV.out.rd hB hg HV.out.a0 HV.out.a1 hz HX'.out).mono ?_; rintro r w1 ⟨rfl, hh, hk⟩; have H1 := Aside0.mk hh; have K1 := Aside0.mk hk; clear hh hk) | (at_builtin; refine Kd.R_append (Kd.int .i64) (w0 := w1) w.heap.size rfl (.tmp 19) (.tmp 22) 32 3 (.int .i64 0) 8 rfl Tryd.underlying32 info3 rfl (by decide) (by omega) _ ys x [.int .i64 x] (fun _ => True) (fun _ => False) rfl (by first | (go_simp; done) | (go_simp; rfl) | rfl) rfl (fun _ hk => hk.elim) (fun _ _ => trivial) (R_fk HV.out.row hbl K1.out) (Below.refl _ _) (Nat.le_trans HV.out.fk.size K1.out.size) (by have := HLN.out; omega) ?_; intro v3 w3 ho hb3 _ _; have HS := Aside0.mk (HV.out.step hBw HX.out HOK.out.1 HOK.out.2 H1.out K1.out ho hb3 hbl); clear ho hb3))
        have hgk := HGM.out
        subst hgk
        go_roundg gm
        case measure => have := HJ.out; omega
        case rel => exact ⟨i, _, a2, e2, by rw [WW.out], ⟨by have := HJ.out; omega⟩, HS⟩
      · rw [ervn he] at c2
        have HE := Aside0.mk (HV.out.stop0 (.inr he))
        have t1 : decide ((0 : Int) < (j : Int)) = true := decide_eq_true (by omega)
        clear HV he
        go_wp2
        go_ret
        exact ⟨_, rfl, HE.out⟩
    · obtain rfl : j = 0 := by omega
      have HE := Aside0.mk (HV.out.stop0 (.inl rfl))
      clear HV hj c2
      go_wp2
      go_ret
      exact ⟨_, rfl, HE.out⟩
set_option maxRecDepth 100000 in
set_option maxHeartbeats 8000000 in
theorem some36 (B b : Nat) (s : ByteArray) (m : Nat) (a e : Int) (xs : List ByteArray) (a' e' : Int) (w : World) (h : RD b s a e w) (hB : B ≤ b) (hBw : B ≤ w.heap.size) (hg : GvOk s) (hm : m ≤ 2000) (ha : 0 ≤ a) (hs : a ≤ (s.size : Int)) (hz : s.size ≤ 140737488351232) (hr : rSome (fun a e => rText s a e) m a e = (xs, a', e')) :
    Calls Tryd.prog 36 #[.pointer (some ⟨b, 0, none⟩), .int .i64 (m : Int), .func (.func 32) #[.pointer (some ⟨b, 0, none⟩)] #[]] w fun r w' => ∃ v, r = .returned v ∧ Kd.string.R 9 w' w.heap.size (fun _ => True) v xs ∧ RD b s a' e' w' ∧ Fk B b w w' := by
  have hbl := h.lt
  have H0 := Aside0.mk (SomeAt.start (d := Kd.string) (q := 9) (B := B) ha hs h hm hr)
  clear h hr ha hs hm
  go_enter Tryd.func36, Tryd.ntmps36
  go_wp2
  go_loopg [1, 7] m (fun kq v1 v7 W' => ∃ (j : Nat) (ys : List ByteArray) (a1 e1 : Int), v1 = .int .i64 (j : Int) ∧ Aside0 (kq = j) ∧ Aside0 (SomeAt Kd.string 9 (fun a e => rText s a e) B b s w xs a' e' j v7 W' ys a1 e1))
  case atStart => exact ⟨m, [], a, e, rfl, ⟨rfl⟩, H0⟩
  case round =>
    obtain ⟨j, ys, a1, e1, rfl, HJ, HV⟩ := hrel
    clear H0
    have c2 := HV.out.rd.c2
    by_cases hj : 0 < j
    · by_cases he : e1 = 0
      · subst he
        rw [erv0] at c2
        obtain ⟨i, rfl⟩ : ∃ i, j = i + 1 := ⟨j - 1, by omega⟩
        obtain ⟨gm, hgm⟩ : ∃ gm, gk = gm + 1 := ⟨gk - 1, by have := HJ.out; omega⟩
        have HGM := Aside0.mk hgm
        have hok := (show a1 ≤ (rText s a1 0).2.1 ∧ (rText s a1 0).2.1 ≤ (s.size : Int) from (fun h => ⟨h.1, h.2.1⟩) (rText_ok (e := 0) hg HV.out.a0 HV.out.a1))
        obtain ⟨x, a2, e2, hx⟩ : ∃ x a2 e2, (fun a e => rText s a e) a1 0 = (x, a2, e2) := ⟨_, _, _, rfl⟩
        have hx' := hx
        dsimp only at hx'
        have HX := Aside0.mk hx
        have HOK : Aside0 (a1 ≤ a2 ∧ a2 ≤ (s.size : Int)) := ⟨by have h := hok; rw [hx'] at h; exact h⟩
        have HLN : Aside0 (ys.length ≤ 2000) := ⟨by have := HV.out.len; omega⟩
        have WW : Aside0 (wrap64 (i : Int) = (i : Int)) := ⟨by unfold wrap64; have := HV.out.len; omega⟩
        have HX' := Aside0.mk hx'
        clear hgm hx hx' hok
        go_wp2_with (first | (go_at_call 32; refine (text B b s a1 0 x a2 e2 _ HV.out.rd hB hg HV.out.a0 HV.out.a1 hz HX'.out).mono ?_; rintro r w1 ⟨rfl, hh, hk⟩; have H1 := Aside0.mk hh; have K1 := Aside0.mk hk; clear hh hk) | (at_builtin; refine Kd.R_append Kd.string (w0 := w1) w.heap.size rfl (.tmp 19) (.tmp 22) 36 9 (.string ⟨#[]⟩) 16 rfl Tryd.underlying36 info9 rfl (by decide) (by omega) _ ys x [.string x] (fun _ => True) (fun _ => False) rfl (by first | (go_simp; done) | (go_simp; rfl) | rfl) rfl (fun _ hk => hk.elim) (fun _ _ => trivial) (R_fk HV.out.row hbl K1.out) (Below.refl _ _) (Nat.le_trans HV.out.fk.size K1.out.size) (by have := HLN.out; omega) ?_; intro v3 w3 ho hb3 _ _; have HS := Aside0.mk (HV.out.step hBw HX.out HOK.out.1 HOK.out.2 H1.out K1.out ho hb3 hbl); clear ho hb3))
        have hgk := HGM.out
        subst hgk
        go_roundg gm
        case measure => have := HJ.out; omega
        case rel => exact ⟨i, _, a2, e2, by rw [WW.out], ⟨by have := HJ.out; omega⟩, HS⟩
      · rw [ervn he] at c2
        have HE := Aside0.mk (HV.out.stop0 (.inr he))
        have t1 : decide ((0 : Int) < (j : Int)) = true := decide_eq_true (by omega)
        clear HV he
        go_wp2
        go_ret
        exact ⟨_, rfl, HE.out⟩
    · obtain rfl : j = 0 := by omega
      have HE := Aside0.mk (HV.out.stop0 (.inl rfl))
      clear HV hj c2
      go_wp2
      go_ret
      exact ⟨_, rfl, HE.out⟩
end Go.Proofs.YtiekodnojmkfaaaDoor.PFnExactLoad
