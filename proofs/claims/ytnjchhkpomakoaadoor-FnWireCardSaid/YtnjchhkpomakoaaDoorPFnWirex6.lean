-- Written by this session's own program over the kit's print: contracts by hand stand among the printed ones. Lean checks it.
import Derived.Test.YtnjchhkpomakoaaDoorPFnWirex0
import Derived.Test.YtnjchhkpomakoaaDoorPFnWirex1
import Derived.Test.YtnjchhkpomakoaaDoorPFnWirex2
import Derived.Test.YtnjchhkpomakoaaDoorPFnWirex3
import Derived.Test.YtnjchhkpomakoaaDoorPFnWirex4
import Derived.Test.YtnjchhkpomakoaaDoorPFnWirex5
namespace Go.Proofs.YtnjchhkpomakoaaDoor.PFnWire
open Go.RowKit Go.Proofs.YtnjchhkpomakoaaDoorW.PrintWords Go.Proofs.YtnjchhkpomakoaaDoorW.PrintLast Go.Proofs.YtnjchhkpomakoaaDoorW.PrintMore
attribute [local go_sem] max2_int min2_int max_two min_two max_three min_three max_four min_four   -- for this text's walks alone
set_option linter.unusedVariables false
set_option linter.unusedSimpArgs false

attribute [local go_sem high] eqA28
/-! ### laws_FnWire: function 7 -/
mutual
def laws_FnWire.j0 : Nat → List Int → List Int → Bool → Option (Bool)
  | 0, _, _, _ => none
  | k + 1, x0, x1, x28 => if x28 = true then (some true) else ((spec_DrawPutVarint.f k x0).bind fun t172 => ((spec_DrawPutInt.f k x0).bind fun t173 => ((laws_wPick.f x1 0).bind fun t174 => (if 0 ≤ (Int.tmod t174 4) then (if (Int.tmod t174 4) ≤ 3 then ((laws_wPick.f x1 1).bind fun t175 => ((laws_wPick.f x1 2).bind fun t176 => ((some (([(t175) % 256, (t176) % 256] : List Int) : List Int)).bind fun y177 => ((impl_PutVarint.f k t172).bind fun t180 => ((spec_PutVarint.f k t172).bind fun t181 => (if t180.toList = t181.toList then (if (t180.size : Int) > 0 then (if ((⟨#[112, 114, 101]⟩ : ByteArray).extract 0 ((Int.tmod t174 4) : Int).toNat).size + t180.size ≤ 9223372036854775807 then (if (((⟨#[112, 114, 101]⟩ : ByteArray).extract 0 ((Int.tmod t174 4) : Int).toNat) ++ t180).size + (strOfNums y177).size ≤ 9223372036854775807 then ((impl_GetVarint.f k ((((⟨#[112, 114, 101]⟩ : ByteArray).extract 0 ((Int.tmod t174 4) : Int).toNat) ++ t180) ++ (strOfNums y177)) (((⟨#[112, 114, 101]⟩ : ByteArray).extract 0 ((Int.tmod t174 4) : Int).toNat).size : Int)).bind fun bt182 => (if bt182.2.2 = true then (if bt182.1 = t172 then (if bt182.2.1 = (wrap64 ((((⟨#[112, 114, 101]⟩ : ByteArray).extract 0 ((Int.tmod t174 4) : Int).toNat).size : Int) + (t180.size : Int))) then (laws_FnWire.j1 k x0 t173 ((⟨#[112, 114, 101]⟩ : ByteArray).extract 0 ((Int.tmod t174 4) : Int).toNat) (strOfNums y177)) else (some false)) else (some false)) else (some false))) else (none)) else (none)) else (laws_FnWire.j1 k x0 t173 ((⟨#[112, 114, 101]⟩ : ByteArray).extract 0 ((Int.tmod t174 4) : Int).toNat) (strOfNums y177))) else (some false))))))) else (none)) else (none)))))
def laws_FnWire.j1 : Nat → List Int → Int → ByteArray → ByteArray → Option (Bool)
  | 0, _, _, _, _ => none
  | k + 1, x0, x6, x7, x8 => (impl_PutInt.f x6).bind fun t185 => ((spec_PutInt.f k x6).bind fun t186 => (if t185.toList = t186.toList then (if x7.size + t185.size ≤ 9223372036854775807 then (if (x7 ++ t185).size + x8.size ≤ 9223372036854775807 then ((impl_GetInt.f k ((x7 ++ t185) ++ x8) (x7.size : Int)).bind fun bt187 => (if bt187.2.2 = true then (if bt187.1 = x6 then (if bt187.2.1 = (wrap64 ((x7.size : Int) + 8)) then (laws_FnWire.j2 k x0 ((t185.size : Int) != 8)) else (laws_FnWire.j2 k x0 true)) else (laws_FnWire.j2 k x0 true)) else (laws_FnWire.j2 k x0 true))) else (none)) else (none)) else (some false)))
def laws_FnWire.j2 : Nat → List Int → Bool → Option (Bool)
  | 0, _, _ => none
  | k + 1, x0, x118 => if x118 = true then (some false) else ((spec_DrawUnpack.f k x0).bind fun t190 => ((impl_Unpack.f t190).bind fun bt191 => ((impl_Pack.f bt191.1 bt191.2.1 bt191.2.2.1 bt191.2.2.2.1 bt191.2.2.2.2).bind fun t197 => (if t197 = t190 then ((impl_Wide.f bt191.1 bt191.2.1 bt191.2.2.2.2).bind fun bt198 => (laws_FnWire.j3 k x0 (!(bt198.1 == bt191.1) || (!(bt198.2.1 == bt191.2.1) || (!(bt198.2.2.1 == bt191.2.2.1) || (!(bt198.2.2.2.1 == bt191.2.2.2.1) || (!(bt198.2.2.2.2 == bt191.2.2.2.2)))))))) else (laws_FnWire.j3 k x0 true)))))
def laws_FnWire.j3 : Nat → List Int → Bool → Option (Bool)
  | 0, _, _ => none
  | k + 1, x0, x137 => if x137 = true then (some false) else ((spec_DrawPack.f k x0).bind fun bt203 => ((impl_Pack.f bt203.1 bt203.2.1 bt203.2.2.1 bt203.2.2.2.1 bt203.2.2.2.2).bind fun t209 => ((spec_Pack.f k bt203.1 bt203.2.1 bt203.2.2.1 bt203.2.2.2.1 bt203.2.2.2.2).bind fun t210 => (if t209 = t210 then ((spec_Pack.f k bt203.1 bt203.2.1 bt203.2.2.1 bt203.2.2.2.1 bt203.2.2.2.2).bind fun t211 => ((spec_Unpack.f t211).bind fun bt212 => (if (!(bt212.1 == bt203.1) || (!(bt212.2.1 == bt203.2.1) || (!(bt212.2.2.1 == bt203.2.2.1) || (!(bt212.2.2.2.1 == bt203.2.2.2.1) || (!(bt212.2.2.2.2 == bt203.2.2.2.2)))))) = true then (some true) else ((impl_Unpack.f t209).bind fun bt217 => (some (bt217.1 == bt203.1 && (bt217.2.1 == bt203.2.1 && (bt217.2.2.1 == bt203.2.2.1 && (bt217.2.2.2.1 == bt203.2.2.2.1 && (bt217.2.2.2.2 == bt203.2.2.2.2)))))))))) else (some false)))))
end
def laws_FnWire.f (k : Nat) (l0 : List Int) (l1 : List Int) : Option (Bool) := if (l0.length : Int) > 1048576 then (laws_FnWire.j0 k l0 l1 true) else (laws_FnWire.j0 k l0 l1 (decide ((l1.length : Int) > 1048576)))
theorem laws_FnWire.mono_l : ∀ k, (∀ y0 y1 y2, LeO (laws_FnWire.j0 k y0 y1 y2) (laws_FnWire.j0 (k + 1) y0 y1 y2)) ∧ (∀ y0 y1 y2 y3, LeO (laws_FnWire.j1 k y0 y1 y2 y3) (laws_FnWire.j1 (k + 1) y0 y1 y2 y3)) ∧ (∀ y0 y1, LeO (laws_FnWire.j2 k y0 y1) (laws_FnWire.j2 (k + 1) y0 y1)) ∧ (∀ y0 y1, LeO (laws_FnWire.j3 k y0 y1) (laws_FnWire.j3 (k + 1) y0 y1))
  | 0 => ⟨fun _ _ _ r h => by simp [laws_FnWire.j0] at h, fun _ _ _ _ r h => by simp [laws_FnWire.j1] at h, fun _ _ r h => by simp [laws_FnWire.j2] at h, fun _ _ r h => by simp [laws_FnWire.j3] at h⟩
  | k + 1 => by
    obtain ⟨ih0, ih1, ih2, ih3⟩ := laws_FnWire.mono_l k
    refine ⟨?_, ?_, ?_, ?_⟩
    · intro y0 y1 y2
      unfold laws_FnWire.j0
      repeat' first
      | (with_reducible exact ih0 _ _ _)
      | (with_reducible exact ih1 _ _ _ _)
      | (with_reducible exact ih2 _ _)
      | (with_reducible exact ih3 _ _)
      | (with_reducible exact impl_GetInt.mono _ _ _)
      | (with_reducible exact impl_GetVarint.mono _ _ _)
      | (with_reducible exact impl_PutVarint.mono _ _)
      | (with_reducible exact spec_DrawPack.mono _ _)
      | (with_reducible exact spec_DrawPutInt.mono _ _)
      | (with_reducible exact spec_DrawPutVarint.mono _ _)
      | (with_reducible exact spec_DrawUnpack.mono _ _)
      | (with_reducible exact spec_Pack.mono _ _ _ _ _ _)
      | (with_reducible exact spec_PutInt.mono _ _)
      | (with_reducible exact spec_PutVarint.mono _ _)
      | (with_reducible exact LeO.refl _)
      | (with_reducible exact LeO.none _)
      | (with_reducible refine LeO.ite ?_ ?_)
      | (with_reducible refine LeO.bind ?_ (fun _ => ?_))
      | exact ih0 _ _ _
      | exact ih1 _ _ _ _
      | exact ih2 _ _
      | exact ih3 _ _
      | exact impl_GetInt.mono _ _ _
      | exact impl_GetVarint.mono _ _ _
      | exact impl_PutVarint.mono _ _
      | exact spec_DrawPack.mono _ _
      | exact spec_DrawPutInt.mono _ _
      | exact spec_DrawPutVarint.mono _ _
      | exact spec_DrawUnpack.mono _ _
      | exact spec_Pack.mono _ _ _ _ _ _
      | exact spec_PutInt.mono _ _
      | exact spec_PutVarint.mono _ _
      | exact LeO.none _
      | refine LeO.ite ?_ ?_
      | refine LeO.bind ?_ (fun _ => ?_)
    · intro y0 y1 y2 y3
      unfold laws_FnWire.j1
      repeat' first
      | (with_reducible exact ih0 _ _ _)
      | (with_reducible exact ih1 _ _ _ _)
      | (with_reducible exact ih2 _ _)
      | (with_reducible exact ih3 _ _)
      | (with_reducible exact impl_GetInt.mono _ _ _)
      | (with_reducible exact impl_GetVarint.mono _ _ _)
      | (with_reducible exact impl_PutVarint.mono _ _)
      | (with_reducible exact spec_DrawPack.mono _ _)
      | (with_reducible exact spec_DrawPutInt.mono _ _)
      | (with_reducible exact spec_DrawPutVarint.mono _ _)
      | (with_reducible exact spec_DrawUnpack.mono _ _)
      | (with_reducible exact spec_Pack.mono _ _ _ _ _ _)
      | (with_reducible exact spec_PutInt.mono _ _)
      | (with_reducible exact spec_PutVarint.mono _ _)
      | (with_reducible exact LeO.refl _)
      | (with_reducible exact LeO.none _)
      | (with_reducible refine LeO.ite ?_ ?_)
      | (with_reducible refine LeO.bind ?_ (fun _ => ?_))
      | exact ih0 _ _ _
      | exact ih1 _ _ _ _
      | exact ih2 _ _
      | exact ih3 _ _
      | exact impl_GetInt.mono _ _ _
      | exact impl_GetVarint.mono _ _ _
      | exact impl_PutVarint.mono _ _
      | exact spec_DrawPack.mono _ _
      | exact spec_DrawPutInt.mono _ _
      | exact spec_DrawPutVarint.mono _ _
      | exact spec_DrawUnpack.mono _ _
      | exact spec_Pack.mono _ _ _ _ _ _
      | exact spec_PutInt.mono _ _
      | exact spec_PutVarint.mono _ _
      | exact LeO.none _
      | refine LeO.ite ?_ ?_
      | refine LeO.bind ?_ (fun _ => ?_)
    · intro y0 y1
      unfold laws_FnWire.j2
      repeat' first
      | (with_reducible exact ih0 _ _ _)
      | (with_reducible exact ih1 _ _ _ _)
      | (with_reducible exact ih2 _ _)
      | (with_reducible exact ih3 _ _)
      | (with_reducible exact impl_GetInt.mono _ _ _)
      | (with_reducible exact impl_GetVarint.mono _ _ _)
      | (with_reducible exact impl_PutVarint.mono _ _)
      | (with_reducible exact spec_DrawPack.mono _ _)
      | (with_reducible exact spec_DrawPutInt.mono _ _)
      | (with_reducible exact spec_DrawPutVarint.mono _ _)
      | (with_reducible exact spec_DrawUnpack.mono _ _)
      | (with_reducible exact spec_Pack.mono _ _ _ _ _ _)
      | (with_reducible exact spec_PutInt.mono _ _)
      | (with_reducible exact spec_PutVarint.mono _ _)
      | (with_reducible exact LeO.refl _)
      | (with_reducible exact LeO.none _)
      | (with_reducible refine LeO.ite ?_ ?_)
      | (with_reducible refine LeO.bind ?_ (fun _ => ?_))
      | exact ih0 _ _ _
      | exact ih1 _ _ _ _
      | exact ih2 _ _
      | exact ih3 _ _
      | exact impl_GetInt.mono _ _ _
      | exact impl_GetVarint.mono _ _ _
      | exact impl_PutVarint.mono _ _
      | exact spec_DrawPack.mono _ _
      | exact spec_DrawPutInt.mono _ _
      | exact spec_DrawPutVarint.mono _ _
      | exact spec_DrawUnpack.mono _ _
      | exact spec_Pack.mono _ _ _ _ _ _
      | exact spec_PutInt.mono _ _
      | exact spec_PutVarint.mono _ _
      | exact LeO.none _
      | refine LeO.ite ?_ ?_
      | refine LeO.bind ?_ (fun _ => ?_)
    · intro y0 y1
      unfold laws_FnWire.j3
      repeat' first
      | (with_reducible exact ih0 _ _ _)
      | (with_reducible exact ih1 _ _ _ _)
      | (with_reducible exact ih2 _ _)
      | (with_reducible exact ih3 _ _)
      | (with_reducible exact impl_GetInt.mono _ _ _)
      | (with_reducible exact impl_GetVarint.mono _ _ _)
      | (with_reducible exact impl_PutVarint.mono _ _)
      | (with_reducible exact spec_DrawPack.mono _ _)
      | (with_reducible exact spec_DrawPutInt.mono _ _)
      | (with_reducible exact spec_DrawPutVarint.mono _ _)
      | (with_reducible exact spec_DrawUnpack.mono _ _)
      | (with_reducible exact spec_Pack.mono _ _ _ _ _ _)
      | (with_reducible exact spec_PutInt.mono _ _)
      | (with_reducible exact spec_PutVarint.mono _ _)
      | (with_reducible exact LeO.refl _)
      | (with_reducible exact LeO.none _)
      | (with_reducible refine LeO.ite ?_ ?_)
      | (with_reducible refine LeO.bind ?_ (fun _ => ?_))
      | exact ih0 _ _ _
      | exact ih1 _ _ _ _
      | exact ih2 _ _
      | exact ih3 _ _
      | exact impl_GetInt.mono _ _ _
      | exact impl_GetVarint.mono _ _ _
      | exact impl_PutVarint.mono _ _
      | exact spec_DrawPack.mono _ _
      | exact spec_DrawPutInt.mono _ _
      | exact spec_DrawPutVarint.mono _ _
      | exact spec_DrawUnpack.mono _ _
      | exact spec_Pack.mono _ _ _ _ _ _
      | exact spec_PutInt.mono _ _
      | exact spec_PutVarint.mono _ _
      | exact LeO.none _
      | refine LeO.ite ?_ ?_
      | refine LeO.bind ?_ (fun _ => ?_)
theorem laws_FnWire.mono : ∀ a0 a1 k, LeO (laws_FnWire.f k a0 a1) (laws_FnWire.f (k + 1) a0 a1) := by
  intro a0 a1 k
  obtain ⟨ih0, ih1, ih2, ih3⟩ := laws_FnWire.mono_l k
  unfold laws_FnWire.f
  repeat' first
      | (with_reducible exact ih0 _ _ _)
      | (with_reducible exact ih1 _ _ _ _)
      | (with_reducible exact ih2 _ _)
      | (with_reducible exact ih3 _ _)
      | (with_reducible exact impl_GetInt.mono _ _ _)
      | (with_reducible exact impl_GetVarint.mono _ _ _)
      | (with_reducible exact impl_PutVarint.mono _ _)
      | (with_reducible exact spec_DrawPack.mono _ _)
      | (with_reducible exact spec_DrawPutInt.mono _ _)
      | (with_reducible exact spec_DrawPutVarint.mono _ _)
      | (with_reducible exact spec_DrawUnpack.mono _ _)
      | (with_reducible exact spec_Pack.mono _ _ _ _ _ _)
      | (with_reducible exact spec_PutInt.mono _ _)
      | (with_reducible exact spec_PutVarint.mono _ _)
      | (with_reducible exact LeO.refl _)
      | (with_reducible exact LeO.none _)
      | (with_reducible refine LeO.ite ?_ ?_)
      | (with_reducible refine LeO.bind ?_ (fun _ => ?_))
      | exact ih0 _ _ _
      | exact ih1 _ _ _ _
      | exact ih2 _ _
      | exact ih3 _ _
      | exact impl_GetInt.mono _ _ _
      | exact impl_GetVarint.mono _ _ _
      | exact impl_PutVarint.mono _ _
      | exact spec_DrawPack.mono _ _
      | exact spec_DrawPutInt.mono _ _
      | exact spec_DrawPutVarint.mono _ _
      | exact spec_DrawUnpack.mono _ _
      | exact spec_Pack.mono _ _ _ _ _ _
      | exact spec_PutInt.mono _ _
      | exact spec_PutVarint.mono _ _
      | exact LeO.none _
      | refine LeO.ite ?_ ?_
      | refine LeO.bind ?_ (fun _ => ?_)
def laws_FnWire.T22 : Bool × List (List Nat × List Nat) := (true, [([], []), ([0], [0]), ([], []), ([1, 2], [1, 2]), ([3, 1], [3]), ([4], [4]), ([5, 4], [4, 5]), ([4], [4]), ([7, 4], [4, 7]), ([4], [4]), ([9, 4], [4, 9]), ([6, 8, 10, 4, 4], [4, 6, 8, 10]), ([4], [4]), ([11, 12, 4], [4, 11, 12]), ([4, 13], [4, 13])])
def laws_FnWire.B22 : List Nat := [0, 1, 0, 7, 15, 31, 63, 31, 159, 31, 543, 2047, 31, 8191, 16383]
theorem laws_FnWire.tab22 : rtab .any (opsOf Tryd.f7 22) = laws_FnWire.T22 := by kernel_rfl
theorem laws_FnWire.bits22 : waitsOk laws_FnWire.T22.2 laws_FnWire.B22 = true := by kernel_rfl
def laws_FnWire.T28 : Bool × List (List Nat × List Nat) := (true, [([], []), ([0], [0]), ([1, 1], [1]), ([], []), ([2, 3], [2, 3]), ([4, 2], [4]), ([5], [5]), ([6, 5, 5], [5, 6]), ([5], [5]), ([7, 8, 5], [5, 7, 8]), ([5, 9], [5, 9]), ([10, 7, 0, 1, 2, 3, 4, 5, 6, 7, 8, 9, 10], [10])])
def laws_FnWire.B28 : List Nat := [0, 1, 3, 0, 15, 31, 63, 127, 63, 511, 1023, 2047]
theorem laws_FnWire.tab28 : rtab .any (opsOf Tryd.f7 28) = laws_FnWire.T28 := by kernel_rfl
theorem laws_FnWire.bits28 : waitsOk laws_FnWire.T28.2 laws_FnWire.B28 = true := by kernel_rfl
set_option maxHeartbeats 8000000 in
set_option maxRecDepth 100000 in
theorem laws_FnWire.calls (k : Nat) (A0 : Option Addr) (c0 : Nat) (l0 : List Int) (A1 : Option Addr) (c1 : Nat) (l1 : List Int) (r : Bool) (w : World) (hr0 : Kd.C (Kd.int .u8) w A0 l0.length l0) (hc0 : l0.length ≤ c0) (hr1 : Kd.C (Kd.int .u8) w A1 l1.length l1) (hc1 : l1.length ≤ c1) (h : laws_FnWire.f k l0 l1 = some r) (hG : Glob w) :
    Calls Tryd.prog 7 #[.slice A0 l0.length c0, .slice A1 l1.length c1] w fun e w' => e = .returned (.bool r) ∧ Below w.heap.size w w' := by
  have hu28 := Tryd.underlying28
  have HR0 := Aside0.mk hr0
  have HC0 := Aside0.mk hc0
  clear hr0 hc0
  have HR1 := Aside0.mk hr1
  have HC1 := Aside0.mk hc1
  clear hr1 hc1
  have HB := Aside0.mk (Below.refl w.heap.size w)
  have H : (if (l0.length : Int) > 1048576 then (laws_FnWire.j0 k l0 l1 true) else (laws_FnWire.j0 k l0 l1 (decide ((l1.length : Int) > 1048576)))) = some r := h
  clear h
  have HC3 := Aside0.mk H
  clear H
  go_enter Tryd.func7, Tryd.ntmps7
  go_upto_region 1 with (fail)
  go_cut [28] (fun v28 wc => ∃ (kq : Nat) (x28_2 : Bool), v28 = .bool x28_2 ∧ Aside0 (laws_FnWire.j0 kq l0 l1 x28_2 = some r) ∧ Aside0 (kq ≤ k) ∧ Aside0 (Below w.heap.size w wc))
  case first =>
    have H := HC3.out
    clear HC3
    by_cases c4 : (l0.length : Int) > 1048576
    · rw [if_pos c4] at H
      have c4b0 : decide (1048576 < (l0.length : Int)) = true := decide_eq_true c4
      have c4b1 : decide (1048576 < l0.length) = true := decide_eq_true (by omega)
      clear c4
      (first | rw [c4b0] | (simp only [i64_w, i32_w]; rw [c4b0]) | skip)
      have H' := Aside0.mk H
      clear H
      go_wp2
      go_meet
      case rel => exact ⟨_, (true), (by first | rfl | (simp; done) | (simp [*]; done)), H', ⟨by first | omega | exact Nat.le_refl _⟩, ⟨by repeat (first | (with_reducible first | exact HB.out | apply below_alloc | apply pw_below_drewN | apply below_drew1) | exact HB.out)⟩⟩
    · rw [if_neg c4] at H
      have c4b0 : decide (1048576 < (l0.length : Int)) = false := decide_eq_false c4
      have c4b1 : decide (1048576 < l0.length) = false := decide_eq_false (by omega)
      clear c4
      (first | rw [c4b0] | (simp only [i64_w, i32_w]; rw [c4b0]) | skip)
      have H' := Aside0.mk H
      clear H
      go_wp2
      go_meet
      case rel => exact ⟨_, (decide ((l1.length : Int) > 1048576)), (by first | rfl | (simp; done) | (simp [*]; done)), H', ⟨by first | omega | exact Nat.le_refl _⟩, ⟨by repeat (first | (with_reducible first | exact HB.out | apply below_alloc | apply pw_below_drewN | apply below_drew1) | exact HB.out)⟩⟩
  case rest =>
    clear HC3
    try clear c1
    try clear p2
    try clear c4
    try clear c4b0
    try clear c4b1
    obtain ⟨kq, x28_2, rfl, HA, HJ2, HB⟩ := hcut
    cases kq with
    | zero => exact absurd HA.out (by simp [laws_FnWire.j0])
    | succ kj2 =>
      have H := HA.out
      clear HA
      simp only [laws_FnWire.j0] at H
      by_cases c5 : x28_2 = true
      · subst c5
        have H1 : (some true) = some r := by rw [if_pos rfl] at H; exact H
        clear H
        have H := H1
        clear H1
        obtain rfl := Option.some.inj H
        go_wp2
        go_ret
        exact ⟨by first | rfl | (simp [errW_none, errW_some] <;> rfl) | (simp [*, errW_none, errW_some] <;> rfl), by repeat (first | (with_reducible first | exact HB.out | apply below_alloc | apply pw_below_drewN | apply below_drew1) | exact HB.out)⟩
      · replace c5 := Bool.eq_false_iff.mpr c5
        subst c5
        have H1 : ((spec_DrawPutVarint.f kj2 l0).bind fun t172 => ((spec_DrawPutInt.f kj2 l0).bind fun t173 => ((laws_wPick.f l1 0).bind fun t174 => (if 0 ≤ (Int.tmod t174 4) then (if (Int.tmod t174 4) ≤ 3 then ((laws_wPick.f l1 1).bind fun t175 => ((laws_wPick.f l1 2).bind fun t176 => ((some (([(t175) % 256, (t176) % 256] : List Int) : List Int)).bind fun y177 => ((impl_PutVarint.f kj2 t172).bind fun t180 => ((spec_PutVarint.f kj2 t172).bind fun t181 => (if t180.toList = t181.toList then (if (t180.size : Int) > 0 then (if ((⟨#[112, 114, 101]⟩ : ByteArray).extract 0 ((Int.tmod t174 4) : Int).toNat).size + t180.size ≤ 9223372036854775807 then (if (((⟨#[112, 114, 101]⟩ : ByteArray).extract 0 ((Int.tmod t174 4) : Int).toNat) ++ t180).size + (strOfNums y177).size ≤ 9223372036854775807 then ((impl_GetVarint.f kj2 ((((⟨#[112, 114, 101]⟩ : ByteArray).extract 0 ((Int.tmod t174 4) : Int).toNat) ++ t180) ++ (strOfNums y177)) (((⟨#[112, 114, 101]⟩ : ByteArray).extract 0 ((Int.tmod t174 4) : Int).toNat).size : Int)).bind fun bt182 => (if bt182.2.2 = true then (if bt182.1 = t172 then (if bt182.2.1 = (wrap64 ((((⟨#[112, 114, 101]⟩ : ByteArray).extract 0 ((Int.tmod t174 4) : Int).toNat).size : Int) + (t180.size : Int))) then (laws_FnWire.j1 kj2 l0 t173 ((⟨#[112, 114, 101]⟩ : ByteArray).extract 0 ((Int.tmod t174 4) : Int).toNat) (strOfNums y177)) else (some false)) else (some false)) else (some false))) else (none)) else (none)) else (laws_FnWire.j1 kj2 l0 t173 ((⟨#[112, 114, 101]⟩ : ByteArray).extract 0 ((Int.tmod t174 4) : Int).toNat) (strOfNums y177))) else (some false))))))) else (none)) else (none))))) = some r := by rw [if_neg (show ¬ (false = true) by decide)] at H; exact H
        clear H
        have H := H1
        clear H1
        replace H := Option.bind_eq_some_iff.mp H
        obtain ⟨t172, A60, H⟩ := H
        replace H : ((spec_DrawPutInt.f kj2 l0).bind fun t173 => ((laws_wPick.f l1 0).bind fun t174 => (if 0 ≤ (Int.tmod t174 4) then (if (Int.tmod t174 4) ≤ 3 then ((laws_wPick.f l1 1).bind fun t175 => ((laws_wPick.f l1 2).bind fun t176 => ((some (([(t175) % 256, (t176) % 256] : List Int) : List Int)).bind fun y177 => ((impl_PutVarint.f kj2 t172).bind fun t180 => ((spec_PutVarint.f kj2 t172).bind fun t181 => (if t180.toList = t181.toList then (if (t180.size : Int) > 0 then (if ((⟨#[112, 114, 101]⟩ : ByteArray).extract 0 ((Int.tmod t174 4) : Int).toNat).size + t180.size ≤ 9223372036854775807 then (if (((⟨#[112, 114, 101]⟩ : ByteArray).extract 0 ((Int.tmod t174 4) : Int).toNat) ++ t180).size + (strOfNums y177).size ≤ 9223372036854775807 then ((impl_GetVarint.f kj2 ((((⟨#[112, 114, 101]⟩ : ByteArray).extract 0 ((Int.tmod t174 4) : Int).toNat) ++ t180) ++ (strOfNums y177)) (((⟨#[112, 114, 101]⟩ : ByteArray).extract 0 ((Int.tmod t174 4) : Int).toNat).size : Int)).bind fun bt182 => (if bt182.2.2 = true then (if bt182.1 = t172 then (if bt182.2.1 = (wrap64 ((((⟨#[112, 114, 101]⟩ : ByteArray).extract 0 ((Int.tmod t174 4) : Int).toNat).size : Int) + (t180.size : Int))) then (laws_FnWire.j1 kj2 l0 t173 ((⟨#[112, 114, 101]⟩ : ByteArray).extract 0 ((Int.tmod t174 4) : Int).toNat) (strOfNums y177)) else (some false)) else (some false)) else (some false))) else (none)) else (none)) else (laws_FnWire.j1 kj2 l0 t173 ((⟨#[112, 114, 101]⟩ : ByteArray).extract 0 ((Int.tmod t174 4) : Int).toNat) (strOfNums y177))) else (some false))))))) else (none)) else (none)))) = some r := H
        have A6 := Aside0.mk A60
        clear A60
        replace H := Option.bind_eq_some_iff.mp H
        obtain ⟨t173, A70, H⟩ := H
        replace H : ((laws_wPick.f l1 0).bind fun t174 => (if 0 ≤ (Int.tmod t174 4) then (if (Int.tmod t174 4) ≤ 3 then ((laws_wPick.f l1 1).bind fun t175 => ((laws_wPick.f l1 2).bind fun t176 => ((some (([(t175) % 256, (t176) % 256] : List Int) : List Int)).bind fun y177 => ((impl_PutVarint.f kj2 t172).bind fun t180 => ((spec_PutVarint.f kj2 t172).bind fun t181 => (if t180.toList = t181.toList then (if (t180.size : Int) > 0 then (if ((⟨#[112, 114, 101]⟩ : ByteArray).extract 0 ((Int.tmod t174 4) : Int).toNat).size + t180.size ≤ 9223372036854775807 then (if (((⟨#[112, 114, 101]⟩ : ByteArray).extract 0 ((Int.tmod t174 4) : Int).toNat) ++ t180).size + (strOfNums y177).size ≤ 9223372036854775807 then ((impl_GetVarint.f kj2 ((((⟨#[112, 114, 101]⟩ : ByteArray).extract 0 ((Int.tmod t174 4) : Int).toNat) ++ t180) ++ (strOfNums y177)) (((⟨#[112, 114, 101]⟩ : ByteArray).extract 0 ((Int.tmod t174 4) : Int).toNat).size : Int)).bind fun bt182 => (if bt182.2.2 = true then (if bt182.1 = t172 then (if bt182.2.1 = (wrap64 ((((⟨#[112, 114, 101]⟩ : ByteArray).extract 0 ((Int.tmod t174 4) : Int).toNat).size : Int) + (t180.size : Int))) then (laws_FnWire.j1 kj2 l0 t173 ((⟨#[112, 114, 101]⟩ : ByteArray).extract 0 ((Int.tmod t174 4) : Int).toNat) (strOfNums y177)) else (some false)) else (some false)) else (some false))) else (none)) else (none)) else (laws_FnWire.j1 kj2 l0 t173 ((⟨#[112, 114, 101]⟩ : ByteArray).extract 0 ((Int.tmod t174 4) : Int).toNat) (strOfNums y177))) else (some false))))))) else (none)) else (none))) = some r := H
        have A7 := Aside0.mk A70
        clear A70
        replace H := Option.bind_eq_some_iff.mp H
        obtain ⟨t174, A80, H⟩ := H
        replace H : (if 0 ≤ (Int.tmod t174 4) then (if (Int.tmod t174 4) ≤ 3 then ((laws_wPick.f l1 1).bind fun t175 => ((laws_wPick.f l1 2).bind fun t176 => ((some (([(t175) % 256, (t176) % 256] : List Int) : List Int)).bind fun y177 => ((impl_PutVarint.f kj2 t172).bind fun t180 => ((spec_PutVarint.f kj2 t172).bind fun t181 => (if t180.toList = t181.toList then (if (t180.size : Int) > 0 then (if ((⟨#[112, 114, 101]⟩ : ByteArray).extract 0 ((Int.tmod t174 4) : Int).toNat).size + t180.size ≤ 9223372036854775807 then (if (((⟨#[112, 114, 101]⟩ : ByteArray).extract 0 ((Int.tmod t174 4) : Int).toNat) ++ t180).size + (strOfNums y177).size ≤ 9223372036854775807 then ((impl_GetVarint.f kj2 ((((⟨#[112, 114, 101]⟩ : ByteArray).extract 0 ((Int.tmod t174 4) : Int).toNat) ++ t180) ++ (strOfNums y177)) (((⟨#[112, 114, 101]⟩ : ByteArray).extract 0 ((Int.tmod t174 4) : Int).toNat).size : Int)).bind fun bt182 => (if bt182.2.2 = true then (if bt182.1 = t172 then (if bt182.2.1 = (wrap64 ((((⟨#[112, 114, 101]⟩ : ByteArray).extract 0 ((Int.tmod t174 4) : Int).toNat).size : Int) + (t180.size : Int))) then (laws_FnWire.j1 kj2 l0 t173 ((⟨#[112, 114, 101]⟩ : ByteArray).extract 0 ((Int.tmod t174 4) : Int).toNat) (strOfNums y177)) else (some false)) else (some false)) else (some false))) else (none)) else (none)) else (laws_FnWire.j1 kj2 l0 t173 ((⟨#[112, 114, 101]⟩ : ByteArray).extract 0 ((Int.tmod t174 4) : Int).toNat) (strOfNums y177))) else (some false))))))) else (none)) else (none)) = some r := H
        have A8 := Aside0.mk A80
        clear A80
        obtain ⟨ji9, hji9⟩ : ∃ j_ : Int, (Int.tmod t174 4) = j_ := ⟨_, rfl⟩
        replace H : (if 0 ≤ (ji9) then (if (ji9) ≤ 3 then ((laws_wPick.f l1 1).bind fun t175 => ((laws_wPick.f l1 2).bind fun t176 => ((some (([(t175) % 256, (t176) % 256] : List Int) : List Int)).bind fun y177 => ((impl_PutVarint.f kj2 t172).bind fun t180 => ((spec_PutVarint.f kj2 t172).bind fun t181 => (if t180.toList = t181.toList then (if (t180.size : Int) > 0 then (if ((⟨#[112, 114, 101]⟩ : ByteArray).extract 0 ((ji9) : Int).toNat).size + t180.size ≤ 9223372036854775807 then (if (((⟨#[112, 114, 101]⟩ : ByteArray).extract 0 ((ji9) : Int).toNat) ++ t180).size + (strOfNums y177).size ≤ 9223372036854775807 then ((impl_GetVarint.f kj2 ((((⟨#[112, 114, 101]⟩ : ByteArray).extract 0 ((ji9) : Int).toNat) ++ t180) ++ (strOfNums y177)) (((⟨#[112, 114, 101]⟩ : ByteArray).extract 0 ((ji9) : Int).toNat).size : Int)).bind fun bt182 => (if bt182.2.2 = true then (if bt182.1 = t172 then (if bt182.2.1 = (wrap64 ((((⟨#[112, 114, 101]⟩ : ByteArray).extract 0 ((ji9) : Int).toNat).size : Int) + (t180.size : Int))) then (laws_FnWire.j1 kj2 l0 t173 ((⟨#[112, 114, 101]⟩ : ByteArray).extract 0 ((ji9) : Int).toNat) (strOfNums y177)) else (some false)) else (some false)) else (some false))) else (none)) else (none)) else (laws_FnWire.j1 kj2 l0 t173 ((⟨#[112, 114, 101]⟩ : ByteArray).extract 0 ((ji9) : Int).toNat) (strOfNums y177))) else (some false))))))) else (none)) else (none)) = some r := by first | (rw [hji9] at H; exact H) | (simp only [hji9] at H ⊢; exact H)
        (try rw [hji9] at A6)
        (try rw [hji9] at A7)
        (try rw [hji9] at A8)
        by_cases c10 : 0 ≤ (ji9)
        · rw [if_pos c10] at H
          have c10b0 := eq_true c10
          have c10b1 : decide (0 ≤ (ji9)) = true := decide_eq_true c10
          clear c10
          by_cases c11 : (ji9) ≤ 3
          · rw [if_pos c11] at H
            have c11b0 := eq_true c11
            have c11b1 : decide ((ji9) ≤ 3) = true := decide_eq_true c11
            clear c11
            replace H := Option.bind_eq_some_iff.mp H
            obtain ⟨t175, A120, H⟩ := H
            replace H : ((laws_wPick.f l1 2).bind fun t176 => ((some (([(t175) % 256, (t176) % 256] : List Int) : List Int)).bind fun y177 => ((impl_PutVarint.f kj2 t172).bind fun t180 => ((spec_PutVarint.f kj2 t172).bind fun t181 => (if t180.toList = t181.toList then (if (t180.size : Int) > 0 then (if ((⟨#[112, 114, 101]⟩ : ByteArray).extract 0 ((ji9) : Int).toNat).size + t180.size ≤ 9223372036854775807 then (if (((⟨#[112, 114, 101]⟩ : ByteArray).extract 0 ((ji9) : Int).toNat) ++ t180).size + (strOfNums y177).size ≤ 9223372036854775807 then ((impl_GetVarint.f kj2 ((((⟨#[112, 114, 101]⟩ : ByteArray).extract 0 ((ji9) : Int).toNat) ++ t180) ++ (strOfNums y177)) (((⟨#[112, 114, 101]⟩ : ByteArray).extract 0 ((ji9) : Int).toNat).size : Int)).bind fun bt182 => (if bt182.2.2 = true then (if bt182.1 = t172 then (if bt182.2.1 = (wrap64 ((((⟨#[112, 114, 101]⟩ : ByteArray).extract 0 ((ji9) : Int).toNat).size : Int) + (t180.size : Int))) then (laws_FnWire.j1 kj2 l0 t173 ((⟨#[112, 114, 101]⟩ : ByteArray).extract 0 ((ji9) : Int).toNat) (strOfNums y177)) else (some false)) else (some false)) else (some false))) else (none)) else (none)) else (laws_FnWire.j1 kj2 l0 t173 ((⟨#[112, 114, 101]⟩ : ByteArray).extract 0 ((ji9) : Int).toNat) (strOfNums y177))) else (some false)))))) = some r := H
            have A12 := Aside0.mk A120
            clear A120
            replace H := Option.bind_eq_some_iff.mp H
            obtain ⟨t176, A130, H⟩ := H
            replace H : ((some (([(t175) % 256, (t176) % 256] : List Int) : List Int)).bind fun y177 => ((impl_PutVarint.f kj2 t172).bind fun t180 => ((spec_PutVarint.f kj2 t172).bind fun t181 => (if t180.toList = t181.toList then (if (t180.size : Int) > 0 then (if ((⟨#[112, 114, 101]⟩ : ByteArray).extract 0 ((ji9) : Int).toNat).size + t180.size ≤ 9223372036854775807 then (if (((⟨#[112, 114, 101]⟩ : ByteArray).extract 0 ((ji9) : Int).toNat) ++ t180).size + (strOfNums y177).size ≤ 9223372036854775807 then ((impl_GetVarint.f kj2 ((((⟨#[112, 114, 101]⟩ : ByteArray).extract 0 ((ji9) : Int).toNat) ++ t180) ++ (strOfNums y177)) (((⟨#[112, 114, 101]⟩ : ByteArray).extract 0 ((ji9) : Int).toNat).size : Int)).bind fun bt182 => (if bt182.2.2 = true then (if bt182.1 = t172 then (if bt182.2.1 = (wrap64 ((((⟨#[112, 114, 101]⟩ : ByteArray).extract 0 ((ji9) : Int).toNat).size : Int) + (t180.size : Int))) then (laws_FnWire.j1 kj2 l0 t173 ((⟨#[112, 114, 101]⟩ : ByteArray).extract 0 ((ji9) : Int).toNat) (strOfNums y177)) else (some false)) else (some false)) else (some false))) else (none)) else (none)) else (laws_FnWire.j1 kj2 l0 t173 ((⟨#[112, 114, 101]⟩ : ByteArray).extract 0 ((ji9) : Int).toNat) (strOfNums y177))) else (some false))))) = some r := H
            have A13 := Aside0.mk A130
            clear A130
            obtain ⟨y177, hy177⟩ : ∃ y_ : List Int, y_ = (([(t175) % 256, (t176) % 256] : List Int)) := ⟨_, rfl⟩
            replace H : ((impl_PutVarint.f kj2 t172).bind fun t180 => ((spec_PutVarint.f kj2 t172).bind fun t181 => (if t180.toList = t181.toList then (if (t180.size : Int) > 0 then (if ((⟨#[112, 114, 101]⟩ : ByteArray).extract 0 ((ji9) : Int).toNat).size + t180.size ≤ 9223372036854775807 then (if (((⟨#[112, 114, 101]⟩ : ByteArray).extract 0 ((ji9) : Int).toNat) ++ t180).size + (strOfNums y177).size ≤ 9223372036854775807 then ((impl_GetVarint.f kj2 ((((⟨#[112, 114, 101]⟩ : ByteArray).extract 0 ((ji9) : Int).toNat) ++ t180) ++ (strOfNums y177)) (((⟨#[112, 114, 101]⟩ : ByteArray).extract 0 ((ji9) : Int).toNat).size : Int)).bind fun bt182 => (if bt182.2.2 = true then (if bt182.1 = t172 then (if bt182.2.1 = (wrap64 ((((⟨#[112, 114, 101]⟩ : ByteArray).extract 0 ((ji9) : Int).toNat).size : Int) + (t180.size : Int))) then (laws_FnWire.j1 kj2 l0 t173 ((⟨#[112, 114, 101]⟩ : ByteArray).extract 0 ((ji9) : Int).toNat) (strOfNums y177)) else (some false)) else (some false)) else (some false))) else (none)) else (none)) else (laws_FnWire.j1 kj2 l0 t173 ((⟨#[112, 114, 101]⟩ : ByteArray).extract 0 ((ji9) : Int).toNat) (strOfNums y177))) else (some false)))) = some r := by first | (rw [hy177]; with_reducible exact H) | (have H2_ := (Option.bind_some _ _).symm.trans H; rw [hy177]; with_reducible exact H2_) | (have H2_ := (Option.bind_some _ _).symm.trans H; with_reducible exact H2_) | with_reducible exact H | (rw [hy177]; exact H) | exact H
            have Ny177 := Aside0.mk hy177
            clear hy177
            replace H := Option.bind_eq_some_iff.mp H
            obtain ⟨t180, A140, H⟩ := H
            replace H : ((spec_PutVarint.f kj2 t172).bind fun t181 => (if t180.toList = t181.toList then (if (t180.size : Int) > 0 then (if ((⟨#[112, 114, 101]⟩ : ByteArray).extract 0 ((ji9) : Int).toNat).size + t180.size ≤ 9223372036854775807 then (if (((⟨#[112, 114, 101]⟩ : ByteArray).extract 0 ((ji9) : Int).toNat) ++ t180).size + (strOfNums y177).size ≤ 9223372036854775807 then ((impl_GetVarint.f kj2 ((((⟨#[112, 114, 101]⟩ : ByteArray).extract 0 ((ji9) : Int).toNat) ++ t180) ++ (strOfNums y177)) (((⟨#[112, 114, 101]⟩ : ByteArray).extract 0 ((ji9) : Int).toNat).size : Int)).bind fun bt182 => (if bt182.2.2 = true then (if bt182.1 = t172 then (if bt182.2.1 = (wrap64 ((((⟨#[112, 114, 101]⟩ : ByteArray).extract 0 ((ji9) : Int).toNat).size : Int) + (t180.size : Int))) then (laws_FnWire.j1 kj2 l0 t173 ((⟨#[112, 114, 101]⟩ : ByteArray).extract 0 ((ji9) : Int).toNat) (strOfNums y177)) else (some false)) else (some false)) else (some false))) else (none)) else (none)) else (laws_FnWire.j1 kj2 l0 t173 ((⟨#[112, 114, 101]⟩ : ByteArray).extract 0 ((ji9) : Int).toNat) (strOfNums y177))) else (some false))) = some r := H
            have A14 := Aside0.mk A140
            clear A140
            replace H := Option.bind_eq_some_iff.mp H
            obtain ⟨t181, A150, H⟩ := H
            replace H : (if t180.toList = t181.toList then (if (t180.size : Int) > 0 then (if ((⟨#[112, 114, 101]⟩ : ByteArray).extract 0 ((ji9) : Int).toNat).size + t180.size ≤ 9223372036854775807 then (if (((⟨#[112, 114, 101]⟩ : ByteArray).extract 0 ((ji9) : Int).toNat) ++ t180).size + (strOfNums y177).size ≤ 9223372036854775807 then ((impl_GetVarint.f kj2 ((((⟨#[112, 114, 101]⟩ : ByteArray).extract 0 ((ji9) : Int).toNat) ++ t180) ++ (strOfNums y177)) (((⟨#[112, 114, 101]⟩ : ByteArray).extract 0 ((ji9) : Int).toNat).size : Int)).bind fun bt182 => (if bt182.2.2 = true then (if bt182.1 = t172 then (if bt182.2.1 = (wrap64 ((((⟨#[112, 114, 101]⟩ : ByteArray).extract 0 ((ji9) : Int).toNat).size : Int) + (t180.size : Int))) then (laws_FnWire.j1 kj2 l0 t173 ((⟨#[112, 114, 101]⟩ : ByteArray).extract 0 ((ji9) : Int).toNat) (strOfNums y177)) else (some false)) else (some false)) else (some false))) else (none)) else (none)) else (laws_FnWire.j1 kj2 l0 t173 ((⟨#[112, 114, 101]⟩ : ByteArray).extract 0 ((ji9) : Int).toNat) (strOfNums y177))) else (some false)) = some r := H
            have A15 := Aside0.mk A150
            clear A150
            by_cases c16 : t180.toList = t181.toList
            · rw [if_pos c16] at H
              have c16b0 : (t180.toList == t181.toList) = true := beq_iff_eq.mpr c16
              have c16b1 : (t180.toList != t181.toList) = false := bne_eq_false_iff_eq.mpr c16
              clear c16
              have HC17 := Aside0.mk H
              clear H
              go_upto_if 53 with (first | ((with_reducible refine gate_callee (f := 19) rfl ?_); refine goesL_ (some 30) rfl rfl Tryd.func19 (by kernel_rfl) rfl #[.slice A0 l0.length c0] rfl (by (try simp only [List.map_toArray, List.map_cons, List.map_nil]); first | done | rfl | (simp only [List.length_drop, List.length_take]; rfl)) ?_; (with_reducible refine (spec_DrawPutVarint.calls kj2 _ _ l0 t172 _ ?side1 ?side2 A6.out).mono ?_); (case side1 => repeat (first | exact (Kd.C_below HR0.out HB.out) | (with_reducible refine Kd.C_alloc ?_ _) | (with_reducible refine Kd.C_drewN ?_ _) | (with_reducible refine Kd.C_drew ?_))); (case side2 => exact HC0.out); rintro e w' ⟨rfl, ⟨nd, rfl⟩⟩; refine ⟨_, rfl, ?_⟩) | ((with_reducible refine gate_callee (f := 20) rfl ?_); refine goesL_ (some 32) rfl rfl Tryd.func20 (by kernel_rfl) rfl #[.slice A0 l0.length c0] rfl (by (try simp only [List.map_toArray, List.map_cons, List.map_nil]); first | done | rfl | (simp only [List.length_drop, List.length_take]; rfl)) ?_; (with_reducible refine (spec_DrawPutInt.calls kj2 _ _ l0 t173 _ ?side1 ?side2 A7.out).mono ?_); (case side1 => repeat (first | exact (Kd.C_below HR0.out (by repeat (first | (with_reducible first | exact HB.out | apply below_alloc | apply pw_below_drewN | apply below_drew1) | exact HB.out))) | (with_reducible refine Kd.C_alloc ?_ _) | (with_reducible refine Kd.C_drewN ?_ _) | (with_reducible refine Kd.C_drew ?_))); (case side2 => exact HC0.out); rintro e w' ⟨rfl, ⟨nd, rfl⟩⟩; refine ⟨_, rfl, ?_⟩) | ((with_reducible refine gate_callee (f := 21) rfl ?_); refine goesL_ (some 34) rfl rfl Tryd.func21 (by kernel_rfl) rfl #[.slice A1 l1.length c1, .int .i64 0] rfl (by (try simp only [List.map_toArray, List.map_cons, List.map_nil]); first | done | rfl | (simp only [List.length_drop, List.length_take]; rfl)) ?_; (with_reducible refine (laws_wPick.calls _ _ l1 0 t174 _ ?side1 ?side2 A8.out).mono ?_); (case side1 => repeat (first | exact (Kd.C_below HR1.out (by repeat (first | (with_reducible first | exact HB.out | apply below_alloc | apply pw_below_drewN | apply below_drew1) | exact HB.out))) | (with_reducible refine Kd.C_alloc ?_ _) | (with_reducible refine Kd.C_drewN ?_ _) | (with_reducible refine Kd.C_drew ?_))); (case side2 => exact HC1.out); rintro e w' ⟨rfl, ⟨nd, rfl⟩⟩; refine ⟨_, rfl, ?_⟩) | ((with_reducible refine gate_callee (f := 21) rfl ?_); refine goesL_ (some 38) rfl rfl Tryd.func21 (by kernel_rfl) rfl #[.slice A1 l1.length c1, .int .i64 1] rfl (by (try simp only [List.map_toArray, List.map_cons, List.map_nil]); first | done | rfl | (simp only [List.length_drop, List.length_take]; rfl)) ?_; (with_reducible refine (laws_wPick.calls _ _ l1 1 t175 _ ?side1 ?side2 A12.out).mono ?_); (case side1 => repeat (first | exact (Kd.C_below HR1.out (by repeat (first | (with_reducible first | exact HB.out | apply below_alloc | apply pw_below_drewN | apply below_drew1) | exact HB.out))) | (with_reducible refine Kd.C_alloc ?_ _) | (with_reducible refine Kd.C_drewN ?_ _) | (with_reducible refine Kd.C_drew ?_))); (case side2 => exact HC1.out); rintro e w' ⟨rfl, ⟨nd, rfl⟩⟩; refine ⟨_, rfl, ?_⟩) | ((with_reducible refine gate_callee (f := 21) rfl ?_); refine goesL_ (some 41) rfl rfl Tryd.func21 (by kernel_rfl) rfl #[.slice A1 l1.length c1, .int .i64 2] rfl (by (try simp only [List.map_toArray, List.map_cons, List.map_nil]); first | done | rfl | (simp only [List.length_drop, List.length_take]; rfl)) ?_; (with_reducible refine (laws_wPick.calls _ _ l1 2 t176 _ ?side1 ?side2 A13.out).mono ?_); (case side1 => repeat (first | exact (Kd.C_below HR1.out (by repeat (first | (with_reducible first | exact HB.out | apply below_alloc | apply pw_below_drewN | apply below_drew1) | exact HB.out))) | (with_reducible refine Kd.C_alloc ?_ _) | (with_reducible refine Kd.C_drewN ?_ _) | (with_reducible refine Kd.C_drew ?_))); (case side2 => exact HC1.out); rintro e w' ⟨rfl, ⟨nd, rfl⟩⟩; refine ⟨_, rfl, ?_⟩) | ((with_reducible refine gate_dst (N := 43) rfl ?_); (try (refine gate_guard (by rfl) ?_; dsimp only)); refine Kd.R_lit (Kd.int .u8) _ 5 ?hg (N := 43) ?hd (xs := ([(t175) % 256, (t176) % 256] : List Int)) (inner := [.int .u8 ((t175) % 256), .int .u8 ((t176) % 256)]) (ok := fun _ => True) (okp := fun _ => True) ?hr ?hp (fun _ hk => hk) trivial (Below.refl _ _) (Nat.le_refl _) (by simp) ?_; (case hd => rfl); (case hg => rfl); (case hr => first | (go_simp; done) | (go_simp; rfl)); (case hp => exact (Reps.one (show Kd.M (Kd.int .u8) _ _ _ ((t175) % 256) [.int .u8 ((t175) % 256)] from rfl) (Reps.one (show Kd.M (Kd.int .u8) _ _ _ ((t176) % 256) [.int .u8 ((t176) % 256)] from rfl) (Reps.none _ _)))); intro v178 w18 ho19 hb hg_ hnew_; clear hg_ hnew_; (first | rw [← Ny177.out] at ho19 | (simp only [Int.reduceToNat] at ho19; rw [← Ny177.out] at ho19)); have n0_ := Aside0.mk (Kd.R_lower ho19 (below_size (by repeat (first | (with_reducible first | exact HB.out | apply below_alloc | apply pw_below_drewN | apply below_drew1) | exact HB.out)))); have n1_ := Aside0.mk (below_step (by repeat (first | (with_reducible first | exact HB.out | apply below_alloc | apply pw_below_drewN | apply below_drew1) | exact HB.out)) hb); clear HB; have HO179 := n0_; have HB := n1_; clear n0_ n1_; clear hb ho19; have hcv20 := own_string (P := Tryd.prog) Tryd.underlying36 Tryd.underlying5 Tryd.underlying9 (Kd.own_of_R HO179.out)) | ((with_reducible refine gate_callee (f := 22) rfl ?_); refine goesL_ (some 46) rfl rfl Tryd.func22 (by kernel_rfl) rfl #[.int .i64 t172] rfl (by (try simp only [List.map_toArray, List.map_cons, List.map_nil]); first | done | rfl | (simp only [List.length_drop, List.length_take]; rfl)) ?_; (with_reducible refine (impl_PutVarint.calls kj2 t172 t180 _ A14.out).mono ?_); rintro e w21 ⟨rfl, hb⟩; refine ⟨_, rfl, ?_⟩; have n0_ := Aside0.mk (Kd.R_below (by (with_reducible repeat (first | apply Kd.R_alloc | apply Kd.R_drewN | apply Kd.R_drew)); exact HO179.out) hb); have n1_ := Aside0.mk (below_step (by repeat (first | (with_reducible first | exact HB.out | apply below_alloc | apply pw_below_drewN | apply below_drew1) | exact HB.out)) hb); clear HO179; clear HB; have HO179 := n0_; have HB := n1_; clear n0_ n1_; (try clear hb); (try clear hb2); (try clear hk); (try clear hi)) | ((with_reducible refine gate_callee (f := 23) rfl ?_); refine goesL_ (some 49) rfl rfl Tryd.func23 (by kernel_rfl) rfl #[.int .i64 t172] rfl (by (try simp only [List.map_toArray, List.map_cons, List.map_nil]); first | done | rfl | (simp only [List.length_drop, List.length_take]; rfl)) ?_; (with_reducible refine (spec_PutVarint.calls kj2 t172 t181 _ A15.out).mono ?_); rintro e w22 ⟨rfl, hb⟩; refine ⟨_, rfl, ?_⟩; have n0_ := Aside0.mk (Kd.R_below (by (with_reducible repeat (first | apply Kd.R_alloc | apply Kd.R_drewN | apply Kd.R_drew)); exact HO179.out) hb); have n1_ := Aside0.mk (below_step (by repeat (first | (with_reducible first | exact HB.out | apply below_alloc | apply pw_below_drewN | apply below_drew1) | exact HB.out)) hb); clear HO179; clear HB; have HO179 := n0_; have HB := n1_; clear n0_ n1_; (try clear hb); (try clear hb2); (try clear hk); (try clear hi)))
              (try simp only [Act.put, List.setIfInBounds_toArray, List.set_cons_zero, List.set_cons_succ])
              go_cut [] (fun wc => ∃ (kq : Nat), Aside0 (laws_FnWire.j1 kq l0 t173 ((⟨#[112, 114, 101]⟩ : ByteArray).extract 0 ((ji9) : Int).toNat) (strOfNums y177) = some r) ∧ Aside0 (kq ≤ kj2) ∧ Aside0 (Below w.heap.size w wc))
              case first =>
                have H := HC17.out
                clear HC17
                by_cases c23 : (t180.size : Int) > 0
                · rw [if_pos c23] at H
                  have c23b0 : decide (0 < (t180.size : Int)) = true := decide_eq_true c23
                  have c23b1 : decide (0 < t180.size) = true := decide_eq_true (by omega)
                  have c23b2 : (0 < t180.size) = True := eq_true (by omega)
                  clear c23
                  (first | rw [c23b0] | rw [c23b1] | rw [c23b1] | (simp only [i64_w, i32_w]; rw [c23b0]) | skip)
                  by_cases c24 : ((⟨#[112, 114, 101]⟩ : ByteArray).extract 0 ((ji9) : Int).toNat).size + t180.size ≤ 9223372036854775807
                  · rw [if_pos c24] at H
                    have c24b0 := eq_true c24
                    have c24b1 : decide (((⟨#[112, 114, 101]⟩ : ByteArray).extract 0 ((ji9) : Int).toNat).size + t180.size ≤ 9223372036854775807) = true := decide_eq_true c24
                    try have c24b2 : (9223372036854775807 < ((⟨#[112, 114, 101]⟩ : ByteArray).extract 0 ((ji9) : Int).toNat).size + t180.size) = False := eq_false (Nat.not_lt.2 c24)
                    by_cases c25 : (((⟨#[112, 114, 101]⟩ : ByteArray).extract 0 ((ji9) : Int).toNat) ++ t180).size + (strOfNums y177).size ≤ 9223372036854775807
                    · rw [if_pos c25] at H
                      have c25b0 := eq_true c25
                      have c25b1 : decide ((((⟨#[112, 114, 101]⟩ : ByteArray).extract 0 ((ji9) : Int).toNat) ++ t180).size + (strOfNums y177).size ≤ 9223372036854775807) = true := decide_eq_true c25
                      try have c25b2 : (9223372036854775807 < (((⟨#[112, 114, 101]⟩ : ByteArray).extract 0 ((ji9) : Int).toNat) ++ t180).size + (strOfNums y177).size) = False := eq_false (Nat.not_lt.2 c25)
                      replace H := Option.bind_eq_some_iff.mp H
                      obtain ⟨⟨t182, t183, t184⟩, A260, H⟩ := H
                      replace H : (if t184 = true then (if t182 = t172 then (if t183 = (wrap64 ((((⟨#[112, 114, 101]⟩ : ByteArray).extract 0 ((ji9) : Int).toNat).size : Int) + (t180.size : Int))) then (laws_FnWire.j1 kj2 l0 t173 ((⟨#[112, 114, 101]⟩ : ByteArray).extract 0 ((ji9) : Int).toNat) (strOfNums y177)) else (some false)) else (some false)) else (some false)) = some r := H
                      have hsz_ : (((⟨#[112, 114, 101]⟩ : ByteArray).extract 0 ((ji9) : Int).toNat).size : Int) = max ji9 0 := by rw [ByteArray.size_extract]; have h3_ : (⟨#[112, 114, 101]⟩ : ByteArray).size = 3 := rfl; have h4_ := of_eq_true c10b0; have h5_ := of_eq_true c11b0; omega
                      rw [hsz_] at A260
                      simp only [hsz_] at H
                      clear hsz_
                      have A26 := Aside0.mk A260
                      clear A260
                      by_cases c27 : t184 = true
                      · subst c27
                        have H1 : (if t182 = t172 then (if t183 = (wrap64 ((max ji9 0) + (t180.size : Int))) then (laws_FnWire.j1 kj2 l0 t173 ((⟨#[112, 114, 101]⟩ : ByteArray).extract 0 ((ji9) : Int).toNat) (strOfNums y177)) else (some false)) else (some false)) = some r := by rw [if_pos rfl] at H; exact H
                        clear H
                        have H := H1
                        clear H1
                        by_cases c28 : t182 = t172
                        · rw [if_pos c28] at H
                          have c28b0 : (t182 == t172) = true := beq_iff_eq.mpr c28
                          have c28b1 : (t182 != t172) = false := bne_eq_false_iff_eq.mpr c28
                          clear c28
                          by_cases c29 : t183 = (wrap64 ((max ji9 0) + (t180.size : Int)))
                          · rw [if_pos c29] at H
                            have c29b0 : (t183 == (wrap64 ((max ji9 0) + (t180.size : Int)))) = true := beq_iff_eq.mpr c29
                            have c29b1 : (t183 != (wrap64 ((max ji9 0) + (t180.size : Int)))) = false := bne_eq_false_iff_eq.mpr c29
                            clear c29
                            have H' := Aside0.mk H
                            clear H
                            go_wp2_with (first | ((with_reducible refine gate_callee (f := 24) rfl ?_); refine goesL_ (some 62) rfl rfl Tryd.func24 (by kernel_rfl) rfl #[.string ((((⟨#[112, 114, 101]⟩ : ByteArray).extract 0 ((ji9) : Int).toNat) ++ t180) ++ (strOfNums y177)), .int .i64 (max ji9 0)] rfl (by (try simp only [List.map_toArray, List.map_cons, List.map_nil]); first | done | (simp only [hji9]; rfl) | rfl | (simp only [List.length_drop, List.length_take]; rfl)) ?_; (with_reducible refine (impl_GetVarint.calls kj2 ((((⟨#[112, 114, 101]⟩ : ByteArray).extract 0 ((ji9) : Int).toNat) ++ t180) ++ (strOfNums y177)) (max ji9 0) t182 t183 true _ A26.out).mono ?_); rintro e w' ⟨rfl, ⟨nd, rfl⟩⟩; refine ⟨_, rfl, ?_⟩))
                            go_meet
                            case rel => exact ⟨_, H', ⟨by have := HJ2.out; first | omega | exact Nat.le_refl _⟩, ⟨by repeat (first | (with_reducible first | exact HB.out | apply below_alloc | apply pw_below_drewN | apply below_drew1) | exact HB.out)⟩⟩
                          · rw [if_neg c29] at H
                            have c29b0 : (t183 == (wrap64 ((max ji9 0) + (t180.size : Int)))) = false := beq_eq_false_iff_ne.mpr c29
                            have c29b1 : (t183 != (wrap64 ((max ji9 0) + (t180.size : Int)))) = true := bne_iff_ne.mpr c29
                            obtain rfl := Option.some.inj H
                            go_wp2_with (first | ((with_reducible refine gate_callee (f := 24) rfl ?_); refine goesL_ (some 62) rfl rfl Tryd.func24 (by kernel_rfl) rfl #[.string ((((⟨#[112, 114, 101]⟩ : ByteArray).extract 0 ((ji9) : Int).toNat) ++ t180) ++ (strOfNums y177)), .int .i64 (max ji9 0)] rfl (by (try simp only [List.map_toArray, List.map_cons, List.map_nil]); first | done | (simp only [hji9]; rfl) | rfl | (simp only [List.length_drop, List.length_take]; rfl)) ?_; (with_reducible refine (impl_GetVarint.calls kj2 ((((⟨#[112, 114, 101]⟩ : ByteArray).extract 0 ((ji9) : Int).toNat) ++ t180) ++ (strOfNums y177)) (max ji9 0) t182 t183 true _ A26.out).mono ?_); rintro e w' ⟨rfl, ⟨nd, rfl⟩⟩; refine ⟨_, rfl, ?_⟩))
                            go_ret
                            exact ⟨by first | rfl | (simp [errW_none, errW_some] <;> rfl) | (simp only [← hji9]; first | rfl | (simp [errW_none, errW_some] <;> rfl)) | (simp [*, errW_none, errW_some] <;> rfl), by repeat (first | (with_reducible first | exact HB.out | apply below_alloc | apply pw_below_drewN | apply below_drew1) | exact HB.out)⟩
                        · rw [if_neg c28] at H
                          have c28b0 : (t182 == t172) = false := beq_eq_false_iff_ne.mpr c28
                          have c28b1 : (t182 != t172) = true := bne_iff_ne.mpr c28
                          obtain rfl := Option.some.inj H
                          go_wp2_with (first | ((with_reducible refine gate_callee (f := 24) rfl ?_); refine goesL_ (some 62) rfl rfl Tryd.func24 (by kernel_rfl) rfl #[.string ((((⟨#[112, 114, 101]⟩ : ByteArray).extract 0 ((ji9) : Int).toNat) ++ t180) ++ (strOfNums y177)), .int .i64 (max ji9 0)] rfl (by (try simp only [List.map_toArray, List.map_cons, List.map_nil]); first | done | (simp only [hji9]; rfl) | rfl | (simp only [List.length_drop, List.length_take]; rfl)) ?_; (with_reducible refine (impl_GetVarint.calls kj2 ((((⟨#[112, 114, 101]⟩ : ByteArray).extract 0 ((ji9) : Int).toNat) ++ t180) ++ (strOfNums y177)) (max ji9 0) t182 t183 true _ A26.out).mono ?_); rintro e w' ⟨rfl, ⟨nd, rfl⟩⟩; refine ⟨_, rfl, ?_⟩))
                          go_ret
                          exact ⟨by first | rfl | (simp [errW_none, errW_some] <;> rfl) | (simp only [← hji9]; first | rfl | (simp [errW_none, errW_some] <;> rfl)) | (simp [*, errW_none, errW_some] <;> rfl), by repeat (first | (with_reducible first | exact HB.out | apply below_alloc | apply pw_below_drewN | apply below_drew1) | exact HB.out)⟩
                      · replace c27 := Bool.eq_false_iff.mpr c27
                        subst c27
                        have H1 : (some false) = some r := by rw [if_neg (show ¬ (false = true) by decide)] at H; exact H
                        clear H
                        have H := H1
                        clear H1
                        obtain rfl := Option.some.inj H
                        go_wp2_with (first | ((with_reducible refine gate_callee (f := 24) rfl ?_); refine goesL_ (some 62) rfl rfl Tryd.func24 (by kernel_rfl) rfl #[.string ((((⟨#[112, 114, 101]⟩ : ByteArray).extract 0 ((ji9) : Int).toNat) ++ t180) ++ (strOfNums y177)), .int .i64 (max ji9 0)] rfl (by (try simp only [List.map_toArray, List.map_cons, List.map_nil]); first | done | (simp only [hji9]; rfl) | rfl | (simp only [List.length_drop, List.length_take]; rfl)) ?_; (with_reducible refine (impl_GetVarint.calls kj2 ((((⟨#[112, 114, 101]⟩ : ByteArray).extract 0 ((ji9) : Int).toNat) ++ t180) ++ (strOfNums y177)) (max ji9 0) t182 t183 false _ A26.out).mono ?_); rintro e w' ⟨rfl, ⟨nd, rfl⟩⟩; refine ⟨_, rfl, ?_⟩))
                        go_ret
                        exact ⟨by first | rfl | (simp [errW_none, errW_some] <;> rfl) | (simp only [← hji9]; first | rfl | (simp [errW_none, errW_some] <;> rfl)) | (simp [*, errW_none, errW_some] <;> rfl), by repeat (first | (with_reducible first | exact HB.out | apply below_alloc | apply pw_below_drewN | apply below_drew1) | exact HB.out)⟩
                    · rw [if_neg c25] at H
                      exact absurd H (by simp)
                  · rw [if_neg c24] at H
                    exact absurd H (by simp)
                · rw [if_neg c23] at H
                  have c23b0 : decide (0 < (t180.size : Int)) = false := decide_eq_false c23
                  have c23b1 : decide (0 < t180.size) = false := decide_eq_false (by omega)
                  have c23b2 : (0 < t180.size) = False := eq_false (by omega)
                  clear c23
                  (first | rw [c23b0] | rw [c23b1] | rw [c23b1] | (simp only [i64_w, i32_w]; rw [c23b0]) | skip)
                  have H' := Aside0.mk H
                  clear H
                  go_wp2
                  go_meet
                  case rel => exact ⟨_, H', ⟨by have := HJ2.out; first | omega | exact Nat.le_refl _⟩, ⟨by repeat (first | (with_reducible first | exact HB.out | apply below_alloc | apply pw_below_drewN | apply below_drew1) | exact HB.out)⟩⟩
              case rest =>
                clear HC17
                try clear c1
                try clear c2
                try clear p2
                try clear hcv2
                try clear c4
                try clear c4b0
                try clear c4b1
                try clear c5
                try clear p6
                try clear c7
                try clear c10
                try clear c10b1
                try clear c11
                try clear c11b1
                try clear c16
                try clear c16b0
                try clear c16b1
                try clear c19
                try clear c20
                try clear hcv20
                try clear c21
                try clear c22
                try clear c23
                try clear c23b0
                try clear c23b1
                try clear c24
                try clear c24b0
                try clear c24b1
                try clear c24b2
                try clear c25
                try clear c25b0
                try clear c25b1
                try clear c25b2
                try clear c27
                try clear c28
                try clear c28b0
                try clear c28b1
                try clear c29
                try clear c29b0
                try clear c29b1
                try clear p2
                obtain ⟨kq, HA, HJ16, HB⟩ := hcut
                cases kq with
                | zero => exact absurd HA.out (by simp [laws_FnWire.j1])
                | succ kj16 =>
                  have H := HA.out
                  clear HA
                  simp only [laws_FnWire.j1] at H
                  replace H := Option.bind_eq_some_iff.mp H
                  obtain ⟨t185, A300, H⟩ := H
                  replace H : ((spec_PutInt.f kj16 t173).bind fun t186 => (if t185.toList = t186.toList then (if ((⟨#[112, 114, 101]⟩ : ByteArray).extract 0 ((ji9) : Int).toNat).size + t185.size ≤ 9223372036854775807 then (if (((⟨#[112, 114, 101]⟩ : ByteArray).extract 0 ((ji9) : Int).toNat) ++ t185).size + (strOfNums y177).size ≤ 9223372036854775807 then ((impl_GetInt.f kj16 ((((⟨#[112, 114, 101]⟩ : ByteArray).extract 0 ((ji9) : Int).toNat) ++ t185) ++ (strOfNums y177)) (((⟨#[112, 114, 101]⟩ : ByteArray).extract 0 ((ji9) : Int).toNat).size : Int)).bind fun bt187 => (if bt187.2.2 = true then (if bt187.1 = t173 then (if bt187.2.1 = (wrap64 ((((⟨#[112, 114, 101]⟩ : ByteArray).extract 0 ((ji9) : Int).toNat).size : Int) + 8)) then (laws_FnWire.j2 kj16 l0 ((t185.size : Int) != 8)) else (laws_FnWire.j2 kj16 l0 true)) else (laws_FnWire.j2 kj16 l0 true)) else (laws_FnWire.j2 kj16 l0 true))) else (none)) else (none)) else (some false))) = some r := H
                  have A30 := Aside0.mk A300
                  clear A300
                  replace H := Option.bind_eq_some_iff.mp H
                  obtain ⟨t186, A310, H⟩ := H
                  replace H : (if t185.toList = t186.toList then (if ((⟨#[112, 114, 101]⟩ : ByteArray).extract 0 ((ji9) : Int).toNat).size + t185.size ≤ 9223372036854775807 then (if (((⟨#[112, 114, 101]⟩ : ByteArray).extract 0 ((ji9) : Int).toNat) ++ t185).size + (strOfNums y177).size ≤ 9223372036854775807 then ((impl_GetInt.f kj16 ((((⟨#[112, 114, 101]⟩ : ByteArray).extract 0 ((ji9) : Int).toNat) ++ t185) ++ (strOfNums y177)) (((⟨#[112, 114, 101]⟩ : ByteArray).extract 0 ((ji9) : Int).toNat).size : Int)).bind fun bt187 => (if bt187.2.2 = true then (if bt187.1 = t173 then (if bt187.2.1 = (wrap64 ((((⟨#[112, 114, 101]⟩ : ByteArray).extract 0 ((ji9) : Int).toNat).size : Int) + 8)) then (laws_FnWire.j2 kj16 l0 ((t185.size : Int) != 8)) else (laws_FnWire.j2 kj16 l0 true)) else (laws_FnWire.j2 kj16 l0 true)) else (laws_FnWire.j2 kj16 l0 true))) else (none)) else (none)) else (some false)) = some r := H
                  have A31 := Aside0.mk A310
                  clear A310
                  by_cases c32 : t185.toList = t186.toList
                  · rw [if_pos c32] at H
                    have c32b0 : (t185.toList == t186.toList) = true := beq_iff_eq.mpr c32
                    have c32b1 : (t185.toList != t186.toList) = false := bne_eq_false_iff_eq.mpr c32
                    clear c32
                    by_cases c33 : ((⟨#[112, 114, 101]⟩ : ByteArray).extract 0 ((ji9) : Int).toNat).size + t185.size ≤ 9223372036854775807
                    · rw [if_pos c33] at H
                      have c33b0 := eq_true c33
                      have c33b1 : decide (((⟨#[112, 114, 101]⟩ : ByteArray).extract 0 ((ji9) : Int).toNat).size + t185.size ≤ 9223372036854775807) = true := decide_eq_true c33
                      try have c33b2 : (9223372036854775807 < ((⟨#[112, 114, 101]⟩ : ByteArray).extract 0 ((ji9) : Int).toNat).size + t185.size) = False := eq_false (Nat.not_lt.2 c33)
                      by_cases c34 : (((⟨#[112, 114, 101]⟩ : ByteArray).extract 0 ((ji9) : Int).toNat) ++ t185).size + (strOfNums y177).size ≤ 9223372036854775807
                      · rw [if_pos c34] at H
                        have c34b0 := eq_true c34
                        have c34b1 : decide ((((⟨#[112, 114, 101]⟩ : ByteArray).extract 0 ((ji9) : Int).toNat) ++ t185).size + (strOfNums y177).size ≤ 9223372036854775807) = true := decide_eq_true c34
                        try have c34b2 : (9223372036854775807 < (((⟨#[112, 114, 101]⟩ : ByteArray).extract 0 ((ji9) : Int).toNat) ++ t185).size + (strOfNums y177).size) = False := eq_false (Nat.not_lt.2 c34)
                        replace H := Option.bind_eq_some_iff.mp H
                        obtain ⟨⟨t187, t188, t189⟩, A350, H⟩ := H
                        replace H : (if t189 = true then (if t187 = t173 then (if t188 = (wrap64 ((((⟨#[112, 114, 101]⟩ : ByteArray).extract 0 ((ji9) : Int).toNat).size : Int) + 8)) then (laws_FnWire.j2 kj16 l0 ((t185.size : Int) != 8)) else (laws_FnWire.j2 kj16 l0 true)) else (laws_FnWire.j2 kj16 l0 true)) else (laws_FnWire.j2 kj16 l0 true)) = some r := H
                        have hsz_ : (((⟨#[112, 114, 101]⟩ : ByteArray).extract 0 ((ji9) : Int).toNat).size : Int) = max ji9 0 := by rw [ByteArray.size_extract]; have h3_ : (⟨#[112, 114, 101]⟩ : ByteArray).size = 3 := rfl; have h4_ := of_eq_true c10b0; have h5_ := of_eq_true c11b0; omega
                        rw [hsz_] at A350
                        simp only [hsz_] at H
                        clear hsz_
                        have A35 := Aside0.mk A350
                        clear A350
                        have HC36 := Aside0.mk H
                        clear H
                        go_upto_region 18 with (first | ((with_reducible refine gate_callee (f := 25) rfl ?_); refine goesL_ (some 83) rfl rfl Tryd.func25 (by kernel_rfl) rfl #[.int .i64 t173] rfl (by (try simp only [List.map_toArray, List.map_cons, List.map_nil]); first | done | rfl | (simp only [List.length_drop, List.length_take]; rfl)) ?_; (with_reducible refine (impl_PutInt.calls t173 t185 _ A30.out).mono ?_); rintro e w37 ⟨rfl, hb⟩; refine ⟨_, rfl, ?_⟩; have n0_ := Aside0.mk (below_step (by repeat (first | (with_reducible first | exact HB.out | apply below_alloc | apply pw_below_drewN | apply below_drew1) | exact HB.out)) hb); clear HB; have HB := n0_; clear n0_; (try clear hb); (try clear hb2); (try clear hk); (try clear hi)) | ((with_reducible refine gate_callee (f := 26) rfl ?_); refine goesL_ (some 86) rfl rfl Tryd.func26 (by kernel_rfl) rfl #[.int .i64 t173] rfl (by (try simp only [List.map_toArray, List.map_cons, List.map_nil]); first | done | rfl | (simp only [List.length_drop, List.length_take]; rfl)) ?_; (with_reducible refine (spec_PutInt.calls kj16 t173 t186 _ A31.out).mono ?_); rintro e w38 ⟨rfl, hb⟩; refine ⟨_, rfl, ?_⟩; have n0_ := Aside0.mk (below_step (by repeat (first | (with_reducible first | exact HB.out | apply below_alloc | apply pw_below_drewN | apply below_drew1) | exact HB.out)) hb); clear HB; have HB := n0_; clear n0_; (try clear hb); (try clear hb2); (try clear hk); (try clear hi)) | ((with_reducible refine gate_callee (f := 27) rfl ?_); refine goesL_ (some 96) rfl rfl Tryd.func27 (by kernel_rfl) rfl #[.string ((((⟨#[112, 114, 101]⟩ : ByteArray).extract 0 ((ji9) : Int).toNat) ++ t185) ++ (strOfNums y177)), .int .i64 (max ji9 0)] rfl (by (try simp only [List.map_toArray, List.map_cons, List.map_nil]); first | done | (simp only [hji9]; rfl) | rfl | (simp only [List.length_drop, List.length_take]; rfl)) ?_; (with_reducible refine (impl_GetInt.calls kj16 ((((⟨#[112, 114, 101]⟩ : ByteArray).extract 0 ((ji9) : Int).toNat) ++ t185) ++ (strOfNums y177)) (max ji9 0) t187 t188 t189 _ A35.out).mono ?_); rintro e w' ⟨rfl, ⟨nd, rfl⟩⟩; refine ⟨_, rfl, ?_⟩))
                        (try simp only [Act.put, List.setIfInBounds_toArray, List.set_cons_zero, List.set_cons_succ])
                        go_cut [118] (fun v118 wc => ∃ (kq : Nat) (x118_35 : Bool), v118 = .bool x118_35 ∧ Aside0 (laws_FnWire.j2 kq l0 x118_35 = some r) ∧ Aside0 (kq ≤ kj16) ∧ Aside0 (Below w.heap.size w wc))
                        case first =>
                          have H := HC36.out
                          clear HC36
                          by_cases c39 : t189 = true
                          · subst c39
                            have H1 : (if t187 = t173 then (if t188 = (wrap64 ((max ji9 0) + 8)) then (laws_FnWire.j2 kj16 l0 ((t185.size : Int) != 8)) else (laws_FnWire.j2 kj16 l0 true)) else (laws_FnWire.j2 kj16 l0 true)) = some r := by rw [if_pos rfl] at H; exact H
                            clear H
                            have H := H1
                            clear H1
                            by_cases c40 : t187 = t173
                            · rw [if_pos c40] at H
                              have c40b0 : (t187 == t173) = true := beq_iff_eq.mpr c40
                              have c40b1 : (t187 != t173) = false := bne_eq_false_iff_eq.mpr c40
                              clear c40
                              (first | rw [c40b0] | (simp only [i64_w, i32_w]; rw [c40b0]) | skip)
                              by_cases c41 : t188 = (wrap64 ((max ji9 0) + 8))
                              · rw [if_pos c41] at H
                                have c41b0 : (t188 == (wrap64 ((max ji9 0) + 8))) = true := beq_iff_eq.mpr c41
                                have c41b1 : (t188 != (wrap64 ((max ji9 0) + 8))) = false := bne_eq_false_iff_eq.mpr c41
                                clear c41
                                have H' := Aside0.mk H
                                clear H
                                go_wp2
                                go_meet
                                case rel => exact ⟨_, (((t185.size : Int) != 8)), (by first | rfl | (simp; done) | (simp [*]; done)), H', ⟨by have := HJ2.out; have := HJ16.out; first | omega | exact Nat.le_refl _⟩, ⟨by repeat (first | (with_reducible first | exact HB.out | apply below_alloc | apply pw_below_drewN | apply below_drew1) | exact HB.out)⟩⟩
                              · rw [if_neg c41] at H
                                have c41b0 : (t188 == (wrap64 ((max ji9 0) + 8))) = false := beq_eq_false_iff_ne.mpr c41
                                have c41b1 : (t188 != (wrap64 ((max ji9 0) + 8))) = true := bne_iff_ne.mpr c41
                                have H' := Aside0.mk H
                                clear H
                                go_wp2
                                go_meet
                                case rel => exact ⟨_, (true), (by first | rfl | (simp; done) | (simp [*]; done)), H', ⟨by have := HJ2.out; have := HJ16.out; first | omega | exact Nat.le_refl _⟩, ⟨by repeat (first | (with_reducible first | exact HB.out | apply below_alloc | apply pw_below_drewN | apply below_drew1) | exact HB.out)⟩⟩
                            · rw [if_neg c40] at H
                              have c40b0 : (t187 == t173) = false := beq_eq_false_iff_ne.mpr c40
                              have c40b1 : (t187 != t173) = true := bne_iff_ne.mpr c40
                              (first | rw [c40b0] | (simp only [i64_w, i32_w]; rw [c40b0]) | skip)
                              have H' := Aside0.mk H
                              clear H
                              go_wp2
                              go_meet
                              case rel => exact ⟨_, (true), (by first | rfl | (simp; done) | (simp [*]; done)), H', ⟨by have := HJ2.out; have := HJ16.out; first | omega | exact Nat.le_refl _⟩, ⟨by repeat (first | (with_reducible first | exact HB.out | apply below_alloc | apply pw_below_drewN | apply below_drew1) | exact HB.out)⟩⟩
                          · replace c39 := Bool.eq_false_iff.mpr c39
                            subst c39
                            have H1 : (laws_FnWire.j2 kj16 l0 true) = some r := by rw [if_neg (show ¬ (false = true) by decide)] at H; exact H
                            clear H
                            have H := H1
                            clear H1
                            have H' := Aside0.mk H
                            clear H
                            go_wp2
                            go_meet
                            case rel => exact ⟨_, (true), (by first | rfl | (simp; done) | (simp [*]; done)), H', ⟨by have := HJ2.out; have := HJ16.out; first | omega | exact Nat.le_refl _⟩, ⟨by repeat (first | (with_reducible first | exact HB.out | apply below_alloc | apply pw_below_drewN | apply below_drew1) | exact HB.out)⟩⟩
                        case rest =>
                          clear HC36
                          try clear c1
                          try clear c2
                          try clear p2
                          try clear hcv2
                          try clear c3
                          try clear c4
                          try clear c4b0
                          try clear c4b1
                          try clear c5
                          try clear p6
                          try clear c7
                          try clear c10
                          try clear c10b1
                          try clear c11
                          try clear c11b1
                          try clear c16
                          try clear c16b0
                          try clear c16b1
                          try clear c19
                          try clear c20
                          try clear hcv20
                          try clear c21
                          try clear c22
                          try clear c23
                          try clear c23b0
                          try clear c23b1
                          try clear c24
                          try clear c24b0
                          try clear c24b1
                          try clear c24b2
                          try clear c25
                          try clear c25b0
                          try clear c25b1
                          try clear c25b2
                          try clear c26
                          try clear c27
                          try clear c28
                          try clear c28b0
                          try clear c28b1
                          try clear c29
                          try clear c29b0
                          try clear c29b1
                          try clear c32
                          try clear c32b0
                          try clear c32b1
                          try clear c33
                          try clear c33b0
                          try clear c33b1
                          try clear c33b2
                          try clear c34
                          try clear c34b0
                          try clear c34b1
                          try clear c34b2
                          try clear c39
                          try clear c40
                          try clear c40b0
                          try clear c40b1
                          try clear c41
                          try clear c41b0
                          try clear c41b1
                          try clear p2
                          try clear p6
                          obtain ⟨kq, x118_35, rfl, HA, HJ35, HB⟩ := hcut
                          cases kq with
                          | zero => exact absurd HA.out (by simp [laws_FnWire.j2])
                          | succ kj35 =>
                            have H := HA.out
                            clear HA
                            simp only [laws_FnWire.j2] at H
                            by_cases c42 : x118_35 = true
                            · subst c42
                              have H1 : (some false) = some r := by rw [if_pos rfl] at H; exact H
                              clear H
                              have H := H1
                              clear H1
                              obtain rfl := Option.some.inj H
                              go_wp2
                              go_ret
                              exact ⟨by first | rfl | (simp [errW_none, errW_some] <;> rfl) | (simp only [← hji9]; first | rfl | (simp [errW_none, errW_some] <;> rfl)) | (simp [*, errW_none, errW_some] <;> rfl), by repeat (first | (with_reducible first | exact HB.out | apply below_alloc | apply pw_below_drewN | apply below_drew1) | exact HB.out)⟩
                            · replace c42 := Bool.eq_false_iff.mpr c42
                              subst c42
                              have H1 : ((spec_DrawUnpack.f kj35 l0).bind fun t190 => ((impl_Unpack.f t190).bind fun bt191 => ((impl_Pack.f bt191.1 bt191.2.1 bt191.2.2.1 bt191.2.2.2.1 bt191.2.2.2.2).bind fun t197 => (if t197 = t190 then ((impl_Wide.f bt191.1 bt191.2.1 bt191.2.2.2.2).bind fun bt198 => (laws_FnWire.j3 kj35 l0 (!(bt198.1 == bt191.1) || (!(bt198.2.1 == bt191.2.1) || (!(bt198.2.2.1 == bt191.2.2.1) || (!(bt198.2.2.2.1 == bt191.2.2.2.1) || (!(bt198.2.2.2.2 == bt191.2.2.2.2)))))))) else (laws_FnWire.j3 kj35 l0 true))))) = some r := by rw [if_neg (show ¬ (false = true) by decide)] at H; exact H
                              clear H
                              have H := H1
                              clear H1
                              replace H := Option.bind_eq_some_iff.mp H
                              obtain ⟨t190, A430, H⟩ := H
                              replace H : ((impl_Unpack.f t190).bind fun bt191 => ((impl_Pack.f bt191.1 bt191.2.1 bt191.2.2.1 bt191.2.2.2.1 bt191.2.2.2.2).bind fun t197 => (if t197 = t190 then ((impl_Wide.f bt191.1 bt191.2.1 bt191.2.2.2.2).bind fun bt198 => (laws_FnWire.j3 kj35 l0 (!(bt198.1 == bt191.1) || (!(bt198.2.1 == bt191.2.1) || (!(bt198.2.2.1 == bt191.2.2.1) || (!(bt198.2.2.2.1 == bt191.2.2.2.1) || (!(bt198.2.2.2.2 == bt191.2.2.2.2)))))))) else (laws_FnWire.j3 kj35 l0 true)))) = some r := H
                              have A43 := Aside0.mk A430
                              clear A430
                              replace H := Option.bind_eq_some_iff.mp H
                              obtain ⟨⟨t191, t192, t193, t194, t195⟩, A440, H⟩ := H
                              replace H : ((impl_Pack.f t191 t192 t193 t194 t195).bind fun t197 => (if t197 = t190 then ((impl_Wide.f t191 t192 t195).bind fun bt198 => (laws_FnWire.j3 kj35 l0 (!(bt198.1 == t191) || (!(bt198.2.1 == t192) || (!(bt198.2.2.1 == t193) || (!(bt198.2.2.2.1 == t194) || (!(bt198.2.2.2.2 == t195)))))))) else (laws_FnWire.j3 kj35 l0 true))) = some r := H
                              have A44 := Aside0.mk A440
                              clear A440
                              have HC45 := Aside0.mk H
                              clear H
                              go_upto_region 22 with (first | ((with_reducible refine gate_callee (f := 28) rfl ?_); refine goesL_ (some 120) rfl rfl Tryd.func28 (by kernel_rfl) rfl #[.slice A0 l0.length c0] rfl (by (try simp only [List.map_toArray, List.map_cons, List.map_nil]); first | done | rfl | (simp only [List.length_drop, List.length_take]; rfl)) ?_; (with_reducible refine (spec_DrawUnpack.calls kj35 _ _ l0 t190 _ ?side1 ?side2 A43.out).mono ?_); (case side1 => repeat (first | exact (Kd.C_below HR0.out HB.out) | (with_reducible refine Kd.C_alloc ?_ _) | (with_reducible refine Kd.C_drewN ?_ _) | (with_reducible refine Kd.C_drew ?_))); (case side2 => exact HC0.out); rintro e w' ⟨rfl, ⟨nd, rfl⟩⟩; refine ⟨_, rfl, ?_⟩; (try (rw [drewN_self wc]; generalize hq_ : World.drewN wc _ = wc; have n0_ : Aside0 (Below w.heap.size w wc) := ⟨by rw [← hq_]; exact (by repeat (first | (with_reducible first | exact HB.out | apply below_alloc | apply pw_below_drewN | apply below_drew1) | exact HB.out))⟩; clear HB hq_; have HB := n0_; clear n0_))) | ((with_reducible refine gate_callee (f := 14) rfl ?_); refine goesL_ (some 122) rfl rfl Tryd.func14 (by kernel_rfl) rfl #[.int .u32 t190] rfl (by (try simp only [List.map_toArray, List.map_cons, List.map_nil]); first | done | rfl | (simp only [List.length_drop, List.length_take]; rfl)) ?_; (with_reducible refine (impl_Unpack.calls t190 t191 t192 t193 t194 t195 _ A44.out ?hG_1).mono ?_); (case hG_1 => exact Glob.below hG (by repeat (first | (with_reducible first | exact HB.out | apply below_alloc | apply pw_below_drewN | apply below_drew1) | exact HB.out))); rintro e w46 ⟨rfl, hb⟩; refine ⟨_, rfl, ?_⟩; have n0_ := Aside0.mk (below_step (by repeat (first | (with_reducible first | exact HB.out | apply below_alloc | apply pw_below_drewN | apply below_drew1) | exact HB.out)) hb); clear HB; have HB := n0_; clear n0_; (try clear hb); (try clear hb2); (try clear hk); (try clear hi)) | ((with_reducible refine gate_dst (N := 18) rfl ?_); (try (refine gate_guard (by rfl) ?_; dsimp only)); refine box_event ?hg (N := 18) ?hd (cs := #[.int .i64 0, .int .i64 0, .int .i64 0, .int .i64 0, .int .i64 0]) (t := 28) ?hr ?_; (case hd => rfl); (case hg => rfl); (case hr => first | (go_simp; done) | (go_simp; rfl)); intro gb196 hg w47 hbox hb; have n0_ := Aside0.mk (below_step (by repeat (first | (with_reducible first | exact HB.out | apply below_alloc | apply pw_below_drewN | apply below_drew1) | exact HB.out)) hb); have n1_ := Aside0.mk (hbox); have n2_ := Aside0.mk ((by rw [hg]; exact (below_size (by repeat (first | (with_reducible first | exact HB.out | apply below_alloc | apply pw_below_drewN | apply below_drew1) | exact HB.out))) : w.heap.size ≤ gb196)); have n3_ := Aside0.mk ((by rw [hg]; exact (below_size (by repeat (first | (with_reducible first | exact HB.out | apply below_alloc | apply pw_below_drewN | apply below_drew1) | exact HB.out))) : w.heap.size ≤ gb196)); clear HB; have HB := n0_; have BK196 := n1_; have GW196 := n2_; have GE196 := n3_; clear n0_ n1_ n2_ n3_; clear hb hbox hg; have hcz48_0 : w47.cell? ⟨gb196, 0, none⟩ = some (.int .i64 0) := (blk_cell BK196.out 0).trans rfl; have hcz48_1 : w47.cell? ⟨gb196, 1, none⟩ = some (.int .i64 0) := (blk_cell BK196.out 1).trans rfl; have hcz48_2 : w47.cell? ⟨gb196, 2, none⟩ = some (.int .i64 0) := (blk_cell BK196.out 2).trans rfl; have hcz48_3 : w47.cell? ⟨gb196, 3, none⟩ = some (.int .i64 0) := (blk_cell BK196.out 3).trans rfl; have hcz48_4 : w47.cell? ⟨gb196, 4, none⟩ = some (.int .i64 0) := (blk_cell BK196.out 4).trans rfl; have hfz48_0 := blk_frozen BK196.out 0; have hfz48_1 := blk_frozen BK196.out 1; have hfz48_2 := blk_frozen BK196.out 2; have hfz48_3 := blk_frozen BK196.out 3; have hfz48_4 := blk_frozen BK196.out 4))
                              (try simp only [Act.put, List.setIfInBounds_toArray, List.set_cons_zero, List.set_cons_succ])
                              go_cut [137] (fun v137 wc => ∃ (kq : Nat) (x137_44 : Bool), v137 = .bool x137_44 ∧ Aside0 (laws_FnWire.j3 kq l0 x137_44 = some r) ∧ Aside0 (kq ≤ kj35) ∧ Aside0 (wc.heap[gb196]? = some (.cells #[.int .i64 t191, .int .i64 t192, .int .i64 t193, .int .i64 t194, .int .i64 t195] 28 (0, 0))) ∧ Aside0 (Below w.heap.size w wc))
                              case first =>
                                have H := HC45.out
                                clear HC45
                                replace H := Option.bind_eq_some_iff.mp H
                                obtain ⟨t197, A490, H⟩ := H
                                replace H : (if t197 = t190 then ((impl_Wide.f t191 t192 t195).bind fun bt198 => (laws_FnWire.j3 kj35 l0 (!(bt198.1 == t191) || (!(bt198.2.1 == t192) || (!(bt198.2.2.1 == t193) || (!(bt198.2.2.2.1 == t194) || (!(bt198.2.2.2.2 == t195)))))))) else (laws_FnWire.j3 kj35 l0 true)) = some r := H
                                have A49 := Aside0.mk A490
                                clear A490
                                by_cases c50 : t197 = t190
                                · rw [if_pos c50] at H
                                  have c50b0 : (t197 == t190) = true := beq_iff_eq.mpr c50
                                  have c50b1 : (t197 != t190) = false := bne_eq_false_iff_eq.mpr c50
                                  clear c50
                                  (first | rw [c50b0] | (simp only [i64_w, i32_w]; rw [c50b0]) | skip)
                                  replace H := Option.bind_eq_some_iff.mp H
                                  obtain ⟨⟨t198, t199, t200, t201, t202⟩, A510, H⟩ := H
                                  replace H : (laws_FnWire.j3 kj35 l0 (!(t198 == t191) || (!(t199 == t192) || (!(t200 == t193) || (!(t201 == t194) || (!(t202 == t195))))))) = some r := H
                                  have A51 := Aside0.mk A510
                                  clear A510
                                  have H' := Aside0.mk H
                                  clear H
                                  try go_wp2
                                  have n0_ : Aside0 ((((((w47.setCell ⟨gb196, 0, none⟩ (.int .i64 t191)).setCell ⟨gb196, 1, none⟩ (.int .i64 t192)).setCell ⟨gb196, 2, none⟩ (.int .i64 t193)).setCell ⟨gb196, 3, none⟩ (.int .i64 t194)).setCell ⟨gb196, 4, none⟩ (.int .i64 t195)).heap[gb196]? = some (.cells #[.int .i64 t191, .int .i64 t192, .int .i64 t193, .int .i64 t194, .int .i64 t195] 28 (0, 0))) := ⟨by (with_reducible repeat (first | refine blk_drewN ?_ _ | refine blk_drew ?_ | refine blk_alloc ?_ _)); refine blk_put (cs := #[.int .i64 t191, .int .i64 t192, .int .i64 t193, .int .i64 t194, .int .i64 0]) ?_ 4 _ rfl; (with_reducible repeat (first | refine blk_drewN ?_ _ | refine blk_drew ?_ | refine blk_alloc ?_ _)); refine blk_put (cs := #[.int .i64 t191, .int .i64 t192, .int .i64 t193, .int .i64 0, .int .i64 0]) ?_ 3 _ rfl; (with_reducible repeat (first | refine blk_drewN ?_ _ | refine blk_drew ?_ | refine blk_alloc ?_ _)); refine blk_put (cs := #[.int .i64 t191, .int .i64 t192, .int .i64 0, .int .i64 0, .int .i64 0]) ?_ 2 _ rfl; (with_reducible repeat (first | refine blk_drewN ?_ _ | refine blk_drew ?_ | refine blk_alloc ?_ _)); refine blk_put (cs := #[.int .i64 t191, .int .i64 0, .int .i64 0, .int .i64 0, .int .i64 0]) ?_ 1 _ rfl; (with_reducible repeat (first | refine blk_drewN ?_ _ | refine blk_drew ?_ | refine blk_alloc ?_ _)); refine blk_put (cs := #[.int .i64 0, .int .i64 0, .int .i64 0, .int .i64 0, .int .i64 0]) ?_ 0 _ rfl; (with_reducible repeat (first | refine blk_drewN ?_ _ | refine blk_drew ?_ | refine blk_alloc ?_ _)); exact BK196.out⟩
                                  have n1_ : Aside0 (Below w.heap.size w (((((w47.setCell ⟨gb196, 0, none⟩ (.int .i64 t191)).setCell ⟨gb196, 1, none⟩ (.int .i64 t192)).setCell ⟨gb196, 2, none⟩ (.int .i64 t193)).setCell ⟨gb196, 3, none⟩ (.int .i64 t194)).setCell ⟨gb196, 4, none⟩ (.int .i64 t195))) := ⟨by repeat (first | (with_reducible first | exact HB.out | apply below_alloc | apply pw_below_drewN | apply below_drew1 | refine below_set ?_ GE196.out) | exact HB.out)⟩
                                  (try clear BK196)
                                  (try clear HB)
                                  generalize (((((w47.setCell ⟨gb196, 0, none⟩ (.int .i64 t191)).setCell ⟨gb196, 1, none⟩ (.int .i64 t192)).setCell ⟨gb196, 2, none⟩ (.int .i64 t193)).setCell ⟨gb196, 3, none⟩ (.int .i64 t194)).setCell ⟨gb196, 4, none⟩ (.int .i64 t195)) = w52 at n0_ n1_ ⊢
                                  have BK196 := n0_
                                  have HB := n1_
                                  clear n0_ n1_
                                  have n0_ := Aside0.mk (blk_drew BK196.out)
                                  have n1_ := Aside0.mk (below_drew1 HB.out)
                                  clear BK196
                                  clear HB
                                  have BK196 := n0_
                                  have HB := n1_
                                  clear n0_ n1_
                                  refine start_ (n := 15) (S := fun w' => w'.cell? ⟨gb196, 0, none⟩ = some (.int .i64 t191) ∧ w'.cell? ⟨gb196, 1, none⟩ = some (.int .i64 t192) ∧ w'.cell? ⟨gb196, 2, none⟩ = some (.int .i64 t193) ∧ w'.cell? ⟨gb196, 3, none⟩ = some (.int .i64 t194) ∧ w'.cell? ⟨gb196, 4, none⟩ = some (.int .i64 t195)) (ds := []) #[false, false, false, false, false, false, false, false, false, false, false, false, false, false, false] (by kernel_rfl) rfl rfl ⟨(blk_cell BK196.out 0).trans rfl, (blk_cell BK196.out 1).trans rfl, (blk_cell BK196.out 2).trans rfl, (blk_cell BK196.out 3).trans rfl, (blk_cell BK196.out 4).trans rfl⟩ (fun hHeld => ?_); refine with_tabW laws_FnWire.tab22 laws_FnWire.bits22 (fun HT_ HW_ => ?_)
                                  generalize w52.drew = w53 at BK196 HB hHeld ⊢
                                  refine pure_ (i := 2) (N := some 125) (v := ?_) (a' := ?_) #[false, false, true, false, false, false, false, false, false, false, false, false, false, false, false] rfl rfl (any_of HT_.out (by kernel_rfl)) (fun _ _ _ h => h) (Or.inl ⟨by rfl, ?_⟩) ?_ ?_
                                  rotate_left
                                  · intro w'
                                    go_simp
                                    with_reducible rfl
                                  rotate_left
                                  · simp only [Act.put, List.setIfInBounds_toArray, List.set_cons_zero, List.set_cons_succ, i64_w, i32_w]
                                    rfl
                                  refine take_ (i := 0) (N := some 123) (v := ?_) (a' := ?_) #[true, false, true, false, false, false, false, false, false, false, false, false, false, false, false] rfl rfl (take_ofW HT_.out HW_.out (by kernel_rfl)) (fun _ _ _ h => h) (Or.inl ⟨by rfl, ?_⟩) hHeld ?_ ?_
                                  rotate_left
                                  · rintro w' ⟨s0, s1, s2, s3, s4⟩
                                    go_simp
                                    with_reducible rfl
                                  rotate_left
                                  · simp only [Act.put, List.setIfInBounds_toArray, List.set_cons_zero, List.set_cons_succ, i64_w, i32_w]
                                    rfl
                                  refine one_ (i := 1) (N := some 124) #[true, true, true, false, false, false, false, false, false, false, false, false, false, false, false] rfl rfl (one_of HT_.out (by kernel_rfl)) (by decide) (fun K hK => ?_)
                                  refine goes_ Tryd.func18 (by kernel_rfl) rfl #[.agg #[.int .i64 t191, .int .i64 t192, .int .i64 t193, .int .i64 t194, .int .i64 t195]] (by rfl) rfl rfl (by (try simp only [List.map_toArray, List.map_cons, List.map_nil]); first | done | rfl | (simp only [List.length_drop, List.length_take]; rfl)) ?_
                                  with_reducible refine (impl_Pack.calls t191 t192 t193 t194 t195 t197 _ A49.out ?hGz).mono ?_
                                  case hGz => exact Glob.below hG (by repeat (first | (with_reducible first | exact HB.out | apply below_alloc | apply pw_below_drewN | apply below_drew1 | refine below_set ?_ GE196.out | refine below_set ?_ GE208.out) | exact HB.out))
                                  rintro e w54 ⟨rfl, hb⟩
                                  refine ⟨_, rfl, ?_⟩
                                  have n0_ := Aside0.mk (blk_below (g := gb196) (o := .cells #[.int .i64 t191, .int .i64 t192, .int .i64 t193, .int .i64 t194, .int .i64 t195] 28 (0, 0)) (by (with_reducible repeat (first | refine blk_drewN ?_ _ | refine blk_drew ?_ | refine blk_alloc ?_ _)); exact BK196.out) hb)
                                  have n1_ := Aside0.mk (below_step (by repeat (first | (with_reducible first | exact HB.out | apply below_alloc | apply pw_below_drewN | apply below_drew1 | refine below_set ?_ GE196.out) | exact HB.out)) hb)
                                  clear BK196
                                  clear HB
                                  have BK196 := n0_
                                  have HB := n1_
                                  clear n0_ n1_
                                  (try clear hb)
                                  (try clear hb2)
                                  (try clear hk)
                                  (try clear hi)
                                  refine hK.out _ _ ⟨(blk_cell BK196.out 0).trans rfl, (blk_cell BK196.out 1).trans rfl, (blk_cell BK196.out 2).trans rfl, (blk_cell BK196.out 3).trans rfl, (blk_cell BK196.out 4).trans rfl⟩ (fun hHeld => ?_)
                                  clear hK K
                                  refine norm_ (a' := ?_) ?_ ?_
                                  rotate_left
                                  · show Act.put _ (some 124) _ = _
                                    simp only [Act.put, List.setIfInBounds_toArray, List.set_cons_zero, List.set_cons_succ, i64_w, i32_w]
                                    rfl
                                  refine pure_ (i := 3) (N := some 126) (v := ?_) (a' := ?_) #[true, true, true, true, false, false, false, false, false, false, false, false, false, false, false] rfl rfl (any_of HT_.out (by kernel_rfl)) (fun _ _ _ h => h) (Or.inl ⟨by rfl, ?_⟩) ?_ ?_
                                  rotate_left
                                  · intro w'
                                    go_simp
                                    with_reducible rfl
                                  rotate_left
                                  · simp only [Act.put, List.setIfInBounds_toArray, List.set_cons_zero, List.set_cons_succ, i64_w, i32_w]
                                    rfl
                                  refine pure_ (i := 4) (N := some 127) (v := ?_) (a' := ?_) #[true, true, true, true, true, false, false, false, false, false, false, false, false, false, false] rfl rfl (any_of HT_.out (by kernel_rfl)) (fun _ _ _ h => h) (Or.inl ⟨by rfl, ?_⟩) ?_ ?_
                                  rotate_left
                                  · intro w'
                                    go_simp
                                    with_reducible rfl
                                  rotate_left
                                  · simp only [Act.put, List.setIfInBounds_toArray, List.set_cons_zero, List.set_cons_succ, i64_w, i32_w]
                                    rfl
                                  refine pure_ (i := 5) (N := some 128) (v := ?_) (a' := ?_) #[true, true, true, true, true, true, false, false, false, false, false, false, false, false, false] rfl rfl (any_of HT_.out (by kernel_rfl)) (fun _ _ _ h => h) (Or.inl ⟨by rfl, ?_⟩) ?_ ?_
                                  rotate_left
                                  · intro w'
                                    go_simp
                                    with_reducible rfl
                                  rotate_left
                                  · simp only [Act.put, List.setIfInBounds_toArray, List.set_cons_zero, List.set_cons_succ, i64_w, i32_w]
                                    rfl
                                  refine pure_ (i := 7) (N := some 130) (v := ?_) (a' := ?_) #[true, true, true, true, true, true, false, true, false, false, false, false, false, false, false] rfl rfl (any_of HT_.out (by kernel_rfl)) (fun _ _ _ h => h) (Or.inl ⟨by rfl, ?_⟩) ?_ ?_
                                  rotate_left
                                  · intro w'
                                    go_simp
                                    with_reducible rfl
                                  rotate_left
                                  · simp only [Act.put, List.setIfInBounds_toArray, List.set_cons_zero, List.set_cons_succ, i64_w, i32_w]
                                    rfl
                                  refine pure_ (i := 9) (N := some 132) (v := ?_) (a' := ?_) #[true, true, true, true, true, true, false, true, false, true, false, false, false, false, false] rfl rfl (any_of HT_.out (by kernel_rfl)) (fun _ _ _ h => h) (Or.inl ⟨by rfl, ?_⟩) ?_ ?_
                                  rotate_left
                                  · intro w'
                                    go_simp
                                    with_reducible rfl
                                  rotate_left
                                  · simp only [Act.put, List.setIfInBounds_toArray, List.set_cons_zero, List.set_cons_succ, i64_w, i32_w]
                                    rfl
                                  refine take_ (i := 6) (N := some 129) (v := ?_) (a' := ?_) #[true, true, true, true, true, true, true, true, false, true, false, false, false, false, false] rfl rfl (take_ofW HT_.out HW_.out (by kernel_rfl)) (fun _ _ _ h => h) (Or.inl ⟨by rfl, ?_⟩) hHeld ?_ ?_
                                  rotate_left
                                  · rintro w' ⟨s0, s1, s2, s3, s4⟩
                                    go_simp
                                    with_reducible rfl
                                  rotate_left
                                  · simp only [Act.put, List.setIfInBounds_toArray, List.set_cons_zero, List.set_cons_succ, i64_w, i32_w]
                                    rfl
                                  refine take_ (i := 8) (N := some 131) (v := ?_) (a' := ?_) #[true, true, true, true, true, true, true, true, true, true, false, false, false, false, false] rfl rfl (take_ofW HT_.out HW_.out (by kernel_rfl)) (fun _ _ _ h => h) (Or.inl ⟨by rfl, ?_⟩) hHeld ?_ ?_
                                  rotate_left
                                  · rintro w' ⟨s0, s1, s2, s3, s4⟩
                                    go_simp
                                    with_reducible rfl
                                  rotate_left
                                  · simp only [Act.put, List.setIfInBounds_toArray, List.set_cons_zero, List.set_cons_succ, i64_w, i32_w]
                                    rfl
                                  refine take_ (i := 10) (N := some 133) (v := ?_) (a' := ?_) #[true, true, true, true, true, true, true, true, true, true, true, false, false, false, false] rfl rfl (take_ofW HT_.out HW_.out (by kernel_rfl)) (fun _ _ _ h => h) (Or.inl ⟨by rfl, ?_⟩) hHeld ?_ ?_
                                  rotate_left
                                  · rintro w' ⟨s0, s1, s2, s3, s4⟩
                                    go_simp
                                    with_reducible rfl
                                  rotate_left
                                  · simp only [Act.put, List.setIfInBounds_toArray, List.set_cons_zero, List.set_cons_succ, i64_w, i32_w]
                                    rfl
                                  refine take_ (i := 12) (N := some 135) (v := ?_) (a' := ?_) #[true, true, true, true, true, true, true, true, true, true, true, false, true, false, false] rfl rfl (take_ofW HT_.out HW_.out (by kernel_rfl)) (fun _ _ _ h => h) (Or.inl ⟨by rfl, ?_⟩) hHeld ?_ ?_
                                  rotate_left
                                  · rintro w' ⟨s0, s1, s2, s3, s4⟩
                                    go_simp
                                    with_reducible rfl
                                  rotate_left
                                  · simp only [Act.put, List.setIfInBounds_toArray, List.set_cons_zero, List.set_cons_succ, i64_w, i32_w]
                                    rfl
                                  refine one_ (i := 11) (N := some 134) #[true, true, true, true, true, true, true, true, true, true, true, true, true, false, false] rfl rfl (one_of HT_.out (by kernel_rfl)) (by decide) (fun K hK => ?_)
                                  refine goes_ Tryd.func29 (by kernel_rfl) rfl #[.int .i64 t191, .int .i64 t192, .int .i64 t195] (by rfl) rfl rfl (by (try simp only [List.map_toArray, List.map_cons, List.map_nil]); first | done | rfl | (simp only [List.length_drop, List.length_take]; rfl)) ?_
                                  with_reducible refine (impl_Wide.calls t191 t192 t195 t198 t199 t200 t201 t202 _ A51.out).mono ?_
                                  rintro e w55 ⟨rfl, hb⟩
                                  refine ⟨_, rfl, ?_⟩
                                  have n0_ := Aside0.mk (blk_below (g := gb196) (o := .cells #[.int .i64 t191, .int .i64 t192, .int .i64 t193, .int .i64 t194, .int .i64 t195] 28 (0, 0)) (by (with_reducible repeat (first | refine blk_drewN ?_ _ | refine blk_drew ?_ | refine blk_alloc ?_ _)); exact BK196.out) hb)
                                  have n1_ := Aside0.mk (below_step (by repeat (first | (with_reducible first | exact HB.out | apply below_alloc | apply pw_below_drewN | apply below_drew1 | refine below_set ?_ GE196.out) | exact HB.out)) hb)
                                  clear BK196
                                  clear HB
                                  have BK196 := n0_
                                  have HB := n1_
                                  clear n0_ n1_
                                  (try clear hb)
                                  (try clear hb2)
                                  (try clear hk)
                                  (try clear hi)
                                  refine hK.out _ _ ⟨(blk_cell BK196.out 0).trans rfl, (blk_cell BK196.out 1).trans rfl, (blk_cell BK196.out 2).trans rfl, (blk_cell BK196.out 3).trans rfl, (blk_cell BK196.out 4).trans rfl⟩ (fun hHeld => ?_)
                                  clear hK K
                                  refine norm_ (a' := ?_) ?_ ?_
                                  rotate_left
                                  · show Act.put _ (some 134) _ = _
                                    simp only [Act.put, List.setIfInBounds_toArray, List.set_cons_zero, List.set_cons_succ, i64_w, i32_w]
                                    rfl
                                  refine pure_ (i := 13) (N := some 136) (v := ?_) (a' := ?_) #[true, true, true, true, true, true, true, true, true, true, true, true, true, true, false] rfl rfl (any_of HT_.out (by kernel_rfl)) (fun _ _ _ h => h) (Or.inl ⟨by rfl, ?_⟩) ?_ ?_
                                  rotate_left
                                  · intro w'
                                    go_simp
                                    with_reducible rfl
                                  rotate_left
                                  · simp only [Act.put, List.setIfInBounds_toArray, List.set_cons_zero, List.set_cons_succ, i64_w, i32_w]
                                    rfl
                                  refine pure_ (i := 14) (N := some 137) (v := ?_) (a' := ?_) #[true, true, true, true, true, true, true, true, true, true, true, true, true, true, true] rfl rfl (any_of HT_.out (by kernel_rfl)) (fun _ _ _ h => h) (Or.inl ⟨by rfl, ?_⟩) ?_ ?_
                                  rotate_left
                                  · intro w'
                                    go_simp
                                    with_reducible rfl
                                  rotate_left
                                  · simp only [Act.put, List.setIfInBounds_toArray, List.set_cons_zero, List.set_cons_succ, i64_w, i32_w]
                                    rfl
                                  refine done_ (done_of HT_.out (by kernel_rfl)) ?_
                                  try go_wp2
                                  go_meet
                                  case rel => exact ⟨_, ((!(t198 == t191) || (!(t199 == t192) || (!(t200 == t193) || (!(t201 == t194) || (!(t202 == t195))))))), (by first | rfl | (simp; done) | (simp [*]; done)), H', ⟨by have := HJ2.out; have := HJ16.out; have := HJ35.out; first | omega | exact Nat.le_refl _⟩, ⟨by (with_reducible repeat (first | refine blk_drewN ?_ _ | refine blk_drew ?_ | refine blk_alloc ?_ _)); exact BK196.out⟩, ⟨by repeat (first | (with_reducible first | exact HB.out | apply below_alloc | apply pw_below_drewN | apply below_drew1 | refine below_set ?_ GE196.out) | exact HB.out)⟩⟩
                                · rw [if_neg c50] at H
                                  have c50b0 : (t197 == t190) = false := beq_eq_false_iff_ne.mpr c50
                                  have c50b1 : (t197 != t190) = true := bne_iff_ne.mpr c50
                                  (first | rw [c50b0] | (simp only [i64_w, i32_w]; rw [c50b0]) | skip)
                                  have H' := Aside0.mk H
                                  clear H
                                  try go_wp2
                                  have n0_ : Aside0 ((((((w47.setCell ⟨gb196, 0, none⟩ (.int .i64 t191)).setCell ⟨gb196, 1, none⟩ (.int .i64 t192)).setCell ⟨gb196, 2, none⟩ (.int .i64 t193)).setCell ⟨gb196, 3, none⟩ (.int .i64 t194)).setCell ⟨gb196, 4, none⟩ (.int .i64 t195)).heap[gb196]? = some (.cells #[.int .i64 t191, .int .i64 t192, .int .i64 t193, .int .i64 t194, .int .i64 t195] 28 (0, 0))) := ⟨by (with_reducible repeat (first | refine blk_drewN ?_ _ | refine blk_drew ?_ | refine blk_alloc ?_ _)); refine blk_put (cs := #[.int .i64 t191, .int .i64 t192, .int .i64 t193, .int .i64 t194, .int .i64 0]) ?_ 4 _ rfl; (with_reducible repeat (first | refine blk_drewN ?_ _ | refine blk_drew ?_ | refine blk_alloc ?_ _)); refine blk_put (cs := #[.int .i64 t191, .int .i64 t192, .int .i64 t193, .int .i64 0, .int .i64 0]) ?_ 3 _ rfl; (with_reducible repeat (first | refine blk_drewN ?_ _ | refine blk_drew ?_ | refine blk_alloc ?_ _)); refine blk_put (cs := #[.int .i64 t191, .int .i64 t192, .int .i64 0, .int .i64 0, .int .i64 0]) ?_ 2 _ rfl; (with_reducible repeat (first | refine blk_drewN ?_ _ | refine blk_drew ?_ | refine blk_alloc ?_ _)); refine blk_put (cs := #[.int .i64 t191, .int .i64 0, .int .i64 0, .int .i64 0, .int .i64 0]) ?_ 1 _ rfl; (with_reducible repeat (first | refine blk_drewN ?_ _ | refine blk_drew ?_ | refine blk_alloc ?_ _)); refine blk_put (cs := #[.int .i64 0, .int .i64 0, .int .i64 0, .int .i64 0, .int .i64 0]) ?_ 0 _ rfl; (with_reducible repeat (first | refine blk_drewN ?_ _ | refine blk_drew ?_ | refine blk_alloc ?_ _)); exact BK196.out⟩
                                  have n1_ : Aside0 (Below w.heap.size w (((((w47.setCell ⟨gb196, 0, none⟩ (.int .i64 t191)).setCell ⟨gb196, 1, none⟩ (.int .i64 t192)).setCell ⟨gb196, 2, none⟩ (.int .i64 t193)).setCell ⟨gb196, 3, none⟩ (.int .i64 t194)).setCell ⟨gb196, 4, none⟩ (.int .i64 t195))) := ⟨by repeat (first | (with_reducible first | exact HB.out | apply below_alloc | apply pw_below_drewN | apply below_drew1 | refine below_set ?_ GE196.out) | exact HB.out)⟩
                                  (try clear BK196)
                                  (try clear HB)
                                  generalize (((((w47.setCell ⟨gb196, 0, none⟩ (.int .i64 t191)).setCell ⟨gb196, 1, none⟩ (.int .i64 t192)).setCell ⟨gb196, 2, none⟩ (.int .i64 t193)).setCell ⟨gb196, 3, none⟩ (.int .i64 t194)).setCell ⟨gb196, 4, none⟩ (.int .i64 t195)) = w56 at n0_ n1_ ⊢
                                  have BK196 := n0_
                                  have HB := n1_
                                  clear n0_ n1_
                                  have n0_ := Aside0.mk (blk_drew BK196.out)
                                  have n1_ := Aside0.mk (below_drew1 HB.out)
                                  clear BK196
                                  clear HB
                                  have BK196 := n0_
                                  have HB := n1_
                                  clear n0_ n1_
                                  refine start_ (n := 15) (S := fun w' => w'.cell? ⟨gb196, 0, none⟩ = some (.int .i64 t191) ∧ w'.cell? ⟨gb196, 1, none⟩ = some (.int .i64 t192) ∧ w'.cell? ⟨gb196, 2, none⟩ = some (.int .i64 t193) ∧ w'.cell? ⟨gb196, 3, none⟩ = some (.int .i64 t194) ∧ w'.cell? ⟨gb196, 4, none⟩ = some (.int .i64 t195)) (ds := []) #[false, false, false, false, false, false, false, false, false, false, false, false, false, false, false] (by kernel_rfl) rfl rfl ⟨(blk_cell BK196.out 0).trans rfl, (blk_cell BK196.out 1).trans rfl, (blk_cell BK196.out 2).trans rfl, (blk_cell BK196.out 3).trans rfl, (blk_cell BK196.out 4).trans rfl⟩ (fun hHeld => ?_); refine with_tabW laws_FnWire.tab22 laws_FnWire.bits22 (fun HT_ HW_ => ?_)
                                  generalize w56.drew = w57 at BK196 HB hHeld ⊢
                                  refine pure_ (i := 2) (N := some 125) (v := ?_) (a' := ?_) #[false, false, true, false, false, false, false, false, false, false, false, false, false, false, false] rfl rfl (any_of HT_.out (by kernel_rfl)) (fun _ _ _ h => h) (Or.inl ⟨by rfl, ?_⟩) ?_ ?_
                                  rotate_left
                                  · intro w'
                                    go_simp
                                    with_reducible rfl
                                  rotate_left
                                  · simp only [Act.put, List.setIfInBounds_toArray, List.set_cons_zero, List.set_cons_succ, i64_w, i32_w]
                                    rfl
                                  refine take_ (i := 0) (N := some 123) (v := ?_) (a' := ?_) #[true, false, true, false, false, false, false, false, false, false, false, false, false, false, false] rfl rfl (take_ofW HT_.out HW_.out (by kernel_rfl)) (fun _ _ _ h => h) (Or.inl ⟨by rfl, ?_⟩) hHeld ?_ ?_
                                  rotate_left
                                  · rintro w' ⟨s0, s1, s2, s3, s4⟩
                                    go_simp
                                    with_reducible rfl
                                  rotate_left
                                  · simp only [Act.put, List.setIfInBounds_toArray, List.set_cons_zero, List.set_cons_succ, i64_w, i32_w]
                                    rfl
                                  refine one_ (i := 1) (N := some 124) #[true, true, true, false, false, false, false, false, false, false, false, false, false, false, false] rfl rfl (one_of HT_.out (by kernel_rfl)) (by decide) (fun K hK => ?_)
                                  refine goes_ Tryd.func18 (by kernel_rfl) rfl #[.agg #[.int .i64 t191, .int .i64 t192, .int .i64 t193, .int .i64 t194, .int .i64 t195]] (by rfl) rfl rfl (by (try simp only [List.map_toArray, List.map_cons, List.map_nil]); first | done | rfl | (simp only [List.length_drop, List.length_take]; rfl)) ?_
                                  with_reducible refine (impl_Pack.calls t191 t192 t193 t194 t195 t197 _ A49.out ?hGz).mono ?_
                                  case hGz => exact Glob.below hG (by repeat (first | (with_reducible first | exact HB.out | apply below_alloc | apply pw_below_drewN | apply below_drew1 | refine below_set ?_ GE196.out | refine below_set ?_ GE208.out) | exact HB.out))
                                  rintro e w58 ⟨rfl, hb⟩
                                  refine ⟨_, rfl, ?_⟩
                                  have n0_ := Aside0.mk (blk_below (g := gb196) (o := .cells #[.int .i64 t191, .int .i64 t192, .int .i64 t193, .int .i64 t194, .int .i64 t195] 28 (0, 0)) (by (with_reducible repeat (first | refine blk_drewN ?_ _ | refine blk_drew ?_ | refine blk_alloc ?_ _)); exact BK196.out) hb)
                                  have n1_ := Aside0.mk (below_step (by repeat (first | (with_reducible first | exact HB.out | apply below_alloc | apply pw_below_drewN | apply below_drew1 | refine below_set ?_ GE196.out) | exact HB.out)) hb)
                                  clear BK196
                                  clear HB
                                  have BK196 := n0_
                                  have HB := n1_
                                  clear n0_ n1_
                                  (try clear hb)
                                  (try clear hb2)
                                  (try clear hk)
                                  (try clear hi)
                                  refine hK.out _ _ ⟨(blk_cell BK196.out 0).trans rfl, (blk_cell BK196.out 1).trans rfl, (blk_cell BK196.out 2).trans rfl, (blk_cell BK196.out 3).trans rfl, (blk_cell BK196.out 4).trans rfl⟩ (fun hHeld => ?_)
                                  clear hK K
                                  refine norm_ (a' := ?_) ?_ ?_
                                  rotate_left
                                  · show Act.put _ (some 124) _ = _
                                    simp only [Act.put, List.setIfInBounds_toArray, List.set_cons_zero, List.set_cons_succ, i64_w, i32_w]
                                    rfl
                                  refine pure_ (i := 3) (N := some 126) (v := ?_) (a' := ?_) #[true, true, true, true, false, false, false, false, false, false, false, false, false, false, false] rfl rfl (any_of HT_.out (by kernel_rfl)) (fun _ _ _ h => h) (Or.inl ⟨by rfl, ?_⟩) ?_ ?_
                                  rotate_left
                                  · intro w'
                                    go_simp
                                    with_reducible rfl
                                  rotate_left
                                  · simp only [Act.put, List.setIfInBounds_toArray, List.set_cons_zero, List.set_cons_succ, i64_w, i32_w]
                                    rfl
                                  refine pure_ (i := 4) (N := some 127) (v := ?_) (a' := ?_) #[true, true, true, true, true, false, false, false, false, false, false, false, false, false, false] rfl rfl (any_of HT_.out (by kernel_rfl)) (fun _ _ _ h => h) (Or.inl ⟨by rfl, ?_⟩) ?_ ?_
                                  rotate_left
                                  · intro w'
                                    go_simp
                                    with_reducible rfl
                                  rotate_left
                                  · simp only [Act.put, List.setIfInBounds_toArray, List.set_cons_zero, List.set_cons_succ, i64_w, i32_w]
                                    rfl
                                  refine pure_ (i := 5) (N := some 128) (v := undef) (a' := ?_) #[true, true, true, true, true, true, false, false, false, false, false, false, false, false, false] rfl rfl (any_of HT_.out (by kernel_rfl)) (fun _ _ _ h => h) (Or.inr ⟨by rfl, rfl⟩) ?_ ?_
                                  rotate_left
                                  · simp only [Act.put, List.setIfInBounds_toArray, List.set_cons_zero, List.set_cons_succ, i64_w, i32_w]
                                    rfl
                                  refine pure_ (i := 6) (N := some 129) (v := undef) (a' := ?_) #[true, true, true, true, true, true, true, false, false, false, false, false, false, false, false] rfl rfl (any_of HT_.out (by kernel_rfl)) (fun _ _ _ h => h) (Or.inr ⟨by rfl, rfl⟩) ?_ ?_
                                  rotate_left
                                  · simp only [Act.put, List.setIfInBounds_toArray, List.set_cons_zero, List.set_cons_succ, i64_w, i32_w]
                                    rfl
                                  refine pure_ (i := 7) (N := some 130) (v := undef) (a' := ?_) #[true, true, true, true, true, true, true, true, false, false, false, false, false, false, false] rfl rfl (any_of HT_.out (by kernel_rfl)) (fun _ _ _ h => h) (Or.inr ⟨by rfl, rfl⟩) ?_ ?_
                                  rotate_left
                                  · simp only [Act.put, List.setIfInBounds_toArray, List.set_cons_zero, List.set_cons_succ, i64_w, i32_w]
                                    rfl
                                  refine pure_ (i := 8) (N := some 131) (v := undef) (a' := ?_) #[true, true, true, true, true, true, true, true, true, false, false, false, false, false, false] rfl rfl (any_of HT_.out (by kernel_rfl)) (fun _ _ _ h => h) (Or.inr ⟨by rfl, rfl⟩) ?_ ?_
                                  rotate_left
                                  · simp only [Act.put, List.setIfInBounds_toArray, List.set_cons_zero, List.set_cons_succ, i64_w, i32_w]
                                    rfl
                                  refine pure_ (i := 9) (N := some 132) (v := undef) (a' := ?_) #[true, true, true, true, true, true, true, true, true, true, false, false, false, false, false] rfl rfl (any_of HT_.out (by kernel_rfl)) (fun _ _ _ h => h) (Or.inr ⟨by rfl, rfl⟩) ?_ ?_
                                  rotate_left
                                  · simp only [Act.put, List.setIfInBounds_toArray, List.set_cons_zero, List.set_cons_succ, i64_w, i32_w]
                                    rfl
                                  refine pure_ (i := 10) (N := some 133) (v := undef) (a' := ?_) #[true, true, true, true, true, true, true, true, true, true, true, false, false, false, false] rfl rfl (any_of HT_.out (by kernel_rfl)) (fun _ _ _ h => h) (Or.inr ⟨by rfl, rfl⟩) ?_ ?_
                                  rotate_left
                                  · simp only [Act.put, List.setIfInBounds_toArray, List.set_cons_zero, List.set_cons_succ, i64_w, i32_w]
                                    rfl
                                  refine pure_ (i := 11) (N := some 134) (v := undef) (a' := ?_) #[true, true, true, true, true, true, true, true, true, true, true, true, false, false, false] rfl rfl (any_of HT_.out (by kernel_rfl)) (fun _ _ _ h => h) (Or.inr ⟨by rfl, rfl⟩) ?_ ?_
                                  rotate_left
                                  · simp only [Act.put, List.setIfInBounds_toArray, List.set_cons_zero, List.set_cons_succ, i64_w, i32_w]
                                    rfl
                                  refine pure_ (i := 12) (N := some 135) (v := undef) (a' := ?_) #[true, true, true, true, true, true, true, true, true, true, true, true, true, false, false] rfl rfl (any_of HT_.out (by kernel_rfl)) (fun _ _ _ h => h) (Or.inr ⟨by rfl, rfl⟩) ?_ ?_
                                  rotate_left
                                  · simp only [Act.put, List.setIfInBounds_toArray, List.set_cons_zero, List.set_cons_succ, i64_w, i32_w]
                                    rfl
                                  refine pure_ (i := 13) (N := some 136) (v := undef) (a' := ?_) #[true, true, true, true, true, true, true, true, true, true, true, true, true, true, false] rfl rfl (any_of HT_.out (by kernel_rfl)) (fun _ _ _ h => h) (Or.inr ⟨by rfl, rfl⟩) ?_ ?_
                                  rotate_left
                                  · simp only [Act.put, List.setIfInBounds_toArray, List.set_cons_zero, List.set_cons_succ, i64_w, i32_w]
                                    rfl
                                  refine pure_ (i := 14) (N := some 137) (v := ?_) (a' := ?_) #[true, true, true, true, true, true, true, true, true, true, true, true, true, true, true] rfl rfl (any_of HT_.out (by kernel_rfl)) (fun _ _ _ h => h) (Or.inl ⟨by rfl, ?_⟩) ?_ ?_
                                  rotate_left
                                  · intro w'
                                    go_simp
                                    with_reducible rfl
                                  rotate_left
                                  · simp only [Act.put, List.setIfInBounds_toArray, List.set_cons_zero, List.set_cons_succ, i64_w, i32_w]
                                    rfl
                                  refine done_ (done_of HT_.out (by kernel_rfl)) ?_
                                  try go_wp2
                                  go_meet
                                  case rel => exact ⟨_, (true), (by first | rfl | (simp; done) | (simp [*]; done)), H', ⟨by have := HJ2.out; have := HJ16.out; have := HJ35.out; first | omega | exact Nat.le_refl _⟩, ⟨by (with_reducible repeat (first | refine blk_drewN ?_ _ | refine blk_drew ?_ | refine blk_alloc ?_ _)); exact BK196.out⟩, ⟨by repeat (first | (with_reducible first | exact HB.out | apply below_alloc | apply pw_below_drewN | apply below_drew1 | refine below_set ?_ GE196.out) | exact HB.out)⟩⟩
                              case rest =>
                                clear HC45
                                try clear c1
                                try clear c2
                                try clear p2
                                try clear hcv2
                                try clear c3
                                try clear c4
                                try clear c4b0
                                try clear c4b1
                                try clear c5
                                try clear p6
                                try clear c7
                                try clear c10
                                try clear c10b1
                                try clear c11
                                try clear c11b1
                                try clear c14
                                try clear c16
                                try clear c16b0
                                try clear c16b1
                                try clear c18
                                try clear c19
                                try clear c20
                                try clear hcv20
                                try clear c21
                                try clear c22
                                try clear c23
                                try clear c23b0
                                try clear c23b1
                                try clear c24
                                try clear c24b0
                                try clear c24b1
                                try clear c24b2
                                try clear c25
                                try clear c25b0
                                try clear c25b1
                                try clear c25b2
                                try clear c26
                                try clear c27
                                try clear c28
                                try clear c28b0
                                try clear c28b1
                                try clear c29
                                try clear c29b0
                                try clear c29b1
                                try clear c32
                                try clear c32b0
                                try clear c32b1
                                try clear c33
                                try clear c33b0
                                try clear c33b1
                                try clear c33b2
                                try clear c34
                                try clear c34b0
                                try clear c34b1
                                try clear c34b2
                                try clear c39
                                try clear c40
                                try clear c40b0
                                try clear c40b1
                                try clear c41
                                try clear c41b0
                                try clear c41b1
                                try clear c42
                                try clear c50
                                try clear c50b0
                                try clear c50b1
                                try clear hcz48_0
                                try clear hcz48_1
                                try clear hcz48_2
                                try clear hcz48_3
                                try clear hcz48_4
                                try clear hfz48_0
                                try clear hfz48_1
                                try clear hfz48_2
                                try clear hfz48_3
                                try clear hfz48_4
                                try clear p2
                                try clear p6
                                obtain ⟨kq, x137_44, rfl, HA, HJ44, BK196, HB⟩ := hcut
                                cases kq with
                                | zero => exact absurd HA.out (by simp [laws_FnWire.j3])
                                | succ kj44 =>
                                  have H := HA.out
                                  clear HA
                                  simp only [laws_FnWire.j3] at H
                                  by_cases c59 : x137_44 = true
                                  · subst c59
                                    have H1 : (some false) = some r := by rw [if_pos rfl] at H; exact H
                                    clear H
                                    have H := H1
                                    clear H1
                                    obtain rfl := Option.some.inj H
                                    go_wp2
                                    go_ret
                                    exact ⟨by first | rfl | (simp [errW_none, errW_some] <;> rfl) | (simp only [← hji9]; first | rfl | (simp [errW_none, errW_some] <;> rfl)) | (simp [*, errW_none, errW_some] <;> rfl), by repeat (first | (with_reducible first | exact HB.out | apply below_alloc | apply pw_below_drewN | apply below_drew1 | refine below_set ?_ GE196.out) | exact HB.out)⟩
                                  · replace c59 := Bool.eq_false_iff.mpr c59
                                    subst c59
                                    have H1 : ((spec_DrawPack.f kj44 l0).bind fun bt203 => ((impl_Pack.f bt203.1 bt203.2.1 bt203.2.2.1 bt203.2.2.2.1 bt203.2.2.2.2).bind fun t209 => ((spec_Pack.f kj44 bt203.1 bt203.2.1 bt203.2.2.1 bt203.2.2.2.1 bt203.2.2.2.2).bind fun t210 => (if t209 = t210 then ((spec_Pack.f kj44 bt203.1 bt203.2.1 bt203.2.2.1 bt203.2.2.2.1 bt203.2.2.2.2).bind fun t211 => ((spec_Unpack.f t211).bind fun bt212 => (if (!(bt212.1 == bt203.1) || (!(bt212.2.1 == bt203.2.1) || (!(bt212.2.2.1 == bt203.2.2.1) || (!(bt212.2.2.2.1 == bt203.2.2.2.1) || (!(bt212.2.2.2.2 == bt203.2.2.2.2)))))) = true then (some true) else ((impl_Unpack.f t209).bind fun bt217 => (some (bt217.1 == bt203.1 && (bt217.2.1 == bt203.2.1 && (bt217.2.2.1 == bt203.2.2.1 && (bt217.2.2.2.1 == bt203.2.2.2.1 && (bt217.2.2.2.2 == bt203.2.2.2.2)))))))))) else (some false))))) = some r := by rw [if_neg (show ¬ (false = true) by decide)] at H; exact H
                                    clear H
                                    have H := H1
                                    clear H1
                                    replace H := Option.bind_eq_some_iff.mp H
                                    obtain ⟨⟨t203, t204, t205, t206, t207⟩, A600, H⟩ := H
                                    replace H : ((impl_Pack.f t203 t204 t205 t206 t207).bind fun t209 => ((spec_Pack.f kj44 t203 t204 t205 t206 t207).bind fun t210 => (if t209 = t210 then ((spec_Pack.f kj44 t203 t204 t205 t206 t207).bind fun t211 => ((spec_Unpack.f t211).bind fun bt212 => (if (!(bt212.1 == t203) || (!(bt212.2.1 == t204) || (!(bt212.2.2.1 == t205) || (!(bt212.2.2.2.1 == t206) || (!(bt212.2.2.2.2 == t207)))))) = true then (some true) else ((impl_Unpack.f t209).bind fun bt217 => (some (bt217.1 == t203 && (bt217.2.1 == t204 && (bt217.2.2.1 == t205 && (bt217.2.2.2.1 == t206 && (bt217.2.2.2.2 == t207)))))))))) else (some false)))) = some r := H
                                    have A60 := Aside0.mk A600
                                    clear A600
                                    replace H := Option.bind_eq_some_iff.mp H
                                    obtain ⟨t209, A610, H⟩ := H
                                    replace H : ((spec_Pack.f kj44 t203 t204 t205 t206 t207).bind fun t210 => (if t209 = t210 then ((spec_Pack.f kj44 t203 t204 t205 t206 t207).bind fun t211 => ((spec_Unpack.f t211).bind fun bt212 => (if (!(bt212.1 == t203) || (!(bt212.2.1 == t204) || (!(bt212.2.2.1 == t205) || (!(bt212.2.2.2.1 == t206) || (!(bt212.2.2.2.2 == t207)))))) = true then (some true) else ((impl_Unpack.f t209).bind fun bt217 => (some (bt217.1 == t203 && (bt217.2.1 == t204 && (bt217.2.2.1 == t205 && (bt217.2.2.2.1 == t206 && (bt217.2.2.2.2 == t207)))))))))) else (some false))) = some r := H
                                    have A61 := Aside0.mk A610
                                    clear A610
                                    replace H := Option.bind_eq_some_iff.mp H
                                    obtain ⟨t210, A620, H⟩ := H
                                    replace H : (if t209 = t210 then ((spec_Pack.f kj44 t203 t204 t205 t206 t207).bind fun t211 => ((spec_Unpack.f t211).bind fun bt212 => (if (!(bt212.1 == t203) || (!(bt212.2.1 == t204) || (!(bt212.2.2.1 == t205) || (!(bt212.2.2.2.1 == t206) || (!(bt212.2.2.2.2 == t207)))))) = true then (some true) else ((impl_Unpack.f t209).bind fun bt217 => (some (bt217.1 == t203 && (bt217.2.1 == t204 && (bt217.2.2.1 == t205 && (bt217.2.2.2.1 == t206 && (bt217.2.2.2.2 == t207)))))))))) else (some false)) = some r := H
                                    have A62 := Aside0.mk A620
                                    clear A620
                                    by_cases c63 : t209 = t210
                                    · rw [if_pos c63] at H
                                      have c63b0 : (t209 == t210) = true := beq_iff_eq.mpr c63
                                      have c63b1 : (t209 != t210) = false := bne_eq_false_iff_eq.mpr c63
                                      clear c63
                                      replace H := Option.bind_eq_some_iff.mp H
                                      obtain ⟨t211, A640, H⟩ := H
                                      replace H : ((spec_Unpack.f t211).bind fun bt212 => (if (!(bt212.1 == t203) || (!(bt212.2.1 == t204) || (!(bt212.2.2.1 == t205) || (!(bt212.2.2.2.1 == t206) || (!(bt212.2.2.2.2 == t207)))))) = true then (some true) else ((impl_Unpack.f t209).bind fun bt217 => (some (bt217.1 == t203 && (bt217.2.1 == t204 && (bt217.2.2.1 == t205 && (bt217.2.2.2.1 == t206 && (bt217.2.2.2.2 == t207))))))))) = some r := H
                                      have A64 := Aside0.mk A640
                                      clear A640
                                      replace H := Option.bind_eq_some_iff.mp H
                                      obtain ⟨⟨t212, t213, t214, t215, t216⟩, A650, H⟩ := H
                                      replace H : (if (!(t212 == t203) || (!(t213 == t204) || (!(t214 == t205) || (!(t215 == t206) || (!(t216 == t207)))))) = true then (some true) else ((impl_Unpack.f t209).bind fun bt217 => (some (bt217.1 == t203 && (bt217.2.1 == t204 && (bt217.2.2.1 == t205 && (bt217.2.2.2.1 == t206 && (bt217.2.2.2.2 == t207)))))))) = some r := H
                                      have A65 := Aside0.mk A650
                                      clear A650
                                      by_cases c66 : (!(t212 == t203) || (!(t213 == t204) || (!(t214 == t205) || (!(t215 == t206) || (!(t216 == t207)))))) = true
                                      · rw [if_pos c66] at H
                                        have c66b0 : (!(t212 == t203) || (!(t213 == t204) || (!(t214 == t205) || (!(t215 == t206) || (!(t216 == t207)))))) = true := c66
                                        clear c66
                                        obtain rfl := Option.some.inj H
                                        try go_wp2_with (first | ((with_reducible refine gate_callee (f := 30) rfl ?_); refine goesL_ (some 139) rfl rfl Tryd.func30 (by kernel_rfl) rfl #[.slice A0 l0.length c0] rfl (by (try simp only [List.map_toArray, List.map_cons, List.map_nil]); first | done | rfl | (simp only [List.length_drop, List.length_take]; rfl)) ?_; (with_reducible refine (spec_DrawPack.calls kj44 _ _ l0 t203 t204 t205 t206 t207 _ ?side1 ?side2 A60.out).mono ?_); (case side1 => repeat (first | exact (Kd.C_below HR0.out HB.out) | (with_reducible refine Kd.C_alloc ?_ _) | (with_reducible refine Kd.C_drewN ?_ _) | (with_reducible refine Kd.C_drew ?_))); (case side2 => exact HC0.out); rintro e w67 ⟨rfl, hb⟩; refine ⟨_, rfl, ?_⟩; have n0_ := Aside0.mk (blk_below (g := gb196) (o := .cells #[.int .i64 t191, .int .i64 t192, .int .i64 t193, .int .i64 t194, .int .i64 t195] 28 (0, 0)) (by (with_reducible repeat (first | refine blk_drewN ?_ _ | refine blk_drew ?_ | refine blk_alloc ?_ _)); exact BK196.out) hb); have n1_ := Aside0.mk (below_step (by repeat (first | (with_reducible first | exact HB.out | apply below_alloc | apply pw_below_drewN | apply below_drew1 | refine below_set ?_ GE196.out) | exact HB.out)) hb); clear BK196; clear HB; have BK196 := n0_; have HB := n1_; clear n0_ n1_; (try clear hb); (try clear hb2); (try clear hk); (try clear hi)) | ((with_reducible refine gate_dst (N := 19) rfl ?_); (try (refine gate_guard (by rfl) ?_; dsimp only)); refine box_event ?hg (N := 19) ?hd (cs := #[.int .i64 0, .int .i64 0, .int .i64 0, .int .i64 0, .int .i64 0]) (t := 28) ?hr ?_; (case hd => rfl); (case hg => rfl); (case hr => first | (go_simp; done) | (go_simp; rfl)); intro gb208 hg w68 hbox hb; have n0_ := Aside0.mk (blk_below (g := gb196) (o := .cells #[.int .i64 t191, .int .i64 t192, .int .i64 t193, .int .i64 t194, .int .i64 t195] 28 (0, 0)) (by (with_reducible repeat (first | refine blk_drewN ?_ _ | refine blk_drew ?_ | refine blk_alloc ?_ _)); exact BK196.out) hb); have n1_ := Aside0.mk (below_step (by repeat (first | (with_reducible first | exact HB.out | apply below_alloc | apply pw_below_drewN | apply below_drew1 | refine below_set ?_ GE196.out) | exact HB.out)) hb); have n2_ := Aside0.mk (hbox); have n3_ := Aside0.mk ((by rw [hg]; exact (below_size (by repeat (first | (with_reducible first | exact HB.out | apply below_alloc | apply pw_below_drewN | apply below_drew1 | refine below_set ?_ GE196.out) | exact HB.out))) : w.heap.size ≤ gb208)); have n4_ := Aside0.mk ((by rw [hg]; exact (below_size (by repeat (first | (with_reducible first | exact HB.out | apply below_alloc | apply pw_below_drewN | apply below_drew1 | refine below_set ?_ GE196.out) | exact HB.out))) : w.heap.size ≤ gb208)); have n5_ := Aside0.mk ((by rw [hg]; exact Nat.ne_of_lt (blk_lt (g := gb196) (o := .cells #[.int .i64 t191, .int .i64 t192, .int .i64 t193, .int .i64 t194, .int .i64 t195] 28 (0, 0)) (by (with_reducible repeat (first | refine blk_drewN ?_ _ | refine blk_drew ?_ | refine blk_alloc ?_ _)); exact BK196.out)) : gb196 ≠ gb208)); have n6_ := Aside0.mk ((by rw [hg]; exact Nat.ne_of_gt (blk_lt (g := gb196) (o := .cells #[.int .i64 t191, .int .i64 t192, .int .i64 t193, .int .i64 t194, .int .i64 t195] 28 (0, 0)) (by (with_reducible repeat (first | refine blk_drewN ?_ _ | refine blk_drew ?_ | refine blk_alloc ?_ _)); exact BK196.out)) : gb208 ≠ gb196)); clear BK196; clear HB; have BK196 := n0_; have HB := n1_; have BK208 := n2_; have GW208 := n3_; have GE208 := n4_; have NB196_208 := n5_; have NB208_196 := n6_; clear n0_ n1_ n2_ n3_ n4_ n5_ n6_; clear hb hbox hg; have hnb69 := NB208_196.out; have hnc69 := NB196_208.out; have hcz70_0 : w68.cell? ⟨gb208, 0, none⟩ = some (.int .i64 0) := (blk_cell BK208.out 0).trans rfl; have hcz70_1 : w68.cell? ⟨gb208, 1, none⟩ = some (.int .i64 0) := (blk_cell BK208.out 1).trans rfl; have hcz70_2 : w68.cell? ⟨gb208, 2, none⟩ = some (.int .i64 0) := (blk_cell BK208.out 2).trans rfl; have hcz70_3 : w68.cell? ⟨gb208, 3, none⟩ = some (.int .i64 0) := (blk_cell BK208.out 3).trans rfl; have hcz70_4 : w68.cell? ⟨gb208, 4, none⟩ = some (.int .i64 0) := (blk_cell BK208.out 4).trans rfl; have hfz70_0 := blk_frozen BK208.out 0; have hfz70_1 := blk_frozen BK208.out 1; have hfz70_2 := blk_frozen BK208.out 2; have hfz70_3 := blk_frozen BK208.out 3; have hfz70_4 := blk_frozen BK208.out 4) | ((with_reducible refine gate_callee (f := 18) rfl ?_); refine goesL_ (some 141) rfl rfl Tryd.func18 (by kernel_rfl) rfl #[.agg #[.int .i64 t203, .int .i64 t204, .int .i64 t205, .int .i64 t206, .int .i64 t207]] rfl (by (try simp only [List.map_toArray, List.map_cons, List.map_nil]); first | done | rfl | (simp only [List.length_drop, List.length_take]; rfl)) ?_; (with_reducible refine (impl_Pack.calls t203 t204 t205 t206 t207 t209 _ A61.out ?hG_2).mono ?_); (case hG_2 => exact Glob.below hG (by repeat (first | (with_reducible first | exact HB.out | apply below_alloc | apply pw_below_drewN | apply below_drew1 | refine below_set ?_ GE196.out | refine below_set ?_ GE208.out) | exact HB.out))); rintro e w71 ⟨rfl, hb⟩; refine ⟨_, rfl, ?_⟩; have n0_ := Aside0.mk (blk_below (g := gb196) (o := .cells #[.int .i64 t191, .int .i64 t192, .int .i64 t193, .int .i64 t194, .int .i64 t195] 28 (0, 0)) (by (with_reducible repeat (first | refine blk_drewN ?_ _ | refine blk_drew ?_ | refine blk_alloc ?_ _)); refine blk_far ?_ NB196_208.out _; (with_reducible repeat (first | refine blk_drewN ?_ _ | refine blk_drew ?_ | refine blk_alloc ?_ _)); refine blk_far ?_ NB196_208.out _; (with_reducible repeat (first | refine blk_drewN ?_ _ | refine blk_drew ?_ | refine blk_alloc ?_ _)); refine blk_far ?_ NB196_208.out _; (with_reducible repeat (first | refine blk_drewN ?_ _ | refine blk_drew ?_ | refine blk_alloc ?_ _)); refine blk_far ?_ NB196_208.out _; (with_reducible repeat (first | refine blk_drewN ?_ _ | refine blk_drew ?_ | refine blk_alloc ?_ _)); refine blk_far ?_ NB196_208.out _; (with_reducible repeat (first | refine blk_drewN ?_ _ | refine blk_drew ?_ | refine blk_alloc ?_ _)); exact BK196.out) hb); have n1_ := Aside0.mk (blk_below (g := gb208) (o := .cells #[.int .i64 t203, .int .i64 t204, .int .i64 t205, .int .i64 t206, .int .i64 t207] 28 (0, 0)) (by (with_reducible repeat (first | refine blk_drewN ?_ _ | refine blk_drew ?_ | refine blk_alloc ?_ _)); refine blk_put (cs := #[.int .i64 t203, .int .i64 t204, .int .i64 t205, .int .i64 t206, .int .i64 0]) ?_ 4 _ rfl; (with_reducible repeat (first | refine blk_drewN ?_ _ | refine blk_drew ?_ | refine blk_alloc ?_ _)); refine blk_put (cs := #[.int .i64 t203, .int .i64 t204, .int .i64 t205, .int .i64 0, .int .i64 0]) ?_ 3 _ rfl; (with_reducible repeat (first | refine blk_drewN ?_ _ | refine blk_drew ?_ | refine blk_alloc ?_ _)); refine blk_put (cs := #[.int .i64 t203, .int .i64 t204, .int .i64 0, .int .i64 0, .int .i64 0]) ?_ 2 _ rfl; (with_reducible repeat (first | refine blk_drewN ?_ _ | refine blk_drew ?_ | refine blk_alloc ?_ _)); refine blk_put (cs := #[.int .i64 t203, .int .i64 0, .int .i64 0, .int .i64 0, .int .i64 0]) ?_ 1 _ rfl; (with_reducible repeat (first | refine blk_drewN ?_ _ | refine blk_drew ?_ | refine blk_alloc ?_ _)); refine blk_put (cs := #[.int .i64 0, .int .i64 0, .int .i64 0, .int .i64 0, .int .i64 0]) ?_ 0 _ rfl; (with_reducible repeat (first | refine blk_drewN ?_ _ | refine blk_drew ?_ | refine blk_alloc ?_ _)); exact BK208.out) hb); have n2_ := Aside0.mk (below_step (by repeat (first | (with_reducible first | exact HB.out | apply below_alloc | apply pw_below_drewN | apply below_drew1 | refine below_set ?_ GE196.out | refine below_set ?_ GE208.out) | exact HB.out)) hb); clear BK196; clear BK208; clear HB; have BK196 := n0_; have BK208 := n1_; have HB := n2_; clear n0_ n1_ n2_; (try clear hb); (try clear hb2); (try clear hk); (try clear hi); have hcz72_0 : w71.cell? ⟨gb208, 0, none⟩ = some (.int .i64 t203) := (blk_cell BK208.out 0).trans rfl; have hcz72_1 : w71.cell? ⟨gb208, 1, none⟩ = some (.int .i64 t204) := (blk_cell BK208.out 1).trans rfl; have hcz72_2 : w71.cell? ⟨gb208, 2, none⟩ = some (.int .i64 t205) := (blk_cell BK208.out 2).trans rfl; have hcz72_3 : w71.cell? ⟨gb208, 3, none⟩ = some (.int .i64 t206) := (blk_cell BK208.out 3).trans rfl; have hcz72_4 : w71.cell? ⟨gb208, 4, none⟩ = some (.int .i64 t207) := (blk_cell BK208.out 4).trans rfl; have hfz72_0 := blk_frozen BK208.out 0; have hfz72_1 := blk_frozen BK208.out 1; have hfz72_2 := blk_frozen BK208.out 2; have hfz72_3 := blk_frozen BK208.out 3; have hfz72_4 := blk_frozen BK208.out 4) | ((with_reducible refine gate_callee (f := 16) rfl ?_); refine goesL_ (some 144) rfl rfl Tryd.func16 (by kernel_rfl) rfl #[.agg #[.int .i64 t203, .int .i64 t204, .int .i64 t205, .int .i64 t206, .int .i64 t207]] rfl (by (try simp only [List.map_toArray, List.map_cons, List.map_nil]); first | done | rfl | (simp only [List.length_drop, List.length_take]; rfl)) ?_; (with_reducible refine (spec_Pack.calls kj44 t203 t204 t205 t206 t207 t210 _ A62.out).mono ?_); rintro e w73 ⟨rfl, hb⟩; refine ⟨_, rfl, ?_⟩; have n0_ := Aside0.mk (blk_below (g := gb196) (o := .cells #[.int .i64 t191, .int .i64 t192, .int .i64 t193, .int .i64 t194, .int .i64 t195] 28 (0, 0)) (by (with_reducible repeat (first | refine blk_drewN ?_ _ | refine blk_drew ?_ | refine blk_alloc ?_ _)); exact BK196.out) hb); have n1_ := Aside0.mk (blk_below (g := gb208) (o := .cells #[.int .i64 t203, .int .i64 t204, .int .i64 t205, .int .i64 t206, .int .i64 t207] 28 (0, 0)) (by (with_reducible repeat (first | refine blk_drewN ?_ _ | refine blk_drew ?_ | refine blk_alloc ?_ _)); exact BK208.out) hb); have n2_ := Aside0.mk (below_step (by repeat (first | (with_reducible first | exact HB.out | apply below_alloc | apply pw_below_drewN | apply below_drew1 | refine below_set ?_ GE196.out | refine below_set ?_ GE208.out) | exact HB.out)) hb); clear BK196; clear BK208; clear HB; have BK196 := n0_; have BK208 := n1_; have HB := n2_; clear n0_ n1_ n2_; (try clear hb); (try clear hb2); (try clear hk); (try clear hi)))
                                        have n0_ := Aside0.mk (blk_drew BK196.out)
                                        have n1_ := Aside0.mk (blk_drew BK208.out)
                                        have n2_ := Aside0.mk (below_drew1 HB.out)
                                        clear BK196
                                        clear BK208
                                        clear HB
                                        have BK196 := n0_
                                        have BK208 := n1_
                                        have HB := n2_
                                        clear n0_ n1_ n2_
                                        refine start_ (n := 12) (S := fun w' => w'.cell? ⟨gb208, 0, none⟩ = some (.int .i64 t203) ∧ w'.cell? ⟨gb208, 1, none⟩ = some (.int .i64 t204) ∧ w'.cell? ⟨gb208, 2, none⟩ = some (.int .i64 t205) ∧ w'.cell? ⟨gb208, 3, none⟩ = some (.int .i64 t206) ∧ w'.cell? ⟨gb208, 4, none⟩ = some (.int .i64 t207)) (ds := []) #[false, false, false, false, false, false, false, false, false, false, false, false] (by kernel_rfl) rfl rfl ⟨(blk_cell BK208.out 0).trans rfl, (blk_cell BK208.out 1).trans rfl, (blk_cell BK208.out 2).trans rfl, (blk_cell BK208.out 3).trans rfl, (blk_cell BK208.out 4).trans rfl⟩ (fun hHeld => ?_); refine with_tabW laws_FnWire.tab28 laws_FnWire.bits28 (fun HT_ HW_ => ?_)
                                        generalize w73.drew = w74 at BK196 BK208 HB hHeld ⊢
                                        refine take_ (i := 0) (N := some 146) (v := ?_) (a' := ?_) #[true, false, false, false, false, false, false, false, false, false, false, false] rfl rfl (take_ofW HT_.out HW_.out (by kernel_rfl)) (fun _ _ _ h => h) (Or.inl ⟨by rfl, ?_⟩) hHeld ?_ ?_
                                        rotate_left
                                        · rintro w' ⟨s0, s1, s2, s3, s4⟩
                                          go_simp
                                          with_reducible rfl
                                        rotate_left
                                        · simp only [Act.put, List.setIfInBounds_toArray, List.set_cons_zero, List.set_cons_succ, i64_w, i32_w]
                                          rfl
                                        refine take_ (i := 3) (N := some 149) (v := ?_) (a' := ?_) #[true, false, false, true, false, false, false, false, false, false, false, false] rfl rfl (take_ofW HT_.out HW_.out (by kernel_rfl)) (fun _ _ _ h => h) (Or.inl ⟨by rfl, ?_⟩) hHeld ?_ ?_
                                        rotate_left
                                        · rintro w' ⟨s0, s1, s2, s3, s4⟩
                                          go_simp
                                          with_reducible rfl
                                        rotate_left
                                        · simp only [Act.put, List.setIfInBounds_toArray, List.set_cons_zero, List.set_cons_succ, i64_w, i32_w]
                                          rfl
                                        refine one_ (i := 1) (N := some 147) #[true, true, false, true, false, false, false, false, false, false, false, false] rfl rfl (one_of HT_.out (by kernel_rfl)) (by decide) (fun K hK => ?_)
                                        refine goes_ Tryd.func16 (by kernel_rfl) rfl #[.agg #[.int .i64 t203, .int .i64 t204, .int .i64 t205, .int .i64 t206, .int .i64 t207]] (by rfl) rfl rfl (by (try simp only [List.map_toArray, List.map_cons, List.map_nil]); first | done | rfl | (simp only [List.length_drop, List.length_take]; rfl)) ?_
                                        with_reducible refine (spec_Pack.calls kj44 t203 t204 t205 t206 t207 t211 _ A64.out).mono ?_
                                        rintro e w75 ⟨rfl, hb⟩
                                        refine ⟨_, rfl, ?_⟩
                                        have n0_ := Aside0.mk (blk_below (g := gb196) (o := .cells #[.int .i64 t191, .int .i64 t192, .int .i64 t193, .int .i64 t194, .int .i64 t195] 28 (0, 0)) (by (with_reducible repeat (first | refine blk_drewN ?_ _ | refine blk_drew ?_ | refine blk_alloc ?_ _)); exact BK196.out) hb)
                                        have n1_ := Aside0.mk (blk_below (g := gb208) (o := .cells #[.int .i64 t203, .int .i64 t204, .int .i64 t205, .int .i64 t206, .int .i64 t207] 28 (0, 0)) (by (with_reducible repeat (first | refine blk_drewN ?_ _ | refine blk_drew ?_ | refine blk_alloc ?_ _)); exact BK208.out) hb)
                                        have n2_ := Aside0.mk (below_step (by repeat (first | (with_reducible first | exact HB.out | apply below_alloc | apply pw_below_drewN | apply below_drew1 | refine below_set ?_ GE196.out | refine below_set ?_ GE208.out) | exact HB.out)) hb)
                                        clear BK196
                                        clear BK208
                                        clear HB
                                        have BK196 := n0_
                                        have BK208 := n1_
                                        have HB := n2_
                                        clear n0_ n1_ n2_
                                        (try clear hb)
                                        (try clear hb2)
                                        (try clear hk)
                                        (try clear hi)
                                        refine hK.out _ _ ⟨(blk_cell BK208.out 0).trans rfl, (blk_cell BK208.out 1).trans rfl, (blk_cell BK208.out 2).trans rfl, (blk_cell BK208.out 3).trans rfl, (blk_cell BK208.out 4).trans rfl⟩ (fun hHeld => ?_)
                                        clear hK K
                                        refine norm_ (a' := ?_) ?_ ?_
                                        rotate_left
                                        · show Act.put _ (some 147) _ = _
                                          simp only [Act.put, List.setIfInBounds_toArray, List.set_cons_zero, List.set_cons_succ, i64_w, i32_w]
                                          rfl
                                        refine one_ (i := 2) (N := some 148) #[true, true, true, true, false, false, false, false, false, false, false, false] rfl rfl (one_of HT_.out (by kernel_rfl)) (by decide) (fun K hK => ?_)
                                        refine goes_ Tryd.func13 (by kernel_rfl) rfl #[.int .u32 t211] (by rfl) rfl rfl (by (try simp only [List.map_toArray, List.map_cons, List.map_nil]); first | done | rfl | (simp only [List.length_drop, List.length_take]; rfl)) ?_
                                        with_reducible refine (spec_Unpack.calls t211 t212 t213 t214 t215 t216 _ A65.out).mono ?_
                                        rintro e w76 ⟨rfl, hb⟩
                                        refine ⟨_, rfl, ?_⟩
                                        have n0_ := Aside0.mk (blk_below (g := gb196) (o := .cells #[.int .i64 t191, .int .i64 t192, .int .i64 t193, .int .i64 t194, .int .i64 t195] 28 (0, 0)) (by (with_reducible repeat (first | refine blk_drewN ?_ _ | refine blk_drew ?_ | refine blk_alloc ?_ _)); exact BK196.out) hb)
                                        have n1_ := Aside0.mk (blk_below (g := gb208) (o := .cells #[.int .i64 t203, .int .i64 t204, .int .i64 t205, .int .i64 t206, .int .i64 t207] 28 (0, 0)) (by (with_reducible repeat (first | refine blk_drewN ?_ _ | refine blk_drew ?_ | refine blk_alloc ?_ _)); exact BK208.out) hb)
                                        have n2_ := Aside0.mk (below_step (by repeat (first | (with_reducible first | exact HB.out | apply below_alloc | apply pw_below_drewN | apply below_drew1 | refine below_set ?_ GE196.out | refine below_set ?_ GE208.out) | exact HB.out)) hb)
                                        clear BK196
                                        clear BK208
                                        clear HB
                                        have BK196 := n0_
                                        have BK208 := n1_
                                        have HB := n2_
                                        clear n0_ n1_ n2_
                                        (try clear hb)
                                        (try clear hb2)
                                        (try clear hk)
                                        (try clear hi)
                                        refine hK.out _ _ ⟨(blk_cell BK208.out 0).trans rfl, (blk_cell BK208.out 1).trans rfl, (blk_cell BK208.out 2).trans rfl, (blk_cell BK208.out 3).trans rfl, (blk_cell BK208.out 4).trans rfl⟩ (fun hHeld => ?_)
                                        clear hK K
                                        refine norm_ (a' := ?_) ?_ ?_
                                        rotate_left
                                        · show Act.put _ (some 148) _ = _
                                          simp only [Act.put, List.setIfInBounds_toArray, List.set_cons_zero, List.set_cons_succ, i64_w, i32_w]
                                          rfl
                                        refine pure_ (i := 4) (N := some 150) (v := ?_) (a' := ?_) #[true, true, true, true, true, false, false, false, false, false, false, false] rfl rfl (any_of HT_.out (by kernel_rfl)) (fun _ _ _ h => h) (Or.inl ⟨by rfl, ?_⟩) ?_ ?_
                                        rotate_left
                                        · intro w'
                                          go_simp
                                          with_reducible rfl
                                        rotate_left
                                        · simp only [Act.put, List.setIfInBounds_toArray, List.set_cons_zero, List.set_cons_succ, i64_w, i32_w]
                                          rfl
                                        refine pure_ (i := 5) (N := some 151) (v := ?_) (a' := ?_) #[true, true, true, true, true, true, false, false, false, false, false, false] rfl rfl (any_of HT_.out (by kernel_rfl)) (fun _ _ _ h => h) (Or.inl ⟨by rfl, ?_⟩) ?_ ?_
                                        rotate_left
                                        · intro w'
                                          go_simp
                                          with_reducible rfl
                                        rotate_left
                                        · simp only [Act.put, List.setIfInBounds_toArray, List.set_cons_zero, List.set_cons_succ, i64_w, i32_w]
                                          rfl
                                        refine pure_ (i := 6) (N := some 152) (v := undef) (a' := ?_) #[true, true, true, true, true, true, true, false, false, false, false, false] rfl rfl (any_of HT_.out (by kernel_rfl)) (fun _ _ _ h => h) (Or.inr ⟨by rfl, rfl⟩) ?_ ?_
                                        rotate_left
                                        · simp only [Act.put, List.setIfInBounds_toArray, List.set_cons_zero, List.set_cons_succ, i64_w, i32_w]
                                          rfl
                                        refine pure_ (i := 7) (N := some 153) (v := undef) (a' := ?_) #[true, true, true, true, true, true, true, true, false, false, false, false] rfl rfl (any_of HT_.out (by kernel_rfl)) (fun _ _ _ h => h) (Or.inr ⟨by rfl, rfl⟩) ?_ ?_
                                        rotate_left
                                        · simp only [Act.put, List.setIfInBounds_toArray, List.set_cons_zero, List.set_cons_succ, i64_w, i32_w]
                                          rfl
                                        refine pure_ (i := 8) (N := some 154) (v := undef) (a' := ?_) #[true, true, true, true, true, true, true, true, true, false, false, false] rfl rfl (any_of HT_.out (by kernel_rfl)) (fun _ _ _ h => h) (Or.inr ⟨by rfl, rfl⟩) ?_ ?_
                                        rotate_left
                                        · simp only [Act.put, List.setIfInBounds_toArray, List.set_cons_zero, List.set_cons_succ, i64_w, i32_w]
                                          rfl
                                        refine pure_ (i := 9) (N := some 155) (v := undef) (a' := ?_) #[true, true, true, true, true, true, true, true, true, true, false, false] rfl rfl (any_of HT_.out (by kernel_rfl)) (fun _ _ _ h => h) (Or.inr ⟨by rfl, rfl⟩) ?_ ?_
                                        rotate_left
                                        · simp only [Act.put, List.setIfInBounds_toArray, List.set_cons_zero, List.set_cons_succ, i64_w, i32_w]
                                          rfl
                                        refine pure_ (i := 10) (N := some 156) (v := ?_) (a' := ?_) #[true, true, true, true, true, true, true, true, true, true, true, false] rfl rfl (any_of HT_.out (by kernel_rfl)) (fun _ _ _ h => h) (Or.inl ⟨by rfl, ?_⟩) ?_ ?_
                                        rotate_left
                                        · intro w'
                                          go_simp
                                          with_reducible rfl
                                        rotate_left
                                        · simp only [Act.put, List.setIfInBounds_toArray, List.set_cons_zero, List.set_cons_succ, i64_w, i32_w]
                                          rfl
                                        refine pure_ (i := 11) (N := some 4) (v := ?_) (a' := ?_) #[true, true, true, true, true, true, true, true, true, true, true, true] rfl rfl (any_of HT_.out (by kernel_rfl)) (fun _ _ _ h => h) (Or.inl ⟨by rfl, ?_⟩) ?_ ?_
                                        rotate_left
                                        · intro w'
                                          go_simp
                                          with_reducible rfl
                                        rotate_left
                                        · simp only [Act.put, List.setIfInBounds_toArray, List.set_cons_zero, List.set_cons_succ, i64_w, i32_w]
                                          rfl
                                        refine done_ (done_of HT_.out (by kernel_rfl)) ?_
                                        try go_wp2
                                        go_ret
                                        exact ⟨by first | rfl | (simp [errW_none, errW_some] <;> rfl) | (simp only [← hji9]; first | rfl | (simp [errW_none, errW_some] <;> rfl)) | (simp [*, errW_none, errW_some] <;> rfl), by repeat (first | (with_reducible first | exact HB.out | apply below_alloc | apply pw_below_drewN | apply below_drew1 | refine below_set ?_ GE196.out | refine below_set ?_ GE208.out) | exact HB.out)⟩
                                      · rw [if_neg c66] at H
                                        have c66b0 : (!(t212 == t203) || (!(t213 == t204) || (!(t214 == t205) || (!(t215 == t206) || (!(t216 == t207)))))) = false := by simpa using c66
                                        clear c66
                                        replace H := Option.bind_eq_some_iff.mp H
                                        obtain ⟨⟨t217, t218, t219, t220, t221⟩, A770, H⟩ := H
                                        replace H : (some (t217 == t203 && (t218 == t204 && (t219 == t205 && (t220 == t206 && (t221 == t207)))))) = some r := H
                                        have A77 := Aside0.mk A770
                                        clear A770
                                        obtain rfl := Option.some.inj H
                                        try go_wp2_with (first | ((with_reducible refine gate_callee (f := 30) rfl ?_); refine goesL_ (some 139) rfl rfl Tryd.func30 (by kernel_rfl) rfl #[.slice A0 l0.length c0] rfl (by (try simp only [List.map_toArray, List.map_cons, List.map_nil]); first | done | rfl | (simp only [List.length_drop, List.length_take]; rfl)) ?_; (with_reducible refine (spec_DrawPack.calls kj44 _ _ l0 t203 t204 t205 t206 t207 _ ?side1 ?side2 A60.out).mono ?_); (case side1 => repeat (first | exact (Kd.C_below HR0.out HB.out) | (with_reducible refine Kd.C_alloc ?_ _) | (with_reducible refine Kd.C_drewN ?_ _) | (with_reducible refine Kd.C_drew ?_))); (case side2 => exact HC0.out); rintro e w78 ⟨rfl, hb⟩; refine ⟨_, rfl, ?_⟩; have n0_ := Aside0.mk (blk_below (g := gb196) (o := .cells #[.int .i64 t191, .int .i64 t192, .int .i64 t193, .int .i64 t194, .int .i64 t195] 28 (0, 0)) (by (with_reducible repeat (first | refine blk_drewN ?_ _ | refine blk_drew ?_ | refine blk_alloc ?_ _)); exact BK196.out) hb); have n1_ := Aside0.mk (below_step (by repeat (first | (with_reducible first | exact HB.out | apply below_alloc | apply pw_below_drewN | apply below_drew1 | refine below_set ?_ GE196.out) | exact HB.out)) hb); clear BK196; clear HB; have BK196 := n0_; have HB := n1_; clear n0_ n1_; (try clear hb); (try clear hb2); (try clear hk); (try clear hi)) | ((with_reducible refine gate_dst (N := 19) rfl ?_); (try (refine gate_guard (by rfl) ?_; dsimp only)); refine box_event ?hg (N := 19) ?hd (cs := #[.int .i64 0, .int .i64 0, .int .i64 0, .int .i64 0, .int .i64 0]) (t := 28) ?hr ?_; (case hd => rfl); (case hg => rfl); (case hr => first | (go_simp; done) | (go_simp; rfl)); intro gb208 hg w79 hbox hb; have n0_ := Aside0.mk (blk_below (g := gb196) (o := .cells #[.int .i64 t191, .int .i64 t192, .int .i64 t193, .int .i64 t194, .int .i64 t195] 28 (0, 0)) (by (with_reducible repeat (first | refine blk_drewN ?_ _ | refine blk_drew ?_ | refine blk_alloc ?_ _)); exact BK196.out) hb); have n1_ := Aside0.mk (below_step (by repeat (first | (with_reducible first | exact HB.out | apply below_alloc | apply pw_below_drewN | apply below_drew1 | refine below_set ?_ GE196.out) | exact HB.out)) hb); have n2_ := Aside0.mk (hbox); have n3_ := Aside0.mk ((by rw [hg]; exact (below_size (by repeat (first | (with_reducible first | exact HB.out | apply below_alloc | apply pw_below_drewN | apply below_drew1 | refine below_set ?_ GE196.out) | exact HB.out))) : w.heap.size ≤ gb208)); have n4_ := Aside0.mk ((by rw [hg]; exact (below_size (by repeat (first | (with_reducible first | exact HB.out | apply below_alloc | apply pw_below_drewN | apply below_drew1 | refine below_set ?_ GE196.out) | exact HB.out))) : w.heap.size ≤ gb208)); have n5_ := Aside0.mk ((by rw [hg]; exact Nat.ne_of_lt (blk_lt (g := gb196) (o := .cells #[.int .i64 t191, .int .i64 t192, .int .i64 t193, .int .i64 t194, .int .i64 t195] 28 (0, 0)) (by (with_reducible repeat (first | refine blk_drewN ?_ _ | refine blk_drew ?_ | refine blk_alloc ?_ _)); exact BK196.out)) : gb196 ≠ gb208)); have n6_ := Aside0.mk ((by rw [hg]; exact Nat.ne_of_gt (blk_lt (g := gb196) (o := .cells #[.int .i64 t191, .int .i64 t192, .int .i64 t193, .int .i64 t194, .int .i64 t195] 28 (0, 0)) (by (with_reducible repeat (first | refine blk_drewN ?_ _ | refine blk_drew ?_ | refine blk_alloc ?_ _)); exact BK196.out)) : gb208 ≠ gb196)); clear BK196; clear HB; have BK196 := n0_; have HB := n1_; have BK208 := n2_; have GW208 := n3_; have GE208 := n4_; have NB196_208 := n5_; have NB208_196 := n6_; clear n0_ n1_ n2_ n3_ n4_ n5_ n6_; clear hb hbox hg; have hnb80 := NB208_196.out; have hnc80 := NB196_208.out; have hcz81_0 : w79.cell? ⟨gb208, 0, none⟩ = some (.int .i64 0) := (blk_cell BK208.out 0).trans rfl; have hcz81_1 : w79.cell? ⟨gb208, 1, none⟩ = some (.int .i64 0) := (blk_cell BK208.out 1).trans rfl; have hcz81_2 : w79.cell? ⟨gb208, 2, none⟩ = some (.int .i64 0) := (blk_cell BK208.out 2).trans rfl; have hcz81_3 : w79.cell? ⟨gb208, 3, none⟩ = some (.int .i64 0) := (blk_cell BK208.out 3).trans rfl; have hcz81_4 : w79.cell? ⟨gb208, 4, none⟩ = some (.int .i64 0) := (blk_cell BK208.out 4).trans rfl; have hfz81_0 := blk_frozen BK208.out 0; have hfz81_1 := blk_frozen BK208.out 1; have hfz81_2 := blk_frozen BK208.out 2; have hfz81_3 := blk_frozen BK208.out 3; have hfz81_4 := blk_frozen BK208.out 4) | ((with_reducible refine gate_callee (f := 18) rfl ?_); refine goesL_ (some 141) rfl rfl Tryd.func18 (by kernel_rfl) rfl #[.agg #[.int .i64 t203, .int .i64 t204, .int .i64 t205, .int .i64 t206, .int .i64 t207]] rfl (by (try simp only [List.map_toArray, List.map_cons, List.map_nil]); first | done | rfl | (simp only [List.length_drop, List.length_take]; rfl)) ?_; (with_reducible refine (impl_Pack.calls t203 t204 t205 t206 t207 t209 _ A61.out ?hG_3).mono ?_); (case hG_3 => exact Glob.below hG (by repeat (first | (with_reducible first | exact HB.out | apply below_alloc | apply pw_below_drewN | apply below_drew1 | refine below_set ?_ GE196.out | refine below_set ?_ GE208.out) | exact HB.out))); rintro e w82 ⟨rfl, hb⟩; refine ⟨_, rfl, ?_⟩; have n0_ := Aside0.mk (blk_below (g := gb196) (o := .cells #[.int .i64 t191, .int .i64 t192, .int .i64 t193, .int .i64 t194, .int .i64 t195] 28 (0, 0)) (by (with_reducible repeat (first | refine blk_drewN ?_ _ | refine blk_drew ?_ | refine blk_alloc ?_ _)); refine blk_far ?_ NB196_208.out _; (with_reducible repeat (first | refine blk_drewN ?_ _ | refine blk_drew ?_ | refine blk_alloc ?_ _)); refine blk_far ?_ NB196_208.out _; (with_reducible repeat (first | refine blk_drewN ?_ _ | refine blk_drew ?_ | refine blk_alloc ?_ _)); refine blk_far ?_ NB196_208.out _; (with_reducible repeat (first | refine blk_drewN ?_ _ | refine blk_drew ?_ | refine blk_alloc ?_ _)); refine blk_far ?_ NB196_208.out _; (with_reducible repeat (first | refine blk_drewN ?_ _ | refine blk_drew ?_ | refine blk_alloc ?_ _)); refine blk_far ?_ NB196_208.out _; (with_reducible repeat (first | refine blk_drewN ?_ _ | refine blk_drew ?_ | refine blk_alloc ?_ _)); exact BK196.out) hb); have n1_ := Aside0.mk (blk_below (g := gb208) (o := .cells #[.int .i64 t203, .int .i64 t204, .int .i64 t205, .int .i64 t206, .int .i64 t207] 28 (0, 0)) (by (with_reducible repeat (first | refine blk_drewN ?_ _ | refine blk_drew ?_ | refine blk_alloc ?_ _)); refine blk_put (cs := #[.int .i64 t203, .int .i64 t204, .int .i64 t205, .int .i64 t206, .int .i64 0]) ?_ 4 _ rfl; (with_reducible repeat (first | refine blk_drewN ?_ _ | refine blk_drew ?_ | refine blk_alloc ?_ _)); refine blk_put (cs := #[.int .i64 t203, .int .i64 t204, .int .i64 t205, .int .i64 0, .int .i64 0]) ?_ 3 _ rfl; (with_reducible repeat (first | refine blk_drewN ?_ _ | refine blk_drew ?_ | refine blk_alloc ?_ _)); refine blk_put (cs := #[.int .i64 t203, .int .i64 t204, .int .i64 0, .int .i64 0, .int .i64 0]) ?_ 2 _ rfl; (with_reducible repeat (first | refine blk_drewN ?_ _ | refine blk_drew ?_ | refine blk_alloc ?_ _)); refine blk_put (cs := #[.int .i64 t203, .int .i64 0, .int .i64 0, .int .i64 0, .int .i64 0]) ?_ 1 _ rfl; (with_reducible repeat (first | refine blk_drewN ?_ _ | refine blk_drew ?_ | refine blk_alloc ?_ _)); refine blk_put (cs := #[.int .i64 0, .int .i64 0, .int .i64 0, .int .i64 0, .int .i64 0]) ?_ 0 _ rfl; (with_reducible repeat (first | refine blk_drewN ?_ _ | refine blk_drew ?_ | refine blk_alloc ?_ _)); exact BK208.out) hb); have n2_ := Aside0.mk (below_step (by repeat (first | (with_reducible first | exact HB.out | apply below_alloc | apply pw_below_drewN | apply below_drew1 | refine below_set ?_ GE196.out | refine below_set ?_ GE208.out) | exact HB.out)) hb); clear BK196; clear BK208; clear HB; have BK196 := n0_; have BK208 := n1_; have HB := n2_; clear n0_ n1_ n2_; (try clear hb); (try clear hb2); (try clear hk); (try clear hi); have hcz83_0 : w82.cell? ⟨gb208, 0, none⟩ = some (.int .i64 t203) := (blk_cell BK208.out 0).trans rfl; have hcz83_1 : w82.cell? ⟨gb208, 1, none⟩ = some (.int .i64 t204) := (blk_cell BK208.out 1).trans rfl; have hcz83_2 : w82.cell? ⟨gb208, 2, none⟩ = some (.int .i64 t205) := (blk_cell BK208.out 2).trans rfl; have hcz83_3 : w82.cell? ⟨gb208, 3, none⟩ = some (.int .i64 t206) := (blk_cell BK208.out 3).trans rfl; have hcz83_4 : w82.cell? ⟨gb208, 4, none⟩ = some (.int .i64 t207) := (blk_cell BK208.out 4).trans rfl; have hfz83_0 := blk_frozen BK208.out 0; have hfz83_1 := blk_frozen BK208.out 1; have hfz83_2 := blk_frozen BK208.out 2; have hfz83_3 := blk_frozen BK208.out 3; have hfz83_4 := blk_frozen BK208.out 4) | ((with_reducible refine gate_callee (f := 16) rfl ?_); refine goesL_ (some 144) rfl rfl Tryd.func16 (by kernel_rfl) rfl #[.agg #[.int .i64 t203, .int .i64 t204, .int .i64 t205, .int .i64 t206, .int .i64 t207]] rfl (by (try simp only [List.map_toArray, List.map_cons, List.map_nil]); first | done | rfl | (simp only [List.length_drop, List.length_take]; rfl)) ?_; (with_reducible refine (spec_Pack.calls kj44 t203 t204 t205 t206 t207 t210 _ A62.out).mono ?_); rintro e w84 ⟨rfl, hb⟩; refine ⟨_, rfl, ?_⟩; have n0_ := Aside0.mk (blk_below (g := gb196) (o := .cells #[.int .i64 t191, .int .i64 t192, .int .i64 t193, .int .i64 t194, .int .i64 t195] 28 (0, 0)) (by (with_reducible repeat (first | refine blk_drewN ?_ _ | refine blk_drew ?_ | refine blk_alloc ?_ _)); exact BK196.out) hb); have n1_ := Aside0.mk (blk_below (g := gb208) (o := .cells #[.int .i64 t203, .int .i64 t204, .int .i64 t205, .int .i64 t206, .int .i64 t207] 28 (0, 0)) (by (with_reducible repeat (first | refine blk_drewN ?_ _ | refine blk_drew ?_ | refine blk_alloc ?_ _)); exact BK208.out) hb); have n2_ := Aside0.mk (below_step (by repeat (first | (with_reducible first | exact HB.out | apply below_alloc | apply pw_below_drewN | apply below_drew1 | refine below_set ?_ GE196.out | refine below_set ?_ GE208.out) | exact HB.out)) hb); clear BK196; clear BK208; clear HB; have BK196 := n0_; have BK208 := n1_; have HB := n2_; clear n0_ n1_ n2_; (try clear hb); (try clear hb2); (try clear hk); (try clear hi)))
                                        have n0_ := Aside0.mk (blk_drew BK196.out)
                                        have n1_ := Aside0.mk (blk_drew BK208.out)
                                        have n2_ := Aside0.mk (below_drew1 HB.out)
                                        clear BK196
                                        clear BK208
                                        clear HB
                                        have BK196 := n0_
                                        have BK208 := n1_
                                        have HB := n2_
                                        clear n0_ n1_ n2_
                                        refine start_ (n := 12) (S := fun w' => w'.cell? ⟨gb208, 0, none⟩ = some (.int .i64 t203) ∧ w'.cell? ⟨gb208, 1, none⟩ = some (.int .i64 t204) ∧ w'.cell? ⟨gb208, 2, none⟩ = some (.int .i64 t205) ∧ w'.cell? ⟨gb208, 3, none⟩ = some (.int .i64 t206) ∧ w'.cell? ⟨gb208, 4, none⟩ = some (.int .i64 t207)) (ds := []) #[false, false, false, false, false, false, false, false, false, false, false, false] (by kernel_rfl) rfl rfl ⟨(blk_cell BK208.out 0).trans rfl, (blk_cell BK208.out 1).trans rfl, (blk_cell BK208.out 2).trans rfl, (blk_cell BK208.out 3).trans rfl, (blk_cell BK208.out 4).trans rfl⟩ (fun hHeld => ?_); refine with_tabW laws_FnWire.tab28 laws_FnWire.bits28 (fun HT_ HW_ => ?_)
                                        generalize w84.drew = w85 at BK196 BK208 HB hHeld ⊢
                                        refine take_ (i := 0) (N := some 146) (v := ?_) (a' := ?_) #[true, false, false, false, false, false, false, false, false, false, false, false] rfl rfl (take_ofW HT_.out HW_.out (by kernel_rfl)) (fun _ _ _ h => h) (Or.inl ⟨by rfl, ?_⟩) hHeld ?_ ?_
                                        rotate_left
                                        · rintro w' ⟨s0, s1, s2, s3, s4⟩
                                          go_simp
                                          with_reducible rfl
                                        rotate_left
                                        · simp only [Act.put, List.setIfInBounds_toArray, List.set_cons_zero, List.set_cons_succ, i64_w, i32_w]
                                          rfl
                                        refine take_ (i := 3) (N := some 149) (v := ?_) (a' := ?_) #[true, false, false, true, false, false, false, false, false, false, false, false] rfl rfl (take_ofW HT_.out HW_.out (by kernel_rfl)) (fun _ _ _ h => h) (Or.inl ⟨by rfl, ?_⟩) hHeld ?_ ?_
                                        rotate_left
                                        · rintro w' ⟨s0, s1, s2, s3, s4⟩
                                          go_simp
                                          with_reducible rfl
                                        rotate_left
                                        · simp only [Act.put, List.setIfInBounds_toArray, List.set_cons_zero, List.set_cons_succ, i64_w, i32_w]
                                          rfl
                                        refine one_ (i := 1) (N := some 147) #[true, true, false, true, false, false, false, false, false, false, false, false] rfl rfl (one_of HT_.out (by kernel_rfl)) (by decide) (fun K hK => ?_)
                                        refine goes_ Tryd.func16 (by kernel_rfl) rfl #[.agg #[.int .i64 t203, .int .i64 t204, .int .i64 t205, .int .i64 t206, .int .i64 t207]] (by rfl) rfl rfl (by (try simp only [List.map_toArray, List.map_cons, List.map_nil]); first | done | rfl | (simp only [List.length_drop, List.length_take]; rfl)) ?_
                                        with_reducible refine (spec_Pack.calls kj44 t203 t204 t205 t206 t207 t211 _ A64.out).mono ?_
                                        rintro e w86 ⟨rfl, hb⟩
                                        refine ⟨_, rfl, ?_⟩
                                        have n0_ := Aside0.mk (blk_below (g := gb196) (o := .cells #[.int .i64 t191, .int .i64 t192, .int .i64 t193, .int .i64 t194, .int .i64 t195] 28 (0, 0)) (by (with_reducible repeat (first | refine blk_drewN ?_ _ | refine blk_drew ?_ | refine blk_alloc ?_ _)); exact BK196.out) hb)
                                        have n1_ := Aside0.mk (blk_below (g := gb208) (o := .cells #[.int .i64 t203, .int .i64 t204, .int .i64 t205, .int .i64 t206, .int .i64 t207] 28 (0, 0)) (by (with_reducible repeat (first | refine blk_drewN ?_ _ | refine blk_drew ?_ | refine blk_alloc ?_ _)); exact BK208.out) hb)
                                        have n2_ := Aside0.mk (below_step (by repeat (first | (with_reducible first | exact HB.out | apply below_alloc | apply pw_below_drewN | apply below_drew1 | refine below_set ?_ GE196.out | refine below_set ?_ GE208.out) | exact HB.out)) hb)
                                        clear BK196
                                        clear BK208
                                        clear HB
                                        have BK196 := n0_
                                        have BK208 := n1_
                                        have HB := n2_
                                        clear n0_ n1_ n2_
                                        (try clear hb)
                                        (try clear hb2)
                                        (try clear hk)
                                        (try clear hi)
                                        refine hK.out _ _ ⟨(blk_cell BK208.out 0).trans rfl, (blk_cell BK208.out 1).trans rfl, (blk_cell BK208.out 2).trans rfl, (blk_cell BK208.out 3).trans rfl, (blk_cell BK208.out 4).trans rfl⟩ (fun hHeld => ?_)
                                        clear hK K
                                        refine norm_ (a' := ?_) ?_ ?_
                                        rotate_left
                                        · show Act.put _ (some 147) _ = _
                                          simp only [Act.put, List.setIfInBounds_toArray, List.set_cons_zero, List.set_cons_succ, i64_w, i32_w]
                                          rfl
                                        refine one_ (i := 2) (N := some 148) #[true, true, true, true, false, false, false, false, false, false, false, false] rfl rfl (one_of HT_.out (by kernel_rfl)) (by decide) (fun K hK => ?_)
                                        refine goes_ Tryd.func13 (by kernel_rfl) rfl #[.int .u32 t211] (by rfl) rfl rfl (by (try simp only [List.map_toArray, List.map_cons, List.map_nil]); first | done | rfl | (simp only [List.length_drop, List.length_take]; rfl)) ?_
                                        with_reducible refine (spec_Unpack.calls t211 t212 t213 t214 t215 t216 _ A65.out).mono ?_
                                        rintro e w87 ⟨rfl, hb⟩
                                        refine ⟨_, rfl, ?_⟩
                                        have n0_ := Aside0.mk (blk_below (g := gb196) (o := .cells #[.int .i64 t191, .int .i64 t192, .int .i64 t193, .int .i64 t194, .int .i64 t195] 28 (0, 0)) (by (with_reducible repeat (first | refine blk_drewN ?_ _ | refine blk_drew ?_ | refine blk_alloc ?_ _)); exact BK196.out) hb)
                                        have n1_ := Aside0.mk (blk_below (g := gb208) (o := .cells #[.int .i64 t203, .int .i64 t204, .int .i64 t205, .int .i64 t206, .int .i64 t207] 28 (0, 0)) (by (with_reducible repeat (first | refine blk_drewN ?_ _ | refine blk_drew ?_ | refine blk_alloc ?_ _)); exact BK208.out) hb)
                                        have n2_ := Aside0.mk (below_step (by repeat (first | (with_reducible first | exact HB.out | apply below_alloc | apply pw_below_drewN | apply below_drew1 | refine below_set ?_ GE196.out | refine below_set ?_ GE208.out) | exact HB.out)) hb)
                                        clear BK196
                                        clear BK208
                                        clear HB
                                        have BK196 := n0_
                                        have BK208 := n1_
                                        have HB := n2_
                                        clear n0_ n1_ n2_
                                        (try clear hb)
                                        (try clear hb2)
                                        (try clear hk)
                                        (try clear hi)
                                        refine hK.out _ _ ⟨(blk_cell BK208.out 0).trans rfl, (blk_cell BK208.out 1).trans rfl, (blk_cell BK208.out 2).trans rfl, (blk_cell BK208.out 3).trans rfl, (blk_cell BK208.out 4).trans rfl⟩ (fun hHeld => ?_)
                                        clear hK K
                                        refine norm_ (a' := ?_) ?_ ?_
                                        rotate_left
                                        · show Act.put _ (some 148) _ = _
                                          simp only [Act.put, List.setIfInBounds_toArray, List.set_cons_zero, List.set_cons_succ, i64_w, i32_w]
                                          rfl
                                        refine pure_ (i := 4) (N := some 150) (v := ?_) (a' := ?_) #[true, true, true, true, true, false, false, false, false, false, false, false] rfl rfl (any_of HT_.out (by kernel_rfl)) (fun _ _ _ h => h) (Or.inl ⟨by rfl, ?_⟩) ?_ ?_
                                        rotate_left
                                        · intro w'
                                          go_simp
                                          with_reducible rfl
                                        rotate_left
                                        · simp only [Act.put, List.setIfInBounds_toArray, List.set_cons_zero, List.set_cons_succ, i64_w, i32_w]
                                          rfl
                                        refine pure_ (i := 5) (N := some 151) (v := ?_) (a' := ?_) #[true, true, true, true, true, true, false, false, false, false, false, false] rfl rfl (any_of HT_.out (by kernel_rfl)) (fun _ _ _ h => h) (Or.inl ⟨by rfl, ?_⟩) ?_ ?_
                                        rotate_left
                                        · intro w'
                                          go_simp
                                          with_reducible rfl
                                        rotate_left
                                        · simp only [Act.put, List.setIfInBounds_toArray, List.set_cons_zero, List.set_cons_succ, i64_w, i32_w]
                                          rfl
                                        refine pure_ (i := 6) (N := some 152) (v := ?_) (a' := ?_) #[true, true, true, true, true, true, true, false, false, false, false, false] rfl rfl (any_of HT_.out (by kernel_rfl)) (fun _ _ _ h => h) (Or.inl ⟨by rfl, ?_⟩) ?_ ?_
                                        rotate_left
                                        · intro w'
                                          go_simp
                                          with_reducible rfl
                                        rotate_left
                                        · simp only [Act.put, List.setIfInBounds_toArray, List.set_cons_zero, List.set_cons_succ, i64_w, i32_w]
                                          rfl
                                        refine take_ (i := 8) (N := some 154) (v := ?_) (a' := ?_) #[true, true, true, true, true, true, true, false, true, false, false, false] rfl rfl (take_ofW HT_.out HW_.out (by kernel_rfl)) (fun _ _ _ h => h) (Or.inl ⟨by rfl, ?_⟩) hHeld ?_ ?_
                                        rotate_left
                                        · rintro w' ⟨s0, s1, s2, s3, s4⟩
                                          go_simp
                                          with_reducible rfl
                                        rotate_left
                                        · simp only [Act.put, List.setIfInBounds_toArray, List.set_cons_zero, List.set_cons_succ, i64_w, i32_w]
                                          rfl
                                        refine one_ (i := 7) (N := some 153) #[true, true, true, true, true, true, true, true, true, false, false, false] rfl rfl (one_of HT_.out (by kernel_rfl)) (by decide) (fun K hK => ?_)
                                        refine goes_ Tryd.func14 (by kernel_rfl) rfl #[.int .u32 t209] (by rfl) rfl rfl (by (try simp only [List.map_toArray, List.map_cons, List.map_nil]); first | done | rfl | (simp only [List.length_drop, List.length_take]; rfl)) ?_
                                        with_reducible refine (impl_Unpack.calls t209 t217 t218 t219 t220 t221 _ A77.out ?hGz).mono ?_
                                        case hGz => exact Glob.below hG (by repeat (first | (with_reducible first | exact HB.out | apply below_alloc | apply pw_below_drewN | apply below_drew1 | refine below_set ?_ GE196.out | refine below_set ?_ GE208.out) | exact HB.out))
                                        rintro e w88 ⟨rfl, hb⟩
                                        refine ⟨_, rfl, ?_⟩
                                        have n0_ := Aside0.mk (blk_below (g := gb196) (o := .cells #[.int .i64 t191, .int .i64 t192, .int .i64 t193, .int .i64 t194, .int .i64 t195] 28 (0, 0)) (by (with_reducible repeat (first | refine blk_drewN ?_ _ | refine blk_drew ?_ | refine blk_alloc ?_ _)); exact BK196.out) hb)
                                        have n1_ := Aside0.mk (blk_below (g := gb208) (o := .cells #[.int .i64 t203, .int .i64 t204, .int .i64 t205, .int .i64 t206, .int .i64 t207] 28 (0, 0)) (by (with_reducible repeat (first | refine blk_drewN ?_ _ | refine blk_drew ?_ | refine blk_alloc ?_ _)); exact BK208.out) hb)
                                        have n2_ := Aside0.mk (below_step (by repeat (first | (with_reducible first | exact HB.out | apply below_alloc | apply pw_below_drewN | apply below_drew1 | refine below_set ?_ GE196.out | refine below_set ?_ GE208.out) | exact HB.out)) hb)
                                        clear BK196
                                        clear BK208
                                        clear HB
                                        have BK196 := n0_
                                        have BK208 := n1_
                                        have HB := n2_
                                        clear n0_ n1_ n2_
                                        (try clear hb)
                                        (try clear hb2)
                                        (try clear hk)
                                        (try clear hi)
                                        refine hK.out _ _ ⟨(blk_cell BK208.out 0).trans rfl, (blk_cell BK208.out 1).trans rfl, (blk_cell BK208.out 2).trans rfl, (blk_cell BK208.out 3).trans rfl, (blk_cell BK208.out 4).trans rfl⟩ (fun hHeld => ?_)
                                        clear hK K
                                        refine norm_ (a' := ?_) ?_ ?_
                                        rotate_left
                                        · show Act.put _ (some 153) _ = _
                                          simp only [Act.put, List.setIfInBounds_toArray, List.set_cons_zero, List.set_cons_succ, i64_w, i32_w]
                                          rfl
                                        refine pure_ (i := 9) (N := some 155) (v := ?_) (a' := ?_) #[true, true, true, true, true, true, true, true, true, true, false, false] rfl rfl (any_of HT_.out (by kernel_rfl)) (fun _ _ _ h => h) (Or.inl ⟨by rfl, ?_⟩) ?_ ?_
                                        rotate_left
                                        · intro w'
                                          go_simp
                                          with_reducible rfl
                                        rotate_left
                                        · simp only [Act.put, List.setIfInBounds_toArray, List.set_cons_zero, List.set_cons_succ, i64_w, i32_w]
                                          rfl
                                        refine pure_ (i := 10) (N := some 156) (v := ?_) (a' := ?_) #[true, true, true, true, true, true, true, true, true, true, true, false] rfl rfl (any_of HT_.out (by kernel_rfl)) (fun _ _ _ h => h) (Or.inl ⟨by rfl, ?_⟩) ?_ ?_
                                        rotate_left
                                        · intro w'
                                          go_simp
                                          with_reducible rfl
                                        rotate_left
                                        · simp only [Act.put, List.setIfInBounds_toArray, List.set_cons_zero, List.set_cons_succ, i64_w, i32_w]
                                          rfl
                                        refine pure_ (i := 11) (N := some 4) (v := ?_) (a' := ?_) #[true, true, true, true, true, true, true, true, true, true, true, true] rfl rfl (any_of HT_.out (by kernel_rfl)) (fun _ _ _ h => h) (Or.inl ⟨by rfl, ?_⟩) ?_ ?_
                                        rotate_left
                                        · intro w'
                                          go_simp
                                          with_reducible rfl
                                        rotate_left
                                        · simp only [Act.put, List.setIfInBounds_toArray, List.set_cons_zero, List.set_cons_succ, i64_w, i32_w]
                                          rfl
                                        refine done_ (done_of HT_.out (by kernel_rfl)) ?_
                                        try go_wp2
                                        go_ret
                                        exact ⟨by first | rfl | (simp [errW_none, errW_some] <;> rfl) | (simp only [← hji9]; first | rfl | (simp [errW_none, errW_some] <;> rfl)) | (simp [*, errW_none, errW_some] <;> rfl), by repeat (first | (with_reducible first | exact HB.out | apply below_alloc | apply pw_below_drewN | apply below_drew1 | refine below_set ?_ GE196.out | refine below_set ?_ GE208.out) | exact HB.out)⟩
                                    · rw [if_neg c63] at H
                                      have c63b0 : (t209 == t210) = false := beq_eq_false_iff_ne.mpr c63
                                      have c63b1 : (t209 != t210) = true := bne_iff_ne.mpr c63
                                      obtain rfl := Option.some.inj H
                                      go_wp2_with (first | ((with_reducible refine gate_callee (f := 30) rfl ?_); refine goesL_ (some 139) rfl rfl Tryd.func30 (by kernel_rfl) rfl #[.slice A0 l0.length c0] rfl (by (try simp only [List.map_toArray, List.map_cons, List.map_nil]); first | done | rfl | (simp only [List.length_drop, List.length_take]; rfl)) ?_; (with_reducible refine (spec_DrawPack.calls kj44 _ _ l0 t203 t204 t205 t206 t207 _ ?side1 ?side2 A60.out).mono ?_); (case side1 => repeat (first | exact (Kd.C_below HR0.out HB.out) | (with_reducible refine Kd.C_alloc ?_ _) | (with_reducible refine Kd.C_drewN ?_ _) | (with_reducible refine Kd.C_drew ?_))); (case side2 => exact HC0.out); rintro e w89 ⟨rfl, hb⟩; refine ⟨_, rfl, ?_⟩; have n0_ := Aside0.mk (blk_below (g := gb196) (o := .cells #[.int .i64 t191, .int .i64 t192, .int .i64 t193, .int .i64 t194, .int .i64 t195] 28 (0, 0)) (by (with_reducible repeat (first | refine blk_drewN ?_ _ | refine blk_drew ?_ | refine blk_alloc ?_ _)); exact BK196.out) hb); have n1_ := Aside0.mk (below_step (by repeat (first | (with_reducible first | exact HB.out | apply below_alloc | apply pw_below_drewN | apply below_drew1 | refine below_set ?_ GE196.out) | exact HB.out)) hb); clear BK196; clear HB; have BK196 := n0_; have HB := n1_; clear n0_ n1_; (try clear hb); (try clear hb2); (try clear hk); (try clear hi)) | ((with_reducible refine gate_dst (N := 19) rfl ?_); (try (refine gate_guard (by rfl) ?_; dsimp only)); refine box_event ?hg (N := 19) ?hd (cs := #[.int .i64 0, .int .i64 0, .int .i64 0, .int .i64 0, .int .i64 0]) (t := 28) ?hr ?_; (case hd => rfl); (case hg => rfl); (case hr => first | (go_simp; done) | (go_simp; rfl)); intro gb208 hg w90 hbox hb; have n0_ := Aside0.mk (blk_below (g := gb196) (o := .cells #[.int .i64 t191, .int .i64 t192, .int .i64 t193, .int .i64 t194, .int .i64 t195] 28 (0, 0)) (by (with_reducible repeat (first | refine blk_drewN ?_ _ | refine blk_drew ?_ | refine blk_alloc ?_ _)); exact BK196.out) hb); have n1_ := Aside0.mk (below_step (by repeat (first | (with_reducible first | exact HB.out | apply below_alloc | apply pw_below_drewN | apply below_drew1 | refine below_set ?_ GE196.out) | exact HB.out)) hb); have n2_ := Aside0.mk (hbox); have n3_ := Aside0.mk ((by rw [hg]; exact (below_size (by repeat (first | (with_reducible first | exact HB.out | apply below_alloc | apply pw_below_drewN | apply below_drew1 | refine below_set ?_ GE196.out) | exact HB.out))) : w.heap.size ≤ gb208)); have n4_ := Aside0.mk ((by rw [hg]; exact (below_size (by repeat (first | (with_reducible first | exact HB.out | apply below_alloc | apply pw_below_drewN | apply below_drew1 | refine below_set ?_ GE196.out) | exact HB.out))) : w.heap.size ≤ gb208)); have n5_ := Aside0.mk ((by rw [hg]; exact Nat.ne_of_lt (blk_lt (g := gb196) (o := .cells #[.int .i64 t191, .int .i64 t192, .int .i64 t193, .int .i64 t194, .int .i64 t195] 28 (0, 0)) (by (with_reducible repeat (first | refine blk_drewN ?_ _ | refine blk_drew ?_ | refine blk_alloc ?_ _)); exact BK196.out)) : gb196 ≠ gb208)); have n6_ := Aside0.mk ((by rw [hg]; exact Nat.ne_of_gt (blk_lt (g := gb196) (o := .cells #[.int .i64 t191, .int .i64 t192, .int .i64 t193, .int .i64 t194, .int .i64 t195] 28 (0, 0)) (by (with_reducible repeat (first | refine blk_drewN ?_ _ | refine blk_drew ?_ | refine blk_alloc ?_ _)); exact BK196.out)) : gb208 ≠ gb196)); clear BK196; clear HB; have BK196 := n0_; have HB := n1_; have BK208 := n2_; have GW208 := n3_; have GE208 := n4_; have NB196_208 := n5_; have NB208_196 := n6_; clear n0_ n1_ n2_ n3_ n4_ n5_ n6_; clear hb hbox hg; have hnb91 := NB208_196.out; have hnc91 := NB196_208.out; have hcz92_0 : w90.cell? ⟨gb208, 0, none⟩ = some (.int .i64 0) := (blk_cell BK208.out 0).trans rfl; have hcz92_1 : w90.cell? ⟨gb208, 1, none⟩ = some (.int .i64 0) := (blk_cell BK208.out 1).trans rfl; have hcz92_2 : w90.cell? ⟨gb208, 2, none⟩ = some (.int .i64 0) := (blk_cell BK208.out 2).trans rfl; have hcz92_3 : w90.cell? ⟨gb208, 3, none⟩ = some (.int .i64 0) := (blk_cell BK208.out 3).trans rfl; have hcz92_4 : w90.cell? ⟨gb208, 4, none⟩ = some (.int .i64 0) := (blk_cell BK208.out 4).trans rfl; have hfz92_0 := blk_frozen BK208.out 0; have hfz92_1 := blk_frozen BK208.out 1; have hfz92_2 := blk_frozen BK208.out 2; have hfz92_3 := blk_frozen BK208.out 3; have hfz92_4 := blk_frozen BK208.out 4) | ((with_reducible refine gate_callee (f := 18) rfl ?_); refine goesL_ (some 141) rfl rfl Tryd.func18 (by kernel_rfl) rfl #[.agg #[.int .i64 t203, .int .i64 t204, .int .i64 t205, .int .i64 t206, .int .i64 t207]] rfl (by (try simp only [List.map_toArray, List.map_cons, List.map_nil]); first | done | rfl | (simp only [List.length_drop, List.length_take]; rfl)) ?_; (with_reducible refine (impl_Pack.calls t203 t204 t205 t206 t207 t209 _ A61.out ?hG_4).mono ?_); (case hG_4 => exact Glob.below hG (by repeat (first | (with_reducible first | exact HB.out | apply below_alloc | apply pw_below_drewN | apply below_drew1 | refine below_set ?_ GE196.out | refine below_set ?_ GE208.out) | exact HB.out))); rintro e w93 ⟨rfl, hb⟩; refine ⟨_, rfl, ?_⟩; have n0_ := Aside0.mk (blk_below (g := gb196) (o := .cells #[.int .i64 t191, .int .i64 t192, .int .i64 t193, .int .i64 t194, .int .i64 t195] 28 (0, 0)) (by (with_reducible repeat (first | refine blk_drewN ?_ _ | refine blk_drew ?_ | refine blk_alloc ?_ _)); refine blk_far ?_ NB196_208.out _; (with_reducible repeat (first | refine blk_drewN ?_ _ | refine blk_drew ?_ | refine blk_alloc ?_ _)); refine blk_far ?_ NB196_208.out _; (with_reducible repeat (first | refine blk_drewN ?_ _ | refine blk_drew ?_ | refine blk_alloc ?_ _)); refine blk_far ?_ NB196_208.out _; (with_reducible repeat (first | refine blk_drewN ?_ _ | refine blk_drew ?_ | refine blk_alloc ?_ _)); refine blk_far ?_ NB196_208.out _; (with_reducible repeat (first | refine blk_drewN ?_ _ | refine blk_drew ?_ | refine blk_alloc ?_ _)); refine blk_far ?_ NB196_208.out _; (with_reducible repeat (first | refine blk_drewN ?_ _ | refine blk_drew ?_ | refine blk_alloc ?_ _)); exact BK196.out) hb); have n1_ := Aside0.mk (blk_below (g := gb208) (o := .cells #[.int .i64 t203, .int .i64 t204, .int .i64 t205, .int .i64 t206, .int .i64 t207] 28 (0, 0)) (by (with_reducible repeat (first | refine blk_drewN ?_ _ | refine blk_drew ?_ | refine blk_alloc ?_ _)); refine blk_put (cs := #[.int .i64 t203, .int .i64 t204, .int .i64 t205, .int .i64 t206, .int .i64 0]) ?_ 4 _ rfl; (with_reducible repeat (first | refine blk_drewN ?_ _ | refine blk_drew ?_ | refine blk_alloc ?_ _)); refine blk_put (cs := #[.int .i64 t203, .int .i64 t204, .int .i64 t205, .int .i64 0, .int .i64 0]) ?_ 3 _ rfl; (with_reducible repeat (first | refine blk_drewN ?_ _ | refine blk_drew ?_ | refine blk_alloc ?_ _)); refine blk_put (cs := #[.int .i64 t203, .int .i64 t204, .int .i64 0, .int .i64 0, .int .i64 0]) ?_ 2 _ rfl; (with_reducible repeat (first | refine blk_drewN ?_ _ | refine blk_drew ?_ | refine blk_alloc ?_ _)); refine blk_put (cs := #[.int .i64 t203, .int .i64 0, .int .i64 0, .int .i64 0, .int .i64 0]) ?_ 1 _ rfl; (with_reducible repeat (first | refine blk_drewN ?_ _ | refine blk_drew ?_ | refine blk_alloc ?_ _)); refine blk_put (cs := #[.int .i64 0, .int .i64 0, .int .i64 0, .int .i64 0, .int .i64 0]) ?_ 0 _ rfl; (with_reducible repeat (first | refine blk_drewN ?_ _ | refine blk_drew ?_ | refine blk_alloc ?_ _)); exact BK208.out) hb); have n2_ := Aside0.mk (below_step (by repeat (first | (with_reducible first | exact HB.out | apply below_alloc | apply pw_below_drewN | apply below_drew1 | refine below_set ?_ GE196.out | refine below_set ?_ GE208.out) | exact HB.out)) hb); clear BK196; clear BK208; clear HB; have BK196 := n0_; have BK208 := n1_; have HB := n2_; clear n0_ n1_ n2_; (try clear hb); (try clear hb2); (try clear hk); (try clear hi); have hcz94_0 : w93.cell? ⟨gb208, 0, none⟩ = some (.int .i64 t203) := (blk_cell BK208.out 0).trans rfl; have hcz94_1 : w93.cell? ⟨gb208, 1, none⟩ = some (.int .i64 t204) := (blk_cell BK208.out 1).trans rfl; have hcz94_2 : w93.cell? ⟨gb208, 2, none⟩ = some (.int .i64 t205) := (blk_cell BK208.out 2).trans rfl; have hcz94_3 : w93.cell? ⟨gb208, 3, none⟩ = some (.int .i64 t206) := (blk_cell BK208.out 3).trans rfl; have hcz94_4 : w93.cell? ⟨gb208, 4, none⟩ = some (.int .i64 t207) := (blk_cell BK208.out 4).trans rfl; have hfz94_0 := blk_frozen BK208.out 0; have hfz94_1 := blk_frozen BK208.out 1; have hfz94_2 := blk_frozen BK208.out 2; have hfz94_3 := blk_frozen BK208.out 3; have hfz94_4 := blk_frozen BK208.out 4) | ((with_reducible refine gate_callee (f := 16) rfl ?_); refine goesL_ (some 144) rfl rfl Tryd.func16 (by kernel_rfl) rfl #[.agg #[.int .i64 t203, .int .i64 t204, .int .i64 t205, .int .i64 t206, .int .i64 t207]] rfl (by (try simp only [List.map_toArray, List.map_cons, List.map_nil]); first | done | rfl | (simp only [List.length_drop, List.length_take]; rfl)) ?_; (with_reducible refine (spec_Pack.calls kj44 t203 t204 t205 t206 t207 t210 _ A62.out).mono ?_); rintro e w95 ⟨rfl, hb⟩; refine ⟨_, rfl, ?_⟩; have n0_ := Aside0.mk (blk_below (g := gb196) (o := .cells #[.int .i64 t191, .int .i64 t192, .int .i64 t193, .int .i64 t194, .int .i64 t195] 28 (0, 0)) (by (with_reducible repeat (first | refine blk_drewN ?_ _ | refine blk_drew ?_ | refine blk_alloc ?_ _)); exact BK196.out) hb); have n1_ := Aside0.mk (blk_below (g := gb208) (o := .cells #[.int .i64 t203, .int .i64 t204, .int .i64 t205, .int .i64 t206, .int .i64 t207] 28 (0, 0)) (by (with_reducible repeat (first | refine blk_drewN ?_ _ | refine blk_drew ?_ | refine blk_alloc ?_ _)); exact BK208.out) hb); have n2_ := Aside0.mk (below_step (by repeat (first | (with_reducible first | exact HB.out | apply below_alloc | apply pw_below_drewN | apply below_drew1 | refine below_set ?_ GE196.out | refine below_set ?_ GE208.out) | exact HB.out)) hb); clear BK196; clear BK208; clear HB; have BK196 := n0_; have BK208 := n1_; have HB := n2_; clear n0_ n1_ n2_; (try clear hb); (try clear hb2); (try clear hk); (try clear hi)))
                                      go_ret
                                      exact ⟨by first | rfl | (simp [errW_none, errW_some] <;> rfl) | (simp only [← hji9]; first | rfl | (simp [errW_none, errW_some] <;> rfl)) | (simp [*, errW_none, errW_some] <;> rfl), by repeat (first | (with_reducible first | exact HB.out | apply below_alloc | apply pw_below_drewN | apply below_drew1 | refine below_set ?_ GE196.out | refine below_set ?_ GE208.out) | exact HB.out)⟩
                      · rw [if_neg c34] at H
                        exact absurd H (by simp)
                    · rw [if_neg c33] at H
                      exact absurd H (by simp)
                  · rw [if_neg c32] at H
                    have c32b0 : (t185.toList == t186.toList) = false := beq_eq_false_iff_ne.mpr c32
                    have c32b1 : (t185.toList != t186.toList) = true := bne_iff_ne.mpr c32
                    obtain rfl := Option.some.inj H
                    go_wp2_with (first | ((with_reducible refine gate_callee (f := 25) rfl ?_); refine goesL_ (some 83) rfl rfl Tryd.func25 (by kernel_rfl) rfl #[.int .i64 t173] rfl (by (try simp only [List.map_toArray, List.map_cons, List.map_nil]); first | done | rfl | (simp only [List.length_drop, List.length_take]; rfl)) ?_; (with_reducible refine (impl_PutInt.calls t173 t185 _ A30.out).mono ?_); rintro e w96 ⟨rfl, hb⟩; refine ⟨_, rfl, ?_⟩; have n0_ := Aside0.mk (below_step (by repeat (first | (with_reducible first | exact HB.out | apply below_alloc | apply pw_below_drewN | apply below_drew1) | exact HB.out)) hb); clear HB; have HB := n0_; clear n0_; (try clear hb); (try clear hb2); (try clear hk); (try clear hi)) | ((with_reducible refine gate_callee (f := 26) rfl ?_); refine goesL_ (some 86) rfl rfl Tryd.func26 (by kernel_rfl) rfl #[.int .i64 t173] rfl (by (try simp only [List.map_toArray, List.map_cons, List.map_nil]); first | done | rfl | (simp only [List.length_drop, List.length_take]; rfl)) ?_; (with_reducible refine (spec_PutInt.calls kj16 t173 t186 _ A31.out).mono ?_); rintro e w97 ⟨rfl, hb⟩; refine ⟨_, rfl, ?_⟩; have n0_ := Aside0.mk (below_step (by repeat (first | (with_reducible first | exact HB.out | apply below_alloc | apply pw_below_drewN | apply below_drew1) | exact HB.out)) hb); clear HB; have HB := n0_; clear n0_; (try clear hb); (try clear hb2); (try clear hk); (try clear hi)))
                    go_ret
                    exact ⟨by first | rfl | (simp [errW_none, errW_some] <;> rfl) | (simp only [← hji9]; first | rfl | (simp [errW_none, errW_some] <;> rfl)) | (simp [*, errW_none, errW_some] <;> rfl), by repeat (first | (with_reducible first | exact HB.out | apply below_alloc | apply pw_below_drewN | apply below_drew1) | exact HB.out)⟩
            · rw [if_neg c16] at H
              have c16b0 : (t180.toList == t181.toList) = false := beq_eq_false_iff_ne.mpr c16
              have c16b1 : (t180.toList != t181.toList) = true := bne_iff_ne.mpr c16
              obtain rfl := Option.some.inj H
              go_wp2_with (first | ((with_reducible refine gate_callee (f := 19) rfl ?_); refine goesL_ (some 30) rfl rfl Tryd.func19 (by kernel_rfl) rfl #[.slice A0 l0.length c0] rfl (by (try simp only [List.map_toArray, List.map_cons, List.map_nil]); first | done | rfl | (simp only [List.length_drop, List.length_take]; rfl)) ?_; (with_reducible refine (spec_DrawPutVarint.calls kj2 _ _ l0 t172 _ ?side1 ?side2 A6.out).mono ?_); (case side1 => repeat (first | exact (Kd.C_below HR0.out HB.out) | (with_reducible refine Kd.C_alloc ?_ _) | (with_reducible refine Kd.C_drewN ?_ _) | (with_reducible refine Kd.C_drew ?_))); (case side2 => exact HC0.out); rintro e w' ⟨rfl, ⟨nd, rfl⟩⟩; refine ⟨_, rfl, ?_⟩) | ((with_reducible refine gate_callee (f := 20) rfl ?_); refine goesL_ (some 32) rfl rfl Tryd.func20 (by kernel_rfl) rfl #[.slice A0 l0.length c0] rfl (by (try simp only [List.map_toArray, List.map_cons, List.map_nil]); first | done | rfl | (simp only [List.length_drop, List.length_take]; rfl)) ?_; (with_reducible refine (spec_DrawPutInt.calls kj2 _ _ l0 t173 _ ?side1 ?side2 A7.out).mono ?_); (case side1 => repeat (first | exact (Kd.C_below HR0.out (by repeat (first | (with_reducible first | exact HB.out | apply below_alloc | apply pw_below_drewN | apply below_drew1) | exact HB.out))) | (with_reducible refine Kd.C_alloc ?_ _) | (with_reducible refine Kd.C_drewN ?_ _) | (with_reducible refine Kd.C_drew ?_))); (case side2 => exact HC0.out); rintro e w' ⟨rfl, ⟨nd, rfl⟩⟩; refine ⟨_, rfl, ?_⟩) | ((with_reducible refine gate_callee (f := 21) rfl ?_); refine goesL_ (some 34) rfl rfl Tryd.func21 (by kernel_rfl) rfl #[.slice A1 l1.length c1, .int .i64 0] rfl (by (try simp only [List.map_toArray, List.map_cons, List.map_nil]); first | done | rfl | (simp only [List.length_drop, List.length_take]; rfl)) ?_; (with_reducible refine (laws_wPick.calls _ _ l1 0 t174 _ ?side1 ?side2 A8.out).mono ?_); (case side1 => repeat (first | exact (Kd.C_below HR1.out (by repeat (first | (with_reducible first | exact HB.out | apply below_alloc | apply pw_below_drewN | apply below_drew1) | exact HB.out))) | (with_reducible refine Kd.C_alloc ?_ _) | (with_reducible refine Kd.C_drewN ?_ _) | (with_reducible refine Kd.C_drew ?_))); (case side2 => exact HC1.out); rintro e w' ⟨rfl, ⟨nd, rfl⟩⟩; refine ⟨_, rfl, ?_⟩) | ((with_reducible refine gate_callee (f := 21) rfl ?_); refine goesL_ (some 38) rfl rfl Tryd.func21 (by kernel_rfl) rfl #[.slice A1 l1.length c1, .int .i64 1] rfl (by (try simp only [List.map_toArray, List.map_cons, List.map_nil]); first | done | rfl | (simp only [List.length_drop, List.length_take]; rfl)) ?_; (with_reducible refine (laws_wPick.calls _ _ l1 1 t175 _ ?side1 ?side2 A12.out).mono ?_); (case side1 => repeat (first | exact (Kd.C_below HR1.out (by repeat (first | (with_reducible first | exact HB.out | apply below_alloc | apply pw_below_drewN | apply below_drew1) | exact HB.out))) | (with_reducible refine Kd.C_alloc ?_ _) | (with_reducible refine Kd.C_drewN ?_ _) | (with_reducible refine Kd.C_drew ?_))); (case side2 => exact HC1.out); rintro e w' ⟨rfl, ⟨nd, rfl⟩⟩; refine ⟨_, rfl, ?_⟩) | ((with_reducible refine gate_callee (f := 21) rfl ?_); refine goesL_ (some 41) rfl rfl Tryd.func21 (by kernel_rfl) rfl #[.slice A1 l1.length c1, .int .i64 2] rfl (by (try simp only [List.map_toArray, List.map_cons, List.map_nil]); first | done | rfl | (simp only [List.length_drop, List.length_take]; rfl)) ?_; (with_reducible refine (laws_wPick.calls _ _ l1 2 t176 _ ?side1 ?side2 A13.out).mono ?_); (case side1 => repeat (first | exact (Kd.C_below HR1.out (by repeat (first | (with_reducible first | exact HB.out | apply below_alloc | apply pw_below_drewN | apply below_drew1) | exact HB.out))) | (with_reducible refine Kd.C_alloc ?_ _) | (with_reducible refine Kd.C_drewN ?_ _) | (with_reducible refine Kd.C_drew ?_))); (case side2 => exact HC1.out); rintro e w' ⟨rfl, ⟨nd, rfl⟩⟩; refine ⟨_, rfl, ?_⟩) | ((with_reducible refine gate_dst (N := 43) rfl ?_); (try (refine gate_guard (by rfl) ?_; dsimp only)); refine Kd.R_lit (Kd.int .u8) _ 5 ?hg (N := 43) ?hd (xs := ([(t175) % 256, (t176) % 256] : List Int)) (inner := [.int .u8 ((t175) % 256), .int .u8 ((t176) % 256)]) (ok := fun _ => True) (okp := fun _ => True) ?hr ?hp (fun _ hk => hk) trivial (Below.refl _ _) (Nat.le_refl _) (by simp) ?_; (case hd => rfl); (case hg => rfl); (case hr => first | (go_simp; done) | (go_simp; rfl)); (case hp => exact (Reps.one (show Kd.M (Kd.int .u8) _ _ _ ((t175) % 256) [.int .u8 ((t175) % 256)] from rfl) (Reps.one (show Kd.M (Kd.int .u8) _ _ _ ((t176) % 256) [.int .u8 ((t176) % 256)] from rfl) (Reps.none _ _)))); intro v178 w98 ho99 hb hg_ hnew_; clear hg_ hnew_; (first | rw [← Ny177.out] at ho99 | (simp only [Int.reduceToNat] at ho99; rw [← Ny177.out] at ho99)); have n0_ := Aside0.mk (Kd.R_lower ho99 (below_size (by repeat (first | (with_reducible first | exact HB.out | apply below_alloc | apply pw_below_drewN | apply below_drew1) | exact HB.out)))); have n1_ := Aside0.mk (below_step (by repeat (first | (with_reducible first | exact HB.out | apply below_alloc | apply pw_below_drewN | apply below_drew1) | exact HB.out)) hb); clear HB; have HO179 := n0_; have HB := n1_; clear n0_ n1_; clear hb ho99; have hcv100 := own_string (P := Tryd.prog) Tryd.underlying36 Tryd.underlying5 Tryd.underlying9 (Kd.own_of_R HO179.out)) | ((with_reducible refine gate_callee (f := 22) rfl ?_); refine goesL_ (some 46) rfl rfl Tryd.func22 (by kernel_rfl) rfl #[.int .i64 t172] rfl (by (try simp only [List.map_toArray, List.map_cons, List.map_nil]); first | done | rfl | (simp only [List.length_drop, List.length_take]; rfl)) ?_; (with_reducible refine (impl_PutVarint.calls kj2 t172 t180 _ A14.out).mono ?_); rintro e w101 ⟨rfl, hb⟩; refine ⟨_, rfl, ?_⟩; have n0_ := Aside0.mk (Kd.R_below (by (with_reducible repeat (first | apply Kd.R_alloc | apply Kd.R_drewN | apply Kd.R_drew)); exact HO179.out) hb); have n1_ := Aside0.mk (below_step (by repeat (first | (with_reducible first | exact HB.out | apply below_alloc | apply pw_below_drewN | apply below_drew1) | exact HB.out)) hb); clear HO179; clear HB; have HO179 := n0_; have HB := n1_; clear n0_ n1_; (try clear hb); (try clear hb2); (try clear hk); (try clear hi)) | ((with_reducible refine gate_callee (f := 23) rfl ?_); refine goesL_ (some 49) rfl rfl Tryd.func23 (by kernel_rfl) rfl #[.int .i64 t172] rfl (by (try simp only [List.map_toArray, List.map_cons, List.map_nil]); first | done | rfl | (simp only [List.length_drop, List.length_take]; rfl)) ?_; (with_reducible refine (spec_PutVarint.calls kj2 t172 t181 _ A15.out).mono ?_); rintro e w102 ⟨rfl, hb⟩; refine ⟨_, rfl, ?_⟩; have n0_ := Aside0.mk (Kd.R_below (by (with_reducible repeat (first | apply Kd.R_alloc | apply Kd.R_drewN | apply Kd.R_drew)); exact HO179.out) hb); have n1_ := Aside0.mk (below_step (by repeat (first | (with_reducible first | exact HB.out | apply below_alloc | apply pw_below_drewN | apply below_drew1) | exact HB.out)) hb); clear HO179; clear HB; have HO179 := n0_; have HB := n1_; clear n0_ n1_; (try clear hb); (try clear hb2); (try clear hk); (try clear hi)))
              go_ret
              exact ⟨by first | rfl | (simp [errW_none, errW_some] <;> rfl) | (simp only [← hji9]; first | rfl | (simp [errW_none, errW_some] <;> rfl)) | (simp [*, errW_none, errW_some] <;> rfl), by repeat (first | (with_reducible first | exact HB.out | apply below_alloc | apply pw_below_drewN | apply below_drew1) | exact HB.out)⟩
          · rw [if_neg c11] at H
            exact absurd H (by simp)
        · rw [if_neg c10] at H
          exact absurd H (by simp)

/-- THE ONE PURE STATEMENT of laws_FnWire: yours. -/
def laws_FnWire.Pure : Prop := ∀ (l0 : List Int) (l1 : List Int), l0.length ≤ maxLen → l0.length * 1 ≤ 140737488351232 → (∀ x ∈ l0, (Lit.int .u8 x).wf = true) → l1.length ≤ maxLen → l1.length * 1 ≤ 140737488351232 → (∀ x ∈ l1, (Lit.int .u8 x).wf = true) → ∃ k, laws_FnWire.f k l0 l1 = some true
theorem laws_FnWire.walk (P : laws_FnWire.Pure) (a0 : Option Addr) (len0 cap0 : Nat) (z0 : List Int) (a1 : Option Addr) (len1 cap1 : Nat) (z1 : List Int) (w : World) (w0 : (a0 = none ∧ len0 = 0 ∧ cap0 = 0 ∧ z0 = []) ∨ ∃ x, a0 = some x ∧ len0 ≤ cap0 ∧ cap0 ≤ maxLen ∧ z0.length = cap0 ∧ (∀ i, i < z0.length → w.cell? (x.add i) = some (.int .u8 (z0.getD i 0))) ∧ ∀ n ∈ z0, (Lit.int .u8 n).wf = true) (y0 : len0 * 1 ≤ 140737488351232) (w1 : (a1 = none ∧ len1 = 0 ∧ cap1 = 0 ∧ z1 = []) ∨ ∃ x, a1 = some x ∧ len1 ≤ cap1 ∧ cap1 ≤ maxLen ∧ z1.length = cap1 ∧ (∀ i, i < z1.length → w.cell? (x.add i) = some (.int .u8 (z1.getD i 0))) ∧ ∀ n ∈ z1, (Lit.int .u8 n).wf = true) (y1 : len1 * 1 ≤ 140737488351232) (hG : Glob w) :
    Calls Tryd.prog 7 #[.slice a0 len0 cap0, .slice a1 len1 cap1] w fun e w' => e = .returned (.bool true) ∧ Below w.heap.size w w' := by
  obtain ⟨l0, rfl, hr0, hm0, hw0, hc0⟩ := ReadsInt.ofRowC w0
  obtain ⟨l1, rfl, hr1, hm1, hw1, hc1⟩ := ReadsInt.ofRowC w1
  obtain ⟨k, h⟩ := P l0 l1 hm0 y0 hw0 hm1 y1 hw1
  refine (laws_FnWire.calls k _ _ l0 _ _ l1 true w (Kd.C_of_reads (d := (0 : Int)) (h1 := fun _ => rfl) hr0) hc0 (Kd.C_of_reads (d := (0 : Int)) (h1 := fun _ => rfl) hr1) hc1 h hG).mono ?_
  rintro e w' ⟨rfl, hd⟩
  exact ⟨rfl, hd⟩

end Go.Proofs.YtnjchhkpomakoaaDoor.PFnWire
