import Derived.Tactics2
import Derived.Deep.DeepCutAuto
import Derived.Deep.CutBlock
import Derived.Shelf.RegionOpenPlain
import Derived.Shelf.Abstract
import Derived.Shelf.RegionOpen
import Derived.WalkKit
import Derived.OwnWalkIn
import Derived.TacticsInMore
import Derived.LoopNIn
import Derived.LoopIn
import Derived.Laws.EntriesVeiled
import Derived.LoopN
import Derived.WalkLawsBesides
import Derived.Test.YtiekodnojmkfaaaDoorLd
namespace Go.Proofs.YtiekodnojmkfaaaDoor.PFnExactLoad
open Go.RowKit Go.Proofs.YtiekodnojmkfaaaDoorW.PrintWords Go.Proofs.YtiekodnojmkfaaaDoorW.PrintLast Go.Proofs.YtiekodnojmkfaaaDoorW.PrintMore
attribute [local go_sem] max2_int min2_int max_two min_two max_three min_three max_four min_four
set_option linter.unusedVariables false
set_option linter.unusedSimpArgs false
set_option maxRecDepth 100000 in
set_option maxHeartbeats 32000000 in
theorem spDebug {k : Nat} {s : ByteArray} (hk : SpOk k s) (hg : GvOk s) (hz : s.size ≤ 140737488351232) (a e : Int) (f0 : Int) (f1 : Bool) (f2 : Int) (l3 : List Int) (l4 : List S63) (l5 : List S67) (f6 : Int) (A3 A4 A5 : Option Addr) (q3 q4 q5 : Nat) (w : World)
    (C3 : Kd.C (Kd.int .u32) w A3 l3.length l3) (L3 : l3.length ≤ q3) (C4 : Kd.C k63 w A4 l4.length l4) (L4 : l4.length ≤ q4) (C5 : Kd.C k67 w A5 l5.length l5) (L5 : l5.length ≤ q5)
    (f7 : ByteArray) (l8 : List Int) (l9 : List ByteArray) (a1 e1 : Int) (n : Nat) (a2 e2 x2 a3 e3 : Int) (m : Nat) (a4 e4 x4 a5 e5 : Int) (hS : SDebug s l3.length l5.length a e f7 l8 l9 a1 e1 n a2 e2 x2 a3 e3 m a4 e4 x4 a5 e5) (h3 : l3.length ≤ 2000) (h5 : l5.length ≤ 2000) (E : Int) (hE : (if bareB f7 l8 l9 = true then (if e5 = 0 then 3 else e5) else e5) = E) :
    Calls Tryd.prog 22 #[.agg #[.string s, .int .i64 a, .int .i64 e], .agg #[.int .i64 f0, .bool f1, .int .i64 f2, .slice A3 l3.length q3, .slice A4 l4.length q4, .slice A5 l5.length q5, .int .i64 f6, .string ⟨#[]⟩, .slice none 0 0, .slice none 0 0]] w fun r w' =>
      ∃ v8 v9, r = .returned (.tuple #[.agg #[.int .i64 f0, .bool f1, .int .i64 f2, .slice A3 l3.length q3, .slice A4 l4.length q4, .slice A5 l5.length q5, .int .i64 f6, .string f7, v8, v9], .agg #[.string s, .int .i64 a5, .int .i64 E]]) ∧ (Kd.int .i64).R 3 w' w.heap.size (fun _ => True) v8 l8 ∧ Kd.string.R 9 w' w.heap.size (fun _ => True) v9 l9 ∧ Below w.heap.size w w' := by
  have hu31 := Tryd.underlying31
  have hu38 := Tryd.underlying38
  have hmix : Tryd.prog.follows .mixedOrders = true := by kernel_rfl
  have D0 := Aside0.mk (DAt.start (s := s) (w := w) (a := a) (e := e) (f0 := f0) (f1 := f1) (f2 := f2) (f6 := f6) (f7 := ⟨#[]⟩) (v3 := .slice A3 l3.length q3) (v4 := .slice A4 l4.length q4) (v5 := .slice A5 l5.length q5))
  have HS := Aside0.mk hS
  have HE := Aside0.mk hE
  have c3 := Aside0.mk C3
  have c4 := Aside0.mk C4
  have c5 := Aside0.mk C5
  clear hS hE C3 C4 C5
  go_enter Tryd.func22, Tryd.ntmps22
  go_upto_region 6 with (first | (go_at_call 57; refine (spText hk _ HS.out.d0.1 HS.out.d0.2 HS.out.d1.1).mono ?_; rintro r w1 ⟨rfl, hb⟩; have hd := D0.out.below hb; obtain ⟨r0, r1, r2, y0, y1, y2, p3, p5, p7, p8, p9, z7, z8, z9⟩ := hd.cells; have D1 := Aside0.mk hd; clear hd hb D0) | (go_at_call 19; refine (spNum hk _ HS.out.d1.2.1 HS.out.d1.2.2 HS.out.d2.1).mono ?_; rintro r w2 ⟨rfl, hb⟩; have hd := ((D1.out.rd3 a1 e1).set7 f7).below hb; obtain ⟨r0, r1, r2, y0, y1, y2, p3, p5, p7, p8, p9, z7, z8, z9⟩ := hd.cells; have D2 := Aside0.mk hd; clear hd hb D1))
  clear r0 r1 r2 y0 y1 y2 p5 p7 p8 p9 z7 z8 z9
  obtain ⟨Bg2, hBg2⟩ : ∃ B, decide (0 < n ∧ n ≠ l3.length) = B := ⟨_, rfl⟩
  have HBg2 := Aside0.mk hBg2
  go_cut [34] (fun sb wx => sb = .bool Bg2 ∧ Aside0 (DAt s w a2 e2 f0 f1 f2 f6 f7 [] [] (.slice A3 l3.length q3) (.slice A4 l4.length q4) (.slice A5 l5.length q5) (.slice none 0 0) (.slice none 0 0) wx))
  case first =>
    by_cases n0 : 0 < n
    · have d0 : decide ((0 : Int) < (n : Int)) = true := decide_eq_true (by omega)
      by_cases n1 : n = l3.length
      · have d1 : ((n : Int) != (l3.length : Int)) = false := by rw [n1]; simp
        have dd : Bg2 = false := by rw [← HBg2.out]; exact decide_eq_false (fun h => h.2 n1)
        clear hBg2 n1
        go_wp2
        go_meet
        exact ⟨by rw [dd], ⟨D2.out.rd3 a2 e2⟩⟩
      · have d1 : ((n : Int) != (l3.length : Int)) = true := by rw [bne_iff_ne]; omega
        have dd : Bg2 = true := by rw [← HBg2.out]; exact decide_eq_true ⟨n0, n1⟩
        clear hBg2 n1
        go_wp2
        go_meet
        exact ⟨by rw [dd], ⟨D2.out.rd3 a2 e2⟩⟩
    · have d0 : decide ((0 : Int) < (n : Int)) = false := decide_eq_false (by omega)
      have dd : Bg2 = false := by rw [← HBg2.out]; exact decide_eq_false (fun h => n0 h.1)
      clear hBg2
      go_wp2
      go_meet
      exact ⟨by rw [dd], ⟨D2.out.rd3 a2 e2⟩⟩
  case rest =>
  obtain ⟨rfl, D3⟩ := hcut
  clear D2
  go_upto_if 34 with (fail)
  go_cut [] (fun wx => Aside0 (DAt s w a2 x2 f0 f1 f2 f6 f7 [] [] (.slice A3 l3.length q3) (.slice A4 l4.length q4) (.slice A5 l5.length q5) (.slice none 0 0) (.slice none 0 0) wx))
  case first =>
    obtain ⟨r0, r1, r2, y0, y1, y2, p3, p5, p7, p8, p9, z7, z8, z9⟩ := D3.out.cells
    cases Bg2
    · have hx : e2 = x2 := by rw [← HS.out.g2, if_neg (of_decide_eq_false HBg2.out)]
      subst hx
      go_wp2
      go_meet
      exact ⟨D3.out⟩
    · have hx : (if e2 = 0 then 4 else e2) = x2 := by rw [← HS.out.g2, if_pos (of_decide_eq_true HBg2.out)]
      have HX := Aside0.mk hx
      clear hx
      go_wp2_with (go_at_call 54; refine (spFail hk a2 e2 4 x2 HX.out _).mono ?_; rintro r wf ⟨rfl, hb⟩; have hd := D3.out.below hb; obtain ⟨r0, r1, r2, y0, y1, y2, p3, p5, p7, p8, p9, z7, z8, z9⟩ := hd.cells; have DF := Aside0.mk hd; clear hd hb)
      go_meet
      exact ⟨DF.out.rd3 a2 x2⟩
  case rest =>
  have D3' := hcut
  clear D3
  have Ll1 := Aside0.mk (SL.start HS.out.d2.2.1 HS.out.d2.2.2.1 HS.out.d2.2.2.2 HS.out.d3.1)
  obtain ⟨r0, r1, r2, y0, y1, y2, p3, p5, p7, p8, p9, z7, z8, z9⟩ := D3'.out.cells
  go_wp2
  clear r0 r1 r2 y0 y1 y2 p3 p5 p7 p8 p9 z7 z8 z9
  go_loopg [9] n (fun kq vi W' => ∃ (j : Nat) (ys : List Int) (vr : Value) (a' e' : Int), vi = .int .i64 (j : Int) ∧ Aside0 (kq = n - j) ∧ Aside0 (DAt s w a' e' f0 f1 f2 f6 f7 ys [] (.slice A3 l3.length q3) (.slice A4 l4.length q4) (.slice A5 l5.length q5) vr (.slice none 0 0) W') ∧ Aside0 (SL (fun a e => rNum s 0 16777215 a e) s n l8 a3 e3 j ys a' e'))
  case atStart => exact ⟨0, [], _, _, _, rfl, ⟨rfl⟩, D3', Ll1⟩
  case round =>
    obtain ⟨j, ys, vr, a', e', rfl, HJ, HD, HL⟩ := hrel
    clear D3' Ll1
    obtain ⟨A8, q8, rfl⟩ := Kd.R_slice HD.out.r8
    obtain ⟨r0, r1, r2, y0, y1, y2, p3, p5, p7, p8, p9, z7, z8, z9⟩ := HD.out.cells
    by_cases hc : j < n ∧ e' = 0
    · obtain ⟨hj, he⟩ := hc
      have d0 : decide ((j : Int) < (n : Int)) = true := decide_eq_true (by omega)
      subst he
      obtain ⟨gm, hgm⟩ : ∃ gm, gk = gm + 1 := ⟨gk - 1, by have := HJ.out; omega⟩
      have HGM := Aside0.mk hgm
      clear hgm
      obtain ⟨x, ax, ex, hx⟩ := tri ((fun a e => rNum s 0 16777215 a e) a' 0)
      have hx' := hx
      dsimp only at hx'
      have HX := Aside0.mk hx'
      have hbd := rNum_ok (lo := 0) (hi := 16777215) (e := 0) hg HL.out.a0 HL.out.a1 (Int.le_refl 0) (show (0 : Int) ≤ 16777215 by decide)
      rw [hx'] at hbd
      have HN := Aside0.mk (HL.out.next hj hx (Int.le_trans HL.out.a0 hbd.2.2.2.1) hbd.2.2.2.2.1)
      clear hbd
      have HLN : Aside0 (ys.length ≤ 2000) := ⟨by have := HL.out.len; have := HL.out.n2; omega⟩
      have WW : Aside0 (IntKind.i64.wrap ((j : Int) + 1) = ((j + 1 : Nat) : Int)) := ⟨by rw [IntKind.wrap_i64]; have := HL.out.n2; omega⟩
      have n2 := HL.out.n2
      clear hx hx'
      go_wp2_with (first | (go_at_call 19; refine (spNum hk _ HL.out.a0 HL.out.a1 HX.out).mono ?_; rintro r w2 ⟨rfl, hb⟩; have hd := HD.out.below hb; obtain ⟨r0, r1, r2, y0, y1, y2, p3, p5, p7, p8, p9, z7, z8, z9⟩ := hd.cells; have DX := Aside0.mk (hd.rd3 ax ex); clear hd hb) | (at_builtin; refine Kd.R_append (Kd.int .i64) (w0 := _) (w.heap.size + 4) rfl (.tmp 53) (.tmp 55) 32 3 (.int .i64 0) 8 rfl Tryd.underlying32 info3 rfl (by decide) (by decide) (.slice A8 ys.length q8) ys x [.int .i64 x] (fun _ => True) (fun _ => False) rfl (by first | (go_simp; done) | (go_simp; rfl) | rfl) rfl (fun _ hk => hk.elim) (fun _ _ => trivial) DX.out.r8 (Below.refl _ _) ?bS ?bL ?_; (case bS => exact DX.out.size4); (case bL => have := HLN.out; omega); intro v' w5 hR _ hg5 _; obtain ⟨A8', q8', rfl⟩ := Kd.R_slice hR; obtain ⟨hd, cz, fz⟩ := DX.out.app8 hg5 hR; rw [show (ys ++ [x]).length = ys.length + 1 by simp] at hd; have DY := Aside0.mk hd; clear hR hg5 hd))
      have hgk := HGM.out
      subst hgk
      go_roundg gm
      case measure => have := HJ.out; omega
      case rel => exact ⟨j + 1, ys ++ [x], _, ax, ex, by first | rfl | (simp; done) | (rw [WW.out]), ⟨by have := HJ.out; omega⟩, DY, HN⟩
    · obtain ⟨s1, s2, s3⟩ := HL.out.stop hc
      obtain ⟨rfl, rfl, rfl⟩ : l8 = ys ∧ a3 = a' ∧ e3 = e' := ⟨s1.symm, s2.symm, s3.symm⟩
      have hx : (¬ j < n ∧ decide ((j : Int) < (n : Int)) = false) ∨ (j < n ∧ ¬ e3 = 0 ∧ decide ((j : Int) < (n : Int)) = true ∧ (e3 == 0) = false) := by
        by_cases hj : j < n
        · exact .inr ⟨hj, fun he => hc ⟨hj, he⟩, decide_eq_true (by omega), beq_eq_false_iff_ne.mpr (fun he => hc ⟨hj, he⟩)⟩
        · exact .inl ⟨hj, decide_eq_false (by omega)⟩
      clear hc s1 s2 s3
      rcases hx with ⟨hj, d0⟩ | ⟨hj, he, d0, d1⟩
      all_goals
        clear r0 r1 r2 y0 y1 y2 p3 p5 p7 p8 p9 z7 z8 z9
        obtain ⟨r0, r1, r2, y0, y1, y2, p3, p5, p7, p8, p9, z7, z8, z9⟩ :=  HD.out.cells
        go_upto_region 14 with (go_at_call 19; refine (spNum hk _ HS.out.d3.2.1 HS.out.d3.2.2 HS.out.d4.1).mono ?_; rintro r w2 ⟨rfl, hb⟩; have hd := HD.out.below hb; obtain ⟨r0, r1, r2, y0, y1, y2, p3, p5, p7, p8, p9, z7, z8, z9⟩ :=  hd.cells; have D4 := Aside0.mk hd; clear hd hb)
        clear r0 r1 r2 y0 y1 y2 p3 p7 p8 p9 z7 z8 z9
        obtain ⟨Bg4, hBg4⟩ : ∃ B, decide (0 < m ∧ m ≠ l5.length) = B := ⟨_, rfl⟩
        have HBg4 := Aside0.mk hBg4
        go_cut [74] (fun sb wx => sb = .bool Bg4 ∧ Aside0 (DAt s w a4 e4 f0 f1 f2 f6 f7 l8 [] (.slice A3 l3.length q3) (.slice A4 l4.length q4) (.slice A5 l5.length q5) (.slice A8 l8.length q8) (.slice none 0 0) wx))
        case first =>
          by_cases n0 : 0 < m
          · have d0 : decide ((0 : Int) < (m : Int)) = true := decide_eq_true (by omega)
            by_cases n1 : m = l5.length
            · have d1 : ((m : Int) != (l5.length : Int)) = false := by rw [n1]; simp
              have dd : Bg4 = false := by rw [← HBg4.out]; exact decide_eq_false (fun h => h.2 n1)
              clear hBg4 n1
              go_wp2
              go_meet
              exact ⟨by rw [dd], ⟨D4.out.rd3 a4 e4⟩⟩
            · have d1 : ((m : Int) != (l5.length : Int)) = true := by rw [bne_iff_ne]; omega
              have dd : Bg4 = true := by rw [← HBg4.out]; exact decide_eq_true ⟨n0, n1⟩
              clear hBg4 n1
              go_wp2
              go_meet
              exact ⟨by rw [dd], ⟨D4.out.rd3 a4 e4⟩⟩
          · have d0 : decide ((0 : Int) < (m : Int)) = false := decide_eq_false (by omega)
            have dd : Bg4 = false := by rw [← HBg4.out]; exact decide_eq_false (fun h => n0 h.1)
            clear hBg4
            go_wp2
            go_meet
            exact ⟨by rw [dd], ⟨D4.out.rd3 a4 e4⟩⟩
        case rest =>
        obtain ⟨rfl, D5⟩ := hcut
        clear D4
        go_upto_if 74 with (fail)
        go_cut [] (fun wx => Aside0 (DAt s w a4 x4 f0 f1 f2 f6 f7 l8 [] (.slice A3 l3.length q3) (.slice A4 l4.length q4) (.slice A5 l5.length q5) (.slice A8 l8.length q8) (.slice none 0 0) wx))
        case first =>
          obtain ⟨r0, r1, r2, y0, y1, y2, p3, p5, p7, p8, p9, z7, z8, z9⟩ := D5.out.cells
          cases Bg4
          · have hx : e4 = x4 := by rw [← HS.out.g4, if_neg (of_decide_eq_false HBg4.out)]
            subst hx
            go_wp2
            go_meet
            exact ⟨D5.out⟩
          · have hx : (if e4 = 0 then 4 else e4) = x4 := by rw [← HS.out.g4, if_pos (of_decide_eq_true HBg4.out)]
            have HX := Aside0.mk hx
            clear hx
            go_wp2_with (go_at_call 54; refine (spFail hk a4 e4 4 x4 HX.out _).mono ?_; rintro r wf ⟨rfl, hb⟩; have hd := D5.out.below hb; obtain ⟨r0, r1, r2, y0, y1, y2, p3, p5, p7, p8, p9, z7, z8, z9⟩ := hd.cells; have DF := Aside0.mk hd; clear hd hb)
            go_meet
            exact ⟨DF.out.rd3 a4 x4⟩
        case rest =>
        have D5' := hcut
        clear D5
        have Ll2 := Aside0.mk (SL.start HS.out.d4.2.1 HS.out.d4.2.2.1 HS.out.d4.2.2.2 HS.out.d5.1)
        obtain ⟨r0, r1, r2, y0, y1, y2, p3, p5, p7, p8, p9, z7, z8, z9⟩ := D5'.out.cells
        go_wp2
        clear r0 r1 r2 y0 y1 y2 p3 p5 p7 p8 p9 z7 z8 z9
        go_loopg [10] m (fun kq vi W' => ∃ (j : Nat) (ys : List ByteArray) (vr : Value) (a' e' : Int), vi = .int .i64 (j : Int) ∧ Aside0 (kq = m - j) ∧ Aside0 (DAt s w a' e' f0 f1 f2 f6 f7 l8 ys (.slice A3 l3.length q3) (.slice A4 l4.length q4) (.slice A5 l5.length q5) (.slice A8 l8.length q8) vr W') ∧ Aside0 (SL (fun a e => rText s a e) s m l9 a5 e5 j ys a' e'))
        case atStart => exact ⟨0, [], _, _, _, rfl, ⟨rfl⟩, D5', Ll2⟩
        case round =>
          obtain ⟨j, ys, vr, a', e', rfl, HJ, HD, HL⟩ := hrel
          clear D5' Ll2
          obtain ⟨A9, q9, rfl⟩ := Kd.R_slice HD.out.r9
          obtain ⟨r0, r1, r2, y0, y1, y2, p3, p5, p7, p8, p9, z7, z8, z9⟩ := HD.out.cells
          by_cases hc : j < m ∧ e' = 0
          · obtain ⟨hj, he⟩ := hc
            have d0 : decide ((j : Int) < (m : Int)) = true := decide_eq_true (by omega)
            subst he
            obtain ⟨gm, hgm⟩ : ∃ gm, gk = gm + 1 := ⟨gk - 1, by have := HJ.out; omega⟩
            have HGM := Aside0.mk hgm
            clear hgm
            obtain ⟨x, ax, ex, hx⟩ := tri ((fun a e => rText s a e) a' 0)
            have hx' := hx
            dsimp only at hx'
            have HX := Aside0.mk hx'
            have hbd := rText_ok (e := 0) hg HL.out.a0 HL.out.a1
            rw [hx'] at hbd
            have HN := Aside0.mk (HL.out.next hj hx (Int.le_trans HL.out.a0 hbd.1) hbd.2.1)
            clear hbd
            have HLN : Aside0 (ys.length ≤ 2000) := ⟨by have := HL.out.len; have := HL.out.n2; omega⟩
            have WW : Aside0 (IntKind.i64.wrap ((j : Int) + 1) = ((j + 1 : Nat) : Int)) := ⟨by rw [IntKind.wrap_i64]; have := HL.out.n2; omega⟩
            have n2 := HL.out.n2
            clear hx hx'
            go_wp2_with (first | (go_at_call 57; refine (spText hk _ HL.out.a0 HL.out.a1 HX.out).mono ?_; rintro r w2 ⟨rfl, hb⟩; have hd := HD.out.below hb; obtain ⟨r0, r1, r2, y0, y1, y2, p3, p5, p7, p8, p9, z7, z8, z9⟩ := hd.cells; have DX := Aside0.mk (hd.rd3 ax ex); clear hd hb) | (at_builtin; refine Kd.R_append Kd.string (w0 := _) (w.heap.size + 4) rfl (.tmp 93) (.tmp 95) 36 9 (.string ⟨#[]⟩) 16 rfl Tryd.underlying36 info9 rfl (by decide) (by decide) (.slice A9 ys.length q9) ys x [.string x] (fun _ => True) (fun _ => False) rfl (by first | (go_simp; done) | (go_simp; rfl) | rfl) rfl (fun _ hk => hk.elim) (fun _ _ => trivial) DX.out.r9 (Below.refl _ _) ?bS ?bL ?_; (case bS => exact DX.out.size4); (case bL => have := HLN.out; omega); intro v' w5 hR _ hg5 _; obtain ⟨A9', q9', rfl⟩ := Kd.R_slice hR; obtain ⟨hd, cz, fz⟩ := DX.out.app9 hg5 hR; rw [show (ys ++ [x]).length = ys.length + 1 by simp] at hd; have DY := Aside0.mk hd; clear hR hg5 hd))
            have hgk := HGM.out
            subst hgk
            go_roundg gm
            case measure => have := HJ.out; omega
            case rel => exact ⟨j + 1, ys ++ [x], _, ax, ex, by first | rfl | (simp; done) | (rw [WW.out]), ⟨by have := HJ.out; omega⟩, DY, HN⟩
          · obtain ⟨s1, s2, s3⟩ := HL.out.stop hc
            obtain ⟨rfl, rfl, rfl⟩ : l9 = ys ∧ a5 = a' ∧ e5 = e' := ⟨s1.symm, s2.symm, s3.symm⟩
            have hx : (¬ j < m ∧ decide ((j : Int) < (m : Int)) = false) ∨ (j < m ∧ ¬ e5 = 0 ∧ decide ((j : Int) < (m : Int)) = true ∧ (e5 == 0) = false) := by
              by_cases hj : j < m
              · exact .inr ⟨hj, fun he => hc ⟨hj, he⟩, decide_eq_true (by omega), beq_eq_false_iff_ne.mpr (fun he => hc ⟨hj, he⟩)⟩
              · exact .inl ⟨hj, decide_eq_false (by omega)⟩
            clear hc s1 s2 s3
            rcases hx with ⟨hj, d0⟩ | ⟨hj, he, d0, d1⟩
            all_goals
              clear r0 r1 r2 y0 y1 y2 p3 p5 p7 p8 p9 z7 z8 z9
              obtain ⟨r0, r1, r2, y0, y1, y2, _, _, _, _, _, _, _, _⟩ := HD.out.cells
              obtain ⟨p0, p1, p2, p3, p4, p5, p6, p7, p8, p9, k0, k1, k2, k3, k4, k5, k6, k7, k8, k9, i0, i1, i2, i3, i4, i5, i6, i7, i8, i9, g0, g1, g2, t0, t1, t2⟩ := HD.out.cells2
              obtain ⟨bb, hbb⟩ : ∃ bb, bareB f7 l8 l9 = bb := ⟨_, rfl⟩
              have HBB := Aside0.mk hbb
              have Z3 := Aside0.mk (Kd.C_below c3.out HD.out.bel)
              have Z4 := Aside0.mk (Kd.C_below c4.out HD.out.bel)
              have Z5 := Aside0.mk (Kd.C_below c5.out HD.out.bel)
              have Z8 := Aside0.mk (Kd.R_reads' HD.out.r8).2
              have Z9 := Aside0.mk (Kd.R_reads' HD.out.r9).2
              clear hbb
              cases bb
              · obtain rfl : e5 = E := by rw [← HE.out, HBB.out]; rfl
                go_wp2_with (go_at_call 58; refine (spec_l3Bare.calls f0 f1 f2 A3 q3 l3 A4 q4 l4 A5 q5 l5 f6 f7 A8 q8 l8 A9 q9 l9 false _ Z3.out L3 Z4.out L4 Z5.out L5 Z8.out.2 Z8.out.1 Z9.out.2 Z9.out.1 (sbare_eq HBB.out)).mono ?_; rintro r w7 ⟨rfl, hb⟩; have hd := HD.out.below hb; have D7 := Aside0.mk hd; clear r0 r1 r2 y0 y1 y2 p0 p1 p2 p3 p4 p5 p6 p7 p8 p9 k0 k1 k2 k3 k4 k5 k6 k7 k8 k9 i0 i1 i2 i3 i4 i5 i6 i7 i8 i9 g0 g1 g2 t0 t1 t2; obtain ⟨r0, r1, r2, y0, y1, y2, _, _, _, _, _, _, _, _⟩ := hd.cells; obtain ⟨p0, p1, p2, p3, p4, p5, p6, p7, p8, p9, k0, k1, k2, k3, k4, k5, k6, k7, k8, k9, i0, i1, i2, i3, i4, i5, i6, i7, i8, i9, g0, g1, g2, t0, t1, t2⟩ := hd.cells2; clear hd hb)
                go_region_with_o (fail)
                all_goals
                  go_wp2
                  first
                    | (obtain ⟨W', eW, hP, hR, x8, x9, hB⟩ := D7.out.finP; rw [← eW]; exact bodyPost_ret (results_cc rfl _ _ (w.heap.size + 1 + 1) (w.heap.size + 1 + 1 + 1) 38 31 _ _ (0, 0) (0, 0) _ _ rfl hP hu38 rfl (by kernel_rfl) rfl hR hu31 rfl (by kernel_rfl)) rfl ⟨_, _, rfl, Kd.R_drew x8, Kd.R_drew x9, below_drew1 hB⟩)
                    | (obtain ⟨W', eW, hP, hR, x8, x9, hB⟩ := D7.out.finR; rw [← eW]; exact bodyPost_ret (results_cc rfl _ _ (w.heap.size + 1 + 1) (w.heap.size + 1 + 1 + 1) 38 31 _ _ (0, 0) (0, 0) _ _ rfl hP hu38 rfl (by kernel_rfl) rfl hR hu31 rfl (by kernel_rfl)) rfl ⟨_, _, rfl, Kd.R_drew x8, Kd.R_drew x9, below_drew1 hB⟩)
              · have HX : Aside0 ((if e5 = 0 then 3 else e5) = E) := ⟨by rw [← HE.out, HBB.out]; rfl⟩
                go_wp2_with (first | (go_at_call 58; refine (spec_l3Bare.calls f0 f1 f2 A3 q3 l3 A4 q4 l4 A5 q5 l5 f6 f7 A8 q8 l8 A9 q9 l9 true _ Z3.out L3 Z4.out L4 Z5.out L5 Z8.out.2 Z8.out.1 Z9.out.2 Z9.out.1 (sbare_eq HBB.out)).mono ?_; rintro r w7 ⟨rfl, hb⟩; have hd := HD.out.below hb; have D7 := Aside0.mk hd; clear r0 r1 r2 y0 y1 y2 p0 p1 p2 p3 p4 p5 p6 p7 p8 p9 k0 k1 k2 k3 k4 k5 k6 k7 k8 k9 i0 i1 i2 i3 i4 i5 i6 i7 i8 i9 g0 g1 g2 t0 t1 t2; obtain ⟨r0, r1, r2, y0, y1, y2, _, _, _, _, _, _, _, _⟩ := hd.cells; obtain ⟨p0, p1, p2, p3, p4, p5, p6, p7, p8, p9, k0, k1, k2, k3, k4, k5, k6, k7, k8, k9, i0, i1, i2, i3, i4, i5, i6, i7, i8, i9, g0, g1, g2, t0, t1, t2⟩ := hd.cells2; clear hd hb) | (go_at_call 54; refine (spFail hk a5 e5 3 E HX.out _).mono ?_; rintro r w8 ⟨rfl, hb⟩; have hd := D7.out.below hb; clear r0 r1 r2 y0 y1 y2 p0 p1 p2 p3 p4 p5 p6 p7 p8 p9 k0 k1 k2 k3 k4 k5 k6 k7 k8 k9 i0 i1 i2 i3 i4 i5 i6 i7 i8 i9 g0 g1 g2 t0 t1 t2; obtain ⟨r0, r1, r2, y0, y1, y2, _, _, _, _, _, _, _, _⟩ := hd.cells; obtain ⟨p0, p1, p2, p3, p4, p5, p6, p7, p8, p9, k0, k1, k2, k3, k4, k5, k6, k7, k8, k9, i0, i1, i2, i3, i4, i5, i6, i7, i8, i9, g0, g1, g2, t0, t1, t2⟩ := hd.cells2; have D8 := Aside0.mk (hd.rd3 a5 E); clear hd hb))
                go_region_with_o (fail)
                all_goals
                  go_wp2
                  first
                    | (obtain ⟨W', eW, hP, hR, x8, x9, hB⟩ := D8.out.finP; rw [← eW]; exact bodyPost_ret (results_cc rfl _ _ (w.heap.size + 1 + 1) (w.heap.size + 1 + 1 + 1) 38 31 _ _ (0, 0) (0, 0) _ _ rfl hP hu38 rfl (by kernel_rfl) rfl hR hu31 rfl (by kernel_rfl)) rfl ⟨_, _, rfl, Kd.R_drew x8, Kd.R_drew x9, below_drew1 hB⟩)
                    | (obtain ⟨W', eW, hP, hR, x8, x9, hB⟩ := D8.out.finR; rw [← eW]; exact bodyPost_ret (results_cc rfl _ _ (w.heap.size + 1 + 1) (w.heap.size + 1 + 1 + 1) 38 31 _ _ (0, 0) (0, 0) _ _ rfl hP hu38 rfl (by kernel_rfl) rfl hR hu31 rfl (by kernel_rfl)) rfl ⟨_, _, rfl, Kd.R_drew x8, Kd.R_drew x9, below_drew1 hB⟩)
end Go.Proofs.YtiekodnojmkfaaaDoor.PFnExactLoad
