import Derived.Tactics2
import Derived.Deep.DeepCutAuto
import Derived.Deep.CutBlock
import Derived.Shelf.RegionOpenPlain
import Derived.Shelf.Abstract
import Derived.Shelf.RegionOpen
import Derived.WalkKit
import Derived.OwnWalkIn
import Derived.TacticsInMore
import Derived.LoopNIn
import Derived.LoopIn
import Derived.Laws.EntriesVeiled
import Derived.LoopN
import Derived.WalkLawsBesides
import Derived.Test.YtiekodnojmkfaaaDoorLe
import Derived.Test.YtiekodnojmkfaaaDoorLf
namespace Go.Proofs.YtiekodnojmkfaaaDoor.PFnExactLoad
open Go.RowKit Go.Proofs.YtiekodnojmkfaaaDoorW.PrintWords Go.Proofs.YtiekodnojmkfaaaDoorW.PrintLast Go.Proofs.YtiekodnojmkfaaaDoorW.PrintMore
attribute [local go_sem] max2_int min2_int max_two min_two max_three min_three max_four min_four
set_option linter.unusedVariables false
set_option linter.unusedSimpArgs false
def sq19_T19 : Bool × List (List Nat × List Nat) := (true, [([], []), ([0], [0]), ([], []), ([2], [2]), ([3], [3]), ([], []), ([5], [5]), ([6], [6]), ([7], [7]), ([4, 8], [4, 8]), ([], []), ([10], [10]), ([11], [11]), ([12], [12]), ([9, 13], [9, 13]), ([], []), ([15], [15]), ([16], [16]), ([17], [17]), ([14, 18], [14, 18]), ([19], [19]), ([1, 20], [1, 20]), ([0, 1, 2, 3, 4, 5, 6, 7, 8, 9, 10, 11, 12, 13, 14, 15, 16, 17, 18, 19, 20, 21], []), ([22, 21, 21, 0, 1, 2, 3, 4, 5, 6, 7, 8, 9, 10, 11, 12, 13, 14, 15, 16, 17, 18, 19, 20, 21], [21, 22])])
def sq19_B19 : List Nat := [0, 1, 0, 4, 12, 0, 32, 96, 224, 508, 0, 1024, 3072, 7168, 16380, 0, 32768, 98304, 229376, 524284, 1048572, 2097151, 4194303, 8388607]
theorem sq19_tab19 : rtab .any (opsOf Tryd.f9 19) = sq19_T19 := by kernel_rfl
theorem sq19_bits19 : waitsOk sq19_T19.2 sq19_B19 = true := by kernel_rfl
structure SEnd (s : ByteArray) (l3 : List Int) (l4 : List S63) (l5 : List S67) (f0 : Int) (f1 : Bool) (f2 f6 v a11 e11 : Int) (p : S38) (a' e' : Int) : Prop where
  len : l3.length ≤ 2000 ∧ l5.length ≤ 2000
  no : ¬ v = 1 → p = ⟨f0, f1, f2, l3, l4, l5, f6, ⟨#[]⟩, [], []⟩ ∧ a' = a11 ∧ e' = e11
  yes : v = 1 → ∃ f7 l8 l9 b1 c1 n2 b2 c2 x2 b3 c3 n4 b4 c4 x4 c5, SDebug s l3.length l5.length a11 e11 f7 l8 l9 b1 c1 n2 b2 c2 x2 b3 c3 n4 b4 c4 x4 a' c5 ∧ (if bareB f7 l8 l9 = true then (if c5 = 0 then 3 else c5) else c5) = e' ∧ p = ⟨f0, f1, f2, l3, l4, l5, f6, f7, l8, l9⟩
set_option maxRecDepth 100000 in
set_option maxHeartbeats 32000000 in
theorem spProto0 {k : Nat} {s : ByteArray} (hk : SpOk k s) (hg : GvOk s) (hz : s.size ≤ 140737488351232) (kids a e : Int) (f0 f2 : Int) (l3 : List Int) (l4 : List S63) (l5 : List S67) (f6 : Int) (v a11 e11 v1 a1 e1 a2 e2 a3 e3 : Int) (n4 : Nat) (a4 e4 a5 e5 : Int) (n6 : Nat) (a6 e6 a7 e7 : Int) (n8 : Nat) (a8 e8 a9 e9 a10 e10 : Int) (w : World)
    (hS : SHead k s kids a e f0 f2 l3 l4 l5 f6 v a11 e11 v1 a1 e1 a2 e2 a3 e3 n4 a4 e4 a5 e5 n6 a6 e6 a7 e7 n8 a8 e8 a9 e9 a10 e10) (p : S38) (a' e' : Int) (hP : SEnd s l3 l4 l5 f0 (v1 == 1) f2 f6 v a11 e11 p a' e') :
    Calls Tryd.prog 9 #[.agg #[.string s, .int .i64 a, .int .i64 e], .int .i64 kids] w fun r w' =>
      ∃ v3 v4 v5 v8 v9, r = .returned (.tuple #[.agg #[.int .i64 p.f0, .bool p.f1, .int .i64 p.f2, v3, v4, v5, .int .i64 p.f6, .string p.f7, v8, v9], .agg #[.string s, .int .i64 a', .int .i64 e']]) ∧ (Kd.int .u32).R 61 w' w.heap.size (fun _ => True) v3 p.f3 ∧ k63.R 63 w' w.heap.size (fun _ => True) v4 p.f4 ∧ k67.R 67 w' w.heap.size (fun _ => True) v5 p.f5 ∧ (Kd.int .i64).R 3 w' w.heap.size (fun _ => True) v8 p.f8 ∧ Kd.string.R 9 w' w.heap.size (fun _ => True) v9 p.f9 ∧ Below w.heap.size w w' := by
  have hu31 := Tryd.underlying31
  have hu38 := Tryd.underlying38
  have hu63 := Tryd.underlying63
  have hmix : Tryd.prog.follows .mixedOrders = true := by kernel_rfl
  have D0 := Aside0.mk (QAt.start (s := s) (w := w) (a := a) (e := e))
  have HS := Aside0.mk hS
  have HP := Aside0.mk hP
  clear hS hP
  go_enter Tryd.func9, Tryd.ntmps9
  go_upto_if 33 with (first | (go_at_call 18; refine (spByte hk _ HS.out.h0.1 HS.out.h0.2 HS.out.h1.1).mono ?_; rintro r w1 ⟨rfl, hb⟩; have hd := D0.out.below hb; obtain ⟨r0, r1, r2, y0, y1, y2, p0, p1, p2, p3, p4, p5, p6, p7, p8, p9, z0, z1, z2, z3, z4, z5, z6, z7, z8, z9⟩ := hd.cells; have D1 := Aside0.mk (hd.rd3 a1 e1); clear hd hb D0) | (go_at_call 19; refine (spNum hk _ HS.out.h1.2.1 HS.out.h1.2.2 HS.out.h2.1).mono ?_; rintro r w2 ⟨rfl, hb⟩; have hd := (D1.out.set1 (v1 == 1)).below hb; clear r0 r1 r2 y0 y1 y2 p0 p1 p2 p3 p4 p5 p6 p7 p8 p9 z0 z1 z2 z3 z4 z5 z6 z7 z8 z9; obtain ⟨r0, r1, r2, y0, y1, y2, p0, p1, p2, p3, p4, p5, p6, p7, p8, p9, z0, z1, z2, z3, z4, z5, z6, z7, z8, z9⟩ := hd.cells; have D2 := Aside0.mk ((hd.rd3 a2 e2).set0 f0); clear hd hb D1))
  clear r0 r1 r2 y0 y1 y2 p0 p1 p2 p3 p4 p5 p6 p7 p8 p9 z0 z1 z2 z3 z4 z5 z6 z7 z8 z9
  obtain ⟨M, hM⟩ : ∃ M, (if 1 < f0 then f0 else 1) = M := ⟨_, rfl⟩
  have HM := Aside0.mk hM
  clear hM
  go_cut [10] (fun s10 wx => s10 = .int .i64 M ∧ Aside0 (QAt s w a2 e2 f0 (v1 == 1) 0 0 [] [] [] (.slice none 0 0) (.slice none 0 0) (.slice none 0 0) wx))
  case first =>
    by_cases h1 : 1 < f0
    · have d0 : decide (1 < f0) = true := decide_eq_true h1
      have hm : f0 = M := by rw [← HM.out, if_pos h1]
      have HMM := Aside0.mk hm
      clear hm
      go_wp2
      go_meet
      exact ⟨by rw [HMM.out], D2⟩
    · have d0 : decide (1 < f0) = false := decide_eq_false h1
      have hm : 1 = M := by rw [← HM.out, if_neg h1]
      have HMM := Aside0.mk hm
      clear hm
      go_wp2
      go_meet
      exact ⟨by rw [HMM.out], D2⟩
  case rest =>
  obtain ⟨rfl, D3⟩ := hcut
  clear D2
  have H3 : Aside0 (rNum s M 250 a2 e2 = (f2, a3, e3)) := ⟨by rw [← HM.out]; exact HS.out.h3.1⟩
  obtain ⟨r0, r1, r2, y0, y1, y2, p0, p1, p2, p3, p4, p5, p6, p7, p8, p9, z0, z1, z2, z3, z4, z5, z6, z7, z8, z9⟩ := D3.out.cells
  go_upto_block 0 with (first | (go_at_call 19; have hq := D3; clear hq; refine (spNum hk _ HS.out.h2.2.1 HS.out.h2.2.2 H3.out).mono ?_; rintro r w3 ⟨rfl, hb⟩; have hd := D3.out.below hb; clear r0 r1 r2 y0 y1 y2 p0 p1 p2 p3 p4 p5 p6 p7 p8 p9 z0 z1 z2 z3 z4 z5 z6 z7 z8 z9; obtain ⟨r0, r1, r2, y0, y1, y2, p0, p1, p2, p3, p4, p5, p6, p7, p8, p9, z0, z1, z2, z3, z4, z5, z6, z7, z8, z9⟩ := hd.cells; have D4 := Aside0.mk ((hd.rd3 a3 e3).set2 f2); clear hd hb D3) | (go_at_call 19; have hq := D4; clear hq; refine (spNum hk _ HS.out.h3.2.1 HS.out.h3.2.2 HS.out.h4.1).mono ?_; rintro r w4 ⟨rfl, hb⟩; have hd := D4.out.below hb; clear r0 r1 r2 y0 y1 y2 p0 p1 p2 p3 p4 p5 p6 p7 p8 p9 z0 z1 z2 z3 z4 z5 z6 z7 z8 z9; obtain ⟨r0, r1, r2, y0, y1, y2, p0, p1, p2, p3, p4, p5, p6, p7, p8, p9, z0, z1, z2, z3, z4, z5, z6, z7, z8, z9⟩ := hd.cells; have D5 := Aside0.mk (hd.rd3 a4 e4); clear hd hb D4))
  clear r0 r1 r2 y0 y1 y2 p0 p1 p2 p3 p4 p5 p6 p7 p8 p9 z0 z1 z2 z3 z4 z5 z6 z7 z8 z9
  go_cut [] (fun wx => ∃ va : Value, Aside0 (QAt s w a5 e5 f0 (v1 == 1) f2 0 l3 [] [] va (.slice none 0 0) (.slice none 0 0) wx))
  case first =>
    go_wp2_with (fail)
    go_loopg [11] n4 (fun kq vi W' => ∃ (j : Nat) (ys : List Int) (vr : Value) (a' e' : Int), vi = .int .i64 (j : Int) ∧ Aside0 (kq = n4 - j) ∧ Aside0 (QAt s w a' e' f0 (v1 == 1) f2 0 ys [] [] vr (.slice none 0 0) (.slice none 0 0) W') ∧ Aside0 (SW s n4 l3 a5 e5 j ys a' e'))
    case atStart => exact ⟨0, [], _, _, _, rfl, ⟨by omega⟩, D5, ⟨SW.start HS.out.h4.2.1 HS.out.h4.2.2.1 HS.out.h4.2.2.2 HS.out.h5.1⟩⟩
    case round =>
      obtain ⟨j, ys, vr, a', e', rfl, HJ, HD, HL⟩ := hrel
      clear D5
      obtain ⟨A3, q3, rfl⟩ := Kd.R_slice HD.out.r3
      obtain ⟨r0, r1, r2, y0, y1, y2, p0, p1, p2, p3, p4, p5, p6, p7, p8, p9, z0, z1, z2, z3, z4, z5, z6, z7, z8, z9⟩ := HD.out.cells
      by_cases hc : j < n4 ∧ e' = 0
      · obtain ⟨hj, he⟩ := hc
        have d0 : decide ((j : Int) < (n4 : Int)) = true := decide_eq_true (by omega)
        subst he
        obtain ⟨gm, hgm⟩ : ∃ gm, gk = gm + 1 := ⟨gk - 1, by have := HJ.out; omega⟩
        have HGM := Aside0.mk hgm
        clear hgm
        obtain ⟨x, ax, ex, hx⟩ := tri (rBytes s 4 a' 0)
        obtain ⟨hb1, hb2, _, hb4, _⟩ := rBytes_ok (n := 4) (e := 0) (by decide) HL.out.a0 HL.out.a1
        rw [hx] at hb1 hb2 hb4
        have HX := Aside0.mk hx
        have hb0 : 0 ≤ ax := Int.le_trans HL.out.a0 hb1
        have HLN : Aside0 (ys.length ≤ 2000) := ⟨by have := HL.out.len; have := HL.out.n2; omega⟩
        have WW : Aside0 (IntKind.i64.wrap ((j : Int) + 1) = ((j + 1 : Nat) : Int)) := ⟨by rw [IntKind.wrap_i64]; have := HL.out.n2; omega⟩
        have n2 := HL.out.n2
        by_cases hE : ex = 0
        · subst hE
          have HN := Aside0.mk (HL.out.next hj hx hb0 hb2)
          have hz4 : x.size = 4 := hb4 rfl
          have t0 : 0 < x.size := by omega
          have t1 : 1 < x.size := by omega
          have t2 : 2 < x.size := by omega
          have t3 : 3 < x.size := by omega
          clear hx hb1 hb2 hb4 hb0
          go_wp2_with (go_at_call 20; refine (spBytes hk _ (by decide) (by decide) HL.out.a0 HL.out.a1 HX.out).mono ?_; rintro r w2 ⟨rfl, hb⟩; have hd := HD.out.below hb; clear r0 r1 r2 y0 y1 y2 p0 p1 p2 p3 p4 p5 p6 p7 p8 p9 z0 z1 z2 z3 z4 z5 z6 z7 z8 z9; obtain ⟨r0, r1, r2, y0, y1, y2, p0, p1, p2, p3, p4, p5, p6, p7, p8, p9, z0, z1, z2, z3, z4, z5, z6, z7, z8, z9⟩ := hd.cells; have DX := Aside0.mk (hd.rd3 ax 0); clear hd hb)
          have q0_ := eq_true t0
          have qi0_ : (0 < (x.size : Int)) = True := eq_true (by omega)
          have hx0_ : ∀ h : 0 < x.size, ((x[0]'h).toNat : Int) = bt x 0 := bt_at x 0
          have q1_ := eq_true t1
          have qi1_ : (1 < (x.size : Int)) = True := eq_true (by omega)
          have hx1_ : ∀ h : 1 < x.size, ((x[1]'h).toNat : Int) = bt x 1 := bt_at x 1
          have q2_ := eq_true t2
          have qi2_ : (2 < (x.size : Int)) = True := eq_true (by omega)
          have hx2_ : ∀ h : 2 < x.size, ((x[2]'h).toNat : Int) = bt x 2 := bt_at x 2
          have q3_ := eq_true t3
          have qi3_ : (3 < (x.size : Int)) = True := eq_true (by omega)
          have hx3_ : ∀ h : 3 < x.size, ((x[3]'h).toNat : Int) = bt x 3 := bt_at x 3
          clear r0 r1 r2 y0 y1 y2 p0 p1 p2 p3 p4 p5 p6 p7 p8 p9 z0 z1 z2 z3 z4 z5 z6 z7 z8 z9
          have HB6 := Aside0.mk DX.out.b6
          refine start_ (n := 24) (S := fun w' => w'.cell? ⟨(w.heap.size + 1 + 1 + 1), 0, none⟩ = some (.int .i64 f0) ∧ w'.cell? ⟨(w.heap.size + 1 + 1 + 1), 1, none⟩ = some (.bool (v1 == 1)) ∧ w'.cell? ⟨(w.heap.size + 1 + 1 + 1), 2, none⟩ = some (.int .i64 f2) ∧ w'.cell? ⟨(w.heap.size + 1 + 1 + 1), 3, none⟩ = some ((.slice A3 ys.length q3 : Value)) ∧ w'.cell? ⟨(w.heap.size + 1 + 1 + 1), 4, none⟩ = some (.slice none 0 0) ∧ w'.cell? ⟨(w.heap.size + 1 + 1 + 1), 5, none⟩ = some (.slice none 0 0) ∧ w'.cell? ⟨(w.heap.size + 1 + 1 + 1), 6, none⟩ = some (.int .i64 0) ∧ w'.cell? ⟨(w.heap.size + 1 + 1 + 1), 7, none⟩ = some (.string (⟨#[]⟩ : ByteArray)) ∧ w'.cell? ⟨(w.heap.size + 1 + 1 + 1), 8, none⟩ = some (.slice none 0 0) ∧ w'.cell? ⟨(w.heap.size + 1 + 1 + 1), 9, none⟩ = some (.slice none 0 0)) (ds := [23]) #[false, false, false, false, false, false, false, false, false, false, false, false, false, false, false, false, false, false, false, false, false, false, false, false] (by kernel_rfl) rfl rfl ⟨(blk_cell HB6.out 0).trans rfl, (blk_cell HB6.out 1).trans rfl, (blk_cell HB6.out 2).trans rfl, (blk_cell HB6.out 3).trans rfl, (blk_cell HB6.out 4).trans rfl, (blk_cell HB6.out 5).trans rfl, (blk_cell HB6.out 6).trans rfl, (blk_cell HB6.out 7).trans rfl, (blk_cell HB6.out 8).trans rfl, (blk_cell HB6.out 9).trans rfl⟩ (fun hHeld => ?_); refine with_tabW sq19_tab19 sq19_bits19 (fun HT_ HW_ => ?_)
          have DR := Aside0.mk (DX.out.below (below_drew1 (Below.refl _ _)))
          clear DX HB6
          generalize hWW : World.drew _ = w61 at hHeld DR ⊢
          clear hWW
          have HB6 := Aside0.mk DR.out.b6
          refine pure_ (i := 0) (N := some 66) (v := ?_) (a' := ?_) #[true, false, false, false, false, false, false, false, false, false, false, false, false, false, false, false, false, false, false, false, false, false, false, false] rfl rfl (any_of HT_.out (by kernel_rfl)) (fun _ _ _ h => h) (Or.inl ⟨by rfl, ?_⟩) ?_ ?_
          rotate_left
          · intro w'
            go_simp
            with_reducible rfl
          rotate_left
          · simp only [Act.put, List.setIfInBounds_toArray, List.set_cons_zero, List.set_cons_succ, i64_w, i32_w]
            rfl
          refine pure_ (i := 2) (N := some 68) (v := ?_) (a' := ?_) #[true, false, true, false, false, false, false, false, false, false, false, false, false, false, false, false, false, false, false, false, false, false, false, false] rfl rfl (any_of HT_.out (by kernel_rfl)) (fun _ _ _ h => h) (Or.inl ⟨by rfl, ?_⟩) ?_ ?_
          rotate_left
          · intro w'
            go_simp
            with_reducible rfl
          rotate_left
          · simp only [Act.put, List.setIfInBounds_toArray, List.set_cons_zero, List.set_cons_succ, i64_w, i32_w]
            rfl
          refine pure_ (i := 5) (N := some 71) (v := ?_) (a' := ?_) #[true, false, true, false, false, true, false, false, false, false, false, false, false, false, false, false, false, false, false, false, false, false, false, false] rfl rfl (any_of HT_.out (by kernel_rfl)) (fun _ _ _ h => h) (Or.inl ⟨by rfl, ?_⟩) ?_ ?_
          rotate_left
          · intro w'
            go_simp
            with_reducible rfl
          rotate_left
          · simp only [Act.put, List.setIfInBounds_toArray, List.set_cons_zero, List.set_cons_succ, i64_w, i32_w]
            rfl
          refine pure_ (i := 10) (N := some 76) (v := ?_) (a' := ?_) #[true, false, true, false, false, true, false, false, false, false, true, false, false, false, false, false, false, false, false, false, false, false, false, false] rfl rfl (any_of HT_.out (by kernel_rfl)) (fun _ _ _ h => h) (Or.inl ⟨by rfl, ?_⟩) ?_ ?_
          rotate_left
          · intro w'
            go_simp
            with_reducible rfl
          rotate_left
          · simp only [Act.put, List.setIfInBounds_toArray, List.set_cons_zero, List.set_cons_succ, i64_w, i32_w]
            rfl
          refine pure_ (i := 15) (N := some 81) (v := ?_) (a' := ?_) #[true, false, true, false, false, true, false, false, false, false, true, false, false, false, false, true, false, false, false, false, false, false, false, false] rfl rfl (any_of HT_.out (by kernel_rfl)) (fun _ _ _ h => h) (Or.inl ⟨by rfl, ?_⟩) ?_ ?_
          rotate_left
          · intro w'
            go_simp
            with_reducible rfl
          rotate_left
          · simp only [Act.put, List.setIfInBounds_toArray, List.set_cons_zero, List.set_cons_succ, i64_w, i32_w]
            rfl
          refine take_ (i := 1) (N := some 67) (v := ?_) (a' := ?_) #[true, true, true, false, false, true, false, false, false, false, true, false, false, false, false, true, false, false, false, false, false, false, false, false] rfl rfl (take_ofW HT_.out HW_.out (by kernel_rfl)) (fun _ _ _ h => h) (Or.inl ⟨by rfl, ?_⟩) hHeld ?_ ?_
          rotate_left
          · rintro w' ⟨s0, s1, s2, s3, s4, s5, s6, s7, s8, s9⟩
            go_simp
            with_reducible rfl
          rotate_left
          · simp only [Act.put, List.setIfInBounds_toArray, List.set_cons_zero, List.set_cons_succ, i64_w, i32_w]
            rfl
          refine take_ (i := 3) (N := some 69) (v := ?_) (a' := ?_) #[true, true, true, true, false, true, false, false, false, false, true, false, false, false, false, true, false, false, false, false, false, false, false, false] rfl rfl (take_ofW HT_.out HW_.out (by kernel_rfl)) (fun _ _ _ h => h) (Or.inl ⟨by rfl, ?_⟩) hHeld ?_ ?_
          rotate_left
          · rintro w' ⟨s0, s1, s2, s3, s4, s5, s6, s7, s8, s9⟩
            go_simp
            with_reducible rfl
          rotate_left
          · simp only [Act.put, List.setIfInBounds_toArray, List.set_cons_zero, List.set_cons_succ, i64_w, i32_w]
            rfl
          refine pure_ (i := 4) (N := some 70) (v := ?_) (a' := ?_) #[true, true, true, true, true, true, false, false, false, false, true, false, false, false, false, true, false, false, false, false, false, false, false, false] rfl rfl (any_of HT_.out (by kernel_rfl)) (fun _ _ _ h => h) (Or.inl ⟨by rfl, ?_⟩) ?_ ?_
          rotate_left
          · intro w'
            go_simp
            with_reducible rfl
          rotate_left
          · simp only [Act.put, List.setIfInBounds_toArray, List.set_cons_zero, List.set_cons_succ, i64_w, i32_w]
            rfl
          refine take_ (i := 6) (N := some 72) (v := ?_) (a' := ?_) #[true, true, true, true, true, true, true, false, false, false, true, false, false, false, false, true, false, false, false, false, false, false, false, false] rfl rfl (take_ofW HT_.out HW_.out (by kernel_rfl)) (fun _ _ _ h => h) (Or.inl ⟨by rfl, ?_⟩) hHeld ?_ ?_
          rotate_left
          · rintro w' ⟨s0, s1, s2, s3, s4, s5, s6, s7, s8, s9⟩
            go_simp
            with_reducible rfl
          rotate_left
          · simp only [Act.put, List.setIfInBounds_toArray, List.set_cons_zero, List.set_cons_succ, i64_w, i32_w]
            rfl
          refine pure_ (i := 7) (N := some 73) (v := ?_) (a' := ?_) #[true, true, true, true, true, true, true, true, false, false, true, false, false, false, false, true, false, false, false, false, false, false, false, false] rfl rfl (any_of HT_.out (by kernel_rfl)) (fun _ _ _ h => h) (Or.inl ⟨by rfl, ?_⟩) ?_ ?_
          rotate_left
          · intro w'
            go_simp
            with_reducible rfl
          rotate_left
          · simp only [Act.put, List.setIfInBounds_toArray, List.set_cons_zero, List.set_cons_succ, i64_w, i32_w]
            rfl
          refine pure_ (i := 8) (N := some 74) (v := ?_) (a' := ?_) #[true, true, true, true, true, true, true, true, true, false, true, false, false, false, false, true, false, false, false, false, false, false, false, false] rfl rfl (any_of HT_.out (by kernel_rfl)) (fun _ _ _ h => h) (Or.inl ⟨by rfl, ?_⟩) ?_ ?_
          rotate_left
          · intro w'
            go_simp
            with_reducible rfl
          rotate_left
          · simp only [Act.put, List.setIfInBounds_toArray, List.set_cons_zero, List.set_cons_succ, i64_w, i32_w]
            rfl
          refine pure_ (i := 9) (N := some 75) (v := ?_) (a' := ?_) #[true, true, true, true, true, true, true, true, true, true, true, false, false, false, false, true, false, false, false, false, false, false, false, false] rfl rfl (any_of HT_.out (by kernel_rfl)) (fun _ _ _ h => h) (Or.inl ⟨by rfl, ?_⟩) ?_ ?_
          rotate_left
          · intro w'
            go_simp
            with_reducible rfl
          rotate_left
          · simp only [Act.put, List.setIfInBounds_toArray, List.set_cons_zero, List.set_cons_succ, i64_w, i32_w]
            rfl
          refine take_ (i := 11) (N := some 77) (v := ?_) (a' := ?_) #[true, true, true, true, true, true, true, true, true, true, true, true, false, false, false, true, false, false, false, false, false, false, false, false] rfl rfl (take_ofW HT_.out HW_.out (by kernel_rfl)) (fun _ _ _ h => h) (Or.inl ⟨by rfl, ?_⟩) hHeld ?_ ?_
          rotate_left
          · rintro w' ⟨s0, s1, s2, s3, s4, s5, s6, s7, s8, s9⟩
            go_simp
            with_reducible rfl
          rotate_left
          · simp only [Act.put, List.setIfInBounds_toArray, List.set_cons_zero, List.set_cons_succ, i64_w, i32_w]
            rfl
          refine pure_ (i := 12) (N := some 78) (v := ?_) (a' := ?_) #[true, true, true, true, true, true, true, true, true, true, true, true, true, false, false, true, false, false, false, false, false, false, false, false] rfl rfl (any_of HT_.out (by kernel_rfl)) (fun _ _ _ h => h) (Or.inl ⟨by rfl, ?_⟩) ?_ ?_
          rotate_left
          · intro w'
            go_simp
            with_reducible rfl
          rotate_left
          · simp only [Act.put, List.setIfInBounds_toArray, List.set_cons_zero, List.set_cons_succ, i64_w, i32_w]
            rfl
          refine pure_ (i := 13) (N := some 79) (v := ?_) (a' := ?_) #[true, true, true, true, true, true, true, true, true, true, true, true, true, true, false, true, false, false, false, false, false, false, false, false] rfl rfl (any_of HT_.out (by kernel_rfl)) (fun _ _ _ h => h) (Or.inl ⟨by rfl, ?_⟩) ?_ ?_
          rotate_left
          · intro w'
            go_simp
            with_reducible rfl
          rotate_left
          · simp only [Act.put, List.setIfInBounds_toArray, List.set_cons_zero, List.set_cons_succ, i64_w, i32_w]
            rfl
          refine pure_ (i := 14) (N := some 80) (v := ?_) (a' := ?_) #[true, true, true, true, true, true, true, true, true, true, true, true, true, true, true, true, false, false, false, false, false, false, false, false] rfl rfl (any_of HT_.out (by kernel_rfl)) (fun _ _ _ h => h) (Or.inl ⟨by rfl, ?_⟩) ?_ ?_
          rotate_left
          · intro w'
            go_simp
            with_reducible rfl
          rotate_left
          · simp only [Act.put, List.setIfInBounds_toArray, List.set_cons_zero, List.set_cons_succ, i64_w, i32_w]
            rfl
          refine take_ (i := 16) (N := some 82) (v := ?_) (a' := ?_) #[true, true, true, true, true, true, true, true, true, true, true, true, true, true, true, true, true, false, false, false, false, false, false, false] rfl rfl (take_ofW HT_.out HW_.out (by kernel_rfl)) (fun _ _ _ h => h) (Or.inl ⟨by rfl, ?_⟩) hHeld ?_ ?_
          rotate_left
          · rintro w' ⟨s0, s1, s2, s3, s4, s5, s6, s7, s8, s9⟩
            go_simp
            with_reducible rfl
          rotate_left
          · simp only [Act.put, List.setIfInBounds_toArray, List.set_cons_zero, List.set_cons_succ, i64_w, i32_w]
            rfl
          refine pure_ (i := 17) (N := some 83) (v := ?_) (a' := ?_) #[true, true, true, true, true, true, true, true, true, true, true, true, true, true, true, true, true, true, false, false, false, false, false, false] rfl rfl (any_of HT_.out (by kernel_rfl)) (fun _ _ _ h => h) (Or.inl ⟨by rfl, ?_⟩) ?_ ?_
          rotate_left
          · intro w'
            go_simp
            with_reducible rfl
          rotate_left
          · simp only [Act.put, List.setIfInBounds_toArray, List.set_cons_zero, List.set_cons_succ, i64_w, i32_w]
            rfl
          refine pure_ (i := 18) (N := some 84) (v := ?_) (a' := ?_) #[true, true, true, true, true, true, true, true, true, true, true, true, true, true, true, true, true, true, true, false, false, false, false, false] rfl rfl (any_of HT_.out (by kernel_rfl)) (fun _ _ _ h => h) (Or.inl ⟨by rfl, ?_⟩) ?_ ?_
          rotate_left
          · intro w'
            go_simp
            with_reducible rfl
          rotate_left
          · simp only [Act.put, List.setIfInBounds_toArray, List.set_cons_zero, List.set_cons_succ, i64_w, i32_w]
            rfl
          refine pure_ (i := 19) (N := some 85) (v := ?_) (a' := ?_) #[true, true, true, true, true, true, true, true, true, true, true, true, true, true, true, true, true, true, true, true, false, false, false, false] rfl rfl (any_of HT_.out (by kernel_rfl)) (fun _ _ _ h => h) (Or.inl ⟨by rfl, ?_⟩) ?_ ?_
          rotate_left
          · intro w'
            go_simp
            with_reducible rfl
          rotate_left
          · simp only [Act.put, List.setIfInBounds_toArray, List.set_cons_zero, List.set_cons_succ, i64_w, i32_w]
            rfl
          refine one_ (i := 20) (N := some 86) #[true, true, true, true, true, true, true, true, true, true, true, true, true, true, true, true, true, true, true, true, true, false, false, false] rfl rfl (one_of HT_.out (by kernel_rfl)) (by decide) (fun K hK => ?_)
          refine value_ (w1 := ?_) (v := ?_) (by rfl) rfl ?_ ?_
          rotate_left 2
          · go_simp
            constructor
            · rfl
            · rfl
          refine hK.out _ _ ⟨(blk_cell (blk_alloc HB6.out _) 0).trans rfl, (blk_cell (blk_alloc HB6.out _) 1).trans rfl, (blk_cell (blk_alloc HB6.out _) 2).trans rfl, (blk_cell (blk_alloc HB6.out _) 3).trans rfl, (blk_cell (blk_alloc HB6.out _) 4).trans rfl, (blk_cell (blk_alloc HB6.out _) 5).trans rfl, (blk_cell (blk_alloc HB6.out _) 6).trans rfl, (blk_cell (blk_alloc HB6.out _) 7).trans rfl, (blk_cell (blk_alloc HB6.out _) 8).trans rfl, (blk_cell (blk_alloc HB6.out _) 9).trans rfl⟩ (fun hHeld => ?_)
          clear hK K
          refine norm_ (a' := ?_) ?_ ?_
          rotate_left
          · show Act.put _ (some 86) _ = _
            simp only [Act.put, List.setIfInBounds_toArray, List.set_cons_zero, List.set_cons_succ, i64_w, i32_w]
            rfl
          refine one_ (i := 21) (N := some 87) #[true, true, true, true, true, true, true, true, true, true, true, true, true, true, true, true, true, true, true, true, true, true, false, false] rfl rfl (one_of HT_.out (by kernel_rfl)) (by decide) (fun K hK => ?_)
          have HVAL : Aside0 (((((((((bt x 0) % 4294967296) + ((((bt x 1) % 4294967296) * 256) % 4294967296)) % 4294967296) + ((((bt x 2) % 4294967296) * 65536) % 4294967296)) % 4294967296) + ((((bt x 3) % 4294967296) * 16777216) % 4294967296)) % 4294967296) = le4 x) := ⟨by have := bt_range x 0; have := bt_range x 1; have := bt_range x 2; have := bt_range x 3; show _ = bt x 0 + bt x 1 * 256 + bt x 2 * 65536 + bt x 3 * 16777216; omega⟩
          refine Kd.R_append_step (Kd.int .u32) (w0 := _) (w.heap.size + 4) (by rfl) (.tmp 67) (.tmp 86) 33 61 (.int .u32 0) 4 rfl Tryd.underlying33 info61 rfl (by decide) (by omega) (.slice A3 ys.length q3) ys ((((((((bt x 0) % 4294967296) + ((((bt x 1) % 4294967296) * 256) % 4294967296)) % 4294967296) + ((((bt x 2) % 4294967296) * 65536) % 4294967296)) % 4294967296) + ((((bt x 3) % 4294967296) * 16777216) % 4294967296)) % 4294967296) [.int .u32 ((((((((bt x 0) % 4294967296) + ((((bt x 1) % 4294967296) * 256) % 4294967296)) % 4294967296) + ((((bt x 2) % 4294967296) * 65536) % 4294967296)) % 4294967296) + ((((bt x 3) % 4294967296) * 16777216) % 4294967296)) % 4294967296)] (fun _ => True) (fun _ => False) rfl rfl ?aP (fun _ hk => hk.elim) (fun _ _ => trivial) DR.out.r3 (Below.refl _ _) ?bS ?bL ?_
          (case aP => exact rfl)
          (case bS => exact DR.out.size4)
          (case bL => have := HLN.out; omega)
          intro v' w62 hR _ hg5 _
          rw [HVAL.out] at hR
          obtain ⟨A3', q3', rfl⟩ := Kd.R_slice hR
          have HB7 := Aside0.mk (DR.out.kept3 hg5)
          obtain ⟨hd, cz, fz⟩ := DR.out.app3 hg5 hR
          rw [show (ys ++ [le4 x]).length = ys.length + 1 by simp] at hd ⊢
          have DY := Aside0.mk hd
          clear hR hg5 hd DR HB6
          have HB6 := HB7
          clear HB7
          refine hK.out _ _ ⟨(blk_cell HB6.out 0).trans rfl, (blk_cell HB6.out 1).trans rfl, (blk_cell HB6.out 2).trans rfl, (blk_cell HB6.out 3).trans rfl, (blk_cell HB6.out 4).trans rfl, (blk_cell HB6.out 5).trans rfl, (blk_cell HB6.out 6).trans rfl, (blk_cell HB6.out 7).trans rfl, (blk_cell HB6.out 8).trans rfl, (blk_cell HB6.out 9).trans rfl⟩ (fun hHeld => ?_)
          clear hK K
          refine norm_ (a' := ?_) ?_ ?_
          rotate_left
          · show Act.put _ (some 87) _ = _
            simp only [Act.put, List.setIfInBounds_toArray, List.set_cons_zero, List.set_cons_succ, i64_w, i32_w]
            rfl
          refine pure_ (i := 22) (N := some 88) (v := ?_) (a' := ?_) #[true, true, true, true, true, true, true, true, true, true, true, true, true, true, true, true, true, true, true, true, true, true, true, false] rfl rfl (any_of HT_.out (by kernel_rfl)) (fun _ _ _ h => h) (Or.inl ⟨by rfl, ?_⟩) ?_ ?_
          rotate_left
          · intro w'
            go_simp
            with_reducible rfl
          rotate_left
          · simp only [Act.put, List.setIfInBounds_toArray, List.set_cons_zero, List.set_cons_succ, i64_w, i32_w]
            rfl
          refine last_ (i := 23) (N := none) #[true, true, true, true, true, true, true, true, true, true, true, true, true, true, true, true, true, true, true, true, true, true, true, true] rfl rfl (one_of HT_.out (by kernel_rfl)) (by decide) (fun K hK => ?_)
          refine skip_ (w1 := ?_) (by rfl) rfl ?_ ?_
          rotate_left
          · go_simp
            rfl
          refine hK.out _ _ ?_
          clear hK K
          refine done_ (done_of HT_.out (by kernel_rfl)) ?_
          go_wp2
          have hgk := HGM.out
          subst hgk
          go_roundg gm
          case measure => have := HJ.out; omega
          case rel => exact ⟨j + 1, ys ++ [le4 x], _, ax, 0, by first | rfl | (simp; done) | (rw [WW.out]), ⟨by have := HJ.out; omega⟩, DY, HN⟩
        · have HN := Aside0.mk (HL.out.fail hj hx hE hb0 hb2)
          have d1 : (ex == 0) = false := beq_eq_false_iff_ne.mpr hE
          clear hx hb1 hb2 hb4 hb0
          go_wp2_with (go_at_call 20; refine (spBytes hk _ (by decide) (by decide) HL.out.a0 HL.out.a1 HX.out).mono ?_; rintro r w2 ⟨rfl, hb⟩; have hd := HD.out.below hb; clear r0 r1 r2 y0 y1 y2 p0 p1 p2 p3 p4 p5 p6 p7 p8 p9 z0 z1 z2 z3 z4 z5 z6 z7 z8 z9; obtain ⟨r0, r1, r2, y0, y1, y2, p0, p1, p2, p3, p4, p5, p6, p7, p8, p9, z0, z1, z2, z3, z4, z5, z6, z7, z8, z9⟩ := hd.cells; have DX := Aside0.mk (hd.rd3 ax ex); clear hd hb)
          have hgk := HGM.out
          subst hgk
          go_roundg gm
          case measure => have := HJ.out; omega
          case rel => exact ⟨j + 1, ys, _, ax, ex, by first | rfl | (simp; done) | (rw [WW.out]), ⟨by have := HJ.out; omega⟩, DX, HN⟩
      · obtain ⟨s1, s2, s3⟩ := HL.out.stop hc
        obtain ⟨rfl, rfl, rfl⟩ : l3 = ys ∧ a5 = a' ∧ e5 = e' := ⟨s1.symm, s2.symm, s3.symm⟩
        have hx : (¬ j < n4 ∧ decide ((j : Int) < (n4 : Int)) = false) ∨ (j < n4 ∧ ¬ e5 = 0 ∧ decide ((j : Int) < (n4 : Int)) = true ∧ (e5 == 0) = false) := by
          by_cases hj : j < n4
          · exact .inr ⟨hj, fun he => hc ⟨hj, he⟩, decide_eq_true (by omega), beq_eq_false_iff_ne.mpr (fun he => hc ⟨hj, he⟩)⟩
          · exact .inl ⟨hj, decide_eq_false (by omega)⟩
        clear hc s1 s2 s3
        rcases hx with ⟨hj, d0⟩ | ⟨hj, he, d0, d1⟩
        all_goals
          go_wp2
          go_meet
          exact ⟨_, HD⟩
  case rest =>
  obtain ⟨u3, D6⟩ := hcut
  clear D5
  obtain ⟨r0, r1, r2, y0, y1, y2, p0, p1, p2, p3, p4, p5, p6, p7, p8, p9, z0, z1, z2, z3, z4, z5, z6, z7, z8, z9⟩ := D6.out.cells
  go_upto_block 2 with (go_at_call 19; refine (spNum hk _ HS.out.h5.2.1 HS.out.h5.2.2 HS.out.h6.1).mono ?_; rintro r w7 ⟨rfl, hb⟩; have hd := D6.out.below hb; clear r0 r1 r2 y0 y1 y2 p0 p1 p2 p3 p4 p5 p6 p7 p8 p9 z0 z1 z2 z3 z4 z5 z6 z7 z8 z9; obtain ⟨r0, r1, r2, y0, y1, y2, p0, p1, p2, p3, p4, p5, p6, p7, p8, p9, z0, z1, z2, z3, z4, z5, z6, z7, z8, z9⟩ := hd.cells; have D7 := Aside0.mk (hd.rd3 a6 e6); clear hd hb D6)
  clear r0 r1 r2 y0 y1 y2 p0 p1 p2 p3 p4 p5 p6 p7 p8 p9 z0 z1 z2 z3 z4 z5 z6 z7 z8 z9
  go_cut [] (fun wx => ∃ va : Value, Aside0 (QAt s w a7 e7 f0 (v1 == 1) f2 0 l3 l4 [] u3 va (.slice none 0 0) wx))
  case first =>
    go_wp2_with (fail)
    go_loopg [13] n6 (fun kq vi W' => ∃ (j : Nat) (ys : List S63) (vr : Value) (a' e' : Int), vi = .int .i64 (j : Int) ∧ Aside0 (kq = n6 - j) ∧ Aside0 (QAt s w a' e' f0 (v1 == 1) f2 0 l3 ys [] u3 vr (.slice none 0 0) W') ∧ Aside0 (SL (fun a e => rV k s a e) s n6 l4 a7 e7 j ys a' e'))
    case atStart => exact ⟨0, [], _, _, _, rfl, ⟨by omega⟩, D7, ⟨SL.start HS.out.h6.2.1 HS.out.h6.2.2.1 HS.out.h6.2.2.2 HS.out.h7.1⟩⟩
    case round =>
      obtain ⟨j, ys, vr, a', e', rfl, HJ, HD, HL⟩ := hrel
      clear D7
      obtain ⟨A4, q4, rfl⟩ := Kd.R_slice HD.out.r4
      obtain ⟨r0, r1, r2, y0, y1, y2, p0, p1, p2, p3, p4, p5, p6, p7, p8, p9, z0, z1, z2, z3, z4, z5, z6, z7, z8, z9⟩ := HD.out.cells
      by_cases hc : j < n6 ∧ e' = 0
      · obtain ⟨hj, he⟩ := hc
        have d0 : decide ((j : Int) < (n6 : Int)) = true := decide_eq_true (by omega)
        subst he
        obtain ⟨gm, hgm⟩ : ∃ gm, gk = gm + 1 := ⟨gk - 1, by have := HJ.out; omega⟩
        have HGM := Aside0.mk hgm
        clear hgm
        have HLN : Aside0 (ys.length ≤ 2000) := ⟨by have := HL.out.len; have := HL.out.n2; omega⟩
        have WW : Aside0 (IntKind.i64.wrap ((j : Int) + 1) = ((j + 1 : Nat) : Int)) := ⟨by rw [IntKind.wrap_i64]; have := HL.out.n2; omega⟩
        have n2 := HL.out.n2
        have ltp : w.heap.size + 1 + 1 + 1 < wr.heap.size := by have := HD.out.size4; omega
        have lta : w.heap.size < wr.heap.size := by omega
        obtain ⟨x, ax, ex, hx⟩ := tri ((fun a e => rV k s a e) a' 0)
        have hx' := hx
        dsimp only at hx'
        have HX := Aside0.mk hx'
        have hbd := rV_ok (k := k) (e := 0) hg HL.out.a0 HL.out.a1
        rw [hx'] at hbd
        have HN := Aside0.mk (HL.out.next hj hx (Int.le_trans HL.out.a0 hbd.1) hbd.2.1)
        clear hbd hx hx'
        go_wp2_with (first | (go_at_call 21; refine (spConst hk _ HL.out.a0 HL.out.a1 HX.out).mono ?_; rintro r w2 ⟨rfl, hb⟩; obtain ⟨hB3, hbx, hb1⟩ := box63 hb x.f0 x.f1 x.f2; have c0 := (blk_cell hb1 0).trans rfl; have c1 := (blk_cell hb1 1).trans rfl; have c2 := (blk_cell hb1 2).trans rfl; have g0 := blk_frozen hb1 0; have g1 := blk_frozen hb1 1; have g2 := blk_frozen hb1 2; have hd1 := HD.out.below (below_all1 hb); clear r0 r1 r2 y0 y1 y2 p0 p1 p2 p3 p4 p5 p6 p7 p8 p9 z0 z1 z2 z3 z4 z5 z6 z7 z8 z9; obtain ⟨r0, r1, r2, y0, y1, y2, p0, p1, p2, p3, p4, p5, p6, p7, p8, p9, z0, z1, z2, z3, z4, z5, z6, z7, z8, z9⟩ := hd1.cells; have DX := Aside0.mk ((HD.out.below hB3).rd3 ax ex); have BX := Aside0.mk hbx; clear hd1 hb hB3 hbx hb1) | (at_builtin; refine Kd.R_append k63 (w0 := _) (w.heap.size + 4) rfl (.tmp 110) (.tmp 112) 34 63 (.agg #[(.int .i64 0), (.int .i64 0), (.string ⟨#[]⟩)]) 32 rfl Tryd.underlying34 info63 rfl (by decide) (by decide) (.slice A4 ys.length q4) ys x [.int .i64 x.f0, .int .i64 x.f1, .string x.f2] (fun _ => True) (fun _ => False) rfl (by first | (go_simp; done) | (go_simp; rfl) | rfl) (k63_mkM _ _ _ x) (fun _ hk => hk.elim) (fun _ _ => trivial) DX.out.r4 (Below.refl _ _) ?bS ?bL ?_; (case bS => exact DX.out.size4); (case bL => have := HLN.out; omega); intro v' w5 hR _ hg5 _; obtain ⟨A4', q4', rfl⟩ := Kd.R_slice hR; obtain ⟨hd, cz, fz⟩ := DX.out.app4 hg5 hR; rw [show (ys ++ [x]).length = ys.length + 1 by simp] at hd; have DY := Aside0.mk hd; clear hR hg5 hd))
        have hgk := HGM.out
        subst hgk
        go_roundg gm
        case measure => have := HJ.out; omega
        case rel => exact ⟨j + 1, ys ++ [x], _, ax, ex, by first | rfl | (simp; done) | (rw [WW.out]), ⟨by have := HJ.out; omega⟩, DY, HN⟩
      · obtain ⟨s1, s2, s3⟩ := HL.out.stop hc
        obtain ⟨rfl, rfl, rfl⟩ : l4 = ys ∧ a7 = a' ∧ e7 = e' := ⟨s1.symm, s2.symm, s3.symm⟩
        have hx : (¬ j < n6 ∧ decide ((j : Int) < (n6 : Int)) = false) ∨ (j < n6 ∧ ¬ e7 = 0 ∧ decide ((j : Int) < (n6 : Int)) = true ∧ (e7 == 0) = false) := by
          by_cases hj : j < n6
          · exact .inr ⟨hj, fun he => hc ⟨hj, he⟩, decide_eq_true (by omega), beq_eq_false_iff_ne.mpr (fun he => hc ⟨hj, he⟩)⟩
          · exact .inl ⟨hj, decide_eq_false (by omega)⟩
        clear hc s1 s2 s3
        rcases hx with ⟨hj, d0⟩ | ⟨hj, he, d0, d1⟩
        all_goals
          go_wp2
          go_meet
          exact ⟨_, HD⟩
  case rest =>
  obtain ⟨u4, D8⟩ := hcut
  clear D7
  obtain ⟨r0, r1, r2, y0, y1, y2, p0, p1, p2, p3, p4, p5, p6, p7, p8, p9, z0, z1, z2, z3, z4, z5, z6, z7, z8, z9⟩ := D8.out.cells
  go_upto_block 4 with (go_at_call 19; refine (spNum hk _ HS.out.h7.2.1 HS.out.h7.2.2 HS.out.h8.1).mono ?_; rintro r w9 ⟨rfl, hb⟩; have hd := D8.out.below hb; clear r0 r1 r2 y0 y1 y2 p0 p1 p2 p3 p4 p5 p6 p7 p8 p9 z0 z1 z2 z3 z4 z5 z6 z7 z8 z9; obtain ⟨r0, r1, r2, y0, y1, y2, p0, p1, p2, p3, p4, p5, p6, p7, p8, p9, z0, z1, z2, z3, z4, z5, z6, z7, z8, z9⟩ := hd.cells; have D9 := Aside0.mk (hd.rd3 a8 e8); clear hd hb D8)
  clear r0 r1 r2 y0 y1 y2 p0 p1 p2 p3 p4 p5 p6 p7 p8 p9 z0 z1 z2 z3 z4 z5 z6 z7 z8 z9
  go_cut [] (fun wx => ∃ va : Value, Aside0 (QAt s w a9 e9 f0 (v1 == 1) f2 0 l3 l4 l5 u3 u4 va wx))
  case first =>
    go_wp2_with (fail)
    go_loopg [15] n8 (fun kq vi W' => ∃ (j : Nat) (ys : List S67) (vr : Value) (a' e' : Int), vi = .int .i64 (j : Int) ∧ Aside0 (kq = n8 - j) ∧ Aside0 (QAt s w a' e' f0 (v1 == 1) f2 0 l3 l4 ys u3 u4 vr W') ∧ Aside0 (SL (fun a e => rU s a e) s n8 l5 a9 e9 j ys a' e'))
    case atStart => exact ⟨0, [], _, _, _, rfl, ⟨by omega⟩, D9, ⟨SL.start HS.out.h8.2.1 HS.out.h8.2.2.1 HS.out.h8.2.2.2 HS.out.h9.1⟩⟩
    case round =>
      obtain ⟨j, ys, vr, a', e', rfl, HJ, HD, HL⟩ := hrel
      clear D9
      obtain ⟨A5, q5, rfl⟩ := Kd.R_slice HD.out.r5
      obtain ⟨r0, r1, r2, y0, y1, y2, p0, p1, p2, p3, p4, p5, p6, p7, p8, p9, z0, z1, z2, z3, z4, z5, z6, z7, z8, z9⟩ := HD.out.cells
      by_cases hc : j < n8 ∧ e' = 0
      · obtain ⟨hj, he⟩ := hc
        have d0 : decide ((j : Int) < (n8 : Int)) = true := decide_eq_true (by omega)
        subst he
        obtain ⟨gm, hgm⟩ : ∃ gm, gk = gm + 1 := ⟨gk - 1, by have := HJ.out; omega⟩
        have HGM := Aside0.mk hgm
        clear hgm
        have HLN : Aside0 (ys.length ≤ 2000) := ⟨by have := HL.out.len; have := HL.out.n2; omega⟩
        have WW : Aside0 (IntKind.i64.wrap ((j : Int) + 1) = ((j + 1 : Nat) : Int)) := ⟨by rw [IntKind.wrap_i64]; have := HL.out.n2; omega⟩
        have n2 := HL.out.n2
        have ltp : w.heap.size + 1 + 1 + 1 < wr.heap.size := by have := HD.out.size4; omega
        have lta : w.heap.size < wr.heap.size := by omega
        obtain ⟨b, ab, eb, hb1⟩ := tri (rOctet s 1 a' 0)
        obtain ⟨n, ax, ex, hn1⟩ := tri (rNum s 0 16777215 ab eb)
        have hx : (fun a e => rU s a e) a' 0 = ((⟨b == 1, n⟩ : S67), ax, ex) := by
          show rU s a' 0 = _
          unfold rU rUp
          rw [hb1]
          dsimp only
          rw [hn1]
        have hx' : rU s a' 0 = ((⟨b == 1, n⟩ : S67), ax, ex) := hx
        have HX1 := Aside0.mk hb1
        have HX2 := Aside0.mk hn1
        obtain ⟨_, _, o3, o4, _⟩ := rOctet_ok (m := 1) (e := 0) HL.out.a0 HL.out.a1 (by decide)
        rw [hb1] at o3 o4
        have hbd := rU_ok (e := 0) hg HL.out.a0 HL.out.a1
        rw [hx'] at hbd
        have HN := Aside0.mk (HL.out.next hj hx (Int.le_trans HL.out.a0 hbd.1) hbd.2.1)
        have HO1 : Aside0 (0 ≤ ab ∧ ab ≤ (s.size : Int)) := ⟨Int.le_trans HL.out.a0 o3, o4⟩
        clear hbd hx hx' hb1 hn1 o3 o4
        go_wp2_with (first | (go_at_call 18; refine (spByte hk _ HL.out.a0 HL.out.a1 HX1.out).mono ?_; rintro r w2 ⟨rfl, hb⟩; have hd := HD.out.below hb; clear r0 r1 r2 y0 y1 y2 p0 p1 p2 p3 p4 p5 p6 p7 p8 p9 z0 z1 z2 z3 z4 z5 z6 z7 z8 z9; obtain ⟨r0, r1, r2, y0, y1, y2, p0, p1, p2, p3, p4, p5, p6, p7, p8, p9, z0, z1, z2, z3, z4, z5, z6, z7, z8, z9⟩ := hd.cells; have DB := Aside0.mk (hd.rd3 ab eb); clear hd hb) | (go_at_call 19; have hq := DB; clear hq; refine (spNum hk _ HO1.out.1 HO1.out.2 HX2.out).mono ?_; rintro r w4 ⟨rfl, hb⟩; have hd := DB.out.below hb; clear r0 r1 r2 y0 y1 y2 p0 p1 p2 p3 p4 p5 p6 p7 p8 p9 z0 z1 z2 z3 z4 z5 z6 z7 z8 z9; obtain ⟨r0, r1, r2, y0, y1, y2, p0, p1, p2, p3, p4, p5, p6, p7, p8, p9, z0, z1, z2, z3, z4, z5, z6, z7, z8, z9⟩ := hd.cells; have DX := Aside0.mk (hd.rd3 ax ex); clear hd hb DB) | (at_builtin; refine Kd.R_append k67 (w0 := _) (w.heap.size + 4) rfl (.tmp 141) (.tmp 146) 35 67 (.agg #[(.bool false), (.int .i64 0)]) 16 rfl Tryd.underlying35 info67 rfl (by decide) (by decide) (.slice A5 ys.length q5) ys ⟨b == 1, n⟩ [.bool (b == 1), .int .i64 n] (fun _ => True) (fun _ => False) rfl (by first | (go_simp; done) | (go_simp; rfl) | rfl) (k67_mkM _ _ _ (⟨b == 1, n⟩ : S67)) (fun _ hk => hk.elim) (fun _ _ => trivial) DX.out.r5 (Below.refl _ _) ?bS ?bL ?_; (case bS => exact DX.out.size4); (case bL => have := HLN.out; omega); intro v' w5 hR _ hg5 _; obtain ⟨A5', q5', rfl⟩ := Kd.R_slice hR; obtain ⟨hd, cz, fz⟩ := DX.out.app5 hg5 hR; rw [show (ys ++ [(⟨b == 1, n⟩ : S67)]).length = ys.length + 1 by simp] at hd; have DY := Aside0.mk hd; clear hR hg5 hd))
        have hgk := HGM.out
        subst hgk
        go_roundg gm
        case measure => have := HJ.out; omega
        case rel => exact ⟨j + 1, ys ++ [(⟨b == 1, n⟩ : S67)], _, ax, ex, by first | rfl | (simp; done) | (rw [WW.out]), ⟨by have := HJ.out; omega⟩, DY, HN⟩
      · obtain ⟨s1, s2, s3⟩ := HL.out.stop hc
        obtain ⟨rfl, rfl, rfl⟩ : l5 = ys ∧ a9 = a' ∧ e9 = e' := ⟨s1.symm, s2.symm, s3.symm⟩
        have hx : (¬ j < n8 ∧ decide ((j : Int) < (n8 : Int)) = false) ∨ (j < n8 ∧ ¬ e9 = 0 ∧ decide ((j : Int) < (n8 : Int)) = true ∧ (e9 == 0) = false) := by
          by_cases hj : j < n8
          · exact .inr ⟨hj, fun he => hc ⟨hj, he⟩, decide_eq_true (by omega), beq_eq_false_iff_ne.mpr (fun he => hc ⟨hj, he⟩)⟩
          · exact .inl ⟨hj, decide_eq_false (by omega)⟩
        clear hc s1 s2 s3
        rcases hx with ⟨hj, d0⟩ | ⟨hj, he, d0, d1⟩
        all_goals
          go_wp2
          go_meet
          exact ⟨_, HD⟩
  case rest =>
  obtain ⟨u5, DA⟩ := hcut
  clear D9
  obtain ⟨r0, r1, r2, y0, y1, y2, p0, p1, p2, p3, p4, p5, p6, p7, p8, p9, z0, z1, z2, z3, z4, z5, z6, z7, z8, z9⟩ := DA.out.cells
  go_upto_if 163 with (first | (go_at_call 19; have hq := DA; clear hq; refine (spNum hk _ HS.out.h9.2.1 HS.out.h9.2.2 HS.out.h10.1).mono ?_; rintro r w9 ⟨rfl, hb⟩; have hd := DA.out.below hb; clear r0 r1 r2 y0 y1 y2 p0 p1 p2 p3 p4 p5 p6 p7 p8 p9 z0 z1 z2 z3 z4 z5 z6 z7 z8 z9; obtain ⟨r0, r1, r2, y0, y1, y2, p0, p1, p2, p3, p4, p5, p6, p7, p8, p9, z0, z1, z2, z3, z4, z5, z6, z7, z8, z9⟩ := hd.cells; have DB := Aside0.mk ((hd.rd3 a10 e10).set6 f6); clear hd hb DA) | (go_at_call 18; have hq := DB; clear hq; refine (spByte hk _ HS.out.h10.2.1 HS.out.h10.2.2 HS.out.h11.1).mono ?_; rintro r w10 ⟨rfl, hb⟩; have hd := DB.out.below hb; clear r0 r1 r2 y0 y1 y2 p0 p1 p2 p3 p4 p5 p6 p7 p8 p9 z0 z1 z2 z3 z4 z5 z6 z7 z8 z9; obtain ⟨r0, r1, r2, y0, y1, y2, p0, p1, p2, p3, p4, p5, p6, p7, p8, p9, z0, z1, z2, z3, z4, z5, z6, z7, z8, z9⟩ := hd.cells; have DC := Aside0.mk (hd.rd3 a11 e11); clear hd hb DB))
  clear r0 r1 r2 y0 y1 y2 p0 p1 p2 p3 p4 p5 p6 p7 p8 p9 z0 z1 z2 z3 z4 z5 z6 z7 z8 z9
  obtain ⟨A3, q3, rfl⟩ := Kd.R_slice DC.out.r3
  obtain ⟨A4, q4, rfl⟩ := Kd.R_slice DC.out.r4
  obtain ⟨A5, q5, rfl⟩ := Kd.R_slice DC.out.r5
  generalize hWC : World.setCell _ ⟨w.heap.size, 2, none⟩ (.int .i64 e11) = wC at DC ⊢
  clear hWC
  obtain ⟨r0, r1, r2, y0, y1, y2, p0, p1, p2, p3, p4, p5, p6, p7, p8, p9, z0, z1, z2, z3, z4, z5, z6, z7, z8, z9⟩ := DC.out.cells
  obtain ⟨k0, k1, k2, k3, k4, k5, k6, k7, k8, k9, i0, i1, i2, i3, i4, i5, i6, i7, i8, i9, g0, g1, g2, t0, t1, t2⟩ := DC.out.cells2
  by_cases hv : v = 1
  · obtain ⟨f7, l8, l9, b1, c1, n2, b2, c2, x2, b3, c3, n4', b4, c4, x4, c5, hD, hE, hp⟩ := HP.out.yes hv
    subst hv
    subst hp
    have HDD := Aside0.mk hD
    have HEE := Aside0.mk hE
    have Z3 := Aside0.mk (Kd.R_reads' DC.out.r3).2
    have Z4 := Aside0.mk (Kd.R_reads' DC.out.r4).2
    have Z5 := Aside0.mk (Kd.R_reads' DC.out.r5).2
    clear hD hE
    go_wp2_with (go_at_call 22; refine (spDebug hk hg hz a11 e11 f0 (v1 == 1) f2 l3 l4 l5 f6 A3 A4 A5 q3 q4 q5 _ Z3.out.2 Z3.out.1 Z4.out.2 Z4.out.1 Z5.out.2 Z5.out.1 f7 l8 l9 b1 c1 n2 b2 c2 x2 b3 c3 n4' b4 c4 x4 a' c5 HDD.out HP.out.len.1 HP.out.len.2 e' HEE.out).mono ?_; rintro r w11 ⟨v8, v9, rfl, g8', g9', hb⟩; obtain ⟨A8, q8, rfl⟩ := Kd.R_slice g8'; obtain ⟨A9, q9, rfl⟩ := Kd.R_slice g9'; have hd := DC.out.below hb; clear r0 r1 r2 y0 y1 y2 p0 p1 p2 p3 p4 p5 p6 p7 p8 p9 z0 z1 z2 z3 z4 z5 z6 z7 z8 z9; clear k0 k1 k2 k3 k4 k5 k6 k7 k8 k9 i0 i1 i2 i3 i4 i5 i6 i7 i8 i9 g0 g1 g2 t0 t1 t2; obtain ⟨r0, r1, r2, y0, y1, y2, p0, p1, p2, p3, p4, p5, p6, p7, p8, p9, z0, z1, z2, z3, z4, z5, z6, z7, z8, z9⟩ := hd.cells; obtain ⟨k0, k1, k2, k3, k4, k5, k6, k7, k8, k9, i0, i1, i2, i3, i4, i5, i6, i7, i8, i9, g0, g1, g2, t0, t1, t2⟩ := hd.cells2; have G8 := Aside0.mk g8'; have G9 := Aside0.mk g9'; have DE := Aside0.mk hd; clear hd hb g8' g9')
    obtain ⟨W', eW, hP2, hR2, x3, x4, x5, x8, x9, hB⟩ := finPR DE.out.bel DE.out.b4 DE.out.b5 DE.out.r3 DE.out.r4 DE.out.r5 (Kd.R_lower (Kd.R_mono G8.out (fun _ _ => trivial)) DC.out.size4) (Kd.R_lower (Kd.R_mono G9.out (fun _ _ => trivial)) DC.out.size4)
    rw [← eW]
    exact bodyPost_ret (results_cc rfl _ _ (w.heap.size + 1) (w.heap.size + 1 + 1) 38 31 _ _ (0, 0) (0, 0) _ _ rfl hP2 hu38 rfl (by kernel_rfl) rfl hR2 hu31 rfl (by kernel_rfl)) rfl ⟨_, _, _, _, _, rfl, x3, x4, x5, x8, x9, hB⟩
  · have d0 : (v == 1) = false := beq_eq_false_iff_ne.mpr hv
    obtain ⟨hp, ha, he⟩ := HP.out.no hv
    subst hp
    subst ha
    subst he
    go_wp2_with (fail)
    go_region_with_o (fail)
    all_goals
      go_wp2
      first
        | (obtain ⟨W', eW, hP2, hR2, x3, x4, x5, x8, x9, hB⟩ := finPR DC.out.bel DC.out.b4 DC.out.b5 DC.out.r3 DC.out.r4 DC.out.r5 (Kd.R_nil (Kd.int .i64) 3 _ _ _) (Kd.R_nil Kd.string 9 _ _ _); rw [← eW]; exact bodyPost_ret (results_cc rfl _ _ (w.heap.size + 1) (w.heap.size + 1 + 1) 38 31 _ _ (0, 0) (0, 0) _ _ rfl hP2 hu38 rfl (by kernel_rfl) rfl hR2 hu31 rfl (by kernel_rfl)) rfl ⟨_, _, _, _, _, rfl, Kd.R_drew x3, Kd.R_drew x4, Kd.R_drew x5, Kd.R_drew x8, Kd.R_drew x9, below_drew1 hB⟩)
        | (obtain ⟨W', eW, hP2, hR2, x3, x4, x5, x8, x9, hB⟩ := finRP DC.out.bel DC.out.b4 DC.out.b5 DC.out.r3 DC.out.r4 DC.out.r5 (Kd.R_nil (Kd.int .i64) 3 _ _ _) (Kd.R_nil Kd.string 9 _ _ _); rw [← eW]; exact bodyPost_ret (results_cc rfl _ _ (w.heap.size + 1) (w.heap.size + 1 + 1) 38 31 _ _ (0, 0) (0, 0) _ _ rfl hP2 hu38 rfl (by kernel_rfl) rfl hR2 hu31 rfl (by kernel_rfl)) rfl ⟨_, _, _, _, _, rfl, Kd.R_drew x3, Kd.R_drew x4, Kd.R_drew x5, Kd.R_drew x8, Kd.R_drew x9, below_drew1 hB⟩)
end Go.Proofs.YtiekodnojmkfaaaDoor.PFnExactLoad
