-- Printed by the kit's print or by this session's program, then cut and tightened by it.
import Derived.Test.YtiekodnojmkfaaaPFnEndsx0
import Derived.Test.YtiekodnojmkfaaaPFnEndsx1
namespace Go.Proofs.Ytiekodnojmkfaaa.PFnEnds
open Go.RowKit Go.Proofs.YtiekodnojmkfaaaW.PrintWords Go.Proofs.YtiekodnojmkfaaaW.PrintLast Go.Proofs.YtiekodnojmkfaaaW.PrintMore
attribute [local go_sem] max2_int min2_int max_two min_two max_three min_three max_four min_four   -- for this text's walks alone
set_option linter.unusedVariables false
set_option linter.unusedSimpArgs false
attribute [local go_sem high] eqA118
def spec_l1Take.j0:Nat→List Int→Int→Int→Bool→Option (Int×Int)
 | 0,_,_,_,_=>none
 | k+1,x0,x1,x2,x17=>if x17=true then (some (0,wrap64 (x1+1))) else (if x1<(x0.length:Int) then (if x2≤256 then (if 0≤x1 then (if x2=0 then (none) else (some (Int.tmod (wrap64 (rd x0 x1)) x2,wrap64 (x1+1)))) else (none)) else (if (x0.length:Int)=0 then (none) else (if 0≤(Int.tmod x1 (x0.length:Int)) then (if (Int.tmod x1 (x0.length:Int))<(x0.length:Int) then (if 0≤(Int.tmod (wrap64 ((wrap64 (x1*7))+3)) (x0.length:Int)) then (if (Int.tmod (wrap64 ((wrap64 (x1*7))+3)) (x0.length:Int))<(x0.length:Int) then (if x2=0 then (none) else (some (Int.tmod (Go.bits .xor .i64 (wrap64 ((wrap64 ((wrap64 ((wrap64 ((wrap64 (rd x0 (Int.tmod x1 (x0.length:Int))))*131))+(wrap64 ((wrap64 (rd x0 (Int.tmod (wrap64 ((wrap64 (x1*7))+3)) (x0.length:Int))))*1117))))+(wrap64 (x1*29))))+(wrap64 ((wrap64 (Int.tdiv x1 (x0.length:Int)))*53)))) (wrap64 (Int.tdiv (wrap64 ((wrap64 ((wrap64 ((wrap64 ((wrap64 (rd x0 (Int.tmod x1 (x0.length:Int))))*131))+(wrap64 ((wrap64 (rd x0 (Int.tmod (wrap64 ((wrap64 (x1*7))+3)) (x0.length:Int))))*1117))))+(wrap64 (x1*29))))+(wrap64 ((wrap64 (Int.tdiv x1 (x0.length:Int)))*53)))) 64))) x2,wrap64 (x1+1)))) else (none)) else (none)) else (none)) else (none)))) else (if (x0.length:Int)=0 then (none) else (if 0≤(Int.tmod x1 (x0.length:Int)) then (if (Int.tmod x1 (x0.length:Int))<(x0.length:Int) then (if 0≤(Int.tmod (wrap64 ((wrap64 (x1*7))+3)) (x0.length:Int)) then (if (Int.tmod (wrap64 ((wrap64 (x1*7))+3)) (x0.length:Int))<(x0.length:Int) then (if x2=0 then (none) else (some (Int.tmod (Go.bits .xor .i64 (wrap64 ((wrap64 ((wrap64 ((wrap64 ((wrap64 (rd x0 (Int.tmod x1 (x0.length:Int))))*131))+(wrap64 ((wrap64 (rd x0 (Int.tmod (wrap64 ((wrap64 (x1*7))+3)) (x0.length:Int))))*1117))))+(wrap64 (x1*29))))+(wrap64 ((wrap64 (Int.tdiv x1 (x0.length:Int)))*53)))) (wrap64 (Int.tdiv (wrap64 ((wrap64 ((wrap64 ((wrap64 ((wrap64 (rd x0 (Int.tmod x1 (x0.length:Int))))*131))+(wrap64 ((wrap64 (rd x0 (Int.tmod (wrap64 ((wrap64 (x1*7))+3)) (x0.length:Int))))*1117))))+(wrap64 (x1*29))))+(wrap64 ((wrap64 (Int.tdiv x1 (x0.length:Int)))*53)))) 64))) x2,wrap64 (x1+1)))) else (none)) else (none)) else (none)) else (none))))
def spec_l1Take.f (k:Nat) (l0:List Int) (a1:Int) (a2:Int):Option (Int×Int):=if a2<1 then (spec_l1Take.j0 k l0 a1 a2 true) else (spec_l1Take.j0 k l0 a1 a2 ((l0.length:Int) == 0))
theorem spec_l1Take.mono_l:∀ k,(∀ y0 y1 y2 y3,LeO (spec_l1Take.j0 k y0 y1 y2 y3) (spec_l1Take.j0 (k+1) y0 y1 y2 y3))
 | 0=>fun _ _ _ _ r h=>by simp [spec_l1Take.j0] at h
 | k+1=>by
  have ih0:=spec_l1Take.mono_l k
  ·intro y0 y1 y2 y3
   unfold spec_l1Take.j0
   repeat' first
   | (with_reducible exact ih0 _ _ _ _)
   | (with_reducible exact LeO.refl _)
   | (with_reducible exact LeO.none _)
   | (with_reducible refine LeO.ite ?_ ?_)
   | (with_reducible refine LeO.bind ?_ (fun _=>?_))
   | exact ih0 _ _ _ _
   | exact LeO.none _
   | refine LeO.ite ?_ ?_
   | refine LeO.bind ?_ (fun _=>?_)
theorem spec_l1Take.mono:∀ a0 a1 a2 k,LeO (spec_l1Take.f k a0 a1 a2) (spec_l1Take.f (k+1) a0 a1 a2):=by
 intro a0 a1 a2 k
 have ih0:=spec_l1Take.mono_l k
 unfold spec_l1Take.f
 repeat' first
   | (with_reducible exact ih0 _ _ _ _)
   | (with_reducible exact LeO.refl _)
   | (with_reducible exact LeO.none _)
   | (with_reducible refine LeO.ite ?_ ?_)
   | (with_reducible refine LeO.bind ?_ (fun _=>?_))
   | exact ih0 _ _ _ _
   | exact LeO.none _
   | refine LeO.ite ?_ ?_
   | refine LeO.bind ?_ (fun _=>?_)
set_option maxHeartbeats 8000000 in
set_option maxRecDepth 100000 in
theorem spec_l1Take.calls (k:Nat) (A0:Option Addr) (c0:Nat) (l0:List Int) (a1:Int) (a2:Int) (r1:Int) (r2:Int) (w:World) (hr0:Kd.C (Kd.int .u8) w A0 l0.length l0) (hc0:l0.length≤c0) (h:spec_l1Take.f k l0 a1 a2=some (r1,r2)) :
  Calls Try.prog 30 #[.slice A0 l0.length c0,.int .i64 a1,.int .i64 a2] w fun e w'=>e=.returned (.tuple #[.int .i64 r1,.int .i64 r2])∧Drawn0 w w':=by
 have HR0:=Ak hr0;have HC0:=Ak hc0;clear hr0 hc0
 have H:(if a2<1 then (spec_l1Take.j0 k l0 a1 a2 true) else (spec_l1Take.j0 k l0 a1 a2 ((l0.length:Int) == 0)))=some (r1,r2):=h
 clear h;have HC4:=Ak H;clear H
 go_enter Try.func30,Try.ntmps30
 go_upto_region 1 with (fail)
 go_cut [17] (fun v17 wc=>∃ (kq:Nat) (x17_3:Bool),v17=.bool x17_3∧Aside0 (spec_l1Take.j0 kq l0 a1 a2 x17_3=some (r1,r2))∧Aside0 (kq≤k)∧Drawn0 w wc)
 case first =>
  have H:=HC4.out
  clear HC4
  by_cases c5:a2<1
  ·rw [if_pos c5] at H
   have c5b0:decide (a2<1)=true:=decide_eq_true c5
   clear c5
   (first|rw [c5b0]|(simp only [i64_w,i32_w];rw [c5b0])|skip)
   have H':=Ak H
   clear H
   go_wp2
   go_meet
   case rel=>exact ⟨_,(true),(by first|rfl|(simp;done)|(simp [*];done)),H',⟨by first|omega|exact Nat.le_refl _⟩,by repeat (first|exact Drawn0.refl _|apply Drawn0.step)⟩
  ·rw [if_neg c5] at H
   have c5b0:decide (a2<1)=false:=decide_eq_false c5
   clear c5
   (first|rw [c5b0]|(simp only [i64_w,i32_w];rw [c5b0])|skip)
   have H':=Ak H
   clear H
   go_wp2
   go_meet
   case rel=>exact ⟨_,(((l0.length:Int) == 0)),(by first|rfl|(simp;done)|(simp [*];done)),H',⟨by first|omega|exact Nat.le_refl _⟩,by repeat (first|exact Drawn0.refl _|apply Drawn0.step)⟩
 case rest =>
  clear HC4;(try clear p2);(try clear c3);(try clear c5);(try clear c5b0)
  obtain ⟨kq,x17_3,rfl,HA,HJ3,⟨mc3,rfl⟩⟩:=hcut
  cases kq with
  | zero=>exact absurd HA.out (by simp [spec_l1Take.j0])
  | succ kj3 =>
   have H:=HA.out
   clear HA
   simp only [spec_l1Take.j0] at H
   by_cases c6:x17_3=true
   ·subst c6
    have H1:(some (0,wrap64 (a1+1)))=some (r1,r2):=by rw [if_pos rfl] at H;exact H
    clear H;have H:=H1;clear H1
    simp only [Option.some.injEq,Prod.mk.injEq] at H
    obtain ⟨rfl,rfl⟩:=H
    go_wp2
    go_ret2
    exact ⟨by first|rfl|(simp;done)|(simp [*];done),by repeat (first|exact Drawn0.refl _|apply Drawn0.step)⟩
   ·replace c6:=Bool.eq_false_iff.mpr c6
    subst c6
    have H1:(if a1<(l0.length:Int) then (if a2≤256 then (if 0≤a1 then (if a2=0 then (none) else (some (Int.tmod (wrap64 (rd l0 a1)) a2,wrap64 (a1+1)))) else (none)) else (if (l0.length:Int)=0 then (none) else (if 0≤(Int.tmod a1 (l0.length:Int)) then (if (Int.tmod a1 (l0.length:Int))<(l0.length:Int) then (if 0≤(Int.tmod (wrap64 ((wrap64 (a1*7))+3)) (l0.length:Int)) then (if (Int.tmod (wrap64 ((wrap64 (a1*7))+3)) (l0.length:Int))<(l0.length:Int) then (if a2=0 then (none) else (some (Int.tmod (Go.bits .xor .i64 (wrap64 ((wrap64 ((wrap64 ((wrap64 ((wrap64 (rd l0 (Int.tmod a1 (l0.length:Int))))*131))+(wrap64 ((wrap64 (rd l0 (Int.tmod (wrap64 ((wrap64 (a1*7))+3)) (l0.length:Int))))*1117))))+(wrap64 (a1*29))))+(wrap64 ((wrap64 (Int.tdiv a1 (l0.length:Int)))*53)))) (wrap64 (Int.tdiv (wrap64 ((wrap64 ((wrap64 ((wrap64 ((wrap64 (rd l0 (Int.tmod a1 (l0.length:Int))))*131))+(wrap64 ((wrap64 (rd l0 (Int.tmod (wrap64 ((wrap64 (a1*7))+3)) (l0.length:Int))))*1117))))+(wrap64 (a1*29))))+(wrap64 ((wrap64 (Int.tdiv a1 (l0.length:Int)))*53)))) 64))) a2,wrap64 (a1+1)))) else (none)) else (none)) else (none)) else (none)))) else (if (l0.length:Int)=0 then (none) else (if 0≤(Int.tmod a1 (l0.length:Int)) then (if (Int.tmod a1 (l0.length:Int))<(l0.length:Int) then (if 0≤(Int.tmod (wrap64 ((wrap64 (a1*7))+3)) (l0.length:Int)) then (if (Int.tmod (wrap64 ((wrap64 (a1*7))+3)) (l0.length:Int))<(l0.length:Int) then (if a2=0 then (none) else (some (Int.tmod (Go.bits .xor .i64 (wrap64 ((wrap64 ((wrap64 ((wrap64 ((wrap64 (rd l0 (Int.tmod a1 (l0.length:Int))))*131))+(wrap64 ((wrap64 (rd l0 (Int.tmod (wrap64 ((wrap64 (a1*7))+3)) (l0.length:Int))))*1117))))+(wrap64 (a1*29))))+(wrap64 ((wrap64 (Int.tdiv a1 (l0.length:Int)))*53)))) (wrap64 (Int.tdiv (wrap64 ((wrap64 ((wrap64 ((wrap64 ((wrap64 (rd l0 (Int.tmod a1 (l0.length:Int))))*131))+(wrap64 ((wrap64 (rd l0 (Int.tmod (wrap64 ((wrap64 (a1*7))+3)) (l0.length:Int))))*1117))))+(wrap64 (a1*29))))+(wrap64 ((wrap64 (Int.tdiv a1 (l0.length:Int)))*53)))) 64))) a2,wrap64 (a1+1)))) else (none)) else (none)) else (none)) else (none))))=some (r1,r2):=by rw [if_neg (show ¬ (false=true) by decide)] at H;exact H
    clear H;have H:=H1;clear H1
    by_cases c7:a1<(l0.length:Int)
    ·rw [if_pos c7] at H
     have c7b0:decide (a1<(l0.length:Int))=true:=decide_eq_true c7
     clear c7
     by_cases c8:a2≤256
     ·rw [if_pos c8] at H
      have c8b0:decide (a2≤256)=true:=decide_eq_true c8
      clear c8
      by_cases c9:0≤a1
      ·rw [if_pos c9] at H
       have c9b0:decide (0≤a1)=true:=decide_eq_true c9
       clear c9
       by_cases c10:a2=0
       ·rw [if_pos c10] at H
        exact absurd H (by simp)
       ·rw [if_neg c10] at H
        have c10b0:(a2 == 0)=false:=beq_eq_false_iff_ne.mpr c10
        have c10b1:(a2 != 0)=true:=bne_iff_ne.mpr c10
        simp only [Option.some.injEq,Prod.mk.injEq] at H
        obtain ⟨rfl,rfl⟩:=H
        have p121:0≤(a1:Int):=of_decide_eq_true (by first|(with_reducible assumption)|assumption)
        have q121:a1<(l0.length:Int):=of_decide_eq_true (by first|(with_reducible assumption)|assumption)
        obtain ⟨ad121,e121,hx121_0⟩:=Kd.at_int HR0.out a1 p121 q121
        cases e121
        replace p121:=eq_true p121
        replace q121:=eq_true q121
        go_wp2
        go_ret2
        exact ⟨by first|rfl|(simp;done)|(simp [*];done),by repeat (first|exact Drawn0.refl _|apply Drawn0.step)⟩
      ·rw [if_neg c9] at H
       exact absurd H (by simp)
     ·rw [if_neg c8] at H
      have c8b0:decide (a2≤256)=false:=decide_eq_false c8
      clear c8
      by_cases c11:(l0.length:Int)=0
      ·rw [if_pos c11] at H
       exact absurd H (by simp)
      ·rw [if_neg c11] at H
       have c11b0:((l0.length:Int) == 0)=false:=beq_eq_false_iff_ne.mpr c11
       have c11b1:((l0.length:Int) != 0)=true:=bne_iff_ne.mpr c11
       have c11b2:¬ (l0=[]):=fun h_=>c11 (by rw [h_];rfl)
       obtain ⟨ji12,hji12⟩:∃ j_:Int,(Int.tmod a1 (l0.length:Int))=j_:=⟨_,rfl⟩
       replace H:(if 0≤(ji12) then (if (ji12)<(l0.length:Int) then (if 0≤(Int.tmod (wrap64 ((wrap64 (a1*7))+3)) (l0.length:Int)) then (if (Int.tmod (wrap64 ((wrap64 (a1*7))+3)) (l0.length:Int))<(l0.length:Int) then (if a2=0 then (none) else (some (Int.tmod (Go.bits .xor .i64 (wrap64 ((wrap64 ((wrap64 ((wrap64 ((wrap64 (rd l0 (ji12)))*131))+(wrap64 ((wrap64 (rd l0 (Int.tmod (wrap64 ((wrap64 (a1*7))+3)) (l0.length:Int))))*1117))))+(wrap64 (a1*29))))+(wrap64 ((wrap64 (Int.tdiv a1 (l0.length:Int)))*53)))) (wrap64 (Int.tdiv (wrap64 ((wrap64 ((wrap64 ((wrap64 ((wrap64 (rd l0 (ji12)))*131))+(wrap64 ((wrap64 (rd l0 (Int.tmod (wrap64 ((wrap64 (a1*7))+3)) (l0.length:Int))))*1117))))+(wrap64 (a1*29))))+(wrap64 ((wrap64 (Int.tdiv a1 (l0.length:Int)))*53)))) 64))) a2,wrap64 (a1+1)))) else (none)) else (none)) else (none)) else (none))=some (r1,r2):=by first|(rw [hji12] at H;exact H)|(simp only [hji12] at H ⊢;exact H)
       by_cases c13:0≤(ji12)
       ·rw [if_pos c13] at H
        have c13b0:decide (0≤(ji12))=true:=decide_eq_true c13
        clear c13
        by_cases c14:(ji12)<(l0.length:Int)
        ·rw [if_pos c14] at H
         have c14b0:decide ((ji12)<(l0.length:Int))=true:=decide_eq_true c14
         clear c14
         obtain ⟨ji15,hji15⟩:∃ j_:Int,(Int.tmod (wrap64 ((wrap64 (a1*7))+3)) (l0.length:Int))=j_:=⟨_,rfl⟩
         replace H:(if 0≤(ji15) then (if (ji15)<(l0.length:Int) then (if a2=0 then (none) else (some (Int.tmod (Go.bits .xor .i64 (wrap64 ((wrap64 ((wrap64 ((wrap64 ((wrap64 (rd l0 (ji12)))*131))+(wrap64 ((wrap64 (rd l0 (ji15)))*1117))))+(wrap64 (a1*29))))+(wrap64 ((wrap64 (Int.tdiv a1 (l0.length:Int)))*53)))) (wrap64 (Int.tdiv (wrap64 ((wrap64 ((wrap64 ((wrap64 ((wrap64 (rd l0 (ji12)))*131))+(wrap64 ((wrap64 (rd l0 (ji15)))*1117))))+(wrap64 (a1*29))))+(wrap64 ((wrap64 (Int.tdiv a1 (l0.length:Int)))*53)))) 64))) a2,wrap64 (a1+1)))) else (none)) else (none))=some (r1,r2):=by first|(rw [hji15] at H;exact H)|(simp only [hji15] at H ⊢;exact H)
         by_cases c16:0≤(ji15)
         ·rw [if_pos c16] at H
          have c16b0:decide (0≤(ji15))=true:=decide_eq_true c16
          clear c16
          by_cases c17:(ji15)<(l0.length:Int)
          ·rw [if_pos c17] at H
           have c17b0:decide ((ji15)<(l0.length:Int))=true:=decide_eq_true c17
           clear c17
           by_cases c18:a2=0
           ·rw [if_pos c18] at H
            exact absurd H (by simp)
           ·rw [if_neg c18] at H
            have c18b0:(a2 == 0)=false:=beq_eq_false_iff_ne.mpr c18
            have c18b1:(a2 != 0)=true:=bne_iff_ne.mpr c18
            simp only [Option.some.injEq,Prod.mk.injEq] at H
            obtain ⟨rfl,rfl⟩:=H
            have p122:0≤((ji12):Int):=of_decide_eq_true (by first|(with_reducible assumption)|assumption)
            have q122:(ji12)<(l0.length:Int):=of_decide_eq_true (by first|(with_reducible assumption)|assumption)
            obtain ⟨ad122,e122,hx122_0⟩:=Kd.at_int HR0.out (ji12) p122 q122
            cases e122
            replace p122:=eq_true p122
            replace q122:=eq_true q122
            have p123:0≤((ji15):Int):=of_decide_eq_true (by first|(with_reducible assumption)|assumption)
            have q123:(ji15)<(l0.length:Int):=of_decide_eq_true (by first|(with_reducible assumption)|assumption)
            obtain ⟨ad123,e123,hx123_0⟩:=Kd.at_int HR0.out (ji15) p123 q123
            obtain rfl:ad122=ad123:=(by injection e123)
            replace p123:=eq_true p123
            replace q123:=eq_true q123
            go_wp2
            go_ret2
            exact ⟨by first|rfl|(simp;done)|(simp only [← hji12,← hji15] <;> (first|rfl|simp))|(simp [*];done),by repeat (first|exact Drawn0.refl _|apply Drawn0.step)⟩
          ·rw [if_neg c17] at H
           exact absurd H (by simp)
         ·rw [if_neg c16] at H
          exact absurd H (by simp)
        ·rw [if_neg c14] at H
         exact absurd H (by simp)
       ·rw [if_neg c13] at H
        exact absurd H (by simp)
    ·rw [if_neg c7] at H
     have c7b0:decide (a1<(l0.length:Int))=false:=decide_eq_false c7
     clear c7
     by_cases c19:(l0.length:Int)=0
     ·rw [if_pos c19] at H
      exact absurd H (by simp)
     ·rw [if_neg c19] at H
      have c19b0:((l0.length:Int) == 0)=false:=beq_eq_false_iff_ne.mpr c19
      have c19b1:((l0.length:Int) != 0)=true:=bne_iff_ne.mpr c19
      have c19b2:¬ (l0=[]):=fun h_=>c19 (by rw [h_];rfl)
      obtain ⟨ji20,hji20⟩:∃ j_:Int,(Int.tmod a1 (l0.length:Int))=j_:=⟨_,rfl⟩
      replace H:(if 0≤(ji20) then (if (ji20)<(l0.length:Int) then (if 0≤(Int.tmod (wrap64 ((wrap64 (a1*7))+3)) (l0.length:Int)) then (if (Int.tmod (wrap64 ((wrap64 (a1*7))+3)) (l0.length:Int))<(l0.length:Int) then (if a2=0 then (none) else (some (Int.tmod (Go.bits .xor .i64 (wrap64 ((wrap64 ((wrap64 ((wrap64 ((wrap64 (rd l0 (ji20)))*131))+(wrap64 ((wrap64 (rd l0 (Int.tmod (wrap64 ((wrap64 (a1*7))+3)) (l0.length:Int))))*1117))))+(wrap64 (a1*29))))+(wrap64 ((wrap64 (Int.tdiv a1 (l0.length:Int)))*53)))) (wrap64 (Int.tdiv (wrap64 ((wrap64 ((wrap64 ((wrap64 ((wrap64 (rd l0 (ji20)))*131))+(wrap64 ((wrap64 (rd l0 (Int.tmod (wrap64 ((wrap64 (a1*7))+3)) (l0.length:Int))))*1117))))+(wrap64 (a1*29))))+(wrap64 ((wrap64 (Int.tdiv a1 (l0.length:Int)))*53)))) 64))) a2,wrap64 (a1+1)))) else (none)) else (none)) else (none)) else (none))=some (r1,r2):=by first|(rw [hji20] at H;exact H)|(simp only [hji20] at H ⊢;exact H)
      by_cases c21:0≤(ji20)
      ·rw [if_pos c21] at H
       have c21b0:decide (0≤(ji20))=true:=decide_eq_true c21
       clear c21
       by_cases c22:(ji20)<(l0.length:Int)
       ·rw [if_pos c22] at H
        have c22b0:decide ((ji20)<(l0.length:Int))=true:=decide_eq_true c22
        clear c22
        obtain ⟨ji23,hji23⟩:∃ j_:Int,(Int.tmod (wrap64 ((wrap64 (a1*7))+3)) (l0.length:Int))=j_:=⟨_,rfl⟩
        replace H:(if 0≤(ji23) then (if (ji23)<(l0.length:Int) then (if a2=0 then (none) else (some (Int.tmod (Go.bits .xor .i64 (wrap64 ((wrap64 ((wrap64 ((wrap64 ((wrap64 (rd l0 (ji20)))*131))+(wrap64 ((wrap64 (rd l0 (ji23)))*1117))))+(wrap64 (a1*29))))+(wrap64 ((wrap64 (Int.tdiv a1 (l0.length:Int)))*53)))) (wrap64 (Int.tdiv (wrap64 ((wrap64 ((wrap64 ((wrap64 ((wrap64 (rd l0 (ji20)))*131))+(wrap64 ((wrap64 (rd l0 (ji23)))*1117))))+(wrap64 (a1*29))))+(wrap64 ((wrap64 (Int.tdiv a1 (l0.length:Int)))*53)))) 64))) a2,wrap64 (a1+1)))) else (none)) else (none))=some (r1,r2):=by first|(rw [hji23] at H;exact H)|(simp only [hji23] at H ⊢;exact H)
        by_cases c24:0≤(ji23)
        ·rw [if_pos c24] at H
         have c24b0:decide (0≤(ji23))=true:=decide_eq_true c24
         clear c24
         by_cases c25:(ji23)<(l0.length:Int)
         ·rw [if_pos c25] at H
          have c25b0:decide ((ji23)<(l0.length:Int))=true:=decide_eq_true c25
          clear c25
          by_cases c26:a2=0
          ·rw [if_pos c26] at H
           exact absurd H (by simp)
          ·rw [if_neg c26] at H
           have c26b0:(a2 == 0)=false:=beq_eq_false_iff_ne.mpr c26
           have c26b1:(a2 != 0)=true:=bne_iff_ne.mpr c26
           simp only [Option.some.injEq,Prod.mk.injEq] at H
           obtain ⟨rfl,rfl⟩:=H
           have p124:0≤((ji20):Int):=of_decide_eq_true (by first|(with_reducible assumption)|assumption)
           have q124:(ji20)<(l0.length:Int):=of_decide_eq_true (by first|(with_reducible assumption)|assumption)
           obtain ⟨ad124,e124,hx124_0⟩:=Kd.at_int HR0.out (ji20) p124 q124
           cases e124
           replace p124:=eq_true p124
           replace q124:=eq_true q124
           have p125:0≤((ji23):Int):=of_decide_eq_true (by first|(with_reducible assumption)|assumption)
           have q125:(ji23)<(l0.length:Int):=of_decide_eq_true (by first|(with_reducible assumption)|assumption)
           obtain ⟨ad125,e125,hx125_0⟩:=Kd.at_int HR0.out (ji23) p125 q125
           obtain rfl:ad124=ad125:=(by injection e125)
           replace p125:=eq_true p125
           replace q125:=eq_true q125
           go_wp2
           go_ret2
           exact ⟨by first|rfl|(simp;done)|(simp only [← hji20,← hji23] <;> (first|rfl|simp))|(simp [*];done),by repeat (first|exact Drawn0.refl _|apply Drawn0.step)⟩
         ·rw [if_neg c25] at H
          exact absurd H (by simp)
        ·rw [if_neg c24] at H
         exact absurd H (by simp)
       ·rw [if_neg c22] at H
        exact absurd H (by simp)
      ·rw [if_neg c21] at H
       exact absurd H (by simp)
def spec_l1Count.f (l0:List Int) (a1:Int) (a2:Int) (a3:Int):Option (Int):=if a1=0 then (none) else (if (wrap64 (a2+(wrap64 ((l0.length:Int) / a1)))) > a3 then (some a3) else (some (wrap64 (a2+(wrap64 ((l0.length:Int) / a1))))))
set_option maxHeartbeats 8000000 in
set_option maxRecDepth 100000 in
theorem spec_l1Count.calls (A0:Option Addr) (c0:Nat) (l0:List Int) (a1:Int) (a2:Int) (a3:Int) (r:Int) (w:World) (hr0:Kd.C (Kd.int .u8) w A0 l0.length l0) (hc0:l0.length≤c0) (h:spec_l1Count.f l0 a1 a2 a3=some r) :
  Calls Try.prog 117 #[.slice A0 l0.length c0,.int .i64 a1,.int .i64 a2,.int .i64 a3] w fun e w'=>e=.returned (.int .i64 r)∧Drawn0 w w':=by
 have HR0:=Ak hr0;have HC0:=Ak hc0;clear hr0 hc0
 have H:(if a1=0 then (none) else (if (wrap64 (a2+(wrap64 ((l0.length:Int) / a1)))) > a3 then (some a3) else (some (wrap64 (a2+(wrap64 ((l0.length:Int) / a1)))))))=some r:=h
 clear h
 by_cases c5:a1=0
 ·rw [if_pos c5] at H
  exact absurd H (by simp)
 ·rw [if_neg c5] at H
  have c5b0:(a1 == 0)=false:=beq_eq_false_iff_ne.mpr c5
  have c5b1:(a1 != 0)=true:=bne_iff_ne.mpr c5
  by_cases c6:(wrap64 (a2+(wrap64 ((l0.length:Int) / a1)))) > a3
  ·rw [if_pos c6] at H
   have c6b0:decide (a3<(wrap64 (a2+(wrap64 ((l0.length:Int) / a1)))))=true:=decide_eq_true c6
   clear c6
   obtain rfl:=Option.some.inj H
   go_enter Try.func117,Try.ntmps117
   go_wp2
   go_ret
   exact ⟨by first|rfl|(simp;done)|(simp [*];done),by repeat (first|exact Drawn0.refl _|apply Drawn0.step)⟩
  ·rw [if_neg c6] at H
   have c6b0:decide (a3<(wrap64 (a2+(wrap64 ((l0.length:Int) / a1)))))=false:=decide_eq_false c6
   clear c6
   obtain rfl:=Option.some.inj H
   go_enter Try.func117,Try.ntmps117
   go_wp2
   go_ret
   exact ⟨by first|rfl|(simp;done)|(simp [*];done),by repeat (first|exact Drawn0.refl _|apply Drawn0.step)⟩
def spec_Unpack.f (a0:Int):Option (Int×Int×Int×Int×Int) :=
 if 0≤a0∧a0≤4294967295 then some (a0 % 64,a0 / 64 % 256,a0 / 16384 % 512,a0 / 8388608,a0 / 16384 % 512+512*(a0 / 8388608)-131072) else none
set_option maxRecDepth 100000 in
set_option maxHeartbeats 400000 in
theorem spec_Unpack.calls (a0:Int) (r1:Int) (r2:Int) (r3:Int) (r4:Int) (r5:Int) (w:World) (h:spec_Unpack.f a0=some (r1,r2,r3,r4,r5)) :
  Calls Try.prog 122 #[.int .u32 a0] w fun e w'=>e=.returned (.agg #[.int .i64 r1,.int .i64 r2,.int .i64 r3,.int .i64 r4,.int .i64 r5])∧Below w.heap.size w w':=by
 unfold spec_Unpack.f at h
 split at h
 ·rename_i hb
  obtain ⟨h0,h1⟩:=hb
  simp only [Option.some.injEq,Prod.mk.injEq] at h
  obtain ⟨rfl,rfl,rfl,rfl,rfl⟩:=h
  go_enter Try.func122,Try.ntmps122
  go_wp2
  go_returns
  exact ⟨rfl,((Below.refl _ _).alloc (Nat.le_refl _) _).alloc (by simp) _⟩
 ·cases h
def spec_Pack.j0:Nat→Bool→Int→Int→Int→Int→Int→Option (Int)
 | 0,_,_,_,_,_,_=>none
 | k+1,x41,x127000,x127001,x127002,x127003,x127004=>if x41=true then (some 0) else ((spec_Unpack.f ((wrap64 ((wrap64 ((wrap64 (x127000+(wrap64 (64*x127001))))+(wrap64 (16384*x127002))))+(wrap64 (8388608*x127003)))) % 4294967296)).bind fun bt127=>(if (!(bt127.1 == x127000) || (!(bt127.2.1 == x127001) || (!(bt127.2.2.1 == x127002) || (!(bt127.2.2.2.1 == x127003) || (!(bt127.2.2.2.2 == x127004))))))=true then (some 0) else (some ((wrap64 ((wrap64 ((wrap64 (x127000+(wrap64 (64*x127001))))+(wrap64 (16384*x127002))))+(wrap64 (8388608*x127003)))) % 4294967296))))
def spec_Pack.f (k:Nat) (a0_0:Int) (a0_1:Int) (a0_2:Int) (a0_3:Int) (a0_4:Int):Option (Int):=if a0_0<0 then (spec_Pack.j0 k true a0_0 a0_1 a0_2 a0_3 a0_4) else (if a0_0 > 63 then (spec_Pack.j0 k true a0_0 a0_1 a0_2 a0_3 a0_4) else (if a0_1<0 then (spec_Pack.j0 k true a0_0 a0_1 a0_2 a0_3 a0_4) else (if a0_1 > 255 then (spec_Pack.j0 k true a0_0 a0_1 a0_2 a0_3 a0_4) else (if a0_2<0 then (spec_Pack.j0 k true a0_0 a0_1 a0_2 a0_3 a0_4) else (if a0_2 > 511 then (spec_Pack.j0 k true a0_0 a0_1 a0_2 a0_3 a0_4) else (if a0_3<0 then (spec_Pack.j0 k true a0_0 a0_1 a0_2 a0_3 a0_4) else (spec_Pack.j0 k (decide (a0_3 > 511)) a0_0 a0_1 a0_2 a0_3 a0_4)))))))
set_option maxHeartbeats 8000000 in
set_option maxRecDepth 100000 in
theorem spec_Pack.calls (k:Nat) (a0_0:Int) (a0_1:Int) (a0_2:Int) (a0_3:Int) (a0_4:Int) (r:Int) (w:World) (h:spec_Pack.f k a0_0 a0_1 a0_2 a0_3 a0_4=some r) :
  Calls Try.prog 71 #[.agg #[.int .i64 a0_0,.int .i64 a0_1,.int .i64 a0_2,.int .i64 a0_3,.int .i64 a0_4]] w fun e w'=>e=.returned (.int .u32 r)∧Below w.heap.size w w':=by
 have hu118:=Try.underlying118
 have HB:=Ak (Below.refl w.heap.size w)
 have H:(if a0_0<0 then (spec_Pack.j0 k true a0_0 a0_1 a0_2 a0_3 a0_4) else (if a0_0 > 63 then (spec_Pack.j0 k true a0_0 a0_1 a0_2 a0_3 a0_4) else (if a0_1<0 then (spec_Pack.j0 k true a0_0 a0_1 a0_2 a0_3 a0_4) else (if a0_1 > 255 then (spec_Pack.j0 k true a0_0 a0_1 a0_2 a0_3 a0_4) else (if a0_2<0 then (spec_Pack.j0 k true a0_0 a0_1 a0_2 a0_3 a0_4) else (if a0_2 > 511 then (spec_Pack.j0 k true a0_0 a0_1 a0_2 a0_3 a0_4) else (if a0_3<0 then (spec_Pack.j0 k true a0_0 a0_1 a0_2 a0_3 a0_4) else (spec_Pack.j0 k (decide (a0_3 > 511)) a0_0 a0_1 a0_2 a0_3 a0_4))))))))=some r:=h
 clear h;have HC2:=Ak H;clear H
 go_enter Try.func71,Try.ntmps71
 go_upto_region 1 with (first|((with_reducible refine gate_dst (N:=1) rfl ?_);refine box_event ?hg (N:=1) ?hd (cs:=#[.int .i64 a0_0,.int .i64 a0_1,.int .i64 a0_2,.int .i64 a0_3,.int .i64 a0_4]) (t:=118) ?hr ?_;(case hd=>rfl);(case hg=>rfl);(case hr=>first|(go_simp;done)|(go_simp;rfl));intro gb126 hg w3 hbox hb;have n0_:=Ak (below_step (by repeat (first|(with_reducible first|exact HB.out|apply below_alloc|apply pw_below_drewN|apply below_drew1)|exact HB.out)) hb);have n1_:=Ak (hbox);have n2_:=Ak ((by rw [hg];exact (below_size (by repeat (first|(with_reducible first|exact HB.out|apply below_alloc|apply pw_below_drewN|apply below_drew1)|exact HB.out))):w.heap.size≤gb126));have n3_:=Ak ((by rw [hg];exact (below_size (by repeat (first|(with_reducible first|exact HB.out|apply below_alloc|apply pw_below_drewN|apply below_drew1)|exact HB.out))):w.heap.size≤gb126));clear HB;have HB:=n0_;have BK126:=n1_;have GW126:=n2_;have GE126:=n3_;clear n0_ n1_ n2_ n3_;clear hb hbox hg))
 (try simp only [Act.put,List.setIfInBounds_toArray,List.set_cons_zero,List.set_cons_succ])
 go_cut [41] (fun v41 wc=>∃ (kq:Nat) (x41_1:Bool),v41=.bool x41_1∧Aside0 (spec_Pack.j0 kq x41_1 a0_0 a0_1 a0_2 a0_3 a0_4=some r)∧Aside0 (kq≤k)∧Aside0 (wc.heap[gb126]?=some (.cells #[.int .i64 a0_0,.int .i64 a0_1,.int .i64 a0_2,.int .i64 a0_3,.int .i64 a0_4] 118 (0,0)))∧Aside0 (Below w.heap.size w wc))
 case first =>
  have H:=HC2.out
  clear HC2
  by_cases c4:a0_0<0
  ·rw [if_pos c4] at H
   have c4b0:decide (a0_0<0)=true:=decide_eq_true c4
   clear c4
   (first|rw [c4b0]|(simp only [i64_w,i32_w];rw [c4b0])|skip)
   have H':=Ak H
   clear H
   obtain ⟨hcz5_0,hcz5_1,hcz5_2,hcz5_3,hcz5_4,hfz5_0,hfz5_1,hfz5_2,hfz5_3,hfz5_4⟩:=bk5 BK126.out
   go_wp2
   go_meet
   case rel=>exact ⟨_,(true),(by first|rfl|(simp;done)|(simp [*];done)),H',⟨by first|omega|exact Nat.le_refl _⟩,⟨by (with_reducible repeat (first|refine blk_drewN ?_ _|refine blk_drew ?_|refine blk_alloc ?_ _));exact BK126.out⟩,⟨by repeat (first|(with_reducible first|exact HB.out|apply below_alloc|apply pw_below_drewN|apply below_drew1|refine below_set ?_ GE126.out)|exact HB.out)⟩⟩
  ·rw [if_neg c4] at H
   have c4b0:decide (a0_0<0)=false:=decide_eq_false c4
   clear c4
   (first|rw [c4b0]|(simp only [i64_w,i32_w];rw [c4b0])|skip)
   by_cases c6:a0_0 > 63
   ·rw [if_pos c6] at H
    have c6b0:decide (63<a0_0)=true:=decide_eq_true c6
    clear c6
    have H':=Ak H
    clear H
    obtain ⟨hcz7_0,hcz7_1,hcz7_2,hcz7_3,hcz7_4,hfz7_0,hfz7_1,hfz7_2,hfz7_3,hfz7_4⟩:=bk5 BK126.out
    go_wp2
    go_meet
    case rel=>exact ⟨_,(true),(by first|rfl|(simp;done)|(simp [*];done)),H',⟨by first|omega|exact Nat.le_refl _⟩,⟨by (with_reducible repeat (first|refine blk_drewN ?_ _|refine blk_drew ?_|refine blk_alloc ?_ _));exact BK126.out⟩,⟨by repeat (first|(with_reducible first|exact HB.out|apply below_alloc|apply pw_below_drewN|apply below_drew1|refine below_set ?_ GE126.out)|exact HB.out)⟩⟩
   ·rw [if_neg c6] at H
    have c6b0:decide (63<a0_0)=false:=decide_eq_false c6
    clear c6
    by_cases c8:a0_1<0
    ·rw [if_pos c8] at H
     have c8b0:decide (a0_1<0)=true:=decide_eq_true c8
     clear c8
     have H':=Ak H
     clear H
     obtain ⟨hcz9_0,hcz9_1,hcz9_2,hcz9_3,hcz9_4,hfz9_0,hfz9_1,hfz9_2,hfz9_3,hfz9_4⟩:=bk5 BK126.out
     go_wp2
     go_meet
     case rel=>exact ⟨_,(true),(by first|rfl|(simp;done)|(simp [*];done)),H',⟨by first|omega|exact Nat.le_refl _⟩,⟨by (with_reducible repeat (first|refine blk_drewN ?_ _|refine blk_drew ?_|refine blk_alloc ?_ _));exact BK126.out⟩,⟨by repeat (first|(with_reducible first|exact HB.out|apply below_alloc|apply pw_below_drewN|apply below_drew1|refine below_set ?_ GE126.out)|exact HB.out)⟩⟩
    ·rw [if_neg c8] at H
     have c8b0:decide (a0_1<0)=false:=decide_eq_false c8
     clear c8
     by_cases c10:a0_1 > 255
     ·rw [if_pos c10] at H
      have c10b0:decide (255<a0_1)=true:=decide_eq_true c10
      clear c10
      have H':=Ak H
      clear H
      obtain ⟨hcz11_0,hcz11_1,hcz11_2,hcz11_3,hcz11_4,hfz11_0,hfz11_1,hfz11_2,hfz11_3,hfz11_4⟩:=bk5 BK126.out
      go_wp2
      go_meet
      case rel=>exact ⟨_,(true),(by first|rfl|(simp;done)|(simp [*];done)),H',⟨by first|omega|exact Nat.le_refl _⟩,⟨by (with_reducible repeat (first|refine blk_drewN ?_ _|refine blk_drew ?_|refine blk_alloc ?_ _));exact BK126.out⟩,⟨by repeat (first|(with_reducible first|exact HB.out|apply below_alloc|apply pw_below_drewN|apply below_drew1|refine below_set ?_ GE126.out)|exact HB.out)⟩⟩
     ·rw [if_neg c10] at H
      have c10b0:decide (255<a0_1)=false:=decide_eq_false c10
      clear c10
      by_cases c12:a0_2<0
      ·rw [if_pos c12] at H
       have c12b0:decide (a0_2<0)=true:=decide_eq_true c12
       clear c12
       have H':=Ak H
       clear H
       obtain ⟨hcz13_0,hcz13_1,hcz13_2,hcz13_3,hcz13_4,hfz13_0,hfz13_1,hfz13_2,hfz13_3,hfz13_4⟩:=bk5 BK126.out
       go_wp2
       go_meet
       case rel=>exact ⟨_,(true),(by first|rfl|(simp;done)|(simp [*];done)),H',⟨by first|omega|exact Nat.le_refl _⟩,⟨by (with_reducible repeat (first|refine blk_drewN ?_ _|refine blk_drew ?_|refine blk_alloc ?_ _));exact BK126.out⟩,⟨by repeat (first|(with_reducible first|exact HB.out|apply below_alloc|apply pw_below_drewN|apply below_drew1|refine below_set ?_ GE126.out)|exact HB.out)⟩⟩
      ·rw [if_neg c12] at H
       have c12b0:decide (a0_2<0)=false:=decide_eq_false c12
       clear c12
       by_cases c14:a0_2 > 511
       ·rw [if_pos c14] at H
        have c14b0:decide (511<a0_2)=true:=decide_eq_true c14
        clear c14
        have H':=Ak H
        clear H
        obtain ⟨hcz15_0,hcz15_1,hcz15_2,hcz15_3,hcz15_4,hfz15_0,hfz15_1,hfz15_2,hfz15_3,hfz15_4⟩:=bk5 BK126.out
        go_wp2
        go_meet
        case rel=>exact ⟨_,(true),(by first|rfl|(simp;done)|(simp [*];done)),H',⟨by first|omega|exact Nat.le_refl _⟩,⟨by (with_reducible repeat (first|refine blk_drewN ?_ _|refine blk_drew ?_|refine blk_alloc ?_ _));exact BK126.out⟩,⟨by repeat (first|(with_reducible first|exact HB.out|apply below_alloc|apply pw_below_drewN|apply below_drew1|refine below_set ?_ GE126.out)|exact HB.out)⟩⟩
       ·rw [if_neg c14] at H
        have c14b0:decide (511<a0_2)=false:=decide_eq_false c14
        clear c14
        by_cases c16:a0_3<0
        ·rw [if_pos c16] at H
         have c16b0:decide (a0_3<0)=true:=decide_eq_true c16
         clear c16
         have H':=Ak H
         clear H
         obtain ⟨hcz17_0,hcz17_1,hcz17_2,hcz17_3,hcz17_4,hfz17_0,hfz17_1,hfz17_2,hfz17_3,hfz17_4⟩:=bk5 BK126.out
         go_wp2
         go_meet
         case rel=>exact ⟨_,(true),(by first|rfl|(simp;done)|(simp [*];done)),H',⟨by first|omega|exact Nat.le_refl _⟩,⟨by (with_reducible repeat (first|refine blk_drewN ?_ _|refine blk_drew ?_|refine blk_alloc ?_ _));exact BK126.out⟩,⟨by repeat (first|(with_reducible first|exact HB.out|apply below_alloc|apply pw_below_drewN|apply below_drew1|refine below_set ?_ GE126.out)|exact HB.out)⟩⟩
        ·rw [if_neg c16] at H
         have c16b0:decide (a0_3<0)=false:=decide_eq_false c16
         clear c16
         have H':=Ak H
         clear H
         obtain ⟨hcz18_0,hcz18_1,hcz18_2,hcz18_3,hcz18_4,hfz18_0,hfz18_1,hfz18_2,hfz18_3,hfz18_4⟩:=bk5 BK126.out
         go_wp2
         go_meet
         case rel=>exact ⟨_,(decide (a0_3 > 511)),(by first|rfl|(simp;done)|(simp [*];done)),H',⟨by first|omega|exact Nat.le_refl _⟩,⟨by (with_reducible repeat (first|refine blk_drewN ?_ _|refine blk_drew ?_|refine blk_alloc ?_ _));exact BK126.out⟩,⟨by repeat (first|(with_reducible first|exact HB.out|apply below_alloc|apply pw_below_drewN|apply below_drew1|refine below_set ?_ GE126.out)|exact HB.out)⟩⟩
 case rest =>
  clear HC2;(try clear c1);(try clear p2);(try clear c4);(try clear c4b0);(try clear c6);(try clear c6b0);(try clear c7);(try clear c8);(try clear c8b0);(try clear c10);(try clear c10b0);(try clear c12);(try clear c12b0);(try clear c14);(try clear c14b0);(try clear c16);(try clear c16b0);(try clear hcz11_0);(try clear hcz11_1);(try clear hcz11_2);(try clear hcz11_3);(try clear hcz11_4)
  (try clear hcz13_0);(try clear hcz13_1);(try clear hcz13_2);(try clear hcz13_3);(try clear hcz13_4);(try clear hcz15_0);(try clear hcz15_1);(try clear hcz15_2);(try clear hcz15_3);(try clear hcz15_4);(try clear hcz17_0);(try clear hcz17_1);(try clear hcz17_2);(try clear hcz17_3);(try clear hcz17_4);(try clear hcz18_0);(try clear hcz18_1);(try clear hcz18_2);(try clear hcz18_3)
  (try clear hcz18_4);(try clear hcz5_0);(try clear hcz5_1);(try clear hcz5_2);(try clear hcz5_3);(try clear hcz5_4);(try clear hcz7_0);(try clear hcz7_1);(try clear hcz7_2);(try clear hcz7_3);(try clear hcz7_4);(try clear hcz9_0);(try clear hcz9_1);(try clear hcz9_2);(try clear hcz9_3);(try clear hcz9_4);(try clear hfz11_0);(try clear hfz11_1);(try clear hfz11_2);(try clear hfz11_3)
  (try clear hfz11_4);(try clear hfz13_0);(try clear hfz13_1);(try clear hfz13_2);(try clear hfz13_3);(try clear hfz13_4);(try clear hfz15_0);(try clear hfz15_1);(try clear hfz15_2);(try clear hfz15_3);(try clear hfz15_4);(try clear hfz17_0);(try clear hfz17_1);(try clear hfz17_2);(try clear hfz17_3);(try clear hfz17_4);(try clear hfz18_0);(try clear hfz18_1);(try clear hfz18_2)
  (try clear hfz18_3);(try clear hfz18_4);(try clear hfz5_0);(try clear hfz5_1);(try clear hfz5_2);(try clear hfz5_3);(try clear hfz5_4);(try clear hfz7_0);(try clear hfz7_1);(try clear hfz7_2);(try clear hfz7_3);(try clear hfz7_4);(try clear hfz9_0);(try clear hfz9_1);(try clear hfz9_2);(try clear hfz9_3);(try clear hfz9_4)
  obtain ⟨kq,x41_1,rfl,HA,HJ1,BK126,HB⟩:=hcut
  cases kq with
  | zero=>exact absurd HA.out (by simp [spec_Pack.j0])
  | succ kj1 =>
   have H:=HA.out
   clear HA
   simp only [spec_Pack.j0] at H
   by_cases c19:x41_1=true
   ·subst c19
    have H1:(some 0)=some r:=by rw [if_pos rfl] at H;exact H
    clear H;have H:=H1;clear H1
    obtain rfl:=Option.some.inj H
    go_wp2
    go_ret
    exact ⟨by first|rfl|(simp [errW_none,errW_some] <;> rfl)|(simp [*,errW_none,errW_some] <;> rfl),by repeat (first|(with_reducible first|exact HB.out|apply below_alloc|apply pw_below_drewN|apply below_drew1|refine below_set ?_ GE126.out)|exact HB.out)⟩
   ·replace c19:=Bool.eq_false_iff.mpr c19
    subst c19
    have H1:((spec_Unpack.f ((wrap64 ((wrap64 ((wrap64 (a0_0+(wrap64 (64*a0_1))))+(wrap64 (16384*a0_2))))+(wrap64 (8388608*a0_3)))) % 4294967296)).bind fun bt127=>(if (!(bt127.1 == a0_0) || (!(bt127.2.1 == a0_1) || (!(bt127.2.2.1 == a0_2) || (!(bt127.2.2.2.1 == a0_3) || (!(bt127.2.2.2.2 == a0_4))))))=true then (some 0) else (some ((wrap64 ((wrap64 ((wrap64 (a0_0+(wrap64 (64*a0_1))))+(wrap64 (16384*a0_2))))+(wrap64 (8388608*a0_3)))) % 4294967296))))=some r:=by rw [if_neg (show ¬ (false=true) by decide)] at H;exact H
    clear H;have H:=H1;clear H1
    replace H:=Option.bind_eq_some_iff.mp H
    obtain ⟨⟨t127,t128,t129,t130,t131⟩,A200,H⟩:=H
    replace H:(if (!(t127 == a0_0) || (!(t128 == a0_1) || (!(t129 == a0_2) || (!(t130 == a0_3) || (!(t131 == a0_4))))))=true then (some 0) else (some ((wrap64 ((wrap64 ((wrap64 (a0_0+(wrap64 (64*a0_1))))+(wrap64 (16384*a0_2))))+(wrap64 (8388608*a0_3)))) % 4294967296)))=some r:=H
    have A20:=Ak A200;clear A200
    by_cases c21:(!(t127 == a0_0) || (!(t128 == a0_1) || (!(t129 == a0_2) || (!(t130 == a0_3) || (!(t131 == a0_4))))))=true
    ·rw [if_pos c21] at H
     have c21b0:(!(t127 == a0_0) || (!(t128 == a0_1) || (!(t129 == a0_2) || (!(t130 == a0_3) || (!(t131 == a0_4))))))=true:=c21
     clear c21
     obtain rfl:=Option.some.inj H
     obtain ⟨hcz22_0,hcz22_1,hcz22_2,hcz22_3,hcz22_4,hfz22_0,hfz22_1,hfz22_2,hfz22_3,hfz22_4⟩:=bk5 BK126.out
     try go_wp2
     have n0_:=Ak (blk_drew BK126.out)
     have n1_:=Ak (below_drew1 HB.out)
     clear BK126;clear HB;have BK126:=n0_;have HB:=n1_;clear n0_ n1_
     refine start_ (n:=4) (S:=fun w'=>w'.cell? ⟨gb126,0,none⟩=some (.int .i64 a0_0)∧w'.cell? ⟨gb126,1,none⟩=some (.int .i64 a0_1)∧w'.cell? ⟨gb126,2,none⟩=some (.int .i64 a0_2)∧w'.cell? ⟨gb126,3,none⟩=some (.int .i64 a0_3)∧w'.cell? ⟨gb126,4,none⟩=some (.int .i64 a0_4)) (ds:=[]) #[false,false,false,false] (by kernel_rfl) rfl rfl ⟨(blk_cell BK126.out 0).trans rfl,(blk_cell BK126.out 1).trans rfl,(blk_cell BK126.out 2).trans rfl,(blk_cell BK126.out 3).trans rfl,(blk_cell BK126.out 4).trans rfl⟩ (fun hHeld=>?_)
     generalize wc.drew=w23 at BK126 HB hHeld ⊢
     refine pure_ (i:=0) (N:=some 57) (v:=?_) (a':=?_) #[true,false,false,false] rfl rfl (by kernel_rfl) (fun _ _ _ h=>h) (Or.inl ⟨by rfl,?_⟩) ?_ ?_
     rotate_left
     ·intro w'
      go_simp
      with_reducible rfl
     rotate_left
     ·simp only [Act.put,List.setIfInBounds_toArray,List.set_cons_zero,List.set_cons_succ,i64_w,i32_w]
      rfl
     refine take_ (i:=2) (N:=some 59) (v:=?_) (a':=?_) #[true,false,true,false] rfl rfl (by kernel_rfl) (fun _ _ _ h=>h) (Or.inl ⟨by rfl,?_⟩) hHeld ?_ ?_
     rotate_left
     ·rintro w' ⟨s0,s1,s2,s3,s4⟩
      go_simp
      with_reducible rfl
     rotate_left
     ·simp only [Act.put,List.setIfInBounds_toArray,List.set_cons_zero,List.set_cons_succ,i64_w,i32_w]
      rfl
     refine one_ (i:=1) (N:=some 58) #[true,true,true,false] rfl rfl (by kernel_rfl) (by decide) (fun K hK=>?_)
     refine goes_ Try.func122 (by kernel_rfl) rfl #[.int .u32 ((wrap64 ((wrap64 ((wrap64 (a0_0+(wrap64 (64*a0_1))))+(wrap64 (16384*a0_2))))+(wrap64 (8388608*a0_3)))) % 4294967296)] (by rfl) rfl rfl (by (try simp only [List.map_toArray,List.map_cons,List.map_nil]);first|done|rfl|(simp only [List.length_drop,List.length_take];rfl)) ?_
     with_reducible refine (spec_Unpack.calls ((wrap64 ((wrap64 ((wrap64 (a0_0+(wrap64 (64*a0_1))))+(wrap64 (16384*a0_2))))+(wrap64 (8388608*a0_3)))) % 4294967296) t127 t128 t129 t130 t131 _ A20.out).mono ?_
     rintro e w24 ⟨rfl,hb⟩
     refine ⟨_,rfl,?_⟩
     have n0_:=Ak (blk_below (g:=gb126) (by (with_reducible repeat (first|refine blk_drewN ?_ _|refine blk_drew ?_|refine blk_alloc ?_ _));exact BK126.out) hb)
     have n1_:=Ak (below_step (by repeat (first|(with_reducible first|exact HB.out|apply below_alloc|apply pw_below_drewN|apply below_drew1|refine below_set ?_ GE126.out)|exact HB.out)) hb)
     clear BK126;clear HB;have BK126:=n0_;have HB:=n1_;clear n0_ n1_
     (try clear hb)
     (try clear hb2)
     (try clear hk)
     (try clear hi)
     refine hK.out _ _ ⟨(blk_cell BK126.out 0).trans rfl,(blk_cell BK126.out 1).trans rfl,(blk_cell BK126.out 2).trans rfl,(blk_cell BK126.out 3).trans rfl,(blk_cell BK126.out 4).trans rfl⟩ (fun hHeld=>?_)
     clear hK K
     refine norm_ (a':=?_) ?_ ?_
     rotate_left
     ·show Act.put _ (some 58) _=_
      simp only [Act.put,List.setIfInBounds_toArray,List.set_cons_zero,List.set_cons_succ,i64_w,i32_w]
      rfl
     refine pure_ (i:=3) (N:=some 60) (v:=?_) (a':=?_) #[true,true,true,true] rfl rfl (by kernel_rfl) (fun _ _ _ h=>h) (Or.inl ⟨by rfl,?_⟩) ?_ ?_
     rotate_left
     ·intro w'
      go_simp
      with_reducible rfl
     rotate_left
     ·simp only [Act.put,List.setIfInBounds_toArray,List.set_cons_zero,List.set_cons_succ,i64_w,i32_w]
      rfl
     refine done_ (by kernel_rfl) ?_
     try go_wp2
     go_ret
     exact ⟨by first|rfl|(simp [errW_none,errW_some] <;> rfl)|(simp [*,errW_none,errW_some] <;> rfl),by repeat (first|(with_reducible first|exact HB.out|apply below_alloc|apply pw_below_drewN|apply below_drew1|refine below_set ?_ GE126.out)|exact HB.out)⟩
    ·rw [if_neg c21] at H
     have c21b0:(!(t127 == a0_0) || (!(t128 == a0_1) || (!(t129 == a0_2) || (!(t130 == a0_3) || (!(t131 == a0_4))))))=false:=by simpa using c21
     clear c21
     obtain rfl:=Option.some.inj H
     obtain ⟨hcz25_0,hcz25_1,hcz25_2,hcz25_3,hcz25_4,hfz25_0,hfz25_1,hfz25_2,hfz25_3,hfz25_4⟩:=bk5 BK126.out
     try go_wp2
     have n0_:=Ak (blk_drew BK126.out)
     have n1_:=Ak (below_drew1 HB.out)
     clear BK126;clear HB;have BK126:=n0_;have HB:=n1_;clear n0_ n1_
     refine start_ (n:=4) (S:=fun w'=>w'.cell? ⟨gb126,0,none⟩=some (.int .i64 a0_0)∧w'.cell? ⟨gb126,1,none⟩=some (.int .i64 a0_1)∧w'.cell? ⟨gb126,2,none⟩=some (.int .i64 a0_2)∧w'.cell? ⟨gb126,3,none⟩=some (.int .i64 a0_3)∧w'.cell? ⟨gb126,4,none⟩=some (.int .i64 a0_4)) (ds:=[]) #[false,false,false,false] (by kernel_rfl) rfl rfl ⟨(blk_cell BK126.out 0).trans rfl,(blk_cell BK126.out 1).trans rfl,(blk_cell BK126.out 2).trans rfl,(blk_cell BK126.out 3).trans rfl,(blk_cell BK126.out 4).trans rfl⟩ (fun hHeld=>?_)
     generalize wc.drew=w26 at BK126 HB hHeld ⊢
     refine pure_ (i:=0) (N:=some 57) (v:=?_) (a':=?_) #[true,false,false,false] rfl rfl (by kernel_rfl) (fun _ _ _ h=>h) (Or.inl ⟨by rfl,?_⟩) ?_ ?_
     rotate_left
     ·intro w'
      go_simp
      with_reducible rfl
     rotate_left
     ·simp only [Act.put,List.setIfInBounds_toArray,List.set_cons_zero,List.set_cons_succ,i64_w,i32_w]
      rfl
     refine take_ (i:=2) (N:=some 59) (v:=?_) (a':=?_) #[true,false,true,false] rfl rfl (by kernel_rfl) (fun _ _ _ h=>h) (Or.inl ⟨by rfl,?_⟩) hHeld ?_ ?_
     rotate_left
     ·rintro w' ⟨s0,s1,s2,s3,s4⟩
      go_simp
      with_reducible rfl
     rotate_left
     ·simp only [Act.put,List.setIfInBounds_toArray,List.set_cons_zero,List.set_cons_succ,i64_w,i32_w]
      rfl
     refine one_ (i:=1) (N:=some 58) #[true,true,true,false] rfl rfl (by kernel_rfl) (by decide) (fun K hK=>?_)
     refine goes_ Try.func122 (by kernel_rfl) rfl #[.int .u32 ((wrap64 ((wrap64 ((wrap64 (a0_0+(wrap64 (64*a0_1))))+(wrap64 (16384*a0_2))))+(wrap64 (8388608*a0_3)))) % 4294967296)] (by rfl) rfl rfl (by (try simp only [List.map_toArray,List.map_cons,List.map_nil]);first|done|rfl|(simp only [List.length_drop,List.length_take];rfl)) ?_
     with_reducible refine (spec_Unpack.calls ((wrap64 ((wrap64 ((wrap64 (a0_0+(wrap64 (64*a0_1))))+(wrap64 (16384*a0_2))))+(wrap64 (8388608*a0_3)))) % 4294967296) t127 t128 t129 t130 t131 _ A20.out).mono ?_
     rintro e w27 ⟨rfl,hb⟩
     refine ⟨_,rfl,?_⟩
     have n0_:=Ak (blk_below (g:=gb126) (by (with_reducible repeat (first|refine blk_drewN ?_ _|refine blk_drew ?_|refine blk_alloc ?_ _));exact BK126.out) hb)
     have n1_:=Ak (below_step (by repeat (first|(with_reducible first|exact HB.out|apply below_alloc|apply pw_below_drewN|apply below_drew1|refine below_set ?_ GE126.out)|exact HB.out)) hb)
     clear BK126;clear HB;have BK126:=n0_;have HB:=n1_;clear n0_ n1_
     (try clear hb)
     (try clear hb2)
     (try clear hk)
     (try clear hi)
     refine hK.out _ _ ⟨(blk_cell BK126.out 0).trans rfl,(blk_cell BK126.out 1).trans rfl,(blk_cell BK126.out 2).trans rfl,(blk_cell BK126.out 3).trans rfl,(blk_cell BK126.out 4).trans rfl⟩ (fun hHeld=>?_)
     clear hK K
     refine norm_ (a':=?_) ?_ ?_
     rotate_left
     ·show Act.put _ (some 58) _=_
      simp only [Act.put,List.setIfInBounds_toArray,List.set_cons_zero,List.set_cons_succ,i64_w,i32_w]
      rfl
     refine pure_ (i:=3) (N:=some 60) (v:=?_) (a':=?_) #[true,true,true,true] rfl rfl (by kernel_rfl) (fun _ _ _ h=>h) (Or.inl ⟨by rfl,?_⟩) ?_ ?_
     rotate_left
     ·intro w'
      go_simp
      with_reducible rfl
     rotate_left
     ·simp only [Act.put,List.setIfInBounds_toArray,List.set_cons_zero,List.set_cons_succ,i64_w,i32_w]
      rfl
     refine done_ (by kernel_rfl) ?_
     try go_wp2
     go_ret
     exact ⟨by first|rfl|(simp [errW_none,errW_some] <;> rfl)|(simp [*,errW_none,errW_some] <;> rfl),by repeat (first|(with_reducible first|exact HB.out|apply below_alloc|apply pw_below_drewN|apply below_drew1|refine below_set ?_ GE126.out)|exact HB.out)⟩
def wI (o a b c:Int):Int:=o+64*a+16384*b+8388608*c
def inI (o a b c:Int):Prop:=0≤o∧o≤63∧0≤a∧a≤255∧0≤b∧b≤511∧0≤c∧c≤511
instance (o a b c:Int):Decidable (inI o a b c):=by unfold inI;infer_instance
def spec_l4I.f (a0 a1 a2 a3:Int):Option Int:=if inI a0 a1 a2 a3 then some (wI a0 a1 a2 a3) else none
theorem pack_wI {o a b c:Int} (h:inI o a b c):spec_Pack.f 1 o a b c (b+512*c-131072)=some (wI o a b c):=by
 obtain ⟨h0,h1,h2,h3,h4,h5,h6,h7⟩:=h
 have e1:wrap64 (64*a)=64*a:=by unfold wrap64;omega
 have e2:wrap64 (16384*b)=16384*b:=by unfold wrap64;omega
 have e3:wrap64 (8388608*c)=8388608*c:=by unfold wrap64;omega
 have e4:wrap64 (o+64*a)=o+64*a:=by unfold wrap64;omega
 have e5:wrap64 (o+64*a+16384*b)=o+64*a+16384*b:=by unfold wrap64;omega
 have e6:wrap64 (o+64*a+16384*b+8388608*c)=o+64*a+16384*b+8388608*c:=by unfold wrap64;omega
 have e7:(o+64*a+16384*b+8388608*c) % 4294967296=wI o a b c:=by unfold wI;omega
 have u:spec_Unpack.f (wI o a b c)=some (o,a,b,c,b+512*c-131072):=by
  unfold spec_Unpack.f wI
  rw [if_pos (by omega)]
  simp only [Option.some.injEq,Prod.mk.injEq]
  omega
 unfold spec_Pack.f
 rw [if_neg (by omega),if_neg (by omega),if_neg (by omega),if_neg (by omega),if_neg (by omega),if_neg (by omega),if_neg (by omega),decide_eq_false (by omega)]
 rw [show (1:Nat)=0+1 from rfl,spec_Pack.j0]
 rw [if_neg (by decide),e1,e2,e3,e4,e5,e6,e7,u,Option.bind_some,if_neg (by simp)]
set_option maxRecDepth 100000 in
set_option maxHeartbeats 8000000 in
theorem l4I_calls (a0 a1 a2 a3:Int) (w:World) (h:inI a0 a1 a2 a3) :
  Calls Try.prog 119 #[.int .i64 a0,.int .i64 a1,.int .i64 a2,.int .i64 a3] w fun e w'=>e=.returned (.int .u32 (wI a0 a1 a2 a3))∧Below w.heap.size w w':=by
 have hu118:=Try.underlying118
 have E:=Ak (pack_wI h)
 have W1:wrap64 (wrap64 (a2+wrap64 (512*a3))-131072)=a2+512*a3-131072:=by
  obtain ⟨h0,h1,h2,h3,h4,h5,h6,h7⟩:=h
  unfold wrap64
  omega
 have W2:=Ak W1;clear W1 h
 go_enter Try.func119,Try.ntmps119
 go_wp2_with (go_at_call 71;refine (spec_Pack.calls 1 a0 a1 a2 a3 _ (wI a0 a1 a2 a3) _ (by show spec_Pack.f 1 a0 a1 a2 a3 (wrap64 (wrap64 (a2+wrap64 (512*a3))-131072))=_;rw [W2.out];exact E.out)).mono ?_;rintro e w6 ⟨rfl,hb⟩;have HB:=Ak hb;clear hb)
 go_ret
 exact ⟨rfl,HB.out⟩
theorem spec_l4I.calls (a0 a1 a2 a3:Int) (r:Int) (w:World) (h:spec_l4I.f a0 a1 a2 a3=some r) :
  Calls Try.prog 119 #[.int .i64 a0,.int .i64 a1,.int .i64 a2,.int .i64 a3] w fun e w'=>e=.returned (.int .u32 r)∧Below w.heap.size w w':=by
 unfold spec_l4I.f at h
 split at h
 case isFalse=>cases h
 case isTrue hg =>
  obtain rfl:=Option.some.inj h
  exact l4I_calls a0 a1 a2 a3 w hg
end Go.Proofs.Ytiekodnojmkfaaa.PFnEnds
