import Derived.Test.YtiekodnojmkfaaaGreatDoorPFnDumpx0
import Derived.Test.YtiekodnojmkfaaaGreatDoorPFnDumpx3
namespace Go.Proofs.YtiekodnojmkfaaaGreatDoor.yD
set_option maxHeartbeats 8000000
set_option maxRecDepth 100000
open Go.RowKit Go.Proofs.YtiekodnojmkfaaaGreatDoorW.zF Go.Proofs.YtiekodnojmkfaaaGreatDoorW.yC Go.Proofs.YtiekodnojmkfaaaGreatDoorW.yY
attribute [local go_sem] xM xO qG qH yZ xg xP xQ
set_option linter.unusedVariables false
set_option linter.unusedSimpArgs false
attribute [local go_sem high] eqA106
def zx.j0:Nat→List Int→Int→Int→Bool→Option (Int×Int)
 | 0,_,_,_,_=>none
 | k+1,x0,x1,x2,x17=>if x17=true then (some (0,wrap64 (x1+1))) else (if x1<(x0.length:Int) then (if x2≤256 then (if 0≤x1 then (if x2=0 then (none) else (some (Int.tmod (wrap64 (rd x0 x1)) x2,wrap64 (x1+1)))) else (none)) else (if (x0.length:Int)=0 then (none) else (if 0≤(Int.tmod x1 (x0.length:Int)) then (if (Int.tmod x1 (x0.length:Int))<(x0.length:Int) then (if 0≤(Int.tmod (wrap64 ((wrap64 (x1*7))+3)) (x0.length:Int)) then (if (Int.tmod (wrap64 ((wrap64 (x1*7))+3)) (x0.length:Int))<(x0.length:Int) then (if x2=0 then (none) else (some (Int.tmod (Go.bits .xor .i64 (wrap64 ((wrap64 ((wrap64 ((wrap64 ((wrap64 (rd x0 (Int.tmod x1 (x0.length:Int))))*131))+(wrap64 ((wrap64 (rd x0 (Int.tmod (wrap64 ((wrap64 (x1*7))+3)) (x0.length:Int))))*1117))))+(wrap64 (x1*29))))+(wrap64 ((wrap64 (Int.tdiv x1 (x0.length:Int)))*53)))) (wrap64 (Int.tdiv (wrap64 ((wrap64 ((wrap64 ((wrap64 ((wrap64 (rd x0 (Int.tmod x1 (x0.length:Int))))*131))+(wrap64 ((wrap64 (rd x0 (Int.tmod (wrap64 ((wrap64 (x1*7))+3)) (x0.length:Int))))*1117))))+(wrap64 (x1*29))))+(wrap64 ((wrap64 (Int.tdiv x1 (x0.length:Int)))*53)))) 64))) x2,wrap64 (x1+1)))) else (none)) else (none)) else (none)) else (none)))) else (if (x0.length:Int)=0 then (none) else (if 0≤(Int.tmod x1 (x0.length:Int)) then (if (Int.tmod x1 (x0.length:Int))<(x0.length:Int) then (if 0≤(Int.tmod (wrap64 ((wrap64 (x1*7))+3)) (x0.length:Int)) then (if (Int.tmod (wrap64 ((wrap64 (x1*7))+3)) (x0.length:Int))<(x0.length:Int) then (if x2=0 then (none) else (some (Int.tmod (Go.bits .xor .i64 (wrap64 ((wrap64 ((wrap64 ((wrap64 ((wrap64 (rd x0 (Int.tmod x1 (x0.length:Int))))*131))+(wrap64 ((wrap64 (rd x0 (Int.tmod (wrap64 ((wrap64 (x1*7))+3)) (x0.length:Int))))*1117))))+(wrap64 (x1*29))))+(wrap64 ((wrap64 (Int.tdiv x1 (x0.length:Int)))*53)))) (wrap64 (Int.tdiv (wrap64 ((wrap64 ((wrap64 ((wrap64 ((wrap64 (rd x0 (Int.tmod x1 (x0.length:Int))))*131))+(wrap64 ((wrap64 (rd x0 (Int.tmod (wrap64 ((wrap64 (x1*7))+3)) (x0.length:Int))))*1117))))+(wrap64 (x1*29))))+(wrap64 ((wrap64 (Int.tdiv x1 (x0.length:Int)))*53)))) 64))) x2,wrap64 (x1+1)))) else (none)) else (none)) else (none)) else (none))))
def zx.f (k:Nat) (l0:List Int) (a1:Int) (a2:Int):Option (Int×Int):=if a2<1 then (zx.j0 k l0 a1 a2 true) else (zx.j0 k l0 a1 a2 ((l0.length:Int) == 0))
theorem zx.mono_l:∀ k,(∀ y0 y1 y2 y3,LeO (zx.j0 k y0 y1 y2 y3) (zx.j0 (k+1) y0 y1 y2 y3))
 | 0=>fun _ _ _ _ r h=>by simp [zx.j0] at h
 | k+1=>by
  have ih0:=zx.mono_l k
  ·intro y0 y1 y2 y3
   unfold zx.j0
   repeat' first
   | (with_reducible exact ih0 _ _ _ _)
   | (with_reducible exact LeO.refl _)
   | (with_reducible exact LeO.none _)
   | (with_reducible refine LeO.ite ?_ ?_)
   | (with_reducible refine LeO.bind ?_ (fun _=>?_))
   | exact ih0 _ _ _ _
   | exact LeO.none _
   | refine LeO.ite ?_ ?_
   | refine LeO.bind ?_ (fun _=>?_)
theorem zx.mono:∀ a0 a1 a2 k,LeO (zx.f k a0 a1 a2) (zx.f (k+1) a0 a1 a2):=by
 intro a0 a1 a2 k
 have ih0:=zx.mono_l k
 unfold zx.f
 repeat' first
   | (with_reducible exact ih0 _ _ _ _)
   | (with_reducible exact LeO.refl _)
   | (with_reducible exact LeO.none _)
   | (with_reducible refine LeO.ite ?_ ?_)
   | (with_reducible refine LeO.bind ?_ (fun _=>?_))
   | exact ih0 _ _ _ _
   | exact LeO.none _
   | refine LeO.ite ?_ ?_
   | refine LeO.bind ?_ (fun _=>?_)
theorem zx.calls (k:Nat) (A0:Option Addr) (c0:Nat) (l0:List Int) (a1:Int) (a2:Int) (r1:Int) (r2:Int) (w:World) (hr0:Kd.C (Kd.int .u8) w A0 l0.length l0) (hc0:l0.length≤c0) (h:zx.f k l0 a1 a2=some (r1,r2)) :
  Calls Tryz.prog 14 #[.slice A0 l0.length c0,.int .i64 a1,.int .i64 a2] w fun e w'=>e=.returned (.tuple #[.int .i64 r1,.int .i64 r2])∧xX w w':=by
 have HR0:=Ak hr0;have HC0:=Ak hc0;clear hr0 hc0
 have H:(if a2<1 then (zx.j0 k l0 a1 a2 true) else (zx.j0 k l0 a1 a2 ((l0.length:Int) == 0)))=some (r1,r2):=h
 clear h;have HC4:=Ak H;clear H
 go_enter Tryz.func14,Tryz.ntmps14
 go_upto_region 1 with (fail)
 go_cut [17] (fun v17 wc=>∃ (kq:Nat) (x17_3:Bool),v17=.bool x17_3∧zh (zx.j0 kq l0 a1 a2 x17_3=some (r1,r2))∧zh (kq≤k)∧xX w wc)
 case first =>
  have H:=HC4.out
  clear HC4
  by_cases c5:a2<1
  ·rw [if_pos c5] at H
   have Qk:=dt c5
   clear c5
   (first|rw [Qk]|(simp only [xJ,xU];rw [Qk])|skip)
   have H':=Ak H
   clear H
   go_wp2
   go_meet
   case rel=>exact ⟨_,(true),es,H',⟨eo⟩,dz⟩
  ·rw [if_neg c5] at H
   have Qk:=df c5
   clear c5
   (first|rw [Qk]|(simp only [xJ,xU];rw [Qk])|skip)
   have H':=Ak H
   clear H
   go_wp2
   go_meet
   case rel=>exact ⟨_,(((l0.length:Int) == 0)),es,H',⟨eo⟩,dz⟩
 case rest =>
  clear HC4
  obtain ⟨kq,x17_3,rfl,HA,HJ3,⟨mc3,rfl⟩⟩:=hcut
  cases kq with
  | zero=>exact absurd HA.out (by simp [zx.j0])
  | succ kj3 =>
   have H:=HA.out
   clear HA
   simp only [zx.j0] at H
   by_cases c6:x17_3=true
   ·subst c6
    have H1:(some (0,wrap64 (a1+1)))=some (r1,r2):=by rw [if_pos rfl] at H;exact H
    clear H;have H:=H1;clear H1
    simp only [Option.some.injEq,Prod.mk.injEq] at H
    obtain ⟨rfl,rfl⟩:=H
    go_wp2
    go_ret2
    exact ⟨by first|rfl|(simp;done)|(simp [*];done),dz⟩
   ·replace c6:=Bool.eq_false_iff.mpr c6
    subst c6
    have H1:(if a1<(l0.length:Int) then (if a2≤256 then (if 0≤a1 then (if a2=0 then (none) else (some (Int.tmod (wrap64 (rd l0 a1)) a2,wrap64 (a1+1)))) else (none)) else (if (l0.length:Int)=0 then (none) else (if 0≤(Int.tmod a1 (l0.length:Int)) then (if (Int.tmod a1 (l0.length:Int))<(l0.length:Int) then (if 0≤(Int.tmod (wrap64 ((wrap64 (a1*7))+3)) (l0.length:Int)) then (if (Int.tmod (wrap64 ((wrap64 (a1*7))+3)) (l0.length:Int))<(l0.length:Int) then (if a2=0 then (none) else (some (Int.tmod (Go.bits .xor .i64 (wrap64 ((wrap64 ((wrap64 ((wrap64 ((wrap64 (rd l0 (Int.tmod a1 (l0.length:Int))))*131))+(wrap64 ((wrap64 (rd l0 (Int.tmod (wrap64 ((wrap64 (a1*7))+3)) (l0.length:Int))))*1117))))+(wrap64 (a1*29))))+(wrap64 ((wrap64 (Int.tdiv a1 (l0.length:Int)))*53)))) (wrap64 (Int.tdiv (wrap64 ((wrap64 ((wrap64 ((wrap64 ((wrap64 (rd l0 (Int.tmod a1 (l0.length:Int))))*131))+(wrap64 ((wrap64 (rd l0 (Int.tmod (wrap64 ((wrap64 (a1*7))+3)) (l0.length:Int))))*1117))))+(wrap64 (a1*29))))+(wrap64 ((wrap64 (Int.tdiv a1 (l0.length:Int)))*53)))) 64))) a2,wrap64 (a1+1)))) else (none)) else (none)) else (none)) else (none)))) else (if (l0.length:Int)=0 then (none) else (if 0≤(Int.tmod a1 (l0.length:Int)) then (if (Int.tmod a1 (l0.length:Int))<(l0.length:Int) then (if 0≤(Int.tmod (wrap64 ((wrap64 (a1*7))+3)) (l0.length:Int)) then (if (Int.tmod (wrap64 ((wrap64 (a1*7))+3)) (l0.length:Int))<(l0.length:Int) then (if a2=0 then (none) else (some (Int.tmod (Go.bits .xor .i64 (wrap64 ((wrap64 ((wrap64 ((wrap64 ((wrap64 (rd l0 (Int.tmod a1 (l0.length:Int))))*131))+(wrap64 ((wrap64 (rd l0 (Int.tmod (wrap64 ((wrap64 (a1*7))+3)) (l0.length:Int))))*1117))))+(wrap64 (a1*29))))+(wrap64 ((wrap64 (Int.tdiv a1 (l0.length:Int)))*53)))) (wrap64 (Int.tdiv (wrap64 ((wrap64 ((wrap64 ((wrap64 ((wrap64 (rd l0 (Int.tmod a1 (l0.length:Int))))*131))+(wrap64 ((wrap64 (rd l0 (Int.tmod (wrap64 ((wrap64 (a1*7))+3)) (l0.length:Int))))*1117))))+(wrap64 (a1*29))))+(wrap64 ((wrap64 (Int.tdiv a1 (l0.length:Int)))*53)))) 64))) a2,wrap64 (a1+1)))) else (none)) else (none)) else (none)) else (none))))=some (r1,r2):=by rw [if_neg (show ¬ (false=true) by decide)] at H;exact H
    clear H;have H:=H1;clear H1
    by_cases c7:a1<(l0.length:Int)
    ·rw [if_pos c7] at H
     have QI:=dt c7
     clear c7
     by_cases c8:a2≤256
     ·rw [if_pos c8] at H
      have c8b0:=dt c8
      clear c8
      by_cases c9:0≤a1
      ·rw [if_pos c9] at H
       have c9b0:=dt c9
       clear c9
       by_cases c10:a2=0
       ·rw [if_pos c10] at H
        exact absurd H (by simp)
       ·rw [if_neg c10] at H
        have JA:=bF c10
        have c10b1:=nT c10
        simp only [Option.some.injEq,Prod.mk.injEq] at H
        obtain ⟨rfl,rfl⟩:=H
        have p101:0≤(a1:Int):=od
        have q101:a1<(l0.length:Int):=od
        obtain ⟨ad101,e101,hx101_0⟩:=Kd.vV HR0.out a1 p101 q101
        cases e101
        replace p101:=eq_true p101
        replace q101:=eq_true q101
        go_wp2
        go_ret2
        exact ⟨by first|rfl|(simp;done)|(simp [*];done),dz⟩
      ·rw [if_neg c9] at H
       exact absurd H (by simp)
     ·rw [if_neg c8] at H
      have c8b0:=df c8
      clear c8
      by_cases c11:(l0.length:Int)=0
      ·rw [if_pos c11] at H
       exact absurd H (by simp)
      ·rw [if_neg c11] at H
       have c11b0:=bF c11
       have c11b1:=nT c11
       have c11b2:¬ (l0=[]):=fun h_=>c11 (by rw [h_];rfl)
       obtain ⟨Jh,JB⟩:∃ j_:Int,(Int.tmod a1 (l0.length:Int))=j_:=⟨_,rfl⟩
       replace H:(if 0≤(Jh) then (if (Jh)<(l0.length:Int) then (if 0≤(Int.tmod (wrap64 ((wrap64 (a1*7))+3)) (l0.length:Int)) then (if (Int.tmod (wrap64 ((wrap64 (a1*7))+3)) (l0.length:Int))<(l0.length:Int) then (if a2=0 then (none) else (some (Int.tmod (Go.bits .xor .i64 (wrap64 ((wrap64 ((wrap64 ((wrap64 ((wrap64 (rd l0 (Jh)))*131))+(wrap64 ((wrap64 (rd l0 (Int.tmod (wrap64 ((wrap64 (a1*7))+3)) (l0.length:Int))))*1117))))+(wrap64 (a1*29))))+(wrap64 ((wrap64 (Int.tdiv a1 (l0.length:Int)))*53)))) (wrap64 (Int.tdiv (wrap64 ((wrap64 ((wrap64 ((wrap64 ((wrap64 (rd l0 (Jh)))*131))+(wrap64 ((wrap64 (rd l0 (Int.tmod (wrap64 ((wrap64 (a1*7))+3)) (l0.length:Int))))*1117))))+(wrap64 (a1*29))))+(wrap64 ((wrap64 (Int.tdiv a1 (l0.length:Int)))*53)))) 64))) a2,wrap64 (a1+1)))) else (none)) else (none)) else (none)) else (none))=some (r1,r2):=by first|(rw [JB] at H;exact H)|(simp only [JB] at H ⊢;exact H)
       by_cases c13:0≤(Jh)
       ·rw [if_pos c13] at H
        have c13b0:=dt c13
        clear c13
        by_cases c14:(Jh)<(l0.length:Int)
        ·rw [if_pos c14] at H
         have c14b0:=dt c14
         clear c14
         obtain ⟨ji15,hji15⟩:∃ j_:Int,(Int.tmod (wrap64 ((wrap64 (a1*7))+3)) (l0.length:Int))=j_:=⟨_,rfl⟩
         replace H:(if 0≤(ji15) then (if (ji15)<(l0.length:Int) then (if a2=0 then (none) else (some (Int.tmod (Go.bits .xor .i64 (wrap64 ((wrap64 ((wrap64 ((wrap64 ((wrap64 (rd l0 (Jh)))*131))+(wrap64 ((wrap64 (rd l0 (ji15)))*1117))))+(wrap64 (a1*29))))+(wrap64 ((wrap64 (Int.tdiv a1 (l0.length:Int)))*53)))) (wrap64 (Int.tdiv (wrap64 ((wrap64 ((wrap64 ((wrap64 ((wrap64 (rd l0 (Jh)))*131))+(wrap64 ((wrap64 (rd l0 (ji15)))*1117))))+(wrap64 (a1*29))))+(wrap64 ((wrap64 (Int.tdiv a1 (l0.length:Int)))*53)))) 64))) a2,wrap64 (a1+1)))) else (none)) else (none))=some (r1,r2):=by first|(rw [hji15] at H;exact H)|(simp only [hji15] at H ⊢;exact H)
         by_cases c16:0≤(ji15)
         ·rw [if_pos c16] at H
          have c16b0:=dt c16
          clear c16
          by_cases c17:(ji15)<(l0.length:Int)
          ·rw [if_pos c17] at H
           have c17b0:=dt c17
           clear c17
           by_cases c18:a2=0
           ·rw [if_pos c18] at H
            exact absurd H (by simp)
           ·rw [if_neg c18] at H
            have c18b0:=bF c18
            have c18b1:=nT c18
            simp only [Option.some.injEq,Prod.mk.injEq] at H
            obtain ⟨rfl,rfl⟩:=H
            have p102:0≤((Jh):Int):=od
            have q102:(Jh)<(l0.length:Int):=od
            obtain ⟨ad102,e102,Zy⟩:=Kd.vV HR0.out (Jh) p102 q102
            cases e102
            replace p102:=eq_true p102
            replace q102:=eq_true q102
            have p103:0≤((ji15):Int):=od
            have q103:(ji15)<(l0.length:Int):=od
            obtain ⟨ad103,e103,hx103_0⟩:=Kd.vV HR0.out (ji15) p103 q103
            obtain rfl:ad102=ad103:=(by injection e103)
            replace p103:=eq_true p103
            replace q103:=eq_true q103
            go_wp2
            go_ret2
            exact ⟨by first|rfl|(simp;done)|(simp only [← JB,← hji15] <;> (first|rfl|simp))|(simp [*];done),dz⟩
          ·rw [if_neg c17] at H
           exact absurd H (by simp)
         ·rw [if_neg c16] at H
          exact absurd H (by simp)
        ·rw [if_neg c14] at H
         exact absurd H (by simp)
       ·rw [if_neg c13] at H
        exact absurd H (by simp)
    ·rw [if_neg c7] at H
     have QI:=df c7
     clear c7
     by_cases c19:(l0.length:Int)=0
     ·rw [if_pos c19] at H
      exact absurd H (by simp)
     ·rw [if_neg c19] at H
      have c19b0:=bF c19
      have c19b1:=nT c19
      have c19b2:¬ (l0=[]):=fun h_=>c19 (by rw [h_];rfl)
      obtain ⟨ji20,hji20⟩:∃ j_:Int,(Int.tmod a1 (l0.length:Int))=j_:=⟨_,rfl⟩
      replace H:(if 0≤(ji20) then (if (ji20)<(l0.length:Int) then (if 0≤(Int.tmod (wrap64 ((wrap64 (a1*7))+3)) (l0.length:Int)) then (if (Int.tmod (wrap64 ((wrap64 (a1*7))+3)) (l0.length:Int))<(l0.length:Int) then (if a2=0 then (none) else (some (Int.tmod (Go.bits .xor .i64 (wrap64 ((wrap64 ((wrap64 ((wrap64 ((wrap64 (rd l0 (ji20)))*131))+(wrap64 ((wrap64 (rd l0 (Int.tmod (wrap64 ((wrap64 (a1*7))+3)) (l0.length:Int))))*1117))))+(wrap64 (a1*29))))+(wrap64 ((wrap64 (Int.tdiv a1 (l0.length:Int)))*53)))) (wrap64 (Int.tdiv (wrap64 ((wrap64 ((wrap64 ((wrap64 ((wrap64 (rd l0 (ji20)))*131))+(wrap64 ((wrap64 (rd l0 (Int.tmod (wrap64 ((wrap64 (a1*7))+3)) (l0.length:Int))))*1117))))+(wrap64 (a1*29))))+(wrap64 ((wrap64 (Int.tdiv a1 (l0.length:Int)))*53)))) 64))) a2,wrap64 (a1+1)))) else (none)) else (none)) else (none)) else (none))=some (r1,r2):=by first|(rw [hji20] at H;exact H)|(simp only [hji20] at H ⊢;exact H)
      by_cases c21:0≤(ji20)
      ·rw [if_pos c21] at H
       have c21b0:=dt c21
       clear c21
       by_cases c22:(ji20)<(l0.length:Int)
       ·rw [if_pos c22] at H
        have c22b0:=dt c22
        clear c22
        obtain ⟨ji23,hji23⟩:∃ j_:Int,(Int.tmod (wrap64 ((wrap64 (a1*7))+3)) (l0.length:Int))=j_:=⟨_,rfl⟩
        replace H:(if 0≤(ji23) then (if (ji23)<(l0.length:Int) then (if a2=0 then (none) else (some (Int.tmod (Go.bits .xor .i64 (wrap64 ((wrap64 ((wrap64 ((wrap64 ((wrap64 (rd l0 (ji20)))*131))+(wrap64 ((wrap64 (rd l0 (ji23)))*1117))))+(wrap64 (a1*29))))+(wrap64 ((wrap64 (Int.tdiv a1 (l0.length:Int)))*53)))) (wrap64 (Int.tdiv (wrap64 ((wrap64 ((wrap64 ((wrap64 ((wrap64 (rd l0 (ji20)))*131))+(wrap64 ((wrap64 (rd l0 (ji23)))*1117))))+(wrap64 (a1*29))))+(wrap64 ((wrap64 (Int.tdiv a1 (l0.length:Int)))*53)))) 64))) a2,wrap64 (a1+1)))) else (none)) else (none))=some (r1,r2):=by first|(rw [hji23] at H;exact H)|(simp only [hji23] at H ⊢;exact H)
        by_cases c24:0≤(ji23)
        ·rw [if_pos c24] at H
         have c24b0:=dt c24
         clear c24
         by_cases c25:(ji23)<(l0.length:Int)
         ·rw [if_pos c25] at H
          have c25b0:=dt c25
          clear c25
          by_cases c26:a2=0
          ·rw [if_pos c26] at H
           exact absurd H (by simp)
          ·rw [if_neg c26] at H
           have c26b0:=bF c26
           have c26b1:=nT c26
           simp only [Option.some.injEq,Prod.mk.injEq] at H
           obtain ⟨rfl,rfl⟩:=H
           have p104:0≤((ji20):Int):=od
           have q104:(ji20)<(l0.length:Int):=od
           obtain ⟨ad104,e104,hx104_0⟩:=Kd.vV HR0.out (ji20) p104 q104
           cases e104
           replace p104:=eq_true p104
           replace q104:=eq_true q104
           have p105:0≤((ji23):Int):=od
           have q105:(ji23)<(l0.length:Int):=od
           obtain ⟨ad105,e105,hx105_0⟩:=Kd.vV HR0.out (ji23) p105 q105
           obtain rfl:ad104=ad105:=(by injection e105)
           replace p105:=eq_true p105
           replace q105:=eq_true q105
           go_wp2
           go_ret2
           exact ⟨by first|rfl|(simp;done)|(simp only [← hji20,← hji23] <;> (first|rfl|simp))|(simp [*];done),dz⟩
         ·rw [if_neg c25] at H
          exact absurd H (by simp)
        ·rw [if_neg c24] at H
         exact absurd H (by simp)
       ·rw [if_neg c22] at H
        exact absurd H (by simp)
      ·rw [if_neg c21] at H
       exact absurd H (by simp)
def vT.f (l0:List Int) (a1:Int) (a2:Int) (a3:Int):Option (Int):=if a1=0 then (none) else (if (wrap64 (a2+(wrap64 ((l0.length:Int) / a1)))) > a3 then (some a3) else (some (wrap64 (a2+(wrap64 ((l0.length:Int) / a1))))))
theorem vT.calls (A0:Option Addr) (c0:Nat) (l0:List Int) (a1:Int) (a2:Int) (a3:Int) (r:Int) (w:World) (hr0:Kd.C (Kd.int .u8) w A0 l0.length l0) (hc0:l0.length≤c0) (h:vT.f l0 a1 a2 a3=some r) :
  Calls Tryz.prog 102 #[.slice A0 l0.length c0,.int .i64 a1,.int .i64 a2,.int .i64 a3] w fun e w'=>e=.returned (.int .i64 r)∧xX w w':=by
 have HR0:=Ak hr0;have HC0:=Ak hc0;clear hr0 hc0
 have H:(if a1=0 then (none) else (if (wrap64 (a2+(wrap64 ((l0.length:Int) / a1)))) > a3 then (some a3) else (some (wrap64 (a2+(wrap64 ((l0.length:Int) / a1)))))))=some r:=h
 clear h
 by_cases c5:a1=0
 ·rw [if_pos c5] at H
  exact absurd H (by simp)
 ·rw [if_neg c5] at H
  have Qk:=bF c5
  have c5b1:=nT c5
  by_cases c6:(wrap64 (a2+(wrap64 ((l0.length:Int) / a1)))) > a3
  ·rw [if_pos c6] at H
   have c6b0:=tg c6
   clear c6
   obtain rfl:=Option.some.inj H
   go_enter Tryz.func102,Tryz.ntmps102
   go_wp2
   go_ret
   exact ⟨by first|rfl|(simp;done)|(simp [*];done),dz⟩
  ·rw [if_neg c6] at H
   have c6b0:=fg c6
   clear c6
   obtain rfl:=Option.some.inj H
   go_enter Tryz.func102,Tryz.ntmps102
   go_wp2
   go_ret
   exact ⟨by first|rfl|(simp;done)|(simp [*];done),dz⟩
def jM.f (a0:Int):Option (Int×Int×Int×Int×Int) :=
 if 0≤a0∧a0≤4294967295 then some (a0 % 64,a0 / 64 % 256,a0 / 16384 % 512,a0 / 8388608,a0 / 16384 % 512+512*(a0 / 8388608)-131072) else none
theorem jM.calls (a0:Int) (r1:Int) (r2:Int) (r3:Int) (r4:Int) (r5:Int) (w:World) (h:jM.f a0=some (r1,r2,r3,r4,r5)) :
  Calls Tryz.prog 107 #[.int .u32 a0] w fun e w'=>e=.returned (.agg #[.int .i64 r1,.int .i64 r2,.int .i64 r3,.int .i64 r4,.int .i64 r5])∧Below w.heap.size w w':=by
 unfold jM.f at h
 split at h
 ·rename_i hb
  obtain ⟨h0,h1⟩:=hb
  simp only [Option.some.injEq,Prod.mk.injEq] at h
  obtain ⟨rfl,rfl,rfl,rfl,rfl⟩:=h
  go_enter Tryz.func107,Tryz.ntmps107
  go_wp2
  go_returns
  exact ⟨rfl,((Below.refl _ _).alloc (Nat.le_refl _) _).alloc (by simp) _⟩
 ·cases h
def yM.j0:Nat→Bool→Int→Int→Int→Int→Int→Option (Int)
 | 0,_,_,_,_,_,_=>none
 | k+1,x41,pa,pb,pc,pd,pe=>if x41=true then (some 0) else ((jM.f ((wrap64 ((wrap64 ((wrap64 (pa+(wrap64 (64*pb))))+(wrap64 (16384*pc))))+(wrap64 (8388608*pd)))) % 4294967296)).bind fun zau=>(if (!(zau.1 == pa) || (!(zau.2.1 == pb) || (!(zau.2.2.1 == pc) || (!(zau.2.2.2.1 == pd) || (!(zau.2.2.2.2 == pe))))))=true then (some 0) else (some ((wrap64 ((wrap64 ((wrap64 (pa+(wrap64 (64*pb))))+(wrap64 (16384*pc))))+(wrap64 (8388608*pd)))) % 4294967296))))
def yM.f (k:Nat) (yR:Int) (yX:Int) (yN:Int) (Yl:Int) (QX:Int):Option (Int):=if yR<0 then (yM.j0 k true yR yX yN Yl QX) else (if yR > 63 then (yM.j0 k true yR yX yN Yl QX) else (if yX<0 then (yM.j0 k true yR yX yN Yl QX) else (if yX > 255 then (yM.j0 k true yR yX yN Yl QX) else (if yN<0 then (yM.j0 k true yR yX yN Yl QX) else (if yN > 511 then (yM.j0 k true yR yX yN Yl QX) else (if Yl<0 then (yM.j0 k true yR yX yN Yl QX) else (yM.j0 k (decide (Yl > 511)) yR yX yN Yl QX)))))))
theorem yM.calls (k:Nat) (yR:Int) (yX:Int) (yN:Int) (Yl:Int) (QX:Int) (r:Int) (w:World) (h:yM.f k yR yX yN Yl QX=some r) :
  Calls Tryz.prog 52 #[.agg #[.int .i64 yR,.int .i64 yX,.int .i64 yN,.int .i64 Yl,.int .i64 QX]] w fun e w'=>e=.returned (.int .u32 r)∧Below w.heap.size w w':=by
 have hu106:=Tryz.underlying106
 have HB:=Ak (Below.refl w.heap.size w)
 have H:(if yR<0 then (yM.j0 k true yR yX yN Yl QX) else (if yR > 63 then (yM.j0 k true yR yX yN Yl QX) else (if yX<0 then (yM.j0 k true yR yX yN Yl QX) else (if yX > 255 then (yM.j0 k true yR yX yN Yl QX) else (if yN<0 then (yM.j0 k true yR yX yN Yl QX) else (if yN > 511 then (yM.j0 k true yR yX yN Yl QX) else (if Yl<0 then (yM.j0 k true yR yX yN Yl QX) else (yM.j0 k (decide (Yl > 511)) yR yX yN Yl QX))))))))=some r:=h
 clear h;have HC2:=Ak H;clear H
 go_enter Tryz.func52,Tryz.ntmps52
 go_upto_region 1 with (first|((with_reducible refine zB (N:=1) rfl ?_);refine zK ?hg (N:=1) ?hd (cs:=#[.int .i64 yR,.int .i64 yX,.int .i64 yN,.int .i64 Yl,.int .i64 QX]) (t:=106) ?hr ?_;(case hd=>rfl);(case hg=>rfl);(case hr=>first|(go_simp;done)|(go_simp;rfl));intro zav hg w3 hbox hb;have qY:=Ak (hbox);have GW106:=gs HB hg;have GE106:=gs HB hg;replace HB:=BS HB hb;clear hb hbox hg))
 (try simp only [Act.put,List.setIfInBounds_toArray,List.set_cons_zero,List.set_cons_succ])
 go_cut [41] (fun v41 wc=>∃ (kq:Nat) (x41_1:Bool),v41=.bool x41_1∧zh (yM.j0 kq x41_1 yR yX yN Yl QX=some r)∧zh (kq≤k)∧zh (wc.heap[zav]?=some (.cells #[.int .i64 yR,.int .i64 yX,.int .i64 yN,.int .i64 Yl,.int .i64 QX] 106 (0,0)))∧zh (Below w.heap.size w wc))
 case first =>
  have H:=HC2.out
  clear HC2
  by_cases c4:yR<0
  ·rw [if_pos c4] at H
   have ZG:=dt c4
   clear c4
   (first|rw [ZG]|(simp only [xJ,xU];rw [ZG])|skip)
   have H':=Ak H
   clear H
   obtain ⟨hcz5_0,hcz5_1,hcz5_2,hcz5_3,hcz5_4,hfz5_0,hfz5_1,hfz5_2,hfz5_3,hfz5_4⟩:=bk5 qY.out
   go_wp2
   go_meet
   case rel=>exact ⟨_,(true),es,H',⟨eo⟩,⟨bo qY⟩,⟨bl HB⟩⟩
  ·rw [if_neg c4] at H
   have ZG:=df c4
   clear c4
   (first|rw [ZG]|(simp only [xJ,xU];rw [ZG])|skip)
   by_cases c6:yR > 63
   ·rw [if_pos c6] at H
    have c6b0:=tg c6
    clear c6
    have H':=Ak H
    clear H
    obtain ⟨hcz7_0,hcz7_1,hcz7_2,hcz7_3,hcz7_4,hfz7_0,hfz7_1,hfz7_2,hfz7_3,hfz7_4⟩:=bk5 qY.out
    go_wp2
    go_meet
    case rel=>exact ⟨_,(true),es,H',⟨eo⟩,⟨bo qY⟩,⟨bl HB⟩⟩
   ·rw [if_neg c6] at H
    have c6b0:=fg c6
    clear c6
    by_cases c8:yX<0
    ·rw [if_pos c8] at H
     have c8b0:=dt c8
     clear c8
     have H':=Ak H
     clear H
     obtain ⟨hcz9_0,hcz9_1,hcz9_2,hcz9_3,hcz9_4,hfz9_0,hfz9_1,hfz9_2,hfz9_3,hfz9_4⟩:=bk5 qY.out
     go_wp2
     go_meet
     case rel=>exact ⟨_,(true),es,H',⟨eo⟩,⟨bo qY⟩,⟨bl HB⟩⟩
    ·rw [if_neg c8] at H
     have c8b0:=df c8
     clear c8
     by_cases c10:yX > 255
     ·rw [if_pos c10] at H
      have JA:=tg c10
      clear c10
      have H':=Ak H
      clear H
      obtain ⟨hcz11_0,hcz11_1,hcz11_2,hcz11_3,hcz11_4,hfz11_0,hfz11_1,hfz11_2,hfz11_3,hfz11_4⟩:=bk5 qY.out
      go_wp2
      go_meet
      case rel=>exact ⟨_,(true),es,H',⟨eo⟩,⟨bo qY⟩,⟨bl HB⟩⟩
     ·rw [if_neg c10] at H
      have JA:=fg c10
      clear c10
      by_cases c12:yN<0
      ·rw [if_pos c12] at H
       have Je:=dt c12
       clear c12
       have H':=Ak H
       clear H
       obtain ⟨hcz13_0,hcz13_1,hcz13_2,hcz13_3,hcz13_4,hfz13_0,hfz13_1,hfz13_2,hfz13_3,hfz13_4⟩:=bk5 qY.out
       go_wp2
       go_meet
       case rel=>exact ⟨_,(true),es,H',⟨eo⟩,⟨bo qY⟩,⟨bl HB⟩⟩
      ·rw [if_neg c12] at H
       have Je:=df c12
       clear c12
       by_cases c14:yN > 511
       ·rw [if_pos c14] at H
        have c14b0:=tg c14
        clear c14
        have H':=Ak H
        clear H
        obtain ⟨hcz15_0,hcz15_1,hcz15_2,hcz15_3,hcz15_4,hfz15_0,hfz15_1,hfz15_2,hfz15_3,hfz15_4⟩:=bk5 qY.out
        go_wp2
        go_meet
        case rel=>exact ⟨_,(true),es,H',⟨eo⟩,⟨bo qY⟩,⟨bl HB⟩⟩
       ·rw [if_neg c14] at H
        have c14b0:=fg c14
        clear c14
        by_cases c16:Yl<0
        ·rw [if_pos c16] at H
         have c16b0:=dt c16
         clear c16
         have H':=Ak H
         clear H
         obtain ⟨hcz17_0,hcz17_1,hcz17_2,hcz17_3,hcz17_4,hfz17_0,hfz17_1,hfz17_2,hfz17_3,hfz17_4⟩:=bk5 qY.out
         go_wp2
         go_meet
         case rel=>exact ⟨_,(true),es,H',⟨eo⟩,⟨bo qY⟩,⟨bl HB⟩⟩
        ·rw [if_neg c16] at H
         have c16b0:=df c16
         clear c16
         have H':=Ak H
         clear H
         obtain ⟨hcz18_0,hcz18_1,hcz18_2,hcz18_3,hcz18_4,hfz18_0,hfz18_1,hfz18_2,hfz18_3,hfz18_4⟩:=bk5 qY.out
         go_wp2
         go_meet
         case rel=>exact ⟨_,(decide (Yl > 511)),es,H',⟨eo⟩,⟨bo qY⟩,⟨bl HB⟩⟩
 case rest =>
  clear HC2
  obtain ⟨kq,x41_1,rfl,HA,HJ1,qY,HB⟩:=hcut
  cases kq with
  | zero=>exact absurd HA.out (by simp [yM.j0])
  | succ kj1 =>
   have H:=HA.out
   clear HA
   simp only [yM.j0] at H
   by_cases c19:x41_1=true
   ·subst c19
    have H1:(some 0)=some r:=by rw [if_pos rfl] at H;exact H
    clear H;have H:=H1;clear H1
    obtain rfl:=Option.some.inj H
    go_wp2
    go_ret
    exact ⟨ef,bl HB⟩
   ·replace c19:=Bool.eq_false_iff.mpr c19
    subst c19
    have H1:((jM.f ((wrap64 ((wrap64 ((wrap64 (yR+(wrap64 (64*yX))))+(wrap64 (16384*yN))))+(wrap64 (8388608*Yl)))) % 4294967296)).bind fun zau=>(if (!(zau.1 == yR) || (!(zau.2.1 == yX) || (!(zau.2.2.1 == yN) || (!(zau.2.2.2.1 == Yl) || (!(zau.2.2.2.2 == QX))))))=true then (some 0) else (some ((wrap64 ((wrap64 ((wrap64 (yR+(wrap64 (64*yX))))+(wrap64 (16384*yN))))+(wrap64 (8388608*Yl)))) % 4294967296))))=some r:=by rw [if_neg (show ¬ (false=true) by decide)] at H;exact H
    clear H;have H:=H1;clear H1
    replace H:=Option.bind_eq_some_iff.mp H
    obtain ⟨⟨t107,t108,t109,t110,t111⟩,A200,H⟩:=H
    replace H:(if (!(t107 == yR) || (!(t108 == yX) || (!(t109 == yN) || (!(t110 == Yl) || (!(t111 == QX))))))=true then (some 0) else (some ((wrap64 ((wrap64 ((wrap64 (yR+(wrap64 (64*yX))))+(wrap64 (16384*yN))))+(wrap64 (8388608*Yl)))) % 4294967296)))=some r:=H
    have A20:=Ak A200;clear A200
    by_cases c21:(!(t107 == yR) || (!(t108 == yX) || (!(t109 == yN) || (!(t110 == Yl) || (!(t111 == QX))))))=true
    ·rw [if_pos c21] at H
     have c21b0:(!(t107 == yR) || (!(t108 == yX) || (!(t109 == yN) || (!(t110 == Yl) || (!(t111 == QX))))))=true:=c21
     clear c21
     obtain rfl:=Option.some.inj H
     obtain ⟨hcz22_0,hcz22_1,hcz22_2,hcz22_3,hcz22_4,hfz22_0,hfz22_1,hfz22_2,hfz22_3,hfz22_4⟩:=bk5 qY.out
     try go_wp2
     replace qY:=Ak (xI qY.out);replace HB:=Ak (zO HB.out)
     refine Yv (n:=4) (S:=fun w'=>w'.cell? ⟨zav,0,none⟩=some (.int .i64 yR)∧w'.cell? ⟨zav,1,none⟩=some (.int .i64 yX)∧w'.cell? ⟨zav,2,none⟩=some (.int .i64 yN)∧w'.cell? ⟨zav,3,none⟩=some (.int .i64 Yl)∧w'.cell? ⟨zav,4,none⟩=some (.int .i64 QX)) (ds:=[]) #[false,false,false,false] (by kernel_rfl) rfl rfl ⟨(zi qY.out 0).trans rfl,(zi qY.out 1).trans rfl,(zi qY.out 2).trans rfl,(zi qY.out 3).trans rfl,(zi qY.out 4).trans rfl⟩ (fun hHeld=>?_)
     generalize wc.drew=w23 at qY HB hHeld ⊢
     refine pure_ (i:=0) (N:=some 57) (v:=?_) (a':=?_) #[true,false,false,false] rfl rfl (by kernel_rfl) (fun _ _ _ h=>h) (Or.inl ⟨by rfl,?_⟩) ?_ ?_
     rotate_left
     ·intro w'
      go_simp
      with_reducible rfl
     rotate_left
     ·simp only [Act.put,List.setIfInBounds_toArray,List.set_cons_zero,List.set_cons_succ,xJ,xU]
      rfl
     refine take_ (i:=2) (N:=some 59) (v:=?_) (a':=?_) #[true,false,true,false] rfl rfl (by kernel_rfl) (fun _ _ _ h=>h) (Or.inl ⟨by rfl,?_⟩) hHeld ?_ ?_
     rotate_left
     ·rintro w' ⟨s0,s1,s2,s3,s4⟩
      go_simp
      with_reducible rfl
     rotate_left
     ·simp only [Act.put,List.setIfInBounds_toArray,List.set_cons_zero,List.set_cons_succ,xJ,xU]
      rfl
     refine one_ (i:=1) (N:=some 58) #[true,true,true,false] rfl rfl (by kernel_rfl) (by decide) (fun K hK=>?_)
     refine XO Tryz.func107 (by kernel_rfl) rfl #[.int .u32 ((wrap64 ((wrap64 ((wrap64 (yR+(wrap64 (64*yX))))+(wrap64 (16384*yN))))+(wrap64 (8388608*Yl)))) % 4294967296)] (by rfl) rfl rfl em ?_
     with_reducible refine (jM.calls ((wrap64 ((wrap64 ((wrap64 (yR+(wrap64 (64*yX))))+(wrap64 (16384*yN))))+(wrap64 (8388608*Yl)))) % 4294967296) t107 t108 t109 t110 t111 _ A20.out).mono ?_
     rintro e w24 ⟨rfl,hb⟩
     refine ⟨_,rfl,?_⟩
     replace qY:=BB qY hb;replace HB:=BS HB hb
     refine hK.out _ _ ⟨(zi qY.out 0).trans rfl,(zi qY.out 1).trans rfl,(zi qY.out 2).trans rfl,(zi qY.out 3).trans rfl,(zi qY.out 4).trans rfl⟩ (fun hHeld=>?_)
     clear hK K
     refine kX (a':=?_) ?_ ?_
     rotate_left
     ·show Act.put _ (some 58) _=_
      simp only [Act.put,List.setIfInBounds_toArray,List.set_cons_zero,List.set_cons_succ,xJ,xU]
      rfl
     refine pure_ (i:=3) (N:=some 60) (v:=?_) (a':=?_) #[true,true,true,true] rfl rfl (by kernel_rfl) (fun _ _ _ h=>h) (Or.inl ⟨by rfl,?_⟩) ?_ ?_
     rotate_left
     ·intro w'
      go_simp
      with_reducible rfl
     rotate_left
     ·simp only [Act.put,List.setIfInBounds_toArray,List.set_cons_zero,List.set_cons_succ,xJ,xU]
      rfl
     refine Ji (by kernel_rfl) ?_
     try go_wp2
     go_ret
     exact ⟨ef,bl HB⟩
    ·rw [if_neg c21] at H
     have c21b0:(!(t107 == yR) || (!(t108 == yX) || (!(t109 == yN) || (!(t110 == Yl) || (!(t111 == QX))))))=false:=by simpa using c21
     clear c21
     obtain rfl:=Option.some.inj H
     obtain ⟨hcz25_0,hcz25_1,hcz25_2,hcz25_3,hcz25_4,hfz25_0,hfz25_1,hfz25_2,hfz25_3,hfz25_4⟩:=bk5 qY.out
     try go_wp2
     replace qY:=Ak (xI qY.out);replace HB:=Ak (zO HB.out)
     refine Yv (n:=4) (S:=fun w'=>w'.cell? ⟨zav,0,none⟩=some (.int .i64 yR)∧w'.cell? ⟨zav,1,none⟩=some (.int .i64 yX)∧w'.cell? ⟨zav,2,none⟩=some (.int .i64 yN)∧w'.cell? ⟨zav,3,none⟩=some (.int .i64 Yl)∧w'.cell? ⟨zav,4,none⟩=some (.int .i64 QX)) (ds:=[]) #[false,false,false,false] (by kernel_rfl) rfl rfl ⟨(zi qY.out 0).trans rfl,(zi qY.out 1).trans rfl,(zi qY.out 2).trans rfl,(zi qY.out 3).trans rfl,(zi qY.out 4).trans rfl⟩ (fun hHeld=>?_)
     generalize wc.drew=w26 at qY HB hHeld ⊢
     refine pure_ (i:=0) (N:=some 57) (v:=?_) (a':=?_) #[true,false,false,false] rfl rfl (by kernel_rfl) (fun _ _ _ h=>h) (Or.inl ⟨by rfl,?_⟩) ?_ ?_
     rotate_left
     ·intro w'
      go_simp
      with_reducible rfl
     rotate_left
     ·simp only [Act.put,List.setIfInBounds_toArray,List.set_cons_zero,List.set_cons_succ,xJ,xU]
      rfl
     refine take_ (i:=2) (N:=some 59) (v:=?_) (a':=?_) #[true,false,true,false] rfl rfl (by kernel_rfl) (fun _ _ _ h=>h) (Or.inl ⟨by rfl,?_⟩) hHeld ?_ ?_
     rotate_left
     ·rintro w' ⟨s0,s1,s2,s3,s4⟩
      go_simp
      with_reducible rfl
     rotate_left
     ·simp only [Act.put,List.setIfInBounds_toArray,List.set_cons_zero,List.set_cons_succ,xJ,xU]
      rfl
     refine one_ (i:=1) (N:=some 58) #[true,true,true,false] rfl rfl (by kernel_rfl) (by decide) (fun K hK=>?_)
     refine XO Tryz.func107 (by kernel_rfl) rfl #[.int .u32 ((wrap64 ((wrap64 ((wrap64 (yR+(wrap64 (64*yX))))+(wrap64 (16384*yN))))+(wrap64 (8388608*Yl)))) % 4294967296)] (by rfl) rfl rfl em ?_
     with_reducible refine (jM.calls ((wrap64 ((wrap64 ((wrap64 (yR+(wrap64 (64*yX))))+(wrap64 (16384*yN))))+(wrap64 (8388608*Yl)))) % 4294967296) t107 t108 t109 t110 t111 _ A20.out).mono ?_
     rintro e w27 ⟨rfl,hb⟩
     refine ⟨_,rfl,?_⟩
     replace qY:=BB qY hb;replace HB:=BS HB hb
     refine hK.out _ _ ⟨(zi qY.out 0).trans rfl,(zi qY.out 1).trans rfl,(zi qY.out 2).trans rfl,(zi qY.out 3).trans rfl,(zi qY.out 4).trans rfl⟩ (fun hHeld=>?_)
     clear hK K
     refine kX (a':=?_) ?_ ?_
     rotate_left
     ·show Act.put _ (some 58) _=_
      simp only [Act.put,List.setIfInBounds_toArray,List.set_cons_zero,List.set_cons_succ,xJ,xU]
      rfl
     refine pure_ (i:=3) (N:=some 60) (v:=?_) (a':=?_) #[true,true,true,true] rfl rfl (by kernel_rfl) (fun _ _ _ h=>h) (Or.inl ⟨by rfl,?_⟩) ?_ ?_
     rotate_left
     ·intro w'
      go_simp
      with_reducible rfl
     rotate_left
     ·simp only [Act.put,List.setIfInBounds_toArray,List.set_cons_zero,List.set_cons_succ,xJ,xU]
      rfl
     refine Ji (by kernel_rfl) ?_
     try go_wp2
     go_ret
     exact ⟨ef,bl HB⟩
def wI (o a b c:Int):Int:=o+64*a+16384*b+8388608*c
def inI (o a b c:Int):Prop:=0≤o∧o≤63∧0≤a∧a≤255∧0≤b∧b≤511∧0≤c∧c≤511
instance (o a b c:Int):Decidable (inI o a b c):=by unfold inI;infer_instance
def qZ.f (a0 a1 a2 a3:Int):Option Int:=if inI a0 a1 a2 a3 then some (wI a0 a1 a2 a3) else none
theorem zaw {o a b c:Int} (h:inI o a b c):yM.f 1 o a b c (b+512*c-131072)=some (wI o a b c):=by
 obtain ⟨h0,h1,h2,h3,h4,h5,h6,h7⟩:=h
 have e1:wrap64 (64*a)=64*a:=by unfold wrap64;omega
 have e2:wrap64 (16384*b)=16384*b:=by unfold wrap64;omega
 have e3:wrap64 (8388608*c)=8388608*c:=by unfold wrap64;omega
 have e4:wrap64 (o+64*a)=o+64*a:=by unfold wrap64;omega
 have e5:wrap64 (o+64*a+16384*b)=o+64*a+16384*b:=by unfold wrap64;omega
 have e6:wrap64 (o+64*a+16384*b+8388608*c)=o+64*a+16384*b+8388608*c:=by unfold wrap64;omega
 have e7:(o+64*a+16384*b+8388608*c) % 4294967296=wI o a b c:=by unfold wI;omega
 have u:jM.f (wI o a b c)=some (o,a,b,c,b+512*c-131072):=by
  unfold jM.f wI
  rw [if_pos (by omega)]
  simp only [Option.some.injEq,Prod.mk.injEq]
  omega
 unfold yM.f
 rw [if_neg (by omega),if_neg (by omega),if_neg (by omega),if_neg (by omega),if_neg (by omega),if_neg (by omega),if_neg (by omega),df (by omega)]
 rw [show (1:Nat)=0+1 from rfl,yM.j0]
 rw [if_neg (by decide),e1,e2,e3,e4,e5,e6,e7,u,Option.bind_some,if_neg (by simp)]
theorem Zp (a0 a1 a2 a3:Int) (w:World) (h:inI a0 a1 a2 a3) :
  Calls Tryz.prog 104 #[.int .i64 a0,.int .i64 a1,.int .i64 a2,.int .i64 a3] w fun e w'=>e=.returned (.int .u32 (wI a0 a1 a2 a3))∧Below w.heap.size w w':=by
 have hu118:=Tryz.underlying106
 have E:=Ak (zaw h)
 have W1:wrap64 (wrap64 (a2+wrap64 (512*a3))-131072)=a2+512*a3-131072:=by
  obtain ⟨h0,h1,h2,h3,h4,h5,h6,h7⟩:=h
  unfold wrap64
  omega
 have W2:=Ak W1;clear W1 h
 go_enter Tryz.func104,Tryz.ntmps104
 go_wp2_with (go_at_call 52;refine (yM.calls 1 a0 a1 a2 a3 _ (wI a0 a1 a2 a3) _ (by show yM.f 1 a0 a1 a2 a3 (wrap64 (wrap64 (a2+wrap64 (512*a3))-131072))=_;rw [W2.out];exact E.out)).mono ?_;rintro e w6 ⟨rfl,hb⟩;have HB:=Ak hb;clear hb)
 go_ret
 exact ⟨rfl,HB.out⟩
theorem qZ.calls (a0 a1 a2 a3:Int) (r:Int) (w:World) (h:qZ.f a0 a1 a2 a3=some r) :
  Calls Tryz.prog 104 #[.int .i64 a0,.int .i64 a1,.int .i64 a2,.int .i64 a3] w fun e w'=>e=.returned (.int .u32 r)∧Below w.heap.size w w':=by
 unfold qZ.f at h
 split at h
 case isFalse=>cases h
 case isTrue hg =>
  obtain rfl:=Option.some.inj h
  exact Zp a0 a1 a2 a3 w hg
theorem cI {a0 a1 a2 a3:Int} {w:World} (h:inI a0 a1 a2 a3:=by have hz:=TZ.out;unfold inI;(try simp only [wrap64] at hz ⊢);omega):Calls Tryz.prog 104 #[.int .i64 a0,.int .i64 a1,.int .i64 a2,.int .i64 a3] w fun e w'=>e=.returned (.int .u32 (wI a0 a1 a2 a3))∧Below w.heap.size w w':=Zp a0 a1 a2 a3 w h
end Go.Proofs.YtiekodnojmkfaaaGreatDoor.yD
