import Derived.Test.YtiekodnojmkfaaaGreatDoorPFnDumpx0
namespace Go.Proofs.YtiekodnojmkfaaaGreatDoor.yD
set_option maxHeartbeats 8000000
set_option maxRecDepth 100000
open Go.RowKit Go.Proofs.YtiekodnojmkfaaaGreatDoorW.zF Go.Proofs.YtiekodnojmkfaaaGreatDoorW.yC Go.Proofs.YtiekodnojmkfaaaGreatDoorW.yY
attribute [local go_sem] xM xO qG qH yZ xg xP xQ
set_option linter.unusedVariables false
set_option linter.unusedSimpArgs false
mutual
def zU.j0:Nat→ByteArray→Int→Bool→Option (Int×Int×Bool)
 | 0,_,_,_=>none
 | k+1,x0,x1,x17=>if x17=true then (some (0,0,false)) else (zU.l0 k x0 x1 0 7)
def zU.l0:Nat→ByteArray→Int→Int→Int→Option (Int×Int×Bool)
 | 0,_,_,_,_=>none
 | k+1,x0,x1,x7,x8=>if x8 ≥ 0 then (if 0≤(wrap64 (x1+x8)) then (if (wrap64 (x1+x8))<(x0.size:Int) then (zU.l0 k x0 x1 (Go.bits .or .u64 (IntKind.u64.wrap (x7*256)) (IntKind.u64.wrap (bt x0 (wrap64 (x1+x8))))) (wrap64 (x8-1))) else (none)) else (none)) else (some (wrap64 (x7),wrap64 (x1+8),true))
end
def zU.f (k:Nat) (a0:ByteArray) (a1:Int):Option (Int×Int×Bool):=if a1<0 then (zU.j0 k a0 a1 true) else (zU.j0 k a0 a1 (decide ((wrap64 ((a0.size:Int)-a1))<8)))
theorem zU.calls (k:Nat) (a0:ByteArray) (a1:Int) (r1:Int) (r2:Int) (r3:Bool) (w:World) (h:zU.f k a0 a1=some (r1,r2,r3)) :
  Calls Tryz.prog 116 #[.string a0,.int .i64 a1] w fun e w'=>e=.returned (.tuple #[.int .i64 r1,.int .i64 r2,.bool r3])∧xX w w':=by
 have H:(if a1<0 then (zU.j0 k a0 a1 true) else (zU.j0 k a0 a1 (decide ((wrap64 ((a0.size:Int)-a1))<8))))=some (r1,r2,r3):=h
 clear h;have HC3:=Ak H;clear H
 go_enter Tryz.func116,Tryz.ntmps116
 go_upto_region 1 with (fail)
 go_cut [17] (fun v17 wc=>∃ (kq:Nat) (x17_2:Bool),v17=.bool x17_2∧zh (zU.j0 kq a0 a1 x17_2=some (r1,r2,r3))∧zh (kq≤k)∧xX w wc)
 case first =>
  have H:=HC3.out
  clear HC3
  by_cases c4:a1<0
  ·rw [if_pos c4] at H
   have ZG:=dt c4
   clear c4
   (first|rw [ZG]|(simp only [xJ,xU];rw [ZG])|skip)
   have H':=Ak H
   clear H
   go_wp2
   go_meet
   case rel=>exact ⟨_,(true),es,H',⟨eo⟩,dz⟩
  ·rw [if_neg c4] at H
   have ZG:=df c4
   clear c4
   (first|rw [ZG]|(simp only [xJ,xU];rw [ZG])|skip)
   have H':=Ak H
   clear H
   go_wp2
   go_meet
   case rel=>exact ⟨_,(decide ((wrap64 ((a0.size:Int)-a1))<8)),es,H',⟨eo⟩,dz⟩
 case rest =>
  clear HC3
  obtain ⟨kq,x17_2,rfl,HA,HJ2,⟨mc2,rfl⟩⟩:=hcut
  cases kq with
  | zero=>exact absurd HA.out (by simp [zU.j0])
  | succ kj2 =>
   have H:=HA.out
   clear HA
   simp only [zU.j0] at H
   by_cases c5:x17_2=true
   ·subst c5
    have H1:(some (0,0,false))=some (r1,r2,r3):=by rw [if_pos rfl] at H;exact H
    clear H;have H:=H1;clear H1
    simp only [Option.some.injEq,Prod.mk.injEq] at H
    obtain ⟨rfl,rfl,rfl⟩:=H
    go_wp2
    go_ret3
    exact ⟨by first|rfl|(simp;done)|(simp [*];done),dz⟩
   ·replace c5:=Bool.eq_false_iff.mpr c5
    subst c5
    have H1:(zU.l0 kj2 a0 a1 0 7)=some (r1,r2,r3):=by rw [if_neg (show ¬ (false=true) by decide)] at H;exact H
    clear H;have H:=H1;clear H1
    have H':=Ak H
    clear H
    go_wp2
    go_loopg [7,8] kj2 (fun kq v7 v8 w'=>∃ (kU:Int) (qF:Int),v7=.int .u64 kU∧v8=.int .i64 qF∧zh (zU.l0 kq a0 a1 kU qF=some (r1,r2,r3))∧zh (kq≤kj2)∧xX w w')
    case atStart=>exact ⟨(0),(7),es,es,H',⟨Nat.le_refl _⟩,dz⟩
    case round =>
     clear H'
     obtain ⟨kU,qF,rfl,rfl,HA,HK2,⟨m2,rfl⟩⟩:=hrel
     cases gk with
     | zero=>exact absurd HA.out (by simp [zU.l0])
     | succ k2 =>
      have H:=HA.out
      clear HA
      simp only [zU.l0] at H
      by_cases c6:qF ≥ 0
      ·rw [if_pos c6] at H
       have c6b0:=tG c6
       clear c6
       obtain ⟨ji7,hji7⟩:∃ j_:Int,(wrap64 (a1+qF))=j_:=⟨_,rfl⟩
       replace H:(if 0≤(ji7) then (if (ji7)<(a0.size:Int) then (zU.l0 k2 a0 a1 (Go.bits .or .u64 (IntKind.u64.wrap (kU*256)) (IntKind.u64.wrap (bt a0 (ji7)))) (wrap64 (qF-1))) else (none)) else (none))=some (r1,r2,r3):=by first|(rw [hji7] at H;exact H)|(simp only [hji7] at H ⊢;exact H)
       have hji7w:(IntKind.i64.wrap (a1+qF))=ji7:=(xJ _).trans hji7
       by_cases c8:0≤(ji7)
       ·rw [if_pos c8] at H
        have c8b0:=dt c8
        clear c8
        by_cases c9:(ji7)<(a0.size:Int)
        ·rw [if_pos c9] at H
         have c9b0:=dt c9
         clear c9
         have H':=Ak H
         clear H
         have p10:0≤((ji7):Int):=od
         have q10:(ji7)<(a0.size:Int):=od
         have hx10:=ZC a0 (ji7)
         replace p10:=eq_true p10
         replace q10:=eq_true q10
         go_wp2
         go_roundg k2
         case measure=>have:=HJ2.out;have:=HK2.out;omega
         case rel=>exact ⟨(Go.bits .or .u64 (IntKind.u64.wrap (kU*256)) (IntKind.u64.wrap (bt a0 (ji7)))),(wrap64 (qF-1)),(by first|rfl|(simp;done)|(simp only [← hji7] <;> (first|rfl|simp))|(simp [*];done)),es,H',⟨by have:=HJ2.out;have:=HK2.out;omega⟩,dz⟩
        ·rw [if_neg c9] at H
         exact absurd H (by simp)
       ·rw [if_neg c8] at H
        exact absurd H (by simp)
      ·rw [if_neg c6] at H
       have c6b0:=fG c6
       clear c6
       simp only [Option.some.injEq,Prod.mk.injEq] at H
       obtain ⟨rfl,rfl,rfl⟩:=H
       go_wp2
       go_ret3
       exact ⟨by first|rfl|(simp;done)|(simp [*];done),dz⟩
end Go.Proofs.YtiekodnojmkfaaaGreatDoor.yD
