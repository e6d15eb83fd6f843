import Derived.Test.YtiekodnojmkfaaaGreatDoorPFnDumpx0
import Derived.Test.YtiekodnojmkfaaaGreatDoorPFnDumpx15
namespace Go.Proofs.YtiekodnojmkfaaaGreatDoor.yD
set_option maxHeartbeats 8000000
set_option maxRecDepth 100000
open Go.RowKit Go.Proofs.YtiekodnojmkfaaaGreatDoorW.zF Go.Proofs.YtiekodnojmkfaaaGreatDoorW.yC Go.Proofs.YtiekodnojmkfaaaGreatDoorW.yY
attribute [local go_sem] xM xO qG qH yZ xg xP xQ
set_option linter.unusedVariables false
set_option linter.unusedSimpArgs false
mutual
def zq.j0:Nat→Bool→Int→Bool→Int→List Int→List (S67)→List (S71)→Int→ByteArray→List Int→List ByteArray→Option (Bool)
 | 0,_,_,_,_,_,_,_,_,_,_,_=>none
 | k+1,x38,pa,pb,pc,pd,pe,pf,pg,ph,pi,pj=>if x38=true then (some false) else (if (pe.length:Int) > 500 then (zq.j1 k true pa pb pc pd pe pf pg ph pi pj) else (if (pf.length:Int) > 60 then (zq.j1 k true pa pb pc pd pe pf pg ph pi pj) else (zq.j1 k (decide ((ph.size:Int) > 1000)) pa pb pc pd pe pf pg ph pi pj)))
def zq.j1:Nat→Bool→Int→Bool→Int→List Int→List (S67)→List (S71)→Int→ByteArray→List Int→List ByteArray→Option (Bool)
 | 0,_,_,_,_,_,_,_,_,_,_,_=>none
 | k+1,x54,pa,pb,pc,pd,pe,pf,pg,ph,pi,pj=>if x54=true then (some false) else (if (pi.length:Int) > 0 then (if (pi.length:Int)=(pd.length:Int) then (if (pj.length:Int) > 0 then (zq.j2 k ((pj.length:Int) != (pf.length:Int)) pa pb pc pd pe pf pg ph pi pj) else (zq.j2 k false pa pb pc pd pe pf pg ph pi pj)) else (zq.j2 k true pa pb pc pd pe pf pg ph pi pj)) else (if (pj.length:Int) > 0 then (zq.j2 k ((pj.length:Int) != (pf.length:Int)) pa pb pc pd pe pf pg ph pi pj) else (zq.j2 k false pa pb pc pd pe pf pg ph pi pj)))
def zq.j2:Nat→Bool→Int→Bool→Int→List Int→List (S67)→List (S71)→Int→ByteArray→List Int→List ByteArray→Option (Bool)
 | 0,_,_,_,_,_,_,_,_,_,_,_=>none
 | k+1,x82,pa,pb,pc,pd,pe,pf,pg,ph,pi,pj=>if x82=true then (some false) else (zq.l0 k 0 pa pb pc pd pe pf pg ph pi pj)
def zq.l0:Nat→Int→Int→Bool→Int→List Int→List (S67)→List (S71)→Int→ByteArray→List Int→List ByteArray→Option (Bool)
 | 0,_,_,_,_,_,_,_,_,_,_,_=>none
 | k+1,x3,pa,pb,pc,pd,pe,pf,pg,ph,pi,pj=>if x3<(pe.length:Int) then (if 0≤x3 then ((kN.f ((xH pe x3).f0) ((xH pe x3).f1) ((xH pe x3).f2)).bind fun t207=>(if t207=true then (zq.l0 k (wrap64 (x3+1)) pa pb pc pd pe pf pg ph pi pj) else (some false))) else (none)) else (zq.l1 k 0 pa pb pc pd pe pf pg ph pi pj)
def zq.l1:Nat→Int→Int→Bool→Int→List Int→List (S67)→List (S71)→Int→ByteArray→List Int→List ByteArray→Option (Bool)
 | 0,_,_,_,_,_,_,_,_,_,_,_=>none
 | k+1,x4,pa,pb,pc,pd,pe,pf,pg,ph,pi,pj=>if x4<(pf.length:Int) then (if 0≤x4 then ((jc.f ((jh pf x4).f1)).bind fun t209=>(if t209=true then (zq.l1 k (wrap64 (x4+1)) pa pb pc pd pe pf pg ph pi pj) else (some false))) else (none)) else (zq.l2 k 0 pa pb pc pd pe pf pg ph pi pj)
def zq.l2:Nat→Int→Int→Bool→Int→List Int→List (S67)→List (S71)→Int→ByteArray→List Int→List ByteArray→Option (Bool)
 | 0,_,_,_,_,_,_,_,_,_,_,_=>none
 | k+1,x5,pa,pb,pc,pd,pe,pf,pg,ph,pi,pj=>if x5<(pi.length:Int) then (if 0≤x5 then ((jc.f (rd pi x5)).bind fun t211=>(if t211=true then (zq.l2 k (wrap64 (x5+1)) pa pb pc pd pe pf pg ph pi pj) else (some false))) else (none)) else (zq.l3 k 0 pa pb pc pd pe pf pg ph pi pj)
def zq.l3:Nat→Int→Int→Bool→Int→List Int→List (S67)→List (S71)→Int→ByteArray→List Int→List ByteArray→Option (Bool)
 | 0,_,_,_,_,_,_,_,_,_,_,_=>none
 | k+1,x6,pa,pb,pc,pd,pe,pf,pg,ph,pi,pj=>if x6<(pj.length:Int) then (if 0≤x6 then (if ((rdOf ByteArray.empty pj x6).size:Int) > 1000 then (some false) else (zq.l3 k (wrap64 (x6+1)) pa pb pc pd pe pf pg ph pi pj)) else (none)) else (some true)
end
def zq.f (k:Nat) (yR:Int) (yX:Bool) (yN:Int) (xZ:List Int) (qc:List (S67)) (xu:List (S71)) (qX:Int) (qR:ByteArray) (xA:List Int) (yU:List ByteArray):Option (Bool):=if yN<1 then (zq.j0 k true yR yX yN xZ qc xu qX qR xA yU) else (if yN > 250 then (zq.j0 k true yR yX yN xZ qc xu qX qR xA yU) else (if yR<0 then (zq.j0 k true yR yX yN xZ qc xu qX qR xA yU) else (if yR > yN then (zq.j0 k true yR yX yN xZ qc xu qX qR xA yU) else (if (xZ.length:Int)<1 then (zq.j0 k true yR yX yN xZ qc xu qX qR xA yU) else (zq.j0 k (decide ((xZ.length:Int) > 2000)) yR yX yN xZ qc xu qX qR xA yU)))))
theorem zq.calls (k:Nat) (yR:Int) (yX:Bool) (yN:Int) (Qr:Option Addr) (Qs:Nat) (xZ:List Int) (Ql:Option Addr) (Qm:Nat) (qc:List (S67)) (Xl:Option Addr) (Xm:Nat) (xu:List (S71)) (qX:Int) (qR:ByteArray) (Yn:Option Addr) (Yo:Nat) (xA:List Int) (Z8:Option Addr) (Z9:Nat) (yU:List ByteArray) (r:Bool) (w:World) (J7:Kd.C (Kd.int .u32) w Qr xZ.length xZ) (J8:xZ.length≤Qs) (J9:Kd.C k67 w Ql qc.length qc) (Ko:qc.length≤Qm) (Kq:Kd.C k71 w Xl xu.length xu) (Kr:xu.length≤Xm) (Kt:Kd.C (Kd.int .i64) w Yn xA.length xA) (Ku:xA.length≤Yo) (Kv:Kd.C Kd.string w Z8 yU.length yU) (Kw:yU.length≤Z9) (h:zq.f k yR yX yN xZ qc xu qX qR xA yU=some r) :
  Calls Tryz.prog 34 #[.agg #[.int .i64 yR,.bool yX,.int .i64 yN,.slice Qr xZ.length Qs,.slice Ql qc.length Qm,.slice Xl xu.length Xm,.int .i64 qX,.string qR,.slice Yn xA.length Yo,.slice Z8 yU.length Z9]] w fun e w'=>e=.returned (.bool r)∧Below w.heap.size w w':=by
 have hu56:=Tryz.underlying56
 have hu67:=Tryz.underlying67
 have HR0_3:=Ak J7;have HC0_3:=Ak J8;clear J7 J8;have Jf:=Ak J9;have Ky:=Ak Ko;clear J9 Ko;have Kz:=Ak Kq;have HC0_5:=Ak Kr;clear Kq Kr;have QS:=Ak Kt;have Jw:=Ak Ku;clear Kt Ku;have HR0_9:=Ak Kv;have HC0_9:=Ak Kw;clear Kv Kw
 have HB:=Ak (Below.refl w.heap.size w)
 have H:(if yN<1 then (zq.j0 k true yR yX yN xZ qc xu qX qR xA yU) else (if yN > 250 then (zq.j0 k true yR yX yN xZ qc xu qX qR xA yU) else (if yR<0 then (zq.j0 k true yR yX yN xZ qc xu qX qR xA yU) else (if yR > yN then (zq.j0 k true yR yX yN xZ qc xu qX qR xA yU) else (if (xZ.length:Int)<1 then (zq.j0 k true yR yX yN xZ qc xu qX qR xA yU) else (zq.j0 k (decide ((xZ.length:Int) > 2000)) yR yX yN xZ qc xu qX qR xA yU))))))=some r:=h
 clear h;have HC2:=Ak H;clear H
 go_enter Tryz.func34,Tryz.ntmps34
 go_upto_region 1 with (first|((with_reducible refine zB (N:=1) rfl ?_);(try (refine yL (by rfl) ?_;dsimp only));refine zK ?hg (N:=1) ?hd (cs:=#[.int .i64 yR,.bool yX,.int .i64 yN,.slice Qr xZ.length Qs,.slice Ql qc.length Qm,.slice Xl xu.length Xm,.int .i64 qX,.string qR,.slice Yn xA.length Yo,.slice Z8 yU.length Z9]) (t:=56) ?hr ?_;(case hd=>rfl);(case hg=>rfl);(case hr=>first|(go_simp;done)|(go_simp;rfl));intro gb205 hg w3 hbox hb;have qI:=Ak (hbox);have GW205:=gs HB hg;have GE205:=gs HB hg;replace HB:=BS HB hb;clear hb hbox hg))
 (try simp only [Act.put,List.setIfInBounds_toArray,List.set_cons_zero,List.set_cons_succ])
 go_cut [38] (fun v38 wc=>∃ (kq:Nat) (x38_1:Bool),v38=.bool x38_1∧zh (zq.j0 kq x38_1 yR yX yN xZ qc xu qX qR xA yU=some r)∧zh (kq≤k)∧zh (wc.heap[gb205]?=some (.cells #[.int .i64 yR,.bool yX,.int .i64 yN,(.slice Qr xZ.length Qs),(.slice Ql qc.length Qm),(.slice Xl xu.length Xm),.int .i64 qX,.string qR,(.slice Yn xA.length Yo),(.slice Z8 yU.length Z9)] 56 (0,0)))∧zh (Below w.heap.size w wc))
 case first =>
  have H:=HC2.out
  clear HC2
  by_cases c4:yN<1
  ·rw [if_pos c4] at H
   have ZG:=dt c4
   clear c4
   (first|rw [ZG]|(simp only [xJ,xU];rw [ZG])|skip)
   have H':=Ak H
   clear H
   obtain ⟨hcz5_0,hcz5_1,hcz5_2,hcz5_3,hcz5_4,hcz5_5,hcz5_6,hcz5_7,hcz5_8,hcz5_9,hfz5_0,hfz5_1,hfz5_2,hfz5_3,hfz5_4,hfz5_5,hfz5_6,hfz5_7,hfz5_8,hfz5_9⟩:=jV qI.out
   go_wp2
   go_meet
   case rel=>exact ⟨_,(true),es,H',⟨eo⟩,⟨bo qI⟩,⟨bl HB⟩⟩
  ·rw [if_neg c4] at H
   have ZG:=df c4
   clear c4
   (first|rw [ZG]|(simp only [xJ,xU];rw [ZG])|skip)
   by_cases c6:yN > 250
   ·rw [if_pos c6] at H
    have c6b0:=tg c6
    clear c6
    have H':=Ak H
    clear H
    obtain ⟨hcz7_0,hcz7_1,hcz7_2,hcz7_3,hcz7_4,hcz7_5,hcz7_6,hcz7_7,hcz7_8,hcz7_9,hfz7_0,hfz7_1,hfz7_2,hfz7_3,hfz7_4,hfz7_5,hfz7_6,hfz7_7,hfz7_8,hfz7_9⟩:=jV qI.out
    go_wp2
    go_meet
    case rel=>exact ⟨_,(true),es,H',⟨eo⟩,⟨bo qI⟩,⟨bl HB⟩⟩
   ·rw [if_neg c6] at H
    have c6b0:=fg c6
    clear c6
    by_cases c8:yR<0
    ·rw [if_pos c8] at H
     have c8b0:=dt c8
     clear c8
     have H':=Ak H
     clear H
     obtain ⟨hcz9_0,hcz9_1,hcz9_2,hcz9_3,hcz9_4,hcz9_5,hcz9_6,hcz9_7,hcz9_8,hcz9_9,hfz9_0,hfz9_1,hfz9_2,hfz9_3,hfz9_4,hfz9_5,hfz9_6,hfz9_7,hfz9_8,hfz9_9⟩:=jV qI.out
     go_wp2
     go_meet
     case rel=>exact ⟨_,(true),es,H',⟨eo⟩,⟨bo qI⟩,⟨bl HB⟩⟩
    ·rw [if_neg c8] at H
     have c8b0:=df c8
     clear c8
     by_cases c10:yR > yN
     ·rw [if_pos c10] at H
      have JA:=tg c10
      clear c10
      have H':=Ak H
      clear H
      obtain ⟨hcz11_0,hcz11_1,hcz11_2,hcz11_3,hcz11_4,hcz11_5,hcz11_6,hcz11_7,hcz11_8,hcz11_9,hfz11_0,hfz11_1,hfz11_2,hfz11_3,hfz11_4,hfz11_5,hfz11_6,hfz11_7,hfz11_8,hfz11_9⟩:=jV qI.out
      go_wp2
      go_meet
      case rel=>exact ⟨_,(true),es,H',⟨eo⟩,⟨bo qI⟩,⟨bl HB⟩⟩
     ·rw [if_neg c10] at H
      have JA:=fg c10
      clear c10
      by_cases c12:(xZ.length:Int)<1
      ·rw [if_pos c12] at H
       have Je:=dt c12
       have c12b1:=dT (xZ.length<1)
       clear c12
       have H':=Ak H
       clear H
       obtain ⟨hcz13_0,hcz13_1,hcz13_2,hcz13_3,hcz13_4,hcz13_5,hcz13_6,hcz13_7,hcz13_8,hcz13_9,hfz13_0,hfz13_1,hfz13_2,hfz13_3,hfz13_4,hfz13_5,hfz13_6,hfz13_7,hfz13_8,hfz13_9⟩:=jV qI.out
       go_wp2
       go_meet
       case rel=>exact ⟨_,(true),es,H',⟨eo⟩,⟨bo qI⟩,⟨bl HB⟩⟩
      ·rw [if_neg c12] at H
       have Je:=df c12
       have c12b1:=dF (xZ.length<1)
       clear c12
       have H':=Ak H
       clear H
       obtain ⟨hcz14_0,hcz14_1,hcz14_2,hcz14_3,hcz14_4,hcz14_5,hcz14_6,hcz14_7,hcz14_8,hcz14_9,hfz14_0,hfz14_1,hfz14_2,hfz14_3,hfz14_4,hfz14_5,hfz14_6,hfz14_7,hfz14_8,hfz14_9⟩:=jV qI.out
       go_wp2
       go_meet
       case rel=>exact ⟨_,(decide ((xZ.length:Int) > 2000)),es,H',⟨eo⟩,⟨bo qI⟩,⟨bl HB⟩⟩
 case rest =>
  clear HC2
  obtain ⟨kq,x38_1,rfl,HA,HJ1,qI,HB⟩:=hcut
  cases kq with
  | zero=>exact absurd HA.out (by simp [zq.j0])
  | succ kj1 =>
   have H:=HA.out
   clear HA
   simp only [zq.j0] at H
   by_cases c15:x38_1=true
   ·subst c15
    have H1:(some false)=some r:=by rw [if_pos rfl] at H;exact H
    clear H;have H:=H1;clear H1
    obtain rfl:=Option.some.inj H
    go_wp2
    go_ret
    exact ⟨ef,bl HB⟩
   ·replace c15:=Bool.eq_false_iff.mpr c15
    subst c15
    have H1:(if (qc.length:Int) > 500 then (zq.j1 kj1 true yR yX yN xZ qc xu qX qR xA yU) else (if (xu.length:Int) > 60 then (zq.j1 kj1 true yR yX yN xZ qc xu qX qR xA yU) else (zq.j1 kj1 (decide ((qR.size:Int) > 1000)) yR yX yN xZ qc xu qX qR xA yU)))=some r:=by rw [if_neg (show ¬ (false=true) by decide)] at H;exact H
    clear H;have H:=H1;clear H1;have HC16:=Ak H;clear H
    go_upto_region 3 with (fail)
    go_cut [54] (fun v54 wc=>∃ (kq:Nat) (x54_15:Bool),v54=.bool x54_15∧zh (zq.j1 kq x54_15 yR yX yN xZ qc xu qX qR xA yU=some r)∧zh (kq≤kj1)∧zh (wc.heap[gb205]?=some (.cells #[.int .i64 yR,.bool yX,.int .i64 yN,(.slice Qr xZ.length Qs),(.slice Ql qc.length Qm),(.slice Xl xu.length Xm),.int .i64 qX,.string qR,(.slice Yn xA.length Yo),(.slice Z8 yU.length Z9)] 56 (0,0)))∧zh (Below w.heap.size w wc))
    case first =>
     have H:=HC16.out
     clear HC16
     by_cases c17:(qc.length:Int) > 500
     ·rw [if_pos c17] at H
      have c17b0:=tg c17
      have c17b1:=dT (500<qc.length)
      clear c17
      (first|rw [c17b0]|(simp only [xJ,xU];rw [c17b0])|skip)
      have H':=Ak H
      clear H
      obtain ⟨hcz18_0,hcz18_1,hcz18_2,hcz18_3,hcz18_4,hcz18_5,hcz18_6,hcz18_7,hcz18_8,hcz18_9,hfz18_0,hfz18_1,hfz18_2,hfz18_3,hfz18_4,hfz18_5,hfz18_6,hfz18_7,hfz18_8,hfz18_9⟩:=jV qI.out
      go_wp2
      go_meet
      case rel=>exact ⟨_,(true),es,H',⟨by have:=HJ1.out;first|omega|exact Nat.le_refl _⟩,⟨bo qI⟩,⟨bl HB⟩⟩
     ·rw [if_neg c17] at H
      have c17b0:=fg c17
      have c17b1:=dF (500<qc.length)
      clear c17
      (first|rw [c17b0]|(simp only [xJ,xU];rw [c17b0])|skip)
      by_cases c19:(xu.length:Int) > 60
      ·rw [if_pos c19] at H
       have c19b0:=tg c19
       have c19b1:=dT (60<xu.length)
       clear c19
       have H':=Ak H
       clear H
       obtain ⟨hcz20_0,hcz20_1,hcz20_2,hcz20_3,hcz20_4,hcz20_5,hcz20_6,hcz20_7,hcz20_8,hcz20_9,hfz20_0,hfz20_1,hfz20_2,hfz20_3,hfz20_4,hfz20_5,hfz20_6,hfz20_7,hfz20_8,hfz20_9⟩:=jV qI.out
       go_wp2
       go_meet
       case rel=>exact ⟨_,(true),es,H',⟨by have:=HJ1.out;first|omega|exact Nat.le_refl _⟩,⟨bo qI⟩,⟨bl HB⟩⟩
      ·rw [if_neg c19] at H
       have c19b0:=fg c19
       have c19b1:=dF (60<xu.length)
       clear c19
       have H':=Ak H
       clear H
       obtain ⟨hcz21_0,hcz21_1,hcz21_2,hcz21_3,hcz21_4,hcz21_5,hcz21_6,hcz21_7,hcz21_8,hcz21_9,hfz21_0,hfz21_1,hfz21_2,hfz21_3,hfz21_4,hfz21_5,hfz21_6,hfz21_7,hfz21_8,hfz21_9⟩:=jV qI.out
       go_wp2
       go_meet
       case rel=>exact ⟨_,(decide ((qR.size:Int) > 1000)),es,H',⟨by have:=HJ1.out;first|omega|exact Nat.le_refl _⟩,⟨bo qI⟩,⟨bl HB⟩⟩
    case rest =>
     clear HC16
     obtain ⟨kq,x54_15,rfl,HA,HJ15,qI,HB⟩:=hcut
     cases kq with
     | zero=>exact absurd HA.out (by simp [zq.j1])
     | succ kj15 =>
      have H:=HA.out
      clear HA
      simp only [zq.j1] at H
      by_cases c22:x54_15=true
      ·subst c22
       have H1:(some false)=some r:=by rw [if_pos rfl] at H;exact H
       clear H;have H:=H1;clear H1
       obtain rfl:=Option.some.inj H
       go_wp2
       go_ret
       exact ⟨ef,bl HB⟩
      ·replace c22:=Bool.eq_false_iff.mpr c22
       subst c22
       have H1:(if (xA.length:Int) > 0 then (if (xA.length:Int)=(xZ.length:Int) then (if (yU.length:Int) > 0 then (zq.j2 kj15 ((yU.length:Int) != (xu.length:Int)) yR yX yN xZ qc xu qX qR xA yU) else (zq.j2 kj15 false yR yX yN xZ qc xu qX qR xA yU)) else (zq.j2 kj15 true yR yX yN xZ qc xu qX qR xA yU)) else (if (yU.length:Int) > 0 then (zq.j2 kj15 ((yU.length:Int) != (xu.length:Int)) yR yX yN xZ qc xu qX qR xA yU) else (zq.j2 kj15 false yR yX yN xZ qc xu qX qR xA yU)))=some r:=by rw [if_neg (show ¬ (false=true) by decide)] at H;exact H
       clear H;have H:=H1;clear H1;have HC23:=Ak H;clear H
       go_upto_region 5 with (fail)
       go_cut [82] (fun v82 wc=>∃ (kq:Nat) (x82_22:Bool),v82=.bool x82_22∧zh (zq.j2 kq x82_22 yR yX yN xZ qc xu qX qR xA yU=some r)∧zh (kq≤kj15)∧zh (wc.heap[gb205]?=some (.cells #[.int .i64 yR,.bool yX,.int .i64 yN,(.slice Qr xZ.length Qs),(.slice Ql qc.length Qm),(.slice Xl xu.length Xm),.int .i64 qX,.string qR,(.slice Yn xA.length Yo),(.slice Z8 yU.length Z9)] 56 (0,0)))∧zh (Below w.heap.size w wc))
       case first =>
        have H:=HC23.out
        clear HC23
        by_cases c24:(xA.length:Int) > 0
        ·rw [if_pos c24] at H
         have c24b0:=tg c24
         have c24b1:=dT (0<xA.length)
         clear c24
         (first|rw [c24b0]|(simp only [xJ,xU];rw [c24b0])|skip)
         by_cases c25:(xA.length:Int)=(xZ.length:Int)
         ·rw [if_pos c25] at H
          have c25b0:=bT c25
          have c25b1:=nF c25
          have c25b2:(xA.length == xZ.length)=true:=by first|simpa using c25|(simp at c25 ⊢;omega)
          clear c25
          by_cases c26:(yU.length:Int) > 0
          ·rw [if_pos c26] at H
           have c26b0:=tg c26
           have c26b1:=dT (0<yU.length)
           clear c26
           have H':=Ak H
           clear H
           obtain ⟨hcz27_0,hcz27_1,hcz27_2,hcz27_3,hcz27_4,hcz27_5,hcz27_6,hcz27_7,hcz27_8,hcz27_9,hfz27_0,hfz27_1,hfz27_2,hfz27_3,hfz27_4,hfz27_5,hfz27_6,hfz27_7,hfz27_8,hfz27_9⟩:=jV qI.out
           go_wp2
           go_meet
           case rel=>exact ⟨_,(((yU.length:Int) != (xu.length:Int))),es,H',⟨by have:=HJ1.out;have:=HJ15.out;first|omega|exact Nat.le_refl _⟩,⟨bo qI⟩,⟨bl HB⟩⟩
          ·rw [if_neg c26] at H
           have c26b0:=fg c26
           have c26b1:=dF (0<yU.length)
           clear c26
           have H':=Ak H
           clear H
           obtain ⟨hcz28_0,hcz28_1,hcz28_2,hcz28_3,hcz28_4,hcz28_5,hcz28_6,hcz28_7,hcz28_8,hcz28_9,hfz28_0,hfz28_1,hfz28_2,hfz28_3,hfz28_4,hfz28_5,hfz28_6,hfz28_7,hfz28_8,hfz28_9⟩:=jV qI.out
           go_wp2
           go_meet
           case rel=>exact ⟨_,(false),es,H',⟨by have:=HJ1.out;have:=HJ15.out;first|omega|exact Nat.le_refl _⟩,⟨bo qI⟩,⟨bl HB⟩⟩
         ·rw [if_neg c25] at H
          have c25b0:=bF c25
          have c25b1:=nT c25
          have c25b2:(xA.length == xZ.length)=false:=by first|simpa using c25|(simp at c25 ⊢;omega)
          have H':=Ak H
          clear H
          obtain ⟨hcz29_0,hcz29_1,hcz29_2,hcz29_3,hcz29_4,hcz29_5,hcz29_6,hcz29_7,hcz29_8,hcz29_9,hfz29_0,hfz29_1,hfz29_2,hfz29_3,hfz29_4,hfz29_5,hfz29_6,hfz29_7,hfz29_8,hfz29_9⟩:=jV qI.out
          go_wp2
          go_meet
          case rel=>exact ⟨_,(true),es,H',⟨by have:=HJ1.out;have:=HJ15.out;first|omega|exact Nat.le_refl _⟩,⟨bo qI⟩,⟨bl HB⟩⟩
        ·rw [if_neg c24] at H
         have c24b0:=fg c24
         have c24b1:=dF (0<xA.length)
         clear c24
         (first|rw [c24b0]|(simp only [xJ,xU];rw [c24b0])|skip)
         by_cases c30:(yU.length:Int) > 0
         ·rw [if_pos c30] at H
          have c30b0:=tg c30
          have c30b1:=dT (0<yU.length)
          clear c30
          have H':=Ak H
          clear H
          obtain ⟨hcz31_0,hcz31_1,hcz31_2,hcz31_3,hcz31_4,hcz31_5,hcz31_6,hcz31_7,hcz31_8,hcz31_9,hfz31_0,hfz31_1,hfz31_2,hfz31_3,hfz31_4,hfz31_5,hfz31_6,hfz31_7,hfz31_8,hfz31_9⟩:=jV qI.out
          go_wp2
          go_meet
          case rel=>exact ⟨_,(((yU.length:Int) != (xu.length:Int))),es,H',⟨by have:=HJ1.out;have:=HJ15.out;first|omega|exact Nat.le_refl _⟩,⟨bo qI⟩,⟨bl HB⟩⟩
         ·rw [if_neg c30] at H
          have c30b0:=fg c30
          have c30b1:=dF (0<yU.length)
          clear c30
          have H':=Ak H
          clear H
          obtain ⟨hcz32_0,hcz32_1,hcz32_2,hcz32_3,hcz32_4,hcz32_5,hcz32_6,hcz32_7,hcz32_8,hcz32_9,hfz32_0,hfz32_1,hfz32_2,hfz32_3,hfz32_4,hfz32_5,hfz32_6,hfz32_7,hfz32_8,hfz32_9⟩:=jV qI.out
          go_wp2
          go_meet
          case rel=>exact ⟨_,(false),es,H',⟨by have:=HJ1.out;have:=HJ15.out;first|omega|exact Nat.le_refl _⟩,⟨bo qI⟩,⟨bl HB⟩⟩
       case rest =>
        clear HC23
        obtain ⟨kq,x82_22,rfl,HA,HJ22,qI,HB⟩:=hcut
        cases kq with
        | zero=>exact absurd HA.out (by simp [zq.j2])
        | succ kj22 =>
         have H:=HA.out
         clear HA
         simp only [zq.j2] at H
         by_cases c33:x82_22=true
         ·subst c33
          have H1:(some false)=some r:=by rw [if_pos rfl] at H;exact H
          clear H;have H:=H1;clear H1
          obtain rfl:=Option.some.inj H
          go_wp2
          go_ret
          exact ⟨ef,bl HB⟩
         ·replace c33:=Bool.eq_false_iff.mpr c33
          subst c33
          have H1:(zq.l0 kj22 0 yR yX yN xZ qc xu qX qR xA yU)=some r:=by rw [if_neg (show ¬ (false=true) by decide)] at H;exact H
          clear H;have H:=H1;clear H1
          have H':=Ak H
          clear H
          go_wp2
          go_loopg [3] kj22 (fun kq v3 w'=>∃ (Ju:Int),v3=.int .i64 Ju∧zh (zq.l0 kq Ju yR yX yN xZ qc xu qX qR xA yU=some r)∧zh (kq≤kj22)∧zh (w'.heap[gb205]?=some (.cells #[.int .i64 yR,.bool yX,.int .i64 yN,(.slice Qr xZ.length Qs),(.slice Ql qc.length Qm),(.slice Xl xu.length Xm),.int .i64 qX,.string qR,(.slice Yn xA.length Yo),(.slice Z8 yU.length Z9)] 56 (0,0)))∧zh (Below w.heap.size w w'))
          case atStart=>exact ⟨(0),es,H',⟨Nat.le_refl _⟩,⟨bo qI⟩,⟨bl HB⟩⟩
          case round =>
           clear H'
           obtain ⟨Ju,rfl,HA,HK4,qI,HB⟩:=hrel
           cases gk with
           | zero=>exact absurd HA.out (by simp [zq.l0])
           | succ k4 =>
            have H:=HA.out
            clear HA
            simp only [zq.l0] at H
            by_cases c34:Ju<(qc.length:Int)
            ·rw [if_pos c34] at H
             have c34b0:=dt c34
             clear c34
             by_cases c35:0≤Ju
             ·rw [if_pos c35] at H
              have c35b0:=dt c35
              clear c35
              replace H:=Option.bind_eq_some_iff.mp H
              obtain ⟨t207,A360,H⟩:=H
              replace H:(if t207=true then (zq.l0 k4 (wrap64 (Ju+1)) yR yX yN xZ qc xu qX qR xA yU) else (some false))=some r:=H
              have A36:=Ak A360;clear A360
              by_cases c37:t207=true
              ·subst c37
               have H1:(zq.l0 k4 (wrap64 (Ju+1)) yR yX yN xZ qc xu qX qR xA yU)=some r:=by rw [if_pos rfl] at H;exact H
               clear H;have H:=H1;clear H1
               have H':=Ak H
               clear H
               obtain ⟨hcz38_0,hcz38_1,hcz38_2,hcz38_3,hcz38_4,hcz38_5,hcz38_6,hcz38_7,hcz38_8,hcz38_9,hfz38_0,hfz38_1,hfz38_2,hfz38_3,hfz38_4,hfz38_5,hfz38_6,hfz38_7,hfz38_8,hfz38_9⟩:=jV qI.out
               have p206:0≤(Ju:Int):=od
               have q206:Ju<(qc.length:Int):=od
               obtain ⟨ad206,e206,KD,KE,KF⟩:=Js Jf.out Ju p206 q206
               cases e206
               replace KD:=cu HB KD
               replace KE:=cu HB KE
               replace KF:=cu HB KF
               replace p206:=eq_true p206
               replace q206:=eq_true q206
               go_wp2_with (first|((with_reducible refine yP (f:=58) rfl ?_);refine jU (some 95) rfl rfl Tryz.func58 (by kernel_rfl) rfl #[.agg #[.int .i64 ((xH qc Ju).f0),.int .i64 ((xH qc Ju).f1),.string ((xH qc Ju).f2)]] rfl em ?_;(with_reducible refine (kN.calls ((xH qc Ju).f0) ((xH qc Ju).f1) ((xH qc Ju).f2) true _ A36.out).mono ?_);rintro e w39 ⟨rfl,hb⟩;refine ⟨_,rfl,?_⟩;replace qI:=BB qI hb;replace HB:=BS HB hb))
               go_roundg k4
               case measure=>have:=HJ1.out;have:=HJ15.out;have:=HJ22.out;have:=HK4.out;omega
               case rel=>exact ⟨(wrap64 (Ju+1)),es,H',⟨by have:=HJ1.out;have:=HJ15.out;have:=HJ22.out;have:=HK4.out;omega⟩,⟨bo qI⟩,⟨bl HB⟩⟩
              ·replace c37:=Bool.eq_false_iff.mpr c37
               subst c37
               have H1:(some false)=some r:=by rw [if_neg (show ¬ (false=true) by decide)] at H;exact H
               clear H;have H:=H1;clear H1
               obtain rfl:=Option.some.inj H
               obtain ⟨hcz40_0,hcz40_1,hcz40_2,hcz40_3,hcz40_4,hcz40_5,hcz40_6,hcz40_7,hcz40_8,hcz40_9,hfz40_0,hfz40_1,hfz40_2,hfz40_3,hfz40_4,hfz40_5,hfz40_6,hfz40_7,hfz40_8,hfz40_9⟩:=jV qI.out
               have p206:0≤(Ju:Int):=od
               have q206:Ju<(qc.length:Int):=od
               obtain ⟨ad206,e206,KD,KE,KF⟩:=Js Jf.out Ju p206 q206
               cases e206
               replace KD:=cu HB KD
               replace KE:=cu HB KE
               replace KF:=cu HB KF
               replace p206:=eq_true p206
               replace q206:=eq_true q206
               go_wp2_with (first|((with_reducible refine yP (f:=58) rfl ?_);refine jU (some 95) rfl rfl Tryz.func58 (by kernel_rfl) rfl #[.agg #[.int .i64 ((xH qc Ju).f0),.int .i64 ((xH qc Ju).f1),.string ((xH qc Ju).f2)]] rfl em ?_;(with_reducible refine (kN.calls ((xH qc Ju).f0) ((xH qc Ju).f1) ((xH qc Ju).f2) false _ A36.out).mono ?_);rintro e w41 ⟨rfl,hb⟩;refine ⟨_,rfl,?_⟩;replace qI:=BB qI hb;replace HB:=BS HB hb))
               go_ret
               exact ⟨ef,bl HB⟩
             ·rw [if_neg c35] at H
              exact absurd H (by simp)
            ·rw [if_neg c34] at H
             have c34b0:=df c34
             clear c34
             have H':=Ak H
             clear H
             obtain ⟨hcz42_0,hcz42_1,hcz42_2,hcz42_3,hcz42_4,hcz42_5,hcz42_6,hcz42_7,hcz42_8,hcz42_9,hfz42_0,hfz42_1,hfz42_2,hfz42_3,hfz42_4,hfz42_5,hfz42_6,hfz42_7,hfz42_8,hfz42_9⟩:=jV qI.out
             go_wp2
             go_loopg [4] k4 (fun kq v4 w'=>∃ (x4_5:Int),v4=.int .i64 x4_5∧zh (zq.l1 kq x4_5 yR yX yN xZ qc xu qX qR xA yU=some r)∧zh (kq≤k4)∧zh (w'.heap[gb205]?=some (.cells #[.int .i64 yR,.bool yX,.int .i64 yN,(.slice Qr xZ.length Qs),(.slice Ql qc.length Qm),(.slice Xl xu.length Xm),.int .i64 qX,.string qR,(.slice Yn xA.length Yo),(.slice Z8 yU.length Z9)] 56 (0,0)))∧zh (Below w.heap.size w w'))
             case atStart=>exact ⟨(0),es,H',⟨Nat.le_refl _⟩,⟨bo qI⟩,⟨bl HB⟩⟩
             case round =>
              clear H'
              obtain ⟨x4_5,rfl,HA,HK5,qI,HB⟩:=hrel
              cases gk with
              | zero=>exact absurd HA.out (by simp [zq.l1])
              | succ k5 =>
               have H:=HA.out
               clear HA
               simp only [zq.l1] at H
               by_cases c43:x4_5<(xu.length:Int)
               ·rw [if_pos c43] at H
                have c43b0:=dt c43
                clear c43
                by_cases c44:0≤x4_5
                ·rw [if_pos c44] at H
                 have c44b0:=dt c44
                 clear c44
                 replace H:=Option.bind_eq_some_iff.mp H
                 obtain ⟨t209,A450,H⟩:=H
                 replace H:(if t209=true then (zq.l1 k5 (wrap64 (x4_5+1)) yR yX yN xZ qc xu qX qR xA yU) else (some false))=some r:=H
                 have A45:=Ak A450;clear A450
                 by_cases c46:t209=true
                 ·subst c46
                  have H1:(zq.l1 k5 (wrap64 (x4_5+1)) yR yX yN xZ qc xu qX qR xA yU)=some r:=by rw [if_pos rfl] at H;exact H
                  clear H;have H:=H1;clear H1
                  have H':=Ak H
                  clear H
                  obtain ⟨hcz47_0,hcz47_1,hcz47_2,hcz47_3,hcz47_4,hcz47_5,hcz47_6,hcz47_7,hcz47_8,hcz47_9,hfz47_0,hfz47_1,hfz47_2,hfz47_3,hfz47_4,hfz47_5,hfz47_6,hfz47_7,hfz47_8,hfz47_9⟩:=jV qI.out
                  have p208:0≤(x4_5:Int):=od
                  have q208:x4_5<(xu.length:Int):=od
                  obtain ⟨ad208,e208,KG,KH⟩:=Jt Kz.out x4_5 p208 q208
                  cases e208
                  replace KG:=cu HB KG
                  replace KH:=cu HB KH
                  replace p208:=eq_true p208
                  replace q208:=eq_true q208
                  go_wp2_with (first|((with_reducible refine yP (f:=59) rfl ?_);refine jU (some 110) rfl rfl Tryz.func59 (by kernel_rfl) rfl #[.int .i64 ((jh xu x4_5).f1)] rfl em ?_;(with_reducible refine (jc.calls ((jh xu x4_5).f1) true _ A45.out).mono ?_);rintro e w' ⟨rfl,⟨nd,rfl⟩⟩;refine ⟨_,rfl,?_⟩))
                  go_roundg k5
                  case measure=>have:=HJ1.out;have:=HJ15.out;have:=HJ22.out;have:=HK4.out;have:=HK5.out;omega
                  case rel=>exact ⟨(wrap64 (x4_5+1)),es,H',⟨by have:=HJ1.out;have:=HJ15.out;have:=HJ22.out;have:=HK4.out;have:=HK5.out;omega⟩,⟨bo qI⟩,⟨bl HB⟩⟩
                 ·replace c46:=Bool.eq_false_iff.mpr c46
                  subst c46
                  have H1:(some false)=some r:=by rw [if_neg (show ¬ (false=true) by decide)] at H;exact H
                  clear H;have H:=H1;clear H1
                  obtain rfl:=Option.some.inj H
                  obtain ⟨hcz48_0,hcz48_1,hcz48_2,hcz48_3,hcz48_4,hcz48_5,hcz48_6,hcz48_7,hcz48_8,hcz48_9,hfz48_0,hfz48_1,hfz48_2,hfz48_3,hfz48_4,hfz48_5,hfz48_6,hfz48_7,hfz48_8,hfz48_9⟩:=jV qI.out
                  have p208:0≤(x4_5:Int):=od
                  have q208:x4_5<(xu.length:Int):=od
                  obtain ⟨ad208,e208,KG,KH⟩:=Jt Kz.out x4_5 p208 q208
                  cases e208
                  replace KG:=cu HB KG
                  replace KH:=cu HB KH
                  replace p208:=eq_true p208
                  replace q208:=eq_true q208
                  go_wp2_with (first|((with_reducible refine yP (f:=59) rfl ?_);refine jU (some 110) rfl rfl Tryz.func59 (by kernel_rfl) rfl #[.int .i64 ((jh xu x4_5).f1)] rfl em ?_;(with_reducible refine (jc.calls ((jh xu x4_5).f1) false _ A45.out).mono ?_);rintro e w' ⟨rfl,⟨nd,rfl⟩⟩;refine ⟨_,rfl,?_⟩))
                  go_ret
                  exact ⟨ef,bl HB⟩
                ·rw [if_neg c44] at H
                 exact absurd H (by simp)
               ·rw [if_neg c43] at H
                have c43b0:=df c43
                clear c43
                have H':=Ak H
                clear H
                obtain ⟨hcz49_0,hcz49_1,hcz49_2,hcz49_3,hcz49_4,hcz49_5,hcz49_6,hcz49_7,hcz49_8,hcz49_9,hfz49_0,hfz49_1,hfz49_2,hfz49_3,hfz49_4,hfz49_5,hfz49_6,hfz49_7,hfz49_8,hfz49_9⟩:=jV qI.out
                go_wp2
                go_loopg [5] k5 (fun kq v5 w'=>∃ (x5_6:Int),v5=.int .i64 x5_6∧zh (zq.l2 kq x5_6 yR yX yN xZ qc xu qX qR xA yU=some r)∧zh (kq≤k5)∧zh (w'.heap[gb205]?=some (.cells #[.int .i64 yR,.bool yX,.int .i64 yN,(.slice Qr xZ.length Qs),(.slice Ql qc.length Qm),(.slice Xl xu.length Xm),.int .i64 qX,.string qR,(.slice Yn xA.length Yo),(.slice Z8 yU.length Z9)] 56 (0,0)))∧zh (Below w.heap.size w w'))
                case atStart=>exact ⟨(0),es,H',⟨Nat.le_refl _⟩,⟨bo qI⟩,⟨bl HB⟩⟩
                case round =>
                 clear H'
                 obtain ⟨x5_6,rfl,HA,HK6,qI,HB⟩:=hrel
                 cases gk with
                 | zero=>exact absurd HA.out (by simp [zq.l2])
                 | succ k6 =>
                  have H:=HA.out
                  clear HA
                  simp only [zq.l2] at H
                  by_cases c50:x5_6<(xA.length:Int)
                  ·rw [if_pos c50] at H
                   have c50b0:=dt c50
                   clear c50
                   by_cases c51:0≤x5_6
                   ·rw [if_pos c51] at H
                    have c51b0:=dt c51
                    clear c51
                    replace H:=Option.bind_eq_some_iff.mp H
                    obtain ⟨t211,A520,H⟩:=H
                    replace H:(if t211=true then (zq.l2 k6 (wrap64 (x5_6+1)) yR yX yN xZ qc xu qX qR xA yU) else (some false))=some r:=H
                    have A52:=Ak A520;clear A520
                    by_cases c53:t211=true
                    ·subst c53
                     have H1:(zq.l2 k6 (wrap64 (x5_6+1)) yR yX yN xZ qc xu qX qR xA yU)=some r:=by rw [if_pos rfl] at H;exact H
                     clear H;have H:=H1;clear H1
                     have H':=Ak H
                     clear H
                     obtain ⟨hcz54_0,hcz54_1,hcz54_2,hcz54_3,hcz54_4,hcz54_5,hcz54_6,hcz54_7,hcz54_8,hcz54_9,hfz54_0,hfz54_1,hfz54_2,hfz54_3,hfz54_4,hfz54_5,hfz54_6,hfz54_7,hfz54_8,hfz54_9⟩:=jV qI.out
                     have p210:0≤(x5_6:Int):=od
                     have q210:x5_6<(xA.length:Int):=od
                     obtain ⟨ad210,e210,KI⟩:=Kd.vV QS.out x5_6 p210 q210
                     cases e210
                     replace KI:=cu HB KI
                     replace p210:=eq_true p210
                     replace q210:=eq_true q210
                     go_wp2_with (first|((with_reducible refine yP (f:=59) rfl ?_);refine jU (some 124) rfl rfl Tryz.func59 (by kernel_rfl) rfl #[.int .i64 (rd xA x5_6)] rfl em ?_;(with_reducible refine (jc.calls (rd xA x5_6) true _ A52.out).mono ?_);rintro e w' ⟨rfl,⟨nd,rfl⟩⟩;refine ⟨_,rfl,?_⟩))
                     go_roundg k6
                     case measure=>have:=HJ1.out;have:=HJ15.out;have:=HJ22.out;have:=HK4.out;have:=HK5.out;have:=HK6.out;omega
                     case rel=>exact ⟨(wrap64 (x5_6+1)),es,H',⟨by have:=HJ1.out;have:=HJ15.out;have:=HJ22.out;have:=HK4.out;have:=HK5.out;have:=HK6.out;omega⟩,⟨bo qI⟩,⟨bl HB⟩⟩
                    ·replace c53:=Bool.eq_false_iff.mpr c53
                     subst c53
                     have H1:(some false)=some r:=by rw [if_neg (show ¬ (false=true) by decide)] at H;exact H
                     clear H;have H:=H1;clear H1
                     obtain rfl:=Option.some.inj H
                     obtain ⟨hcz55_0,hcz55_1,hcz55_2,hcz55_3,hcz55_4,hcz55_5,hcz55_6,hcz55_7,hcz55_8,hcz55_9,hfz55_0,hfz55_1,hfz55_2,hfz55_3,hfz55_4,hfz55_5,hfz55_6,hfz55_7,hfz55_8,hfz55_9⟩:=jV qI.out
                     have p210:0≤(x5_6:Int):=od
                     have q210:x5_6<(xA.length:Int):=od
                     obtain ⟨ad210,e210,KI⟩:=Kd.vV QS.out x5_6 p210 q210
                     cases e210
                     replace KI:=cu HB KI
                     replace p210:=eq_true p210
                     replace q210:=eq_true q210
                     go_wp2_with (first|((with_reducible refine yP (f:=59) rfl ?_);refine jU (some 124) rfl rfl Tryz.func59 (by kernel_rfl) rfl #[.int .i64 (rd xA x5_6)] rfl em ?_;(with_reducible refine (jc.calls (rd xA x5_6) false _ A52.out).mono ?_);rintro e w' ⟨rfl,⟨nd,rfl⟩⟩;refine ⟨_,rfl,?_⟩))
                     go_ret
                     exact ⟨ef,bl HB⟩
                   ·rw [if_neg c51] at H
                    exact absurd H (by simp)
                  ·rw [if_neg c50] at H
                   have c50b0:=df c50
                   clear c50
                   have H':=Ak H
                   clear H
                   obtain ⟨hcz56_0,hcz56_1,hcz56_2,hcz56_3,hcz56_4,hcz56_5,hcz56_6,hcz56_7,hcz56_8,hcz56_9,hfz56_0,hfz56_1,hfz56_2,hfz56_3,hfz56_4,hfz56_5,hfz56_6,hfz56_7,hfz56_8,hfz56_9⟩:=jV qI.out
                   go_wp2
                   go_loopg [6] k6 (fun kq v6 w'=>∃ (x6_7:Int),v6=.int .i64 x6_7∧zh (zq.l3 kq x6_7 yR yX yN xZ qc xu qX qR xA yU=some r)∧zh (kq≤k6)∧zh (w'.heap[gb205]?=some (.cells #[.int .i64 yR,.bool yX,.int .i64 yN,(.slice Qr xZ.length Qs),(.slice Ql qc.length Qm),(.slice Xl xu.length Xm),.int .i64 qX,.string qR,(.slice Yn xA.length Yo),(.slice Z8 yU.length Z9)] 56 (0,0)))∧zh (Below w.heap.size w w'))
                   case atStart=>exact ⟨(0),es,H',⟨Nat.le_refl _⟩,⟨bo qI⟩,⟨bl HB⟩⟩
                   case round =>
                    clear H'
                    obtain ⟨x6_7,rfl,HA,HK7,qI,HB⟩:=hrel
                    cases gk with
                    | zero=>exact absurd HA.out (by simp [zq.l3])
                    | succ k7 =>
                     have H:=HA.out
                     clear HA
                     simp only [zq.l3] at H
                     by_cases c57:x6_7<(yU.length:Int)
                     ·rw [if_pos c57] at H
                      have c57b0:=dt c57
                      clear c57
                      by_cases c58:0≤x6_7
                      ·rw [if_pos c58] at H
                       have c58b0:=dt c58
                       clear c58
                       by_cases c59:((rdOf ByteArray.empty yU x6_7).size:Int) > 1000
                       ·rw [if_pos c59] at H
                        have c59b0:=tg c59
                        have c59b1:decide (1000<(rdOf ByteArray.empty yU x6_7).size)=true:=dt (by omega)
                        clear c59
                        obtain rfl:=Option.some.inj H
                        obtain ⟨hcz60_0,hcz60_1,hcz60_2,hcz60_3,hcz60_4,hcz60_5,hcz60_6,hcz60_7,hcz60_8,hcz60_9,hfz60_0,hfz60_1,hfz60_2,hfz60_3,hfz60_4,hfz60_5,hfz60_6,hfz60_7,hfz60_8,hfz60_9⟩:=jV qI.out
                        have p212:0≤(x6_7:Int):=od
                        have q212:x6_7<(yU.length:Int):=od
                        obtain ⟨ad212,e212,KJ⟩:=Kd.ZL HR0_9.out x6_7 p212 q212
                        cases e212
                        replace KJ:=cu HB KJ
                        replace p212:=eq_true p212
                        replace q212:=eq_true q212
                        go_wp2
                        go_ret
                        exact ⟨ef,bl HB⟩
                       ·rw [if_neg c59] at H
                        have c59b0:=fg c59
                        have c59b1:decide (1000<(rdOf ByteArray.empty yU x6_7).size)=false:=df (by omega)
                        clear c59
                        have H':=Ak H
                        clear H
                        obtain ⟨hcz61_0,hcz61_1,hcz61_2,hcz61_3,hcz61_4,hcz61_5,hcz61_6,hcz61_7,hcz61_8,hcz61_9,hfz61_0,hfz61_1,hfz61_2,hfz61_3,hfz61_4,hfz61_5,hfz61_6,hfz61_7,hfz61_8,hfz61_9⟩:=jV qI.out
                        have p212:0≤(x6_7:Int):=od
                        have q212:x6_7<(yU.length:Int):=od
                        obtain ⟨ad212,e212,KJ⟩:=Kd.ZL HR0_9.out x6_7 p212 q212
                        cases e212
                        replace KJ:=cu HB KJ
                        replace p212:=eq_true p212
                        replace q212:=eq_true q212
                        go_wp2
                        go_roundg k7
                        case measure=>have:=HJ1.out;have:=HJ15.out;have:=HJ22.out;have:=HK4.out;have:=HK5.out;have:=HK6.out;have:=HK7.out;omega
                        case rel=>exact ⟨(wrap64 (x6_7+1)),es,H',⟨by have:=HJ1.out;have:=HJ15.out;have:=HJ22.out;have:=HK4.out;have:=HK5.out;have:=HK6.out;have:=HK7.out;omega⟩,⟨bo qI⟩,⟨bl HB⟩⟩
                      ·rw [if_neg c58] at H
                       exact absurd H (by simp)
                     ·rw [if_neg c57] at H
                      have c57b0:=df c57
                      clear c57
                      obtain rfl:=Option.some.inj H
                      obtain ⟨hcz62_0,hcz62_1,hcz62_2,hcz62_3,hcz62_4,hcz62_5,hcz62_6,hcz62_7,hcz62_8,hcz62_9,hfz62_0,hfz62_1,hfz62_2,hfz62_3,hfz62_4,hfz62_5,hfz62_6,hfz62_7,hfz62_8,hfz62_9⟩:=jV qI.out
                      go_wp2
                      go_ret
                      exact ⟨ef,bl HB⟩
end Go.Proofs.YtiekodnojmkfaaaGreatDoor.yD
