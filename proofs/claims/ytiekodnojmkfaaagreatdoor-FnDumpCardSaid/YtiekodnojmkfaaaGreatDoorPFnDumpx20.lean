import Derived.Test.YtiekodnojmkfaaaGreatDoorPFnDumpx0
import Derived.Test.YtiekodnojmkfaaaGreatDoorPFnDumpx1
namespace Go.Proofs.YtiekodnojmkfaaaGreatDoor.yD
set_option maxHeartbeats 8000000
set_option maxRecDepth 100000
open Go.RowKit Go.Proofs.YtiekodnojmkfaaaGreatDoorW.zF Go.Proofs.YtiekodnojmkfaaaGreatDoorW.yC Go.Proofs.YtiekodnojmkfaaaGreatDoorW.yY
attribute [local go_sem] xM xO qG qH yZ xg xP xQ
set_option linter.unusedVariables false
set_option linter.unusedSimpArgs false
attribute [local go_sem high] eqA67
def yu.l0:Nat→List Int→List Int→Int→Option (Bool)
 | 0,_,_,_=>none
 | k+1,x0,x1,x5=>if x5<(x0.length:Int) then (if 0≤x5 then (if x5<(x1.length:Int) then (if (rd x0 x5)=(rd x1 x5) then (yu.l0 k x0 x1 (wrap64 (x5+1))) else (some false)) else (none)) else (none)) else (some true)
def yu.f (k:Nat) (l0:List Int) (l1:List Int):Option (Bool):=if (l0.length:Int)=(l1.length:Int) then (yu.l0 k l0 l1 0) else (some false)
theorem yu.calls (k:Nat) (A0:Option Addr) (c0:Nat) (l0:List Int) (A1:Option Addr) (c1:Nat) (l1:List Int) (r:Bool) (w:World) (hr0:Kd.C (Kd.int .u32) w A0 l0.length l0) (hc0:l0.length≤c0) (hr1:Kd.C (Kd.int .u32) w A1 l1.length l1) (hc1:l1.length≤c1) (h:yu.f k l0 l1=some r) :
  Calls Tryz.prog 88 #[.slice A0 l0.length c0,.slice A1 l1.length c1] w fun e w'=>e=.returned (.bool r)∧xX w w':=by
 have HR0:=Ak hr0;have HC0:=Ak hc0;clear hr0 hc0;have HR1:=Ak hr1;have HC1:=Ak hc1;clear hr1 hc1
 have H:(if (l0.length:Int)=(l1.length:Int) then (yu.l0 k l0 l1 0) else (some false))=some r:=h
 clear h
 by_cases c3:(l0.length:Int)=(l1.length:Int)
 ·rw [if_pos c3] at H
  have JZ:=bT c3
  have c3b1:=nF c3
  have c3b2:(l0.length == l1.length)=true:=by first|simpa using c3|(simp at c3 ⊢;omega)
  clear c3
  have H':=Ak H
  clear H
  go_enter Tryz.func88,Tryz.ntmps88
  go_wp2
  repeat (go_quiet (fail);try go_wp2)
  go_loopg [5] k (fun kq v5 w'=>∃ (xW:Int),v5=.int .i64 xW∧zh (yu.l0 kq l0 l1 xW=some r)∧zh (kq≤k)∧xX w w')
  case atStart=>exact ⟨(0),es,H',⟨Nat.le_refl _⟩,dz⟩
  case round =>
   clear H'
   obtain ⟨xW,rfl,HA,HK1,⟨m1,rfl⟩⟩:=hrel
   cases gk with
   | zero=>exact absurd HA.out (by simp [yu.l0])
   | succ k1 =>
    have H:=HA.out
    clear HA
    simp only [yu.l0] at H
    by_cases c4:xW<(l0.length:Int)
    ·rw [if_pos c4] at H
     have ZG:=dt c4
     clear c4
     by_cases c5:0≤xW
     ·rw [if_pos c5] at H
      have Qk:=dt c5
      clear c5
      by_cases c6:xW<(l1.length:Int)
      ·rw [if_pos c6] at H
       have c6b0:=dt c6
       clear c6
       by_cases c7:(rd l0 xW)=(rd l1 xW)
       ·rw [if_pos c7] at H
        have QI:=bT c7
        have c7b1:=nF c7
        clear c7
        have H':=Ak H
        clear H
        have p218:0≤(xW:Int):=od
        have q218:xW<(l0.length:Int):=od
        obtain ⟨ad218,e218,hx218_0⟩:=Kd.vV HR0.out xW p218 q218
        cases e218
        replace p218:=eq_true p218
        replace q218:=eq_true q218
        have p219:0≤(xW:Int):=od
        have q219:xW<(l1.length:Int):=od
        obtain ⟨ad219,e219,hx219_0⟩:=Kd.vV HR1.out xW p219 q219
        cases e219
        replace p219:=eq_true p219
        replace q219:=eq_true q219
        go_wp2
        repeat (go_quiet (fail);try go_wp2)
        go_roundg k1
        case measure=>have:=HK1.out;omega
        case rel=>exact ⟨(wrap64 (xW+1)),es,H',⟨by have:=HK1.out;omega⟩,dz⟩
       ·rw [if_neg c7] at H
        have QI:=bF c7
        have c7b1:=nT c7
        obtain rfl:=Option.some.inj H
        have p218:0≤(xW:Int):=od
        have q218:xW<(l0.length:Int):=od
        obtain ⟨ad218,e218,hx218_0⟩:=Kd.vV HR0.out xW p218 q218
        cases e218
        replace p218:=eq_true p218
        replace q218:=eq_true q218
        have p219:0≤(xW:Int):=od
        have q219:xW<(l1.length:Int):=od
        obtain ⟨ad219,e219,hx219_0⟩:=Kd.vV HR1.out xW p219 q219
        cases e219
        replace p219:=eq_true p219
        replace q219:=eq_true q219
        go_wp2
        repeat (go_quiet (fail);try go_wp2)
        go_ret
        exact ⟨by first|rfl|(simp;done)|(simp [*];done),dz⟩
      ·rw [if_neg c6] at H
       exact absurd H (by simp)
     ·rw [if_neg c5] at H
      exact absurd H (by simp)
    ·rw [if_neg c4] at H
     have ZG:=df c4
     clear c4
     obtain rfl:=Option.some.inj H
     go_wp2
     repeat (go_quiet (fail);try go_wp2)
     go_ret
     exact ⟨by first|rfl|(simp;done)|(simp [*];done),dz⟩
 ·rw [if_neg c3] at H
  have JZ:=bF c3
  have c3b1:=nT c3
  have c3b2:(l0.length == l1.length)=false:=by first|simpa using c3|(simp at c3 ⊢;omega)
  obtain rfl:=Option.some.inj H
  go_enter Tryz.func88,Tryz.ntmps88
  go_wp2
  repeat (go_quiet (fail);try go_wp2)
  go_ret
  exact ⟨by first|rfl|(simp;done)|(simp [*];done),dz⟩
def yj.l0:Nat→List (S67)→List (S67)→Int→Option (Bool)
 | 0,_,_,_=>none
 | k+1,x0,x1,x5=>if x5<(x0.length:Int) then (if 0≤x5 then (if x5<(x1.length:Int) then (if (!(((xH x0 x5).f0) == ((xH x1 x5).f0)) || (!(((xH x0 x5).f1) == ((xH x1 x5).f1)) || (!((((xH x0 x5).f2).toList) == (((xH x1 x5).f2).toList)))))=true then (some false) else (yj.l0 k x0 x1 (wrap64 (x5+1)))) else (none)) else (none)) else (some true)
def yj.f (k:Nat) (l0:List (S67)) (l1:List (S67)):Option (Bool):=if (l0.length:Int)=(l1.length:Int) then (yj.l0 k l0 l1 0) else (some false)
theorem yj.calls (k:Nat) (A0:Option Addr) (c0:Nat) (l0:List (S67)) (A1:Option Addr) (c1:Nat) (l1:List (S67)) (r:Bool) (w:World) (hr0:Kd.C k67 w A0 l0.length l0) (hc0:l0.length≤c0) (hr1:Kd.C k67 w A1 l1.length l1) (hc1:l1.length≤c1) (h:yj.f k l0 l1=some r) :
  Calls Tryz.prog 89 #[.slice A0 l0.length c0,.slice A1 l1.length c1] w fun e w'=>e=.returned (.bool r)∧xX w w':=by
 have hu67:=Tryz.underlying67
 have HR0:=Ak hr0;have HC0:=Ak hc0;clear hr0 hc0;have HR1:=Ak hr1;have HC1:=Ak hc1;clear hr1 hc1
 have H:(if (l0.length:Int)=(l1.length:Int) then (yj.l0 k l0 l1 0) else (some false))=some r:=h
 clear h
 by_cases c3:(l0.length:Int)=(l1.length:Int)
 ·rw [if_pos c3] at H
  have JZ:=bT c3
  have c3b1:=nF c3
  have c3b2:(l0.length == l1.length)=true:=by first|simpa using c3|(simp at c3 ⊢;omega)
  clear c3
  have H':=Ak H
  clear H
  go_enter Tryz.func89,Tryz.ntmps89
  go_wp2
  repeat (go_quiet (fail);try go_wp2)
  go_loopg [5] k (fun kq v5 w'=>∃ (xW:Int),v5=.int .i64 xW∧zh (yj.l0 kq l0 l1 xW=some r)∧zh (kq≤k)∧xX w w')
  case atStart=>exact ⟨(0),es,H',⟨Nat.le_refl _⟩,dz⟩
  case round =>
   clear H'
   obtain ⟨xW,rfl,HA,HK1,⟨m1,rfl⟩⟩:=hrel
   cases gk with
   | zero=>exact absurd HA.out (by simp [yj.l0])
   | succ k1 =>
    have H:=HA.out
    clear HA
    simp only [yj.l0] at H
    by_cases c4:xW<(l0.length:Int)
    ·rw [if_pos c4] at H
     have ZG:=dt c4
     clear c4
     by_cases c5:0≤xW
     ·rw [if_pos c5] at H
      have Qk:=dt c5
      clear c5
      by_cases c6:xW<(l1.length:Int)
      ·rw [if_pos c6] at H
       have c6b0:=dt c6
       clear c6
       by_cases c7:(!(((xH l0 xW).f0) == ((xH l1 xW).f0)) || (!(((xH l0 xW).f1) == ((xH l1 xW).f1)) || (!((((xH l0 xW).f2).toList) == (((xH l1 xW).f2).toList)))))=true
       ·rw [if_pos c7] at H
        have QI:(!(((xH l0 xW).f0) == ((xH l1 xW).f0)) || (!(((xH l0 xW).f1) == ((xH l1 xW).f1)) || (!((((xH l0 xW).f2).toList) == (((xH l1 xW).f2).toList)))))=true:=c7
        clear c7
        obtain rfl:=Option.some.inj H
        have p220:0≤(xW:Int):=od
        have q220:xW<(l0.length:Int):=od
        obtain ⟨ad220,e220,hx220_0,hx220_1,hx220_2⟩:=Js HR0.out xW p220 q220
        cases e220
        replace p220:=eq_true p220
        replace q220:=eq_true q220
        have p221:0≤(xW:Int):=od
        have q221:xW<(l1.length:Int):=od
        obtain ⟨ad221,e221,hx221_0,hx221_1,hx221_2⟩:=Js HR1.out xW p221 q221
        cases e221
        replace p221:=eq_true p221
        replace q221:=eq_true q221
        go_wp2
        repeat (go_quiet (fail);try go_wp2)
        go_ret
        exact ⟨by first|rfl|(simp;done)|(simp [*];done),dz⟩
       ·rw [if_neg c7] at H
        have QI:(!(((xH l0 xW).f0) == ((xH l1 xW).f0)) || (!(((xH l0 xW).f1) == ((xH l1 xW).f1)) || (!((((xH l0 xW).f2).toList) == (((xH l1 xW).f2).toList)))))=false:=by simpa using c7
        clear c7
        have H':=Ak H
        clear H
        have p220:0≤(xW:Int):=od
        have q220:xW<(l0.length:Int):=od
        obtain ⟨ad220,e220,hx220_0,hx220_1,hx220_2⟩:=Js HR0.out xW p220 q220
        cases e220
        replace p220:=eq_true p220
        replace q220:=eq_true q220
        have p221:0≤(xW:Int):=od
        have q221:xW<(l1.length:Int):=od
        obtain ⟨ad221,e221,hx221_0,hx221_1,hx221_2⟩:=Js HR1.out xW p221 q221
        cases e221
        replace p221:=eq_true p221
        replace q221:=eq_true q221
        go_wp2
        repeat (go_quiet (fail);try go_wp2)
        go_roundg k1
        case measure=>have:=HK1.out;omega
        case rel=>exact ⟨(wrap64 (xW+1)),es,H',⟨by have:=HK1.out;omega⟩,dz⟩
      ·rw [if_neg c6] at H
       exact absurd H (by simp)
     ·rw [if_neg c5] at H
      exact absurd H (by simp)
    ·rw [if_neg c4] at H
     have ZG:=df c4
     clear c4
     obtain rfl:=Option.some.inj H
     go_wp2
     repeat (go_quiet (fail);try go_wp2)
     go_ret
     exact ⟨by first|rfl|(simp;done)|(simp [*];done),dz⟩
 ·rw [if_neg c3] at H
  have JZ:=bF c3
  have c3b1:=nT c3
  have c3b2:(l0.length == l1.length)=false:=by first|simpa using c3|(simp at c3 ⊢;omega)
  obtain rfl:=Option.some.inj H
  go_enter Tryz.func89,Tryz.ntmps89
  go_wp2
  repeat (go_quiet (fail);try go_wp2)
  go_ret
  exact ⟨by first|rfl|(simp;done)|(simp [*];done),dz⟩
def yw.l0:Nat→List Int→List Int→Int→Option (Bool)
 | 0,_,_,_=>none
 | k+1,x0,x1,x5=>if x5<(x0.length:Int) then (if 0≤x5 then (if x5<(x1.length:Int) then (if (rd x0 x5)=(rd x1 x5) then (yw.l0 k x0 x1 (wrap64 (x5+1))) else (some false)) else (none)) else (none)) else (some true)
def yw.f (k:Nat) (l0:List Int) (l1:List Int):Option (Bool):=if (l0.length:Int)=(l1.length:Int) then (yw.l0 k l0 l1 0) else (some false)
theorem yw.calls (k:Nat) (A0:Option Addr) (c0:Nat) (l0:List Int) (A1:Option Addr) (c1:Nat) (l1:List Int) (r:Bool) (w:World) (hr0:Kd.C (Kd.int .i64) w A0 l0.length l0) (hc0:l0.length≤c0) (hr1:Kd.C (Kd.int .i64) w A1 l1.length l1) (hc1:l1.length≤c1) (h:yw.f k l0 l1=some r) :
  Calls Tryz.prog 90 #[.slice A0 l0.length c0,.slice A1 l1.length c1] w fun e w'=>e=.returned (.bool r)∧xX w w':=by
 have HR0:=Ak hr0;have HC0:=Ak hc0;clear hr0 hc0;have HR1:=Ak hr1;have HC1:=Ak hc1;clear hr1 hc1
 have H:(if (l0.length:Int)=(l1.length:Int) then (yw.l0 k l0 l1 0) else (some false))=some r:=h
 clear h
 by_cases c3:(l0.length:Int)=(l1.length:Int)
 ·rw [if_pos c3] at H
  have JZ:=bT c3
  have c3b1:=nF c3
  have c3b2:(l0.length == l1.length)=true:=by first|simpa using c3|(simp at c3 ⊢;omega)
  clear c3
  have H':=Ak H
  clear H
  go_enter Tryz.func90,Tryz.ntmps90
  go_wp2
  repeat (go_quiet (fail);try go_wp2)
  go_loopg [5] k (fun kq v5 w'=>∃ (xW:Int),v5=.int .i64 xW∧zh (yw.l0 kq l0 l1 xW=some r)∧zh (kq≤k)∧xX w w')
  case atStart=>exact ⟨(0),es,H',⟨Nat.le_refl _⟩,dz⟩
  case round =>
   clear H'
   obtain ⟨xW,rfl,HA,HK1,⟨m1,rfl⟩⟩:=hrel
   cases gk with
   | zero=>exact absurd HA.out (by simp [yw.l0])
   | succ k1 =>
    have H:=HA.out
    clear HA
    simp only [yw.l0] at H
    by_cases c4:xW<(l0.length:Int)
    ·rw [if_pos c4] at H
     have ZG:=dt c4
     clear c4
     by_cases c5:0≤xW
     ·rw [if_pos c5] at H
      have Qk:=dt c5
      clear c5
      by_cases c6:xW<(l1.length:Int)
      ·rw [if_pos c6] at H
       have c6b0:=dt c6
       clear c6
       by_cases c7:(rd l0 xW)=(rd l1 xW)
       ·rw [if_pos c7] at H
        have QI:=bT c7
        have c7b1:=nF c7
        clear c7
        have H':=Ak H
        clear H
        have p222:0≤(xW:Int):=od
        have q222:xW<(l0.length:Int):=od
        obtain ⟨ad222,e222,hx222_0⟩:=Kd.vV HR0.out xW p222 q222
        cases e222
        replace p222:=eq_true p222
        replace q222:=eq_true q222
        have p223:0≤(xW:Int):=od
        have q223:xW<(l1.length:Int):=od
        obtain ⟨ad223,e223,hx223_0⟩:=Kd.vV HR1.out xW p223 q223
        cases e223
        replace p223:=eq_true p223
        replace q223:=eq_true q223
        go_wp2
        repeat (go_quiet (fail);try go_wp2)
        go_roundg k1
        case measure=>have:=HK1.out;omega
        case rel=>exact ⟨(wrap64 (xW+1)),es,H',⟨by have:=HK1.out;omega⟩,dz⟩
       ·rw [if_neg c7] at H
        have QI:=bF c7
        have c7b1:=nT c7
        obtain rfl:=Option.some.inj H
        have p222:0≤(xW:Int):=od
        have q222:xW<(l0.length:Int):=od
        obtain ⟨ad222,e222,hx222_0⟩:=Kd.vV HR0.out xW p222 q222
        cases e222
        replace p222:=eq_true p222
        replace q222:=eq_true q222
        have p223:0≤(xW:Int):=od
        have q223:xW<(l1.length:Int):=od
        obtain ⟨ad223,e223,hx223_0⟩:=Kd.vV HR1.out xW p223 q223
        cases e223
        replace p223:=eq_true p223
        replace q223:=eq_true q223
        go_wp2
        repeat (go_quiet (fail);try go_wp2)
        go_ret
        exact ⟨by first|rfl|(simp;done)|(simp [*];done),dz⟩
      ·rw [if_neg c6] at H
       exact absurd H (by simp)
     ·rw [if_neg c5] at H
      exact absurd H (by simp)
    ·rw [if_neg c4] at H
     have ZG:=df c4
     clear c4
     obtain rfl:=Option.some.inj H
     go_wp2
     repeat (go_quiet (fail);try go_wp2)
     go_ret
     exact ⟨by first|rfl|(simp;done)|(simp [*];done),dz⟩
 ·rw [if_neg c3] at H
  have JZ:=bF c3
  have c3b1:=nT c3
  have c3b2:(l0.length == l1.length)=false:=by first|simpa using c3|(simp at c3 ⊢;omega)
  obtain rfl:=Option.some.inj H
  go_enter Tryz.func90,Tryz.ntmps90
  go_wp2
  repeat (go_quiet (fail);try go_wp2)
  go_ret
  exact ⟨by first|rfl|(simp;done)|(simp [*];done),dz⟩
def yg.l0:Nat→List ByteArray→List ByteArray→Int→Option (Bool)
 | 0,_,_,_=>none
 | k+1,x0,x1,x5=>if x5<(x0.length:Int) then (if 0≤x5 then (if x5<(x1.length:Int) then (if (rdOf ByteArray.empty x0 x5).toList=(rdOf ByteArray.empty x1 x5).toList then (yg.l0 k x0 x1 (wrap64 (x5+1))) else (some false)) else (none)) else (none)) else (some true)
def yg.f (k:Nat) (l0:List ByteArray) (l1:List ByteArray):Option (Bool):=if (l0.length:Int)=(l1.length:Int) then (yg.l0 k l0 l1 0) else (some false)
theorem yg.calls (k:Nat) (A0:Option Addr) (c0:Nat) (l0:List ByteArray) (A1:Option Addr) (c1:Nat) (l1:List ByteArray) (r:Bool) (w:World) (hr0:Kd.C Kd.string w A0 l0.length l0) (hc0:l0.length≤c0) (hr1:Kd.C Kd.string w A1 l1.length l1) (hc1:l1.length≤c1) (h:yg.f k l0 l1=some r) :
  Calls Tryz.prog 91 #[.slice A0 l0.length c0,.slice A1 l1.length c1] w fun e w'=>e=.returned (.bool r)∧xX w w':=by
 have HR0:=Ak hr0;have HC0:=Ak hc0;clear hr0 hc0;have HR1:=Ak hr1;have HC1:=Ak hc1;clear hr1 hc1
 have H:(if (l0.length:Int)=(l1.length:Int) then (yg.l0 k l0 l1 0) else (some false))=some r:=h
 clear h
 by_cases c3:(l0.length:Int)=(l1.length:Int)
 ·rw [if_pos c3] at H
  have JZ:=bT c3
  have c3b1:=nF c3
  have c3b2:(l0.length == l1.length)=true:=by first|simpa using c3|(simp at c3 ⊢;omega)
  clear c3
  have H':=Ak H
  clear H
  go_enter Tryz.func91,Tryz.ntmps91
  go_wp2
  repeat (go_quiet (fail);try go_wp2)
  go_loopg [5] k (fun kq v5 w'=>∃ (xW:Int),v5=.int .i64 xW∧zh (yg.l0 kq l0 l1 xW=some r)∧zh (kq≤k)∧xX w w')
  case atStart=>exact ⟨(0),es,H',⟨Nat.le_refl _⟩,dz⟩
  case round =>
   clear H'
   obtain ⟨xW,rfl,HA,HK1,⟨m1,rfl⟩⟩:=hrel
   cases gk with
   | zero=>exact absurd HA.out (by simp [yg.l0])
   | succ k1 =>
    have H:=HA.out
    clear HA
    simp only [yg.l0] at H
    by_cases c4:xW<(l0.length:Int)
    ·rw [if_pos c4] at H
     have ZG:=dt c4
     clear c4
     by_cases c5:0≤xW
     ·rw [if_pos c5] at H
      have Qk:=dt c5
      clear c5
      by_cases c6:xW<(l1.length:Int)
      ·rw [if_pos c6] at H
       have c6b0:=dt c6
       clear c6
       by_cases c7:(rdOf ByteArray.empty l0 xW).toList=(rdOf ByteArray.empty l1 xW).toList
       ·rw [if_pos c7] at H
        have QI:=bT c7
        have c7b1:=nF c7
        clear c7
        have H':=Ak H
        clear H
        have p224:0≤(xW:Int):=od
        have q224:xW<(l0.length:Int):=od
        obtain ⟨ad224,e224,hx224_0⟩:=Kd.ZL HR0.out xW p224 q224
        cases e224
        replace p224:=eq_true p224
        replace q224:=eq_true q224
        have p225:0≤(xW:Int):=od
        have q225:xW<(l1.length:Int):=od
        obtain ⟨ad225,e225,hx225_0⟩:=Kd.ZL HR1.out xW p225 q225
        cases e225
        replace p225:=eq_true p225
        replace q225:=eq_true q225
        go_wp2
        repeat (go_quiet (fail);try go_wp2)
        go_roundg k1
        case measure=>have:=HK1.out;omega
        case rel=>exact ⟨(wrap64 (xW+1)),es,H',⟨by have:=HK1.out;omega⟩,dz⟩
       ·rw [if_neg c7] at H
        have QI:=bF c7
        have c7b1:=nT c7
        obtain rfl:=Option.some.inj H
        have p224:0≤(xW:Int):=od
        have q224:xW<(l0.length:Int):=od
        obtain ⟨ad224,e224,hx224_0⟩:=Kd.ZL HR0.out xW p224 q224
        cases e224
        replace p224:=eq_true p224
        replace q224:=eq_true q224
        have p225:0≤(xW:Int):=od
        have q225:xW<(l1.length:Int):=od
        obtain ⟨ad225,e225,hx225_0⟩:=Kd.ZL HR1.out xW p225 q225
        cases e225
        replace p225:=eq_true p225
        replace q225:=eq_true q225
        go_wp2
        repeat (go_quiet (fail);try go_wp2)
        go_ret
        exact ⟨by first|rfl|(simp;done)|(simp [*];done),dz⟩
      ·rw [if_neg c6] at H
       exact absurd H (by simp)
     ·rw [if_neg c5] at H
      exact absurd H (by simp)
    ·rw [if_neg c4] at H
     have ZG:=df c4
     clear c4
     obtain rfl:=Option.some.inj H
     go_wp2
     repeat (go_quiet (fail);try go_wp2)
     go_ret
     exact ⟨by first|rfl|(simp;done)|(simp [*];done),dz⟩
 ·rw [if_neg c3] at H
  have JZ:=bF c3
  have c3b1:=nT c3
  have c3b2:(l0.length == l1.length)=false:=by first|simpa using c3|(simp at c3 ⊢;omega)
  obtain rfl:=Option.some.inj H
  go_enter Tryz.func91,Tryz.ntmps91
  go_wp2
  repeat (go_quiet (fail);try go_wp2)
  go_ret
  exact ⟨by first|rfl|(simp;done)|(simp [*];done),dz⟩
end Go.Proofs.YtiekodnojmkfaaaGreatDoor.yD
