-- Printed by the kit's print or by this session's program, then cut and tightened by it.
import Derived.Test.YtiekodnojmkfaaaDoorPFnExactLoadx0
import Derived.Test.YtiekodnojmkfaaaDoorPFnExactLoadx6
namespace Go.Proofs.YtiekodnojmkfaaaDoor.PFnExactLoad
open Go.RowKit Go.Proofs.YtiekodnojmkfaaaDoorW.PrintWords Go.Proofs.YtiekodnojmkfaaaDoorW.PrintLast Go.Proofs.YtiekodnojmkfaaaDoorW.PrintMore
attribute [local go_sem] max2_int min2_int max_two min_two max_three min_three max_four min_four   -- for this text's walks alone
set_option linter.unusedVariables false
set_option linter.unusedSimpArgs false
def laws_eqIntS.l0:Nat→List Int→List Int→Int→Option (Bool)
 | 0,_,_,_=>none
 | k+1,x0,x1,x5=>if x5<(x0.length:Int) then (if 0≤x5 then (if x5<(x1.length:Int) then (if (rd x0 x5)=(rd x1 x5) then (laws_eqIntS.l0 k x0 x1 (wrap64 (x5+1))) else (some false)) else (none)) else (none)) else (some true)
def laws_eqIntS.f (k:Nat) (l0:List Int) (l1:List Int):Option (Bool):=if (l0.length:Int)=(l1.length:Int) then (laws_eqIntS.l0 k l0 l1 0) else (some false)
set_option maxHeartbeats 8000000 in
set_option maxRecDepth 100000 in
theorem laws_eqIntS.calls (k:Nat) (A0:Option Addr) (c0:Nat) (l0:List Int) (A1:Option Addr) (c1:Nat) (l1:List Int) (r:Bool) (w:World) (hr0:Kd.C (Kd.int .i64) w A0 l0.length l0) (hc0:l0.length≤c0) (hr1:Kd.C (Kd.int .i64) w A1 l1.length l1) (hc1:l1.length≤c1) (h:laws_eqIntS.f k l0 l1=some r) :
  Calls Tryd.prog 69 #[.slice A0 l0.length c0,.slice A1 l1.length c1] w fun e w'=>e=.returned (.bool r)∧Drawn0 w w':=by
 have HR0:=Ak hr0;have HC0:=Ak hc0;clear hr0 hc0;have HR1:=Ak hr1;have HC1:=Ak hc1;clear hr1 hc1
 have H:(if (l0.length:Int)=(l1.length:Int) then (laws_eqIntS.l0 k l0 l1 0) else (some false))=some r:=h
 clear h
 by_cases c3:(l0.length:Int)=(l1.length:Int)
 ·rw [if_pos c3] at H
  have c3b0:((l0.length:Int) == (l1.length:Int))=true:=beq_iff_eq.mpr c3
  have c3b1:((l0.length:Int) != (l1.length:Int))=false:=bne_eq_false_iff_eq.mpr c3
  have c3b2:(l0.length == l1.length)=true:=by first|simpa using c3|(simp at c3 ⊢;omega)
  clear c3
  have H':=Ak H
  clear H
  go_enter Tryd.func69,Tryd.ntmps69
  go_wp2
  repeat (go_quiet (fail);try go_wp2)
  go_loopg [5] k (fun kq v5 w'=>∃ (x5_1:Int),v5=.int .i64 x5_1∧Aside0 (laws_eqIntS.l0 kq l0 l1 x5_1=some r)∧Aside0 (kq≤k)∧Drawn0 w w')
  case atStart=>exact ⟨(0),(by first|rfl|(simp;done)|(simp [*];done)),H',⟨Nat.le_refl _⟩,by repeat (first|exact Drawn0.refl _|apply Drawn0.step)⟩
  case round =>
   clear H';(try clear c1);(try clear p2);(try clear c3);(try clear c3b0);(try clear c3b1);(try clear c3b2)
   obtain ⟨x5_1,rfl,HA,HK1,⟨m1,rfl⟩⟩:=hrel
   cases gk with
   | zero=>exact absurd HA.out (by simp [laws_eqIntS.l0])
   | succ k1 =>
    have H:=HA.out
    clear HA
    simp only [laws_eqIntS.l0] at H
    by_cases c4:x5_1<(l0.length:Int)
    ·rw [if_pos c4] at H
     have c4b0:decide (x5_1<(l0.length:Int))=true:=decide_eq_true c4
     clear c4
     by_cases c5:0≤x5_1
     ·rw [if_pos c5] at H
      have c5b0:decide (0≤x5_1)=true:=decide_eq_true c5
      clear c5
      by_cases c6:x5_1<(l1.length:Int)
      ·rw [if_pos c6] at H
       have c6b0:decide (x5_1<(l1.length:Int))=true:=decide_eq_true c6
       clear c6
       by_cases c7:(rd l0 x5_1)=(rd l1 x5_1)
       ·rw [if_pos c7] at H
        have c7b0:((rd l0 x5_1) == (rd l1 x5_1))=true:=beq_iff_eq.mpr c7
        have c7b1:((rd l0 x5_1) != (rd l1 x5_1))=false:=bne_eq_false_iff_eq.mpr c7
        clear c7
        have H':=Ak H
        clear H
        have p306:0≤(x5_1:Int):=of_decide_eq_true (by first|(with_reducible assumption)|assumption)
        have q306:x5_1<(l0.length:Int):=of_decide_eq_true (by first|(with_reducible assumption)|assumption)
        obtain ⟨ad306,e306,hx306_0⟩:=Kd.at_int HR0.out x5_1 p306 q306
        cases e306
        replace p306:=eq_true p306
        replace q306:=eq_true q306
        have p307:0≤(x5_1:Int):=of_decide_eq_true (by first|(with_reducible assumption)|assumption)
        have q307:x5_1<(l1.length:Int):=of_decide_eq_true (by first|(with_reducible assumption)|assumption)
        obtain ⟨ad307,e307,hx307_0⟩:=Kd.at_int HR1.out x5_1 p307 q307
        cases e307
        replace p307:=eq_true p307
        replace q307:=eq_true q307
        go_wp2
        repeat (go_quiet (fail);try go_wp2)
        go_roundg k1
        case measure=>have:=HK1.out;omega
        case rel=>exact ⟨(wrap64 (x5_1+1)),(by first|rfl|(simp;done)|(simp [*];done)),H',⟨by have:=HK1.out;omega⟩,by repeat (first|exact Drawn0.refl _|apply Drawn0.step)⟩
       ·rw [if_neg c7] at H
        have c7b0:((rd l0 x5_1) == (rd l1 x5_1))=false:=beq_eq_false_iff_ne.mpr c7
        have c7b1:((rd l0 x5_1) != (rd l1 x5_1))=true:=bne_iff_ne.mpr c7
        obtain rfl:=Option.some.inj H
        have p306:0≤(x5_1:Int):=of_decide_eq_true (by first|(with_reducible assumption)|assumption)
        have q306:x5_1<(l0.length:Int):=of_decide_eq_true (by first|(with_reducible assumption)|assumption)
        obtain ⟨ad306,e306,hx306_0⟩:=Kd.at_int HR0.out x5_1 p306 q306
        cases e306
        replace p306:=eq_true p306
        replace q306:=eq_true q306
        have p307:0≤(x5_1:Int):=of_decide_eq_true (by first|(with_reducible assumption)|assumption)
        have q307:x5_1<(l1.length:Int):=of_decide_eq_true (by first|(with_reducible assumption)|assumption)
        obtain ⟨ad307,e307,hx307_0⟩:=Kd.at_int HR1.out x5_1 p307 q307
        cases e307
        replace p307:=eq_true p307
        replace q307:=eq_true q307
        go_wp2
        repeat (go_quiet (fail);try go_wp2)
        go_ret
        exact ⟨by first|rfl|(simp;done)|(simp [*];done),by repeat (first|exact Drawn0.refl _|apply Drawn0.step)⟩
      ·rw [if_neg c6] at H
       exact absurd H (by simp)
     ·rw [if_neg c5] at H
      exact absurd H (by simp)
    ·rw [if_neg c4] at H
     have c4b0:decide (x5_1<(l0.length:Int))=false:=decide_eq_false c4
     clear c4
     obtain rfl:=Option.some.inj H
     go_wp2
     repeat (go_quiet (fail);try go_wp2)
     go_ret
     exact ⟨by first|rfl|(simp;done)|(simp [*];done),by repeat (first|exact Drawn0.refl _|apply Drawn0.step)⟩
 ·rw [if_neg c3] at H
  have c3b0:((l0.length:Int) == (l1.length:Int))=false:=beq_eq_false_iff_ne.mpr c3
  have c3b1:((l0.length:Int) != (l1.length:Int))=true:=bne_iff_ne.mpr c3
  have c3b2:(l0.length == l1.length)=false:=by first|simpa using c3|(simp at c3 ⊢;omega)
  obtain rfl:=Option.some.inj H
  go_enter Tryd.func69,Tryd.ntmps69
  go_wp2
  repeat (go_quiet (fail);try go_wp2)
  go_ret
  exact ⟨by first|rfl|(simp;done)|(simp [*];done),by repeat (first|exact Drawn0.refl _|apply Drawn0.step)⟩
def laws_eqStringS.l0:Nat→List ByteArray→List ByteArray→Int→Option (Bool)
 | 0,_,_,_=>none
 | k+1,x0,x1,x5=>if x5<(x0.length:Int) then (if 0≤x5 then (if x5<(x1.length:Int) then (if (rdOf ByteArray.empty x0 x5).toList=(rdOf ByteArray.empty x1 x5).toList then (laws_eqStringS.l0 k x0 x1 (wrap64 (x5+1))) else (some false)) else (none)) else (none)) else (some true)
def laws_eqStringS.f (k:Nat) (l0:List ByteArray) (l1:List ByteArray):Option (Bool):=if (l0.length:Int)=(l1.length:Int) then (laws_eqStringS.l0 k l0 l1 0) else (some false)
set_option maxHeartbeats 8000000 in
set_option maxRecDepth 100000 in
theorem laws_eqStringS.calls (k:Nat) (A0:Option Addr) (c0:Nat) (l0:List ByteArray) (A1:Option Addr) (c1:Nat) (l1:List ByteArray) (r:Bool) (w:World) (hr0:Kd.C Kd.string w A0 l0.length l0) (hc0:l0.length≤c0) (hr1:Kd.C Kd.string w A1 l1.length l1) (hc1:l1.length≤c1) (h:laws_eqStringS.f k l0 l1=some r) :
  Calls Tryd.prog 70 #[.slice A0 l0.length c0,.slice A1 l1.length c1] w fun e w'=>e=.returned (.bool r)∧Drawn0 w w':=by
 have HR0:=Ak hr0;have HC0:=Ak hc0;clear hr0 hc0;have HR1:=Ak hr1;have HC1:=Ak hc1;clear hr1 hc1
 have H:(if (l0.length:Int)=(l1.length:Int) then (laws_eqStringS.l0 k l0 l1 0) else (some false))=some r:=h
 clear h
 by_cases c3:(l0.length:Int)=(l1.length:Int)
 ·rw [if_pos c3] at H
  have c3b0:((l0.length:Int) == (l1.length:Int))=true:=beq_iff_eq.mpr c3
  have c3b1:((l0.length:Int) != (l1.length:Int))=false:=bne_eq_false_iff_eq.mpr c3
  have c3b2:(l0.length == l1.length)=true:=by first|simpa using c3|(simp at c3 ⊢;omega)
  clear c3
  have H':=Ak H
  clear H
  go_enter Tryd.func70,Tryd.ntmps70
  go_wp2
  repeat (go_quiet (fail);try go_wp2)
  go_loopg [5] k (fun kq v5 w'=>∃ (x5_1:Int),v5=.int .i64 x5_1∧Aside0 (laws_eqStringS.l0 kq l0 l1 x5_1=some r)∧Aside0 (kq≤k)∧Drawn0 w w')
  case atStart=>exact ⟨(0),(by first|rfl|(simp;done)|(simp [*];done)),H',⟨Nat.le_refl _⟩,by repeat (first|exact Drawn0.refl _|apply Drawn0.step)⟩
  case round =>
   clear H';(try clear c1);(try clear p2);(try clear c3);(try clear c3b0);(try clear c3b1);(try clear c3b2)
   obtain ⟨x5_1,rfl,HA,HK1,⟨m1,rfl⟩⟩:=hrel
   cases gk with
   | zero=>exact absurd HA.out (by simp [laws_eqStringS.l0])
   | succ k1 =>
    have H:=HA.out
    clear HA
    simp only [laws_eqStringS.l0] at H
    by_cases c4:x5_1<(l0.length:Int)
    ·rw [if_pos c4] at H
     have c4b0:decide (x5_1<(l0.length:Int))=true:=decide_eq_true c4
     clear c4
     by_cases c5:0≤x5_1
     ·rw [if_pos c5] at H
      have c5b0:decide (0≤x5_1)=true:=decide_eq_true c5
      clear c5
      by_cases c6:x5_1<(l1.length:Int)
      ·rw [if_pos c6] at H
       have c6b0:decide (x5_1<(l1.length:Int))=true:=decide_eq_true c6
       clear c6
       by_cases c7:(rdOf ByteArray.empty l0 x5_1).toList=(rdOf ByteArray.empty l1 x5_1).toList
       ·rw [if_pos c7] at H
        have c7b0:((rdOf ByteArray.empty l0 x5_1).toList == (rdOf ByteArray.empty l1 x5_1).toList)=true:=beq_iff_eq.mpr c7
        have c7b1:((rdOf ByteArray.empty l0 x5_1).toList != (rdOf ByteArray.empty l1 x5_1).toList)=false:=bne_eq_false_iff_eq.mpr c7
        clear c7
        have H':=Ak H
        clear H
        have p308:0≤(x5_1:Int):=of_decide_eq_true (by first|(with_reducible assumption)|assumption)
        have q308:x5_1<(l0.length:Int):=of_decide_eq_true (by first|(with_reducible assumption)|assumption)
        obtain ⟨ad308,e308,hx308_0⟩:=Kd.at_string HR0.out x5_1 p308 q308
        cases e308
        replace p308:=eq_true p308
        replace q308:=eq_true q308
        have p309:0≤(x5_1:Int):=of_decide_eq_true (by first|(with_reducible assumption)|assumption)
        have q309:x5_1<(l1.length:Int):=of_decide_eq_true (by first|(with_reducible assumption)|assumption)
        obtain ⟨ad309,e309,hx309_0⟩:=Kd.at_string HR1.out x5_1 p309 q309
        cases e309
        replace p309:=eq_true p309
        replace q309:=eq_true q309
        go_wp2
        repeat (go_quiet (fail);try go_wp2)
        go_roundg k1
        case measure=>have:=HK1.out;omega
        case rel=>exact ⟨(wrap64 (x5_1+1)),(by first|rfl|(simp;done)|(simp [*];done)),H',⟨by have:=HK1.out;omega⟩,by repeat (first|exact Drawn0.refl _|apply Drawn0.step)⟩
       ·rw [if_neg c7] at H
        have c7b0:((rdOf ByteArray.empty l0 x5_1).toList == (rdOf ByteArray.empty l1 x5_1).toList)=false:=beq_eq_false_iff_ne.mpr c7
        have c7b1:((rdOf ByteArray.empty l0 x5_1).toList != (rdOf ByteArray.empty l1 x5_1).toList)=true:=bne_iff_ne.mpr c7
        obtain rfl:=Option.some.inj H
        have p308:0≤(x5_1:Int):=of_decide_eq_true (by first|(with_reducible assumption)|assumption)
        have q308:x5_1<(l0.length:Int):=of_decide_eq_true (by first|(with_reducible assumption)|assumption)
        obtain ⟨ad308,e308,hx308_0⟩:=Kd.at_string HR0.out x5_1 p308 q308
        cases e308
        replace p308:=eq_true p308
        replace q308:=eq_true q308
        have p309:0≤(x5_1:Int):=of_decide_eq_true (by first|(with_reducible assumption)|assumption)
        have q309:x5_1<(l1.length:Int):=of_decide_eq_true (by first|(with_reducible assumption)|assumption)
        obtain ⟨ad309,e309,hx309_0⟩:=Kd.at_string HR1.out x5_1 p309 q309
        cases e309
        replace p309:=eq_true p309
        replace q309:=eq_true q309
        go_wp2
        repeat (go_quiet (fail);try go_wp2)
        go_ret
        exact ⟨by first|rfl|(simp;done)|(simp [*];done),by repeat (first|exact Drawn0.refl _|apply Drawn0.step)⟩
      ·rw [if_neg c6] at H
       exact absurd H (by simp)
     ·rw [if_neg c5] at H
      exact absurd H (by simp)
    ·rw [if_neg c4] at H
     have c4b0:decide (x5_1<(l0.length:Int))=false:=decide_eq_false c4
     clear c4
     obtain rfl:=Option.some.inj H
     go_wp2
     repeat (go_quiet (fail);try go_wp2)
     go_ret
     exact ⟨by first|rfl|(simp;done)|(simp [*];done),by repeat (first|exact Drawn0.refl _|apply Drawn0.step)⟩
 ·rw [if_neg c3] at H
  have c3b0:((l0.length:Int) == (l1.length:Int))=false:=beq_eq_false_iff_ne.mpr c3
  have c3b1:((l0.length:Int) != (l1.length:Int))=true:=bne_iff_ne.mpr c3
  have c3b2:(l0.length == l1.length)=false:=by first|simpa using c3|(simp at c3 ⊢;omega)
  obtain rfl:=Option.some.inj H
  go_enter Tryd.func70,Tryd.ntmps70
  go_wp2
  repeat (go_quiet (fail);try go_wp2)
  go_ret
  exact ⟨by first|rfl|(simp;done)|(simp [*];done),by repeat (first|exact Drawn0.refl _|apply Drawn0.step)⟩
def laws_eqProto.f (k:Nat) (a0_0:Int) (a0_1:Bool) (a0_2:Int) (l0_3:List Int) (l0_4:List (S63)) (l0_5:List (S67)) (a0_6:Int) (a0_7:ByteArray) (l0_8:List Int) (l0_9:List ByteArray) (a1_0:Int) (a1_1:Bool) (a1_2:Int) (l1_3:List Int) (l1_4:List (S63)) (l1_5:List (S67)) (a1_6:Int) (a1_7:ByteArray) (l1_8:List Int) (l1_9:List ByteArray):Option (Bool):=if a0_0=a1_0 then (if (a0_1 != a1_1)=true then (some false) else (if a0_2=a1_2 then ((laws_eqUint32S.f k l0_3 l1_3).bind fun t312=>(if t312=true then ((laws_eqValueS.f k l0_4 l1_4).bind fun t313=>(if t313=true then ((laws_eqUpS.f k l0_5 l1_5).bind fun t314=>(if t314=true then (if a0_6=a1_6 then (if a0_7.toList=a1_7.toList then ((laws_eqIntS.f k l0_8 l1_8).bind fun t315=>(if t315=true then ((laws_eqStringS.f k l0_9 l1_9).bind fun t316=>(if t316=true then (some true) else (some false))) else (some false))) else (some false)) else (some false)) else (some false))) else (some false))) else (some false))) else (some false))) else (some false)
set_option maxHeartbeats 8000000 in
set_option maxRecDepth 100000 in
theorem laws_eqProto.calls (k:Nat) (a0_0:Int) (a0_1:Bool) (a0_2:Int) (A0_3:Option Addr) (c0_3:Nat) (l0_3:List Int) (A0_4:Option Addr) (c0_4:Nat) (l0_4:List (S63)) (A0_5:Option Addr) (c0_5:Nat) (l0_5:List (S67)) (a0_6:Int) (a0_7:ByteArray) (A0_8:Option Addr) (c0_8:Nat) (l0_8:List Int) (A0_9:Option Addr) (c0_9:Nat) (l0_9:List ByteArray) (a1_0:Int) (a1_1:Bool) (a1_2:Int) (A1_3:Option Addr) (c1_3:Nat) (l1_3:List Int) (A1_4:Option Addr) (c1_4:Nat) (l1_4:List (S63)) (A1_5:Option Addr) (c1_5:Nat) (l1_5:List (S67)) (a1_6:Int) (a1_7:ByteArray) (A1_8:Option Addr) (c1_8:Nat) (l1_8:List Int) (A1_9:Option Addr) (c1_9:Nat) (l1_9:List ByteArray) (r:Bool) (w:World) (hr0_3:Kd.C (Kd.int .u32) w A0_3 l0_3.length l0_3) (hc0_3:l0_3.length≤c0_3) (hr0_4:Kd.C k63 w A0_4 l0_4.length l0_4) (hc0_4:l0_4.length≤c0_4) (hr0_5:Kd.C k67 w A0_5 l0_5.length l0_5) (hc0_5:l0_5.length≤c0_5) (hr0_8:Kd.C (Kd.int .i64) w A0_8 l0_8.length l0_8) (hc0_8:l0_8.length≤c0_8) (hr0_9:Kd.C Kd.string w A0_9 l0_9.length l0_9) (hc0_9:l0_9.length≤c0_9) (hr1_3:Kd.C (Kd.int .u32) w A1_3 l1_3.length l1_3) (hc1_3:l1_3.length≤c1_3) (hr1_4:Kd.C k63 w A1_4 l1_4.length l1_4) (hc1_4:l1_4.length≤c1_4) (hr1_5:Kd.C k67 w A1_5 l1_5.length l1_5) (hc1_5:l1_5.length≤c1_5) (hr1_8:Kd.C (Kd.int .i64) w A1_8 l1_8.length l1_8) (hc1_8:l1_8.length≤c1_8) (hr1_9:Kd.C Kd.string w A1_9 l1_9.length l1_9) (hc1_9:l1_9.length≤c1_9) (h:laws_eqProto.f k a0_0 a0_1 a0_2 l0_3 l0_4 l0_5 a0_6 a0_7 l0_8 l0_9 a1_0 a1_1 a1_2 l1_3 l1_4 l1_5 a1_6 a1_7 l1_8 l1_9=some r) (hp_:r=true) :
  Calls Tryd.prog 42 #[.agg #[.int .i64 a0_0,.bool a0_1,.int .i64 a0_2,.slice A0_3 l0_3.length c0_3,.slice A0_4 l0_4.length c0_4,.slice A0_5 l0_5.length c0_5,.int .i64 a0_6,.string a0_7,.slice A0_8 l0_8.length c0_8,.slice A0_9 l0_9.length c0_9],.agg #[.int .i64 a1_0,.bool a1_1,.int .i64 a1_2,.slice A1_3 l1_3.length c1_3,.slice A1_4 l1_4.length c1_4,.slice A1_5 l1_5.length c1_5,.int .i64 a1_6,.string a1_7,.slice A1_8 l1_8.length c1_8,.slice A1_9 l1_9.length c1_9]] w fun e w'=>e=.returned (.bool r)∧Below w.heap.size w w':=by
 have HP_:=Ak hp_;clear hp_
 have hu38:=Tryd.underlying38
 have HR0_3:=Ak hr0_3;have HC0_3:=Ak hc0_3;clear hr0_3 hc0_3;have HR0_4:=Ak hr0_4;have HC0_4:=Ak hc0_4;clear hr0_4 hc0_4;have HR0_5:=Ak hr0_5;have HC0_5:=Ak hc0_5;clear hr0_5 hc0_5;have HR0_8:=Ak hr0_8;have HC0_8:=Ak hc0_8;clear hr0_8 hc0_8;have HR0_9:=Ak hr0_9;have HC0_9:=Ak hc0_9;clear hr0_9 hc0_9;have HR1_3:=Ak hr1_3;have HC1_3:=Ak hc1_3;clear hr1_3 hc1_3
 have HR1_4:=Ak hr1_4;have HC1_4:=Ak hc1_4;clear hr1_4 hc1_4;have HR1_5:=Ak hr1_5;have HC1_5:=Ak hc1_5;clear hr1_5 hc1_5;have HR1_8:=Ak hr1_8;have HC1_8:=Ak hc1_8;clear hr1_8 hc1_8;have HR1_9:=Ak hr1_9;have HC1_9:=Ak hc1_9;clear hr1_9 hc1_9
 have HB:=Ak (Below.refl w.heap.size w)
 have H:(if a0_0=a1_0 then (if (a0_1 != a1_1)=true then (some false) else (if a0_2=a1_2 then ((laws_eqUint32S.f k l0_3 l1_3).bind fun t312=>(if t312=true then ((laws_eqValueS.f k l0_4 l1_4).bind fun t313=>(if t313=true then ((laws_eqUpS.f k l0_5 l1_5).bind fun t314=>(if t314=true then (if a0_6=a1_6 then (if a0_7.toList=a1_7.toList then ((laws_eqIntS.f k l0_8 l1_8).bind fun t315=>(if t315=true then ((laws_eqStringS.f k l0_9 l1_9).bind fun t316=>(if t316=true then (some true) else (some false))) else (some false))) else (some false)) else (some false)) else (some false))) else (some false))) else (some false))) else (some false))) else (some false))=some r:=h
 clear h
 by_cases c3:a0_0=a1_0
 ·rw [if_pos c3] at H
  have c3b0:(a0_0 == a1_0)=true:=beq_iff_eq.mpr c3
  have c3b1:(a0_0 != a1_0)=false:=bne_eq_false_iff_eq.mpr c3
  clear c3
  by_cases c4:(a0_1 != a1_1)=true
  ·rw [if_pos c4] at H
   have c4b0:(a0_1 != a1_1)=true:=c4
   (try (have c4b1:decide (a0_1=a1_1)=false:=by simpa using c4))
   (try (have c4b2:(a0_1 == a1_1)=false:=by simpa using c4))
   (try (have c4b3:¬ (a0_1=a1_1):=by simpa using c4))
   clear c4
   exact absurd (Option.some.inj H) (by rw [HP_.out];decide)
  ·rw [if_neg c4] at H
   have c4b0:(a0_1 != a1_1)=false:=by simpa using c4
   (try (have c4b1:decide (a0_1=a1_1)=true:=by simpa using c4))
   (try (have c4b2:(a0_1 == a1_1)=true:=by simpa using c4))
   clear c4
   by_cases c10:a0_2=a1_2
   ·rw [if_pos c10] at H
    have c10b0:(a0_2 == a1_2)=true:=beq_iff_eq.mpr c10
    have c10b1:(a0_2 != a1_2)=false:=bne_eq_false_iff_eq.mpr c10
    clear c10
    replace H:=Option.bind_eq_some_iff.mp H
    obtain ⟨t312,A110,H⟩:=H
    replace H:(if t312=true then ((laws_eqValueS.f k l0_4 l1_4).bind fun t313=>(if t313=true then ((laws_eqUpS.f k l0_5 l1_5).bind fun t314=>(if t314=true then (if a0_6=a1_6 then (if a0_7.toList=a1_7.toList then ((laws_eqIntS.f k l0_8 l1_8).bind fun t315=>(if t315=true then ((laws_eqStringS.f k l0_9 l1_9).bind fun t316=>(if t316=true then (some true) else (some false))) else (some false))) else (some false)) else (some false)) else (some false))) else (some false))) else (some false))=some r:=H
    have A11:=Ak A110;clear A110
    by_cases c12:t312=true
    ·subst c12
     have H1:((laws_eqValueS.f k l0_4 l1_4).bind fun t313=>(if t313=true then ((laws_eqUpS.f k l0_5 l1_5).bind fun t314=>(if t314=true then (if a0_6=a1_6 then (if a0_7.toList=a1_7.toList then ((laws_eqIntS.f k l0_8 l1_8).bind fun t315=>(if t315=true then ((laws_eqStringS.f k l0_9 l1_9).bind fun t316=>(if t316=true then (some true) else (some false))) else (some false))) else (some false)) else (some false)) else (some false))) else (some false)))=some r:=by rw [if_pos rfl] at H;exact H
     clear H;have H:=H1;clear H1
     replace H:=Option.bind_eq_some_iff.mp H
     obtain ⟨t313,A130,H⟩:=H
     replace H:(if t313=true then ((laws_eqUpS.f k l0_5 l1_5).bind fun t314=>(if t314=true then (if a0_6=a1_6 then (if a0_7.toList=a1_7.toList then ((laws_eqIntS.f k l0_8 l1_8).bind fun t315=>(if t315=true then ((laws_eqStringS.f k l0_9 l1_9).bind fun t316=>(if t316=true then (some true) else (some false))) else (some false))) else (some false)) else (some false)) else (some false))) else (some false))=some r:=H
     have A13:=Ak A130;clear A130
     by_cases c14:t313=true
     ·subst c14
      have H1:((laws_eqUpS.f k l0_5 l1_5).bind fun t314=>(if t314=true then (if a0_6=a1_6 then (if a0_7.toList=a1_7.toList then ((laws_eqIntS.f k l0_8 l1_8).bind fun t315=>(if t315=true then ((laws_eqStringS.f k l0_9 l1_9).bind fun t316=>(if t316=true then (some true) else (some false))) else (some false))) else (some false)) else (some false)) else (some false)))=some r:=by rw [if_pos rfl] at H;exact H
      clear H;have H:=H1;clear H1
      replace H:=Option.bind_eq_some_iff.mp H
      obtain ⟨t314,A150,H⟩:=H
      replace H:(if t314=true then (if a0_6=a1_6 then (if a0_7.toList=a1_7.toList then ((laws_eqIntS.f k l0_8 l1_8).bind fun t315=>(if t315=true then ((laws_eqStringS.f k l0_9 l1_9).bind fun t316=>(if t316=true then (some true) else (some false))) else (some false))) else (some false)) else (some false)) else (some false))=some r:=H
      have A15:=Ak A150;clear A150
      by_cases c16:t314=true
      ·subst c16
       have H1:(if a0_6=a1_6 then (if a0_7.toList=a1_7.toList then ((laws_eqIntS.f k l0_8 l1_8).bind fun t315=>(if t315=true then ((laws_eqStringS.f k l0_9 l1_9).bind fun t316=>(if t316=true then (some true) else (some false))) else (some false))) else (some false)) else (some false))=some r:=by rw [if_pos rfl] at H;exact H
       clear H;have H:=H1;clear H1
       by_cases c17:a0_6=a1_6
       ·rw [if_pos c17] at H
        have c17b0:(a0_6 == a1_6)=true:=beq_iff_eq.mpr c17
        have c17b1:(a0_6 != a1_6)=false:=bne_eq_false_iff_eq.mpr c17
        clear c17
        by_cases c18:a0_7.toList=a1_7.toList
        ·rw [if_pos c18] at H
         have c18b0:(a0_7.toList == a1_7.toList)=true:=beq_iff_eq.mpr c18
         have c18b1:(a0_7.toList != a1_7.toList)=false:=bne_eq_false_iff_eq.mpr c18
         clear c18
         replace H:=Option.bind_eq_some_iff.mp H
         obtain ⟨t315,A190,H⟩:=H
         replace H:(if t315=true then ((laws_eqStringS.f k l0_9 l1_9).bind fun t316=>(if t316=true then (some true) else (some false))) else (some false))=some r:=H
         have A19:=Ak A190;clear A190
         by_cases c20:t315=true
         ·subst c20
          have H1:((laws_eqStringS.f k l0_9 l1_9).bind fun t316=>(if t316=true then (some true) else (some false)))=some r:=by rw [if_pos rfl] at H;exact H
          clear H;have H:=H1;clear H1
          replace H:=Option.bind_eq_some_iff.mp H
          obtain ⟨t316,A210,H⟩:=H
          replace H:(if t316=true then (some true) else (some false))=some r:=H
          have A21:=Ak A210;clear A210
          by_cases c22:t316=true
          ·subst c22
           have H1:(some true)=some r:=by rw [if_pos rfl] at H;exact H
           clear H;have H:=H1;clear H1
           obtain rfl:=Option.some.inj H
           go_enter Tryd.func42,Tryd.ntmps42
           go_wp2_with (first|((with_reducible refine gate_dst (N:=2) rfl ?_);refine box_event ?hg (N:=2) ?hd (cs:=#[.int .i64 a0_0,.bool a0_1,.int .i64 a0_2,.slice A0_3 l0_3.length c0_3,.slice A0_4 l0_4.length c0_4,.slice A0_5 l0_5.length c0_5,.int .i64 a0_6,.string a0_7,.slice A0_8 l0_8.length c0_8,.slice A0_9 l0_9.length c0_9]) (t:=38) ?hr ?_;(case hd=>rfl);(case hg=>rfl);(case hr=>first|(go_simp;done)|(go_simp;rfl));intro gb310 hg w23 hbox hb;have n0_:=Ak (below_step (by repeat (first|(with_reducible first|exact HB.out|apply below_alloc|apply pw_below_drewN|apply below_drew1)|exact HB.out)) hb);have n1_:=Ak (hbox);have n2_:=Ak ((by rw [hg];exact (below_size (by repeat (first|(with_reducible first|exact HB.out|apply below_alloc|apply pw_below_drewN|apply below_drew1)|exact HB.out))):w.heap.size≤gb310));have n3_:=Ak ((by rw [hg];exact (below_size (by repeat (first|(with_reducible first|exact HB.out|apply below_alloc|apply pw_below_drewN|apply below_drew1)|exact HB.out))):w.heap.size≤gb310));clear HB;have HB:=n0_;have BK310:=n1_;have GW310:=n2_;have GE310:=n3_;clear n0_ n1_ n2_ n3_;clear hb hbox hg)|((with_reducible refine gate_dst (N:=3) rfl ?_);refine box_event ?hg (N:=3) ?hd (cs:=#[.int .i64 a1_0,.bool a1_1,.int .i64 a1_2,.slice A1_3 l1_3.length c1_3,.slice A1_4 l1_4.length c1_4,.slice A1_5 l1_5.length c1_5,.int .i64 a1_6,.string a1_7,.slice A1_8 l1_8.length c1_8,.slice A1_9 l1_9.length c1_9]) (t:=38) ?hr ?_;(case hd=>rfl);(case hg=>rfl);(case hr=>first|(go_simp;done)|(go_simp;rfl));intro gb311 hg w24 hbox hb;have n0_:=Ak (blk_below (g:=gb310) (by (with_reducible repeat (first|refine blk_drewN ?_ _|refine blk_drew ?_|refine blk_alloc ?_ _));exact BK310.out) hb);have n1_:=Ak (below_step (by repeat (first|(with_reducible first|exact HB.out|apply below_alloc|apply pw_below_drewN|apply below_drew1|refine below_set ?_ GE310.out)|exact HB.out)) hb);have n2_:=Ak (hbox);have n3_:=Ak ((by rw [hg];exact (below_size (by repeat (first|(with_reducible first|exact HB.out|apply below_alloc|apply pw_below_drewN|apply below_drew1|refine below_set ?_ GE310.out)|exact HB.out))):w.heap.size≤gb311));have n4_:=Ak ((by rw [hg];exact (below_size (by repeat (first|(with_reducible first|exact HB.out|apply below_alloc|apply pw_below_drewN|apply below_drew1|refine below_set ?_ GE310.out)|exact HB.out))):w.heap.size≤gb311));have n5_:=Ak ((by rw [hg];exact Nat.ne_of_lt (blk_lt (g:=gb310) (by (with_reducible repeat (first|refine blk_drewN ?_ _|refine blk_drew ?_|refine blk_alloc ?_ _));exact BK310.out)):gb310≠gb311));have n6_:=Ak ((by rw [hg];exact Nat.ne_of_gt (blk_lt (g:=gb310) (by (with_reducible repeat (first|refine blk_drewN ?_ _|refine blk_drew ?_|refine blk_alloc ?_ _));exact BK310.out)):gb311≠gb310));clear BK310;clear HB;have BK310:=n0_;have HB:=n1_;have BK311:=n2_;have GW311:=n3_;have GE311:=n4_;have NB310_311:=n5_;have NB311_310:=n6_;clear n0_ n1_ n2_ n3_ n4_ n5_ n6_;clear hb hbox hg;have hnb25:=NB310_311.out;have hnc25:=NB311_310.out;obtain ⟨hcz26_0,hcz26_1,hcz26_2,hcz26_3,hcz26_4,hcz26_5,hcz26_6,hcz26_7,hcz26_8,hcz26_9,hfz26_0,hfz26_1,hfz26_2,hfz26_3,hfz26_4,hfz26_5,hfz26_6,hfz26_7,hfz26_8,hfz26_9⟩:=bk10 BK310.out;obtain ⟨hcz27_0,hcz27_1,hcz27_2,hcz27_3,hcz27_4,hcz27_5,hcz27_6,hcz27_7,hcz27_8,hcz27_9,hfz27_0,hfz27_1,hfz27_2,hfz27_3,hfz27_4,hfz27_5,hfz27_6,hfz27_7,hfz27_8,hfz27_9⟩:=bk10 BK311.out)|((with_reducible refine gate_callee (f:=66) rfl ?_);refine goesL_ (some 24) rfl rfl Tryd.func66 (by kernel_rfl) rfl #[.slice A0_3 l0_3.length c0_3,.slice A1_3 l1_3.length c1_3] rfl (by (try simp only [List.map_toArray,List.map_cons,List.map_nil]);first|done|rfl|(simp only [List.length_drop,List.length_take];rfl)) ?_;(with_reducible refine (laws_eqUint32S.calls k _ _ l0_3 _ _ l1_3 true _ ?side1 ?side2 ?side3 ?side4 A11.out).mono ?_);(case side1=>repeat (first|exact (Kd.C_below HR0_3.out HB.out)|(with_reducible refine Kd.C_alloc ?_ _)|(with_reducible refine Kd.C_drewN ?_ _)|(with_reducible refine Kd.C_drew ?_)));(case side2=>exact HC0_3.out);(case side3=>repeat (first|exact (Kd.C_below HR1_3.out HB.out)|(with_reducible refine Kd.C_alloc ?_ _)|(with_reducible refine Kd.C_drewN ?_ _)|(with_reducible refine Kd.C_drew ?_)));(case side4=>exact HC1_3.out);rintro e w' ⟨rfl,⟨nd,rfl⟩⟩;refine ⟨_,rfl,?_⟩)|((with_reducible refine gate_callee (f:=67) rfl ?_);refine goesL_ (some 30) rfl rfl Tryd.func67 (by kernel_rfl) rfl #[.slice A0_4 l0_4.length c0_4,.slice A1_4 l1_4.length c1_4] rfl (by (try simp only [List.map_toArray,List.map_cons,List.map_nil]);first|done|rfl|(simp only [List.length_drop,List.length_take];rfl)) ?_;(with_reducible refine (laws_eqValueS.calls k _ _ l0_4 _ _ l1_4 true _ ?side1 ?side2 ?side3 ?side4 A13.out rfl).mono ?_);(case side1=>repeat (first|exact (Kd.C_below HR0_4.out (by repeat (first|(with_reducible first|exact HB.out|apply below_alloc|apply pw_below_drewN|apply below_drew1|refine below_set ?_ GE310.out|refine below_set ?_ GE311.out)|exact HB.out)))|(with_reducible refine Kd.C_alloc ?_ _)|(with_reducible refine Kd.C_drewN ?_ _)|(with_reducible refine Kd.C_drew ?_)));(case side2=>exact HC0_4.out);(case side3=>repeat (first|exact (Kd.C_below HR1_4.out (by repeat (first|(with_reducible first|exact HB.out|apply below_alloc|apply pw_below_drewN|apply below_drew1|refine below_set ?_ GE310.out|refine below_set ?_ GE311.out)|exact HB.out)))|(with_reducible refine Kd.C_alloc ?_ _)|(with_reducible refine Kd.C_drewN ?_ _)|(with_reducible refine Kd.C_drew ?_)));(case side4=>exact HC1_4.out);rintro e w28 ⟨rfl,hb⟩;refine ⟨_,rfl,?_⟩;have n0_:=Ak (blk_below (g:=gb310) (by (with_reducible repeat (first|refine blk_drewN ?_ _|refine blk_drew ?_|refine blk_alloc ?_ _));exact BK310.out) hb);have n1_:=Ak (blk_below (g:=gb311) (by (with_reducible repeat (first|refine blk_drewN ?_ _|refine blk_drew ?_|refine blk_alloc ?_ _));exact BK311.out) hb);have n2_:=Ak (below_step (by repeat (first|(with_reducible first|exact HB.out|apply below_alloc|apply pw_below_drewN|apply below_drew1|refine below_set ?_ GE310.out|refine below_set ?_ GE311.out)|exact HB.out)) hb);clear BK310;clear BK311;clear HB;have BK310:=n0_;have BK311:=n1_;have HB:=n2_;clear n0_ n1_ n2_;(try clear hb);(try clear hb2);(try clear hk);(try clear hi);obtain ⟨hcz29_0,hcz29_1,hcz29_2,hcz29_3,hcz29_4,hcz29_5,hcz29_6,hcz29_7,hcz29_8,hcz29_9,hfz29_0,hfz29_1,hfz29_2,hfz29_3,hfz29_4,hfz29_5,hfz29_6,hfz29_7,hfz29_8,hfz29_9⟩:=bk10 BK310.out;obtain ⟨hcz30_0,hcz30_1,hcz30_2,hcz30_3,hcz30_4,hcz30_5,hcz30_6,hcz30_7,hcz30_8,hcz30_9,hfz30_0,hfz30_1,hfz30_2,hfz30_3,hfz30_4,hfz30_5,hfz30_6,hfz30_7,hfz30_8,hfz30_9⟩:=bk10 BK311.out)|((with_reducible refine gate_callee (f:=68) rfl ?_);refine goesL_ (some 36) rfl rfl Tryd.func68 (by kernel_rfl) rfl #[.slice A0_5 l0_5.length c0_5,.slice A1_5 l1_5.length c1_5] rfl (by (try simp only [List.map_toArray,List.map_cons,List.map_nil]);first|done|rfl|(simp only [List.length_drop,List.length_take];rfl)) ?_;(with_reducible refine (laws_eqUpS.calls k _ _ l0_5 _ _ l1_5 true _ ?side1 ?side2 ?side3 ?side4 A15.out rfl).mono ?_);(case side1=>repeat (first|exact (Kd.C_below HR0_5.out HB.out)|(with_reducible refine Kd.C_alloc ?_ _)|(with_reducible refine Kd.C_drewN ?_ _)|(with_reducible refine Kd.C_drew ?_)));(case side2=>exact HC0_5.out);(case side3=>repeat (first|exact (Kd.C_below HR1_5.out HB.out)|(with_reducible refine Kd.C_alloc ?_ _)|(with_reducible refine Kd.C_drewN ?_ _)|(with_reducible refine Kd.C_drew ?_)));(case side4=>exact HC1_5.out);rintro e w31 ⟨rfl,hb⟩;refine ⟨_,rfl,?_⟩;have n0_:=Ak (blk_below (g:=gb310) (by (with_reducible repeat (first|refine blk_drewN ?_ _|refine blk_drew ?_|refine blk_alloc ?_ _));exact BK310.out) hb);have n1_:=Ak (blk_below (g:=gb311) (by (with_reducible repeat (first|refine blk_drewN ?_ _|refine blk_drew ?_|refine blk_alloc ?_ _));exact BK311.out) hb);have n2_:=Ak (below_step (by repeat (first|(with_reducible first|exact HB.out|apply below_alloc|apply pw_below_drewN|apply below_drew1|refine below_set ?_ GE310.out|refine below_set ?_ GE311.out)|exact HB.out)) hb);clear BK310;clear BK311;clear HB;have BK310:=n0_;have BK311:=n1_;have HB:=n2_;clear n0_ n1_ n2_;(try clear hb);(try clear hb2);(try clear hk);(try clear hi);obtain ⟨hcz32_0,hcz32_1,hcz32_2,hcz32_3,hcz32_4,hcz32_5,hcz32_6,hcz32_7,hcz32_8,hcz32_9,hfz32_0,hfz32_1,hfz32_2,hfz32_3,hfz32_4,hfz32_5,hfz32_6,hfz32_7,hfz32_8,hfz32_9⟩:=bk10 BK310.out;obtain ⟨hcz33_0,hcz33_1,hcz33_2,hcz33_3,hcz33_4,hcz33_5,hcz33_6,hcz33_7,hcz33_8,hcz33_9,hfz33_0,hfz33_1,hfz33_2,hfz33_3,hfz33_4,hfz33_5,hfz33_6,hfz33_7,hfz33_8,hfz33_9⟩:=bk10 BK311.out)|((with_reducible refine gate_callee (f:=69) rfl ?_);refine goesL_ (some 52) rfl rfl Tryd.func69 (by kernel_rfl) rfl #[.slice A0_8 l0_8.length c0_8,.slice A1_8 l1_8.length c1_8] rfl (by (try simp only [List.map_toArray,List.map_cons,List.map_nil]);first|done|rfl|(simp only [List.length_drop,List.length_take];rfl)) ?_;(with_reducible refine (laws_eqIntS.calls k _ _ l0_8 _ _ l1_8 true _ ?side1 ?side2 ?side3 ?side4 A19.out).mono ?_);(case side1=>repeat (first|exact (Kd.C_below HR0_8.out HB.out)|(with_reducible refine Kd.C_alloc ?_ _)|(with_reducible refine Kd.C_drewN ?_ _)|(with_reducible refine Kd.C_drew ?_)));(case side2=>exact HC0_8.out);(case side3=>repeat (first|exact (Kd.C_below HR1_8.out HB.out)|(with_reducible refine Kd.C_alloc ?_ _)|(with_reducible refine Kd.C_drewN ?_ _)|(with_reducible refine Kd.C_drew ?_)));(case side4=>exact HC1_8.out);rintro e w' ⟨rfl,⟨nd,rfl⟩⟩;refine ⟨_,rfl,?_⟩)|((with_reducible refine gate_callee (f:=70) rfl ?_);refine goesL_ (some 58) rfl rfl Tryd.func70 (by kernel_rfl) rfl #[.slice A0_9 l0_9.length c0_9,.slice A1_9 l1_9.length c1_9] rfl (by (try simp only [List.map_toArray,List.map_cons,List.map_nil]);first|done|rfl|(simp only [List.length_drop,List.length_take];rfl)) ?_;(with_reducible refine (laws_eqStringS.calls k _ _ l0_9 _ _ l1_9 true _ ?side1 ?side2 ?side3 ?side4 A21.out).mono ?_);(case side1=>repeat (first|exact (Kd.C_below HR0_9.out (by repeat (first|(with_reducible first|exact HB.out|apply below_alloc|apply pw_below_drewN|apply below_drew1|refine below_set ?_ GE310.out|refine below_set ?_ GE311.out)|exact HB.out)))|(with_reducible refine Kd.C_alloc ?_ _)|(with_reducible refine Kd.C_drewN ?_ _)|(with_reducible refine Kd.C_drew ?_)));(case side2=>exact HC0_9.out);(case side3=>repeat (first|exact (Kd.C_below HR1_9.out (by repeat (first|(with_reducible first|exact HB.out|apply below_alloc|apply pw_below_drewN|apply below_drew1|refine below_set ?_ GE310.out|refine below_set ?_ GE311.out)|exact HB.out)))|(with_reducible refine Kd.C_alloc ?_ _)|(with_reducible refine Kd.C_drewN ?_ _)|(with_reducible refine Kd.C_drew ?_)));(case side4=>exact HC1_9.out);rintro e w' ⟨rfl,⟨nd,rfl⟩⟩;refine ⟨_,rfl,?_⟩))
           go_ret
           exact ⟨by first|rfl|(simp [errW_none,errW_some] <;> rfl)|(simp [*,errW_none,errW_some] <;> rfl),by repeat (first|(with_reducible first|exact HB.out|apply below_alloc|apply pw_below_drewN|apply below_drew1|refine below_set ?_ GE310.out|refine below_set ?_ GE311.out)|exact HB.out)⟩
          ·replace c22:=Bool.eq_false_iff.mpr c22
           subst c22
           have H1:(some false)=some r:=by rw [if_neg (show ¬ (false=true) by decide)] at H;exact H
           clear H;have H:=H1;clear H1
           exact absurd (Option.some.inj H) (by rw [HP_.out];decide)
         ·replace c20:=Bool.eq_false_iff.mpr c20
          subst c20
          have H1:(some false)=some r:=by rw [if_neg (show ¬ (false=true) by decide)] at H;exact H
          clear H;have H:=H1;clear H1
          exact absurd (Option.some.inj H) (by rw [HP_.out];decide)
        ·rw [if_neg c18] at H
         have c18b0:(a0_7.toList == a1_7.toList)=false:=beq_eq_false_iff_ne.mpr c18
         have c18b1:(a0_7.toList != a1_7.toList)=true:=bne_iff_ne.mpr c18
         exact absurd (Option.some.inj H) (by rw [HP_.out];decide)
       ·rw [if_neg c17] at H
        have c17b0:(a0_6 == a1_6)=false:=beq_eq_false_iff_ne.mpr c17
        have c17b1:(a0_6 != a1_6)=true:=bne_iff_ne.mpr c17
        exact absurd (Option.some.inj H) (by rw [HP_.out];decide)
      ·replace c16:=Bool.eq_false_iff.mpr c16
       subst c16
       have H1:(some false)=some r:=by rw [if_neg (show ¬ (false=true) by decide)] at H;exact H
       clear H;have H:=H1;clear H1
       exact absurd (Option.some.inj H) (by rw [HP_.out];decide)
     ·replace c14:=Bool.eq_false_iff.mpr c14
      subst c14
      have H1:(some false)=some r:=by rw [if_neg (show ¬ (false=true) by decide)] at H;exact H
      clear H;have H:=H1;clear H1
      exact absurd (Option.some.inj H) (by rw [HP_.out];decide)
    ·replace c12:=Bool.eq_false_iff.mpr c12
     subst c12
     have H1:(some false)=some r:=by rw [if_neg (show ¬ (false=true) by decide)] at H;exact H
     clear H;have H:=H1;clear H1
     exact absurd (Option.some.inj H) (by rw [HP_.out];decide)
   ·rw [if_neg c10] at H
    have c10b0:(a0_2 == a1_2)=false:=beq_eq_false_iff_ne.mpr c10
    have c10b1:(a0_2 != a1_2)=true:=bne_iff_ne.mpr c10
    exact absurd (Option.some.inj H) (by rw [HP_.out];decide)
 ·rw [if_neg c3] at H
  have c3b0:(a0_0 == a1_0)=false:=beq_eq_false_iff_ne.mpr c3
  have c3b1:(a0_0 != a1_0)=true:=bne_iff_ne.mpr c3
  exact absurd (Option.some.inj H) (by rw [HP_.out];decide)
def laws_eqProtoS.l0:Nat→List (S38)→List (S38)→Int→Option (Bool)
 | 0,_,_,_=>none
 | k+1,x0,x1,x5=>if x5<(x0.length:Int) then (if 0≤x5 then (if x5<(x1.length:Int) then ((laws_eqProto.f k ((rd_T38 x0 x5).f0) ((rd_T38 x0 x5).f1) ((rd_T38 x0 x5).f2) ((rd_T38 x0 x5).f3) ((rd_T38 x0 x5).f4) ((rd_T38 x0 x5).f5) ((rd_T38 x0 x5).f6) ((rd_T38 x0 x5).f7) ((rd_T38 x0 x5).f8) ((rd_T38 x0 x5).f9) ((rd_T38 x1 x5).f0) ((rd_T38 x1 x5).f1) ((rd_T38 x1 x5).f2) ((rd_T38 x1 x5).f3) ((rd_T38 x1 x5).f4) ((rd_T38 x1 x5).f5) ((rd_T38 x1 x5).f6) ((rd_T38 x1 x5).f7) ((rd_T38 x1 x5).f8) ((rd_T38 x1 x5).f9)).bind fun t319=>(if t319=true then (laws_eqProtoS.l0 k x0 x1 (wrap64 (x5+1))) else (some false))) else (none)) else (none)) else (some true)
def laws_eqProtoS.f (k:Nat) (l0:List (S38)) (l1:List (S38)):Option (Bool):=if (l0.length:Int)=(l1.length:Int) then (laws_eqProtoS.l0 k l0 l1 0) else (some false)
def laws_eqProtoS.T6:Bool×List (List Nat×List Nat):=(true,[([],[]),([],[]),([0,1],[0,1]),([2],[2]),([],[]),([],[]),([4,5],[4,5]),([6],[6]),([3,7],[3,7]),([8],[8])])
def laws_eqProtoS.B6:List Nat:=[0,0,3,7,0,0,48,112,255,511]
theorem laws_eqProtoS.tab6:rtab .any (opsOf Tryd.f15 6)=laws_eqProtoS.T6:=by kernel_rfl
theorem laws_eqProtoS.bits6:waitsOk laws_eqProtoS.T6.2 laws_eqProtoS.B6=true:=by kernel_rfl
set_option maxHeartbeats 8000000 in
set_option maxRecDepth 100000 in
theorem laws_eqProtoS.calls (k:Nat) (A0:Option Addr) (c0:Nat) (l0:List (S38)) (A1:Option Addr) (c1:Nat) (l1:List (S38)) (r:Bool) (w:World) (hr0:Kd.C k38 w A0 l0.length l0) (hc0:l0.length≤c0) (hr1:Kd.C k38 w A1 l1.length l1) (hc1:l1.length≤c1) (h:laws_eqProtoS.f k l0 l1=some r) (hp_:r=true) :
  Calls Tryd.prog 15 #[.slice A0 l0.length c0,.slice A1 l1.length c1] w fun e w'=>e=.returned (.bool r)∧Below w.heap.size w w':=by
 have HP_:=Ak hp_;clear hp_
 have hu38:=Tryd.underlying38
 have HR0:=Ak hr0;have HC0:=Ak hc0;clear hr0 hc0;have HR1:=Ak hr1;have HC1:=Ak hc1;clear hr1 hc1
 have HB:=Ak (Below.refl w.heap.size w)
 have H:(if (l0.length:Int)=(l1.length:Int) then (laws_eqProtoS.l0 k l0 l1 0) else (some false))=some r:=h
 clear h
 by_cases c3:(l0.length:Int)=(l1.length:Int)
 ·rw [if_pos c3] at H
  have c3b0:((l0.length:Int) == (l1.length:Int))=true:=beq_iff_eq.mpr c3
  have c3b1:((l0.length:Int) != (l1.length:Int))=false:=bne_eq_false_iff_eq.mpr c3
  have c3b2:(l0.length == l1.length)=true:=by first|simpa using c3|(simp at c3 ⊢;omega)
  clear c3
  have H':=Ak H
  clear H
  go_enter Tryd.func15,Tryd.ntmps15
  go_wp2
  go_loopg [5] k (fun kq v5 w'=>∃ (x5_1:Int),v5=.int .i64 x5_1∧Aside0 (laws_eqProtoS.l0 kq l0 l1 x5_1=some r)∧Aside0 (kq≤k)∧Aside0 (Below w.heap.size w w'))
  case atStart=>exact ⟨(0),(by first|rfl|(simp;done)|(simp [*];done)),H',⟨Nat.le_refl _⟩,⟨by repeat (first|(with_reducible first|exact HB.out|apply below_alloc|apply pw_below_drewN|apply below_drew1)|exact HB.out)⟩⟩
  case round =>
   clear H';(try clear c1);(try clear p2);(try clear c3);(try clear c3b0);(try clear c3b1);(try clear c3b2)
   obtain ⟨x5_1,rfl,HA,HK1,HB⟩:=hrel
   cases gk with
   | zero=>exact absurd HA.out (by simp [laws_eqProtoS.l0])
   | succ k1 =>
    have H:=HA.out
    clear HA
    simp only [laws_eqProtoS.l0] at H
    by_cases c4:x5_1<(l0.length:Int)
    ·rw [if_pos c4] at H
     have c4b0:decide (x5_1<(l0.length:Int))=true:=decide_eq_true c4
     clear c4
     by_cases c5:0≤x5_1
     ·rw [if_pos c5] at H
      have c5b0:decide (0≤x5_1)=true:=decide_eq_true c5
      clear c5
      by_cases c6:x5_1<(l1.length:Int)
      ·rw [if_pos c6] at H
       have c6b0:decide (x5_1<(l1.length:Int))=true:=decide_eq_true c6
       clear c6
       replace H:=Option.bind_eq_some_iff.mp H
       obtain ⟨t319,A70,H⟩:=H
       replace H:(if t319=true then (laws_eqProtoS.l0 k1 l0 l1 (wrap64 (x5_1+1))) else (some false))=some r:=H
       have A7:=Ak A70;clear A70
       by_cases c8:t319=true
       ·subst c8
        have H1:(laws_eqProtoS.l0 k1 l0 l1 (wrap64 (x5_1+1)))=some r:=by rw [if_pos rfl] at H;exact H
        clear H;have H:=H1;clear H1
        have H':=Ak H
        clear H
        try go_wp2
        have n0_:=Ak (below_drew1 HB.out)
        clear HB;have HB:=n0_;clear n0_
        have p317:0≤(x5_1:Int):=of_decide_eq_true (by first|(with_reducible assumption)|assumption)
        have q317:x5_1<(l0.length:Int):=of_decide_eq_true (by first|(with_reducible assumption)|assumption)
        obtain ⟨ad317,A317_3,c317_3,A317_4,c317_4,A317_5,c317_5,A317_8,c317_8,A317_9,c317_9,e317,hx317_0,hx317_1,hx317_2,hx317_3,hx317_4,hx317_5,hx317_6,hx317_7,hx317_8,hx317_9,hl317_3,hi317_3,hl317_4,hi317_4,hl317_5,hi317_5,hl317_8,hi317_8,hl317_9,hi317_9⟩:=at_T38 HR0.out x5_1 p317 q317
        have hw317_9:=hx317_9;have hw317_8:=hx317_8;have hw317_7:=hx317_7;have hw317_6:=hx317_6;have hw317_5:=hx317_5;have hw317_4:=hx317_4;have hw317_3:=hx317_3;have hw317_2:=hx317_2;have hw317_1:=hx317_1;have hw317_0:=hx317_0
        cases e317
        replace hx317_0:=(HB.out.cell (World.block_lt_of_cell? w _ hx317_0)).trans hx317_0
        replace hx317_1:=(HB.out.cell (World.block_lt_of_cell? w _ hx317_1)).trans hx317_1
        replace hx317_2:=(HB.out.cell (World.block_lt_of_cell? w _ hx317_2)).trans hx317_2
        replace hx317_3:=(HB.out.cell (World.block_lt_of_cell? w _ hx317_3)).trans hx317_3
        replace hx317_4:=(HB.out.cell (World.block_lt_of_cell? w _ hx317_4)).trans hx317_4
        replace hx317_5:=(HB.out.cell (World.block_lt_of_cell? w _ hx317_5)).trans hx317_5
        replace hx317_6:=(HB.out.cell (World.block_lt_of_cell? w _ hx317_6)).trans hx317_6
        replace hx317_7:=(HB.out.cell (World.block_lt_of_cell? w _ hx317_7)).trans hx317_7
        replace hx317_8:=(HB.out.cell (World.block_lt_of_cell? w _ hx317_8)).trans hx317_8
        replace hx317_9:=(HB.out.cell (World.block_lt_of_cell? w _ hx317_9)).trans hx317_9
        have HR317_3:=Ak hi317_3;have HC317_3:=Ak hl317_3;clear hi317_3 hl317_3;have HR317_4:=Ak hi317_4;have HC317_4:=Ak hl317_4;clear hi317_4 hl317_4;have HR317_5:=Ak hi317_5;have HC317_5:=Ak hl317_5;clear hi317_5 hl317_5;have HR317_8:=Ak hi317_8;have HC317_8:=Ak hl317_8;clear hi317_8 hl317_8;have HR317_9:=Ak hi317_9;have HC317_9:=Ak hl317_9;clear hi317_9 hl317_9
        replace p317:=eq_true p317
        replace q317:=eq_true q317
        have p318:0≤(x5_1:Int):=of_decide_eq_true (by first|(with_reducible assumption)|assumption)
        have q318:x5_1<(l1.length:Int):=of_decide_eq_true (by first|(with_reducible assumption)|assumption)
        obtain ⟨ad318,A318_3,c318_3,A318_4,c318_4,A318_5,c318_5,A318_8,c318_8,A318_9,c318_9,e318,hx318_0,hx318_1,hx318_2,hx318_3,hx318_4,hx318_5,hx318_6,hx318_7,hx318_8,hx318_9,hl318_3,hi318_3,hl318_4,hi318_4,hl318_5,hi318_5,hl318_8,hi318_8,hl318_9,hi318_9⟩:=at_T38 HR1.out x5_1 p318 q318
        have hw318_9:=hx318_9;have hw318_8:=hx318_8;have hw318_7:=hx318_7;have hw318_6:=hx318_6;have hw318_5:=hx318_5;have hw318_4:=hx318_4;have hw318_3:=hx318_3;have hw318_2:=hx318_2;have hw318_1:=hx318_1;have hw318_0:=hx318_0
        cases e318
        replace hx318_0:=(HB.out.cell (World.block_lt_of_cell? w _ hx318_0)).trans hx318_0
        replace hx318_1:=(HB.out.cell (World.block_lt_of_cell? w _ hx318_1)).trans hx318_1
        replace hx318_2:=(HB.out.cell (World.block_lt_of_cell? w _ hx318_2)).trans hx318_2
        replace hx318_3:=(HB.out.cell (World.block_lt_of_cell? w _ hx318_3)).trans hx318_3
        replace hx318_4:=(HB.out.cell (World.block_lt_of_cell? w _ hx318_4)).trans hx318_4
        replace hx318_5:=(HB.out.cell (World.block_lt_of_cell? w _ hx318_5)).trans hx318_5
        replace hx318_6:=(HB.out.cell (World.block_lt_of_cell? w _ hx318_6)).trans hx318_6
        replace hx318_7:=(HB.out.cell (World.block_lt_of_cell? w _ hx318_7)).trans hx318_7
        replace hx318_8:=(HB.out.cell (World.block_lt_of_cell? w _ hx318_8)).trans hx318_8
        replace hx318_9:=(HB.out.cell (World.block_lt_of_cell? w _ hx318_9)).trans hx318_9
        have HR318_3:=Ak hi318_3;have HC318_3:=Ak hl318_3;clear hi318_3 hl318_3;have HR318_4:=Ak hi318_4;have HC318_4:=Ak hl318_4;clear hi318_4 hl318_4;have HR318_5:=Ak hi318_5;have HC318_5:=Ak hl318_5;clear hi318_5 hl318_5;have HR318_8:=Ak hi318_8;have HC318_8:=Ak hl318_8;clear hi318_8 hl318_8;have HR318_9:=Ak hi318_9;have HC318_9:=Ak hl318_9;clear hi318_9 hl318_9
        replace p318:=eq_true p318
        replace q318:=eq_true q318
        refine start_ (n:=10) (S:=fun w'=>w'.cell? (ad317.add ((x5_1).toNat*10))=some (.int .i64 ((rd_T38 l0 x5_1).f0))∧w'.cell? ⟨(ad317.add ((x5_1).toNat*10)).block,(ad317.add ((x5_1).toNat*10)).off+1,none⟩=some (.bool ((rd_T38 l0 x5_1).f1))∧w'.cell? ⟨(ad317.add ((x5_1).toNat*10)).block,(ad317.add ((x5_1).toNat*10)).off+2,none⟩=some (.int .i64 ((rd_T38 l0 x5_1).f2))∧w'.cell? ⟨(ad317.add ((x5_1).toNat*10)).block,(ad317.add ((x5_1).toNat*10)).off+3,none⟩=some (.slice A317_3 ((rd_T38 l0 x5_1).f3).length c317_3)∧w'.cell? ⟨(ad317.add ((x5_1).toNat*10)).block,(ad317.add ((x5_1).toNat*10)).off+4,none⟩=some (.slice A317_4 ((rd_T38 l0 x5_1).f4).length c317_4)∧w'.cell? ⟨(ad317.add ((x5_1).toNat*10)).block,(ad317.add ((x5_1).toNat*10)).off+5,none⟩=some (.slice A317_5 ((rd_T38 l0 x5_1).f5).length c317_5)∧w'.cell? ⟨(ad317.add ((x5_1).toNat*10)).block,(ad317.add ((x5_1).toNat*10)).off+6,none⟩=some (.int .i64 ((rd_T38 l0 x5_1).f6))∧w'.cell? ⟨(ad317.add ((x5_1).toNat*10)).block,(ad317.add ((x5_1).toNat*10)).off+7,none⟩=some (.string ((rd_T38 l0 x5_1).f7))∧w'.cell? ⟨(ad317.add ((x5_1).toNat*10)).block,(ad317.add ((x5_1).toNat*10)).off+8,none⟩=some (.slice A317_8 ((rd_T38 l0 x5_1).f8).length c317_8)∧w'.cell? ⟨(ad317.add ((x5_1).toNat*10)).block,(ad317.add ((x5_1).toNat*10)).off+9,none⟩=some (.slice A317_9 ((rd_T38 l0 x5_1).f9).length c317_9)∧w'.cell? (ad318.add ((x5_1).toNat*10))=some (.int .i64 ((rd_T38 l1 x5_1).f0))∧w'.cell? ⟨(ad318.add ((x5_1).toNat*10)).block,(ad318.add ((x5_1).toNat*10)).off+1,none⟩=some (.bool ((rd_T38 l1 x5_1).f1))∧w'.cell? ⟨(ad318.add ((x5_1).toNat*10)).block,(ad318.add ((x5_1).toNat*10)).off+2,none⟩=some (.int .i64 ((rd_T38 l1 x5_1).f2))∧w'.cell? ⟨(ad318.add ((x5_1).toNat*10)).block,(ad318.add ((x5_1).toNat*10)).off+3,none⟩=some (.slice A318_3 ((rd_T38 l1 x5_1).f3).length c318_3)∧w'.cell? ⟨(ad318.add ((x5_1).toNat*10)).block,(ad318.add ((x5_1).toNat*10)).off+4,none⟩=some (.slice A318_4 ((rd_T38 l1 x5_1).f4).length c318_4)∧w'.cell? ⟨(ad318.add ((x5_1).toNat*10)).block,(ad318.add ((x5_1).toNat*10)).off+5,none⟩=some (.slice A318_5 ((rd_T38 l1 x5_1).f5).length c318_5)∧w'.cell? ⟨(ad318.add ((x5_1).toNat*10)).block,(ad318.add ((x5_1).toNat*10)).off+6,none⟩=some (.int .i64 ((rd_T38 l1 x5_1).f6))∧w'.cell? ⟨(ad318.add ((x5_1).toNat*10)).block,(ad318.add ((x5_1).toNat*10)).off+7,none⟩=some (.string ((rd_T38 l1 x5_1).f7))∧w'.cell? ⟨(ad318.add ((x5_1).toNat*10)).block,(ad318.add ((x5_1).toNat*10)).off+8,none⟩=some (.slice A318_8 ((rd_T38 l1 x5_1).f8).length c318_8)∧w'.cell? ⟨(ad318.add ((x5_1).toNat*10)).block,(ad318.add ((x5_1).toNat*10)).off+9,none⟩=some (.slice A318_9 ((rd_T38 l1 x5_1).f9).length c318_9)) (ds:=[]) #[false,false,false,false,false,false,false,false,false,false] (by kernel_rfl) rfl rfl ⟨((HB.out.cell (World.block_lt_of_cell? w _ hw317_0)).trans hw317_0),((HB.out.cell (World.block_lt_of_cell? w _ hw317_1)).trans hw317_1),((HB.out.cell (World.block_lt_of_cell? w _ hw317_2)).trans hw317_2),((HB.out.cell (World.block_lt_of_cell? w _ hw317_3)).trans hw317_3),((HB.out.cell (World.block_lt_of_cell? w _ hw317_4)).trans hw317_4),((HB.out.cell (World.block_lt_of_cell? w _ hw317_5)).trans hw317_5),((HB.out.cell (World.block_lt_of_cell? w _ hw317_6)).trans hw317_6),((HB.out.cell (World.block_lt_of_cell? w _ hw317_7)).trans hw317_7),((HB.out.cell (World.block_lt_of_cell? w _ hw317_8)).trans hw317_8),((HB.out.cell (World.block_lt_of_cell? w _ hw317_9)).trans hw317_9),((HB.out.cell (World.block_lt_of_cell? w _ hw318_0)).trans hw318_0),((HB.out.cell (World.block_lt_of_cell? w _ hw318_1)).trans hw318_1),((HB.out.cell (World.block_lt_of_cell? w _ hw318_2)).trans hw318_2),((HB.out.cell (World.block_lt_of_cell? w _ hw318_3)).trans hw318_3),((HB.out.cell (World.block_lt_of_cell? w _ hw318_4)).trans hw318_4),((HB.out.cell (World.block_lt_of_cell? w _ hw318_5)).trans hw318_5),((HB.out.cell (World.block_lt_of_cell? w _ hw318_6)).trans hw318_6),((HB.out.cell (World.block_lt_of_cell? w _ hw318_7)).trans hw318_7),((HB.out.cell (World.block_lt_of_cell? w _ hw318_8)).trans hw318_8),((HB.out.cell (World.block_lt_of_cell? w _ hw318_9)).trans hw318_9)⟩ (fun hHeld=>?_);refine with_tabW laws_eqProtoS.tab6 laws_eqProtoS.bits6 (fun HT_ HW_=>?_)
        generalize wr.drew=w9 at HB HR317_3 HR317_4 HR317_5 HR317_8 HR317_9 HR318_3 HR318_4 HR318_5 HR318_8 HR318_9 hx317_0 hx317_1 hx317_2 hx317_3 hx317_4 hx317_5 hx317_6 hx317_7 hx317_8 hx317_9 hx318_0 hx318_1 hx318_2 hx318_3 hx318_4 hx318_5 hx318_6 hx318_7 hx318_8 hx318_9 hHeld ⊢
        refine pure_ (i:=0) (N:=some 17) (v:=?_) (a':=?_) #[true,false,false,false,false,false,false,false,false,false] rfl rfl (any_of HT_.out (by kernel_rfl)) (fun _ _ _ h=>h) (Or.inl ⟨by rfl,?_⟩) ?_ ?_
        rotate_left
        ·intro w'
         go_simp
         with_reducible rfl
        rotate_left
        ·simp only [Act.put,List.setIfInBounds_toArray,List.set_cons_zero,List.set_cons_succ,i64_w,i32_w]
         rfl
        refine pure_ (i:=1) (N:=some 18) (v:=?_) (a':=?_) #[true,true,false,false,false,false,false,false,false,false] rfl rfl (any_of HT_.out (by kernel_rfl)) (fun _ _ _ h=>h) (Or.inl ⟨by rfl,?_⟩) ?_ ?_
        rotate_left
        ·intro w'
         go_simp
         with_reducible rfl
        rotate_left
        ·simp only [Act.put,List.setIfInBounds_toArray,List.set_cons_zero,List.set_cons_succ,i64_w,i32_w]
         rfl
        refine pure_ (i:=2) (N:=some 19) (v:=?_) (a':=?_) #[true,true,true,false,false,false,false,false,false,false] rfl rfl (any_of HT_.out (by kernel_rfl)) (fun _ _ _ h=>h) (Or.inl ⟨by rfl,?_⟩) ?_ ?_
        rotate_left
        ·intro w'
         go_simp
         with_reducible rfl
        rotate_left
        ·simp only [Act.put,List.setIfInBounds_toArray,List.set_cons_zero,List.set_cons_succ,i64_w,i32_w]
         rfl
        refine pure_ (i:=4) (N:=some 21) (v:=?_) (a':=?_) #[true,true,true,false,true,false,false,false,false,false] rfl rfl (any_of HT_.out (by kernel_rfl)) (fun _ _ _ h=>h) (Or.inl ⟨by rfl,?_⟩) ?_ ?_
        rotate_left
        ·intro w'
         go_simp
         with_reducible rfl
        rotate_left
        ·simp only [Act.put,List.setIfInBounds_toArray,List.set_cons_zero,List.set_cons_succ,i64_w,i32_w]
         rfl
        refine pure_ (i:=5) (N:=some 22) (v:=?_) (a':=?_) #[true,true,true,false,true,true,false,false,false,false] rfl rfl (any_of HT_.out (by kernel_rfl)) (fun _ _ _ h=>h) (Or.inl ⟨by rfl,?_⟩) ?_ ?_
        rotate_left
        ·intro w'
         go_simp
         with_reducible rfl
        rotate_left
        ·simp only [Act.put,List.setIfInBounds_toArray,List.set_cons_zero,List.set_cons_succ,i64_w,i32_w]
         rfl
        refine pure_ (i:=6) (N:=some 23) (v:=?_) (a':=?_) #[true,true,true,false,true,true,true,false,false,false] rfl rfl (any_of HT_.out (by kernel_rfl)) (fun _ _ _ h=>h) (Or.inl ⟨by rfl,?_⟩) ?_ ?_
        rotate_left
        ·intro w'
         go_simp
         with_reducible rfl
        rotate_left
        ·simp only [Act.put,List.setIfInBounds_toArray,List.set_cons_zero,List.set_cons_succ,i64_w,i32_w]
         rfl
        refine take_ (i:=3) (N:=some 20) (v:=?_) (a':=?_) #[true,true,true,true,true,true,true,false,false,false] rfl rfl (take_ofW HT_.out HW_.out (by kernel_rfl)) (fun _ _ _ h=>h) (Or.inl ⟨by rfl,?_⟩) hHeld ?_ ?_
        rotate_left
        ·rintro w' ⟨s0,s1,s2,s3,s4,s5,s6,s7,s8,s9,s10,s11,s12,s13,s14,s15,s16,s17,s18,s19⟩
         go_simp
         with_reducible rfl
        rotate_left
        ·simp only [Act.put,List.setIfInBounds_toArray,List.set_cons_zero,List.set_cons_succ,i64_w,i32_w]
         rfl
        refine take_ (i:=7) (N:=some 24) (v:=?_) (a':=?_) #[true,true,true,true,true,true,true,true,false,false] rfl rfl (take_ofW HT_.out HW_.out (by kernel_rfl)) (fun _ _ _ h=>h) (Or.inl ⟨by rfl,?_⟩) hHeld ?_ ?_
        rotate_left
        ·rintro w' ⟨s0,s1,s2,s3,s4,s5,s6,s7,s8,s9,s10,s11,s12,s13,s14,s15,s16,s17,s18,s19⟩
         go_simp
         with_reducible rfl
        rotate_left
        ·simp only [Act.put,List.setIfInBounds_toArray,List.set_cons_zero,List.set_cons_succ,i64_w,i32_w]
         rfl
        refine one_ (i:=8) (N:=some 25) #[true,true,true,true,true,true,true,true,true,false] rfl rfl (one_of HT_.out (by kernel_rfl)) (by decide) (fun K hK=>?_)
        refine goes_ Tryd.func42 (by kernel_rfl) rfl #[.agg #[.int .i64 ((rd_T38 l0 x5_1).f0),.bool ((rd_T38 l0 x5_1).f1),.int .i64 ((rd_T38 l0 x5_1).f2),.slice A317_3 ((rd_T38 l0 x5_1).f3).length c317_3,.slice A317_4 ((rd_T38 l0 x5_1).f4).length c317_4,.slice A317_5 ((rd_T38 l0 x5_1).f5).length c317_5,.int .i64 ((rd_T38 l0 x5_1).f6),.string ((rd_T38 l0 x5_1).f7),.slice A317_8 ((rd_T38 l0 x5_1).f8).length c317_8,.slice A317_9 ((rd_T38 l0 x5_1).f9).length c317_9],.agg #[.int .i64 ((rd_T38 l1 x5_1).f0),.bool ((rd_T38 l1 x5_1).f1),.int .i64 ((rd_T38 l1 x5_1).f2),.slice A318_3 ((rd_T38 l1 x5_1).f3).length c318_3,.slice A318_4 ((rd_T38 l1 x5_1).f4).length c318_4,.slice A318_5 ((rd_T38 l1 x5_1).f5).length c318_5,.int .i64 ((rd_T38 l1 x5_1).f6),.string ((rd_T38 l1 x5_1).f7),.slice A318_8 ((rd_T38 l1 x5_1).f8).length c318_8,.slice A318_9 ((rd_T38 l1 x5_1).f9).length c318_9]] (by rfl) rfl rfl (by (try simp only [List.map_toArray,List.map_cons,List.map_nil]);first|done|rfl|(simp only [List.length_drop,List.length_take];rfl)) ?_
        with_reducible refine (laws_eqProto.calls k1 ((rd_T38 l0 x5_1).f0) ((rd_T38 l0 x5_1).f1) ((rd_T38 l0 x5_1).f2) _ _ ((rd_T38 l0 x5_1).f3) _ _ ((rd_T38 l0 x5_1).f4) _ _ ((rd_T38 l0 x5_1).f5) ((rd_T38 l0 x5_1).f6) ((rd_T38 l0 x5_1).f7) _ _ ((rd_T38 l0 x5_1).f8) _ _ ((rd_T38 l0 x5_1).f9) ((rd_T38 l1 x5_1).f0) ((rd_T38 l1 x5_1).f1) ((rd_T38 l1 x5_1).f2) _ _ ((rd_T38 l1 x5_1).f3) _ _ ((rd_T38 l1 x5_1).f4) _ _ ((rd_T38 l1 x5_1).f5) ((rd_T38 l1 x5_1).f6) ((rd_T38 l1 x5_1).f7) _ _ ((rd_T38 l1 x5_1).f8) _ _ ((rd_T38 l1 x5_1).f9) true _ ?side1 ?side2 ?side3 ?side4 ?side5 ?side6 ?side7 ?side8 ?side9 ?side10 ?side11 ?side12 ?side13 ?side14 ?side15 ?side16 ?side17 ?side18 ?side19 ?side20 A7.out rfl).mono ?_
        (case side1=>repeat (first|exact (Kd.C_below HR317_3.out HB.out)|(with_reducible refine Kd.C_alloc ?_ _)|(with_reducible refine Kd.C_drewN ?_ _)|(with_reducible refine Kd.C_drew ?_)))
        (case side2=>exact HC317_3.out)
        (case side3=>repeat (first|exact (Kd.C_below HR317_4.out HB.out)|(with_reducible refine Kd.C_alloc ?_ _)|(with_reducible refine Kd.C_drewN ?_ _)|(with_reducible refine Kd.C_drew ?_)))
        (case side4=>exact HC317_4.out)
        (case side5=>repeat (first|exact (Kd.C_below HR317_5.out HB.out)|(with_reducible refine Kd.C_alloc ?_ _)|(with_reducible refine Kd.C_drewN ?_ _)|(with_reducible refine Kd.C_drew ?_)))
        (case side6=>exact HC317_5.out)
        (case side7=>repeat (first|exact (Kd.C_below HR317_8.out HB.out)|(with_reducible refine Kd.C_alloc ?_ _)|(with_reducible refine Kd.C_drewN ?_ _)|(with_reducible refine Kd.C_drew ?_)))
        (case side8=>exact HC317_8.out)
        (case side9=>repeat (first|exact (Kd.C_below HR317_9.out HB.out)|(with_reducible refine Kd.C_alloc ?_ _)|(with_reducible refine Kd.C_drewN ?_ _)|(with_reducible refine Kd.C_drew ?_)))
        (case side10=>exact HC317_9.out)
        (case side11=>repeat (first|exact (Kd.C_below HR318_3.out HB.out)|(with_reducible refine Kd.C_alloc ?_ _)|(with_reducible refine Kd.C_drewN ?_ _)|(with_reducible refine Kd.C_drew ?_)))
        (case side12=>exact HC318_3.out)
        (case side13=>repeat (first|exact (Kd.C_below HR318_4.out HB.out)|(with_reducible refine Kd.C_alloc ?_ _)|(with_reducible refine Kd.C_drewN ?_ _)|(with_reducible refine Kd.C_drew ?_)))
        (case side14=>exact HC318_4.out)
        (case side15=>repeat (first|exact (Kd.C_below HR318_5.out HB.out)|(with_reducible refine Kd.C_alloc ?_ _)|(with_reducible refine Kd.C_drewN ?_ _)|(with_reducible refine Kd.C_drew ?_)))
        (case side16=>exact HC318_5.out)
        (case side17=>repeat (first|exact (Kd.C_below HR318_8.out HB.out)|(with_reducible refine Kd.C_alloc ?_ _)|(with_reducible refine Kd.C_drewN ?_ _)|(with_reducible refine Kd.C_drew ?_)))
        (case side18=>exact HC318_8.out)
        (case side19=>repeat (first|exact (Kd.C_below HR318_9.out HB.out)|(with_reducible refine Kd.C_alloc ?_ _)|(with_reducible refine Kd.C_drewN ?_ _)|(with_reducible refine Kd.C_drew ?_)))
        (case side20=>exact HC318_9.out)
        rintro e w10 ⟨rfl,hb⟩
        refine ⟨_,rfl,?_⟩
        have n0_:=Ak (below_step (by repeat (first|(with_reducible first|exact HB.out|apply below_alloc|apply pw_below_drewN|apply below_drew1)|exact HB.out)) hb)
        clear HB;have HB:=n0_;clear n0_
        (try clear hb)
        (try clear hb2)
        (try clear hk)
        (try clear hi)
        refine hK.out _ _ ⟨((HB.out.cell (World.block_lt_of_cell? w _ hw317_0)).trans hw317_0),((HB.out.cell (World.block_lt_of_cell? w _ hw317_1)).trans hw317_1),((HB.out.cell (World.block_lt_of_cell? w _ hw317_2)).trans hw317_2),((HB.out.cell (World.block_lt_of_cell? w _ hw317_3)).trans hw317_3),((HB.out.cell (World.block_lt_of_cell? w _ hw317_4)).trans hw317_4),((HB.out.cell (World.block_lt_of_cell? w _ hw317_5)).trans hw317_5),((HB.out.cell (World.block_lt_of_cell? w _ hw317_6)).trans hw317_6),((HB.out.cell (World.block_lt_of_cell? w _ hw317_7)).trans hw317_7),((HB.out.cell (World.block_lt_of_cell? w _ hw317_8)).trans hw317_8),((HB.out.cell (World.block_lt_of_cell? w _ hw317_9)).trans hw317_9),((HB.out.cell (World.block_lt_of_cell? w _ hw318_0)).trans hw318_0),((HB.out.cell (World.block_lt_of_cell? w _ hw318_1)).trans hw318_1),((HB.out.cell (World.block_lt_of_cell? w _ hw318_2)).trans hw318_2),((HB.out.cell (World.block_lt_of_cell? w _ hw318_3)).trans hw318_3),((HB.out.cell (World.block_lt_of_cell? w _ hw318_4)).trans hw318_4),((HB.out.cell (World.block_lt_of_cell? w _ hw318_5)).trans hw318_5),((HB.out.cell (World.block_lt_of_cell? w _ hw318_6)).trans hw318_6),((HB.out.cell (World.block_lt_of_cell? w _ hw318_7)).trans hw318_7),((HB.out.cell (World.block_lt_of_cell? w _ hw318_8)).trans hw318_8),((HB.out.cell (World.block_lt_of_cell? w _ hw318_9)).trans hw318_9)⟩ (fun hHeld=>?_)
        clear hK K
        refine norm_ (a':=?_) ?_ ?_
        rotate_left
        ·show Act.put _ (some 25) _=_
         simp only [Act.put,List.setIfInBounds_toArray,List.set_cons_zero,List.set_cons_succ,i64_w,i32_w]
         rfl
        refine pure_ (i:=9) (N:=some 26) (v:=?_) (a':=?_) #[true,true,true,true,true,true,true,true,true,true] rfl rfl (any_of HT_.out (by kernel_rfl)) (fun _ _ _ h=>h) (Or.inl ⟨by rfl,?_⟩) ?_ ?_
        rotate_left
        ·intro w'
         go_simp
         with_reducible rfl
        rotate_left
        ·simp only [Act.put,List.setIfInBounds_toArray,List.set_cons_zero,List.set_cons_succ,i64_w,i32_w]
         rfl
        refine done_ (done_of HT_.out (by kernel_rfl)) ?_
        try go_wp2
        go_roundg k1
        case measure=>have:=HK1.out;omega
        case rel=>exact ⟨(wrap64 (x5_1+1)),(by first|rfl|(simp;done)|(simp [*];done)),H',⟨by have:=HK1.out;omega⟩,⟨by repeat (first|(with_reducible first|exact HB.out|apply below_alloc|apply pw_below_drewN|apply below_drew1)|exact HB.out)⟩⟩
       ·replace c8:=Bool.eq_false_iff.mpr c8
        subst c8
        have H1:(some false)=some r:=by rw [if_neg (show ¬ (false=true) by decide)] at H;exact H
        clear H;have H:=H1;clear H1
        exact absurd (Option.some.inj H) (by rw [HP_.out];decide)
      ·rw [if_neg c6] at H
       exact absurd H (by simp)
     ·rw [if_neg c5] at H
      exact absurd H (by simp)
    ·rw [if_neg c4] at H
     have c4b0:decide (x5_1<(l0.length:Int))=false:=decide_eq_false c4
     clear c4
     obtain rfl:=Option.some.inj H
     go_wp2
     go_ret
     exact ⟨by first|rfl|(simp [errW_none,errW_some] <;> rfl)|(simp [*,errW_none,errW_some] <;> rfl),by repeat (first|(with_reducible first|exact HB.out|apply below_alloc|apply pw_below_drewN|apply below_drew1)|exact HB.out)⟩
 ·rw [if_neg c3] at H
  have c3b0:((l0.length:Int) == (l1.length:Int))=false:=beq_eq_false_iff_ne.mpr c3
  have c3b1:((l0.length:Int) != (l1.length:Int))=true:=bne_iff_ne.mpr c3
  have c3b2:(l0.length == l1.length)=false:=by first|simpa using c3|(simp at c3 ⊢;omega)
  exact absurd (Option.some.inj H) (by rw [HP_.out];decide)
end Go.Proofs.YtiekodnojmkfaaaDoor.PFnExactLoad
