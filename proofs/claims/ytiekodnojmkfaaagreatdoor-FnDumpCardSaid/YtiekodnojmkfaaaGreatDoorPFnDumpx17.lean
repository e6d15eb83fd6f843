import Derived.Test.YtiekodnojmkfaaaGreatDoorPFnDumpx0
import Derived.Test.YtiekodnojmkfaaaGreatDoorPFnDumpx15
import Derived.Test.YtiekodnojmkfaaaGreatDoorPFnDumpx16
namespace Go.Proofs.YtiekodnojmkfaaaGreatDoor.yD
set_option maxHeartbeats 8000000
set_option maxRecDepth 100000
open Go.RowKit Go.Proofs.YtiekodnojmkfaaaGreatDoorW.zF Go.Proofs.YtiekodnojmkfaaaGreatDoorW.yC Go.Proofs.YtiekodnojmkfaaaGreatDoorW.yY
attribute [local go_sem] xM xO qG qH yZ xg xP xQ
set_option linter.unusedVariables false
set_option linter.unusedSimpArgs false
mutual
def zD.j0:Nat→Int→Bool→List (S56)→Option (Bool)
 | 0,_,_,_=>none
 | k+1,x3,x20,pa=>if x20=true then (some false) else (zD.l0 k x3 0 pa)
def zD.l0:Nat→Int→Int→List (S56)→Option (Bool)
 | 0,_,_,_=>none
 | k+1,x3,x4,pa=>if x4<x3 then (if 0≤x4 then (if x4<(pa.length:Int) then ((zq.f k ((zu pa x4).f0) ((zu pa x4).f1) ((zu pa x4).f2) ((zu pa x4).f3) ((zu pa x4).f4) ((zu pa x4).f5) ((zu pa x4).f6) ((zu pa x4).f7) ((zu pa x4).f8) ((zu pa x4).f9)).bind fun t216=>(if t216=true then (zD.l0 k x3 (wrap64 (x4+1)) pa) else (some false))) else (none)) else (none)) else (some true)
end
def zD.f (k:Nat) (zV:List (S56)):Option (Bool):=if (zV.length:Int)<1 then (zD.j0 k (zV.length:Int) true zV) else (if (zV.length:Int) > 200 then (zD.j0 k (zV.length:Int) true zV) else ((zL.f k zV 0 0).bind fun t214=>(zD.j0 k (zV.length:Int) (t214 != (zV.length:Int)) zV)))
theorem zD.calls (k:Nat) (ZX:Option Addr) (ZA:Nat) (zV:List (S56)) (r:Bool) (w:World) (Jg:Kd.C k56 w ZX zV.length zV) (Jy:zV.length≤ZA) (h:zD.f k zV=some r) :
  Calls Tryz.prog 7 #[.agg #[.slice ZX zV.length ZA]] w fun e w'=>e=.returned (.bool r)∧Below w.heap.size w w':=by
 have hu25:=Tryz.underlying25
 have hu56:=Tryz.underlying56
 have HR0_0:=Ak Jg;have HC0_0:=Ak Jy;clear Jg Jy
 have HB:=Ak (Below.refl w.heap.size w)
 have H:(if (zV.length:Int)<1 then (zD.j0 k (zV.length:Int) true zV) else (if (zV.length:Int) > 200 then (zD.j0 k (zV.length:Int) true zV) else ((zL.f k zV 0 0).bind fun t214=>(zD.j0 k (zV.length:Int) (t214 != (zV.length:Int)) zV))))=some r:=h
 clear h;have HC2:=Ak H;clear H
 go_enter Tryz.func7,Tryz.ntmps7
 go_upto_region 2 with (first|((with_reducible refine zB (N:=1) rfl ?_);refine zK ?hg (N:=1) ?hd (cs:=#[.slice ZX zV.length ZA]) (t:=25) ?hr ?_;(case hd=>rfl);(case hg=>rfl);(case hr=>first|(go_simp;done)|(go_simp;rfl));intro gb213 hg w3 hbox hb;have Qv:=Ak (hbox);have GW213:=gs HB hg;have GE213:=gs HB hg;replace HB:=BS HB hb;clear hb hbox hg;obtain ⟨hcz4_0,hfz4_0⟩:=bk1 Qv.out))
 (try simp only [Act.put,List.setIfInBounds_toArray,List.set_cons_zero,List.set_cons_succ])
 go_cut [20] (fun v20 wc=>∃ (kq:Nat) (x20_1:Bool),v20=.bool x20_1∧zh (zD.j0 kq (zV.length:Int) x20_1 zV=some r)∧zh (kq≤k)∧zh (wc.heap[gb213]?=some (.cells #[(.slice ZX zV.length ZA)] 25 (0,0)))∧zh (Below w.heap.size w wc))
 case first =>
  have H:=HC2.out
  clear HC2
  by_cases c5:(zV.length:Int)<1
  ·rw [if_pos c5] at H
   have Qk:=dt c5
   have c5b1:=dT (zV.length<1)
   clear c5
   (first|rw [Qk]|(simp only [xJ,xU];rw [Qk])|skip)
   have H':=Ak H
   clear H
   go_wp2
   go_meet
   case rel=>exact ⟨_,(true),es,H',⟨eo⟩,⟨bo Qv⟩,⟨bl HB⟩⟩
  ·rw [if_neg c5] at H
   have Qk:=df c5
   have c5b1:=dF (zV.length<1)
   clear c5
   (first|rw [Qk]|(simp only [xJ,xU];rw [Qk])|skip)
   by_cases c6:(zV.length:Int) > 200
   ·rw [if_pos c6] at H
    have c6b0:=tg c6
    have c6b1:=dT (200<zV.length)
    clear c6
    have H':=Ak H
    clear H
    go_wp2
    go_meet
    case rel=>exact ⟨_,(true),es,H',⟨eo⟩,⟨bo Qv⟩,⟨bl HB⟩⟩
   ·rw [if_neg c6] at H
    have c6b0:=fg c6
    have c6b1:=dF (200<zV.length)
    clear c6
    replace H:=Option.bind_eq_some_iff.mp H
    obtain ⟨t214,A70,H⟩:=H
    replace H:(zD.j0 k (zV.length:Int) (t214 != (zV.length:Int)) zV)=some r:=H
    have A7:=Ak A70;clear A70
    have H':=Ak H
    clear H
    obtain ⟨hcz8_0,hfz8_0⟩:=bk1 Qv.out
    go_wp2_with (first|(go_at_call 33;(with_reducible refine (zL.calls k _ _ zV 0 0 t214 _ ?yQ ?xG A7.out).mono ?_);(case yQ=>exact co HR0_0 HB);(case xG=>exact HC0_0.out);rintro e w' ⟨rfl,⟨nd,rfl⟩⟩))
    go_meet
    case rel=>exact ⟨_,((t214 != (zV.length:Int))),es,H',⟨eo⟩,⟨bo Qv⟩,⟨bl HB⟩⟩
 case rest =>
  clear HC2
  obtain ⟨kq,x20_1,rfl,HA,HJ1,Qv,HB⟩:=hcut
  cases kq with
  | zero=>exact absurd HA.out (by simp [zD.j0])
  | succ kj1 =>
   have H:=HA.out
   clear HA
   simp only [zD.j0] at H
   by_cases c9:x20_1=true
   ·subst c9
    have H1:(some false)=some r:=by rw [if_pos rfl] at H;exact H
    clear H;have H:=H1;clear H1
    obtain rfl:=Option.some.inj H
    go_wp2
    go_ret
    exact ⟨ef,bl HB⟩
   ·replace c9:=Bool.eq_false_iff.mpr c9
    subst c9
    have H1:(zD.l0 kj1 (zV.length:Int) 0 zV)=some r:=by rw [if_neg (show ¬ (false=true) by decide)] at H;exact H
    clear H;have H:=H1;clear H1
    have H':=Ak H
    clear H
    go_wp2
    go_loopg [4] kj1 (fun kq v4 w'=>∃ (Zg:Int),v4=.int .i64 Zg∧zh (zD.l0 kq (zV.length:Int) Zg zV=some r)∧zh (kq≤kj1)∧zh (w'.heap[gb213]?=some (.cells #[(.slice ZX zV.length ZA)] 25 (0,0)))∧zh (Below w.heap.size w w'))
    case atStart=>exact ⟨(0),es,H',⟨Nat.le_refl _⟩,⟨bo Qv⟩,⟨bl HB⟩⟩
    case round =>
     clear H'
     obtain ⟨Zg,rfl,HA,HK2,Qv,HB⟩:=hrel
     cases gk with
     | zero=>exact absurd HA.out (by simp [zD.l0])
     | succ k2 =>
      have H:=HA.out
      clear HA
      simp only [zD.l0] at H
      by_cases c10:Zg<(zV.length:Int)
      ·rw [if_pos c10] at H
       have JA:=dt c10
       clear c10
       by_cases c11:0≤Zg
       ·rw [if_pos c11] at H
        have c11b0:=dt c11
        clear c11
        by_cases c12:Zg<(zV.length:Int)
        ·rw [if_pos c12] at H
         have Je:=dt c12
         clear c12
         replace H:=Option.bind_eq_some_iff.mp H
         obtain ⟨t216,A130,H⟩:=H
         replace H:(if t216=true then (zD.l0 k2 (zV.length:Int) (wrap64 (Zg+1)) zV) else (some false))=some r:=H
         have A13:=Ak A130;clear A130
         by_cases c14:t216=true
         ·subst c14
          have H1:(zD.l0 k2 (zV.length:Int) (wrap64 (Zg+1)) zV)=some r:=by rw [if_pos rfl] at H;exact H
          clear H;have H:=H1;clear H1
          have H':=Ak H
          clear H
          obtain ⟨hcz15_0,hfz15_0⟩:=bk1 Qv.out
          have p215:0≤(Zg:Int):=od
          have q215:Zg<(zV.length:Int):=od
          obtain ⟨ad215,A215_3,c215_3,A215_4,c215_4,A215_5,c215_5,A215_8,c215_8,A215_9,c215_9,e215,KL,KN,KP,KQ,KR,KT,KU,KW,KX,KY,KZ,Va,Vb,Vd,Ve,Vf,Vg,Vh,Vj,Vk⟩:=Z5 HR0_0.out Zg p215 q215
          cases e215
          replace KL:=cu HB KL
          replace KN:=cu HB KN
          replace KP:=cu HB KP
          replace KQ:=cu HB KQ
          replace KR:=cu HB KR
          replace KT:=cu HB KT
          replace KU:=cu HB KU
          replace KW:=cu HB KW
          replace KX:=cu HB KX
          replace KY:=cu HB KY
          have HR215_3:=Ak Va;have HC215_3:=Ak KZ;clear Va KZ;have HR215_4:=Ak Vd;have HC215_4:=Ak Vb;clear Vd Vb;have HR215_5:=Ak Vf;have HC215_5:=Ak Ve;clear Vf Ve;have HR215_8:=Ak Vh;have HC215_8:=Ak Vg;clear Vh Vg;have HR215_9:=Ak Vk;have HC215_9:=Ak Vj;clear Vk Vj
          replace p215:=eq_true p215
          replace q215:=eq_true q215
          go_wp2_with (first|((with_reducible refine yP (f:=34) rfl ?_);refine jU (some 31) rfl rfl Tryz.func34 (by kernel_rfl) rfl #[.agg #[.int .i64 ((zu zV Zg).f0),.bool ((zu zV Zg).f1),.int .i64 ((zu zV Zg).f2),.slice A215_3 ((zu zV Zg).f3).length c215_3,.slice A215_4 ((zu zV Zg).f4).length c215_4,.slice A215_5 ((zu zV Zg).f5).length c215_5,.int .i64 ((zu zV Zg).f6),.string ((zu zV Zg).f7),.slice A215_8 ((zu zV Zg).f8).length c215_8,.slice A215_9 ((zu zV Zg).f9).length c215_9]] rfl em ?_;(with_reducible refine (zq.calls k2 ((zu zV Zg).f0) ((zu zV Zg).f1) ((zu zV Zg).f2) _ _ ((zu zV Zg).f3) _ _ ((zu zV Zg).f4) _ _ ((zu zV Zg).f5) ((zu zV Zg).f6) ((zu zV Zg).f7) _ _ ((zu zV Zg).f8) _ _ ((zu zV Zg).f9) true _ ?yQ ?xG ?qW ?jw ?side5 ?side6 ?side7 ?side8 ?side9 ?Vl A13.out).mono ?_);(case yQ=>exact co HR215_3 HB);(case xG=>exact HC215_3.out);(case qW=>exact co HR215_4 HB);(case jw=>exact HC215_4.out);(case side5=>exact co HR215_5 HB);(case side6=>exact HC215_5.out);(case side7=>exact co HR215_8 HB);(case side8=>exact HC215_8.out);(case side9=>exact co HR215_9 HB);(case Vl=>exact HC215_9.out);rintro e w16 ⟨rfl,hb⟩;refine ⟨_,rfl,?_⟩;replace Qv:=BB Qv hb;replace HB:=BS HB hb))
          go_roundg k2
          case measure=>have:=HJ1.out;have:=HK2.out;omega
          case rel=>exact ⟨(wrap64 (Zg+1)),es,H',⟨by have:=HJ1.out;have:=HK2.out;omega⟩,⟨bo Qv⟩,⟨bl HB⟩⟩
         ·replace c14:=Bool.eq_false_iff.mpr c14
          subst c14
          have H1:(some false)=some r:=by rw [if_neg (show ¬ (false=true) by decide)] at H;exact H
          clear H;have H:=H1;clear H1
          obtain rfl:=Option.some.inj H
          obtain ⟨hcz17_0,hfz17_0⟩:=bk1 Qv.out
          have p215:0≤(Zg:Int):=od
          have q215:Zg<(zV.length:Int):=od
          obtain ⟨ad215,A215_3,c215_3,A215_4,c215_4,A215_5,c215_5,A215_8,c215_8,A215_9,c215_9,e215,KL,KN,KP,KQ,KR,KT,KU,KW,KX,KY,KZ,Va,Vb,Vd,Ve,Vf,Vg,Vh,Vj,Vk⟩:=Z5 HR0_0.out Zg p215 q215
          cases e215
          replace KL:=cu HB KL
          replace KN:=cu HB KN
          replace KP:=cu HB KP
          replace KQ:=cu HB KQ
          replace KR:=cu HB KR
          replace KT:=cu HB KT
          replace KU:=cu HB KU
          replace KW:=cu HB KW
          replace KX:=cu HB KX
          replace KY:=cu HB KY
          have HR215_3:=Ak Va;have HC215_3:=Ak KZ;clear Va KZ;have HR215_4:=Ak Vd;have HC215_4:=Ak Vb;clear Vd Vb;have HR215_5:=Ak Vf;have HC215_5:=Ak Ve;clear Vf Ve;have HR215_8:=Ak Vh;have HC215_8:=Ak Vg;clear Vh Vg;have HR215_9:=Ak Vk;have HC215_9:=Ak Vj;clear Vk Vj
          replace p215:=eq_true p215
          replace q215:=eq_true q215
          go_wp2_with (first|((with_reducible refine yP (f:=34) rfl ?_);refine jU (some 31) rfl rfl Tryz.func34 (by kernel_rfl) rfl #[.agg #[.int .i64 ((zu zV Zg).f0),.bool ((zu zV Zg).f1),.int .i64 ((zu zV Zg).f2),.slice A215_3 ((zu zV Zg).f3).length c215_3,.slice A215_4 ((zu zV Zg).f4).length c215_4,.slice A215_5 ((zu zV Zg).f5).length c215_5,.int .i64 ((zu zV Zg).f6),.string ((zu zV Zg).f7),.slice A215_8 ((zu zV Zg).f8).length c215_8,.slice A215_9 ((zu zV Zg).f9).length c215_9]] rfl em ?_;(with_reducible refine (zq.calls k2 ((zu zV Zg).f0) ((zu zV Zg).f1) ((zu zV Zg).f2) _ _ ((zu zV Zg).f3) _ _ ((zu zV Zg).f4) _ _ ((zu zV Zg).f5) ((zu zV Zg).f6) ((zu zV Zg).f7) _ _ ((zu zV Zg).f8) _ _ ((zu zV Zg).f9) false _ ?yQ ?xG ?qW ?jw ?side5 ?side6 ?side7 ?side8 ?side9 ?Vl A13.out).mono ?_);(case yQ=>exact co HR215_3 HB);(case xG=>exact HC215_3.out);(case qW=>exact co HR215_4 HB);(case jw=>exact HC215_4.out);(case side5=>exact co HR215_5 HB);(case side6=>exact HC215_5.out);(case side7=>exact co HR215_8 HB);(case side8=>exact HC215_8.out);(case side9=>exact co HR215_9 HB);(case Vl=>exact HC215_9.out);rintro e w18 ⟨rfl,hb⟩;refine ⟨_,rfl,?_⟩;replace Qv:=BB Qv hb;replace HB:=BS HB hb))
          go_ret
          exact ⟨ef,bl HB⟩
        ·rw [if_neg c12] at H
         exact absurd H (by simp)
       ·rw [if_neg c11] at H
        exact absurd H (by simp)
      ·rw [if_neg c10] at H
       have JA:=df c10
       clear c10
       obtain rfl:=Option.some.inj H
       go_wp2
       go_ret
       exact ⟨ef,bl HB⟩
def stringslite_HasPrefix.f (a0:ByteArray) (a1:ByteArray):Option (Bool):=if (a0.size:Int) ≥ (a1.size:Int) then (if 0≤(a1.size:Int) then (if (a1.size:Int)≤(a0.size:Int) then (some ((a0.extract 0 ((a1.size:Int):Int).toNat).toList == a1.toList)) else (none)) else (none)) else (some false)
theorem stringslite_HasPrefix.calls (a0:ByteArray) (a1:ByteArray) (r:Bool) (w:World) (h:stringslite_HasPrefix.f a0 a1=some r) :
  Calls Tryz.prog 70 #[.string a0,.string a1] w fun e w'=>e=.returned (.bool r)∧xX w w':=by
 have H:(if (a0.size:Int) ≥ (a1.size:Int) then (if 0≤(a1.size:Int) then (if (a1.size:Int)≤(a0.size:Int) then (some ((a0.extract 0 ((a1.size:Int):Int).toNat).toList == a1.toList)) else (none)) else (none)) else (some false))=some r:=h
 clear h
 by_cases c3:(a0.size:Int) ≥ (a1.size:Int)
 ·rw [if_pos c3] at H
  have JZ:=tG c3
  have c3b1:decide (a1.size≤a0.size)=true:=dt (Int.ofNat_le.mp c3)
  clear c3
  by_cases c4:0≤(a1.size:Int)
  ·rw [if_pos c4] at H
   have ZG:=eq_true c4
   have c4b1:=dt c4
   clear c4
   by_cases c5:(a1.size:Int)≤(a0.size:Int)
   ·rw [if_pos c5] at H
    have Qk:=eq_true c5
    have c5b1:=dt c5
    clear c5
    obtain rfl:=Option.some.inj H
    go_enter Tryz.func70,Tryz.ntmps70
    go_wp2
    go_ret
    exact ⟨by first|rfl|(simp;done)|(simp [*];done),dz⟩
   ·rw [if_neg c5] at H
    exact absurd H (by simp)
  ·rw [if_neg c4] at H
   exact absurd H (by simp)
 ·rw [if_neg c3] at H
  have JZ:=fG c3
  have c3b1:decide (a1.size≤a0.size)=false:=df (fun h=>c3 (Int.ofNat_le.mpr h))
  clear c3
  obtain rfl:=Option.some.inj H
  go_enter Tryz.func70,Tryz.ntmps70
  go_wp2
  go_ret
  exact ⟨by first|rfl|(simp;done)|(simp [*];done),dz⟩
def strings_HasPrefix.f (a0:ByteArray) (a1:ByteArray):Option (Bool):=(stringslite_HasPrefix.f a0 a1).bind fun t217=>(some t217)
theorem strings_HasPrefix.calls (a0:ByteArray) (a1:ByteArray) (r:Bool) (w:World) (h:strings_HasPrefix.f a0 a1=some r) :
  Calls Tryz.prog 38 #[.string a0,.string a1] w fun e w'=>e=.returned (.bool r)∧xX w w':=by
 have H:((stringslite_HasPrefix.f a0 a1).bind fun t217=>(some t217))=some r:=h
 clear h
 replace H:=Option.bind_eq_some_iff.mp H
 obtain ⟨t217,A30,H⟩:=H
 replace H:(some t217)=some r:=H
 have A3:=Ak A30;clear A30
 obtain rfl:=Option.some.inj H
 go_enter Tryz.func38,Tryz.ntmps38
 go_wp2_with (first|((with_reducible refine yP (f:=70) rfl ?_);refine jU (some 7) rfl rfl Tryz.func70 (by kernel_rfl) rfl #[.string a0,.string a1] rfl em ?_;(with_reducible refine (stringslite_HasPrefix.calls a0 a1 t217 _ A3.out).mono ?_);rintro e w' ⟨rfl,⟨nd,rfl⟩⟩;refine ⟨_,rfl,?_⟩))
 go_ret
 exact ⟨by first|rfl|(simp;done)|(simp [*];done),dz⟩
mutual
def zA.j0:Nat→ByteArray→Int→Bool→Option (Int×Int×Bool)
 | 0,_,_,_=>none
 | k+1,x0,x1,x16=>if x16=true then (some (0,0,false)) else (zA.l0 k x0 x1 0 x1)
def zA.l0:Nat→ByteArray→Int→Int→Int→Option (Int×Int×Bool)
 | 0,_,_,_,_=>none
 | k+1,x0,x1,x7,x8=>if x8<(x0.size:Int) then (zA.j2 k x0 x1 x7 x8 (decide (x8<(wrap64 (x1+4))))) else (zA.j2 k x0 x1 x7 x8 false)
def zA.j2:Nat→ByteArray→Int→Int→Int→Bool→Option (Int×Int×Bool)
 | 0,_,_,_,_,_=>none
 | k+1,x0,x1,x7,x8,x27=>if x27=true then (if 0≤x8 then (if x8<(x0.size:Int) then (if 0≤(wrap64 (7*(wrap64 (x8-x1)))) then (if (bt x0 x8)<128 then (if (bt x0 x8)=0 then (if x8 > x1 then (some (0,0,false)) else (if (Go.bits .or .i64 x7 (shl .i64 (wrap64 (Go.bits .and .u8 (bt x0 x8) 127)) (wrap64 (7*(wrap64 (x8-x1)))))) > 16777215 then (some (0,0,false)) else (some (Go.bits .or .i64 x7 (shl .i64 (wrap64 (Go.bits .and .u8 (bt x0 x8) 127)) (wrap64 (7*(wrap64 (x8-x1))))),wrap64 (x8+1),true)))) else (if (Go.bits .or .i64 x7 (shl .i64 (wrap64 (Go.bits .and .u8 (bt x0 x8) 127)) (wrap64 (7*(wrap64 (x8-x1)))))) > 16777215 then (some (0,0,false)) else (some (Go.bits .or .i64 x7 (shl .i64 (wrap64 (Go.bits .and .u8 (bt x0 x8) 127)) (wrap64 (7*(wrap64 (x8-x1))))),wrap64 (x8+1),true)))) else (zA.l0 k x0 x1 (Go.bits .or .i64 x7 (shl .i64 (wrap64 (Go.bits .and .u8 (bt x0 x8) 127)) (wrap64 (7*(wrap64 (x8-x1)))))) (wrap64 (x8+1)))) else (none)) else (none)) else (none)) else (some (0,0,false))
end
def zA.f (k:Nat) (a0:ByteArray) (a1:Int):Option (Int×Int×Bool):=if a1<0 then (zA.j0 k a0 a1 true) else (zA.j0 k a0 a1 (decide (a1 > (a0.size:Int))))
theorem zA.calls (k:Nat) (a0:ByteArray) (a1:Int) (r1:Int) (r2:Int) (r3:Bool) (w:World) (h:zA.f k a0 a1=some (r1,r2,r3)) :
  Calls Tryz.prog 114 #[.string a0,.int .i64 a1] w fun e w'=>e=.returned (.tuple #[.int .i64 r1,.int .i64 r2,.bool r3])∧xX w w':=by
 have H:(if a1<0 then (zA.j0 k a0 a1 true) else (zA.j0 k a0 a1 (decide (a1 > (a0.size:Int)))))=some (r1,r2,r3):=h
 clear h;have HC3:=Ak H;clear H
 go_enter Tryz.func114,Tryz.ntmps114
 go_upto_region 1 with (fail)
 go_cut [16] (fun v16 wc=>∃ (kq:Nat) (x16_2:Bool),v16=.bool x16_2∧zh (zA.j0 kq a0 a1 x16_2=some (r1,r2,r3))∧zh (kq≤k)∧xX w wc)
 case first =>
  have H:=HC3.out
  clear HC3
  by_cases c4:a1<0
  ·rw [if_pos c4] at H
   have ZG:=dt c4
   clear c4
   (first|rw [ZG]|(simp only [xJ,xU];rw [ZG])|skip)
   have H':=Ak H
   clear H
   go_wp2
   go_meet
   case rel=>exact ⟨_,(true),es,H',⟨eo⟩,dz⟩
  ·rw [if_neg c4] at H
   have ZG:=df c4
   clear c4
   (first|rw [ZG]|(simp only [xJ,xU];rw [ZG])|skip)
   have H':=Ak H
   clear H
   go_wp2
   go_meet
   case rel=>exact ⟨_,(decide (a1 > (a0.size:Int))),es,H',⟨eo⟩,dz⟩
 case rest =>
  clear HC3
  obtain ⟨kq,x16_2,rfl,HA,HJ2,⟨mc2,rfl⟩⟩:=hcut
  cases kq with
  | zero=>exact absurd HA.out (by simp [zA.j0])
  | succ kj2 =>
   have H:=HA.out
   clear HA
   simp only [zA.j0] at H
   by_cases c5:x16_2=true
   ·subst c5
    have H1:(some (0,0,false))=some (r1,r2,r3):=by rw [if_pos rfl] at H;exact H
    clear H;have H:=H1;clear H1
    simp only [Option.some.injEq,Prod.mk.injEq] at H
    obtain ⟨rfl,rfl,rfl⟩:=H
    go_wp2
    go_ret3
    exact ⟨by first|rfl|(simp;done)|(simp [*];done),dz⟩
   ·replace c5:=Bool.eq_false_iff.mpr c5
    subst c5
    have H1:(zA.l0 kj2 a0 a1 0 a1)=some (r1,r2,r3):=by rw [if_neg (show ¬ (false=true) by decide)] at H;exact H
    clear H;have H:=H1;clear H1
    have H':=Ak H
    clear H
    go_wp2
    go_loopg [7,8] kj2 (fun kq v7 v8 w'=>∃ (kU:Int) (qF:Int),v7=.int .i64 kU∧v8=.int .i64 qF∧zh (zA.l0 kq a0 a1 kU qF=some (r1,r2,r3))∧zh (kq≤kj2)∧xX w w')
    case atStart=>exact ⟨(0),(a1),es,es,H',⟨Nat.le_refl _⟩,dz⟩
    case round =>
     clear H'
     obtain ⟨kU,qF,rfl,rfl,HA,HK2,⟨m2,rfl⟩⟩:=hrel
     cases gk with
     | zero=>exact absurd HA.out (by simp [zA.l0])
     | succ k2 =>
      have H:=HA.out
      clear HA
      simp only [zA.l0] at H
      have HC6:=Ak H;clear H
      go_upto_region 5 with (fail)
      go_cut [27] (fun v27 wc=>∃ (kq:Nat) (x27_5:Bool),v27=.bool x27_5∧zh (zA.j2 kq a0 a1 kU qF x27_5=some (r1,r2,r3))∧zh (kq≤k2)∧xX w wc)
      case first =>
       have H:=HC6.out
       clear HC6
       by_cases c7:qF<(a0.size:Int)
       ·rw [if_pos c7] at H
        have QI:=dt c7
        clear c7
        (first|rw [QI]|(simp only [xJ,xU];rw [QI])|skip)
        have H':=Ak H
        clear H
        go_wp2
        go_meet
        case rel=>exact ⟨_,(decide (qF<(wrap64 (a1+4)))),es,H',⟨by have:=HJ2.out;have:=HK2.out;first|omega|exact Nat.le_refl _⟩,dz⟩
       ·rw [if_neg c7] at H
        have QI:=df c7
        clear c7
        (first|rw [QI]|(simp only [xJ,xU];rw [QI])|skip)
        have H':=Ak H
        clear H
        go_wp2
        go_meet
        case rel=>exact ⟨_,(false),es,H',⟨by have:=HJ2.out;have:=HK2.out;first|omega|exact Nat.le_refl _⟩,dz⟩
      case rest =>
       clear HC6
       obtain ⟨kq,x27_5,rfl,HA,HJ5,⟨mc5,rfl⟩⟩:=hcut
       cases kq with
       | zero=>exact absurd HA.out (by simp [zA.j2])
       | succ kj5 =>
        have H:=HA.out
        clear HA
        simp only [zA.j2] at H
        by_cases c8:x27_5=true
        ·subst c8
         have H1:(if 0≤qF then (if qF<(a0.size:Int) then (if 0≤(wrap64 (7*(wrap64 (qF-a1)))) then (if (bt a0 qF)<128 then (if (bt a0 qF)=0 then (if qF > a1 then (some (0,0,false)) else (if (Go.bits .or .i64 kU (shl .i64 (wrap64 (Go.bits .and .u8 (bt a0 qF) 127)) (wrap64 (7*(wrap64 (qF-a1)))))) > 16777215 then (some (0,0,false)) else (some (Go.bits .or .i64 kU (shl .i64 (wrap64 (Go.bits .and .u8 (bt a0 qF) 127)) (wrap64 (7*(wrap64 (qF-a1))))),wrap64 (qF+1),true)))) else (if (Go.bits .or .i64 kU (shl .i64 (wrap64 (Go.bits .and .u8 (bt a0 qF) 127)) (wrap64 (7*(wrap64 (qF-a1)))))) > 16777215 then (some (0,0,false)) else (some (Go.bits .or .i64 kU (shl .i64 (wrap64 (Go.bits .and .u8 (bt a0 qF) 127)) (wrap64 (7*(wrap64 (qF-a1))))),wrap64 (qF+1),true)))) else (zA.l0 kj5 a0 a1 (Go.bits .or .i64 kU (shl .i64 (wrap64 (Go.bits .and .u8 (bt a0 qF) 127)) (wrap64 (7*(wrap64 (qF-a1)))))) (wrap64 (qF+1)))) else (none)) else (none)) else (none))=some (r1,r2,r3):=by rw [if_pos rfl] at H;exact H
         clear H;have H:=H1;clear H1
         by_cases c9:0≤qF
         ·rw [if_pos c9] at H
          have c9b0:=dt c9
          clear c9
          by_cases c10:qF<(a0.size:Int)
          ·rw [if_pos c10] at H
           have JA:=dt c10
           clear c10
           obtain ⟨Jh,JB⟩:∃ j_:Int,(wrap64 (7*(wrap64 (qF-a1))))=j_:=⟨_,rfl⟩
           replace H:(if 0≤(Jh) then (if (bt a0 qF)<128 then (if (bt a0 qF)=0 then (if qF > a1 then (some (0,0,false)) else (if (Go.bits .or .i64 kU (shl .i64 (wrap64 (Go.bits .and .u8 (bt a0 qF) 127)) (Jh))) > 16777215 then (some (0,0,false)) else (some (Go.bits .or .i64 kU (shl .i64 (wrap64 (Go.bits .and .u8 (bt a0 qF) 127)) (Jh)),wrap64 (qF+1),true)))) else (if (Go.bits .or .i64 kU (shl .i64 (wrap64 (Go.bits .and .u8 (bt a0 qF) 127)) (Jh))) > 16777215 then (some (0,0,false)) else (some (Go.bits .or .i64 kU (shl .i64 (wrap64 (Go.bits .and .u8 (bt a0 qF) 127)) (Jh)),wrap64 (qF+1),true)))) else (zA.l0 kj5 a0 a1 (Go.bits .or .i64 kU (shl .i64 (wrap64 (Go.bits .and .u8 (bt a0 qF) 127)) (Jh))) (wrap64 (qF+1)))) else (none))=some (r1,r2,r3):=by first|(rw [JB] at H;exact H)|(simp only [JB] at H ⊢;exact H)
           have hji12w:(IntKind.i64.wrap (7*(wrap64 (qF-a1))))=Jh:=(xJ _).trans JB
           by_cases c13:0≤(Jh)
           ·rw [if_pos c13] at H
            have c13b0:=eq_true c13
            have c13b1:=dt c13
            clear c13
            obtain ⟨ji14,hji14⟩:∃ j_:Int,(shl .i64 (wrap64 (Go.bits .and .u8 (bt a0 qF) 127)) (Jh))=j_:=⟨_,rfl⟩
            replace H:(if (bt a0 qF)<128 then (if (bt a0 qF)=0 then (if qF > a1 then (some (0,0,false)) else (if (Go.bits .or .i64 kU (ji14)) > 16777215 then (some (0,0,false)) else (some (Go.bits .or .i64 kU (ji14),wrap64 (qF+1),true)))) else (if (Go.bits .or .i64 kU (ji14)) > 16777215 then (some (0,0,false)) else (some (Go.bits .or .i64 kU (ji14),wrap64 (qF+1),true)))) else (zA.l0 kj5 a0 a1 (Go.bits .or .i64 kU (ji14)) (wrap64 (qF+1))))=some (r1,r2,r3):=by first|(rw [hji14] at H;exact H)|(simp only [hji14] at H ⊢;exact H)
            have hji14_:(IntKind.i64.wrap ((wrap64 (Go.bits .and .u8 (bt a0 qF) 127))*2 ^ min (Jh).toNat 64))=ji14:=hji14
            have hji14z:(Jh)≤64→(IntKind.i64.wrap ((wrap64 (Go.bits .and .u8 (bt a0 qF) 127))*2 ^ (Jh).toNat))=ji14:=shl_small hji14
            have hji14y:(wrap64 ((wrap64 (Go.bits .and .u8 (bt a0 qF) 127))*2 ^ min (Jh).toNat 64))=ji14:=(xJ _).symm.trans hji14_
            have hji14x:(Jh)≤64→(wrap64 ((wrap64 (Go.bits .and .u8 (bt a0 qF) 127))*2 ^ (Jh).toNat))=ji14:=fun h_=>(xJ _).symm.trans (hji14z h_)
            by_cases c16:(bt a0 qF)<128
            ·rw [if_pos c16] at H
             have c16b0:=dt c16
             clear c16
             by_cases c18:(bt a0 qF)=0
             ·rw [if_pos c18] at H
              have c18b0:=bT c18
              have c18b1:=nF c18
              clear c18
              by_cases c19:qF > a1
              ·rw [if_pos c19] at H
               have c19b0:=tg c19
               clear c19
               simp only [Option.some.injEq,Prod.mk.injEq] at H
               obtain ⟨rfl,rfl,rfl⟩:=H
               have p11:0≤(qF:Int):=od
               have q11:qF<(a0.size:Int):=od
               have hx11:=ZC a0 qF
               replace p11:=eq_true p11
               replace q11:=eq_true q11
               have p15:0≤(qF:Int):=od
               have q15:qF<(a0.size:Int):=od
               have hx15:=ZC a0 qF
               replace p15:=eq_true p15
               replace q15:=eq_true q15
               have p17:0≤(qF:Int):=od
               have q17:qF<(a0.size:Int):=od
               have hx17:=ZC a0 qF
               replace p17:=eq_true p17
               replace q17:=eq_true q17
               go_wp2
               go_ret3
               exact ⟨by first|rfl|(simp;done)|(simp only [← JB,← hji14] <;> (first|rfl|simp))|(simp [*];done),dz⟩
              ·rw [if_neg c19] at H
               have c19b0:=fg c19
               clear c19
               by_cases c20:(Go.bits .or .i64 kU (ji14)) > 16777215
               ·rw [if_pos c20] at H
                have c20b0:=tg c20
                clear c20
                simp only [Option.some.injEq,Prod.mk.injEq] at H
                obtain ⟨rfl,rfl,rfl⟩:=H
                have p11:0≤(qF:Int):=od
                have q11:qF<(a0.size:Int):=od
                have hx11:=ZC a0 qF
                replace p11:=eq_true p11
                replace q11:=eq_true q11
                have p15:0≤(qF:Int):=od
                have q15:qF<(a0.size:Int):=od
                have hx15:=ZC a0 qF
                replace p15:=eq_true p15
                replace q15:=eq_true q15
                have p17:0≤(qF:Int):=od
                have q17:qF<(a0.size:Int):=od
                have hx17:=ZC a0 qF
                replace p17:=eq_true p17
                replace q17:=eq_true q17
                go_wp2
                go_ret3
                exact ⟨by first|rfl|(simp;done)|(simp only [← JB,← hji14] <;> (first|rfl|simp))|(simp [*];done),dz⟩
               ·rw [if_neg c20] at H
                have c20b0:=fg c20
                clear c20
                simp only [Option.some.injEq,Prod.mk.injEq] at H
                obtain ⟨rfl,rfl,rfl⟩:=H
                have p11:0≤(qF:Int):=od
                have q11:qF<(a0.size:Int):=od
                have hx11:=ZC a0 qF
                replace p11:=eq_true p11
                replace q11:=eq_true q11
                have p15:0≤(qF:Int):=od
                have q15:qF<(a0.size:Int):=od
                have hx15:=ZC a0 qF
                replace p15:=eq_true p15
                replace q15:=eq_true q15
                have p17:0≤(qF:Int):=od
                have q17:qF<(a0.size:Int):=od
                have hx17:=ZC a0 qF
                replace p17:=eq_true p17
                replace q17:=eq_true q17
                go_wp2
                go_ret3
                exact ⟨by first|rfl|(simp;done)|(simp only [← JB,← hji14] <;> (first|rfl|simp))|(simp [*];done),dz⟩
             ·rw [if_neg c18] at H
              have c18b0:=bF c18
              have c18b1:=nT c18
              by_cases c21:(Go.bits .or .i64 kU (ji14)) > 16777215
              ·rw [if_pos c21] at H
               have c21b0:=tg c21
               clear c21
               simp only [Option.some.injEq,Prod.mk.injEq] at H
               obtain ⟨rfl,rfl,rfl⟩:=H
               have p11:0≤(qF:Int):=od
               have q11:qF<(a0.size:Int):=od
               have hx11:=ZC a0 qF
               replace p11:=eq_true p11
               replace q11:=eq_true q11
               have p15:0≤(qF:Int):=od
               have q15:qF<(a0.size:Int):=od
               have hx15:=ZC a0 qF
               replace p15:=eq_true p15
               replace q15:=eq_true q15
               have p17:0≤(qF:Int):=od
               have q17:qF<(a0.size:Int):=od
               have hx17:=ZC a0 qF
               replace p17:=eq_true p17
               replace q17:=eq_true q17
               go_wp2
               go_ret3
               exact ⟨by first|rfl|(simp;done)|(simp only [← JB,← hji14] <;> (first|rfl|simp))|(simp [*];done),dz⟩
              ·rw [if_neg c21] at H
               have c21b0:=fg c21
               clear c21
               simp only [Option.some.injEq,Prod.mk.injEq] at H
               obtain ⟨rfl,rfl,rfl⟩:=H
               have p11:0≤(qF:Int):=od
               have q11:qF<(a0.size:Int):=od
               have hx11:=ZC a0 qF
               replace p11:=eq_true p11
               replace q11:=eq_true q11
               have p15:0≤(qF:Int):=od
               have q15:qF<(a0.size:Int):=od
               have hx15:=ZC a0 qF
               replace p15:=eq_true p15
               replace q15:=eq_true q15
               have p17:0≤(qF:Int):=od
               have q17:qF<(a0.size:Int):=od
               have hx17:=ZC a0 qF
               replace p17:=eq_true p17
               replace q17:=eq_true q17
               go_wp2
               go_ret3
               exact ⟨by first|rfl|(simp;done)|(simp only [← JB,← hji14] <;> (first|rfl|simp))|(simp [*];done),dz⟩
            ·rw [if_neg c16] at H
             have c16b0:=df c16
             clear c16
             have H':=Ak H
             clear H
             have p11:0≤(qF:Int):=od
             have q11:qF<(a0.size:Int):=od
             have hx11:=ZC a0 qF
             replace p11:=eq_true p11
             replace q11:=eq_true q11
             have p15:0≤(qF:Int):=od
             have q15:qF<(a0.size:Int):=od
             have hx15:=ZC a0 qF
             replace p15:=eq_true p15
             replace q15:=eq_true q15
             go_wp2
             go_roundg kj5
             case measure=>have:=HJ2.out;have:=HK2.out;have:=HJ5.out;omega
             case rel=>exact ⟨(Go.bits .or .i64 kU (ji14)),(wrap64 (qF+1)),(by first|rfl|(simp;done)|(simp only [← hji14] <;> (first|rfl|simp))|(simp [*];done)),es,H',⟨by have:=HJ2.out;have:=HK2.out;have:=HJ5.out;omega⟩,dz⟩
           ·rw [if_neg c13] at H
            exact absurd H (by simp)
          ·rw [if_neg c10] at H
           exact absurd H (by simp)
         ·rw [if_neg c9] at H
          exact absurd H (by simp)
        ·replace c8:=Bool.eq_false_iff.mpr c8
         subst c8
         have H1:(some (0,0,false))=some (r1,r2,r3):=by rw [if_neg (show ¬ (false=true) by decide)] at H;exact H
         clear H;have H:=H1;clear H1
         simp only [Option.some.injEq,Prod.mk.injEq] at H
         obtain ⟨rfl,rfl,rfl⟩:=H
         go_wp2
         go_ret3
         exact ⟨by first|rfl|(simp;done)|(simp [*];done),dz⟩
end Go.Proofs.YtiekodnojmkfaaaGreatDoor.yD
