import Derived.Test.YtiekodnojmkfaaaGreatDoorPFnDumpx0
namespace Go.Proofs.YtiekodnojmkfaaaGreatDoor.yD
set_option maxHeartbeats 8000000
set_option maxRecDepth 100000
open Go.RowKit Go.Proofs.YtiekodnojmkfaaaGreatDoorW.zF Go.Proofs.YtiekodnojmkfaaaGreatDoorW.yC Go.Proofs.YtiekodnojmkfaaaGreatDoorW.yY
attribute [local go_sem] xM xO qG qH yZ xg xP xQ
set_option linter.unusedVariables false
set_option linter.unusedSimpArgs false
mutual
def zL.j0:Nat→List (S56)→Int→Int→Bool→Option (Int)
 | 0,_,_,_,_=>none
 | k+1,x0,x1,x2,x24=>if x24=true then (some (-1)) else (zL.l0 k x0 x1 x2 (wrap64 (x1+1)) 0)
def zL.l0:Nat→List (S56)→Int→Int→Int→Int→Option (Int)
 | 0,_,_,_,_,_=>none
 | k+1,x0,x1,x2,x7,x8=>if 0≤x1 then (if x1<(x0.length:Int) then (if x8<((zu x0 x1).f6) then (if x7 ≥ 0 then ((zL.f k x0 x7 (wrap64 (x2+1))).bind fun t203=>(zL.l0 k x0 x1 x2 t203 (wrap64 (x8+1)))) else (some x7)) else (some x7)) else (none)) else (none)
def zL.f:Nat→List (S56)→Int→Int→Option (Int)
 | 0,_,_,_=>none
 | k+1,l0,a1,a2=>if a1 ≥ (l0.length:Int) then (zL.j0 k l0 a1 a2 true) else (if a2 ≥ 64 then (zL.j0 k l0 a1 a2 true) else (if 0≤a1 then (if a1<(l0.length:Int) then (zL.j0 k l0 a1 a2 (decide (((zu l0 a1).f6)<0))) else (none)) else (none)))
end
theorem zL.calls (k:Nat):∀ (A0:Option Addr) (c0:Nat) (l0:List (S56)) (a1:Int) (a2:Int) (r:Int) (w:World) (hr0:Kd.C k56 w A0 l0.length l0) (hc0:l0.length≤c0) (h:zL.f k l0 a1 a2=some r),
  Calls Tryz.prog 33 #[.slice A0 l0.length c0,.int .i64 a1,.int .i64 a2] w fun e w'=>e=.returned (.int .i64 r)∧xX w w':=by
 induction k using Nat.strongRecOn with
 | _ k ih =>
 intro A0 c0 l0 a1 a2 r w hr0 hc0 h
 cases k with
 | zero=>exact absurd h (by simp [zL.f])
 | succ k =>
 simp only [zL.f] at h
 have HR0:=Ak hr0;have HC0:=Ak hc0;clear hr0 hc0
 have H:(if a1 ≥ (l0.length:Int) then (zL.j0 k l0 a1 a2 true) else (if a2 ≥ 64 then (zL.j0 k l0 a1 a2 true) else (if 0≤a1 then (if a1<(l0.length:Int) then (zL.j0 k l0 a1 a2 (decide (((zu l0 a1).f6)<0))) else (none)) else (none))))=some r:=h
 clear h;have HC4:=Ak H;clear H
 go_enter Tryz.func33,Tryz.ntmps33
 go_upto_region 1 with (fail)
 go_cut [24] (fun v24 wc=>∃ (kq:Nat) (x24_3:Bool),v24=.bool x24_3∧zh (zL.j0 kq l0 a1 a2 x24_3=some r)∧zh (kq≤k)∧xX w wc)
 case first =>
  have H:=HC4.out
  clear HC4
  by_cases c5:a1 ≥ (l0.length:Int)
  ·rw [if_pos c5] at H
   have Qk:=tG c5
   clear c5
   (first|rw [Qk]|(simp only [xJ,xU];rw [Qk])|skip)
   have H':=Ak H
   clear H
   go_wp2
   go_meet
   case rel=>exact ⟨_,(true),es,H',⟨eo⟩,dz⟩
  ·rw [if_neg c5] at H
   have Qk:=fG c5
   clear c5
   (first|rw [Qk]|(simp only [xJ,xU];rw [Qk])|skip)
   by_cases c6:a2 ≥ 64
   ·rw [if_pos c6] at H
    have c6b0:=tG c6
    clear c6
    have H':=Ak H
    clear H
    go_wp2
    go_meet
    case rel=>exact ⟨_,(true),es,H',⟨eo⟩,dz⟩
   ·rw [if_neg c6] at H
    have c6b0:=fG c6
    clear c6
    by_cases c7:0≤a1
    ·rw [if_pos c7] at H
     have QI:=dt c7
     clear c7
     by_cases c8:a1<(l0.length:Int)
     ·rw [if_pos c8] at H
      have c8b0:=dt c8
      clear c8
      have H':=Ak H
      clear H
      have p201:0≤(a1:Int):=od
      have q201:a1<(l0.length:Int):=od
      obtain ⟨ad201,A201_3,c201_3,A201_4,c201_4,A201_5,c201_5,A201_8,c201_8,A201_9,c201_9,e201,hx201_0,hx201_1,hx201_2,hx201_3,hx201_4,hx201_5,hx201_6,hx201_7,hx201_8,hx201_9,hl201_3,hi201_3,hl201_4,hi201_4,hl201_5,hi201_5,hl201_8,hi201_8,hl201_9,hi201_9⟩:=Z5 HR0.out a1 p201 q201
      cases e201
      have HR201_3:=Ak hi201_3;have HC201_3:=Ak hl201_3;clear hi201_3 hl201_3;have HR201_4:=Ak hi201_4;have HC201_4:=Ak hl201_4;clear hi201_4 hl201_4;have HR201_5:=Ak hi201_5;have HC201_5:=Ak hl201_5;clear hi201_5 hl201_5;have HR201_8:=Ak hi201_8;have HC201_8:=Ak hl201_8;clear hi201_8 hl201_8;have HR201_9:=Ak hi201_9;have HC201_9:=Ak hl201_9;clear hi201_9 hl201_9
      replace p201:=eq_true p201
      replace q201:=eq_true q201
      go_wp2
      go_meet
      case rel=>exact ⟨_,(decide (((zu l0 a1).f6)<0)),es,H',⟨eo⟩,dz⟩
     ·rw [if_neg c8] at H
      exact absurd H (by simp)
    ·rw [if_neg c7] at H
     exact absurd H (by simp)
 case rest =>
  clear HC4
  obtain ⟨kq,x24_3,rfl,HA,HJ3,⟨mc3,rfl⟩⟩:=hcut
  cases kq with
  | zero=>exact absurd HA.out (by simp [zL.j0])
  | succ kj3 =>
   have H:=HA.out
   clear HA
   simp only [zL.j0] at H
   by_cases c9:x24_3=true
   ·subst c9
    have H1:(some (-1))=some r:=by rw [if_pos rfl] at H;exact H
    clear H;have H:=H1;clear H1
    obtain rfl:=Option.some.inj H
    go_wp2
    go_ret
    exact ⟨by first|rfl|(simp;done)|(simp [*];done),dz⟩
   ·replace c9:=Bool.eq_false_iff.mpr c9
    subst c9
    have H1:(zL.l0 kj3 l0 a1 a2 (wrap64 (a1+1)) 0)=some r:=by rw [if_neg (show ¬ (false=true) by decide)] at H;exact H
    clear H;have H:=H1;clear H1
    have H':=Ak H
    clear H
    go_wp2
    go_loopg [7,8] kj3 (fun kq v7 v8 w'=>∃ (kU:Int) (qF:Int),v7=.int .i64 kU∧v8=.int .i64 qF∧zh (zL.l0 kq l0 a1 a2 kU qF=some r)∧zh (kq≤kj3)∧xX w w')
    case atStart=>exact ⟨(wrap64 (a1+1)),(0),es,es,H',⟨Nat.le_refl _⟩,dz⟩
    case round =>
     clear H'
     obtain ⟨kU,qF,rfl,rfl,HA,HK2,⟨m2,rfl⟩⟩:=hrel
     cases gk with
     | zero=>exact absurd HA.out (by simp [zL.l0])
     | succ k2 =>
      have H:=HA.out
      clear HA
      simp only [zL.l0] at H
      by_cases c10:0≤a1
      ·rw [if_pos c10] at H
       have JA:=dt c10
       clear c10
       by_cases c11:a1<(l0.length:Int)
       ·rw [if_pos c11] at H
        have c11b0:=dt c11
        clear c11
        by_cases c12:qF<((zu l0 a1).f6)
        ·rw [if_pos c12] at H
         have Je:=dt c12
         clear c12
         by_cases c13:kU ≥ 0
         ·rw [if_pos c13] at H
          have c13b0:=tG c13
          clear c13
          replace H:=Option.bind_eq_some_iff.mp H
          obtain ⟨t203,A140,H⟩:=H
          replace H:(zL.l0 k2 l0 a1 a2 t203 (wrap64 (qF+1)))=some r:=H
          have A14:=Ak A140;clear A140
          have H':=Ak H
          clear H
          have p202:0≤(a1:Int):=od
          have q202:a1<(l0.length:Int):=od
          obtain ⟨ad202,A202_3,c202_3,A202_4,c202_4,A202_5,c202_5,A202_8,c202_8,A202_9,c202_9,e202,hx202_0,hx202_1,hx202_2,hx202_3,hx202_4,hx202_5,hx202_6,hx202_7,hx202_8,hx202_9,XA,XB,XC,XD,XE,XF,XG,XH,XI,XJ⟩:=Z5 HR0.out a1 p202 q202
          cases e202
          have HR202_3:=Ak XB;have HC202_3:=Ak XA;clear XB XA;have HR202_4:=Ak XD;have HC202_4:=Ak XC;clear XD XC;have HR202_5:=Ak XF;have HC202_5:=Ak XE;clear XF XE;have HR202_8:=Ak XH;have HC202_8:=Ak XG;clear XH XG;have HR202_9:=Ak XJ;have HC202_9:=Ak XI;clear XJ XI
          replace p202:=eq_true p202
          replace q202:=eq_true q202
          go_wp2_with (first|((with_reducible refine yP (f:=33) rfl ?_);refine jU (some 44) rfl rfl Tryz.func33 (by kernel_rfl) rfl #[.slice (some ad202) l0.length c0,.int .i64 kU,.int .i64 (wrap64 (a2+1))] rfl em ?_;(with_reducible refine (ih k2 (by have:=HJ3.out;have:=HK2.out;omega) _ _ l0 kU (wrap64 (a2+1)) t203 _ ?yQ ?xG A14.out).mono ?_);(case yQ=>repeat (first|exact HR0.out|(with_reducible refine Kd.qC ?_ _)|(with_reducible refine Kd.qE ?_ _)|(with_reducible refine Kd.ji ?_)));(case xG=>exact HC0.out);rintro e w' ⟨rfl,⟨nd,rfl⟩⟩;refine ⟨_,rfl,?_⟩))
          go_roundg k2
          case measure=>have:=HJ3.out;have:=HK2.out;omega
          case rel=>exact ⟨(t203),(wrap64 (qF+1)),es,es,H',⟨by have:=HJ3.out;have:=HK2.out;omega⟩,dz⟩
         ·rw [if_neg c13] at H
          have c13b0:=fG c13
          clear c13
          obtain rfl:=Option.some.inj H
          have p202:0≤(a1:Int):=od
          have q202:a1<(l0.length:Int):=od
          obtain ⟨ad202,A202_3,c202_3,A202_4,c202_4,A202_5,c202_5,A202_8,c202_8,A202_9,c202_9,e202,hx202_0,hx202_1,hx202_2,hx202_3,hx202_4,hx202_5,hx202_6,hx202_7,hx202_8,hx202_9,XA,XB,XC,XD,XE,XF,XG,XH,XI,XJ⟩:=Z5 HR0.out a1 p202 q202
          cases e202
          have HR202_3:=Ak XB;have HC202_3:=Ak XA;clear XB XA;have HR202_4:=Ak XD;have HC202_4:=Ak XC;clear XD XC;have HR202_5:=Ak XF;have HC202_5:=Ak XE;clear XF XE;have HR202_8:=Ak XH;have HC202_8:=Ak XG;clear XH XG;have HR202_9:=Ak XJ;have HC202_9:=Ak XI;clear XJ XI
          replace p202:=eq_true p202
          replace q202:=eq_true q202
          go_wp2
          go_ret
          exact ⟨by first|rfl|(simp;done)|(simp [*];done),dz⟩
        ·rw [if_neg c12] at H
         have Je:=df c12
         clear c12
         obtain rfl:=Option.some.inj H
         have p202:0≤(a1:Int):=od
         have q202:a1<(l0.length:Int):=od
         obtain ⟨ad202,A202_3,c202_3,A202_4,c202_4,A202_5,c202_5,A202_8,c202_8,A202_9,c202_9,e202,hx202_0,hx202_1,hx202_2,hx202_3,hx202_4,hx202_5,hx202_6,hx202_7,hx202_8,hx202_9,XA,XB,XC,XD,XE,XF,XG,XH,XI,XJ⟩:=Z5 HR0.out a1 p202 q202
         cases e202
         have HR202_3:=Ak XB;have HC202_3:=Ak XA;clear XB XA;have HR202_4:=Ak XD;have HC202_4:=Ak XC;clear XD XC;have HR202_5:=Ak XF;have HC202_5:=Ak XE;clear XF XE;have HR202_8:=Ak XH;have HC202_8:=Ak XG;clear XH XG;have HR202_9:=Ak XJ;have HC202_9:=Ak XI;clear XJ XI
         replace p202:=eq_true p202
         replace q202:=eq_true q202
         go_wp2
         go_ret
         exact ⟨by first|rfl|(simp;done)|(simp [*];done),dz⟩
       ·rw [if_neg c11] at H
        exact absurd H (by simp)
      ·rw [if_neg c10] at H
       exact absurd H (by simp)
def kN.f (yR:Int) (yX:Int) (yN:ByteArray):Option (Bool):=if yR=3 then (if yX=0 then (some (decide ((yN.size:Int)≤1000))) else (some false)) else (if (yN.size:Int) > 0 then (some false) else (if yR=1 then (if yX=0 then (some true) else (some (yX == 1))) else (if yR=2 then (some true) else (if yR=0 then (some (yX == 0)) else (some false)))))
theorem kN.calls (yR:Int) (yX:Int) (yN:ByteArray) (r:Bool) (w:World) (h:kN.f yR yX yN=some r) :
  Calls Tryz.prog 58 #[.agg #[.int .i64 yR,.int .i64 yX,.string yN]] w fun e w'=>e=.returned (.bool r)∧Below w.heap.size w w':=by
 have hu67:=Tryz.underlying67
 have HB:=Ak (Below.refl w.heap.size w)
 have H:(if yR=3 then (if yX=0 then (some (decide ((yN.size:Int)≤1000))) else (some false)) else (if (yN.size:Int) > 0 then (some false) else (if yR=1 then (if yX=0 then (some true) else (some (yX == 1))) else (if yR=2 then (some true) else (if yR=0 then (some (yX == 0)) else (some false))))))=some r:=h
 clear h
 by_cases c2:yR=3
 ·rw [if_pos c2] at H
  have c2b0:=bT c2
  have c2b1:=nF c2
  clear c2
  by_cases c3:yX=0
  ·rw [if_pos c3] at H
   have JZ:=bT c3
   have c3b1:=nF c3
   clear c3
   obtain rfl:=Option.some.inj H
   go_enter Tryz.func58,Tryz.ntmps58
   go_wp2_with (first|((with_reducible refine zB (N:=1) rfl ?_);(try (refine yL (by rfl) ?_;dsimp only));refine zK ?hg (N:=1) ?hd (cs:=#[.int .i64 yR,.int .i64 yX,.string yN]) (t:=67) ?hr ?_;(case hd=>rfl);(case hg=>rfl);(case hr=>first|(go_simp;done)|(go_simp;rfl));intro gb204 hg w4 hbox hb;have Qu:=Ak (hbox);have GW204:=gs HB hg;have GE204:=gs HB hg;replace HB:=BS HB hb;clear hb hbox hg;obtain ⟨hcz5_0,hcz5_1,hcz5_2,hfz5_0,hfz5_1,hfz5_2⟩:=bk3 Qu.out))
   go_ret
   exact ⟨ef,bl HB⟩
  ·rw [if_neg c3] at H
   have JZ:=bF c3
   have c3b1:=nT c3
   obtain rfl:=Option.some.inj H
   go_enter Tryz.func58,Tryz.ntmps58
   go_wp2_with (first|((with_reducible refine zB (N:=1) rfl ?_);(try (refine yL (by rfl) ?_;dsimp only));refine zK ?hg (N:=1) ?hd (cs:=#[.int .i64 yR,.int .i64 yX,.string yN]) (t:=67) ?hr ?_;(case hd=>rfl);(case hg=>rfl);(case hr=>first|(go_simp;done)|(go_simp;rfl));intro gb204 hg w6 hbox hb;have Qu:=Ak (hbox);have GW204:=gs HB hg;have GE204:=gs HB hg;replace HB:=BS HB hb;clear hb hbox hg;obtain ⟨hcz7_0,hcz7_1,hcz7_2,hfz7_0,hfz7_1,hfz7_2⟩:=bk3 Qu.out))
   go_ret
   exact ⟨ef,bl HB⟩
 ·rw [if_neg c2] at H
  have c2b0:=bF c2
  have c2b1:=nT c2
  by_cases c8:(yN.size:Int) > 0
  ·rw [if_pos c8] at H
   have c8b0:=tg c8
   have c8b1:=dT (0<yN.size)
   clear c8
   obtain rfl:=Option.some.inj H
   go_enter Tryz.func58,Tryz.ntmps58
   go_wp2_with (first|((with_reducible refine zB (N:=1) rfl ?_);(try (refine yL (by rfl) ?_;dsimp only));refine zK ?hg (N:=1) ?hd (cs:=#[.int .i64 yR,.int .i64 yX,.string yN]) (t:=67) ?hr ?_;(case hd=>rfl);(case hg=>rfl);(case hr=>first|(go_simp;done)|(go_simp;rfl));intro gb204 hg w9 hbox hb;have Qu:=Ak (hbox);have GW204:=gs HB hg;have GE204:=gs HB hg;replace HB:=BS HB hb;clear hb hbox hg;obtain ⟨hcz10_0,hcz10_1,hcz10_2,hfz10_0,hfz10_1,hfz10_2⟩:=bk3 Qu.out))
   go_ret
   exact ⟨ef,bl HB⟩
  ·rw [if_neg c8] at H
   have c8b0:=fg c8
   have c8b1:=dF (0<yN.size)
   clear c8
   by_cases c11:yR=1
   ·rw [if_pos c11] at H
    have c11b0:=bT c11
    have c11b1:=nF c11
    clear c11
    by_cases c12:yX=0
    ·rw [if_pos c12] at H
     have Je:=bT c12
     have c12b1:=nF c12
     clear c12
     obtain rfl:=Option.some.inj H
     go_enter Tryz.func58,Tryz.ntmps58
     go_wp2_with (first|((with_reducible refine zB (N:=1) rfl ?_);(try (refine yL (by rfl) ?_;dsimp only));refine zK ?hg (N:=1) ?hd (cs:=#[.int .i64 yR,.int .i64 yX,.string yN]) (t:=67) ?hr ?_;(case hd=>rfl);(case hg=>rfl);(case hr=>first|(go_simp;done)|(go_simp;rfl));intro gb204 hg w13 hbox hb;have Qu:=Ak (hbox);have GW204:=gs HB hg;have GE204:=gs HB hg;replace HB:=BS HB hb;clear hb hbox hg;obtain ⟨hcz14_0,hcz14_1,hcz14_2,hfz14_0,hfz14_1,hfz14_2⟩:=bk3 Qu.out))
     go_ret
     exact ⟨ef,bl HB⟩
    ·rw [if_neg c12] at H
     have Je:=bF c12
     have c12b1:=nT c12
     obtain rfl:=Option.some.inj H
     go_enter Tryz.func58,Tryz.ntmps58
     go_wp2_with (first|((with_reducible refine zB (N:=1) rfl ?_);(try (refine yL (by rfl) ?_;dsimp only));refine zK ?hg (N:=1) ?hd (cs:=#[.int .i64 yR,.int .i64 yX,.string yN]) (t:=67) ?hr ?_;(case hd=>rfl);(case hg=>rfl);(case hr=>first|(go_simp;done)|(go_simp;rfl));intro gb204 hg w15 hbox hb;have Qu:=Ak (hbox);have GW204:=gs HB hg;have GE204:=gs HB hg;replace HB:=BS HB hb;clear hb hbox hg;obtain ⟨hcz16_0,hcz16_1,hcz16_2,hfz16_0,hfz16_1,hfz16_2⟩:=bk3 Qu.out))
     go_ret
     exact ⟨ef,bl HB⟩
   ·rw [if_neg c11] at H
    have c11b0:=bF c11
    have c11b1:=nT c11
    by_cases c17:yR=2
    ·rw [if_pos c17] at H
     have c17b0:=bT c17
     have c17b1:=nF c17
     clear c17
     obtain rfl:=Option.some.inj H
     go_enter Tryz.func58,Tryz.ntmps58
     go_wp2_with (first|((with_reducible refine zB (N:=1) rfl ?_);(try (refine yL (by rfl) ?_;dsimp only));refine zK ?hg (N:=1) ?hd (cs:=#[.int .i64 yR,.int .i64 yX,.string yN]) (t:=67) ?hr ?_;(case hd=>rfl);(case hg=>rfl);(case hr=>first|(go_simp;done)|(go_simp;rfl));intro gb204 hg w18 hbox hb;have Qu:=Ak (hbox);have GW204:=gs HB hg;have GE204:=gs HB hg;replace HB:=BS HB hb;clear hb hbox hg;obtain ⟨hcz19_0,hcz19_1,hcz19_2,hfz19_0,hfz19_1,hfz19_2⟩:=bk3 Qu.out))
     go_ret
     exact ⟨ef,bl HB⟩
    ·rw [if_neg c17] at H
     have c17b0:=bF c17
     have c17b1:=nT c17
     by_cases c20:yR=0
     ·rw [if_pos c20] at H
      have c20b0:=bT c20
      have c20b1:=nF c20
      clear c20
      obtain rfl:=Option.some.inj H
      go_enter Tryz.func58,Tryz.ntmps58
      go_wp2_with (first|((with_reducible refine zB (N:=1) rfl ?_);(try (refine yL (by rfl) ?_;dsimp only));refine zK ?hg (N:=1) ?hd (cs:=#[.int .i64 yR,.int .i64 yX,.string yN]) (t:=67) ?hr ?_;(case hd=>rfl);(case hg=>rfl);(case hr=>first|(go_simp;done)|(go_simp;rfl));intro gb204 hg w21 hbox hb;have Qu:=Ak (hbox);have GW204:=gs HB hg;have GE204:=gs HB hg;replace HB:=BS HB hb;clear hb hbox hg;obtain ⟨hcz22_0,hcz22_1,hcz22_2,hfz22_0,hfz22_1,hfz22_2⟩:=bk3 Qu.out))
      go_ret
      exact ⟨ef,bl HB⟩
     ·rw [if_neg c20] at H
      have c20b0:=bF c20
      have c20b1:=nT c20
      obtain rfl:=Option.some.inj H
      go_enter Tryz.func58,Tryz.ntmps58
      go_wp2_with (first|((with_reducible refine zB (N:=1) rfl ?_);(try (refine yL (by rfl) ?_;dsimp only));refine zK ?hg (N:=1) ?hd (cs:=#[.int .i64 yR,.int .i64 yX,.string yN]) (t:=67) ?hr ?_;(case hd=>rfl);(case hg=>rfl);(case hr=>first|(go_simp;done)|(go_simp;rfl));intro gb204 hg w23 hbox hb;have Qu:=Ak (hbox);have GW204:=gs HB hg;have GE204:=gs HB hg;replace HB:=BS HB hb;clear hb hbox hg;obtain ⟨hcz24_0,hcz24_1,hcz24_2,hfz24_0,hfz24_1,hfz24_2⟩:=bk3 Qu.out))
      go_ret
      exact ⟨ef,bl HB⟩
def jc.f (a0:Int):Option (Bool):=if a0 ≥ 0 then (some (decide (a0≤16777215))) else (some false)
theorem jc.calls (a0:Int) (r:Bool) (w:World) (h:jc.f a0=some r) :
  Calls Tryz.prog 59 #[.int .i64 a0] w fun e w'=>e=.returned (.bool r)∧xX w w':=by
 have H:(if a0 ≥ 0 then (some (decide (a0≤16777215))) else (some false))=some r:=h
 clear h
 by_cases c2:a0 ≥ 0
 ·rw [if_pos c2] at H
  have c2b0:=tG c2
  clear c2
  obtain rfl:=Option.some.inj H
  go_enter Tryz.func59,Tryz.ntmps59
  go_wp2
  go_ret
  exact ⟨by first|rfl|(simp;done)|(simp [*];done),dz⟩
 ·rw [if_neg c2] at H
  have c2b0:=fG c2
  clear c2
  obtain rfl:=Option.some.inj H
  go_enter Tryz.func59,Tryz.ntmps59
  go_wp2
  go_ret
  exact ⟨by first|rfl|(simp;done)|(simp [*];done),dz⟩
end Go.Proofs.YtiekodnojmkfaaaGreatDoor.yD
