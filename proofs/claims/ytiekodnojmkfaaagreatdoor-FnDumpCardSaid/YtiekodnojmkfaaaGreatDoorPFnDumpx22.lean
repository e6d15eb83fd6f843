import Derived.Test.YtiekodnojmkfaaaGreatDoorPFnDumpx0
import Derived.Test.YtiekodnojmkfaaaGreatDoorPFnDumpx21
namespace Go.Proofs.YtiekodnojmkfaaaGreatDoor.yD
set_option maxHeartbeats 8000000
set_option maxRecDepth 100000
open Go.RowKit Go.Proofs.YtiekodnojmkfaaaGreatDoorW.zF Go.Proofs.YtiekodnojmkfaaaGreatDoorW.yC Go.Proofs.YtiekodnojmkfaaaGreatDoorW.yY
attribute [local go_sem] xM xO qG qH yZ xg xP xQ
set_option linter.unusedVariables false
set_option linter.unusedSimpArgs false
def zM.l0:Nat→Bool→Int→List (S56)→List (S56)→Option (Bool)
 | 0,_,_,_,_=>none
 | k+1,x2,x7,pa,pb=>if x7<(pa.length:Int) then (if 0≤x7 then (if x7<(pb.length:Int) then ((zC.f k ((zu pa x7).f0) ((zu pa x7).f1) ((zu pa x7).f2) ((zu pa x7).f3) ((zu pa x7).f4) ((zu pa x7).f5) ((zu pa x7).f6) ((zu pa x7).f7) ((zu pa x7).f8) ((zu pa x7).f9) ((zu pb x7).f0) ((zu pb x7).f1) ((zu pb x7).f2) ((zu pb x7).f3) ((zu pb x7).f4) ((zu pb x7).f5) ((zu pb x7).f6) ((zu pb x7).f7) ((zu pb x7).f8) ((zu pb x7).f9) x2).bind fun t238=>(if t238=true then (zM.l0 k x2 (wrap64 (x7+1)) pa pb) else (some false))) else (none)) else (none)) else (some true)
def zM.f (k:Nat) (zV:List (S56)) (jB:List (S56)) (a2:Bool):Option (Bool):=if (zV.length:Int)=(jB.length:Int) then (zM.l0 k a2 0 zV jB) else (some false)
def zM.T6:Bool×List (List Nat×List Nat):=(true,[([],[]),([0],[0]),([],[]),([1,2],[1,2]),([3],[3]),([],[]),([5],[5]),([],[]),([6,7],[6,7]),([8],[8]),([],[]),([4,9,10],[4,9,10]),([11],[11])])
def zM.B6:List Nat:=[0,1,0,7,15,0,32,0,224,480,0,2047,4095]
theorem zM.tab6:Qh .any (opsOf Tryz.f10 6)=zM.T6:=by kernel_rfl
theorem zM.bits6:vN zM.T6.2 zM.B6=true:=by kernel_rfl
theorem zM.calls (k:Nat) (ZX:Option Addr) (ZA:Nat) (zV:List (S56)) (A1_0:Option Addr) (c1_0:Nat) (jB:List (S56)) (a2:Bool) (r:Bool) (w:World) (Jg:Kd.C k56 w ZX zV.length zV) (Jy:zV.length≤ZA) (hr1_0:Kd.C k56 w A1_0 jB.length jB) (hc1_0:jB.length≤c1_0) (h:zM.f k zV jB a2=some r) :
  Calls Tryz.prog 10 #[.agg #[.slice ZX zV.length ZA],.agg #[.slice A1_0 jB.length c1_0],.bool a2] w fun e w'=>e=.returned (.bool r)∧Below w.heap.size w w':=by
 have hu25:=Tryz.underlying25
 have hu56:=Tryz.underlying56
 have HR0_0:=Ak Jg;have HC0_0:=Ak Jy;clear Jg Jy;have HR1_0:=Ak hr1_0;have HC1_0:=Ak hc1_0;clear hr1_0 hc1_0
 have HB:=Ak (Below.refl w.heap.size w)
 have H:(if (zV.length:Int)=(jB.length:Int) then (zM.l0 k a2 0 zV jB) else (some false))=some r:=h
 clear h
 by_cases c4:(zV.length:Int)=(jB.length:Int)
 ·rw [if_pos c4] at H
  have ZG:=bT c4
  have c4b1:=nF c4
  have c4b2:(zV.length == jB.length)=true:=by first|simpa using c4|(simp at c4 ⊢;omega)
  clear c4
  have H':=Ak H
  clear H
  go_enter Tryz.func10,Tryz.ntmps10
  go_wp2_with (first|((with_reducible refine zB (N:=3) rfl ?_);refine zK ?hg (N:=3) ?hd (cs:=#[.slice ZX zV.length ZA]) (t:=25) ?hr ?_;(case hd=>rfl);(case hg=>rfl);(case hr=>first|(go_simp;done)|(go_simp;rfl));intro JD hg w5 hbox hb;have vO:=Ak (hbox);have GW234:=gs HB hg;have GE234:=gs HB hg;replace HB:=BS HB hb;clear hb hbox hg)|((with_reducible refine zB (N:=4) rfl ?_);refine zK ?hg (N:=4) ?hd (cs:=#[.slice A1_0 jB.length c1_0]) (t:=25) ?hr ?_;(case hd=>rfl);(case hg=>rfl);(case hr=>first|(go_simp;done)|(go_simp;rfl));intro gb235 hg w6 hbox hb;have Yr:=Ak (hbox);have GW235:=gs HB hg;have GE235:=gs HB hg;have Yt:=Ak ((by rw [hg];exact Nat.ne_of_lt (yx (g:=JD) (bo vO)):JD≠gb235));have Yu:=Ak ((by rw [hg];exact Nat.ne_of_gt (yx (g:=JD) (bo vO)):gb235≠JD));replace vO:=BB vO hb;replace HB:=BS HB hb;clear hb hbox hg;have hnb7:=Yt.out;have hnc7:=Yu.out;obtain ⟨hcz8_0,hfz8_0⟩:=bk1 vO.out;obtain ⟨hcz9_0,hfz9_0⟩:=bk1 Yr.out))
  go_loopg [7] k (fun kq v7 w'=>∃ (yK:Int),v7=.int .i64 yK∧zh (zM.l0 kq a2 yK zV jB=some r)∧zh (kq≤k)∧zh (w'.heap[JD]?=some (.cells #[(.slice ZX zV.length ZA)] 25 (0,0)))∧zh (w'.heap[gb235]?=some (.cells #[(.slice A1_0 jB.length c1_0)] 25 (0,0)))∧zh (Below w.heap.size w w'))
  case atStart=>exact ⟨(0),es,H',⟨Nat.le_refl _⟩,⟨bo vO⟩,⟨bo Yr⟩,⟨bl HB⟩⟩
  case round =>
   clear H'
   obtain ⟨yK,rfl,HA,HK1,vO,Yr,HB⟩:=hrel
   cases gk with
   | zero=>exact absurd HA.out (by simp [zM.l0])
   | succ k1 =>
    have H:=HA.out
    clear HA
    simp only [zM.l0] at H
    by_cases c10:yK<(zV.length:Int)
    ·rw [if_pos c10] at H
     have JA:=dt c10
     clear c10
     by_cases c11:0≤yK
     ·rw [if_pos c11] at H
      have c11b0:=dt c11
      clear c11
      by_cases c12:yK<(jB.length:Int)
      ·rw [if_pos c12] at H
       have Je:=dt c12
       clear c12
       replace H:=Option.bind_eq_some_iff.mp H
       obtain ⟨t238,A130,H⟩:=H
       replace H:(if t238=true then (zM.l0 k1 a2 (wrap64 (yK+1)) zV jB) else (some false))=some r:=H
       have A13:=Ak A130;clear A130
       by_cases c14:t238=true
       ·subst c14
        have H1:(zM.l0 k1 a2 (wrap64 (yK+1)) zV jB)=some r:=by rw [if_pos rfl] at H;exact H
        clear H;have H:=H1;clear H1
        have H':=Ak H
        clear H
        have hnb15:=Yt.out
        have hnc15:=Yu.out
        obtain ⟨hcz16_0,hfz16_0⟩:=bk1 vO.out
        try go_wp2
        replace vO:=Ak (xI vO.out);replace Yr:=Ak (xI Yr.out);replace HB:=Ak (zO HB.out)
        have p236:0≤(yK:Int):=od
        have q236:yK<(zV.length:Int):=od
        obtain ⟨jF,A236_3,c236_3,A236_4,c236_4,A236_5,c236_5,A236_8,c236_8,A236_9,c236_9,e236,YI,YJ,YK,YL,YM,YN,YO,YP,YR,YS,Vx,Vy,Vz,VA,VB,VD,VE,VF,VG,VH⟩:=Z5 HR0_0.out yK p236 q236
        have VI:=YS;have VJ:=YR;have VK:=YP;have VL:=YO;have VN:=YN;have VO:=YM;have VP:=YL;have VQ:=YK;have VR:=YJ;have VT:=YI
        cases e236
        replace YI:=cu HB YI
        replace YJ:=cu HB YJ
        replace YK:=cu HB YK
        replace YL:=cu HB YL
        replace YM:=cu HB YM
        replace YN:=cu HB YN
        replace YO:=cu HB YO
        replace YP:=cu HB YP
        replace YR:=cu HB YR
        replace YS:=cu HB YS
        have VU:=Ak Vy;have HC236_3:=Ak Vx;clear Vy Vx;have VW:=Ak VA;have HC236_4:=Ak Vz;clear VA Vz;have VX:=Ak VD;have HC236_5:=Ak VB;clear VD VB;have VY:=Ak VF;have HC236_8:=Ak VE;clear VF VE;have VZ:=Ak VH;have HC236_9:=Ak VG;clear VH VG
        replace p236:=eq_true p236
        replace q236:=eq_true q236
        have p237:0≤(yK:Int):=od
        have q237:yK<(jB.length:Int):=od
        obtain ⟨jG,A237_3,c237_3,A237_4,c237_4,A237_5,c237_5,A237_8,c237_8,A237_9,c237_9,e237,YT,YU,YV,YW,YX,YZ,Y0,Y7,Y9,Xa,V3,V4,V5,V6,V7,V8,V9,zaa,zab,zac⟩:=Z5 HR1_0.out yK p237 q237
        have zad:=Xa;have zae:=Y9;have zaf:=Y7;have zah:=Y0;have zai:=YZ;have zaj:=YX;have zak:=YW;have zal:=YV;have zam:=YU;have zan:=YT
        cases e237
        replace YT:=cu HB YT
        replace YU:=cu HB YU
        replace YV:=cu HB YV
        replace YW:=cu HB YW
        replace YX:=cu HB YX
        replace YZ:=cu HB YZ
        replace Y0:=cu HB Y0
        replace Y7:=cu HB Y7
        replace Y9:=cu HB Y9
        replace Xa:=cu HB Xa
        have zao:=Ak V4;have HC237_3:=Ak V3;clear V4 V3;have zaq:=Ak V6;have HC237_4:=Ak V5;clear V6 V5;have zar:=Ak V8;have HC237_5:=Ak V7;clear V8 V7;have zas:=Ak zaa;have HC237_8:=Ak V9;clear zaa V9;have zat:=Ak zac;have HC237_9:=Ak zab;clear zac zab
        replace p237:=eq_true p237
        replace q237:=eq_true q237
        refine Yv (n:=13) (S:=fun w'=>w'.cell? ⟨JD,0,none⟩=some (.slice (some jF) zV.length ZA)∧w'.cell? ⟨gb235,0,none⟩=some (.slice (some jG) jB.length c1_0)∧w'.cell? (jF.add ((yK).toNat*10))=some (.int .i64 ((zu zV yK).f0))∧w'.cell? ⟨(jF.add ((yK).toNat*10)).block,(jF.add ((yK).toNat*10)).off+1,none⟩=some (.bool ((zu zV yK).f1))∧w'.cell? ⟨(jF.add ((yK).toNat*10)).block,(jF.add ((yK).toNat*10)).off+2,none⟩=some (.int .i64 ((zu zV yK).f2))∧w'.cell? ⟨(jF.add ((yK).toNat*10)).block,(jF.add ((yK).toNat*10)).off+3,none⟩=some (.slice A236_3 ((zu zV yK).f3).length c236_3)∧w'.cell? ⟨(jF.add ((yK).toNat*10)).block,(jF.add ((yK).toNat*10)).off+4,none⟩=some (.slice A236_4 ((zu zV yK).f4).length c236_4)∧w'.cell? ⟨(jF.add ((yK).toNat*10)).block,(jF.add ((yK).toNat*10)).off+5,none⟩=some (.slice A236_5 ((zu zV yK).f5).length c236_5)∧w'.cell? ⟨(jF.add ((yK).toNat*10)).block,(jF.add ((yK).toNat*10)).off+6,none⟩=some (.int .i64 ((zu zV yK).f6))∧w'.cell? ⟨(jF.add ((yK).toNat*10)).block,(jF.add ((yK).toNat*10)).off+7,none⟩=some (.string ((zu zV yK).f7))∧w'.cell? ⟨(jF.add ((yK).toNat*10)).block,(jF.add ((yK).toNat*10)).off+8,none⟩=some (.slice A236_8 ((zu zV yK).f8).length c236_8)∧w'.cell? ⟨(jF.add ((yK).toNat*10)).block,(jF.add ((yK).toNat*10)).off+9,none⟩=some (.slice A236_9 ((zu zV yK).f9).length c236_9)∧w'.cell? (jG.add ((yK).toNat*10))=some (.int .i64 ((zu jB yK).f0))∧w'.cell? ⟨(jG.add ((yK).toNat*10)).block,(jG.add ((yK).toNat*10)).off+1,none⟩=some (.bool ((zu jB yK).f1))∧w'.cell? ⟨(jG.add ((yK).toNat*10)).block,(jG.add ((yK).toNat*10)).off+2,none⟩=some (.int .i64 ((zu jB yK).f2))∧w'.cell? ⟨(jG.add ((yK).toNat*10)).block,(jG.add ((yK).toNat*10)).off+3,none⟩=some (.slice A237_3 ((zu jB yK).f3).length c237_3)∧w'.cell? ⟨(jG.add ((yK).toNat*10)).block,(jG.add ((yK).toNat*10)).off+4,none⟩=some (.slice A237_4 ((zu jB yK).f4).length c237_4)∧w'.cell? ⟨(jG.add ((yK).toNat*10)).block,(jG.add ((yK).toNat*10)).off+5,none⟩=some (.slice A237_5 ((zu jB yK).f5).length c237_5)∧w'.cell? ⟨(jG.add ((yK).toNat*10)).block,(jG.add ((yK).toNat*10)).off+6,none⟩=some (.int .i64 ((zu jB yK).f6))∧w'.cell? ⟨(jG.add ((yK).toNat*10)).block,(jG.add ((yK).toNat*10)).off+7,none⟩=some (.string ((zu jB yK).f7))∧w'.cell? ⟨(jG.add ((yK).toNat*10)).block,(jG.add ((yK).toNat*10)).off+8,none⟩=some (.slice A237_8 ((zu jB yK).f8).length c237_8)∧w'.cell? ⟨(jG.add ((yK).toNat*10)).block,(jG.add ((yK).toNat*10)).off+9,none⟩=some (.slice A237_9 ((zu jB yK).f9).length c237_9)) (ds:=[]) #[false,false,false,false,false,false,false,false,false,false,false,false,false] (by kernel_rfl) rfl rfl ⟨(zi vO.out 0).trans rfl,(zi Yr.out 0).trans rfl,cu HB VT,cu HB VR,cu HB VQ,cu HB VP,cu HB VO,cu HB VN,cu HB VL,cu HB VK,cu HB VJ,cu HB VI,cu HB zan,cu HB zam,cu HB zal,cu HB zak,cu HB zaj,cu HB zai,cu HB zah,cu HB zaf,cu HB zae,cu HB zad⟩ (fun hHeld=>?_);refine kP zM.tab6 zM.bits6 (fun HT_ HW_=>?_)
        generalize wr.drew=w17 at vO Yr HB VU VW VX VY VZ zao zaq zar zas zat YI YJ YK YL YM YN YO YP YR YS YT YU YV YW YX YZ Y0 Y7 Y9 Xa hHeld ⊢
        refine pu 0 22 HT_ ?_
        refine pu 2 24 HT_ ?_
        refine pu 5 27 HT_ ?_
        refine pu 7 29 HT_ ?_
        refine pu 10 32 HT_ ?_
        refine tk 1 23 HT_ HW_ hHeld ?_
        refine pu 3 25 HT_ ?_
        refine tk 4 26 HT_ HW_ hHeld ?_
        refine tk 6 28 HT_ HW_ hHeld ?_
        refine pu 8 30 HT_ ?_
        refine tk 9 31 HT_ HW_ hHeld ?_
        refine oN 11 33 HT_ (fun K hK=>?_)
        refine XO Tryz.func42 (by kernel_rfl) rfl #[.agg #[.int .i64 ((zu zV yK).f0),.bool ((zu zV yK).f1),.int .i64 ((zu zV yK).f2),.slice A236_3 ((zu zV yK).f3).length c236_3,.slice A236_4 ((zu zV yK).f4).length c236_4,.slice A236_5 ((zu zV yK).f5).length c236_5,.int .i64 ((zu zV yK).f6),.string ((zu zV yK).f7),.slice A236_8 ((zu zV yK).f8).length c236_8,.slice A236_9 ((zu zV yK).f9).length c236_9],.agg #[.int .i64 ((zu jB yK).f0),.bool ((zu jB yK).f1),.int .i64 ((zu jB yK).f2),.slice A237_3 ((zu jB yK).f3).length c237_3,.slice A237_4 ((zu jB yK).f4).length c237_4,.slice A237_5 ((zu jB yK).f5).length c237_5,.int .i64 ((zu jB yK).f6),.string ((zu jB yK).f7),.slice A237_8 ((zu jB yK).f8).length c237_8,.slice A237_9 ((zu jB yK).f9).length c237_9],.bool a2] (by rfl) rfl rfl em ?_
        with_reducible refine (zC.calls k1 ((zu zV yK).f0) ((zu zV yK).f1) ((zu zV yK).f2) _ _ ((zu zV yK).f3) _ _ ((zu zV yK).f4) _ _ ((zu zV yK).f5) ((zu zV yK).f6) ((zu zV yK).f7) _ _ ((zu zV yK).f8) _ _ ((zu zV yK).f9) ((zu jB yK).f0) ((zu jB yK).f1) ((zu jB yK).f2) _ _ ((zu jB yK).f3) _ _ ((zu jB yK).f4) _ _ ((zu jB yK).f5) ((zu jB yK).f6) ((zu jB yK).f7) _ _ ((zu jB yK).f8) _ _ ((zu jB yK).f9) a2 true _ ?yQ ?xG ?qW ?jw ?side5 ?side6 ?side7 ?side8 ?side9 ?Vl ?side11 ?side12 ?side13 ?side14 ?side15 ?side16 ?side17 ?side18 ?side19 ?side20 A13.out).mono ?_
        (case yQ=>exact co VU HB)
        (case xG=>exact HC236_3.out)
        (case qW=>exact co VW HB)
        (case jw=>exact HC236_4.out)
        (case side5=>exact co VX HB)
        (case side6=>exact HC236_5.out)
        (case side7=>exact co VY HB)
        (case side8=>exact HC236_8.out)
        (case side9=>exact co VZ HB)
        (case Vl=>exact HC236_9.out)
        (case side11=>exact co zao HB)
        (case side12=>exact HC237_3.out)
        (case side13=>exact co zaq HB)
        (case side14=>exact HC237_4.out)
        (case side15=>exact co zar HB)
        (case side16=>exact HC237_5.out)
        (case side17=>exact co zas HB)
        (case side18=>exact HC237_8.out)
        (case side19=>exact co zat HB)
        (case side20=>exact HC237_9.out)
        rintro e w18 ⟨rfl,hb⟩
        refine ⟨_,rfl,?_⟩
        replace vO:=BB vO hb;replace Yr:=BB Yr hb;replace HB:=BS HB hb
        refine hK.out _ _ ⟨(zi vO.out 0).trans rfl,(zi Yr.out 0).trans rfl,cu HB VT,cu HB VR,cu HB VQ,cu HB VP,cu HB VO,cu HB VN,cu HB VL,cu HB VK,cu HB VJ,cu HB VI,cu HB zan,cu HB zam,cu HB zal,cu HB zak,cu HB zaj,cu HB zai,cu HB zah,cu HB zaf,cu HB zae,cu HB zad⟩ (fun hHeld=>?_)
        clear hK K
        refine kX (a':=?_) ?_ ?_
        rotate_left
        ·show Act.put _ (some 33) _=_
         simp only [Act.put,List.setIfInBounds_toArray,List.set_cons_zero,List.set_cons_succ,xJ,xU]
         rfl
        refine pu 12 34 HT_ ?_
        refine Ji (ZO HT_.out (by kernel_rfl)) ?_
        try go_wp2
        go_roundg k1
        case measure=>have:=HK1.out;omega
        case rel=>exact ⟨(wrap64 (yK+1)),es,H',⟨by have:=HK1.out;omega⟩,⟨bo vO⟩,⟨bo Yr⟩,⟨bl HB⟩⟩
       ·replace c14:=Bool.eq_false_iff.mpr c14
        subst c14
        have H1:(some false)=some r:=by rw [if_neg (show ¬ (false=true) by decide)] at H;exact H
        clear H;have H:=H1;clear H1
        obtain rfl:=Option.some.inj H
        have hnb19:=Yt.out
        have hnc19:=Yu.out
        obtain ⟨hcz20_0,hfz20_0⟩:=bk1 vO.out
        try go_wp2
        replace vO:=Ak (xI vO.out);replace Yr:=Ak (xI Yr.out);replace HB:=Ak (zO HB.out)
        have p236:0≤(yK:Int):=od
        have q236:yK<(zV.length:Int):=od
        obtain ⟨jF,A236_3,c236_3,A236_4,c236_4,A236_5,c236_5,A236_8,c236_8,A236_9,c236_9,e236,YI,YJ,YK,YL,YM,YN,YO,YP,YR,YS,Vx,Vy,Vz,VA,VB,VD,VE,VF,VG,VH⟩:=Z5 HR0_0.out yK p236 q236
        have VI:=YS;have VJ:=YR;have VK:=YP;have VL:=YO;have VN:=YN;have VO:=YM;have VP:=YL;have VQ:=YK;have VR:=YJ;have VT:=YI
        cases e236
        replace YI:=cu HB YI
        replace YJ:=cu HB YJ
        replace YK:=cu HB YK
        replace YL:=cu HB YL
        replace YM:=cu HB YM
        replace YN:=cu HB YN
        replace YO:=cu HB YO
        replace YP:=cu HB YP
        replace YR:=cu HB YR
        replace YS:=cu HB YS
        have VU:=Ak Vy;have HC236_3:=Ak Vx;clear Vy Vx;have VW:=Ak VA;have HC236_4:=Ak Vz;clear VA Vz;have VX:=Ak VD;have HC236_5:=Ak VB;clear VD VB;have VY:=Ak VF;have HC236_8:=Ak VE;clear VF VE;have VZ:=Ak VH;have HC236_9:=Ak VG;clear VH VG
        replace p236:=eq_true p236
        replace q236:=eq_true q236
        have p237:0≤(yK:Int):=od
        have q237:yK<(jB.length:Int):=od
        obtain ⟨jG,A237_3,c237_3,A237_4,c237_4,A237_5,c237_5,A237_8,c237_8,A237_9,c237_9,e237,YT,YU,YV,YW,YX,YZ,Y0,Y7,Y9,Xa,V3,V4,V5,V6,V7,V8,V9,zaa,zab,zac⟩:=Z5 HR1_0.out yK p237 q237
        have zad:=Xa;have zae:=Y9;have zaf:=Y7;have zah:=Y0;have zai:=YZ;have zaj:=YX;have zak:=YW;have zal:=YV;have zam:=YU;have zan:=YT
        cases e237
        replace YT:=cu HB YT
        replace YU:=cu HB YU
        replace YV:=cu HB YV
        replace YW:=cu HB YW
        replace YX:=cu HB YX
        replace YZ:=cu HB YZ
        replace Y0:=cu HB Y0
        replace Y7:=cu HB Y7
        replace Y9:=cu HB Y9
        replace Xa:=cu HB Xa
        have zao:=Ak V4;have HC237_3:=Ak V3;clear V4 V3;have zaq:=Ak V6;have HC237_4:=Ak V5;clear V6 V5;have zar:=Ak V8;have HC237_5:=Ak V7;clear V8 V7;have zas:=Ak zaa;have HC237_8:=Ak V9;clear zaa V9;have zat:=Ak zac;have HC237_9:=Ak zab;clear zac zab
        replace p237:=eq_true p237
        replace q237:=eq_true q237
        refine Yv (n:=13) (S:=fun w'=>w'.cell? ⟨JD,0,none⟩=some (.slice (some jF) zV.length ZA)∧w'.cell? ⟨gb235,0,none⟩=some (.slice (some jG) jB.length c1_0)∧w'.cell? (jF.add ((yK).toNat*10))=some (.int .i64 ((zu zV yK).f0))∧w'.cell? ⟨(jF.add ((yK).toNat*10)).block,(jF.add ((yK).toNat*10)).off+1,none⟩=some (.bool ((zu zV yK).f1))∧w'.cell? ⟨(jF.add ((yK).toNat*10)).block,(jF.add ((yK).toNat*10)).off+2,none⟩=some (.int .i64 ((zu zV yK).f2))∧w'.cell? ⟨(jF.add ((yK).toNat*10)).block,(jF.add ((yK).toNat*10)).off+3,none⟩=some (.slice A236_3 ((zu zV yK).f3).length c236_3)∧w'.cell? ⟨(jF.add ((yK).toNat*10)).block,(jF.add ((yK).toNat*10)).off+4,none⟩=some (.slice A236_4 ((zu zV yK).f4).length c236_4)∧w'.cell? ⟨(jF.add ((yK).toNat*10)).block,(jF.add ((yK).toNat*10)).off+5,none⟩=some (.slice A236_5 ((zu zV yK).f5).length c236_5)∧w'.cell? ⟨(jF.add ((yK).toNat*10)).block,(jF.add ((yK).toNat*10)).off+6,none⟩=some (.int .i64 ((zu zV yK).f6))∧w'.cell? ⟨(jF.add ((yK).toNat*10)).block,(jF.add ((yK).toNat*10)).off+7,none⟩=some (.string ((zu zV yK).f7))∧w'.cell? ⟨(jF.add ((yK).toNat*10)).block,(jF.add ((yK).toNat*10)).off+8,none⟩=some (.slice A236_8 ((zu zV yK).f8).length c236_8)∧w'.cell? ⟨(jF.add ((yK).toNat*10)).block,(jF.add ((yK).toNat*10)).off+9,none⟩=some (.slice A236_9 ((zu zV yK).f9).length c236_9)∧w'.cell? (jG.add ((yK).toNat*10))=some (.int .i64 ((zu jB yK).f0))∧w'.cell? ⟨(jG.add ((yK).toNat*10)).block,(jG.add ((yK).toNat*10)).off+1,none⟩=some (.bool ((zu jB yK).f1))∧w'.cell? ⟨(jG.add ((yK).toNat*10)).block,(jG.add ((yK).toNat*10)).off+2,none⟩=some (.int .i64 ((zu jB yK).f2))∧w'.cell? ⟨(jG.add ((yK).toNat*10)).block,(jG.add ((yK).toNat*10)).off+3,none⟩=some (.slice A237_3 ((zu jB yK).f3).length c237_3)∧w'.cell? ⟨(jG.add ((yK).toNat*10)).block,(jG.add ((yK).toNat*10)).off+4,none⟩=some (.slice A237_4 ((zu jB yK).f4).length c237_4)∧w'.cell? ⟨(jG.add ((yK).toNat*10)).block,(jG.add ((yK).toNat*10)).off+5,none⟩=some (.slice A237_5 ((zu jB yK).f5).length c237_5)∧w'.cell? ⟨(jG.add ((yK).toNat*10)).block,(jG.add ((yK).toNat*10)).off+6,none⟩=some (.int .i64 ((zu jB yK).f6))∧w'.cell? ⟨(jG.add ((yK).toNat*10)).block,(jG.add ((yK).toNat*10)).off+7,none⟩=some (.string ((zu jB yK).f7))∧w'.cell? ⟨(jG.add ((yK).toNat*10)).block,(jG.add ((yK).toNat*10)).off+8,none⟩=some (.slice A237_8 ((zu jB yK).f8).length c237_8)∧w'.cell? ⟨(jG.add ((yK).toNat*10)).block,(jG.add ((yK).toNat*10)).off+9,none⟩=some (.slice A237_9 ((zu jB yK).f9).length c237_9)) (ds:=[]) #[false,false,false,false,false,false,false,false,false,false,false,false,false] (by kernel_rfl) rfl rfl ⟨(zi vO.out 0).trans rfl,(zi Yr.out 0).trans rfl,cu HB VT,cu HB VR,cu HB VQ,cu HB VP,cu HB VO,cu HB VN,cu HB VL,cu HB VK,cu HB VJ,cu HB VI,cu HB zan,cu HB zam,cu HB zal,cu HB zak,cu HB zaj,cu HB zai,cu HB zah,cu HB zaf,cu HB zae,cu HB zad⟩ (fun hHeld=>?_);refine kP zM.tab6 zM.bits6 (fun HT_ HW_=>?_)
        generalize wr.drew=w21 at vO Yr HB VU VW VX VY VZ zao zaq zar zas zat YI YJ YK YL YM YN YO YP YR YS YT YU YV YW YX YZ Y0 Y7 Y9 Xa hHeld ⊢
        refine pu 0 22 HT_ ?_
        refine pu 2 24 HT_ ?_
        refine pu 5 27 HT_ ?_
        refine pu 7 29 HT_ ?_
        refine pu 10 32 HT_ ?_
        refine tk 1 23 HT_ HW_ hHeld ?_
        refine pu 3 25 HT_ ?_
        refine tk 4 26 HT_ HW_ hHeld ?_
        refine tk 6 28 HT_ HW_ hHeld ?_
        refine pu 8 30 HT_ ?_
        refine tk 9 31 HT_ HW_ hHeld ?_
        refine oN 11 33 HT_ (fun K hK=>?_)
        refine XO Tryz.func42 (by kernel_rfl) rfl #[.agg #[.int .i64 ((zu zV yK).f0),.bool ((zu zV yK).f1),.int .i64 ((zu zV yK).f2),.slice A236_3 ((zu zV yK).f3).length c236_3,.slice A236_4 ((zu zV yK).f4).length c236_4,.slice A236_5 ((zu zV yK).f5).length c236_5,.int .i64 ((zu zV yK).f6),.string ((zu zV yK).f7),.slice A236_8 ((zu zV yK).f8).length c236_8,.slice A236_9 ((zu zV yK).f9).length c236_9],.agg #[.int .i64 ((zu jB yK).f0),.bool ((zu jB yK).f1),.int .i64 ((zu jB yK).f2),.slice A237_3 ((zu jB yK).f3).length c237_3,.slice A237_4 ((zu jB yK).f4).length c237_4,.slice A237_5 ((zu jB yK).f5).length c237_5,.int .i64 ((zu jB yK).f6),.string ((zu jB yK).f7),.slice A237_8 ((zu jB yK).f8).length c237_8,.slice A237_9 ((zu jB yK).f9).length c237_9],.bool a2] (by rfl) rfl rfl em ?_
        with_reducible refine (zC.calls k1 ((zu zV yK).f0) ((zu zV yK).f1) ((zu zV yK).f2) _ _ ((zu zV yK).f3) _ _ ((zu zV yK).f4) _ _ ((zu zV yK).f5) ((zu zV yK).f6) ((zu zV yK).f7) _ _ ((zu zV yK).f8) _ _ ((zu zV yK).f9) ((zu jB yK).f0) ((zu jB yK).f1) ((zu jB yK).f2) _ _ ((zu jB yK).f3) _ _ ((zu jB yK).f4) _ _ ((zu jB yK).f5) ((zu jB yK).f6) ((zu jB yK).f7) _ _ ((zu jB yK).f8) _ _ ((zu jB yK).f9) a2 false _ ?yQ ?xG ?qW ?jw ?side5 ?side6 ?side7 ?side8 ?side9 ?Vl ?side11 ?side12 ?side13 ?side14 ?side15 ?side16 ?side17 ?side18 ?side19 ?side20 A13.out).mono ?_
        (case yQ=>exact co VU HB)
        (case xG=>exact HC236_3.out)
        (case qW=>exact co VW HB)
        (case jw=>exact HC236_4.out)
        (case side5=>exact co VX HB)
        (case side6=>exact HC236_5.out)
        (case side7=>exact co VY HB)
        (case side8=>exact HC236_8.out)
        (case side9=>exact co VZ HB)
        (case Vl=>exact HC236_9.out)
        (case side11=>exact co zao HB)
        (case side12=>exact HC237_3.out)
        (case side13=>exact co zaq HB)
        (case side14=>exact HC237_4.out)
        (case side15=>exact co zar HB)
        (case side16=>exact HC237_5.out)
        (case side17=>exact co zas HB)
        (case side18=>exact HC237_8.out)
        (case side19=>exact co zat HB)
        (case side20=>exact HC237_9.out)
        rintro e w22 ⟨rfl,hb⟩
        refine ⟨_,rfl,?_⟩
        replace vO:=BB vO hb;replace Yr:=BB Yr hb;replace HB:=BS HB hb
        refine hK.out _ _ ⟨(zi vO.out 0).trans rfl,(zi Yr.out 0).trans rfl,cu HB VT,cu HB VR,cu HB VQ,cu HB VP,cu HB VO,cu HB VN,cu HB VL,cu HB VK,cu HB VJ,cu HB VI,cu HB zan,cu HB zam,cu HB zal,cu HB zak,cu HB zaj,cu HB zai,cu HB zah,cu HB zaf,cu HB zae,cu HB zad⟩ (fun hHeld=>?_)
        clear hK K
        refine kX (a':=?_) ?_ ?_
        rotate_left
        ·show Act.put _ (some 33) _=_
         simp only [Act.put,List.setIfInBounds_toArray,List.set_cons_zero,List.set_cons_succ,xJ,xU]
         rfl
        refine pu 12 34 HT_ ?_
        refine Ji (ZO HT_.out (by kernel_rfl)) ?_
        try go_wp2
        go_ret
        exact ⟨ef,bl HB⟩
      ·rw [if_neg c12] at H
       exact absurd H (by simp)
     ·rw [if_neg c11] at H
      exact absurd H (by simp)
    ·rw [if_neg c10] at H
     have JA:=df c10
     clear c10
     obtain rfl:=Option.some.inj H
     have hnb23:=Yt.out
     have hnc23:=Yu.out
     obtain ⟨hcz24_0,hfz24_0⟩:=bk1 vO.out
     go_wp2
     go_ret
     exact ⟨ef,bl HB⟩
 ·rw [if_neg c4] at H
  have ZG:=bF c4
  have c4b1:=nT c4
  have c4b2:(zV.length == jB.length)=false:=by first|simpa using c4|(simp at c4 ⊢;omega)
  obtain rfl:=Option.some.inj H
  go_enter Tryz.func10,Tryz.ntmps10
  go_wp2_with (first|((with_reducible refine zB (N:=3) rfl ?_);refine zK ?hg (N:=3) ?hd (cs:=#[.slice ZX zV.length ZA]) (t:=25) ?hr ?_;(case hd=>rfl);(case hg=>rfl);(case hr=>first|(go_simp;done)|(go_simp;rfl));intro JD hg w25 hbox hb;have vO:=Ak (hbox);have GW234:=gs HB hg;have GE234:=gs HB hg;replace HB:=BS HB hb;clear hb hbox hg)|((with_reducible refine zB (N:=4) rfl ?_);refine zK ?hg (N:=4) ?hd (cs:=#[.slice A1_0 jB.length c1_0]) (t:=25) ?hr ?_;(case hd=>rfl);(case hg=>rfl);(case hr=>first|(go_simp;done)|(go_simp;rfl));intro gb235 hg w26 hbox hb;have Yr:=Ak (hbox);have GW235:=gs HB hg;have GE235:=gs HB hg;have Yt:=Ak ((by rw [hg];exact Nat.ne_of_lt (yx (g:=JD) (bo vO)):JD≠gb235));have Yu:=Ak ((by rw [hg];exact Nat.ne_of_gt (yx (g:=JD) (bo vO)):gb235≠JD));replace vO:=BB vO hb;replace HB:=BS HB hb;clear hb hbox hg;have hnb27:=Yt.out;have hnc27:=Yu.out;obtain ⟨hcz28_0,hfz28_0⟩:=bk1 vO.out;obtain ⟨hcz29_0,hfz29_0⟩:=bk1 Yr.out))
  go_ret
  exact ⟨ef,bl HB⟩
def qj.f (l0:List Int) (a1:Int):Option (Int):=if (l0.length:Int)=0 then (some a1) else (if 0≤(Int.tmod a1 (l0.length:Int)) then (if (Int.tmod a1 (l0.length:Int))<(l0.length:Int) then (some (wrap64 (rd l0 (Int.tmod a1 (l0.length:Int))))) else (none)) else (none))
theorem qj.calls (A0:Option Addr) (c0:Nat) (l0:List Int) (a1:Int) (r:Int) (w:World) (hr0:Kd.C (Kd.int .u8) w A0 l0.length l0) (hc0:l0.length≤c0) (h:qj.f l0 a1=some r) :
  Calls Tryz.prog 11 #[.slice A0 l0.length c0,.int .i64 a1] w fun e w'=>e=.returned (.int .i64 r)∧xX w w':=by
 have HR0:=Ak hr0;have HC0:=Ak hc0;clear hr0 hc0
 have H:(if (l0.length:Int)=0 then (some a1) else (if 0≤(Int.tmod a1 (l0.length:Int)) then (if (Int.tmod a1 (l0.length:Int))<(l0.length:Int) then (some (wrap64 (rd l0 (Int.tmod a1 (l0.length:Int))))) else (none)) else (none)))=some r:=h
 clear h
 by_cases c3:(l0.length:Int)=0
 ·rw [if_pos c3] at H
  have JZ:=bT c3
  have c3b1:=nF c3
  clear c3
  obtain rfl:=Option.some.inj H
  go_enter Tryz.func11,Tryz.ntmps11
  go_wp2
  go_ret
  exact ⟨by first|rfl|(simp;done)|(simp [*];done),dz⟩
 ·rw [if_neg c3] at H
  have JZ:=bF c3
  have c3b1:=nT c3
  have c3b2:¬ (l0=[]):=fun h_=>c3 (by rw [h_];rfl)
  obtain ⟨ji4,hji4⟩:∃ j_:Int,(Int.tmod a1 (l0.length:Int))=j_:=⟨_,rfl⟩
  replace H:(if 0≤(ji4) then (if (ji4)<(l0.length:Int) then (some (wrap64 (rd l0 (ji4)))) else (none)) else (none))=some r:=by first|(rw [hji4] at H;exact H)|(simp only [hji4] at H ⊢;exact H)
  by_cases c5:0≤(ji4)
  ·rw [if_pos c5] at H
   have Qk:=dt c5
   clear c5
   by_cases c6:(ji4)<(l0.length:Int)
   ·rw [if_pos c6] at H
    have c6b0:=dt c6
    clear c6
    obtain rfl:=Option.some.inj H
    have p239:0≤((ji4):Int):=od
    have q239:(ji4)<(l0.length:Int):=od
    obtain ⟨ad239,e239,hx239_0⟩:=Kd.vV HR0.out (ji4) p239 q239
    cases e239
    replace p239:=eq_true p239
    replace q239:=eq_true q239
    go_enter Tryz.func11,Tryz.ntmps11
    go_wp2
    go_ret
    exact ⟨by first|rfl|(simp;done)|(simp only [← hji4] <;> (first|rfl|simp))|(simp [*];done),dz⟩
   ·rw [if_neg c6] at H
    exact absurd H (by simp)
  ·rw [if_neg c5] at H
   exact absurd H (by simp)
end Go.Proofs.YtiekodnojmkfaaaGreatDoor.yD
