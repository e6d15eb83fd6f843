import Derived.Test.YtiekodnojmkfaaaGreatDoorPFnDumpx0
import Derived.Test.YtiekodnojmkfaaaGreatDoorPFnDumpx2
import Derived.Test.YtiekodnojmkfaaaGreatDoorPFnDumpx20
namespace Go.Proofs.YtiekodnojmkfaaaGreatDoor.yD
set_option maxHeartbeats 8000000
set_option maxRecDepth 100000
open Go.RowKit Go.Proofs.YtiekodnojmkfaaaGreatDoorW.zF Go.Proofs.YtiekodnojmkfaaaGreatDoorW.yC Go.Proofs.YtiekodnojmkfaaaGreatDoorW.yY
attribute [local go_sem] xM xO qG qH yZ xg xP xQ
set_option linter.unusedVariables false
set_option linter.unusedSimpArgs false
attribute [local go_sem high] eqA71
mutual
def zC.j0:Nat→Bool→Bool→Int→Bool→Int→List Int→List (S67)→List (S71)→Int→ByteArray→List Int→List ByteArray→Int→Bool→Int→List Int→List (S67)→List (S71)→Int→ByteArray→List Int→List ByteArray→Option (Bool)
 | 0,_,_,_,_,_,_,_,_,_,_,_,_,_,_,_,_,_,_,_,_,_,_=>none
 | k+1,x2,x42,pa,pb,pc,pd,pe,pf,pg,ph,pi,pj,pk,pl,pm,pn,po,pp,pq,pr,ps,pt=>if x42=true then (some false) else (zC.l0 k x2 0 pa pb pc pd pe pf pg ph pi pj pk pl pm pn po pp pq pr ps pt)
def zC.l0:Nat→Bool→Int→Int→Bool→Int→List Int→List (S67)→List (S71)→Int→ByteArray→List Int→List ByteArray→Int→Bool→Int→List Int→List (S67)→List (S71)→Int→ByteArray→List Int→List ByteArray→Option (Bool)
 | 0,_,_,_,_,_,_,_,_,_,_,_,_,_,_,_,_,_,_,_,_,_,_=>none
 | k+1,x2,x7,pa,pb,pc,pd,pe,pf,pg,ph,pi,pj,pk,pl,pm,pn,po,pp,pq,pr,ps,pt=>if x7<(pf.length:Int) then (if 0≤x7 then (if x7<(pp.length:Int) then (if (!(((jh pf x7).f0) == ((jh pp x7).f0)) || (!(((jh pf x7).f1) == ((jh pp x7).f1))))=true then (some false) else (zC.l0 k x2 (wrap64 (x7+1)) pa pb pc pd pe pf pg ph pi pj pk pl pm pn po pp pq pr ps pt)) else (none)) else (none)) else ((yu.f k pd pn).bind fun t230=>(if t230=true then ((yj.f k pe po).bind fun t231=>(zC.j2 k x2 (!t231) pa pb pc pd pe pf pg ph pi pj pk pl pm pn po pp pq pr ps pt)) else (zC.j2 k x2 true pa pb pc pd pe pf pg ph pi pj pk pl pm pn po pp pq pr ps pt)))
def zC.j2:Nat→Bool→Bool→Int→Bool→Int→List Int→List (S67)→List (S71)→Int→ByteArray→List Int→List ByteArray→Int→Bool→Int→List Int→List (S67)→List (S71)→Int→ByteArray→List Int→List ByteArray→Option (Bool)
 | 0,_,_,_,_,_,_,_,_,_,_,_,_,_,_,_,_,_,_,_,_,_,_=>none
 | k+1,x2,x74,pa,pb,pc,pd,pe,pf,pg,ph,pi,pj,pk,pl,pm,pn,po,pp,pq,pr,ps,pt=>if x74=true then (some false) else (if x2=true then (some true) else (if ph.toList=pr.toList then ((yw.f k pi ps).bind fun t232=>(if t232=true then ((yg.f k pj pt).bind fun t233=>(some t233)) else (some false))) else (some false)))
end
def zC.f (k:Nat) (yR:Int) (yX:Bool) (yN:Int) (xZ:List Int) (qc:List (S67)) (xu:List (S71)) (qX:Int) (qR:ByteArray) (xA:List Int) (yU:List ByteArray) (Qx:Int) (Xg:Bool) (Qy:Int) (Xo:List Int) (Xt:List (S67)) (Yi:List (S71)) (Qz:Int) (QA:ByteArray) (YH:List Int) (Xh:List ByteArray) (a2:Bool):Option (Bool):=if yR=Qx then (if (yX != Xg)=true then (zC.j0 k a2 true yR yX yN xZ qc xu qX qR xA yU Qx Xg Qy Xo Xt Yi Qz QA YH Xh) else (if yN=Qy then (if qX=Qz then (zC.j0 k a2 ((xu.length:Int) != (Yi.length:Int)) yR yX yN xZ qc xu qX qR xA yU Qx Xg Qy Xo Xt Yi Qz QA YH Xh) else (zC.j0 k a2 true yR yX yN xZ qc xu qX qR xA yU Qx Xg Qy Xo Xt Yi Qz QA YH Xh)) else (zC.j0 k a2 true yR yX yN xZ qc xu qX qR xA yU Qx Xg Qy Xo Xt Yi Qz QA YH Xh))) else (zC.j0 k a2 true yR yX yN xZ qc xu qX qR xA yU Qx Xg Qy Xo Xt Yi Qz QA YH Xh)
theorem zC.calls (k:Nat) (yR:Int) (yX:Bool) (yN:Int) (Qr:Option Addr) (Qs:Nat) (xZ:List Int) (Ql:Option Addr) (Qm:Nat) (qc:List (S67)) (Xl:Option Addr) (Xm:Nat) (xu:List (S71)) (qX:Int) (qR:ByteArray) (Yn:Option Addr) (Yo:Nat) (xA:List Int) (Z8:Option Addr) (Z9:Nat) (yU:List ByteArray) (Qx:Int) (Xg:Bool) (Qy:Int) (A1_3:Option Addr) (c1_3:Nat) (Xo:List Int) (A1_4:Option Addr) (c1_4:Nat) (Xt:List (S67)) (A1_5:Option Addr) (c1_5:Nat) (Yi:List (S71)) (Qz:Int) (QA:ByteArray) (A1_8:Option Addr) (c1_8:Nat) (YH:List Int) (A1_9:Option Addr) (c1_9:Nat) (Xh:List ByteArray) (a2:Bool) (r:Bool) (w:World) (J7:Kd.C (Kd.int .u32) w Qr xZ.length xZ) (J8:xZ.length≤Qs) (J9:Kd.C k67 w Ql qc.length qc) (Ko:qc.length≤Qm) (Kq:Kd.C k71 w Xl xu.length xu) (Kr:xu.length≤Xm) (Kt:Kd.C (Kd.int .i64) w Yn xA.length xA) (Ku:xA.length≤Yo) (Kv:Kd.C Kd.string w Z8 yU.length yU) (Kw:yU.length≤Z9) (hr1_3:Kd.C (Kd.int .u32) w A1_3 Xo.length Xo) (hc1_3:Xo.length≤c1_3) (hr1_4:Kd.C k67 w A1_4 Xt.length Xt) (hc1_4:Xt.length≤c1_4) (hr1_5:Kd.C k71 w A1_5 Yi.length Yi) (hc1_5:Yi.length≤c1_5) (hr1_8:Kd.C (Kd.int .i64) w A1_8 YH.length YH) (hc1_8:YH.length≤c1_8) (hr1_9:Kd.C Kd.string w A1_9 Xh.length Xh) (hc1_9:Xh.length≤c1_9) (h:zC.f k yR yX yN xZ qc xu qX qR xA yU Qx Xg Qy Xo Xt Yi Qz QA YH Xh a2=some r) :
  Calls Tryz.prog 42 #[.agg #[.int .i64 yR,.bool yX,.int .i64 yN,.slice Qr xZ.length Qs,.slice Ql qc.length Qm,.slice Xl xu.length Xm,.int .i64 qX,.string qR,.slice Yn xA.length Yo,.slice Z8 yU.length Z9],.agg #[.int .i64 Qx,.bool Xg,.int .i64 Qy,.slice A1_3 Xo.length c1_3,.slice A1_4 Xt.length c1_4,.slice A1_5 Yi.length c1_5,.int .i64 Qz,.string QA,.slice A1_8 YH.length c1_8,.slice A1_9 Xh.length c1_9],.bool a2] w fun e w'=>e=.returned (.bool r)∧Below w.heap.size w w':=by
 have hu56:=Tryz.underlying56
 have hu71:=Tryz.underlying71
 have HR0_3:=Ak J7;have HC0_3:=Ak J8;clear J7 J8;have Jf:=Ak J9;have Ky:=Ak Ko;clear J9 Ko;have Kz:=Ak Kq;have HC0_5:=Ak Kr;clear Kq Kr;have QS:=Ak Kt;have Jw:=Ak Ku;clear Kt Ku;have HR0_9:=Ak Kv;have HC0_9:=Ak Kw;clear Kv Kw;have HR1_3:=Ak hr1_3;have HC1_3:=Ak hc1_3;clear hr1_3 hc1_3
 have HR1_4:=Ak hr1_4;have HC1_4:=Ak hc1_4;clear hr1_4 hc1_4;have HR1_5:=Ak hr1_5;have HC1_5:=Ak hc1_5;clear hr1_5 hc1_5;have HR1_8:=Ak hr1_8;have HC1_8:=Ak hc1_8;clear hr1_8 hc1_8;have HR1_9:=Ak hr1_9;have HC1_9:=Ak hc1_9;clear hr1_9 hc1_9
 have HB:=Ak (Below.refl w.heap.size w)
 have H:(if yR=Qx then (if (yX != Xg)=true then (zC.j0 k a2 true yR yX yN xZ qc xu qX qR xA yU Qx Xg Qy Xo Xt Yi Qz QA YH Xh) else (if yN=Qy then (if qX=Qz then (zC.j0 k a2 ((xu.length:Int) != (Yi.length:Int)) yR yX yN xZ qc xu qX qR xA yU Qx Xg Qy Xo Xt Yi Qz QA YH Xh) else (zC.j0 k a2 true yR yX yN xZ qc xu qX qR xA yU Qx Xg Qy Xo Xt Yi Qz QA YH Xh)) else (zC.j0 k a2 true yR yX yN xZ qc xu qX qR xA yU Qx Xg Qy Xo Xt Yi Qz QA YH Xh))) else (zC.j0 k a2 true yR yX yN xZ qc xu qX qR xA yU Qx Xg Qy Xo Xt Yi Qz QA YH Xh))=some r:=h
 clear h;have HC4:=Ak H;clear H
 go_enter Tryz.func42,Tryz.ntmps42
 go_upto_region 1 with (first|((with_reducible refine zB (N:=3) rfl ?_);(try (refine yL (by rfl) ?_;dsimp only));refine zK ?hg (N:=3) ?hd (cs:=#[.int .i64 yR,.bool yX,.int .i64 yN,.slice Qr xZ.length Qs,.slice Ql qc.length Qm,.slice Xl xu.length Xm,.int .i64 qX,.string qR,.slice Yn xA.length Yo,.slice Z8 yU.length Z9]) (t:=56) ?hr ?_;(case hd=>rfl);(case hg=>rfl);(case hr=>first|(go_simp;done)|(go_simp;rfl));intro XM hg w5 hbox hb;have jL:=Ak (hbox);have GW226:=gs HB hg;have GE226:=gs HB hg;replace HB:=BS HB hb;clear hb hbox hg)|((with_reducible refine zB (N:=4) rfl ?_);(try (refine yL (by rfl) ?_;dsimp only));refine zK ?hg (N:=4) ?hd (cs:=#[.int .i64 Qx,.bool Xg,.int .i64 Qy,.slice A1_3 Xo.length c1_3,.slice A1_4 Xt.length c1_4,.slice A1_5 Yi.length c1_5,.int .i64 Qz,.string QA,.slice A1_8 YH.length c1_8,.slice A1_9 Xh.length c1_9]) (t:=56) ?hr ?_;(case hd=>rfl);(case hg=>rfl);(case hr=>first|(go_simp;done)|(go_simp;rfl));intro Vr hg w6 hbox hb;have Zo:=Ak (hbox);have GW227:=gs HB hg;have GE227:=gs HB hg;have jd:=Ak ((by rw [hg];exact Nat.ne_of_lt (yx (g:=XM) (bo jL)):XM≠Vr));have je:=Ak ((by rw [hg];exact Nat.ne_of_gt (yx (g:=XM) (bo jL)):Vr≠XM));replace jL:=BB jL hb;replace HB:=BS HB hb;clear hb hbox hg))
 repeat (go_quiet (first|((with_reducible refine zB (N:=3) rfl ?_);(try (refine yL (by rfl) ?_;dsimp only));refine zK ?hg (N:=3) ?hd (cs:=#[.int .i64 yR,.bool yX,.int .i64 yN,.slice Qr xZ.length Qs,.slice Ql qc.length Qm,.slice Xl xu.length Xm,.int .i64 qX,.string qR,.slice Yn xA.length Yo,.slice Z8 yU.length Z9]) (t:=56) ?hr ?_;(case hd=>rfl);(case hg=>rfl);(case hr=>first|(go_simp;done)|(go_simp;rfl));intro XM hg w5 hbox hb;have jL:=Ak (hbox);have GW226:=gs HB hg;have GE226:=gs HB hg;replace HB:=BS HB hb;clear hb hbox hg)|((with_reducible refine zB (N:=4) rfl ?_);(try (refine yL (by rfl) ?_;dsimp only));refine zK ?hg (N:=4) ?hd (cs:=#[.int .i64 Qx,.bool Xg,.int .i64 Qy,.slice A1_3 Xo.length c1_3,.slice A1_4 Xt.length c1_4,.slice A1_5 Yi.length c1_5,.int .i64 Qz,.string QA,.slice A1_8 YH.length c1_8,.slice A1_9 Xh.length c1_9]) (t:=56) ?hr ?_;(case hd=>rfl);(case hg=>rfl);(case hr=>first|(go_simp;done)|(go_simp;rfl));intro Vr hg w6 hbox hb;have Zo:=Ak (hbox);have GW227:=gs HB hg;have GE227:=gs HB hg;have jd:=Ak ((by rw [hg];exact Nat.ne_of_lt (yx (g:=XM) (bo jL)):XM≠Vr));have je:=Ak ((by rw [hg];exact Nat.ne_of_gt (yx (g:=XM) (bo jL)):Vr≠XM));replace jL:=BB jL hb;replace HB:=BS HB hb;clear hb hbox hg));go_upto_region 1 with (first|((with_reducible refine zB (N:=3) rfl ?_);(try (refine yL (by rfl) ?_;dsimp only));refine zK ?hg (N:=3) ?hd (cs:=#[.int .i64 yR,.bool yX,.int .i64 yN,.slice Qr xZ.length Qs,.slice Ql qc.length Qm,.slice Xl xu.length Xm,.int .i64 qX,.string qR,.slice Yn xA.length Yo,.slice Z8 yU.length Z9]) (t:=56) ?hr ?_;(case hd=>rfl);(case hg=>rfl);(case hr=>first|(go_simp;done)|(go_simp;rfl));intro XM hg w5 hbox hb;have jL:=Ak (hbox);have GW226:=gs HB hg;have GE226:=gs HB hg;replace HB:=BS HB hb;clear hb hbox hg)|((with_reducible refine zB (N:=4) rfl ?_);(try (refine yL (by rfl) ?_;dsimp only));refine zK ?hg (N:=4) ?hd (cs:=#[.int .i64 Qx,.bool Xg,.int .i64 Qy,.slice A1_3 Xo.length c1_3,.slice A1_4 Xt.length c1_4,.slice A1_5 Yi.length c1_5,.int .i64 Qz,.string QA,.slice A1_8 YH.length c1_8,.slice A1_9 Xh.length c1_9]) (t:=56) ?hr ?_;(case hd=>rfl);(case hg=>rfl);(case hr=>first|(go_simp;done)|(go_simp;rfl));intro Vr hg w6 hbox hb;have Zo:=Ak (hbox);have GW227:=gs HB hg;have GE227:=gs HB hg;have jd:=Ak ((by rw [hg];exact Nat.ne_of_lt (yx (g:=XM) (bo jL)):XM≠Vr));have je:=Ak ((by rw [hg];exact Nat.ne_of_gt (yx (g:=XM) (bo jL)):Vr≠XM));replace jL:=BB jL hb;replace HB:=BS HB hb;clear hb hbox hg)))
 (try simp only [Act.put,List.setIfInBounds_toArray,List.set_cons_zero,List.set_cons_succ])
 go_cut [42] (fun v42 wc=>∃ (kq:Nat) (x42_3:Bool),v42=.bool x42_3∧zh (zC.j0 kq a2 x42_3 yR yX yN xZ qc xu qX qR xA yU Qx Xg Qy Xo Xt Yi Qz QA YH Xh=some r)∧zh (kq≤k)∧zh (wc.heap[XM]?=some (.cells #[.int .i64 yR,.bool yX,.int .i64 yN,(.slice Qr xZ.length Qs),(.slice Ql qc.length Qm),(.slice Xl xu.length Xm),.int .i64 qX,.string qR,(.slice Yn xA.length Yo),(.slice Z8 yU.length Z9)] 56 (0,0)))∧zh (wc.heap[Vr]?=some (.cells #[.int .i64 Qx,.bool Xg,.int .i64 Qy,(.slice A1_3 Xo.length c1_3),(.slice A1_4 Xt.length c1_4),(.slice A1_5 Yi.length c1_5),.int .i64 Qz,.string QA,(.slice A1_8 YH.length c1_8),(.slice A1_9 Xh.length c1_9)] 56 (0,0)))∧zh (Below w.heap.size w wc))
 case first =>
  have H:=HC4.out
  clear HC4
  by_cases c7:yR=Qx
  ·rw [if_pos c7] at H
   have QI:=bT c7
   have c7b1:=nF c7
   clear c7
   (first|rw [QI]|(simp only [xJ,xU];rw [QI])|skip)
   by_cases c8:(yX != Xg)=true
   ·rw [if_pos c8] at H
    have c8b0:(yX != Xg)=true:=c8
    (try (have c8b1:decide (yX=Xg)=false:=by simpa using c8))
    (try (have c8b2:(yX == Xg)=false:=by simpa using c8))
    (try (have c8b3:¬ (yX=Xg):=by simpa using c8))
    clear c8
    have H':=Ak H
    clear H
    have hnb9:=jd.out
    have hnc9:=je.out
    obtain ⟨hcz10_0,hcz10_1,hcz10_2,hcz10_3,hcz10_4,hcz10_5,hcz10_6,hcz10_7,hcz10_8,hcz10_9,hfz10_0,hfz10_1,hfz10_2,hfz10_3,hfz10_4,hfz10_5,hfz10_6,hfz10_7,hfz10_8,hfz10_9⟩:=jV jL.out
    obtain ⟨hcz11_0,hcz11_1,hcz11_2,hcz11_3,hcz11_4,hcz11_5,hcz11_6,hcz11_7,hcz11_8,hcz11_9,hfz11_0,hfz11_1,hfz11_2,hfz11_3,hfz11_4,hfz11_5,hfz11_6,hfz11_7,hfz11_8,hfz11_9⟩:=jV Zo.out
    go_wp2
    repeat (go_quiet (fail);try go_wp2)
    go_meet
    case rel=>exact ⟨_,(true),es,H',⟨eo⟩,⟨bo jL⟩,⟨bo Zo⟩,⟨bl HB⟩⟩
   ·rw [if_neg c8] at H
    have c8b0:(yX != Xg)=false:=by simpa using c8
    (try (have c8b1:decide (yX=Xg)=true:=by simpa using c8))
    (try (have c8b2:(yX == Xg)=true:=by simpa using c8))
    clear c8
    by_cases c12:yN=Qy
    ·rw [if_pos c12] at H
     have Je:=bT c12
     have c12b1:=nF c12
     clear c12
     by_cases c13:qX=Qz
     ·rw [if_pos c13] at H
      have c13b0:=bT c13
      have c13b1:=nF c13
      clear c13
      have H':=Ak H
      clear H
      have hnb14:=jd.out
      have hnc14:=je.out
      obtain ⟨hcz15_0,hcz15_1,hcz15_2,hcz15_3,hcz15_4,hcz15_5,hcz15_6,hcz15_7,hcz15_8,hcz15_9,hfz15_0,hfz15_1,hfz15_2,hfz15_3,hfz15_4,hfz15_5,hfz15_6,hfz15_7,hfz15_8,hfz15_9⟩:=jV jL.out
      obtain ⟨hcz16_0,hcz16_1,hcz16_2,hcz16_3,hcz16_4,hcz16_5,hcz16_6,hcz16_7,hcz16_8,hcz16_9,hfz16_0,hfz16_1,hfz16_2,hfz16_3,hfz16_4,hfz16_5,hfz16_6,hfz16_7,hfz16_8,hfz16_9⟩:=jV Zo.out
      go_wp2
      repeat (go_quiet (fail);try go_wp2)
      go_meet
      case rel=>exact ⟨_,(((xu.length:Int) != (Yi.length:Int))),es,H',⟨eo⟩,⟨bo jL⟩,⟨bo Zo⟩,⟨bl HB⟩⟩
     ·rw [if_neg c13] at H
      have c13b0:=bF c13
      have c13b1:=nT c13
      have H':=Ak H
      clear H
      have hnb17:=jd.out
      have hnc17:=je.out
      obtain ⟨hcz18_0,hcz18_1,hcz18_2,hcz18_3,hcz18_4,hcz18_5,hcz18_6,hcz18_7,hcz18_8,hcz18_9,hfz18_0,hfz18_1,hfz18_2,hfz18_3,hfz18_4,hfz18_5,hfz18_6,hfz18_7,hfz18_8,hfz18_9⟩:=jV jL.out
      obtain ⟨hcz19_0,hcz19_1,hcz19_2,hcz19_3,hcz19_4,hcz19_5,hcz19_6,hcz19_7,hcz19_8,hcz19_9,hfz19_0,hfz19_1,hfz19_2,hfz19_3,hfz19_4,hfz19_5,hfz19_6,hfz19_7,hfz19_8,hfz19_9⟩:=jV Zo.out
      go_wp2
      repeat (go_quiet (fail);try go_wp2)
      go_meet
      case rel=>exact ⟨_,(true),es,H',⟨eo⟩,⟨bo jL⟩,⟨bo Zo⟩,⟨bl HB⟩⟩
    ·rw [if_neg c12] at H
     have Je:=bF c12
     have c12b1:=nT c12
     have H':=Ak H
     clear H
     have hnb20:=jd.out
     have hnc20:=je.out
     obtain ⟨hcz21_0,hcz21_1,hcz21_2,hcz21_3,hcz21_4,hcz21_5,hcz21_6,hcz21_7,hcz21_8,hcz21_9,hfz21_0,hfz21_1,hfz21_2,hfz21_3,hfz21_4,hfz21_5,hfz21_6,hfz21_7,hfz21_8,hfz21_9⟩:=jV jL.out
     obtain ⟨hcz22_0,hcz22_1,hcz22_2,hcz22_3,hcz22_4,hcz22_5,hcz22_6,hcz22_7,hcz22_8,hcz22_9,hfz22_0,hfz22_1,hfz22_2,hfz22_3,hfz22_4,hfz22_5,hfz22_6,hfz22_7,hfz22_8,hfz22_9⟩:=jV Zo.out
     go_wp2
     repeat (go_quiet (fail);try go_wp2)
     go_meet
     case rel=>exact ⟨_,(true),es,H',⟨eo⟩,⟨bo jL⟩,⟨bo Zo⟩,⟨bl HB⟩⟩
  ·rw [if_neg c7] at H
   have QI:=bF c7
   have c7b1:=nT c7
   (first|rw [QI]|(simp only [xJ,xU];rw [QI])|skip)
   have H':=Ak H
   clear H
   have hnb23:=jd.out
   have hnc23:=je.out
   obtain ⟨hcz24_0,hcz24_1,hcz24_2,hcz24_3,hcz24_4,hcz24_5,hcz24_6,hcz24_7,hcz24_8,hcz24_9,hfz24_0,hfz24_1,hfz24_2,hfz24_3,hfz24_4,hfz24_5,hfz24_6,hfz24_7,hfz24_8,hfz24_9⟩:=jV jL.out
   obtain ⟨hcz25_0,hcz25_1,hcz25_2,hcz25_3,hcz25_4,hcz25_5,hcz25_6,hcz25_7,hcz25_8,hcz25_9,hfz25_0,hfz25_1,hfz25_2,hfz25_3,hfz25_4,hfz25_5,hfz25_6,hfz25_7,hfz25_8,hfz25_9⟩:=jV Zo.out
   go_wp2
   repeat (go_quiet (fail);try go_wp2)
   go_meet
   case rel=>exact ⟨_,(true),es,H',⟨eo⟩,⟨bo jL⟩,⟨bo Zo⟩,⟨bl HB⟩⟩
 case rest =>
  clear HC4
  obtain ⟨kq,x42_3,rfl,HA,HJ3,jL,Zo,HB⟩:=hcut
  cases kq with
  | zero=>exact absurd HA.out (by simp [zC.j0])
  | succ kj3 =>
   have H:=HA.out
   clear HA
   simp only [zC.j0] at H
   by_cases c26:x42_3=true
   ·subst c26
    have H1:(some false)=some r:=by rw [if_pos rfl] at H;exact H
    clear H;have H:=H1;clear H1
    obtain rfl:=Option.some.inj H
    go_wp2
    repeat (go_quiet (fail);try go_wp2)
    go_ret
    exact ⟨ef,bl HB⟩
   ·replace c26:=Bool.eq_false_iff.mpr c26
    subst c26
    have H1:(zC.l0 kj3 a2 0 yR yX yN xZ qc xu qX qR xA yU Qx Xg Qy Xo Xt Yi Qz QA YH Xh)=some r:=by rw [if_neg (show ¬ (false=true) by decide)] at H;exact H
    clear H;have H:=H1;clear H1
    have H':=Ak H
    clear H
    go_wp2
    repeat (go_quiet (fail);try go_wp2)
    go_loopg [7] kj3 (fun kq v7 w'=>∃ (kU:Int),v7=.int .i64 kU∧zh (zC.l0 kq a2 kU yR yX yN xZ qc xu qX qR xA yU Qx Xg Qy Xo Xt Yi Qz QA YH Xh=some r)∧zh (kq≤kj3)∧zh (w'.heap[XM]?=some (.cells #[.int .i64 yR,.bool yX,.int .i64 yN,(.slice Qr xZ.length Qs),(.slice Ql qc.length Qm),(.slice Xl xu.length Xm),.int .i64 qX,.string qR,(.slice Yn xA.length Yo),(.slice Z8 yU.length Z9)] 56 (0,0)))∧zh (w'.heap[Vr]?=some (.cells #[.int .i64 Qx,.bool Xg,.int .i64 Qy,(.slice A1_3 Xo.length c1_3),(.slice A1_4 Xt.length c1_4),(.slice A1_5 Yi.length c1_5),.int .i64 Qz,.string QA,(.slice A1_8 YH.length c1_8),(.slice A1_9 Xh.length c1_9)] 56 (0,0)))∧zh (Below w.heap.size w w'))
    case atStart=>exact ⟨(0),es,H',⟨Nat.le_refl _⟩,⟨bo jL⟩,⟨bo Zo⟩,⟨bl HB⟩⟩
    case round =>
     clear H'
     obtain ⟨kU,rfl,HA,HK2,jL,Zo,HB⟩:=hrel
     cases gk with
     | zero=>exact absurd HA.out (by simp [zC.l0])
     | succ k2 =>
      have H:=HA.out
      clear HA
      simp only [zC.l0] at H
      by_cases c27:kU<(xu.length:Int)
      ·rw [if_pos c27] at H
       have c27b0:=dt c27
       clear c27
       by_cases c28:0≤kU
       ·rw [if_pos c28] at H
        have c28b0:=dt c28
        clear c28
        by_cases c29:kU<(Yi.length:Int)
        ·rw [if_pos c29] at H
         have c29b0:=dt c29
         clear c29
         by_cases c30:(!(((jh xu kU).f0) == ((jh Yi kU).f0)) || (!(((jh xu kU).f1) == ((jh Yi kU).f1))))=true
         ·rw [if_pos c30] at H
          have c30b0:(!(((jh xu kU).f0) == ((jh Yi kU).f0)) || (!(((jh xu kU).f1) == ((jh Yi kU).f1))))=true:=c30
          clear c30
          obtain rfl:=Option.some.inj H
          have hnb31:=jd.out
          have hnc31:=je.out
          obtain ⟨hcz32_0,hcz32_1,hcz32_2,hcz32_3,hcz32_4,hcz32_5,hcz32_6,hcz32_7,hcz32_8,hcz32_9,hfz32_0,hfz32_1,hfz32_2,hfz32_3,hfz32_4,hfz32_5,hfz32_6,hfz32_7,hfz32_8,hfz32_9⟩:=jV jL.out
          have p228:0≤(kU:Int):=od
          have q228:kU<(xu.length:Int):=od
          obtain ⟨ad228,e228,Vs,Vt⟩:=Jt Kz.out kU p228 q228
          cases e228
          replace Vs:=cu HB Vs
          replace Vt:=cu HB Vt
          replace p228:=eq_true p228
          replace q228:=eq_true q228
          obtain ⟨hcz33_0,hcz33_1,hcz33_2,hcz33_3,hcz33_4,hcz33_5,hcz33_6,hcz33_7,hcz33_8,hcz33_9,hfz33_0,hfz33_1,hfz33_2,hfz33_3,hfz33_4,hfz33_5,hfz33_6,hfz33_7,hfz33_8,hfz33_9⟩:=jV Zo.out
          have p229:0≤(kU:Int):=od
          have q229:kU<(Yi.length:Int):=od
          obtain ⟨ad229,e229,Vu,Vw⟩:=Jt HR1_5.out kU p229 q229
          cases e229
          replace Vu:=cu HB Vu
          replace Vw:=cu HB Vw
          replace p229:=eq_true p229
          replace q229:=eq_true q229
          go_wp2
          repeat (go_quiet (fail);try go_wp2)
          go_ret
          exact ⟨ef,bl HB⟩
         ·rw [if_neg c30] at H
          have c30b0:(!(((jh xu kU).f0) == ((jh Yi kU).f0)) || (!(((jh xu kU).f1) == ((jh Yi kU).f1))))=false:=by simpa using c30
          clear c30
          have H':=Ak H
          clear H
          have hnb34:=jd.out
          have hnc34:=je.out
          obtain ⟨hcz35_0,hcz35_1,hcz35_2,hcz35_3,hcz35_4,hcz35_5,hcz35_6,hcz35_7,hcz35_8,hcz35_9,hfz35_0,hfz35_1,hfz35_2,hfz35_3,hfz35_4,hfz35_5,hfz35_6,hfz35_7,hfz35_8,hfz35_9⟩:=jV jL.out
          have p228:0≤(kU:Int):=od
          have q228:kU<(xu.length:Int):=od
          obtain ⟨ad228,e228,Vs,Vt⟩:=Jt Kz.out kU p228 q228
          cases e228
          replace Vs:=cu HB Vs
          replace Vt:=cu HB Vt
          replace p228:=eq_true p228
          replace q228:=eq_true q228
          obtain ⟨hcz36_0,hcz36_1,hcz36_2,hcz36_3,hcz36_4,hcz36_5,hcz36_6,hcz36_7,hcz36_8,hcz36_9,hfz36_0,hfz36_1,hfz36_2,hfz36_3,hfz36_4,hfz36_5,hfz36_6,hfz36_7,hfz36_8,hfz36_9⟩:=jV Zo.out
          have p229:0≤(kU:Int):=od
          have q229:kU<(Yi.length:Int):=od
          obtain ⟨ad229,e229,Vu,Vw⟩:=Jt HR1_5.out kU p229 q229
          cases e229
          replace Vu:=cu HB Vu
          replace Vw:=cu HB Vw
          replace p229:=eq_true p229
          replace q229:=eq_true q229
          go_wp2
          repeat (go_quiet (fail);try go_wp2)
          go_roundg k2
          case measure=>have:=HJ3.out;have:=HK2.out;omega
          case rel=>exact ⟨(wrap64 (kU+1)),es,H',⟨by have:=HJ3.out;have:=HK2.out;omega⟩,⟨bo jL⟩,⟨bo Zo⟩,⟨bl HB⟩⟩
        ·rw [if_neg c29] at H
         exact absurd H (by simp)
       ·rw [if_neg c28] at H
        exact absurd H (by simp)
      ·rw [if_neg c27] at H
       have c27b0:=df c27
       clear c27;have HC37:=Ak H;clear H
       have hnb38:=jd.out
       have hnc38:=je.out
       obtain ⟨hcz39_0,hcz39_1,hcz39_2,hcz39_3,hcz39_4,hcz39_5,hcz39_6,hcz39_7,hcz39_8,hcz39_9,hfz39_0,hfz39_1,hfz39_2,hfz39_3,hfz39_4,hfz39_5,hfz39_6,hfz39_7,hfz39_8,hfz39_9⟩:=jV jL.out
       go_upto_region 8 with (fail)
       repeat (go_quiet (fail);go_upto_region 8 with (fail))
       go_cut [74] (fun v74 wc=>∃ (kq:Nat) (x74_36:Bool),v74=.bool x74_36∧zh (zC.j2 kq a2 x74_36 yR yX yN xZ qc xu qX qR xA yU Qx Xg Qy Xo Xt Yi Qz QA YH Xh=some r)∧zh (kq≤k2)∧zh (wc.heap[XM]?=some (.cells #[.int .i64 yR,.bool yX,.int .i64 yN,(.slice Qr xZ.length Qs),(.slice Ql qc.length Qm),(.slice Xl xu.length Xm),.int .i64 qX,.string qR,(.slice Yn xA.length Yo),(.slice Z8 yU.length Z9)] 56 (0,0)))∧zh (wc.heap[Vr]?=some (.cells #[.int .i64 Qx,.bool Xg,.int .i64 Qy,(.slice A1_3 Xo.length c1_3),(.slice A1_4 Xt.length c1_4),(.slice A1_5 Yi.length c1_5),.int .i64 Qz,.string QA,(.slice A1_8 YH.length c1_8),(.slice A1_9 Xh.length c1_9)] 56 (0,0)))∧zh (Below w.heap.size w wc))
       case first =>
        have H:=HC37.out
        clear HC37
        replace H:=Option.bind_eq_some_iff.mp H
        obtain ⟨t230,A400,H⟩:=H
        replace H:(if t230=true then ((yj.f k2 qc Xt).bind fun t231=>(zC.j2 k2 a2 (!t231) yR yX yN xZ qc xu qX qR xA yU Qx Xg Qy Xo Xt Yi Qz QA YH Xh)) else (zC.j2 k2 a2 true yR yX yN xZ qc xu qX qR xA yU Qx Xg Qy Xo Xt Yi Qz QA YH Xh))=some r:=H
        have A40:=Ak A400;clear A400
        by_cases c41:t230=true
        ·subst c41
         have H1:((yj.f k2 qc Xt).bind fun t231=>(zC.j2 k2 a2 (!t231) yR yX yN xZ qc xu qX qR xA yU Qx Xg Qy Xo Xt Yi Qz QA YH Xh))=some r:=by rw [if_pos rfl] at H;exact H
         clear H;have H:=H1;clear H1
         replace H:=Option.bind_eq_some_iff.mp H
         obtain ⟨t231,A420,H⟩:=H
         replace H:(zC.j2 k2 a2 (!t231) yR yX yN xZ qc xu qX qR xA yU Qx Xg Qy Xo Xt Yi Qz QA YH Xh)=some r:=H
         have A42:=Ak A420;clear A420
         have H':=Ak H
         clear H
         have hnb43:=jd.out
         have hnc43:=je.out
         obtain ⟨hcz44_0,hcz44_1,hcz44_2,hcz44_3,hcz44_4,hcz44_5,hcz44_6,hcz44_7,hcz44_8,hcz44_9,hfz44_0,hfz44_1,hfz44_2,hfz44_3,hfz44_4,hfz44_5,hfz44_6,hfz44_7,hfz44_8,hfz44_9⟩:=jV jL.out
         obtain ⟨hcz45_0,hcz45_1,hcz45_2,hcz45_3,hcz45_4,hcz45_5,hcz45_6,hcz45_7,hcz45_8,hcz45_9,hfz45_0,hfz45_1,hfz45_2,hfz45_3,hfz45_4,hfz45_5,hfz45_6,hfz45_7,hfz45_8,hfz45_9⟩:=jV Zo.out
         go_wp2_with (first|(go_at_call 88;(with_reducible refine (yu.calls k2 _ _ xZ _ _ Xo true _ ?yQ ?xG ?qW ?jw A40.out).mono ?_);(case yQ=>exact co HR0_3 HB);(case xG=>exact HC0_3.out);(case qW=>exact co HR1_3 HB);(case jw=>exact HC1_3.out);rintro e w' ⟨rfl,⟨nd,rfl⟩⟩;(try first|exact ⟨rfl,_,World.drewN_drewN _ _ _⟩|exact ⟨rfl,_,Eq.trans (World.drewN_drewN _ _ _) (congrArg (World.drewN _) (Nat.add_assoc _ _ _))⟩))|(go_at_call 89;(with_reducible refine (yj.calls k2 _ _ qc _ _ Xt t231 _ ?yQ ?xG ?qW ?jw A42.out).mono ?_);(case yQ=>repeat (first|exact (Kd.zY Jf.out (bl HB))|(with_reducible refine Kd.qC ?_ _)|(with_reducible refine Kd.qE ?_ _)|(with_reducible refine Kd.ji ?_)));(case xG=>exact Ky.out);(case qW=>repeat (first|exact (Kd.zY HR1_4.out (bl HB))|(with_reducible refine Kd.qC ?_ _)|(with_reducible refine Kd.qE ?_ _)|(with_reducible refine Kd.ji ?_)));(case jw=>exact HC1_4.out);rintro e w' ⟨rfl,⟨nd,rfl⟩⟩;(try first|exact ⟨rfl,_,World.drewN_drewN _ _ _⟩|exact ⟨rfl,_,Eq.trans (World.drewN_drewN _ _ _) (congrArg (World.drewN _) (Nat.add_assoc _ _ _))⟩)))
         repeat (go_quiet (first|(go_at_call 88;(with_reducible refine (yu.calls k2 _ _ xZ _ _ Xo true _ ?yQ ?xG ?qW ?jw A40.out).mono ?_);(case yQ=>exact co HR0_3 HB);(case xG=>exact HC0_3.out);(case qW=>exact co HR1_3 HB);(case jw=>exact HC1_3.out);rintro e w' ⟨rfl,⟨nd,rfl⟩⟩;(try first|exact ⟨rfl,_,World.drewN_drewN _ _ _⟩|exact ⟨rfl,_,Eq.trans (World.drewN_drewN _ _ _) (congrArg (World.drewN _) (Nat.add_assoc _ _ _))⟩))|(go_at_call 89;(with_reducible refine (yj.calls k2 _ _ qc _ _ Xt t231 _ ?yQ ?xG ?qW ?jw A42.out).mono ?_);(case yQ=>repeat (first|exact (Kd.zY Jf.out (bl HB))|(with_reducible refine Kd.qC ?_ _)|(with_reducible refine Kd.qE ?_ _)|(with_reducible refine Kd.ji ?_)));(case xG=>exact Ky.out);(case qW=>repeat (first|exact (Kd.zY HR1_4.out (bl HB))|(with_reducible refine Kd.qC ?_ _)|(with_reducible refine Kd.qE ?_ _)|(with_reducible refine Kd.ji ?_)));(case jw=>exact HC1_4.out);rintro e w' ⟨rfl,⟨nd,rfl⟩⟩;(try first|exact ⟨rfl,_,World.drewN_drewN _ _ _⟩|exact ⟨rfl,_,Eq.trans (World.drewN_drewN _ _ _) (congrArg (World.drewN _) (Nat.add_assoc _ _ _))⟩)));try go_wp2_with (first|(go_at_call 88;(with_reducible refine (yu.calls k2 _ _ xZ _ _ Xo true _ ?yQ ?xG ?qW ?jw A40.out).mono ?_);(case yQ=>exact co HR0_3 HB);(case xG=>exact HC0_3.out);(case qW=>exact co HR1_3 HB);(case jw=>exact HC1_3.out);rintro e w' ⟨rfl,⟨nd,rfl⟩⟩;(try first|exact ⟨rfl,_,World.drewN_drewN _ _ _⟩|exact ⟨rfl,_,Eq.trans (World.drewN_drewN _ _ _) (congrArg (World.drewN _) (Nat.add_assoc _ _ _))⟩))|(go_at_call 89;(with_reducible refine (yj.calls k2 _ _ qc _ _ Xt t231 _ ?yQ ?xG ?qW ?jw A42.out).mono ?_);(case yQ=>repeat (first|exact (Kd.zY Jf.out (bl HB))|(with_reducible refine Kd.qC ?_ _)|(with_reducible refine Kd.qE ?_ _)|(with_reducible refine Kd.ji ?_)));(case xG=>exact Ky.out);(case qW=>repeat (first|exact (Kd.zY HR1_4.out (bl HB))|(with_reducible refine Kd.qC ?_ _)|(with_reducible refine Kd.qE ?_ _)|(with_reducible refine Kd.ji ?_)));(case jw=>exact HC1_4.out);rintro e w' ⟨rfl,⟨nd,rfl⟩⟩;(try first|exact ⟨rfl,_,World.drewN_drewN _ _ _⟩|exact ⟨rfl,_,Eq.trans (World.drewN_drewN _ _ _) (congrArg (World.drewN _) (Nat.add_assoc _ _ _))⟩))))
         go_meet
         case rel=>exact ⟨_,(!t231),es,H',⟨by have:=HJ3.out;have:=HK2.out;first|omega|exact Nat.le_refl _⟩,⟨bo jL⟩,⟨bo Zo⟩,⟨bl HB⟩⟩
        ·replace c41:=Bool.eq_false_iff.mpr c41
         subst c41
         have H1:(zC.j2 k2 a2 true yR yX yN xZ qc xu qX qR xA yU Qx Xg Qy Xo Xt Yi Qz QA YH Xh)=some r:=by rw [if_neg (show ¬ (false=true) by decide)] at H;exact H
         clear H;have H:=H1;clear H1
         have H':=Ak H
         clear H
         have hnb46:=jd.out
         have hnc46:=je.out
         obtain ⟨hcz47_0,hcz47_1,hcz47_2,hcz47_3,hcz47_4,hcz47_5,hcz47_6,hcz47_7,hcz47_8,hcz47_9,hfz47_0,hfz47_1,hfz47_2,hfz47_3,hfz47_4,hfz47_5,hfz47_6,hfz47_7,hfz47_8,hfz47_9⟩:=jV jL.out
         obtain ⟨hcz48_0,hcz48_1,hcz48_2,hcz48_3,hcz48_4,hcz48_5,hcz48_6,hcz48_7,hcz48_8,hcz48_9,hfz48_0,hfz48_1,hfz48_2,hfz48_3,hfz48_4,hfz48_5,hfz48_6,hfz48_7,hfz48_8,hfz48_9⟩:=jV Zo.out
         go_wp2_with (first|(go_at_call 88;(with_reducible refine (yu.calls k2 _ _ xZ _ _ Xo false _ ?yQ ?xG ?qW ?jw A40.out).mono ?_);(case yQ=>exact co HR0_3 HB);(case xG=>exact HC0_3.out);(case qW=>exact co HR1_3 HB);(case jw=>exact HC1_3.out);rintro e w' ⟨rfl,⟨nd,rfl⟩⟩;(try first|exact ⟨rfl,_,World.drewN_drewN _ _ _⟩|exact ⟨rfl,_,Eq.trans (World.drewN_drewN _ _ _) (congrArg (World.drewN _) (Nat.add_assoc _ _ _))⟩)))
         repeat (go_quiet (first|(go_at_call 88;(with_reducible refine (yu.calls k2 _ _ xZ _ _ Xo false _ ?yQ ?xG ?qW ?jw A40.out).mono ?_);(case yQ=>exact co HR0_3 HB);(case xG=>exact HC0_3.out);(case qW=>exact co HR1_3 HB);(case jw=>exact HC1_3.out);rintro e w' ⟨rfl,⟨nd,rfl⟩⟩;(try first|exact ⟨rfl,_,World.drewN_drewN _ _ _⟩|exact ⟨rfl,_,Eq.trans (World.drewN_drewN _ _ _) (congrArg (World.drewN _) (Nat.add_assoc _ _ _))⟩)));try go_wp2_with (first|(go_at_call 88;(with_reducible refine (yu.calls k2 _ _ xZ _ _ Xo false _ ?yQ ?xG ?qW ?jw A40.out).mono ?_);(case yQ=>exact co HR0_3 HB);(case xG=>exact HC0_3.out);(case qW=>exact co HR1_3 HB);(case jw=>exact HC1_3.out);rintro e w' ⟨rfl,⟨nd,rfl⟩⟩;(try first|exact ⟨rfl,_,World.drewN_drewN _ _ _⟩|exact ⟨rfl,_,Eq.trans (World.drewN_drewN _ _ _) (congrArg (World.drewN _) (Nat.add_assoc _ _ _))⟩))))
         go_meet
         case rel=>exact ⟨_,(true),es,H',⟨by have:=HJ3.out;have:=HK2.out;first|omega|exact Nat.le_refl _⟩,⟨bo jL⟩,⟨bo Zo⟩,⟨bl HB⟩⟩
       case rest =>
        clear HC37
        obtain ⟨kq,x74_36,rfl,HA,HJ36,jL,Zo,HB⟩:=hcut
        cases kq with
        | zero=>exact absurd HA.out (by simp [zC.j2])
        | succ kj36 =>
         have H:=HA.out
         clear HA
         simp only [zC.j2] at H
         by_cases c49:x74_36=true
         ·subst c49
          have H1:(some false)=some r:=by rw [if_pos rfl] at H;exact H
          clear H;have H:=H1;clear H1
          obtain rfl:=Option.some.inj H
          go_wp2
          repeat (go_quiet (fail);try go_wp2)
          go_ret
          exact ⟨ef,bl HB⟩
         ·replace c49:=Bool.eq_false_iff.mpr c49
          subst c49
          have H1:(if a2=true then (some true) else (if qR.toList=QA.toList then ((yw.f kj36 xA YH).bind fun t232=>(if t232=true then ((yg.f kj36 yU Xh).bind fun t233=>(some t233)) else (some false))) else (some false)))=some r:=by rw [if_neg (show ¬ (false=true) by decide)] at H;exact H
          clear H;have H:=H1;clear H1
          by_cases c50:a2=true
          ·subst c50
           have H1:(some true)=some r:=by rw [if_pos rfl] at H;exact H
           clear H;have H:=H1;clear H1
           obtain rfl:=Option.some.inj H
           go_wp2
           repeat (go_quiet (fail);try go_wp2)
           go_ret
           exact ⟨ef,bl HB⟩
          ·replace c50:=Bool.eq_false_iff.mpr c50
           subst c50
           have H1:(if qR.toList=QA.toList then ((yw.f kj36 xA YH).bind fun t232=>(if t232=true then ((yg.f kj36 yU Xh).bind fun t233=>(some t233)) else (some false))) else (some false))=some r:=by rw [if_neg (show ¬ (false=true) by decide)] at H;exact H
           clear H;have H:=H1;clear H1
           by_cases c51:qR.toList=QA.toList
           ·rw [if_pos c51] at H
            have c51b0:=bT c51
            have c51b1:=nF c51
            clear c51
            replace H:=Option.bind_eq_some_iff.mp H
            obtain ⟨t232,A520,H⟩:=H
            replace H:(if t232=true then ((yg.f kj36 yU Xh).bind fun t233=>(some t233)) else (some false))=some r:=H
            have A52:=Ak A520;clear A520
            by_cases c53:t232=true
            ·subst c53
             have H1:((yg.f kj36 yU Xh).bind fun t233=>(some t233))=some r:=by rw [if_pos rfl] at H;exact H
             clear H;have H:=H1;clear H1
             replace H:=Option.bind_eq_some_iff.mp H
             obtain ⟨t233,A540,H⟩:=H
             replace H:(some t233)=some r:=H
             have A54:=Ak A540;clear A540
             obtain rfl:=Option.some.inj H
             have hnb55:=jd.out
             have hnc55:=je.out
             obtain ⟨hcz56_0,hcz56_1,hcz56_2,hcz56_3,hcz56_4,hcz56_5,hcz56_6,hcz56_7,hcz56_8,hcz56_9,hfz56_0,hfz56_1,hfz56_2,hfz56_3,hfz56_4,hfz56_5,hfz56_6,hfz56_7,hfz56_8,hfz56_9⟩:=jV jL.out
             obtain ⟨hcz57_0,hcz57_1,hcz57_2,hcz57_3,hcz57_4,hcz57_5,hcz57_6,hcz57_7,hcz57_8,hcz57_9,hfz57_0,hfz57_1,hfz57_2,hfz57_3,hfz57_4,hfz57_5,hfz57_6,hfz57_7,hfz57_8,hfz57_9⟩:=jV Zo.out
             go_wp2_with (first|(go_at_call 90;(with_reducible refine (yw.calls kj36 _ _ xA _ _ YH true _ ?yQ ?xG ?qW ?jw A52.out).mono ?_);(case yQ=>exact co QS HB);(case xG=>exact Jw.out);(case qW=>exact co HR1_8 HB);(case jw=>exact HC1_8.out);rintro e w' ⟨rfl,⟨nd,rfl⟩⟩;(try first|exact ⟨rfl,_,World.drewN_drewN _ _ _⟩|exact ⟨rfl,_,Eq.trans (World.drewN_drewN _ _ _) (congrArg (World.drewN _) (Nat.add_assoc _ _ _))⟩))|(go_at_call 91;(with_reducible refine (yg.calls kj36 _ _ yU _ _ Xh t233 _ ?yQ ?xG ?qW ?jw A54.out).mono ?_);(case yQ=>repeat (first|exact (Kd.zY HR0_9.out (bl HB))|(with_reducible refine Kd.qC ?_ _)|(with_reducible refine Kd.qE ?_ _)|(with_reducible refine Kd.ji ?_)));(case xG=>exact HC0_9.out);(case qW=>repeat (first|exact (Kd.zY HR1_9.out (bl HB))|(with_reducible refine Kd.qC ?_ _)|(with_reducible refine Kd.qE ?_ _)|(with_reducible refine Kd.ji ?_)));(case jw=>exact HC1_9.out);rintro e w' ⟨rfl,⟨nd,rfl⟩⟩;(try first|exact ⟨rfl,_,World.drewN_drewN _ _ _⟩|exact ⟨rfl,_,Eq.trans (World.drewN_drewN _ _ _) (congrArg (World.drewN _) (Nat.add_assoc _ _ _))⟩)))
             repeat (go_quiet (first|(go_at_call 90;(with_reducible refine (yw.calls kj36 _ _ xA _ _ YH true _ ?yQ ?xG ?qW ?jw A52.out).mono ?_);(case yQ=>exact co QS HB);(case xG=>exact Jw.out);(case qW=>exact co HR1_8 HB);(case jw=>exact HC1_8.out);rintro e w' ⟨rfl,⟨nd,rfl⟩⟩;(try first|exact ⟨rfl,_,World.drewN_drewN _ _ _⟩|exact ⟨rfl,_,Eq.trans (World.drewN_drewN _ _ _) (congrArg (World.drewN _) (Nat.add_assoc _ _ _))⟩))|(go_at_call 91;(with_reducible refine (yg.calls kj36 _ _ yU _ _ Xh t233 _ ?yQ ?xG ?qW ?jw A54.out).mono ?_);(case yQ=>repeat (first|exact (Kd.zY HR0_9.out (bl HB))|(with_reducible refine Kd.qC ?_ _)|(with_reducible refine Kd.qE ?_ _)|(with_reducible refine Kd.ji ?_)));(case xG=>exact HC0_9.out);(case qW=>repeat (first|exact (Kd.zY HR1_9.out (bl HB))|(with_reducible refine Kd.qC ?_ _)|(with_reducible refine Kd.qE ?_ _)|(with_reducible refine Kd.ji ?_)));(case jw=>exact HC1_9.out);rintro e w' ⟨rfl,⟨nd,rfl⟩⟩;(try first|exact ⟨rfl,_,World.drewN_drewN _ _ _⟩|exact ⟨rfl,_,Eq.trans (World.drewN_drewN _ _ _) (congrArg (World.drewN _) (Nat.add_assoc _ _ _))⟩)));try go_wp2_with (first|(go_at_call 90;(with_reducible refine (yw.calls kj36 _ _ xA _ _ YH true _ ?yQ ?xG ?qW ?jw A52.out).mono ?_);(case yQ=>exact co QS HB);(case xG=>exact Jw.out);(case qW=>exact co HR1_8 HB);(case jw=>exact HC1_8.out);rintro e w' ⟨rfl,⟨nd,rfl⟩⟩;(try first|exact ⟨rfl,_,World.drewN_drewN _ _ _⟩|exact ⟨rfl,_,Eq.trans (World.drewN_drewN _ _ _) (congrArg (World.drewN _) (Nat.add_assoc _ _ _))⟩))|(go_at_call 91;(with_reducible refine (yg.calls kj36 _ _ yU _ _ Xh t233 _ ?yQ ?xG ?qW ?jw A54.out).mono ?_);(case yQ=>repeat (first|exact (Kd.zY HR0_9.out (bl HB))|(with_reducible refine Kd.qC ?_ _)|(with_reducible refine Kd.qE ?_ _)|(with_reducible refine Kd.ji ?_)));(case xG=>exact HC0_9.out);(case qW=>repeat (first|exact (Kd.zY HR1_9.out (bl HB))|(with_reducible refine Kd.qC ?_ _)|(with_reducible refine Kd.qE ?_ _)|(with_reducible refine Kd.ji ?_)));(case jw=>exact HC1_9.out);rintro e w' ⟨rfl,⟨nd,rfl⟩⟩;(try first|exact ⟨rfl,_,World.drewN_drewN _ _ _⟩|exact ⟨rfl,_,Eq.trans (World.drewN_drewN _ _ _) (congrArg (World.drewN _) (Nat.add_assoc _ _ _))⟩))))
             go_ret
             exact ⟨ef,bl HB⟩
            ·replace c53:=Bool.eq_false_iff.mpr c53
             subst c53
             have H1:(some false)=some r:=by rw [if_neg (show ¬ (false=true) by decide)] at H;exact H
             clear H;have H:=H1;clear H1
             obtain rfl:=Option.some.inj H
             have hnb58:=jd.out
             have hnc58:=je.out
             obtain ⟨hcz59_0,hcz59_1,hcz59_2,hcz59_3,hcz59_4,hcz59_5,hcz59_6,hcz59_7,hcz59_8,hcz59_9,hfz59_0,hfz59_1,hfz59_2,hfz59_3,hfz59_4,hfz59_5,hfz59_6,hfz59_7,hfz59_8,hfz59_9⟩:=jV jL.out
             obtain ⟨hcz60_0,hcz60_1,hcz60_2,hcz60_3,hcz60_4,hcz60_5,hcz60_6,hcz60_7,hcz60_8,hcz60_9,hfz60_0,hfz60_1,hfz60_2,hfz60_3,hfz60_4,hfz60_5,hfz60_6,hfz60_7,hfz60_8,hfz60_9⟩:=jV Zo.out
             go_wp2_with (first|(go_at_call 90;(with_reducible refine (yw.calls kj36 _ _ xA _ _ YH false _ ?yQ ?xG ?qW ?jw A52.out).mono ?_);(case yQ=>exact co QS HB);(case xG=>exact Jw.out);(case qW=>exact co HR1_8 HB);(case jw=>exact HC1_8.out);rintro e w' ⟨rfl,⟨nd,rfl⟩⟩;(try first|exact ⟨rfl,_,World.drewN_drewN _ _ _⟩|exact ⟨rfl,_,Eq.trans (World.drewN_drewN _ _ _) (congrArg (World.drewN _) (Nat.add_assoc _ _ _))⟩)))
             repeat (go_quiet (first|(go_at_call 90;(with_reducible refine (yw.calls kj36 _ _ xA _ _ YH false _ ?yQ ?xG ?qW ?jw A52.out).mono ?_);(case yQ=>exact co QS HB);(case xG=>exact Jw.out);(case qW=>exact co HR1_8 HB);(case jw=>exact HC1_8.out);rintro e w' ⟨rfl,⟨nd,rfl⟩⟩;(try first|exact ⟨rfl,_,World.drewN_drewN _ _ _⟩|exact ⟨rfl,_,Eq.trans (World.drewN_drewN _ _ _) (congrArg (World.drewN _) (Nat.add_assoc _ _ _))⟩)));try go_wp2_with (first|(go_at_call 90;(with_reducible refine (yw.calls kj36 _ _ xA _ _ YH false _ ?yQ ?xG ?qW ?jw A52.out).mono ?_);(case yQ=>exact co QS HB);(case xG=>exact Jw.out);(case qW=>exact co HR1_8 HB);(case jw=>exact HC1_8.out);rintro e w' ⟨rfl,⟨nd,rfl⟩⟩;(try first|exact ⟨rfl,_,World.drewN_drewN _ _ _⟩|exact ⟨rfl,_,Eq.trans (World.drewN_drewN _ _ _) (congrArg (World.drewN _) (Nat.add_assoc _ _ _))⟩))))
             go_ret
             exact ⟨ef,bl HB⟩
           ·rw [if_neg c51] at H
            have c51b0:=bF c51
            have c51b1:=nT c51
            obtain rfl:=Option.some.inj H
            have hnb61:=jd.out
            have hnc61:=je.out
            obtain ⟨hcz62_0,hcz62_1,hcz62_2,hcz62_3,hcz62_4,hcz62_5,hcz62_6,hcz62_7,hcz62_8,hcz62_9,hfz62_0,hfz62_1,hfz62_2,hfz62_3,hfz62_4,hfz62_5,hfz62_6,hfz62_7,hfz62_8,hfz62_9⟩:=jV jL.out
            obtain ⟨hcz63_0,hcz63_1,hcz63_2,hcz63_3,hcz63_4,hcz63_5,hcz63_6,hcz63_7,hcz63_8,hcz63_9,hfz63_0,hfz63_1,hfz63_2,hfz63_3,hfz63_4,hfz63_5,hfz63_6,hfz63_7,hfz63_8,hfz63_9⟩:=jV Zo.out
            go_wp2
            repeat (go_quiet (fail);try go_wp2)
            go_ret
            exact ⟨ef,bl HB⟩
end Go.Proofs.YtiekodnojmkfaaaGreatDoor.yD
