import Derived.Test.YtiekodnojmkfaaaGreatDoorPFnDumpx0
import Derived.Test.YtiekodnojmkfaaaGreatDoorPFnDumpx4
namespace Go.Proofs.YtiekodnojmkfaaaGreatDoor.yD
set_option maxHeartbeats 32000000
set_option maxRecDepth 100000
open Go.RowKit Go.Proofs.YtiekodnojmkfaaaGreatDoorW.zF Go.Proofs.YtiekodnojmkfaaaGreatDoorW.yC Go.Proofs.YtiekodnojmkfaaaGreatDoorW.yY
attribute [local go_sem] xM xO qG qH yZ xg xP xQ
set_option linter.unusedVariables false
set_option linter.unusedSimpArgs false
def XP.f (a0:Int) (a1:Int) (a2:Int):Option (Int×Int×Int×Int×Int):=if a0<0 then (some (0,0,0,0,0)) else (if a0 > 63 then (some (0,0,0,0,0)) else (if a1<0 then (some (0,0,0,0,0)) else (if a1 > 255 then (some (0,0,0,0,0)) else (if a2<(-131072) then (some (0,0,0,0,0)) else (if a2 > 131071 then (some (0,0,0,0,0)) else (some (a0,a1,Int.tmod (wrap64 (a2+131072)) 512,wrap64 (Int.tdiv (wrap64 (a2+131072)) 512),a2)))))))
theorem XP.calls (a0:Int) (a1:Int) (a2:Int) (r1:Int) (r2:Int) (r3:Int) (r4:Int) (r5:Int) (w:World) (h:XP.f a0 a1 a2=some (r1,r2,r3,r4,r5)) :
  Calls Tryz.prog 125 #[.int .i64 a0,.int .i64 a1,.int .i64 a2] w fun e w'=>e=.returned (.agg #[.int .i64 r1,.int .i64 r2,.int .i64 r3,.int .i64 r4,.int .i64 r5])∧Below w.heap.size w w':=by
 have hu106:=Tryz.underlying106
 have HB:=Ak (Below.refl w.heap.size w)
 have H:(if a0<0 then (some (0,0,0,0,0)) else (if a0 > 63 then (some (0,0,0,0,0)) else (if a1<0 then (some (0,0,0,0,0)) else (if a1 > 255 then (some (0,0,0,0,0)) else (if a2<(-131072) then (some (0,0,0,0,0)) else (if a2 > 131071 then (some (0,0,0,0,0)) else (some (a0,a1,Int.tmod (wrap64 (a2+131072)) 512,wrap64 (Int.tdiv (wrap64 (a2+131072)) 512),a2))))))))=some (r1,r2,r3,r4,r5):=h
 clear h
 by_cases c4:a0<0
 ·rw [if_pos c4] at H
  have ZG:=dt c4
  clear c4
  simp only [Option.some.injEq,Prod.mk.injEq] at H
  obtain ⟨rfl,rfl,rfl,rfl,rfl⟩:=H
  go_enter Tryz.func125,Tryz.ntmps125
  go_wp2_with (first|((with_reducible refine zB (N:=6) rfl ?_);refine zK ?hg (N:=6) ?hd (cs:=#[.int .i64 0,.int .i64 0,.int .i64 0,.int .i64 0,.int .i64 0]) (t:=106) ?hr ?_;(case hd=>rfl);(case hg=>rfl);(case hr=>first|(go_simp;done)|(go_simp;rfl));intro Jj hg w5 hbox hb;have Yw:=Ak (hbox);have GW112:=gs HB hg;have GE112:=gs HB hg;replace HB:=BS HB hb;clear hb hbox hg;obtain ⟨hcz6_0,hcz6_1,hcz6_2,hcz6_3,hcz6_4,hfz6_0,hfz6_1,hfz6_2,hfz6_3,hfz6_4⟩:=bk5 Yw.out))
  refine bodyPost_ret (results_cell_row rfl _ _ Jj 106 #[.int .i64 0,.int .i64 0,.int .i64 0,.int .i64 0,.int .i64 0] (0,0) _ rfl (bq Yw) Tryz.underlying106 rfl (by kernel_rfl)) rfl ?_
  exact ⟨ef,bl HB⟩
 ·rw [if_neg c4] at H
  have ZG:=df c4
  clear c4
  by_cases c7:a0 > 63
  ·rw [if_pos c7] at H
   have QI:=tg c7
   clear c7
   simp only [Option.some.injEq,Prod.mk.injEq] at H
   obtain ⟨rfl,rfl,rfl,rfl,rfl⟩:=H
   go_enter Tryz.func125,Tryz.ntmps125
   go_wp2_with (first|((with_reducible refine zB (N:=6) rfl ?_);refine zK ?hg (N:=6) ?hd (cs:=#[.int .i64 0,.int .i64 0,.int .i64 0,.int .i64 0,.int .i64 0]) (t:=106) ?hr ?_;(case hd=>rfl);(case hg=>rfl);(case hr=>first|(go_simp;done)|(go_simp;rfl));intro Jj hg w8 hbox hb;have Yw:=Ak (hbox);have GW112:=gs HB hg;have GE112:=gs HB hg;replace HB:=BS HB hb;clear hb hbox hg;obtain ⟨hcz9_0,hcz9_1,hcz9_2,hcz9_3,hcz9_4,hfz9_0,hfz9_1,hfz9_2,hfz9_3,hfz9_4⟩:=bk5 Yw.out))
   refine bodyPost_ret (results_cell_row rfl _ _ Jj 106 #[.int .i64 0,.int .i64 0,.int .i64 0,.int .i64 0,.int .i64 0] (0,0) _ rfl (bq Yw) Tryz.underlying106 rfl (by kernel_rfl)) rfl ?_
   exact ⟨ef,bl HB⟩
  ·rw [if_neg c7] at H
   have QI:=fg c7
   clear c7
   by_cases c10:a1<0
   ·rw [if_pos c10] at H
    have JA:=dt c10
    clear c10
    simp only [Option.some.injEq,Prod.mk.injEq] at H
    obtain ⟨rfl,rfl,rfl,rfl,rfl⟩:=H
    go_enter Tryz.func125,Tryz.ntmps125
    go_wp2_with (first|((with_reducible refine zB (N:=6) rfl ?_);refine zK ?hg (N:=6) ?hd (cs:=#[.int .i64 0,.int .i64 0,.int .i64 0,.int .i64 0,.int .i64 0]) (t:=106) ?hr ?_;(case hd=>rfl);(case hg=>rfl);(case hr=>first|(go_simp;done)|(go_simp;rfl));intro Jj hg w11 hbox hb;have Yw:=Ak (hbox);have GW112:=gs HB hg;have GE112:=gs HB hg;replace HB:=BS HB hb;clear hb hbox hg;obtain ⟨hcz12_0,hcz12_1,hcz12_2,hcz12_3,hcz12_4,hfz12_0,hfz12_1,hfz12_2,hfz12_3,hfz12_4⟩:=bk5 Yw.out))
    refine bodyPost_ret (results_cell_row rfl _ _ Jj 106 #[.int .i64 0,.int .i64 0,.int .i64 0,.int .i64 0,.int .i64 0] (0,0) _ rfl (bq Yw) Tryz.underlying106 rfl (by kernel_rfl)) rfl ?_
    exact ⟨ef,bl HB⟩
   ·rw [if_neg c10] at H
    have JA:=df c10
    clear c10
    by_cases c13:a1 > 255
    ·rw [if_pos c13] at H
     have c13b0:=tg c13
     clear c13
     simp only [Option.some.injEq,Prod.mk.injEq] at H
     obtain ⟨rfl,rfl,rfl,rfl,rfl⟩:=H
     go_enter Tryz.func125,Tryz.ntmps125
     go_wp2_with (first|((with_reducible refine zB (N:=6) rfl ?_);refine zK ?hg (N:=6) ?hd (cs:=#[.int .i64 0,.int .i64 0,.int .i64 0,.int .i64 0,.int .i64 0]) (t:=106) ?hr ?_;(case hd=>rfl);(case hg=>rfl);(case hr=>first|(go_simp;done)|(go_simp;rfl));intro Jj hg w14 hbox hb;have Yw:=Ak (hbox);have GW112:=gs HB hg;have GE112:=gs HB hg;replace HB:=BS HB hb;clear hb hbox hg;obtain ⟨hcz15_0,hcz15_1,hcz15_2,hcz15_3,hcz15_4,hfz15_0,hfz15_1,hfz15_2,hfz15_3,hfz15_4⟩:=bk5 Yw.out))
     refine bodyPost_ret (results_cell_row rfl _ _ Jj 106 #[.int .i64 0,.int .i64 0,.int .i64 0,.int .i64 0,.int .i64 0] (0,0) _ rfl (bq Yw) Tryz.underlying106 rfl (by kernel_rfl)) rfl ?_
     exact ⟨ef,bl HB⟩
    ·rw [if_neg c13] at H
     have c13b0:=fg c13
     clear c13
     by_cases c16:a2<(-131072)
     ·rw [if_pos c16] at H
      have c16b0:=dt c16
      clear c16
      simp only [Option.some.injEq,Prod.mk.injEq] at H
      obtain ⟨rfl,rfl,rfl,rfl,rfl⟩:=H
      go_enter Tryz.func125,Tryz.ntmps125
      go_wp2_with (first|((with_reducible refine zB (N:=6) rfl ?_);refine zK ?hg (N:=6) ?hd (cs:=#[.int .i64 0,.int .i64 0,.int .i64 0,.int .i64 0,.int .i64 0]) (t:=106) ?hr ?_;(case hd=>rfl);(case hg=>rfl);(case hr=>first|(go_simp;done)|(go_simp;rfl));intro Jj hg w17 hbox hb;have Yw:=Ak (hbox);have GW112:=gs HB hg;have GE112:=gs HB hg;replace HB:=BS HB hb;clear hb hbox hg;obtain ⟨hcz18_0,hcz18_1,hcz18_2,hcz18_3,hcz18_4,hfz18_0,hfz18_1,hfz18_2,hfz18_3,hfz18_4⟩:=bk5 Yw.out))
      refine bodyPost_ret (results_cell_row rfl _ _ Jj 106 #[.int .i64 0,.int .i64 0,.int .i64 0,.int .i64 0,.int .i64 0] (0,0) _ rfl (bq Yw) Tryz.underlying106 rfl (by kernel_rfl)) rfl ?_
      exact ⟨ef,bl HB⟩
     ·rw [if_neg c16] at H
      have c16b0:=df c16
      clear c16
      by_cases c19:a2 > 131071
      ·rw [if_pos c19] at H
       have c19b0:=tg c19
       clear c19
       simp only [Option.some.injEq,Prod.mk.injEq] at H
       obtain ⟨rfl,rfl,rfl,rfl,rfl⟩:=H
       go_enter Tryz.func125,Tryz.ntmps125
       go_wp2_with (first|((with_reducible refine zB (N:=6) rfl ?_);refine zK ?hg (N:=6) ?hd (cs:=#[.int .i64 0,.int .i64 0,.int .i64 0,.int .i64 0,.int .i64 0]) (t:=106) ?hr ?_;(case hd=>rfl);(case hg=>rfl);(case hr=>first|(go_simp;done)|(go_simp;rfl));intro Jj hg w20 hbox hb;have Yw:=Ak (hbox);have GW112:=gs HB hg;have GE112:=gs HB hg;replace HB:=BS HB hb;clear hb hbox hg;obtain ⟨hcz21_0,hcz21_1,hcz21_2,hcz21_3,hcz21_4,hfz21_0,hfz21_1,hfz21_2,hfz21_3,hfz21_4⟩:=bk5 Yw.out))
       refine bodyPost_ret (results_cell_row rfl _ _ Jj 106 #[.int .i64 0,.int .i64 0,.int .i64 0,.int .i64 0,.int .i64 0] (0,0) _ rfl (bq Yw) Tryz.underlying106 rfl (by kernel_rfl)) rfl ?_
       exact ⟨ef,bl HB⟩
      ·rw [if_neg c19] at H
       have c19b0:=fg c19
       clear c19
       simp only [Option.some.injEq,Prod.mk.injEq] at H
       obtain ⟨rfl,rfl,rfl,rfl,rfl⟩:=H
       go_enter Tryz.func125,Tryz.ntmps125
       go_wp2_with (first|((with_reducible refine zB (N:=6) rfl ?_);refine zK ?hg (N:=6) ?hd (cs:=#[.int .i64 0,.int .i64 0,.int .i64 0,.int .i64 0,.int .i64 0]) (t:=106) ?hr ?_;(case hd=>rfl);(case hg=>rfl);(case hr=>first|(go_simp;done)|(go_simp;rfl));intro Jj hg w22 hbox hb;have Yw:=Ak (hbox);have GW112:=gs HB hg;have GE112:=gs HB hg;replace HB:=BS HB hb;clear hb hbox hg;obtain ⟨hcz23_0,hcz23_1,hcz23_2,hcz23_3,hcz23_4,hfz23_0,hfz23_1,hfz23_2,hfz23_3,hfz23_4⟩:=bk5 Yw.out))
       refine bodyPost_ret (results_cell_row rfl _ _ Jj 106 #[.int .i64 a0,.int .i64 a1,.int .i64 (Int.tmod (wrap64 (a2+131072)) 512),.int .i64 (wrap64 (Int.tdiv (wrap64 (a2+131072)) 512)),.int .i64 a2] (0,0) _ rfl (bq Yw) Tryz.underlying106 rfl (by kernel_rfl)) rfl ?_
       exact ⟨ef,bl HB⟩
def wW (o a s:Int):Int:=wI o a ((s+131072) % 512) ((s+131072) / 512)
def inW (o a s:Int):Prop:=0≤o∧o≤63∧0≤a∧a≤255∧-131072≤s∧s≤131071
instance (o a s:Int):Decidable (inW o a s):=by unfold inW;infer_instance
def Zh.f (a0 a1 a2:Int):Option Int:=if inW a0 a1 a2 then some (wW a0 a1 a2) else none
theorem XQ (a0 a1 a2:Int) (w:World) (h:inW a0 a1 a2) :
  Calls Tryz.prog 103 #[.int .i64 a0,.int .i64 a1,.int .i64 a2] w fun e w'=>e=.returned (.int .u32 (wW a0 a1 a2))∧Below w.heap.size w w':=by
 have W:XP.f a0 a1 a2=some (a0,a1,(a2+131072) % 512,(a2+131072) / 512,a2):=by
  obtain ⟨h0,h1,h2,h3,h4,h5⟩:=h
  unfold XP.f
  rw [if_neg (by omega),if_neg (by omega),if_neg (by omega),if_neg (by omega),if_neg (by omega),if_neg (by omega),show wrap64 (a2+131072)=a2+131072 by unfold wrap64;omega,Int.tmod_eq_emod_of_nonneg (by omega),Int.tdiv_eq_ediv_of_nonneg (by omega),show wrap64 ((a2+131072) / 512)=(a2+131072) / 512 by unfold wrap64;omega]
 have P:yM.f 1 a0 a1 ((a2+131072) % 512) ((a2+131072) / 512) a2=some (wW a0 a1 a2):=by
  have q:=zaw (o:=a0) (a:=a1) (b:=(a2+131072) % 512) (c:=(a2+131072) / 512) (by obtain ⟨h0,h1,h2,h3,h4,h5⟩:=h;refine ⟨?_,?_,?_,?_,?_,?_,?_,?_⟩ <;> omega)
  rwa [show (a2+131072) % 512+512*((a2+131072) / 512)-131072=a2 by omega] at q
 have W1:=Ak W;have P1:=Ak P;clear W P h
 go_enter Tryz.func103,Tryz.ntmps103
 go_wp2_with (first|(go_at_call 125;refine (XP.calls a0 a1 a2 _ _ _ _ _ _ W1.out).mono ?_;rintro e w6 ⟨rfl,hb⟩;have HB:=Ak hb;clear hb)|(go_at_call 52;refine (yM.calls 1 _ _ _ _ _ _ _ P1.out).mono ?_;rintro e w7 ⟨rfl,hb⟩;have HC:=Ak (zI HB.out hb);clear hb))
 go_ret
 exact ⟨rfl,HC.out⟩
theorem Zh.calls (a0 a1 a2:Int) (r:Int) (w:World) (h:Zh.f a0 a1 a2=some r) :
  Calls Tryz.prog 103 #[.int .i64 a0,.int .i64 a1,.int .i64 a2] w fun e w'=>e=.returned (.int .u32 r)∧Below w.heap.size w w':=by
 unfold Zh.f at h
 split at h
 case isFalse=>cases h
 case isTrue hg =>
  obtain rfl:=Option.some.inj h
  exact XQ a0 a1 a2 w hg
def Xb (x y z kids:Int):List Int :=
 if z<8 then [wI 22 7 2 (wrap64 (1+Int.tmod z 3)),wI 0 x 7 0]
 else if z<11 then [wW 25 6 (Int.tmod z kids),wI 22 7 2 511,wI 22 6 511 2,wI 0 y 6 0]
 else if z=11 then [wI 22 7 1 511,wI 23 6 511 0] else [wI 22 7 0 0]
def Xp (x y z kids:Int):List Int:=[wW 25 7 (Int.tmod z kids),wI 0 8 x 0,wI 0 9 y 0]++Xb x y z kids
def inB (x y z kids:Int):Prop:=0≤x∧x≤3∧0≤y∧y≤3∧0≤z∧z≤15∧1≤kids∧kids≤100
instance (x y z kids:Int):Decidable (inB x y z kids):=by unfold inB;infer_instance
def spec_l4CallBlock.f (a0 a1 a2 a3:Int):Option (List Int):=if inB a0 a1 a2 a3 then some (Xp a0 a1 a2 a3) else none
theorem cW {a0 a1 a2:Int} {w:World} (h:inW a0 a1 a2:=by have hz:=TZ.out;unfold inW;(try simp only [wrap64] at hz ⊢);omega):Calls Tryz.prog 103 #[.int .i64 a0,.int .i64 a1,.int .i64 a2] w fun e w'=>e=.returned (.int .u32 (wW a0 a1 a2))∧Below w.heap.size w w':=XQ a0 a1 a2 w h
theorem XR (x y z kids:Int) (w:World) (h:inB x y z kids) :
  Calls Tryz.prog 126 #[.int .i64 x,.int .i64 y,.int .i64 z,.int .i64 kids] w fun e w'=>∃ v0_:Value,e=.returned (v0_)∧Kd.R (Kd.int .u32) 60 w' w.heap.size (fun _=>True) v0_ (Xp x y z kids)∧Below w.heap.size w w':=by
 obtain ⟨h0,h1,h2,h3,h4,h5,h6,h7⟩:=h
 have TZ:zh (0≤x∧x≤3∧0≤y∧y≤3∧0≤Int.tmod z 3∧Int.tmod z 3≤2∧0≤Int.tmod z kids∧Int.tmod z kids≤100):=⟨by rw [Int.tmod_eq_emod_of_nonneg h4,Int.tmod_eq_emod_of_nonneg h4];have:=Int.emod_nonneg z (show kids≠0 by omega);have:=Int.emod_lt_of_pos z (show 0<kids by omega);omega⟩
 have HB:=Ak (Below.refl w.heap.size w)
 have ck:¬ kids=0:=by omega
 have Qk:(kids == 0)=false:=bF ck
 have c5b1:(kids != 0)=true:=nT ck
 clear h0 h1 h2 h3 h4 h5 h6 h7
 obtain ⟨y1,hy1⟩:∃ q:List Int,q=[wW 25 7 (Int.tmod z kids),wI 0 8 x 0,wI 0 9 y 0]:=⟨_,rfl⟩
 have Y1:=Ak hy1;clear hy1
 by_cases c0:z<8
 ·have d162:=dt c0
  obtain ⟨y2,hy2⟩:∃ q:List Int,q=[wI 22 7 2 (wrap64 (1+Int.tmod z 3)),wI 0 x 7 0]:=⟨_,rfl⟩
  have Y2:=Ak hy2;clear hy2
  have E:zh (Xp x y z kids=y1++y2):=⟨by rw [Y1.out,Y2.out];unfold Xp Xb;rw [if_pos c0];all_goals rfl⟩
  have LM:zh (y1.length+y2.length<35184372088832):=⟨by rw [Y1.out,Y2.out];simp⟩
  clear c0
  go_enter Tryz.func126,Tryz.ntmps126
  go_wp2_with (first|((first|(go_at_call 104;refine Calls.mono cI ?_)|(go_at_call 103;refine Calls.mono cW ?_));rintro e wn ⟨rfl,hb⟩;(try replace HS:=RB HS hb);(try replace HR:=RB HR hb);(try replace HQ:=RB HQ hb);(try replace HP:=RB HP hb);(try replace HO:=RB HO hb);replace HB:=BS HB hb;clear hb)|((with_reducible refine zB (N:=18) rfl ?_);refine LV 60 HB Y1 ?_;clear HB;intro vHO wn HO HB)|((with_reducible refine zB (N:=28) rfl ?_);refine LU 60 (N:=28) (xs:=([wI 22 7 2 (wrap64 (1+Int.tmod z 3)),wI 0 x 7 0]:List Int)) (inner:=[.int .u32 (wI 22 7 2 (wrap64 (1+Int.tmod z 3))),.int .u32 (wI 0 x 7 0)]) ?_;intro vHP wn ho hb hg_ qp;clear hg_ qp;(first|rw [← Y2.out] at ho|(simp only [Int.reduceToNat] at ho;rw [← Y2.out] at ho));have HP:=Ak (Kd.yH (Kd.Ze ho (Kd.Zv (ro HO))) (zH (bl HB)));replace HO:=Ak (Kd.jf (ro HO) (Kd.jT ho) hb);clear ho;replace HB:=BS HB hb;clear hb;obtain ⟨AHP,cHP,eHP⟩:=Kd.yA HP.out;subst eHP)|((with_reducible refine yt (b:=.append) (xs:=#[.tmp 21,.tmp 28]) rfl ?_);at_builtin;refine Kd.yS (Kd.int .u32) (w0:=w) w.heap.size rfl (.tmp 21) (.tmp 28) 50 60 (.int .u32 0) 4 rfl Tryz.underlying50 info60 rfl (by decide) (by omega) vHO y1 y2 _ _ _ (fun k_=>some k_≠(.slice AHP y2.length cHP:Value).ownBlock) (fun _=>False) rfl rfl ?aO ?aR (fun _ _ h=>h) (fun _ h=>h.elim) ?aF ?aB ?aS ?aL ?_;(case aR=>repeat (first|exact (Kd.yB HP.out).2.2|(with_reducible refine Kd.qC ?_ _)|(with_reducible refine Kd.qE ?_ _)|(with_reducible refine Kd.ji ?_)));(case aB=>exact (bl HB));(case aF=>exact (fun k_ hk=>Kd.fresh' (Kd.Zv (ro HP)) k_ hk));(case aO=>exact (rm HO.out (fun _ hk=>hk.2)));(case aS=>exact (zH (bl HB)));(case aL=>have:=LM.out;omega);intro vHQ wn ho hb hg hat;have HQ:=Ak (Kd.qm ho (fun _ _=>trivial):Kd.R (Kd.int .u32) 60 _ w.heap.size (fun _=>True) _ _);replace HB:=Ak hb;clear HO HP hb ho hg hat))
  go_ret
  exact ⟨_,rfl,by rw [E.out];exact HQ.out,(bl HB)⟩
 ·by_cases c1:z<11
  ·have d162:=df c0
   have d697:=dt c1
   obtain ⟨y2,hy2⟩:∃ q:List Int,q=[wW 25 6 (Int.tmod z kids),wI 22 7 2 511]:=⟨_,rfl⟩
   have Y2:=Ak hy2;clear hy2
   obtain ⟨y3,hy3⟩:∃ q:List Int,q=[wI 22 6 511 2,wI 0 y 6 0]:=⟨_,rfl⟩
   have Y3:=Ak hy3;clear hy3
   have E:zh (Xp x y z kids=y1++y2++y3):=⟨by rw [Y1.out,Y2.out,Y3.out];unfold Xp Xb;rw [if_neg c0];rw [if_pos c1];all_goals rfl⟩
   have LM:zh (y1.length+y2.length<35184372088832):=⟨by rw [Y1.out,Y2.out];simp⟩
   have LN:zh ((y1++y2).length+y3.length<35184372088832):=⟨by rw [Y1.out,Y2.out,Y3.out];simp⟩
   clear c0 c1
   go_enter Tryz.func126,Tryz.ntmps126
   go_wp2_with (first|((first|(go_at_call 104;refine Calls.mono cI ?_)|(go_at_call 103;refine Calls.mono cW ?_));rintro e wn ⟨rfl,hb⟩;(try replace HS:=RB HS hb);(try replace HR:=RB HR hb);(try replace HQ:=RB HQ hb);(try replace HP:=RB HP hb);(try replace HO:=RB HO hb);replace HB:=BS HB hb;clear hb)|((with_reducible refine zB (N:=18) rfl ?_);refine LV 60 HB Y1 ?_;clear HB;intro vHO wn HO HB)|((with_reducible refine zB (N:=38) rfl ?_);refine LU 60 (N:=38) (xs:=([wW 25 6 (Int.tmod z kids),wI 22 7 2 511]:List Int)) (inner:=[.int .u32 (wW 25 6 (Int.tmod z kids)),.int .u32 (wI 22 7 2 511)]) ?_;intro vHP wn ho hb hg_ qp;clear hg_ qp;(first|rw [← Y2.out] at ho|(simp only [Int.reduceToNat] at ho;rw [← Y2.out] at ho));have HP:=Ak (Kd.yH (Kd.Ze ho (Kd.Zv (ro HO))) (zH (bl HB)));replace HO:=Ak (Kd.jf (ro HO) (Kd.jT ho) hb);clear ho;replace HB:=BS HB hb;clear hb;obtain ⟨AHP,cHP,eHP⟩:=Kd.yA HP.out;subst eHP)|((with_reducible refine yt (b:=.append) (xs:=#[.tmp 32,.tmp 38]) rfl ?_);at_builtin;refine Kd.yS (Kd.int .u32) (w0:=w) w.heap.size rfl (.tmp 32) (.tmp 38) 50 60 (.int .u32 0) 4 rfl Tryz.underlying50 info60 rfl (by decide) (by omega) vHO y1 y2 _ _ _ (fun k_=>some k_≠(.slice AHP y2.length cHP:Value).ownBlock) (fun _=>False) rfl rfl ?aO ?aR (fun _ _ h=>h) (fun _ h=>h.elim) ?aF ?aB ?aS ?aL ?_;(case aR=>repeat (first|exact (Kd.yB HP.out).2.2|(with_reducible refine Kd.qC ?_ _)|(with_reducible refine Kd.qE ?_ _)|(with_reducible refine Kd.ji ?_)));(case aB=>exact (bl HB));(case aF=>exact (fun k_ hk=>Kd.fresh' (Kd.Zv (ro HP)) k_ hk));(case aO=>exact (rm HO.out (fun _ hk=>hk.2)));(case aS=>exact (zH (bl HB)));(case aL=>have:=LM.out;omega);intro vHQ wn ho hb hg hat;have HQ:=Ak (Kd.qm ho (fun _ _=>trivial):Kd.R (Kd.int .u32) 60 _ w.heap.size (fun _=>True) _ _);replace HB:=Ak hb;clear HO HP hb ho hg hat)|((with_reducible refine zB (N:=44) rfl ?_);refine LU 60 (N:=44) (xs:=([wI 22 6 511 2,wI 0 y 6 0]:List Int)) (inner:=[.int .u32 (wI 22 6 511 2),.int .u32 (wI 0 y 6 0)]) ?_;intro vHR wn ho hb hg_ qp;clear hg_ qp;(first|rw [← Y3.out] at ho|(simp only [Int.reduceToNat] at ho;rw [← Y3.out] at ho));have HR:=Ak (Kd.yH (Kd.Ze ho (Kd.Zv (ro HQ))) (zH (bl HB)));replace HQ:=Ak (Kd.jf (ro HQ) (Kd.jT ho) hb);clear ho;replace HB:=BS HB hb;clear hb;obtain ⟨AHR,cHR,eHR⟩:=Kd.yA HR.out;subst eHR)|((with_reducible refine yt (b:=.append) (xs:=#[.tmp 40,.tmp 44]) rfl ?_);at_builtin;refine Kd.yS (Kd.int .u32) (w0:=w) w.heap.size rfl (.tmp 40) (.tmp 44) 50 60 (.int .u32 0) 4 rfl Tryz.underlying50 info60 rfl (by decide) (by omega) vHQ (y1++y2) y3 _ _ _ (fun k_=>some k_≠(.slice AHR y3.length cHR:Value).ownBlock) (fun _=>False) rfl rfl ?aO ?aR (fun _ _ h=>h) (fun _ h=>h.elim) ?aF ?aB ?aS ?aL ?_;(case aR=>repeat (first|exact (Kd.yB HR.out).2.2|(with_reducible refine Kd.qC ?_ _)|(with_reducible refine Kd.qE ?_ _)|(with_reducible refine Kd.ji ?_)));(case aB=>exact (bl HB));(case aF=>exact (fun k_ hk=>Kd.fresh' (Kd.Zv (ro HR)) k_ hk));(case aO=>exact (rm HQ.out (fun _ hk=>hk.2)));(case aS=>exact (zH (bl HB)));(case aL=>have:=LN.out;omega);intro vHS wn ho hb hg hat;have HS:=Ak (Kd.qm ho (fun _ _=>trivial):Kd.R (Kd.int .u32) 60 _ w.heap.size (fun _=>True) _ _);replace HB:=Ak hb;clear HQ HR hb ho hg hat))
   go_ret
   exact ⟨_,rfl,by rw [E.out];exact HS.out,(bl HB)⟩
  ·by_cases c2:z=11
   ·have d162:=df c0
    have d697:=df c1
    have d403:=bT c2
    obtain ⟨y2,hy2⟩:∃ q:List Int,q=[wI 22 7 1 511,wI 23 6 511 0]:=⟨_,rfl⟩
    have Y2:=Ak hy2;clear hy2
    have E:zh (Xp x y z kids=y1++y2):=⟨by rw [Y1.out,Y2.out];unfold Xp Xb;rw [if_neg c0];rw [if_neg c1];rw [if_pos c2];all_goals rfl⟩
    have LM:zh (y1.length+y2.length<35184372088832):=⟨by rw [Y1.out,Y2.out];simp⟩
    clear c0 c1 c2
    go_enter Tryz.func126,Tryz.ntmps126
    go_wp2_with (first|((first|(go_at_call 104;refine Calls.mono cI ?_)|(go_at_call 103;refine Calls.mono cW ?_));rintro e wn ⟨rfl,hb⟩;(try replace HS:=RB HS hb);(try replace HR:=RB HR hb);(try replace HQ:=RB HQ hb);(try replace HP:=RB HP hb);(try replace HO:=RB HO hb);replace HB:=BS HB hb;clear hb)|((with_reducible refine zB (N:=18) rfl ?_);refine LV 60 HB Y1 ?_;clear HB;intro vHO wn HO HB)|((with_reducible refine zB (N:=51) rfl ?_);refine LU 60 (N:=51) (xs:=([wI 22 7 1 511,wI 23 6 511 0]:List Int)) (inner:=[.int .u32 (wI 22 7 1 511),.int .u32 (wI 23 6 511 0)]) ?_;intro vHP wn ho hb hg_ qp;clear hg_ qp;(first|rw [← Y2.out] at ho|(simp only [Int.reduceToNat] at ho;rw [← Y2.out] at ho));have HP:=Ak (Kd.yH (Kd.Ze ho (Kd.Zv (ro HO))) (zH (bl HB)));replace HO:=Ak (Kd.jf (ro HO) (Kd.jT ho) hb);clear ho;replace HB:=BS HB hb;clear hb;obtain ⟨AHP,cHP,eHP⟩:=Kd.yA HP.out;subst eHP)|((with_reducible refine yt (b:=.append) (xs:=#[.tmp 48,.tmp 51]) rfl ?_);at_builtin;refine Kd.yS (Kd.int .u32) (w0:=w) w.heap.size rfl (.tmp 48) (.tmp 51) 50 60 (.int .u32 0) 4 rfl Tryz.underlying50 info60 rfl (by decide) (by omega) vHO y1 y2 _ _ _ (fun k_=>some k_≠(.slice AHP y2.length cHP:Value).ownBlock) (fun _=>False) rfl rfl ?aO ?aR (fun _ _ h=>h) (fun _ h=>h.elim) ?aF ?aB ?aS ?aL ?_;(case aR=>repeat (first|exact (Kd.yB HP.out).2.2|(with_reducible refine Kd.qC ?_ _)|(with_reducible refine Kd.qE ?_ _)|(with_reducible refine Kd.ji ?_)));(case aB=>exact (bl HB));(case aF=>exact (fun k_ hk=>Kd.fresh' (Kd.Zv (ro HP)) k_ hk));(case aO=>exact (rm HO.out (fun _ hk=>hk.2)));(case aS=>exact (zH (bl HB)));(case aL=>have:=LM.out;omega);intro vHQ wn ho hb hg hat;have HQ:=Ak (Kd.qm ho (fun _ _=>trivial):Kd.R (Kd.int .u32) 60 _ w.heap.size (fun _=>True) _ _);replace HB:=Ak hb;clear HO HP hb ho hg hat))
    go_ret
    exact ⟨_,rfl,by rw [E.out];exact HQ.out,(bl HB)⟩
   ·have d162:=df c0
    have d697:=df c1
    have d403:=bF c2
    obtain ⟨y2,hy2⟩:∃ q:List Int,q=[wI 22 7 0 0]:=⟨_,rfl⟩
    have Y2:=Ak hy2;clear hy2
    have E:zh (Xp x y z kids=y1++y2):=⟨by rw [Y1.out,Y2.out];unfold Xp Xb;rw [if_neg c0];rw [if_neg c1];rw [if_neg c2];all_goals rfl⟩
    have LM:zh (y1.length+y2.length<35184372088832):=⟨by rw [Y1.out,Y2.out];simp⟩
    clear c0 c1 c2
    go_enter Tryz.func126,Tryz.ntmps126
    go_wp2_with (first|((first|(go_at_call 104;refine Calls.mono cI ?_)|(go_at_call 103;refine Calls.mono cW ?_));rintro e wn ⟨rfl,hb⟩;(try replace HS:=RB HS hb);(try replace HR:=RB HR hb);(try replace HQ:=RB HQ hb);(try replace HP:=RB HP hb);(try replace HO:=RB HO hb);replace HB:=BS HB hb;clear hb)|((with_reducible refine zB (N:=18) rfl ?_);refine LV 60 HB Y1 ?_;clear HB;intro vHO wn HO HB)|((with_reducible refine zB (N:=55) rfl ?_);refine LU 60 (N:=55) (xs:=([wI 22 7 0 0]:List Int)) (inner:=[.int .u32 (wI 22 7 0 0)]) ?_;intro vHP wn ho hb hg_ qp;clear hg_ qp;(first|rw [← Y2.out] at ho|(simp only [Int.reduceToNat] at ho;rw [← Y2.out] at ho));have HP:=Ak (Kd.yH (Kd.Ze ho (Kd.Zv (ro HO))) (zH (bl HB)));replace HO:=Ak (Kd.jf (ro HO) (Kd.jT ho) hb);clear ho;replace HB:=BS HB hb;clear hb;obtain ⟨AHP,cHP,eHP⟩:=Kd.yA HP.out;subst eHP)|((with_reducible refine yt (b:=.append) (xs:=#[.tmp 53,.tmp 55]) rfl ?_);at_builtin;refine Kd.yS (Kd.int .u32) (w0:=w) w.heap.size rfl (.tmp 53) (.tmp 55) 50 60 (.int .u32 0) 4 rfl Tryz.underlying50 info60 rfl (by decide) (by omega) vHO y1 y2 _ _ _ (fun k_=>some k_≠(.slice AHP y2.length cHP:Value).ownBlock) (fun _=>False) rfl rfl ?aO ?aR (fun _ _ h=>h) (fun _ h=>h.elim) ?aF ?aB ?aS ?aL ?_;(case aR=>repeat (first|exact (Kd.yB HP.out).2.2|(with_reducible refine Kd.qC ?_ _)|(with_reducible refine Kd.qE ?_ _)|(with_reducible refine Kd.ji ?_)));(case aB=>exact (bl HB));(case aF=>exact (fun k_ hk=>Kd.fresh' (Kd.Zv (ro HP)) k_ hk));(case aO=>exact (rm HO.out (fun _ hk=>hk.2)));(case aS=>exact (zH (bl HB)));(case aL=>have:=LM.out;omega);intro vHQ wn ho hb hg hat;have HQ:=Ak (Kd.qm ho (fun _ _=>trivial):Kd.R (Kd.int .u32) 60 _ w.heap.size (fun _=>True) _ _);replace HB:=Ak hb;clear HO HP hb ho hg hat))
    go_ret
    exact ⟨_,rfl,by rw [E.out];exact HQ.out,(bl HB)⟩
def Yj (x y:Int):Nat→List Int
 | 0=>[]
 | n+1=>Yj x y n++[wI 0 7 6 0,wI 0 8 x 0,wI 0 9 y 0]++[wI 30 7 2 2]
def Zz (x y z kids:Int):List Int :=
 [wW 25 7 (Int.tmod z kids),wI 29 6 7 0]++Yj x y (1+Int.tmod z 3).toNat++(if z=15 then [wI 0 7 6 0,wI 30 7 0 511,wI 23 7 511 0] else [])++[wI 32 10 6 0,wI 8 4 10 8]++[wI 21 8 0 0,wW 18 0 1,wI 0 x 8 0]
def spec_l4ThreadBlock.f (a0 a1 a2 a3:Int):Option (List Int):=if inB a0 a1 a2 a3 then some (Zz a0 a1 a2 a3) else none
theorem l4Thread_calls (x y z kids:Int) (w:World) (h:inB x y z kids) :
  Calls Tryz.prog 127 #[.int .i64 x,.int .i64 y,.int .i64 z,.int .i64 kids] w fun e w'=>∃ v0_:Value,e=.returned (v0_)∧Kd.R (Kd.int .u32) 60 w' w.heap.size (fun _=>True) v0_ (Zz x y z kids)∧Below w.heap.size w w':=by
 obtain ⟨h0,h1,h2,h3,h4,h5,h6,h7⟩:=h
 have TZ:zh (0≤x∧x≤3∧0≤y∧y≤3∧0≤Int.tmod z 3∧Int.tmod z 3≤2∧0≤Int.tmod z kids∧Int.tmod z kids≤100):=⟨by rw [Int.tmod_eq_emod_of_nonneg h4,Int.tmod_eq_emod_of_nonneg h4];have:=Int.emod_nonneg z (show kids≠0 by omega);have:=Int.emod_lt_of_pos z (show 0<kids by omega);omega⟩
 have HB:=Ak (Below.refl w.heap.size w)
 have ck:¬ kids=0:=by omega
 have Qk:(kids == 0)=false:=bF ck
 have c5b1:(kids != 0)=true:=nT ck
 clear h0 h1 h2 h3 h4 h5 h6 h7
 obtain ⟨y1,hy1⟩:∃ q:List Int,q=[wW 25 7 (Int.tmod z kids),wI 29 6 7 0]:=⟨_,rfl⟩
 have Y1:=Ak hy1;clear hy1
 obtain ⟨y2,hy2⟩:∃ q:List Int,q=[wI 0 7 6 0,wI 0 8 x 0,wI 0 9 y 0]:=⟨_,rfl⟩
 have Y2:=Ak hy2;clear hy2
 obtain ⟨y3,hy3⟩:∃ q:List Int,q=[wI 30 7 2 2]:=⟨_,rfl⟩
 have Y3:=Ak hy3;clear hy3
 obtain ⟨y4,hy4⟩:∃ q:List Int,q=[wI 0 7 6 0,wI 30 7 0 511,wI 23 7 511 0]:=⟨_,rfl⟩
 have Y4:=Ak hy4;clear hy4
 obtain ⟨y5,hy5⟩:∃ q:List Int,q=[wI 32 10 6 0,wI 8 4 10 8]:=⟨_,rfl⟩
 have Y5:=Ak hy5;clear hy5
 obtain ⟨y6,hy6⟩:∃ q:List Int,q=[wI 21 8 0 0,wW 18 0 1,wI 0 x 8 0]:=⟨_,rfl⟩
 have Y6:=Ak hy6;clear hy6
 obtain ⟨n,hn⟩:∃ n:Nat,n=(1+Int.tmod z 3).toNat:=⟨_,rfl⟩
 have N:=Ak hn;clear hn
 go_enter Tryz.func127,Tryz.ntmps127
 go_wp2_with (first|(go_at_call 103;refine Calls.mono (cB HB cW) ?_;clear HB;rintro e wn ⟨rfl,HB⟩)|(go_at_call 104;refine Calls.mono (cB HB cI) ?_;clear HB;rintro e wn ⟨rfl,HB⟩)|((with_reducible refine zB (N:=16) rfl ?_);refine LV 60 HB Y1 ?_;clear HB;intro vHO wn HO HB))
 obtain ⟨Aq,qq,eq_⟩:=Kd.yA HO.out
 subst eq_
 go_loopg [9,10] n (fun kq v9 v10 W'=>∃ (i:Nat) (A:Option Addr) (q:Nat) (l:List Int),v9=.slice A l.length q∧v10=.int .i64 (i:Int)∧zh (kq=n-i)∧zh (i≤n)∧zh (l=y1++Yj x y i∧l.length=2+4*i)∧zh (Kd.R (Kd.int .u32) 60 W' w.heap.size (fun _=>True) (.slice A l.length q) l)∧zh (Below w.heap.size w W'))
 case atStart=>exact ⟨0,_,_,y1,rfl,rfl,⟨rfl⟩,⟨Nat.zero_le _⟩,⟨by rw [Y1.out];exact ⟨rfl,rfl⟩⟩,HO,HB⟩
 case round =>
  obtain ⟨i,A,q,l,rfl,rfl,HJ,HL,HE,HP,HC⟩:=hrel
  clear HO HB;have HO:=HP;have HB:=HC;clear HP HC
  have n3:n≤3:=by have:=N.out;have:=TZ.out;omega
  have N3:=Ak n3;clear n3
  by_cases hi:i<n
  ·have d1:decide ((i:Int)<wrap64 (1+Int.tmod z 3))=true:=dt (by have:=N.out;have:=TZ.out;unfold wrap64;omega)
   obtain ⟨gm,hgm⟩:∃ gm,gk=gm+1:=⟨gk-1,by have:=HJ.out;omega⟩
   have HGM:=Ak hgm;clear hgm
   have WW:zh (wrap64 ((i:Int)+1)=((i+1:Nat):Int)):=⟨by have:=N3.out;unfold wrap64;omega⟩
   have HI:=Ak hi;clear hi
   have LM:zh (l.length+y2.length<35184372088832):=⟨by rw [HE.out.2,Y2.out];have:=HI.out;have:=N3.out;show 2+4*i+3<_;omega⟩
   have LN:zh ((l++y2).length+y3.length<35184372088832):=⟨by rw [List.length_append,HE.out.2,Y2.out,Y3.out];have:=HI.out;have:=N3.out;show 2+4*i+3+1<_;omega⟩
   go_wp2_with (first|(have hq:=HO;clear hq;go_at_call 104;refine Calls.mono cI ?_;rintro e wn ⟨rfl,hb⟩;have mHO:=RB HO hb;clear HO;have HO:=mHO;clear mHO;replace HB:=BS HB hb;clear hb)|(have hq:=HQ;clear hq;go_at_call 104;refine Calls.mono cI ?_;rintro e wn ⟨rfl,hb⟩;have mHQ:=RB HQ hb;clear HQ;have HQ:=mHQ;clear mHQ;replace HB:=BS HB hb;clear hb)|((with_reducible refine zB (N:=30) rfl ?_);refine LU 60 (N:=30) (xs:=([wI 0 7 6 0,wI 0 8 x 0,wI 0 9 y 0]:List Int)) (inner:=[.int .u32 (wI 0 7 6 0),.int .u32 (wI 0 8 x 0),.int .u32 (wI 0 9 y 0)]) ?_;intro vHP wn ho hb hg_ qp;clear hg_ qp;(first|rw [← Y2.out] at ho|(simp only [Int.reduceToNat] at ho;rw [← Y2.out] at ho));have HP:=Ak (Kd.yH (Kd.Ze ho (Kd.Zv (ro HO))) (zH (bl HB)));replace HO:=Ak (Kd.jf (ro HO) (Kd.jT ho) hb);clear ho;replace HB:=BS HB hb;clear hb;obtain ⟨AHP,cHP,eHP⟩:=Kd.yA HP.out;subst eHP)|((with_reducible refine yt (b:=.append) (xs:=#[.tmp 24,.tmp 30]) rfl ?_);at_builtin;refine Kd.yS (Kd.int .u32) (w0:=w) w.heap.size rfl (.tmp 24) (.tmp 30) 50 60 (.int .u32 0) 4 rfl Tryz.underlying50 info60 rfl (by decide) (by omega) (.slice A l.length q) l y2 _ _ _ (fun k_=>some k_≠(.slice AHP y2.length cHP:Value).ownBlock) (fun _=>False) rfl rfl ?aO ?aR (fun _ _ h=>h) (fun _ h=>h.elim) ?aF ?aB ?aS ?aL ?_;(case aR=>repeat (first|exact (Kd.yB HP.out).2.2|(with_reducible refine Kd.qC ?_ _)|(with_reducible refine Kd.qE ?_ _)|(with_reducible refine Kd.ji ?_)));(case aB=>exact (bl HB));(case aF=>exact (fun k_ hk=>Kd.fresh' (Kd.Zv (ro HP)) k_ hk));(case aO=>exact (rm HO.out (fun _ hk=>hk.2)));(case aS=>exact (zH (bl HB)));(case aL=>have:=LM.out;omega);intro vHQ wn ho hb hg hat;have HQ:=Ak (Kd.qm ho (fun _ _=>trivial):Kd.R (Kd.int .u32) 60 _ w.heap.size (fun _=>True) _ _);replace HB:=Ak hb;clear HO HP hb ho hg hat)|((with_reducible refine zB (N:=34) rfl ?_);refine LU 60 (N:=34) (xs:=([wI 30 7 2 2]:List Int)) (inner:=[.int .u32 (wI 30 7 2 2)]) ?_;intro vHR wn ho hb hg_ qp;clear hg_ qp;(first|rw [← Y3.out] at ho|(simp only [Int.reduceToNat] at ho;rw [← Y3.out] at ho));have HR:=Ak (Kd.yH (Kd.Ze ho (Kd.Zv (ro HQ))) (zH (bl HB)));replace HQ:=Ak (Kd.jf (ro HQ) (Kd.jT ho) hb);clear ho;replace HB:=BS HB hb;clear hb;obtain ⟨AHR,cHR,eHR⟩:=Kd.yA HR.out;subst eHR)|((with_reducible refine yt (b:=.append) (xs:=#[.tmp 32,.tmp 34]) rfl ?_);at_builtin;refine Kd.yS (Kd.int .u32) (w0:=w) w.heap.size rfl (.tmp 32) (.tmp 34) 50 60 (.int .u32 0) 4 rfl Tryz.underlying50 info60 rfl (by decide) (by omega) vHQ (l++y2) y3 _ _ _ (fun k_=>some k_≠(.slice AHR y3.length cHR:Value).ownBlock) (fun _=>False) rfl rfl ?aO ?aR (fun _ _ h=>h) (fun _ h=>h.elim) ?aF ?aB ?aS ?aL ?_;(case aR=>repeat (first|exact (Kd.yB HR.out).2.2|(with_reducible refine Kd.qC ?_ _)|(with_reducible refine Kd.qE ?_ _)|(with_reducible refine Kd.ji ?_)));(case aB=>exact (bl HB));(case aF=>exact (fun k_ hk=>Kd.fresh' (Kd.Zv (ro HR)) k_ hk));(case aO=>exact (rm HQ.out (fun _ hk=>hk.2)));(case aS=>exact (zH (bl HB)));(case aL=>have:=LN.out;omega);intro vHS wn ho hb hg hat;have HS:=Ak (Kd.qm ho (fun _ _=>trivial):Kd.R (Kd.int .u32) 60 _ w.heap.size (fun _=>True) _ _);replace HB:=Ak hb;clear HQ HR hb ho hg hat))
   obtain ⟨Az,qz,ez⟩:=Kd.yA HS.out
   subst ez
   have hgk:=HGM.out
   subst hgk
   go_roundg gm
   case measure=>have:=HJ.out;omega
   case rel=>exact ⟨i+1,Az,qz,l++y2++y3,rfl,by first|rfl|(rw [WW.out])|(simp;done),⟨by have:=HJ.out;omega⟩,⟨by have:=HI.out;omega⟩,⟨by rw [List.length_append,List.length_append,HE.out.2,Y2.out,Y3.out,HE.out.1];exact ⟨by simp [Yj],by show 2+4*i+3+1=_;omega⟩⟩,HS,⟨(bl HB)⟩⟩
  ·have d1:decide ((i:Int)<wrap64 (1+Int.tmod z 3))=false:=df (by have:=N.out;have:=TZ.out;unfold wrap64;omega)
   have d0:¬ (i:Int)<wrap64 (1+Int.tmod z 3):=of_decide_eq_false d1
   have hin:i=n:=by have:=HL.out;omega
   clear hi;have HN:=Ak hin;clear hin
   have LM:zh (l.length≤100):=⟨by rw [HE.out.2];have:=HN.out;have:=N3.out;omega⟩
   have EL:zh (l=[wW 25 7 (Int.tmod z kids),wI 29 6 7 0]++Yj x y (1+Int.tmod z 3).toNat):=⟨by rw [HE.out.1,HN.out,N.out,Y1.out]⟩
   by_cases c:z=15
   ·have d2:=bT c
    have E:zh (Zz x y z kids=l++y4++y5++y6):=⟨by rw [EL.out,Y4.out,Y5.out,Y6.out];unfold Zz;rw [if_pos c]⟩
    have L4:zh (l.length+y4.length<35184372088832):=⟨by have:=LM.out;rw [Y4.out];show _+3<_;omega⟩
    have L5:zh ((l++y4).length+y5.length<35184372088832):=⟨by have:=LM.out;rw [List.length_append,Y4.out,Y5.out];show _+3+2<_;omega⟩
    have L6:zh ((l++y4++y5).length+y6.length<35184372088832):=⟨by have:=LM.out;rw [List.length_append,List.length_append,Y4.out,Y5.out,Y6.out];show _+3+2+3<_;omega⟩
    clear c
    go_wp2_with (first|(have hq:=HO;clear hq;go_at_call 104;refine Calls.mono cI ?_;rintro e wn ⟨rfl,hb⟩;have mHO:=RB HO hb;clear HO;have HO:=mHO;clear mHO;replace HB:=BS HB hb;clear hb)|(have hq:=HQ;clear hq;go_at_call 104;refine Calls.mono cI ?_;rintro e wn ⟨rfl,hb⟩;have mHQ:=RB HQ hb;clear HQ;have HQ:=mHQ;clear mHQ;replace HB:=BS HB hb;clear hb)|(have hq:=HS;clear hq;go_at_call 104;refine Calls.mono cI ?_;rintro e wn ⟨rfl,hb⟩;have mHS:=RB HS hb;clear HS;have HS:=mHS;clear mHS;replace HB:=BS HB hb;clear hb)|(have hq:=HS;clear hq;go_at_call 103;refine Calls.mono cW ?_;rintro e wn ⟨rfl,hb⟩;have mHS:=RB HS hb;clear HS;have HS:=mHS;clear mHS;replace HB:=BS HB hb;clear hb)|((with_reducible refine zB (N:=42) rfl ?_);refine LU 60 (N:=42) (xs:=([wI 0 7 6 0,wI 30 7 0 511,wI 23 7 511 0]:List Int)) (inner:=[.int .u32 (wI 0 7 6 0),.int .u32 (wI 30 7 0 511),.int .u32 (wI 23 7 511 0)]) ?_;intro vHP wn ho hb hg_ qp;clear hg_ qp;(first|rw [← Y4.out] at ho|(simp only [Int.reduceToNat] at ho;rw [← Y4.out] at ho));have HP:=Ak (Kd.yH (Kd.Ze ho (Kd.Zv (ro HO))) (zH (bl HB)));replace HO:=Ak (Kd.jf (ro HO) (Kd.jT ho) hb);clear ho;replace HB:=BS HB hb;clear hb;obtain ⟨AHP,cHP,eHP⟩:=Kd.yA HP.out;subst eHP)|((with_reducible refine yt (b:=.append) (xs:=#[.tmp 38,.tmp 42]) rfl ?_);at_builtin;refine Kd.yS (Kd.int .u32) (w0:=w) w.heap.size rfl (.tmp 38) (.tmp 42) 50 60 (.int .u32 0) 4 rfl Tryz.underlying50 info60 rfl (by decide) (by omega) (.slice A l.length q) l y4 _ _ _ (fun k_=>some k_≠(.slice AHP y4.length cHP:Value).ownBlock) (fun _=>False) rfl rfl ?aO ?aR (fun _ _ h=>h) (fun _ h=>h.elim) ?aF ?aB ?aS ?aL ?_;(case aR=>repeat (first|exact (Kd.yB HP.out).2.2|(with_reducible refine Kd.qC ?_ _)|(with_reducible refine Kd.qE ?_ _)|(with_reducible refine Kd.ji ?_)));(case aB=>exact (bl HB));(case aF=>exact (fun k_ hk=>Kd.fresh' (Kd.Zv (ro HP)) k_ hk));(case aO=>exact (rm HO.out (fun _ hk=>hk.2)));(case aS=>exact (zH (bl HB)));(case aL=>have:=L4.out;omega);intro vHQ wn ho hb hg hat;have HQ:=Ak (Kd.qm ho (fun _ _=>trivial):Kd.R (Kd.int .u32) 60 _ w.heap.size (fun _=>True) _ _);replace HB:=Ak hb;clear HO HP hb ho hg hat)|((with_reducible refine zB (N:=47) rfl ?_);refine LU 60 (N:=47) (xs:=([wI 32 10 6 0,wI 8 4 10 8]:List Int)) (inner:=[.int .u32 (wI 32 10 6 0),.int .u32 (wI 8 4 10 8)]) ?_;intro vHR wn ho hb hg_ qp;clear hg_ qp;(first|rw [← Y5.out] at ho|(simp only [Int.reduceToNat] at ho;rw [← Y5.out] at ho));have HR:=Ak (Kd.yH (Kd.Ze ho (Kd.Zv (ro HQ))) (zH (bl HB)));replace HQ:=Ak (Kd.jf (ro HQ) (Kd.jT ho) hb);clear ho;replace HB:=BS HB hb;clear hb;obtain ⟨AHR,cHR,eHR⟩:=Kd.yA HR.out;subst eHR)|((with_reducible refine yt (b:=.append) (xs:=#[.tmp 44,.tmp 47]) rfl ?_);at_builtin;refine Kd.yS (Kd.int .u32) (w0:=w) w.heap.size rfl (.tmp 44) (.tmp 47) 50 60 (.int .u32 0) 4 rfl Tryz.underlying50 info60 rfl (by decide) (by omega) vHQ (l++y4) y5 _ _ _ (fun k_=>some k_≠(.slice AHR y5.length cHR:Value).ownBlock) (fun _=>False) rfl rfl ?aO ?aR (fun _ _ h=>h) (fun _ h=>h.elim) ?aF ?aB ?aS ?aL ?_;(case aR=>repeat (first|exact (Kd.yB HR.out).2.2|(with_reducible refine Kd.qC ?_ _)|(with_reducible refine Kd.qE ?_ _)|(with_reducible refine Kd.ji ?_)));(case aB=>exact (bl HB));(case aF=>exact (fun k_ hk=>Kd.fresh' (Kd.Zv (ro HR)) k_ hk));(case aO=>exact (rm HQ.out (fun _ hk=>hk.2)));(case aS=>exact (zH (bl HB)));(case aL=>have:=L5.out;omega);intro vHS wn ho hb hg hat;have HS:=Ak (Kd.qm ho (fun _ _=>trivial):Kd.R (Kd.int .u32) 60 _ w.heap.size (fun _=>True) _ _);replace HB:=Ak hb;clear HQ HR hb ho hg hat)|((with_reducible refine zB (N:=54) rfl ?_);refine LU 60 (N:=54) (xs:=([wI 21 8 0 0,wW 18 0 1,wI 0 x 8 0]:List Int)) (inner:=[.int .u32 (wI 21 8 0 0),.int .u32 (wW 18 0 1),.int .u32 (wI 0 x 8 0)]) ?_;intro vHT wn ho hb hg_ qp;clear hg_ qp;(first|rw [← Y6.out] at ho|(simp only [Int.reduceToNat] at ho;rw [← Y6.out] at ho));have HT:=Ak (Kd.yH (Kd.Ze ho (Kd.Zv (ro HS))) (zH (bl HB)));replace HS:=Ak (Kd.jf (ro HS) (Kd.jT ho) hb);clear ho;replace HB:=BS HB hb;clear hb;obtain ⟨AHT,cHT,eHT⟩:=Kd.yA HT.out;subst eHT)|((with_reducible refine yt (b:=.append) (xs:=#[.tmp 49,.tmp 54]) rfl ?_);at_builtin;refine Kd.yS (Kd.int .u32) (w0:=w) w.heap.size rfl (.tmp 49) (.tmp 54) 50 60 (.int .u32 0) 4 rfl Tryz.underlying50 info60 rfl (by decide) (by omega) vHS (l++y4++y5) y6 _ _ _ (fun k_=>some k_≠(.slice AHT y6.length cHT:Value).ownBlock) (fun _=>False) rfl rfl ?aO ?aR (fun _ _ h=>h) (fun _ h=>h.elim) ?aF ?aB ?aS ?aL ?_;(case aR=>repeat (first|exact (Kd.yB HT.out).2.2|(with_reducible refine Kd.qC ?_ _)|(with_reducible refine Kd.qE ?_ _)|(with_reducible refine Kd.ji ?_)));(case aB=>exact (bl HB));(case aF=>exact (fun k_ hk=>Kd.fresh' (Kd.Zv (ro HT)) k_ hk));(case aO=>exact (rm HS.out (fun _ hk=>hk.2)));(case aS=>exact (zH (bl HB)));(case aL=>have:=L6.out;omega);intro vHU wn ho hb hg hat;have HU:=Ak (Kd.qm ho (fun _ _=>trivial):Kd.R (Kd.int .u32) 60 _ w.heap.size (fun _=>True) _ _);replace HB:=Ak hb;clear HS HT hb ho hg hat))
    go_ret
    exact ⟨_,rfl,by rw [E.out];exact HU.out,(bl HB)⟩
   ·have d2:=bF c
    have E:zh (Zz x y z kids=l++y5++y6):=⟨by rw [EL.out,Y5.out,Y6.out];unfold Zz;rw [if_neg c,List.append_nil]⟩
    have L5:zh (l.length+y5.length<35184372088832):=⟨by have:=LM.out;rw [Y5.out];show _+2<_;omega⟩
    have L6:zh ((l++y5).length+y6.length<35184372088832):=⟨by have:=LM.out;rw [List.length_append,Y5.out,Y6.out];show _+2+3<_;omega⟩
    clear c
    go_wp2_with (first|(have hq:=HO;clear hq;go_at_call 104;refine Calls.mono cI ?_;rintro e wn ⟨rfl,hb⟩;have mHO:=RB HO hb;clear HO;have HO:=mHO;clear mHO;replace HB:=BS HB hb;clear hb)|(have hq:=HS;clear hq;go_at_call 104;refine Calls.mono cI ?_;rintro e wn ⟨rfl,hb⟩;have mHS:=RB HS hb;clear HS;have HS:=mHS;clear mHS;replace HB:=BS HB hb;clear hb)|(have hq:=HS;clear hq;go_at_call 103;refine Calls.mono cW ?_;rintro e wn ⟨rfl,hb⟩;have mHS:=RB HS hb;clear HS;have HS:=mHS;clear mHS;replace HB:=BS HB hb;clear hb)|((with_reducible refine zB (N:=47) rfl ?_);refine LU 60 (N:=47) (xs:=([wI 32 10 6 0,wI 8 4 10 8]:List Int)) (inner:=[.int .u32 (wI 32 10 6 0),.int .u32 (wI 8 4 10 8)]) ?_;intro vHR wn ho hb hg_ qp;clear hg_ qp;(first|rw [← Y5.out] at ho|(simp only [Int.reduceToNat] at ho;rw [← Y5.out] at ho));have HR:=Ak (Kd.yH (Kd.Ze ho (Kd.Zv (ro HO))) (zH (bl HB)));replace HO:=Ak (Kd.jf (ro HO) (Kd.jT ho) hb);clear ho;replace HB:=BS HB hb;clear hb;obtain ⟨AHR,cHR,eHR⟩:=Kd.yA HR.out;subst eHR)|((with_reducible refine yt (b:=.append) (xs:=#[.tmp 44,.tmp 47]) rfl ?_);at_builtin;refine Kd.yS (Kd.int .u32) (w0:=w) w.heap.size rfl (.tmp 44) (.tmp 47) 50 60 (.int .u32 0) 4 rfl Tryz.underlying50 info60 rfl (by decide) (by omega) (.slice A l.length q) l y5 _ _ _ (fun k_=>some k_≠(.slice AHR y5.length cHR:Value).ownBlock) (fun _=>False) rfl rfl ?aO ?aR (fun _ _ h=>h) (fun _ h=>h.elim) ?aF ?aB ?aS ?aL ?_;(case aR=>repeat (first|exact (Kd.yB HR.out).2.2|(with_reducible refine Kd.qC ?_ _)|(with_reducible refine Kd.qE ?_ _)|(with_reducible refine Kd.ji ?_)));(case aB=>exact (bl HB));(case aF=>exact (fun k_ hk=>Kd.fresh' (Kd.Zv (ro HR)) k_ hk));(case aO=>exact (rm HO.out (fun _ hk=>hk.2)));(case aS=>exact (zH (bl HB)));(case aL=>have:=L5.out;omega);intro vHS wn ho hb hg hat;have HS:=Ak (Kd.qm ho (fun _ _=>trivial):Kd.R (Kd.int .u32) 60 _ w.heap.size (fun _=>True) _ _);replace HB:=Ak hb;clear HO HR hb ho hg hat)|((with_reducible refine zB (N:=54) rfl ?_);refine LU 60 (N:=54) (xs:=([wI 21 8 0 0,wW 18 0 1,wI 0 x 8 0]:List Int)) (inner:=[.int .u32 (wI 21 8 0 0),.int .u32 (wW 18 0 1),.int .u32 (wI 0 x 8 0)]) ?_;intro vHT wn ho hb hg_ qp;clear hg_ qp;(first|rw [← Y6.out] at ho|(simp only [Int.reduceToNat] at ho;rw [← Y6.out] at ho));have HT:=Ak (Kd.yH (Kd.Ze ho (Kd.Zv (ro HS))) (zH (bl HB)));replace HS:=Ak (Kd.jf (ro HS) (Kd.jT ho) hb);clear ho;replace HB:=BS HB hb;clear hb;obtain ⟨AHT,cHT,eHT⟩:=Kd.yA HT.out;subst eHT)|((with_reducible refine yt (b:=.append) (xs:=#[.tmp 49,.tmp 54]) rfl ?_);at_builtin;refine Kd.yS (Kd.int .u32) (w0:=w) w.heap.size rfl (.tmp 49) (.tmp 54) 50 60 (.int .u32 0) 4 rfl Tryz.underlying50 info60 rfl (by decide) (by omega) vHS (l++y5) y6 _ _ _ (fun k_=>some k_≠(.slice AHT y6.length cHT:Value).ownBlock) (fun _=>False) rfl rfl ?aO ?aR (fun _ _ h=>h) (fun _ h=>h.elim) ?aF ?aB ?aS ?aL ?_;(case aR=>repeat (first|exact (Kd.yB HT.out).2.2|(with_reducible refine Kd.qC ?_ _)|(with_reducible refine Kd.qE ?_ _)|(with_reducible refine Kd.ji ?_)));(case aB=>exact (bl HB));(case aF=>exact (fun k_ hk=>Kd.fresh' (Kd.Zv (ro HT)) k_ hk));(case aO=>exact (rm HS.out (fun _ hk=>hk.2)));(case aS=>exact (zH (bl HB)));(case aL=>have:=L6.out;omega);intro vHU wn ho hb hg hat;have HU:=Ak (Kd.qm ho (fun _ _=>trivial):Kd.R (Kd.int .u32) 60 _ w.heap.size (fun _=>True) _ _);replace HB:=Ak hb;clear HS HT hb ho hg hat))
    go_ret
    exact ⟨_,rfl,by rw [E.out];exact HU.out,(bl HB)⟩
end Go.Proofs.YtiekodnojmkfaaaGreatDoor.yD
