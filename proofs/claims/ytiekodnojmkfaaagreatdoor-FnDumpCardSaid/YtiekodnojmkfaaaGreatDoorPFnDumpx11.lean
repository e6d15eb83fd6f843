import Derived.Test.YtiekodnojmkfaaaGreatDoorPFnDumpx0
import Derived.Test.YtiekodnojmkfaaaGreatDoorPFnDumpx4
import Derived.Test.YtiekodnojmkfaaaGreatDoorPFnDumpx9
import Derived.Test.YtiekodnojmkfaaaGreatDoorPFnDumpx10
namespace Go.Proofs.YtiekodnojmkfaaaGreatDoor.yD
set_option maxHeartbeats 8000000
set_option maxRecDepth 100000
open Go.RowKit Go.Proofs.YtiekodnojmkfaaaGreatDoorW.zF Go.Proofs.YtiekodnojmkfaaaGreatDoorW.yC Go.Proofs.YtiekodnojmkfaaaGreatDoorW.yY
attribute [local go_sem] xM xO qG qH yZ xg xP xQ
set_option linter.unusedVariables false
set_option linter.unusedSimpArgs false
def xR.f (k:Nat) (l0:List Int):Option ((List (S56))):=(zx.f k l0 0 6).bind fun bt183=>((ql.f k l0 bt183.2).bind fun JV=>(if bt183.1=0 then ((yE.f k l0 JV.2 JV.1).bind fun t190=>(some t190)) else (some JV.1)))
theorem xR.calls (k:Nat) (A0:Option Addr) (c0:Nat) (l0:List Int) (r:List (S56)) (w:World) (hr0:Kd.C (Kd.int .u8) w A0 l0.length l0) (hc0:l0.length≤c0) (h:xR.f k l0=some r) :
  Calls Tryz.prog 5 #[.slice A0 l0.length c0] w fun e w'=>∃ v0_:Value,e=.returned (.agg #[v0_])∧Kd.N k56 56 w' w.heap.size (fun k_=>(w.heap.size≤k_)) v0_ r∧Below w.heap.size w w':=by
 have hu25:=Tryz.underlying25
 have HR0:=Ak hr0;have HC0:=Ak hc0;clear hr0 hc0
 have HB:=Ak (Below.refl w.heap.size w)
 have H:((zx.f k l0 0 6).bind fun bt183=>((ql.f k l0 bt183.2).bind fun JV=>(if bt183.1=0 then ((yE.f k l0 JV.2 JV.1).bind fun t190=>(some t190)) else (some JV.1))))=some r:=h
 clear h
 replace H:=Option.bind_eq_some_iff.mp H
 obtain ⟨⟨t183,t184⟩,A20,H⟩:=H
 replace H:((ql.f k l0 t184).bind fun JV=>(if t183=0 then ((yE.f k l0 JV.2 JV.1).bind fun t190=>(some t190)) else (some JV.1)))=some r:=H
 have A2:=Ak A20;clear A20
 replace H:=Option.bind_eq_some_iff.mp H
 obtain ⟨⟨t185,t188⟩,A30,H⟩:=H
 replace H:(if t183=0 then ((yE.f k l0 t188 t185).bind fun t190=>(some t190)) else (some t185))=some r:=H
 have A3:=Ak A30;clear A30
 by_cases c4:t183=0
 ·rw [if_pos c4] at H
  have ZG:=bT c4
  have c4b1:=nF c4
  clear c4
  replace H:=Option.bind_eq_some_iff.mp H
  obtain ⟨t190,A50,H⟩:=H
  replace H:(some t190)=some r:=H
  have A5:=Ak A50;clear A50
  obtain rfl:=Option.some.inj H
  go_enter Tryz.func5,Tryz.ntmps5
  go_wp2_with (first|((with_reducible refine zB (N:=2) rfl ?_);refine zK ?hg (N:=2) ?hd (cs:=#[.slice none 0 0]) (t:=25) ?hr ?_;(case hd=>rfl);(case hg=>rfl);(case hr=>first|(go_simp;done)|(go_simp;rfl));intro Zk hg w6 hbox hb;have vK:=Ak (hbox);have GW182:=gs HB hg;have GE182:=gs HB hg;replace HB:=BS HB hb;clear hb hbox hg)|((with_reducible refine yP (f:=14) rfl ?_);refine jU (some 9) rfl rfl Tryz.func14 (by kernel_rfl) rfl #[.slice A0 l0.length c0,.int .i64 0,.int .i64 6] rfl em ?_;(with_reducible refine (zx.calls k _ _ l0 0 6 t183 t184 _ ?yQ ?xG A2.out).mono ?_);(case yQ=>exact co HR0 HB);(case xG=>exact HC0.out);rintro e w' ⟨rfl,⟨nd,rfl⟩⟩;refine ⟨_,rfl,?_⟩;(try (rw [ZH w6];generalize hq_:World.drewN w6 _=w6;have n0_:zh (w6.heap[Zk]?=some (.cells #[.slice none 0 0] 25 (0,0))):=⟨by rw [← hq_];exact (bo vK)⟩;have n1_:zh (Below w.heap.size w w6):=⟨by rw [← hq_];exact (bl HB)⟩;clear vK HB hq_;have vK:=n0_;have HB:=n1_;clear n0_ n1_)))|((with_reducible refine yP (f:=15) rfl ?_);refine jU (some 15) rfl rfl Tryz.func15 (by kernel_rfl) rfl #[.slice A0 l0.length c0,.int .i64 t184] rfl em ?_;(with_reducible refine (ql.calls k _ _ l0 t184 t185 t188 _ ?yQ ?xG A3.out).mono ?_);(case yQ=>exact co HR0 HB);(case xG=>exact HC0.out);rintro e w7 ⟨v186,rfl,ho0,hb⟩;refine ⟨_,rfl,?_⟩;have QO:=Ak (Kd.JW (Kd.Zl (ok':=fun k_=>(w.heap.size≤k_)∧k_≠Zk) (Kd.S_N (Kd.Qp ho0)) (fun k_ hk_=>⟨(Nat.le_trans (zH (bl HB)) hk_.2.1),(Kd.JX (g:=Zk) (bo vK) k_ hk_.2.1)⟩)) (zH (bl HB)));replace vK:=BB vK hb;replace HB:=BS HB hb)|((with_reducible refine zB (N:=5) rfl ?_);refine zK ?hg (N:=5) ?hd (cs:=#[.slice none 0 0]) (t:=25) ?hr ?_;(case hd=>rfl);(case hg=>rfl);(case hr=>first|(go_simp;done)|(go_simp;rfl));intro Xw hg w8 hbox hb;have BK189:=Ak (hbox);have GW189:=gs HB hg;have GE189:=gs HB hg;have Xx:=Ak ((by rw [hg];exact Nat.ne_of_lt (yx (g:=Zk) (bo vK)):Zk≠Xw));have JY:=Ak ((by rw [hg];exact Nat.ne_of_gt (yx (g:=Zk) (bo vK)):Xw≠Zk));replace QO:=Ak (Kd.ZK (Kd.N_elderB (no QO) Xw (Nat.le_of_eq hg.symm)) hb);replace vK:=BB vK hb;replace HB:=BS HB hb;clear hb hbox hg;obtain ⟨Ao9,co9,eo9⟩:=Kd.jk QO.out;subst eo9;have hnb10:=JY.out;have hnc10:=Xx.out;obtain ⟨hcz11_0,hfz11_0⟩:=bk1 BK189.out)|((with_reducible refine qw (t:=25) (p:=5) rfl ?_);refine store_event (t:=25) (p:=5) (v:=?vo_w12) (w1:=(w8.setCell ⟨Xw,0,none⟩ (.slice Ao9 t185.length co9))) ?hg ?ho ?hn ?hr ?_;(case ho=>rfl);(case hg=>rfl);(case hn=>rfl);(case hr=>first|(go_simp;done)|(go_simp;rfl));intro w12 hw;have n0_:zh (Kd.N k56 56 w12 w.heap.size (fun k_=>(w.heap.size≤k_)∧k_≠Zk∧k_≠Xw) (.slice Ao9 t185.length co9) t185):=⟨(by rw [hw];exact (nm (Kd.N_far (p:=⟨Xw,0,none⟩) (Kd.Zl QO.out (fun k_ hk=>(⟨hk,hk.2⟩:_∧k_≠Xw))) (fun _ hk=>hk.2) (.slice Ao9 t185.length co9)) (fun _ hk=>⟨hk.1.1.1,⟨hk.1.1.2,hk.1.2⟩⟩)))⟩;have n1_:zh (w12.heap[Zk]?=some (.cells #[.slice none 0 0] 25 (0,0))):=⟨(by rw [hw];exact (by (with_reducible repeat (first|refine qJ ?_ _|refine xI ?_|refine zT ?_ _));refine Qq ?_ Xx.out _;(with_reducible repeat (first|refine qJ ?_ _|refine xI ?_|refine zT ?_ _));exact vK.out))⟩;have n2_:zh (w12.heap[Xw]?=some (.cells #[.slice Ao9 t185.length co9] 25 (0,0))):=⟨(by rw [hw];exact (bq BK189))⟩;have n3_:zh (Below w.heap.size w w12):=⟨(by rw [hw];exact (bl HB))⟩;clear hw;clear QO;clear vK;clear BK189;clear HB;have QO:=n0_;have vK:=n1_;have BK189:=n2_;have HB:=n3_;clear n0_ n1_ n2_ n3_;obtain ⟨hcz13_0,hfz13_0⟩:=bk1 BK189.out)|((with_reducible refine yP (f:=16) rfl ?_);refine jU (some 23) rfl rfl Tryz.func16 (by kernel_rfl) rfl #[.slice A0 l0.length c0,.int .i64 t188,.agg #[.slice Ao9 t185.length co9]] rfl em ?_;(with_reducible refine (yE.calls k _ _ l0 t188 (fun k_=>((w.heap.size≤k_)∧(k_≠Zk∧k_≠Xw))) _ _ t185 t190 _ ?yQ ?xG ?qW A5.out).mono ?_);(case yQ=>exact co HR0 HB);(case xG=>exact HC0.out);(case qW=>exact Kd.N_V (QO.out));rintro e w14 ⟨v191,rfl,ho0,hb⟩;refine ⟨_,rfl,?_⟩;have HO192:=Ak (Kd.JW (Kd.Zl (ok':=fun k_=>(w.heap.size≤k_)∧k_≠Zk∧k_≠Xw) ho0 (fun k_ hk_=>⟨Or.elim hk_ (fun hs_=>hs_.1) (fun hn_=>(Nat.le_trans (zH (bl HB)) hn_)),Or.elim hk_ (fun hs_=>hs_.2.1) (fun hn_=>(Kd.JX (g:=Zk) (bo vK) k_ hn_)),Or.elim hk_ (fun hs_=>hs_.2.2) (fun hn_=>(Kd.JX (g:=Xw) (bo BK189) k_ hn_))⟩)) (zH (bl HB)));replace QO:=Ak (Kd.N_elder' (no QO) (Kd.N_base ho0) hb);replace vK:=BB vK hb;replace BK189:=BB BK189 hb;replace HB:=BS HB hb;obtain ⟨Ao15,co15,eo15⟩:=Kd.jk HO192.out;subst eo15;obtain ⟨hcz16_0,hfz16_0⟩:=bk1 vK.out))
  refine bodyPost_ret (results_cell_row rfl _ _ Zk 25 #[.slice Ao15 t190.length co15] (0,0) _ rfl (bq vK) Tryz.underlying25 rfl (by kernel_rfl)) rfl ?_
  exact ⟨_,ef,nm (Kd.N_far (p:=⟨Zk,0,none⟩) (Kd.Zl HO192.out (fun k_ hk=>(⟨hk,hk.2.1⟩:_∧k_≠Zk))) (fun _ hk=>hk.2) (.slice Ao15 t190.length co15)) (fun _ hk=>hk.1.1),bl HB⟩
 ·rw [if_neg c4] at H
  have ZG:=bF c4
  have c4b1:=nT c4
  obtain rfl:=Option.some.inj H
  go_enter Tryz.func5,Tryz.ntmps5
  go_wp2_with (first|((with_reducible refine zB (N:=2) rfl ?_);refine zK ?hg (N:=2) ?hd (cs:=#[.slice none 0 0]) (t:=25) ?hr ?_;(case hd=>rfl);(case hg=>rfl);(case hr=>first|(go_simp;done)|(go_simp;rfl));intro Zk hg w17 hbox hb;have vK:=Ak (hbox);have GW182:=gs HB hg;have GE182:=gs HB hg;replace HB:=BS HB hb;clear hb hbox hg)|((with_reducible refine yP (f:=14) rfl ?_);refine jU (some 9) rfl rfl Tryz.func14 (by kernel_rfl) rfl #[.slice A0 l0.length c0,.int .i64 0,.int .i64 6] rfl em ?_;(with_reducible refine (zx.calls k _ _ l0 0 6 t183 t184 _ ?yQ ?xG A2.out).mono ?_);(case yQ=>exact co HR0 HB);(case xG=>exact HC0.out);rintro e w' ⟨rfl,⟨nd,rfl⟩⟩;refine ⟨_,rfl,?_⟩;(try (rw [ZH w17];generalize hq_:World.drewN w17 _=w17;have n0_:zh (w17.heap[Zk]?=some (.cells #[.slice none 0 0] 25 (0,0))):=⟨by rw [← hq_];exact (bo vK)⟩;have n1_:zh (Below w.heap.size w w17):=⟨by rw [← hq_];exact (bl HB)⟩;clear vK HB hq_;have vK:=n0_;have HB:=n1_;clear n0_ n1_)))|((with_reducible refine yP (f:=15) rfl ?_);refine jU (some 15) rfl rfl Tryz.func15 (by kernel_rfl) rfl #[.slice A0 l0.length c0,.int .i64 t184] rfl em ?_;(with_reducible refine (ql.calls k _ _ l0 t184 t185 t188 _ ?yQ ?xG A3.out).mono ?_);(case yQ=>exact co HR0 HB);(case xG=>exact HC0.out);rintro e w18 ⟨v186,rfl,ho0,hb⟩;refine ⟨_,rfl,?_⟩;have QO:=Ak (Kd.JW (Kd.Zl (ok':=fun k_=>(w.heap.size≤k_)∧k_≠Zk) (Kd.S_N (Kd.Qp ho0)) (fun k_ hk_=>⟨(Nat.le_trans (zH (bl HB)) hk_.2.1),(Kd.JX (g:=Zk) (bo vK) k_ hk_.2.1)⟩)) (zH (bl HB)));replace vK:=BB vK hb;replace HB:=BS HB hb)|((with_reducible refine zB (N:=5) rfl ?_);refine zK ?hg (N:=5) ?hd (cs:=#[.slice none 0 0]) (t:=25) ?hr ?_;(case hd=>rfl);(case hg=>rfl);(case hr=>first|(go_simp;done)|(go_simp;rfl));intro Xw hg w19 hbox hb;have BK189:=Ak (hbox);have GW189:=gs HB hg;have GE189:=gs HB hg;have Xx:=Ak ((by rw [hg];exact Nat.ne_of_lt (yx (g:=Zk) (bo vK)):Zk≠Xw));have JY:=Ak ((by rw [hg];exact Nat.ne_of_gt (yx (g:=Zk) (bo vK)):Xw≠Zk));replace QO:=Ak (Kd.ZK (Kd.N_elderB (no QO) Xw (Nat.le_of_eq hg.symm)) hb);replace vK:=BB vK hb;replace HB:=BS HB hb;clear hb hbox hg;obtain ⟨Ao20,co20,eo20⟩:=Kd.jk QO.out;subst eo20;have hnb21:=JY.out;have hnc21:=Xx.out;obtain ⟨hcz22_0,hfz22_0⟩:=bk1 BK189.out;obtain ⟨hcz23_0,hfz23_0⟩:=bk1 vK.out))
  refine bodyPost_ret (results_cell_row rfl _ _ Zk 25 #[.slice Ao20 t185.length co20] (0,0) _ rfl (by (with_reducible repeat (first|refine qJ ?_ _|refine xI ?_|refine zT ?_ _));refine xK (cs:=#[.slice none 0 0]) ?_ 0 _ rfl;(with_reducible repeat (first|refine qJ ?_ _|refine xI ?_|refine zT ?_ _));refine Qq ?_ Xx.out _;(with_reducible repeat (first|refine qJ ?_ _|refine xI ?_|refine zT ?_ _));exact vK.out) Tryz.underlying25 rfl (by kernel_rfl)) rfl ?_
  exact ⟨_,ef,nm (Kd.N_far (p:=⟨Zk,0,none⟩) (Kd.N_far (p:=⟨Xw,0,none⟩) (Kd.Zl (Kd.Zl QO.out (fun k_ hk=>(⟨hk,hk.2⟩:_∧k_≠Xw))) (fun k_ hk=>(⟨hk,hk.1.1.2⟩:_∧k_≠Zk))) (fun _ hk=>hk.1.2) (.slice Ao20 t185.length co20)) (fun _ hk=>hk.2) (.slice Ao20 t185.length co20)) (fun _ hk=>hk.1.1.1.1),bl HB⟩
def zQ.f (a0:Int) (a1:Int) (a2:Int):Option (Bool):=if a1≤a0 then (some (decide (a0≤a2))) else (some false)
theorem zQ.calls (a0:Int) (a1:Int) (a2:Int) (r:Bool) (w:World) (h:zQ.f a0 a1 a2=some r) :
  Calls Tryz.prog 35 #[.int .i64 a0,.int .i64 a1,.int .i64 a2] w fun e w'=>e=.returned (.bool r)∧xX w w':=by
 have H:(if a1≤a0 then (some (decide (a0≤a2))) else (some false))=some r:=h
 clear h
 by_cases c4:a1≤a0
 ·rw [if_pos c4] at H
  have ZG:=dt c4
  clear c4
  obtain rfl:=Option.some.inj H
  go_enter Tryz.func35,Tryz.ntmps35
  go_wp2
  go_ret
  exact ⟨by first|rfl|(simp;done)|(simp [*];done),dz⟩
 ·rw [if_neg c4] at H
  have ZG:=df c4
  clear c4
  obtain rfl:=Option.some.inj H
  go_enter Tryz.func35,Tryz.ntmps35
  go_wp2
  go_ret
  exact ⟨by first|rfl|(simp;done)|(simp [*];done),dz⟩
def jE.f (yR:Int) (yX:Int) (yN:ByteArray):Option (Bool):=if yR=0 then (if yX=0 then (some (yN.toList == ([]:List UInt8))) else (some false)) else (if yR=1 then (if yX=0 then (some (yN.toList == ([]:List UInt8))) else (if yX=1 then (some (yN.toList == ([]:List UInt8))) else (some false))) else (if yR=2 then (some (yN.toList == ([]:List UInt8))) else (if yR=3 then (if yX=0 then (some (decide ((yN.size:Int)≤1000))) else (some false)) else (some false))))
theorem jE.calls (yR:Int) (yX:Int) (yN:ByteArray) (r:Bool) (w:World) (h:jE.f yR yX yN=some r) :
  Calls Tryz.prog 62 #[.agg #[.int .i64 yR,.int .i64 yX,.string yN]] w fun e w'=>e=.returned (.bool r)∧Below w.heap.size w w':=by
 have hu67:=Tryz.underlying67
 have HB:=Ak (Below.refl w.heap.size w)
 have H:(if yR=0 then (if yX=0 then (some (yN.toList == ([]:List UInt8))) else (some false)) else (if yR=1 then (if yX=0 then (some (yN.toList == ([]:List UInt8))) else (if yX=1 then (some (yN.toList == ([]:List UInt8))) else (some false))) else (if yR=2 then (some (yN.toList == ([]:List UInt8))) else (if yR=3 then (if yX=0 then (some (decide ((yN.size:Int)≤1000))) else (some false)) else (some false)))))=some r:=h
 clear h
 by_cases c2:yR=0
 ·rw [if_pos c2] at H
  have c2b0:=bT c2
  have c2b1:=nF c2
  clear c2
  by_cases c3:yX=0
  ·rw [if_pos c3] at H
   have JZ:=bT c3
   have c3b1:=nF c3
   clear c3
   obtain rfl:=Option.some.inj H
   go_enter Tryz.func62,Tryz.ntmps62
   go_wp2_with (first|((with_reducible refine zB (N:=1) rfl ?_);(try (refine yL (by rfl) ?_;dsimp only));refine zK ?hg (N:=1) ?hd (cs:=#[.int .i64 yR,.int .i64 yX,.string yN]) (t:=67) ?hr ?_;(case hd=>rfl);(case hg=>rfl);(case hr=>first|(go_simp;done)|(go_simp;rfl));intro gb193 hg w4 hbox hb;have Xy:=Ak (hbox);have GW193:=gs HB hg;have GE193:=gs HB hg;replace HB:=BS HB hb;clear hb hbox hg;obtain ⟨hcz5_0,hcz5_1,hcz5_2,hfz5_0,hfz5_1,hfz5_2⟩:=bk3 Xy.out))
   go_ret
   exact ⟨ef,bl HB⟩
  ·rw [if_neg c3] at H
   have JZ:=bF c3
   have c3b1:=nT c3
   obtain rfl:=Option.some.inj H
   go_enter Tryz.func62,Tryz.ntmps62
   go_wp2_with (first|((with_reducible refine zB (N:=1) rfl ?_);(try (refine yL (by rfl) ?_;dsimp only));refine zK ?hg (N:=1) ?hd (cs:=#[.int .i64 yR,.int .i64 yX,.string yN]) (t:=67) ?hr ?_;(case hd=>rfl);(case hg=>rfl);(case hr=>first|(go_simp;done)|(go_simp;rfl));intro gb193 hg w6 hbox hb;have Xy:=Ak (hbox);have GW193:=gs HB hg;have GE193:=gs HB hg;replace HB:=BS HB hb;clear hb hbox hg;obtain ⟨hcz7_0,hcz7_1,hcz7_2,hfz7_0,hfz7_1,hfz7_2⟩:=bk3 Xy.out))
   go_ret
   exact ⟨ef,bl HB⟩
 ·rw [if_neg c2] at H
  have c2b0:=bF c2
  have c2b1:=nT c2
  by_cases c8:yR=1
  ·rw [if_pos c8] at H
   have c8b0:=bT c8
   have c8b1:=nF c8
   clear c8
   by_cases c9:yX=0
   ·rw [if_pos c9] at H
    have c9b0:=bT c9
    have c9b1:=nF c9
    clear c9
    obtain rfl:=Option.some.inj H
    go_enter Tryz.func62,Tryz.ntmps62
    go_wp2_with (first|((with_reducible refine zB (N:=1) rfl ?_);(try (refine yL (by rfl) ?_;dsimp only));refine zK ?hg (N:=1) ?hd (cs:=#[.int .i64 yR,.int .i64 yX,.string yN]) (t:=67) ?hr ?_;(case hd=>rfl);(case hg=>rfl);(case hr=>first|(go_simp;done)|(go_simp;rfl));intro gb193 hg w10 hbox hb;have Xy:=Ak (hbox);have GW193:=gs HB hg;have GE193:=gs HB hg;replace HB:=BS HB hb;clear hb hbox hg;obtain ⟨hcz11_0,hcz11_1,hcz11_2,hfz11_0,hfz11_1,hfz11_2⟩:=bk3 Xy.out))
    go_ret
    exact ⟨ef,bl HB⟩
   ·rw [if_neg c9] at H
    have c9b0:=bF c9
    have c9b1:=nT c9
    by_cases c12:yX=1
    ·rw [if_pos c12] at H
     have Je:=bT c12
     have c12b1:=nF c12
     clear c12
     obtain rfl:=Option.some.inj H
     go_enter Tryz.func62,Tryz.ntmps62
     go_wp2_with (first|((with_reducible refine zB (N:=1) rfl ?_);(try (refine yL (by rfl) ?_;dsimp only));refine zK ?hg (N:=1) ?hd (cs:=#[.int .i64 yR,.int .i64 yX,.string yN]) (t:=67) ?hr ?_;(case hd=>rfl);(case hg=>rfl);(case hr=>first|(go_simp;done)|(go_simp;rfl));intro gb193 hg w13 hbox hb;have Xy:=Ak (hbox);have GW193:=gs HB hg;have GE193:=gs HB hg;replace HB:=BS HB hb;clear hb hbox hg;obtain ⟨hcz14_0,hcz14_1,hcz14_2,hfz14_0,hfz14_1,hfz14_2⟩:=bk3 Xy.out))
     go_ret
     exact ⟨ef,bl HB⟩
    ·rw [if_neg c12] at H
     have Je:=bF c12
     have c12b1:=nT c12
     obtain rfl:=Option.some.inj H
     go_enter Tryz.func62,Tryz.ntmps62
     go_wp2_with (first|((with_reducible refine zB (N:=1) rfl ?_);(try (refine yL (by rfl) ?_;dsimp only));refine zK ?hg (N:=1) ?hd (cs:=#[.int .i64 yR,.int .i64 yX,.string yN]) (t:=67) ?hr ?_;(case hd=>rfl);(case hg=>rfl);(case hr=>first|(go_simp;done)|(go_simp;rfl));intro gb193 hg w15 hbox hb;have Xy:=Ak (hbox);have GW193:=gs HB hg;have GE193:=gs HB hg;replace HB:=BS HB hb;clear hb hbox hg;obtain ⟨hcz16_0,hcz16_1,hcz16_2,hfz16_0,hfz16_1,hfz16_2⟩:=bk3 Xy.out))
     go_ret
     exact ⟨ef,bl HB⟩
  ·rw [if_neg c8] at H
   have c8b0:=bF c8
   have c8b1:=nT c8
   by_cases c17:yR=2
   ·rw [if_pos c17] at H
    have c17b0:=bT c17
    have c17b1:=nF c17
    clear c17
    obtain rfl:=Option.some.inj H
    go_enter Tryz.func62,Tryz.ntmps62
    go_wp2_with (first|((with_reducible refine zB (N:=1) rfl ?_);(try (refine yL (by rfl) ?_;dsimp only));refine zK ?hg (N:=1) ?hd (cs:=#[.int .i64 yR,.int .i64 yX,.string yN]) (t:=67) ?hr ?_;(case hd=>rfl);(case hg=>rfl);(case hr=>first|(go_simp;done)|(go_simp;rfl));intro gb193 hg w18 hbox hb;have Xy:=Ak (hbox);have GW193:=gs HB hg;have GE193:=gs HB hg;replace HB:=BS HB hb;clear hb hbox hg;obtain ⟨hcz19_0,hcz19_1,hcz19_2,hfz19_0,hfz19_1,hfz19_2⟩:=bk3 Xy.out))
    go_ret
    exact ⟨ef,bl HB⟩
   ·rw [if_neg c17] at H
    have c17b0:=bF c17
    have c17b1:=nT c17
    by_cases c20:yR=3
    ·rw [if_pos c20] at H
     have c20b0:=bT c20
     have c20b1:=nF c20
     clear c20
     by_cases c21:yX=0
     ·rw [if_pos c21] at H
      have c21b0:=bT c21
      have c21b1:=nF c21
      clear c21
      obtain rfl:=Option.some.inj H
      go_enter Tryz.func62,Tryz.ntmps62
      go_wp2_with (first|((with_reducible refine zB (N:=1) rfl ?_);(try (refine yL (by rfl) ?_;dsimp only));refine zK ?hg (N:=1) ?hd (cs:=#[.int .i64 yR,.int .i64 yX,.string yN]) (t:=67) ?hr ?_;(case hd=>rfl);(case hg=>rfl);(case hr=>first|(go_simp;done)|(go_simp;rfl));intro gb193 hg w22 hbox hb;have Xy:=Ak (hbox);have GW193:=gs HB hg;have GE193:=gs HB hg;replace HB:=BS HB hb;clear hb hbox hg;obtain ⟨hcz23_0,hcz23_1,hcz23_2,hfz23_0,hfz23_1,hfz23_2⟩:=bk3 Xy.out))
      go_ret
      exact ⟨ef,bl HB⟩
     ·rw [if_neg c21] at H
      have c21b0:=bF c21
      have c21b1:=nT c21
      obtain rfl:=Option.some.inj H
      go_enter Tryz.func62,Tryz.ntmps62
      go_wp2_with (first|((with_reducible refine zB (N:=1) rfl ?_);(try (refine yL (by rfl) ?_;dsimp only));refine zK ?hg (N:=1) ?hd (cs:=#[.int .i64 yR,.int .i64 yX,.string yN]) (t:=67) ?hr ?_;(case hd=>rfl);(case hg=>rfl);(case hr=>first|(go_simp;done)|(go_simp;rfl));intro gb193 hg w24 hbox hb;have Xy:=Ak (hbox);have GW193:=gs HB hg;have GE193:=gs HB hg;replace HB:=BS HB hb;clear hb hbox hg;obtain ⟨hcz25_0,hcz25_1,hcz25_2,hfz25_0,hfz25_1,hfz25_2⟩:=bk3 Xy.out))
      go_ret
      exact ⟨ef,bl HB⟩
    ·rw [if_neg c20] at H
     have c20b0:=bF c20
     have c20b1:=nT c20
     obtain rfl:=Option.some.inj H
     go_enter Tryz.func62,Tryz.ntmps62
     go_wp2_with (first|((with_reducible refine zB (N:=1) rfl ?_);(try (refine yL (by rfl) ?_;dsimp only));refine zK ?hg (N:=1) ?hd (cs:=#[.int .i64 yR,.int .i64 yX,.string yN]) (t:=67) ?hr ?_;(case hd=>rfl);(case hg=>rfl);(case hr=>first|(go_simp;done)|(go_simp;rfl));intro gb193 hg w26 hbox hb;have Xy:=Ak (hbox);have GW193:=gs HB hg;have GE193:=gs HB hg;replace HB:=BS HB hb;clear hb hbox hg;obtain ⟨hcz27_0,hcz27_1,hcz27_2,hfz27_0,hfz27_1,hfz27_2⟩:=bk3 Xy.out))
     go_ret
     exact ⟨ef,bl HB⟩
end Go.Proofs.YtiekodnojmkfaaaGreatDoor.yD
