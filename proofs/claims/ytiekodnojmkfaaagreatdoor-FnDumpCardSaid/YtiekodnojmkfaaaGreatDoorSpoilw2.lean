import Derived.Test.YtiekodnojmkfaaaGreatDoorSpoil
namespace Go.Proofs.YtiekodnojmkfaaaGreatDoor.yD
set_option maxHeartbeats 64000000
set_option maxRecDepth 100000
open Go.RowKit Go.Proofs.YtiekodnojmkfaaaGreatDoorW.zF Go.Proofs.YtiekodnojmkfaaaGreatDoorW.yC Go.Proofs.YtiekodnojmkfaaaGreatDoorW.yY
attribute [local go_sem] xM xO qG qH yZ xg xP xQ
set_option linter.unusedVariables false
set_option linter.unusedSimpArgs false
theorem l2Spoil_w2 (k:Nat) (A0:Option Addr) (c0:Nat) (l0:List Int) (a1:Int) (P:Nat→Prop) (A2:Option Addr) (c2:Nat) (l2:List S56) (r:List S56) (w:World) (hr0:Kd.C (Kd.int .u8) w A0 l0.length l0) (hc0:l0.length≤c0) (hs:Kd.V k56 56 w w.heap.size P (.slice A2 l2.length c2) l2) (h:yE.f k l0 a1 l2=some r) (hL:∀ a p,zx.f k l0 a1 20=some (a,p)→14≤a∧a<20) :
  Calls Tryz.prog 16 #[.slice A0 l0.length c0,.int .i64 a1,.agg #[.slice A2 l2.length c2]] w fun e w'=>∃ v0_:Value,e=.returned (.agg #[v0_])∧Kd.N k56 56 w' w.heap.size (fun k_=>(P k_∨w.heap.size≤k_)) v0_ r∧Below w.heap.size w w':=by
 have JG:Tryz.prog.follows .mixedOrders=true:=by kernel_rfl
 have hu29:=Tryz.underlying25
 have hu44:=Tryz.underlying56
 have hu118:=Tryz.underlying106
 obtain ⟨a,p1,b,p2,x,p3,l,e1,e2,e3,e4,hin,rfl⟩:=Z7 h
 clear h
 have HL_:=zh.mk (hL _ _ e1)
 clear hL
 obtain ⟨bn,rfl⟩:∃ bn:Nat,b=(bn:Int):=⟨b.toNat,by have:=hin.2.2.1;omega⟩
 have E1:=zh.mk e1
 have E2:=zh.mk e2
 have E3:=zh.mk e3
 have E4:=zh.mk e4
 have HR:=zh.mk hr0
 have HC:=zh.mk hc0
 have HV:=zh.mk (Kd.ZW hs)
 have HB:=zh.mk (Below.refl w.heap.size w)
 have HIN:=zh.mk hin
 clear e1 e2 e3 e4 hr0 hc0 hs hin
 go_enter Tryz.func16,Tryz.ntmps16
 go_upto_region 1 with (first|((with_reducible refine zB (N:=5) rfl ?_);refine zK ?hg (N:=5) ?hd (cs:=#[.slice A2 l2.length c2]) (t:=25) ?hr ?_;(case hd=>rfl);(case hg=>rfl);(case hr=>first|(go_simp;done)|(go_simp;rfl));intro g5 hg5 wn hbox hb;have BX:=zh.mk hbox;replace HB:=zh.mk (zI (bl HB) hb);clear hb hbox hg5)|((with_reducible refine zB (N:=6) rfl ?_);refine zK ?hg (N:=6) ?hd (cs:=#[.slice none 0 0]) (t:=25) ?hr ?_;(case hd=>rfl);(case hg=>rfl);(case hr=>first|(go_simp;done)|(go_simp;rfl));intro g6 hg6 w1 hbox hb;have BY:=zh.mk hbox;have G6:=zh.mk (show w.heap.size≤g6 by rw [hg6];exact HB.out.size);replace BX:=zh.mk (yc BX.out hb);replace HB:=zh.mk (zI (bl HB) hb);clear hb hbox hg6))
 have HC1:=zh.mk (Kd.zY HR.out HB.out)
 have z5:w1.cell? ⟨g5,0,none⟩=some (.slice A2 l2.length c2):=(zi BX.out 0).trans rfl
 have hl2:(l2.length:Int)≤9223372036854775807:=by have:=(Kd.jq HV.out).2.2.2.1;omega
 go_upto_region 5 with (first|(have hq:=E1;clear hq;go_at_call 14;refine (zx.calls k _ _ l0 a1 20 _ _ _ ?yQ HC.out E1.out).mono ?_;(case yQ=>exact HC1.out);rintro r w2 ⟨rfl,hd⟩;replace HC1:=zh.mk (Kd.zY HC1.out hd.below);replace BX:=zh.mk (yc BX.out hd.below);replace BY:=zh.mk (yc BY.out hd.below);replace HB:=zh.mk (zI HB.out hd.below);clear hd z5 E1;have z5:w2.cell? ⟨g5,0,none⟩=some (.slice A2 l2.length c2):=(zi BX.out 0).trans rfl)|(have hq:=E2;clear hq;go_at_call 14;refine (zx.calls k _ _ l0 p1 (l2.length:Int) _ _ _ ?yQ HC.out E2.out).mono ?_;(case yQ=>exact HC1.out);rintro r w3 ⟨rfl,hd⟩;replace HC1:=zh.mk (Kd.zY HC1.out hd.below);replace BX:=zh.mk (yc BX.out hd.below);replace BY:=zh.mk (yc BY.out hd.below);replace HB:=zh.mk (zI HB.out hd.below);clear hd z5 E2;have z5:w3.cell? ⟨g5,0,none⟩=some (.slice A2 l2.length c2):=(zi BX.out 0).trans rfl)|(have hq:=E3;clear hq;go_at_call 14;refine (zx.calls k _ _ l0 p2 2 _ _ _ ?yQ HC.out E3.out).mono ?_;(case yQ=>exact HC1.out);rintro r w4 ⟨rfl,hd⟩;replace BX:=zh.mk (yc BX.out hd.below);replace BY:=zh.mk (yc BY.out hd.below);replace HB:=zh.mk (zI HB.out hd.below);clear HC1 hd z5 E3;have z5:w4.cell? ⟨g5,0,none⟩=some (.slice A2 l2.length c2):=(zi BX.out 0).trans rfl))
 have HV4:=zh.mk (Kd.jO HV.out HB.out)
 go_cut [10] (fun v10 wx=>∃ (g10:Nat) (A:Option Addr) (c:Nat),v10=.pointer (some ⟨g10,0,none⟩)∧zh (Sp0 P w g6 g10 (.slice A l.length c) l wx))
 case first =>
  go_wp2_with (first|(go_at_call 51;refine (yG.calls k (fun k=>P k∧k<w.heap.size) A2 c2 l2 l _ HV4.out E4.out).mono ?_;rintro e w5 ⟨v0,rfl,hN,hb⟩;obtain ⟨An,cn,rfl⟩:=Kd.jk hN;have HN:=zh.mk hN;have HB5:=zh.mk hb;clear hN hb)|((with_reducible refine zB (N:=10) rfl ?_);refine zK ?hg (N:=10) ?hd (cs:=#[.slice none 0 0]) (t:=25) ?hr ?_;(case hd=>rfl);(case hg=>rfl);(case hr=>first|(go_simp;done)|(go_simp;rfl));intro g10 hg10 w6 hbox hb;have G10:=zh.mk hg10;have B10:=zh.mk hbox;have HB6:=zh.mk hb;clear hg10 hbox hb;have y0:w6.cell? ⟨g10,0,none⟩=some (.slice none 0 0):=(zi B10.out 0).trans rfl;have y1:=zn B10.out 0))
  go_meet
  exact ⟨g10,An,cn,rfl,⟨Sp0.start HB.out G6.out BY.out HB5.out HN.out HB6.out G10.out B10.out⟩⟩
 case rest =>
 obtain ⟨g10,A,c,rfl,D0⟩:=hcut
 clear z5 BX BY HB HV4 HV HR HC E4
 have hin:=HIN.out
 obtain ⟨i0,i1,i2,i3,i4,i5,i6,i7,i8,i9,i10,i11,i12⟩:=hin
 obtain ⟨q,hq⟩:∃ q,zu l (bn:Int)=q:=⟨_,rfl⟩
 obtain ⟨g,cap,hv,hgb,hgl,_⟩:=Kd.N_form D0.out.row (by omega)
 injection hv with hA _ hc
 subst hA
 subst hc
 obtain ⟨ce,hcl,hFK,hcc,hfr⟩:=Kd.N_elem D0.out.row z56 (bn:Int) i2 i3
 have hFK2:Kd.FK k56 wc (fun k=>((((P k∧k<w.heap.size)∨w.heap.size≤k)∧k≠g6∧k≠g10)∧some k≠(Value.slice (some ⟨g,0,none⟩) l.length c).ownBlock)∧k<wc.heap.size) q ce:=by
  rw [← hq]
  exact Kd.Xd (Kd.Qe hFK) (fun k hk=>⟨⟨hk.1.1,fun he=>hk.1.2 (by simpa [Value.ownBlock] using he)⟩,hk.2⟩)
 obtain ⟨v3,v4,v5,v8,v9,hce,hrw⟩:=Rows.of_FK hFK2
 subst hce
 obtain ⟨A3,c3,rfl⟩:=Kd.kG hrw.r3
 obtain ⟨A4,c4,rfl⟩:=Kd.kG hrw.r4
 obtain ⟨A5,c5,rfl⟩:=Kd.kG hrw.r5
 obtain ⟨A8,c8,rfl⟩:=Kd.kG hrw.r8
 obtain ⟨A9,c9,rfl⟩:=Kd.kG hrw.r9
 have k0:wc.cell? ⟨g,bn*10,none⟩=some (.int .i64 q.f0):=hcc 0 _ rfl
 have k1:wc.cell? ⟨g,bn*10+1,none⟩=some (.bool q.f1):=hcc 1 _ rfl
 have k2:wc.cell? ⟨g,bn*10+2,none⟩=some (.int .i64 q.f2):=hcc 2 _ rfl
 have k3:wc.cell? ⟨g,bn*10+3,none⟩=some (.slice A3 q.f3.length c3):=hcc 3 _ rfl
 have k4:wc.cell? ⟨g,bn*10+4,none⟩=some (.slice A4 q.f4.length c4):=hcc 4 _ rfl
 have k5:wc.cell? ⟨g,bn*10+5,none⟩=some (.slice A5 q.f5.length c5):=hcc 5 _ rfl
 have k6:wc.cell? ⟨g,bn*10+6,none⟩=some (.int .i64 q.f6):=hcc 6 _ rfl
 have k7:wc.cell? ⟨g,bn*10+7,none⟩=some (.string q.f7):=hcc 7 _ rfl
 have k8:wc.cell? ⟨g,bn*10+8,none⟩=some (.slice A8 q.f8.length c8):=hcc 8 _ rfl
 have k9:wc.cell? ⟨g,bn*10+9,none⟩=some (.slice A9 q.f9.length c9):=hcc 9 _ rfl
 have HRW:=zh.mk hrw
 have HQ:=zh.mk hq
 clear hcc hfr hFK hFK2 hrw hcl hq i0 i1 i4 i5 i6 i7 i8 i9 i10 i11 i12 hgb hgl
 have y10:wc.cell? ⟨g10,0,none⟩=some (.slice (some ⟨g,0,none⟩) l.length c):=(zi D0.out.b10 0).trans rfl
 go_upto_region 6 with (fail)
 go_cut [11] (fun v11 wx=>∃ (g11:Nat),v11=.pointer (some ⟨g11,0,none⟩)∧zh (Sp1 P w g6 g10 g11 (.slice (some ⟨g,0,none⟩) l.length c) l q (.slice A3 q.f3.length c3) (.slice A4 q.f4.length c4) (.slice A5 q.f5.length c5) (.slice A8 q.f8.length c8) (.slice A9 q.f9.length c9) wx))
 case first =>
  go_wp2_with (((with_reducible refine zB (N:=11) rfl ?_);refine zK ?hg (N:=11) ?hd (cs:=#[.int .i64 0,.bool false,.int .i64 0,.slice none 0 0,.slice none 0 0,.slice none 0 0,.int .i64 0,.string ⟨#[]⟩,.slice none 0 0,.slice none 0 0]) (t:=56) ?hr ?_;(case hd=>rfl);(case hg=>rfl);(case hr=>first|(go_simp;done)|(go_simp;rfl));intro g11 hg_ w7 hbox hb;have G11:=zh.mk hg_;have B11:=zh.mk hbox;have HB7:=zh.mk hb;clear hg_ hbox hb;have yg11_0:w7.cell? ⟨g11,0,none⟩=some (.int .i64 0):=(zi B11.out 0).trans rfl;have zg11_0:=zn B11.out 0;have yg11_1:w7.cell? ⟨g11,1,none⟩=some (.bool false):=(zi B11.out 1).trans rfl;have zg11_1:=zn B11.out 1;have yg11_2:w7.cell? ⟨g11,2,none⟩=some (.int .i64 0):=(zi B11.out 2).trans rfl;have zg11_2:=zn B11.out 2;have yg11_3:w7.cell? ⟨g11,3,none⟩=some (.slice none 0 0):=(zi B11.out 3).trans rfl;have zg11_3:=zn B11.out 3;have yg11_4:w7.cell? ⟨g11,4,none⟩=some (.slice none 0 0):=(zi B11.out 4).trans rfl;have zg11_4:=zn B11.out 4;have yg11_5:w7.cell? ⟨g11,5,none⟩=some (.slice none 0 0):=(zi B11.out 5).trans rfl;have zg11_5:=zn B11.out 5;have yg11_6:w7.cell? ⟨g11,6,none⟩=some (.int .i64 0):=(zi B11.out 6).trans rfl;have zg11_6:=zn B11.out 6;have yg11_7:w7.cell? ⟨g11,7,none⟩=some (.string ⟨#[]⟩):=(zi B11.out 7).trans rfl;have zg11_7:=zn B11.out 7;have yg11_8:w7.cell? ⟨g11,8,none⟩=some (.slice none 0 0):=(zi B11.out 8).trans rfl;have zg11_8:=zn B11.out 8;have yg11_9:w7.cell? ⟨g11,9,none⟩=some (.slice none 0 0):=(zi B11.out 9).trans rfl;have zg11_9:=zn B11.out 9))
  go_meet
  exact ⟨g11,rfl,⟨Sp1.start D0.out HB7.out G11.out B11.out HRW.out⟩⟩
 case rest =>
 obtain ⟨g11,rfl,D1⟩:=hcut
 clear D0 HRW y10 k0 k1 k2 k3 k4 k5 k6 k7 k8 k9
 have PW:=zh.mk (show yM.f 1 23 0 0 0 (-131072)=some (wI 23 0 0 0) from zaw (o:=23) (a:=0) (b:=0) (c:=0) (by unfold inI;omega))
 have HB:=zh.mk (Sp1.refl D1.out)
 go_upto_region 7 with (fail)
 go_cut [12] (fun v12 wx=>∃ (g12:Nat) (u3:Value),v12=.pointer (some ⟨g12,0,none⟩)∧zh (vw P w g6 g10 g11 g12 (.slice (some ⟨g,0,none⟩) l.length c) l q (.slice A3 q.f3.length c3) (.slice A4 q.f4.length c4) (.slice A5 q.f5.length c5) (.slice A8 q.f8.length c8) (.slice A9 q.f9.length c9) 0 u3 wx))
 case first =>
  go_wp2_with (first|(go_at_call 52;refine (yM.calls 1 23 0 0 0 (-131072) _ _ PW.out).mono ?_;rintro e w8 ⟨rfl,hb⟩;replace HB:=zh.mk (zI HB.out hb);clear hb)|((with_reducible refine zB (N:=48) rfl ?_);refine Kd.XU (Kd.int .u32) (w0:=wc) wc.heap.size 60 ?hg (N:=48) ?hd (xs:=([wI 23 0 0 0]:List Int)) (inner:=[.int .u32 (wI 23 0 0 0)]) (ok:=fun _=>True) (okp:=fun _=>True) ?hr ?hp (fun _ hk=>hk) trivial HB.out HB.out.size (by simp) ?_;(case hd=>rfl);(case hg=>rfl);(case hr=>first|(go_simp;done)|(go_simp;rfl));(case hp=>repeat (first|exact qx.none _ _|refine qx.one (show Kd.M (Kd.int .u32) _ _ _ _ [_] from rfl) ?_));intro u3 w9 ho hb hg_ qp;obtain ⟨Au,cu,eu⟩:=Kd.yA ho;subst eu;have HU:=zh.mk ho;clear HB;have HB:=zh.mk hb;clear ho hb hg_ qp)|((with_reducible refine zB (N:=12) rfl ?_);refine zK ?hg (N:=12) ?hd (cs:=#[.int .i64 0,.bool false,.int .i64 0,.slice none 0 0,.slice none 0 0,.slice none 0 0,.int .i64 0,.string ⟨#[]⟩,.slice none 0 0,.slice none 0 0]) (t:=56) ?hr ?_;(case hd=>rfl);(case hg=>rfl);(case hr=>first|(go_simp;done)|(go_simp;rfl));intro g12 hg_ w10 hbox hb;have G12:=zh.mk hg_;have B12:=zh.mk hbox;have HB10:=zh.mk hb;clear hg_ hbox hb;have yg12_0:w10.cell? ⟨g12,0,none⟩=some (.int .i64 0):=(zi B12.out 0).trans rfl;have zg12_0:=zn B12.out 0;have yg12_1:w10.cell? ⟨g12,1,none⟩=some (.bool false):=(zi B12.out 1).trans rfl;have zg12_1:=zn B12.out 1;have yg12_2:w10.cell? ⟨g12,2,none⟩=some (.int .i64 0):=(zi B12.out 2).trans rfl;have zg12_2:=zn B12.out 2;have yg12_3:w10.cell? ⟨g12,3,none⟩=some (.slice none 0 0):=(zi B12.out 3).trans rfl;have zg12_3:=zn B12.out 3;have yg12_4:w10.cell? ⟨g12,4,none⟩=some (.slice none 0 0):=(zi B12.out 4).trans rfl;have zg12_4:=zn B12.out 4;have yg12_5:w10.cell? ⟨g12,5,none⟩=some (.slice none 0 0):=(zi B12.out 5).trans rfl;have zg12_5:=zn B12.out 5;have yg12_6:w10.cell? ⟨g12,6,none⟩=some (.int .i64 0):=(zi B12.out 6).trans rfl;have zg12_6:=zn B12.out 6;have yg12_7:w10.cell? ⟨g12,7,none⟩=some (.string ⟨#[]⟩):=(zi B12.out 7).trans rfl;have zg12_7:=zn B12.out 7;have yg12_8:w10.cell? ⟨g12,8,none⟩=some (.slice none 0 0):=(zi B12.out 8).trans rfl;have zg12_8:=zn B12.out 8;have yg12_9:w10.cell? ⟨g12,9,none⟩=some (.slice none 0 0):=(zi B12.out 9).trans rfl;have zg12_9:=zn B12.out 9))
  go_meet
  exact ⟨g12,_,rfl,⟨vw.start D1.out HB.out HU.out HB10.out G12.out B12.out⟩⟩
 case rest =>
 obtain ⟨g12,u3,rfl,D2⟩:=hcut
 clear D1 HB PW
 have D:=D2
 clear D2
 have HB:=zh.mk (vw.refl D.out)
 have i3n:bn<l.length:=by omega
 have n0:¬ g=g11∧¬ g11=g:=by have:=(D.out.row.1 g (by simp [Value.ownBlock])).2.2.2.1;omega
 obtain ⟨n1,n2⟩:=n0
 have n0:¬ g10=g11∧¬ g11=g10∧¬ g6=g10∧¬ g10=g6∧¬ g6=g11∧¬ g12=g11∧¬ g11=g12:=by have:=D.out.o0;have:=D.out.o1;have:=D.out.o2;have:=D.out.o3;omega
 obtain ⟨n3,n4,n5,n6,n7,n8,n9⟩:=n0
 have hA:a=14∨a=15∨a=16∨a=17∨a=18∨a=19:=by have:=HL_.out;omega
 clear HL_
 rcases hA with rfl|rfl|rfl|rfl|rfl|rfl
 ·obtain ⟨yq,hyq⟩:∃ z,z=[(strOfNums [117])]++q.f9:=⟨_,rfl⟩
  have YQ:=zh.mk hyq
  clear hyq
  obtain ⟨y0,y1,y2,y3,y4,y5,y6,y7,y8,y9,f0,f2,f3,f4,f5,f6,f7,f8,f9⟩:=((D.out.below HB.out)).cells
  have y10:=(zi ((D.out.below HB.out)).b10 0).trans (show _=some (.slice (some ⟨g,0,none⟩) l.length c) from rfl)
  have E:zh (jg 14 (bn:Int) x l=l.set bn (⟨q.f0,q.f1,q.f2,q.f3,q.f4,q.f5,q.f6,q.f7,q.f8,yq⟩:S56)):=⟨by rw [YQ.out];unfold jg;rw [if_pos (by decide),HQ.out,Int.toNat_natCast];unfold spQ;rw [if_neg (by decide)];rw [if_neg (by decide)];rw [if_neg (by decide)];rw [if_neg (by decide)];rw [if_neg (by decide)];rw [if_neg (by decide)];rw [if_neg (by decide)];rw [if_neg (by decide)];rw [if_neg (by decide)];rw [if_neg (by decide)];rw [if_neg (by decide)];rw [if_neg (by decide)];rw [if_neg (by decide)];rw [if_neg (by decide)];simp only [if_true]⟩
  go_upto_region 46 with (first|((with_reducible refine zB (N:=165) rfl ?_);refine Kd.XU Kd.string (w0:=wc) wc.heap.size 9 ?hg (N:=165) ?hd (xs:=[(strOfNums [117])]) (inner:=[.string (strOfNums [117])]) (ok:=fun k=>wc.heap.size≤k) (okp:=fun _=>False) ?hr ?hp (fun _ hk=>hk.elim) ?hf (bl HB) ?hs (by simp) ?_;(case hd=>rfl);(case hg=>rfl);(case hr=>first|(go_simp;done)|(go_simp;rfl));(case hp=>exact qx.one (show Kd.M Kd.string _ _ _ (strOfNums [117]) [.string (strOfNums [117])] from rfl) (qx.none _ _));(case hf=>exact ((show Below wc.heap.size wc _ from (bl HB))).size);(case hs=>exact ((show Below wc.heap.size wc _ from (bl HB))).size);intro vL wn ho hb0 hg_ qp;obtain ⟨AL,cL,eL⟩:=Kd.yA ho;subst eL;have HL:=zh.mk ho;clear HB hg_ qp ho;have HB:=zh.mk hb0;clear hb0;clear y0 y1 y2 y3 y4 y5 y6 y7 y8 y9 f0 f2 f3 f4 f5 f6 f7 f8 f9 y10;obtain ⟨y0,y1,y2,y3,y4,y5,y6,y7,y8,y9,f0,f2,f3,f4,f5,f6,f7,f8,f9⟩:=(D.out.below HB.out).cells;have y10:=(zi (D.out.below HB.out).b10 0).trans (show _=some (.slice (some ⟨g,0,none⟩) l.length c) from rfl))|((with_reducible refine yt (b:=.append) (xs:=#[.tmp 165,.tmp 167]) rfl ?_);at_builtin;refine Kd.yS Kd.string (w0:=wc) wc.heap.size rfl (.tmp 165) (.tmp 167) 54 9 (.string ⟨#[]⟩) 16 rfl Tryz.underlying54 kinfo9 rfl (by decide) (by omega) (.slice AL 1 cL) [(strOfNums [117])] q.f9 _ _ _ (fun k=>wc.heap.size≤k) (fun _=>False) rfl rfl ?aO ?aR (fun _ _ h=>h) (fun _ h=>h.elim) ?aF ?aB ?aS ?aL ?_;(case aO=>exact HL.out);(case aF=>exact (fun k hk=>Nat.le_trans ((show Below wc.heap.size wc _ from (bl HB))).size hk));(case aB=>exact (show Below wc.heap.size wc _ from (bl HB)));(case aS=>exact ((show Below wc.heap.size wc _ from (bl HB))).size);(case aR=>exact (Kd.jq (Kd.jO D.out.qr.r9 HB.out)).2.2);(case aL=>have:=HIN.out.2.2.2.2.2.2;rw [HQ.out] at this;simp only [List.length_singleton];omega);intro vQ wn ho hb0 hg_ zaQ;rw [← YQ.out] at ho;obtain ⟨AQ,cQ,eQ⟩:=Kd.yA ho;subst eQ;have HN:=zh.mk ho;clear HB HL hg_ zaQ ho;have HB:=zh.mk hb0;clear hb0;clear y0 y1 y2 y3 y4 y5 y6 y7 y8 y9 f0 f2 f3 f4 f5 f6 f7 f8 f9 y10;obtain ⟨y0,y1,y2,y3,y4,y5,y6,y7,y8,y9,f0,f2,f3,f4,f5,f6,f7,f8,f9⟩:=(D.out.below HB.out).cells;have y10:=(zi (D.out.below HB.out).b10 0).trans (show _=some (.slice (some ⟨g,0,none⟩) l.length c) from rfl))|((with_reducible refine qw (t:=56) (p:=185) rfl ?_);refine jC (p:=.tmp 185) (x:=.tmp 184) ((D.out.below HB.out).put9 (Xj HN.out (fun k hk=>D.out.own k hk))) bn i3n rfl rfl rfl ?ha ?hx ?_;(case ha=>first|(go_simp;done)|(go_simp;with_reducible rfl));(case hx=>first|(go_simp;done)|(go_simp;with_reducible rfl));intro w9 hN hB h6 h10;have HN9:=zh.mk hN;have HB9:=zh.mk hB;have B6:=zh.mk h6;have x10:=(zi h10 0).trans (show _=some (.slice (some ⟨g,0,none⟩) l.length c) from rfl);have x6:=(zi h6 0).trans (show _=some (.slice none 0 0) from rfl);have z6:=zn h6 0;clear hN hB h6 h10))
  go_wp21
  refine bodyPost_ret (results_cell_row rfl _ _ g6 25 #[(.slice (some ⟨g,0,none⟩) l.length c)] (0,0) _ rfl (xK B6.out 0 (.slice (some ⟨g,0,none⟩) l.length c) rfl) Tryz.underlying25 rfl (by kernel_rfl)) rfl ?_
  refine ⟨_,rfl,?_⟩
  rw [E.out]
  exact vU HN9.out (fun k hk=>⟨hk.1,hk.2.1⟩) HB9.out G6.out _
 ·obtain ⟨yq,hyq⟩:∃ z,z=[(⟨0,x,⟨#[]⟩⟩:S67)]++q.f4:=⟨_,rfl⟩
  have YQ:=zh.mk hyq
  clear hyq
  obtain ⟨y0,y1,y2,y3,y4,y5,y6,y7,y8,y9,f0,f2,f3,f4,f5,f6,f7,f8,f9⟩:=((D.out.below HB.out)).cells
  have y10:=(zi ((D.out.below HB.out)).b10 0).trans (show _=some (.slice (some ⟨g,0,none⟩) l.length c) from rfl)
  have E:zh (jg 15 (bn:Int) x l=l.set bn (⟨q.f0,q.f1,q.f2,q.f3,yq,q.f5,q.f6,q.f7,q.f8,q.f9⟩:S56)):=⟨by rw [YQ.out];unfold jg;rw [if_pos (by decide),HQ.out,Int.toNat_natCast];unfold spQ;rw [if_neg (by decide)];rw [if_neg (by decide)];rw [if_neg (by decide)];rw [if_neg (by decide)];rw [if_neg (by decide)];rw [if_neg (by decide)];rw [if_neg (by decide)];rw [if_neg (by decide)];rw [if_neg (by decide)];rw [if_neg (by decide)];rw [if_neg (by decide)];rw [if_neg (by decide)];rw [if_neg (by decide)];rw [if_neg (by decide)];rw [if_neg (by decide)];simp only [if_true]⟩
  go_upto_region 46 with (first|((with_reducible refine zB (N:=174) rfl ?_);refine Kd.XU k67 (w0:=wc) wc.heap.size 67 ?hg (N:=174) ?hd (xs:=[(⟨0,x,⟨#[]⟩⟩:S67)]) (inner:=[.int .i64 0,.int .i64 x,.string ⟨#[]⟩]) (ok:=fun k=>wc.heap.size≤k) (okp:=fun _=>False) ?hr ?hp (fun _ hk=>hk.elim) ?hf (bl HB) ?hs (by simp) ?_;(case hd=>rfl);(case hg=>rfl);(case hr=>first|(go_simp;done)|(go_simp;rfl));(case hp=>exact qx.c3 (show Kd.M k67 _ _ _ (⟨0,x,⟨#[]⟩⟩:S67) [.int .i64 0,.int .i64 x,.string ⟨#[]⟩] from kS _ _ _ (⟨0,x,⟨#[]⟩⟩:S67)) (qx.none _ _));(case hf=>exact ((show Below wc.heap.size wc _ from (bl HB))).size);(case hs=>exact ((show Below wc.heap.size wc _ from (bl HB))).size);intro vL wn ho hb0 hg_ qp;obtain ⟨AL,cL,eL⟩:=Kd.yA ho;subst eL;have HL:=zh.mk ho;clear HB hg_ qp ho;have HB:=zh.mk hb0;clear hb0;clear y0 y1 y2 y3 y4 y5 y6 y7 y8 y9 f0 f2 f3 f4 f5 f6 f7 f8 f9 y10;obtain ⟨y0,y1,y2,y3,y4,y5,y6,y7,y8,y9,f0,f2,f3,f4,f5,f6,f7,f8,f9⟩:=(D.out.below HB.out).cells;have y10:=(zi (D.out.below HB.out).b10 0).trans (show _=some (.slice (some ⟨g,0,none⟩) l.length c) from rfl))|((with_reducible refine yt (b:=.append) (xs:=#[.tmp 174,.tmp 176]) rfl ?_);at_builtin;refine Kd.yS k67 (Rr:=fun p cs=>k67.K wn p cs) (w0:=wc) wc.heap.size rfl (.tmp 174) (.tmp 176) 51 67 (.agg #[(.int .i64 0),(.int .i64 0),(.string ⟨#[]⟩)]) 32 rfl Tryz.underlying51 info67 rfl (by decide) (by omega) (.slice AL 1 cL) [(⟨0,x,⟨#[]⟩⟩:S67)] q.f4 _ _ _ (fun k=>wc.heap.size≤k) (fun _=>False) rfl rfl ?aO ?aR (fun _ _ h=>(by rw [QN h];exact kS _ _ _ _)) (fun _ h=>h.elim) ?aF ?aB ?aS ?aL ?_;(case aO=>exact HL.out);(case aF=>exact (fun k hk=>Nat.le_trans ((show Below wc.heap.size wc _ from (bl HB))).size hk));(case aB=>exact (show Below wc.heap.size wc _ from (bl HB)));(case aS=>exact ((show Below wc.heap.size wc _ from (bl HB))).size);(case aR=>exact (Kd.jq (Kd.jO D.out.qr.r4 HB.out)).2.2);(case aL=>have:=HIN.out.2.2.2.2.2.2;rw [HQ.out] at this;simp only [List.length_singleton];omega);intro vQ wn ho hb0 hg_ zaQ;rw [← YQ.out] at ho;obtain ⟨AQ,cQ,eQ⟩:=Kd.yA ho;subst eQ;have HN:=zh.mk ho;clear HB HL hg_ zaQ ho;have HB:=zh.mk hb0;clear hb0;clear y0 y1 y2 y3 y4 y5 y6 y7 y8 y9 f0 f2 f3 f4 f5 f6 f7 f8 f9 y10;obtain ⟨y0,y1,y2,y3,y4,y5,y6,y7,y8,y9,f0,f2,f3,f4,f5,f6,f7,f8,f9⟩:=(D.out.below HB.out).cells;have y10:=(zi (D.out.below HB.out).b10 0).trans (show _=some (.slice (some ⟨g,0,none⟩) l.length c) from rfl))|((with_reducible refine qw (t:=56) (p:=185) rfl ?_);refine jC (p:=.tmp 185) (x:=.tmp 184) ((D.out.below HB.out).put4 (Xj HN.out (fun k hk=>D.out.own k hk))) bn i3n rfl rfl rfl ?ha ?hx ?_;(case ha=>first|(go_simp;done)|(go_simp;with_reducible rfl));(case hx=>first|(go_simp;done)|(go_simp;with_reducible rfl));intro w9 hN hB h6 h10;have HN9:=zh.mk hN;have HB9:=zh.mk hB;have B6:=zh.mk h6;have x10:=(zi h10 0).trans (show _=some (.slice (some ⟨g,0,none⟩) l.length c) from rfl);have x6:=(zi h6 0).trans (show _=some (.slice none 0 0) from rfl);have z6:=zn h6 0;clear hN hB h6 h10))
  go_wp21
  refine bodyPost_ret (results_cell_row rfl _ _ g6 25 #[(.slice (some ⟨g,0,none⟩) l.length c)] (0,0) _ rfl (xK B6.out 0 (.slice (some ⟨g,0,none⟩) l.length c) rfl) Tryz.underlying25 rfl (by kernel_rfl)) rfl ?_
  refine ⟨_,rfl,?_⟩
  rw [E.out]
  exact vU HN9.out (fun k hk=>⟨hk.1,hk.2.1⟩) HB9.out G6.out _
 ·have x6:=(zi D.out.b6 0).trans (show _=some (.slice none 0 0) from rfl)
  have z6:=zn D.out.b6 0
  go_upto_region 48 with (fail)
  go_wp21
  refine bodyPost_ret (results_cell_row rfl _ _ g6 25 #[(.slice none 0 0)] (0,0) _ rfl (xK D.out.b6 0 (.slice none 0 0) rfl) Tryz.underlying25 rfl (by kernel_rfl)) rfl ?_
  refine ⟨_,rfl,?_⟩
  exact vU (ok:=spOk P w g6 g10 g11 g12) (Kd.N_nil k56 56 wc w.heap.size _) (fun k hk=>⟨hk.1,hk.2.1⟩) D.out.bel G6.out _
 ·obtain ⟨Au,cu,eu⟩:=Kd.kG D.out.lr
  subst eu
  obtain ⟨N,hN⟩:∃ N:Nat,(N:Int)=64+x:=⟨(64+x).toNat,by have:=HIN.out.2.2.2.2.1;omega⟩
  have NN:=zh.mk hN
  clear hN
  have E:zh (jg 17 (bn:Int) x l=chL N N):=⟨by have:=NN.out;unfold jg chL;rw [if_neg (by decide),if_neg (by decide),if_pos rfl,if_neg (by omega),show (63+x).toNat=N-1 by omega]⟩
  go_upto_region 51 with ((with_reducible refine zB (N:=13) rfl ?_);refine zK ?hg (N:=13) ?hd (cs:=#[.slice none 0 0]) (t:=25) ?hr ?_;(case hd=>rfl);(case hg=>rfl);(case hr=>first|(go_simp;done)|(go_simp;rfl));intro g13 hg_ w5 hbox hb;have G13:=zh.mk hg_;have B13:=zh.mk hbox;have HB13:=zh.mk hb;clear hg_ hbox hb;have y13:=(zi B13.out 0).trans (show _=some (.slice none 0 0) from rfl);have zy13:=zn B13.out 0)
  have C0:=zh.mk (Ch.start D.out HB13.out G13.out B13.out)
  clear y13 zy13
  go_wp2
  go_loopg [14] N (fun kq v_ W'=>∃ (i:Nat) (v:Value) (nn:Int),v_=.int .i64 (i:Int)∧zh (kq=N-i)∧zh (i≤N)∧zh (Ch P w g6 g12 g13 v (chL N i) nn (.slice Au 1 cu) W'))
  case atStart=>exact ⟨0,.slice none 0 0,0,rfl,⟨rfl⟩,⟨Nat.zero_le _⟩,⟨by rw [chL_zero (by have:=NN.out;have:=HIN.out.2.2.2.2.1;omega)];exact C0.out⟩⟩
  case round =>
   obtain ⟨i,v,nn,rfl,HJ,HI,HCh⟩:=hrel
   have hc:=HCh.out
   clear HCh
   have RL:=zh.mk (show (chL N i).length≤1000 by have:=HI.out;have:=NN.out;have:=HIN.out.2.2.2.2.2.1;have:=@chL_len N i;omega)
   generalize hrr:chL N i=rr at hc RL
   have HRR:=zh.mk hrr
   clear hrr
   obtain ⟨A,c_,e_⟩:=Kd.jk hc.row
   subst e_
   obtain ⟨t0,t1,t2,t3,t4,t5,t6,t7,t8,t9,tf⟩:=YD hc.b12
   have y13:=(zi hc.b13 0).trans (show _=some (.slice A rr.length c_) from rfl)
   have zy13:=zn hc.b13 0
   have n0:¬ g12=g13∧¬ g13=g12∧¬ g6=g13∧¬ g13=g6:=by have:=hc.o0;have:=hc.o1;have:=hc.o2;omega
   obtain ⟨m1,m2,m3,m4⟩:=n0
   have HC:=zh.mk hc
   clear hc
   by_cases hi:i<N
   ·by_cases hl2:i+1<N
    ·have d1:decide ((i:Int)<wrap64 (64+x))=true:=dt (by have:=NN.out;have:=HIN.out.2.2.2.2.1;have:=HIN.out.2.2.2.2.2.1;unfold wrap64;omega)
     have d2:((i:Int) == wrap64 (wrap64 (64+x)-1))=false:=bF (by have:=NN.out;have:=HIN.out.2.2.2.2.1;have:=HIN.out.2.2.2.2.2.1;unfold wrap64;omega)
     have d3:¬ (i:Int)=wrap64 (wrap64 (64+x)-1):=beq_eq_false_iff_ne.mp d2
     have C1:=zh.mk (HC.out.setn 1)
     have HL2:=zh.mk hl2
     clear hl2
     obtain ⟨yq,hyq⟩:∃ z,z=rr++[ku (1)]:=⟨_,rfl⟩
     have YQ:=zh.mk hyq
     clear hyq
     obtain ⟨gm,hgm⟩:∃ gm,gk=gm+1:=⟨gk-1,by have:=HJ.out;omega⟩
     have HGM:=zh.mk hgm
     clear hgm
     have WW:zh (wrap64 ((i:Int)+1)=((i+1:Nat):Int)):=⟨by have:=NN.out;have:=HIN.out.2.2.2.2.2.1;unfold wrap64;omega⟩
     have HI2:=zh.mk hi
     clear hi
     go_wp2_with ((with_reducible refine yt (b:=.append) (xs:=#[.tmp 207,.tmp 209]) rfl ?_);at_builtin;refine Kd.JM k56 (w0:=w) w.heap.size rfl (.tmp 207) (.tmp 209) 23 56 (.agg #[(.int .i64 0),(.bool false),(.int .i64 0),(.slice none 0 0),(.slice none 0 0),(.slice none 0 0),(.int .i64 0),(.string ⟨#[]⟩),(.slice none 0 0),(.slice none 0 0)]) 168 rfl Tryz.underlying23 info56 rfl (by decide) (by decide) (.slice A rr.length c_) rr (ku (1)) [.int .i64 0,.bool false,.int .i64 1,(.slice Au 1 cu),.slice none 0 0,.slice none 0 0,.int .i64 (1),.string ⟨#[]⟩,.slice none 0 0,.slice none 0 0] (chOk P w g6 g12 g13) (fun k=>chOk P w g6 g12 g13 k∧some k≠((.slice A rr.length c_):Value).ownBlock) rfl (by first|(go_simp;done)|(go_simp;rfl)|rfl) (zaP C1.out.lr _) (fun _ hk=>hk) ?hf C1.out.row C1.out.bel C1.out.bel.size ?hl ?_;(case hf=>exact (fun k hk=>C1.out.own k hk));(case hl=>have:=RL.out;omega);intro v1 w1 hN hB hg hat;rw [← YQ.out] at hN;obtain ⟨A1,c1,e1⟩:=Kd.jk hN;subst e1;obtain ⟨hC,h13⟩:=C1.out.app hN hB hg hat;have HCn:=zh.mk hC;have x13:=(zi h13 0).trans (show _=some (.slice A rr.length c_) from rfl);have zx13:=zn h13 0;clear hN hB hg hat hC h13)
     have hgk:=HGM.out
     subst hgk
     go_roundg gm
     case measure=>have:=HJ.out;omega
     case rel=>exact ⟨i+1,.slice A1 yq.length c1,_,by first|rfl|(rw [WW.out])|(simp;done),⟨by have:=HJ.out;omega⟩,⟨by have:=HI2.out;omega⟩,⟨by have h:=HCn.out;rw [chL_lt HL2.out,HRR.out,← YQ.out];exact h⟩⟩
    ·have d1:decide ((i:Int)<wrap64 (64+x))=true:=dt (by have:=NN.out;have:=HIN.out.2.2.2.2.1;have:=HIN.out.2.2.2.2.2.1;unfold wrap64;omega)
     have d2:((i:Int) == wrap64 (wrap64 (64+x)-1))=true:=bT (by have:=NN.out;have:=HIN.out.2.2.2.2.1;have:=HIN.out.2.2.2.2.2.1;unfold wrap64;omega)
     have C1:=zh.mk ((HC.out.setn 1).setn 0)
     have HL2:=zh.mk (show i+1=N by omega)
     clear hl2
     obtain ⟨yq,hyq⟩:∃ z,z=rr++[ku (0)]:=⟨_,rfl⟩
     have YQ:=zh.mk hyq
     clear hyq
     obtain ⟨gm,hgm⟩:∃ gm,gk=gm+1:=⟨gk-1,by have:=HJ.out;omega⟩
     have HGM:=zh.mk hgm
     clear hgm
     have WW:zh (wrap64 ((i:Int)+1)=((i+1:Nat):Int)):=⟨by have:=NN.out;have:=HIN.out.2.2.2.2.2.1;unfold wrap64;omega⟩
     have HI2:=zh.mk hi
     clear hi
     go_wp2_with ((with_reducible refine yt (b:=.append) (xs:=#[.tmp 207,.tmp 209]) rfl ?_);at_builtin;refine Kd.JM k56 (w0:=w) w.heap.size rfl (.tmp 207) (.tmp 209) 23 56 (.agg #[(.int .i64 0),(.bool false),(.int .i64 0),(.slice none 0 0),(.slice none 0 0),(.slice none 0 0),(.int .i64 0),(.string ⟨#[]⟩),(.slice none 0 0),(.slice none 0 0)]) 168 rfl Tryz.underlying23 info56 rfl (by decide) (by decide) (.slice A rr.length c_) rr (ku (0)) [.int .i64 0,.bool false,.int .i64 1,(.slice Au 1 cu),.slice none 0 0,.slice none 0 0,.int .i64 (0),.string ⟨#[]⟩,.slice none 0 0,.slice none 0 0] (chOk P w g6 g12 g13) (fun k=>chOk P w g6 g12 g13 k∧some k≠((.slice A rr.length c_):Value).ownBlock) rfl (by first|(go_simp;done)|(go_simp;rfl)|rfl) (zaP C1.out.lr _) (fun _ hk=>hk) ?hf C1.out.row C1.out.bel C1.out.bel.size ?hl ?_;(case hf=>exact (fun k hk=>C1.out.own k hk));(case hl=>have:=RL.out;omega);intro v1 w1 hN hB hg hat;rw [← YQ.out] at hN;obtain ⟨A1,c1,e1⟩:=Kd.jk hN;subst e1;obtain ⟨hC,h13⟩:=C1.out.app hN hB hg hat;have HCn:=zh.mk hC;have x13:=(zi h13 0).trans (show _=some (.slice A rr.length c_) from rfl);have zx13:=zn h13 0;clear hN hB hg hat hC h13)
     have hgk:=HGM.out
     subst hgk
     go_roundg gm
     case measure=>have:=HJ.out;omega
     case rel=>exact ⟨i+1,.slice A1 yq.length c1,_,by first|rfl|(rw [WW.out])|(simp;done),⟨by have:=HJ.out;omega⟩,⟨by have:=HI2.out;omega⟩,⟨by have h:=HCn.out;rw [chL_eq HL2.out,HRR.out,← YQ.out];exact h⟩⟩
   ·have d1:decide ((i:Int)<wrap64 (64+x))=false:=df (by have:=NN.out;have:=HIN.out.2.2.2.2.1;have:=HIN.out.2.2.2.2.2.1;unfold wrap64;omega)
    have d0:¬ (i:Int)<wrap64 (64+x):=of_decide_eq_false d1
    have hin:i=N:=by have:=HI.out;omega
    have HIE:=zh.mk hin
    clear hin hi
    have x6:=(zi HC.out.b6 0).trans (show _=some (.slice none 0 0) from rfl)
    have z6:=zn HC.out.b6 0
    go_upto_region 58 with (fail)
    go_wp21
    refine bodyPost_ret (results_cell_row rfl _ _ g6 25 #[(.slice A rr.length c_)] (0,0) _ rfl (xK HC.out.b6 0 (.slice A rr.length c_) rfl) Tryz.underlying25 rfl (by kernel_rfl)) rfl ?_
    refine ⟨_,rfl,?_⟩
    rw [show jg 17 (bn:Int) x l=rr by have h1:=HRR.out;rw [HIE.out] at h1;exact E.out.trans h1];exact vU (ok:=chOk P w g6 g12 g13) HC.out.row (fun k hk=>⟨hk.1,hk.2.1⟩) HC.out.bel G6.out _
 ·obtain ⟨Au,cu,eu⟩:=Kd.kG D.out.lr
  subst eu
  obtain ⟨N,hN⟩:∃ N:Nat,(N:Int)=199+x:=⟨(199+x).toNat,by have:=HIN.out.2.2.2.2.1;omega⟩
  have NN:=zh.mk hN
  clear hN
  have E:zh (jg 18 (bn:Int) x l=[ku (wrap64 (199+x))]++List.replicate N (ku 0)):=⟨by have:=NN.out;have h1:=HIN.out.2.2.2.2.1;have h2:=HIN.out.2.2.2.2.2.1;unfold jg;rw [if_neg (by decide),if_neg (by decide),if_neg (by decide),if_pos rfl,show (199+x).toNat=N by omega,show wrap64 (199+x)=199+x by unfold wrap64;omega];rfl⟩
  obtain ⟨t0,t1,t2,t3,t4,t5,t6,t7,t8,t9,tf⟩:=YD D.out.b12
  go_upto_region 61 with (((with_reducible refine zB (N:=15) rfl ?_);refine zK ?hg (N:=15) ?hd (cs:=#[.int .i64 0,.bool false,.int .i64 0,.slice none 0 0,.slice none 0 0,.slice none 0 0,.int .i64 0,.string ⟨#[]⟩,.slice none 0 0,.slice none 0 0]) (t:=56) ?hr ?_;(case hd=>rfl);(case hg=>rfl);(case hr=>first|(go_simp;done)|(go_simp;rfl));intro g15 hg_ w7 hbox hb;have G15:=zh.mk (show wc.heap.size≤g15 by omega);have B15:=zh.mk hbox;have HB7:=zh.mk hb;clear hg_ hbox hb;have y15_0:w7.cell? ⟨g15,0,none⟩=some (.int .i64 0):=(zi B15.out 0).trans rfl;have z15_0:=zn B15.out 0;have y15_1:w7.cell? ⟨g15,1,none⟩=some (.bool false):=(zi B15.out 1).trans rfl;have z15_1:=zn B15.out 1;have y15_2:w7.cell? ⟨g15,2,none⟩=some (.int .i64 0):=(zi B15.out 2).trans rfl;have z15_2:=zn B15.out 2;have y15_3:w7.cell? ⟨g15,3,none⟩=some (.slice none 0 0):=(zi B15.out 3).trans rfl;have z15_3:=zn B15.out 3;have y15_4:w7.cell? ⟨g15,4,none⟩=some (.slice none 0 0):=(zi B15.out 4).trans rfl;have z15_4:=zn B15.out 4;have y15_5:w7.cell? ⟨g15,5,none⟩=some (.slice none 0 0):=(zi B15.out 5).trans rfl;have z15_5:=zn B15.out 5;have y15_6:w7.cell? ⟨g15,6,none⟩=some (.int .i64 0):=(zi B15.out 6).trans rfl;have z15_6:=zn B15.out 6;have y15_7:w7.cell? ⟨g15,7,none⟩=some (.string ⟨#[]⟩):=(zi B15.out 7).trans rfl;have z15_7:=zn B15.out 7;have y15_8:w7.cell? ⟨g15,8,none⟩=some (.slice none 0 0):=(zi B15.out 8).trans rfl;have z15_8:=zn B15.out 8;have y15_9:w7.cell? ⟨g15,9,none⟩=some (.slice none 0 0):=(zi B15.out 9).trans rfl;have z15_9:=zn B15.out 9))
  have hb15:=put10_at (c0:=.int .i64 0) (c1:=.bool false) (c2:=.int .i64 1) (c3:=.slice Au 1 cu) (c4:=.slice none 0 0) (c5:=.slice none 0 0) (c6:=.int .i64 0) (c7:=.string ⟨#[]⟩) (c8:=.slice none 0 0) (c9:=.slice none 0 0) B15.out
  have hbw:=QH (c0:=.int .i64 0) (c1:=.bool false) (c2:=.int .i64 1) (c3:=.slice Au 1 cu) (c4:=.slice none 0 0) (c5:=.slice none 0 0) (c6:=.int .i64 0) (c7:=.string ⟨#[]⟩) (c8:=.slice none 0 0) (c9:=.slice none 0 0) HB7.out G15.out
  unfold put10 at hb15 hbw
  generalize (((((((((w7.setCell ⟨g15,0,none⟩ (.int .i64 0)).setCell ⟨g15,1,none⟩ (.bool false)).setCell ⟨g15,2,none⟩ (.int .i64 1)).setCell ⟨g15,3,none⟩ (.slice Au 1 cu)).setCell ⟨g15,4,none⟩ (.slice none 0 0)).setCell ⟨g15,5,none⟩ (.slice none 0 0)).setCell ⟨g15,6,none⟩ (.int .i64 0)).setCell ⟨g15,7,none⟩ (.string ⟨#[]⟩)).setCell ⟨g15,8,none⟩ (.slice none 0 0)).setCell ⟨g15,9,none⟩ (.slice none 0 0)=W7 at hb15 hbw ⊢
  have HBW7:=zh.mk hbw
  clear hbw tf t0 t1 t2 t3 t4 t5 t6 t7 t8 t9 y15_0 z15_0 y15_1 z15_1 y15_2 z15_2 y15_3 z15_3 y15_4 z15_4 y15_5 z15_5 y15_6 z15_6 y15_7 z15_7 y15_8 z15_8 y15_9 z15_9
  obtain ⟨t0,t1,t2,t3,t4,t5,t6,t7,t8,t9,tf⟩:=YD hb15
  clear hb15
  go_upto_region 63 with (first|((with_reducible refine zB (N:=220) rfl ?_);refine Kd.N_lit k56 (w0:=wc) wc.heap.size 56 ?hg (N':=220) ?hd (xs:=[ku (wrap64 (199+x))]) (inner:=[.int .i64 0,.bool false,.int .i64 1,(.slice Au 1 cu),.slice none 0 0,.slice none 0 0,.int .i64 (wrap64 (199+x)),.string ⟨#[]⟩,.slice none 0 0,.slice none 0 0]) (ok:=fun k=>wc.heap.size≤k∨(spOk P w g6 g10 g11 g12 k∧k<wc.heap.size)) (okp:=(fun k=>spOk P w g6 g10 g11 g12 k∧k<wc.heap.size)) ?hr ?hp (fun _ hk=>.inr hk) ?hf ?hB ?hs (by simp) ?_;(case hd=>rfl);(case hg=>rfl);(case hr=>first|(go_simp;done)|(go_simp;rfl));(case hp=>exact ⟨rfl,fun j z hz=>(by cases j with|zero=>(obtain rfl:=Option.some.inj hz;exact zaP (Kd.jo (Kd.jO (Kd.ZW D.out.lr) (show Below wc.heap.size wc _ from (by repeat (first|exact HBW7.out|refine yT ?_ G15.out)))) (fun k hk=>⟨hk.1.1,hk.2⟩)) (wrap64 (199+x)))|succ j=>(simp at hz))⟩);(case hf=>exact .inl ((show Below wc.heap.size wc _ from (by repeat (first|exact HBW7.out|refine yT ?_ G15.out)))).size);(case hB=>exact (show Below wc.heap.size wc _ from (by repeat (first|exact HBW7.out|refine yT ?_ G15.out))));(case hs=>exact ((show Below wc.heap.size wc _ from (by repeat (first|exact HBW7.out|refine yT ?_ G15.out)))).size);intro vL w8 hN hB hg_ zaQ;obtain ⟨AL,cL,eL⟩:=Kd.jk hN;subst eL;have HN8:=zh.mk hN;have HB8:=zh.mk hB;clear hN hB hg_ zaQ)|((with_reducible refine zB (N:=16) rfl ?_);refine zK ?hg (N:=16) ?hd (cs:=#[.slice none 0 0]) (t:=25) ?hr ?_;(case hd=>rfl);(case hg=>rfl);(case hr=>first|(go_simp;done)|(go_simp;rfl));intro g13 hg_ w9 hbox hb;have G13:=zh.mk hg_;have B13:=zh.mk hbox;have HB13:=zh.mk hb;clear hg_ hbox hb;have y13:=(zi B13.out 0).trans (show _=some (.slice none 0 0) from rfl);have zy13:=zn B13.out 0))
  have C0:=zh.mk (Ch.start2 D.out HB8.out HN8.out HB13.out G13.out B13.out)
  clear y13 zy13 tf t0 t1 t2 t3 t4 t5 t6 t7 t8 t9
  go_wp2
  go_loopg [17] N (fun kq v_ W'=>∃ (i:Nat) (v:Value),v_=.int .i64 (i:Int)∧zh (kq=N-i)∧zh (i≤N)∧zh (Ch P w g6 g12 g13 v ([ku (wrap64 (199+x))]++List.replicate i (ku 0)) 0 (.slice Au 1 cu) W'))
  case atStart=>exact ⟨0,.slice AL 1 cL,rfl,⟨rfl⟩,⟨Nat.zero_le _⟩,C0⟩
  case round =>
   obtain ⟨i,v,rfl,HJ,HI,HCh⟩:=hrel
   have hc:=HCh.out
   clear HCh
   have RL:=zh.mk (show ([ku (wrap64 (199+x))]++List.replicate i (ku 0)).length≤1000 by have:=HI.out;have:=NN.out;have:=HIN.out.2.2.2.2.2.1;simp only [List.length_append,List.length_singleton,List.length_replicate];omega)
   generalize hrr:[ku (wrap64 (199+x))]++List.replicate i (ku 0)=rr at hc RL
   have HRR:=zh.mk hrr
   clear hrr
   obtain ⟨A,c_,e_⟩:=Kd.jk hc.row
   subst e_
   obtain ⟨t0,t1,t2,t3,t4,t5,t6,t7,t8,t9,tf⟩:=YD hc.b12
   have y13:=(zi hc.b13 0).trans (show _=some (.slice A rr.length c_) from rfl)
   have zy13:=zn hc.b13 0
   have n0:¬ g12=g13∧¬ g13=g12∧¬ g6=g13∧¬ g13=g6:=by have:=hc.o0;have:=hc.o1;have:=hc.o2;omega
   obtain ⟨m1,m2,m3,m4⟩:=n0
   have HC:=zh.mk hc
   clear hc
   by_cases hi:i<N
   ·have d1:decide ((i:Int)<wrap64 (199+x))=true:=dt (by have:=NN.out;have:=HIN.out.2.2.2.2.1;have:=HIN.out.2.2.2.2.2.1;unfold wrap64;omega)
    obtain ⟨yq,hyq⟩:∃ z,z=rr++[ku (0)]:=⟨_,rfl⟩
    have YQ:=zh.mk hyq
    clear hyq
    obtain ⟨gm,hgm⟩:∃ gm,gk=gm+1:=⟨gk-1,by have:=HJ.out;omega⟩
    have HGM:=zh.mk hgm
    clear hgm
    have WW:zh (wrap64 ((i:Int)+1)=((i+1:Nat):Int)):=⟨by have:=NN.out;have:=HIN.out.2.2.2.2.2.1;unfold wrap64;omega⟩
    have HI2:=zh.mk hi
    clear hi
    go_wp2_with ((with_reducible refine yt (b:=.append) (xs:=#[.tmp 229,.tmp 231]) rfl ?_);at_builtin;refine Kd.JM k56 (w0:=w) w.heap.size rfl (.tmp 229) (.tmp 231) 23 56 (.agg #[(.int .i64 0),(.bool false),(.int .i64 0),(.slice none 0 0),(.slice none 0 0),(.slice none 0 0),(.int .i64 0),(.string ⟨#[]⟩),(.slice none 0 0),(.slice none 0 0)]) 168 rfl Tryz.underlying23 info56 rfl (by decide) (by decide) (.slice A rr.length c_) rr (ku (0)) [.int .i64 0,.bool false,.int .i64 1,(.slice Au 1 cu),.slice none 0 0,.slice none 0 0,.int .i64 (0),.string ⟨#[]⟩,.slice none 0 0,.slice none 0 0] (chOk P w g6 g12 g13) (fun k=>chOk P w g6 g12 g13 k∧some k≠((.slice A rr.length c_):Value).ownBlock) rfl (by first|(go_simp;done)|(go_simp;rfl)|rfl) (zaP HC.out.lr _) (fun _ hk=>hk) ?hf HC.out.row HC.out.bel HC.out.bel.size ?hl ?_;(case hf=>exact (fun k hk=>HC.out.own k hk));(case hl=>have:=RL.out;omega);intro v1 w1 hN hB hg hat;rw [← YQ.out] at hN;obtain ⟨A1,c1,e1⟩:=Kd.jk hN;subst e1;obtain ⟨hC,h13⟩:=HC.out.app hN hB hg hat;have HCn:=zh.mk hC;have x13:=(zi h13 0).trans (show _=some (.slice A rr.length c_) from rfl);have zx13:=zn h13 0;clear hN hB hg hat hC h13)
    have hgk:=HGM.out
    subst hgk
    go_roundg gm
    case measure=>have:=HJ.out;omega
    case rel=>exact ⟨i+1,.slice A1 yq.length c1,by first|rfl|(rw [WW.out])|(simp;done),⟨by have:=HJ.out;omega⟩,⟨by have:=HI2.out;omega⟩,⟨by have h:=HCn.out;rw [List.replicate_succ',← List.append_assoc,HRR.out,← YQ.out];exact h⟩⟩
   ·have d1:decide ((i:Int)<wrap64 (199+x))=false:=df (by have:=NN.out;have:=HIN.out.2.2.2.2.1;have:=HIN.out.2.2.2.2.2.1;unfold wrap64;omega)
    have d0:¬ (i:Int)<wrap64 (199+x):=of_decide_eq_false d1
    have hin:i=N:=by have:=HI.out;omega
    have HIE:=zh.mk hin
    clear hin hi
    have x6:=(zi HC.out.b6 0).trans (show _=some (.slice none 0 0) from rfl)
    have z6:=zn HC.out.b6 0
    go_upto_region 67 with (fail)
    go_wp21
    refine bodyPost_ret (results_cell_row rfl _ _ g6 25 #[(.slice A rr.length c_)] (0,0) _ rfl (xK HC.out.b6 0 (.slice A rr.length c_) rfl) Tryz.underlying25 rfl (by kernel_rfl)) rfl ?_
    refine ⟨_,rfl,?_⟩
    rw [show jg 18 (bn:Int) x l=rr by have h1:=HRR.out;rw [HIE.out] at h1;exact E.out.trans h1];exact vU (ok:=chOk P w g6 g12 g13) HC.out.row (fun k hk=>⟨hk.1,hk.2.1⟩) HC.out.bel G6.out _
 ·have y10:=(zi D.out.b10 0).trans (show _=some (.slice (some ⟨g,0,none⟩) l.length c) from rfl)
  obtain ⟨Au,cu,eu⟩:=Kd.kG D.out.lr
  subst eu
  obtain ⟨t0,t1,t2,t3,t4,t5,t6,t7,t8,t9,tf⟩:=YD D.out.b12
  obtain ⟨yq,hyq⟩:∃ z,z=l++[ku 0]:=⟨_,rfl⟩
  have YQ:=zh.mk hyq
  clear hyq
  have E:zh (jg 19 (bn:Int) x l=yq):=⟨by rw [YQ.out];unfold jg;rw [if_neg (by decide),if_neg (by decide),if_neg (by decide),if_neg (by decide)]⟩
  go_upto_region 69 with ((with_reducible refine yt (b:=.append) (xs:=#[.tmp 236,.tmp 238]) rfl ?_);at_builtin;refine Kd.JM k56 (w0:=w) w.heap.size rfl (.tmp 236) (.tmp 238) 23 56 (.agg #[(.int .i64 0),(.bool false),(.int .i64 0),(.slice none 0 0),(.slice none 0 0),(.slice none 0 0),(.int .i64 0),(.string ⟨#[]⟩),(.slice none 0 0),(.slice none 0 0)]) 168 rfl Tryz.underlying23 info56 rfl (by decide) (by decide) (.slice (some ⟨g,0,none⟩) l.length c) l (ku (0)) [.int .i64 0,.bool false,.int .i64 1,(.slice Au 1 cu),.slice none 0 0,.slice none 0 0,.int .i64 (0),.string ⟨#[]⟩,.slice none 0 0,.slice none 0 0] (spOk P w g6 g10 g11 g12) (fun k=>spOk P w g6 g10 g11 g12 k∧some k≠((.slice (some ⟨g,0,none⟩) l.length c):Value).ownBlock) rfl (by first|(go_simp;done)|(go_simp;rfl)|rfl) (zaP D.out.lr _) (fun _ hk=>hk) ?hf D.out.row D.out.bel D.out.bel.size ?hl ?_;(case hf=>exact (fun k hk=>(D.out.own k hk).1));(case hl=>have:=HIN.out.2.2.2.2.2.2.1;omega);intro v1 w1 hN hB hg hat;rw [← YQ.out] at hN;obtain ⟨A1,c1,e1⟩:=Kd.jk hN;subst e1;obtain ⟨hN2,hB2,h6,h10,h6b⟩:=D.out.app hN hB hg;have HN2:=zh.mk hN2;have HB2:=zh.mk hB2;have B6:=zh.mk h6;have x10:=(zi h10 0).trans (show _=some (.slice (some ⟨g,0,none⟩) l.length c) from rfl);have z10:=zn h10 0;have x6:=(zi h6b 0).trans (show _=some (.slice none 0 0) from rfl);have z6:=zn h6b 0;clear hN hB hg hat hN2 hB2 h6 h10 h6b)
  go_wp21
  refine bodyPost_ret (results_cell_row rfl _ _ g6 25 #[(.slice A1 yq.length c1)] (0,0) _ rfl (xK B6.out 0 (.slice A1 yq.length c1) rfl) Tryz.underlying25 rfl (by kernel_rfl)) rfl ?_
  refine ⟨_,rfl,?_⟩
  rw [E.out];exact vU HN2.out (fun k hk=>⟨hk.1,hk.2.1⟩) HB2.out G6.out _
end Go.Proofs.YtiekodnojmkfaaaGreatDoor.yD
