import Derived.Test.YtiekodnojmkfaaaGreatDoorSpoil
namespace Go.Proofs.YtiekodnojmkfaaaGreatDoor.yD
set_option maxHeartbeats 64000000
set_option maxRecDepth 100000
open Go.RowKit Go.Proofs.YtiekodnojmkfaaaGreatDoorW.zF Go.Proofs.YtiekodnojmkfaaaGreatDoorW.yC Go.Proofs.YtiekodnojmkfaaaGreatDoorW.yY
attribute [local go_sem] xM xO qG qH yZ xg xP xQ
set_option linter.unusedVariables false
set_option linter.unusedSimpArgs false
theorem l2Spoil_w1 (k:Nat) (A0:Option Addr) (c0:Nat) (l0:List Int) (a1:Int) (P:Nat→Prop) (A2:Option Addr) (c2:Nat) (l2:List S56) (r:List S56) (w:World) (hr0:Kd.C (Kd.int .u8) w A0 l0.length l0) (hc0:l0.length≤c0) (hs:Kd.V k56 56 w w.heap.size P (.slice A2 l2.length c2) l2) (h:yE.f k l0 a1 l2=some r) (hL:∀ a p,zx.f k l0 a1 20=some (a,p)→7≤a∧a<14) :
  Calls Tryz.prog 16 #[.slice A0 l0.length c0,.int .i64 a1,.agg #[.slice A2 l2.length c2]] w fun e w'=>∃ v0_:Value,e=.returned (.agg #[v0_])∧Kd.N k56 56 w' w.heap.size (fun k_=>(P k_∨w.heap.size≤k_)) v0_ r∧Below w.heap.size w w':=by
 have JG:Tryz.prog.follows .mixedOrders=true:=by kernel_rfl
 have hu29:=Tryz.underlying25
 have hu44:=Tryz.underlying56
 have hu118:=Tryz.underlying106
 obtain ⟨a,p1,b,p2,x,p3,l,e1,e2,e3,e4,hin,rfl⟩:=Z7 h
 clear h
 have HL_:=zh.mk (hL _ _ e1)
 clear hL
 obtain ⟨bn,rfl⟩:∃ bn:Nat,b=(bn:Int):=⟨b.toNat,by have:=hin.2.2.1;omega⟩
 have E1:=zh.mk e1
 have E2:=zh.mk e2
 have E3:=zh.mk e3
 have E4:=zh.mk e4
 have HR:=zh.mk hr0
 have HC:=zh.mk hc0
 have HV:=zh.mk (Kd.ZW hs)
 have HB:=zh.mk (Below.refl w.heap.size w)
 have HIN:=zh.mk hin
 clear e1 e2 e3 e4 hr0 hc0 hs hin
 go_enter Tryz.func16,Tryz.ntmps16
 go_upto_region 1 with (first|((with_reducible refine zB (N:=5) rfl ?_);refine zK ?hg (N:=5) ?hd (cs:=#[.slice A2 l2.length c2]) (t:=25) ?hr ?_;(case hd=>rfl);(case hg=>rfl);(case hr=>first|(go_simp;done)|(go_simp;rfl));intro g5 hg5 wn hbox hb;have BX:=zh.mk hbox;replace HB:=zh.mk (zI (bl HB) hb);clear hb hbox hg5)|((with_reducible refine zB (N:=6) rfl ?_);refine zK ?hg (N:=6) ?hd (cs:=#[.slice none 0 0]) (t:=25) ?hr ?_;(case hd=>rfl);(case hg=>rfl);(case hr=>first|(go_simp;done)|(go_simp;rfl));intro g6 hg6 w1 hbox hb;have BY:=zh.mk hbox;have G6:=zh.mk (show w.heap.size≤g6 by rw [hg6];exact HB.out.size);replace BX:=zh.mk (yc BX.out hb);replace HB:=zh.mk (zI (bl HB) hb);clear hb hbox hg6))
 have HC1:=zh.mk (Kd.zY HR.out HB.out)
 have z5:w1.cell? ⟨g5,0,none⟩=some (.slice A2 l2.length c2):=(zi BX.out 0).trans rfl
 have hl2:(l2.length:Int)≤9223372036854775807:=by have:=(Kd.jq HV.out).2.2.2.1;omega
 go_upto_region 5 with (first|(have hq:=E1;clear hq;go_at_call 14;refine (zx.calls k _ _ l0 a1 20 _ _ _ ?yQ HC.out E1.out).mono ?_;(case yQ=>exact HC1.out);rintro r w2 ⟨rfl,hd⟩;replace HC1:=zh.mk (Kd.zY HC1.out hd.below);replace BX:=zh.mk (yc BX.out hd.below);replace BY:=zh.mk (yc BY.out hd.below);replace HB:=zh.mk (zI HB.out hd.below);clear hd z5 E1;have z5:w2.cell? ⟨g5,0,none⟩=some (.slice A2 l2.length c2):=(zi BX.out 0).trans rfl)|(have hq:=E2;clear hq;go_at_call 14;refine (zx.calls k _ _ l0 p1 (l2.length:Int) _ _ _ ?yQ HC.out E2.out).mono ?_;(case yQ=>exact HC1.out);rintro r w3 ⟨rfl,hd⟩;replace HC1:=zh.mk (Kd.zY HC1.out hd.below);replace BX:=zh.mk (yc BX.out hd.below);replace BY:=zh.mk (yc BY.out hd.below);replace HB:=zh.mk (zI HB.out hd.below);clear hd z5 E2;have z5:w3.cell? ⟨g5,0,none⟩=some (.slice A2 l2.length c2):=(zi BX.out 0).trans rfl)|(have hq:=E3;clear hq;go_at_call 14;refine (zx.calls k _ _ l0 p2 2 _ _ _ ?yQ HC.out E3.out).mono ?_;(case yQ=>exact HC1.out);rintro r w4 ⟨rfl,hd⟩;replace BX:=zh.mk (yc BX.out hd.below);replace BY:=zh.mk (yc BY.out hd.below);replace HB:=zh.mk (zI HB.out hd.below);clear HC1 hd z5 E3;have z5:w4.cell? ⟨g5,0,none⟩=some (.slice A2 l2.length c2):=(zi BX.out 0).trans rfl))
 have HV4:=zh.mk (Kd.jO HV.out HB.out)
 go_cut [10] (fun v10 wx=>∃ (g10:Nat) (A:Option Addr) (c:Nat),v10=.pointer (some ⟨g10,0,none⟩)∧zh (Sp0 P w g6 g10 (.slice A l.length c) l wx))
 case first =>
  go_wp2_with (first|(go_at_call 51;refine (yG.calls k (fun k=>P k∧k<w.heap.size) A2 c2 l2 l _ HV4.out E4.out).mono ?_;rintro e w5 ⟨v0,rfl,hN,hb⟩;obtain ⟨An,cn,rfl⟩:=Kd.jk hN;have HN:=zh.mk hN;have HB5:=zh.mk hb;clear hN hb)|((with_reducible refine zB (N:=10) rfl ?_);refine zK ?hg (N:=10) ?hd (cs:=#[.slice none 0 0]) (t:=25) ?hr ?_;(case hd=>rfl);(case hg=>rfl);(case hr=>first|(go_simp;done)|(go_simp;rfl));intro g10 hg10 w6 hbox hb;have G10:=zh.mk hg10;have B10:=zh.mk hbox;have HB6:=zh.mk hb;clear hg10 hbox hb;have y0:w6.cell? ⟨g10,0,none⟩=some (.slice none 0 0):=(zi B10.out 0).trans rfl;have y1:=zn B10.out 0))
  go_meet
  exact ⟨g10,An,cn,rfl,⟨Sp0.start HB.out G6.out BY.out HB5.out HN.out HB6.out G10.out B10.out⟩⟩
 case rest =>
 obtain ⟨g10,A,c,rfl,D0⟩:=hcut
 clear z5 BX BY HB HV4 HV HR HC E4
 have hin:=HIN.out
 obtain ⟨i0,i1,i2,i3,i4,i5,i6,i7,i8,i9,i10,i11,i12⟩:=hin
 obtain ⟨q,hq⟩:∃ q,zu l (bn:Int)=q:=⟨_,rfl⟩
 obtain ⟨g,cap,hv,hgb,hgl,_⟩:=Kd.N_form D0.out.row (by omega)
 injection hv with hA _ hc
 subst hA
 subst hc
 obtain ⟨ce,hcl,hFK,hcc,hfr⟩:=Kd.N_elem D0.out.row z56 (bn:Int) i2 i3
 have hFK2:Kd.FK k56 wc (fun k=>((((P k∧k<w.heap.size)∨w.heap.size≤k)∧k≠g6∧k≠g10)∧some k≠(Value.slice (some ⟨g,0,none⟩) l.length c).ownBlock)∧k<wc.heap.size) q ce:=by
  rw [← hq]
  exact Kd.Xd (Kd.Qe hFK) (fun k hk=>⟨⟨hk.1.1,fun he=>hk.1.2 (by simpa [Value.ownBlock] using he)⟩,hk.2⟩)
 obtain ⟨v3,v4,v5,v8,v9,hce,hrw⟩:=Rows.of_FK hFK2
 subst hce
 obtain ⟨A3,c3,rfl⟩:=Kd.kG hrw.r3
 obtain ⟨A4,c4,rfl⟩:=Kd.kG hrw.r4
 obtain ⟨A5,c5,rfl⟩:=Kd.kG hrw.r5
 obtain ⟨A8,c8,rfl⟩:=Kd.kG hrw.r8
 obtain ⟨A9,c9,rfl⟩:=Kd.kG hrw.r9
 have k0:wc.cell? ⟨g,bn*10,none⟩=some (.int .i64 q.f0):=hcc 0 _ rfl
 have k1:wc.cell? ⟨g,bn*10+1,none⟩=some (.bool q.f1):=hcc 1 _ rfl
 have k2:wc.cell? ⟨g,bn*10+2,none⟩=some (.int .i64 q.f2):=hcc 2 _ rfl
 have k3:wc.cell? ⟨g,bn*10+3,none⟩=some (.slice A3 q.f3.length c3):=hcc 3 _ rfl
 have k4:wc.cell? ⟨g,bn*10+4,none⟩=some (.slice A4 q.f4.length c4):=hcc 4 _ rfl
 have k5:wc.cell? ⟨g,bn*10+5,none⟩=some (.slice A5 q.f5.length c5):=hcc 5 _ rfl
 have k6:wc.cell? ⟨g,bn*10+6,none⟩=some (.int .i64 q.f6):=hcc 6 _ rfl
 have k7:wc.cell? ⟨g,bn*10+7,none⟩=some (.string q.f7):=hcc 7 _ rfl
 have k8:wc.cell? ⟨g,bn*10+8,none⟩=some (.slice A8 q.f8.length c8):=hcc 8 _ rfl
 have k9:wc.cell? ⟨g,bn*10+9,none⟩=some (.slice A9 q.f9.length c9):=hcc 9 _ rfl
 have HRW:=zh.mk hrw
 have HQ:=zh.mk hq
 clear hcc hfr hFK hFK2 hrw hcl hq i0 i1 i4 i5 i6 i7 i8 i9 i10 i11 i12 hgb hgl
 have y10:wc.cell? ⟨g10,0,none⟩=some (.slice (some ⟨g,0,none⟩) l.length c):=(zi D0.out.b10 0).trans rfl
 go_upto_region 6 with (fail)
 go_cut [11] (fun v11 wx=>∃ (g11:Nat),v11=.pointer (some ⟨g11,0,none⟩)∧zh (Sp1 P w g6 g10 g11 (.slice (some ⟨g,0,none⟩) l.length c) l q (.slice A3 q.f3.length c3) (.slice A4 q.f4.length c4) (.slice A5 q.f5.length c5) (.slice A8 q.f8.length c8) (.slice A9 q.f9.length c9) wx))
 case first =>
  go_wp2_with (((with_reducible refine zB (N:=11) rfl ?_);refine zK ?hg (N:=11) ?hd (cs:=#[.int .i64 0,.bool false,.int .i64 0,.slice none 0 0,.slice none 0 0,.slice none 0 0,.int .i64 0,.string ⟨#[]⟩,.slice none 0 0,.slice none 0 0]) (t:=56) ?hr ?_;(case hd=>rfl);(case hg=>rfl);(case hr=>first|(go_simp;done)|(go_simp;rfl));intro g11 hg_ w7 hbox hb;have G11:=zh.mk hg_;have B11:=zh.mk hbox;have HB7:=zh.mk hb;clear hg_ hbox hb;have yg11_0:w7.cell? ⟨g11,0,none⟩=some (.int .i64 0):=(zi B11.out 0).trans rfl;have zg11_0:=zn B11.out 0;have yg11_1:w7.cell? ⟨g11,1,none⟩=some (.bool false):=(zi B11.out 1).trans rfl;have zg11_1:=zn B11.out 1;have yg11_2:w7.cell? ⟨g11,2,none⟩=some (.int .i64 0):=(zi B11.out 2).trans rfl;have zg11_2:=zn B11.out 2;have yg11_3:w7.cell? ⟨g11,3,none⟩=some (.slice none 0 0):=(zi B11.out 3).trans rfl;have zg11_3:=zn B11.out 3;have yg11_4:w7.cell? ⟨g11,4,none⟩=some (.slice none 0 0):=(zi B11.out 4).trans rfl;have zg11_4:=zn B11.out 4;have yg11_5:w7.cell? ⟨g11,5,none⟩=some (.slice none 0 0):=(zi B11.out 5).trans rfl;have zg11_5:=zn B11.out 5;have yg11_6:w7.cell? ⟨g11,6,none⟩=some (.int .i64 0):=(zi B11.out 6).trans rfl;have zg11_6:=zn B11.out 6;have yg11_7:w7.cell? ⟨g11,7,none⟩=some (.string ⟨#[]⟩):=(zi B11.out 7).trans rfl;have zg11_7:=zn B11.out 7;have yg11_8:w7.cell? ⟨g11,8,none⟩=some (.slice none 0 0):=(zi B11.out 8).trans rfl;have zg11_8:=zn B11.out 8;have yg11_9:w7.cell? ⟨g11,9,none⟩=some (.slice none 0 0):=(zi B11.out 9).trans rfl;have zg11_9:=zn B11.out 9))
  go_meet
  exact ⟨g11,rfl,⟨Sp1.start D0.out HB7.out G11.out B11.out HRW.out⟩⟩
 case rest =>
 obtain ⟨g11,rfl,D1⟩:=hcut
 clear D0 HRW y10 k0 k1 k2 k3 k4 k5 k6 k7 k8 k9
 have PW:=zh.mk (show yM.f 1 23 0 0 0 (-131072)=some (wI 23 0 0 0) from zaw (o:=23) (a:=0) (b:=0) (c:=0) (by unfold inI;omega))
 have HB:=zh.mk (Sp1.refl D1.out)
 go_upto_region 7 with (fail)
 go_cut [12] (fun v12 wx=>∃ (g12:Nat) (u3:Value),v12=.pointer (some ⟨g12,0,none⟩)∧zh (vw P w g6 g10 g11 g12 (.slice (some ⟨g,0,none⟩) l.length c) l q (.slice A3 q.f3.length c3) (.slice A4 q.f4.length c4) (.slice A5 q.f5.length c5) (.slice A8 q.f8.length c8) (.slice A9 q.f9.length c9) 0 u3 wx))
 case first =>
  go_wp2_with (first|(go_at_call 52;refine (yM.calls 1 23 0 0 0 (-131072) _ _ PW.out).mono ?_;rintro e w8 ⟨rfl,hb⟩;replace HB:=zh.mk (zI HB.out hb);clear hb)|((with_reducible refine zB (N:=48) rfl ?_);refine Kd.XU (Kd.int .u32) (w0:=wc) wc.heap.size 60 ?hg (N:=48) ?hd (xs:=([wI 23 0 0 0]:List Int)) (inner:=[.int .u32 (wI 23 0 0 0)]) (ok:=fun _=>True) (okp:=fun _=>True) ?hr ?hp (fun _ hk=>hk) trivial HB.out HB.out.size (by simp) ?_;(case hd=>rfl);(case hg=>rfl);(case hr=>first|(go_simp;done)|(go_simp;rfl));(case hp=>repeat (first|exact qx.none _ _|refine qx.one (show Kd.M (Kd.int .u32) _ _ _ _ [_] from rfl) ?_));intro u3 w9 ho hb hg_ qp;obtain ⟨Au,cu,eu⟩:=Kd.yA ho;subst eu;have HU:=zh.mk ho;clear HB;have HB:=zh.mk hb;clear ho hb hg_ qp)|((with_reducible refine zB (N:=12) rfl ?_);refine zK ?hg (N:=12) ?hd (cs:=#[.int .i64 0,.bool false,.int .i64 0,.slice none 0 0,.slice none 0 0,.slice none 0 0,.int .i64 0,.string ⟨#[]⟩,.slice none 0 0,.slice none 0 0]) (t:=56) ?hr ?_;(case hd=>rfl);(case hg=>rfl);(case hr=>first|(go_simp;done)|(go_simp;rfl));intro g12 hg_ w10 hbox hb;have G12:=zh.mk hg_;have B12:=zh.mk hbox;have HB10:=zh.mk hb;clear hg_ hbox hb;have yg12_0:w10.cell? ⟨g12,0,none⟩=some (.int .i64 0):=(zi B12.out 0).trans rfl;have zg12_0:=zn B12.out 0;have yg12_1:w10.cell? ⟨g12,1,none⟩=some (.bool false):=(zi B12.out 1).trans rfl;have zg12_1:=zn B12.out 1;have yg12_2:w10.cell? ⟨g12,2,none⟩=some (.int .i64 0):=(zi B12.out 2).trans rfl;have zg12_2:=zn B12.out 2;have yg12_3:w10.cell? ⟨g12,3,none⟩=some (.slice none 0 0):=(zi B12.out 3).trans rfl;have zg12_3:=zn B12.out 3;have yg12_4:w10.cell? ⟨g12,4,none⟩=some (.slice none 0 0):=(zi B12.out 4).trans rfl;have zg12_4:=zn B12.out 4;have yg12_5:w10.cell? ⟨g12,5,none⟩=some (.slice none 0 0):=(zi B12.out 5).trans rfl;have zg12_5:=zn B12.out 5;have yg12_6:w10.cell? ⟨g12,6,none⟩=some (.int .i64 0):=(zi B12.out 6).trans rfl;have zg12_6:=zn B12.out 6;have yg12_7:w10.cell? ⟨g12,7,none⟩=some (.string ⟨#[]⟩):=(zi B12.out 7).trans rfl;have zg12_7:=zn B12.out 7;have yg12_8:w10.cell? ⟨g12,8,none⟩=some (.slice none 0 0):=(zi B12.out 8).trans rfl;have zg12_8:=zn B12.out 8;have yg12_9:w10.cell? ⟨g12,9,none⟩=some (.slice none 0 0):=(zi B12.out 9).trans rfl;have zg12_9:=zn B12.out 9))
  go_meet
  exact ⟨g12,_,rfl,⟨vw.start D1.out HB.out HU.out HB10.out G12.out B12.out⟩⟩
 case rest =>
 obtain ⟨g12,u3,rfl,D2⟩:=hcut
 clear D1 HB PW
 have D:=D2
 clear D2
 have HB:=zh.mk (vw.refl D.out)
 have i3n:bn<l.length:=by omega
 have n0:¬ g=g11∧¬ g11=g:=by have:=(D.out.row.1 g (by simp [Value.ownBlock])).2.2.2.1;omega
 obtain ⟨n1,n2⟩:=n0
 have n0:¬ g10=g11∧¬ g11=g10∧¬ g6=g10∧¬ g10=g6∧¬ g6=g11∧¬ g12=g11∧¬ g11=g12:=by have:=D.out.o0;have:=D.out.o1;have:=D.out.o2;have:=D.out.o3;omega
 obtain ⟨n3,n4,n5,n6,n7,n8,n9⟩:=n0
 have hA:a=7∨a=8∨a=9∨a=10∨a=11∨a=12∨a=13:=by have:=HL_.out;omega
 clear HL_
 rcases hA with rfl|rfl|rfl|rfl|rfl|rfl|rfl
 ·obtain ⟨yq,hyq⟩:∃ z,z=[(⟨1,2,⟨#[]⟩⟩:S67)]++q.f4:=⟨_,rfl⟩
  have YQ:=zh.mk hyq
  clear hyq
  obtain ⟨y0,y1,y2,y3,y4,y5,y6,y7,y8,y9,f0,f2,f3,f4,f5,f6,f7,f8,f9⟩:=((D.out.below HB.out)).cells
  have y10:=(zi ((D.out.below HB.out)).b10 0).trans (show _=some (.slice (some ⟨g,0,none⟩) l.length c) from rfl)
  have E:zh (jg 7 (bn:Int) x l=l.set bn (⟨q.f0,q.f1,q.f2,q.f3,yq,q.f5,q.f6,q.f7,q.f8,q.f9⟩:S56)):=⟨by rw [YQ.out];unfold jg;rw [if_pos (by decide),HQ.out,Int.toNat_natCast];unfold spQ;rw [if_neg (by decide)];rw [if_neg (by decide)];rw [if_neg (by decide)];rw [if_neg (by decide)];rw [if_neg (by decide)];rw [if_neg (by decide)];rw [if_neg (by decide)];simp only [if_true]⟩
  go_upto_region 46 with (first|((with_reducible refine zB (N:=109) rfl ?_);refine Kd.XU k67 (w0:=wc) wc.heap.size 67 ?hg (N:=109) ?hd (xs:=[(⟨1,2,⟨#[]⟩⟩:S67)]) (inner:=[.int .i64 1,.int .i64 2,.string ⟨#[]⟩]) (ok:=fun k=>wc.heap.size≤k) (okp:=fun _=>False) ?hr ?hp (fun _ hk=>hk.elim) ?hf (bl HB) ?hs (by simp) ?_;(case hd=>rfl);(case hg=>rfl);(case hr=>first|(go_simp;done)|(go_simp;rfl));(case hp=>exact qx.c3 (show Kd.M k67 _ _ _ (⟨1,2,⟨#[]⟩⟩:S67) [.int .i64 1,.int .i64 2,.string ⟨#[]⟩] from kS _ _ _ (⟨1,2,⟨#[]⟩⟩:S67)) (qx.none _ _));(case hf=>exact ((show Below wc.heap.size wc _ from (bl HB))).size);(case hs=>exact ((show Below wc.heap.size wc _ from (bl HB))).size);intro vL wn ho hb0 hg_ qp;obtain ⟨AL,cL,eL⟩:=Kd.yA ho;subst eL;have HL:=zh.mk ho;clear HB hg_ qp ho;have HB:=zh.mk hb0;clear hb0;clear y0 y1 y2 y3 y4 y5 y6 y7 y8 y9 f0 f2 f3 f4 f5 f6 f7 f8 f9 y10;obtain ⟨y0,y1,y2,y3,y4,y5,y6,y7,y8,y9,f0,f2,f3,f4,f5,f6,f7,f8,f9⟩:=(D.out.below HB.out).cells;have y10:=(zi (D.out.below HB.out).b10 0).trans (show _=some (.slice (some ⟨g,0,none⟩) l.length c) from rfl))|((with_reducible refine yt (b:=.append) (xs:=#[.tmp 109,.tmp 111]) rfl ?_);at_builtin;refine Kd.yS k67 (Rr:=fun p cs=>k67.K wn p cs) (w0:=wc) wc.heap.size rfl (.tmp 109) (.tmp 111) 51 67 (.agg #[(.int .i64 0),(.int .i64 0),(.string ⟨#[]⟩)]) 32 rfl Tryz.underlying51 info67 rfl (by decide) (by omega) (.slice AL 1 cL) [(⟨1,2,⟨#[]⟩⟩:S67)] q.f4 _ _ _ (fun k=>wc.heap.size≤k) (fun _=>False) rfl rfl ?aO ?aR (fun _ _ h=>(by rw [QN h];exact kS _ _ _ _)) (fun _ h=>h.elim) ?aF ?aB ?aS ?aL ?_;(case aO=>exact HL.out);(case aF=>exact (fun k hk=>Nat.le_trans ((show Below wc.heap.size wc _ from (bl HB))).size hk));(case aB=>exact (show Below wc.heap.size wc _ from (bl HB)));(case aS=>exact ((show Below wc.heap.size wc _ from (bl HB))).size);(case aR=>exact (Kd.jq (Kd.jO D.out.qr.r4 HB.out)).2.2);(case aL=>have:=HIN.out.2.2.2.2.2.2;rw [HQ.out] at this;simp only [List.length_singleton];omega);intro vQ wn ho hb0 hg_ zaQ;rw [← YQ.out] at ho;obtain ⟨AQ,cQ,eQ⟩:=Kd.yA ho;subst eQ;have HN:=zh.mk ho;clear HB HL hg_ zaQ ho;have HB:=zh.mk hb0;clear hb0;clear y0 y1 y2 y3 y4 y5 y6 y7 y8 y9 f0 f2 f3 f4 f5 f6 f7 f8 f9 y10;obtain ⟨y0,y1,y2,y3,y4,y5,y6,y7,y8,y9,f0,f2,f3,f4,f5,f6,f7,f8,f9⟩:=(D.out.below HB.out).cells;have y10:=(zi (D.out.below HB.out).b10 0).trans (show _=some (.slice (some ⟨g,0,none⟩) l.length c) from rfl))|((with_reducible refine qw (t:=56) (p:=185) rfl ?_);refine jC (p:=.tmp 185) (x:=.tmp 184) ((D.out.below HB.out).put4 (Xj HN.out (fun k hk=>D.out.own k hk))) bn i3n rfl rfl rfl ?ha ?hx ?_;(case ha=>first|(go_simp;done)|(go_simp;with_reducible rfl));(case hx=>first|(go_simp;done)|(go_simp;with_reducible rfl));intro w9 hN hB h6 h10;have HN9:=zh.mk hN;have HB9:=zh.mk hB;have B6:=zh.mk h6;have x10:=(zi h10 0).trans (show _=some (.slice (some ⟨g,0,none⟩) l.length c) from rfl);have x6:=(zi h6 0).trans (show _=some (.slice none 0 0) from rfl);have z6:=zn h6 0;clear hN hB h6 h10))
  go_wp21
  refine bodyPost_ret (results_cell_row rfl _ _ g6 25 #[(.slice (some ⟨g,0,none⟩) l.length c)] (0,0) _ rfl (xK B6.out 0 (.slice (some ⟨g,0,none⟩) l.length c) rfl) Tryz.underlying25 rfl (by kernel_rfl)) rfl ?_
  refine ⟨_,rfl,?_⟩
  rw [E.out]
  exact vU HN9.out (fun k hk=>⟨hk.1,hk.2.1⟩) HB9.out G6.out _
 ·obtain ⟨y0,y1,y2,y3,y4,y5,y6,y7,y8,y9,f0,f2,f3,f4,f5,f6,f7,f8,f9⟩:=((D.out.below HB.out)).cells
  have y10:=(zi ((D.out.below HB.out)).b10 0).trans (show _=some (.slice (some ⟨g,0,none⟩) l.length c) from rfl)
  have E:zh (jg 8 (bn:Int) x l=l.set bn (⟨q.f0,q.f1,q.f2,q.f3,List.replicate (wrap64 (500+x)).toNat (⟨0,0,⟨#[]⟩⟩:S67),q.f5,q.f6,q.f7,q.f8,q.f9⟩:S56)):=⟨by unfold jg;rw [if_pos (by decide),HQ.out,Int.toNat_natCast];unfold spQ;rw [if_neg (by decide)];rw [if_neg (by decide)];rw [if_neg (by decide)];rw [if_neg (by decide)];rw [if_neg (by decide)];rw [if_neg (by decide)];rw [if_neg (by decide)];rw [if_neg (by decide)];simp only [if_true];rw [show wrap64 (500+x)=500+x by have:=HIN.out;unfold inS at this;unfold wrap64;omega]⟩
  go_upto_region 46 with (first|((with_reducible refine zB (N:=118) rfl ?_);refine Kd.R_make k67 (w0:=wc) wc.heap.size 67 ?hg (N:=118) ?hd 51 (.tmp 117) (.tmp 117) ?ho (wrap64 (500+x)) ?hx ?hy Tryz.underlying51 (.agg #[(.int .i64 0),(.int .i64 0),(.string ⟨#[]⟩)]) 32 info67 rfl (by decide) (by decide) (⟨0,0,⟨#[]⟩⟩:S67) (ok:=fun k=>wc.heap.size≤k) (okp:=fun _=>False) (show Kd.M k67 _ _ _ (⟨0,0,⟨#[]⟩⟩:S67) [.int .i64 0,.int .i64 0,.string ⟨#[]⟩] from kS _ _ _ (⟨0,0,⟨#[]⟩⟩:S67)) (fun _ hk=>hk.elim) ?hf ?h0 ?hl (show Below wc.heap.size wc _ from (bl HB)) ?hs ?_;(case hd=>rfl);(case hg=>rfl);(case ho=>rfl);(case hx=>first|(go_simp;done)|(go_simp;with_reducible rfl));(case hy=>first|(go_simp;done)|(go_simp;with_reducible rfl));(case hf=>exact ((show Below wc.heap.size wc _ from (bl HB))).size);(case hs=>exact ((show Below wc.heap.size wc _ from (bl HB))).size);(case h0=>have:=HIN.out;have hq:=HQ.out;unfold inS at this;first|omega|(unfold wrap64;omega));(case hl=>have:=HIN.out;have hq:=HQ.out;unfold inS at this;rw [hq] at this;first|omega|(unfold wrap64;omega));intro vQ wn ho hb0 hg_ zaQ;obtain ⟨AQ,cQ,eQ⟩:=Kd.yA ho;subst eQ;simp only [List.length_replicate] at ho;have HN:=zh.mk ho;clear HB hg_ zaQ ho;have HB:=zh.mk hb0;clear hb0;clear y0 y1 y2 y3 y4 y5 y6 y7 y8 y9 f0 f2 f3 f4 f5 f6 f7 f8 f9 y10;obtain ⟨y0,y1,y2,y3,y4,y5,y6,y7,y8,y9,f0,f2,f3,f4,f5,f6,f7,f8,f9⟩:=(D.out.below HB.out).cells;have y10:=(zi (D.out.below HB.out).b10 0).trans (show _=some (.slice (some ⟨g,0,none⟩) l.length c) from rfl))|((with_reducible refine qw (t:=56) (p:=185) rfl ?_);refine jC (p:=.tmp 185) (x:=.tmp 184) ((D.out.below HB.out).put4 (Xj HN.out (fun k hk=>D.out.own k hk))) bn i3n rfl rfl rfl ?ha ?hx ?_;(case ha=>first|(go_simp;done)|(go_simp;with_reducible rfl));(case hx=>first|(go_simp;done)|(go_simp;with_reducible rfl));intro w9 hN hB h6 h10;have HN9:=zh.mk hN;have HB9:=zh.mk hB;have B6:=zh.mk h6;have x10:=(zi h10 0).trans (show _=some (.slice (some ⟨g,0,none⟩) l.length c) from rfl);have x6:=(zi h6 0).trans (show _=some (.slice none 0 0) from rfl);have z6:=zn h6 0;clear hN hB h6 h10))
  go_wp21
  refine bodyPost_ret (results_cell_row rfl _ _ g6 25 #[(.slice (some ⟨g,0,none⟩) l.length c)] (0,0) _ rfl (xK B6.out 0 (.slice (some ⟨g,0,none⟩) l.length c) rfl) Tryz.underlying25 rfl (by kernel_rfl)) rfl ?_
  refine ⟨_,rfl,?_⟩
  rw [E.out]
  exact vU HN9.out (fun k hk=>⟨hk.1,hk.2.1⟩) HB9.out G6.out _
 ·obtain ⟨y0,y1,y2,y3,y4,y5,y6,y7,y8,y9,f0,f2,f3,f4,f5,f6,f7,f8,f9⟩:=((D.out.below HB.out)).cells
  have y10:=(zi ((D.out.below HB.out)).b10 0).trans (show _=some (.slice (some ⟨g,0,none⟩) l.length c) from rfl)
  have E:zh (jg 9 (bn:Int) x l=l.set bn (⟨q.f0,q.f1,q.f2,q.f3,q.f4,List.replicate (wrap64 (60+x)).toNat (⟨false,0⟩:S71),q.f6,q.f7,q.f8,[]⟩:S56)):=⟨by unfold jg;rw [if_pos (by decide),HQ.out,Int.toNat_natCast];unfold spQ;rw [if_neg (by decide)];rw [if_neg (by decide)];rw [if_neg (by decide)];rw [if_neg (by decide)];rw [if_neg (by decide)];rw [if_neg (by decide)];rw [if_neg (by decide)];rw [if_neg (by decide)];rw [if_neg (by decide)];simp only [if_true];rw [show wrap64 (60+x)=60+x by have:=HIN.out;unfold inS at this;unfold wrap64;omega]⟩
  go_upto_region 46 with (first|((with_reducible refine zB (N:=124) rfl ?_);refine Kd.R_make k71 (w0:=wc) wc.heap.size 71 ?hg (N:=124) ?hd 52 (.tmp 123) (.tmp 123) ?ho (wrap64 (60+x)) ?hx ?hy Tryz.underlying52 (.agg #[(.bool false),(.int .i64 0)]) 16 info71 rfl (by decide) (by decide) (⟨false,0⟩:S71) (ok:=fun k=>wc.heap.size≤k) (okp:=fun _=>False) (show Kd.M k71 _ _ _ (⟨false,0⟩:S71) [.bool false,.int .i64 0] from Jd _ _ _ (⟨false,0⟩:S71)) (fun _ hk=>hk.elim) ?hf ?h0 ?hl (show Below wc.heap.size wc _ from (bl HB)) ?hs ?_;(case hd=>rfl);(case hg=>rfl);(case ho=>rfl);(case hx=>first|(go_simp;done)|(go_simp;with_reducible rfl));(case hy=>first|(go_simp;done)|(go_simp;with_reducible rfl));(case hf=>exact ((show Below wc.heap.size wc _ from (bl HB))).size);(case hs=>exact ((show Below wc.heap.size wc _ from (bl HB))).size);(case h0=>have:=HIN.out;have hq:=HQ.out;unfold inS at this;first|omega|(unfold wrap64;omega));(case hl=>have:=HIN.out;have hq:=HQ.out;unfold inS at this;rw [hq] at this;first|omega|(unfold wrap64;omega));intro vQ wn ho hb0 hg_ zaQ;obtain ⟨AQ,cQ,eQ⟩:=Kd.yA ho;subst eQ;simp only [List.length_replicate] at ho;have HN:=zh.mk ho;clear HB hg_ zaQ ho;have HB:=zh.mk hb0;clear hb0;clear y0 y1 y2 y3 y4 y5 y6 y7 y8 y9 f0 f2 f3 f4 f5 f6 f7 f8 f9 y10;obtain ⟨y0,y1,y2,y3,y4,y5,y6,y7,y8,y9,f0,f2,f3,f4,f5,f6,f7,f8,f9⟩:=(D.out.below HB.out).cells;have y10:=(zi (D.out.below HB.out).b10 0).trans (show _=some (.slice (some ⟨g,0,none⟩) l.length c) from rfl))|((with_reducible refine qw (t:=56) (p:=185) rfl ?_);refine jC (p:=.tmp 185) (x:=.tmp 184) (((D.out.below HB.out).put5 (Xj HN.out (fun k hk=>D.out.own k hk))).put9 (Kd.Jz _ _ _ _ _)) bn i3n rfl rfl rfl ?ha ?hx ?_;(case ha=>first|(go_simp;done)|(go_simp;with_reducible rfl));(case hx=>first|(go_simp;done)|(go_simp;with_reducible rfl));intro w9 hN hB h6 h10;have HN9:=zh.mk hN;have HB9:=zh.mk hB;have B6:=zh.mk h6;have x10:=(zi h10 0).trans (show _=some (.slice (some ⟨g,0,none⟩) l.length c) from rfl);have x6:=(zi h6 0).trans (show _=some (.slice none 0 0) from rfl);have z6:=zn h6 0;clear hN hB h6 h10))
  go_wp21
  refine bodyPost_ret (results_cell_row rfl _ _ g6 25 #[(.slice (some ⟨g,0,none⟩) l.length c)] (0,0) _ rfl (xK B6.out 0 (.slice (some ⟨g,0,none⟩) l.length c) rfl) Tryz.underlying25 rfl (by kernel_rfl)) rfl ?_
  refine ⟨_,rfl,?_⟩
  rw [E.out]
  exact vU HN9.out (fun k hk=>⟨hk.1,hk.2.1⟩) HB9.out G6.out _
 ·obtain ⟨yq,hyq⟩:∃ z,z=[(⟨false,wrap64 (16777215+x)⟩:S71)]++q.f5:=⟨_,rfl⟩
  have YQ:=zh.mk hyq
  clear hyq
  obtain ⟨y0,y1,y2,y3,y4,y5,y6,y7,y8,y9,f0,f2,f3,f4,f5,f6,f7,f8,f9⟩:=((D.out.below HB.out)).cells
  have y10:=(zi ((D.out.below HB.out)).b10 0).trans (show _=some (.slice (some ⟨g,0,none⟩) l.length c) from rfl)
  have E:zh (jg 10 (bn:Int) x l=l.set bn (⟨q.f0,q.f1,q.f2,q.f3,q.f4,yq,q.f6,q.f7,q.f8,[]⟩:S56)):=⟨by rw [YQ.out];unfold jg;rw [if_pos (by decide),HQ.out,Int.toNat_natCast];unfold spQ;rw [if_neg (by decide)];rw [if_neg (by decide)];rw [if_neg (by decide)];rw [if_neg (by decide)];rw [if_neg (by decide)];rw [if_neg (by decide)];rw [if_neg (by decide)];rw [if_neg (by decide)];rw [if_neg (by decide)];rw [if_neg (by decide)];simp only [if_true]⟩
  go_upto_region 46 with (first|((with_reducible refine zB (N:=132) rfl ?_);refine Kd.XU k71 (w0:=wc) wc.heap.size 71 ?hg (N:=132) ?hd (xs:=[(⟨false,wrap64 (16777215+x)⟩:S71)]) (inner:=[.bool false,.int .i64 (wrap64 (16777215+x))]) (ok:=fun k=>wc.heap.size≤k) (okp:=fun _=>False) ?hr ?hp (fun _ hk=>hk.elim) ?hf (bl HB) ?hs (by simp) ?_;(case hd=>rfl);(case hg=>rfl);(case hr=>first|(go_simp;done)|(go_simp;rfl));(case hp=>exact qx.c2 (show Kd.M k71 _ _ _ (⟨false,wrap64 (16777215+x)⟩:S71) [.bool false,.int .i64 (wrap64 (16777215+x))] from Jd _ _ _ (⟨false,wrap64 (16777215+x)⟩:S71)) (qx.none _ _));(case hf=>exact ((show Below wc.heap.size wc _ from (bl HB))).size);(case hs=>exact ((show Below wc.heap.size wc _ from (bl HB))).size);intro vL wn ho hb0 hg_ qp;obtain ⟨AL,cL,eL⟩:=Kd.yA ho;subst eL;have HL:=zh.mk ho;clear HB hg_ qp ho;have HB:=zh.mk hb0;clear hb0;clear y0 y1 y2 y3 y4 y5 y6 y7 y8 y9 f0 f2 f3 f4 f5 f6 f7 f8 f9 y10;obtain ⟨y0,y1,y2,y3,y4,y5,y6,y7,y8,y9,f0,f2,f3,f4,f5,f6,f7,f8,f9⟩:=(D.out.below HB.out).cells;have y10:=(zi (D.out.below HB.out).b10 0).trans (show _=some (.slice (some ⟨g,0,none⟩) l.length c) from rfl))|((with_reducible refine yt (b:=.append) (xs:=#[.tmp 132,.tmp 134]) rfl ?_);at_builtin;refine Kd.yS k71 (Rr:=fun p cs=>k71.K wn p cs) (w0:=wc) wc.heap.size rfl (.tmp 132) (.tmp 134) 52 71 (.agg #[(.bool false),(.int .i64 0)]) 16 rfl Tryz.underlying52 info71 rfl (by decide) (by omega) (.slice AL 1 cL) [(⟨false,wrap64 (16777215+x)⟩:S71)] q.f5 _ _ _ (fun k=>wc.heap.size≤k) (fun _=>False) rfl rfl ?aO ?aR (fun _ _ h=>(by rw [k71_open h];exact Jd _ _ _ _)) (fun _ h=>h.elim) ?aF ?aB ?aS ?aL ?_;(case aO=>exact HL.out);(case aF=>exact (fun k hk=>Nat.le_trans ((show Below wc.heap.size wc _ from (bl HB))).size hk));(case aB=>exact (show Below wc.heap.size wc _ from (bl HB)));(case aS=>exact ((show Below wc.heap.size wc _ from (bl HB))).size);(case aR=>exact (Kd.jq (Kd.jO D.out.qr.r5 HB.out)).2.2);(case aL=>have:=HIN.out.2.2.2.2.2.2;rw [HQ.out] at this;simp only [List.length_singleton];omega);intro vQ wn ho hb0 hg_ zaQ;rw [← YQ.out] at ho;obtain ⟨AQ,cQ,eQ⟩:=Kd.yA ho;subst eQ;have HN:=zh.mk ho;clear HB HL hg_ zaQ ho;have HB:=zh.mk hb0;clear hb0;clear y0 y1 y2 y3 y4 y5 y6 y7 y8 y9 f0 f2 f3 f4 f5 f6 f7 f8 f9 y10;obtain ⟨y0,y1,y2,y3,y4,y5,y6,y7,y8,y9,f0,f2,f3,f4,f5,f6,f7,f8,f9⟩:=(D.out.below HB.out).cells;have y10:=(zi (D.out.below HB.out).b10 0).trans (show _=some (.slice (some ⟨g,0,none⟩) l.length c) from rfl))|((with_reducible refine qw (t:=56) (p:=185) rfl ?_);refine jC (p:=.tmp 185) (x:=.tmp 184) (((D.out.below HB.out).put5 (Xj HN.out (fun k hk=>D.out.own k hk))).put9 (Kd.Jz _ _ _ _ _)) bn i3n rfl rfl rfl ?ha ?hx ?_;(case ha=>first|(go_simp;done)|(go_simp;with_reducible rfl));(case hx=>first|(go_simp;done)|(go_simp;with_reducible rfl));intro w9 hN hB h6 h10;have HN9:=zh.mk hN;have HB9:=zh.mk hB;have B6:=zh.mk h6;have x10:=(zi h10 0).trans (show _=some (.slice (some ⟨g,0,none⟩) l.length c) from rfl);have x6:=(zi h6 0).trans (show _=some (.slice none 0 0) from rfl);have z6:=zn h6 0;clear hN hB h6 h10))
  go_wp21
  refine bodyPost_ret (results_cell_row rfl _ _ g6 25 #[(.slice (some ⟨g,0,none⟩) l.length c)] (0,0) _ rfl (xK B6.out 0 (.slice (some ⟨g,0,none⟩) l.length c) rfl) Tryz.underlying25 rfl (by kernel_rfl)) rfl ?_
  refine ⟨_,rfl,?_⟩
  rw [E.out]
  exact vU HN9.out (fun k hk=>⟨hk.1,hk.2.1⟩) HB9.out G6.out _
 ·obtain ⟨y0,y1,y2,y3,y4,y5,y6,y7,y8,y9,f0,f2,f3,f4,f5,f6,f7,f8,f9⟩:=((D.out.below HB.out)).cells
  have y10:=(zi ((D.out.below HB.out)).b10 0).trans (show _=some (.slice (some ⟨g,0,none⟩) l.length c) from rfl)
  have E:zh (jg 11 (bn:Int) x l=l.set bn (⟨q.f0,q.f1,q.f2,q.f3,q.f4,q.f5,q.f6,qV (strOfNums [110]) (wrap64 (1000+x)).toNat,q.f8,q.f9⟩:S56)):=⟨by unfold jg;rw [if_pos (by decide),HQ.out,Int.toNat_natCast];unfold spQ;rw [if_neg (by decide)];rw [if_neg (by decide)];rw [if_neg (by decide)];rw [if_neg (by decide)];rw [if_neg (by decide)];rw [if_neg (by decide)];rw [if_neg (by decide)];rw [if_neg (by decide)];rw [if_neg (by decide)];rw [if_neg (by decide)];rw [if_neg (by decide)];simp only [if_true];rw [show wrap64 (1000+x)=1000+x by have:=HIN.out;unfold inS at this;unfold wrap64;omega]⟩
  go_upto_region 46 with (first|(go_at_call 53;refine (jP.calls 0 (wrap64 (1000+x)) (strOfNums [110]) _ _ (show jP.f 0 (wrap64 (1000+x)) (strOfNums [110])=some (qV (strOfNums [110]) (wrap64 (1000+x)).toNat) from (by unfold jP.f;rw [if_pos ⟨rfl,by have:=HIN.out;unfold inS at this;unfold wrap64;omega⟩]))).mono ?_;rintro e wn ⟨rfl,hd⟩;have hb:=hd.below;clear hd;replace HB:=zh.mk (zI (bl HB) hb);clear hb y0 y1 y2 y3 y4 y5 y6 y7 y8 y9 f0 f2 f3 f4 f5 f6 f7 f8 f9 y10;obtain ⟨y0,y1,y2,y3,y4,y5,y6,y7,y8,y9,f0,f2,f3,f4,f5,f6,f7,f8,f9⟩:=(D.out.below HB.out).cells;have y10:=(zi (D.out.below HB.out).b10 0).trans (show _=some (.slice (some ⟨g,0,none⟩) l.length c) from rfl))|((with_reducible refine qw (t:=56) (p:=185) rfl ?_);refine jC (p:=.tmp 185) (x:=.tmp 184) ((D.out.below HB.out).put7 (qV (strOfNums [110]) (wrap64 (1000+x)).toNat)) bn i3n rfl rfl rfl ?ha ?hx ?_;(case ha=>first|(go_simp;done)|(go_simp;with_reducible rfl));(case hx=>first|(go_simp;done)|(go_simp;with_reducible rfl));intro w9 hN hB h6 h10;have HN9:=zh.mk hN;have HB9:=zh.mk hB;have B6:=zh.mk h6;have x10:=(zi h10 0).trans (show _=some (.slice (some ⟨g,0,none⟩) l.length c) from rfl);have x6:=(zi h6 0).trans (show _=some (.slice none 0 0) from rfl);have z6:=zn h6 0;clear hN hB h6 h10))
  go_wp21
  refine bodyPost_ret (results_cell_row rfl _ _ g6 25 #[(.slice (some ⟨g,0,none⟩) l.length c)] (0,0) _ rfl (xK B6.out 0 (.slice (some ⟨g,0,none⟩) l.length c) rfl) Tryz.underlying25 rfl (by kernel_rfl)) rfl ?_
  refine ⟨_,rfl,?_⟩
  rw [E.out]
  exact vU HN9.out (fun k hk=>⟨hk.1,hk.2.1⟩) HB9.out G6.out _
 ·obtain ⟨yq,hyq⟩:∃ z,z=[(5:Int)]++q.f8:=⟨_,rfl⟩
  have YQ:=zh.mk hyq
  clear hyq
  obtain ⟨y0,y1,y2,y3,y4,y5,y6,y7,y8,y9,f0,f2,f3,f4,f5,f6,f7,f8,f9⟩:=((D.out.below HB.out)).cells
  have y10:=(zi ((D.out.below HB.out)).b10 0).trans (show _=some (.slice (some ⟨g,0,none⟩) l.length c) from rfl)
  have E:zh (jg 12 (bn:Int) x l=l.set bn (⟨q.f0,q.f1,q.f2,q.f3,q.f4,q.f5,q.f6,q.f7,yq,q.f9⟩:S56)):=⟨by rw [YQ.out];unfold jg;rw [if_pos (by decide),HQ.out,Int.toNat_natCast];unfold spQ;rw [if_neg (by decide)];rw [if_neg (by decide)];rw [if_neg (by decide)];rw [if_neg (by decide)];rw [if_neg (by decide)];rw [if_neg (by decide)];rw [if_neg (by decide)];rw [if_neg (by decide)];rw [if_neg (by decide)];rw [if_neg (by decide)];rw [if_neg (by decide)];rw [if_neg (by decide)];simp only [if_true]⟩
  go_upto_region 46 with (first|((with_reducible refine zB (N:=146) rfl ?_);refine Kd.XU (Kd.int .i64) (w0:=wc) wc.heap.size 3 ?hg (N:=146) ?hd (xs:=[(5:Int)]) (inner:=[.int .i64 5]) (ok:=fun k=>wc.heap.size≤k) (okp:=fun _=>False) ?hr ?hp (fun _ hk=>hk.elim) ?hf (bl HB) ?hs (by simp) ?_;(case hd=>rfl);(case hg=>rfl);(case hr=>first|(go_simp;done)|(go_simp;rfl));(case hp=>exact qx.one (show Kd.M (Kd.int .i64) _ _ _ (5:Int) [.int .i64 5] from rfl) (qx.none _ _));(case hf=>exact ((show Below wc.heap.size wc _ from (bl HB))).size);(case hs=>exact ((show Below wc.heap.size wc _ from (bl HB))).size);intro vL wn ho hb0 hg_ qp;obtain ⟨AL,cL,eL⟩:=Kd.yA ho;subst eL;have HL:=zh.mk ho;clear HB hg_ qp ho;have HB:=zh.mk hb0;clear hb0;clear y0 y1 y2 y3 y4 y5 y6 y7 y8 y9 f0 f2 f3 f4 f5 f6 f7 f8 f9 y10;obtain ⟨y0,y1,y2,y3,y4,y5,y6,y7,y8,y9,f0,f2,f3,f4,f5,f6,f7,f8,f9⟩:=(D.out.below HB.out).cells;have y10:=(zi (D.out.below HB.out).b10 0).trans (show _=some (.slice (some ⟨g,0,none⟩) l.length c) from rfl))|((with_reducible refine yt (b:=.append) (xs:=#[.tmp 146,.tmp 148]) rfl ?_);at_builtin;refine Kd.yS (Kd.int .i64) (w0:=wc) wc.heap.size rfl (.tmp 146) (.tmp 148) 53 3 (.int .i64 0) 8 rfl Tryz.underlying53 kinfo3 rfl (by decide) (by omega) (.slice AL 1 cL) [(5:Int)] q.f8 _ _ _ (fun k=>wc.heap.size≤k) (fun _=>False) rfl rfl ?aO ?aR (fun _ _ h=>h) (fun _ h=>h.elim) ?aF ?aB ?aS ?aL ?_;(case aO=>exact HL.out);(case aF=>exact (fun k hk=>Nat.le_trans ((show Below wc.heap.size wc _ from (bl HB))).size hk));(case aB=>exact (show Below wc.heap.size wc _ from (bl HB)));(case aS=>exact ((show Below wc.heap.size wc _ from (bl HB))).size);(case aR=>exact (Kd.jq (Kd.jO D.out.qr.r8 HB.out)).2.2);(case aL=>have:=HIN.out.2.2.2.2.2.2;rw [HQ.out] at this;simp only [List.length_singleton];omega);intro vQ wn ho hb0 hg_ zaQ;rw [← YQ.out] at ho;obtain ⟨AQ,cQ,eQ⟩:=Kd.yA ho;subst eQ;have HN:=zh.mk ho;clear HB HL hg_ zaQ ho;have HB:=zh.mk hb0;clear hb0;clear y0 y1 y2 y3 y4 y5 y6 y7 y8 y9 f0 f2 f3 f4 f5 f6 f7 f8 f9 y10;obtain ⟨y0,y1,y2,y3,y4,y5,y6,y7,y8,y9,f0,f2,f3,f4,f5,f6,f7,f8,f9⟩:=(D.out.below HB.out).cells;have y10:=(zi (D.out.below HB.out).b10 0).trans (show _=some (.slice (some ⟨g,0,none⟩) l.length c) from rfl))|((with_reducible refine qw (t:=56) (p:=185) rfl ?_);refine jC (p:=.tmp 185) (x:=.tmp 184) ((D.out.below HB.out).put8 (Xj HN.out (fun k hk=>D.out.own k hk))) bn i3n rfl rfl rfl ?ha ?hx ?_;(case ha=>first|(go_simp;done)|(go_simp;with_reducible rfl));(case hx=>first|(go_simp;done)|(go_simp;with_reducible rfl));intro w9 hN hB h6 h10;have HN9:=zh.mk hN;have HB9:=zh.mk hB;have B6:=zh.mk h6;have x10:=(zi h10 0).trans (show _=some (.slice (some ⟨g,0,none⟩) l.length c) from rfl);have x6:=(zi h6 0).trans (show _=some (.slice none 0 0) from rfl);have z6:=zn h6 0;clear hN hB h6 h10))
  go_wp21
  refine bodyPost_ret (results_cell_row rfl _ _ g6 25 #[(.slice (some ⟨g,0,none⟩) l.length c)] (0,0) _ rfl (xK B6.out 0 (.slice (some ⟨g,0,none⟩) l.length c) rfl) Tryz.underlying25 rfl (by kernel_rfl)) rfl ?_
  refine ⟨_,rfl,?_⟩
  rw [E.out]
  exact vU HN9.out (fun k hk=>⟨hk.1,hk.2.1⟩) HB9.out G6.out _
 ·have h0q:0<q.f3.length:=by have:=HIN.out;unfold inS at this;rw [HQ.out] at this;omega
  have i0q:(0:Int)<(q.f3.length:Int):=by omega
  have H0Q:=zh.mk h0q
  clear h0q
  obtain ⟨y0,y1,y2,y3,y4,y5,y6,y7,y8,y9,f0,f2,f3,f4,f5,f6,f7,f8,f9⟩:=((D.out.below HB.out)).cells
  have y10:=(zi ((D.out.below HB.out)).b10 0).trans (show _=some (.slice (some ⟨g,0,none⟩) l.length c) from rfl)
  have E:zh (jg 13 (bn:Int) x l=l.set bn (⟨q.f0,q.f1,q.f2,q.f3,q.f4,q.f5,q.f6,q.f7,(List.replicate q.f3.length (0:Int)).set 0 (wrap64 (16777215+x)),q.f9⟩:S56)):=⟨by unfold jg;rw [if_pos (by decide),HQ.out,Int.toNat_natCast];unfold spQ;rw [if_neg (by decide)];rw [if_neg (by decide)];rw [if_neg (by decide)];rw [if_neg (by decide)];rw [if_neg (by decide)];rw [if_neg (by decide)];rw [if_neg (by decide)];rw [if_neg (by decide)];rw [if_neg (by decide)];rw [if_neg (by decide)];rw [if_neg (by decide)];rw [if_neg (by decide)];rw [if_neg (by decide)];simp only [if_true]⟩
  go_upto_region 46 with (first|((with_reducible refine zB (N:=156) rfl ?_);refine Kd.R_make (Kd.int .i64) (w0:=wc) wc.heap.size 3 ?hg (N:=156) ?hd 53 (.tmp 155) (.tmp 155) ?ho ((q.f3.length:Int)) ?hx ?hy Tryz.underlying53 (.int .i64 0) 8 kinfo3 rfl (by decide) (by decide) (0:Int) (ok:=fun k=>wc.heap.size≤k) (okp:=fun _=>False) (show Kd.M (Kd.int .i64) _ _ _ (0:Int) [.int .i64 0] from rfl) (fun _ hk=>hk.elim) ?hf ?h0 ?hl (show Below wc.heap.size wc _ from (bl HB)) ?hs ?_;(case hd=>rfl);(case hg=>rfl);(case ho=>rfl);(case hx=>first|(go_simp;done)|(go_simp;with_reducible rfl));(case hy=>first|(go_simp;done)|(go_simp;with_reducible rfl));(case hf=>exact ((show Below wc.heap.size wc _ from (bl HB))).size);(case hs=>exact ((show Below wc.heap.size wc _ from (bl HB))).size);(case h0=>have:=HIN.out;have hq:=HQ.out;unfold inS at this;first|omega|(unfold wrap64;omega));(case hl=>have:=HIN.out;have hq:=HQ.out;unfold inS at this;rw [hq] at this;first|omega|(unfold wrap64;omega));intro vQ wn ho hb0 hg_ zaQ;obtain ⟨gq,cQ,eQ,hgq,_,_⟩:=Kd.R_form ho (by rw [List.length_replicate,Int.toNat_natCast];exact H0Q.out);subst eQ;simp only [List.length_replicate,Int.toNat_natCast] at ho;obtain ⟨cq,hcl,_,hcq,hfq⟩:=Kd.JQ ho 0 (0:Int) (by omega) (by have:=H0Q.out;omega);obtain ⟨u0,hu0⟩:∃ u0,cq=[u0]:=(by cases cq with|nil=>exact absurd hcl (by decide)|cons z zs=>(cases zs with|nil=>exact ⟨z,rfl⟩|cons _ _=>exact absurd hcl (by show ¬ _+1+1=1;omega)));subst hu0;have q0:wn.cell? ⟨gq,0,none⟩=some u0:=hcq 0 u0 rfl;have qf:wn.frozen? ⟨gq,0,none⟩=false:=hfq 0;have qn:¬ gq=g11∧¬ g11=gq∧¬ gq=g10∧¬ g10=gq:=(by have:=yx D.out.b11;have:=yx D.out.b10;omega);obtain ⟨qn1,qn2,qn3,qn4⟩:=qn;clear hcq hfq hcl hgq;have HN:=zh.mk ho;clear HB hg_ zaQ ho;have HB:=zh.mk hb0;clear hb0;clear y0 y1 y2 y3 y4 y5 y6 y7 y8 y9 f0 f2 f3 f4 f5 f6 f7 f8 f9 y10;obtain ⟨y0,y1,y2,y3,y4,y5,y6,y7,y8,y9,f0,f2,f3,f4,f5,f6,f7,f8,f9⟩:=(D.out.below HB.out).cells;have y10:=(zi (D.out.below HB.out).b10 0).trans (show _=some (.slice (some ⟨g,0,none⟩) l.length c) from rfl))|((with_reducible refine qw (t:=56) (p:=185) rfl ?_);refine jC (p:=.tmp 185) (x:=.tmp 184) (D.out.put13 HB.out HN.out H0Q.out (wrap64 (16777215+x))) bn i3n rfl rfl rfl ?ha ?hx ?_;(case ha=>first|(go_simp;done)|(go_simp;with_reducible rfl));(case hx=>first|(go_simp;done)|(go_simp;with_reducible rfl));intro w9 hN hB h6 h10;have HN9:=zh.mk hN;have HB9:=zh.mk hB;have B6:=zh.mk h6;have x10:=(zi h10 0).trans (show _=some (.slice (some ⟨g,0,none⟩) l.length c) from rfl);have x6:=(zi h6 0).trans (show _=some (.slice none 0 0) from rfl);have z6:=zn h6 0;clear hN hB h6 h10))
  go_wp21
  refine bodyPost_ret (results_cell_row rfl _ _ g6 25 #[(.slice (some ⟨g,0,none⟩) l.length c)] (0,0) _ rfl (xK B6.out 0 (.slice (some ⟨g,0,none⟩) l.length c) rfl) Tryz.underlying25 rfl (by kernel_rfl)) rfl ?_
  refine ⟨_,rfl,?_⟩
  rw [E.out]
  exact vU HN9.out (fun k hk=>⟨hk.1,hk.2.1⟩) HB9.out G6.out _
end Go.Proofs.YtiekodnojmkfaaaGreatDoor.yD
