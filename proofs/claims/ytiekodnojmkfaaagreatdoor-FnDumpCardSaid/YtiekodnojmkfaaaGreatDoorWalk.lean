import Derived.Tactics2
import Derived.Deep.DeepCutAuto
import Derived.Deep.CutBlock
import Derived.Shelf.RegionOpenPlain
import Derived.Shelf.Abstract
import Derived.Shelf.RegionOpen
import Derived.WalkKit
import Derived.OwnWalkIn
import Derived.TacticsInMore
import Derived.LoopNIn
import Derived.LoopIn
import Derived.Laws.EntriesVeiled
import Derived.LoopN
import Derived.WalkLawsBesides
import Derived.Test.YtiekodnojmkfaaaGreatDoorPFnDumpx11
import Derived.Test.YtiekodnojmkfaaaGreatDoorPFnDumpx14
import Derived.Test.YtiekodnojmkfaaaGreatDoorPFnDumpx17
import Derived.Test.YtiekodnojmkfaaaGreatDoorPFnDumpx19
import Derived.Test.YtiekodnojmkfaaaGreatDoorPFnDumpx22
namespace Go.Proofs.YtiekodnojmkfaaaGreatDoor.yD
set_option maxHeartbeats 32000000
set_option maxRecDepth 100000
open Go.RowKit Go.Proofs.YtiekodnojmkfaaaGreatDoorW.zF Go.Proofs.YtiekodnojmkfaaaGreatDoorW.yC Go.Proofs.YtiekodnojmkfaaaGreatDoorW.yY
attribute [local go_sem] xM xO qG qH yZ xg xP xQ
set_option linter.unusedVariables false
set_option linter.unusedSimpArgs false
structure Box (W:World) (g:Nat) (A:Option Addr) (q:Nat) (l:List S56):Prop where
 box:W.heap[g]?=some (.cells #[.slice A l.length q] 25 (0,0))
 C:Kd.C k56 W A l.length l
 cap:l.length≤q
theorem Box.below {W W1:World} {g:Nat} {A:Option Addr} {q:Nat} {l:List S56} (h:Box W g A q l) (hb:Below W.heap.size W W1):Box W1 g A q l :=
 ⟨(hb.block g (yx h.box)).trans h.box,Kd.zY h.C hb,h.cap⟩
theorem Box.fresh {W:World} {A:Option Addr} {q:Nat} {l:List S56} (hC:Kd.C k56 W A l.length l) (hq:l.length≤q):Box (W.alloc (.cells #[.slice A l.length q] 25 (0,0))) W.heap.size A q l :=
 ⟨jK W _,Kd.zY hC (yF _),hq⟩
theorem Box.cell {W:World} {g:Nat} {A:Option Addr} {q:Nat} {l:List S56} (h:Box W g A q l):W.cell? ⟨g,0,none⟩=some (.slice A l.length q):=(zi h.box 0).trans rfl
theorem Box.up {W:World} {g:Nat} {A:Option Addr} {q:Nat} {l:List S56} (h:Box W g A q l) (o:Obj):Box (W.alloc o) g A q l:=h.below (yF o)
theorem lawLong0 (A0 A1:Option Addr) (c0 c1:Nat) (l0 l1:List Int) (w:World) (hr0:Kd.C (Kd.int .u8) w A0 l0.length l0) (hc0:l0.length≤c0) (hr1:Kd.C (Kd.int .u8) w A1 l1.length l1) (hc1:l1.length≤c1) (h:1048576<l0.length) :
  Calls Tryz.prog 3 #[.slice A0 l0.length c0,.slice A1 l1.length c1] w fun e w'=>e=.returned (.bool true)∧Below w.heap.size w w':=by
 have d0:decide ((l0.length:Int) > 1048576)=true:=dt (by omega)
 have d1:decide ((1048576:Int)<(l0.length:Int))=true:=dt (by omega)
 have d2:(1048576:Int)<(l0.length:Int):=by omega
 go_enter Tryz.func3,Tryz.ntmps3
 go_wp2
 go_ret
 exact ⟨rfl,Below.refl _ _⟩
theorem lawLong1 (A0 A1:Option Addr) (c0 c1:Nat) (l0 l1:List Int) (w:World) (hr0:Kd.C (Kd.int .u8) w A0 l0.length l0) (hc0:l0.length≤c0) (hr1:Kd.C (Kd.int .u8) w A1 l1.length l1) (hc1:l1.length≤c1) (h0:l0.length≤1048576) (h:1048576<l1.length) :
  Calls Tryz.prog 3 #[.slice A0 l0.length c0,.slice A1 l1.length c1] w fun e w'=>e=.returned (.bool true)∧Below w.heap.size w w':=by
 have d0:decide ((1048576:Int)<(l0.length:Int))=false:=df (by omega)
 have d2:¬ (1048576:Int)<(l0.length:Int):=by omega
 have e0:decide ((1048576:Int)<(l1.length:Int))=true:=dt (by omega)
 have e2:(1048576:Int)<(l1.length:Int):=by omega
 go_enter Tryz.func3,Tryz.ntmps3
 go_wp2
 go_ret
 exact ⟨rfl,Below.refl _ _⟩
theorem lawBad (A0 A1:Option Addr) (c0 c1:Nat) (l0 l1:List Int) (w:World) (hr0:Kd.C (Kd.int .u8) w A0 l0.length l0) (hc0:l0.length≤c0) (hr1:Kd.C (Kd.int .u8) w A1 l1.length l1) (hc1:l1.length≤c1) (hG:Glob w) (h0:l0.length≤1048576) (h1:l1.length≤1048576) (k:Nat) (c:List S56) (hc:xR.f k l0=some c) (s:ByteArray) (g:Bool) (hg:g=false) (hz:s.size=0) (hd:zf.f c=some (s,g)) (hw:zD.f k c=some g) (hi:zk.f c=some g) :
  Calls Tryz.prog 3 #[.slice A0 l0.length c0,.slice A1 l1.length c1] w fun e w'=>e=.returned (.bool true)∧Below w.heap.size w w':=by
 subst hg
 have HD:=zh.mk hd
 have hu25:=Tryz.underlying25
 have d0:decide ((1048576:Int)<(l0.length:Int))=false:=df (by omega)
 have d2:¬ (1048576:Int)<(l0.length:Int):=by omega
 have e0:decide ((1048576:Int)<(l1.length:Int))=false:=df (by omega)
 have e2:¬ (1048576:Int)<(l1.length:Int):=by omega
 have HR0:=zh.mk hr0
 have HC0:=zh.mk hc0
 have HR1:=zh.mk hr1
 have HC1:=zh.mk hc1
 have HC:=zh.mk hc
 have HW:=zh.mk hw
 have HI:=zh.mk hi
 have S0:=zh.mk (Below.refl w.heap.size w)
 have z0:decide ((0:Int)<(s.size:Int))=false:=df (by omega)
 have z1:¬ (0:Int)<(s.size:Int):=by omega
 clear hr0 hc0 hr1 hc1 hc hd hw hi h0 h1
 go_enter Tryz.func3,Tryz.ntmps3
 go_wp2_with (first
  | (go_at_call 5;have hq:=S0;clear hq;refine (xR.calls k A0 c0 l0 c w HR0.out HC0.out HC.out).mono ?_;rintro e_ w1 ⟨v0,rfl,hN,hb⟩;obtain ⟨A3,q3,rfl⟩:=Kd.jk hN;have X3:=zh.mk (Box.fresh (Kd.kK hN).2.2 (Kd.kK hN).2.1);have S1:=zh.mk (zS hb (.cells #[.slice A3 c.length q3] 25 (0,0)));clear hN hb S0)
  | (go_at_call 5;have hq:=S1;clear hq;refine (xR.calls k A0 c0 l0 c _ (Kd.zY HR0.out S1.out) HC0.out HC.out).mono ?_;rintro e_ w2 ⟨v0,rfl,hN,hb⟩;obtain ⟨A4,q4,rfl⟩:=Kd.jk hN;have X4:=zh.mk (Box.fresh (Kd.kK hN).2.2 (Kd.kK hN).2.1);have Y3:=zh.mk ((X3.out.below hb).up (.cells #[.slice A4 c.length q4] 25 (0,0)));have c3:w2.cell? ⟨w1.heap.size,0,none⟩=some (.slice A3 c.length q3):=(X3.out.below hb).cell;have l3:w1.heap.size<w2.heap.size:=yx (X3.out.below hb).box;have ne3:¬ w2.heap.size=w1.heap.size:=Nat.ne_of_gt l3;have ne4:¬ w1.heap.size=w2.heap.size:=Nat.ne_of_lt l3;have S2:=zh.mk (zS (zI S1.out hb) (.cells #[.slice A4 c.length q4] 25 (0,0)));have L3:=zh.mk l3;clear hN hb S1 X3)
  | (go_at_call 6;have hq:=S2;clear hq;refine (zf.calls A3 q3 c s _ _ Y3.out.C Y3.out.cap HD.out).mono ?_;rintro e_ w3 ⟨rfl,hb⟩;have X3:=zh.mk (Y3.out.below hb);have Y4:=zh.mk (X4.out.below hb);clear c3;have c3:w3.cell? ⟨w1.heap.size,0,none⟩=some (.slice A3 c.length q3):=X3.out.cell;have c4:w3.cell? ⟨w2.heap.size,0,none⟩=some (.slice A4 c.length q4):=Y4.out.cell;have S3:=zh.mk (zI S2.out hb);clear hb S2 Y3 X4)
  | (go_at_call 7;have hq:=S3;clear hq;refine (zD.calls k A4 q4 c _ _ Y4.out.C Y4.out.cap HW.out).mono ?_;rintro e_ w4 ⟨rfl,hb⟩;have Y3:=zh.mk (X3.out.below hb);have X4:=zh.mk (Y4.out.below hb);clear c3 c4;have c3:w4.cell? ⟨w1.heap.size,0,none⟩=some (.slice A3 c.length q3):=Y3.out.cell;have c4:w4.cell? ⟨w2.heap.size,0,none⟩=some (.slice A4 c.length q4):=X4.out.cell;have S4:=zh.mk (zI S3.out hb);clear hb S3 X3 Y4)
  | (go_at_call 8;have hq:=S4;clear hq;refine (zk.calls A3 q3 c _ _ Y3.out.C Y3.out.cap HI.out).mono ?_;rintro e_ w5 ⟨rfl,hb⟩;have X3:=zh.mk (Y3.out.below hb);have Y4:=zh.mk (X4.out.below hb);clear c3 c4;have c3:w5.cell? ⟨w1.heap.size,0,none⟩=some (.slice A3 c.length q3):=X3.out.cell;have c4:w5.cell? ⟨w2.heap.size,0,none⟩=some (.slice A4 c.length q4):=Y4.out.cell;have S5:=zh.mk (zI S4.out hb);clear hb S4 Y3 X4))
 go_ret
 exact ⟨rfl,S5.out⟩
theorem lawGood1 (A0 A1:Option Addr) (c0 c1:Nat) (l0 l1:List Int) (w:World) (hr0:Kd.C (Kd.int .u8) w A0 l0.length l0) (hc0:l0.length≤c0) (hr1:Kd.C (Kd.int .u8) w A1 l1.length l1) (hc1:l1.length≤c1) (hG:Glob w) (h0:l0.length≤1048576) (h1:l1.length≤1048576) (k:Nat) (c:List S56) (hc:xR.f k l0=some c) (s:ByteArray) (hd:zf.f c=some (s,true)) (hw:zD.f k c=some true) (hi:zk.f c=some true) (hld:xY.f s=some (c,0)) (hsm:zM.f k c c false=some true) (t0 t1 t2:Int) (hp0:qj.f l1 0=some t0) (hp1:qj.f l1 1=some t1) (hp2:qj.f l1 2=some t2) (hz:s.size≤1099511627776) (R:Int) (hE:Int.tmod (wrap64 (wrap64 (t0*256)+t1)) (wrap64 ((s.size:Int)+1))=R) (x:Int) (hx:x≠0) (hR0:0≤R) (hR1:R<(s.size:Int)) (hsh:xY.f (s.extract 0 R.toNat)=some ([],x)) (hln:xY.f (s++strOfNums [t2 % 256])=some ([],5)) :
  Calls Tryz.prog 3 #[.slice A0 l0.length c0,.slice A1 l1.length c1] w fun e w'=>e=.returned (.bool true)∧Below w.heap.size w w':=by
 have r0:(R == (s.size:Int))=false:=bF (by omega)
 have r1:¬ R=(s.size:Int):=by omega
 have r2:decide (R≤(s.size:Int))=true:=dt (by omega)
 have r3:R≤(s.size:Int):=by omega
 have r4:decide (0≤R)=true:=dt hR0
 have hu25:=Tryz.underlying25
 have d0:decide ((1048576:Int)<(l0.length:Int))=false:=df (by omega)
 have d2:¬ (1048576:Int)<(l0.length:Int):=by omega
 have e0:decide ((1048576:Int)<(l1.length:Int))=false:=df (by omega)
 have e2:¬ (1048576:Int)<(l1.length:Int):=by omega
 have HR0:=zh.mk hr0
 have HC0:=zh.mk hc0
 have HR1:=zh.mk hr1
 have HC1:=zh.mk hc1
 have HC:=zh.mk hc
 have HD:=zh.mk hd
 have HW:=zh.mk hw
 have HI:=zh.mk hi
 have S0:=zh.mk (Below.refl w.heap.size w)
 have hE2:Int.tmod (wrap64 (wrap64 (t0*256)+t1)) ((s.size:Int)+1)=R:=by rw [← hE,show wrap64 ((s.size:Int)+1)=(s.size:Int)+1 by unfold wrap64;omega]
 clear hE
 have la:s.size+(strOfNums [t2 % 256]).size≤9223372036854775807:=by rw [strOfNums_size,List.length_singleton];omega
 have la0:=eq_true la
 have la1:decide (s.size+(strOfNums [t2 % 256]).size≤9223372036854775807)=true:=dt la
 have la2:(9223372036854775807<s.size+(strOfNums [t2 % 256]).size)=False:=eq_false (Nat.not_lt.2 la)
 have nz:¬ wrap64 ((s.size:Int)+1)=0:=by unfold wrap64;omega
 have nx:(x == 0)=false:=bF hx
 have nx2:(x != 0)=true:=nT hx
 have HSH:=zh.mk hsh
 have HLN:=zh.mk hln
 clear hsh hln
 have HLD:=zh.mk hld
 have HSM:=zh.mk hsm
 have HP0:=zh.mk hp0
 have HP1:=zh.mk hp1
 have HP2:=zh.mk hp2
 clear hld hsm hp0 hp1 hp2
 clear hr0 hc0 hr1 hc1 hc hd hw hi h0 h1
 go_enter Tryz.func3,Tryz.ntmps3
 go_upto_region 14 with (first
  | (go_at_call 5;have hq:=S0;clear hq;refine (xR.calls k A0 c0 l0 c w HR0.out HC0.out HC.out).mono ?_;rintro e_ w1 ⟨v0,rfl,hN,hb⟩;obtain ⟨A3,q3,rfl⟩:=Kd.jk hN;have X3:=zh.mk (Box.fresh (Kd.kK hN).2.2 (Kd.kK hN).2.1);have S1:=zh.mk (zS hb (.cells #[.slice A3 c.length q3] 25 (0,0)));clear hN hb S0)
  | (go_at_call 5;have hq:=S1;clear hq;refine (xR.calls k A0 c0 l0 c _ (Kd.zY HR0.out S1.out) HC0.out HC.out).mono ?_;rintro e_ w2 ⟨v0,rfl,hN,hb⟩;obtain ⟨A4,q4,rfl⟩:=Kd.jk hN;have X4:=zh.mk (Box.fresh (Kd.kK hN).2.2 (Kd.kK hN).2.1);have Y3:=zh.mk ((X3.out.below hb).up (.cells #[.slice A4 c.length q4] 25 (0,0)));have c3:w2.cell? ⟨w1.heap.size,0,none⟩=some (.slice A3 c.length q3):=(X3.out.below hb).cell;have l3:w1.heap.size<w2.heap.size:=yx (X3.out.below hb).box;have ne3:¬ w2.heap.size=w1.heap.size:=Nat.ne_of_gt l3;have ne4:¬ w1.heap.size=w2.heap.size:=Nat.ne_of_lt l3;have S2:=zh.mk (zS (zI S1.out hb) (.cells #[.slice A4 c.length q4] 25 (0,0)));have L3:=zh.mk l3;clear hN hb S1 X3)
  | (go_at_call 6;have hq:=S2;clear hq;refine (zf.calls A3 q3 c s _ _ Y3.out.C Y3.out.cap HD.out).mono ?_;rintro e_ w3 ⟨rfl,hb⟩;have X3:=zh.mk (Y3.out.below hb);have Y4:=zh.mk (X4.out.below hb);clear c3;have c3:w3.cell? ⟨w1.heap.size,0,none⟩=some (.slice A3 c.length q3):=X3.out.cell;have c4:w3.cell? ⟨w2.heap.size,0,none⟩=some (.slice A4 c.length q4):=Y4.out.cell;have S3:=zh.mk (zI S2.out hb);clear hb S2 Y3 X4)
  | (go_at_call 7;have hq:=S3;clear hq;refine (zD.calls k A4 q4 c _ _ Y4.out.C Y4.out.cap HW.out).mono ?_;rintro e_ w4 ⟨rfl,hb⟩;have Y3:=zh.mk (X3.out.below hb);have X4:=zh.mk (Y4.out.below hb);clear c3 c4;have c3:w4.cell? ⟨w1.heap.size,0,none⟩=some (.slice A3 c.length q3):=Y3.out.cell;have c4:w4.cell? ⟨w2.heap.size,0,none⟩=some (.slice A4 c.length q4):=X4.out.cell;have S4:=zh.mk (zI S3.out hb);clear hb S3 X3 Y4)
  | (go_at_call 8;have hq:=S4;clear hq;refine (zk.calls A3 q3 c _ _ Y3.out.C Y3.out.cap HI.out).mono ?_;rintro e_ w5 ⟨rfl,hb⟩;have X3:=zh.mk (Y3.out.below hb);have Y4:=zh.mk (X4.out.below hb);clear c3 c4;have c3:w5.cell? ⟨w1.heap.size,0,none⟩=some (.slice A3 c.length q3):=X3.out.cell;have c4:w5.cell? ⟨w2.heap.size,0,none⟩=some (.slice A4 c.length q4):=Y4.out.cell;have S5:=zh.mk (zI S4.out hb);clear hb S4 Y3 X4)
  | (go_at_call 9;have hq:=S5;clear hq;refine (xY.calls s c 0 _ HLD.out (hG.below S5.out)).mono ?_;rintro e_ w6 ⟨v0,rfl,hS,hb⟩;obtain ⟨A6,q6,rfl⟩:=Kd.Zx hS;have X6:=zh.mk (Box.fresh (Kd.Yd hS).2.2 (Kd.Yd hS).2.1);have X4:=zh.mk ((Y4.out.below hb).up (.cells #[.slice A6 c.length q6] 25 (0,0)));clear c3 c4;have c4:w6.cell? ⟨w2.heap.size,0,none⟩=some (.slice A4 c.length q4):=(Y4.out.below hb).cell;have l4:w2.heap.size<w6.heap.size:=yx (Y4.out.below hb).box;have ne5:¬ w6.heap.size=w2.heap.size:=Nat.ne_of_gt l4;have ne6:¬ w2.heap.size=w6.heap.size:=Nat.ne_of_lt l4;have S6:=zh.mk (zS (zI S5.out hb) (.cells #[.slice A6 c.length q6] 25 (0,0)));clear hS hb S5 X3 Y4)
  | (go_at_call 10;have hq:=S6;clear hq;refine (zM.calls k A6 q6 c A4 q4 c false true _ X6.out.C X6.out.cap X4.out.C X4.out.cap HSM.out).mono ?_;rintro e_ w7 ⟨rfl,hb⟩;have S7:=zh.mk (zI S6.out hb);clear hb S6 X4 X6 c4 l4 ne5 ne6 l3 ne3 ne4))
 go_upto_region 15 with (first
  | (go_at_call 11;have hq:=S7;clear hq;refine (qj.calls A1 c1 l1 0 t0 _ (Kd.zY HR1.out S7.out) HC1.out HP0.out).mono ?_;rintro e_ w8 ⟨rfl,hd⟩;have S8:=zh.mk (zI S7.out hd.below);clear hd S7)
  | (go_at_call 11;have hq:=S8;clear hq;refine (qj.calls A1 c1 l1 1 t1 _ (Kd.zY HR1.out S8.out) HC1.out HP1.out).mono ?_;rintro e_ w9 ⟨rfl,hd⟩;have S9:=zh.mk (zI S8.out hd.below);clear hd S8))
 (try rw [hE2])
 go_upto_region 17 with (fail)
 go_upto_region 18 with (first
  | (go_at_call 9;have hq:=S9;clear hq;refine (xY.calls (s.extract 0 R.toNat) [] x _ HSH.out (hG.below S9.out)).mono ?_;rintro e_ w10 ⟨v0,rfl,hS,hb⟩;obtain ⟨A8,q8,rfl⟩:=Kd.Zx hS;have X8:=zh.mk (Box.fresh (Kd.Yd hS).2.2 (Kd.Yd hS).2.1);have S10:=zh.mk (zS (zI S9.out hb) (.cells #[.slice A8 ([]:List S56).length q8] 25 (0,0)));clear hS hb S9))
 go_upto_region 19 with (first
  | (go_at_call 11;have hq:=S10;clear hq;refine (qj.calls A1 c1 l1 2 t2 _ (Kd.zY HR1.out S10.out) HC1.out HP2.out).mono ?_;rintro e_ w11 ⟨rfl,hd⟩;have Y8:=zh.mk (X8.out.below hd.below);have S11:=zh.mk (zI S10.out hd.below);clear hd S10 X8)
  | (have hq:=S11;clear hq;(with_reducible refine zB (N:=95) rfl ?_);(try (refine yL (by rfl) ?_;dsimp only));refine Kd.XU (Kd.int .u8) _ 5 ?hg (N:=95) ?hd (xs:=([t2 % 256]:List Int)) (inner:=[.int .u8 (t2 % 256)]) (ok:=fun _=>True) (okp:=fun _=>True) ?hr ?hp (fun _ hk=>hk) trivial (Below.refl _ _) (Nat.le_refl _) (by simp) ?_;(case hd=>rfl);(case hg=>rfl);(case hr=>first|(go_simp;done)|(go_simp;rfl));(case hp=>exact (qx.one (show Kd.M (Kd.int .u8) _ _ _ (t2 % 256) [.int .u8 (t2 % 256)] from rfl) (qx.none _ _)));intro v95 w12 ho hb hg_ qp;have X8:=zh.mk (Y8.out.below hb);have S12:=zh.mk (zI S11.out hb);have hcv96:=X5 (P:=Tryz.prog) Tryz.underlying22 Tryz.underlying5 Tryz.underlying9 (Kd.JH ho);clear hb hg_ qp ho S11 Y8)
  | (go_at_call 9;have hq:=S12;clear hq;refine (xY.calls (s++strOfNums [t2 % 256]) [] 5 _ HLN.out (hG.below S12.out)).mono ?_;rintro e_ w13 ⟨v0,rfl,hS,hb⟩;obtain ⟨A9,q9,rfl⟩:=Kd.Zx hS;have c13:w13.cell? ⟨w10.heap.size,0,none⟩=some (.slice A8 ([]:List S56).length q8):=(X8.out.below hb).cell;have l13:w10.heap.size<w13.heap.size:=yx (X8.out.below hb).box;have ne13:¬ w13.heap.size=w10.heap.size:=Nat.ne_of_gt l13;have ne14:¬ w10.heap.size=w13.heap.size:=Nat.ne_of_lt l13;have S13:=zh.mk (zS (zI S12.out hb) (.cells #[.slice A9 ([]:List S56).length q9] 25 (0,0)));clear hS hb S12 X8 hcv96))
 go_wp2
 go_ret
 exact ⟨rfl,S13.out⟩
theorem lawGood0 (A0 A1:Option Addr) (c0 c1:Nat) (l0 l1:List Int) (w:World) (hr0:Kd.C (Kd.int .u8) w A0 l0.length l0) (hc0:l0.length≤c0) (hr1:Kd.C (Kd.int .u8) w A1 l1.length l1) (hc1:l1.length≤c1) (hG:Glob w) (h0:l0.length≤1048576) (h1:l1.length≤1048576) (k:Nat) (c:List S56) (hc:xR.f k l0=some c) (s:ByteArray) (hd:zf.f c=some (s,true)) (hw:zD.f k c=some true) (hi:zk.f c=some true) (hld:xY.f s=some (c,0)) (hsm:zM.f k c c false=some true) (t0 t1 t2:Int) (hp0:qj.f l1 0=some t0) (hp1:qj.f l1 1=some t1) (hp2:qj.f l1 2=some t2) (hz:s.size≤1099511627776) (R:Int) (hE:Int.tmod (wrap64 (wrap64 (t0*256)+t1)) (wrap64 ((s.size:Int)+1))=R) (x:Int) (hx:x≠0) (hR1:R=(s.size:Int)) (hsh:xY.f ByteArray.empty=some ([],x)) (hln:xY.f (s++strOfNums [t2 % 256])=some ([],5)) :
  Calls Tryz.prog 3 #[.slice A0 l0.length c0,.slice A1 l1.length c1] w fun e w'=>e=.returned (.bool true)∧Below w.heap.size w w':=by
 have r0:(R == (s.size:Int))=true:=bT hR1
 have hu25:=Tryz.underlying25
 have d0:decide ((1048576:Int)<(l0.length:Int))=false:=df (by omega)
 have d2:¬ (1048576:Int)<(l0.length:Int):=by omega
 have e0:decide ((1048576:Int)<(l1.length:Int))=false:=df (by omega)
 have e2:¬ (1048576:Int)<(l1.length:Int):=by omega
 have HR0:=zh.mk hr0
 have HC0:=zh.mk hc0
 have HR1:=zh.mk hr1
 have HC1:=zh.mk hc1
 have HC:=zh.mk hc
 have HD:=zh.mk hd
 have HW:=zh.mk hw
 have HI:=zh.mk hi
 have S0:=zh.mk (Below.refl w.heap.size w)
 have hE2:Int.tmod (wrap64 (wrap64 (t0*256)+t1)) ((s.size:Int)+1)=R:=by rw [← hE,show wrap64 ((s.size:Int)+1)=(s.size:Int)+1 by unfold wrap64;omega]
 clear hE
 have la:s.size+(strOfNums [t2 % 256]).size≤9223372036854775807:=by rw [strOfNums_size,List.length_singleton];omega
 have la0:=eq_true la
 have la1:decide (s.size+(strOfNums [t2 % 256]).size≤9223372036854775807)=true:=dt la
 have la2:(9223372036854775807<s.size+(strOfNums [t2 % 256]).size)=False:=eq_false (Nat.not_lt.2 la)
 have nz:¬ wrap64 ((s.size:Int)+1)=0:=by unfold wrap64;omega
 have nx:(x == 0)=false:=bF hx
 have nx2:(x != 0)=true:=nT hx
 have HSH:=zh.mk hsh
 have HLN:=zh.mk hln
 clear hsh hln
 have HLD:=zh.mk hld
 have HSM:=zh.mk hsm
 have HP0:=zh.mk hp0
 have HP1:=zh.mk hp1
 have HP2:=zh.mk hp2
 clear hld hsm hp0 hp1 hp2
 clear hr0 hc0 hr1 hc1 hc hd hw hi h0 h1
 go_enter Tryz.func3,Tryz.ntmps3
 go_upto_region 14 with (first
  | (go_at_call 5;have hq:=S0;clear hq;refine (xR.calls k A0 c0 l0 c w HR0.out HC0.out HC.out).mono ?_;rintro e_ w1 ⟨v0,rfl,hN,hb⟩;obtain ⟨A3,q3,rfl⟩:=Kd.jk hN;have X3:=zh.mk (Box.fresh (Kd.kK hN).2.2 (Kd.kK hN).2.1);have S1:=zh.mk (zS hb (.cells #[.slice A3 c.length q3] 25 (0,0)));clear hN hb S0)
  | (go_at_call 5;have hq:=S1;clear hq;refine (xR.calls k A0 c0 l0 c _ (Kd.zY HR0.out S1.out) HC0.out HC.out).mono ?_;rintro e_ w2 ⟨v0,rfl,hN,hb⟩;obtain ⟨A4,q4,rfl⟩:=Kd.jk hN;have X4:=zh.mk (Box.fresh (Kd.kK hN).2.2 (Kd.kK hN).2.1);have Y3:=zh.mk ((X3.out.below hb).up (.cells #[.slice A4 c.length q4] 25 (0,0)));have c3:w2.cell? ⟨w1.heap.size,0,none⟩=some (.slice A3 c.length q3):=(X3.out.below hb).cell;have l3:w1.heap.size<w2.heap.size:=yx (X3.out.below hb).box;have ne3:¬ w2.heap.size=w1.heap.size:=Nat.ne_of_gt l3;have ne4:¬ w1.heap.size=w2.heap.size:=Nat.ne_of_lt l3;have S2:=zh.mk (zS (zI S1.out hb) (.cells #[.slice A4 c.length q4] 25 (0,0)));have L3:=zh.mk l3;clear hN hb S1 X3)
  | (go_at_call 6;have hq:=S2;clear hq;refine (zf.calls A3 q3 c s _ _ Y3.out.C Y3.out.cap HD.out).mono ?_;rintro e_ w3 ⟨rfl,hb⟩;have X3:=zh.mk (Y3.out.below hb);have Y4:=zh.mk (X4.out.below hb);clear c3;have c3:w3.cell? ⟨w1.heap.size,0,none⟩=some (.slice A3 c.length q3):=X3.out.cell;have c4:w3.cell? ⟨w2.heap.size,0,none⟩=some (.slice A4 c.length q4):=Y4.out.cell;have S3:=zh.mk (zI S2.out hb);clear hb S2 Y3 X4)
  | (go_at_call 7;have hq:=S3;clear hq;refine (zD.calls k A4 q4 c _ _ Y4.out.C Y4.out.cap HW.out).mono ?_;rintro e_ w4 ⟨rfl,hb⟩;have Y3:=zh.mk (X3.out.below hb);have X4:=zh.mk (Y4.out.below hb);clear c3 c4;have c3:w4.cell? ⟨w1.heap.size,0,none⟩=some (.slice A3 c.length q3):=Y3.out.cell;have c4:w4.cell? ⟨w2.heap.size,0,none⟩=some (.slice A4 c.length q4):=X4.out.cell;have S4:=zh.mk (zI S3.out hb);clear hb S3 X3 Y4)
  | (go_at_call 8;have hq:=S4;clear hq;refine (zk.calls A3 q3 c _ _ Y3.out.C Y3.out.cap HI.out).mono ?_;rintro e_ w5 ⟨rfl,hb⟩;have X3:=zh.mk (Y3.out.below hb);have Y4:=zh.mk (X4.out.below hb);clear c3 c4;have c3:w5.cell? ⟨w1.heap.size,0,none⟩=some (.slice A3 c.length q3):=X3.out.cell;have c4:w5.cell? ⟨w2.heap.size,0,none⟩=some (.slice A4 c.length q4):=Y4.out.cell;have S5:=zh.mk (zI S4.out hb);clear hb S4 Y3 X4)
  | (go_at_call 9;have hq:=S5;clear hq;refine (xY.calls s c 0 _ HLD.out (hG.below S5.out)).mono ?_;rintro e_ w6 ⟨v0,rfl,hS,hb⟩;obtain ⟨A6,q6,rfl⟩:=Kd.Zx hS;have X6:=zh.mk (Box.fresh (Kd.Yd hS).2.2 (Kd.Yd hS).2.1);have X4:=zh.mk ((Y4.out.below hb).up (.cells #[.slice A6 c.length q6] 25 (0,0)));clear c3 c4;have c4:w6.cell? ⟨w2.heap.size,0,none⟩=some (.slice A4 c.length q4):=(Y4.out.below hb).cell;have l4:w2.heap.size<w6.heap.size:=yx (Y4.out.below hb).box;have ne5:¬ w6.heap.size=w2.heap.size:=Nat.ne_of_gt l4;have ne6:¬ w2.heap.size=w6.heap.size:=Nat.ne_of_lt l4;have S6:=zh.mk (zS (zI S5.out hb) (.cells #[.slice A6 c.length q6] 25 (0,0)));clear hS hb S5 X3 Y4)
  | (go_at_call 10;have hq:=S6;clear hq;refine (zM.calls k A6 q6 c A4 q4 c false true _ X6.out.C X6.out.cap X4.out.C X4.out.cap HSM.out).mono ?_;rintro e_ w7 ⟨rfl,hb⟩;have S7:=zh.mk (zI S6.out hb);clear hb S6 X4 X6 c4 l4 ne5 ne6 l3 ne3 ne4))
 go_upto_region 15 with (first
  | (go_at_call 11;have hq:=S7;clear hq;refine (qj.calls A1 c1 l1 0 t0 _ (Kd.zY HR1.out S7.out) HC1.out HP0.out).mono ?_;rintro e_ w8 ⟨rfl,hd⟩;have S8:=zh.mk (zI S7.out hd.below);clear hd S7)
  | (go_at_call 11;have hq:=S8;clear hq;refine (qj.calls A1 c1 l1 1 t1 _ (Kd.zY HR1.out S8.out) HC1.out HP1.out).mono ?_;rintro e_ w9 ⟨rfl,hd⟩;have S9:=zh.mk (zI S8.out hd.below);clear hd S8))
 (try rw [hE2])
 go_upto_region 17 with (fail)
 go_upto_region 18 with (first
  | (go_at_call 9;have hq:=S9;clear hq;refine (xY.calls ByteArray.empty [] x _ HSH.out (hG.below S9.out)).mono ?_;rintro e_ w10 ⟨v0,rfl,hS,hb⟩;obtain ⟨A8,q8,rfl⟩:=Kd.Zx hS;have X8:=zh.mk (Box.fresh (Kd.Yd hS).2.2 (Kd.Yd hS).2.1);have S10:=zh.mk (zS (zI S9.out hb) (.cells #[.slice A8 ([]:List S56).length q8] 25 (0,0)));clear hS hb S9))
 go_upto_region 19 with (first
  | (go_at_call 11;have hq:=S10;clear hq;refine (qj.calls A1 c1 l1 2 t2 _ (Kd.zY HR1.out S10.out) HC1.out HP2.out).mono ?_;rintro e_ w11 ⟨rfl,hd⟩;have Y8:=zh.mk (X8.out.below hd.below);have S11:=zh.mk (zI S10.out hd.below);clear hd S10 X8)
  | (have hq:=S11;clear hq;(with_reducible refine zB (N:=95) rfl ?_);(try (refine yL (by rfl) ?_;dsimp only));refine Kd.XU (Kd.int .u8) _ 5 ?hg (N:=95) ?hd (xs:=([t2 % 256]:List Int)) (inner:=[.int .u8 (t2 % 256)]) (ok:=fun _=>True) (okp:=fun _=>True) ?hr ?hp (fun _ hk=>hk) trivial (Below.refl _ _) (Nat.le_refl _) (by simp) ?_;(case hd=>rfl);(case hg=>rfl);(case hr=>first|(go_simp;done)|(go_simp;rfl));(case hp=>exact (qx.one (show Kd.M (Kd.int .u8) _ _ _ (t2 % 256) [.int .u8 (t2 % 256)] from rfl) (qx.none _ _)));intro v95 w12 ho hb hg_ qp;have X8:=zh.mk (Y8.out.below hb);have S12:=zh.mk (zI S11.out hb);have hcv96:=X5 (P:=Tryz.prog) Tryz.underlying22 Tryz.underlying5 Tryz.underlying9 (Kd.JH ho);clear hb hg_ qp ho S11 Y8)
  | (go_at_call 9;have hq:=S12;clear hq;refine (xY.calls (s++strOfNums [t2 % 256]) [] 5 _ HLN.out (hG.below S12.out)).mono ?_;rintro e_ w13 ⟨v0,rfl,hS,hb⟩;obtain ⟨A9,q9,rfl⟩:=Kd.Zx hS;have c13:w13.cell? ⟨w10.heap.size,0,none⟩=some (.slice A8 ([]:List S56).length q8):=(X8.out.below hb).cell;have l13:w10.heap.size<w13.heap.size:=yx (X8.out.below hb).box;have ne13:¬ w13.heap.size=w10.heap.size:=Nat.ne_of_gt l13;have ne14:¬ w10.heap.size=w13.heap.size:=Nat.ne_of_lt l13;have S13:=zh.mk (zS (zI S12.out hb) (.cells #[.slice A9 ([]:List S56).length q9] 25 (0,0)));clear hS hb S12 X8 hcv96))
 go_wp2
 go_ret
 exact ⟨rfl,S13.out⟩
end Go.Proofs.YtiekodnojmkfaaaGreatDoor.yD
