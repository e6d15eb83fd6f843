import Derived.Test.YtiekodnojmkfaaaGreatDoorPFnDumpx0
import Derived.Test.YtiekodnojmkfaaaGreatDoorPFnDumpx4
import Derived.Test.YtiekodnojmkfaaaGreatDoorPFnDumpx5
namespace Go.Proofs.YtiekodnojmkfaaaGreatDoor.yD
set_option maxHeartbeats 128000000
set_option maxRecDepth 100000
open Go.RowKit Go.Proofs.YtiekodnojmkfaaaGreatDoorW.zF Go.Proofs.YtiekodnojmkfaaaGreatDoorW.yC Go.Proofs.YtiekodnojmkfaaaGreatDoorW.yY
attribute [local go_sem] xM xO qG qH yZ xg xP xQ
set_option linter.unusedVariables false
set_option linter.unusedSimpArgs false
def zax (y z kids:Int):List Int:=[wI 9 y y 9,wI 8 4 9 y]++(if 0<kids∧Int.tmod z 2=0 then [wW 25 10 (Int.tmod (wrap64 (Int.tdiv z 2)) kids),wI 8 4 5 10,wI 26 (Int.tmod z 10) 0 0] else [])
def loopL (x y z kids:Int):List Int:=[wI 0 6 x 0,wW 1 7 2,wW 1 8 3]++[wW 27 6 (wrap64 (((zax y z kids).length:Int)+1))]++zax y z kids++[wW 28 6 (wrap64 (wrap64 (-((zax y z kids).length:Int))-1))]
def Zc (a x y z kids ups:Int) (vararg inner:Bool):List Int :=
 if a<6 then (if 13<z then [wI (wrap64 (12+Int.tmod z 2)) x y (wrap64 (Int.tdiv z 4)),wI 0 (Int.tmod z 4) x 0] else [wI (wrap64 (9+Int.tmod z 3)) x y (wrap64 (Int.tdiv z 4)),wI 0 (Int.tmod z 4) x 0])
 else if a<9 then [wI 8 4 x y,wI 7 (wrap64 (6+Int.tmod z 3)) 4 (Int.tmod z 4),wI 17 10 4 0]
 else if a=9 then [wI 14 5 5 x,wI 17 y 5 0]
 else if a<12 then [wI (wrap64 (19+Int.tmod z 2)) (Int.tmod (wrap64 (Int.tdiv z 2)) 2) x y,wW 18 0 1,wI 9 x x 3,wI 16 y x 0]
 else if a=12 then [wI 15 10 x 0,wI 21 10 0 (Int.tmod z 2),wW 18 0 1,wI 0 x y 0,wI 2 8 2 0]
 else if a<15 then loopL x y z kids
 else if a=15∧0<ups then [wI 4 10 (Int.tmod z ups) 0,wI 0 x 10 0,wI 5 y (Int.tmod z ups) 0]
 else if a<19∧0<ups then [wI 4 10 (Int.tmod z ups) 0,wI 9 10 10 3,wI 5 10 (Int.tmod z ups) 0]
 else if a<23∧0<kids then Xp x y z kids
 else if a<27∧0<kids then Zz x y z kids
 else if a=27∧inner=true then [wI 0 7 x 0,wI 31 7 (Int.tmod z 3) (wrap64 (1+Int.tmod z 2)),wI 0 y 7 0]
 else if a=28∧inner=true∧z<4 then [wI 0 7 x 0,wI 31 7 1 511,wI 23 7 511 0]
 else if a=28∧vararg=true then [wI 24 7 2 0,wI 0 x 7 0]
 else if a=29∧z=0 then [wI 33 x 0 0]
 else if a=29 then [wI 3 10 (Int.tmod z 2) 0,wI 26 (Int.tmod z 12) 0 0,wI 6 11 0 0,wI 8 11 5 10,wI 7 9 11 5]
 else [wI 9 x y 3]
def inA (a x y z kids ups:Int):Prop:=0≤a∧a≤29∧0≤x∧x≤3∧0≤y∧y≤3∧0≤z∧z≤15∧0≤kids∧kids≤100∧0≤ups∧ups≤100
instance (a x y z kids ups:Int):Decidable (inA a x y z kids ups):=by unfold inA;infer_instance
def zX.f (k:Nat) (l0:List Int) (a1 a2 a3:Int) (a4 a5:Bool):Option (List Int×Int) :=
 (zx.f k l0 a1 30).bind fun ta=>(zx.f k l0 ta.2 4).bind fun tx=>(zx.f k l0 tx.2 4).bind fun ty=>(zx.f k l0 ty.2 16).bind fun tz =>
  if inA ta.1 tx.1 ty.1 tz.1 a2 a3 then some (Zc ta.1 tx.1 ty.1 tz.1 a2 a3 a4 a5,tz.2) else none
theorem zX.mono (a0:List Int) (a1 a2 a3:Int) (a4 a5:Bool) (k:Nat):LeO (zX.f k a0 a1 a2 a3 a4 a5) (zX.f (k+1) a0 a1 a2 a3 a4 a5):=by
 unfold zX.f
 exact LeO.bind (zx.mono _ _ _ _) fun _=>LeO.bind (zx.mono _ _ _ _) fun _=>LeO.bind (zx.mono _ _ _ _) fun _=>LeO.bind (zx.mono _ _ _ _) fun _=>LeO.refl _
def zX.T31:Bool×List (List Nat×List Nat):=(true,[([],[]),([],[]),([0,1],[0,1]),([2],[2]),([],[]),([4,3],[4]),([],[]),([],[]),([],[]),([7,8],[7,8]),([6,9,5],[6,9]),([3,5,10],[3,5,10]),([],[]),([11,10,0,1,2,3,4,5,6,7,8,9,10,11],[11]),([12,13,0,1,2,3,4,5,6,7,8,9,10,11,12,13],[12])])
def zX.B31:List Nat:=[0,0,3,7,0,31,0,0,0,384,1023,2047,0,4095,16383]
theorem zX.tab31:Qh .any (opsOf Tryz.f105 31)=zX.T31:=by kernel_rfl
theorem zX.bits31:vN zX.T31.2 zX.B31=true:=by kernel_rfl
def zX.T33:Bool×List (List Nat×List Nat):=(true,[([],[]),([],[]),([0,1],[0,1]),([2],[2]),([3],[]),([],[]),([],[]),([5,6],[5,6]),([7,4],[7]),([3,4,8],[3,4,8]),([],[]),([9,8,0,1,2,3,4,5,6,7,8,9],[9]),([10,11,0,1,2,3,4,5,6,7,8,9,10,11],[10])])
def zX.B33:List Nat:=[0,0,3,7,15,0,0,96,255,511,0,1023,4095]
theorem zX.tab33:Qh .any (opsOf Tryz.f105 33)=zX.T33:=by kernel_rfl
theorem zX.bits33:vN zX.T33.2 zX.B33=true:=by kernel_rfl
theorem take_rd (L:List Int) (i:Nat) (h:i<L.length):L.take (i+1)=L.take i++[rd L (i:Int)]:=by
 rw [List.take_add_one,List.getElem?_eq_getElem h]
 simp [rd,List.getD,h]
theorem l4Block_open {k:Nat} {l0:List Int} {a1 a2 a3:Int} {a4 a5:Bool} {r1:List Int} {r2:Int} (h:zX.f k l0 a1 a2 a3 a4 a5=some (r1,r2)) :
  ∃ a p1 x p2 y p3 z,zx.f k l0 a1 30=some (a,p1)∧zx.f k l0 p1 4=some (x,p2)∧zx.f k l0 p2 4=some (y,p3)∧zx.f k l0 p3 16=some (z,r2)∧inA a x y z a2 a3∧r1=Zc a x y z a2 a3 a4 a5:=by
 unfold zX.f at h
 obtain ⟨⟨a,p1⟩,h1,h⟩:=Option.bind_eq_some_iff.1 h
 obtain ⟨⟨x,p2⟩,h2,h⟩:=Option.bind_eq_some_iff.1 h
 obtain ⟨⟨y,p3⟩,h3,h⟩:=Option.bind_eq_some_iff.1 h
 obtain ⟨⟨z,p4⟩,h4,h⟩:=Option.bind_eq_some_iff.1 h
 dsimp only at h2 h3 h4 h
 split at h
 case isFalse=>cases h
 case isTrue hg =>
  obtain ⟨rfl,rfl⟩:=Prod.mk.inj (Option.some.inj h)
  exact ⟨a,p1,x,p2,y,p3,z,h1,h2,h3,h4,hg,rfl⟩
theorem zX.calls (k:Nat) (A0:Option Addr) (c0:Nat) (l0:List Int) (a1 a2 a3:Int) (a4 a5:Bool) (r1:List Int) (r2:Int) (w:World) (hr0:Kd.C (Kd.int .u8) w A0 l0.length l0) (hc0:l0.length≤c0) (h:zX.f k l0 a1 a2 a3 a4 a5=some (r1,r2)) :
  Calls Tryz.prog 105 #[.slice A0 l0.length c0,.int .i64 a1,.int .i64 a2,.int .i64 a3,.bool a4,.bool a5] w fun e w'=>∃ v0_:Value,e=.returned (.tuple #[v0_,.int .i64 r2])∧Kd.R (Kd.int .u32) 60 w' w.heap.size (fun _=>True) v0_ r1∧Below w.heap.size w w':=by
 have JG:Tryz.prog.follows .mixedOrders=true:=by kernel_rfl
 obtain ⟨a,p1,x,p2,y,p3,z,e1,e2,e3,e4,hin,rfl⟩:=l4Block_open h
 clear h;have E1:=Ak e1;have E2:=Ak e2;have E3:=Ak e3;have E4:=Ak e4;have HR:=Ak hr0;have HC:=Ak hc0;clear e1 e2 e3 e4 hr0 hc0
 obtain ⟨g0,g1,g2,g3,g4,g5,g6,g7,g8,g9,g10,g11⟩:=hin
 have TZ:zh (0≤x∧x≤3∧0≤y∧y≤3∧0≤Int.tmod z 2∧Int.tmod z 2≤1∧0≤Int.tmod z 3∧Int.tmod z 3≤2∧0≤Int.tmod z 4∧Int.tmod z 4≤3∧0≤Int.tmod z 10∧Int.tmod z 10≤9∧0≤Int.tmod z 12∧Int.tmod z 12≤11∧0≤Int.tdiv z 4∧Int.tdiv z 4≤3∧0≤Int.tdiv z 2∧Int.tdiv z 2≤7∧0≤Int.tmod (wrap64 (Int.tdiv z 2)) 2∧Int.tmod (wrap64 (Int.tdiv z 2)) 2≤1):=⟨by
  have w2:wrap64 (z / 2)=z / 2:=by unfold wrap64;omega
  rw [Int.tmod_eq_emod_of_nonneg g6,Int.tmod_eq_emod_of_nonneg g6,Int.tmod_eq_emod_of_nonneg g6,Int.tmod_eq_emod_of_nonneg g6,Int.tmod_eq_emod_of_nonneg g6,Int.tdiv_eq_ediv_of_nonneg g6,Int.tdiv_eq_ediv_of_nonneg g6,w2,Int.tmod_eq_emod_of_nonneg (show 0≤z / 2 by omega)]
  omega⟩
 have HB:=Ak (Below.refl w.heap.size w)
 go_enter Tryz.func105,Tryz.ntmps105
 go_upto_region 6 with (first|(have hq:=E1;clear hq;go_at_call 14;refine (zx.calls k _ _ l0 a1 30 _ _ _ (Kd.zY HR.out HB.out) HC.out E1.out).mono ?_;rintro r w1 ⟨rfl,hd⟩;have hb:=hd.below;clear hd;replace HB:=BS HB hb;clear hb E1)|(have hq:=E2;clear hq;go_at_call 14;refine (zx.calls k _ _ l0 p1 4 _ _ _ (Kd.zY HR.out HB.out) HC.out E2.out).mono ?_;rintro r w2 ⟨rfl,hd⟩;have hb:=hd.below;clear hd;replace HB:=BS HB hb;clear hb E2)|(have hq:=E3;clear hq;go_at_call 14;refine (zx.calls k _ _ l0 p2 4 _ _ _ (Kd.zY HR.out HB.out) HC.out E3.out).mono ?_;rintro r w3 ⟨rfl,hd⟩;have hb:=hd.below;clear hd;replace HB:=BS HB hb;clear hb E3)|(have hq:=E4;clear hq;go_at_call 14;refine (zx.calls k _ _ l0 p3 16 _ _ _ (Kd.zY HR.out HB.out) HC.out E4.out).mono ?_;rintro r w4 ⟨rfl,hd⟩;have hb:=hd.below;clear hd;replace HB:=BS HB hb;clear hb E4))
 have hA:a<6∨(6≤a∧a<9)∨a=9∨(10≤a∧a<12)∨a=12∨(13≤a∧a<15)∨a=15∨(16≤a∧a<19)∨(19≤a∧a<23)∨(23≤a∧a<27)∨a=27∨a=28∨a=29:=by omega
 rcases hA with ha|ha|ha|ha|ha|ha|ha|ha|ha|ha|ha|ha|ha
 ·by_cases hz13:13<z
  ·have s0:=dt hz13
   have t0:=dT (a<6)
   obtain ⟨y1,hy1⟩:∃ q:List Int,q=[wI (wrap64 (12+Int.tmod z 2)) x y (wrap64 (Int.tdiv z 4)),wI 0 (Int.tmod z 4) x 0]:=⟨_,rfl⟩
   have Y1:=Ak hy1;clear hy1
   have E:zh (Zc a x y z a2 a3 a4 a5=y1):=⟨by rw [Y1.out];unfold Zc;exact ps ((if_pos hz13).trans (rfl))⟩
   clear ha g0 g1 g2 g3 g4 g5 g6 g7 g8 g9 g10 g11 hz13
   go_wp2_with (first|(go_at_call 104;refine Calls.mono (cB HB cI) ?_;clear HB;rintro e wn ⟨rfl,HB⟩)|(go_at_call 103;refine Calls.mono (cB HB cW) ?_;clear HB;rintro e wn ⟨rfl,HB⟩)|((with_reducible refine zB (N:=66) rfl ?_);refine LV 60 HB Y1 ?_;clear HB;intro vHO wn HO HB))
   go_ret2
   exact ⟨_,rfl,by rw [E.out];exact HO.out,(bl HB)⟩
  ·have s0:=df hz13
   have t0:=dT (a<6)
   obtain ⟨y1,hy1⟩:∃ q:List Int,q=[wI (wrap64 (9+Int.tmod z 3)) x y (wrap64 (Int.tdiv z 4)),wI 0 (Int.tmod z 4) x 0]:=⟨_,rfl⟩
   have Y1:=Ak hy1;clear hy1
   have E:zh (Zc a x y z a2 a3 a4 a5=y1):=⟨by rw [Y1.out];unfold Zc;exact ps ((if_neg hz13).trans (rfl))⟩
   clear ha g0 g1 g2 g3 g4 g5 g6 g7 g8 g9 g10 g11 hz13
   go_wp2_with (first|(go_at_call 104;refine Calls.mono (cB HB cI) ?_;clear HB;rintro e wn ⟨rfl,HB⟩)|(go_at_call 103;refine Calls.mono (cB HB cW) ?_;clear HB;rintro e wn ⟨rfl,HB⟩)|((with_reducible refine zB (N:=66) rfl ?_);refine LV 60 HB Y1 ?_;clear HB;intro vHO wn HO HB))
   go_ret2
   exact ⟨_,rfl,by rw [E.out];exact HO.out,(bl HB)⟩
 ·have t0:=dF (a<6)
  have t1:=dT (a<9)
  obtain ⟨y1,hy1⟩:∃ q:List Int,q=[wI 8 4 x y,wI 7 (wrap64 (6+Int.tmod z 3)) 4 (Int.tmod z 4),wI 17 10 4 0]:=⟨_,rfl⟩
  have Y1:=Ak hy1;clear hy1
  have E:zh (Zc a x y z a2 a3 a4 a5=y1):=⟨by rw [Y1.out];unfold Zc;exact ng (ps (rfl))⟩
  clear ha g0 g1 g2 g3 g4 g5 g6 g7 g8 g9 g10 g11
  go_wp2_with (first|(go_at_call 104;refine Calls.mono (cB HB cI) ?_;clear HB;rintro e wn ⟨rfl,HB⟩)|(go_at_call 103;refine Calls.mono (cB HB cW) ?_;clear HB;rintro e wn ⟨rfl,HB⟩)|((with_reducible refine zB (N:=80) rfl ?_);refine LV 60 HB Y1 ?_;clear HB;intro vHO wn HO HB))
  go_ret2
  exact ⟨_,rfl,by rw [E.out];exact HO.out,(bl HB)⟩
 ·have t0:=dF (a<6)
  have t1:=dF (a<9)
  have t2:=eT a 9
  obtain ⟨y1,hy1⟩:∃ q:List Int,q=[wI 14 5 5 x,wI 17 y 5 0]:=⟨_,rfl⟩
  have Y1:=Ak hy1;clear hy1
  have E:zh (Zc a x y z a2 a3 a4 a5=y1):=⟨by rw [Y1.out];unfold Zc;exact ng (ng (ps (rfl)))⟩
  clear ha g0 g1 g2 g3 g4 g5 g6 g7 g8 g9 g10 g11
  go_wp2_with (first|(go_at_call 104;refine Calls.mono (cB HB cI) ?_;clear HB;rintro e wn ⟨rfl,HB⟩)|(go_at_call 103;refine Calls.mono (cB HB cW) ?_;clear HB;rintro e wn ⟨rfl,HB⟩)|((with_reducible refine zB (N:=88) rfl ?_);refine LV 60 HB Y1 ?_;clear HB;intro vHO wn HO HB))
  go_ret2
  exact ⟨_,rfl,by rw [E.out];exact HO.out,(bl HB)⟩
 ·have t0:=dF (a<6)
  have t1:=dF (a<9)
  have t2:=eF a 9
  have t3:=dT (a<12)
  obtain ⟨y1,hy1⟩:∃ q:List Int,q=[wI (wrap64 (19+Int.tmod z 2)) (Int.tmod (wrap64 (Int.tdiv z 2)) 2) x y,wW 18 0 1,wI 9 x x 3,wI 16 y x 0]:=⟨_,rfl⟩
  have Y1:=Ak hy1;clear hy1
  have E:zh (Zc a x y z a2 a3 a4 a5=y1):=⟨by rw [Y1.out];unfold Zc;exact ng (ng (ng (ps (rfl))))⟩
  clear ha g0 g1 g2 g3 g4 g5 g6 g7 g8 g9 g10 g11
  go_wp2_with (first|(go_at_call 104;refine Calls.mono (cB HB cI) ?_;clear HB;rintro e wn ⟨rfl,HB⟩)|(go_at_call 103;refine Calls.mono (cB HB cW) ?_;clear HB;rintro e wn ⟨rfl,HB⟩)|((with_reducible refine zB (N:=108) rfl ?_);refine LV 60 HB Y1 ?_;clear HB;intro vHO wn HO HB))
  go_ret2
  exact ⟨_,rfl,by rw [E.out];exact HO.out,(bl HB)⟩
 ·have t0:=dF (a<6)
  have t1:=dF (a<9)
  have t2:=eF a 9
  have t3:=dF (a<12)
  have t4:=eT a 12
  obtain ⟨y1,hy1⟩:∃ q:List Int,q=[wI 15 10 x 0,wI 21 10 0 (Int.tmod z 2),wW 18 0 1,wI 0 x y 0,wI 2 8 2 0]:=⟨_,rfl⟩
  have Y1:=Ak hy1;clear hy1
  have E:zh (Zc a x y z a2 a3 a4 a5=y1):=⟨by rw [Y1.out];unfold Zc;exact ng (ng (ng (ng (ps (rfl)))))⟩
  clear ha g0 g1 g2 g3 g4 g5 g6 g7 g8 g9 g10 g11
  go_wp2_with (first|(go_at_call 104;refine Calls.mono (cB HB cI) ?_;clear HB;rintro e wn ⟨rfl,HB⟩)|(go_at_call 103;refine Calls.mono (cB HB cW) ?_;clear HB;rintro e wn ⟨rfl,HB⟩)|((with_reducible refine zB (N:=122) rfl ?_);refine LV 60 HB Y1 ?_;clear HB;intro vHO wn HO HB))
  go_ret2
  exact ⟨_,rfl,by rw [E.out];exact HO.out,(bl HB)⟩
 ·have t0:=dF (a<6)
  have t1:=dF (a<9)
  have t2:=eF a 9
  have t3:=dF (a<12)
  have t4:=eF a 12
  have t5:=dT (a<15)
  obtain ⟨y1,hy1⟩:∃ q:List Int,q=[wI 0 6 x 0,wW 1 7 2,wW 1 8 3]:=⟨_,rfl⟩
  have Y1:=Ak hy1;clear hy1
  obtain ⟨y2,hy2⟩:∃ q:List Int,q=[wI 9 y y 9,wI 8 4 9 y]:=⟨_,rfl⟩
  have Y2:=Ak hy2;clear hy2
  obtain ⟨y3,hy3⟩:∃ q:List Int,q=[wW 25 10 (Int.tmod (wrap64 (Int.tdiv z 2)) a2),wI 8 4 5 10,wI 26 (Int.tmod z 10) 0 0]:=⟨_,rfl⟩
  have Y3:=Ak hy3;clear hy3
  obtain ⟨L,hL⟩:∃ q:List Int,q=zax y z a2:=⟨_,rfl⟩
  obtain ⟨B,hB⟩:∃ B,decide (0<a2∧Int.tmod z 2=0)=B:=⟨_,rfl⟩
  have E:zh (Zc a x y z a2 a3 a4 a5=y1++[wW 27 6 (wrap64 ((L.length:Int)+1))]++L++[wW 28 6 (wrap64 (wrap64 (-(L.length:Int))-1))]):=⟨by unfold Zc;rw [if_neg (by first|omega|(rintro ⟨q1,q2⟩;first|omega|(cases q2;done)|(obtain ⟨q2,q3⟩:=q2;first|omega|(cases q2;done))))];rw [if_neg (by first|omega|(rintro ⟨q1,q2⟩;first|omega|(cases q2;done)|(obtain ⟨q2,q3⟩:=q2;first|omega|(cases q2;done))))];rw [if_neg (by first|omega|(rintro ⟨q1,q2⟩;first|omega|(cases q2;done)|(obtain ⟨q2,q3⟩:=q2;first|omega|(cases q2;done))))];rw [if_neg (by first|omega|(rintro ⟨q1,q2⟩;first|omega|(cases q2;done)|(obtain ⟨q2,q3⟩:=q2;first|omega|(cases q2;done))))];rw [if_neg (by first|omega|(rintro ⟨q1,q2⟩;first|omega|(cases q2;done)|(obtain ⟨q2,q3⟩:=q2;first|omega|(cases q2;done))))];rw [if_pos (by first|omega|exact ⟨by omega,rfl⟩|exact ⟨by omega,rfl,by omega⟩)];unfold loopL;rw [← hL,Y1.out]⟩
  have EL:zh (L=if B=true then y2++y3 else y2):=⟨by rw [hL,← hB,Y2.out,Y3.out];unfold zax;by_cases c:0<a2∧Int.tmod z 2=0 <;> simp [c]⟩
  have LL:zh (L.length≤5):=⟨by rw [EL.out,Y2.out,Y3.out];cases B <;> simp⟩
  have TA:zh (0<a2→0≤Int.tmod (wrap64 (Int.tdiv z 2)) a2∧Int.tmod (wrap64 (Int.tdiv z 2)) a2≤100):=⟨fun h=>by
   have w2:wrap64 (z / 2)=z / 2:=by unfold wrap64;omega
   rw [Int.tdiv_eq_ediv_of_nonneg g6,w2,Int.tmod_eq_emod_of_nonneg (show 0≤z / 2 by omega)];have:=Int.emod_nonneg (z / 2) (show a2≠0 by omega);have:=Int.emod_lt_of_pos (z / 2) h;omega⟩
  have HBB:=Ak hB;clear hL hB ha g0 g1 g2 g3 g4 g5 g6 g7 g8 g9 g10 g11
  go_upto_region 22 with (first|((first|(go_at_call 104;refine Calls.mono cI ?_)|(go_at_call 103;refine Calls.mono cW ?_));rintro e wn ⟨rfl,hb⟩;(try replace HS:=RB HS hb);(try replace HR:=RB HR hb);(try replace HQ:=RB HQ hb);(try replace HP:=RB HP hb);(try replace HO:=RB HO hb);replace HB:=BS HB hb;clear hb)|((with_reducible refine zB (N:=130) rfl ?_);refine LV 60 HB Y1 ?_;clear HB;intro vHO wn HO HB)|((with_reducible refine zB (N:=136) rfl ?_);refine LU 60 (N:=136) (xs:=([wI 9 y y 9,wI 8 4 9 y]:List Int)) (inner:=[.int .u32 (wI 9 y y 9),.int .u32 (wI 8 4 9 y)]) ?_;intro vHP wn ho hb hg_ qp;clear hg_ qp;(first|rw [← Y2.out] at ho|(simp only [Int.reduceToNat] at ho;rw [← Y2.out] at ho));have HP:=Ak (Kd.yH (Kd.Ze ho (Kd.Zv (ro HO))) (zH (bl HB)));replace HO:=Ak (Kd.jf (ro HO) (Kd.jT ho) hb);clear ho;replace HB:=BS HB hb;clear hb;obtain ⟨AHP,cHP,eHP⟩:=Kd.yA HP.out;subst eHP))
  obtain ⟨A1,c1,e1⟩:=Kd.yA HO.out
  subst e1
  go_cut [143] (fun sb wx=>sb=.bool B∧zh (Kd.R (Kd.int .u32) 60 wx w.heap.size (fun k_=>some k_≠(.slice AHP y2.length cHP:Value).ownBlock) (.slice A1 y1.length c1) y1)∧zh (Kd.R (Kd.int .u32) 60 wx w.heap.size (fun k_=>some k_≠(.slice A1 y1.length c1:Value).ownBlock) (.slice AHP y2.length cHP) y2)∧zh (Below w.heap.size w wx))
  case first =>
   by_cases n0:0<a2
   ·as_aux_lemma =>
     have d1:=dt n0
     by_cases n1:Int.tmod z 2=0
     ·have d2:=bT n1
      have dd:B=true:=by rw [← HBB.out];exact decide_eq_true ⟨n0,n1⟩
      clear n1
      go_wp2
      go_meet
      exact ⟨by rw [dd],⟨rm HO.out (fun _ hk=>hk.2)⟩,⟨rm HP.out (fun _ hk=>hk.2)⟩,⟨(bl HB)⟩⟩
     ·have d2:=bF n1
      have dd:B=false:=by rw [← HBB.out];exact df (fun h=>n1 h.2)
      go_wp2
      go_meet
      exact ⟨by rw [dd],⟨rm HO.out (fun _ hk=>hk.2)⟩,⟨rm HP.out (fun _ hk=>hk.2)⟩,⟨(bl HB)⟩⟩
   ·as_aux_lemma =>
     have d1:=df n0
     have dd:B=false:=by rw [← HBB.out];exact df (fun h=>n0 h.1)
     go_wp2
     go_meet
     exact ⟨by rw [dd],⟨rm HO.out (fun _ hk=>hk.2)⟩,⟨rm HP.out (fun _ hk=>hk.2)⟩,⟨(bl HB)⟩⟩
  case rest =>
  obtain ⟨rfl,HO1,HP1,HB1⟩:=hcut
  clear HO HP HB;have HO:=HO1;have HP:=HP1;have HB:=HB1;clear HO1 HP1 HB1
  go_upto_if 143 with (fail)
  go_cut [20] (fun v20 wx=>∃ (A:Option Addr) (q:Nat),v20=.slice A L.length q∧zh (Kd.R (Kd.int .u32) 60 wx w.heap.size (fun k_=>some k_≠(.slice A L.length q:Value).ownBlock) (.slice A1 y1.length c1) y1)∧zh (Kd.R (Kd.int .u32) 60 wx w.heap.size (fun k_=>some k_≠(.slice A1 y1.length c1:Value).ownBlock) (.slice A L.length q) L)∧zh (Below w.heap.size w wx))
  case first =>
   cases B
   ·as_aux_lemma =>
     have e:L=y2:=EL.out
     have EE:=Ak e;clear e
     go_wp2
     go_meet
     rw [EE.out]
     exact ⟨AHP,cHP,rfl,⟨(ro HO)⟩,⟨(ro HP)⟩,⟨(bl HB)⟩⟩
   ·as_aux_lemma =>
     have e:L=y2++y3:=EL.out
     have n0:0<a2:=(of_decide_eq_true HBB.out).1
     have TU:=Ak (TA.out n0)
     have ck:¬ a2=0:=by omega
     have cb0:(a2 == 0)=false:=bF ck
     have cb1:(a2 != 0)=true:=nT ck
     clear n0
     have LM:zh (y2.length+y3.length<35184372088832):=⟨by rw [Y2.out,Y3.out];simp⟩
     have EE:=Ak e;clear e
     go_wp2_with (first|(have hq:=HO;clear hq;have hq:=HP;clear hq;go_at_call 103;refine (XQ _ _ _ _ ?hI).mono ?_;(case hI=>have hz:=TZ.out;have hu:=TU.out;unfold inW;(try simp only [wrap64] at hz hu ⊢);omega);rintro e wn ⟨rfl,hb⟩;have mHO:=RB HO hb;clear HO;have HO:=mHO;clear mHO;have mHP:=RB HP hb;clear HP;have HP:=mHP;clear mHP;replace HB:=BS HB hb;clear hb)|(have hq:=HO;clear hq;have hq:=HP;clear hq;go_at_call 104;refine Calls.mono cI ?_;rintro e wn ⟨rfl,hb⟩;have mHO:=RB HO hb;clear HO;have HO:=mHO;clear mHO;have mHP:=RB HP hb;clear HP;have HP:=mHP;clear mHP;replace HB:=BS HB hb;clear hb)|((with_reducible refine zB (N:=154) rfl ?_);refine LU 60 (N:=154) (xs:=([wW 25 10 (Int.tmod (wrap64 (Int.tdiv z 2)) a2),wI 8 4 5 10,wI 26 (Int.tmod z 10) 0 0]:List Int)) (inner:=[.int .u32 (wW 25 10 (Int.tmod (wrap64 (Int.tdiv z 2)) a2)),.int .u32 (wI 8 4 5 10),.int .u32 (wI 26 (Int.tmod z 10) 0 0)]) ?_;intro vHR wn ho hb hg_ qp;clear hg_ qp;(first|rw [← Y3.out] at ho|(simp only [Int.reduceToNat] at ho;rw [← Y3.out] at ho));have HR_:=Ak (Kd.yH (Kd.Ze (Kd.Ze ho (Kd.Zv (ro HO))) (Kd.Zv (ro HP))) (zH (bl HB)));replace HO:=Ak (Kd.jf (ro HO) (Kd.jT ho) hb);replace HP:=Ak (Kd.jf (ro HP) (Kd.jT ho) hb);clear ho;replace HB:=BS HB hb;clear hb;obtain ⟨AHR,cHR,eHR⟩:=Kd.yA HR_.out;subst eHR)|((with_reducible refine yt (b:=.append) (xs:=#[.tmp 144,.tmp 154]) rfl ?_);at_builtin;refine Kd.yS (Kd.int .u32) (w0:=w) w.heap.size rfl (.tmp 144) (.tmp 154) 50 60 (.int .u32 0) 4 rfl Tryz.underlying50 info60 rfl (by decide) (by omega) (.slice AHP y2.length cHP) y2 y3 _ _ _ (fun k_=>some k_≠(.slice A1 y1.length c1:Value).ownBlock∧some k_≠(.slice AHR y3.length cHR:Value).ownBlock) (fun _=>False) rfl rfl ?aO ?aR (fun _ _ h=>h) (fun _ h=>h.elim) ?aF ?aB ?aS ?aL ?_;(case aR=>repeat (first|exact (Kd.yB HR_.out).2.2|(with_reducible refine Kd.qC ?_ _)|(with_reducible refine Kd.qE ?_ _)|(with_reducible refine Kd.ji ?_)));(case aB=>exact (bl HB));(case aF=>exact (fun k_ hk=>⟨Kd.fresh' (Kd.Zv (ro HO)) k_ hk,Kd.fresh' (Kd.Zv (ro HR_)) k_ hk⟩));(case aO=>exact (ro HP));(case aS=>exact (zH (bl HB)));(case aL=>have:=LM.out;omega);intro vHQ wn ho hb hg hat;have HQ:=Ak ho;replace HO:=Ak (Kd.XT (ok:=(fun k_=>some k_≠(.slice AHR y3.length cHR:Value).ownBlock)) (rm HO.out (fun _ hk=>⟨hk.2,hk.1⟩)) hg hat);replace HB:=Ak hb;clear HP HR_ hb ho hg hat))
     obtain ⟨Aq,cq,eq_⟩:=Kd.yA HQ.out
     subst eq_
     go_meet
     rw [EE.out]
     exact ⟨Aq,cq,rfl,⟨rm HO.out (fun _ hk=>hk.2)⟩,⟨rm HQ.out (fun _ hk=>hk.1)⟩,⟨(bl HB)⟩⟩
  case rest =>
  obtain ⟨A,q,rfl,HO1,HP1,HB1⟩:=hcut
  clear HO HP HB;have HO:=HO1;have HP:=HP1;have HB:=HB1;clear HO1 HP1 HB1 EL HBB
  have LM:zh ((y1.length+1)*4≤140737488355328):=⟨by rw [Y1.out];simp⟩
  have TU:=LL
  obtain ⟨l1,hl1⟩:∃ q:List Int,q=y1++[wW 27 6 (wrap64 ((L.length:Int)+1))]:=⟨_,rfl⟩
  have N1:=Ak hl1;clear hl1
  go_upto_region 25 with (first|(have hq:=HO;clear hq;have hq:=HP;clear hq;go_at_call 103;refine (XQ _ _ _ _ ?hI).mono ?_;(case hI=>have hz:=TZ.out;have hu:=TU.out;unfold inW;(try simp only [wrap64] at hz hu ⊢);omega);rintro e wn ⟨rfl,hb⟩;have mHO:=RB HO hb;clear HO;have HO:=mHO;clear mHO;have mHP:=RB HP hb;clear HP;have HP:=mHP;clear mHP;replace HB:=BS HB hb;clear hb)|((with_reducible refine yt (b:=.append) (xs:=#[.tmp 156,.tmp 161]) rfl ?_);at_builtin;refine Kd.jA (Kd.int .u32) (w0:=w) w.heap.size rfl (.tmp 156) (.tmp 161) 50 60 (.int .u32 0) 4 rfl Tryz.underlying50 info60 rfl (by decide) (by omega) (.slice A1 y1.length c1) y1 (wW 27 6 (wrap64 ((L.length:Int)+1))) [.int .u32 (wW 27 6 (wrap64 ((L.length:Int)+1)))] (fun k_=>some k_≠(.slice A L.length q:Value).ownBlock) (fun _=>False) rfl rfl ?aP (fun _ hk=>hk.elim) ?aF ?aO ?aB ?aS ?aL ?_;(case aP=>exact rfl);(case aB=>exact (bl HB));(case aF=>exact (fun k_ hk=>Kd.fresh' (Kd.Zv (ro HP)) k_ hk));(case aO=>exact (ro HO));(case aS=>exact (zH (bl HB)));(case aL=>have:=LM.out;omega);intro vHQ wn ho hb hg hat;rw [← N1.out] at ho;have HQ:=Ak ho;replace HP:=Ak (Kd.XT (ok:=(fun _=>True)) (rm HP.out (fun _ hk=>⟨trivial,hk⟩)) hg hat);replace HB:=Ak hb;clear HO hb ho hg hat))
  obtain ⟨A9,q9,e9⟩:=Kd.yA HQ.out
  subst e9
  go_wp2
  go_loopg [19,21] L.length (fun kq v19 v21 W'=>∃ (I:Int) (i:Nat) (A9:Option Addr) (q9:Nat) (l:List Int),v19=.slice A9 l.length q9∧v21=.int .i64 I∧zh (I=(i:Int))∧zh (kq=L.length-i)∧zh (i≤L.length)∧zh (l=y1++[wW 27 6 (wrap64 ((L.length:Int)+1))]++L.take i∧l.length=4+i)∧zh (Kd.R (Kd.int .u32) 60 W' w.heap.size (fun k_=>some k_≠(.slice A L.length q:Value).ownBlock) (.slice A9 l.length q9) l)∧zh (Kd.R (Kd.int .u32) 60 W' w.heap.size (fun k_=>some k_≠(.slice A9 l.length q9:Value).ownBlock) (.slice A L.length q) L)∧zh (Below w.heap.size w W'))
  case atStart=>exact ⟨0,0,A9,q9,l1,rfl,rfl,⟨rfl⟩,⟨rfl⟩,⟨Nat.zero_le _⟩,⟨by rw [List.take_zero,List.append_nil,N1.out,Y1.out];exact ⟨rfl,rfl⟩⟩,⟨(ro HQ)⟩,⟨rm HP.out (fun _ hk=>hk.2)⟩,⟨(bl HB)⟩⟩
  case round =>
   obtain ⟨I,i,A8,q8,l,rfl,rfl,II,HJ,HI,HE,HO1,HP1,HB1⟩:=hrel
   clear HQ HP HB;have HO:=HO1;have HP:=HP1;have HB:=HB1;clear HO1 HP1 HB1
   by_cases hi:i<L.length
   ·as_aux_lemma =>
     have d1:decide (I<(L.length:Int))=true:=dt (by rw [II.out];omega)
     have d2:decide (0≤I)=true:=dt (by rw [II.out];omega)
     obtain ⟨gm,hgm⟩:∃ gm,gk=gm+1:=⟨gk-1,by have:=HJ.out;omega⟩
     have HGM:=Ak hgm;clear hgm
     have p1_:0≤I:=of_decide_eq_true d2
     have q1_:I<(L.length:Int):=of_decide_eq_true d1
     obtain ⟨ad,ea,hx0⟩:=Kd.vV (Kd.yB HP.out).2.2 I p1_ q1_
     cases ea
     replace p1_:=eq_true p1_
     replace q1_:=eq_true q1_
     have WW:zh (wrap64 (I+1)=((i+1:Nat):Int)):=⟨by rw [II.out];have:=LL.out;unfold wrap64;omega⟩
     have ET:zh (L.take (i+1)=L.take i++[rd L I]):=⟨by rw [II.out];exact take_rd L i hi⟩
     have HI2:=Ak hi;clear hi
     have LM:zh ((l.length+1)*4≤140737488355328):=⟨by rw [HE.out.2];have:=LL.out;have:=HI.out;omega⟩
     go_wp2_with (first|((with_reducible refine yt (b:=.append) (xs:=#[.tmp 169,.tmp 174]) rfl ?_);at_builtin;refine Kd.jA (Kd.int .u32) (w0:=w) w.heap.size rfl (.tmp 169) (.tmp 174) 50 60 (.int .u32 0) 4 rfl Tryz.underlying50 info60 rfl (by decide) (by omega) (.slice A8 l.length q8) l (rd L I) [.int .u32 (rd L I)] (fun k_=>some k_≠(.slice (some ad) L.length q:Value).ownBlock) (fun _=>False) rfl rfl ?aP (fun _ hk=>hk.elim) ?aF ?aO ?aB ?aS ?aL ?_;(case aP=>exact rfl);(case aB=>exact (bl HB));(case aF=>exact (fun k_ hk=>Kd.fresh' (Kd.Zv (ro HP)) k_ hk));(case aO=>exact (ro HO));(case aS=>exact (zH (bl HB)));(case aL=>have:=LM.out;omega);intro vHQ wn ho hb hg hat;have HQ:=Ak ho;replace HP:=Ak (Kd.XT (ok:=(fun _=>True)) (rm HP.out (fun _ hk=>⟨trivial,hk⟩)) hg hat);replace HB:=Ak hb;clear HO hb ho hg hat))
     obtain ⟨A7,q7,e7⟩:=Kd.yA HQ.out
     subst e7
     have hgk:=HGM.out
     subst hgk
     go_roundg gm
     case measure=>have:=HJ.out;omega
     case rel=>exact ⟨_,i+1,A7,q7,_,rfl,rfl,⟨WW.out⟩,⟨by have:=HJ.out;omega⟩,⟨by have:=HI2.out;omega⟩,⟨by rw [List.length_append,HE.out.2,ET.out,HE.out.1];exact ⟨by simp,by show 4+i+1=_;omega⟩⟩,⟨(ro HQ)⟩,⟨rm HP.out (fun _ hk=>hk.2)⟩,⟨(bl HB)⟩⟩
   ·as_aux_lemma =>
     have d1:decide (I<(L.length:Int))=false:=df (by rw [II.out];omega)
     have d0:¬ I<(L.length:Int):=of_decide_eq_false d1
     have EI:zh (l=y1++[wW 27 6 (wrap64 ((L.length:Int)+1))]++L):=⟨by rw [HE.out.1,List.take_of_length_le (by omega)]⟩
     have LM:zh ((l.length+1)*4≤140737488355328):=⟨by rw [HE.out.2];have:=LL.out;have:=HI.out;omega⟩
     clear hi
     go_wp2_with (first|(have hq:=HO;clear hq;have hq:=HP;clear hq;go_at_call 103;refine (XQ _ _ _ _ ?hI).mono ?_;(case hI=>have hz:=TZ.out;have hu:=TU.out;unfold inW;(try simp only [wrap64] at hz hu ⊢);omega);rintro e wn ⟨rfl,hb⟩;have mHO:=RB HO hb;clear HO;have HO:=mHO;clear mHO;have mHP:=RB HP hb;clear HP;have HP:=mHP;clear mHP;replace HB:=BS HB hb;clear hb)|((with_reducible refine yt (b:=.append) (xs:=#[.tmp 176,.tmp 182]) rfl ?_);at_builtin;refine Kd.jA (Kd.int .u32) (w0:=w) w.heap.size rfl (.tmp 176) (.tmp 182) 50 60 (.int .u32 0) 4 rfl Tryz.underlying50 info60 rfl (by decide) (by omega) (.slice A8 l.length q8) l (wW 28 6 (wrap64 (wrap64 (-(L.length:Int))-1))) [.int .u32 (wW 28 6 (wrap64 (wrap64 (-(L.length:Int))-1)))] (fun k_=>some k_≠(.slice A L.length q:Value).ownBlock) (fun _=>False) rfl rfl ?aP (fun _ hk=>hk.elim) ?aF ?aO ?aB ?aS ?aL ?_;(case aP=>exact rfl);(case aB=>exact (bl HB));(case aF=>exact (fun k_ hk=>Kd.fresh' (Kd.Zv (ro HP)) k_ hk));(case aO=>exact (ro HO));(case aS=>exact (zH (bl HB)));(case aL=>have:=LM.out;omega);intro vHQ wn ho hb hg hat;have HQ:=Ak ho;replace HP:=Ak (Kd.XT (ok:=(fun _=>True)) (rm HP.out (fun _ hk=>⟨trivial,hk⟩)) hg hat);replace HB:=Ak hb;clear HO hb ho hg hat))
     go_ret2
     exact ⟨_,rfl,by rw [E.out,← EI.out];(with_reducible repeat (first|apply Kd.Vq|apply Kd.R_drewN|apply Kd.ZP));exact Kd.qm HQ.out (fun _ _=>trivial),(bl HB)⟩
 ·by_cases hu:0<a3
  ·have s1:=dt hu
   have TU:zh (0≤Int.tmod z a3∧Int.tmod z a3≤100):=⟨by rw [Int.tmod_eq_emod_of_nonneg g6];have:=Int.emod_nonneg z (show a3≠0 by omega);have:=Int.emod_lt_of_pos z hu;omega⟩
   have ck:¬ a3=0:=by omega
   have cb0:(a3 == 0)=false:=bF ck
   have cb1:(a3 != 0)=true:=nT ck
   have t0:=dF (a<6)
   have t1:=dF (a<9)
   have t2:=eF a 9
   have t3:=dF (a<12)
   have t4:=eF a 12
   have t5:=dF (a<15)
   have t6:=eT a 15
   obtain ⟨y1,hy1⟩:∃ q:List Int,q=[wI 4 10 (Int.tmod z a3) 0,wI 0 x 10 0,wI 5 y (Int.tmod z a3) 0]:=⟨_,rfl⟩
   have Y1:=Ak hy1;clear hy1
   have E:zh (Zc a x y z a2 a3 a4 a5=y1):=⟨by rw [Y1.out];unfold Zc;rw [if_neg (by first|omega|(rintro ⟨q1,q2⟩;first|omega|(cases q2;done)|(obtain ⟨q2,q3⟩:=q2;first|omega|(cases q2;done))))];rw [if_neg (by first|omega|(rintro ⟨q1,q2⟩;first|omega|(cases q2;done)|(obtain ⟨q2,q3⟩:=q2;first|omega|(cases q2;done))))];rw [if_neg (by first|omega|(rintro ⟨q1,q2⟩;first|omega|(cases q2;done)|(obtain ⟨q2,q3⟩:=q2;first|omega|(cases q2;done))))];rw [if_neg (by first|omega|(rintro ⟨q1,q2⟩;first|omega|(cases q2;done)|(obtain ⟨q2,q3⟩:=q2;first|omega|(cases q2;done))))];rw [if_neg (by first|omega|(rintro ⟨q1,q2⟩;first|omega|(cases q2;done)|(obtain ⟨q2,q3⟩:=q2;first|omega|(cases q2;done))))];rw [if_neg (by first|omega|(rintro ⟨q1,q2⟩;first|omega|(cases q2;done)|(obtain ⟨q2,q3⟩:=q2;first|omega|(cases q2;done))))];rw [if_pos (by first|omega|exact ⟨by omega,rfl⟩|exact ⟨by omega,rfl,by omega⟩)]⟩
   clear ha g0 g1 g2 g3 g4 g5 g6 g7 g8 g9 g10 g11 hu
   try go_wp2
   replace HB:=Ak (zO HB.out)
   refine Yv (n:=15) (S:=fun w'=>True) (ds:=[]) #[false,false,false,false,false,false,false,false,false,false,false,false,false,false,false] (by kernel_rfl) rfl rfl trivial (fun hHeld=>?_)
   refine kP zX.tab31 zX.bits31 (fun HT_ HW_=>?_)
   generalize w4.drew=w5 at HB hHeld ⊢
   refine pu 0 191 HT_ ?_
   refine pu 1 192 HT_ ?_
   refine pu 2 193 HT_ ?_
   refine pu 4 195 HT_ ?_
   refine pu 6 197 HT_ ?_
   refine pu 7 198 HT_ ?_
   refine pu 8 199 HT_ ?_
   refine pu 9 200 HT_ ?_
   refine pu 12 203 HT_ ?_
   refine oN 3 194 HT_ (fun K hK=>?_)
   refine XO Tryz.func104 (by kernel_rfl) rfl #[.int .i64 (4),.int .i64 (10),.int .i64 (Int.tmod z a3),.int .i64 (0)] (by rfl) rfl rfl em ?_
   with_reducible refine (Zp (4) (10) (Int.tmod z a3) (0) _ ?hI).mono ?_
   case hI=>have hz:=TZ.out;have hu:=TU.out;unfold inI;omega
   rintro e wn ⟨rfl,hb⟩
   refine ⟨_,rfl,?_⟩
   replace HB:=BS HB hb;clear hb
   refine hK.out _ _ trivial (fun hHeld=>?_)
   clear hK K
   refine kX (a':=?_) ?_ ?_
   rotate_left
   ·show Act.put _ (some 194) _=_;simp only [Act.put,List.setIfInBounds_toArray,List.set_cons_zero,List.set_cons_succ,xJ,xU];rfl
   refine oN 5 196 HT_ (fun K hK=>?_)
   refine XO Tryz.func104 (by kernel_rfl) rfl #[.int .i64 (0),.int .i64 (x),.int .i64 (10),.int .i64 (0)] (by rfl) rfl rfl em ?_
   with_reducible refine (Zp (0) (x) (10) (0) _ ?hI).mono ?_
   case hI=>have hz:=TZ.out;have hu:=TU.out;unfold inI;omega
   rintro e wn ⟨rfl,hb⟩
   refine ⟨_,rfl,?_⟩
   replace HB:=BS HB hb;clear hb
   refine hK.out _ _ trivial (fun hHeld=>?_)
   clear hK K
   refine kX (a':=?_) ?_ ?_
   rotate_left
   ·show Act.put _ (some 196) _=_;simp only [Act.put,List.setIfInBounds_toArray,List.set_cons_zero,List.set_cons_succ,xJ,xU];rfl
   refine oN 10 201 HT_ (fun K hK=>?_)
   refine XO Tryz.func104 (by kernel_rfl) rfl #[.int .i64 (5),.int .i64 (y),.int .i64 (Int.tmod z a3),.int .i64 (0)] (by rfl) rfl rfl em ?_
   with_reducible refine (Zp (5) (y) (Int.tmod z a3) (0) _ ?hI).mono ?_
   case hI=>have hz:=TZ.out;have hu:=TU.out;unfold inI;omega
   rintro e wn ⟨rfl,hb⟩
   refine ⟨_,rfl,?_⟩
   replace HB:=BS HB hb;clear hb
   refine hK.out _ _ trivial (fun hHeld=>?_)
   clear hK K
   refine kX (a':=?_) ?_ ?_
   rotate_left
   ·show Act.put _ (some 201) _=_;simp only [Act.put,List.setIfInBounds_toArray,List.set_cons_zero,List.set_cons_succ,xJ,xU];rfl
   refine oN 11 202 HT_ (fun K hK=>?_)
   refine Kd.Yx (Kd.int .u32) _ 60 ?hg (N:=202) ?hd (xs:=([wI 4 10 (Int.tmod z a3) 0,wI 0 x 10 0,wI 5 y (Int.tmod z a3) 0]:List Int)) (inner:=[.int .u32 (wI 4 10 (Int.tmod z a3) 0),.int .u32 (wI 0 x 10 0),.int .u32 (wI 5 y (Int.tmod z a3) 0)]) (ok:=fun _=>True) (okp:=fun _=>True) ?hr ?hp (fun _ hk=>hk) trivial (Below.refl _ _) (Nat.le_refl _) (by simp) ?_;(case hd=>rfl);(case hg=>rfl);(case hr=>first|(go_simp;done)|(go_simp;rfl));(case hp=>repeat (first|exact qx.none _ _|refine qx.one (show Kd.M (Kd.int .u32) _ _ _ _ [_] from rfl) ?_))
   intro vHO wn ho hb hg_ qp
   clear hg_ qp
   (first|rw [← Y1.out] at ho|(simp only [Int.reduceToNat] at ho;rw [← Y1.out] at ho))
   have HO:=Ak (Kd.yH ho (zH (bl HB)))
   clear ho
   replace HB:=BS HB hb;clear hb
   refine hK.out _ _ trivial (fun hHeld=>?_)
   clear hK K
   refine kX (a':=?_) ?_ ?_
   rotate_left
   ·show Act.put _ (some 202) _=_;simp only [Act.put,List.setIfInBounds_toArray,List.set_cons_zero,List.set_cons_succ,xJ,xU];rfl
   refine pu 13 12 HT_ ?_
   refine pu 14 13 HT_ ?_
   refine Ji (ZO HT_.out (by kernel_rfl)) ?_
   try go_wp2
   go_ret2
   exact ⟨_,rfl,by rw [E.out];exact HO.out,(bl HB)⟩
  ·by_cases hk:0<a2
   ·have s0:=dt hk
    have s1:=df hu
    have t0:=dF (a<6)
    have t1:=dF (a<9)
    have t2:=eF a 9
    have t3:=dF (a<12)
    have t4:=eF a 12
    have t5:=dF (a<15)
    have t6:=eT a 15
    have t7:=dT (a<19)
    have t8:=dT (a<23)
    have E:zh (Zc a x y z a2 a3 a4 a5=Xp x y z a2):=⟨by unfold Zc;rw [if_neg (by first|omega|(rintro ⟨q1,q2⟩;first|omega|(cases q2;done)|(obtain ⟨q2,q3⟩:=q2;first|omega|(cases q2;done))))];rw [if_neg (by first|omega|(rintro ⟨q1,q2⟩;first|omega|(cases q2;done)|(obtain ⟨q2,q3⟩:=q2;first|omega|(cases q2;done))))];rw [if_neg (by first|omega|(rintro ⟨q1,q2⟩;first|omega|(cases q2;done)|(obtain ⟨q2,q3⟩:=q2;first|omega|(cases q2;done))))];rw [if_neg (by first|omega|(rintro ⟨q1,q2⟩;first|omega|(cases q2;done)|(obtain ⟨q2,q3⟩:=q2;first|omega|(cases q2;done))))];rw [if_neg (by first|omega|(rintro ⟨q1,q2⟩;first|omega|(cases q2;done)|(obtain ⟨q2,q3⟩:=q2;first|omega|(cases q2;done))))];rw [if_neg (by first|omega|(rintro ⟨q1,q2⟩;first|omega|(cases q2;done)|(obtain ⟨q2,q3⟩:=q2;first|omega|(cases q2;done))))];rw [if_neg (by first|omega|(rintro ⟨q1,q2⟩;first|omega|(cases q2;done)|(obtain ⟨q2,q3⟩:=q2;first|omega|(cases q2;done))))];rw [if_neg (by first|omega|(rintro ⟨q1,q2⟩;first|omega|(cases q2;done)|(obtain ⟨q2,q3⟩:=q2;first|omega|(cases q2;done))))];rw [if_pos (by first|omega|exact ⟨by omega,rfl⟩|exact ⟨by omega,rfl,by omega⟩)]⟩
    have IB:zh (inB x y z a2):=⟨by unfold inB;omega⟩
    clear ha g0 g1 g2 g3 g4 g5 g6 g7 g8 g9 g10 g11 hk hu
    go_wp2_with (go_at_call 126;refine (XR _ _ _ _ _ IB.out).mono ?_;rintro e wn ⟨v0,rfl,hr,hb⟩;have HO:=Ak (Kd.yH hr (zH (bl HB)));clear hr;replace HB:=BS HB hb;clear hb)
    go_ret2
    exact ⟨_,rfl,by rw [E.out];exact HO.out,(bl HB)⟩
   ·have s0:=df hk
    have s1:=df hu
    have t0:=dF (a<6)
    have t1:=dF (a<9)
    have t2:=eF a 9
    have t3:=dF (a<12)
    have t4:=eF a 12
    have t5:=dF (a<15)
    have t6:=eT a 15
    have t7:=dT (a<19)
    have t8:=dT (a<23)
    have t9:=dT (a<27)
    have t10:=eF a 27
    have t11:=eF a 28
    have t12:=eF a 29
    obtain ⟨y1,hy1⟩:∃ q:List Int,q=[wI 9 x y 3]:=⟨_,rfl⟩
    have Y1:=Ak hy1;clear hy1
    have E:zh (Zc a x y z a2 a3 a4 a5=y1):=⟨by rw [Y1.out];unfold Zc;exact ng (ng (ng (ng (ng (ng (ng (ng (ng (ng (ng (ng (ng (ng (ng (rfl)))))))))))))))⟩
    clear ha g0 g1 g2 g3 g4 g5 g6 g7 g8 g9 g10 g11 hk hu
    go_wp2_with (first|(go_at_call 104;refine Calls.mono (cB HB cI) ?_;clear HB;rintro e wn ⟨rfl,HB⟩)|(go_at_call 103;refine Calls.mono (cB HB cW) ?_;clear HB;rintro e wn ⟨rfl,HB⟩)|((with_reducible refine zB (N:=313) rfl ?_);refine LV 60 HB Y1 ?_;clear HB;intro vHO wn HO HB))
    go_ret2
    exact ⟨_,rfl,by rw [E.out];exact HO.out,(bl HB)⟩
 ·by_cases hu:0<a3
  ·have s1:=dt hu
   have TU:zh (0≤Int.tmod z a3∧Int.tmod z a3≤100):=⟨by rw [Int.tmod_eq_emod_of_nonneg g6];have:=Int.emod_nonneg z (show a3≠0 by omega);have:=Int.emod_lt_of_pos z hu;omega⟩
   have ck:¬ a3=0:=by omega
   have cb0:(a3 == 0)=false:=bF ck
   have cb1:(a3 != 0)=true:=nT ck
   have t0:=dF (a<6)
   have t1:=dF (a<9)
   have t2:=eF a 9
   have t3:=dF (a<12)
   have t4:=eF a 12
   have t5:=dF (a<15)
   have t6:=eF a 15
   have t7:=dT (a<19)
   obtain ⟨y1,hy1⟩:∃ q:List Int,q=[wI 4 10 (Int.tmod z a3) 0,wI 9 10 10 3,wI 5 10 (Int.tmod z a3) 0]:=⟨_,rfl⟩
   have Y1:=Ak hy1;clear hy1
   have E:zh (Zc a x y z a2 a3 a4 a5=y1):=⟨by rw [Y1.out];unfold Zc;rw [if_neg (by first|omega|(rintro ⟨q1,q2⟩;first|omega|(cases q2;done)|(obtain ⟨q2,q3⟩:=q2;first|omega|(cases q2;done))))];rw [if_neg (by first|omega|(rintro ⟨q1,q2⟩;first|omega|(cases q2;done)|(obtain ⟨q2,q3⟩:=q2;first|omega|(cases q2;done))))];rw [if_neg (by first|omega|(rintro ⟨q1,q2⟩;first|omega|(cases q2;done)|(obtain ⟨q2,q3⟩:=q2;first|omega|(cases q2;done))))];rw [if_neg (by first|omega|(rintro ⟨q1,q2⟩;first|omega|(cases q2;done)|(obtain ⟨q2,q3⟩:=q2;first|omega|(cases q2;done))))];rw [if_neg (by first|omega|(rintro ⟨q1,q2⟩;first|omega|(cases q2;done)|(obtain ⟨q2,q3⟩:=q2;first|omega|(cases q2;done))))];rw [if_neg (by first|omega|(rintro ⟨q1,q2⟩;first|omega|(cases q2;done)|(obtain ⟨q2,q3⟩:=q2;first|omega|(cases q2;done))))];rw [if_neg (by first|omega|(rintro ⟨q1,q2⟩;first|omega|(cases q2;done)|(obtain ⟨q2,q3⟩:=q2;first|omega|(cases q2;done))))];rw [if_pos (by first|omega|exact ⟨by omega,rfl⟩|exact ⟨by omega,rfl,by omega⟩)]⟩
   clear ha g0 g1 g2 g3 g4 g5 g6 g7 g8 g9 g10 g11 hu
   try go_wp2
   replace HB:=Ak (zO HB.out)
   refine Yv (n:=13) (S:=fun w'=>True) (ds:=[]) #[false,false,false,false,false,false,false,false,false,false,false,false,false] (by kernel_rfl) rfl rfl trivial (fun hHeld=>?_)
   refine kP zX.tab33 zX.bits33 (fun HT_ HW_=>?_)
   generalize w4.drew=w5 at HB hHeld ⊢
   refine pu 0 210 HT_ ?_
   refine pu 1 211 HT_ ?_
   refine pu 2 212 HT_ ?_
   refine pu 5 215 HT_ ?_
   refine pu 6 216 HT_ ?_
   refine pu 7 217 HT_ ?_
   refine pu 10 220 HT_ ?_
   refine oN 3 213 HT_ (fun K hK=>?_)
   refine XO Tryz.func104 (by kernel_rfl) rfl #[.int .i64 (4),.int .i64 (10),.int .i64 (Int.tmod z a3),.int .i64 (0)] (by rfl) rfl rfl em ?_
   with_reducible refine (Zp (4) (10) (Int.tmod z a3) (0) _ ?hI).mono ?_
   case hI=>have hz:=TZ.out;have hu:=TU.out;unfold inI;omega
   rintro e wn ⟨rfl,hb⟩
   refine ⟨_,rfl,?_⟩
   replace HB:=BS HB hb;clear hb
   refine hK.out _ _ trivial (fun hHeld=>?_)
   clear hK K
   refine kX (a':=?_) ?_ ?_
   rotate_left
   ·show Act.put _ (some 213) _=_;simp only [Act.put,List.setIfInBounds_toArray,List.set_cons_zero,List.set_cons_succ,xJ,xU];rfl
   refine oN 4 214 HT_ (fun K hK=>?_)
   refine XO Tryz.func104 (by kernel_rfl) rfl #[.int .i64 (9),.int .i64 (10),.int .i64 (10),.int .i64 (3)] (by rfl) rfl rfl em ?_
   with_reducible refine (Zp (9) (10) (10) (3) _ ?hI).mono ?_
   case hI=>have hz:=TZ.out;have hu:=TU.out;unfold inI;omega
   rintro e wn ⟨rfl,hb⟩
   refine ⟨_,rfl,?_⟩
   replace HB:=BS HB hb;clear hb
   refine hK.out _ _ trivial (fun hHeld=>?_)
   clear hK K
   refine kX (a':=?_) ?_ ?_
   rotate_left
   ·show Act.put _ (some 214) _=_;simp only [Act.put,List.setIfInBounds_toArray,List.set_cons_zero,List.set_cons_succ,xJ,xU];rfl
   refine oN 8 218 HT_ (fun K hK=>?_)
   refine XO Tryz.func104 (by kernel_rfl) rfl #[.int .i64 (5),.int .i64 (10),.int .i64 (Int.tmod z a3),.int .i64 (0)] (by rfl) rfl rfl em ?_
   with_reducible refine (Zp (5) (10) (Int.tmod z a3) (0) _ ?hI).mono ?_
   case hI=>have hz:=TZ.out;have hu:=TU.out;unfold inI;omega
   rintro e wn ⟨rfl,hb⟩
   refine ⟨_,rfl,?_⟩
   replace HB:=BS HB hb;clear hb
   refine hK.out _ _ trivial (fun hHeld=>?_)
   clear hK K
   refine kX (a':=?_) ?_ ?_
   rotate_left
   ·show Act.put _ (some 218) _=_;simp only [Act.put,List.setIfInBounds_toArray,List.set_cons_zero,List.set_cons_succ,xJ,xU];rfl
   refine oN 9 219 HT_ (fun K hK=>?_)
   refine Kd.Yx (Kd.int .u32) _ 60 ?hg (N:=219) ?hd (xs:=([wI 4 10 (Int.tmod z a3) 0,wI 9 10 10 3,wI 5 10 (Int.tmod z a3) 0]:List Int)) (inner:=[.int .u32 (wI 4 10 (Int.tmod z a3) 0),.int .u32 (wI 9 10 10 3),.int .u32 (wI 5 10 (Int.tmod z a3) 0)]) (ok:=fun _=>True) (okp:=fun _=>True) ?hr ?hp (fun _ hk=>hk) trivial (Below.refl _ _) (Nat.le_refl _) (by simp) ?_;(case hd=>rfl);(case hg=>rfl);(case hr=>first|(go_simp;done)|(go_simp;rfl));(case hp=>repeat (first|exact qx.none _ _|refine qx.one (show Kd.M (Kd.int .u32) _ _ _ _ [_] from rfl) ?_))
   intro vHO wn ho hb hg_ qp
   clear hg_ qp
   (first|rw [← Y1.out] at ho|(simp only [Int.reduceToNat] at ho;rw [← Y1.out] at ho))
   have HO:=Ak (Kd.yH ho (zH (bl HB)))
   clear ho
   replace HB:=BS HB hb;clear hb
   refine hK.out _ _ trivial (fun hHeld=>?_)
   clear hK K
   refine kX (a':=?_) ?_ ?_
   rotate_left
   ·show Act.put _ (some 219) _=_;simp only [Act.put,List.setIfInBounds_toArray,List.set_cons_zero,List.set_cons_succ,xJ,xU];rfl
   refine pu 11 12 HT_ ?_
   refine pu 12 13 HT_ ?_
   refine Ji (ZO HT_.out (by kernel_rfl)) ?_
   try go_wp2
   go_ret2
   exact ⟨_,rfl,by rw [E.out];exact HO.out,(bl HB)⟩
  ·by_cases hk:0<a2
   ·have s0:=dt hk
    have s1:=df hu
    have t0:=dF (a<6)
    have t1:=dF (a<9)
    have t2:=eF a 9
    have t3:=dF (a<12)
    have t4:=eF a 12
    have t5:=dF (a<15)
    have t6:=eF a 15
    have t7:=dT (a<19)
    have t8:=dT (a<23)
    have E:zh (Zc a x y z a2 a3 a4 a5=Xp x y z a2):=⟨by unfold Zc;rw [if_neg (by first|omega|(rintro ⟨q1,q2⟩;first|omega|(cases q2;done)|(obtain ⟨q2,q3⟩:=q2;first|omega|(cases q2;done))))];rw [if_neg (by first|omega|(rintro ⟨q1,q2⟩;first|omega|(cases q2;done)|(obtain ⟨q2,q3⟩:=q2;first|omega|(cases q2;done))))];rw [if_neg (by first|omega|(rintro ⟨q1,q2⟩;first|omega|(cases q2;done)|(obtain ⟨q2,q3⟩:=q2;first|omega|(cases q2;done))))];rw [if_neg (by first|omega|(rintro ⟨q1,q2⟩;first|omega|(cases q2;done)|(obtain ⟨q2,q3⟩:=q2;first|omega|(cases q2;done))))];rw [if_neg (by first|omega|(rintro ⟨q1,q2⟩;first|omega|(cases q2;done)|(obtain ⟨q2,q3⟩:=q2;first|omega|(cases q2;done))))];rw [if_neg (by first|omega|(rintro ⟨q1,q2⟩;first|omega|(cases q2;done)|(obtain ⟨q2,q3⟩:=q2;first|omega|(cases q2;done))))];rw [if_neg (by first|omega|(rintro ⟨q1,q2⟩;first|omega|(cases q2;done)|(obtain ⟨q2,q3⟩:=q2;first|omega|(cases q2;done))))];rw [if_neg (by first|omega|(rintro ⟨q1,q2⟩;first|omega|(cases q2;done)|(obtain ⟨q2,q3⟩:=q2;first|omega|(cases q2;done))))];rw [if_pos (by first|omega|exact ⟨by omega,rfl⟩|exact ⟨by omega,rfl,by omega⟩)]⟩
    have IB:zh (inB x y z a2):=⟨by unfold inB;omega⟩
    clear ha g0 g1 g2 g3 g4 g5 g6 g7 g8 g9 g10 g11 hk hu
    go_wp2_with (go_at_call 126;refine (XR _ _ _ _ _ IB.out).mono ?_;rintro e wn ⟨v0,rfl,hr,hb⟩;have HO:=Ak (Kd.yH hr (zH (bl HB)));clear hr;replace HB:=BS HB hb;clear hb)
    go_ret2
    exact ⟨_,rfl,by rw [E.out];exact HO.out,(bl HB)⟩
   ·have s0:=df hk
    have s1:=df hu
    have t0:=dF (a<6)
    have t1:=dF (a<9)
    have t2:=eF a 9
    have t3:=dF (a<12)
    have t4:=eF a 12
    have t5:=dF (a<15)
    have t6:=eF a 15
    have t7:=dT (a<19)
    have t8:=dT (a<23)
    have t9:=dT (a<27)
    have t10:=eF a 27
    have t11:=eF a 28
    have t12:=eF a 29
    obtain ⟨y1,hy1⟩:∃ q:List Int,q=[wI 9 x y 3]:=⟨_,rfl⟩
    have Y1:=Ak hy1;clear hy1
    have E:zh (Zc a x y z a2 a3 a4 a5=y1):=⟨by rw [Y1.out];unfold Zc;exact ng (ng (ng (ng (ng (ng (ng (ng (ng (ng (ng (ng (ng (ng (ng (rfl)))))))))))))))⟩
    clear ha g0 g1 g2 g3 g4 g5 g6 g7 g8 g9 g10 g11 hk hu
    go_wp2_with (first|(go_at_call 104;refine Calls.mono (cB HB cI) ?_;clear HB;rintro e wn ⟨rfl,HB⟩)|(go_at_call 103;refine Calls.mono (cB HB cW) ?_;clear HB;rintro e wn ⟨rfl,HB⟩)|((with_reducible refine zB (N:=313) rfl ?_);refine LV 60 HB Y1 ?_;clear HB;intro vHO wn HO HB))
    go_ret2
    exact ⟨_,rfl,by rw [E.out];exact HO.out,(bl HB)⟩
 ·by_cases hk:0<a2
  ·have s0:=dt hk
   have t0:=dF (a<6)
   have t1:=dF (a<9)
   have t2:=eF a 9
   have t3:=dF (a<12)
   have t4:=eF a 12
   have t5:=dF (a<15)
   have t6:=eF a 15
   have t7:=dF (a<19)
   have t8:=dT (a<23)
   have E:zh (Zc a x y z a2 a3 a4 a5=Xp x y z a2):=⟨by unfold Zc;rw [if_neg (by first|omega|(rintro ⟨q1,q2⟩;first|omega|(cases q2;done)|(obtain ⟨q2,q3⟩:=q2;first|omega|(cases q2;done))))];rw [if_neg (by first|omega|(rintro ⟨q1,q2⟩;first|omega|(cases q2;done)|(obtain ⟨q2,q3⟩:=q2;first|omega|(cases q2;done))))];rw [if_neg (by first|omega|(rintro ⟨q1,q2⟩;first|omega|(cases q2;done)|(obtain ⟨q2,q3⟩:=q2;first|omega|(cases q2;done))))];rw [if_neg (by first|omega|(rintro ⟨q1,q2⟩;first|omega|(cases q2;done)|(obtain ⟨q2,q3⟩:=q2;first|omega|(cases q2;done))))];rw [if_neg (by first|omega|(rintro ⟨q1,q2⟩;first|omega|(cases q2;done)|(obtain ⟨q2,q3⟩:=q2;first|omega|(cases q2;done))))];rw [if_neg (by first|omega|(rintro ⟨q1,q2⟩;first|omega|(cases q2;done)|(obtain ⟨q2,q3⟩:=q2;first|omega|(cases q2;done))))];rw [if_neg (by first|omega|(rintro ⟨q1,q2⟩;first|omega|(cases q2;done)|(obtain ⟨q2,q3⟩:=q2;first|omega|(cases q2;done))))];rw [if_neg (by first|omega|(rintro ⟨q1,q2⟩;first|omega|(cases q2;done)|(obtain ⟨q2,q3⟩:=q2;first|omega|(cases q2;done))))];rw [if_pos (by first|omega|exact ⟨by omega,rfl⟩|exact ⟨by omega,rfl,by omega⟩)]⟩
   have IB:zh (inB x y z a2):=⟨by unfold inB;omega⟩
   clear ha g0 g1 g2 g3 g4 g5 g6 g7 g8 g9 g10 g11 hk 
   go_wp2_with (go_at_call 126;refine (XR _ _ _ _ _ IB.out).mono ?_;rintro e wn ⟨v0,rfl,hr,hb⟩;have HO:=Ak (Kd.yH hr (zH (bl HB)));clear hr;replace HB:=BS HB hb;clear hb)
   go_ret2
   exact ⟨_,rfl,by rw [E.out];exact HO.out,(bl HB)⟩
  ·have s0:=df hk
   have t0:=dF (a<6)
   have t1:=dF (a<9)
   have t2:=eF a 9
   have t3:=dF (a<12)
   have t4:=eF a 12
   have t5:=dF (a<15)
   have t6:=eF a 15
   have t7:=dF (a<19)
   have t8:=dT (a<23)
   have t9:=dT (a<27)
   have t10:=eF a 27
   have t11:=eF a 28
   have t12:=eF a 29
   obtain ⟨y1,hy1⟩:∃ q:List Int,q=[wI 9 x y 3]:=⟨_,rfl⟩
   have Y1:=Ak hy1;clear hy1
   have E:zh (Zc a x y z a2 a3 a4 a5=y1):=⟨by rw [Y1.out];unfold Zc;exact ng (ng (ng (ng (ng (ng (ng (ng (ng (ng (ng (ng (ng (ng (ng (rfl)))))))))))))))⟩
   clear ha g0 g1 g2 g3 g4 g5 g6 g7 g8 g9 g10 g11 hk 
   go_wp2_with (first|(go_at_call 104;refine Calls.mono (cB HB cI) ?_;clear HB;rintro e wn ⟨rfl,HB⟩)|(go_at_call 103;refine Calls.mono (cB HB cW) ?_;clear HB;rintro e wn ⟨rfl,HB⟩)|((with_reducible refine zB (N:=313) rfl ?_);refine LV 60 HB Y1 ?_;clear HB;intro vHO wn HO HB))
   go_ret2
   exact ⟨_,rfl,by rw [E.out];exact HO.out,(bl HB)⟩
 ·by_cases hk:0<a2
  ·have s0:=dt hk
   have t0:=dF (a<6)
   have t1:=dF (a<9)
   have t2:=eF a 9
   have t3:=dF (a<12)
   have t4:=eF a 12
   have t5:=dF (a<15)
   have t6:=eF a 15
   have t7:=dF (a<19)
   have t8:=dF (a<23)
   have t9:=dT (a<27)
   have E:zh (Zc a x y z a2 a3 a4 a5=Zz x y z a2):=⟨by unfold Zc;rw [if_neg (by first|omega|(rintro ⟨q1,q2⟩;first|omega|(cases q2;done)|(obtain ⟨q2,q3⟩:=q2;first|omega|(cases q2;done))))];rw [if_neg (by first|omega|(rintro ⟨q1,q2⟩;first|omega|(cases q2;done)|(obtain ⟨q2,q3⟩:=q2;first|omega|(cases q2;done))))];rw [if_neg (by first|omega|(rintro ⟨q1,q2⟩;first|omega|(cases q2;done)|(obtain ⟨q2,q3⟩:=q2;first|omega|(cases q2;done))))];rw [if_neg (by first|omega|(rintro ⟨q1,q2⟩;first|omega|(cases q2;done)|(obtain ⟨q2,q3⟩:=q2;first|omega|(cases q2;done))))];rw [if_neg (by first|omega|(rintro ⟨q1,q2⟩;first|omega|(cases q2;done)|(obtain ⟨q2,q3⟩:=q2;first|omega|(cases q2;done))))];rw [if_neg (by first|omega|(rintro ⟨q1,q2⟩;first|omega|(cases q2;done)|(obtain ⟨q2,q3⟩:=q2;first|omega|(cases q2;done))))];rw [if_neg (by first|omega|(rintro ⟨q1,q2⟩;first|omega|(cases q2;done)|(obtain ⟨q2,q3⟩:=q2;first|omega|(cases q2;done))))];rw [if_neg (by first|omega|(rintro ⟨q1,q2⟩;first|omega|(cases q2;done)|(obtain ⟨q2,q3⟩:=q2;first|omega|(cases q2;done))))];rw [if_neg (by first|omega|(rintro ⟨q1,q2⟩;first|omega|(cases q2;done)|(obtain ⟨q2,q3⟩:=q2;first|omega|(cases q2;done))))];rw [if_pos (by first|omega|exact ⟨by omega,rfl⟩|exact ⟨by omega,rfl,by omega⟩)]⟩
   have IB:zh (inB x y z a2):=⟨by unfold inB;omega⟩
   clear ha g0 g1 g2 g3 g4 g5 g6 g7 g8 g9 g10 g11 hk 
   go_wp2_with (go_at_call 127;refine (l4Thread_calls _ _ _ _ _ IB.out).mono ?_;rintro e wn ⟨v0,rfl,hr,hb⟩;have HO:=Ak (Kd.yH hr (zH (bl HB)));clear hr;replace HB:=BS HB hb;clear hb)
   go_ret2
   exact ⟨_,rfl,by rw [E.out];exact HO.out,(bl HB)⟩
  ·have s0:=df hk
   have t0:=dF (a<6)
   have t1:=dF (a<9)
   have t2:=eF a 9
   have t3:=dF (a<12)
   have t4:=eF a 12
   have t5:=dF (a<15)
   have t6:=eF a 15
   have t7:=dF (a<19)
   have t8:=dF (a<23)
   have t9:=dT (a<27)
   have t10:=eF a 27
   have t11:=eF a 28
   have t12:=eF a 29
   obtain ⟨y1,hy1⟩:∃ q:List Int,q=[wI 9 x y 3]:=⟨_,rfl⟩
   have Y1:=Ak hy1;clear hy1
   have E:zh (Zc a x y z a2 a3 a4 a5=y1):=⟨by rw [Y1.out];unfold Zc;exact ng (ng (ng (ng (ng (ng (ng (ng (ng (ng (ng (ng (ng (ng (ng (rfl)))))))))))))))⟩
   clear ha g0 g1 g2 g3 g4 g5 g6 g7 g8 g9 g10 g11 hk 
   go_wp2_with (first|(go_at_call 104;refine Calls.mono (cB HB cI) ?_;clear HB;rintro e wn ⟨rfl,HB⟩)|(go_at_call 103;refine Calls.mono (cB HB cW) ?_;clear HB;rintro e wn ⟨rfl,HB⟩)|((with_reducible refine zB (N:=313) rfl ?_);refine LV 60 HB Y1 ?_;clear HB;intro vHO wn HO HB))
   go_ret2
   exact ⟨_,rfl,by rw [E.out];exact HO.out,(bl HB)⟩
 ·cases a5
  ·have t0:=dF (a<6)
   have t1:=dF (a<9)
   have t2:=eF a 9
   have t3:=dF (a<12)
   have t4:=eF a 12
   have t5:=dF (a<15)
   have t6:=eF a 15
   have t7:=dF (a<19)
   have t8:=dF (a<23)
   have t9:=dF (a<27)
   have t10:=eT a 27
   have t11:=eF a 28
   have t12:=eF a 29
   obtain ⟨y1,hy1⟩:∃ q:List Int,q=[wI 9 x y 3]:=⟨_,rfl⟩
   have Y1:=Ak hy1;clear hy1
   have E:zh (Zc a x y z a2 a3 a4 false=y1):=⟨by rw [Y1.out];unfold Zc;exact ng (ng (ng (ng (ng (ng (ng (ng (ng (ng (ng (ng (ng (ng (ng (rfl)))))))))))))))⟩
   clear ha g0 g1 g2 g3 g4 g5 g6 g7 g8 g9 g10 g11
   go_wp2_with (first|(go_at_call 104;refine Calls.mono (cB HB cI) ?_;clear HB;rintro e wn ⟨rfl,HB⟩)|(go_at_call 103;refine Calls.mono (cB HB cW) ?_;clear HB;rintro e wn ⟨rfl,HB⟩)|((with_reducible refine zB (N:=313) rfl ?_);refine LV 60 HB Y1 ?_;clear HB;intro vHO wn HO HB))
   go_ret2
   exact ⟨_,rfl,by rw [E.out];exact HO.out,(bl HB)⟩
  ·have t0:=dF (a<6)
   have t1:=dF (a<9)
   have t2:=eF a 9
   have t3:=dF (a<12)
   have t4:=eF a 12
   have t5:=dF (a<15)
   have t6:=eF a 15
   have t7:=dF (a<19)
   have t8:=dF (a<23)
   have t9:=dF (a<27)
   have t10:=eT a 27
   obtain ⟨y1,hy1⟩:∃ q:List Int,q=[wI 0 7 x 0,wI 31 7 (Int.tmod z 3) (wrap64 (1+Int.tmod z 2)),wI 0 y 7 0]:=⟨_,rfl⟩
   have Y1:=Ak hy1;clear hy1
   have E:zh (Zc a x y z a2 a3 a4 true=y1):=⟨by rw [Y1.out];unfold Zc;exact ng (ng (ng (ng (ng (ng (ng (ng (ng (ng (ps (rfl)))))))))))⟩
   clear ha g0 g1 g2 g3 g4 g5 g6 g7 g8 g9 g10 g11
   go_wp2_with (first|(go_at_call 104;refine Calls.mono (cB HB cI) ?_;clear HB;rintro e wn ⟨rfl,HB⟩)|(go_at_call 103;refine Calls.mono (cB HB cW) ?_;clear HB;rintro e wn ⟨rfl,HB⟩)|((with_reducible refine zB (N:=260) rfl ?_);refine LV 60 HB Y1 ?_;clear HB;intro vHO wn HO HB))
   go_ret2
   exact ⟨_,rfl,by rw [E.out];exact HO.out,(bl HB)⟩
 ·cases a5
  ·cases a4
   ·have t0:=dF (a<6)
    have t1:=dF (a<9)
    have t2:=eF a 9
    have t3:=dF (a<12)
    have t4:=eF a 12
    have t5:=dF (a<15)
    have t6:=eF a 15
    have t7:=dF (a<19)
    have t8:=dF (a<23)
    have t9:=dF (a<27)
    have t10:=eF a 27
    have t11:=eT a 28
    have t12:=eF a 29
    obtain ⟨y1,hy1⟩:∃ q:List Int,q=[wI 9 x y 3]:=⟨_,rfl⟩
    have Y1:=Ak hy1;clear hy1
    have E:zh (Zc a x y z a2 a3 false false=y1):=⟨by rw [Y1.out];unfold Zc;exact ng (ng (ng (ng (ng (ng (ng (ng (ng (ng (ng (ng (ng (ng (ng (rfl)))))))))))))))⟩
    clear ha g0 g1 g2 g3 g4 g5 g6 g7 g8 g9 g10 g11
    go_wp2_with (first|(go_at_call 104;refine Calls.mono (cB HB cI) ?_;clear HB;rintro e wn ⟨rfl,HB⟩)|(go_at_call 103;refine Calls.mono (cB HB cW) ?_;clear HB;rintro e wn ⟨rfl,HB⟩)|((with_reducible refine zB (N:=313) rfl ?_);refine LV 60 HB Y1 ?_;clear HB;intro vHO wn HO HB))
    go_ret2
    exact ⟨_,rfl,by rw [E.out];exact HO.out,(bl HB)⟩
   ·have t0:=dF (a<6)
    have t1:=dF (a<9)
    have t2:=eF a 9
    have t3:=dF (a<12)
    have t4:=eF a 12
    have t5:=dF (a<15)
    have t6:=eF a 15
    have t7:=dF (a<19)
    have t8:=dF (a<23)
    have t9:=dF (a<27)
    have t10:=eF a 27
    have t11:=eT a 28
    obtain ⟨y1,hy1⟩:∃ q:List Int,q=[wI 24 7 2 0,wI 0 x 7 0]:=⟨_,rfl⟩
    have Y1:=Ak hy1;clear hy1
    have E:zh (Zc a x y z a2 a3 true false=y1):=⟨by rw [Y1.out];unfold Zc;exact ng (ng (ng (ng (ng (ng (ng (ng (ng (ng (ng (ng (ps (rfl)))))))))))))⟩
    clear ha g0 g1 g2 g3 g4 g5 g6 g7 g8 g9 g10 g11
    go_wp2_with (first|(go_at_call 104;refine Calls.mono (cB HB cI) ?_;clear HB;rintro e wn ⟨rfl,HB⟩)|(go_at_call 103;refine Calls.mono (cB HB cW) ?_;clear HB;rintro e wn ⟨rfl,HB⟩)|((with_reducible refine zB (N:=285) rfl ?_);refine LV 60 HB Y1 ?_;clear HB;intro vHO wn HO HB))
    go_ret2
    exact ⟨_,rfl,by rw [E.out];exact HO.out,(bl HB)⟩
  ·by_cases hz4:z<4
   ·have s2:=dt hz4
    have t0:=dF (a<6)
    have t1:=dF (a<9)
    have t2:=eF a 9
    have t3:=dF (a<12)
    have t4:=eF a 12
    have t5:=dF (a<15)
    have t6:=eF a 15
    have t7:=dF (a<19)
    have t8:=dF (a<23)
    have t9:=dF (a<27)
    have t10:=eF a 27
    have t11:=eT a 28
    obtain ⟨y1,hy1⟩:∃ q:List Int,q=[wI 0 7 x 0,wI 31 7 1 511,wI 23 7 511 0]:=⟨_,rfl⟩
    have Y1:=Ak hy1;clear hy1
    have E:zh (Zc a x y z a2 a3 a4 true=y1):=⟨by rw [Y1.out];unfold Zc;exact ng (ng (ng (ng (ng (ng (ng (ng (ng (ng (ng (ps (rfl))))))))))))⟩
    clear ha g0 g1 g2 g3 g4 g5 g6 g7 g8 g9 g10 g11 hz4
    go_wp2_with (first|(go_at_call 104;refine Calls.mono (cB HB cI) ?_;clear HB;rintro e wn ⟨rfl,HB⟩)|(go_at_call 103;refine Calls.mono (cB HB cW) ?_;clear HB;rintro e wn ⟨rfl,HB⟩)|((with_reducible refine zB (N:=275) rfl ?_);refine LV 60 HB Y1 ?_;clear HB;intro vHO wn HO HB))
    go_ret2
    exact ⟨_,rfl,by rw [E.out];exact HO.out,(bl HB)⟩
   ·cases a4
    ·have s2:=df hz4
     have t0:=dF (a<6)
     have t1:=dF (a<9)
     have t2:=eF a 9
     have t3:=dF (a<12)
     have t4:=eF a 12
     have t5:=dF (a<15)
     have t6:=eF a 15
     have t7:=dF (a<19)
     have t8:=dF (a<23)
     have t9:=dF (a<27)
     have t10:=eF a 27
     have t11:=eT a 28
     have t12:=eF a 29
     obtain ⟨y1,hy1⟩:∃ q:List Int,q=[wI 9 x y 3]:=⟨_,rfl⟩
     have Y1:=Ak hy1;clear hy1
     have E:zh (Zc a x y z a2 a3 false true=y1):=⟨by rw [Y1.out];unfold Zc;exact ng (ng (ng (ng (ng (ng (ng (ng (ng (ng (ng (ng (ng (ng (ng (rfl)))))))))))))))⟩
     clear ha g0 g1 g2 g3 g4 g5 g6 g7 g8 g9 g10 g11 hz4
     go_wp2_with (first|(go_at_call 104;refine Calls.mono (cB HB cI) ?_;clear HB;rintro e wn ⟨rfl,HB⟩)|(go_at_call 103;refine Calls.mono (cB HB cW) ?_;clear HB;rintro e wn ⟨rfl,HB⟩)|((with_reducible refine zB (N:=313) rfl ?_);refine LV 60 HB Y1 ?_;clear HB;intro vHO wn HO HB))
     go_ret2
     exact ⟨_,rfl,by rw [E.out];exact HO.out,(bl HB)⟩
    ·have s2:=df hz4
     have t0:=dF (a<6)
     have t1:=dF (a<9)
     have t2:=eF a 9
     have t3:=dF (a<12)
     have t4:=eF a 12
     have t5:=dF (a<15)
     have t6:=eF a 15
     have t7:=dF (a<19)
     have t8:=dF (a<23)
     have t9:=dF (a<27)
     have t10:=eF a 27
     have t11:=eT a 28
     obtain ⟨y1,hy1⟩:∃ q:List Int,q=[wI 24 7 2 0,wI 0 x 7 0]:=⟨_,rfl⟩
     have Y1:=Ak hy1;clear hy1
     have E:zh (Zc a x y z a2 a3 true true=y1):=⟨by rw [Y1.out];unfold Zc;exact ng (ng (ng (ng (ng (ng (ng (ng (ng (ng (ng (ng (ps (rfl)))))))))))))⟩
     clear ha g0 g1 g2 g3 g4 g5 g6 g7 g8 g9 g10 g11 hz4
     go_wp2_with (first|(go_at_call 104;refine Calls.mono (cB HB cI) ?_;clear HB;rintro e wn ⟨rfl,HB⟩)|(go_at_call 103;refine Calls.mono (cB HB cW) ?_;clear HB;rintro e wn ⟨rfl,HB⟩)|((with_reducible refine zB (N:=285) rfl ?_);refine LV 60 HB Y1 ?_;clear HB;intro vHO wn HO HB))
     go_ret2
     exact ⟨_,rfl,by rw [E.out];exact HO.out,(bl HB)⟩
 ·by_cases hz0:z=0
  ·have s3:=bT hz0
   have t0:=dF (a<6)
   have t1:=dF (a<9)
   have t2:=eF a 9
   have t3:=dF (a<12)
   have t4:=eF a 12
   have t5:=dF (a<15)
   have t6:=eF a 15
   have t7:=dF (a<19)
   have t8:=dF (a<23)
   have t9:=dF (a<27)
   have t10:=eF a 27
   have t11:=eF a 28
   have t12:=eT a 29
   obtain ⟨y1,hy1⟩:∃ q:List Int,q=[wI 33 x 0 0]:=⟨_,rfl⟩
   have Y1:=Ak hy1;clear hy1
   have E:zh (Zc a x y z a2 a3 a4 a5=y1):=⟨by rw [Y1.out];unfold Zc;exact ng (ng (ng (ng (ng (ng (ng (ng (ng (ng (ng (ng (ng (ps (rfl))))))))))))))⟩
   clear ha g0 g1 g2 g3 g4 g5 g6 g7 g8 g9 g10 g11 hz0
   go_wp2_with (first|(go_at_call 104;refine Calls.mono (cB HB cI) ?_;clear HB;rintro e wn ⟨rfl,HB⟩)|(go_at_call 103;refine Calls.mono (cB HB cW) ?_;clear HB;rintro e wn ⟨rfl,HB⟩)|((with_reducible refine zB (N:=295) rfl ?_);refine LV 60 HB Y1 ?_;clear HB;intro vHO wn HO HB))
   go_ret2
   exact ⟨_,rfl,by rw [E.out];exact HO.out,(bl HB)⟩
  ·have s3:=bF hz0
   have t0:=dF (a<6)
   have t1:=dF (a<9)
   have t2:=eF a 9
   have t3:=dF (a<12)
   have t4:=eF a 12
   have t5:=dF (a<15)
   have t6:=eF a 15
   have t7:=dF (a<19)
   have t8:=dF (a<23)
   have t9:=dF (a<27)
   have t10:=eF a 27
   have t11:=eF a 28
   have t12:=eT a 29
   obtain ⟨y1,hy1⟩:∃ q:List Int,q=[wI 3 10 (Int.tmod z 2) 0,wI 26 (Int.tmod z 12) 0 0,wI 6 11 0 0,wI 8 11 5 10,wI 7 9 11 5]:=⟨_,rfl⟩
   have Y1:=Ak hy1;clear hy1
   have E:zh (Zc a x y z a2 a3 a4 a5=y1):=⟨by rw [Y1.out];unfold Zc;exact ng (ng (ng (ng (ng (ng (ng (ng (ng (ng (ng (ng (ng (ng (ps (rfl)))))))))))))))⟩
   clear ha g0 g1 g2 g3 g4 g5 g6 g7 g8 g9 g10 g11 hz0
   go_wp2_with (first|(go_at_call 104;refine Calls.mono (cB HB cI) ?_;clear HB;rintro e wn ⟨rfl,HB⟩)|(go_at_call 103;refine Calls.mono (cB HB cW) ?_;clear HB;rintro e wn ⟨rfl,HB⟩)|((with_reducible refine zB (N:=308) rfl ?_);refine LV 60 HB Y1 ?_;clear HB;intro vHO wn HO HB))
   go_ret2
   exact ⟨_,rfl,by rw [E.out];exact HO.out,(bl HB)⟩
end Go.Proofs.YtiekodnojmkfaaaGreatDoor.yD
