-- Printed by the kit's print or by this session's program, then cut and tightened by it.
import Derived.Test.YtiekodnojmkfaaaPFnEndsx0
import Derived.Test.YtiekodnojmkfaaaPFnEndsx7
import Derived.Test.YtiekodnojmkfaaaPFnEndsx8
namespace Go.Proofs.Ytiekodnojmkfaaa.PFnEnds
open Go.RowKit Go.Proofs.YtiekodnojmkfaaaW.PrintWords Go.Proofs.YtiekodnojmkfaaaW.PrintLast Go.Proofs.YtiekodnojmkfaaaW.PrintMore
attribute [local go_sem] max2_int min2_int max_two min_two max_three min_three max_four min_four   -- for this text's walks alone
set_option linter.unusedVariables false
set_option linter.unusedSimpArgs false
def loopB (y z kids:Int):List Int:=[wI 9 y y 9,wI 8 4 9 y]++(if 0<kids∧Int.tmod z 2=0 then [wW 25 10 (Int.tmod (wrap64 (Int.tdiv z 2)) kids),wI 8 4 5 10,wI 26 (Int.tmod z 10) 0 0] else [])
def loopL (x y z kids:Int):List Int:=[wI 0 6 x 0,wW 1 7 2,wW 1 8 3]++[wW 27 6 (wrap64 (((loopB y z kids).length:Int)+1))]++loopB y z kids++[wW 28 6 (wrap64 (wrap64 (-((loopB y z kids).length:Int))-1))]
def blkL (a x y z kids ups:Int) (vararg inner:Bool):List Int :=
 if a<6 then (if 13<z then [wI (wrap64 (12+Int.tmod z 2)) x y (wrap64 (Int.tdiv z 4)),wI 0 (Int.tmod z 4) x 0] else [wI (wrap64 (9+Int.tmod z 3)) x y (wrap64 (Int.tdiv z 4)),wI 0 (Int.tmod z 4) x 0])
 else if a<9 then [wI 8 4 x y,wI 7 (wrap64 (6+Int.tmod z 3)) 4 (Int.tmod z 4),wI 17 10 4 0]
 else if a=9 then [wI 14 5 5 x,wI 17 y 5 0]
 else if a<12 then [wI (wrap64 (19+Int.tmod z 2)) (Int.tmod (wrap64 (Int.tdiv z 2)) 2) x y,wW 18 0 1,wI 9 x x 3,wI 16 y x 0]
 else if a=12 then [wI 15 10 x 0,wI 21 10 0 (Int.tmod z 2),wW 18 0 1,wI 0 x y 0,wI 2 8 2 0]
 else if a<15 then loopL x y z kids
 else if a=15∧0<ups then [wI 4 10 (Int.tmod z ups) 0,wI 0 x 10 0,wI 5 y (Int.tmod z ups) 0]
 else if a<19∧0<ups then [wI 4 10 (Int.tmod z ups) 0,wI 9 10 10 3,wI 5 10 (Int.tmod z ups) 0]
 else if a<23∧0<kids then callL x y z kids
 else if a<27∧0<kids then threadL x y z kids
 else if a=27∧inner=true then [wI 0 7 x 0,wI 31 7 (Int.tmod z 3) (wrap64 (1+Int.tmod z 2)),wI 0 y 7 0]
 else if a=28∧inner=true∧z<4 then [wI 0 7 x 0,wI 31 7 1 511,wI 23 7 511 0]
 else if a=28∧vararg=true then [wI 24 7 2 0,wI 0 x 7 0]
 else if a=29∧z=0 then [wI 33 x 0 0]
 else if a=29 then [wI 3 10 (Int.tmod z 2) 0,wI 26 (Int.tmod z 12) 0 0,wI 6 11 0 0,wI 8 11 5 10,wI 7 9 11 5]
 else [wI 9 x y 3]
def inA (a x y z kids ups:Int):Prop:=0≤a∧a≤29∧0≤x∧x≤3∧0≤y∧y≤3∧0≤z∧z≤15∧0≤kids∧kids≤100∧0≤ups∧ups≤100
instance (a x y z kids ups:Int):Decidable (inA a x y z kids ups):=by unfold inA;infer_instance
def spec_l4Block.f (k:Nat) (l0:List Int) (a1 a2 a3:Int) (a4 a5:Bool):Option (List Int×Int) :=
 (spec_l1Take.f k l0 a1 30).bind fun ta=>(spec_l1Take.f k l0 ta.2 4).bind fun tx=>(spec_l1Take.f k l0 tx.2 4).bind fun ty=>(spec_l1Take.f k l0 ty.2 16).bind fun tz =>
  if inA ta.1 tx.1 ty.1 tz.1 a2 a3 then some (blkL ta.1 tx.1 ty.1 tz.1 a2 a3 a4 a5,tz.2) else none
theorem spec_l4Block.mono (a0:List Int) (a1 a2 a3:Int) (a4 a5:Bool) (k:Nat):LeO (spec_l4Block.f k a0 a1 a2 a3 a4 a5) (spec_l4Block.f (k+1) a0 a1 a2 a3 a4 a5):=by
 unfold spec_l4Block.f
 exact LeO.bind (spec_l1Take.mono _ _ _ _) fun _=>LeO.bind (spec_l1Take.mono _ _ _ _) fun _=>LeO.bind (spec_l1Take.mono _ _ _ _) fun _=>LeO.bind (spec_l1Take.mono _ _ _ _) fun _=>LeO.refl _
-- WALK BEGIN
def spec_l4Block.T31:Bool×List (List Nat×List Nat):=(true,[([],[]),([],[]),([0,1],[0,1]),([2],[2]),([],[]),([4,3],[4]),([],[]),([],[]),([],[]),([7,8],[7,8]),([6,9,5],[6,9]),([3,5,10],[3,5,10]),([],[]),([11,10,0,1,2,3,4,5,6,7,8,9,10,11],[11]),([12,13,0,1,2,3,4,5,6,7,8,9,10,11,12,13],[12])])
def spec_l4Block.B31:List Nat:=[0,0,3,7,0,31,0,0,0,384,1023,2047,0,4095,16383]
theorem spec_l4Block.tab31:rtab .any (opsOf Try.f120 31)=spec_l4Block.T31:=by kernel_rfl
theorem spec_l4Block.bits31:waitsOk spec_l4Block.T31.2 spec_l4Block.B31=true:=by kernel_rfl
def spec_l4Block.T33:Bool×List (List Nat×List Nat):=(true,[([],[]),([],[]),([0,1],[0,1]),([2],[2]),([3],[]),([],[]),([],[]),([5,6],[5,6]),([7,4],[7]),([3,4,8],[3,4,8]),([],[]),([9,8,0,1,2,3,4,5,6,7,8,9],[9]),([10,11,0,1,2,3,4,5,6,7,8,9,10,11],[10])])
def spec_l4Block.B33:List Nat:=[0,0,3,7,15,0,0,96,255,511,0,1023,4095]
theorem spec_l4Block.tab33:rtab .any (opsOf Try.f120 33)=spec_l4Block.T33:=by kernel_rfl
theorem spec_l4Block.bits33:waitsOk spec_l4Block.T33.2 spec_l4Block.B33=true:=by kernel_rfl
theorem take_rd (L:List Int) (i:Nat) (h:i<L.length):L.take (i+1)=L.take i++[rd L (i:Int)]:=by
 rw [List.take_add_one,List.getElem?_eq_getElem h]
 simp [rd,List.getD,h]
theorem l4Block_open {k:Nat} {l0:List Int} {a1 a2 a3:Int} {a4 a5:Bool} {r1:List Int} {r2:Int} (h:spec_l4Block.f k l0 a1 a2 a3 a4 a5=some (r1,r2)) :
  ∃ a p1 x p2 y p3 z,spec_l1Take.f k l0 a1 30=some (a,p1)∧spec_l1Take.f k l0 p1 4=some (x,p2)∧spec_l1Take.f k l0 p2 4=some (y,p3)∧spec_l1Take.f k l0 p3 16=some (z,r2)∧inA a x y z a2 a3∧r1=blkL a x y z a2 a3 a4 a5:=by
 unfold spec_l4Block.f at h
 obtain ⟨⟨a,p1⟩,h1,h⟩:=Option.bind_eq_some_iff.1 h
 obtain ⟨⟨x,p2⟩,h2,h⟩:=Option.bind_eq_some_iff.1 h
 obtain ⟨⟨y,p3⟩,h3,h⟩:=Option.bind_eq_some_iff.1 h
 obtain ⟨⟨z,p4⟩,h4,h⟩:=Option.bind_eq_some_iff.1 h
 dsimp only at h2 h3 h4 h
 split at h
 case isFalse=>cases h
 case isTrue hg =>
  obtain ⟨rfl,rfl⟩:=Prod.mk.inj (Option.some.inj h)
  exact ⟨a,p1,x,p2,y,p3,z,h1,h2,h3,h4,hg,rfl⟩
set_option maxRecDepth 100000 in
set_option maxHeartbeats 128000000 in
theorem spec_l4Block.calls (k:Nat) (A0:Option Addr) (c0:Nat) (l0:List Int) (a1 a2 a3:Int) (a4 a5:Bool) (r1:List Int) (r2:Int) (w:World) (hr0:Kd.C (Kd.int .u8) w A0 l0.length l0) (hc0:l0.length≤c0) (h:spec_l4Block.f k l0 a1 a2 a3 a4 a5=some (r1,r2)) :
  Calls Try.prog 120 #[.slice A0 l0.length c0,.int .i64 a1,.int .i64 a2,.int .i64 a3,.bool a4,.bool a5] w fun e w'=>∃ v0_:Value,e=.returned (.tuple #[v0_,.int .i64 r2])∧Kd.R (Kd.int .u32) 78 w' w.heap.size (fun _=>True) v0_ r1∧Below w.heap.size w w':=by
 have hmix:Try.prog.follows .mixedOrders=true:=by kernel_rfl
 obtain ⟨a,p1,x,p2,y,p3,z,e1,e2,e3,e4,hin,rfl⟩:=l4Block_open h
 clear h;have E1:=Ak e1;have E2:=Ak e2;have E3:=Ak e3;have E4:=Ak e4;have HR:=Ak hr0;have HC:=Ak hc0;clear e1 e2 e3 e4 hr0 hc0
 obtain ⟨g0,g1,g2,g3,g4,g5,g6,g7,g8,g9,g10,g11⟩:=hin
 have TZ:Aside0 (0≤x∧x≤3∧0≤y∧y≤3∧0≤Int.tmod z 2∧Int.tmod z 2≤1∧0≤Int.tmod z 3∧Int.tmod z 3≤2∧0≤Int.tmod z 4∧Int.tmod z 4≤3∧0≤Int.tmod z 10∧Int.tmod z 10≤9∧0≤Int.tmod z 12∧Int.tmod z 12≤11∧0≤Int.tdiv z 4∧Int.tdiv z 4≤3∧0≤Int.tdiv z 2∧Int.tdiv z 2≤7∧0≤Int.tmod (wrap64 (Int.tdiv z 2)) 2∧Int.tmod (wrap64 (Int.tdiv z 2)) 2≤1):=⟨by
  have w2:wrap64 (z / 2)=z / 2:=by unfold wrap64;omega
  rw [Int.tmod_eq_emod_of_nonneg g6,Int.tmod_eq_emod_of_nonneg g6,Int.tmod_eq_emod_of_nonneg g6,Int.tmod_eq_emod_of_nonneg g6,Int.tmod_eq_emod_of_nonneg g6,Int.tdiv_eq_ediv_of_nonneg g6,Int.tdiv_eq_ediv_of_nonneg g6,w2,Int.tmod_eq_emod_of_nonneg (show 0≤z / 2 by omega)]
  omega⟩
 have HB:=Ak (Below.refl w.heap.size w)
 go_enter Try.func120,Try.ntmps120
 go_upto_region 6 with (first|(have hq:=E1;clear hq;go_at_call 30;refine (spec_l1Take.calls k _ _ l0 a1 30 _ _ _ (Kd.C_below HR.out HB.out) HC.out E1.out).mono ?_;rintro r w1 ⟨rfl,hd⟩;have hb:=hd.below;clear hd;have n1_:=Ak (below_step (by repeat (first|exact HB.out|apply below_alloc|apply pw_below_drewN|apply below_drew1)) hb);clear HB;have HB:=n1_;clear n1_ hb;clear E1)|(have hq:=E2;clear hq;go_at_call 30;refine (spec_l1Take.calls k _ _ l0 p1 4 _ _ _ (Kd.C_below HR.out HB.out) HC.out E2.out).mono ?_;rintro r w2 ⟨rfl,hd⟩;have hb:=hd.below;clear hd;have n1_:=Ak (below_step (by repeat (first|exact HB.out|apply below_alloc|apply pw_below_drewN|apply below_drew1)) hb);clear HB;have HB:=n1_;clear n1_ hb;clear E2)|(have hq:=E3;clear hq;go_at_call 30;refine (spec_l1Take.calls k _ _ l0 p2 4 _ _ _ (Kd.C_below HR.out HB.out) HC.out E3.out).mono ?_;rintro r w3 ⟨rfl,hd⟩;have hb:=hd.below;clear hd;have n1_:=Ak (below_step (by repeat (first|exact HB.out|apply below_alloc|apply pw_below_drewN|apply below_drew1)) hb);clear HB;have HB:=n1_;clear n1_ hb;clear E3)|(have hq:=E4;clear hq;go_at_call 30;refine (spec_l1Take.calls k _ _ l0 p3 16 _ _ _ (Kd.C_below HR.out HB.out) HC.out E4.out).mono ?_;rintro r w4 ⟨rfl,hd⟩;have hb:=hd.below;clear hd;have n1_:=Ak (below_step (by repeat (first|exact HB.out|apply below_alloc|apply pw_below_drewN|apply below_drew1)) hb);clear HB;have HB:=n1_;clear n1_ hb;clear E4))
 have hA:a<6∨(6≤a∧a<9)∨a=9∨(10≤a∧a<12)∨a=12∨(13≤a∧a<15)∨a=15∨(16≤a∧a<19)∨(19≤a∧a<23)∨(23≤a∧a<27)∨a=27∨a=28∨a=29:=by omega
 rcases hA with ha|ha|ha|ha|ha|ha|ha|ha|ha|ha|ha|ha|ha
 ·by_cases hz13:13<z
  ·have s0:decide (13<z)=true:=decide_eq_true hz13
   have t0:decide (a<6)=true:=decide_eq_true (by omega)
   obtain ⟨y1,hy1⟩:∃ q:List Int,q=[wI (wrap64 (12+Int.tmod z 2)) x y (wrap64 (Int.tdiv z 4)),wI 0 (Int.tmod z 4) x 0]:=⟨_,rfl⟩
   have Y1:=Ak hy1;clear hy1
   have E:Aside0 (blkL a x y z a2 a3 a4 a5=y1):=⟨by rw [Y1.out];unfold blkL;rw [if_pos (by first|omega|exact ⟨by omega,rfl⟩|exact ⟨by omega,rfl,by omega⟩)];rw [if_pos hz13];skip⟩
   clear ha g0 g1 g2 g3 g4 g5 g6 g7 g8 g9 g10 g11 hz13
   go_wp2_with (first|(go_at_call 119;refine (l4I_calls _ _ _ _ _ ?hI).mono ?_;(case hI=>have hz:=TZ.out;unfold inI;(try simp only [wrap64] at hz ⊢);omega);rintro e wn ⟨rfl,hb⟩;have n1_:=Ak (below_step (by repeat (first|exact HB.out|apply below_alloc|apply pw_below_drewN|apply below_drew1)) hb);clear HB;have HB:=n1_;clear n1_ hb)|(go_at_call 118;refine (l4W_calls _ _ _ _ ?hI).mono ?_;(case hI=>have hz:=TZ.out;unfold inW;(try simp only [wrap64] at hz ⊢);omega);rintro e wn ⟨rfl,hb⟩;have n1_:=Ak (below_step (by repeat (first|exact HB.out|apply below_alloc|apply pw_below_drewN|apply below_drew1)) hb);clear HB;have HB:=n1_;clear n1_ hb)|((with_reducible refine gate_dst (N:=66) rfl ?_);refine Kd.R_lit (Kd.int .u32) _ 78 ?hg (N:=66) ?hd (xs:=([wI (wrap64 (12+Int.tmod z 2)) x y (wrap64 (Int.tdiv z 4)),wI 0 (Int.tmod z 4) x 0]:List Int)) (inner:=[.int .u32 (wI (wrap64 (12+Int.tmod z 2)) x y (wrap64 (Int.tdiv z 4))),.int .u32 (wI 0 (Int.tmod z 4) x 0)]) (ok:=fun _=>True) (okp:=fun _=>True) ?hr ?hp (fun _ hk=>hk) trivial (Below.refl _ _) (Nat.le_refl _) (by simp) ?_;(case hd=>rfl);(case hg=>rfl);(case hr=>first|(go_simp;done)|(go_simp;rfl));(case hp=>repeat (first|exact Reps.none _ _|refine Reps.one (show Kd.M (Kd.int .u32) _ _ _ _ [_] from rfl) ?_));intro vHO wn ho hb hg_ hnew_;clear hg_ hnew_;(first|rw [← Y1.out] at ho|(simp only [Int.reduceToNat] at ho;rw [← Y1.out] at ho));have HO:=Ak (Kd.R_lower ho (below_size (by repeat (first|exact HB.out|apply below_alloc|apply pw_below_drewN|apply below_drew1))));clear ho;have n1_:=Ak (below_step (by repeat (first|exact HB.out|apply below_alloc|apply pw_below_drewN|apply below_drew1)) hb);clear HB;have HB:=n1_;clear n1_ hb))
   go_ret2
   exact ⟨_,rfl,by rw [E.out];exact HO.out,(by repeat (first|exact HB.out|apply below_alloc|apply pw_below_drewN|apply below_drew1))⟩
  ·have s0:decide (13<z)=false:=decide_eq_false hz13
   have t0:decide (a<6)=true:=decide_eq_true (by omega)
   obtain ⟨y1,hy1⟩:∃ q:List Int,q=[wI (wrap64 (9+Int.tmod z 3)) x y (wrap64 (Int.tdiv z 4)),wI 0 (Int.tmod z 4) x 0]:=⟨_,rfl⟩
   have Y1:=Ak hy1;clear hy1
   have E:Aside0 (blkL a x y z a2 a3 a4 a5=y1):=⟨by rw [Y1.out];unfold blkL;rw [if_pos (by first|omega|exact ⟨by omega,rfl⟩|exact ⟨by omega,rfl,by omega⟩)];rw [if_neg hz13];skip⟩
   clear ha g0 g1 g2 g3 g4 g5 g6 g7 g8 g9 g10 g11 hz13
   go_wp2_with (first|(go_at_call 119;refine (l4I_calls _ _ _ _ _ ?hI).mono ?_;(case hI=>have hz:=TZ.out;unfold inI;(try simp only [wrap64] at hz ⊢);omega);rintro e wn ⟨rfl,hb⟩;have n1_:=Ak (below_step (by repeat (first|exact HB.out|apply below_alloc|apply pw_below_drewN|apply below_drew1)) hb);clear HB;have HB:=n1_;clear n1_ hb)|(go_at_call 118;refine (l4W_calls _ _ _ _ ?hI).mono ?_;(case hI=>have hz:=TZ.out;unfold inW;(try simp only [wrap64] at hz ⊢);omega);rintro e wn ⟨rfl,hb⟩;have n1_:=Ak (below_step (by repeat (first|exact HB.out|apply below_alloc|apply pw_below_drewN|apply below_drew1)) hb);clear HB;have HB:=n1_;clear n1_ hb)|((with_reducible refine gate_dst (N:=66) rfl ?_);refine Kd.R_lit (Kd.int .u32) _ 78 ?hg (N:=66) ?hd (xs:=([wI (wrap64 (9+Int.tmod z 3)) x y (wrap64 (Int.tdiv z 4)),wI 0 (Int.tmod z 4) x 0]:List Int)) (inner:=[.int .u32 (wI (wrap64 (9+Int.tmod z 3)) x y (wrap64 (Int.tdiv z 4))),.int .u32 (wI 0 (Int.tmod z 4) x 0)]) (ok:=fun _=>True) (okp:=fun _=>True) ?hr ?hp (fun _ hk=>hk) trivial (Below.refl _ _) (Nat.le_refl _) (by simp) ?_;(case hd=>rfl);(case hg=>rfl);(case hr=>first|(go_simp;done)|(go_simp;rfl));(case hp=>repeat (first|exact Reps.none _ _|refine Reps.one (show Kd.M (Kd.int .u32) _ _ _ _ [_] from rfl) ?_));intro vHO wn ho hb hg_ hnew_;clear hg_ hnew_;(first|rw [← Y1.out] at ho|(simp only [Int.reduceToNat] at ho;rw [← Y1.out] at ho));have HO:=Ak (Kd.R_lower ho (below_size (by repeat (first|exact HB.out|apply below_alloc|apply pw_below_drewN|apply below_drew1))));clear ho;have n1_:=Ak (below_step (by repeat (first|exact HB.out|apply below_alloc|apply pw_below_drewN|apply below_drew1)) hb);clear HB;have HB:=n1_;clear n1_ hb))
   go_ret2
   exact ⟨_,rfl,by rw [E.out];exact HO.out,(by repeat (first|exact HB.out|apply below_alloc|apply pw_below_drewN|apply below_drew1))⟩
 ·have t0:decide (a<6)=false:=decide_eq_false (by omega)
  have t1:decide (a<9)=true:=decide_eq_true (by omega)
  obtain ⟨y1,hy1⟩:∃ q:List Int,q=[wI 8 4 x y,wI 7 (wrap64 (6+Int.tmod z 3)) 4 (Int.tmod z 4),wI 17 10 4 0]:=⟨_,rfl⟩
  have Y1:=Ak hy1;clear hy1
  have E:Aside0 (blkL a x y z a2 a3 a4 a5=y1):=⟨by rw [Y1.out];unfold blkL;rw [if_neg (by first|omega|(rintro ⟨q1,q2⟩;first|omega|(cases q2;done)|(obtain ⟨q2,q3⟩:=q2;first|omega|(cases q2;done))))];rw [if_pos (by first|omega|exact ⟨by omega,rfl⟩|exact ⟨by omega,rfl,by omega⟩)];skip⟩
  clear ha g0 g1 g2 g3 g4 g5 g6 g7 g8 g9 g10 g11
  go_wp2_with (first|(go_at_call 119;refine (l4I_calls _ _ _ _ _ ?hI).mono ?_;(case hI=>have hz:=TZ.out;unfold inI;(try simp only [wrap64] at hz ⊢);omega);rintro e wn ⟨rfl,hb⟩;have n1_:=Ak (below_step (by repeat (first|exact HB.out|apply below_alloc|apply pw_below_drewN|apply below_drew1)) hb);clear HB;have HB:=n1_;clear n1_ hb)|(go_at_call 118;refine (l4W_calls _ _ _ _ ?hI).mono ?_;(case hI=>have hz:=TZ.out;unfold inW;(try simp only [wrap64] at hz ⊢);omega);rintro e wn ⟨rfl,hb⟩;have n1_:=Ak (below_step (by repeat (first|exact HB.out|apply below_alloc|apply pw_below_drewN|apply below_drew1)) hb);clear HB;have HB:=n1_;clear n1_ hb)|((with_reducible refine gate_dst (N:=80) rfl ?_);refine Kd.R_lit (Kd.int .u32) _ 78 ?hg (N:=80) ?hd (xs:=([wI 8 4 x y,wI 7 (wrap64 (6+Int.tmod z 3)) 4 (Int.tmod z 4),wI 17 10 4 0]:List Int)) (inner:=[.int .u32 (wI 8 4 x y),.int .u32 (wI 7 (wrap64 (6+Int.tmod z 3)) 4 (Int.tmod z 4)),.int .u32 (wI 17 10 4 0)]) (ok:=fun _=>True) (okp:=fun _=>True) ?hr ?hp (fun _ hk=>hk) trivial (Below.refl _ _) (Nat.le_refl _) (by simp) ?_;(case hd=>rfl);(case hg=>rfl);(case hr=>first|(go_simp;done)|(go_simp;rfl));(case hp=>repeat (first|exact Reps.none _ _|refine Reps.one (show Kd.M (Kd.int .u32) _ _ _ _ [_] from rfl) ?_));intro vHO wn ho hb hg_ hnew_;clear hg_ hnew_;(first|rw [← Y1.out] at ho|(simp only [Int.reduceToNat] at ho;rw [← Y1.out] at ho));have HO:=Ak (Kd.R_lower ho (below_size (by repeat (first|exact HB.out|apply below_alloc|apply pw_below_drewN|apply below_drew1))));clear ho;have n1_:=Ak (below_step (by repeat (first|exact HB.out|apply below_alloc|apply pw_below_drewN|apply below_drew1)) hb);clear HB;have HB:=n1_;clear n1_ hb))
  go_ret2
  exact ⟨_,rfl,by rw [E.out];exact HO.out,(by repeat (first|exact HB.out|apply below_alloc|apply pw_below_drewN|apply below_drew1))⟩
 ·have t0:decide (a<6)=false:=decide_eq_false (by omega)
  have t1:decide (a<9)=false:=decide_eq_false (by omega)
  have t2:(a == 9)=true:=beq_iff_eq.mpr (by omega)
  obtain ⟨y1,hy1⟩:∃ q:List Int,q=[wI 14 5 5 x,wI 17 y 5 0]:=⟨_,rfl⟩
  have Y1:=Ak hy1;clear hy1
  have E:Aside0 (blkL a x y z a2 a3 a4 a5=y1):=⟨by rw [Y1.out];unfold blkL;rw [if_neg (by first|omega|(rintro ⟨q1,q2⟩;first|omega|(cases q2;done)|(obtain ⟨q2,q3⟩:=q2;first|omega|(cases q2;done))))];rw [if_neg (by first|omega|(rintro ⟨q1,q2⟩;first|omega|(cases q2;done)|(obtain ⟨q2,q3⟩:=q2;first|omega|(cases q2;done))))];rw [if_pos (by first|omega|exact ⟨by omega,rfl⟩|exact ⟨by omega,rfl,by omega⟩)];skip⟩
  clear ha g0 g1 g2 g3 g4 g5 g6 g7 g8 g9 g10 g11
  go_wp2_with (first|(go_at_call 119;refine (l4I_calls _ _ _ _ _ ?hI).mono ?_;(case hI=>have hz:=TZ.out;unfold inI;(try simp only [wrap64] at hz ⊢);omega);rintro e wn ⟨rfl,hb⟩;have n1_:=Ak (below_step (by repeat (first|exact HB.out|apply below_alloc|apply pw_below_drewN|apply below_drew1)) hb);clear HB;have HB:=n1_;clear n1_ hb)|(go_at_call 118;refine (l4W_calls _ _ _ _ ?hI).mono ?_;(case hI=>have hz:=TZ.out;unfold inW;(try simp only [wrap64] at hz ⊢);omega);rintro e wn ⟨rfl,hb⟩;have n1_:=Ak (below_step (by repeat (first|exact HB.out|apply below_alloc|apply pw_below_drewN|apply below_drew1)) hb);clear HB;have HB:=n1_;clear n1_ hb)|((with_reducible refine gate_dst (N:=88) rfl ?_);refine Kd.R_lit (Kd.int .u32) _ 78 ?hg (N:=88) ?hd (xs:=([wI 14 5 5 x,wI 17 y 5 0]:List Int)) (inner:=[.int .u32 (wI 14 5 5 x),.int .u32 (wI 17 y 5 0)]) (ok:=fun _=>True) (okp:=fun _=>True) ?hr ?hp (fun _ hk=>hk) trivial (Below.refl _ _) (Nat.le_refl _) (by simp) ?_;(case hd=>rfl);(case hg=>rfl);(case hr=>first|(go_simp;done)|(go_simp;rfl));(case hp=>repeat (first|exact Reps.none _ _|refine Reps.one (show Kd.M (Kd.int .u32) _ _ _ _ [_] from rfl) ?_));intro vHO wn ho hb hg_ hnew_;clear hg_ hnew_;(first|rw [← Y1.out] at ho|(simp only [Int.reduceToNat] at ho;rw [← Y1.out] at ho));have HO:=Ak (Kd.R_lower ho (below_size (by repeat (first|exact HB.out|apply below_alloc|apply pw_below_drewN|apply below_drew1))));clear ho;have n1_:=Ak (below_step (by repeat (first|exact HB.out|apply below_alloc|apply pw_below_drewN|apply below_drew1)) hb);clear HB;have HB:=n1_;clear n1_ hb))
  go_ret2
  exact ⟨_,rfl,by rw [E.out];exact HO.out,(by repeat (first|exact HB.out|apply below_alloc|apply pw_below_drewN|apply below_drew1))⟩
 ·have t0:decide (a<6)=false:=decide_eq_false (by omega)
  have t1:decide (a<9)=false:=decide_eq_false (by omega)
  have t2:(a == 9)=false:=beq_eq_false_iff_ne.mpr (by omega)
  have t3:decide (a<12)=true:=decide_eq_true (by omega)
  obtain ⟨y1,hy1⟩:∃ q:List Int,q=[wI (wrap64 (19+Int.tmod z 2)) (Int.tmod (wrap64 (Int.tdiv z 2)) 2) x y,wW 18 0 1,wI 9 x x 3,wI 16 y x 0]:=⟨_,rfl⟩
  have Y1:=Ak hy1;clear hy1
  have E:Aside0 (blkL a x y z a2 a3 a4 a5=y1):=⟨by rw [Y1.out];unfold blkL;rw [if_neg (by first|omega|(rintro ⟨q1,q2⟩;first|omega|(cases q2;done)|(obtain ⟨q2,q3⟩:=q2;first|omega|(cases q2;done))))];rw [if_neg (by first|omega|(rintro ⟨q1,q2⟩;first|omega|(cases q2;done)|(obtain ⟨q2,q3⟩:=q2;first|omega|(cases q2;done))))];rw [if_neg (by first|omega|(rintro ⟨q1,q2⟩;first|omega|(cases q2;done)|(obtain ⟨q2,q3⟩:=q2;first|omega|(cases q2;done))))];rw [if_pos (by first|omega|exact ⟨by omega,rfl⟩|exact ⟨by omega,rfl,by omega⟩)];skip⟩
  clear ha g0 g1 g2 g3 g4 g5 g6 g7 g8 g9 g10 g11
  go_wp2_with (first|(go_at_call 119;refine (l4I_calls _ _ _ _ _ ?hI).mono ?_;(case hI=>have hz:=TZ.out;unfold inI;(try simp only [wrap64] at hz ⊢);omega);rintro e wn ⟨rfl,hb⟩;have n1_:=Ak (below_step (by repeat (first|exact HB.out|apply below_alloc|apply pw_below_drewN|apply below_drew1)) hb);clear HB;have HB:=n1_;clear n1_ hb)|(go_at_call 118;refine (l4W_calls _ _ _ _ ?hI).mono ?_;(case hI=>have hz:=TZ.out;unfold inW;(try simp only [wrap64] at hz ⊢);omega);rintro e wn ⟨rfl,hb⟩;have n1_:=Ak (below_step (by repeat (first|exact HB.out|apply below_alloc|apply pw_below_drewN|apply below_drew1)) hb);clear HB;have HB:=n1_;clear n1_ hb)|((with_reducible refine gate_dst (N:=108) rfl ?_);refine Kd.R_lit (Kd.int .u32) _ 78 ?hg (N:=108) ?hd (xs:=([wI (wrap64 (19+Int.tmod z 2)) (Int.tmod (wrap64 (Int.tdiv z 2)) 2) x y,wW 18 0 1,wI 9 x x 3,wI 16 y x 0]:List Int)) (inner:=[.int .u32 (wI (wrap64 (19+Int.tmod z 2)) (Int.tmod (wrap64 (Int.tdiv z 2)) 2) x y),.int .u32 (wW 18 0 1),.int .u32 (wI 9 x x 3),.int .u32 (wI 16 y x 0)]) (ok:=fun _=>True) (okp:=fun _=>True) ?hr ?hp (fun _ hk=>hk) trivial (Below.refl _ _) (Nat.le_refl _) (by simp) ?_;(case hd=>rfl);(case hg=>rfl);(case hr=>first|(go_simp;done)|(go_simp;rfl));(case hp=>repeat (first|exact Reps.none _ _|refine Reps.one (show Kd.M (Kd.int .u32) _ _ _ _ [_] from rfl) ?_));intro vHO wn ho hb hg_ hnew_;clear hg_ hnew_;(first|rw [← Y1.out] at ho|(simp only [Int.reduceToNat] at ho;rw [← Y1.out] at ho));have HO:=Ak (Kd.R_lower ho (below_size (by repeat (first|exact HB.out|apply below_alloc|apply pw_below_drewN|apply below_drew1))));clear ho;have n1_:=Ak (below_step (by repeat (first|exact HB.out|apply below_alloc|apply pw_below_drewN|apply below_drew1)) hb);clear HB;have HB:=n1_;clear n1_ hb))
  go_ret2
  exact ⟨_,rfl,by rw [E.out];exact HO.out,(by repeat (first|exact HB.out|apply below_alloc|apply pw_below_drewN|apply below_drew1))⟩
 ·have t0:decide (a<6)=false:=decide_eq_false (by omega)
  have t1:decide (a<9)=false:=decide_eq_false (by omega)
  have t2:(a == 9)=false:=beq_eq_false_iff_ne.mpr (by omega)
  have t3:decide (a<12)=false:=decide_eq_false (by omega)
  have t4:(a == 12)=true:=beq_iff_eq.mpr (by omega)
  obtain ⟨y1,hy1⟩:∃ q:List Int,q=[wI 15 10 x 0,wI 21 10 0 (Int.tmod z 2),wW 18 0 1,wI 0 x y 0,wI 2 8 2 0]:=⟨_,rfl⟩
  have Y1:=Ak hy1;clear hy1
  have E:Aside0 (blkL a x y z a2 a3 a4 a5=y1):=⟨by rw [Y1.out];unfold blkL;rw [if_neg (by first|omega|(rintro ⟨q1,q2⟩;first|omega|(cases q2;done)|(obtain ⟨q2,q3⟩:=q2;first|omega|(cases q2;done))))];rw [if_neg (by first|omega|(rintro ⟨q1,q2⟩;first|omega|(cases q2;done)|(obtain ⟨q2,q3⟩:=q2;first|omega|(cases q2;done))))];rw [if_neg (by first|omega|(rintro ⟨q1,q2⟩;first|omega|(cases q2;done)|(obtain ⟨q2,q3⟩:=q2;first|omega|(cases q2;done))))];rw [if_neg (by first|omega|(rintro ⟨q1,q2⟩;first|omega|(cases q2;done)|(obtain ⟨q2,q3⟩:=q2;first|omega|(cases q2;done))))];rw [if_pos (by first|omega|exact ⟨by omega,rfl⟩|exact ⟨by omega,rfl,by omega⟩)];skip⟩
  clear ha g0 g1 g2 g3 g4 g5 g6 g7 g8 g9 g10 g11
  go_wp2_with (first|(go_at_call 119;refine (l4I_calls _ _ _ _ _ ?hI).mono ?_;(case hI=>have hz:=TZ.out;unfold inI;(try simp only [wrap64] at hz ⊢);omega);rintro e wn ⟨rfl,hb⟩;have n1_:=Ak (below_step (by repeat (first|exact HB.out|apply below_alloc|apply pw_below_drewN|apply below_drew1)) hb);clear HB;have HB:=n1_;clear n1_ hb)|(go_at_call 118;refine (l4W_calls _ _ _ _ ?hI).mono ?_;(case hI=>have hz:=TZ.out;unfold inW;(try simp only [wrap64] at hz ⊢);omega);rintro e wn ⟨rfl,hb⟩;have n1_:=Ak (below_step (by repeat (first|exact HB.out|apply below_alloc|apply pw_below_drewN|apply below_drew1)) hb);clear HB;have HB:=n1_;clear n1_ hb)|((with_reducible refine gate_dst (N:=122) rfl ?_);refine Kd.R_lit (Kd.int .u32) _ 78 ?hg (N:=122) ?hd (xs:=([wI 15 10 x 0,wI 21 10 0 (Int.tmod z 2),wW 18 0 1,wI 0 x y 0,wI 2 8 2 0]:List Int)) (inner:=[.int .u32 (wI 15 10 x 0),.int .u32 (wI 21 10 0 (Int.tmod z 2)),.int .u32 (wW 18 0 1),.int .u32 (wI 0 x y 0),.int .u32 (wI 2 8 2 0)]) (ok:=fun _=>True) (okp:=fun _=>True) ?hr ?hp (fun _ hk=>hk) trivial (Below.refl _ _) (Nat.le_refl _) (by simp) ?_;(case hd=>rfl);(case hg=>rfl);(case hr=>first|(go_simp;done)|(go_simp;rfl));(case hp=>repeat (first|exact Reps.none _ _|refine Reps.one (show Kd.M (Kd.int .u32) _ _ _ _ [_] from rfl) ?_));intro vHO wn ho hb hg_ hnew_;clear hg_ hnew_;(first|rw [← Y1.out] at ho|(simp only [Int.reduceToNat] at ho;rw [← Y1.out] at ho));have HO:=Ak (Kd.R_lower ho (below_size (by repeat (first|exact HB.out|apply below_alloc|apply pw_below_drewN|apply below_drew1))));clear ho;have n1_:=Ak (below_step (by repeat (first|exact HB.out|apply below_alloc|apply pw_below_drewN|apply below_drew1)) hb);clear HB;have HB:=n1_;clear n1_ hb))
  go_ret2
  exact ⟨_,rfl,by rw [E.out];exact HO.out,(by repeat (first|exact HB.out|apply below_alloc|apply pw_below_drewN|apply below_drew1))⟩
 ·have t0:decide (a<6)=false:=decide_eq_false (by omega)
  have t1:decide (a<9)=false:=decide_eq_false (by omega)
  have t2:(a == 9)=false:=beq_eq_false_iff_ne.mpr (by omega)
  have t3:decide (a<12)=false:=decide_eq_false (by omega)
  have t4:(a == 12)=false:=beq_eq_false_iff_ne.mpr (by omega)
  have t5:decide (a<15)=true:=decide_eq_true (by omega)
  obtain ⟨y1,hy1⟩:∃ q:List Int,q=[wI 0 6 x 0,wW 1 7 2,wW 1 8 3]:=⟨_,rfl⟩
  have Y1:=Ak hy1;clear hy1
  obtain ⟨y2,hy2⟩:∃ q:List Int,q=[wI 9 y y 9,wI 8 4 9 y]:=⟨_,rfl⟩
  have Y2:=Ak hy2;clear hy2
  obtain ⟨y3,hy3⟩:∃ q:List Int,q=[wW 25 10 (Int.tmod (wrap64 (Int.tdiv z 2)) a2),wI 8 4 5 10,wI 26 (Int.tmod z 10) 0 0]:=⟨_,rfl⟩
  have Y3:=Ak hy3;clear hy3
  obtain ⟨L,hL⟩:∃ q:List Int,q=loopB y z a2:=⟨_,rfl⟩
  obtain ⟨B,hB⟩:∃ B,decide (0<a2∧Int.tmod z 2=0)=B:=⟨_,rfl⟩
  have E:Aside0 (blkL a x y z a2 a3 a4 a5=y1++[wW 27 6 (wrap64 ((L.length:Int)+1))]++L++[wW 28 6 (wrap64 (wrap64 (-(L.length:Int))-1))]):=⟨by unfold blkL;rw [if_neg (by first|omega|(rintro ⟨q1,q2⟩;first|omega|(cases q2;done)|(obtain ⟨q2,q3⟩:=q2;first|omega|(cases q2;done))))];rw [if_neg (by first|omega|(rintro ⟨q1,q2⟩;first|omega|(cases q2;done)|(obtain ⟨q2,q3⟩:=q2;first|omega|(cases q2;done))))];rw [if_neg (by first|omega|(rintro ⟨q1,q2⟩;first|omega|(cases q2;done)|(obtain ⟨q2,q3⟩:=q2;first|omega|(cases q2;done))))];rw [if_neg (by first|omega|(rintro ⟨q1,q2⟩;first|omega|(cases q2;done)|(obtain ⟨q2,q3⟩:=q2;first|omega|(cases q2;done))))];rw [if_neg (by first|omega|(rintro ⟨q1,q2⟩;first|omega|(cases q2;done)|(obtain ⟨q2,q3⟩:=q2;first|omega|(cases q2;done))))];rw [if_pos (by first|omega|exact ⟨by omega,rfl⟩|exact ⟨by omega,rfl,by omega⟩)];unfold loopL;rw [← hL,Y1.out]⟩
  have EL:Aside0 (L=if B=true then y2++y3 else y2):=⟨by rw [hL,← hB,Y2.out,Y3.out];unfold loopB;by_cases c:0<a2∧Int.tmod z 2=0 <;> simp [c]⟩
  have LL:Aside0 (L.length≤5):=⟨by rw [EL.out,Y2.out,Y3.out];cases B <;> simp⟩
  have TA:Aside0 (0<a2→0≤Int.tmod (wrap64 (Int.tdiv z 2)) a2∧Int.tmod (wrap64 (Int.tdiv z 2)) a2≤100):=⟨fun h=>by
   have w2:wrap64 (z / 2)=z / 2:=by unfold wrap64;omega
   rw [Int.tdiv_eq_ediv_of_nonneg g6,w2,Int.tmod_eq_emod_of_nonneg (show 0≤z / 2 by omega)];have:=Int.emod_nonneg (z / 2) (show a2≠0 by omega);have:=Int.emod_lt_of_pos (z / 2) h;omega⟩
  have HBB:=Ak hB;clear hL hB ha g0 g1 g2 g3 g4 g5 g6 g7 g8 g9 g10 g11
  go_upto_region 22 with (first|(have hq:=HO;clear hq;go_at_call 119;refine (l4I_calls _ _ _ _ _ ?hI).mono ?_;(case hI=>have hz:=TZ.out;unfold inI;(try simp only [wrap64] at hz ⊢);omega);rintro e wn ⟨rfl,hb⟩;have mHO:=Ak (Kd.R_below (by (with_reducible repeat (first|apply Kd.R_alloc|apply Kd.R_drewN|apply Kd.R_drew));exact HO.out) hb);clear HO;have HO:=mHO;clear mHO;have n1_:=Ak (below_step (by repeat (first|exact HB.out|apply below_alloc|apply pw_below_drewN|apply below_drew1)) hb);clear HB;have HB:=n1_;clear n1_ hb)|(go_at_call 119;refine (l4I_calls _ _ _ _ _ ?hI).mono ?_;(case hI=>have hz:=TZ.out;unfold inI;(try simp only [wrap64] at hz ⊢);omega);rintro e wn ⟨rfl,hb⟩;have n1_:=Ak (below_step (by repeat (first|exact HB.out|apply below_alloc|apply pw_below_drewN|apply below_drew1)) hb);clear HB;have HB:=n1_;clear n1_ hb)|(go_at_call 118;refine (l4W_calls _ _ _ _ ?hI).mono ?_;(case hI=>have hz:=TZ.out;unfold inW;(try simp only [wrap64] at hz ⊢);omega);rintro e wn ⟨rfl,hb⟩;have n1_:=Ak (below_step (by repeat (first|exact HB.out|apply below_alloc|apply pw_below_drewN|apply below_drew1)) hb);clear HB;have HB:=n1_;clear n1_ hb)|((with_reducible refine gate_dst (N:=130) rfl ?_);refine Kd.R_lit (Kd.int .u32) _ 78 ?hg (N:=130) ?hd (xs:=([wI 0 6 x 0,wW 1 7 2,wW 1 8 3]:List Int)) (inner:=[.int .u32 (wI 0 6 x 0),.int .u32 (wW 1 7 2),.int .u32 (wW 1 8 3)]) (ok:=fun _=>True) (okp:=fun _=>True) ?hr ?hp (fun _ hk=>hk) trivial (Below.refl _ _) (Nat.le_refl _) (by simp) ?_;(case hd=>rfl);(case hg=>rfl);(case hr=>first|(go_simp;done)|(go_simp;rfl));(case hp=>repeat (first|exact Reps.none _ _|refine Reps.one (show Kd.M (Kd.int .u32) _ _ _ _ [_] from rfl) ?_));intro vHO wn ho hb hg_ hnew_;clear hg_ hnew_;(first|rw [← Y1.out] at ho|(simp only [Int.reduceToNat] at ho;rw [← Y1.out] at ho));have HO:=Ak (Kd.R_lower ho (below_size (by repeat (first|exact HB.out|apply below_alloc|apply pw_below_drewN|apply below_drew1))));clear ho;have n1_:=Ak (below_step (by repeat (first|exact HB.out|apply below_alloc|apply pw_below_drewN|apply below_drew1)) hb);clear HB;have HB:=n1_;clear n1_ hb)|((with_reducible refine gate_dst (N:=136) rfl ?_);refine Kd.R_lit (Kd.int .u32) _ 78 ?hg (N:=136) ?hd (xs:=([wI 9 y y 9,wI 8 4 9 y]:List Int)) (inner:=[.int .u32 (wI 9 y y 9),.int .u32 (wI 8 4 9 y)]) (ok:=fun _=>True) (okp:=fun _=>True) ?hr ?hp (fun _ hk=>hk) trivial (Below.refl _ _) (Nat.le_refl _) (by simp) ?_;(case hd=>rfl);(case hg=>rfl);(case hr=>first|(go_simp;done)|(go_simp;rfl));(case hp=>repeat (first|exact Reps.none _ _|refine Reps.one (show Kd.M (Kd.int .u32) _ _ _ _ [_] from rfl) ?_));intro vHP wn ho hb hg_ hnew_;clear hg_ hnew_;(first|rw [← Y2.out] at ho|(simp only [Int.reduceToNat] at ho;rw [← Y2.out] at ho));have n0_:=Ak (Kd.R_elder' (by (with_reducible repeat (first|apply Kd.R_alloc|apply Kd.R_drewN|apply Kd.R_drew));exact HO.out) (Kd.R_base ho) hb);have n2_:=Ak (Kd.R_lower (Kd.R_new' ho (Kd.R_lt (by (with_reducible repeat (first|apply Kd.R_alloc|apply Kd.R_drewN|apply Kd.R_drew));exact HO.out))) (below_size (by repeat (first|exact HB.out|apply below_alloc|apply pw_below_drewN|apply below_drew1))));clear HO;have HO:=n0_;have HP:=n2_;clear n0_ n2_ ho;have n1_:=Ak (below_step (by repeat (first|exact HB.out|apply below_alloc|apply pw_below_drewN|apply below_drew1)) hb);clear HB;have HB:=n1_;clear n1_ hb;obtain ⟨AHP,cHP,eHP⟩:=Kd.R_slice HP.out;subst eHP))
  obtain ⟨A1,c1,e1⟩:=Kd.R_slice HO.out
  subst e1
  go_cut [143] (fun sb wx=>sb=.bool B∧Aside0 (Kd.R (Kd.int .u32) 78 wx w.heap.size (fun k_=>some k_≠(.slice AHP y2.length cHP:Value).ownBlock) (.slice A1 y1.length c1) y1)∧Aside0 (Kd.R (Kd.int .u32) 78 wx w.heap.size (fun k_=>some k_≠(.slice A1 y1.length c1:Value).ownBlock) (.slice AHP y2.length cHP) y2)∧Aside0 (Below w.heap.size w wx))
  case first =>
   by_cases n0:0<a2
   ·as_aux_lemma =>
     have d1:decide (0<a2)=true:=decide_eq_true n0
     by_cases n1:Int.tmod z 2=0
     ·have d2:(Int.tmod z 2 == 0)=true:=beq_iff_eq.mpr n1
      have dd:B=true:=by rw [← HBB.out];exact decide_eq_true ⟨n0,n1⟩
      clear n1
      go_wp2
      go_meet
      exact ⟨by rw [dd],⟨by (with_reducible repeat (first|apply Kd.R_alloc|apply Kd.R_drewN|apply Kd.R_drew));exact Kd.R_mono HO.out (fun _ hk=>hk.2)⟩,⟨by (with_reducible repeat (first|apply Kd.R_alloc|apply Kd.R_drewN|apply Kd.R_drew));exact Kd.R_mono HP.out (fun _ hk=>hk.2)⟩,⟨(by repeat (first|exact HB.out|apply below_alloc|apply pw_below_drewN|apply below_drew1))⟩⟩
     ·have d2:(Int.tmod z 2 == 0)=false:=beq_eq_false_iff_ne.mpr n1
      have dd:B=false:=by rw [← HBB.out];exact decide_eq_false (fun h=>n1 h.2)
      go_wp2
      go_meet
      exact ⟨by rw [dd],⟨by (with_reducible repeat (first|apply Kd.R_alloc|apply Kd.R_drewN|apply Kd.R_drew));exact Kd.R_mono HO.out (fun _ hk=>hk.2)⟩,⟨by (with_reducible repeat (first|apply Kd.R_alloc|apply Kd.R_drewN|apply Kd.R_drew));exact Kd.R_mono HP.out (fun _ hk=>hk.2)⟩,⟨(by repeat (first|exact HB.out|apply below_alloc|apply pw_below_drewN|apply below_drew1))⟩⟩
   ·as_aux_lemma =>
     have d1:decide (0<a2)=false:=decide_eq_false n0
     have dd:B=false:=by rw [← HBB.out];exact decide_eq_false (fun h=>n0 h.1)
     go_wp2
     go_meet
     exact ⟨by rw [dd],⟨by (with_reducible repeat (first|apply Kd.R_alloc|apply Kd.R_drewN|apply Kd.R_drew));exact Kd.R_mono HO.out (fun _ hk=>hk.2)⟩,⟨by (with_reducible repeat (first|apply Kd.R_alloc|apply Kd.R_drewN|apply Kd.R_drew));exact Kd.R_mono HP.out (fun _ hk=>hk.2)⟩,⟨(by repeat (first|exact HB.out|apply below_alloc|apply pw_below_drewN|apply below_drew1))⟩⟩
  case rest =>
  obtain ⟨rfl,HO1,HP1,HB1⟩:=hcut
  clear HO HP HB;have HO:=HO1;have HP:=HP1;have HB:=HB1;clear HO1 HP1 HB1
  go_upto_if 143 with (fail)
  go_cut [20] (fun v20 wx=>∃ (A:Option Addr) (q:Nat),v20=.slice A L.length q∧Aside0 (Kd.R (Kd.int .u32) 78 wx w.heap.size (fun k_=>some k_≠(.slice A L.length q:Value).ownBlock) (.slice A1 y1.length c1) y1)∧Aside0 (Kd.R (Kd.int .u32) 78 wx w.heap.size (fun k_=>some k_≠(.slice A1 y1.length c1:Value).ownBlock) (.slice A L.length q) L)∧Aside0 (Below w.heap.size w wx))
  case first =>
   cases B
   ·as_aux_lemma =>
     have e:L=y2:=EL.out
     have EE:=Ak e;clear e
     go_wp2
     go_meet
     rw [EE.out]
     exact ⟨AHP,cHP,rfl,⟨(by (with_reducible repeat (first|apply Kd.R_alloc|apply Kd.R_drewN|apply Kd.R_drew));exact HO.out)⟩,⟨(by (with_reducible repeat (first|apply Kd.R_alloc|apply Kd.R_drewN|apply Kd.R_drew));exact HP.out)⟩,⟨(by repeat (first|exact HB.out|apply below_alloc|apply pw_below_drewN|apply below_drew1))⟩⟩
   ·as_aux_lemma =>
     have e:L=y2++y3:=EL.out
     have n0:0<a2:=(of_decide_eq_true HBB.out).1
     have TU:=Ak (TA.out n0)
     have ck:¬ a2=0:=by omega
     have cb0:(a2 == 0)=false:=beq_eq_false_iff_ne.mpr ck
     have cb1:(a2 != 0)=true:=bne_iff_ne.mpr ck
     clear n0
     have LM:Aside0 (y2.length+y3.length<35184372088832):=⟨by rw [Y2.out,Y3.out];simp⟩
     have EE:=Ak e;clear e
     go_wp2_with (first|(have hq:=HO;clear hq;have hq:=HP;clear hq;go_at_call 118;refine (l4W_calls _ _ _ _ ?hI).mono ?_;(case hI=>have hz:=TZ.out;have hu:=TU.out;unfold inW;(try simp only [wrap64] at hz hu ⊢);omega);rintro e wn ⟨rfl,hb⟩;have mHO:=Ak (Kd.R_below (by (with_reducible repeat (first|apply Kd.R_alloc|apply Kd.R_drewN|apply Kd.R_drew));exact HO.out) hb);clear HO;have HO:=mHO;clear mHO;have mHP:=Ak (Kd.R_below (by (with_reducible repeat (first|apply Kd.R_alloc|apply Kd.R_drewN|apply Kd.R_drew));exact HP.out) hb);clear HP;have HP:=mHP;clear mHP;have n1_:=Ak (below_step (by repeat (first|exact HB.out|apply below_alloc|apply pw_below_drewN|apply below_drew1)) hb);clear HB;have HB:=n1_;clear n1_ hb)|(have hq:=HO;clear hq;have hq:=HP;clear hq;go_at_call 119;refine (l4I_calls _ _ _ _ _ ?hI).mono ?_;(case hI=>have hz:=TZ.out;unfold inI;(try simp only [wrap64] at hz ⊢);omega);rintro e wn ⟨rfl,hb⟩;have mHO:=Ak (Kd.R_below (by (with_reducible repeat (first|apply Kd.R_alloc|apply Kd.R_drewN|apply Kd.R_drew));exact HO.out) hb);clear HO;have HO:=mHO;clear mHO;have mHP:=Ak (Kd.R_below (by (with_reducible repeat (first|apply Kd.R_alloc|apply Kd.R_drewN|apply Kd.R_drew));exact HP.out) hb);clear HP;have HP:=mHP;clear mHP;have n1_:=Ak (below_step (by repeat (first|exact HB.out|apply below_alloc|apply pw_below_drewN|apply below_drew1)) hb);clear HB;have HB:=n1_;clear n1_ hb)|((with_reducible refine gate_dst (N:=154) rfl ?_);refine Kd.R_lit (Kd.int .u32) _ 78 ?hg (N:=154) ?hd (xs:=([wW 25 10 (Int.tmod (wrap64 (Int.tdiv z 2)) a2),wI 8 4 5 10,wI 26 (Int.tmod z 10) 0 0]:List Int)) (inner:=[.int .u32 (wW 25 10 (Int.tmod (wrap64 (Int.tdiv z 2)) a2)),.int .u32 (wI 8 4 5 10),.int .u32 (wI 26 (Int.tmod z 10) 0 0)]) (ok:=fun _=>True) (okp:=fun _=>True) ?hr ?hp (fun _ hk=>hk) trivial (Below.refl _ _) (Nat.le_refl _) (by simp) ?_;(case hd=>rfl);(case hg=>rfl);(case hr=>first|(go_simp;done)|(go_simp;rfl));(case hp=>repeat (first|exact Reps.none _ _|refine Reps.one (show Kd.M (Kd.int .u32) _ _ _ _ [_] from rfl) ?_));intro vHR wn ho hb hg_ hnew_;clear hg_ hnew_;(first|rw [← Y3.out] at ho|(simp only [Int.reduceToNat] at ho;rw [← Y3.out] at ho));have n0_:=Ak (Kd.R_elder' (by (with_reducible repeat (first|apply Kd.R_alloc|apply Kd.R_drewN|apply Kd.R_drew));exact HO.out) (Kd.R_base ho) hb);have n1_:=Ak (Kd.R_elder' (by (with_reducible repeat (first|apply Kd.R_alloc|apply Kd.R_drewN|apply Kd.R_drew));exact HP.out) (Kd.R_base ho) hb);have n2_:=Ak (Kd.R_lower (Kd.R_new' (Kd.R_new' ho (Kd.R_lt (by (with_reducible repeat (first|apply Kd.R_alloc|apply Kd.R_drewN|apply Kd.R_drew));exact HO.out))) (Kd.R_lt (by (with_reducible repeat (first|apply Kd.R_alloc|apply Kd.R_drewN|apply Kd.R_drew));exact HP.out))) (below_size (by repeat (first|exact HB.out|apply below_alloc|apply pw_below_drewN|apply below_drew1))));clear HO HP;have HO:=n0_;have HP:=n1_;have HR_:=n2_;clear n0_ n1_ n2_ ho;have n1_:=Ak (below_step (by repeat (first|exact HB.out|apply below_alloc|apply pw_below_drewN|apply below_drew1)) hb);clear HB;have HB:=n1_;clear n1_ hb;obtain ⟨AHR,cHR,eHR⟩:=Kd.R_slice HR_.out;subst eHR)|((with_reducible refine gate_builtin (b:=.append) (xs:=#[.tmp 144,.tmp 154]) rfl ?_);at_builtin;refine Kd.R_append_rows (Kd.int .u32) (w0:=w) w.heap.size rfl (.tmp 144) (.tmp 154) 38 78 (.int .u32 0) 4 rfl Try.underlying38 info78 rfl (by decide) (by omega) (.slice AHP y2.length cHP) y2 y3 _ _ _ (fun k_=>some k_≠(.slice A1 y1.length c1:Value).ownBlock∧some k_≠(.slice AHR y3.length cHR:Value).ownBlock) (fun _=>False) rfl rfl ?aO ?aR (fun _ _ h=>h) (fun _ h=>h.elim) ?aF ?aB ?aS ?aL ?_;(case aR=>repeat (first|exact (Kd.R_reads' HR_.out).2.2|(with_reducible refine Kd.C_alloc ?_ _)|(with_reducible refine Kd.C_drewN ?_ _)|(with_reducible refine Kd.C_drew ?_)));(case aB=>exact (by repeat (first|exact HB.out|apply below_alloc|apply pw_below_drewN|apply below_drew1)));(case aF=>exact (fun k_ hk=>⟨Kd.fresh' (Kd.R_lt (by (with_reducible repeat (first|apply Kd.R_alloc|apply Kd.R_drewN|apply Kd.R_drew));exact HO.out)) k_ hk,Kd.fresh' (Kd.R_lt (by (with_reducible repeat (first|apply Kd.R_alloc|apply Kd.R_drewN|apply Kd.R_drew));exact HR_.out)) k_ hk⟩));(case aO=>exact (by (with_reducible repeat (first|apply Kd.R_alloc|apply Kd.R_drewN|apply Kd.R_drew));exact HP.out));(case aS=>exact (below_size (by repeat (first|exact HB.out|apply below_alloc|apply pw_below_drewN|apply below_drew1))));(case aL=>have:=LM.out;omega);intro vHQ wn ho hb hg hat;have n0_:=Ak (Kd.R_after (ok:=(fun k_=>some k_≠(.slice AHR y3.length cHR:Value).ownBlock)) (by (with_reducible repeat (first|apply Kd.R_alloc|apply Kd.R_drewN|apply Kd.R_drew));exact Kd.R_mono HO.out (fun _ hk=>⟨hk.2,hk.1⟩)) hg hat);have n1_:=Ak hb;have n2_:=Ak ho;clear HO HB HP HR_ hb ho hg hat;have HO:=n0_;have HB:=n1_;have HQ:=n2_;clear n0_ n1_ n2_))
     obtain ⟨Aq,cq,eq_⟩:=Kd.R_slice HQ.out
     subst eq_
     go_meet
     rw [EE.out]
     exact ⟨Aq,cq,rfl,⟨by (with_reducible repeat (first|apply Kd.R_alloc|apply Kd.R_drewN|apply Kd.R_drew));exact Kd.R_mono HO.out (fun _ hk=>hk.2)⟩,⟨by (with_reducible repeat (first|apply Kd.R_alloc|apply Kd.R_drewN|apply Kd.R_drew));exact Kd.R_mono HQ.out (fun _ hk=>hk.1)⟩,⟨(by repeat (first|exact HB.out|apply below_alloc|apply pw_below_drewN|apply below_drew1))⟩⟩
  case rest =>
  obtain ⟨A,q,rfl,HO1,HP1,HB1⟩:=hcut
  clear HO HP HB;have HO:=HO1;have HP:=HP1;have HB:=HB1;clear HO1 HP1 HB1 EL HBB
  have LM:Aside0 ((y1.length+1)*4≤140737488355328):=⟨by rw [Y1.out];simp⟩
  have TU:=LL
  obtain ⟨l1,hl1⟩:∃ q:List Int,q=y1++[wW 27 6 (wrap64 ((L.length:Int)+1))]:=⟨_,rfl⟩
  have N1:=Ak hl1;clear hl1
  go_upto_region 25 with (first|(have hq:=HO;clear hq;have hq:=HP;clear hq;go_at_call 118;refine (l4W_calls _ _ _ _ ?hI).mono ?_;(case hI=>have hz:=TZ.out;have hu:=TU.out;unfold inW;(try simp only [wrap64] at hz hu ⊢);omega);rintro e wn ⟨rfl,hb⟩;have mHO:=Ak (Kd.R_below (by (with_reducible repeat (first|apply Kd.R_alloc|apply Kd.R_drewN|apply Kd.R_drew));exact HO.out) hb);clear HO;have HO:=mHO;clear mHO;have mHP:=Ak (Kd.R_below (by (with_reducible repeat (first|apply Kd.R_alloc|apply Kd.R_drewN|apply Kd.R_drew));exact HP.out) hb);clear HP;have HP:=mHP;clear mHP;have n1_:=Ak (below_step (by repeat (first|exact HB.out|apply below_alloc|apply pw_below_drewN|apply below_drew1)) hb);clear HB;have HB:=n1_;clear n1_ hb)|((with_reducible refine gate_builtin (b:=.append) (xs:=#[.tmp 156,.tmp 161]) rfl ?_);at_builtin;refine Kd.R_append (Kd.int .u32) (w0:=w) w.heap.size rfl (.tmp 156) (.tmp 161) 38 78 (.int .u32 0) 4 rfl Try.underlying38 info78 rfl (by decide) (by omega) (.slice A1 y1.length c1) y1 (wW 27 6 (wrap64 ((L.length:Int)+1))) [.int .u32 (wW 27 6 (wrap64 ((L.length:Int)+1)))] (fun k_=>some k_≠(.slice A L.length q:Value).ownBlock) (fun _=>False) rfl rfl ?aP (fun _ hk=>hk.elim) ?aF ?aO ?aB ?aS ?aL ?_;(case aP=>exact rfl);(case aB=>exact (by repeat (first|exact HB.out|apply below_alloc|apply pw_below_drewN|apply below_drew1)));(case aF=>exact (fun k_ hk=>Kd.fresh' (Kd.R_lt (by (with_reducible repeat (first|apply Kd.R_alloc|apply Kd.R_drewN|apply Kd.R_drew));exact HP.out)) k_ hk));(case aO=>exact (by (with_reducible repeat (first|apply Kd.R_alloc|apply Kd.R_drewN|apply Kd.R_drew));exact HO.out));(case aS=>exact (below_size (by repeat (first|exact HB.out|apply below_alloc|apply pw_below_drewN|apply below_drew1))));(case aL=>have:=LM.out;omega);intro vHQ wn ho hb hg hat;rw [← N1.out] at ho;have n0_:=Ak (Kd.R_after (ok:=(fun _=>True)) (by (with_reducible repeat (first|apply Kd.R_alloc|apply Kd.R_drewN|apply Kd.R_drew));exact Kd.R_mono HP.out (fun _ hk=>⟨trivial,hk⟩)) hg hat);have n1_:=Ak hb;have n2_:=Ak ho;clear HP HB HO hb ho hg hat;have HP:=n0_;have HB:=n1_;have HQ:=n2_;clear n0_ n1_ n2_))
  obtain ⟨A9,q9,e9⟩:=Kd.R_slice HQ.out
  subst e9
  go_wp2
  go_loopg [19,21] L.length (fun kq v19 v21 W'=>∃ (I:Int) (i:Nat) (A9:Option Addr) (q9:Nat) (l:List Int),v19=.slice A9 l.length q9∧v21=.int .i64 I∧Aside0 (I=(i:Int))∧Aside0 (kq=L.length-i)∧Aside0 (i≤L.length)∧Aside0 (l=y1++[wW 27 6 (wrap64 ((L.length:Int)+1))]++L.take i∧l.length=4+i)∧Aside0 (Kd.R (Kd.int .u32) 78 W' w.heap.size (fun k_=>some k_≠(.slice A L.length q:Value).ownBlock) (.slice A9 l.length q9) l)∧Aside0 (Kd.R (Kd.int .u32) 78 W' w.heap.size (fun k_=>some k_≠(.slice A9 l.length q9:Value).ownBlock) (.slice A L.length q) L)∧Aside0 (Below w.heap.size w W'))
  case atStart=>exact ⟨0,0,A9,q9,l1,rfl,rfl,⟨rfl⟩,⟨rfl⟩,⟨Nat.zero_le _⟩,⟨by rw [List.take_zero,List.append_nil,N1.out,Y1.out];exact ⟨rfl,rfl⟩⟩,⟨(by (with_reducible repeat (first|apply Kd.R_alloc|apply Kd.R_drewN|apply Kd.R_drew));exact HQ.out)⟩,⟨by (with_reducible repeat (first|apply Kd.R_alloc|apply Kd.R_drewN|apply Kd.R_drew));exact Kd.R_mono HP.out (fun _ hk=>hk.2)⟩,⟨(by repeat (first|exact HB.out|apply below_alloc|apply pw_below_drewN|apply below_drew1))⟩⟩
  case round =>
   obtain ⟨I,i,A8,q8,l,rfl,rfl,II,HJ,HI,HE,HO1,HP1,HB1⟩:=hrel
   clear HQ HP HB;have HO:=HO1;have HP:=HP1;have HB:=HB1;clear HO1 HP1 HB1
   by_cases hi:i<L.length
   ·as_aux_lemma =>
     have d1:decide (I<(L.length:Int))=true:=decide_eq_true (by rw [II.out];omega)
     have d2:decide (0≤I)=true:=decide_eq_true (by rw [II.out];omega)
     obtain ⟨gm,hgm⟩:∃ gm,gk=gm+1:=⟨gk-1,by have:=HJ.out;omega⟩
     have HGM:=Ak hgm;clear hgm
     have p1_:0≤I:=of_decide_eq_true d2
     have q1_:I<(L.length:Int):=of_decide_eq_true d1
     obtain ⟨ad,ea,hx0⟩:=Kd.at_int (Kd.R_reads' HP.out).2.2 I p1_ q1_
     cases ea
     replace p1_:=eq_true p1_
     replace q1_:=eq_true q1_
     have WW:Aside0 (wrap64 (I+1)=((i+1:Nat):Int)):=⟨by rw [II.out];have:=LL.out;unfold wrap64;omega⟩
     have ET:Aside0 (L.take (i+1)=L.take i++[rd L I]):=⟨by rw [II.out];exact take_rd L i hi⟩
     have HI2:=Ak hi;clear hi
     have LM:Aside0 ((l.length+1)*4≤140737488355328):=⟨by rw [HE.out.2];have:=LL.out;have:=HI.out;omega⟩
     go_wp2_with (first|((with_reducible refine gate_builtin (b:=.append) (xs:=#[.tmp 169,.tmp 174]) rfl ?_);at_builtin;refine Kd.R_append (Kd.int .u32) (w0:=w) w.heap.size rfl (.tmp 169) (.tmp 174) 38 78 (.int .u32 0) 4 rfl Try.underlying38 info78 rfl (by decide) (by omega) (.slice A8 l.length q8) l (rd L I) [.int .u32 (rd L I)] (fun k_=>some k_≠(.slice (some ad) L.length q:Value).ownBlock) (fun _=>False) rfl rfl ?aP (fun _ hk=>hk.elim) ?aF ?aO ?aB ?aS ?aL ?_;(case aP=>exact rfl);(case aB=>exact (by repeat (first|exact HB.out|apply below_alloc|apply pw_below_drewN|apply below_drew1)));(case aF=>exact (fun k_ hk=>Kd.fresh' (Kd.R_lt (by (with_reducible repeat (first|apply Kd.R_alloc|apply Kd.R_drewN|apply Kd.R_drew));exact HP.out)) k_ hk));(case aO=>exact (by (with_reducible repeat (first|apply Kd.R_alloc|apply Kd.R_drewN|apply Kd.R_drew));exact HO.out));(case aS=>exact (below_size (by repeat (first|exact HB.out|apply below_alloc|apply pw_below_drewN|apply below_drew1))));(case aL=>have:=LM.out;omega);intro vHQ wn ho hb hg hat;have n0_:=Ak (Kd.R_after (ok:=(fun _=>True)) (by (with_reducible repeat (first|apply Kd.R_alloc|apply Kd.R_drewN|apply Kd.R_drew));exact Kd.R_mono HP.out (fun _ hk=>⟨trivial,hk⟩)) hg hat);have n1_:=Ak hb;have n2_:=Ak ho;clear HP HB HO hb ho hg hat;have HP:=n0_;have HB:=n1_;have HQ:=n2_;clear n0_ n1_ n2_))
     obtain ⟨A7,q7,e7⟩:=Kd.R_slice HQ.out
     subst e7
     have hgk:=HGM.out
     subst hgk
     go_roundg gm
     case measure=>have:=HJ.out;omega
     case rel=>exact ⟨_,i+1,A7,q7,_,rfl,rfl,⟨WW.out⟩,⟨by have:=HJ.out;omega⟩,⟨by have:=HI2.out;omega⟩,⟨by rw [List.length_append,HE.out.2,ET.out,HE.out.1];exact ⟨by simp,by show 4+i+1=_;omega⟩⟩,⟨(by (with_reducible repeat (first|apply Kd.R_alloc|apply Kd.R_drewN|apply Kd.R_drew));exact HQ.out)⟩,⟨by (with_reducible repeat (first|apply Kd.R_alloc|apply Kd.R_drewN|apply Kd.R_drew));exact Kd.R_mono HP.out (fun _ hk=>hk.2)⟩,⟨(by repeat (first|exact HB.out|apply below_alloc|apply pw_below_drewN|apply below_drew1))⟩⟩
   ·as_aux_lemma =>
     have d1:decide (I<(L.length:Int))=false:=decide_eq_false (by rw [II.out];omega)
     have d0:¬ I<(L.length:Int):=of_decide_eq_false d1
     have EI:Aside0 (l=y1++[wW 27 6 (wrap64 ((L.length:Int)+1))]++L):=⟨by rw [HE.out.1,List.take_of_length_le (by omega)]⟩
     have LM:Aside0 ((l.length+1)*4≤140737488355328):=⟨by rw [HE.out.2];have:=LL.out;have:=HI.out;omega⟩
     clear hi
     go_wp2_with (first|(have hq:=HO;clear hq;have hq:=HP;clear hq;go_at_call 118;refine (l4W_calls _ _ _ _ ?hI).mono ?_;(case hI=>have hz:=TZ.out;have hu:=TU.out;unfold inW;(try simp only [wrap64] at hz hu ⊢);omega);rintro e wn ⟨rfl,hb⟩;have mHO:=Ak (Kd.R_below (by (with_reducible repeat (first|apply Kd.R_alloc|apply Kd.R_drewN|apply Kd.R_drew));exact HO.out) hb);clear HO;have HO:=mHO;clear mHO;have mHP:=Ak (Kd.R_below (by (with_reducible repeat (first|apply Kd.R_alloc|apply Kd.R_drewN|apply Kd.R_drew));exact HP.out) hb);clear HP;have HP:=mHP;clear mHP;have n1_:=Ak (below_step (by repeat (first|exact HB.out|apply below_alloc|apply pw_below_drewN|apply below_drew1)) hb);clear HB;have HB:=n1_;clear n1_ hb)|((with_reducible refine gate_builtin (b:=.append) (xs:=#[.tmp 176,.tmp 182]) rfl ?_);at_builtin;refine Kd.R_append (Kd.int .u32) (w0:=w) w.heap.size rfl (.tmp 176) (.tmp 182) 38 78 (.int .u32 0) 4 rfl Try.underlying38 info78 rfl (by decide) (by omega) (.slice A8 l.length q8) l (wW 28 6 (wrap64 (wrap64 (-(L.length:Int))-1))) [.int .u32 (wW 28 6 (wrap64 (wrap64 (-(L.length:Int))-1)))] (fun k_=>some k_≠(.slice A L.length q:Value).ownBlock) (fun _=>False) rfl rfl ?aP (fun _ hk=>hk.elim) ?aF ?aO ?aB ?aS ?aL ?_;(case aP=>exact rfl);(case aB=>exact (by repeat (first|exact HB.out|apply below_alloc|apply pw_below_drewN|apply below_drew1)));(case aF=>exact (fun k_ hk=>Kd.fresh' (Kd.R_lt (by (with_reducible repeat (first|apply Kd.R_alloc|apply Kd.R_drewN|apply Kd.R_drew));exact HP.out)) k_ hk));(case aO=>exact (by (with_reducible repeat (first|apply Kd.R_alloc|apply Kd.R_drewN|apply Kd.R_drew));exact HO.out));(case aS=>exact (below_size (by repeat (first|exact HB.out|apply below_alloc|apply pw_below_drewN|apply below_drew1))));(case aL=>have:=LM.out;omega);intro vHQ wn ho hb hg hat;have n0_:=Ak (Kd.R_after (ok:=(fun _=>True)) (by (with_reducible repeat (first|apply Kd.R_alloc|apply Kd.R_drewN|apply Kd.R_drew));exact Kd.R_mono HP.out (fun _ hk=>⟨trivial,hk⟩)) hg hat);have n1_:=Ak hb;have n2_:=Ak ho;clear HP HB HO hb ho hg hat;have HP:=n0_;have HB:=n1_;have HQ:=n2_;clear n0_ n1_ n2_))
     go_ret2
     exact ⟨_,rfl,by rw [E.out,← EI.out];(with_reducible repeat (first|apply Kd.R_alloc|apply Kd.R_drewN|apply Kd.R_drew));exact Kd.R_mono HQ.out (fun _ _=>trivial),(by repeat (first|exact HB.out|apply below_alloc|apply pw_below_drewN|apply below_drew1))⟩
 ·by_cases hu:0<a3
  ·have s1:decide (0<a3)=true:=decide_eq_true hu
   have TU:Aside0 (0≤Int.tmod z a3∧Int.tmod z a3≤100):=⟨by rw [Int.tmod_eq_emod_of_nonneg g6];have:=Int.emod_nonneg z (show a3≠0 by omega);have:=Int.emod_lt_of_pos z hu;omega⟩
   have ck:¬ a3=0:=by omega
   have cb0:(a3 == 0)=false:=beq_eq_false_iff_ne.mpr ck
   have cb1:(a3 != 0)=true:=bne_iff_ne.mpr ck
   have t0:decide (a<6)=false:=decide_eq_false (by omega)
   have t1:decide (a<9)=false:=decide_eq_false (by omega)
   have t2:(a == 9)=false:=beq_eq_false_iff_ne.mpr (by omega)
   have t3:decide (a<12)=false:=decide_eq_false (by omega)
   have t4:(a == 12)=false:=beq_eq_false_iff_ne.mpr (by omega)
   have t5:decide (a<15)=false:=decide_eq_false (by omega)
   have t6:(a == 15)=true:=beq_iff_eq.mpr (by omega)
   obtain ⟨y1,hy1⟩:∃ q:List Int,q=[wI 4 10 (Int.tmod z a3) 0,wI 0 x 10 0,wI 5 y (Int.tmod z a3) 0]:=⟨_,rfl⟩
   have Y1:=Ak hy1;clear hy1
   have E:Aside0 (blkL a x y z a2 a3 a4 a5=y1):=⟨by rw [Y1.out];unfold blkL;rw [if_neg (by first|omega|(rintro ⟨q1,q2⟩;first|omega|(cases q2;done)|(obtain ⟨q2,q3⟩:=q2;first|omega|(cases q2;done))))];rw [if_neg (by first|omega|(rintro ⟨q1,q2⟩;first|omega|(cases q2;done)|(obtain ⟨q2,q3⟩:=q2;first|omega|(cases q2;done))))];rw [if_neg (by first|omega|(rintro ⟨q1,q2⟩;first|omega|(cases q2;done)|(obtain ⟨q2,q3⟩:=q2;first|omega|(cases q2;done))))];rw [if_neg (by first|omega|(rintro ⟨q1,q2⟩;first|omega|(cases q2;done)|(obtain ⟨q2,q3⟩:=q2;first|omega|(cases q2;done))))];rw [if_neg (by first|omega|(rintro ⟨q1,q2⟩;first|omega|(cases q2;done)|(obtain ⟨q2,q3⟩:=q2;first|omega|(cases q2;done))))];rw [if_neg (by first|omega|(rintro ⟨q1,q2⟩;first|omega|(cases q2;done)|(obtain ⟨q2,q3⟩:=q2;first|omega|(cases q2;done))))];rw [if_pos (by first|omega|exact ⟨by omega,rfl⟩|exact ⟨by omega,rfl,by omega⟩)]⟩
   clear ha g0 g1 g2 g3 g4 g5 g6 g7 g8 g9 g10 g11 hu
   try go_wp2
   have n0_:=Ak (below_drew1 HB.out)
   clear HB;have HB:=n0_;clear n0_
   refine start_ (n:=15) (S:=fun w'=>True) (ds:=[]) #[false,false,false,false,false,false,false,false,false,false,false,false,false,false,false] (by kernel_rfl) rfl rfl trivial (fun hHeld=>?_)
   refine with_tabW spec_l4Block.tab31 spec_l4Block.bits31 (fun HT_ HW_=>?_)
   generalize w4.drew=w5 at HB hHeld ⊢
   refine pure_ (i:=0) (N:=some 191) (v:=?_) (a':=?_) #[true,false,false,false,false,false,false,false,false,false,false,false,false,false,false] rfl rfl (any_of HT_.out (by kernel_rfl)) (fun _ _ _ h=>h) (Or.inl ⟨by rfl,?_⟩) ?_ ?_
   rotate_left
   ·intro w';go_simp;with_reducible rfl
   rotate_left
   ·simp only [Act.put,List.setIfInBounds_toArray,List.set_cons_zero,List.set_cons_succ,i64_w,i32_w];rfl
   refine pure_ (i:=1) (N:=some 192) (v:=?_) (a':=?_) #[true,true,false,false,false,false,false,false,false,false,false,false,false,false,false] rfl rfl (any_of HT_.out (by kernel_rfl)) (fun _ _ _ h=>h) (Or.inl ⟨by rfl,?_⟩) ?_ ?_
   rotate_left
   ·intro w';go_simp;with_reducible rfl
   rotate_left
   ·simp only [Act.put,List.setIfInBounds_toArray,List.set_cons_zero,List.set_cons_succ,i64_w,i32_w];rfl
   refine pure_ (i:=2) (N:=some 193) (v:=?_) (a':=?_) #[true,true,true,false,false,false,false,false,false,false,false,false,false,false,false] rfl rfl (any_of HT_.out (by kernel_rfl)) (fun _ _ _ h=>h) (Or.inl ⟨by rfl,?_⟩) ?_ ?_
   rotate_left
   ·intro w';go_simp;with_reducible rfl
   rotate_left
   ·simp only [Act.put,List.setIfInBounds_toArray,List.set_cons_zero,List.set_cons_succ,i64_w,i32_w];rfl
   refine pure_ (i:=4) (N:=some 195) (v:=?_) (a':=?_) #[true,true,true,false,true,false,false,false,false,false,false,false,false,false,false] rfl rfl (any_of HT_.out (by kernel_rfl)) (fun _ _ _ h=>h) (Or.inl ⟨by rfl,?_⟩) ?_ ?_
   rotate_left
   ·intro w';go_simp;with_reducible rfl
   rotate_left
   ·simp only [Act.put,List.setIfInBounds_toArray,List.set_cons_zero,List.set_cons_succ,i64_w,i32_w];rfl
   refine pure_ (i:=6) (N:=some 197) (v:=?_) (a':=?_) #[true,true,true,false,true,false,true,false,false,false,false,false,false,false,false] rfl rfl (any_of HT_.out (by kernel_rfl)) (fun _ _ _ h=>h) (Or.inl ⟨by rfl,?_⟩) ?_ ?_
   rotate_left
   ·intro w';go_simp;with_reducible rfl
   rotate_left
   ·simp only [Act.put,List.setIfInBounds_toArray,List.set_cons_zero,List.set_cons_succ,i64_w,i32_w];rfl
   refine pure_ (i:=7) (N:=some 198) (v:=?_) (a':=?_) #[true,true,true,false,true,false,true,true,false,false,false,false,false,false,false] rfl rfl (any_of HT_.out (by kernel_rfl)) (fun _ _ _ h=>h) (Or.inl ⟨by rfl,?_⟩) ?_ ?_
   rotate_left
   ·intro w';go_simp;with_reducible rfl
   rotate_left
   ·simp only [Act.put,List.setIfInBounds_toArray,List.set_cons_zero,List.set_cons_succ,i64_w,i32_w];rfl
   refine pure_ (i:=8) (N:=some 199) (v:=?_) (a':=?_) #[true,true,true,false,true,false,true,true,true,false,false,false,false,false,false] rfl rfl (any_of HT_.out (by kernel_rfl)) (fun _ _ _ h=>h) (Or.inl ⟨by rfl,?_⟩) ?_ ?_
   rotate_left
   ·intro w';go_simp;with_reducible rfl
   rotate_left
   ·simp only [Act.put,List.setIfInBounds_toArray,List.set_cons_zero,List.set_cons_succ,i64_w,i32_w];rfl
   refine pure_ (i:=9) (N:=some 200) (v:=?_) (a':=?_) #[true,true,true,false,true,false,true,true,true,true,false,false,false,false,false] rfl rfl (any_of HT_.out (by kernel_rfl)) (fun _ _ _ h=>h) (Or.inl ⟨by rfl,?_⟩) ?_ ?_
   rotate_left
   ·intro w';go_simp;with_reducible rfl
   rotate_left
   ·simp only [Act.put,List.setIfInBounds_toArray,List.set_cons_zero,List.set_cons_succ,i64_w,i32_w];rfl
   refine pure_ (i:=12) (N:=some 203) (v:=?_) (a':=?_) #[true,true,true,false,true,false,true,true,true,true,false,false,true,false,false] rfl rfl (any_of HT_.out (by kernel_rfl)) (fun _ _ _ h=>h) (Or.inl ⟨by rfl,?_⟩) ?_ ?_
   rotate_left
   ·intro w';go_simp;with_reducible rfl
   rotate_left
   ·simp only [Act.put,List.setIfInBounds_toArray,List.set_cons_zero,List.set_cons_succ,i64_w,i32_w];rfl
   refine one_ (i:=3) (N:=some 194) #[true,true,true,true,true,false,true,true,true,true,false,false,true,false,false] rfl rfl (one_of HT_.out (by kernel_rfl)) (by decide) (fun K hK=>?_)
   refine goes_ Try.func119 (by kernel_rfl) rfl #[.int .i64 (4),.int .i64 (10),.int .i64 (Int.tmod z a3),.int .i64 (0)] (by rfl) rfl rfl (by (try simp only [List.map_toArray,List.map_cons,List.map_nil]);first|done|rfl|(simp only [List.length_drop,List.length_take];rfl)) ?_
   with_reducible refine (l4I_calls (4) (10) (Int.tmod z a3) (0) _ ?hI).mono ?_
   case hI=>have hz:=TZ.out;have hu:=TU.out;unfold inI;omega
   rintro e wn ⟨rfl,hb⟩
   refine ⟨_,rfl,?_⟩
   have n1_:=Ak (below_step (by repeat (first|exact HB.out|apply below_alloc|apply pw_below_drewN|apply below_drew1)) hb);clear HB;have HB:=n1_;clear n1_ hb
   refine hK.out _ _ trivial (fun hHeld=>?_)
   clear hK K
   refine norm_ (a':=?_) ?_ ?_
   rotate_left
   ·show Act.put _ (some 194) _=_;simp only [Act.put,List.setIfInBounds_toArray,List.set_cons_zero,List.set_cons_succ,i64_w,i32_w];rfl
   refine one_ (i:=5) (N:=some 196) #[true,true,true,true,true,true,true,true,true,true,false,false,true,false,false] rfl rfl (one_of HT_.out (by kernel_rfl)) (by decide) (fun K hK=>?_)
   refine goes_ Try.func119 (by kernel_rfl) rfl #[.int .i64 (0),.int .i64 (x),.int .i64 (10),.int .i64 (0)] (by rfl) rfl rfl (by (try simp only [List.map_toArray,List.map_cons,List.map_nil]);first|done|rfl|(simp only [List.length_drop,List.length_take];rfl)) ?_
   with_reducible refine (l4I_calls (0) (x) (10) (0) _ ?hI).mono ?_
   case hI=>have hz:=TZ.out;have hu:=TU.out;unfold inI;omega
   rintro e wn ⟨rfl,hb⟩
   refine ⟨_,rfl,?_⟩
   have n1_:=Ak (below_step (by repeat (first|exact HB.out|apply below_alloc|apply pw_below_drewN|apply below_drew1)) hb);clear HB;have HB:=n1_;clear n1_ hb
   refine hK.out _ _ trivial (fun hHeld=>?_)
   clear hK K
   refine norm_ (a':=?_) ?_ ?_
   rotate_left
   ·show Act.put _ (some 196) _=_;simp only [Act.put,List.setIfInBounds_toArray,List.set_cons_zero,List.set_cons_succ,i64_w,i32_w];rfl
   refine one_ (i:=10) (N:=some 201) #[true,true,true,true,true,true,true,true,true,true,true,false,true,false,false] rfl rfl (one_of HT_.out (by kernel_rfl)) (by decide) (fun K hK=>?_)
   refine goes_ Try.func119 (by kernel_rfl) rfl #[.int .i64 (5),.int .i64 (y),.int .i64 (Int.tmod z a3),.int .i64 (0)] (by rfl) rfl rfl (by (try simp only [List.map_toArray,List.map_cons,List.map_nil]);first|done|rfl|(simp only [List.length_drop,List.length_take];rfl)) ?_
   with_reducible refine (l4I_calls (5) (y) (Int.tmod z a3) (0) _ ?hI).mono ?_
   case hI=>have hz:=TZ.out;have hu:=TU.out;unfold inI;omega
   rintro e wn ⟨rfl,hb⟩
   refine ⟨_,rfl,?_⟩
   have n1_:=Ak (below_step (by repeat (first|exact HB.out|apply below_alloc|apply pw_below_drewN|apply below_drew1)) hb);clear HB;have HB:=n1_;clear n1_ hb
   refine hK.out _ _ trivial (fun hHeld=>?_)
   clear hK K
   refine norm_ (a':=?_) ?_ ?_
   rotate_left
   ·show Act.put _ (some 201) _=_;simp only [Act.put,List.setIfInBounds_toArray,List.set_cons_zero,List.set_cons_succ,i64_w,i32_w];rfl
   refine one_ (i:=11) (N:=some 202) #[true,true,true,true,true,true,true,true,true,true,true,true,true,false,false] rfl rfl (one_of HT_.out (by kernel_rfl)) (by decide) (fun K hK=>?_)
   refine Kd.R_lit_step (Kd.int .u32) _ 78 ?hg (N:=202) ?hd (xs:=([wI 4 10 (Int.tmod z a3) 0,wI 0 x 10 0,wI 5 y (Int.tmod z a3) 0]:List Int)) (inner:=[.int .u32 (wI 4 10 (Int.tmod z a3) 0),.int .u32 (wI 0 x 10 0),.int .u32 (wI 5 y (Int.tmod z a3) 0)]) (ok:=fun _=>True) (okp:=fun _=>True) ?hr ?hp (fun _ hk=>hk) trivial (Below.refl _ _) (Nat.le_refl _) (by simp) ?_;(case hd=>rfl);(case hg=>rfl);(case hr=>first|(go_simp;done)|(go_simp;rfl));(case hp=>repeat (first|exact Reps.none _ _|refine Reps.one (show Kd.M (Kd.int .u32) _ _ _ _ [_] from rfl) ?_))
   intro vHO wn ho hb hg_ hnew_
   clear hg_ hnew_
   (first|rw [← Y1.out] at ho|(simp only [Int.reduceToNat] at ho;rw [← Y1.out] at ho))
   have HO:=Ak (Kd.R_lower ho (below_size (by repeat (first|exact HB.out|apply below_alloc|apply pw_below_drewN|apply below_drew1))))
   clear ho
   have n1_:=Ak (below_step (by repeat (first|exact HB.out|apply below_alloc|apply pw_below_drewN|apply below_drew1)) hb);clear HB;have HB:=n1_;clear n1_ hb
   refine hK.out _ _ trivial (fun hHeld=>?_)
   clear hK K
   refine norm_ (a':=?_) ?_ ?_
   rotate_left
   ·show Act.put _ (some 202) _=_;simp only [Act.put,List.setIfInBounds_toArray,List.set_cons_zero,List.set_cons_succ,i64_w,i32_w];rfl
   refine pure_ (i:=13) (N:=some 12) (v:=?_) (a':=?_) #[true,true,true,true,true,true,true,true,true,true,true,true,true,true,false] rfl rfl (any_of HT_.out (by kernel_rfl)) (fun _ _ _ h=>h) (Or.inl ⟨by rfl,?_⟩) ?_ ?_
   rotate_left
   ·intro w';go_simp;with_reducible rfl
   rotate_left
   ·simp only [Act.put,List.setIfInBounds_toArray,List.set_cons_zero,List.set_cons_succ,i64_w,i32_w];rfl
   refine pure_ (i:=14) (N:=some 13) (v:=?_) (a':=?_) #[true,true,true,true,true,true,true,true,true,true,true,true,true,true,true] rfl rfl (any_of HT_.out (by kernel_rfl)) (fun _ _ _ h=>h) (Or.inl ⟨by rfl,?_⟩) ?_ ?_
   rotate_left
   ·intro w';go_simp;with_reducible rfl
   rotate_left
   ·simp only [Act.put,List.setIfInBounds_toArray,List.set_cons_zero,List.set_cons_succ,i64_w,i32_w];rfl
   refine done_ (done_of HT_.out (by kernel_rfl)) ?_
   try go_wp2
   go_ret2
   exact ⟨_,rfl,by rw [E.out];exact HO.out,(by repeat (first|exact HB.out|apply below_alloc|apply pw_below_drewN|apply below_drew1))⟩
  ·by_cases hk:0<a2
   ·have s0:decide (0<a2)=true:=decide_eq_true hk
    have s1:decide (0<a3)=false:=decide_eq_false hu
    have t0:decide (a<6)=false:=decide_eq_false (by omega)
    have t1:decide (a<9)=false:=decide_eq_false (by omega)
    have t2:(a == 9)=false:=beq_eq_false_iff_ne.mpr (by omega)
    have t3:decide (a<12)=false:=decide_eq_false (by omega)
    have t4:(a == 12)=false:=beq_eq_false_iff_ne.mpr (by omega)
    have t5:decide (a<15)=false:=decide_eq_false (by omega)
    have t6:(a == 15)=true:=beq_iff_eq.mpr (by omega)
    have t7:decide (a<19)=true:=decide_eq_true (by omega)
    have t8:decide (a<23)=true:=decide_eq_true (by omega)
    have E:Aside0 (blkL a x y z a2 a3 a4 a5=callL x y z a2):=⟨by unfold blkL;rw [if_neg (by first|omega|(rintro ⟨q1,q2⟩;first|omega|(cases q2;done)|(obtain ⟨q2,q3⟩:=q2;first|omega|(cases q2;done))))];rw [if_neg (by first|omega|(rintro ⟨q1,q2⟩;first|omega|(cases q2;done)|(obtain ⟨q2,q3⟩:=q2;first|omega|(cases q2;done))))];rw [if_neg (by first|omega|(rintro ⟨q1,q2⟩;first|omega|(cases q2;done)|(obtain ⟨q2,q3⟩:=q2;first|omega|(cases q2;done))))];rw [if_neg (by first|omega|(rintro ⟨q1,q2⟩;first|omega|(cases q2;done)|(obtain ⟨q2,q3⟩:=q2;first|omega|(cases q2;done))))];rw [if_neg (by first|omega|(rintro ⟨q1,q2⟩;first|omega|(cases q2;done)|(obtain ⟨q2,q3⟩:=q2;first|omega|(cases q2;done))))];rw [if_neg (by first|omega|(rintro ⟨q1,q2⟩;first|omega|(cases q2;done)|(obtain ⟨q2,q3⟩:=q2;first|omega|(cases q2;done))))];rw [if_neg (by first|omega|(rintro ⟨q1,q2⟩;first|omega|(cases q2;done)|(obtain ⟨q2,q3⟩:=q2;first|omega|(cases q2;done))))];rw [if_neg (by first|omega|(rintro ⟨q1,q2⟩;first|omega|(cases q2;done)|(obtain ⟨q2,q3⟩:=q2;first|omega|(cases q2;done))))];rw [if_pos (by first|omega|exact ⟨by omega,rfl⟩|exact ⟨by omega,rfl,by omega⟩)]⟩
    have IB:Aside0 (inB x y z a2):=⟨by unfold inB;omega⟩
    clear ha g0 g1 g2 g3 g4 g5 g6 g7 g8 g9 g10 g11 hk hu
    go_wp2_with (go_at_call 132;refine (l4Call_calls _ _ _ _ _ IB.out).mono ?_;rintro e wn ⟨v0,rfl,hr,hb⟩;have HO:=Ak (Kd.R_lower hr (below_size (by repeat (first|exact HB.out|apply below_alloc|apply pw_below_drewN|apply below_drew1))));clear hr;have n1_:=Ak (below_step (by repeat (first|exact HB.out|apply below_alloc|apply pw_below_drewN|apply below_drew1)) hb);clear HB;have HB:=n1_;clear n1_ hb)
    go_ret2
    exact ⟨_,rfl,by rw [E.out];exact HO.out,(by repeat (first|exact HB.out|apply below_alloc|apply pw_below_drewN|apply below_drew1))⟩
   ·have s0:decide (0<a2)=false:=decide_eq_false hk
    have s1:decide (0<a3)=false:=decide_eq_false hu
    have t0:decide (a<6)=false:=decide_eq_false (by omega)
    have t1:decide (a<9)=false:=decide_eq_false (by omega)
    have t2:(a == 9)=false:=beq_eq_false_iff_ne.mpr (by omega)
    have t3:decide (a<12)=false:=decide_eq_false (by omega)
    have t4:(a == 12)=false:=beq_eq_false_iff_ne.mpr (by omega)
    have t5:decide (a<15)=false:=decide_eq_false (by omega)
    have t6:(a == 15)=true:=beq_iff_eq.mpr (by omega)
    have t7:decide (a<19)=true:=decide_eq_true (by omega)
    have t8:decide (a<23)=true:=decide_eq_true (by omega)
    have t9:decide (a<27)=true:=decide_eq_true (by omega)
    have t10:(a == 27)=false:=beq_eq_false_iff_ne.mpr (by omega)
    have t11:(a == 28)=false:=beq_eq_false_iff_ne.mpr (by omega)
    have t12:(a == 29)=false:=beq_eq_false_iff_ne.mpr (by omega)
    obtain ⟨y1,hy1⟩:∃ q:List Int,q=[wI 9 x y 3]:=⟨_,rfl⟩
    have Y1:=Ak hy1;clear hy1
    have E:Aside0 (blkL a x y z a2 a3 a4 a5=y1):=⟨by rw [Y1.out];unfold blkL;rw [if_neg (by first|omega|(rintro ⟨q1,q2⟩;first|omega|(cases q2;done)|(obtain ⟨q2,q3⟩:=q2;first|omega|(cases q2;done))))];rw [if_neg (by first|omega|(rintro ⟨q1,q2⟩;first|omega|(cases q2;done)|(obtain ⟨q2,q3⟩:=q2;first|omega|(cases q2;done))))];rw [if_neg (by first|omega|(rintro ⟨q1,q2⟩;first|omega|(cases q2;done)|(obtain ⟨q2,q3⟩:=q2;first|omega|(cases q2;done))))];rw [if_neg (by first|omega|(rintro ⟨q1,q2⟩;first|omega|(cases q2;done)|(obtain ⟨q2,q3⟩:=q2;first|omega|(cases q2;done))))];rw [if_neg (by first|omega|(rintro ⟨q1,q2⟩;first|omega|(cases q2;done)|(obtain ⟨q2,q3⟩:=q2;first|omega|(cases q2;done))))];rw [if_neg (by first|omega|(rintro ⟨q1,q2⟩;first|omega|(cases q2;done)|(obtain ⟨q2,q3⟩:=q2;first|omega|(cases q2;done))))];rw [if_neg (by first|omega|(rintro ⟨q1,q2⟩;first|omega|(cases q2;done)|(obtain ⟨q2,q3⟩:=q2;first|omega|(cases q2;done))))];rw [if_neg (by first|omega|(rintro ⟨q1,q2⟩;first|omega|(cases q2;done)|(obtain ⟨q2,q3⟩:=q2;first|omega|(cases q2;done))))];rw [if_neg (by first|omega|(rintro ⟨q1,q2⟩;first|omega|(cases q2;done)|(obtain ⟨q2,q3⟩:=q2;first|omega|(cases q2;done))))];rw [if_neg (by first|omega|(rintro ⟨q1,q2⟩;first|omega|(cases q2;done)|(obtain ⟨q2,q3⟩:=q2;first|omega|(cases q2;done))))];rw [if_neg (by first|omega|(rintro ⟨q1,q2⟩;first|omega|(cases q2;done)|(obtain ⟨q2,q3⟩:=q2;first|omega|(cases q2;done))))];rw [if_neg (by first|omega|(rintro ⟨q1,q2⟩;first|omega|(cases q2;done)|(obtain ⟨q2,q3⟩:=q2;first|omega|(cases q2;done))))];rw [if_neg (by first|omega|(rintro ⟨q1,q2⟩;first|omega|(cases q2;done)|(obtain ⟨q2,q3⟩:=q2;first|omega|(cases q2;done))))];rw [if_neg (by first|omega|(rintro ⟨q1,q2⟩;first|omega|(cases q2;done)|(obtain ⟨q2,q3⟩:=q2;first|omega|(cases q2;done))))];rw [if_neg (by first|omega|(rintro ⟨q1,q2⟩;first|omega|(cases q2;done)|(obtain ⟨q2,q3⟩:=q2;first|omega|(cases q2;done))))];skip⟩
    clear ha g0 g1 g2 g3 g4 g5 g6 g7 g8 g9 g10 g11 hk hu
    go_wp2_with (first|(go_at_call 119;refine (l4I_calls _ _ _ _ _ ?hI).mono ?_;(case hI=>have hz:=TZ.out;unfold inI;(try simp only [wrap64] at hz ⊢);omega);rintro e wn ⟨rfl,hb⟩;have n1_:=Ak (below_step (by repeat (first|exact HB.out|apply below_alloc|apply pw_below_drewN|apply below_drew1)) hb);clear HB;have HB:=n1_;clear n1_ hb)|(go_at_call 118;refine (l4W_calls _ _ _ _ ?hI).mono ?_;(case hI=>have hz:=TZ.out;unfold inW;(try simp only [wrap64] at hz ⊢);omega);rintro e wn ⟨rfl,hb⟩;have n1_:=Ak (below_step (by repeat (first|exact HB.out|apply below_alloc|apply pw_below_drewN|apply below_drew1)) hb);clear HB;have HB:=n1_;clear n1_ hb)|((with_reducible refine gate_dst (N:=313) rfl ?_);refine Kd.R_lit (Kd.int .u32) _ 78 ?hg (N:=313) ?hd (xs:=([wI 9 x y 3]:List Int)) (inner:=[.int .u32 (wI 9 x y 3)]) (ok:=fun _=>True) (okp:=fun _=>True) ?hr ?hp (fun _ hk=>hk) trivial (Below.refl _ _) (Nat.le_refl _) (by simp) ?_;(case hd=>rfl);(case hg=>rfl);(case hr=>first|(go_simp;done)|(go_simp;rfl));(case hp=>repeat (first|exact Reps.none _ _|refine Reps.one (show Kd.M (Kd.int .u32) _ _ _ _ [_] from rfl) ?_));intro vHO wn ho hb hg_ hnew_;clear hg_ hnew_;(first|rw [← Y1.out] at ho|(simp only [Int.reduceToNat] at ho;rw [← Y1.out] at ho));have HO:=Ak (Kd.R_lower ho (below_size (by repeat (first|exact HB.out|apply below_alloc|apply pw_below_drewN|apply below_drew1))));clear ho;have n1_:=Ak (below_step (by repeat (first|exact HB.out|apply below_alloc|apply pw_below_drewN|apply below_drew1)) hb);clear HB;have HB:=n1_;clear n1_ hb))
    go_ret2
    exact ⟨_,rfl,by rw [E.out];exact HO.out,(by repeat (first|exact HB.out|apply below_alloc|apply pw_below_drewN|apply below_drew1))⟩
 ·by_cases hu:0<a3
  ·have s1:decide (0<a3)=true:=decide_eq_true hu
   have TU:Aside0 (0≤Int.tmod z a3∧Int.tmod z a3≤100):=⟨by rw [Int.tmod_eq_emod_of_nonneg g6];have:=Int.emod_nonneg z (show a3≠0 by omega);have:=Int.emod_lt_of_pos z hu;omega⟩
   have ck:¬ a3=0:=by omega
   have cb0:(a3 == 0)=false:=beq_eq_false_iff_ne.mpr ck
   have cb1:(a3 != 0)=true:=bne_iff_ne.mpr ck
   have t0:decide (a<6)=false:=decide_eq_false (by omega)
   have t1:decide (a<9)=false:=decide_eq_false (by omega)
   have t2:(a == 9)=false:=beq_eq_false_iff_ne.mpr (by omega)
   have t3:decide (a<12)=false:=decide_eq_false (by omega)
   have t4:(a == 12)=false:=beq_eq_false_iff_ne.mpr (by omega)
   have t5:decide (a<15)=false:=decide_eq_false (by omega)
   have t6:(a == 15)=false:=beq_eq_false_iff_ne.mpr (by omega)
   have t7:decide (a<19)=true:=decide_eq_true (by omega)
   obtain ⟨y1,hy1⟩:∃ q:List Int,q=[wI 4 10 (Int.tmod z a3) 0,wI 9 10 10 3,wI 5 10 (Int.tmod z a3) 0]:=⟨_,rfl⟩
   have Y1:=Ak hy1;clear hy1
   have E:Aside0 (blkL a x y z a2 a3 a4 a5=y1):=⟨by rw [Y1.out];unfold blkL;rw [if_neg (by first|omega|(rintro ⟨q1,q2⟩;first|omega|(cases q2;done)|(obtain ⟨q2,q3⟩:=q2;first|omega|(cases q2;done))))];rw [if_neg (by first|omega|(rintro ⟨q1,q2⟩;first|omega|(cases q2;done)|(obtain ⟨q2,q3⟩:=q2;first|omega|(cases q2;done))))];rw [if_neg (by first|omega|(rintro ⟨q1,q2⟩;first|omega|(cases q2;done)|(obtain ⟨q2,q3⟩:=q2;first|omega|(cases q2;done))))];rw [if_neg (by first|omega|(rintro ⟨q1,q2⟩;first|omega|(cases q2;done)|(obtain ⟨q2,q3⟩:=q2;first|omega|(cases q2;done))))];rw [if_neg (by first|omega|(rintro ⟨q1,q2⟩;first|omega|(cases q2;done)|(obtain ⟨q2,q3⟩:=q2;first|omega|(cases q2;done))))];rw [if_neg (by first|omega|(rintro ⟨q1,q2⟩;first|omega|(cases q2;done)|(obtain ⟨q2,q3⟩:=q2;first|omega|(cases q2;done))))];rw [if_neg (by first|omega|(rintro ⟨q1,q2⟩;first|omega|(cases q2;done)|(obtain ⟨q2,q3⟩:=q2;first|omega|(cases q2;done))))];rw [if_pos (by first|omega|exact ⟨by omega,rfl⟩|exact ⟨by omega,rfl,by omega⟩)]⟩
   clear ha g0 g1 g2 g3 g4 g5 g6 g7 g8 g9 g10 g11 hu
   try go_wp2
   have n0_:=Ak (below_drew1 HB.out)
   clear HB;have HB:=n0_;clear n0_
   refine start_ (n:=13) (S:=fun w'=>True) (ds:=[]) #[false,false,false,false,false,false,false,false,false,false,false,false,false] (by kernel_rfl) rfl rfl trivial (fun hHeld=>?_)
   refine with_tabW spec_l4Block.tab33 spec_l4Block.bits33 (fun HT_ HW_=>?_)
   generalize w4.drew=w5 at HB hHeld ⊢
   refine pure_ (i:=0) (N:=some 210) (v:=?_) (a':=?_) #[true,false,false,false,false,false,false,false,false,false,false,false,false] rfl rfl (any_of HT_.out (by kernel_rfl)) (fun _ _ _ h=>h) (Or.inl ⟨by rfl,?_⟩) ?_ ?_
   rotate_left
   ·intro w';go_simp;with_reducible rfl
   rotate_left
   ·simp only [Act.put,List.setIfInBounds_toArray,List.set_cons_zero,List.set_cons_succ,i64_w,i32_w];rfl
   refine pure_ (i:=1) (N:=some 211) (v:=?_) (a':=?_) #[true,true,false,false,false,false,false,false,false,false,false,false,false] rfl rfl (any_of HT_.out (by kernel_rfl)) (fun _ _ _ h=>h) (Or.inl ⟨by rfl,?_⟩) ?_ ?_
   rotate_left
   ·intro w';go_simp;with_reducible rfl
   rotate_left
   ·simp only [Act.put,List.setIfInBounds_toArray,List.set_cons_zero,List.set_cons_succ,i64_w,i32_w];rfl
   refine pure_ (i:=2) (N:=some 212) (v:=?_) (a':=?_) #[true,true,true,false,false,false,false,false,false,false,false,false,false] rfl rfl (any_of HT_.out (by kernel_rfl)) (fun _ _ _ h=>h) (Or.inl ⟨by rfl,?_⟩) ?_ ?_
   rotate_left
   ·intro w';go_simp;with_reducible rfl
   rotate_left
   ·simp only [Act.put,List.setIfInBounds_toArray,List.set_cons_zero,List.set_cons_succ,i64_w,i32_w];rfl
   refine pure_ (i:=5) (N:=some 215) (v:=?_) (a':=?_) #[true,true,true,false,false,true,false,false,false,false,false,false,false] rfl rfl (any_of HT_.out (by kernel_rfl)) (fun _ _ _ h=>h) (Or.inl ⟨by rfl,?_⟩) ?_ ?_
   rotate_left
   ·intro w';go_simp;with_reducible rfl
   rotate_left
   ·simp only [Act.put,List.setIfInBounds_toArray,List.set_cons_zero,List.set_cons_succ,i64_w,i32_w];rfl
   refine pure_ (i:=6) (N:=some 216) (v:=?_) (a':=?_) #[true,true,true,false,false,true,true,false,false,false,false,false,false] rfl rfl (any_of HT_.out (by kernel_rfl)) (fun _ _ _ h=>h) (Or.inl ⟨by rfl,?_⟩) ?_ ?_
   rotate_left
   ·intro w';go_simp;with_reducible rfl
   rotate_left
   ·simp only [Act.put,List.setIfInBounds_toArray,List.set_cons_zero,List.set_cons_succ,i64_w,i32_w];rfl
   refine pure_ (i:=7) (N:=some 217) (v:=?_) (a':=?_) #[true,true,true,false,false,true,true,true,false,false,false,false,false] rfl rfl (any_of HT_.out (by kernel_rfl)) (fun _ _ _ h=>h) (Or.inl ⟨by rfl,?_⟩) ?_ ?_
   rotate_left
   ·intro w';go_simp;with_reducible rfl
   rotate_left
   ·simp only [Act.put,List.setIfInBounds_toArray,List.set_cons_zero,List.set_cons_succ,i64_w,i32_w];rfl
   refine pure_ (i:=10) (N:=some 220) (v:=?_) (a':=?_) #[true,true,true,false,false,true,true,true,false,false,true,false,false] rfl rfl (any_of HT_.out (by kernel_rfl)) (fun _ _ _ h=>h) (Or.inl ⟨by rfl,?_⟩) ?_ ?_
   rotate_left
   ·intro w';go_simp;with_reducible rfl
   rotate_left
   ·simp only [Act.put,List.setIfInBounds_toArray,List.set_cons_zero,List.set_cons_succ,i64_w,i32_w];rfl
   refine one_ (i:=3) (N:=some 213) #[true,true,true,true,false,true,true,true,false,false,true,false,false] rfl rfl (one_of HT_.out (by kernel_rfl)) (by decide) (fun K hK=>?_)
   refine goes_ Try.func119 (by kernel_rfl) rfl #[.int .i64 (4),.int .i64 (10),.int .i64 (Int.tmod z a3),.int .i64 (0)] (by rfl) rfl rfl (by (try simp only [List.map_toArray,List.map_cons,List.map_nil]);first|done|rfl|(simp only [List.length_drop,List.length_take];rfl)) ?_
   with_reducible refine (l4I_calls (4) (10) (Int.tmod z a3) (0) _ ?hI).mono ?_
   case hI=>have hz:=TZ.out;have hu:=TU.out;unfold inI;omega
   rintro e wn ⟨rfl,hb⟩
   refine ⟨_,rfl,?_⟩
   have n1_:=Ak (below_step (by repeat (first|exact HB.out|apply below_alloc|apply pw_below_drewN|apply below_drew1)) hb);clear HB;have HB:=n1_;clear n1_ hb
   refine hK.out _ _ trivial (fun hHeld=>?_)
   clear hK K
   refine norm_ (a':=?_) ?_ ?_
   rotate_left
   ·show Act.put _ (some 213) _=_;simp only [Act.put,List.setIfInBounds_toArray,List.set_cons_zero,List.set_cons_succ,i64_w,i32_w];rfl
   refine one_ (i:=4) (N:=some 214) #[true,true,true,true,true,true,true,true,false,false,true,false,false] rfl rfl (one_of HT_.out (by kernel_rfl)) (by decide) (fun K hK=>?_)
   refine goes_ Try.func119 (by kernel_rfl) rfl #[.int .i64 (9),.int .i64 (10),.int .i64 (10),.int .i64 (3)] (by rfl) rfl rfl (by (try simp only [List.map_toArray,List.map_cons,List.map_nil]);first|done|rfl|(simp only [List.length_drop,List.length_take];rfl)) ?_
   with_reducible refine (l4I_calls (9) (10) (10) (3) _ ?hI).mono ?_
   case hI=>have hz:=TZ.out;have hu:=TU.out;unfold inI;omega
   rintro e wn ⟨rfl,hb⟩
   refine ⟨_,rfl,?_⟩
   have n1_:=Ak (below_step (by repeat (first|exact HB.out|apply below_alloc|apply pw_below_drewN|apply below_drew1)) hb);clear HB;have HB:=n1_;clear n1_ hb
   refine hK.out _ _ trivial (fun hHeld=>?_)
   clear hK K
   refine norm_ (a':=?_) ?_ ?_
   rotate_left
   ·show Act.put _ (some 214) _=_;simp only [Act.put,List.setIfInBounds_toArray,List.set_cons_zero,List.set_cons_succ,i64_w,i32_w];rfl
   refine one_ (i:=8) (N:=some 218) #[true,true,true,true,true,true,true,true,true,false,true,false,false] rfl rfl (one_of HT_.out (by kernel_rfl)) (by decide) (fun K hK=>?_)
   refine goes_ Try.func119 (by kernel_rfl) rfl #[.int .i64 (5),.int .i64 (10),.int .i64 (Int.tmod z a3),.int .i64 (0)] (by rfl) rfl rfl (by (try simp only [List.map_toArray,List.map_cons,List.map_nil]);first|done|rfl|(simp only [List.length_drop,List.length_take];rfl)) ?_
   with_reducible refine (l4I_calls (5) (10) (Int.tmod z a3) (0) _ ?hI).mono ?_
   case hI=>have hz:=TZ.out;have hu:=TU.out;unfold inI;omega
   rintro e wn ⟨rfl,hb⟩
   refine ⟨_,rfl,?_⟩
   have n1_:=Ak (below_step (by repeat (first|exact HB.out|apply below_alloc|apply pw_below_drewN|apply below_drew1)) hb);clear HB;have HB:=n1_;clear n1_ hb
   refine hK.out _ _ trivial (fun hHeld=>?_)
   clear hK K
   refine norm_ (a':=?_) ?_ ?_
   rotate_left
   ·show Act.put _ (some 218) _=_;simp only [Act.put,List.setIfInBounds_toArray,List.set_cons_zero,List.set_cons_succ,i64_w,i32_w];rfl
   refine one_ (i:=9) (N:=some 219) #[true,true,true,true,true,true,true,true,true,true,true,false,false] rfl rfl (one_of HT_.out (by kernel_rfl)) (by decide) (fun K hK=>?_)
   refine Kd.R_lit_step (Kd.int .u32) _ 78 ?hg (N:=219) ?hd (xs:=([wI 4 10 (Int.tmod z a3) 0,wI 9 10 10 3,wI 5 10 (Int.tmod z a3) 0]:List Int)) (inner:=[.int .u32 (wI 4 10 (Int.tmod z a3) 0),.int .u32 (wI 9 10 10 3),.int .u32 (wI 5 10 (Int.tmod z a3) 0)]) (ok:=fun _=>True) (okp:=fun _=>True) ?hr ?hp (fun _ hk=>hk) trivial (Below.refl _ _) (Nat.le_refl _) (by simp) ?_;(case hd=>rfl);(case hg=>rfl);(case hr=>first|(go_simp;done)|(go_simp;rfl));(case hp=>repeat (first|exact Reps.none _ _|refine Reps.one (show Kd.M (Kd.int .u32) _ _ _ _ [_] from rfl) ?_))
   intro vHO wn ho hb hg_ hnew_
   clear hg_ hnew_
   (first|rw [← Y1.out] at ho|(simp only [Int.reduceToNat] at ho;rw [← Y1.out] at ho))
   have HO:=Ak (Kd.R_lower ho (below_size (by repeat (first|exact HB.out|apply below_alloc|apply pw_below_drewN|apply below_drew1))))
   clear ho
   have n1_:=Ak (below_step (by repeat (first|exact HB.out|apply below_alloc|apply pw_below_drewN|apply below_drew1)) hb);clear HB;have HB:=n1_;clear n1_ hb
   refine hK.out _ _ trivial (fun hHeld=>?_)
   clear hK K
   refine norm_ (a':=?_) ?_ ?_
   rotate_left
   ·show Act.put _ (some 219) _=_;simp only [Act.put,List.setIfInBounds_toArray,List.set_cons_zero,List.set_cons_succ,i64_w,i32_w];rfl
   refine pure_ (i:=11) (N:=some 12) (v:=?_) (a':=?_) #[true,true,true,true,true,true,true,true,true,true,true,true,false] rfl rfl (any_of HT_.out (by kernel_rfl)) (fun _ _ _ h=>h) (Or.inl ⟨by rfl,?_⟩) ?_ ?_
   rotate_left
   ·intro w';go_simp;with_reducible rfl
   rotate_left
   ·simp only [Act.put,List.setIfInBounds_toArray,List.set_cons_zero,List.set_cons_succ,i64_w,i32_w];rfl
   refine pure_ (i:=12) (N:=some 13) (v:=?_) (a':=?_) #[true,true,true,true,true,true,true,true,true,true,true,true,true] rfl rfl (any_of HT_.out (by kernel_rfl)) (fun _ _ _ h=>h) (Or.inl ⟨by rfl,?_⟩) ?_ ?_
   rotate_left
   ·intro w';go_simp;with_reducible rfl
   rotate_left
   ·simp only [Act.put,List.setIfInBounds_toArray,List.set_cons_zero,List.set_cons_succ,i64_w,i32_w];rfl
   refine done_ (done_of HT_.out (by kernel_rfl)) ?_
   try go_wp2
   go_ret2
   exact ⟨_,rfl,by rw [E.out];exact HO.out,(by repeat (first|exact HB.out|apply below_alloc|apply pw_below_drewN|apply below_drew1))⟩
  ·by_cases hk:0<a2
   ·have s0:decide (0<a2)=true:=decide_eq_true hk
    have s1:decide (0<a3)=false:=decide_eq_false hu
    have t0:decide (a<6)=false:=decide_eq_false (by omega)
    have t1:decide (a<9)=false:=decide_eq_false (by omega)
    have t2:(a == 9)=false:=beq_eq_false_iff_ne.mpr (by omega)
    have t3:decide (a<12)=false:=decide_eq_false (by omega)
    have t4:(a == 12)=false:=beq_eq_false_iff_ne.mpr (by omega)
    have t5:decide (a<15)=false:=decide_eq_false (by omega)
    have t6:(a == 15)=false:=beq_eq_false_iff_ne.mpr (by omega)
    have t7:decide (a<19)=true:=decide_eq_true (by omega)
    have t8:decide (a<23)=true:=decide_eq_true (by omega)
    have E:Aside0 (blkL a x y z a2 a3 a4 a5=callL x y z a2):=⟨by unfold blkL;rw [if_neg (by first|omega|(rintro ⟨q1,q2⟩;first|omega|(cases q2;done)|(obtain ⟨q2,q3⟩:=q2;first|omega|(cases q2;done))))];rw [if_neg (by first|omega|(rintro ⟨q1,q2⟩;first|omega|(cases q2;done)|(obtain ⟨q2,q3⟩:=q2;first|omega|(cases q2;done))))];rw [if_neg (by first|omega|(rintro ⟨q1,q2⟩;first|omega|(cases q2;done)|(obtain ⟨q2,q3⟩:=q2;first|omega|(cases q2;done))))];rw [if_neg (by first|omega|(rintro ⟨q1,q2⟩;first|omega|(cases q2;done)|(obtain ⟨q2,q3⟩:=q2;first|omega|(cases q2;done))))];rw [if_neg (by first|omega|(rintro ⟨q1,q2⟩;first|omega|(cases q2;done)|(obtain ⟨q2,q3⟩:=q2;first|omega|(cases q2;done))))];rw [if_neg (by first|omega|(rintro ⟨q1,q2⟩;first|omega|(cases q2;done)|(obtain ⟨q2,q3⟩:=q2;first|omega|(cases q2;done))))];rw [if_neg (by first|omega|(rintro ⟨q1,q2⟩;first|omega|(cases q2;done)|(obtain ⟨q2,q3⟩:=q2;first|omega|(cases q2;done))))];rw [if_neg (by first|omega|(rintro ⟨q1,q2⟩;first|omega|(cases q2;done)|(obtain ⟨q2,q3⟩:=q2;first|omega|(cases q2;done))))];rw [if_pos (by first|omega|exact ⟨by omega,rfl⟩|exact ⟨by omega,rfl,by omega⟩)]⟩
    have IB:Aside0 (inB x y z a2):=⟨by unfold inB;omega⟩
    clear ha g0 g1 g2 g3 g4 g5 g6 g7 g8 g9 g10 g11 hk hu
    go_wp2_with (go_at_call 132;refine (l4Call_calls _ _ _ _ _ IB.out).mono ?_;rintro e wn ⟨v0,rfl,hr,hb⟩;have HO:=Ak (Kd.R_lower hr (below_size (by repeat (first|exact HB.out|apply below_alloc|apply pw_below_drewN|apply below_drew1))));clear hr;have n1_:=Ak (below_step (by repeat (first|exact HB.out|apply below_alloc|apply pw_below_drewN|apply below_drew1)) hb);clear HB;have HB:=n1_;clear n1_ hb)
    go_ret2
    exact ⟨_,rfl,by rw [E.out];exact HO.out,(by repeat (first|exact HB.out|apply below_alloc|apply pw_below_drewN|apply below_drew1))⟩
   ·have s0:decide (0<a2)=false:=decide_eq_false hk
    have s1:decide (0<a3)=false:=decide_eq_false hu
    have t0:decide (a<6)=false:=decide_eq_false (by omega)
    have t1:decide (a<9)=false:=decide_eq_false (by omega)
    have t2:(a == 9)=false:=beq_eq_false_iff_ne.mpr (by omega)
    have t3:decide (a<12)=false:=decide_eq_false (by omega)
    have t4:(a == 12)=false:=beq_eq_false_iff_ne.mpr (by omega)
    have t5:decide (a<15)=false:=decide_eq_false (by omega)
    have t6:(a == 15)=false:=beq_eq_false_iff_ne.mpr (by omega)
    have t7:decide (a<19)=true:=decide_eq_true (by omega)
    have t8:decide (a<23)=true:=decide_eq_true (by omega)
    have t9:decide (a<27)=true:=decide_eq_true (by omega)
    have t10:(a == 27)=false:=beq_eq_false_iff_ne.mpr (by omega)
    have t11:(a == 28)=false:=beq_eq_false_iff_ne.mpr (by omega)
    have t12:(a == 29)=false:=beq_eq_false_iff_ne.mpr (by omega)
    obtain ⟨y1,hy1⟩:∃ q:List Int,q=[wI 9 x y 3]:=⟨_,rfl⟩
    have Y1:=Ak hy1;clear hy1
    have E:Aside0 (blkL a x y z a2 a3 a4 a5=y1):=⟨by rw [Y1.out];unfold blkL;rw [if_neg (by first|omega|(rintro ⟨q1,q2⟩;first|omega|(cases q2;done)|(obtain ⟨q2,q3⟩:=q2;first|omega|(cases q2;done))))];rw [if_neg (by first|omega|(rintro ⟨q1,q2⟩;first|omega|(cases q2;done)|(obtain ⟨q2,q3⟩:=q2;first|omega|(cases q2;done))))];rw [if_neg (by first|omega|(rintro ⟨q1,q2⟩;first|omega|(cases q2;done)|(obtain ⟨q2,q3⟩:=q2;first|omega|(cases q2;done))))];rw [if_neg (by first|omega|(rintro ⟨q1,q2⟩;first|omega|(cases q2;done)|(obtain ⟨q2,q3⟩:=q2;first|omega|(cases q2;done))))];rw [if_neg (by first|omega|(rintro ⟨q1,q2⟩;first|omega|(cases q2;done)|(obtain ⟨q2,q3⟩:=q2;first|omega|(cases q2;done))))];rw [if_neg (by first|omega|(rintro ⟨q1,q2⟩;first|omega|(cases q2;done)|(obtain ⟨q2,q3⟩:=q2;first|omega|(cases q2;done))))];rw [if_neg (by first|omega|(rintro ⟨q1,q2⟩;first|omega|(cases q2;done)|(obtain ⟨q2,q3⟩:=q2;first|omega|(cases q2;done))))];rw [if_neg (by first|omega|(rintro ⟨q1,q2⟩;first|omega|(cases q2;done)|(obtain ⟨q2,q3⟩:=q2;first|omega|(cases q2;done))))];rw [if_neg (by first|omega|(rintro ⟨q1,q2⟩;first|omega|(cases q2;done)|(obtain ⟨q2,q3⟩:=q2;first|omega|(cases q2;done))))];rw [if_neg (by first|omega|(rintro ⟨q1,q2⟩;first|omega|(cases q2;done)|(obtain ⟨q2,q3⟩:=q2;first|omega|(cases q2;done))))];rw [if_neg (by first|omega|(rintro ⟨q1,q2⟩;first|omega|(cases q2;done)|(obtain ⟨q2,q3⟩:=q2;first|omega|(cases q2;done))))];rw [if_neg (by first|omega|(rintro ⟨q1,q2⟩;first|omega|(cases q2;done)|(obtain ⟨q2,q3⟩:=q2;first|omega|(cases q2;done))))];rw [if_neg (by first|omega|(rintro ⟨q1,q2⟩;first|omega|(cases q2;done)|(obtain ⟨q2,q3⟩:=q2;first|omega|(cases q2;done))))];rw [if_neg (by first|omega|(rintro ⟨q1,q2⟩;first|omega|(cases q2;done)|(obtain ⟨q2,q3⟩:=q2;first|omega|(cases q2;done))))];rw [if_neg (by first|omega|(rintro ⟨q1,q2⟩;first|omega|(cases q2;done)|(obtain ⟨q2,q3⟩:=q2;first|omega|(cases q2;done))))];skip⟩
    clear ha g0 g1 g2 g3 g4 g5 g6 g7 g8 g9 g10 g11 hk hu
    go_wp2_with (first|(go_at_call 119;refine (l4I_calls _ _ _ _ _ ?hI).mono ?_;(case hI=>have hz:=TZ.out;unfold inI;(try simp only [wrap64] at hz ⊢);omega);rintro e wn ⟨rfl,hb⟩;have n1_:=Ak (below_step (by repeat (first|exact HB.out|apply below_alloc|apply pw_below_drewN|apply below_drew1)) hb);clear HB;have HB:=n1_;clear n1_ hb)|(go_at_call 118;refine (l4W_calls _ _ _ _ ?hI).mono ?_;(case hI=>have hz:=TZ.out;unfold inW;(try simp only [wrap64] at hz ⊢);omega);rintro e wn ⟨rfl,hb⟩;have n1_:=Ak (below_step (by repeat (first|exact HB.out|apply below_alloc|apply pw_below_drewN|apply below_drew1)) hb);clear HB;have HB:=n1_;clear n1_ hb)|((with_reducible refine gate_dst (N:=313) rfl ?_);refine Kd.R_lit (Kd.int .u32) _ 78 ?hg (N:=313) ?hd (xs:=([wI 9 x y 3]:List Int)) (inner:=[.int .u32 (wI 9 x y 3)]) (ok:=fun _=>True) (okp:=fun _=>True) ?hr ?hp (fun _ hk=>hk) trivial (Below.refl _ _) (Nat.le_refl _) (by simp) ?_;(case hd=>rfl);(case hg=>rfl);(case hr=>first|(go_simp;done)|(go_simp;rfl));(case hp=>repeat (first|exact Reps.none _ _|refine Reps.one (show Kd.M (Kd.int .u32) _ _ _ _ [_] from rfl) ?_));intro vHO wn ho hb hg_ hnew_;clear hg_ hnew_;(first|rw [← Y1.out] at ho|(simp only [Int.reduceToNat] at ho;rw [← Y1.out] at ho));have HO:=Ak (Kd.R_lower ho (below_size (by repeat (first|exact HB.out|apply below_alloc|apply pw_below_drewN|apply below_drew1))));clear ho;have n1_:=Ak (below_step (by repeat (first|exact HB.out|apply below_alloc|apply pw_below_drewN|apply below_drew1)) hb);clear HB;have HB:=n1_;clear n1_ hb))
    go_ret2
    exact ⟨_,rfl,by rw [E.out];exact HO.out,(by repeat (first|exact HB.out|apply below_alloc|apply pw_below_drewN|apply below_drew1))⟩
 ·by_cases hk:0<a2
  ·have s0:decide (0<a2)=true:=decide_eq_true hk
   have t0:decide (a<6)=false:=decide_eq_false (by omega)
   have t1:decide (a<9)=false:=decide_eq_false (by omega)
   have t2:(a == 9)=false:=beq_eq_false_iff_ne.mpr (by omega)
   have t3:decide (a<12)=false:=decide_eq_false (by omega)
   have t4:(a == 12)=false:=beq_eq_false_iff_ne.mpr (by omega)
   have t5:decide (a<15)=false:=decide_eq_false (by omega)
   have t6:(a == 15)=false:=beq_eq_false_iff_ne.mpr (by omega)
   have t7:decide (a<19)=false:=decide_eq_false (by omega)
   have t8:decide (a<23)=true:=decide_eq_true (by omega)
   have E:Aside0 (blkL a x y z a2 a3 a4 a5=callL x y z a2):=⟨by unfold blkL;rw [if_neg (by first|omega|(rintro ⟨q1,q2⟩;first|omega|(cases q2;done)|(obtain ⟨q2,q3⟩:=q2;first|omega|(cases q2;done))))];rw [if_neg (by first|omega|(rintro ⟨q1,q2⟩;first|omega|(cases q2;done)|(obtain ⟨q2,q3⟩:=q2;first|omega|(cases q2;done))))];rw [if_neg (by first|omega|(rintro ⟨q1,q2⟩;first|omega|(cases q2;done)|(obtain ⟨q2,q3⟩:=q2;first|omega|(cases q2;done))))];rw [if_neg (by first|omega|(rintro ⟨q1,q2⟩;first|omega|(cases q2;done)|(obtain ⟨q2,q3⟩:=q2;first|omega|(cases q2;done))))];rw [if_neg (by first|omega|(rintro ⟨q1,q2⟩;first|omega|(cases q2;done)|(obtain ⟨q2,q3⟩:=q2;first|omega|(cases q2;done))))];rw [if_neg (by first|omega|(rintro ⟨q1,q2⟩;first|omega|(cases q2;done)|(obtain ⟨q2,q3⟩:=q2;first|omega|(cases q2;done))))];rw [if_neg (by first|omega|(rintro ⟨q1,q2⟩;first|omega|(cases q2;done)|(obtain ⟨q2,q3⟩:=q2;first|omega|(cases q2;done))))];rw [if_neg (by first|omega|(rintro ⟨q1,q2⟩;first|omega|(cases q2;done)|(obtain ⟨q2,q3⟩:=q2;first|omega|(cases q2;done))))];rw [if_pos (by first|omega|exact ⟨by omega,rfl⟩|exact ⟨by omega,rfl,by omega⟩)]⟩
   have IB:Aside0 (inB x y z a2):=⟨by unfold inB;omega⟩
   clear ha g0 g1 g2 g3 g4 g5 g6 g7 g8 g9 g10 g11 hk 
   go_wp2_with (go_at_call 132;refine (l4Call_calls _ _ _ _ _ IB.out).mono ?_;rintro e wn ⟨v0,rfl,hr,hb⟩;have HO:=Ak (Kd.R_lower hr (below_size (by repeat (first|exact HB.out|apply below_alloc|apply pw_below_drewN|apply below_drew1))));clear hr;have n1_:=Ak (below_step (by repeat (first|exact HB.out|apply below_alloc|apply pw_below_drewN|apply below_drew1)) hb);clear HB;have HB:=n1_;clear n1_ hb)
   go_ret2
   exact ⟨_,rfl,by rw [E.out];exact HO.out,(by repeat (first|exact HB.out|apply below_alloc|apply pw_below_drewN|apply below_drew1))⟩
  ·have s0:decide (0<a2)=false:=decide_eq_false hk
   have t0:decide (a<6)=false:=decide_eq_false (by omega)
   have t1:decide (a<9)=false:=decide_eq_false (by omega)
   have t2:(a == 9)=false:=beq_eq_false_iff_ne.mpr (by omega)
   have t3:decide (a<12)=false:=decide_eq_false (by omega)
   have t4:(a == 12)=false:=beq_eq_false_iff_ne.mpr (by omega)
   have t5:decide (a<15)=false:=decide_eq_false (by omega)
   have t6:(a == 15)=false:=beq_eq_false_iff_ne.mpr (by omega)
   have t7:decide (a<19)=false:=decide_eq_false (by omega)
   have t8:decide (a<23)=true:=decide_eq_true (by omega)
   have t9:decide (a<27)=true:=decide_eq_true (by omega)
   have t10:(a == 27)=false:=beq_eq_false_iff_ne.mpr (by omega)
   have t11:(a == 28)=false:=beq_eq_false_iff_ne.mpr (by omega)
   have t12:(a == 29)=false:=beq_eq_false_iff_ne.mpr (by omega)
   obtain ⟨y1,hy1⟩:∃ q:List Int,q=[wI 9 x y 3]:=⟨_,rfl⟩
   have Y1:=Ak hy1;clear hy1
   have E:Aside0 (blkL a x y z a2 a3 a4 a5=y1):=⟨by rw [Y1.out];unfold blkL;rw [if_neg (by first|omega|(rintro ⟨q1,q2⟩;first|omega|(cases q2;done)|(obtain ⟨q2,q3⟩:=q2;first|omega|(cases q2;done))))];rw [if_neg (by first|omega|(rintro ⟨q1,q2⟩;first|omega|(cases q2;done)|(obtain ⟨q2,q3⟩:=q2;first|omega|(cases q2;done))))];rw [if_neg (by first|omega|(rintro ⟨q1,q2⟩;first|omega|(cases q2;done)|(obtain ⟨q2,q3⟩:=q2;first|omega|(cases q2;done))))];rw [if_neg (by first|omega|(rintro ⟨q1,q2⟩;first|omega|(cases q2;done)|(obtain ⟨q2,q3⟩:=q2;first|omega|(cases q2;done))))];rw [if_neg (by first|omega|(rintro ⟨q1,q2⟩;first|omega|(cases q2;done)|(obtain ⟨q2,q3⟩:=q2;first|omega|(cases q2;done))))];rw [if_neg (by first|omega|(rintro ⟨q1,q2⟩;first|omega|(cases q2;done)|(obtain ⟨q2,q3⟩:=q2;first|omega|(cases q2;done))))];rw [if_neg (by first|omega|(rintro ⟨q1,q2⟩;first|omega|(cases q2;done)|(obtain ⟨q2,q3⟩:=q2;first|omega|(cases q2;done))))];rw [if_neg (by first|omega|(rintro ⟨q1,q2⟩;first|omega|(cases q2;done)|(obtain ⟨q2,q3⟩:=q2;first|omega|(cases q2;done))))];rw [if_neg (by first|omega|(rintro ⟨q1,q2⟩;first|omega|(cases q2;done)|(obtain ⟨q2,q3⟩:=q2;first|omega|(cases q2;done))))];rw [if_neg (by first|omega|(rintro ⟨q1,q2⟩;first|omega|(cases q2;done)|(obtain ⟨q2,q3⟩:=q2;first|omega|(cases q2;done))))];rw [if_neg (by first|omega|(rintro ⟨q1,q2⟩;first|omega|(cases q2;done)|(obtain ⟨q2,q3⟩:=q2;first|omega|(cases q2;done))))];rw [if_neg (by first|omega|(rintro ⟨q1,q2⟩;first|omega|(cases q2;done)|(obtain ⟨q2,q3⟩:=q2;first|omega|(cases q2;done))))];rw [if_neg (by first|omega|(rintro ⟨q1,q2⟩;first|omega|(cases q2;done)|(obtain ⟨q2,q3⟩:=q2;first|omega|(cases q2;done))))];rw [if_neg (by first|omega|(rintro ⟨q1,q2⟩;first|omega|(cases q2;done)|(obtain ⟨q2,q3⟩:=q2;first|omega|(cases q2;done))))];rw [if_neg (by first|omega|(rintro ⟨q1,q2⟩;first|omega|(cases q2;done)|(obtain ⟨q2,q3⟩:=q2;first|omega|(cases q2;done))))];skip⟩
   clear ha g0 g1 g2 g3 g4 g5 g6 g7 g8 g9 g10 g11 hk 
   go_wp2_with (first|(go_at_call 119;refine (l4I_calls _ _ _ _ _ ?hI).mono ?_;(case hI=>have hz:=TZ.out;unfold inI;(try simp only [wrap64] at hz ⊢);omega);rintro e wn ⟨rfl,hb⟩;have n1_:=Ak (below_step (by repeat (first|exact HB.out|apply below_alloc|apply pw_below_drewN|apply below_drew1)) hb);clear HB;have HB:=n1_;clear n1_ hb)|(go_at_call 118;refine (l4W_calls _ _ _ _ ?hI).mono ?_;(case hI=>have hz:=TZ.out;unfold inW;(try simp only [wrap64] at hz ⊢);omega);rintro e wn ⟨rfl,hb⟩;have n1_:=Ak (below_step (by repeat (first|exact HB.out|apply below_alloc|apply pw_below_drewN|apply below_drew1)) hb);clear HB;have HB:=n1_;clear n1_ hb)|((with_reducible refine gate_dst (N:=313) rfl ?_);refine Kd.R_lit (Kd.int .u32) _ 78 ?hg (N:=313) ?hd (xs:=([wI 9 x y 3]:List Int)) (inner:=[.int .u32 (wI 9 x y 3)]) (ok:=fun _=>True) (okp:=fun _=>True) ?hr ?hp (fun _ hk=>hk) trivial (Below.refl _ _) (Nat.le_refl _) (by simp) ?_;(case hd=>rfl);(case hg=>rfl);(case hr=>first|(go_simp;done)|(go_simp;rfl));(case hp=>repeat (first|exact Reps.none _ _|refine Reps.one (show Kd.M (Kd.int .u32) _ _ _ _ [_] from rfl) ?_));intro vHO wn ho hb hg_ hnew_;clear hg_ hnew_;(first|rw [← Y1.out] at ho|(simp only [Int.reduceToNat] at ho;rw [← Y1.out] at ho));have HO:=Ak (Kd.R_lower ho (below_size (by repeat (first|exact HB.out|apply below_alloc|apply pw_below_drewN|apply below_drew1))));clear ho;have n1_:=Ak (below_step (by repeat (first|exact HB.out|apply below_alloc|apply pw_below_drewN|apply below_drew1)) hb);clear HB;have HB:=n1_;clear n1_ hb))
   go_ret2
   exact ⟨_,rfl,by rw [E.out];exact HO.out,(by repeat (first|exact HB.out|apply below_alloc|apply pw_below_drewN|apply below_drew1))⟩
 ·by_cases hk:0<a2
  ·have s0:decide (0<a2)=true:=decide_eq_true hk
   have t0:decide (a<6)=false:=decide_eq_false (by omega)
   have t1:decide (a<9)=false:=decide_eq_false (by omega)
   have t2:(a == 9)=false:=beq_eq_false_iff_ne.mpr (by omega)
   have t3:decide (a<12)=false:=decide_eq_false (by omega)
   have t4:(a == 12)=false:=beq_eq_false_iff_ne.mpr (by omega)
   have t5:decide (a<15)=false:=decide_eq_false (by omega)
   have t6:(a == 15)=false:=beq_eq_false_iff_ne.mpr (by omega)
   have t7:decide (a<19)=false:=decide_eq_false (by omega)
   have t8:decide (a<23)=false:=decide_eq_false (by omega)
   have t9:decide (a<27)=true:=decide_eq_true (by omega)
   have E:Aside0 (blkL a x y z a2 a3 a4 a5=threadL x y z a2):=⟨by unfold blkL;rw [if_neg (by first|omega|(rintro ⟨q1,q2⟩;first|omega|(cases q2;done)|(obtain ⟨q2,q3⟩:=q2;first|omega|(cases q2;done))))];rw [if_neg (by first|omega|(rintro ⟨q1,q2⟩;first|omega|(cases q2;done)|(obtain ⟨q2,q3⟩:=q2;first|omega|(cases q2;done))))];rw [if_neg (by first|omega|(rintro ⟨q1,q2⟩;first|omega|(cases q2;done)|(obtain ⟨q2,q3⟩:=q2;first|omega|(cases q2;done))))];rw [if_neg (by first|omega|(rintro ⟨q1,q2⟩;first|omega|(cases q2;done)|(obtain ⟨q2,q3⟩:=q2;first|omega|(cases q2;done))))];rw [if_neg (by first|omega|(rintro ⟨q1,q2⟩;first|omega|(cases q2;done)|(obtain ⟨q2,q3⟩:=q2;first|omega|(cases q2;done))))];rw [if_neg (by first|omega|(rintro ⟨q1,q2⟩;first|omega|(cases q2;done)|(obtain ⟨q2,q3⟩:=q2;first|omega|(cases q2;done))))];rw [if_neg (by first|omega|(rintro ⟨q1,q2⟩;first|omega|(cases q2;done)|(obtain ⟨q2,q3⟩:=q2;first|omega|(cases q2;done))))];rw [if_neg (by first|omega|(rintro ⟨q1,q2⟩;first|omega|(cases q2;done)|(obtain ⟨q2,q3⟩:=q2;first|omega|(cases q2;done))))];rw [if_neg (by first|omega|(rintro ⟨q1,q2⟩;first|omega|(cases q2;done)|(obtain ⟨q2,q3⟩:=q2;first|omega|(cases q2;done))))];rw [if_pos (by first|omega|exact ⟨by omega,rfl⟩|exact ⟨by omega,rfl,by omega⟩)]⟩
   have IB:Aside0 (inB x y z a2):=⟨by unfold inB;omega⟩
   clear ha g0 g1 g2 g3 g4 g5 g6 g7 g8 g9 g10 g11 hk 
   go_wp2_with (go_at_call 133;refine (l4Thread_calls _ _ _ _ _ IB.out).mono ?_;rintro e wn ⟨v0,rfl,hr,hb⟩;have HO:=Ak (Kd.R_lower hr (below_size (by repeat (first|exact HB.out|apply below_alloc|apply pw_below_drewN|apply below_drew1))));clear hr;have n1_:=Ak (below_step (by repeat (first|exact HB.out|apply below_alloc|apply pw_below_drewN|apply below_drew1)) hb);clear HB;have HB:=n1_;clear n1_ hb)
   go_ret2
   exact ⟨_,rfl,by rw [E.out];exact HO.out,(by repeat (first|exact HB.out|apply below_alloc|apply pw_below_drewN|apply below_drew1))⟩
  ·have s0:decide (0<a2)=false:=decide_eq_false hk
   have t0:decide (a<6)=false:=decide_eq_false (by omega)
   have t1:decide (a<9)=false:=decide_eq_false (by omega)
   have t2:(a == 9)=false:=beq_eq_false_iff_ne.mpr (by omega)
   have t3:decide (a<12)=false:=decide_eq_false (by omega)
   have t4:(a == 12)=false:=beq_eq_false_iff_ne.mpr (by omega)
   have t5:decide (a<15)=false:=decide_eq_false (by omega)
   have t6:(a == 15)=false:=beq_eq_false_iff_ne.mpr (by omega)
   have t7:decide (a<19)=false:=decide_eq_false (by omega)
   have t8:decide (a<23)=false:=decide_eq_false (by omega)
   have t9:decide (a<27)=true:=decide_eq_true (by omega)
   have t10:(a == 27)=false:=beq_eq_false_iff_ne.mpr (by omega)
   have t11:(a == 28)=false:=beq_eq_false_iff_ne.mpr (by omega)
   have t12:(a == 29)=false:=beq_eq_false_iff_ne.mpr (by omega)
   obtain ⟨y1,hy1⟩:∃ q:List Int,q=[wI 9 x y 3]:=⟨_,rfl⟩
   have Y1:=Ak hy1;clear hy1
   have E:Aside0 (blkL a x y z a2 a3 a4 a5=y1):=⟨by rw [Y1.out];unfold blkL;rw [if_neg (by first|omega|(rintro ⟨q1,q2⟩;first|omega|(cases q2;done)|(obtain ⟨q2,q3⟩:=q2;first|omega|(cases q2;done))))];rw [if_neg (by first|omega|(rintro ⟨q1,q2⟩;first|omega|(cases q2;done)|(obtain ⟨q2,q3⟩:=q2;first|omega|(cases q2;done))))];rw [if_neg (by first|omega|(rintro ⟨q1,q2⟩;first|omega|(cases q2;done)|(obtain ⟨q2,q3⟩:=q2;first|omega|(cases q2;done))))];rw [if_neg (by first|omega|(rintro ⟨q1,q2⟩;first|omega|(cases q2;done)|(obtain ⟨q2,q3⟩:=q2;first|omega|(cases q2;done))))];rw [if_neg (by first|omega|(rintro ⟨q1,q2⟩;first|omega|(cases q2;done)|(obtain ⟨q2,q3⟩:=q2;first|omega|(cases q2;done))))];rw [if_neg (by first|omega|(rintro ⟨q1,q2⟩;first|omega|(cases q2;done)|(obtain ⟨q2,q3⟩:=q2;first|omega|(cases q2;done))))];rw [if_neg (by first|omega|(rintro ⟨q1,q2⟩;first|omega|(cases q2;done)|(obtain ⟨q2,q3⟩:=q2;first|omega|(cases q2;done))))];rw [if_neg (by first|omega|(rintro ⟨q1,q2⟩;first|omega|(cases q2;done)|(obtain ⟨q2,q3⟩:=q2;first|omega|(cases q2;done))))];rw [if_neg (by first|omega|(rintro ⟨q1,q2⟩;first|omega|(cases q2;done)|(obtain ⟨q2,q3⟩:=q2;first|omega|(cases q2;done))))];rw [if_neg (by first|omega|(rintro ⟨q1,q2⟩;first|omega|(cases q2;done)|(obtain ⟨q2,q3⟩:=q2;first|omega|(cases q2;done))))];rw [if_neg (by first|omega|(rintro ⟨q1,q2⟩;first|omega|(cases q2;done)|(obtain ⟨q2,q3⟩:=q2;first|omega|(cases q2;done))))];rw [if_neg (by first|omega|(rintro ⟨q1,q2⟩;first|omega|(cases q2;done)|(obtain ⟨q2,q3⟩:=q2;first|omega|(cases q2;done))))];rw [if_neg (by first|omega|(rintro ⟨q1,q2⟩;first|omega|(cases q2;done)|(obtain ⟨q2,q3⟩:=q2;first|omega|(cases q2;done))))];rw [if_neg (by first|omega|(rintro ⟨q1,q2⟩;first|omega|(cases q2;done)|(obtain ⟨q2,q3⟩:=q2;first|omega|(cases q2;done))))];rw [if_neg (by first|omega|(rintro ⟨q1,q2⟩;first|omega|(cases q2;done)|(obtain ⟨q2,q3⟩:=q2;first|omega|(cases q2;done))))];skip⟩
   clear ha g0 g1 g2 g3 g4 g5 g6 g7 g8 g9 g10 g11 hk 
   go_wp2_with (first|(go_at_call 119;refine (l4I_calls _ _ _ _ _ ?hI).mono ?_;(case hI=>have hz:=TZ.out;unfold inI;(try simp only [wrap64] at hz ⊢);omega);rintro e wn ⟨rfl,hb⟩;have n1_:=Ak (below_step (by repeat (first|exact HB.out|apply below_alloc|apply pw_below_drewN|apply below_drew1)) hb);clear HB;have HB:=n1_;clear n1_ hb)|(go_at_call 118;refine (l4W_calls _ _ _ _ ?hI).mono ?_;(case hI=>have hz:=TZ.out;unfold inW;(try simp only [wrap64] at hz ⊢);omega);rintro e wn ⟨rfl,hb⟩;have n1_:=Ak (below_step (by repeat (first|exact HB.out|apply below_alloc|apply pw_below_drewN|apply below_drew1)) hb);clear HB;have HB:=n1_;clear n1_ hb)|((with_reducible refine gate_dst (N:=313) rfl ?_);refine Kd.R_lit (Kd.int .u32) _ 78 ?hg (N:=313) ?hd (xs:=([wI 9 x y 3]:List Int)) (inner:=[.int .u32 (wI 9 x y 3)]) (ok:=fun _=>True) (okp:=fun _=>True) ?hr ?hp (fun _ hk=>hk) trivial (Below.refl _ _) (Nat.le_refl _) (by simp) ?_;(case hd=>rfl);(case hg=>rfl);(case hr=>first|(go_simp;done)|(go_simp;rfl));(case hp=>repeat (first|exact Reps.none _ _|refine Reps.one (show Kd.M (Kd.int .u32) _ _ _ _ [_] from rfl) ?_));intro vHO wn ho hb hg_ hnew_;clear hg_ hnew_;(first|rw [← Y1.out] at ho|(simp only [Int.reduceToNat] at ho;rw [← Y1.out] at ho));have HO:=Ak (Kd.R_lower ho (below_size (by repeat (first|exact HB.out|apply below_alloc|apply pw_below_drewN|apply below_drew1))));clear ho;have n1_:=Ak (below_step (by repeat (first|exact HB.out|apply below_alloc|apply pw_below_drewN|apply below_drew1)) hb);clear HB;have HB:=n1_;clear n1_ hb))
   go_ret2
   exact ⟨_,rfl,by rw [E.out];exact HO.out,(by repeat (first|exact HB.out|apply below_alloc|apply pw_below_drewN|apply below_drew1))⟩
 ·cases a5
  ·have t0:decide (a<6)=false:=decide_eq_false (by omega)
   have t1:decide (a<9)=false:=decide_eq_false (by omega)
   have t2:(a == 9)=false:=beq_eq_false_iff_ne.mpr (by omega)
   have t3:decide (a<12)=false:=decide_eq_false (by omega)
   have t4:(a == 12)=false:=beq_eq_false_iff_ne.mpr (by omega)
   have t5:decide (a<15)=false:=decide_eq_false (by omega)
   have t6:(a == 15)=false:=beq_eq_false_iff_ne.mpr (by omega)
   have t7:decide (a<19)=false:=decide_eq_false (by omega)
   have t8:decide (a<23)=false:=decide_eq_false (by omega)
   have t9:decide (a<27)=false:=decide_eq_false (by omega)
   have t10:(a == 27)=true:=beq_iff_eq.mpr (by omega)
   have t11:(a == 28)=false:=beq_eq_false_iff_ne.mpr (by omega)
   have t12:(a == 29)=false:=beq_eq_false_iff_ne.mpr (by omega)
   obtain ⟨y1,hy1⟩:∃ q:List Int,q=[wI 9 x y 3]:=⟨_,rfl⟩
   have Y1:=Ak hy1;clear hy1
   have E:Aside0 (blkL a x y z a2 a3 a4 false=y1):=⟨by rw [Y1.out];unfold blkL;rw [if_neg (by first|omega|(rintro ⟨q1,q2⟩;first|omega|(cases q2;done)|(obtain ⟨q2,q3⟩:=q2;first|omega|(cases q2;done))))];rw [if_neg (by first|omega|(rintro ⟨q1,q2⟩;first|omega|(cases q2;done)|(obtain ⟨q2,q3⟩:=q2;first|omega|(cases q2;done))))];rw [if_neg (by first|omega|(rintro ⟨q1,q2⟩;first|omega|(cases q2;done)|(obtain ⟨q2,q3⟩:=q2;first|omega|(cases q2;done))))];rw [if_neg (by first|omega|(rintro ⟨q1,q2⟩;first|omega|(cases q2;done)|(obtain ⟨q2,q3⟩:=q2;first|omega|(cases q2;done))))];rw [if_neg (by first|omega|(rintro ⟨q1,q2⟩;first|omega|(cases q2;done)|(obtain ⟨q2,q3⟩:=q2;first|omega|(cases q2;done))))];rw [if_neg (by first|omega|(rintro ⟨q1,q2⟩;first|omega|(cases q2;done)|(obtain ⟨q2,q3⟩:=q2;first|omega|(cases q2;done))))];rw [if_neg (by first|omega|(rintro ⟨q1,q2⟩;first|omega|(cases q2;done)|(obtain ⟨q2,q3⟩:=q2;first|omega|(cases q2;done))))];rw [if_neg (by first|omega|(rintro ⟨q1,q2⟩;first|omega|(cases q2;done)|(obtain ⟨q2,q3⟩:=q2;first|omega|(cases q2;done))))];rw [if_neg (by first|omega|(rintro ⟨q1,q2⟩;first|omega|(cases q2;done)|(obtain ⟨q2,q3⟩:=q2;first|omega|(cases q2;done))))];rw [if_neg (by first|omega|(rintro ⟨q1,q2⟩;first|omega|(cases q2;done)|(obtain ⟨q2,q3⟩:=q2;first|omega|(cases q2;done))))];rw [if_neg (by first|omega|(rintro ⟨q1,q2⟩;first|omega|(cases q2;done)|(obtain ⟨q2,q3⟩:=q2;first|omega|(cases q2;done))))];rw [if_neg (by first|omega|(rintro ⟨q1,q2⟩;first|omega|(cases q2;done)|(obtain ⟨q2,q3⟩:=q2;first|omega|(cases q2;done))))];rw [if_neg (by first|omega|(rintro ⟨q1,q2⟩;first|omega|(cases q2;done)|(obtain ⟨q2,q3⟩:=q2;first|omega|(cases q2;done))))];rw [if_neg (by first|omega|(rintro ⟨q1,q2⟩;first|omega|(cases q2;done)|(obtain ⟨q2,q3⟩:=q2;first|omega|(cases q2;done))))];rw [if_neg (by first|omega|(rintro ⟨q1,q2⟩;first|omega|(cases q2;done)|(obtain ⟨q2,q3⟩:=q2;first|omega|(cases q2;done))))];skip⟩
   clear ha g0 g1 g2 g3 g4 g5 g6 g7 g8 g9 g10 g11
   go_wp2_with (first|(go_at_call 119;refine (l4I_calls _ _ _ _ _ ?hI).mono ?_;(case hI=>have hz:=TZ.out;unfold inI;(try simp only [wrap64] at hz ⊢);omega);rintro e wn ⟨rfl,hb⟩;have n1_:=Ak (below_step (by repeat (first|exact HB.out|apply below_alloc|apply pw_below_drewN|apply below_drew1)) hb);clear HB;have HB:=n1_;clear n1_ hb)|(go_at_call 118;refine (l4W_calls _ _ _ _ ?hI).mono ?_;(case hI=>have hz:=TZ.out;unfold inW;(try simp only [wrap64] at hz ⊢);omega);rintro e wn ⟨rfl,hb⟩;have n1_:=Ak (below_step (by repeat (first|exact HB.out|apply below_alloc|apply pw_below_drewN|apply below_drew1)) hb);clear HB;have HB:=n1_;clear n1_ hb)|((with_reducible refine gate_dst (N:=313) rfl ?_);refine Kd.R_lit (Kd.int .u32) _ 78 ?hg (N:=313) ?hd (xs:=([wI 9 x y 3]:List Int)) (inner:=[.int .u32 (wI 9 x y 3)]) (ok:=fun _=>True) (okp:=fun _=>True) ?hr ?hp (fun _ hk=>hk) trivial (Below.refl _ _) (Nat.le_refl _) (by simp) ?_;(case hd=>rfl);(case hg=>rfl);(case hr=>first|(go_simp;done)|(go_simp;rfl));(case hp=>repeat (first|exact Reps.none _ _|refine Reps.one (show Kd.M (Kd.int .u32) _ _ _ _ [_] from rfl) ?_));intro vHO wn ho hb hg_ hnew_;clear hg_ hnew_;(first|rw [← Y1.out] at ho|(simp only [Int.reduceToNat] at ho;rw [← Y1.out] at ho));have HO:=Ak (Kd.R_lower ho (below_size (by repeat (first|exact HB.out|apply below_alloc|apply pw_below_drewN|apply below_drew1))));clear ho;have n1_:=Ak (below_step (by repeat (first|exact HB.out|apply below_alloc|apply pw_below_drewN|apply below_drew1)) hb);clear HB;have HB:=n1_;clear n1_ hb))
   go_ret2
   exact ⟨_,rfl,by rw [E.out];exact HO.out,(by repeat (first|exact HB.out|apply below_alloc|apply pw_below_drewN|apply below_drew1))⟩
  ·have t0:decide (a<6)=false:=decide_eq_false (by omega)
   have t1:decide (a<9)=false:=decide_eq_false (by omega)
   have t2:(a == 9)=false:=beq_eq_false_iff_ne.mpr (by omega)
   have t3:decide (a<12)=false:=decide_eq_false (by omega)
   have t4:(a == 12)=false:=beq_eq_false_iff_ne.mpr (by omega)
   have t5:decide (a<15)=false:=decide_eq_false (by omega)
   have t6:(a == 15)=false:=beq_eq_false_iff_ne.mpr (by omega)
   have t7:decide (a<19)=false:=decide_eq_false (by omega)
   have t8:decide (a<23)=false:=decide_eq_false (by omega)
   have t9:decide (a<27)=false:=decide_eq_false (by omega)
   have t10:(a == 27)=true:=beq_iff_eq.mpr (by omega)
   obtain ⟨y1,hy1⟩:∃ q:List Int,q=[wI 0 7 x 0,wI 31 7 (Int.tmod z 3) (wrap64 (1+Int.tmod z 2)),wI 0 y 7 0]:=⟨_,rfl⟩
   have Y1:=Ak hy1;clear hy1
   have E:Aside0 (blkL a x y z a2 a3 a4 true=y1):=⟨by rw [Y1.out];unfold blkL;rw [if_neg (by first|omega|(rintro ⟨q1,q2⟩;first|omega|(cases q2;done)|(obtain ⟨q2,q3⟩:=q2;first|omega|(cases q2;done))))];rw [if_neg (by first|omega|(rintro ⟨q1,q2⟩;first|omega|(cases q2;done)|(obtain ⟨q2,q3⟩:=q2;first|omega|(cases q2;done))))];rw [if_neg (by first|omega|(rintro ⟨q1,q2⟩;first|omega|(cases q2;done)|(obtain ⟨q2,q3⟩:=q2;first|omega|(cases q2;done))))];rw [if_neg (by first|omega|(rintro ⟨q1,q2⟩;first|omega|(cases q2;done)|(obtain ⟨q2,q3⟩:=q2;first|omega|(cases q2;done))))];rw [if_neg (by first|omega|(rintro ⟨q1,q2⟩;first|omega|(cases q2;done)|(obtain ⟨q2,q3⟩:=q2;first|omega|(cases q2;done))))];rw [if_neg (by first|omega|(rintro ⟨q1,q2⟩;first|omega|(cases q2;done)|(obtain ⟨q2,q3⟩:=q2;first|omega|(cases q2;done))))];rw [if_neg (by first|omega|(rintro ⟨q1,q2⟩;first|omega|(cases q2;done)|(obtain ⟨q2,q3⟩:=q2;first|omega|(cases q2;done))))];rw [if_neg (by first|omega|(rintro ⟨q1,q2⟩;first|omega|(cases q2;done)|(obtain ⟨q2,q3⟩:=q2;first|omega|(cases q2;done))))];rw [if_neg (by first|omega|(rintro ⟨q1,q2⟩;first|omega|(cases q2;done)|(obtain ⟨q2,q3⟩:=q2;first|omega|(cases q2;done))))];rw [if_neg (by first|omega|(rintro ⟨q1,q2⟩;first|omega|(cases q2;done)|(obtain ⟨q2,q3⟩:=q2;first|omega|(cases q2;done))))];rw [if_pos (by first|omega|exact ⟨by omega,rfl⟩|exact ⟨by omega,rfl,by omega⟩)];skip⟩
   clear ha g0 g1 g2 g3 g4 g5 g6 g7 g8 g9 g10 g11
   go_wp2_with (first|(go_at_call 119;refine (l4I_calls _ _ _ _ _ ?hI).mono ?_;(case hI=>have hz:=TZ.out;unfold inI;(try simp only [wrap64] at hz ⊢);omega);rintro e wn ⟨rfl,hb⟩;have n1_:=Ak (below_step (by repeat (first|exact HB.out|apply below_alloc|apply pw_below_drewN|apply below_drew1)) hb);clear HB;have HB:=n1_;clear n1_ hb)|(go_at_call 118;refine (l4W_calls _ _ _ _ ?hI).mono ?_;(case hI=>have hz:=TZ.out;unfold inW;(try simp only [wrap64] at hz ⊢);omega);rintro e wn ⟨rfl,hb⟩;have n1_:=Ak (below_step (by repeat (first|exact HB.out|apply below_alloc|apply pw_below_drewN|apply below_drew1)) hb);clear HB;have HB:=n1_;clear n1_ hb)|((with_reducible refine gate_dst (N:=260) rfl ?_);refine Kd.R_lit (Kd.int .u32) _ 78 ?hg (N:=260) ?hd (xs:=([wI 0 7 x 0,wI 31 7 (Int.tmod z 3) (wrap64 (1+Int.tmod z 2)),wI 0 y 7 0]:List Int)) (inner:=[.int .u32 (wI 0 7 x 0),.int .u32 (wI 31 7 (Int.tmod z 3) (wrap64 (1+Int.tmod z 2))),.int .u32 (wI 0 y 7 0)]) (ok:=fun _=>True) (okp:=fun _=>True) ?hr ?hp (fun _ hk=>hk) trivial (Below.refl _ _) (Nat.le_refl _) (by simp) ?_;(case hd=>rfl);(case hg=>rfl);(case hr=>first|(go_simp;done)|(go_simp;rfl));(case hp=>repeat (first|exact Reps.none _ _|refine Reps.one (show Kd.M (Kd.int .u32) _ _ _ _ [_] from rfl) ?_));intro vHO wn ho hb hg_ hnew_;clear hg_ hnew_;(first|rw [← Y1.out] at ho|(simp only [Int.reduceToNat] at ho;rw [← Y1.out] at ho));have HO:=Ak (Kd.R_lower ho (below_size (by repeat (first|exact HB.out|apply below_alloc|apply pw_below_drewN|apply below_drew1))));clear ho;have n1_:=Ak (below_step (by repeat (first|exact HB.out|apply below_alloc|apply pw_below_drewN|apply below_drew1)) hb);clear HB;have HB:=n1_;clear n1_ hb))
   go_ret2
   exact ⟨_,rfl,by rw [E.out];exact HO.out,(by repeat (first|exact HB.out|apply below_alloc|apply pw_below_drewN|apply below_drew1))⟩
 ·cases a5
  ·cases a4
   ·have t0:decide (a<6)=false:=decide_eq_false (by omega)
    have t1:decide (a<9)=false:=decide_eq_false (by omega)
    have t2:(a == 9)=false:=beq_eq_false_iff_ne.mpr (by omega)
    have t3:decide (a<12)=false:=decide_eq_false (by omega)
    have t4:(a == 12)=false:=beq_eq_false_iff_ne.mpr (by omega)
    have t5:decide (a<15)=false:=decide_eq_false (by omega)
    have t6:(a == 15)=false:=beq_eq_false_iff_ne.mpr (by omega)
    have t7:decide (a<19)=false:=decide_eq_false (by omega)
    have t8:decide (a<23)=false:=decide_eq_false (by omega)
    have t9:decide (a<27)=false:=decide_eq_false (by omega)
    have t10:(a == 27)=false:=beq_eq_false_iff_ne.mpr (by omega)
    have t11:(a == 28)=true:=beq_iff_eq.mpr (by omega)
    have t12:(a == 29)=false:=beq_eq_false_iff_ne.mpr (by omega)
    obtain ⟨y1,hy1⟩:∃ q:List Int,q=[wI 9 x y 3]:=⟨_,rfl⟩
    have Y1:=Ak hy1;clear hy1
    have E:Aside0 (blkL a x y z a2 a3 false false=y1):=⟨by rw [Y1.out];unfold blkL;rw [if_neg (by first|omega|(rintro ⟨q1,q2⟩;first|omega|(cases q2;done)|(obtain ⟨q2,q3⟩:=q2;first|omega|(cases q2;done))))];rw [if_neg (by first|omega|(rintro ⟨q1,q2⟩;first|omega|(cases q2;done)|(obtain ⟨q2,q3⟩:=q2;first|omega|(cases q2;done))))];rw [if_neg (by first|omega|(rintro ⟨q1,q2⟩;first|omega|(cases q2;done)|(obtain ⟨q2,q3⟩:=q2;first|omega|(cases q2;done))))];rw [if_neg (by first|omega|(rintro ⟨q1,q2⟩;first|omega|(cases q2;done)|(obtain ⟨q2,q3⟩:=q2;first|omega|(cases q2;done))))];rw [if_neg (by first|omega|(rintro ⟨q1,q2⟩;first|omega|(cases q2;done)|(obtain ⟨q2,q3⟩:=q2;first|omega|(cases q2;done))))];rw [if_neg (by first|omega|(rintro ⟨q1,q2⟩;first|omega|(cases q2;done)|(obtain ⟨q2,q3⟩:=q2;first|omega|(cases q2;done))))];rw [if_neg (by first|omega|(rintro ⟨q1,q2⟩;first|omega|(cases q2;done)|(obtain ⟨q2,q3⟩:=q2;first|omega|(cases q2;done))))];rw [if_neg (by first|omega|(rintro ⟨q1,q2⟩;first|omega|(cases q2;done)|(obtain ⟨q2,q3⟩:=q2;first|omega|(cases q2;done))))];rw [if_neg (by first|omega|(rintro ⟨q1,q2⟩;first|omega|(cases q2;done)|(obtain ⟨q2,q3⟩:=q2;first|omega|(cases q2;done))))];rw [if_neg (by first|omega|(rintro ⟨q1,q2⟩;first|omega|(cases q2;done)|(obtain ⟨q2,q3⟩:=q2;first|omega|(cases q2;done))))];rw [if_neg (by first|omega|(rintro ⟨q1,q2⟩;first|omega|(cases q2;done)|(obtain ⟨q2,q3⟩:=q2;first|omega|(cases q2;done))))];rw [if_neg (by first|omega|(rintro ⟨q1,q2⟩;first|omega|(cases q2;done)|(obtain ⟨q2,q3⟩:=q2;first|omega|(cases q2;done))))];rw [if_neg (by first|omega|(rintro ⟨q1,q2⟩;first|omega|(cases q2;done)|(obtain ⟨q2,q3⟩:=q2;first|omega|(cases q2;done))))];rw [if_neg (by first|omega|(rintro ⟨q1,q2⟩;first|omega|(cases q2;done)|(obtain ⟨q2,q3⟩:=q2;first|omega|(cases q2;done))))];rw [if_neg (by first|omega|(rintro ⟨q1,q2⟩;first|omega|(cases q2;done)|(obtain ⟨q2,q3⟩:=q2;first|omega|(cases q2;done))))];skip⟩
    clear ha g0 g1 g2 g3 g4 g5 g6 g7 g8 g9 g10 g11
    go_wp2_with (first|(go_at_call 119;refine (l4I_calls _ _ _ _ _ ?hI).mono ?_;(case hI=>have hz:=TZ.out;unfold inI;(try simp only [wrap64] at hz ⊢);omega);rintro e wn ⟨rfl,hb⟩;have n1_:=Ak (below_step (by repeat (first|exact HB.out|apply below_alloc|apply pw_below_drewN|apply below_drew1)) hb);clear HB;have HB:=n1_;clear n1_ hb)|(go_at_call 118;refine (l4W_calls _ _ _ _ ?hI).mono ?_;(case hI=>have hz:=TZ.out;unfold inW;(try simp only [wrap64] at hz ⊢);omega);rintro e wn ⟨rfl,hb⟩;have n1_:=Ak (below_step (by repeat (first|exact HB.out|apply below_alloc|apply pw_below_drewN|apply below_drew1)) hb);clear HB;have HB:=n1_;clear n1_ hb)|((with_reducible refine gate_dst (N:=313) rfl ?_);refine Kd.R_lit (Kd.int .u32) _ 78 ?hg (N:=313) ?hd (xs:=([wI 9 x y 3]:List Int)) (inner:=[.int .u32 (wI 9 x y 3)]) (ok:=fun _=>True) (okp:=fun _=>True) ?hr ?hp (fun _ hk=>hk) trivial (Below.refl _ _) (Nat.le_refl _) (by simp) ?_;(case hd=>rfl);(case hg=>rfl);(case hr=>first|(go_simp;done)|(go_simp;rfl));(case hp=>repeat (first|exact Reps.none _ _|refine Reps.one (show Kd.M (Kd.int .u32) _ _ _ _ [_] from rfl) ?_));intro vHO wn ho hb hg_ hnew_;clear hg_ hnew_;(first|rw [← Y1.out] at ho|(simp only [Int.reduceToNat] at ho;rw [← Y1.out] at ho));have HO:=Ak (Kd.R_lower ho (below_size (by repeat (first|exact HB.out|apply below_alloc|apply pw_below_drewN|apply below_drew1))));clear ho;have n1_:=Ak (below_step (by repeat (first|exact HB.out|apply below_alloc|apply pw_below_drewN|apply below_drew1)) hb);clear HB;have HB:=n1_;clear n1_ hb))
    go_ret2
    exact ⟨_,rfl,by rw [E.out];exact HO.out,(by repeat (first|exact HB.out|apply below_alloc|apply pw_below_drewN|apply below_drew1))⟩
   ·have t0:decide (a<6)=false:=decide_eq_false (by omega)
    have t1:decide (a<9)=false:=decide_eq_false (by omega)
    have t2:(a == 9)=false:=beq_eq_false_iff_ne.mpr (by omega)
    have t3:decide (a<12)=false:=decide_eq_false (by omega)
    have t4:(a == 12)=false:=beq_eq_false_iff_ne.mpr (by omega)
    have t5:decide (a<15)=false:=decide_eq_false (by omega)
    have t6:(a == 15)=false:=beq_eq_false_iff_ne.mpr (by omega)
    have t7:decide (a<19)=false:=decide_eq_false (by omega)
    have t8:decide (a<23)=false:=decide_eq_false (by omega)
    have t9:decide (a<27)=false:=decide_eq_false (by omega)
    have t10:(a == 27)=false:=beq_eq_false_iff_ne.mpr (by omega)
    have t11:(a == 28)=true:=beq_iff_eq.mpr (by omega)
    obtain ⟨y1,hy1⟩:∃ q:List Int,q=[wI 24 7 2 0,wI 0 x 7 0]:=⟨_,rfl⟩
    have Y1:=Ak hy1;clear hy1
    have E:Aside0 (blkL a x y z a2 a3 true false=y1):=⟨by rw [Y1.out];unfold blkL;rw [if_neg (by first|omega|(rintro ⟨q1,q2⟩;first|omega|(cases q2;done)|(obtain ⟨q2,q3⟩:=q2;first|omega|(cases q2;done))))];rw [if_neg (by first|omega|(rintro ⟨q1,q2⟩;first|omega|(cases q2;done)|(obtain ⟨q2,q3⟩:=q2;first|omega|(cases q2;done))))];rw [if_neg (by first|omega|(rintro ⟨q1,q2⟩;first|omega|(cases q2;done)|(obtain ⟨q2,q3⟩:=q2;first|omega|(cases q2;done))))];rw [if_neg (by first|omega|(rintro ⟨q1,q2⟩;first|omega|(cases q2;done)|(obtain ⟨q2,q3⟩:=q2;first|omega|(cases q2;done))))];rw [if_neg (by first|omega|(rintro ⟨q1,q2⟩;first|omega|(cases q2;done)|(obtain ⟨q2,q3⟩:=q2;first|omega|(cases q2;done))))];rw [if_neg (by first|omega|(rintro ⟨q1,q2⟩;first|omega|(cases q2;done)|(obtain ⟨q2,q3⟩:=q2;first|omega|(cases q2;done))))];rw [if_neg (by first|omega|(rintro ⟨q1,q2⟩;first|omega|(cases q2;done)|(obtain ⟨q2,q3⟩:=q2;first|omega|(cases q2;done))))];rw [if_neg (by first|omega|(rintro ⟨q1,q2⟩;first|omega|(cases q2;done)|(obtain ⟨q2,q3⟩:=q2;first|omega|(cases q2;done))))];rw [if_neg (by first|omega|(rintro ⟨q1,q2⟩;first|omega|(cases q2;done)|(obtain ⟨q2,q3⟩:=q2;first|omega|(cases q2;done))))];rw [if_neg (by first|omega|(rintro ⟨q1,q2⟩;first|omega|(cases q2;done)|(obtain ⟨q2,q3⟩:=q2;first|omega|(cases q2;done))))];rw [if_neg (by first|omega|(rintro ⟨q1,q2⟩;first|omega|(cases q2;done)|(obtain ⟨q2,q3⟩:=q2;first|omega|(cases q2;done))))];rw [if_neg (by first|omega|(rintro ⟨q1,q2⟩;first|omega|(cases q2;done)|(obtain ⟨q2,q3⟩:=q2;first|omega|(cases q2;done))))];rw [if_pos (by first|omega|exact ⟨by omega,rfl⟩|exact ⟨by omega,rfl,by omega⟩)];skip⟩
    clear ha g0 g1 g2 g3 g4 g5 g6 g7 g8 g9 g10 g11
    go_wp2_with (first|(go_at_call 119;refine (l4I_calls _ _ _ _ _ ?hI).mono ?_;(case hI=>have hz:=TZ.out;unfold inI;(try simp only [wrap64] at hz ⊢);omega);rintro e wn ⟨rfl,hb⟩;have n1_:=Ak (below_step (by repeat (first|exact HB.out|apply below_alloc|apply pw_below_drewN|apply below_drew1)) hb);clear HB;have HB:=n1_;clear n1_ hb)|(go_at_call 118;refine (l4W_calls _ _ _ _ ?hI).mono ?_;(case hI=>have hz:=TZ.out;unfold inW;(try simp only [wrap64] at hz ⊢);omega);rintro e wn ⟨rfl,hb⟩;have n1_:=Ak (below_step (by repeat (first|exact HB.out|apply below_alloc|apply pw_below_drewN|apply below_drew1)) hb);clear HB;have HB:=n1_;clear n1_ hb)|((with_reducible refine gate_dst (N:=285) rfl ?_);refine Kd.R_lit (Kd.int .u32) _ 78 ?hg (N:=285) ?hd (xs:=([wI 24 7 2 0,wI 0 x 7 0]:List Int)) (inner:=[.int .u32 (wI 24 7 2 0),.int .u32 (wI 0 x 7 0)]) (ok:=fun _=>True) (okp:=fun _=>True) ?hr ?hp (fun _ hk=>hk) trivial (Below.refl _ _) (Nat.le_refl _) (by simp) ?_;(case hd=>rfl);(case hg=>rfl);(case hr=>first|(go_simp;done)|(go_simp;rfl));(case hp=>repeat (first|exact Reps.none _ _|refine Reps.one (show Kd.M (Kd.int .u32) _ _ _ _ [_] from rfl) ?_));intro vHO wn ho hb hg_ hnew_;clear hg_ hnew_;(first|rw [← Y1.out] at ho|(simp only [Int.reduceToNat] at ho;rw [← Y1.out] at ho));have HO:=Ak (Kd.R_lower ho (below_size (by repeat (first|exact HB.out|apply below_alloc|apply pw_below_drewN|apply below_drew1))));clear ho;have n1_:=Ak (below_step (by repeat (first|exact HB.out|apply below_alloc|apply pw_below_drewN|apply below_drew1)) hb);clear HB;have HB:=n1_;clear n1_ hb))
    go_ret2
    exact ⟨_,rfl,by rw [E.out];exact HO.out,(by repeat (first|exact HB.out|apply below_alloc|apply pw_below_drewN|apply below_drew1))⟩
  ·by_cases hz4:z<4
   ·have s2:decide (z<4)=true:=decide_eq_true hz4
    have t0:decide (a<6)=false:=decide_eq_false (by omega)
    have t1:decide (a<9)=false:=decide_eq_false (by omega)
    have t2:(a == 9)=false:=beq_eq_false_iff_ne.mpr (by omega)
    have t3:decide (a<12)=false:=decide_eq_false (by omega)
    have t4:(a == 12)=false:=beq_eq_false_iff_ne.mpr (by omega)
    have t5:decide (a<15)=false:=decide_eq_false (by omega)
    have t6:(a == 15)=false:=beq_eq_false_iff_ne.mpr (by omega)
    have t7:decide (a<19)=false:=decide_eq_false (by omega)
    have t8:decide (a<23)=false:=decide_eq_false (by omega)
    have t9:decide (a<27)=false:=decide_eq_false (by omega)
    have t10:(a == 27)=false:=beq_eq_false_iff_ne.mpr (by omega)
    have t11:(a == 28)=true:=beq_iff_eq.mpr (by omega)
    obtain ⟨y1,hy1⟩:∃ q:List Int,q=[wI 0 7 x 0,wI 31 7 1 511,wI 23 7 511 0]:=⟨_,rfl⟩
    have Y1:=Ak hy1;clear hy1
    have E:Aside0 (blkL a x y z a2 a3 a4 true=y1):=⟨by rw [Y1.out];unfold blkL;rw [if_neg (by first|omega|(rintro ⟨q1,q2⟩;first|omega|(cases q2;done)|(obtain ⟨q2,q3⟩:=q2;first|omega|(cases q2;done))))];rw [if_neg (by first|omega|(rintro ⟨q1,q2⟩;first|omega|(cases q2;done)|(obtain ⟨q2,q3⟩:=q2;first|omega|(cases q2;done))))];rw [if_neg (by first|omega|(rintro ⟨q1,q2⟩;first|omega|(cases q2;done)|(obtain ⟨q2,q3⟩:=q2;first|omega|(cases q2;done))))];rw [if_neg (by first|omega|(rintro ⟨q1,q2⟩;first|omega|(cases q2;done)|(obtain ⟨q2,q3⟩:=q2;first|omega|(cases q2;done))))];rw [if_neg (by first|omega|(rintro ⟨q1,q2⟩;first|omega|(cases q2;done)|(obtain ⟨q2,q3⟩:=q2;first|omega|(cases q2;done))))];rw [if_neg (by first|omega|(rintro ⟨q1,q2⟩;first|omega|(cases q2;done)|(obtain ⟨q2,q3⟩:=q2;first|omega|(cases q2;done))))];rw [if_neg (by first|omega|(rintro ⟨q1,q2⟩;first|omega|(cases q2;done)|(obtain ⟨q2,q3⟩:=q2;first|omega|(cases q2;done))))];rw [if_neg (by first|omega|(rintro ⟨q1,q2⟩;first|omega|(cases q2;done)|(obtain ⟨q2,q3⟩:=q2;first|omega|(cases q2;done))))];rw [if_neg (by first|omega|(rintro ⟨q1,q2⟩;first|omega|(cases q2;done)|(obtain ⟨q2,q3⟩:=q2;first|omega|(cases q2;done))))];rw [if_neg (by first|omega|(rintro ⟨q1,q2⟩;first|omega|(cases q2;done)|(obtain ⟨q2,q3⟩:=q2;first|omega|(cases q2;done))))];rw [if_neg (by first|omega|(rintro ⟨q1,q2⟩;first|omega|(cases q2;done)|(obtain ⟨q2,q3⟩:=q2;first|omega|(cases q2;done))))];rw [if_pos (by first|omega|exact ⟨by omega,rfl⟩|exact ⟨by omega,rfl,by omega⟩)];skip⟩
    clear ha g0 g1 g2 g3 g4 g5 g6 g7 g8 g9 g10 g11 hz4
    go_wp2_with (first|(go_at_call 119;refine (l4I_calls _ _ _ _ _ ?hI).mono ?_;(case hI=>have hz:=TZ.out;unfold inI;(try simp only [wrap64] at hz ⊢);omega);rintro e wn ⟨rfl,hb⟩;have n1_:=Ak (below_step (by repeat (first|exact HB.out|apply below_alloc|apply pw_below_drewN|apply below_drew1)) hb);clear HB;have HB:=n1_;clear n1_ hb)|(go_at_call 118;refine (l4W_calls _ _ _ _ ?hI).mono ?_;(case hI=>have hz:=TZ.out;unfold inW;(try simp only [wrap64] at hz ⊢);omega);rintro e wn ⟨rfl,hb⟩;have n1_:=Ak (below_step (by repeat (first|exact HB.out|apply below_alloc|apply pw_below_drewN|apply below_drew1)) hb);clear HB;have HB:=n1_;clear n1_ hb)|((with_reducible refine gate_dst (N:=275) rfl ?_);refine Kd.R_lit (Kd.int .u32) _ 78 ?hg (N:=275) ?hd (xs:=([wI 0 7 x 0,wI 31 7 1 511,wI 23 7 511 0]:List Int)) (inner:=[.int .u32 (wI 0 7 x 0),.int .u32 (wI 31 7 1 511),.int .u32 (wI 23 7 511 0)]) (ok:=fun _=>True) (okp:=fun _=>True) ?hr ?hp (fun _ hk=>hk) trivial (Below.refl _ _) (Nat.le_refl _) (by simp) ?_;(case hd=>rfl);(case hg=>rfl);(case hr=>first|(go_simp;done)|(go_simp;rfl));(case hp=>repeat (first|exact Reps.none _ _|refine Reps.one (show Kd.M (Kd.int .u32) _ _ _ _ [_] from rfl) ?_));intro vHO wn ho hb hg_ hnew_;clear hg_ hnew_;(first|rw [← Y1.out] at ho|(simp only [Int.reduceToNat] at ho;rw [← Y1.out] at ho));have HO:=Ak (Kd.R_lower ho (below_size (by repeat (first|exact HB.out|apply below_alloc|apply pw_below_drewN|apply below_drew1))));clear ho;have n1_:=Ak (below_step (by repeat (first|exact HB.out|apply below_alloc|apply pw_below_drewN|apply below_drew1)) hb);clear HB;have HB:=n1_;clear n1_ hb))
    go_ret2
    exact ⟨_,rfl,by rw [E.out];exact HO.out,(by repeat (first|exact HB.out|apply below_alloc|apply pw_below_drewN|apply below_drew1))⟩
   ·cases a4
    ·have s2:decide (z<4)=false:=decide_eq_false hz4
     have t0:decide (a<6)=false:=decide_eq_false (by omega)
     have t1:decide (a<9)=false:=decide_eq_false (by omega)
     have t2:(a == 9)=false:=beq_eq_false_iff_ne.mpr (by omega)
     have t3:decide (a<12)=false:=decide_eq_false (by omega)
     have t4:(a == 12)=false:=beq_eq_false_iff_ne.mpr (by omega)
     have t5:decide (a<15)=false:=decide_eq_false (by omega)
     have t6:(a == 15)=false:=beq_eq_false_iff_ne.mpr (by omega)
     have t7:decide (a<19)=false:=decide_eq_false (by omega)
     have t8:decide (a<23)=false:=decide_eq_false (by omega)
     have t9:decide (a<27)=false:=decide_eq_false (by omega)
     have t10:(a == 27)=false:=beq_eq_false_iff_ne.mpr (by omega)
     have t11:(a == 28)=true:=beq_iff_eq.mpr (by omega)
     have t12:(a == 29)=false:=beq_eq_false_iff_ne.mpr (by omega)
     obtain ⟨y1,hy1⟩:∃ q:List Int,q=[wI 9 x y 3]:=⟨_,rfl⟩
     have Y1:=Ak hy1;clear hy1
     have E:Aside0 (blkL a x y z a2 a3 false true=y1):=⟨by rw [Y1.out];unfold blkL;rw [if_neg (by first|omega|(rintro ⟨q1,q2⟩;first|omega|(cases q2;done)|(obtain ⟨q2,q3⟩:=q2;first|omega|(cases q2;done))))];rw [if_neg (by first|omega|(rintro ⟨q1,q2⟩;first|omega|(cases q2;done)|(obtain ⟨q2,q3⟩:=q2;first|omega|(cases q2;done))))];rw [if_neg (by first|omega|(rintro ⟨q1,q2⟩;first|omega|(cases q2;done)|(obtain ⟨q2,q3⟩:=q2;first|omega|(cases q2;done))))];rw [if_neg (by first|omega|(rintro ⟨q1,q2⟩;first|omega|(cases q2;done)|(obtain ⟨q2,q3⟩:=q2;first|omega|(cases q2;done))))];rw [if_neg (by first|omega|(rintro ⟨q1,q2⟩;first|omega|(cases q2;done)|(obtain ⟨q2,q3⟩:=q2;first|omega|(cases q2;done))))];rw [if_neg (by first|omega|(rintro ⟨q1,q2⟩;first|omega|(cases q2;done)|(obtain ⟨q2,q3⟩:=q2;first|omega|(cases q2;done))))];rw [if_neg (by first|omega|(rintro ⟨q1,q2⟩;first|omega|(cases q2;done)|(obtain ⟨q2,q3⟩:=q2;first|omega|(cases q2;done))))];rw [if_neg (by first|omega|(rintro ⟨q1,q2⟩;first|omega|(cases q2;done)|(obtain ⟨q2,q3⟩:=q2;first|omega|(cases q2;done))))];rw [if_neg (by first|omega|(rintro ⟨q1,q2⟩;first|omega|(cases q2;done)|(obtain ⟨q2,q3⟩:=q2;first|omega|(cases q2;done))))];rw [if_neg (by first|omega|(rintro ⟨q1,q2⟩;first|omega|(cases q2;done)|(obtain ⟨q2,q3⟩:=q2;first|omega|(cases q2;done))))];rw [if_neg (by first|omega|(rintro ⟨q1,q2⟩;first|omega|(cases q2;done)|(obtain ⟨q2,q3⟩:=q2;first|omega|(cases q2;done))))];rw [if_neg (by first|omega|(rintro ⟨q1,q2⟩;first|omega|(cases q2;done)|(obtain ⟨q2,q3⟩:=q2;first|omega|(cases q2;done))))];rw [if_neg (by first|omega|(rintro ⟨q1,q2⟩;first|omega|(cases q2;done)|(obtain ⟨q2,q3⟩:=q2;first|omega|(cases q2;done))))];rw [if_neg (by first|omega|(rintro ⟨q1,q2⟩;first|omega|(cases q2;done)|(obtain ⟨q2,q3⟩:=q2;first|omega|(cases q2;done))))];rw [if_neg (by first|omega|(rintro ⟨q1,q2⟩;first|omega|(cases q2;done)|(obtain ⟨q2,q3⟩:=q2;first|omega|(cases q2;done))))];skip⟩
     clear ha g0 g1 g2 g3 g4 g5 g6 g7 g8 g9 g10 g11 hz4
     go_wp2_with (first|(go_at_call 119;refine (l4I_calls _ _ _ _ _ ?hI).mono ?_;(case hI=>have hz:=TZ.out;unfold inI;(try simp only [wrap64] at hz ⊢);omega);rintro e wn ⟨rfl,hb⟩;have n1_:=Ak (below_step (by repeat (first|exact HB.out|apply below_alloc|apply pw_below_drewN|apply below_drew1)) hb);clear HB;have HB:=n1_;clear n1_ hb)|(go_at_call 118;refine (l4W_calls _ _ _ _ ?hI).mono ?_;(case hI=>have hz:=TZ.out;unfold inW;(try simp only [wrap64] at hz ⊢);omega);rintro e wn ⟨rfl,hb⟩;have n1_:=Ak (below_step (by repeat (first|exact HB.out|apply below_alloc|apply pw_below_drewN|apply below_drew1)) hb);clear HB;have HB:=n1_;clear n1_ hb)|((with_reducible refine gate_dst (N:=313) rfl ?_);refine Kd.R_lit (Kd.int .u32) _ 78 ?hg (N:=313) ?hd (xs:=([wI 9 x y 3]:List Int)) (inner:=[.int .u32 (wI 9 x y 3)]) (ok:=fun _=>True) (okp:=fun _=>True) ?hr ?hp (fun _ hk=>hk) trivial (Below.refl _ _) (Nat.le_refl _) (by simp) ?_;(case hd=>rfl);(case hg=>rfl);(case hr=>first|(go_simp;done)|(go_simp;rfl));(case hp=>repeat (first|exact Reps.none _ _|refine Reps.one (show Kd.M (Kd.int .u32) _ _ _ _ [_] from rfl) ?_));intro vHO wn ho hb hg_ hnew_;clear hg_ hnew_;(first|rw [← Y1.out] at ho|(simp only [Int.reduceToNat] at ho;rw [← Y1.out] at ho));have HO:=Ak (Kd.R_lower ho (below_size (by repeat (first|exact HB.out|apply below_alloc|apply pw_below_drewN|apply below_drew1))));clear ho;have n1_:=Ak (below_step (by repeat (first|exact HB.out|apply below_alloc|apply pw_below_drewN|apply below_drew1)) hb);clear HB;have HB:=n1_;clear n1_ hb))
     go_ret2
     exact ⟨_,rfl,by rw [E.out];exact HO.out,(by repeat (first|exact HB.out|apply below_alloc|apply pw_below_drewN|apply below_drew1))⟩
    ·have s2:decide (z<4)=false:=decide_eq_false hz4
     have t0:decide (a<6)=false:=decide_eq_false (by omega)
     have t1:decide (a<9)=false:=decide_eq_false (by omega)
     have t2:(a == 9)=false:=beq_eq_false_iff_ne.mpr (by omega)
     have t3:decide (a<12)=false:=decide_eq_false (by omega)
     have t4:(a == 12)=false:=beq_eq_false_iff_ne.mpr (by omega)
     have t5:decide (a<15)=false:=decide_eq_false (by omega)
     have t6:(a == 15)=false:=beq_eq_false_iff_ne.mpr (by omega)
     have t7:decide (a<19)=false:=decide_eq_false (by omega)
     have t8:decide (a<23)=false:=decide_eq_false (by omega)
     have t9:decide (a<27)=false:=decide_eq_false (by omega)
     have t10:(a == 27)=false:=beq_eq_false_iff_ne.mpr (by omega)
     have t11:(a == 28)=true:=beq_iff_eq.mpr (by omega)
     obtain ⟨y1,hy1⟩:∃ q:List Int,q=[wI 24 7 2 0,wI 0 x 7 0]:=⟨_,rfl⟩
     have Y1:=Ak hy1;clear hy1
     have E:Aside0 (blkL a x y z a2 a3 true true=y1):=⟨by rw [Y1.out];unfold blkL;rw [if_neg (by first|omega|(rintro ⟨q1,q2⟩;first|omega|(cases q2;done)|(obtain ⟨q2,q3⟩:=q2;first|omega|(cases q2;done))))];rw [if_neg (by first|omega|(rintro ⟨q1,q2⟩;first|omega|(cases q2;done)|(obtain ⟨q2,q3⟩:=q2;first|omega|(cases q2;done))))];rw [if_neg (by first|omega|(rintro ⟨q1,q2⟩;first|omega|(cases q2;done)|(obtain ⟨q2,q3⟩:=q2;first|omega|(cases q2;done))))];rw [if_neg (by first|omega|(rintro ⟨q1,q2⟩;first|omega|(cases q2;done)|(obtain ⟨q2,q3⟩:=q2;first|omega|(cases q2;done))))];rw [if_neg (by first|omega|(rintro ⟨q1,q2⟩;first|omega|(cases q2;done)|(obtain ⟨q2,q3⟩:=q2;first|omega|(cases q2;done))))];rw [if_neg (by first|omega|(rintro ⟨q1,q2⟩;first|omega|(cases q2;done)|(obtain ⟨q2,q3⟩:=q2;first|omega|(cases q2;done))))];rw [if_neg (by first|omega|(rintro ⟨q1,q2⟩;first|omega|(cases q2;done)|(obtain ⟨q2,q3⟩:=q2;first|omega|(cases q2;done))))];rw [if_neg (by first|omega|(rintro ⟨q1,q2⟩;first|omega|(cases q2;done)|(obtain ⟨q2,q3⟩:=q2;first|omega|(cases q2;done))))];rw [if_neg (by first|omega|(rintro ⟨q1,q2⟩;first|omega|(cases q2;done)|(obtain ⟨q2,q3⟩:=q2;first|omega|(cases q2;done))))];rw [if_neg (by first|omega|(rintro ⟨q1,q2⟩;first|omega|(cases q2;done)|(obtain ⟨q2,q3⟩:=q2;first|omega|(cases q2;done))))];rw [if_neg (by first|omega|(rintro ⟨q1,q2⟩;first|omega|(cases q2;done)|(obtain ⟨q2,q3⟩:=q2;first|omega|(cases q2;done))))];rw [if_neg (by first|omega|(rintro ⟨q1,q2⟩;first|omega|(cases q2;done)|(obtain ⟨q2,q3⟩:=q2;first|omega|(cases q2;done))))];rw [if_pos (by first|omega|exact ⟨by omega,rfl⟩|exact ⟨by omega,rfl,by omega⟩)];skip⟩
     clear ha g0 g1 g2 g3 g4 g5 g6 g7 g8 g9 g10 g11 hz4
     go_wp2_with (first|(go_at_call 119;refine (l4I_calls _ _ _ _ _ ?hI).mono ?_;(case hI=>have hz:=TZ.out;unfold inI;(try simp only [wrap64] at hz ⊢);omega);rintro e wn ⟨rfl,hb⟩;have n1_:=Ak (below_step (by repeat (first|exact HB.out|apply below_alloc|apply pw_below_drewN|apply below_drew1)) hb);clear HB;have HB:=n1_;clear n1_ hb)|(go_at_call 118;refine (l4W_calls _ _ _ _ ?hI).mono ?_;(case hI=>have hz:=TZ.out;unfold inW;(try simp only [wrap64] at hz ⊢);omega);rintro e wn ⟨rfl,hb⟩;have n1_:=Ak (below_step (by repeat (first|exact HB.out|apply below_alloc|apply pw_below_drewN|apply below_drew1)) hb);clear HB;have HB:=n1_;clear n1_ hb)|((with_reducible refine gate_dst (N:=285) rfl ?_);refine Kd.R_lit (Kd.int .u32) _ 78 ?hg (N:=285) ?hd (xs:=([wI 24 7 2 0,wI 0 x 7 0]:List Int)) (inner:=[.int .u32 (wI 24 7 2 0),.int .u32 (wI 0 x 7 0)]) (ok:=fun _=>True) (okp:=fun _=>True) ?hr ?hp (fun _ hk=>hk) trivial (Below.refl _ _) (Nat.le_refl _) (by simp) ?_;(case hd=>rfl);(case hg=>rfl);(case hr=>first|(go_simp;done)|(go_simp;rfl));(case hp=>repeat (first|exact Reps.none _ _|refine Reps.one (show Kd.M (Kd.int .u32) _ _ _ _ [_] from rfl) ?_));intro vHO wn ho hb hg_ hnew_;clear hg_ hnew_;(first|rw [← Y1.out] at ho|(simp only [Int.reduceToNat] at ho;rw [← Y1.out] at ho));have HO:=Ak (Kd.R_lower ho (below_size (by repeat (first|exact HB.out|apply below_alloc|apply pw_below_drewN|apply below_drew1))));clear ho;have n1_:=Ak (below_step (by repeat (first|exact HB.out|apply below_alloc|apply pw_below_drewN|apply below_drew1)) hb);clear HB;have HB:=n1_;clear n1_ hb))
     go_ret2
     exact ⟨_,rfl,by rw [E.out];exact HO.out,(by repeat (first|exact HB.out|apply below_alloc|apply pw_below_drewN|apply below_drew1))⟩
 ·by_cases hz0:z=0
  ·have s3:(z == 0)=true:=beq_iff_eq.mpr hz0
   have t0:decide (a<6)=false:=decide_eq_false (by omega)
   have t1:decide (a<9)=false:=decide_eq_false (by omega)
   have t2:(a == 9)=false:=beq_eq_false_iff_ne.mpr (by omega)
   have t3:decide (a<12)=false:=decide_eq_false (by omega)
   have t4:(a == 12)=false:=beq_eq_false_iff_ne.mpr (by omega)
   have t5:decide (a<15)=false:=decide_eq_false (by omega)
   have t6:(a == 15)=false:=beq_eq_false_iff_ne.mpr (by omega)
   have t7:decide (a<19)=false:=decide_eq_false (by omega)
   have t8:decide (a<23)=false:=decide_eq_false (by omega)
   have t9:decide (a<27)=false:=decide_eq_false (by omega)
   have t10:(a == 27)=false:=beq_eq_false_iff_ne.mpr (by omega)
   have t11:(a == 28)=false:=beq_eq_false_iff_ne.mpr (by omega)
   have t12:(a == 29)=true:=beq_iff_eq.mpr (by omega)
   obtain ⟨y1,hy1⟩:∃ q:List Int,q=[wI 33 x 0 0]:=⟨_,rfl⟩
   have Y1:=Ak hy1;clear hy1
   have E:Aside0 (blkL a x y z a2 a3 a4 a5=y1):=⟨by rw [Y1.out];unfold blkL;rw [if_neg (by first|omega|(rintro ⟨q1,q2⟩;first|omega|(cases q2;done)|(obtain ⟨q2,q3⟩:=q2;first|omega|(cases q2;done))))];rw [if_neg (by first|omega|(rintro ⟨q1,q2⟩;first|omega|(cases q2;done)|(obtain ⟨q2,q3⟩:=q2;first|omega|(cases q2;done))))];rw [if_neg (by first|omega|(rintro ⟨q1,q2⟩;first|omega|(cases q2;done)|(obtain ⟨q2,q3⟩:=q2;first|omega|(cases q2;done))))];rw [if_neg (by first|omega|(rintro ⟨q1,q2⟩;first|omega|(cases q2;done)|(obtain ⟨q2,q3⟩:=q2;first|omega|(cases q2;done))))];rw [if_neg (by first|omega|(rintro ⟨q1,q2⟩;first|omega|(cases q2;done)|(obtain ⟨q2,q3⟩:=q2;first|omega|(cases q2;done))))];rw [if_neg (by first|omega|(rintro ⟨q1,q2⟩;first|omega|(cases q2;done)|(obtain ⟨q2,q3⟩:=q2;first|omega|(cases q2;done))))];rw [if_neg (by first|omega|(rintro ⟨q1,q2⟩;first|omega|(cases q2;done)|(obtain ⟨q2,q3⟩:=q2;first|omega|(cases q2;done))))];rw [if_neg (by first|omega|(rintro ⟨q1,q2⟩;first|omega|(cases q2;done)|(obtain ⟨q2,q3⟩:=q2;first|omega|(cases q2;done))))];rw [if_neg (by first|omega|(rintro ⟨q1,q2⟩;first|omega|(cases q2;done)|(obtain ⟨q2,q3⟩:=q2;first|omega|(cases q2;done))))];rw [if_neg (by first|omega|(rintro ⟨q1,q2⟩;first|omega|(cases q2;done)|(obtain ⟨q2,q3⟩:=q2;first|omega|(cases q2;done))))];rw [if_neg (by first|omega|(rintro ⟨q1,q2⟩;first|omega|(cases q2;done)|(obtain ⟨q2,q3⟩:=q2;first|omega|(cases q2;done))))];rw [if_neg (by first|omega|(rintro ⟨q1,q2⟩;first|omega|(cases q2;done)|(obtain ⟨q2,q3⟩:=q2;first|omega|(cases q2;done))))];rw [if_neg (by first|omega|(rintro ⟨q1,q2⟩;first|omega|(cases q2;done)|(obtain ⟨q2,q3⟩:=q2;first|omega|(cases q2;done))))];rw [if_pos (by first|omega|exact ⟨by omega,rfl⟩|exact ⟨by omega,rfl,by omega⟩)];skip⟩
   clear ha g0 g1 g2 g3 g4 g5 g6 g7 g8 g9 g10 g11 hz0
   go_wp2_with (first|(go_at_call 119;refine (l4I_calls _ _ _ _ _ ?hI).mono ?_;(case hI=>have hz:=TZ.out;unfold inI;(try simp only [wrap64] at hz ⊢);omega);rintro e wn ⟨rfl,hb⟩;have n1_:=Ak (below_step (by repeat (first|exact HB.out|apply below_alloc|apply pw_below_drewN|apply below_drew1)) hb);clear HB;have HB:=n1_;clear n1_ hb)|(go_at_call 118;refine (l4W_calls _ _ _ _ ?hI).mono ?_;(case hI=>have hz:=TZ.out;unfold inW;(try simp only [wrap64] at hz ⊢);omega);rintro e wn ⟨rfl,hb⟩;have n1_:=Ak (below_step (by repeat (first|exact HB.out|apply below_alloc|apply pw_below_drewN|apply below_drew1)) hb);clear HB;have HB:=n1_;clear n1_ hb)|((with_reducible refine gate_dst (N:=295) rfl ?_);refine Kd.R_lit (Kd.int .u32) _ 78 ?hg (N:=295) ?hd (xs:=([wI 33 x 0 0]:List Int)) (inner:=[.int .u32 (wI 33 x 0 0)]) (ok:=fun _=>True) (okp:=fun _=>True) ?hr ?hp (fun _ hk=>hk) trivial (Below.refl _ _) (Nat.le_refl _) (by simp) ?_;(case hd=>rfl);(case hg=>rfl);(case hr=>first|(go_simp;done)|(go_simp;rfl));(case hp=>repeat (first|exact Reps.none _ _|refine Reps.one (show Kd.M (Kd.int .u32) _ _ _ _ [_] from rfl) ?_));intro vHO wn ho hb hg_ hnew_;clear hg_ hnew_;(first|rw [← Y1.out] at ho|(simp only [Int.reduceToNat] at ho;rw [← Y1.out] at ho));have HO:=Ak (Kd.R_lower ho (below_size (by repeat (first|exact HB.out|apply below_alloc|apply pw_below_drewN|apply below_drew1))));clear ho;have n1_:=Ak (below_step (by repeat (first|exact HB.out|apply below_alloc|apply pw_below_drewN|apply below_drew1)) hb);clear HB;have HB:=n1_;clear n1_ hb))
   go_ret2
   exact ⟨_,rfl,by rw [E.out];exact HO.out,(by repeat (first|exact HB.out|apply below_alloc|apply pw_below_drewN|apply below_drew1))⟩
  ·have s3:(z == 0)=false:=beq_eq_false_iff_ne.mpr hz0
   have t0:decide (a<6)=false:=decide_eq_false (by omega)
   have t1:decide (a<9)=false:=decide_eq_false (by omega)
   have t2:(a == 9)=false:=beq_eq_false_iff_ne.mpr (by omega)
   have t3:decide (a<12)=false:=decide_eq_false (by omega)
   have t4:(a == 12)=false:=beq_eq_false_iff_ne.mpr (by omega)
   have t5:decide (a<15)=false:=decide_eq_false (by omega)
   have t6:(a == 15)=false:=beq_eq_false_iff_ne.mpr (by omega)
   have t7:decide (a<19)=false:=decide_eq_false (by omega)
   have t8:decide (a<23)=false:=decide_eq_false (by omega)
   have t9:decide (a<27)=false:=decide_eq_false (by omega)
   have t10:(a == 27)=false:=beq_eq_false_iff_ne.mpr (by omega)
   have t11:(a == 28)=false:=beq_eq_false_iff_ne.mpr (by omega)
   have t12:(a == 29)=true:=beq_iff_eq.mpr (by omega)
   obtain ⟨y1,hy1⟩:∃ q:List Int,q=[wI 3 10 (Int.tmod z 2) 0,wI 26 (Int.tmod z 12) 0 0,wI 6 11 0 0,wI 8 11 5 10,wI 7 9 11 5]:=⟨_,rfl⟩
   have Y1:=Ak hy1;clear hy1
   have E:Aside0 (blkL a x y z a2 a3 a4 a5=y1):=⟨by rw [Y1.out];unfold blkL;rw [if_neg (by first|omega|(rintro ⟨q1,q2⟩;first|omega|(cases q2;done)|(obtain ⟨q2,q3⟩:=q2;first|omega|(cases q2;done))))];rw [if_neg (by first|omega|(rintro ⟨q1,q2⟩;first|omega|(cases q2;done)|(obtain ⟨q2,q3⟩:=q2;first|omega|(cases q2;done))))];rw [if_neg (by first|omega|(rintro ⟨q1,q2⟩;first|omega|(cases q2;done)|(obtain ⟨q2,q3⟩:=q2;first|omega|(cases q2;done))))];rw [if_neg (by first|omega|(rintro ⟨q1,q2⟩;first|omega|(cases q2;done)|(obtain ⟨q2,q3⟩:=q2;first|omega|(cases q2;done))))];rw [if_neg (by first|omega|(rintro ⟨q1,q2⟩;first|omega|(cases q2;done)|(obtain ⟨q2,q3⟩:=q2;first|omega|(cases q2;done))))];rw [if_neg (by first|omega|(rintro ⟨q1,q2⟩;first|omega|(cases q2;done)|(obtain ⟨q2,q3⟩:=q2;first|omega|(cases q2;done))))];rw [if_neg (by first|omega|(rintro ⟨q1,q2⟩;first|omega|(cases q2;done)|(obtain ⟨q2,q3⟩:=q2;first|omega|(cases q2;done))))];rw [if_neg (by first|omega|(rintro ⟨q1,q2⟩;first|omega|(cases q2;done)|(obtain ⟨q2,q3⟩:=q2;first|omega|(cases q2;done))))];rw [if_neg (by first|omega|(rintro ⟨q1,q2⟩;first|omega|(cases q2;done)|(obtain ⟨q2,q3⟩:=q2;first|omega|(cases q2;done))))];rw [if_neg (by first|omega|(rintro ⟨q1,q2⟩;first|omega|(cases q2;done)|(obtain ⟨q2,q3⟩:=q2;first|omega|(cases q2;done))))];rw [if_neg (by first|omega|(rintro ⟨q1,q2⟩;first|omega|(cases q2;done)|(obtain ⟨q2,q3⟩:=q2;first|omega|(cases q2;done))))];rw [if_neg (by first|omega|(rintro ⟨q1,q2⟩;first|omega|(cases q2;done)|(obtain ⟨q2,q3⟩:=q2;first|omega|(cases q2;done))))];rw [if_neg (by first|omega|(rintro ⟨q1,q2⟩;first|omega|(cases q2;done)|(obtain ⟨q2,q3⟩:=q2;first|omega|(cases q2;done))))];rw [if_neg (by first|omega|(rintro ⟨q1,q2⟩;first|omega|(cases q2;done)|(obtain ⟨q2,q3⟩:=q2;first|omega|(cases q2;done))))];rw [if_pos (by first|omega|exact ⟨by omega,rfl⟩|exact ⟨by omega,rfl,by omega⟩)];skip⟩
   clear ha g0 g1 g2 g3 g4 g5 g6 g7 g8 g9 g10 g11 hz0
   go_wp2_with (first|(go_at_call 119;refine (l4I_calls _ _ _ _ _ ?hI).mono ?_;(case hI=>have hz:=TZ.out;unfold inI;(try simp only [wrap64] at hz ⊢);omega);rintro e wn ⟨rfl,hb⟩;have n1_:=Ak (below_step (by repeat (first|exact HB.out|apply below_alloc|apply pw_below_drewN|apply below_drew1)) hb);clear HB;have HB:=n1_;clear n1_ hb)|(go_at_call 118;refine (l4W_calls _ _ _ _ ?hI).mono ?_;(case hI=>have hz:=TZ.out;unfold inW;(try simp only [wrap64] at hz ⊢);omega);rintro e wn ⟨rfl,hb⟩;have n1_:=Ak (below_step (by repeat (first|exact HB.out|apply below_alloc|apply pw_below_drewN|apply below_drew1)) hb);clear HB;have HB:=n1_;clear n1_ hb)|((with_reducible refine gate_dst (N:=308) rfl ?_);refine Kd.R_lit (Kd.int .u32) _ 78 ?hg (N:=308) ?hd (xs:=([wI 3 10 (Int.tmod z 2) 0,wI 26 (Int.tmod z 12) 0 0,wI 6 11 0 0,wI 8 11 5 10,wI 7 9 11 5]:List Int)) (inner:=[.int .u32 (wI 3 10 (Int.tmod z 2) 0),.int .u32 (wI 26 (Int.tmod z 12) 0 0),.int .u32 (wI 6 11 0 0),.int .u32 (wI 8 11 5 10),.int .u32 (wI 7 9 11 5)]) (ok:=fun _=>True) (okp:=fun _=>True) ?hr ?hp (fun _ hk=>hk) trivial (Below.refl _ _) (Nat.le_refl _) (by simp) ?_;(case hd=>rfl);(case hg=>rfl);(case hr=>first|(go_simp;done)|(go_simp;rfl));(case hp=>repeat (first|exact Reps.none _ _|refine Reps.one (show Kd.M (Kd.int .u32) _ _ _ _ [_] from rfl) ?_));intro vHO wn ho hb hg_ hnew_;clear hg_ hnew_;(first|rw [← Y1.out] at ho|(simp only [Int.reduceToNat] at ho;rw [← Y1.out] at ho));have HO:=Ak (Kd.R_lower ho (below_size (by repeat (first|exact HB.out|apply below_alloc|apply pw_below_drewN|apply below_drew1))));clear ho;have n1_:=Ak (below_step (by repeat (first|exact HB.out|apply below_alloc|apply pw_below_drewN|apply below_drew1)) hb);clear HB;have HB:=n1_;clear n1_ hb))
   go_ret2
   exact ⟨_,rfl,by rw [E.out];exact HO.out,(by repeat (first|exact HB.out|apply below_alloc|apply pw_below_drewN|apply below_drew1))⟩
-- WALK END
end Go.Proofs.Ytiekodnojmkfaaa.PFnEnds
