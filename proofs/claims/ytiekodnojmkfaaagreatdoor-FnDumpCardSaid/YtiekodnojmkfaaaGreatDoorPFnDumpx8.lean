import Derived.Test.YtiekodnojmkfaaaGreatDoorPFnDumpx0
import Derived.Test.YtiekodnojmkfaaaGreatDoorPFnDumpx4
import Derived.Test.YtiekodnojmkfaaaGreatDoorPFnDumpx5
import Derived.Test.YtiekodnojmkfaaaGreatDoorPFnDumpx6
import Derived.Test.YtiekodnojmkfaaaGreatDoorPFnDumpx7
namespace Go.Proofs.YtiekodnojmkfaaaGreatDoor.yD
set_option maxHeartbeats 8000000
set_option maxRecDepth 100000
open Go.RowKit Go.Proofs.YtiekodnojmkfaaaGreatDoorW.zF Go.Proofs.YtiekodnojmkfaaaGreatDoorW.yC Go.Proofs.YtiekodnojmkfaaaGreatDoorW.yY
attribute [local go_sem] xM xO qG qH yZ xg xP xQ
set_option linter.unusedVariables false
set_option linter.unusedSectionVars false
set_option linter.unusedSimpArgs false
section
variable [K:Inhabited QM]
mutual
def zl.j0:Nat→List Int→Int→Int→Int→Int→Option ((List (S56))×Int)
 | 0,_,_,_,_,_=>none
 | k+1,x0,x1,x2,x3,x10=>if x2 > 1 then (zl.j1 k x0 x1 x2 x3 0) else (zl.j1 k x0 x1 x2 x3 x10)
def zl.j1:Nat→List Int→Int→Int→Int→Int→Option ((List (S56))×Int)
 | 0,_,_,_,_,_=>none
 | k+1,x0,x1,x2,x3,x10=>(vT.f x0 10 2 7).bind fun t118=>((zx.f k x0 x1 12).bind fun zay=>((zx.f k x0 zay.2 6).bind fun QY=>(zl.l0 k x0 QY.2 x2 x3 x10 t118 zay.1 (Int.tmod zay.1 4) (Int.tmod zay.1 4) (decide (QY.1<3)) 12 ([]:List Int) (([(⟨2,zay.1,(⟨#[]⟩:ByteArray)⟩:S67),(⟨2,wrap64 (QY.1-2),(⟨#[]⟩:ByteArray)⟩:S67),(⟨2,wrap64 (QY.1+1),(⟨#[]⟩:ByteArray)⟩:S67),(⟨2,1,(⟨#[]⟩:ByteArray)⟩:S67),(⟨3,0,(⟨#[115]⟩:ByteArray)⟩:S67),(⟨1,1,(⟨#[]⟩:ByteArray)⟩:S67)]:List (S67))) x10 (⟨#[]⟩:ByteArray))))
def zl.l0:Nat→List Int→Int→Int→Int→Int→Int→Int→Int→Int→Bool→Int→List Int→List (S67)→Int→ByteArray→Option ((List (S56))×Int)
 | 0,_,_,_,_,_,_,_,_,_,_,_,_,_,_,_=>none
 | k+1,x0,x1,x2,x3,x10,x11,x12,x15,pa,pb,pc,pd,pe,pg,ph=>if x15<4 then ((Zh.f 1 x15 (Int.tmod (wrap64 (x12+x15)) 4)).bind fun t127=>(if pd.length<35184372088832 then (zl.l0 k x0 x1 x2 x3 x10 x11 x12 (wrap64 (x15+1)) pa pb pc (pd++[t127]) pe pg ph) else (none))) else ((qZ.f 6 4 0 0).bind fun t131=>((Zh.f 1 5 4).bind fun t132=>((some (([t131,t132]:List Int):List Int)).bind fun y133=>(if pd.length+y133.length<35184372088832 then (zl.l1 k x0 x1 x2 x3 x10 x11 0 pa pb pc (pd++y133) pe pg ph) else (none)))))
def zl.l1:Nat→List Int→Int→Int→Int→Int→Int→Int→Int→Bool→Int→List Int→List (S67)→Int→ByteArray→Option ((List (S56))×Int)
 | 0,_,_,_,_,_,_,_,_,_,_,_,_,_,_=>none
 | k+1,x0,x1,x2,x3,x10,x11,x16,pa,pb,pc,pd,pe,pg,ph=>if x16<x11 then ((zX.f k x0 x1 x10 x3 pb (decide (x2 > 0))).bind fun bt139=>(zl.l2 k x0 bt139.2 x2 x3 x10 x11 x16 bt139.1 0 pa pb pc pd pe pg ph)) else ((zx.f k x0 x1 6).bind fun bt147=>(if bt147.1=0 then (zl.j5 k x0 bt147.2 x2 x3 bt147.1 pb pa pb pc pd pe pg ph) else (zl.j5 k x0 bt147.2 x2 x3 bt147.1 false pa pb pc pd pe pg ph)))
def zl.l2:Nat→List Int→Int→Int→Int→Int→Int→Int→List Int→Int→Int→Bool→Int→List Int→List (S67)→Int→ByteArray→Option ((List (S56))×Int)
 | 0,_,_,_,_,_,_,_,_,_,_,_,_,_,_,_,_=>none
 | k+1,x0,x1,x2,x3,x10,x11,x16,x17,x18,pa,pb,pc,pd,pe,pg,ph=>if x18<(x17.length:Int) then (if 0≤x18 then (if pd.length<35184372088832 then (zl.l2 k x0 x1 x2 x3 x10 x11 x16 x17 (wrap64 (x18+1)) pa pb pc (pd++[rd x17 x18]) pe pg ph) else (none)) else (none)) else (zl.l1 k x0 x1 x2 x3 x10 x11 (wrap64 (x16+1)) pa pb pc pd pe pg ph)
def zl.j5:Nat→List Int→Int→Int→Int→Int→Bool→Int→Bool→Int→List Int→List (S67)→Int→ByteArray→Option ((List (S56))×Int)
 | 0,_,_,_,_,_,_,_,_,_,_,_,_,_=>none
 | k+1,x0,x1,x2,x3,x12,x132,pa,pb,pc,pd,pe,pg,ph=>if x132=true then ((qZ.f 24 2 511 0).bind fun t149=>((qZ.f 23 0 511 0).bind fun t150=>((some (([t149,t150]:List Int):List Int)).bind fun y151=>(if pd.length+y151.length<35184372088832 then (zl.j6 k x0 x1 x2 x3 pa pb pc (pd++y151) pe pg ph) else (none))))) else ((qZ.f 23 0 (wrap64 (1+x12)) 0).bind fun t157=>(if pd.length<35184372088832 then (zl.j6 k x0 x1 x2 x3 pa pb pc (pd++[t157]) pe pg ph) else (none)))
def zl.j6:Nat→List Int→Int→Int→Int→Int→Bool→Int→List Int→List (S67)→Int→ByteArray→Option ((List (S56))×Int)
 | 0,_,_,_,_,_,_,_,_,_,_,_=>none
 | k+1,x0,x1,x2,x3,pa,pb,pc,pd,pe,pg,ph=>zl.l3 k x0 x1 x2 x3 0 pa pb pc pd pe ([]:List (S71)) pg ph
def zl.l3:Nat→List Int→Int→Int→Int→Int→Int→Bool→Int→List Int→List (S67)→List (S71)→Int→ByteArray→Option ((List (S56))×Int)
 | 0,_,_,_,_,_,_,_,_,_,_,_,_,_=>none
 | k+1,x0,x1,x2,x3,x19,pa,pb,pc,pd,pe,pf,pg,ph=>if x19<x3 then ((zx.f k x0 x1 4).bind fun bt161=>(if pf.length<8796093022208 then (zl.l3 k x0 bt161.2 x2 x3 (wrap64 (x19+1)) pa pb pc pd pe (pf++[(⟨true,bt161.1⟩:S71)]) pg ph) else (none))) else ((qM.f k x0 x1 x2 pa pb pc pd pe pf pg ph ([]:List Int) ([]:List ByteArray)).bind fun bt166=>(some (bt166.1,bt166.2)))
end
def zl.f (k:Nat) (l0:List Int) (a1:Int) (a2:Int) (a3:Int):Option ((List (S56))×Int):=(zx.f k l0 a1 3).bind fun bt116=>(if a2=0 then (zl.j0 k l0 bt116.2 a2 a3 (wrap64 (bt116.1+1))) else (zl.j0 k l0 bt116.2 a2 a3 bt116.1))
theorem zl.mono_l:∀ k,(∀ y0 y1 y2 y3 y4,LeO (zl.j0 k y0 y1 y2 y3 y4) (zl.j0 (k+1) y0 y1 y2 y3 y4))∧(∀ y0 y1 y2 y3 y4,LeO (zl.j1 k y0 y1 y2 y3 y4) (zl.j1 (k+1) y0 y1 y2 y3 y4))∧(∀ y0 y1 y2 y3 y4 y5 y6 y7 y8 y9 y10 y11 y12 y13 y14,LeO (zl.l0 k y0 y1 y2 y3 y4 y5 y6 y7 y8 y9 y10 y11 y12 y13 y14) (zl.l0 (k+1) y0 y1 y2 y3 y4 y5 y6 y7 y8 y9 y10 y11 y12 y13 y14))∧(∀ y0 y1 y2 y3 y4 y5 y6 y7 y8 y9 y10 y11 y12 y13,LeO (zl.l1 k y0 y1 y2 y3 y4 y5 y6 y7 y8 y9 y10 y11 y12 y13) (zl.l1 (k+1) y0 y1 y2 y3 y4 y5 y6 y7 y8 y9 y10 y11 y12 y13))∧(∀ y0 y1 y2 y3 y4 y5 y6 y7 y8 y9 y10 y11 y12 y13 y14 y15,LeO (zl.l2 k y0 y1 y2 y3 y4 y5 y6 y7 y8 y9 y10 y11 y12 y13 y14 y15) (zl.l2 (k+1) y0 y1 y2 y3 y4 y5 y6 y7 y8 y9 y10 y11 y12 y13 y14 y15))∧(∀ y0 y1 y2 y3 y4 y5 y6 y7 y8 y9 y10 y11 y12,LeO (zl.j5 k y0 y1 y2 y3 y4 y5 y6 y7 y8 y9 y10 y11 y12) (zl.j5 (k+1) y0 y1 y2 y3 y4 y5 y6 y7 y8 y9 y10 y11 y12))∧(∀ y0 y1 y2 y3 y4 y5 y6 y7 y8 y9 y10,LeO (zl.j6 k y0 y1 y2 y3 y4 y5 y6 y7 y8 y9 y10) (zl.j6 (k+1) y0 y1 y2 y3 y4 y5 y6 y7 y8 y9 y10))∧(∀ y0 y1 y2 y3 y4 y5 y6 y7 y8 y9 y10 y11 y12,LeO (zl.l3 k y0 y1 y2 y3 y4 y5 y6 y7 y8 y9 y10 y11 y12) (zl.l3 (k+1) y0 y1 y2 y3 y4 y5 y6 y7 y8 y9 y10 y11 y12))
 | 0=>⟨fun _ _ _ _ _ r h=>by simp [zl.j0] at h,fun _ _ _ _ _ r h=>by simp [zl.j1] at h,fun _ _ _ _ _ _ _ _ _ _ _ _ _ _ _ r h=>by simp [zl.l0] at h,fun _ _ _ _ _ _ _ _ _ _ _ _ _ _ r h=>by simp [zl.l1] at h,fun _ _ _ _ _ _ _ _ _ _ _ _ _ _ _ _ r h=>by simp [zl.l2] at h,fun _ _ _ _ _ _ _ _ _ _ _ _ _ r h=>by simp [zl.j5] at h,fun _ _ _ _ _ _ _ _ _ _ _ r h=>by simp [zl.j6] at h,fun _ _ _ _ _ _ _ _ _ _ _ _ _ r h=>by simp [zl.l3] at h⟩
 | k+1=>by
  obtain ⟨ih0,ih1,ih2,ih3,ih4,ih5,ih6,ih7⟩:=zl.mono_l k
  refine ⟨?_,?_,?_,?_,?_,?_,?_,?_⟩
  all_goals
   intros
   first|unfold zl.j0|unfold zl.j1|unfold zl.l0|unfold zl.l1|unfold zl.l2|unfold zl.j5|unfold zl.j6|unfold zl.l3
   repeat' first
   | (with_reducible exact ih0 _ _ _ _ _)
   | (with_reducible exact ih1 _ _ _ _ _)
   | (with_reducible exact ih2 _ _ _ _ _ _ _ _ _ _ _ _ _ _ _)
   | (with_reducible exact ih3 _ _ _ _ _ _ _ _ _ _ _ _ _ _)
   | (with_reducible exact ih4 _ _ _ _ _ _ _ _ _ _ _ _ _ _ _ _)
   | (with_reducible exact ih5 _ _ _ _ _ _ _ _ _ _ _ _ _)
   | (with_reducible exact ih6 _ _ _ _ _ _ _ _ _ _ _)
   | (with_reducible exact ih7 _ _ _ _ _ _ _ _ _ _ _ _ _)
   | (with_reducible exact zx.mono _ _ _ _)
   | (with_reducible exact zX.mono _ _ _ _ _ _ _)
   | (with_reducible exact qM.mono _ _ _ _ _ _ _ _ _ _ _ _ _ _)
   | (with_reducible exact LeO.refl _)
   | (with_reducible exact LeO.none _)
   | (with_reducible refine LeO.ite ?_ ?_)
   | (with_reducible refine LeO.bind ?_ (fun _=>?_))
   | exact ih0 _ _ _ _ _
   | exact ih1 _ _ _ _ _
   | exact ih2 _ _ _ _ _ _ _ _ _ _ _ _ _ _ _
   | exact ih3 _ _ _ _ _ _ _ _ _ _ _ _ _ _
   | exact ih4 _ _ _ _ _ _ _ _ _ _ _ _ _ _ _ _
   | exact ih5 _ _ _ _ _ _ _ _ _ _ _ _ _
   | exact ih6 _ _ _ _ _ _ _ _ _ _ _
   | exact ih7 _ _ _ _ _ _ _ _ _ _ _ _ _
   | exact zx.mono _ _ _ _
   | exact zX.mono _ _ _ _ _ _ _
   | exact qM.mono _ _ _ _ _ _ _ _ _ _ _ _ _ _
   | exact LeO.none _
   | refine LeO.ite ?_ ?_
   | refine LeO.bind ?_ (fun _=>?_)
theorem zl.mono:∀ a0 a1 a2 a3 k,LeO (zl.f k a0 a1 a2 a3) (zl.f (k+1) a0 a1 a2 a3):=by
 intro a0 a1 a2 a3 k
 obtain ⟨ih0,ih1,ih2,ih3,ih4,ih5,ih6,ih7⟩:=zl.mono_l k
 unfold zl.f
 repeat' first
   | (with_reducible exact ih0 _ _ _ _ _)
   | (with_reducible exact ih1 _ _ _ _ _)
   | (with_reducible exact ih2 _ _ _ _ _ _ _ _ _ _ _ _ _ _ _)
   | (with_reducible exact ih3 _ _ _ _ _ _ _ _ _ _ _ _ _ _)
   | (with_reducible exact ih4 _ _ _ _ _ _ _ _ _ _ _ _ _ _ _ _)
   | (with_reducible exact ih5 _ _ _ _ _ _ _ _ _ _ _ _ _)
   | (with_reducible exact ih6 _ _ _ _ _ _ _ _ _ _ _)
   | (with_reducible exact ih7 _ _ _ _ _ _ _ _ _ _ _ _ _)
   | (with_reducible exact zx.mono _ _ _ _)
   | (with_reducible exact zX.mono _ _ _ _ _ _ _)
   | (with_reducible exact qM.mono _ _ _ _ _ _ _ _ _ _ _ _ _ _)
   | (with_reducible exact LeO.refl _)
   | (with_reducible exact LeO.none _)
   | (with_reducible refine LeO.ite ?_ ?_)
   | (with_reducible refine LeO.bind ?_ (fun _=>?_))
   | exact ih0 _ _ _ _ _
   | exact ih1 _ _ _ _ _
   | exact ih2 _ _ _ _ _ _ _ _ _ _ _ _ _ _ _
   | exact ih3 _ _ _ _ _ _ _ _ _ _ _ _ _ _
   | exact ih4 _ _ _ _ _ _ _ _ _ _ _ _ _ _ _ _
   | exact ih5 _ _ _ _ _ _ _ _ _ _ _ _ _
   | exact ih6 _ _ _ _ _ _ _ _ _ _ _
   | exact ih7 _ _ _ _ _ _ _ _ _ _ _ _ _
   | exact zx.mono _ _ _ _
   | exact zX.mono _ _ _ _ _ _ _
   | exact qM.mono _ _ _ _ _ _ _ _ _ _ _ _ _ _
   | exact LeO.none _
   | refine LeO.ite ?_ ?_
   | refine LeO.bind ?_ (fun _=>?_)
def zl.T15:Bool×List (List Nat×List Nat):=(true,[([],[]),([0],[0]),([],[]),([],[]),([],[]),([3,4],[3,4]),([5],[5]),([2,6],[2,6]),([7],[7]),([1,8,7],[1,8]),([0,1,2,3,4,5,6,7,8,9],[]),([10,9,9,0,1,2,3,4,5,6,7,8,9],[9,10])])
def zl.B15:List Nat:=[0,1,0,0,0,24,56,124,252,511,1023,2047]
theorem zl.tab15:Qh .any (opsOf Tryz.f50 15)=zl.T15:=by kernel_rfl
theorem zl.bits15:vN zl.T15.2 zl.B15=true:=by kernel_rfl
def zl.T16:Bool×List (List Nat×List Nat):=(true,[([],[]),([0],[0]),([],[]),([2],[]),([2,3],[2,3]),([1,4,3],[1,4]),([0,1,2,3,4,5],[]),([6,5,5,0,1,2,3,4,5],[5,6])])
def zl.B16:List Nat:=[0,1,0,4,12,31,63,127]
theorem zl.tab16:Qh .any (opsOf Tryz.f50 16)=zl.T16:=by kernel_rfl
theorem zl.bits16:vN zl.T16.2 zl.B16=true:=by kernel_rfl
def zl.T25:Bool×List (List Nat×List Nat):=(true,[([],[]),([0],[0]),([],[]),([],[]),([2,3],[2,3]),([4],[4]),([5],[5]),([1,6],[1,6]),([0,1,2,3,4,5,6,7],[]),([8,7,7,0,1,2,3,4,5,6,7],[7,8])])
def zl.B25:List Nat:=[0,1,0,0,12,28,60,127,255,511]
theorem zl.tab25:Qh .any (opsOf Tryz.f50 25)=zl.T25:=by kernel_rfl
theorem zl.bits25:vN zl.T25.2 zl.B25=true:=by kernel_rfl
def zl.T28:Bool×List (List Nat×List Nat):=(true,[([],[]),([0],[0]),([],[]),([2],[]),([2,3],[2,3]),([1,4,3],[1,4]),([0,1,2,3,4,5],[]),([6,5,5,0,1,2,3,4,5],[5,6])])
def zl.B28:List Nat:=[0,1,0,4,12,31,63,127]
theorem zl.tab28:Qh .any (opsOf Tryz.f50 28)=zl.T28:=by kernel_rfl
theorem zl.bits28:vN zl.T28.2 zl.B28=true:=by kernel_rfl
def zl.T29:Bool×List (List Nat×List Nat):=(true,[([],[]),([0],[0]),([],[]),([2],[2]),([3],[3]),([4],[4]),([1,5,4],[1,5]),([0,1,2,3,4,5,6],[]),([7,6,6,0,1,2,3,4,5,6],[6,7])])
def zl.B29:List Nat:=[0,1,0,4,12,28,63,127,255]
theorem zl.tab29:Qh .any (opsOf Tryz.f50 29)=zl.T29:=by kernel_rfl
theorem zl.bits29:vN zl.T29.2 zl.B29=true:=by kernel_rfl
theorem zl.calls (k:Nat) (A0:Option Addr) (c0:Nat) (l0:List Int) (a1:Int) (a2:Int) (a3:Int) (r1:List (S56)) (r2:Int) (w:World) (hr0:Kd.C (Kd.int .u8) w A0 l0.length l0) (hc0:l0.length≤c0) (h:zl.f k l0 a1 a2 a3=some (r1,r2)) :
  Calls Tryz.prog 50 #[.slice A0 l0.length c0,.int .i64 a1,.int .i64 a2,.int .i64 a3] w fun e w'=>∃ v0_:Value,e=.returned (.tuple #[v0_,.int .i64 r2])∧Kd.S k56 56 w' w.heap.size (fun _=>True) v0_ r1∧Below w.heap.size w w':=by
 have hu56:=Tryz.underlying56
 have hu67:=Tryz.underlying67
 have hu71:=Tryz.underlying71
 have HR0:=Ak hr0;have HC0:=Ak hc0;clear hr0 hc0
 have HB:=Ak (Below.refl w.heap.size w)
 have H:((zx.f k l0 a1 3).bind fun bt116=>(if a2=0 then (zl.j0 k l0 bt116.2 a2 a3 (wrap64 (bt116.1+1))) else (zl.j0 k l0 bt116.2 a2 a3 bt116.1)))=some (r1,r2):=h
 clear h
 replace H:=Option.bind_eq_some_iff.mp H
 obtain ⟨⟨t116,t117⟩,A50,H⟩:=H
 replace H:(if a2=0 then (zl.j0 k l0 t117 a2 a3 (wrap64 (t116+1))) else (zl.j0 k l0 t117 a2 a3 t116))=some (r1,r2):=H
 have A5:=Ak A50;clear A50;have HC6:=Ak H;clear H
 go_enter Tryz.func50,Tryz.ntmps50
 go_upto_if 27 with (first|((with_reducible refine yP (f:=14) rfl ?_);refine jU (some 23) rfl rfl Tryz.func14 (by kernel_rfl) rfl #[.slice A0 l0.length c0,.int .i64 a1,.int .i64 3] rfl em ?_;(with_reducible refine (zx.calls k _ _ l0 a1 3 t116 t117 _ ?yQ ?xG A5.out).mono ?_);(case yQ=>repeat (first|exact HR0.out|(with_reducible refine Kd.qC ?_ _)|(with_reducible refine Kd.qE ?_ _)|(with_reducible refine Kd.ji ?_)));(case xG=>exact HC0.out);rintro e w' ⟨rfl,⟨nd,rfl⟩⟩;refine ⟨_,rfl,?_⟩))
 (try simp only [Act.put,List.setIfInBounds_toArray,List.set_cons_zero,List.set_cons_succ])
 go_cut [10] (fun v10 wc=>∃ (kq:Nat) (x10_5:Int),v10=.int .i64 x10_5∧zh (zl.j0 kq l0 t117 a2 a3 x10_5=some (r1,r2))∧zh (kq≤k)∧zh (Below w.heap.size w wc))
 case first =>
  have H:=HC6.out
  clear HC6
  by_cases c7:a2=0
  ·rw [if_pos c7] at H
   have QI:=bT c7
   have c7b1:=nF c7
   clear c7
   (first|rw [QI]|(simp only [xJ,xU];rw [QI])|skip)
   have H':=Ak H
   clear H
   go_wp2
   go_meet
   case rel=>exact ⟨_,(wrap64 (t116+1)),es,H',⟨eo⟩,⟨bl HB⟩⟩
  ·rw [if_neg c7] at H
   have QI:=bF c7
   have c7b1:=nT c7
   (first|rw [QI]|(simp only [xJ,xU];rw [QI])|skip)
   have H':=Ak H
   clear H
   go_wp2
   go_meet
   case rel=>exact ⟨_,(t116),es,H',⟨eo⟩,⟨bl HB⟩⟩
 case rest =>
  clear HC6
  obtain ⟨kq,x10_5,rfl,HA,HJ5,HB⟩:=hcut
  cases kq with
  | zero=>exact absurd HA.out (by simp [zl.j0])
  | succ kj5 =>
   have H:=HA.out
   clear HA
   simp only [zl.j0] at H
   have HC8:=Ak H;clear H
   go_upto_if 31 with (fail)
   go_cut [10] (fun v10 wc=>∃ (kq:Nat) (xE:Int),v10=.int .i64 xE∧zh (zl.j1 kq l0 t117 a2 a3 xE=some (r1,r2))∧zh (kq≤kj5)∧zh (Below w.heap.size w wc))
   case first =>
    have H:=HC8.out
    clear HC8
    by_cases c9:a2 > 1
    ·rw [if_pos c9] at H
     have c9b0:=tg c9
     clear c9
     (first|rw [c9b0]|(simp only [xJ,xU];rw [c9b0])|skip)
     have H':=Ak H
     clear H
     go_wp2
     go_meet
     case rel=>exact ⟨_,(0),es,H',⟨by have:=HJ5.out;first|omega|exact Nat.le_refl _⟩,⟨bl HB⟩⟩
    ·rw [if_neg c9] at H
     have c9b0:=fg c9
     clear c9
     (first|rw [c9b0]|(simp only [xJ,xU];rw [c9b0])|skip)
     have H':=Ak H
     clear H
     go_wp2
     go_meet
     case rel=>exact ⟨_,(x10_5),es,H',⟨by have:=HJ5.out;first|omega|exact Nat.le_refl _⟩,⟨bl HB⟩⟩
   case rest =>
    clear HC8
    obtain ⟨kq,xE,rfl,HA,HJ7,HB⟩:=hcut
    cases kq with
    | zero=>exact absurd HA.out (by simp [zl.j1])
    | succ kj7 =>
     have H:=HA.out
     clear HA
     simp only [zl.j1] at H
     replace H:=Option.bind_eq_some_iff.mp H
     obtain ⟨t118,A100,H⟩:=H
     replace H:((zx.f kj7 l0 t117 12).bind fun zay=>((zx.f kj7 l0 zay.2 6).bind fun QY=>(zl.l0 kj7 l0 QY.2 a2 a3 xE t118 zay.1 (Int.tmod zay.1 4) (Int.tmod zay.1 4) (decide (QY.1<3)) 12 ([]:List Int) (([(⟨2,zay.1,(⟨#[]⟩:ByteArray)⟩:S67),(⟨2,wrap64 (QY.1-2),(⟨#[]⟩:ByteArray)⟩:S67),(⟨2,wrap64 (QY.1+1),(⟨#[]⟩:ByteArray)⟩:S67),(⟨2,1,(⟨#[]⟩:ByteArray)⟩:S67),(⟨3,0,(⟨#[115]⟩:ByteArray)⟩:S67),(⟨1,1,(⟨#[]⟩:ByteArray)⟩:S67)]:List (S67))) xE (⟨#[]⟩:ByteArray))))=some (r1,r2):=H
     have A10:=Ak A100;clear A100
     replace H:=Option.bind_eq_some_iff.mp H
     obtain ⟨⟨t119,t120⟩,A110,H⟩:=H
     replace H:((zx.f kj7 l0 t120 6).bind fun QY=>(zl.l0 kj7 l0 QY.2 a2 a3 xE t118 t119 (Int.tmod t119 4) (Int.tmod t119 4) (decide (QY.1<3)) 12 ([]:List Int) (([(⟨2,t119,(⟨#[]⟩:ByteArray)⟩:S67),(⟨2,wrap64 (QY.1-2),(⟨#[]⟩:ByteArray)⟩:S67),(⟨2,wrap64 (QY.1+1),(⟨#[]⟩:ByteArray)⟩:S67),(⟨2,1,(⟨#[]⟩:ByteArray)⟩:S67),(⟨3,0,(⟨#[115]⟩:ByteArray)⟩:S67),(⟨1,1,(⟨#[]⟩:ByteArray)⟩:S67)]:List (S67))) xE (⟨#[]⟩:ByteArray)))=some (r1,r2):=H
     have A11:=Ak A110;clear A110
     replace H:=Option.bind_eq_some_iff.mp H
     obtain ⟨⟨jS,t122⟩,A120,H⟩:=H
     replace H:(zl.l0 kj7 l0 t122 a2 a3 xE t118 t119 (Int.tmod t119 4) (Int.tmod t119 4) (decide (jS<3)) 12 ([]:List Int) (([(⟨2,t119,(⟨#[]⟩:ByteArray)⟩:S67),(⟨2,wrap64 (jS-2),(⟨#[]⟩:ByteArray)⟩:S67),(⟨2,wrap64 (jS+1),(⟨#[]⟩:ByteArray)⟩:S67),(⟨2,1,(⟨#[]⟩:ByteArray)⟩:S67),(⟨3,0,(⟨#[115]⟩:ByteArray)⟩:S67),(⟨1,1,(⟨#[]⟩:ByteArray)⟩:S67)]:List (S67))) xE (⟨#[]⟩:ByteArray))=some (r1,r2):=H
     have A12:=Ak A120;clear A120
     obtain ⟨kM,hy124⟩:∃ y_:List (S67),y_=(([(⟨2,t119,(⟨#[]⟩:ByteArray)⟩:S67),(⟨2,wrap64 (jS-2),(⟨#[]⟩:ByteArray)⟩:S67),(⟨2,wrap64 (jS+1),(⟨#[]⟩:ByteArray)⟩:S67),(⟨2,1,(⟨#[]⟩:ByteArray)⟩:S67),(⟨3,0,(⟨#[115]⟩:ByteArray)⟩:S67),(⟨1,1,(⟨#[]⟩:ByteArray)⟩:S67)]:List (S67))):=⟨_,rfl⟩
     replace H:(zl.l0 kj7 l0 t122 a2 a3 xE t118 t119 (Int.tmod t119 4) (Int.tmod t119 4) (decide (jS<3)) 12 ([]:List Int) kM xE (⟨#[]⟩:ByteArray))=some (r1,r2):=by first|(rw [hy124];with_reducible exact H)|(have H2_:=(Option.bind_some _ _).symm.trans H;rw [hy124];with_reducible exact H2_)|(have H2_:=(Option.bind_some _ _).symm.trans H;with_reducible exact H2_)|with_reducible exact H|(rw [hy124];exact H)|exact H
     have Ny124:=Ak hy124;clear hy124
     have H':=Ak H
     clear H
     go_wp2_with (first|((with_reducible refine yP (f:=102) rfl ?_);refine jU (some 33) rfl rfl Tryz.func102 (by kernel_rfl) rfl #[.slice A0 l0.length c0,.int .i64 10,.int .i64 2,.int .i64 7] rfl em ?_;(with_reducible refine (vT.calls _ _ l0 10 2 7 t118 _ ?yQ ?xG A10.out).mono ?_);(case yQ=>exact co HR0 HB);(case xG=>exact HC0.out);rintro e w' ⟨rfl,⟨nd,rfl⟩⟩;refine ⟨_,rfl,?_⟩;(try (rw [ZH wc];generalize hq_:World.drewN wc _=wc;have n0_:zh (Below w.heap.size w wc):=⟨by rw [← hq_];exact (bl HB)⟩;clear HB hq_;have HB:=n0_;clear n0_)))|((with_reducible refine yP (f:=14) rfl ?_);refine jU (some 37) rfl rfl Tryz.func14 (by kernel_rfl) rfl #[.slice A0 l0.length c0,.int .i64 t117,.int .i64 12] rfl em ?_;(with_reducible refine (zx.calls kj7 _ _ l0 t117 12 t119 t120 _ ?yQ ?xG A11.out).mono ?_);(case yQ=>exact co HR0 HB);(case xG=>exact HC0.out);rintro e w' ⟨rfl,⟨nd,rfl⟩⟩;refine ⟨_,rfl,?_⟩;(try (rw [ZH wc];generalize hq_:World.drewN wc _=wc;have n0_:zh (Below w.heap.size w wc):=⟨by rw [← hq_];exact (bl HB)⟩;clear HB hq_;have HB:=n0_;clear n0_)))|((with_reducible refine yP (f:=14) rfl ?_);refine jU (some 43) rfl rfl Tryz.func14 (by kernel_rfl) rfl #[.slice A0 l0.length c0,.int .i64 t120,.int .i64 6] rfl em ?_;(with_reducible refine (zx.calls kj7 _ _ l0 t120 6 jS t122 _ ?yQ ?xG A12.out).mono ?_);(case yQ=>exact co HR0 HB);(case xG=>exact HC0.out);rintro e w' ⟨rfl,⟨nd,rfl⟩⟩;refine ⟨_,rfl,?_⟩;(try (rw [ZH wc];generalize hq_:World.drewN wc _=wc;have n0_:zh (Below w.heap.size w wc):=⟨by rw [← hq_];exact (bl HB)⟩;clear HB hq_;have HB:=n0_;clear n0_)))|((with_reducible refine zB (N:=14) rfl ?_);refine zK ?hg (N:=14) ?hd (cs:=#[.int .i64 0,.bool false,.int .i64 0,.slice none 0 0,.slice none 0 0,.slice none 0 0,.int .i64 0,.string (⟨#[]⟩:ByteArray),.slice none 0 0,.slice none 0 0]) (t:=56) ?hr ?_;(case hd=>rfl);(case hg=>rfl);(case hr=>first|(go_simp;done)|(go_simp;rfl));intro yV hg w13 hbox hb;have zW:=Ak (hbox);have GW123:=gs HB hg;have GE123:=gs HB hg;replace HB:=BS HB hb;clear hb hbox hg;obtain ⟨hcz14_0,hcz14_1,hcz14_2,hcz14_3,hcz14_4,hcz14_5,hcz14_6,hcz14_7,hcz14_8,hcz14_9,hfz14_0,hfz14_1,hfz14_2,hfz14_3,hfz14_4,hfz14_5,hfz14_6,hfz14_7,hfz14_8,hfz14_9⟩:=jV zW.out)|((with_reducible refine zB (N:=63) rfl ?_);refine Kd.XU k67 _ 67 ?hg (N:=63) ?hd (xs:=([(⟨2,t119,(⟨#[]⟩:ByteArray)⟩:S67),(⟨2,wrap64 (jS-2),(⟨#[]⟩:ByteArray)⟩:S67),(⟨2,wrap64 (jS+1),(⟨#[]⟩:ByteArray)⟩:S67),(⟨2,1,(⟨#[]⟩:ByteArray)⟩:S67),(⟨3,0,(⟨#[115]⟩:ByteArray)⟩:S67),(⟨1,1,(⟨#[]⟩:ByteArray)⟩:S67)]:List (S67))) (inner:=[.int .i64 2,.int .i64 t119,.string (⟨#[]⟩:ByteArray),.int .i64 2,.int .i64 (wrap64 (jS-2)),.string (⟨#[]⟩:ByteArray),.int .i64 2,.int .i64 (wrap64 (jS+1)),.string (⟨#[]⟩:ByteArray),.int .i64 2,.int .i64 1,.string (⟨#[]⟩:ByteArray),.int .i64 3,.int .i64 0,.string (⟨#[115]⟩:ByteArray),.int .i64 1,.int .i64 1,.string (⟨#[]⟩:ByteArray)]) (ok:=fun _=>True) (okp:=fun _=>True) ?hr ?hp (fun _ hk=>hk) trivial (Below.refl _ _) (Nat.le_refl _) (by simp) ?_;(case hd=>rfl);(case hg=>rfl);(case hr=>first|(go_simp;done)|(go_simp;rfl));(case hp=>exact (qx.c3 (show Kd.M k67 _ _ _ (⟨2,t119,(⟨#[]⟩:ByteArray)⟩:S67) [.int .i64 2,.int .i64 t119,.string (⟨#[]⟩:ByteArray)] from (kS _ _ _ (⟨2,t119,(⟨#[]⟩:ByteArray)⟩:S67) )) (qx.c3 (show Kd.M k67 _ _ _ (⟨2,wrap64 (jS-2),(⟨#[]⟩:ByteArray)⟩:S67) [.int .i64 2,.int .i64 (wrap64 (jS-2)),.string (⟨#[]⟩:ByteArray)] from (kS _ _ _ (⟨2,wrap64 (jS-2),(⟨#[]⟩:ByteArray)⟩:S67) )) (qx.c3 (show Kd.M k67 _ _ _ (⟨2,wrap64 (jS+1),(⟨#[]⟩:ByteArray)⟩:S67) [.int .i64 2,.int .i64 (wrap64 (jS+1)),.string (⟨#[]⟩:ByteArray)] from (kS _ _ _ (⟨2,wrap64 (jS+1),(⟨#[]⟩:ByteArray)⟩:S67) )) (qx.c3 (show Kd.M k67 _ _ _ (⟨2,1,(⟨#[]⟩:ByteArray)⟩:S67) [.int .i64 2,.int .i64 1,.string (⟨#[]⟩:ByteArray)] from (kS _ _ _ (⟨2,1,(⟨#[]⟩:ByteArray)⟩:S67) )) (qx.c3 (show Kd.M k67 _ _ _ (⟨3,0,(⟨#[115]⟩:ByteArray)⟩:S67) [.int .i64 3,.int .i64 0,.string (⟨#[115]⟩:ByteArray)] from (kS _ _ _ (⟨3,0,(⟨#[115]⟩:ByteArray)⟩:S67) )) (qx.c3 (show Kd.M k67 _ _ _ (⟨1,1,(⟨#[]⟩:ByteArray)⟩:S67) [.int .i64 1,.int .i64 1,.string (⟨#[]⟩:ByteArray)] from (kS _ _ _ (⟨1,1,(⟨#[]⟩:ByteArray)⟩:S67) )) (qx.none _ _))))))));intro v125 w15 ho16 hb hg_ qp;clear hg_ qp;(first|rw [← Ny124.out] at ho16|(simp only [Int.reduceToNat] at ho16;rw [← Ny124.out] at ho16));have HO126:=Ak (Kd.yH ho16 (zH (bl HB)));replace zW:=Ak (yc (g:=yV) (o:=.cells #[.int .i64 (Int.tmod t119 4),.bool (decide (jS<3)),.int .i64 12,.slice none 0 0,.slice none 0 0,.slice none 0 0,.int .i64 xE,.string (⟨#[]⟩:ByteArray),.slice none 0 0,.slice none 0 0] 56 (0,0)) (bq zW) hb);replace HB:=BS HB hb;clear hb ho16;obtain ⟨Xq,Xr,eo17⟩:=Kd.yA HO126.out;subst eo17;obtain ⟨hcz18_0,hcz18_1,hcz18_2,hcz18_3,hcz18_4,hcz18_5,hcz18_6,hcz18_7,hcz18_8,hcz18_9,hfz18_0,hfz18_1,hfz18_2,hfz18_3,hfz18_4,hfz18_5,hfz18_6,hfz18_7,hfz18_8,hfz18_9⟩:=jV zW.out))
     go_loopg [15] kj7 (fun kq v15 w'=>∃ (zaz:Int) (qO:List Int) (yJ:Value),v15=.int .i64 zaz∧zh (zl.l0 kq l0 t122 a2 a3 xE t118 t119 zaz (Int.tmod t119 4) (decide (jS<3)) 12 qO kM xE (⟨#[]⟩:ByteArray)=some (r1,r2))∧zh (kq≤kj7)∧zh (Kd.R (Kd.int .u32) 60 w' w.heap.size (fun _=>True) yJ qO)∧zh (Kd.R k67 67 w' w.heap.size (fun _=>True) (.slice Xq kM.length Xr) kM)∧zh (w'.heap[yV]?=some (.cells #[.int .i64 (Int.tmod t119 4),.bool (decide (jS<3)),.int .i64 12,yJ,(.slice Xq kM.length Xr),(.slice none 0 0),.int .i64 xE,.string (⟨#[]⟩:ByteArray),(.slice none 0 0),(.slice none 0 0)] 56 (0,0)))∧zh (Below w.heap.size w w'))
     case atStart=>exact ⟨(Int.tmod t119 4),(([]:List Int)),(.slice none 0 0),es,H',⟨Nat.le_refl _⟩,⟨by first|exact Kd.Qg _ _ _ _ _|exact Kd.N_nil _ _ _ _ _|exact Kd.Jz _ _ _ _ _|exact Kd.Q_nil _ _ _ _ _|exact Kd.S_nil _ _ _ _ _⟩,⟨rm (Kd.QB (p:=⟨yV,4,none⟩) (Kd.kY HO126.out zW.out (by decide)) (fun _ hk=>hk.2) (.slice Xq kM.length Xr)) (fun _ hk=>trivial)⟩,⟨bq zW⟩,⟨bl HB⟩⟩
     case round =>
      clear H'
      obtain ⟨zaz,qO,yJ,rfl,HA,HK3,zG,zN,zW,HB⟩:=hrel
      cases gk with
      | zero=>exact absurd HA.out (by simp [zl.l0])
      | succ k3 =>
       have H:=HA.out
       clear HA
       simp only [zl.l0] at H
       by_cases c19:zaz<4
       ·rw [if_pos c19] at H
        have c19b0:=dt c19
        clear c19
        replace H:=Option.bind_eq_some_iff.mp H
        obtain ⟨t127,A200,H⟩:=H
        replace H:(if qO.length<35184372088832 then (zl.l0 k3 l0 t122 a2 a3 xE t118 t119 (wrap64 (zaz+1)) (Int.tmod t119 4) (decide (jS<3)) 12 (qO++[t127]) kM xE (⟨#[]⟩:ByteArray)) else (none))=some (r1,r2):=H
        have A20:=Ak A200;clear A200
        by_cases c21:qO.length<35184372088832
        ·rw [if_pos c21] at H
         have LMc21:=Ak c21;clear c21
         obtain ⟨y128,hy128⟩:∃ y_:List Int,y_=(qO++[t127]):=⟨_,rfl⟩
         replace H:(zl.l0 k3 l0 t122 a2 a3 xE t118 t119 (wrap64 (zaz+1)) (Int.tmod t119 4) (decide (jS<3)) 12 y128 kM xE (⟨#[]⟩:ByteArray))=some (r1,r2):=by first|(rw [hy128];with_reducible exact H)|(have H2_:=(Option.bind_some _ _).symm.trans H;rw [hy128];with_reducible exact H2_)|(have H2_:=(Option.bind_some _ _).symm.trans H;with_reducible exact H2_)|with_reducible exact H|(rw [hy128];exact H)|exact H
         have Ny128:=Ak hy128;clear hy128
         have H':=Ak H
         clear H
         try go_wp2
         replace zG:=Ak (Kd.ZP zG.out);replace zN:=Ak (Kd.ZP zN.out);replace zW:=Ak (xI zW.out);replace HB:=Ak (zO HB.out)
         refine Yv (n:=12) (S:=fun w'=>w'.cell? ⟨yV,0,none⟩=some (.int .i64 (Int.tmod t119 4))∧w'.cell? ⟨yV,1,none⟩=some (.bool (decide (jS<3)))∧w'.cell? ⟨yV,2,none⟩=some (.int .i64 12)∧w'.cell? ⟨yV,3,none⟩=some (yJ)∧w'.cell? ⟨yV,4,none⟩=some (.slice Xq kM.length Xr)∧w'.cell? ⟨yV,5,none⟩=some (.slice none 0 0)∧w'.cell? ⟨yV,6,none⟩=some (.int .i64 xE)∧w'.cell? ⟨yV,7,none⟩=some (.string (⟨#[]⟩:ByteArray))∧w'.cell? ⟨yV,8,none⟩=some (.slice none 0 0)∧w'.cell? ⟨yV,9,none⟩=some (.slice none 0 0)) (ds:=[11]) #[false,false,false,false,false,false,false,false,false,false,false,false] (by kernel_rfl) rfl rfl (bc10 zW.out) (fun hHeld=>?_);refine kP zl.tab15 zl.bits15 (fun HT_ HW_=>?_)
         generalize wr.drew=w22 at zG zN zW HB hHeld ⊢
         refine pu 0 71 HT_ ?_
         refine pu 2 73 HT_ ?_
         refine pu 3 74 HT_ ?_
         refine pu 4 75 HT_ ?_
         refine pu 5 76 HT_ ?_
         refine pu 6 77 HT_ ?_
         refine tk 1 72 HT_ HW_ hHeld ?_
         refine oN 7 78 HT_ (fun K hK=>?_)
         refine XO Tryz.func103 (by kernel_rfl) rfl #[.int .i64 1,.int .i64 zaz,.int .i64 (Int.tmod (wrap64 (t119+zaz)) 4)] (by rfl) rfl rfl em ?_
         with_reducible refine (Zh.calls 1 zaz (Int.tmod (wrap64 (t119+zaz)) 4) t127 _ A20.out).mono ?_
         rintro e w23 ⟨rfl,hb⟩
         refine ⟨_,rfl,?_⟩
         replace zG:=RB zG hb;replace zN:=RB zN hb;replace zW:=Ak (yc (g:=yV) (o:=.cells #[.int .i64 (Int.tmod t119 4),.bool (decide (jS<3)),.int .i64 12,yJ,.slice Xq kM.length Xr,.slice none 0 0,.int .i64 xE,.string (⟨#[]⟩:ByteArray),.slice none 0 0,.slice none 0 0] 56 (0,0)) (bo zW) hb);replace HB:=BS HB hb
         refine hK.out _ _ (bc10 zW.out) (fun hHeld=>?_)
         clear hK K
         refine kX (a':=?_) ?_ ?_
         rotate_left
         ·show Act.put _ (some 78) _=_
          simp only [Act.put,List.setIfInBounds_toArray,List.set_cons_zero,List.set_cons_succ,xJ,xU]
          rfl
         refine oN 8 79 HT_ (fun K hK=>?_)
         refine value_ (w1:=?_) (v:=?_) (by rfl) rfl ?_ ?_
         rotate_left 2
         ·go_simp
          constructor
          ·rfl
          ·rfl
         refine hK.out _ _ ⟨(zi (zT zW.out _) 0).trans rfl,(zi (zT zW.out _) 1).trans rfl,(zi (zT zW.out _) 2).trans rfl,(zi (zT zW.out _) 3).trans rfl,(zi (zT zW.out _) 4).trans rfl,(zi (zT zW.out _) 5).trans rfl,(zi (zT zW.out _) 6).trans rfl,(zi (zT zW.out _) 7).trans rfl,(zi (zT zW.out _) 8).trans rfl,(zi (zT zW.out _) 9).trans rfl⟩ (fun hHeld=>?_)
         clear hK K
         refine kX (a':=?_) ?_ ?_
         rotate_left
         ·show Act.put _ (some 79) _=_
          simp only [Act.put,List.setIfInBounds_toArray,List.set_cons_zero,List.set_cons_succ,xJ,xU]
          rfl
         refine oN 9 80 HT_ (fun K hK=>?_)
         refine Kd.ZF (Kd.int .u32) (w0:=w) w.heap.size (by rfl) (.tmp 72) (.tmp 79) 50 60 (.int .u32 0) 4 rfl Tryz.underlying50 info60 rfl (by decide) (by omega) yJ qO t127 [.int .u32 t127] (fun _=>True) (fun _=>False) rfl rfl ?aP (fun _ hk=>hk.elim) ?aF ?aO ?aB ?aS ?aL ?_
         (case aP=>exact rfl)
         (case aB=>exact (bl HB))
         (case aF=>exact (fun _ _=>trivial))
         (case aO=>exact (ro zG))
         (case aS=>exact (zH (bl HB)))
         (case aL=>have:=LMc21.out;omega)
         intro v129 w24 ho hb hg hat
         rw [← Ny128.out] at ho
         have HO130:=Ak (ho);replace zN:=Ak (Kd.QC (ro zN) (Kd.Zw (ro zG)) (by decide) hg);replace zW:=Ak (qU (g:=yV) (o:=.cells #[.int .i64 (Int.tmod t119 4),.bool (decide (jS<3)),.int .i64 12,yJ,.slice Xq kM.length Xr,.slice none 0 0,.int .i64 xE,.string (⟨#[]⟩:ByteArray),.slice none 0 0,.slice none 0 0] 56 (0,0)) (bo zW) hg (Kd.R_ne zG.out zW.out (by decide)));replace HB:=Ak (hb);clear zG ho hb hg hat
         obtain ⟨Ao25,co25,eo25⟩:=Kd.yA HO130.out
         (first|subst eo25|(injection eo25 with f1_ f2_ f3_;have f4_:=f1_.symm;have f5_:=f3_.symm;clear f1_ f2_ f3_;subst f4_;subst f5_))
         refine hK.out _ _ (bc10 zW.out) (fun hHeld=>?_)
         clear hK K
         refine kX (a':=?_) ?_ ?_
         rotate_left
         ·show Act.put _ (some 80) _=_
          simp only [Act.put,List.setIfInBounds_toArray,List.set_cons_zero,List.set_cons_succ,xJ,xU]
          rfl
         refine pu 10 81 HT_ ?_
         refine last_ (i:=11) (N:=none) #[true,true,true,true,true,true,true,true,true,true,true,true] rfl rfl (XV HT_.out (by kernel_rfl)) (by decide) (fun K hK=>?_)
         have hs26:w24.cell? ⟨yV,3,none⟩=some (yJ):=(zi zW.out 3).trans rfl
         have hfs26:=zn zW.out 3
         refine skip_ (w1:=?_) (by rfl) rfl ?_ ?_
         rotate_left
         ·go_simp
          rfl
         refine hK.out _ _ ?_
         clear hK K
         refine Ji (ZO HT_.out (by kernel_rfl)) ?_
         try go_wp2
         go_roundg k3
         case measure=>have:=HJ5.out;have:=HJ7.out;have:=HK3.out;omega
         case rel=>exact ⟨(wrap64 (zaz+1)),(y128),(.slice Ao25 y128.length co25),es,H',⟨by have:=HJ5.out;have:=HJ7.out;have:=HK3.out;omega⟩,⟨rm (Kd.QB (p:=⟨yV,3,none⟩) (Kd.kY HO130.out zW.out (by decide)) (fun _ hk=>hk.2) (.slice Ao25 y128.length co25)) (fun _ hk=>trivial)⟩,⟨rm (Kd.QB (p:=⟨yV,3,none⟩) (Kd.kY zN.out zW.out (by decide)) (fun _ hk=>hk.2) (.slice Ao25 y128.length co25)) (fun _ hk=>trivial)⟩,⟨bq zW⟩,⟨bl HB⟩⟩
        ·rw [if_neg c21] at H
         exact absurd H (by simp)
       ·rw [if_neg c19] at H
        have c19b0:=df c19
        clear c19
        replace H:=Option.bind_eq_some_iff.mp H
        obtain ⟨t131,A270,H⟩:=H
        replace H:((Zh.f 1 5 4).bind fun t132=>((some (([t131,t132]:List Int):List Int)).bind fun y133=>(if qO.length+y133.length<35184372088832 then (zl.l1 k3 l0 t122 a2 a3 xE t118 0 (Int.tmod t119 4) (decide (jS<3)) 12 (qO++y133) kM xE (⟨#[]⟩:ByteArray)) else (none))))=some (r1,r2):=H
        have A27:=Ak A270;clear A270
        replace H:=Option.bind_eq_some_iff.mp H
        obtain ⟨t132,A280,H⟩:=H
        replace H:((some (([t131,t132]:List Int):List Int)).bind fun y133=>(if qO.length+y133.length<35184372088832 then (zl.l1 k3 l0 t122 a2 a3 xE t118 0 (Int.tmod t119 4) (decide (jS<3)) 12 (qO++y133) kM xE (⟨#[]⟩:ByteArray)) else (none)))=some (r1,r2):=H
        have A28:=Ak A280;clear A280
        obtain ⟨y133,hy133⟩:∃ y_:List Int,y_=(([t131,t132]:List Int)):=⟨_,rfl⟩
        replace H:(if qO.length+y133.length<35184372088832 then (zl.l1 k3 l0 t122 a2 a3 xE t118 0 (Int.tmod t119 4) (decide (jS<3)) 12 (qO++y133) kM xE (⟨#[]⟩:ByteArray)) else (none))=some (r1,r2):=by first|(rw [hy133];with_reducible exact H)|(have H2_:=(Option.bind_some _ _).symm.trans H;rw [hy133];with_reducible exact H2_)|(have H2_:=(Option.bind_some _ _).symm.trans H;with_reducible exact H2_)|with_reducible exact H|(rw [hy133];exact H)|exact H
        have Ny133:=Ak hy133;clear hy133
        by_cases c29:qO.length+y133.length<35184372088832
        ·rw [if_pos c29] at H
         have LMc29:=Ak c29;clear c29
         obtain ⟨y136,hy136⟩:∃ y_:List Int,y_=(qO++y133):=⟨_,rfl⟩
         replace H:(zl.l1 k3 l0 t122 a2 a3 xE t118 0 (Int.tmod t119 4) (decide (jS<3)) 12 y136 kM xE (⟨#[]⟩:ByteArray))=some (r1,r2):=by first|(rw [hy136];with_reducible exact H)|(have H2_:=(Option.bind_some _ _).symm.trans H;rw [hy136];with_reducible exact H2_)|(have H2_:=(Option.bind_some _ _).symm.trans H;with_reducible exact H2_)|with_reducible exact H|(rw [hy136];exact H)|exact H
         have Ny136:=Ak hy136;clear hy136
         have H':=Ak H
         clear H
         try go_wp2
         replace zG:=Ak (Kd.ZP zG.out);replace zN:=Ak (Kd.ZP zN.out);replace zW:=Ak (xI zW.out);replace HB:=Ak (zO HB.out)
         refine Yv (n:=8) (S:=fun w'=>w'.cell? ⟨yV,0,none⟩=some (.int .i64 (Int.tmod t119 4))∧w'.cell? ⟨yV,1,none⟩=some (.bool (decide (jS<3)))∧w'.cell? ⟨yV,2,none⟩=some (.int .i64 12)∧w'.cell? ⟨yV,3,none⟩=some (yJ)∧w'.cell? ⟨yV,4,none⟩=some (.slice Xq kM.length Xr)∧w'.cell? ⟨yV,5,none⟩=some (.slice none 0 0)∧w'.cell? ⟨yV,6,none⟩=some (.int .i64 xE)∧w'.cell? ⟨yV,7,none⟩=some (.string (⟨#[]⟩:ByteArray))∧w'.cell? ⟨yV,8,none⟩=some (.slice none 0 0)∧w'.cell? ⟨yV,9,none⟩=some (.slice none 0 0)) (ds:=[7]) #[false,false,false,false,false,false,false,false] (by kernel_rfl) rfl rfl (bc10 zW.out) (fun hHeld=>?_);refine kP zl.tab16 zl.bits16 (fun HT_ HW_=>?_)
         generalize wr.drew=w30 at zG zN zW HB hHeld ⊢
         refine pu 0 82 HT_ ?_
         refine tk 1 83 HT_ HW_ hHeld ?_
         refine oN 2 84 HT_ (fun K hK=>?_)
         refine XO Tryz.func104 (by kernel_rfl) rfl #[.int .i64 6,.int .i64 4,.int .i64 0,.int .i64 0] (by rfl) rfl rfl em ?_
         with_reducible refine (qZ.calls 6 4 0 0 t131 _ A27.out).mono ?_
         rintro e w31 ⟨rfl,hb⟩
         refine ⟨_,rfl,?_⟩
         replace zG:=RB zG hb;replace zN:=RB zN hb;replace zW:=Ak (yc (g:=yV) (o:=.cells #[.int .i64 (Int.tmod t119 4),.bool (decide (jS<3)),.int .i64 12,yJ,.slice Xq kM.length Xr,.slice none 0 0,.int .i64 xE,.string (⟨#[]⟩:ByteArray),.slice none 0 0,.slice none 0 0] 56 (0,0)) (bo zW) hb);replace HB:=BS HB hb
         refine hK.out _ _ (bc10 zW.out) (fun hHeld=>?_)
         clear hK K
         refine kX (a':=?_) ?_ ?_
         rotate_left
         ·show Act.put _ (some 84) _=_
          simp only [Act.put,List.setIfInBounds_toArray,List.set_cons_zero,List.set_cons_succ,xJ,xU]
          rfl
         refine oN 3 85 HT_ (fun K hK=>?_)
         refine XO Tryz.func103 (by kernel_rfl) rfl #[.int .i64 1,.int .i64 5,.int .i64 4] (by rfl) rfl rfl em ?_
         with_reducible refine (Zh.calls 1 5 4 t132 _ A28.out).mono ?_
         rintro e w32 ⟨rfl,hb⟩
         refine ⟨_,rfl,?_⟩
         replace zG:=RB zG hb;replace zN:=RB zN hb;replace zW:=Ak (yc (g:=yV) (o:=.cells #[.int .i64 (Int.tmod t119 4),.bool (decide (jS<3)),.int .i64 12,yJ,.slice Xq kM.length Xr,.slice none 0 0,.int .i64 xE,.string (⟨#[]⟩:ByteArray),.slice none 0 0,.slice none 0 0] 56 (0,0)) (bo zW) hb);replace HB:=BS HB hb
         refine hK.out _ _ (bc10 zW.out) (fun hHeld=>?_)
         clear hK K
         refine kX (a':=?_) ?_ ?_
         rotate_left
         ·show Act.put _ (some 85) _=_
          simp only [Act.put,List.setIfInBounds_toArray,List.set_cons_zero,List.set_cons_succ,xJ,xU]
          rfl
         refine oN 4 86 HT_ (fun K hK=>?_)
         refine Kd.Yx (Kd.int .u32) _ 60 ?hg (N:=86) ?hd (xs:=([t131,t132]:List Int)) (inner:=[.int .u32 t131,.int .u32 t132]) (ok:=fun _=>True) (okp:=fun _=>True) ?hr ?hp (fun _ hk=>hk) trivial (Below.refl _ _) (Nat.le_refl _) (by simp) ?_;(case hd=>rfl);(case hg=>rfl);(case hr=>first|(go_simp;done)|(go_simp;rfl));(case hp=>exact (qx.one (show Kd.M (Kd.int .u32) _ _ _ t131 [.int .u32 t131] from rfl) (qx.one (show Kd.M (Kd.int .u32) _ _ _ t132 [.int .u32 t132] from rfl) (qx.none _ _))))
         intro v134 w33 ho34 hb hg_ qp
         clear hg_ qp
         (first|rw [← Ny133.out] at ho34|(simp only [Int.reduceToNat] at ho34;rw [← Ny133.out] at ho34))
         have HO135:=Ak (Kd.yH (Kd.Ze ho34 (Kd.Zv (ro zG))) (zH (bl HB)));replace zG:=Ak (Kd.jf (ro zG) (Kd.jT ho34) hb);replace zN:=RB zN hb;replace zW:=Ak (yc (g:=yV) (o:=.cells #[.int .i64 (Int.tmod t119 4),.bool (decide (jS<3)),.int .i64 12,yJ,.slice Xq kM.length Xr,.slice none 0 0,.int .i64 xE,.string (⟨#[]⟩:ByteArray),.slice none 0 0,.slice none 0 0] 56 (0,0)) (bo zW) hb);replace HB:=BS HB hb;clear hb ho34
         obtain ⟨Ao36,co36,eo36⟩:=Kd.yA HO135.out
         (first|subst eo36|(injection eo36 with f1_ f2_ f3_;have f4_:=f1_.symm;have f5_:=f3_.symm;clear f1_ f2_ f3_;subst f4_;subst f5_))
         refine hK.out _ _ (bc10 zW.out) (fun hHeld=>?_)
         clear hK K
         refine kX (a':=?_) ?_ ?_
         rotate_left
         ·show Act.put _ (some 86) _=_
          simp only [Act.put,List.setIfInBounds_toArray,List.set_cons_zero,List.set_cons_succ,xJ,xU]
          rfl
         refine oN 5 87 HT_ (fun K hK=>?_)
         refine Kd.vY (Kd.int .u32) (w0:=w) w.heap.size (by rfl) (.tmp 83) (.tmp 86) 50 60 (.int .u32 0) 4 rfl Tryz.underlying50 info60 rfl (by decide) (by omega) yJ qO y133 _ _ _ (fun k_=>some k_≠(.slice Ao36 y133.length co36:Value).ownBlock) (fun _=>False) rfl rfl ?aO ?aR (fun _ _ h=>h) (fun _ h=>h.elim) ?aF ?aB ?aS ?aL ?_
         (case aR=>repeat (first|exact (Kd.yB HO135.out).2.2|(with_reducible refine Kd.qC ?_ _)|(with_reducible refine Kd.qE ?_ _)|(with_reducible refine Kd.ji ?_)))
         (case aB=>exact (bl HB))
         (case aF=>exact (fun k_ hk=>Kd.fresh' (Kd.Zv (ro HO135)) k_ hk))
         (case aO=>exact (rm zG.out (fun _ hk=>hk.2)))
         (case aS=>exact (zH (bl HB)))
         (case aL=>have:=LMc29.out;omega)
         intro v137 w35 ho hb hg hat
         rw [← Ny136.out] at ho
         have HO138:=Ak (ho);replace zN:=Ak (Kd.QC (ro zN) (Kd.Zw (ro zG)) (by decide) hg);replace zW:=Ak (qU (g:=yV) (o:=.cells #[.int .i64 (Int.tmod t119 4),.bool (decide (jS<3)),.int .i64 12,yJ,.slice Xq kM.length Xr,.slice none 0 0,.int .i64 xE,.string (⟨#[]⟩:ByteArray),.slice none 0 0,.slice none 0 0] 56 (0,0)) (bo zW) hg (Kd.R_ne zG.out zW.out (by decide)));replace HO135:=Ak (Kd.XT (ok:=(fun _=>True)) (ro HO135) hg hat);replace HB:=Ak (hb);clear zG ho hb hg hat
         obtain ⟨Ao37,co37,eo37⟩:=Kd.yA HO138.out
         (first|subst eo37|(injection eo37 with f1_ f2_ f3_;have f4_:=f1_.symm;have f5_:=f3_.symm;clear f1_ f2_ f3_;subst f4_;subst f5_))
         refine hK.out _ _ (bc10 zW.out) (fun hHeld=>?_)
         clear hK K
         refine kX (a':=?_) ?_ ?_
         rotate_left
         ·show Act.put _ (some 87) _=_
          simp only [Act.put,List.setIfInBounds_toArray,List.set_cons_zero,List.set_cons_succ,xJ,xU]
          rfl
         refine pu 6 88 HT_ ?_
         refine last_ (i:=7) (N:=none) #[true,true,true,true,true,true,true,true] rfl rfl (XV HT_.out (by kernel_rfl)) (by decide) (fun K hK=>?_)
         have hs38:w35.cell? ⟨yV,3,none⟩=some (yJ):=(zi zW.out 3).trans rfl
         have hfs38:=zn zW.out 3
         refine skip_ (w1:=?_) (by rfl) rfl ?_ ?_
         rotate_left
         ·go_simp
          rfl
         refine hK.out _ _ ?_
         clear hK K
         refine Ji (ZO HT_.out (by kernel_rfl)) ?_
         try go_wp2
         go_loopg [1,16] k3 (fun kq v1 v16 w'=>∃ (x1_4:Int) (x16_4:Int) (xC:List Int) (yJ:Value),v1=.int .i64 x1_4∧v16=.int .i64 x16_4∧zh (zl.l1 kq l0 x1_4 a2 a3 xE t118 x16_4 (Int.tmod t119 4) (decide (jS<3)) 12 xC kM xE (⟨#[]⟩:ByteArray)=some (r1,r2))∧zh (kq≤k3)∧zh (Kd.R (Kd.int .u32) 60 w' w.heap.size (fun _=>True) yJ xC)∧zh (Kd.R k67 67 w' w.heap.size (fun _=>True) (.slice Xq kM.length Xr) kM)∧zh (w'.heap[yV]?=some (.cells #[.int .i64 (Int.tmod t119 4),.bool (decide (jS<3)),.int .i64 12,yJ,(.slice Xq kM.length Xr),(.slice none 0 0),.int .i64 xE,.string (⟨#[]⟩:ByteArray),(.slice none 0 0),(.slice none 0 0)] 56 (0,0)))∧zh (Below w.heap.size w w'))
         case atStart=>exact ⟨(t122),(0),(y136),(.slice Ao37 y136.length co37),es,es,H',⟨Nat.le_refl _⟩,⟨rm (Kd.QB (p:=⟨yV,3,none⟩) (Kd.kY HO138.out zW.out (by decide)) (fun _ hk=>hk.2) (.slice Ao37 y136.length co37)) (fun _ hk=>trivial)⟩,⟨rm (Kd.QB (p:=⟨yV,3,none⟩) (Kd.kY zN.out zW.out (by decide)) (fun _ hk=>hk.2) (.slice Ao37 y136.length co37)) (fun _ hk=>trivial)⟩,⟨bq zW⟩,⟨bl HB⟩⟩
         case round =>
          clear H'
          obtain ⟨x1_4,x16_4,xC,yJ,rfl,rfl,HA,HK4,zG,zN,zW,HB⟩:=hrel
          cases gk with
          | zero=>exact absurd HA.out (by simp [zl.l1])
          | succ k4 =>
           have H:=HA.out
           clear HA
           simp only [zl.l1] at H
           by_cases c39:x16_4<t118
           ·rw [if_pos c39] at H
            have c39b0:=dt c39
            clear c39
            replace H:=Option.bind_eq_some_iff.mp H
            obtain ⟨⟨t139,t140⟩,A400,H⟩:=H
            replace H:(zl.l2 k4 l0 t140 a2 a3 xE t118 x16_4 t139 0 (Int.tmod t119 4) (decide (jS<3)) 12 xC kM xE (⟨#[]⟩:ByteArray))=some (r1,r2):=H
            have A40:=Ak A400;clear A400
            have H':=Ak H
            clear H
            obtain ⟨hcz41_0,hcz41_1,hcz41_2,hcz41_3,hcz41_4,hcz41_5,hcz41_6,hcz41_7,hcz41_8,hcz41_9,hfz41_0,hfz41_1,hfz41_2,hfz41_3,hfz41_4,hfz41_5,hfz41_6,hfz41_7,hfz41_8,hfz41_9⟩:=jV zW.out
            go_wp2_with (first|((with_reducible refine yP (f:=105) rfl ?_);refine jU (some 103) rfl rfl Tryz.func105 (by kernel_rfl) rfl #[.slice A0 l0.length c0,.int .i64 x1_4,.int .i64 xE,.int .i64 a3,.bool (decide (jS<3)),.bool (decide (a2 > 0))] rfl em ?_;(with_reducible refine (zX.calls k4 _ _ l0 x1_4 xE a3 (decide (jS<3)) (decide (a2 > 0)) t139 t140 _ ?yQ ?xG A40.out).mono ?_);(case yQ=>exact co HR0 HB);(case xG=>exact HC0.out);rintro e w42 ⟨v141,rfl,ho0,hb⟩;refine ⟨_,rfl,?_⟩;have HO142:=Ak (Kd.yH (Kd.Ze ho0 (Kd.Zv (ro zG))) (zH (bl HB)));replace zG:=Ak (Kd.jf (ro zG) (Kd.jT ho0) hb);replace zN:=RB zN hb;replace zW:=Ak (yc (g:=yV) (o:=.cells #[.int .i64 (Int.tmod t119 4),.bool (decide (jS<3)),.int .i64 12,yJ,.slice Xq kM.length Xr,.slice none 0 0,.int .i64 xE,.string (⟨#[]⟩:ByteArray),.slice none 0 0,.slice none 0 0] 56 (0,0)) (bo zW) hb);replace HB:=BS HB hb))
            go_loopg [18] k4 (fun kq v18 w'=>∃ (QD:Int) (ZQ:List Int) (yJ:Value),v18=.int .i64 QD∧zh (zl.l2 kq l0 t140 a2 a3 xE t118 x16_4 t139 QD (Int.tmod t119 4) (decide (jS<3)) 12 ZQ kM xE (⟨#[]⟩:ByteArray)=some (r1,r2))∧zh (kq≤k4)∧zh (Kd.R (Kd.int .u32) 60 w' w.heap.size (fun k_=>some k_≠(yJ:Value).ownBlock) v141 t139)∧zh (Kd.R (Kd.int .u32) 60 w' w.heap.size (fun k_=>some k_≠(v141:Value).ownBlock) yJ ZQ)∧zh (Kd.R k67 67 w' w.heap.size (fun _=>True) (.slice Xq kM.length Xr) kM)∧zh (w'.heap[yV]?=some (.cells #[.int .i64 (Int.tmod t119 4),.bool (decide (jS<3)),.int .i64 12,yJ,(.slice Xq kM.length Xr),(.slice none 0 0),.int .i64 xE,.string (⟨#[]⟩:ByteArray),(.slice none 0 0),(.slice none 0 0)] 56 (0,0)))∧zh (Below w.heap.size w w'))
            case atStart=>exact ⟨(0),(xC),(yJ),es,H',⟨Nat.le_refl _⟩,⟨rm HO142.out (fun _ hk=>hk.2)⟩,⟨rm zG.out (fun _ hk=>hk.2)⟩,⟨ro zN⟩,⟨bo zW⟩,⟨bl HB⟩⟩
            case round =>
             clear H'
             obtain ⟨QD,ZQ,yJ,rfl,HA,HK5,HO_17,zG,zN,zW,HB⟩:=hrel
             cases gk with
             | zero=>exact absurd HA.out (by simp [zl.l2])
             | succ k5 =>
              have H:=HA.out
              clear HA
              simp only [zl.l2] at H
              by_cases c43:QD<(t139.length:Int)
              ·rw [if_pos c43] at H
               have c43b0:=dt c43
               clear c43
               by_cases c44:0≤QD
               ·rw [if_pos c44] at H
                have c44b0:=dt c44
                clear c44
                by_cases c45:ZQ.length<35184372088832
                ·rw [if_pos c45] at H
                 have LMc45:=Ak c45;clear c45
                 obtain ⟨y144,hy144⟩:∃ y_:List Int,y_=(ZQ++[rd t139 QD]):=⟨_,rfl⟩
                 replace H:(zl.l2 k5 l0 t140 a2 a3 xE t118 x16_4 t139 (wrap64 (QD+1)) (Int.tmod t119 4) (decide (jS<3)) 12 y144 kM xE (⟨#[]⟩:ByteArray))=some (r1,r2):=by first|(rw [hy144];with_reducible exact H)|(have H2_:=(Option.bind_some _ _).symm.trans H;rw [hy144];with_reducible exact H2_)|(have H2_:=(Option.bind_some _ _).symm.trans H;with_reducible exact H2_)|with_reducible exact H|(rw [hy144];exact H)|exact H
                 have Ny144:=Ak hy144;clear hy144
                 have H':=Ak H
                 clear H
                 obtain ⟨Ao46,co46,eo46⟩:=Kd.yA HO_17.out
                 subst eo46
                 try go_wp2
                 replace HO_17:=Ak (Kd.ZP HO_17.out);replace zG:=Ak (Kd.ZP zG.out);replace zN:=Ak (Kd.ZP zN.out);replace zW:=Ak (xI zW.out);replace HB:=Ak (zO HB.out)
                 have p143:0≤(QD:Int):=od
                 have q143:QD<(t139.length:Int):=od
                 obtain ⟨ad143,e143,hx143_0⟩:=Kd.vV (Kd.yB HO_17.out).2.2 QD p143 q143
                 cases e143
                 replace p143:=eq_true p143
                 replace q143:=eq_true q143
                 refine Yv (n:=10) (S:=fun w'=>w'.cell? ⟨yV,0,none⟩=some (.int .i64 (Int.tmod t119 4))∧w'.cell? ⟨yV,1,none⟩=some (.bool (decide (jS<3)))∧w'.cell? ⟨yV,2,none⟩=some (.int .i64 12)∧w'.cell? ⟨yV,3,none⟩=some (yJ)∧w'.cell? ⟨yV,4,none⟩=some (.slice Xq kM.length Xr)∧w'.cell? ⟨yV,5,none⟩=some (.slice none 0 0)∧w'.cell? ⟨yV,6,none⟩=some (.int .i64 xE)∧w'.cell? ⟨yV,7,none⟩=some (.string (⟨#[]⟩:ByteArray))∧w'.cell? ⟨yV,8,none⟩=some (.slice none 0 0)∧w'.cell? ⟨yV,9,none⟩=some (.slice none 0 0)∧w'.cell? (ad143.add (QD).toNat)=some (.int .u32 (rd t139 QD))) (ds:=[7,9]) #[false,false,false,false,false,false,false,false,false,false] (by kernel_rfl) rfl rfl ⟨(zi zW.out 0).trans rfl,(zi zW.out 1).trans rfl,(zi zW.out 2).trans rfl,(zi zW.out 3).trans rfl,(zi zW.out 4).trans rfl,(zi zW.out 5).trans rfl,(zi zW.out 6).trans rfl,(zi zW.out 7).trans rfl,(zi zW.out 8).trans rfl,(zi zW.out 9).trans rfl,hx143_0⟩ (fun hHeld=>?_);refine kP zl.tab25 zl.bits25 (fun HT_ HW_=>?_)
                 generalize wr.drew=w47 at HO_17 zG zN zW HB hx143_0 hHeld ⊢
                 refine pu 0 112 HT_ ?_
                 refine pu 2 114 HT_ ?_
                 refine pu 3 115 HT_ ?_
                 refine pu 4 116 HT_ ?_
                 refine tk 1 113 HT_ HW_ hHeld ?_
                 refine tk 5 117 HT_ HW_ hHeld ?_
                 refine oN 6 118 HT_ (fun K hK=>?_)
                 refine value_ (w1:=?_) (v:=?_) (by rfl) rfl ?_ ?_
                 rotate_left 2
                 ·go_simp
                  constructor
                  ·rfl
                  ·rfl
                 refine hK.out _ _ ⟨(zi (zT zW.out _) 0).trans rfl,(zi (zT zW.out _) 1).trans rfl,(zi (zT zW.out _) 2).trans rfl,(zi (zT zW.out _) 3).trans rfl,(zi (zT zW.out _) 4).trans rfl,(zi (zT zW.out _) 5).trans rfl,(zi (zT zW.out _) 6).trans rfl,(zi (zT zW.out _) 7).trans rfl,(zi (zT zW.out _) 8).trans rfl,(zi (zT zW.out _) 9).trans rfl,(World.cell?_alloc_lt _ _ _ (World.block_lt_of_cell? _ _ (hHeld.2.2.2.2.2.2.2.2.2.2))).trans (hHeld.2.2.2.2.2.2.2.2.2.2)⟩ (fun hHeld=>?_)
                 clear hK K
                 refine kX (a':=?_) ?_ ?_
                 rotate_left
                 ·show Act.put _ (some 118) _=_
                  simp only [Act.put,List.setIfInBounds_toArray,List.set_cons_zero,List.set_cons_succ,xJ,xU]
                  rfl
                 refine last_ (i:=7) (N:=some 119) #[true,true,true,true,true,true,true,true,false,false] rfl rfl (XV HT_.out (by kernel_rfl)) (by decide) (fun K hK=>?_)
                 refine Kd.ZF (Kd.int .u32) (w0:=w) w.heap.size (by rfl) (.tmp 113) (.tmp 118) 50 60 (.int .u32 0) 4 rfl Tryz.underlying50 info60 rfl (by decide) (by omega) yJ ZQ (rd t139 QD) [.int .u32 (rd t139 QD)] (fun k_=>some k_≠(.slice (some ad143) t139.length co46:Value).ownBlock) (fun _=>False) rfl rfl ?aP (fun _ hk=>hk.elim) ?aF ?aO ?aB ?aS ?aL ?_
                 (case aP=>exact rfl)
                 (case aB=>exact (bl HB))
                 (case aF=>exact (fun k_ hk=>Kd.fresh' (Kd.Zv (ro HO_17)) k_ hk))
                 (case aO=>exact (ro zG))
                 (case aS=>exact (zH (bl HB)))
                 (case aL=>have:=LMc45.out;omega)
                 intro v145 w48 ho hb hg hat
                 rw [← Ny144.out] at ho
                 have HO146:=Ak (ho);replace HO_17:=Ak (Kd.XT (ok:=(fun _=>True)) (rm HO_17.out (fun _ hk=>⟨trivial,hk⟩)) hg hat);replace zN:=Ak (Kd.QC (ro zN) (Kd.Zw (ro zG)) (by decide) hg);replace zW:=Ak (qU (g:=yV) (o:=.cells #[.int .i64 (Int.tmod t119 4),.bool (decide (jS<3)),.int .i64 12,yJ,.slice Xq kM.length Xr,.slice none 0 0,.int .i64 xE,.string (⟨#[]⟩:ByteArray),.slice none 0 0,.slice none 0 0] 56 (0,0)) (bo zW) hg (Kd.R_ne zG.out zW.out (by decide)));replace HB:=Ak (hb);clear zG ho hb hg hat
                 obtain ⟨Ao49,co49,eo49⟩:=Kd.yA HO146.out
                 (first|subst eo49|(injection eo49 with f1_ f2_ f3_;have f4_:=f1_.symm;have f5_:=f3_.symm;clear f1_ f2_ f3_;subst f4_;subst f5_))
                 refine hK.out _ _ ?_
                 clear hK K
                 refine kX (a':=?_) ?_ ?_
                 rotate_left
                 ·show Act.put _ (some 119) _=_
                  simp only [Act.put,List.setIfInBounds_toArray,List.set_cons_zero,List.set_cons_succ,xJ,xU]
                  rfl
                 refine pu 8 120 HT_ ?_
                 refine last_ (i:=9) (N:=none) #[true,true,true,true,true,true,true,true,true,true] rfl rfl (XV HT_.out (by kernel_rfl)) (by decide) (fun K hK=>?_)
                 have hs50:w48.cell? ⟨yV,3,none⟩=some (yJ):=(zi zW.out 3).trans rfl
                 have hfs50:=zn zW.out 3
                 refine skip_ (w1:=?_) (by rfl) rfl ?_ ?_
                 rotate_left
                 ·go_simp
                  rfl
                 refine hK.out _ _ ?_
                 clear hK K
                 refine Ji (ZO HT_.out (by kernel_rfl)) ?_
                 try go_wp2
                 go_roundg k5
                 case measure=>have:=HJ5.out;have:=HJ7.out;have:=HK3.out;have:=HK4.out;have:=HK5.out;omega
                 case rel=>exact ⟨(wrap64 (QD+1)),(y144),(.slice Ao49 y144.length co49),es,H',⟨by have:=HJ5.out;have:=HJ7.out;have:=HK3.out;have:=HK4.out;have:=HK5.out;omega⟩,⟨rm (Kd.QB (p:=⟨yV,3,none⟩) (Kd.kY HO_17.out zW.out (by decide)) (fun _ hk=>hk.2) (.slice Ao49 y144.length co49)) (fun _ hk=>hk.1.2)⟩,⟨rm (Kd.QB (p:=⟨yV,3,none⟩) (Kd.kY HO146.out zW.out (by decide)) (fun _ hk=>hk.2) (.slice Ao49 y144.length co49)) (fun _ hk=>hk.1)⟩,⟨rm (Kd.QB (p:=⟨yV,3,none⟩) (Kd.kY zN.out zW.out (by decide)) (fun _ hk=>hk.2) (.slice Ao49 y144.length co49)) (fun _ hk=>trivial)⟩,⟨bq zW⟩,⟨bl HB⟩⟩
                ·rw [if_neg c45] at H
                 exact absurd H (by simp)
               ·rw [if_neg c44] at H
                exact absurd H (by simp)
              ·rw [if_neg c43] at H
               have c43b0:=df c43
               clear c43
               have H':=Ak H
               clear H
               obtain ⟨Ao51,co51,eo51⟩:=Kd.yA HO_17.out
               subst eo51
               go_wp2
               go_roundg k5
               case measure=>have:=HJ5.out;have:=HJ7.out;have:=HK3.out;have:=HK4.out;have:=HK5.out;omega
               case rel=>exact ⟨(t140),(wrap64 (x16_4+1)),(ZQ),(yJ),es,es,H',⟨by have:=HJ5.out;have:=HJ7.out;have:=HK3.out;have:=HK4.out;have:=HK5.out;omega⟩,⟨rm zG.out (fun _ hk=>trivial)⟩,⟨ro zN⟩,⟨bo zW⟩,⟨bl HB⟩⟩
           ·rw [if_neg c39] at H
            have c39b0:=df c39
            clear c39
            replace H:=Option.bind_eq_some_iff.mp H
            obtain ⟨⟨t147,t148⟩,A520,H⟩:=H
            replace H:(if t147=0 then (zl.j5 k4 l0 t148 a2 a3 t147 (decide (jS<3)) (Int.tmod t119 4) (decide (jS<3)) 12 xC kM xE (⟨#[]⟩:ByteArray)) else (zl.j5 k4 l0 t148 a2 a3 t147 false (Int.tmod t119 4) (decide (jS<3)) 12 xC kM xE (⟨#[]⟩:ByteArray)))=some (r1,r2):=H
            have A52:=Ak A520;clear A520;have HC53:=Ak H;clear H
            go_upto_region 27 with (first|((with_reducible refine yP (f:=14) rfl ?_);refine jU (some 124) rfl rfl Tryz.func14 (by kernel_rfl) rfl #[.slice A0 l0.length c0,.int .i64 x1_4,.int .i64 6] rfl em ?_;(with_reducible refine (zx.calls k4 _ _ l0 x1_4 6 t147 t148 _ ?yQ ?xG A52.out).mono ?_);(case yQ=>exact co HR0 HB);(case xG=>exact HC0.out);rintro e w' ⟨rfl,⟨nd,rfl⟩⟩;refine ⟨_,rfl,?_⟩))
            (try simp only [Act.put,List.setIfInBounds_toArray,List.set_cons_zero,List.set_cons_succ])
            go_cut [132] (fun v132 wc=>∃ (kq:Nat) (x132_52:Bool),v132=.bool x132_52∧zh (zl.j5 kq l0 t148 a2 a3 t147 x132_52 (Int.tmod t119 4) (decide (jS<3)) 12 xC kM xE (⟨#[]⟩:ByteArray)=some (r1,r2))∧zh (kq≤k4)∧zh (Kd.R (Kd.int .u32) 60 wc w.heap.size (fun _=>True) yJ xC)∧zh (Kd.R k67 67 wc w.heap.size (fun _=>True) (.slice Xq kM.length Xr) kM)∧zh (wc.heap[yV]?=some (.cells #[.int .i64 (Int.tmod t119 4),.bool (decide (jS<3)),.int .i64 12,yJ,(.slice Xq kM.length Xr),(.slice none 0 0),.int .i64 xE,.string (⟨#[]⟩:ByteArray),(.slice none 0 0),(.slice none 0 0)] 56 (0,0)))∧zh (Below w.heap.size w wc))
            case first =>
             have H:=HC53.out
             clear HC53
             by_cases c54:t147=0
             ·rw [if_pos c54] at H
              have c54b0:=bT c54
              have c54b1:=nF c54
              clear c54
              (first|rw [c54b0]|(simp only [xJ,xU];rw [c54b0])|skip)
              have H':=Ak H
              clear H
              obtain ⟨hcz55_0,hcz55_1,hcz55_2,hcz55_3,hcz55_4,hcz55_5,hcz55_6,hcz55_7,hcz55_8,hcz55_9,hfz55_0,hfz55_1,hfz55_2,hfz55_3,hfz55_4,hfz55_5,hfz55_6,hfz55_7,hfz55_8,hfz55_9⟩:=jV zW.out
              go_wp2
              go_meet
              case rel=>exact ⟨_,((decide (jS<3))),es,H',⟨by have:=HJ5.out;have:=HJ7.out;have:=HK3.out;have:=HK4.out;first|omega|exact Nat.le_refl _⟩,⟨ro zG⟩,⟨ro zN⟩,⟨bo zW⟩,⟨bl HB⟩⟩
             ·rw [if_neg c54] at H
              have c54b0:=bF c54
              have c54b1:=nT c54
              (first|rw [c54b0]|(simp only [xJ,xU];rw [c54b0])|skip)
              have H':=Ak H
              clear H
              go_wp2
              go_meet
              case rel=>exact ⟨_,(false),es,H',⟨by have:=HJ5.out;have:=HJ7.out;have:=HK3.out;have:=HK4.out;first|omega|exact Nat.le_refl _⟩,⟨ro zG⟩,⟨ro zN⟩,⟨bo zW⟩,⟨bl HB⟩⟩
            case rest =>
             clear HC53
             obtain ⟨kq,x132_52,rfl,HA,HJ52,zG,zN,zW,HB⟩:=hcut
             cases kq with
             | zero=>exact absurd HA.out (by simp [zl.j5])
             | succ kj52 =>
              have H:=HA.out
              clear HA
              simp only [zl.j5] at H
              have HC56:=Ak H;clear H
              go_upto_if 132 with (fail)
              go_cut [] (fun wc=>∃ (kq:Nat) (jH:List Int) (yJ:Value),zh (zl.j6 kq l0 t148 a2 a3 (Int.tmod t119 4) (decide (jS<3)) 12 jH kM xE (⟨#[]⟩:ByteArray)=some (r1,r2))∧zh (kq≤kj52)∧zh (Kd.R (Kd.int .u32) 60 wc w.heap.size (fun _=>True) yJ jH)∧zh (Kd.R k67 67 wc w.heap.size (fun _=>True) (.slice Xq kM.length Xr) kM)∧zh (wc.heap[yV]?=some (.cells #[.int .i64 (Int.tmod t119 4),.bool (decide (jS<3)),.int .i64 12,yJ,(.slice Xq kM.length Xr),(.slice none 0 0),.int .i64 xE,.string (⟨#[]⟩:ByteArray),(.slice none 0 0),(.slice none 0 0)] 56 (0,0)))∧zh (Below w.heap.size w wc))
              case first =>
               have H:=HC56.out
               clear HC56
               by_cases c57:x132_52=true
               ·subst c57
                have H1:((qZ.f 24 2 511 0).bind fun t149=>((qZ.f 23 0 511 0).bind fun t150=>((some (([t149,t150]:List Int):List Int)).bind fun y151=>(if xC.length+y151.length<35184372088832 then (zl.j6 kj52 l0 t148 a2 a3 (Int.tmod t119 4) (decide (jS<3)) 12 (xC++y151) kM xE (⟨#[]⟩:ByteArray)) else (none)))))=some (r1,r2):=by rw [if_pos rfl] at H;exact H
                clear H;have H:=H1;clear H1
                replace H:=Option.bind_eq_some_iff.mp H
                obtain ⟨t149,A580,H⟩:=H
                replace H:((qZ.f 23 0 511 0).bind fun t150=>((some (([t149,t150]:List Int):List Int)).bind fun y151=>(if xC.length+y151.length<35184372088832 then (zl.j6 kj52 l0 t148 a2 a3 (Int.tmod t119 4) (decide (jS<3)) 12 (xC++y151) kM xE (⟨#[]⟩:ByteArray)) else (none))))=some (r1,r2):=H
                have A58:=Ak A580;clear A580
                replace H:=Option.bind_eq_some_iff.mp H
                obtain ⟨t150,A590,H⟩:=H
                replace H:((some (([t149,t150]:List Int):List Int)).bind fun y151=>(if xC.length+y151.length<35184372088832 then (zl.j6 kj52 l0 t148 a2 a3 (Int.tmod t119 4) (decide (jS<3)) 12 (xC++y151) kM xE (⟨#[]⟩:ByteArray)) else (none)))=some (r1,r2):=H
                have A59:=Ak A590;clear A590
                obtain ⟨y151,hy151⟩:∃ y_:List Int,y_=(([t149,t150]:List Int)):=⟨_,rfl⟩
                replace H:(if xC.length+y151.length<35184372088832 then (zl.j6 kj52 l0 t148 a2 a3 (Int.tmod t119 4) (decide (jS<3)) 12 (xC++y151) kM xE (⟨#[]⟩:ByteArray)) else (none))=some (r1,r2):=by first|(rw [hy151];with_reducible exact H)|(have H2_:=(Option.bind_some _ _).symm.trans H;rw [hy151];with_reducible exact H2_)|(have H2_:=(Option.bind_some _ _).symm.trans H;with_reducible exact H2_)|with_reducible exact H|(rw [hy151];exact H)|exact H
                have Ny151:=Ak hy151;clear hy151
                by_cases c60:xC.length+y151.length<35184372088832
                ·rw [if_pos c60] at H
                 have LMc60:=Ak c60;clear c60
                 obtain ⟨y154,hy154⟩:∃ y_:List Int,y_=(xC++y151):=⟨_,rfl⟩
                 replace H:(zl.j6 kj52 l0 t148 a2 a3 (Int.tmod t119 4) (decide (jS<3)) 12 y154 kM xE (⟨#[]⟩:ByteArray))=some (r1,r2):=by first|(rw [hy154];with_reducible exact H)|(have H2_:=(Option.bind_some _ _).symm.trans H;rw [hy154];with_reducible exact H2_)|(have H2_:=(Option.bind_some _ _).symm.trans H;with_reducible exact H2_)|with_reducible exact H|(rw [hy154];exact H)|exact H
                 have Ny154:=Ak hy154;clear hy154
                 have H':=Ak H
                 clear H
                 try go_wp2
                 replace zG:=Ak (Kd.ZP zG.out);replace zN:=Ak (Kd.ZP zN.out);replace zW:=Ak (xI zW.out);replace HB:=Ak (zO HB.out)
                 refine Yv (n:=8) (S:=fun w'=>w'.cell? ⟨yV,0,none⟩=some (.int .i64 (Int.tmod t119 4))∧w'.cell? ⟨yV,1,none⟩=some (.bool (decide (jS<3)))∧w'.cell? ⟨yV,2,none⟩=some (.int .i64 12)∧w'.cell? ⟨yV,3,none⟩=some (yJ)∧w'.cell? ⟨yV,4,none⟩=some (.slice Xq kM.length Xr)∧w'.cell? ⟨yV,5,none⟩=some (.slice none 0 0)∧w'.cell? ⟨yV,6,none⟩=some (.int .i64 xE)∧w'.cell? ⟨yV,7,none⟩=some (.string (⟨#[]⟩:ByteArray))∧w'.cell? ⟨yV,8,none⟩=some (.slice none 0 0)∧w'.cell? ⟨yV,9,none⟩=some (.slice none 0 0)) (ds:=[7]) #[false,false,false,false,false,false,false,false] (by kernel_rfl) rfl rfl (bc10 zW.out) (fun hHeld=>?_);refine kP zl.tab28 zl.bits28 (fun HT_ HW_=>?_)
                 generalize wc.drew=w61 at zG zN zW HB hHeld ⊢
                 refine pu 0 133 HT_ ?_
                 refine tk 1 134 HT_ HW_ hHeld ?_
                 refine oN 2 135 HT_ (fun K hK=>?_)
                 refine XO Tryz.func104 (by kernel_rfl) rfl #[.int .i64 24,.int .i64 2,.int .i64 511,.int .i64 0] (by rfl) rfl rfl em ?_
                 with_reducible refine (qZ.calls 24 2 511 0 t149 _ A58.out).mono ?_
                 rintro e w62 ⟨rfl,hb⟩
                 refine ⟨_,rfl,?_⟩
                 replace zG:=RB zG hb;replace zN:=RB zN hb;replace zW:=Ak (yc (g:=yV) (o:=.cells #[.int .i64 (Int.tmod t119 4),.bool (decide (jS<3)),.int .i64 12,yJ,.slice Xq kM.length Xr,.slice none 0 0,.int .i64 xE,.string (⟨#[]⟩:ByteArray),.slice none 0 0,.slice none 0 0] 56 (0,0)) (bo zW) hb);replace HB:=BS HB hb
                 refine hK.out _ _ (bc10 zW.out) (fun hHeld=>?_)
                 clear hK K
                 refine kX (a':=?_) ?_ ?_
                 rotate_left
                 ·show Act.put _ (some 135) _=_
                  simp only [Act.put,List.setIfInBounds_toArray,List.set_cons_zero,List.set_cons_succ,xJ,xU]
                  rfl
                 refine oN 3 136 HT_ (fun K hK=>?_)
                 refine XO Tryz.func104 (by kernel_rfl) rfl #[.int .i64 23,.int .i64 0,.int .i64 511,.int .i64 0] (by rfl) rfl rfl em ?_
                 with_reducible refine (qZ.calls 23 0 511 0 t150 _ A59.out).mono ?_
                 rintro e w63 ⟨rfl,hb⟩
                 refine ⟨_,rfl,?_⟩
                 replace zG:=RB zG hb;replace zN:=RB zN hb;replace zW:=Ak (yc (g:=yV) (o:=.cells #[.int .i64 (Int.tmod t119 4),.bool (decide (jS<3)),.int .i64 12,yJ,.slice Xq kM.length Xr,.slice none 0 0,.int .i64 xE,.string (⟨#[]⟩:ByteArray),.slice none 0 0,.slice none 0 0] 56 (0,0)) (bo zW) hb);replace HB:=BS HB hb
                 refine hK.out _ _ (bc10 zW.out) (fun hHeld=>?_)
                 clear hK K
                 refine kX (a':=?_) ?_ ?_
                 rotate_left
                 ·show Act.put _ (some 136) _=_
                  simp only [Act.put,List.setIfInBounds_toArray,List.set_cons_zero,List.set_cons_succ,xJ,xU]
                  rfl
                 refine oN 4 137 HT_ (fun K hK=>?_)
                 refine Kd.Yx (Kd.int .u32) _ 60 ?hg (N:=137) ?hd (xs:=([t149,t150]:List Int)) (inner:=[.int .u32 t149,.int .u32 t150]) (ok:=fun _=>True) (okp:=fun _=>True) ?hr ?hp (fun _ hk=>hk) trivial (Below.refl _ _) (Nat.le_refl _) (by simp) ?_;(case hd=>rfl);(case hg=>rfl);(case hr=>first|(go_simp;done)|(go_simp;rfl));(case hp=>exact (qx.one (show Kd.M (Kd.int .u32) _ _ _ t149 [.int .u32 t149] from rfl) (qx.one (show Kd.M (Kd.int .u32) _ _ _ t150 [.int .u32 t150] from rfl) (qx.none _ _))))
                 intro v152 w64 ho65 hb hg_ qp
                 clear hg_ qp
                 (first|rw [← Ny151.out] at ho65|(simp only [Int.reduceToNat] at ho65;rw [← Ny151.out] at ho65))
                 have HO153:=Ak (Kd.yH (Kd.Ze ho65 (Kd.Zv (ro zG))) (zH (bl HB)));replace zG:=Ak (Kd.jf (ro zG) (Kd.jT ho65) hb);replace zN:=RB zN hb;replace zW:=Ak (yc (g:=yV) (o:=.cells #[.int .i64 (Int.tmod t119 4),.bool (decide (jS<3)),.int .i64 12,yJ,.slice Xq kM.length Xr,.slice none 0 0,.int .i64 xE,.string (⟨#[]⟩:ByteArray),.slice none 0 0,.slice none 0 0] 56 (0,0)) (bo zW) hb);replace HB:=BS HB hb;clear hb ho65
                 obtain ⟨Ao67,co67,eo67⟩:=Kd.yA HO153.out
                 (first|subst eo67|(injection eo67 with f1_ f2_ f3_;have f4_:=f1_.symm;have f5_:=f3_.symm;clear f1_ f2_ f3_;subst f4_;subst f5_))
                 refine hK.out _ _ (bc10 zW.out) (fun hHeld=>?_)
                 clear hK K
                 refine kX (a':=?_) ?_ ?_
                 rotate_left
                 ·show Act.put _ (some 137) _=_
                  simp only [Act.put,List.setIfInBounds_toArray,List.set_cons_zero,List.set_cons_succ,xJ,xU]
                  rfl
                 refine oN 5 138 HT_ (fun K hK=>?_)
                 refine Kd.vY (Kd.int .u32) (w0:=w) w.heap.size (by rfl) (.tmp 134) (.tmp 137) 50 60 (.int .u32 0) 4 rfl Tryz.underlying50 info60 rfl (by decide) (by omega) yJ xC y151 _ _ _ (fun k_=>some k_≠(.slice Ao67 y151.length co67:Value).ownBlock) (fun _=>False) rfl rfl ?aO ?aR (fun _ _ h=>h) (fun _ h=>h.elim) ?aF ?aB ?aS ?aL ?_
                 (case aR=>repeat (first|exact (Kd.yB HO153.out).2.2|(with_reducible refine Kd.qC ?_ _)|(with_reducible refine Kd.qE ?_ _)|(with_reducible refine Kd.ji ?_)))
                 (case aB=>exact (bl HB))
                 (case aF=>exact (fun k_ hk=>Kd.fresh' (Kd.Zv (ro HO153)) k_ hk))
                 (case aO=>exact (rm zG.out (fun _ hk=>hk.2)))
                 (case aS=>exact (zH (bl HB)))
                 (case aL=>have:=LMc60.out;omega)
                 intro v155 w66 ho hb hg hat
                 rw [← Ny154.out] at ho
                 have HO156:=Ak (ho);replace zN:=Ak (Kd.QC (ro zN) (Kd.Zw (ro zG)) (by decide) hg);replace zW:=Ak (qU (g:=yV) (o:=.cells #[.int .i64 (Int.tmod t119 4),.bool (decide (jS<3)),.int .i64 12,yJ,.slice Xq kM.length Xr,.slice none 0 0,.int .i64 xE,.string (⟨#[]⟩:ByteArray),.slice none 0 0,.slice none 0 0] 56 (0,0)) (bo zW) hg (Kd.R_ne zG.out zW.out (by decide)));replace HO153:=Ak (Kd.XT (ok:=(fun _=>True)) (ro HO153) hg hat);replace HB:=Ak (hb);clear zG ho hb hg hat
                 obtain ⟨Ao68,co68,eo68⟩:=Kd.yA HO156.out
                 (first|subst eo68|(injection eo68 with f1_ f2_ f3_;have f4_:=f1_.symm;have f5_:=f3_.symm;clear f1_ f2_ f3_;subst f4_;subst f5_))
                 refine hK.out _ _ (bc10 zW.out) (fun hHeld=>?_)
                 clear hK K
                 refine kX (a':=?_) ?_ ?_
                 rotate_left
                 ·show Act.put _ (some 138) _=_
                  simp only [Act.put,List.setIfInBounds_toArray,List.set_cons_zero,List.set_cons_succ,xJ,xU]
                  rfl
                 refine pu 6 139 HT_ ?_
                 refine last_ (i:=7) (N:=none) #[true,true,true,true,true,true,true,true] rfl rfl (XV HT_.out (by kernel_rfl)) (by decide) (fun K hK=>?_)
                 have hs69:w66.cell? ⟨yV,3,none⟩=some (yJ):=(zi zW.out 3).trans rfl
                 have hfs69:=zn zW.out 3
                 refine skip_ (w1:=?_) (by rfl) rfl ?_ ?_
                 rotate_left
                 ·go_simp
                  rfl
                 refine hK.out _ _ ?_
                 clear hK K
                 refine Ji (ZO HT_.out (by kernel_rfl)) ?_
                 try go_wp2
                 go_meet
                 case rel=>exact ⟨_,(y154),(.slice Ao68 y154.length co68),H',⟨by have:=HJ5.out;have:=HJ7.out;have:=HK3.out;have:=HK4.out;have:=HJ52.out;first|omega|exact Nat.le_refl _⟩,⟨rm (Kd.QB (p:=⟨yV,3,none⟩) (Kd.kY HO156.out zW.out (by decide)) (fun _ hk=>hk.2) (.slice Ao68 y154.length co68)) (fun _ hk=>trivial)⟩,⟨rm (Kd.QB (p:=⟨yV,3,none⟩) (Kd.kY zN.out zW.out (by decide)) (fun _ hk=>hk.2) (.slice Ao68 y154.length co68)) (fun _ hk=>trivial)⟩,⟨bq zW⟩,⟨bl HB⟩⟩
                ·rw [if_neg c60] at H
                 exact absurd H (by simp)
               ·replace c57:=Bool.eq_false_iff.mpr c57
                subst c57
                have H1:((qZ.f 23 0 (wrap64 (1+t147)) 0).bind fun t157=>(if xC.length<35184372088832 then (zl.j6 kj52 l0 t148 a2 a3 (Int.tmod t119 4) (decide (jS<3)) 12 (xC++[t157]) kM xE (⟨#[]⟩:ByteArray)) else (none)))=some (r1,r2):=by rw [if_neg (show ¬ (false=true) by decide)] at H;exact H
                clear H;have H:=H1;clear H1
                replace H:=Option.bind_eq_some_iff.mp H
                obtain ⟨t157,A700,H⟩:=H
                replace H:(if xC.length<35184372088832 then (zl.j6 kj52 l0 t148 a2 a3 (Int.tmod t119 4) (decide (jS<3)) 12 (xC++[t157]) kM xE (⟨#[]⟩:ByteArray)) else (none))=some (r1,r2):=H
                have A70:=Ak A700;clear A700
                by_cases c71:xC.length<35184372088832
                ·rw [if_pos c71] at H
                 have LMc71:=Ak c71;clear c71
                 obtain ⟨y158,hy158⟩:∃ y_:List Int,y_=(xC++[t157]):=⟨_,rfl⟩
                 replace H:(zl.j6 kj52 l0 t148 a2 a3 (Int.tmod t119 4) (decide (jS<3)) 12 y158 kM xE (⟨#[]⟩:ByteArray))=some (r1,r2):=by first|(rw [hy158];with_reducible exact H)|(have H2_:=(Option.bind_some _ _).symm.trans H;rw [hy158];with_reducible exact H2_)|(have H2_:=(Option.bind_some _ _).symm.trans H;with_reducible exact H2_)|with_reducible exact H|(rw [hy158];exact H)|exact H
                 have Ny158:=Ak hy158;clear hy158
                 have H':=Ak H
                 clear H
                 try go_wp2
                 replace zG:=Ak (Kd.ZP zG.out);replace zN:=Ak (Kd.ZP zN.out);replace zW:=Ak (xI zW.out);replace HB:=Ak (zO HB.out)
                 refine Yv (n:=9) (S:=fun w'=>w'.cell? ⟨yV,0,none⟩=some (.int .i64 (Int.tmod t119 4))∧w'.cell? ⟨yV,1,none⟩=some (.bool (decide (jS<3)))∧w'.cell? ⟨yV,2,none⟩=some (.int .i64 12)∧w'.cell? ⟨yV,3,none⟩=some (yJ)∧w'.cell? ⟨yV,4,none⟩=some (.slice Xq kM.length Xr)∧w'.cell? ⟨yV,5,none⟩=some (.slice none 0 0)∧w'.cell? ⟨yV,6,none⟩=some (.int .i64 xE)∧w'.cell? ⟨yV,7,none⟩=some (.string (⟨#[]⟩:ByteArray))∧w'.cell? ⟨yV,8,none⟩=some (.slice none 0 0)∧w'.cell? ⟨yV,9,none⟩=some (.slice none 0 0)) (ds:=[8]) #[false,false,false,false,false,false,false,false,false] (by kernel_rfl) rfl rfl (bc10 zW.out) (fun hHeld=>?_);refine kP zl.tab29 zl.bits29 (fun HT_ HW_=>?_)
                 generalize wc.drew=w72 at zG zN zW HB hHeld ⊢
                 refine pu 0 140 HT_ ?_
                 refine pu 2 142 HT_ ?_
                 refine pu 3 143 HT_ ?_
                 refine tk 1 141 HT_ HW_ hHeld ?_
                 refine oN 4 144 HT_ (fun K hK=>?_)
                 refine XO Tryz.func104 (by kernel_rfl) rfl #[.int .i64 23,.int .i64 0,.int .i64 (wrap64 (1+t147)),.int .i64 0] (by rfl) rfl rfl em ?_
                 with_reducible refine (qZ.calls 23 0 (wrap64 (1+t147)) 0 t157 _ A70.out).mono ?_
                 rintro e w73 ⟨rfl,hb⟩
                 refine ⟨_,rfl,?_⟩
                 replace zG:=RB zG hb;replace zN:=RB zN hb;replace zW:=Ak (yc (g:=yV) (o:=.cells #[.int .i64 (Int.tmod t119 4),.bool (decide (jS<3)),.int .i64 12,yJ,.slice Xq kM.length Xr,.slice none 0 0,.int .i64 xE,.string (⟨#[]⟩:ByteArray),.slice none 0 0,.slice none 0 0] 56 (0,0)) (bo zW) hb);replace HB:=BS HB hb
                 refine hK.out _ _ (bc10 zW.out) (fun hHeld=>?_)
                 clear hK K
                 refine kX (a':=?_) ?_ ?_
                 rotate_left
                 ·show Act.put _ (some 144) _=_
                  simp only [Act.put,List.setIfInBounds_toArray,List.set_cons_zero,List.set_cons_succ,xJ,xU]
                  rfl
                 refine oN 5 145 HT_ (fun K hK=>?_)
                 refine value_ (w1:=?_) (v:=?_) (by rfl) rfl ?_ ?_
                 rotate_left 2
                 ·go_simp
                  constructor
                  ·rfl
                  ·rfl
                 refine hK.out _ _ ⟨(zi (zT zW.out _) 0).trans rfl,(zi (zT zW.out _) 1).trans rfl,(zi (zT zW.out _) 2).trans rfl,(zi (zT zW.out _) 3).trans rfl,(zi (zT zW.out _) 4).trans rfl,(zi (zT zW.out _) 5).trans rfl,(zi (zT zW.out _) 6).trans rfl,(zi (zT zW.out _) 7).trans rfl,(zi (zT zW.out _) 8).trans rfl,(zi (zT zW.out _) 9).trans rfl⟩ (fun hHeld=>?_)
                 clear hK K
                 refine kX (a':=?_) ?_ ?_
                 rotate_left
                 ·show Act.put _ (some 145) _=_
                  simp only [Act.put,List.setIfInBounds_toArray,List.set_cons_zero,List.set_cons_succ,xJ,xU]
                  rfl
                 refine oN 6 146 HT_ (fun K hK=>?_)
                 refine Kd.ZF (Kd.int .u32) (w0:=w) w.heap.size (by rfl) (.tmp 141) (.tmp 145) 50 60 (.int .u32 0) 4 rfl Tryz.underlying50 info60 rfl (by decide) (by omega) yJ xC t157 [.int .u32 t157] (fun _=>True) (fun _=>False) rfl rfl ?aP (fun _ hk=>hk.elim) ?aF ?aO ?aB ?aS ?aL ?_
                 (case aP=>exact rfl)
                 (case aB=>exact (bl HB))
                 (case aF=>exact (fun _ _=>trivial))
                 (case aO=>exact (ro zG))
                 (case aS=>exact (zH (bl HB)))
                 (case aL=>have:=LMc71.out;omega)
                 intro v159 w74 ho hb hg hat
                 rw [← Ny158.out] at ho
                 have HO160:=Ak (ho);replace zN:=Ak (Kd.QC (ro zN) (Kd.Zw (ro zG)) (by decide) hg);replace zW:=Ak (qU (g:=yV) (o:=.cells #[.int .i64 (Int.tmod t119 4),.bool (decide (jS<3)),.int .i64 12,yJ,.slice Xq kM.length Xr,.slice none 0 0,.int .i64 xE,.string (⟨#[]⟩:ByteArray),.slice none 0 0,.slice none 0 0] 56 (0,0)) (bo zW) hg (Kd.R_ne zG.out zW.out (by decide)));replace HB:=Ak (hb);clear zG ho hb hg hat
                 obtain ⟨Ao75,co75,eo75⟩:=Kd.yA HO160.out
                 (first|subst eo75|(injection eo75 with f1_ f2_ f3_;have f4_:=f1_.symm;have f5_:=f3_.symm;clear f1_ f2_ f3_;subst f4_;subst f5_))
                 refine hK.out _ _ (bc10 zW.out) (fun hHeld=>?_)
                 clear hK K
                 refine kX (a':=?_) ?_ ?_
                 rotate_left
                 ·show Act.put _ (some 146) _=_
                  simp only [Act.put,List.setIfInBounds_toArray,List.set_cons_zero,List.set_cons_succ,xJ,xU]
                  rfl
                 refine pu 7 147 HT_ ?_
                 refine last_ (i:=8) (N:=none) #[true,true,true,true,true,true,true,true,true] rfl rfl (XV HT_.out (by kernel_rfl)) (by decide) (fun K hK=>?_)
                 have hs76:w74.cell? ⟨yV,3,none⟩=some (yJ):=(zi zW.out 3).trans rfl
                 have hfs76:=zn zW.out 3
                 refine skip_ (w1:=?_) (by rfl) rfl ?_ ?_
                 rotate_left
                 ·go_simp
                  rfl
                 refine hK.out _ _ ?_
                 clear hK K
                 refine Ji (ZO HT_.out (by kernel_rfl)) ?_
                 try go_wp2
                 go_meet
                 case rel=>exact ⟨_,(y158),(.slice Ao75 y158.length co75),H',⟨by have:=HJ5.out;have:=HJ7.out;have:=HK3.out;have:=HK4.out;have:=HJ52.out;first|omega|exact Nat.le_refl _⟩,⟨rm (Kd.QB (p:=⟨yV,3,none⟩) (Kd.kY HO160.out zW.out (by decide)) (fun _ hk=>hk.2) (.slice Ao75 y158.length co75)) (fun _ hk=>trivial)⟩,⟨rm (Kd.QB (p:=⟨yV,3,none⟩) (Kd.kY zN.out zW.out (by decide)) (fun _ hk=>hk.2) (.slice Ao75 y158.length co75)) (fun _ hk=>trivial)⟩,⟨bq zW⟩,⟨bl HB⟩⟩
                ·rw [if_neg c71] at H
                 exact absurd H (by simp)
              case rest =>
               clear HC56
               obtain ⟨kq,jH,yJ,HA,HJ55,zG,zN,zW,HB⟩:=hcut
               cases kq with
               | zero=>exact absurd HA.out (by simp [zl.j6])
               | succ kj55 =>
                have H:=HA.out
                clear HA
                simp only [zl.j6] at H
                have H':=Ak H
                clear H
                go_wp2
                go_loopg [1,19] kj55 (fun kq v1 v19 w'=>∃ (x1_7:Int) (x19_7:Int) (jY:List (S71)) (QE:Value),v1=.int .i64 x1_7∧v19=.int .i64 x19_7∧zh (zl.l3 kq l0 x1_7 a2 a3 x19_7 (Int.tmod t119 4) (decide (jS<3)) 12 jH kM jY xE (⟨#[]⟩:ByteArray)=some (r1,r2))∧zh (kq≤kj55)∧zh (Kd.R (Kd.int .u32) 60 w' w.heap.size (fun _=>True) yJ jH)∧zh (Kd.R k67 67 w' w.heap.size (fun _=>True) (.slice Xq kM.length Xr) kM)∧zh (Kd.R k71 71 w' w.heap.size (fun _=>True) QE jY)∧zh (w'.heap[yV]?=some (.cells #[.int .i64 (Int.tmod t119 4),.bool (decide (jS<3)),.int .i64 12,yJ,(.slice Xq kM.length Xr),QE,.int .i64 xE,.string (⟨#[]⟩:ByteArray),(.slice none 0 0),(.slice none 0 0)] 56 (0,0)))∧zh (Below w.heap.size w w'))
                case atStart=>exact ⟨(t148),(0),(([]:List (S71))),(.slice none 0 0),es,es,H',⟨Nat.le_refl _⟩,⟨ro zG⟩,⟨ro zN⟩,⟨by first|exact Kd.Qg _ _ _ _ _|exact Kd.N_nil _ _ _ _ _|exact Kd.Jz _ _ _ _ _|exact Kd.Q_nil _ _ _ _ _|exact Kd.S_nil _ _ _ _ _⟩,⟨bo zW⟩,⟨bl HB⟩⟩
                case round =>
                 clear H'
                 obtain ⟨x1_7,x19_7,jY,QE,rfl,rfl,HA,HK7,zG,zN,jZ,zW,HB⟩:=hrel
                 cases gk with
                 | zero=>exact absurd HA.out (by simp [zl.l3])
                 | succ k7 =>
                  have H:=HA.out
                  clear HA
                  simp only [zl.l3] at H
                  by_cases c77:x19_7<a3
                  ·rw [if_pos c77] at H
                   have c77b0:=dt c77
                   clear c77
                   replace H:=Option.bind_eq_some_iff.mp H
                   obtain ⟨⟨t161,t162⟩,A780,H⟩:=H
                   replace H:(if jY.length<8796093022208 then (zl.l3 k7 l0 t162 a2 a3 (wrap64 (x19_7+1)) (Int.tmod t119 4) (decide (jS<3)) 12 jH kM (jY++[(⟨true,t161⟩:S71)]) xE (⟨#[]⟩:ByteArray)) else (none))=some (r1,r2):=H
                   have A78:=Ak A780;clear A780
                   by_cases c79:jY.length<8796093022208
                   ·rw [if_pos c79] at H
                    have LMc79:=Ak c79;clear c79
                    obtain ⟨y163,hy163⟩:∃ y_:List (S71),y_=(jY++[(⟨true,t161⟩:S71)]):=⟨_,rfl⟩
                    replace H:(zl.l3 k7 l0 t162 a2 a3 (wrap64 (x19_7+1)) (Int.tmod t119 4) (decide (jS<3)) 12 jH kM y163 xE (⟨#[]⟩:ByteArray))=some (r1,r2):=by first|(rw [hy163];with_reducible exact H)|(have H2_:=(Option.bind_some _ _).symm.trans H;rw [hy163];with_reducible exact H2_)|(have H2_:=(Option.bind_some _ _).symm.trans H;with_reducible exact H2_)|with_reducible exact H|(rw [hy163];exact H)|exact H
                    have Ny163:=Ak hy163;clear hy163
                    have H':=Ak H
                    clear H
                    go_wp2_with (first|((with_reducible refine yP (f:=14) rfl ?_);refine jU (some 156) rfl rfl Tryz.func14 (by kernel_rfl) rfl #[.slice A0 l0.length c0,.int .i64 x1_7,.int .i64 4] rfl em ?_;(with_reducible refine (zx.calls k7 _ _ l0 x1_7 4 t161 t162 _ ?yQ ?xG A78.out).mono ?_);(case yQ=>exact co HR0 HB);(case xG=>exact HC0.out);rintro e w' ⟨rfl,⟨nd,rfl⟩⟩;refine ⟨_,rfl,?_⟩;(try (rw [ZH wr];generalize hq_:World.drewN wr _=wr;have n0_:zh (Kd.R (Kd.int .u32) 60 wr w.heap.size (fun _=>True) yJ jH):=⟨by rw [← hq_];exact (ro zG)⟩;have n1_:zh (Kd.R k67 67 wr w.heap.size (fun _=>True) (.slice Xq kM.length Xr) kM):=⟨by rw [← hq_];exact (ro zN)⟩;have n2_:zh (Kd.R k71 71 wr w.heap.size (fun _=>True) QE jY):=⟨by rw [← hq_];exact (ro jZ)⟩;have n3_:zh (wr.heap[yV]?=some (.cells #[.int .i64 (Int.tmod t119 4),.bool (decide (jS<3)),.int .i64 12,yJ,.slice Xq kM.length Xr,QE,.int .i64 xE,.string (⟨#[]⟩:ByteArray),.slice none 0 0,.slice none 0 0] 56 (0,0))):=⟨by rw [← hq_];exact (bo zW)⟩;have n4_:zh (Below w.heap.size w wr):=⟨by rw [← hq_];exact (bl HB)⟩;clear zG zN jZ zW HB hq_;have zG:=n0_;have zN:=n1_;have jZ:=n2_;have zW:=n3_;have HB:=n4_;clear n0_ n1_ n2_ n3_ n4_));obtain ⟨hcz80_0,hcz80_1,hcz80_2,hcz80_3,hcz80_4,hcz80_5,hcz80_6,hcz80_7,hcz80_8,hcz80_9,hfz80_0,hfz80_1,hfz80_2,hfz80_3,hfz80_4,hfz80_5,hfz80_6,hfz80_7,hfz80_8,hfz80_9⟩:=jV zW.out)|((with_reducible refine yt (b:=.append) (xs:=#[.tmp 160,.tmp 163]) rfl ?_);at_builtin;refine Kd.jA k71 (w0:=w) w.heap.size rfl (.tmp 160) (.tmp 163) 52 71 (.agg #[(.bool false),(.int .i64 0)]) 16 rfl Tryz.underlying52 info71 rfl (by decide) (by omega) QE jY (⟨true,t161⟩:S71) [.bool true,.int .i64 t161] (fun _=>True) (fun _=>False) rfl rfl ?aP (fun _ hk=>hk.elim) ?aF ?aO ?aB ?aS ?aL ?_;(case aP=>exact Jd _ _ _ (⟨true,t161⟩:S71));(case aB=>exact (bl HB));(case aF=>exact (fun _ _=>trivial));(case aO=>exact (ro jZ));(case aS=>exact (zH (bl HB)));(case aL=>have:=LMc79.out;omega);intro v164 w81 ho hb hg hat;rw [← Ny163.out] at ho;have HO165:=Ak (ho);replace zG:=Ak (Kd.QC (ro zG) (Kd.Zw (ro jZ)) (by decide) hg);replace zN:=Ak (Kd.QC (ro zN) (Kd.Zw (ro jZ)) (by decide) hg);replace zW:=Ak (qU (g:=yV) (o:=.cells #[.int .i64 (Int.tmod t119 4),.bool (decide (jS<3)),.int .i64 12,yJ,.slice Xq kM.length Xr,QE,.int .i64 xE,.string (⟨#[]⟩:ByteArray),.slice none 0 0,.slice none 0 0] 56 (0,0)) (bo zW) hg (Kd.R_ne jZ.out zW.out (by decide)));replace HB:=Ak (hb);clear jZ ho hb hg hat;obtain ⟨Ao82,co82,eo82⟩:=Kd.yA HO165.out;subst eo82;obtain ⟨hcz83_0,hcz83_1,hcz83_2,hcz83_3,hcz83_4,hcz83_5,hcz83_6,hcz83_7,hcz83_8,hcz83_9,hfz83_0,hfz83_1,hfz83_2,hfz83_3,hfz83_4,hfz83_5,hfz83_6,hfz83_7,hfz83_8,hfz83_9⟩:=jV zW.out))
                    go_roundg k7
                    case measure=>have:=HJ5.out;have:=HJ7.out;have:=HK3.out;have:=HK4.out;have:=HJ52.out;have:=HJ55.out;have:=HK7.out;omega
                    case rel=>exact ⟨(t162),(wrap64 (x19_7+1)),(y163),(.slice Ao82 y163.length co82),es,es,H',⟨by have:=HJ5.out;have:=HJ7.out;have:=HK3.out;have:=HK4.out;have:=HJ52.out;have:=HJ55.out;have:=HK7.out;omega⟩,⟨rm (Kd.QB (p:=⟨yV,5,none⟩) (Kd.kY zG.out zW.out (by decide)) (fun _ hk=>hk.2) (.slice Ao82 y163.length co82)) (fun _ hk=>trivial)⟩,⟨rm (Kd.QB (p:=⟨yV,5,none⟩) (Kd.kY zN.out zW.out (by decide)) (fun _ hk=>hk.2) (.slice Ao82 y163.length co82)) (fun _ hk=>trivial)⟩,⟨rm (Kd.QB (p:=⟨yV,5,none⟩) (Kd.kY HO165.out zW.out (by decide)) (fun _ hk=>hk.2) (.slice Ao82 y163.length co82)) (fun _ hk=>trivial)⟩,⟨bq zW⟩,⟨bl HB⟩⟩
                   ·rw [if_neg c79] at H
                    exact absurd H (by simp)
                  ·rw [if_neg c77] at H
                   have c77b0:=df c77
                   clear c77
                   replace H:=Option.bind_eq_some_iff.mp H
                   obtain ⟨⟨t166,t169⟩,A840,H⟩:=H
                   replace H:(some (t166,t169))=some (r1,r2):=H
                   have A84:=Ak A840;clear A840
                   simp only [Option.some.injEq,Prod.mk.injEq] at H
                   obtain ⟨rfl,rfl⟩:=H
                   obtain ⟨hcz85_0,hcz85_1,hcz85_2,hcz85_3,hcz85_4,hcz85_5,hcz85_6,hcz85_7,hcz85_8,hcz85_9,hfz85_0,hfz85_1,hfz85_2,hfz85_3,hfz85_4,hfz85_5,hfz85_6,hfz85_7,hfz85_8,hfz85_9⟩:=jV zW.out
                   obtain ⟨Ao86,co86,eo86⟩:=Kd.yA zG.out
                   subst eo86
                   obtain ⟨Ao87,co87,eo87⟩:=Kd.yA jZ.out
                   subst eo87
                   go_wp2_with (first|((with_reducible refine yP (f:=106) rfl ?_);refine jU (some 170) rfl rfl Tryz.func106 (by kernel_rfl) rfl #[.slice A0 l0.length c0,.int .i64 x1_7,.int .i64 a2,.agg #[.int .i64 (Int.tmod t119 4),.bool (decide (jS<3)),.int .i64 12,.slice Ao86 jH.length co86,.slice Xq kM.length Xr,.slice Ao87 jY.length co87,.int .i64 xE,.string (⟨#[]⟩:ByteArray),.slice none 0 0,.slice none 0 0]] rfl em ?_;(refine ((default:QM).calls k7 _ _ l0 x1_7 a2 (Int.tmod t119 4) (decide (jS<3)) 12 _ _ jH _ _ kM _ _ jY xE t166 t169 w.heap.size _ ?yQ HC0.out (zH (bl HB)) (ro zG) (ro zN) (ro jZ) A84.out).mono ?_);(case yQ=>exact co HR0 HB);rintro e w88 ⟨v167,rfl,ho0,hb⟩;refine ⟨_,rfl,?_⟩;have HO168:=Ak ho0;replace zG:=RB zG hb;replace zN:=RB zN hb;replace jZ:=RB jZ hb;replace zW:=Ak (yc (g:=yV) (o:=.cells #[.int .i64 (Int.tmod t119 4),.bool (decide (jS<3)),.int .i64 12,.slice Ao86 jH.length co86,.slice Xq kM.length Xr,.slice Ao87 jY.length co87,.int .i64 xE,.string (⟨#[]⟩:ByteArray),.slice none 0 0,.slice none 0 0] 56 (0,0)) (bo zW) hb);replace HB:=BS HB hb))
                   go_ret2
                   exact ⟨_,ef,by (with_reducible repeat (first|apply Kd.S_alloc|apply Kd.S_drewN|apply Kd.S_drew));exact Kd.Z4 HO168.out (fun _ hk=>trivial),bl HB⟩
        ·rw [if_neg c29] at H
         exact absurd H (by simp)
end
end Go.Proofs.YtiekodnojmkfaaaGreatDoor.yD
