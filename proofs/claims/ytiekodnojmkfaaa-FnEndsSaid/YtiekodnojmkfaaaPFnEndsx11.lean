-- Printed by the kit's print or by this session's program, then cut and tightened by it.
import Derived.Test.YtiekodnojmkfaaaPFnEndsx0
import Derived.Test.YtiekodnojmkfaaaPFnEndsx7
import Derived.Test.YtiekodnojmkfaaaPFnEndsx8
import Derived.Test.YtiekodnojmkfaaaPFnEndsx9
import Derived.Test.YtiekodnojmkfaaaPFnEndsx10
namespace Go.Proofs.Ytiekodnojmkfaaa.PFnEnds
open Go.RowKit Go.Proofs.YtiekodnojmkfaaaW.PrintWords Go.Proofs.YtiekodnojmkfaaaW.PrintLast Go.Proofs.YtiekodnojmkfaaaW.PrintMore
attribute [local go_sem] max2_int min2_int max_two min_two max_three min_three max_four min_four   -- for this text's walks alone
set_option linter.unusedVariables false
set_option linter.unusedSectionVars false
set_option linter.unusedSimpArgs false
section
variable [K:Inhabited KidsS]
mutual
def spec_l4Tree.j0:Nat→List Int→Int→Int→Int→Int→Option ((List (S44))×Int)
 | 0,_,_,_,_,_=>none
 | k+1,x0,x1,x2,x3,x10=>if x2 > 1 then (spec_l4Tree.j1 k x0 x1 x2 x3 0) else (spec_l4Tree.j1 k x0 x1 x2 x3 x10)
def spec_l4Tree.j1:Nat→List Int→Int→Int→Int→Int→Option ((List (S44))×Int)
 | 0,_,_,_,_,_=>none
 | k+1,x0,x1,x2,x3,x10=>(spec_l1Count.f x0 10 2 7).bind fun t138=>((spec_l1Take.f k x0 x1 12).bind fun bt139=>((spec_l1Take.f k x0 bt139.2 6).bind fun bt141=>(spec_l4Tree.l0 k x0 bt141.2 x2 x3 x10 t138 bt139.1 (Int.tmod bt139.1 4) (Int.tmod bt139.1 4) (decide (bt141.1<3)) 12 ([]:List Int) (([(⟨2,bt139.1,(⟨#[]⟩:ByteArray)⟩:S85),(⟨2,wrap64 (bt141.1-2),(⟨#[]⟩:ByteArray)⟩:S85),(⟨2,wrap64 (bt141.1+1),(⟨#[]⟩:ByteArray)⟩:S85),(⟨2,1,(⟨#[]⟩:ByteArray)⟩:S85),(⟨3,0,(⟨#[115]⟩:ByteArray)⟩:S85),(⟨1,1,(⟨#[]⟩:ByteArray)⟩:S85)]:List (S85))) x10 (⟨#[]⟩:ByteArray))))
def spec_l4Tree.l0:Nat→List Int→Int→Int→Int→Int→Int→Int→Int→Int→Bool→Int→List Int→List (S85)→Int→ByteArray→Option ((List (S44))×Int)
 | 0,_,_,_,_,_,_,_,_,_,_,_,_,_,_,_=>none
 | k+1,x0,x1,x2,x3,x10,x11,x12,x15,x144000,x144001,x144002,x144003,x144004,x144006,x144007=>if x15<4 then ((spec_l4W.f 1 x15 (Int.tmod (wrap64 (x12+x15)) 4)).bind fun t147=>(if x144003.length<35184372088832 then (spec_l4Tree.l0 k x0 x1 x2 x3 x10 x11 x12 (wrap64 (x15+1)) x144000 x144001 x144002 (x144003++[t147]) x144004 x144006 x144007) else (none))) else ((spec_l4I.f 6 4 0 0).bind fun t151=>((spec_l4W.f 1 5 4).bind fun t152=>((some (([t151,t152]:List Int):List Int)).bind fun y153=>(if x144003.length+y153.length<35184372088832 then (spec_l4Tree.l1 k x0 x1 x2 x3 x10 x11 0 x144000 x144001 x144002 (x144003++y153) x144004 x144006 x144007) else (none)))))
def spec_l4Tree.l1:Nat→List Int→Int→Int→Int→Int→Int→Int→Int→Bool→Int→List Int→List (S85)→Int→ByteArray→Option ((List (S44))×Int)
 | 0,_,_,_,_,_,_,_,_,_,_,_,_,_,_=>none
 | k+1,x0,x1,x2,x3,x10,x11,x16,x144000,x144001,x144002,x144003,x144004,x144006,x144007=>if x16<x11 then ((spec_l4Block.f k x0 x1 x10 x3 x144001 (decide (x2 > 0))).bind fun bt159=>(spec_l4Tree.l2 k x0 bt159.2 x2 x3 x10 x11 x16 bt159.1 0 x144000 x144001 x144002 x144003 x144004 x144006 x144007)) else ((spec_l1Take.f k x0 x1 6).bind fun bt167=>(if bt167.1=0 then (spec_l4Tree.j5 k x0 bt167.2 x2 x3 bt167.1 x144001 x144000 x144001 x144002 x144003 x144004 x144006 x144007) else (spec_l4Tree.j5 k x0 bt167.2 x2 x3 bt167.1 false x144000 x144001 x144002 x144003 x144004 x144006 x144007)))
def spec_l4Tree.l2:Nat→List Int→Int→Int→Int→Int→Int→Int→List Int→Int→Int→Bool→Int→List Int→List (S85)→Int→ByteArray→Option ((List (S44))×Int)
 | 0,_,_,_,_,_,_,_,_,_,_,_,_,_,_,_,_=>none
 | k+1,x0,x1,x2,x3,x10,x11,x16,x17,x18,x144000,x144001,x144002,x144003,x144004,x144006,x144007=>if x18<(x17.length:Int) then (if 0≤x18 then (if x144003.length<35184372088832 then (spec_l4Tree.l2 k x0 x1 x2 x3 x10 x11 x16 x17 (wrap64 (x18+1)) x144000 x144001 x144002 (x144003++[rd x17 x18]) x144004 x144006 x144007) else (none)) else (none)) else (spec_l4Tree.l1 k x0 x1 x2 x3 x10 x11 (wrap64 (x16+1)) x144000 x144001 x144002 x144003 x144004 x144006 x144007)
def spec_l4Tree.j5:Nat→List Int→Int→Int→Int→Int→Bool→Int→Bool→Int→List Int→List (S85)→Int→ByteArray→Option ((List (S44))×Int)
 | 0,_,_,_,_,_,_,_,_,_,_,_,_,_=>none
 | k+1,x0,x1,x2,x3,x12,x132,x144000,x144001,x144002,x144003,x144004,x144006,x144007=>if x132=true then ((spec_l4I.f 24 2 511 0).bind fun t169=>((spec_l4I.f 23 0 511 0).bind fun t170=>((some (([t169,t170]:List Int):List Int)).bind fun y171=>(if x144003.length+y171.length<35184372088832 then (spec_l4Tree.j6 k x0 x1 x2 x3 x144000 x144001 x144002 (x144003++y171) x144004 x144006 x144007) else (none))))) else ((spec_l4I.f 23 0 (wrap64 (1+x12)) 0).bind fun t177=>(if x144003.length<35184372088832 then (spec_l4Tree.j6 k x0 x1 x2 x3 x144000 x144001 x144002 (x144003++[t177]) x144004 x144006 x144007) else (none)))
def spec_l4Tree.j6:Nat→List Int→Int→Int→Int→Int→Bool→Int→List Int→List (S85)→Int→ByteArray→Option ((List (S44))×Int)
 | 0,_,_,_,_,_,_,_,_,_,_,_=>none
 | k+1,x0,x1,x2,x3,x144000,x144001,x144002,x144003,x144004,x144006,x144007=>spec_l4Tree.l3 k x0 x1 x2 x3 0 x144000 x144001 x144002 x144003 x144004 ([]:List (S89)) x144006 x144007
def spec_l4Tree.l3:Nat→List Int→Int→Int→Int→Int→Int→Bool→Int→List Int→List (S85)→List (S89)→Int→ByteArray→Option ((List (S44))×Int)
 | 0,_,_,_,_,_,_,_,_,_,_,_,_,_=>none
 | k+1,x0,x1,x2,x3,x19,x144000,x144001,x144002,x144003,x144004,x144005,x144006,x144007=>if x19<x3 then ((spec_l1Take.f k x0 x1 4).bind fun bt181=>(if x144005.length<8796093022208 then (spec_l4Tree.l3 k x0 bt181.2 x2 x3 (wrap64 (x19+1)) x144000 x144001 x144002 x144003 x144004 (x144005++[(⟨true,bt181.1⟩:S89)]) x144006 x144007) else (none))) else ((spec_l4Kids.f k x0 x1 x2 x144000 x144001 x144002 x144003 x144004 x144005 x144006 x144007 ([]:List Int) ([]:List ByteArray)).bind fun bt186=>(some (bt186.1,bt186.2)))
end
def spec_l4Tree.f (k:Nat) (l0:List Int) (a1:Int) (a2:Int) (a3:Int):Option ((List (S44))×Int):=(spec_l1Take.f k l0 a1 3).bind fun bt136=>(if a2=0 then (spec_l4Tree.j0 k l0 bt136.2 a2 a3 (wrap64 (bt136.1+1))) else (spec_l4Tree.j0 k l0 bt136.2 a2 a3 bt136.1))
theorem spec_l4Tree.mono_l:∀ k,(∀ y0 y1 y2 y3 y4,LeO (spec_l4Tree.j0 k y0 y1 y2 y3 y4) (spec_l4Tree.j0 (k+1) y0 y1 y2 y3 y4))∧(∀ y0 y1 y2 y3 y4,LeO (spec_l4Tree.j1 k y0 y1 y2 y3 y4) (spec_l4Tree.j1 (k+1) y0 y1 y2 y3 y4))∧(∀ y0 y1 y2 y3 y4 y5 y6 y7 y8 y9 y10 y11 y12 y13 y14,LeO (spec_l4Tree.l0 k y0 y1 y2 y3 y4 y5 y6 y7 y8 y9 y10 y11 y12 y13 y14) (spec_l4Tree.l0 (k+1) y0 y1 y2 y3 y4 y5 y6 y7 y8 y9 y10 y11 y12 y13 y14))∧(∀ y0 y1 y2 y3 y4 y5 y6 y7 y8 y9 y10 y11 y12 y13,LeO (spec_l4Tree.l1 k y0 y1 y2 y3 y4 y5 y6 y7 y8 y9 y10 y11 y12 y13) (spec_l4Tree.l1 (k+1) y0 y1 y2 y3 y4 y5 y6 y7 y8 y9 y10 y11 y12 y13))∧(∀ y0 y1 y2 y3 y4 y5 y6 y7 y8 y9 y10 y11 y12 y13 y14 y15,LeO (spec_l4Tree.l2 k y0 y1 y2 y3 y4 y5 y6 y7 y8 y9 y10 y11 y12 y13 y14 y15) (spec_l4Tree.l2 (k+1) y0 y1 y2 y3 y4 y5 y6 y7 y8 y9 y10 y11 y12 y13 y14 y15))∧(∀ y0 y1 y2 y3 y4 y5 y6 y7 y8 y9 y10 y11 y12,LeO (spec_l4Tree.j5 k y0 y1 y2 y3 y4 y5 y6 y7 y8 y9 y10 y11 y12) (spec_l4Tree.j5 (k+1) y0 y1 y2 y3 y4 y5 y6 y7 y8 y9 y10 y11 y12))∧(∀ y0 y1 y2 y3 y4 y5 y6 y7 y8 y9 y10,LeO (spec_l4Tree.j6 k y0 y1 y2 y3 y4 y5 y6 y7 y8 y9 y10) (spec_l4Tree.j6 (k+1) y0 y1 y2 y3 y4 y5 y6 y7 y8 y9 y10))∧(∀ y0 y1 y2 y3 y4 y5 y6 y7 y8 y9 y10 y11 y12,LeO (spec_l4Tree.l3 k y0 y1 y2 y3 y4 y5 y6 y7 y8 y9 y10 y11 y12) (spec_l4Tree.l3 (k+1) y0 y1 y2 y3 y4 y5 y6 y7 y8 y9 y10 y11 y12))
 | 0=>⟨fun _ _ _ _ _ r h=>by simp [spec_l4Tree.j0] at h,fun _ _ _ _ _ r h=>by simp [spec_l4Tree.j1] at h,fun _ _ _ _ _ _ _ _ _ _ _ _ _ _ _ r h=>by simp [spec_l4Tree.l0] at h,fun _ _ _ _ _ _ _ _ _ _ _ _ _ _ r h=>by simp [spec_l4Tree.l1] at h,fun _ _ _ _ _ _ _ _ _ _ _ _ _ _ _ _ r h=>by simp [spec_l4Tree.l2] at h,fun _ _ _ _ _ _ _ _ _ _ _ _ _ r h=>by simp [spec_l4Tree.j5] at h,fun _ _ _ _ _ _ _ _ _ _ _ r h=>by simp [spec_l4Tree.j6] at h,fun _ _ _ _ _ _ _ _ _ _ _ _ _ r h=>by simp [spec_l4Tree.l3] at h⟩
 | k+1=>by
  obtain ⟨ih0,ih1,ih2,ih3,ih4,ih5,ih6,ih7⟩:=spec_l4Tree.mono_l k
  refine ⟨?_,?_,?_,?_,?_,?_,?_,?_⟩
  ·intro y0 y1 y2 y3 y4
   unfold spec_l4Tree.j0
   repeat' first
   | (with_reducible exact ih0 _ _ _ _ _)
   | (with_reducible exact ih1 _ _ _ _ _)
   | (with_reducible exact ih2 _ _ _ _ _ _ _ _ _ _ _ _ _ _ _)
   | (with_reducible exact ih3 _ _ _ _ _ _ _ _ _ _ _ _ _ _)
   | (with_reducible exact ih4 _ _ _ _ _ _ _ _ _ _ _ _ _ _ _ _)
   | (with_reducible exact ih5 _ _ _ _ _ _ _ _ _ _ _ _ _)
   | (with_reducible exact ih6 _ _ _ _ _ _ _ _ _ _ _)
   | (with_reducible exact ih7 _ _ _ _ _ _ _ _ _ _ _ _ _)
   | (with_reducible exact spec_l1Take.mono _ _ _ _)
   | (with_reducible exact spec_l4Block.mono _ _ _ _ _ _ _)
   | (with_reducible exact spec_l4Kids.mono _ _ _ _ _ _ _ _ _ _ _ _ _ _)
   | (with_reducible exact LeO.refl _)
   | (with_reducible exact LeO.none _)
   | (with_reducible refine LeO.ite ?_ ?_)
   | (with_reducible refine LeO.bind ?_ (fun _=>?_))
   | exact ih0 _ _ _ _ _
   | exact ih1 _ _ _ _ _
   | exact ih2 _ _ _ _ _ _ _ _ _ _ _ _ _ _ _
   | exact ih3 _ _ _ _ _ _ _ _ _ _ _ _ _ _
   | exact ih4 _ _ _ _ _ _ _ _ _ _ _ _ _ _ _ _
   | exact ih5 _ _ _ _ _ _ _ _ _ _ _ _ _
   | exact ih6 _ _ _ _ _ _ _ _ _ _ _
   | exact ih7 _ _ _ _ _ _ _ _ _ _ _ _ _
   | exact spec_l1Take.mono _ _ _ _
   | exact spec_l4Block.mono _ _ _ _ _ _ _
   | exact spec_l4Kids.mono _ _ _ _ _ _ _ _ _ _ _ _ _ _
   | exact LeO.none _
   | refine LeO.ite ?_ ?_
   | refine LeO.bind ?_ (fun _=>?_)
  ·intro y0 y1 y2 y3 y4
   unfold spec_l4Tree.j1
   repeat' first
   | (with_reducible exact ih0 _ _ _ _ _)
   | (with_reducible exact ih1 _ _ _ _ _)
   | (with_reducible exact ih2 _ _ _ _ _ _ _ _ _ _ _ _ _ _ _)
   | (with_reducible exact ih3 _ _ _ _ _ _ _ _ _ _ _ _ _ _)
   | (with_reducible exact ih4 _ _ _ _ _ _ _ _ _ _ _ _ _ _ _ _)
   | (with_reducible exact ih5 _ _ _ _ _ _ _ _ _ _ _ _ _)
   | (with_reducible exact ih6 _ _ _ _ _ _ _ _ _ _ _)
   | (with_reducible exact ih7 _ _ _ _ _ _ _ _ _ _ _ _ _)
   | (with_reducible exact spec_l1Take.mono _ _ _ _)
   | (with_reducible exact spec_l4Block.mono _ _ _ _ _ _ _)
   | (with_reducible exact spec_l4Kids.mono _ _ _ _ _ _ _ _ _ _ _ _ _ _)
   | (with_reducible exact LeO.refl _)
   | (with_reducible exact LeO.none _)
   | (with_reducible refine LeO.ite ?_ ?_)
   | (with_reducible refine LeO.bind ?_ (fun _=>?_))
   | exact ih0 _ _ _ _ _
   | exact ih1 _ _ _ _ _
   | exact ih2 _ _ _ _ _ _ _ _ _ _ _ _ _ _ _
   | exact ih3 _ _ _ _ _ _ _ _ _ _ _ _ _ _
   | exact ih4 _ _ _ _ _ _ _ _ _ _ _ _ _ _ _ _
   | exact ih5 _ _ _ _ _ _ _ _ _ _ _ _ _
   | exact ih6 _ _ _ _ _ _ _ _ _ _ _
   | exact ih7 _ _ _ _ _ _ _ _ _ _ _ _ _
   | exact spec_l1Take.mono _ _ _ _
   | exact spec_l4Block.mono _ _ _ _ _ _ _
   | exact spec_l4Kids.mono _ _ _ _ _ _ _ _ _ _ _ _ _ _
   | exact LeO.none _
   | refine LeO.ite ?_ ?_
   | refine LeO.bind ?_ (fun _=>?_)
  ·intro y0 y1 y2 y3 y4 y5 y6 y7 y8 y9 y10 y11 y12 y13 y14
   unfold spec_l4Tree.l0
   repeat' first
   | (with_reducible exact ih0 _ _ _ _ _)
   | (with_reducible exact ih1 _ _ _ _ _)
   | (with_reducible exact ih2 _ _ _ _ _ _ _ _ _ _ _ _ _ _ _)
   | (with_reducible exact ih3 _ _ _ _ _ _ _ _ _ _ _ _ _ _)
   | (with_reducible exact ih4 _ _ _ _ _ _ _ _ _ _ _ _ _ _ _ _)
   | (with_reducible exact ih5 _ _ _ _ _ _ _ _ _ _ _ _ _)
   | (with_reducible exact ih6 _ _ _ _ _ _ _ _ _ _ _)
   | (with_reducible exact ih7 _ _ _ _ _ _ _ _ _ _ _ _ _)
   | (with_reducible exact spec_l1Take.mono _ _ _ _)
   | (with_reducible exact spec_l4Block.mono _ _ _ _ _ _ _)
   | (with_reducible exact spec_l4Kids.mono _ _ _ _ _ _ _ _ _ _ _ _ _ _)
   | (with_reducible exact LeO.refl _)
   | (with_reducible exact LeO.none _)
   | (with_reducible refine LeO.ite ?_ ?_)
   | (with_reducible refine LeO.bind ?_ (fun _=>?_))
   | exact ih0 _ _ _ _ _
   | exact ih1 _ _ _ _ _
   | exact ih2 _ _ _ _ _ _ _ _ _ _ _ _ _ _ _
   | exact ih3 _ _ _ _ _ _ _ _ _ _ _ _ _ _
   | exact ih4 _ _ _ _ _ _ _ _ _ _ _ _ _ _ _ _
   | exact ih5 _ _ _ _ _ _ _ _ _ _ _ _ _
   | exact ih6 _ _ _ _ _ _ _ _ _ _ _
   | exact ih7 _ _ _ _ _ _ _ _ _ _ _ _ _
   | exact spec_l1Take.mono _ _ _ _
   | exact spec_l4Block.mono _ _ _ _ _ _ _
   | exact spec_l4Kids.mono _ _ _ _ _ _ _ _ _ _ _ _ _ _
   | exact LeO.none _
   | refine LeO.ite ?_ ?_
   | refine LeO.bind ?_ (fun _=>?_)
  ·intro y0 y1 y2 y3 y4 y5 y6 y7 y8 y9 y10 y11 y12 y13
   unfold spec_l4Tree.l1
   repeat' first
   | (with_reducible exact ih0 _ _ _ _ _)
   | (with_reducible exact ih1 _ _ _ _ _)
   | (with_reducible exact ih2 _ _ _ _ _ _ _ _ _ _ _ _ _ _ _)
   | (with_reducible exact ih3 _ _ _ _ _ _ _ _ _ _ _ _ _ _)
   | (with_reducible exact ih4 _ _ _ _ _ _ _ _ _ _ _ _ _ _ _ _)
   | (with_reducible exact ih5 _ _ _ _ _ _ _ _ _ _ _ _ _)
   | (with_reducible exact ih6 _ _ _ _ _ _ _ _ _ _ _)
   | (with_reducible exact ih7 _ _ _ _ _ _ _ _ _ _ _ _ _)
   | (with_reducible exact spec_l1Take.mono _ _ _ _)
   | (with_reducible exact spec_l4Block.mono _ _ _ _ _ _ _)
   | (with_reducible exact spec_l4Kids.mono _ _ _ _ _ _ _ _ _ _ _ _ _ _)
   | (with_reducible exact LeO.refl _)
   | (with_reducible exact LeO.none _)
   | (with_reducible refine LeO.ite ?_ ?_)
   | (with_reducible refine LeO.bind ?_ (fun _=>?_))
   | exact ih0 _ _ _ _ _
   | exact ih1 _ _ _ _ _
   | exact ih2 _ _ _ _ _ _ _ _ _ _ _ _ _ _ _
   | exact ih3 _ _ _ _ _ _ _ _ _ _ _ _ _ _
   | exact ih4 _ _ _ _ _ _ _ _ _ _ _ _ _ _ _ _
   | exact ih5 _ _ _ _ _ _ _ _ _ _ _ _ _
   | exact ih6 _ _ _ _ _ _ _ _ _ _ _
   | exact ih7 _ _ _ _ _ _ _ _ _ _ _ _ _
   | exact spec_l1Take.mono _ _ _ _
   | exact spec_l4Block.mono _ _ _ _ _ _ _
   | exact spec_l4Kids.mono _ _ _ _ _ _ _ _ _ _ _ _ _ _
   | exact LeO.none _
   | refine LeO.ite ?_ ?_
   | refine LeO.bind ?_ (fun _=>?_)
  ·intro y0 y1 y2 y3 y4 y5 y6 y7 y8 y9 y10 y11 y12 y13 y14 y15
   unfold spec_l4Tree.l2
   repeat' first
   | (with_reducible exact ih0 _ _ _ _ _)
   | (with_reducible exact ih1 _ _ _ _ _)
   | (with_reducible exact ih2 _ _ _ _ _ _ _ _ _ _ _ _ _ _ _)
   | (with_reducible exact ih3 _ _ _ _ _ _ _ _ _ _ _ _ _ _)
   | (with_reducible exact ih4 _ _ _ _ _ _ _ _ _ _ _ _ _ _ _ _)
   | (with_reducible exact ih5 _ _ _ _ _ _ _ _ _ _ _ _ _)
   | (with_reducible exact ih6 _ _ _ _ _ _ _ _ _ _ _)
   | (with_reducible exact ih7 _ _ _ _ _ _ _ _ _ _ _ _ _)
   | (with_reducible exact spec_l1Take.mono _ _ _ _)
   | (with_reducible exact spec_l4Block.mono _ _ _ _ _ _ _)
   | (with_reducible exact spec_l4Kids.mono _ _ _ _ _ _ _ _ _ _ _ _ _ _)
   | (with_reducible exact LeO.refl _)
   | (with_reducible exact LeO.none _)
   | (with_reducible refine LeO.ite ?_ ?_)
   | (with_reducible refine LeO.bind ?_ (fun _=>?_))
   | exact ih0 _ _ _ _ _
   | exact ih1 _ _ _ _ _
   | exact ih2 _ _ _ _ _ _ _ _ _ _ _ _ _ _ _
   | exact ih3 _ _ _ _ _ _ _ _ _ _ _ _ _ _
   | exact ih4 _ _ _ _ _ _ _ _ _ _ _ _ _ _ _ _
   | exact ih5 _ _ _ _ _ _ _ _ _ _ _ _ _
   | exact ih6 _ _ _ _ _ _ _ _ _ _ _
   | exact ih7 _ _ _ _ _ _ _ _ _ _ _ _ _
   | exact spec_l1Take.mono _ _ _ _
   | exact spec_l4Block.mono _ _ _ _ _ _ _
   | exact spec_l4Kids.mono _ _ _ _ _ _ _ _ _ _ _ _ _ _
   | exact LeO.none _
   | refine LeO.ite ?_ ?_
   | refine LeO.bind ?_ (fun _=>?_)
  ·intro y0 y1 y2 y3 y4 y5 y6 y7 y8 y9 y10 y11 y12
   unfold spec_l4Tree.j5
   repeat' first
   | (with_reducible exact ih0 _ _ _ _ _)
   | (with_reducible exact ih1 _ _ _ _ _)
   | (with_reducible exact ih2 _ _ _ _ _ _ _ _ _ _ _ _ _ _ _)
   | (with_reducible exact ih3 _ _ _ _ _ _ _ _ _ _ _ _ _ _)
   | (with_reducible exact ih4 _ _ _ _ _ _ _ _ _ _ _ _ _ _ _ _)
   | (with_reducible exact ih5 _ _ _ _ _ _ _ _ _ _ _ _ _)
   | (with_reducible exact ih6 _ _ _ _ _ _ _ _ _ _ _)
   | (with_reducible exact ih7 _ _ _ _ _ _ _ _ _ _ _ _ _)
   | (with_reducible exact spec_l1Take.mono _ _ _ _)
   | (with_reducible exact spec_l4Block.mono _ _ _ _ _ _ _)
   | (with_reducible exact spec_l4Kids.mono _ _ _ _ _ _ _ _ _ _ _ _ _ _)
   | (with_reducible exact LeO.refl _)
   | (with_reducible exact LeO.none _)
   | (with_reducible refine LeO.ite ?_ ?_)
   | (with_reducible refine LeO.bind ?_ (fun _=>?_))
   | exact ih0 _ _ _ _ _
   | exact ih1 _ _ _ _ _
   | exact ih2 _ _ _ _ _ _ _ _ _ _ _ _ _ _ _
   | exact ih3 _ _ _ _ _ _ _ _ _ _ _ _ _ _
   | exact ih4 _ _ _ _ _ _ _ _ _ _ _ _ _ _ _ _
   | exact ih5 _ _ _ _ _ _ _ _ _ _ _ _ _
   | exact ih6 _ _ _ _ _ _ _ _ _ _ _
   | exact ih7 _ _ _ _ _ _ _ _ _ _ _ _ _
   | exact spec_l1Take.mono _ _ _ _
   | exact spec_l4Block.mono _ _ _ _ _ _ _
   | exact spec_l4Kids.mono _ _ _ _ _ _ _ _ _ _ _ _ _ _
   | exact LeO.none _
   | refine LeO.ite ?_ ?_
   | refine LeO.bind ?_ (fun _=>?_)
  ·intro y0 y1 y2 y3 y4 y5 y6 y7 y8 y9 y10
   unfold spec_l4Tree.j6
   repeat' first
   | (with_reducible exact ih0 _ _ _ _ _)
   | (with_reducible exact ih1 _ _ _ _ _)
   | (with_reducible exact ih2 _ _ _ _ _ _ _ _ _ _ _ _ _ _ _)
   | (with_reducible exact ih3 _ _ _ _ _ _ _ _ _ _ _ _ _ _)
   | (with_reducible exact ih4 _ _ _ _ _ _ _ _ _ _ _ _ _ _ _ _)
   | (with_reducible exact ih5 _ _ _ _ _ _ _ _ _ _ _ _ _)
   | (with_reducible exact ih6 _ _ _ _ _ _ _ _ _ _ _)
   | (with_reducible exact ih7 _ _ _ _ _ _ _ _ _ _ _ _ _)
   | (with_reducible exact spec_l1Take.mono _ _ _ _)
   | (with_reducible exact spec_l4Block.mono _ _ _ _ _ _ _)
   | (with_reducible exact spec_l4Kids.mono _ _ _ _ _ _ _ _ _ _ _ _ _ _)
   | (with_reducible exact LeO.refl _)
   | (with_reducible exact LeO.none _)
   | (with_reducible refine LeO.ite ?_ ?_)
   | (with_reducible refine LeO.bind ?_ (fun _=>?_))
   | exact ih0 _ _ _ _ _
   | exact ih1 _ _ _ _ _
   | exact ih2 _ _ _ _ _ _ _ _ _ _ _ _ _ _ _
   | exact ih3 _ _ _ _ _ _ _ _ _ _ _ _ _ _
   | exact ih4 _ _ _ _ _ _ _ _ _ _ _ _ _ _ _ _
   | exact ih5 _ _ _ _ _ _ _ _ _ _ _ _ _
   | exact ih6 _ _ _ _ _ _ _ _ _ _ _
   | exact ih7 _ _ _ _ _ _ _ _ _ _ _ _ _
   | exact spec_l1Take.mono _ _ _ _
   | exact spec_l4Block.mono _ _ _ _ _ _ _
   | exact spec_l4Kids.mono _ _ _ _ _ _ _ _ _ _ _ _ _ _
   | exact LeO.none _
   | refine LeO.ite ?_ ?_
   | refine LeO.bind ?_ (fun _=>?_)
  ·intro y0 y1 y2 y3 y4 y5 y6 y7 y8 y9 y10 y11 y12
   unfold spec_l4Tree.l3
   repeat' first
   | (with_reducible exact ih0 _ _ _ _ _)
   | (with_reducible exact ih1 _ _ _ _ _)
   | (with_reducible exact ih2 _ _ _ _ _ _ _ _ _ _ _ _ _ _ _)
   | (with_reducible exact ih3 _ _ _ _ _ _ _ _ _ _ _ _ _ _)
   | (with_reducible exact ih4 _ _ _ _ _ _ _ _ _ _ _ _ _ _ _ _)
   | (with_reducible exact ih5 _ _ _ _ _ _ _ _ _ _ _ _ _)
   | (with_reducible exact ih6 _ _ _ _ _ _ _ _ _ _ _)
   | (with_reducible exact ih7 _ _ _ _ _ _ _ _ _ _ _ _ _)
   | (with_reducible exact spec_l1Take.mono _ _ _ _)
   | (with_reducible exact spec_l4Block.mono _ _ _ _ _ _ _)
   | (with_reducible exact spec_l4Kids.mono _ _ _ _ _ _ _ _ _ _ _ _ _ _)
   | (with_reducible exact LeO.refl _)
   | (with_reducible exact LeO.none _)
   | (with_reducible refine LeO.ite ?_ ?_)
   | (with_reducible refine LeO.bind ?_ (fun _=>?_))
   | exact ih0 _ _ _ _ _
   | exact ih1 _ _ _ _ _
   | exact ih2 _ _ _ _ _ _ _ _ _ _ _ _ _ _ _
   | exact ih3 _ _ _ _ _ _ _ _ _ _ _ _ _ _
   | exact ih4 _ _ _ _ _ _ _ _ _ _ _ _ _ _ _ _
   | exact ih5 _ _ _ _ _ _ _ _ _ _ _ _ _
   | exact ih6 _ _ _ _ _ _ _ _ _ _ _
   | exact ih7 _ _ _ _ _ _ _ _ _ _ _ _ _
   | exact spec_l1Take.mono _ _ _ _
   | exact spec_l4Block.mono _ _ _ _ _ _ _
   | exact spec_l4Kids.mono _ _ _ _ _ _ _ _ _ _ _ _ _ _
   | exact LeO.none _
   | refine LeO.ite ?_ ?_
   | refine LeO.bind ?_ (fun _=>?_)
theorem spec_l4Tree.mono:∀ a0 a1 a2 a3 k,LeO (spec_l4Tree.f k a0 a1 a2 a3) (spec_l4Tree.f (k+1) a0 a1 a2 a3):=by
 intro a0 a1 a2 a3 k
 obtain ⟨ih0,ih1,ih2,ih3,ih4,ih5,ih6,ih7⟩:=spec_l4Tree.mono_l k
 unfold spec_l4Tree.f
 repeat' first
   | (with_reducible exact ih0 _ _ _ _ _)
   | (with_reducible exact ih1 _ _ _ _ _)
   | (with_reducible exact ih2 _ _ _ _ _ _ _ _ _ _ _ _ _ _ _)
   | (with_reducible exact ih3 _ _ _ _ _ _ _ _ _ _ _ _ _ _)
   | (with_reducible exact ih4 _ _ _ _ _ _ _ _ _ _ _ _ _ _ _ _)
   | (with_reducible exact ih5 _ _ _ _ _ _ _ _ _ _ _ _ _)
   | (with_reducible exact ih6 _ _ _ _ _ _ _ _ _ _ _)
   | (with_reducible exact ih7 _ _ _ _ _ _ _ _ _ _ _ _ _)
   | (with_reducible exact spec_l1Take.mono _ _ _ _)
   | (with_reducible exact spec_l4Block.mono _ _ _ _ _ _ _)
   | (with_reducible exact spec_l4Kids.mono _ _ _ _ _ _ _ _ _ _ _ _ _ _)
   | (with_reducible exact LeO.refl _)
   | (with_reducible exact LeO.none _)
   | (with_reducible refine LeO.ite ?_ ?_)
   | (with_reducible refine LeO.bind ?_ (fun _=>?_))
   | exact ih0 _ _ _ _ _
   | exact ih1 _ _ _ _ _
   | exact ih2 _ _ _ _ _ _ _ _ _ _ _ _ _ _ _
   | exact ih3 _ _ _ _ _ _ _ _ _ _ _ _ _ _
   | exact ih4 _ _ _ _ _ _ _ _ _ _ _ _ _ _ _ _
   | exact ih5 _ _ _ _ _ _ _ _ _ _ _ _ _
   | exact ih6 _ _ _ _ _ _ _ _ _ _ _
   | exact ih7 _ _ _ _ _ _ _ _ _ _ _ _ _
   | exact spec_l1Take.mono _ _ _ _
   | exact spec_l4Block.mono _ _ _ _ _ _ _
   | exact spec_l4Kids.mono _ _ _ _ _ _ _ _ _ _ _ _ _ _
   | exact LeO.none _
   | refine LeO.ite ?_ ?_
   | refine LeO.bind ?_ (fun _=>?_)
def spec_l4Tree.T15:Bool×List (List Nat×List Nat):=(true,[([],[]),([0],[0]),([],[]),([],[]),([],[]),([3,4],[3,4]),([5],[5]),([2,6],[2,6]),([7],[7]),([1,8,7],[1,8]),([0,1,2,3,4,5,6,7,8,9],[]),([10,9,9,0,1,2,3,4,5,6,7,8,9],[9,10])])
def spec_l4Tree.B15:List Nat:=[0,1,0,0,0,24,56,124,252,511,1023,2047]
theorem spec_l4Tree.tab15:rtab .any (opsOf Try.f69 15)=spec_l4Tree.T15:=by kernel_rfl
theorem spec_l4Tree.bits15:waitsOk spec_l4Tree.T15.2 spec_l4Tree.B15=true:=by kernel_rfl
def spec_l4Tree.T16:Bool×List (List Nat×List Nat):=(true,[([],[]),([0],[0]),([],[]),([2],[]),([2,3],[2,3]),([1,4,3],[1,4]),([0,1,2,3,4,5],[]),([6,5,5,0,1,2,3,4,5],[5,6])])
def spec_l4Tree.B16:List Nat:=[0,1,0,4,12,31,63,127]
theorem spec_l4Tree.tab16:rtab .any (opsOf Try.f69 16)=spec_l4Tree.T16:=by kernel_rfl
theorem spec_l4Tree.bits16:waitsOk spec_l4Tree.T16.2 spec_l4Tree.B16=true:=by kernel_rfl
def spec_l4Tree.T25:Bool×List (List Nat×List Nat):=(true,[([],[]),([0],[0]),([],[]),([],[]),([2,3],[2,3]),([4],[4]),([5],[5]),([1,6],[1,6]),([0,1,2,3,4,5,6,7],[]),([8,7,7,0,1,2,3,4,5,6,7],[7,8])])
def spec_l4Tree.B25:List Nat:=[0,1,0,0,12,28,60,127,255,511]
theorem spec_l4Tree.tab25:rtab .any (opsOf Try.f69 25)=spec_l4Tree.T25:=by kernel_rfl
theorem spec_l4Tree.bits25:waitsOk spec_l4Tree.T25.2 spec_l4Tree.B25=true:=by kernel_rfl
def spec_l4Tree.T28:Bool×List (List Nat×List Nat):=(true,[([],[]),([0],[0]),([],[]),([2],[]),([2,3],[2,3]),([1,4,3],[1,4]),([0,1,2,3,4,5],[]),([6,5,5,0,1,2,3,4,5],[5,6])])
def spec_l4Tree.B28:List Nat:=[0,1,0,4,12,31,63,127]
theorem spec_l4Tree.tab28:rtab .any (opsOf Try.f69 28)=spec_l4Tree.T28:=by kernel_rfl
theorem spec_l4Tree.bits28:waitsOk spec_l4Tree.T28.2 spec_l4Tree.B28=true:=by kernel_rfl
def spec_l4Tree.T29:Bool×List (List Nat×List Nat):=(true,[([],[]),([0],[0]),([],[]),([2],[2]),([3],[3]),([4],[4]),([1,5,4],[1,5]),([0,1,2,3,4,5,6],[]),([7,6,6,0,1,2,3,4,5,6],[6,7])])
def spec_l4Tree.B29:List Nat:=[0,1,0,4,12,28,63,127,255]
theorem spec_l4Tree.tab29:rtab .any (opsOf Try.f69 29)=spec_l4Tree.T29:=by kernel_rfl
theorem spec_l4Tree.bits29:waitsOk spec_l4Tree.T29.2 spec_l4Tree.B29=true:=by kernel_rfl
set_option maxHeartbeats 8000000 in
set_option maxRecDepth 100000 in
theorem spec_l4Tree.calls (k:Nat) (A0:Option Addr) (c0:Nat) (l0:List Int) (a1:Int) (a2:Int) (a3:Int) (r1:List (S44)) (r2:Int) (w:World) (hr0:Kd.C (Kd.int .u8) w A0 l0.length l0) (hc0:l0.length≤c0) (h:spec_l4Tree.f k l0 a1 a2 a3=some (r1,r2)) :
  Calls Try.prog 69 #[.slice A0 l0.length c0,.int .i64 a1,.int .i64 a2,.int .i64 a3] w fun e w'=>∃ v0_:Value,e=.returned (.tuple #[v0_,.int .i64 r2])∧Kd.S k44 44 w' w.heap.size (fun _=>True) v0_ r1∧Below w.heap.size w w':=by
 have hu44:=Try.underlying44
 have hu85:=Try.underlying85
 have hu89:=Try.underlying89
 have HR0:=Ak hr0;have HC0:=Ak hc0;clear hr0 hc0
 have HB:=Ak (Below.refl w.heap.size w)
 have H:((spec_l1Take.f k l0 a1 3).bind fun bt136=>(if a2=0 then (spec_l4Tree.j0 k l0 bt136.2 a2 a3 (wrap64 (bt136.1+1))) else (spec_l4Tree.j0 k l0 bt136.2 a2 a3 bt136.1)))=some (r1,r2):=h
 clear h
 replace H:=Option.bind_eq_some_iff.mp H
 obtain ⟨⟨t136,t137⟩,A50,H⟩:=H
 replace H:(if a2=0 then (spec_l4Tree.j0 k l0 t137 a2 a3 (wrap64 (t136+1))) else (spec_l4Tree.j0 k l0 t137 a2 a3 t136))=some (r1,r2):=H
 have A5:=Ak A50;clear A50;have HC6:=Ak H;clear H
 go_enter Try.func69,Try.ntmps69
 go_upto_if 27 with (first|((with_reducible refine gate_callee (f:=30) rfl ?_);refine goesL_ (some 23) rfl rfl Try.func30 (by kernel_rfl) rfl #[.slice A0 l0.length c0,.int .i64 a1,.int .i64 3] rfl (by (try simp only [List.map_toArray,List.map_cons,List.map_nil]);first|done|rfl|(simp only [List.length_drop,List.length_take];rfl)) ?_;(with_reducible refine (spec_l1Take.calls k _ _ l0 a1 3 t136 t137 _ ?side1 ?side2 A5.out).mono ?_);(case side1=>repeat (first|exact HR0.out|(with_reducible refine Kd.C_alloc ?_ _)|(with_reducible refine Kd.C_drewN ?_ _)|(with_reducible refine Kd.C_drew ?_)));(case side2=>exact HC0.out);rintro e w' ⟨rfl,⟨nd,rfl⟩⟩;refine ⟨_,rfl,?_⟩))
 (try simp only [Act.put,List.setIfInBounds_toArray,List.set_cons_zero,List.set_cons_succ])
 go_cut [10] (fun v10 wc=>∃ (kq:Nat) (x10_5:Int),v10=.int .i64 x10_5∧Aside0 (spec_l4Tree.j0 kq l0 t137 a2 a3 x10_5=some (r1,r2))∧Aside0 (kq≤k)∧Aside0 (Below w.heap.size w wc))
 case first =>
  have H:=HC6.out
  clear HC6
  by_cases c7:a2=0
  ·rw [if_pos c7] at H
   have c7b0:(a2 == 0)=true:=beq_iff_eq.mpr c7
   have c7b1:(a2 != 0)=false:=bne_eq_false_iff_eq.mpr c7
   clear c7
   (first|rw [c7b0]|(simp only [i64_w,i32_w];rw [c7b0])|skip)
   have H':=Ak H
   clear H
   go_wp2
   go_meet
   case rel=>exact ⟨_,(wrap64 (t136+1)),(by first|rfl|(simp;done)|(simp [*];done)),H',⟨by first|omega|exact Nat.le_refl _⟩,⟨by repeat (first|(with_reducible first|exact HB.out|apply below_alloc|apply pw_below_drewN|apply below_drew1)|exact HB.out)⟩⟩
  ·rw [if_neg c7] at H
   have c7b0:(a2 == 0)=false:=beq_eq_false_iff_ne.mpr c7
   have c7b1:(a2 != 0)=true:=bne_iff_ne.mpr c7
   (first|rw [c7b0]|(simp only [i64_w,i32_w];rw [c7b0])|skip)
   have H':=Ak H
   clear H
   go_wp2
   go_meet
   case rel=>exact ⟨_,(t136),(by first|rfl|(simp;done)|(simp [*];done)),H',⟨by first|omega|exact Nat.le_refl _⟩,⟨by repeat (first|(with_reducible first|exact HB.out|apply below_alloc|apply pw_below_drewN|apply below_drew1)|exact HB.out)⟩⟩
 case rest =>
  clear HC6;(try clear p2);(try clear c3);(try clear c6);(try clear p6);(try clear c7);(try clear c7b0);(try clear c7b1)
  obtain ⟨kq,x10_5,rfl,HA,HJ5,HB⟩:=hcut
  cases kq with
  | zero=>exact absurd HA.out (by simp [spec_l4Tree.j0])
  | succ kj5 =>
   have H:=HA.out
   clear HA
   simp only [spec_l4Tree.j0] at H
   have HC8:=Ak H;clear H
   go_upto_if 31 with (fail)
   go_cut [10] (fun v10 wc=>∃ (kq:Nat) (x10_7:Int),v10=.int .i64 x10_7∧Aside0 (spec_l4Tree.j1 kq l0 t137 a2 a3 x10_7=some (r1,r2))∧Aside0 (kq≤kj5)∧Aside0 (Below w.heap.size w wc))
   case first =>
    have H:=HC8.out
    clear HC8
    by_cases c9:a2 > 1
    ·rw [if_pos c9] at H
     have c9b0:decide (1<a2)=true:=decide_eq_true c9
     clear c9
     (first|rw [c9b0]|(simp only [i64_w,i32_w];rw [c9b0])|skip)
     have H':=Ak H
     clear H
     go_wp2
     go_meet
     case rel=>exact ⟨_,(0),(by first|rfl|(simp;done)|(simp [*];done)),H',⟨by have:=HJ5.out;first|omega|exact Nat.le_refl _⟩,⟨by repeat (first|(with_reducible first|exact HB.out|apply below_alloc|apply pw_below_drewN|apply below_drew1)|exact HB.out)⟩⟩
    ·rw [if_neg c9] at H
     have c9b0:decide (1<a2)=false:=decide_eq_false c9
     clear c9
     (first|rw [c9b0]|(simp only [i64_w,i32_w];rw [c9b0])|skip)
     have H':=Ak H
     clear H
     go_wp2
     go_meet
     case rel=>exact ⟨_,(x10_5),(by first|rfl|(simp;done)|(simp [*];done)),H',⟨by have:=HJ5.out;first|omega|exact Nat.le_refl _⟩,⟨by repeat (first|(with_reducible first|exact HB.out|apply below_alloc|apply pw_below_drewN|apply below_drew1)|exact HB.out)⟩⟩
   case rest =>
    clear HC8;(try clear p2);(try clear c3);(try clear c6);(try clear p6);(try clear c7);(try clear c7b0);(try clear c7b1);(try clear c9);(try clear c9b0);(try clear p2);(try clear p6)
    obtain ⟨kq,x10_7,rfl,HA,HJ7,HB⟩:=hcut
    cases kq with
    | zero=>exact absurd HA.out (by simp [spec_l4Tree.j1])
    | succ kj7 =>
     have H:=HA.out
     clear HA
     simp only [spec_l4Tree.j1] at H
     replace H:=Option.bind_eq_some_iff.mp H
     obtain ⟨t138,A100,H⟩:=H
     replace H:((spec_l1Take.f kj7 l0 t137 12).bind fun bt139=>((spec_l1Take.f kj7 l0 bt139.2 6).bind fun bt141=>(spec_l4Tree.l0 kj7 l0 bt141.2 a2 a3 x10_7 t138 bt139.1 (Int.tmod bt139.1 4) (Int.tmod bt139.1 4) (decide (bt141.1<3)) 12 ([]:List Int) (([(⟨2,bt139.1,(⟨#[]⟩:ByteArray)⟩:S85),(⟨2,wrap64 (bt141.1-2),(⟨#[]⟩:ByteArray)⟩:S85),(⟨2,wrap64 (bt141.1+1),(⟨#[]⟩:ByteArray)⟩:S85),(⟨2,1,(⟨#[]⟩:ByteArray)⟩:S85),(⟨3,0,(⟨#[115]⟩:ByteArray)⟩:S85),(⟨1,1,(⟨#[]⟩:ByteArray)⟩:S85)]:List (S85))) x10_7 (⟨#[]⟩:ByteArray))))=some (r1,r2):=H
     have A10:=Ak A100;clear A100
     replace H:=Option.bind_eq_some_iff.mp H
     obtain ⟨⟨t139,t140⟩,A110,H⟩:=H
     replace H:((spec_l1Take.f kj7 l0 t140 6).bind fun bt141=>(spec_l4Tree.l0 kj7 l0 bt141.2 a2 a3 x10_7 t138 t139 (Int.tmod t139 4) (Int.tmod t139 4) (decide (bt141.1<3)) 12 ([]:List Int) (([(⟨2,t139,(⟨#[]⟩:ByteArray)⟩:S85),(⟨2,wrap64 (bt141.1-2),(⟨#[]⟩:ByteArray)⟩:S85),(⟨2,wrap64 (bt141.1+1),(⟨#[]⟩:ByteArray)⟩:S85),(⟨2,1,(⟨#[]⟩:ByteArray)⟩:S85),(⟨3,0,(⟨#[115]⟩:ByteArray)⟩:S85),(⟨1,1,(⟨#[]⟩:ByteArray)⟩:S85)]:List (S85))) x10_7 (⟨#[]⟩:ByteArray)))=some (r1,r2):=H
     have A11:=Ak A110;clear A110
     replace H:=Option.bind_eq_some_iff.mp H
     obtain ⟨⟨t141,t142⟩,A120,H⟩:=H
     replace H:(spec_l4Tree.l0 kj7 l0 t142 a2 a3 x10_7 t138 t139 (Int.tmod t139 4) (Int.tmod t139 4) (decide (t141<3)) 12 ([]:List Int) (([(⟨2,t139,(⟨#[]⟩:ByteArray)⟩:S85),(⟨2,wrap64 (t141-2),(⟨#[]⟩:ByteArray)⟩:S85),(⟨2,wrap64 (t141+1),(⟨#[]⟩:ByteArray)⟩:S85),(⟨2,1,(⟨#[]⟩:ByteArray)⟩:S85),(⟨3,0,(⟨#[115]⟩:ByteArray)⟩:S85),(⟨1,1,(⟨#[]⟩:ByteArray)⟩:S85)]:List (S85))) x10_7 (⟨#[]⟩:ByteArray))=some (r1,r2):=H
     have A12:=Ak A120;clear A120
     obtain ⟨y144,hy144⟩:∃ y_:List (S85),y_=(([(⟨2,t139,(⟨#[]⟩:ByteArray)⟩:S85),(⟨2,wrap64 (t141-2),(⟨#[]⟩:ByteArray)⟩:S85),(⟨2,wrap64 (t141+1),(⟨#[]⟩:ByteArray)⟩:S85),(⟨2,1,(⟨#[]⟩:ByteArray)⟩:S85),(⟨3,0,(⟨#[115]⟩:ByteArray)⟩:S85),(⟨1,1,(⟨#[]⟩:ByteArray)⟩:S85)]:List (S85))):=⟨_,rfl⟩
     replace H:(spec_l4Tree.l0 kj7 l0 t142 a2 a3 x10_7 t138 t139 (Int.tmod t139 4) (Int.tmod t139 4) (decide (t141<3)) 12 ([]:List Int) y144 x10_7 (⟨#[]⟩:ByteArray))=some (r1,r2):=by first|(rw [hy144];with_reducible exact H)|(have H2_:=(Option.bind_some _ _).symm.trans H;rw [hy144];with_reducible exact H2_)|(have H2_:=(Option.bind_some _ _).symm.trans H;with_reducible exact H2_)|with_reducible exact H|(rw [hy144];exact H)|exact H
     have Ny144:=Ak hy144;clear hy144
     have H':=Ak H
     clear H
     go_wp2_with (first|((with_reducible refine gate_callee (f:=117) rfl ?_);refine goesL_ (some 33) rfl rfl Try.func117 (by kernel_rfl) rfl #[.slice A0 l0.length c0,.int .i64 10,.int .i64 2,.int .i64 7] rfl (by (try simp only [List.map_toArray,List.map_cons,List.map_nil]);first|done|rfl|(simp only [List.length_drop,List.length_take];rfl)) ?_;(with_reducible refine (spec_l1Count.calls _ _ l0 10 2 7 t138 _ ?side1 ?side2 A10.out).mono ?_);(case side1=>repeat (first|exact (Kd.C_below HR0.out HB.out)|(with_reducible refine Kd.C_alloc ?_ _)|(with_reducible refine Kd.C_drewN ?_ _)|(with_reducible refine Kd.C_drew ?_)));(case side2=>exact HC0.out);rintro e w' ⟨rfl,⟨nd,rfl⟩⟩;refine ⟨_,rfl,?_⟩;(try (rw [drewN_self wc];generalize hq_:World.drewN wc _=wc;have n0_:Aside0 (Below w.heap.size w wc):=⟨by rw [← hq_];exact (by repeat (first|(with_reducible first|exact HB.out|apply below_alloc|apply pw_below_drewN|apply below_drew1)|exact HB.out))⟩;clear HB hq_;have HB:=n0_;clear n0_)))|((with_reducible refine gate_callee (f:=30) rfl ?_);refine goesL_ (some 37) rfl rfl Try.func30 (by kernel_rfl) rfl #[.slice A0 l0.length c0,.int .i64 t137,.int .i64 12] rfl (by (try simp only [List.map_toArray,List.map_cons,List.map_nil]);first|done|rfl|(simp only [List.length_drop,List.length_take];rfl)) ?_;(with_reducible refine (spec_l1Take.calls kj7 _ _ l0 t137 12 t139 t140 _ ?side1 ?side2 A11.out).mono ?_);(case side1=>repeat (first|exact (Kd.C_below HR0.out HB.out)|(with_reducible refine Kd.C_alloc ?_ _)|(with_reducible refine Kd.C_drewN ?_ _)|(with_reducible refine Kd.C_drew ?_)));(case side2=>exact HC0.out);rintro e w' ⟨rfl,⟨nd,rfl⟩⟩;refine ⟨_,rfl,?_⟩;(try (rw [drewN_self wc];generalize hq_:World.drewN wc _=wc;have n0_:Aside0 (Below w.heap.size w wc):=⟨by rw [← hq_];exact (by repeat (first|(with_reducible first|exact HB.out|apply below_alloc|apply pw_below_drewN|apply below_drew1)|exact HB.out))⟩;clear HB hq_;have HB:=n0_;clear n0_)))|((with_reducible refine gate_callee (f:=30) rfl ?_);refine goesL_ (some 43) rfl rfl Try.func30 (by kernel_rfl) rfl #[.slice A0 l0.length c0,.int .i64 t140,.int .i64 6] rfl (by (try simp only [List.map_toArray,List.map_cons,List.map_nil]);first|done|rfl|(simp only [List.length_drop,List.length_take];rfl)) ?_;(with_reducible refine (spec_l1Take.calls kj7 _ _ l0 t140 6 t141 t142 _ ?side1 ?side2 A12.out).mono ?_);(case side1=>repeat (first|exact (Kd.C_below HR0.out HB.out)|(with_reducible refine Kd.C_alloc ?_ _)|(with_reducible refine Kd.C_drewN ?_ _)|(with_reducible refine Kd.C_drew ?_)));(case side2=>exact HC0.out);rintro e w' ⟨rfl,⟨nd,rfl⟩⟩;refine ⟨_,rfl,?_⟩;(try (rw [drewN_self wc];generalize hq_:World.drewN wc _=wc;have n0_:Aside0 (Below w.heap.size w wc):=⟨by rw [← hq_];exact (by repeat (first|(with_reducible first|exact HB.out|apply below_alloc|apply pw_below_drewN|apply below_drew1)|exact HB.out))⟩;clear HB hq_;have HB:=n0_;clear n0_)))|((with_reducible refine gate_dst (N:=14) rfl ?_);refine box_event ?hg (N:=14) ?hd (cs:=#[.int .i64 0,.bool false,.int .i64 0,.slice none 0 0,.slice none 0 0,.slice none 0 0,.int .i64 0,.string (⟨#[]⟩:ByteArray),.slice none 0 0,.slice none 0 0]) (t:=44) ?hr ?_;(case hd=>rfl);(case hg=>rfl);(case hr=>first|(go_simp;done)|(go_simp;rfl));intro gb143 hg w13 hbox hb;have n0_:=Ak (below_step (by repeat (first|(with_reducible first|exact HB.out|apply below_alloc|apply pw_below_drewN|apply below_drew1)|exact HB.out)) hb);have n1_:=Ak (hbox);have n2_:=Ak ((by rw [hg];exact (below_size (by repeat (first|(with_reducible first|exact HB.out|apply below_alloc|apply pw_below_drewN|apply below_drew1)|exact HB.out))):w.heap.size≤gb143));have n3_:=Ak ((by rw [hg];exact (below_size (by repeat (first|(with_reducible first|exact HB.out|apply below_alloc|apply pw_below_drewN|apply below_drew1)|exact HB.out))):w.heap.size≤gb143));clear HB;have HB:=n0_;have BK143:=n1_;have GW143:=n2_;have GE143:=n3_;clear n0_ n1_ n2_ n3_;clear hb hbox hg;obtain ⟨hcz14_0,hcz14_1,hcz14_2,hcz14_3,hcz14_4,hcz14_5,hcz14_6,hcz14_7,hcz14_8,hcz14_9,hfz14_0,hfz14_1,hfz14_2,hfz14_3,hfz14_4,hfz14_5,hfz14_6,hfz14_7,hfz14_8,hfz14_9⟩:=bk10 BK143.out)|((with_reducible refine gate_dst (N:=63) rfl ?_);refine Kd.R_lit k85 _ 85 ?hg (N:=63) ?hd (xs:=([(⟨2,t139,(⟨#[]⟩:ByteArray)⟩:S85),(⟨2,wrap64 (t141-2),(⟨#[]⟩:ByteArray)⟩:S85),(⟨2,wrap64 (t141+1),(⟨#[]⟩:ByteArray)⟩:S85),(⟨2,1,(⟨#[]⟩:ByteArray)⟩:S85),(⟨3,0,(⟨#[115]⟩:ByteArray)⟩:S85),(⟨1,1,(⟨#[]⟩:ByteArray)⟩:S85)]:List (S85))) (inner:=[.int .i64 2,.int .i64 t139,.string (⟨#[]⟩:ByteArray),.int .i64 2,.int .i64 (wrap64 (t141-2)),.string (⟨#[]⟩:ByteArray),.int .i64 2,.int .i64 (wrap64 (t141+1)),.string (⟨#[]⟩:ByteArray),.int .i64 2,.int .i64 1,.string (⟨#[]⟩:ByteArray),.int .i64 3,.int .i64 0,.string (⟨#[115]⟩:ByteArray),.int .i64 1,.int .i64 1,.string (⟨#[]⟩:ByteArray)]) (ok:=fun _=>True) (okp:=fun _=>True) ?hr ?hp (fun _ hk=>hk) trivial (Below.refl _ _) (Nat.le_refl _) (by simp) ?_;(case hd=>rfl);(case hg=>rfl);(case hr=>first|(go_simp;done)|(go_simp;rfl));(case hp=>exact (Reps.c3 (show Kd.M k85 _ _ _ (⟨2,t139,(⟨#[]⟩:ByteArray)⟩:S85) [.int .i64 2,.int .i64 t139,.string (⟨#[]⟩:ByteArray)] from (k85_mkM _ _ _ (⟨2,t139,(⟨#[]⟩:ByteArray)⟩:S85) )) (Reps.c3 (show Kd.M k85 _ _ _ (⟨2,wrap64 (t141-2),(⟨#[]⟩:ByteArray)⟩:S85) [.int .i64 2,.int .i64 (wrap64 (t141-2)),.string (⟨#[]⟩:ByteArray)] from (k85_mkM _ _ _ (⟨2,wrap64 (t141-2),(⟨#[]⟩:ByteArray)⟩:S85) )) (Reps.c3 (show Kd.M k85 _ _ _ (⟨2,wrap64 (t141+1),(⟨#[]⟩:ByteArray)⟩:S85) [.int .i64 2,.int .i64 (wrap64 (t141+1)),.string (⟨#[]⟩:ByteArray)] from (k85_mkM _ _ _ (⟨2,wrap64 (t141+1),(⟨#[]⟩:ByteArray)⟩:S85) )) (Reps.c3 (show Kd.M k85 _ _ _ (⟨2,1,(⟨#[]⟩:ByteArray)⟩:S85) [.int .i64 2,.int .i64 1,.string (⟨#[]⟩:ByteArray)] from (k85_mkM _ _ _ (⟨2,1,(⟨#[]⟩:ByteArray)⟩:S85) )) (Reps.c3 (show Kd.M k85 _ _ _ (⟨3,0,(⟨#[115]⟩:ByteArray)⟩:S85) [.int .i64 3,.int .i64 0,.string (⟨#[115]⟩:ByteArray)] from (k85_mkM _ _ _ (⟨3,0,(⟨#[115]⟩:ByteArray)⟩:S85) )) (Reps.c3 (show Kd.M k85 _ _ _ (⟨1,1,(⟨#[]⟩:ByteArray)⟩:S85) [.int .i64 1,.int .i64 1,.string (⟨#[]⟩:ByteArray)] from (k85_mkM _ _ _ (⟨1,1,(⟨#[]⟩:ByteArray)⟩:S85) )) (Reps.none _ _))))))));intro v145 w15 ho16 hb hg_ hnew_;clear hg_ hnew_;(first|rw [← Ny144.out] at ho16|(simp only [Int.reduceToNat] at ho16;rw [← Ny144.out] at ho16));have n0_:=Ak (Kd.R_lower ho16 (below_size (by repeat (first|(with_reducible first|exact HB.out|apply below_alloc|apply pw_below_drewN|apply below_drew1|refine below_set ?_ GE143.out)|exact HB.out))));have n1_:=Ak (blk_below (g:=gb143) (o:=.cells #[.int .i64 (Int.tmod t139 4),.bool (decide (t141<3)),.int .i64 12,.slice none 0 0,.slice none 0 0,.slice none 0 0,.int .i64 x10_7,.string (⟨#[]⟩:ByteArray),.slice none 0 0,.slice none 0 0] 44 (0,0)) (by (with_reducible repeat (first|refine blk_drewN ?_ _|refine blk_drew ?_|refine blk_alloc ?_ _));refine blk_put (cs:=#[.int .i64 (Int.tmod t139 4),.bool (decide (t141<3)),.int .i64 12,.slice none 0 0,.slice none 0 0,.slice none 0 0,.int .i64 x10_7,.string (⟨#[]⟩:ByteArray),.slice none 0 0,.slice none 0 0]) ?_ 9 _ rfl;(with_reducible repeat (first|refine blk_drewN ?_ _|refine blk_drew ?_|refine blk_alloc ?_ _));refine blk_put (cs:=#[.int .i64 (Int.tmod t139 4),.bool (decide (t141<3)),.int .i64 12,.slice none 0 0,.slice none 0 0,.slice none 0 0,.int .i64 x10_7,.string (⟨#[]⟩:ByteArray),.slice none 0 0,.slice none 0 0]) ?_ 8 _ rfl;(with_reducible repeat (first|refine blk_drewN ?_ _|refine blk_drew ?_|refine blk_alloc ?_ _));refine blk_put (cs:=#[.int .i64 (Int.tmod t139 4),.bool (decide (t141<3)),.int .i64 12,.slice none 0 0,.slice none 0 0,.slice none 0 0,.int .i64 x10_7,.string (⟨#[]⟩:ByteArray),.slice none 0 0,.slice none 0 0]) ?_ 7 _ rfl;(with_reducible repeat (first|refine blk_drewN ?_ _|refine blk_drew ?_|refine blk_alloc ?_ _));refine blk_put (cs:=#[.int .i64 (Int.tmod t139 4),.bool (decide (t141<3)),.int .i64 12,.slice none 0 0,.slice none 0 0,.slice none 0 0,.int .i64 0,.string (⟨#[]⟩:ByteArray),.slice none 0 0,.slice none 0 0]) ?_ 6 _ rfl;(with_reducible repeat (first|refine blk_drewN ?_ _|refine blk_drew ?_|refine blk_alloc ?_ _));refine blk_put (cs:=#[.int .i64 (Int.tmod t139 4),.bool (decide (t141<3)),.int .i64 12,.slice none 0 0,.slice none 0 0,.slice none 0 0,.int .i64 0,.string (⟨#[]⟩:ByteArray),.slice none 0 0,.slice none 0 0]) ?_ 5 _ rfl;(with_reducible repeat (first|refine blk_drewN ?_ _|refine blk_drew ?_|refine blk_alloc ?_ _));refine blk_put (cs:=#[.int .i64 (Int.tmod t139 4),.bool (decide (t141<3)),.int .i64 12,.slice none 0 0,.slice none 0 0,.slice none 0 0,.int .i64 0,.string (⟨#[]⟩:ByteArray),.slice none 0 0,.slice none 0 0]) ?_ 4 _ rfl;(with_reducible repeat (first|refine blk_drewN ?_ _|refine blk_drew ?_|refine blk_alloc ?_ _));refine blk_put (cs:=#[.int .i64 (Int.tmod t139 4),.bool (decide (t141<3)),.int .i64 12,.slice none 0 0,.slice none 0 0,.slice none 0 0,.int .i64 0,.string (⟨#[]⟩:ByteArray),.slice none 0 0,.slice none 0 0]) ?_ 3 _ rfl;(with_reducible repeat (first|refine blk_drewN ?_ _|refine blk_drew ?_|refine blk_alloc ?_ _));refine blk_put (cs:=#[.int .i64 (Int.tmod t139 4),.bool (decide (t141<3)),.int .i64 0,.slice none 0 0,.slice none 0 0,.slice none 0 0,.int .i64 0,.string (⟨#[]⟩:ByteArray),.slice none 0 0,.slice none 0 0]) ?_ 2 _ rfl;(with_reducible repeat (first|refine blk_drewN ?_ _|refine blk_drew ?_|refine blk_alloc ?_ _));refine blk_put (cs:=#[.int .i64 (Int.tmod t139 4),.bool false,.int .i64 0,.slice none 0 0,.slice none 0 0,.slice none 0 0,.int .i64 0,.string (⟨#[]⟩:ByteArray),.slice none 0 0,.slice none 0 0]) ?_ 1 _ rfl;(with_reducible repeat (first|refine blk_drewN ?_ _|refine blk_drew ?_|refine blk_alloc ?_ _));refine blk_put (cs:=#[.int .i64 0,.bool false,.int .i64 0,.slice none 0 0,.slice none 0 0,.slice none 0 0,.int .i64 0,.string (⟨#[]⟩:ByteArray),.slice none 0 0,.slice none 0 0]) ?_ 0 _ rfl;(with_reducible repeat (first|refine blk_drewN ?_ _|refine blk_drew ?_|refine blk_alloc ?_ _));exact BK143.out) hb);have n2_:=Ak (below_step (by repeat (first|(with_reducible first|exact HB.out|apply below_alloc|apply pw_below_drewN|apply below_drew1|refine below_set ?_ GE143.out)|exact HB.out)) hb);clear BK143;clear HB;have HO146:=n0_;have BK143:=n1_;have HB:=n2_;clear n0_ n1_ n2_;clear hb ho16;obtain ⟨Ao17,co17,eo17⟩:=Kd.R_slice HO146.out;subst eo17;obtain ⟨hcz18_0,hcz18_1,hcz18_2,hcz18_3,hcz18_4,hcz18_5,hcz18_6,hcz18_7,hcz18_8,hcz18_9,hfz18_0,hfz18_1,hfz18_2,hfz18_3,hfz18_4,hfz18_5,hfz18_6,hfz18_7,hfz18_8,hfz18_9⟩:=bk10 BK143.out))
     go_loopg [15] kj7 (fun kq v15 w'=>∃ (x15_3:Int) (x144003_3:List Int) (u144003:Value),v15=.int .i64 x15_3∧Aside0 (spec_l4Tree.l0 kq l0 t142 a2 a3 x10_7 t138 t139 x15_3 (Int.tmod t139 4) (decide (t141<3)) 12 x144003_3 y144 x10_7 (⟨#[]⟩:ByteArray)=some (r1,r2))∧Aside0 (kq≤kj7)∧Aside0 (Kd.R (Kd.int .u32) 78 w' w.heap.size (fun _=>True) u144003 x144003_3)∧Aside0 (Kd.R k85 85 w' w.heap.size (fun _=>True) (.slice Ao17 y144.length co17) y144)∧Aside0 (w'.heap[gb143]?=some (.cells #[.int .i64 (Int.tmod t139 4),.bool (decide (t141<3)),.int .i64 12,u144003,(.slice Ao17 y144.length co17),(.slice none 0 0),.int .i64 x10_7,.string (⟨#[]⟩:ByteArray),(.slice none 0 0),(.slice none 0 0)] 44 (0,0)))∧Aside0 (Below w.heap.size w w'))
     case atStart=>exact ⟨(Int.tmod t139 4),(([]:List Int)),(.slice none 0 0),(by first|rfl|(simp;done)|(simp [*];done)),H',⟨Nat.le_refl _⟩,⟨by first|exact Kd.R_nil _ _ _ _ _|exact Kd.N_nil _ _ _ _ _|exact Kd.V_nil _ _ _ _ _|exact Kd.Q_nil _ _ _ _ _|exact Kd.S_nil _ _ _ _ _⟩,⟨by (with_reducible repeat (first|apply Kd.R_alloc|apply Kd.R_drewN|apply Kd.R_drew));exact Kd.R_mono (Kd.R_far (p:=⟨gb143,4,none⟩) (Kd.R_types HO146.out BK143.out (by decide)) (fun _ hk=>hk.2) (.slice Ao17 y144.length co17)) (fun _ hk=>trivial)⟩,⟨by (with_reducible repeat (first|refine blk_drewN ?_ _|refine blk_drew ?_|refine blk_alloc ?_ _));refine blk_put (cs:=#[.int .i64 (Int.tmod t139 4),.bool (decide (t141<3)),.int .i64 12,.slice none 0 0,.slice none 0 0,.slice none 0 0,.int .i64 x10_7,.string (⟨#[]⟩:ByteArray),.slice none 0 0,.slice none 0 0]) ?_ 4 _ rfl;(with_reducible repeat (first|refine blk_drewN ?_ _|refine blk_drew ?_|refine blk_alloc ?_ _));exact BK143.out⟩,⟨by repeat (first|(with_reducible first|exact HB.out|apply below_alloc|apply pw_below_drewN|apply below_drew1|refine below_set ?_ GE143.out)|exact HB.out)⟩⟩
     case round =>
      clear H';(try clear c1);(try clear p2);(try clear c3);(try clear c6);(try clear p6);(try clear c7);(try clear c7b0);(try clear c7b1);(try clear c9);(try clear c9b0);(try clear c11);(try clear hcz14_0);(try clear hcz14_1);(try clear hcz14_2);(try clear hcz14_3);(try clear hcz14_4);(try clear hcz14_5);(try clear hcz14_6);(try clear hcz14_7);(try clear hcz14_8);(try clear hcz14_9)
      (try clear hcz18_0);(try clear hcz18_1);(try clear hcz18_2);(try clear hcz18_3);(try clear hcz18_4);(try clear hcz18_5);(try clear hcz18_6);(try clear hcz18_7);(try clear hcz18_8);(try clear hcz18_9);(try clear hfz14_0);(try clear hfz14_1);(try clear hfz14_2);(try clear hfz14_3);(try clear hfz14_4);(try clear hfz14_5);(try clear hfz14_6);(try clear hfz14_7);(try clear hfz14_8)
      (try clear hfz14_9);(try clear hfz18_0);(try clear hfz18_1);(try clear hfz18_2);(try clear hfz18_3);(try clear hfz18_4);(try clear hfz18_5);(try clear hfz18_6);(try clear hfz18_7);(try clear hfz18_8);(try clear hfz18_9);(try clear p2);(try clear p6)
      obtain ⟨x15_3,x144003_3,u144003,rfl,HA,HK3,HO_144003,HO_144004,BK143,HB⟩:=hrel
      cases gk with
      | zero=>exact absurd HA.out (by simp [spec_l4Tree.l0])
      | succ k3 =>
       have H:=HA.out
       clear HA
       simp only [spec_l4Tree.l0] at H
       by_cases c19:x15_3<4
       ·rw [if_pos c19] at H
        have c19b0:decide (x15_3<4)=true:=decide_eq_true c19
        clear c19
        replace H:=Option.bind_eq_some_iff.mp H
        obtain ⟨t147,A200,H⟩:=H
        replace H:(if x144003_3.length<35184372088832 then (spec_l4Tree.l0 k3 l0 t142 a2 a3 x10_7 t138 t139 (wrap64 (x15_3+1)) (Int.tmod t139 4) (decide (t141<3)) 12 (x144003_3++[t147]) y144 x10_7 (⟨#[]⟩:ByteArray)) else (none))=some (r1,r2):=H
        have A20:=Ak A200;clear A200
        by_cases c21:x144003_3.length<35184372088832
        ·rw [if_pos c21] at H
         have LMc21:=Ak c21;clear c21
         obtain ⟨y148,hy148⟩:∃ y_:List Int,y_=(x144003_3++[t147]):=⟨_,rfl⟩
         replace H:(spec_l4Tree.l0 k3 l0 t142 a2 a3 x10_7 t138 t139 (wrap64 (x15_3+1)) (Int.tmod t139 4) (decide (t141<3)) 12 y148 y144 x10_7 (⟨#[]⟩:ByteArray))=some (r1,r2):=by first|(rw [hy148];with_reducible exact H)|(have H2_:=(Option.bind_some _ _).symm.trans H;rw [hy148];with_reducible exact H2_)|(have H2_:=(Option.bind_some _ _).symm.trans H;with_reducible exact H2_)|with_reducible exact H|(rw [hy148];exact H)|exact H
         have Ny148:=Ak hy148;clear hy148
         have H':=Ak H
         clear H
         try go_wp2
         have n0_:=Ak (Kd.R_drew HO_144003.out)
         have n1_:=Ak (Kd.R_drew HO_144004.out)
         have n2_:=Ak (blk_drew BK143.out)
         have n3_:=Ak (below_drew1 HB.out)
         clear HO_144003;clear HO_144004;clear BK143;clear HB;have HO_144003:=n0_;have HO_144004:=n1_;have BK143:=n2_;have HB:=n3_;clear n0_ n1_ n2_ n3_
         refine start_ (n:=12) (S:=fun w'=>w'.cell? ⟨gb143,0,none⟩=some (.int .i64 (Int.tmod t139 4))∧w'.cell? ⟨gb143,1,none⟩=some (.bool (decide (t141<3)))∧w'.cell? ⟨gb143,2,none⟩=some (.int .i64 12)∧w'.cell? ⟨gb143,3,none⟩=some (u144003)∧w'.cell? ⟨gb143,4,none⟩=some (.slice Ao17 y144.length co17)∧w'.cell? ⟨gb143,5,none⟩=some (.slice none 0 0)∧w'.cell? ⟨gb143,6,none⟩=some (.int .i64 x10_7)∧w'.cell? ⟨gb143,7,none⟩=some (.string (⟨#[]⟩:ByteArray))∧w'.cell? ⟨gb143,8,none⟩=some (.slice none 0 0)∧w'.cell? ⟨gb143,9,none⟩=some (.slice none 0 0)) (ds:=[11]) #[false,false,false,false,false,false,false,false,false,false,false,false] (by kernel_rfl) rfl rfl ⟨(blk_cell BK143.out 0).trans rfl,(blk_cell BK143.out 1).trans rfl,(blk_cell BK143.out 2).trans rfl,(blk_cell BK143.out 3).trans rfl,(blk_cell BK143.out 4).trans rfl,(blk_cell BK143.out 5).trans rfl,(blk_cell BK143.out 6).trans rfl,(blk_cell BK143.out 7).trans rfl,(blk_cell BK143.out 8).trans rfl,(blk_cell BK143.out 9).trans rfl⟩ (fun hHeld=>?_);refine with_tabW spec_l4Tree.tab15 spec_l4Tree.bits15 (fun HT_ HW_=>?_)
         generalize wr.drew=w22 at HO_144003 HO_144004 BK143 HB hHeld ⊢
         refine pure_ (i:=0) (N:=some 71) (v:=?_) (a':=?_) #[true,false,false,false,false,false,false,false,false,false,false,false] rfl rfl (any_of HT_.out (by kernel_rfl)) (fun _ _ _ h=>h) (Or.inl ⟨by rfl,?_⟩) ?_ ?_
         rotate_left
         ·intro w'
          go_simp
          with_reducible rfl
         rotate_left
         ·simp only [Act.put,List.setIfInBounds_toArray,List.set_cons_zero,List.set_cons_succ,i64_w,i32_w]
          rfl
         refine pure_ (i:=2) (N:=some 73) (v:=?_) (a':=?_) #[true,false,true,false,false,false,false,false,false,false,false,false] rfl rfl (any_of HT_.out (by kernel_rfl)) (fun _ _ _ h=>h) (Or.inl ⟨by rfl,?_⟩) ?_ ?_
         rotate_left
         ·intro w'
          go_simp
          with_reducible rfl
         rotate_left
         ·simp only [Act.put,List.setIfInBounds_toArray,List.set_cons_zero,List.set_cons_succ,i64_w,i32_w]
          rfl
         refine pure_ (i:=3) (N:=some 74) (v:=?_) (a':=?_) #[true,false,true,true,false,false,false,false,false,false,false,false] rfl rfl (any_of HT_.out (by kernel_rfl)) (fun _ _ _ h=>h) (Or.inl ⟨by rfl,?_⟩) ?_ ?_
         rotate_left
         ·intro w'
          go_simp
          with_reducible rfl
         rotate_left
         ·simp only [Act.put,List.setIfInBounds_toArray,List.set_cons_zero,List.set_cons_succ,i64_w,i32_w]
          rfl
         refine pure_ (i:=4) (N:=some 75) (v:=?_) (a':=?_) #[true,false,true,true,true,false,false,false,false,false,false,false] rfl rfl (any_of HT_.out (by kernel_rfl)) (fun _ _ _ h=>h) (Or.inl ⟨by rfl,?_⟩) ?_ ?_
         rotate_left
         ·intro w'
          go_simp
          with_reducible rfl
         rotate_left
         ·simp only [Act.put,List.setIfInBounds_toArray,List.set_cons_zero,List.set_cons_succ,i64_w,i32_w]
          rfl
         refine pure_ (i:=5) (N:=some 76) (v:=?_) (a':=?_) #[true,false,true,true,true,true,false,false,false,false,false,false] rfl rfl (any_of HT_.out (by kernel_rfl)) (fun _ _ _ h=>h) (Or.inl ⟨by rfl,?_⟩) ?_ ?_
         rotate_left
         ·intro w'
          go_simp
          with_reducible rfl
         rotate_left
         ·simp only [Act.put,List.setIfInBounds_toArray,List.set_cons_zero,List.set_cons_succ,i64_w,i32_w]
          rfl
         refine pure_ (i:=6) (N:=some 77) (v:=?_) (a':=?_) #[true,false,true,true,true,true,true,false,false,false,false,false] rfl rfl (any_of HT_.out (by kernel_rfl)) (fun _ _ _ h=>h) (Or.inl ⟨by rfl,?_⟩) ?_ ?_
         rotate_left
         ·intro w'
          go_simp
          with_reducible rfl
         rotate_left
         ·simp only [Act.put,List.setIfInBounds_toArray,List.set_cons_zero,List.set_cons_succ,i64_w,i32_w]
          rfl
         refine take_ (i:=1) (N:=some 72) (v:=?_) (a':=?_) #[true,true,true,true,true,true,true,false,false,false,false,false] rfl rfl (take_ofW HT_.out HW_.out (by kernel_rfl)) (fun _ _ _ h=>h) (Or.inl ⟨by rfl,?_⟩) hHeld ?_ ?_
         rotate_left
         ·rintro w' ⟨s0,s1,s2,s3,s4,s5,s6,s7,s8,s9⟩
          go_simp
          with_reducible rfl
         rotate_left
         ·simp only [Act.put,List.setIfInBounds_toArray,List.set_cons_zero,List.set_cons_succ,i64_w,i32_w]
          rfl
         refine one_ (i:=7) (N:=some 78) #[true,true,true,true,true,true,true,true,false,false,false,false] rfl rfl (one_of HT_.out (by kernel_rfl)) (by decide) (fun K hK=>?_)
         refine goes_ Try.func118 (by kernel_rfl) rfl #[.int .i64 1,.int .i64 x15_3,.int .i64 (Int.tmod (wrap64 (t139+x15_3)) 4)] (by rfl) rfl rfl (by (try simp only [List.map_toArray,List.map_cons,List.map_nil]);first|done|rfl|(simp only [List.length_drop,List.length_take];rfl)) ?_
         with_reducible refine (spec_l4W.calls 1 x15_3 (Int.tmod (wrap64 (t139+x15_3)) 4) t147 _ A20.out).mono ?_
         rintro e w23 ⟨rfl,hb⟩
         refine ⟨_,rfl,?_⟩
         have n0_:=Ak (Kd.R_below (by (with_reducible repeat (first|apply Kd.R_alloc|apply Kd.R_drewN|apply Kd.R_drew));exact HO_144003.out) hb)
         have n1_:=Ak (Kd.R_below (by (with_reducible repeat (first|apply Kd.R_alloc|apply Kd.R_drewN|apply Kd.R_drew));exact HO_144004.out) hb)
         have n2_:=Ak (blk_below (g:=gb143) (o:=.cells #[.int .i64 (Int.tmod t139 4),.bool (decide (t141<3)),.int .i64 12,u144003,.slice Ao17 y144.length co17,.slice none 0 0,.int .i64 x10_7,.string (⟨#[]⟩:ByteArray),.slice none 0 0,.slice none 0 0] 44 (0,0)) (by (with_reducible repeat (first|refine blk_drewN ?_ _|refine blk_drew ?_|refine blk_alloc ?_ _));exact BK143.out) hb)
         have n3_:=Ak (below_step (by repeat (first|(with_reducible first|exact HB.out|apply below_alloc|apply pw_below_drewN|apply below_drew1|refine below_set ?_ GE143.out)|exact HB.out)) hb)
         clear HO_144003;clear HO_144004;clear BK143;clear HB;have HO_144003:=n0_;have HO_144004:=n1_;have BK143:=n2_;have HB:=n3_;clear n0_ n1_ n2_ n3_
         (try clear hb)
         (try clear hb2)
         (try clear hk)
         (try clear hi)
         refine hK.out _ _ ⟨(blk_cell BK143.out 0).trans rfl,(blk_cell BK143.out 1).trans rfl,(blk_cell BK143.out 2).trans rfl,(blk_cell BK143.out 3).trans rfl,(blk_cell BK143.out 4).trans rfl,(blk_cell BK143.out 5).trans rfl,(blk_cell BK143.out 6).trans rfl,(blk_cell BK143.out 7).trans rfl,(blk_cell BK143.out 8).trans rfl,(blk_cell BK143.out 9).trans rfl⟩ (fun hHeld=>?_)
         clear hK K
         refine norm_ (a':=?_) ?_ ?_
         rotate_left
         ·show Act.put _ (some 78) _=_
          simp only [Act.put,List.setIfInBounds_toArray,List.set_cons_zero,List.set_cons_succ,i64_w,i32_w]
          rfl
         refine one_ (i:=8) (N:=some 79) #[true,true,true,true,true,true,true,true,true,false,false,false] rfl rfl (one_of HT_.out (by kernel_rfl)) (by decide) (fun K hK=>?_)
         refine value_ (w1:=?_) (v:=?_) (by rfl) rfl ?_ ?_
         rotate_left 2
         ·go_simp
          constructor
          ·rfl
          ·rfl
         refine hK.out _ _ ⟨(blk_cell (blk_alloc BK143.out _) 0).trans rfl,(blk_cell (blk_alloc BK143.out _) 1).trans rfl,(blk_cell (blk_alloc BK143.out _) 2).trans rfl,(blk_cell (blk_alloc BK143.out _) 3).trans rfl,(blk_cell (blk_alloc BK143.out _) 4).trans rfl,(blk_cell (blk_alloc BK143.out _) 5).trans rfl,(blk_cell (blk_alloc BK143.out _) 6).trans rfl,(blk_cell (blk_alloc BK143.out _) 7).trans rfl,(blk_cell (blk_alloc BK143.out _) 8).trans rfl,(blk_cell (blk_alloc BK143.out _) 9).trans rfl⟩ (fun hHeld=>?_)
         clear hK K
         refine norm_ (a':=?_) ?_ ?_
         rotate_left
         ·show Act.put _ (some 79) _=_
          simp only [Act.put,List.setIfInBounds_toArray,List.set_cons_zero,List.set_cons_succ,i64_w,i32_w]
          rfl
         refine one_ (i:=9) (N:=some 80) #[true,true,true,true,true,true,true,true,true,true,false,false] rfl rfl (one_of HT_.out (by kernel_rfl)) (by decide) (fun K hK=>?_)
         refine Kd.R_append_step (Kd.int .u32) (w0:=w) w.heap.size (by rfl) (.tmp 72) (.tmp 79) 38 78 (.int .u32 0) 4 rfl Try.underlying38 info78 rfl (by decide) (by omega) u144003 x144003_3 t147 [.int .u32 t147] (fun _=>True) (fun _=>False) rfl rfl ?aP (fun _ hk=>hk.elim) ?aF ?aO ?aB ?aS ?aL ?_
         (case aP=>exact rfl)
         (case aB=>exact (by repeat (first|(with_reducible first|exact HB.out|apply below_alloc|apply pw_below_drewN|apply below_drew1|refine below_set ?_ GE143.out)|exact HB.out)))
         (case aF=>exact (fun _ _=>trivial))
         (case aO=>exact (by (with_reducible repeat (first|apply Kd.R_alloc|apply Kd.R_drewN|apply Kd.R_drew));exact HO_144003.out))
         (case aS=>exact (below_size (by repeat (first|(with_reducible first|exact HB.out|apply below_alloc|apply pw_below_drewN|apply below_drew1|refine below_set ?_ GE143.out)|exact HB.out))))
         (case aL=>have:=LMc21.out;omega)
         intro v149 w24 ho hb hg hat
         rw [← Ny148.out] at ho
         have n0_:=Ak (Kd.R_over' (by (with_reducible repeat (first|apply Kd.R_alloc|apply Kd.R_drewN|apply Kd.R_drew));exact HO_144004.out) (Kd.R_typed (by (with_reducible repeat (first|apply Kd.R_alloc|apply Kd.R_drewN|apply Kd.R_drew));exact HO_144003.out)) (by decide) hg)
         have n1_:=Ak (blk_grown (g:=gb143) (o:=.cells #[.int .i64 (Int.tmod t139 4),.bool (decide (t141<3)),.int .i64 12,u144003,.slice Ao17 y144.length co17,.slice none 0 0,.int .i64 x10_7,.string (⟨#[]⟩:ByteArray),.slice none 0 0,.slice none 0 0] 44 (0,0)) (by (with_reducible repeat (first|refine blk_drewN ?_ _|refine blk_drew ?_|refine blk_alloc ?_ _));exact BK143.out) hg (Kd.R_ne HO_144003.out BK143.out (by decide)))
         have n2_:=Ak (hb)
         have n3_:=Ak (ho)
         clear HO_144004;clear BK143;clear HB;clear HO_144003;have HO_144004:=n0_;have BK143:=n1_;have HB:=n2_;have HO150:=n3_;clear n0_ n1_ n2_ n3_;clear ho hb hg hat
         obtain ⟨Ao25,co25,eo25⟩:=Kd.R_slice HO150.out
         (first|subst eo25|(injection eo25 with f1_ f2_ f3_;have f4_:=f1_.symm;have f5_:=f3_.symm;clear f1_ f2_ f3_;subst f4_;subst f5_))
         refine hK.out _ _ ⟨(blk_cell BK143.out 0).trans rfl,(blk_cell BK143.out 1).trans rfl,(blk_cell BK143.out 2).trans rfl,(blk_cell BK143.out 3).trans rfl,(blk_cell BK143.out 4).trans rfl,(blk_cell BK143.out 5).trans rfl,(blk_cell BK143.out 6).trans rfl,(blk_cell BK143.out 7).trans rfl,(blk_cell BK143.out 8).trans rfl,(blk_cell BK143.out 9).trans rfl⟩ (fun hHeld=>?_)
         clear hK K
         refine norm_ (a':=?_) ?_ ?_
         rotate_left
         ·show Act.put _ (some 80) _=_
          simp only [Act.put,List.setIfInBounds_toArray,List.set_cons_zero,List.set_cons_succ,i64_w,i32_w]
          rfl
         refine pure_ (i:=10) (N:=some 81) (v:=?_) (a':=?_) #[true,true,true,true,true,true,true,true,true,true,true,false] rfl rfl (any_of HT_.out (by kernel_rfl)) (fun _ _ _ h=>h) (Or.inl ⟨by rfl,?_⟩) ?_ ?_
         rotate_left
         ·intro w'
          go_simp
          with_reducible rfl
         rotate_left
         ·simp only [Act.put,List.setIfInBounds_toArray,List.set_cons_zero,List.set_cons_succ,i64_w,i32_w]
          rfl
         refine last_ (i:=11) (N:=none) #[true,true,true,true,true,true,true,true,true,true,true,true] rfl rfl (one_of HT_.out (by kernel_rfl)) (by decide) (fun K hK=>?_)
         have hs26:w24.cell? ⟨gb143,3,none⟩=some (u144003):=(blk_cell BK143.out 3).trans rfl
         have hfs26:=blk_frozen BK143.out 3
         refine skip_ (w1:=?_) (by rfl) rfl ?_ ?_
         rotate_left
         ·go_simp
          rfl
         refine hK.out _ _ ?_
         clear hK K
         refine done_ (done_of HT_.out (by kernel_rfl)) ?_
         try go_wp2
         go_roundg k3
         case measure=>have:=HJ5.out;have:=HJ7.out;have:=HK3.out;omega
         case rel=>exact ⟨(wrap64 (x15_3+1)),(y148),(.slice Ao25 y148.length co25),(by first|rfl|(simp;done)|(simp [*];done)),H',⟨by have:=HJ5.out;have:=HJ7.out;have:=HK3.out;omega⟩,⟨by (with_reducible repeat (first|apply Kd.R_alloc|apply Kd.R_drewN|apply Kd.R_drew));exact Kd.R_mono (Kd.R_far (p:=⟨gb143,3,none⟩) (Kd.R_types HO150.out BK143.out (by decide)) (fun _ hk=>hk.2) (.slice Ao25 y148.length co25)) (fun _ hk=>trivial)⟩,⟨by (with_reducible repeat (first|apply Kd.R_alloc|apply Kd.R_drewN|apply Kd.R_drew));exact Kd.R_mono (Kd.R_far (p:=⟨gb143,3,none⟩) (Kd.R_types HO_144004.out BK143.out (by decide)) (fun _ hk=>hk.2) (.slice Ao25 y148.length co25)) (fun _ hk=>trivial)⟩,⟨by (with_reducible repeat (first|refine blk_drewN ?_ _|refine blk_drew ?_|refine blk_alloc ?_ _));refine blk_put (cs:=#[.int .i64 (Int.tmod t139 4),.bool (decide (t141<3)),.int .i64 12,u144003,.slice Ao17 y144.length co17,.slice none 0 0,.int .i64 x10_7,.string (⟨#[]⟩:ByteArray),.slice none 0 0,.slice none 0 0]) ?_ 3 _ rfl;(with_reducible repeat (first|refine blk_drewN ?_ _|refine blk_drew ?_|refine blk_alloc ?_ _));exact BK143.out⟩,⟨by repeat (first|(with_reducible first|exact HB.out|apply below_alloc|apply pw_below_drewN|apply below_drew1|refine below_set ?_ GE143.out)|exact HB.out)⟩⟩
        ·rw [if_neg c21] at H
         exact absurd H (by simp)
       ·rw [if_neg c19] at H
        have c19b0:decide (x15_3<4)=false:=decide_eq_false c19
        clear c19
        replace H:=Option.bind_eq_some_iff.mp H
        obtain ⟨t151,A270,H⟩:=H
        replace H:((spec_l4W.f 1 5 4).bind fun t152=>((some (([t151,t152]:List Int):List Int)).bind fun y153=>(if x144003_3.length+y153.length<35184372088832 then (spec_l4Tree.l1 k3 l0 t142 a2 a3 x10_7 t138 0 (Int.tmod t139 4) (decide (t141<3)) 12 (x144003_3++y153) y144 x10_7 (⟨#[]⟩:ByteArray)) else (none))))=some (r1,r2):=H
        have A27:=Ak A270;clear A270
        replace H:=Option.bind_eq_some_iff.mp H
        obtain ⟨t152,A280,H⟩:=H
        replace H:((some (([t151,t152]:List Int):List Int)).bind fun y153=>(if x144003_3.length+y153.length<35184372088832 then (spec_l4Tree.l1 k3 l0 t142 a2 a3 x10_7 t138 0 (Int.tmod t139 4) (decide (t141<3)) 12 (x144003_3++y153) y144 x10_7 (⟨#[]⟩:ByteArray)) else (none)))=some (r1,r2):=H
        have A28:=Ak A280;clear A280
        obtain ⟨y153,hy153⟩:∃ y_:List Int,y_=(([t151,t152]:List Int)):=⟨_,rfl⟩
        replace H:(if x144003_3.length+y153.length<35184372088832 then (spec_l4Tree.l1 k3 l0 t142 a2 a3 x10_7 t138 0 (Int.tmod t139 4) (decide (t141<3)) 12 (x144003_3++y153) y144 x10_7 (⟨#[]⟩:ByteArray)) else (none))=some (r1,r2):=by first|(rw [hy153];with_reducible exact H)|(have H2_:=(Option.bind_some _ _).symm.trans H;rw [hy153];with_reducible exact H2_)|(have H2_:=(Option.bind_some _ _).symm.trans H;with_reducible exact H2_)|with_reducible exact H|(rw [hy153];exact H)|exact H
        have Ny153:=Ak hy153;clear hy153
        by_cases c29:x144003_3.length+y153.length<35184372088832
        ·rw [if_pos c29] at H
         have LMc29:=Ak c29;clear c29
         obtain ⟨y156,hy156⟩:∃ y_:List Int,y_=(x144003_3++y153):=⟨_,rfl⟩
         replace H:(spec_l4Tree.l1 k3 l0 t142 a2 a3 x10_7 t138 0 (Int.tmod t139 4) (decide (t141<3)) 12 y156 y144 x10_7 (⟨#[]⟩:ByteArray))=some (r1,r2):=by first|(rw [hy156];with_reducible exact H)|(have H2_:=(Option.bind_some _ _).symm.trans H;rw [hy156];with_reducible exact H2_)|(have H2_:=(Option.bind_some _ _).symm.trans H;with_reducible exact H2_)|with_reducible exact H|(rw [hy156];exact H)|exact H
         have Ny156:=Ak hy156;clear hy156
         have H':=Ak H
         clear H
         try go_wp2
         have n0_:=Ak (Kd.R_drew HO_144003.out)
         have n1_:=Ak (Kd.R_drew HO_144004.out)
         have n2_:=Ak (blk_drew BK143.out)
         have n3_:=Ak (below_drew1 HB.out)
         clear HO_144003;clear HO_144004;clear BK143;clear HB;have HO_144003:=n0_;have HO_144004:=n1_;have BK143:=n2_;have HB:=n3_;clear n0_ n1_ n2_ n3_
         refine start_ (n:=8) (S:=fun w'=>w'.cell? ⟨gb143,0,none⟩=some (.int .i64 (Int.tmod t139 4))∧w'.cell? ⟨gb143,1,none⟩=some (.bool (decide (t141<3)))∧w'.cell? ⟨gb143,2,none⟩=some (.int .i64 12)∧w'.cell? ⟨gb143,3,none⟩=some (u144003)∧w'.cell? ⟨gb143,4,none⟩=some (.slice Ao17 y144.length co17)∧w'.cell? ⟨gb143,5,none⟩=some (.slice none 0 0)∧w'.cell? ⟨gb143,6,none⟩=some (.int .i64 x10_7)∧w'.cell? ⟨gb143,7,none⟩=some (.string (⟨#[]⟩:ByteArray))∧w'.cell? ⟨gb143,8,none⟩=some (.slice none 0 0)∧w'.cell? ⟨gb143,9,none⟩=some (.slice none 0 0)) (ds:=[7]) #[false,false,false,false,false,false,false,false] (by kernel_rfl) rfl rfl ⟨(blk_cell BK143.out 0).trans rfl,(blk_cell BK143.out 1).trans rfl,(blk_cell BK143.out 2).trans rfl,(blk_cell BK143.out 3).trans rfl,(blk_cell BK143.out 4).trans rfl,(blk_cell BK143.out 5).trans rfl,(blk_cell BK143.out 6).trans rfl,(blk_cell BK143.out 7).trans rfl,(blk_cell BK143.out 8).trans rfl,(blk_cell BK143.out 9).trans rfl⟩ (fun hHeld=>?_);refine with_tabW spec_l4Tree.tab16 spec_l4Tree.bits16 (fun HT_ HW_=>?_)
         generalize wr.drew=w30 at HO_144003 HO_144004 BK143 HB hHeld ⊢
         refine pure_ (i:=0) (N:=some 82) (v:=?_) (a':=?_) #[true,false,false,false,false,false,false,false] rfl rfl (any_of HT_.out (by kernel_rfl)) (fun _ _ _ h=>h) (Or.inl ⟨by rfl,?_⟩) ?_ ?_
         rotate_left
         ·intro w'
          go_simp
          with_reducible rfl
         rotate_left
         ·simp only [Act.put,List.setIfInBounds_toArray,List.set_cons_zero,List.set_cons_succ,i64_w,i32_w]
          rfl
         refine take_ (i:=1) (N:=some 83) (v:=?_) (a':=?_) #[true,true,false,false,false,false,false,false] rfl rfl (take_ofW HT_.out HW_.out (by kernel_rfl)) (fun _ _ _ h=>h) (Or.inl ⟨by rfl,?_⟩) hHeld ?_ ?_
         rotate_left
         ·rintro w' ⟨s0,s1,s2,s3,s4,s5,s6,s7,s8,s9⟩
          go_simp
          with_reducible rfl
         rotate_left
         ·simp only [Act.put,List.setIfInBounds_toArray,List.set_cons_zero,List.set_cons_succ,i64_w,i32_w]
          rfl
         refine one_ (i:=2) (N:=some 84) #[true,true,true,false,false,false,false,false] rfl rfl (one_of HT_.out (by kernel_rfl)) (by decide) (fun K hK=>?_)
         refine goes_ Try.func119 (by kernel_rfl) rfl #[.int .i64 6,.int .i64 4,.int .i64 0,.int .i64 0] (by rfl) rfl rfl (by (try simp only [List.map_toArray,List.map_cons,List.map_nil]);first|done|rfl|(simp only [List.length_drop,List.length_take];rfl)) ?_
         with_reducible refine (spec_l4I.calls 6 4 0 0 t151 _ A27.out).mono ?_
         rintro e w31 ⟨rfl,hb⟩
         refine ⟨_,rfl,?_⟩
         have n0_:=Ak (Kd.R_below (by (with_reducible repeat (first|apply Kd.R_alloc|apply Kd.R_drewN|apply Kd.R_drew));exact HO_144003.out) hb)
         have n1_:=Ak (Kd.R_below (by (with_reducible repeat (first|apply Kd.R_alloc|apply Kd.R_drewN|apply Kd.R_drew));exact HO_144004.out) hb)
         have n2_:=Ak (blk_below (g:=gb143) (o:=.cells #[.int .i64 (Int.tmod t139 4),.bool (decide (t141<3)),.int .i64 12,u144003,.slice Ao17 y144.length co17,.slice none 0 0,.int .i64 x10_7,.string (⟨#[]⟩:ByteArray),.slice none 0 0,.slice none 0 0] 44 (0,0)) (by (with_reducible repeat (first|refine blk_drewN ?_ _|refine blk_drew ?_|refine blk_alloc ?_ _));exact BK143.out) hb)
         have n3_:=Ak (below_step (by repeat (first|(with_reducible first|exact HB.out|apply below_alloc|apply pw_below_drewN|apply below_drew1|refine below_set ?_ GE143.out)|exact HB.out)) hb)
         clear HO_144003;clear HO_144004;clear BK143;clear HB;have HO_144003:=n0_;have HO_144004:=n1_;have BK143:=n2_;have HB:=n3_;clear n0_ n1_ n2_ n3_
         (try clear hb)
         (try clear hb2)
         (try clear hk)
         (try clear hi)
         refine hK.out _ _ ⟨(blk_cell BK143.out 0).trans rfl,(blk_cell BK143.out 1).trans rfl,(blk_cell BK143.out 2).trans rfl,(blk_cell BK143.out 3).trans rfl,(blk_cell BK143.out 4).trans rfl,(blk_cell BK143.out 5).trans rfl,(blk_cell BK143.out 6).trans rfl,(blk_cell BK143.out 7).trans rfl,(blk_cell BK143.out 8).trans rfl,(blk_cell BK143.out 9).trans rfl⟩ (fun hHeld=>?_)
         clear hK K
         refine norm_ (a':=?_) ?_ ?_
         rotate_left
         ·show Act.put _ (some 84) _=_
          simp only [Act.put,List.setIfInBounds_toArray,List.set_cons_zero,List.set_cons_succ,i64_w,i32_w]
          rfl
         refine one_ (i:=3) (N:=some 85) #[true,true,true,true,false,false,false,false] rfl rfl (one_of HT_.out (by kernel_rfl)) (by decide) (fun K hK=>?_)
         refine goes_ Try.func118 (by kernel_rfl) rfl #[.int .i64 1,.int .i64 5,.int .i64 4] (by rfl) rfl rfl (by (try simp only [List.map_toArray,List.map_cons,List.map_nil]);first|done|rfl|(simp only [List.length_drop,List.length_take];rfl)) ?_
         with_reducible refine (spec_l4W.calls 1 5 4 t152 _ A28.out).mono ?_
         rintro e w32 ⟨rfl,hb⟩
         refine ⟨_,rfl,?_⟩
         have n0_:=Ak (Kd.R_below (by (with_reducible repeat (first|apply Kd.R_alloc|apply Kd.R_drewN|apply Kd.R_drew));exact HO_144003.out) hb)
         have n1_:=Ak (Kd.R_below (by (with_reducible repeat (first|apply Kd.R_alloc|apply Kd.R_drewN|apply Kd.R_drew));exact HO_144004.out) hb)
         have n2_:=Ak (blk_below (g:=gb143) (o:=.cells #[.int .i64 (Int.tmod t139 4),.bool (decide (t141<3)),.int .i64 12,u144003,.slice Ao17 y144.length co17,.slice none 0 0,.int .i64 x10_7,.string (⟨#[]⟩:ByteArray),.slice none 0 0,.slice none 0 0] 44 (0,0)) (by (with_reducible repeat (first|refine blk_drewN ?_ _|refine blk_drew ?_|refine blk_alloc ?_ _));exact BK143.out) hb)
         have n3_:=Ak (below_step (by repeat (first|(with_reducible first|exact HB.out|apply below_alloc|apply pw_below_drewN|apply below_drew1|refine below_set ?_ GE143.out)|exact HB.out)) hb)
         clear HO_144003;clear HO_144004;clear BK143;clear HB;have HO_144003:=n0_;have HO_144004:=n1_;have BK143:=n2_;have HB:=n3_;clear n0_ n1_ n2_ n3_
         (try clear hb)
         (try clear hb2)
         (try clear hk)
         (try clear hi)
         refine hK.out _ _ ⟨(blk_cell BK143.out 0).trans rfl,(blk_cell BK143.out 1).trans rfl,(blk_cell BK143.out 2).trans rfl,(blk_cell BK143.out 3).trans rfl,(blk_cell BK143.out 4).trans rfl,(blk_cell BK143.out 5).trans rfl,(blk_cell BK143.out 6).trans rfl,(blk_cell BK143.out 7).trans rfl,(blk_cell BK143.out 8).trans rfl,(blk_cell BK143.out 9).trans rfl⟩ (fun hHeld=>?_)
         clear hK K
         refine norm_ (a':=?_) ?_ ?_
         rotate_left
         ·show Act.put _ (some 85) _=_
          simp only [Act.put,List.setIfInBounds_toArray,List.set_cons_zero,List.set_cons_succ,i64_w,i32_w]
          rfl
         refine one_ (i:=4) (N:=some 86) #[true,true,true,true,true,false,false,false] rfl rfl (one_of HT_.out (by kernel_rfl)) (by decide) (fun K hK=>?_)
         refine Kd.R_lit_step (Kd.int .u32) _ 78 ?hg (N:=86) ?hd (xs:=([t151,t152]:List Int)) (inner:=[.int .u32 t151,.int .u32 t152]) (ok:=fun _=>True) (okp:=fun _=>True) ?hr ?hp (fun _ hk=>hk) trivial (Below.refl _ _) (Nat.le_refl _) (by simp) ?_;(case hd=>rfl);(case hg=>rfl);(case hr=>first|(go_simp;done)|(go_simp;rfl));(case hp=>exact (Reps.one (show Kd.M (Kd.int .u32) _ _ _ t151 [.int .u32 t151] from rfl) (Reps.one (show Kd.M (Kd.int .u32) _ _ _ t152 [.int .u32 t152] from rfl) (Reps.none _ _))))
         intro v154 w33 ho34 hb hg_ hnew_
         clear hg_ hnew_
         (first|rw [← Ny153.out] at ho34|(simp only [Int.reduceToNat] at ho34;rw [← Ny153.out] at ho34))
         have n0_:=Ak (Kd.R_elder' (by (with_reducible repeat (first|apply Kd.R_alloc|apply Kd.R_drewN|apply Kd.R_drew));exact HO_144003.out) (Kd.R_base ho34) hb)
         have n1_:=Ak (Kd.R_below (by (with_reducible repeat (first|apply Kd.R_alloc|apply Kd.R_drewN|apply Kd.R_drew));exact HO_144004.out) hb)
         have n2_:=Ak (Kd.R_lower (Kd.R_new' ho34 (Kd.R_lt (by (with_reducible repeat (first|apply Kd.R_alloc|apply Kd.R_drewN|apply Kd.R_drew));exact HO_144003.out))) (below_size (by repeat (first|(with_reducible first|exact HB.out|apply below_alloc|apply pw_below_drewN|apply below_drew1|refine below_set ?_ GE143.out)|exact HB.out))))
         have n3_:=Ak (blk_below (g:=gb143) (o:=.cells #[.int .i64 (Int.tmod t139 4),.bool (decide (t141<3)),.int .i64 12,u144003,.slice Ao17 y144.length co17,.slice none 0 0,.int .i64 x10_7,.string (⟨#[]⟩:ByteArray),.slice none 0 0,.slice none 0 0] 44 (0,0)) (by (with_reducible repeat (first|refine blk_drewN ?_ _|refine blk_drew ?_|refine blk_alloc ?_ _));exact BK143.out) hb)
         have n4_:=Ak (below_step (by repeat (first|(with_reducible first|exact HB.out|apply below_alloc|apply pw_below_drewN|apply below_drew1|refine below_set ?_ GE143.out)|exact HB.out)) hb)
         clear HO_144003;clear HO_144004;clear BK143;clear HB;have HO_144003:=n0_;have HO_144004:=n1_;have HO155:=n2_;have BK143:=n3_;have HB:=n4_;clear n0_ n1_ n2_ n3_ n4_;clear hb ho34
         obtain ⟨Ao36,co36,eo36⟩:=Kd.R_slice HO155.out
         (first|subst eo36|(injection eo36 with f1_ f2_ f3_;have f4_:=f1_.symm;have f5_:=f3_.symm;clear f1_ f2_ f3_;subst f4_;subst f5_))
         refine hK.out _ _ ⟨(blk_cell BK143.out 0).trans rfl,(blk_cell BK143.out 1).trans rfl,(blk_cell BK143.out 2).trans rfl,(blk_cell BK143.out 3).trans rfl,(blk_cell BK143.out 4).trans rfl,(blk_cell BK143.out 5).trans rfl,(blk_cell BK143.out 6).trans rfl,(blk_cell BK143.out 7).trans rfl,(blk_cell BK143.out 8).trans rfl,(blk_cell BK143.out 9).trans rfl⟩ (fun hHeld=>?_)
         clear hK K
         refine norm_ (a':=?_) ?_ ?_
         rotate_left
         ·show Act.put _ (some 86) _=_
          simp only [Act.put,List.setIfInBounds_toArray,List.set_cons_zero,List.set_cons_succ,i64_w,i32_w]
          rfl
         refine one_ (i:=5) (N:=some 87) #[true,true,true,true,true,true,false,false] rfl rfl (one_of HT_.out (by kernel_rfl)) (by decide) (fun K hK=>?_)
         refine Kd.R_append_rows_step (Kd.int .u32) (w0:=w) w.heap.size (by rfl) (.tmp 83) (.tmp 86) 38 78 (.int .u32 0) 4 rfl Try.underlying38 info78 rfl (by decide) (by omega) u144003 x144003_3 y153 _ _ _ (fun k_=>some k_≠(.slice Ao36 y153.length co36:Value).ownBlock) (fun _=>False) rfl rfl ?aO ?aR (fun _ _ h=>h) (fun _ h=>h.elim) ?aF ?aB ?aS ?aL ?_
         (case aR=>repeat (first|exact (Kd.R_reads' HO155.out).2.2|(with_reducible refine Kd.C_alloc ?_ _)|(with_reducible refine Kd.C_drewN ?_ _)|(with_reducible refine Kd.C_drew ?_)))
         (case aB=>exact (by repeat (first|(with_reducible first|exact HB.out|apply below_alloc|apply pw_below_drewN|apply below_drew1|refine below_set ?_ GE143.out)|exact HB.out)))
         (case aF=>exact (fun k_ hk=>Kd.fresh' (Kd.R_lt (by (with_reducible repeat (first|apply Kd.R_alloc|apply Kd.R_drewN|apply Kd.R_drew));exact HO155.out)) k_ hk))
         (case aO=>exact (by (with_reducible repeat (first|apply Kd.R_alloc|apply Kd.R_drewN|apply Kd.R_drew));exact Kd.R_mono HO_144003.out (fun _ hk=>hk.2)))
         (case aS=>exact (below_size (by repeat (first|(with_reducible first|exact HB.out|apply below_alloc|apply pw_below_drewN|apply below_drew1|refine below_set ?_ GE143.out)|exact HB.out))))
         (case aL=>have:=LMc29.out;omega)
         intro v157 w35 ho hb hg hat
         rw [← Ny156.out] at ho
         have n0_:=Ak (Kd.R_over' (by (with_reducible repeat (first|apply Kd.R_alloc|apply Kd.R_drewN|apply Kd.R_drew));exact HO_144004.out) (Kd.R_typed (by (with_reducible repeat (first|apply Kd.R_alloc|apply Kd.R_drewN|apply Kd.R_drew));exact HO_144003.out)) (by decide) hg)
         have n1_:=Ak (blk_grown (g:=gb143) (o:=.cells #[.int .i64 (Int.tmod t139 4),.bool (decide (t141<3)),.int .i64 12,u144003,.slice Ao17 y144.length co17,.slice none 0 0,.int .i64 x10_7,.string (⟨#[]⟩:ByteArray),.slice none 0 0,.slice none 0 0] 44 (0,0)) (by (with_reducible repeat (first|refine blk_drewN ?_ _|refine blk_drew ?_|refine blk_alloc ?_ _));exact BK143.out) hg (Kd.R_ne HO_144003.out BK143.out (by decide)))
         have n2_:=Ak (Kd.R_after (ok:=(fun _=>True)) (by (with_reducible repeat (first|apply Kd.R_alloc|apply Kd.R_drewN|apply Kd.R_drew));exact HO155.out) hg hat)
         have n3_:=Ak (hb)
         have n4_:=Ak (ho)
         clear HO_144004;clear BK143;clear HO155;clear HB;clear HO_144003;have HO_144004:=n0_;have BK143:=n1_;have HO155:=n2_;have HB:=n3_;have HO158:=n4_;clear n0_ n1_ n2_ n3_ n4_;clear ho hb hg hat
         obtain ⟨Ao37,co37,eo37⟩:=Kd.R_slice HO158.out
         (first|subst eo37|(injection eo37 with f1_ f2_ f3_;have f4_:=f1_.symm;have f5_:=f3_.symm;clear f1_ f2_ f3_;subst f4_;subst f5_))
         refine hK.out _ _ ⟨(blk_cell BK143.out 0).trans rfl,(blk_cell BK143.out 1).trans rfl,(blk_cell BK143.out 2).trans rfl,(blk_cell BK143.out 3).trans rfl,(blk_cell BK143.out 4).trans rfl,(blk_cell BK143.out 5).trans rfl,(blk_cell BK143.out 6).trans rfl,(blk_cell BK143.out 7).trans rfl,(blk_cell BK143.out 8).trans rfl,(blk_cell BK143.out 9).trans rfl⟩ (fun hHeld=>?_)
         clear hK K
         refine norm_ (a':=?_) ?_ ?_
         rotate_left
         ·show Act.put _ (some 87) _=_
          simp only [Act.put,List.setIfInBounds_toArray,List.set_cons_zero,List.set_cons_succ,i64_w,i32_w]
          rfl
         refine pure_ (i:=6) (N:=some 88) (v:=?_) (a':=?_) #[true,true,true,true,true,true,true,false] rfl rfl (any_of HT_.out (by kernel_rfl)) (fun _ _ _ h=>h) (Or.inl ⟨by rfl,?_⟩) ?_ ?_
         rotate_left
         ·intro w'
          go_simp
          with_reducible rfl
         rotate_left
         ·simp only [Act.put,List.setIfInBounds_toArray,List.set_cons_zero,List.set_cons_succ,i64_w,i32_w]
          rfl
         refine last_ (i:=7) (N:=none) #[true,true,true,true,true,true,true,true] rfl rfl (one_of HT_.out (by kernel_rfl)) (by decide) (fun K hK=>?_)
         have hs38:w35.cell? ⟨gb143,3,none⟩=some (u144003):=(blk_cell BK143.out 3).trans rfl
         have hfs38:=blk_frozen BK143.out 3
         refine skip_ (w1:=?_) (by rfl) rfl ?_ ?_
         rotate_left
         ·go_simp
          rfl
         refine hK.out _ _ ?_
         clear hK K
         refine done_ (done_of HT_.out (by kernel_rfl)) ?_
         try go_wp2
         go_loopg [1,16] k3 (fun kq v1 v16 w'=>∃ (x1_4:Int) (x16_4:Int) (x144003_4:List Int) (u144003:Value),v1=.int .i64 x1_4∧v16=.int .i64 x16_4∧Aside0 (spec_l4Tree.l1 kq l0 x1_4 a2 a3 x10_7 t138 x16_4 (Int.tmod t139 4) (decide (t141<3)) 12 x144003_4 y144 x10_7 (⟨#[]⟩:ByteArray)=some (r1,r2))∧Aside0 (kq≤k3)∧Aside0 (Kd.R (Kd.int .u32) 78 w' w.heap.size (fun _=>True) u144003 x144003_4)∧Aside0 (Kd.R k85 85 w' w.heap.size (fun _=>True) (.slice Ao17 y144.length co17) y144)∧Aside0 (w'.heap[gb143]?=some (.cells #[.int .i64 (Int.tmod t139 4),.bool (decide (t141<3)),.int .i64 12,u144003,(.slice Ao17 y144.length co17),(.slice none 0 0),.int .i64 x10_7,.string (⟨#[]⟩:ByteArray),(.slice none 0 0),(.slice none 0 0)] 44 (0,0)))∧Aside0 (Below w.heap.size w w'))
         case atStart=>exact ⟨(t142),(0),(y156),(.slice Ao37 y156.length co37),(by first|rfl|(simp;done)|(simp [*];done)),(by first|rfl|(simp;done)|(simp [*];done)),H',⟨Nat.le_refl _⟩,⟨by (with_reducible repeat (first|apply Kd.R_alloc|apply Kd.R_drewN|apply Kd.R_drew));exact Kd.R_mono (Kd.R_far (p:=⟨gb143,3,none⟩) (Kd.R_types HO158.out BK143.out (by decide)) (fun _ hk=>hk.2) (.slice Ao37 y156.length co37)) (fun _ hk=>trivial)⟩,⟨by (with_reducible repeat (first|apply Kd.R_alloc|apply Kd.R_drewN|apply Kd.R_drew));exact Kd.R_mono (Kd.R_far (p:=⟨gb143,3,none⟩) (Kd.R_types HO_144004.out BK143.out (by decide)) (fun _ hk=>hk.2) (.slice Ao37 y156.length co37)) (fun _ hk=>trivial)⟩,⟨by (with_reducible repeat (first|refine blk_drewN ?_ _|refine blk_drew ?_|refine blk_alloc ?_ _));refine blk_put (cs:=#[.int .i64 (Int.tmod t139 4),.bool (decide (t141<3)),.int .i64 12,u144003,.slice Ao17 y144.length co17,.slice none 0 0,.int .i64 x10_7,.string (⟨#[]⟩:ByteArray),.slice none 0 0,.slice none 0 0]) ?_ 3 _ rfl;(with_reducible repeat (first|refine blk_drewN ?_ _|refine blk_drew ?_|refine blk_alloc ?_ _));exact BK143.out⟩,⟨by repeat (first|(with_reducible first|exact HB.out|apply below_alloc|apply pw_below_drewN|apply below_drew1|refine below_set ?_ GE143.out)|exact HB.out)⟩⟩
         case round =>
          clear H';(try clear c1);(try clear c2);(try clear p2);(try clear c3);(try clear c6);(try clear p6);(try clear c7);(try clear c7b0);(try clear c7b1);(try clear c9);(try clear c9b0);(try clear c11);(try clear c19);(try clear c19b0);(try clear c21);(try clear c29);(try clear c30);(try clear hcz14_0);(try clear hcz14_1);(try clear hcz14_2);(try clear hcz14_3);(try clear hcz14_4)
          (try clear hcz14_5);(try clear hcz14_6);(try clear hcz14_7);(try clear hcz14_8);(try clear hcz14_9);(try clear hcz18_0);(try clear hcz18_1);(try clear hcz18_2);(try clear hcz18_3);(try clear hcz18_4);(try clear hcz18_5);(try clear hcz18_6);(try clear hcz18_7);(try clear hcz18_8);(try clear hcz18_9);(try clear hfz14_0);(try clear hfz14_1);(try clear hfz14_2);(try clear hfz14_3)
          (try clear hfz14_4);(try clear hfz14_5);(try clear hfz14_6);(try clear hfz14_7);(try clear hfz14_8);(try clear hfz14_9);(try clear hfz18_0);(try clear hfz18_1);(try clear hfz18_2);(try clear hfz18_3);(try clear hfz18_4);(try clear hfz18_5);(try clear hfz18_6);(try clear hfz18_7);(try clear hfz18_8);(try clear hfz18_9);(try clear p2);(try clear p6)
          obtain ⟨x1_4,x16_4,x144003_4,u144003,rfl,rfl,HA,HK4,HO_144003,HO_144004,BK143,HB⟩:=hrel
          cases gk with
          | zero=>exact absurd HA.out (by simp [spec_l4Tree.l1])
          | succ k4 =>
           have H:=HA.out
           clear HA
           simp only [spec_l4Tree.l1] at H
           by_cases c39:x16_4<t138
           ·rw [if_pos c39] at H
            have c39b0:decide (x16_4<t138)=true:=decide_eq_true c39
            clear c39
            replace H:=Option.bind_eq_some_iff.mp H
            obtain ⟨⟨t159,t160⟩,A400,H⟩:=H
            replace H:(spec_l4Tree.l2 k4 l0 t160 a2 a3 x10_7 t138 x16_4 t159 0 (Int.tmod t139 4) (decide (t141<3)) 12 x144003_4 y144 x10_7 (⟨#[]⟩:ByteArray))=some (r1,r2):=H
            have A40:=Ak A400;clear A400
            have H':=Ak H
            clear H
            obtain ⟨hcz41_0,hcz41_1,hcz41_2,hcz41_3,hcz41_4,hcz41_5,hcz41_6,hcz41_7,hcz41_8,hcz41_9,hfz41_0,hfz41_1,hfz41_2,hfz41_3,hfz41_4,hfz41_5,hfz41_6,hfz41_7,hfz41_8,hfz41_9⟩:=bk10 BK143.out
            go_wp2_with (first|((with_reducible refine gate_callee (f:=120) rfl ?_);refine goesL_ (some 103) rfl rfl Try.func120 (by kernel_rfl) rfl #[.slice A0 l0.length c0,.int .i64 x1_4,.int .i64 x10_7,.int .i64 a3,.bool (decide (t141<3)),.bool (decide (a2 > 0))] rfl (by (try simp only [List.map_toArray,List.map_cons,List.map_nil]);first|done|rfl|(simp only [List.length_drop,List.length_take];rfl)) ?_;(with_reducible refine (spec_l4Block.calls k4 _ _ l0 x1_4 x10_7 a3 (decide (t141<3)) (decide (a2 > 0)) t159 t160 _ ?side1 ?side2 A40.out).mono ?_);(case side1=>repeat (first|exact (Kd.C_below HR0.out HB.out)|(with_reducible refine Kd.C_alloc ?_ _)|(with_reducible refine Kd.C_drewN ?_ _)|(with_reducible refine Kd.C_drew ?_)));(case side2=>exact HC0.out);rintro e w42 ⟨v161,rfl,ho0,hb⟩;refine ⟨_,rfl,?_⟩;have n0_:=Ak (Kd.R_elder' (by (with_reducible repeat (first|apply Kd.R_alloc|apply Kd.R_drewN|apply Kd.R_drew));exact HO_144003.out) (Kd.R_base ho0) hb);have n1_:=Ak (Kd.R_below (by (with_reducible repeat (first|apply Kd.R_alloc|apply Kd.R_drewN|apply Kd.R_drew));exact HO_144004.out) hb);have n2_:=Ak (Kd.R_lower (Kd.R_new' ho0 (Kd.R_lt (by (with_reducible repeat (first|apply Kd.R_alloc|apply Kd.R_drewN|apply Kd.R_drew));exact HO_144003.out))) (below_size (by repeat (first|(with_reducible first|exact HB.out|apply below_alloc|apply pw_below_drewN|apply below_drew1|refine below_set ?_ GE143.out)|exact HB.out))));have n3_:=Ak (blk_below (g:=gb143) (o:=.cells #[.int .i64 (Int.tmod t139 4),.bool (decide (t141<3)),.int .i64 12,u144003,.slice Ao17 y144.length co17,.slice none 0 0,.int .i64 x10_7,.string (⟨#[]⟩:ByteArray),.slice none 0 0,.slice none 0 0] 44 (0,0)) (by (with_reducible repeat (first|refine blk_drewN ?_ _|refine blk_drew ?_|refine blk_alloc ?_ _));exact BK143.out) hb);have n4_:=Ak (below_step (by repeat (first|(with_reducible first|exact HB.out|apply below_alloc|apply pw_below_drewN|apply below_drew1|refine below_set ?_ GE143.out)|exact HB.out)) hb);clear HO_144003;clear HO_144004;clear BK143;clear HB;have HO_144003:=n0_;have HO_144004:=n1_;have HO162:=n2_;have BK143:=n3_;have HB:=n4_;clear n0_ n1_ n2_ n3_ n4_;(try clear hb);(try clear hb2);(try clear hk);(try clear hi);(try clear ho0)))
            go_loopg [18] k4 (fun kq v18 w'=>∃ (x18_5:Int) (x144003_5:List Int) (u144003:Value),v18=.int .i64 x18_5∧Aside0 (spec_l4Tree.l2 kq l0 t160 a2 a3 x10_7 t138 x16_4 t159 x18_5 (Int.tmod t139 4) (decide (t141<3)) 12 x144003_5 y144 x10_7 (⟨#[]⟩:ByteArray)=some (r1,r2))∧Aside0 (kq≤k4)∧Aside0 (Kd.R (Kd.int .u32) 78 w' w.heap.size (fun k_=>some k_≠(u144003:Value).ownBlock) v161 t159)∧Aside0 (Kd.R (Kd.int .u32) 78 w' w.heap.size (fun k_=>some k_≠(v161:Value).ownBlock) u144003 x144003_5)∧Aside0 (Kd.R k85 85 w' w.heap.size (fun _=>True) (.slice Ao17 y144.length co17) y144)∧Aside0 (w'.heap[gb143]?=some (.cells #[.int .i64 (Int.tmod t139 4),.bool (decide (t141<3)),.int .i64 12,u144003,(.slice Ao17 y144.length co17),(.slice none 0 0),.int .i64 x10_7,.string (⟨#[]⟩:ByteArray),(.slice none 0 0),(.slice none 0 0)] 44 (0,0)))∧Aside0 (Below w.heap.size w w'))
            case atStart=>exact ⟨(0),(x144003_4),(u144003),(by first|rfl|(simp;done)|(simp [*];done)),H',⟨Nat.le_refl _⟩,⟨by (with_reducible repeat (first|apply Kd.R_alloc|apply Kd.R_drewN|apply Kd.R_drew));exact Kd.R_mono HO162.out (fun _ hk=>hk.2)⟩,⟨by (with_reducible repeat (first|apply Kd.R_alloc|apply Kd.R_drewN|apply Kd.R_drew));exact Kd.R_mono HO_144003.out (fun _ hk=>hk.2)⟩,⟨by (with_reducible repeat (first|apply Kd.R_alloc|apply Kd.R_drewN|apply Kd.R_drew));exact HO_144004.out⟩,⟨by (with_reducible repeat (first|refine blk_drewN ?_ _|refine blk_drew ?_|refine blk_alloc ?_ _));exact BK143.out⟩,⟨by repeat (first|(with_reducible first|exact HB.out|apply below_alloc|apply pw_below_drewN|apply below_drew1|refine below_set ?_ GE143.out)|exact HB.out)⟩⟩
            case round =>
             clear H';(try clear c1);(try clear c2);(try clear p2);(try clear c3);(try clear c6);(try clear p6);(try clear c7);(try clear c7b0);(try clear c7b1);(try clear c9);(try clear c9b0);(try clear c11);(try clear c12);(try clear c19);(try clear c19b0);(try clear c21);(try clear c29);(try clear c30);(try clear c39);(try clear c39b0);(try clear hcz14_0);(try clear hcz14_1)
             (try clear hcz14_2);(try clear hcz14_3);(try clear hcz14_4);(try clear hcz14_5);(try clear hcz14_6);(try clear hcz14_7);(try clear hcz14_8);(try clear hcz14_9);(try clear hcz18_0);(try clear hcz18_1);(try clear hcz18_2);(try clear hcz18_3);(try clear hcz18_4);(try clear hcz18_5);(try clear hcz18_6);(try clear hcz18_7);(try clear hcz18_8);(try clear hcz18_9)
             (try clear hcz41_0);(try clear hcz41_1);(try clear hcz41_2);(try clear hcz41_3);(try clear hcz41_4);(try clear hcz41_5);(try clear hcz41_6);(try clear hcz41_7);(try clear hcz41_8);(try clear hcz41_9);(try clear hfz14_0);(try clear hfz14_1);(try clear hfz14_2);(try clear hfz14_3);(try clear hfz14_4);(try clear hfz14_5);(try clear hfz14_6);(try clear hfz14_7)
             (try clear hfz14_8);(try clear hfz14_9);(try clear hfz18_0);(try clear hfz18_1);(try clear hfz18_2);(try clear hfz18_3);(try clear hfz18_4);(try clear hfz18_5);(try clear hfz18_6);(try clear hfz18_7);(try clear hfz18_8);(try clear hfz18_9);(try clear hfz41_0);(try clear hfz41_1);(try clear hfz41_2);(try clear hfz41_3);(try clear hfz41_4);(try clear hfz41_5)
             (try clear hfz41_6);(try clear hfz41_7);(try clear hfz41_8);(try clear hfz41_9);(try clear p2);(try clear p6)
             obtain ⟨x18_5,x144003_5,u144003,rfl,HA,HK5,HO_17,HO_144003,HO_144004,BK143,HB⟩:=hrel
             cases gk with
             | zero=>exact absurd HA.out (by simp [spec_l4Tree.l2])
             | succ k5 =>
              have H:=HA.out
              clear HA
              simp only [spec_l4Tree.l2] at H
              by_cases c43:x18_5<(t159.length:Int)
              ·rw [if_pos c43] at H
               have c43b0:decide (x18_5<(t159.length:Int))=true:=decide_eq_true c43
               clear c43
               by_cases c44:0≤x18_5
               ·rw [if_pos c44] at H
                have c44b0:decide (0≤x18_5)=true:=decide_eq_true c44
                clear c44
                by_cases c45:x144003_5.length<35184372088832
                ·rw [if_pos c45] at H
                 have LMc45:=Ak c45;clear c45
                 obtain ⟨y164,hy164⟩:∃ y_:List Int,y_=(x144003_5++[rd t159 x18_5]):=⟨_,rfl⟩
                 replace H:(spec_l4Tree.l2 k5 l0 t160 a2 a3 x10_7 t138 x16_4 t159 (wrap64 (x18_5+1)) (Int.tmod t139 4) (decide (t141<3)) 12 y164 y144 x10_7 (⟨#[]⟩:ByteArray))=some (r1,r2):=by first|(rw [hy164];with_reducible exact H)|(have H2_:=(Option.bind_some _ _).symm.trans H;rw [hy164];with_reducible exact H2_)|(have H2_:=(Option.bind_some _ _).symm.trans H;with_reducible exact H2_)|with_reducible exact H|(rw [hy164];exact H)|exact H
                 have Ny164:=Ak hy164;clear hy164
                 have H':=Ak H
                 clear H
                 obtain ⟨Ao46,co46,eo46⟩:=Kd.R_slice HO_17.out
                 subst eo46
                 try go_wp2
                 have n0_:=Ak (Kd.R_drew HO_17.out)
                 have n1_:=Ak (Kd.R_drew HO_144003.out)
                 have n2_:=Ak (Kd.R_drew HO_144004.out)
                 have n3_:=Ak (blk_drew BK143.out)
                 have n4_:=Ak (below_drew1 HB.out)
                 clear HO_17;clear HO_144003;clear HO_144004;clear BK143;clear HB;have HO_17:=n0_;have HO_144003:=n1_;have HO_144004:=n2_;have BK143:=n3_;have HB:=n4_;clear n0_ n1_ n2_ n3_ n4_
                 have p163:0≤(x18_5:Int):=of_decide_eq_true (by first|(with_reducible assumption)|assumption)
                 have q163:x18_5<(t159.length:Int):=of_decide_eq_true (by first|(with_reducible assumption)|assumption)
                 obtain ⟨ad163,e163,hx163_0⟩:=Kd.at_int (Kd.R_reads' HO_17.out).2.2 x18_5 p163 q163
                 cases e163
                 replace p163:=eq_true p163
                 replace q163:=eq_true q163
                 refine start_ (n:=10) (S:=fun w'=>w'.cell? ⟨gb143,0,none⟩=some (.int .i64 (Int.tmod t139 4))∧w'.cell? ⟨gb143,1,none⟩=some (.bool (decide (t141<3)))∧w'.cell? ⟨gb143,2,none⟩=some (.int .i64 12)∧w'.cell? ⟨gb143,3,none⟩=some (u144003)∧w'.cell? ⟨gb143,4,none⟩=some (.slice Ao17 y144.length co17)∧w'.cell? ⟨gb143,5,none⟩=some (.slice none 0 0)∧w'.cell? ⟨gb143,6,none⟩=some (.int .i64 x10_7)∧w'.cell? ⟨gb143,7,none⟩=some (.string (⟨#[]⟩:ByteArray))∧w'.cell? ⟨gb143,8,none⟩=some (.slice none 0 0)∧w'.cell? ⟨gb143,9,none⟩=some (.slice none 0 0)∧w'.cell? (ad163.add (x18_5).toNat)=some (.int .u32 (rd t159 x18_5))) (ds:=[7,9]) #[false,false,false,false,false,false,false,false,false,false] (by kernel_rfl) rfl rfl ⟨(blk_cell BK143.out 0).trans rfl,(blk_cell BK143.out 1).trans rfl,(blk_cell BK143.out 2).trans rfl,(blk_cell BK143.out 3).trans rfl,(blk_cell BK143.out 4).trans rfl,(blk_cell BK143.out 5).trans rfl,(blk_cell BK143.out 6).trans rfl,(blk_cell BK143.out 7).trans rfl,(blk_cell BK143.out 8).trans rfl,(blk_cell BK143.out 9).trans rfl,hx163_0⟩ (fun hHeld=>?_);refine with_tabW spec_l4Tree.tab25 spec_l4Tree.bits25 (fun HT_ HW_=>?_)
                 generalize wr.drew=w47 at HO_17 HO_144003 HO_144004 BK143 HB hx163_0 hHeld ⊢
                 refine pure_ (i:=0) (N:=some 112) (v:=?_) (a':=?_) #[true,false,false,false,false,false,false,false,false,false] rfl rfl (any_of HT_.out (by kernel_rfl)) (fun _ _ _ h=>h) (Or.inl ⟨by rfl,?_⟩) ?_ ?_
                 rotate_left
                 ·intro w'
                  go_simp
                  with_reducible rfl
                 rotate_left
                 ·simp only [Act.put,List.setIfInBounds_toArray,List.set_cons_zero,List.set_cons_succ,i64_w,i32_w]
                  rfl
                 refine pure_ (i:=2) (N:=some 114) (v:=?_) (a':=?_) #[true,false,true,false,false,false,false,false,false,false] rfl rfl (any_of HT_.out (by kernel_rfl)) (fun _ _ _ h=>h) (Or.inl ⟨by rfl,?_⟩) ?_ ?_
                 rotate_left
                 ·intro w'
                  go_simp
                  with_reducible rfl
                 rotate_left
                 ·simp only [Act.put,List.setIfInBounds_toArray,List.set_cons_zero,List.set_cons_succ,i64_w,i32_w]
                  rfl
                 refine pure_ (i:=3) (N:=some 115) (v:=?_) (a':=?_) #[true,false,true,true,false,false,false,false,false,false] rfl rfl (any_of HT_.out (by kernel_rfl)) (fun _ _ _ h=>h) (Or.inl ⟨by rfl,?_⟩) ?_ ?_
                 rotate_left
                 ·intro w'
                  go_simp
                  with_reducible rfl
                 rotate_left
                 ·simp only [Act.put,List.setIfInBounds_toArray,List.set_cons_zero,List.set_cons_succ,i64_w,i32_w]
                  rfl
                 refine pure_ (i:=4) (N:=some 116) (v:=?_) (a':=?_) #[true,false,true,true,true,false,false,false,false,false] rfl rfl (any_of HT_.out (by kernel_rfl)) (fun _ _ _ h=>h) (Or.inl ⟨by rfl,?_⟩) ?_ ?_
                 rotate_left
                 ·intro w'
                  go_simp
                  with_reducible rfl
                 rotate_left
                 ·simp only [Act.put,List.setIfInBounds_toArray,List.set_cons_zero,List.set_cons_succ,i64_w,i32_w]
                  rfl
                 refine take_ (i:=1) (N:=some 113) (v:=?_) (a':=?_) #[true,true,true,true,true,false,false,false,false,false] rfl rfl (take_ofW HT_.out HW_.out (by kernel_rfl)) (fun _ _ _ h=>h) (Or.inl ⟨by rfl,?_⟩) hHeld ?_ ?_
                 rotate_left
                 ·rintro w' ⟨s0,s1,s2,s3,s4,s5,s6,s7,s8,s9,s10⟩
                  go_simp
                  with_reducible rfl
                 rotate_left
                 ·simp only [Act.put,List.setIfInBounds_toArray,List.set_cons_zero,List.set_cons_succ,i64_w,i32_w]
                  rfl
                 refine take_ (i:=5) (N:=some 117) (v:=?_) (a':=?_) #[true,true,true,true,true,true,false,false,false,false] rfl rfl (take_ofW HT_.out HW_.out (by kernel_rfl)) (fun _ _ _ h=>h) (Or.inl ⟨by rfl,?_⟩) hHeld ?_ ?_
                 rotate_left
                 ·rintro w' ⟨s0,s1,s2,s3,s4,s5,s6,s7,s8,s9,s10⟩
                  go_simp
                  with_reducible rfl
                 rotate_left
                 ·simp only [Act.put,List.setIfInBounds_toArray,List.set_cons_zero,List.set_cons_succ,i64_w,i32_w]
                  rfl
                 refine one_ (i:=6) (N:=some 118) #[true,true,true,true,true,true,true,false,false,false] rfl rfl (one_of HT_.out (by kernel_rfl)) (by decide) (fun K hK=>?_)
                 refine value_ (w1:=?_) (v:=?_) (by rfl) rfl ?_ ?_
                 rotate_left 2
                 ·go_simp
                  constructor
                  ·rfl
                  ·rfl
                 refine hK.out _ _ ⟨(blk_cell (blk_alloc BK143.out _) 0).trans rfl,(blk_cell (blk_alloc BK143.out _) 1).trans rfl,(blk_cell (blk_alloc BK143.out _) 2).trans rfl,(blk_cell (blk_alloc BK143.out _) 3).trans rfl,(blk_cell (blk_alloc BK143.out _) 4).trans rfl,(blk_cell (blk_alloc BK143.out _) 5).trans rfl,(blk_cell (blk_alloc BK143.out _) 6).trans rfl,(blk_cell (blk_alloc BK143.out _) 7).trans rfl,(blk_cell (blk_alloc BK143.out _) 8).trans rfl,(blk_cell (blk_alloc BK143.out _) 9).trans rfl,(World.cell?_alloc_lt _ _ _ (World.block_lt_of_cell? _ _ (hHeld.2.2.2.2.2.2.2.2.2.2))).trans (hHeld.2.2.2.2.2.2.2.2.2.2)⟩ (fun hHeld=>?_)
                 clear hK K
                 refine norm_ (a':=?_) ?_ ?_
                 rotate_left
                 ·show Act.put _ (some 118) _=_
                  simp only [Act.put,List.setIfInBounds_toArray,List.set_cons_zero,List.set_cons_succ,i64_w,i32_w]
                  rfl
                 refine last_ (i:=7) (N:=some 119) #[true,true,true,true,true,true,true,true,false,false] rfl rfl (one_of HT_.out (by kernel_rfl)) (by decide) (fun K hK=>?_)
                 refine Kd.R_append_step (Kd.int .u32) (w0:=w) w.heap.size (by rfl) (.tmp 113) (.tmp 118) 38 78 (.int .u32 0) 4 rfl Try.underlying38 info78 rfl (by decide) (by omega) u144003 x144003_5 (rd t159 x18_5) [.int .u32 (rd t159 x18_5)] (fun k_=>some k_≠(.slice (some ad163) t159.length co46:Value).ownBlock) (fun _=>False) rfl rfl ?aP (fun _ hk=>hk.elim) ?aF ?aO ?aB ?aS ?aL ?_
                 (case aP=>exact rfl)
                 (case aB=>exact (by repeat (first|(with_reducible first|exact HB.out|apply below_alloc|apply pw_below_drewN|apply below_drew1|refine below_set ?_ GE143.out)|exact HB.out)))
                 (case aF=>exact (fun k_ hk=>Kd.fresh' (Kd.R_lt (by (with_reducible repeat (first|apply Kd.R_alloc|apply Kd.R_drewN|apply Kd.R_drew));exact HO_17.out)) k_ hk))
                 (case aO=>exact (by (with_reducible repeat (first|apply Kd.R_alloc|apply Kd.R_drewN|apply Kd.R_drew));exact HO_144003.out))
                 (case aS=>exact (below_size (by repeat (first|(with_reducible first|exact HB.out|apply below_alloc|apply pw_below_drewN|apply below_drew1|refine below_set ?_ GE143.out)|exact HB.out))))
                 (case aL=>have:=LMc45.out;omega)
                 intro v165 w48 ho hb hg hat
                 rw [← Ny164.out] at ho
                 have n0_:=Ak (Kd.R_after (ok:=(fun _=>True)) (by (with_reducible repeat (first|apply Kd.R_alloc|apply Kd.R_drewN|apply Kd.R_drew));exact Kd.R_mono HO_17.out (fun _ hk=>⟨trivial,hk⟩)) hg hat)
                 have n1_:=Ak (Kd.R_over' (by (with_reducible repeat (first|apply Kd.R_alloc|apply Kd.R_drewN|apply Kd.R_drew));exact HO_144004.out) (Kd.R_typed (by (with_reducible repeat (first|apply Kd.R_alloc|apply Kd.R_drewN|apply Kd.R_drew));exact HO_144003.out)) (by decide) hg)
                 have n2_:=Ak (blk_grown (g:=gb143) (o:=.cells #[.int .i64 (Int.tmod t139 4),.bool (decide (t141<3)),.int .i64 12,u144003,.slice Ao17 y144.length co17,.slice none 0 0,.int .i64 x10_7,.string (⟨#[]⟩:ByteArray),.slice none 0 0,.slice none 0 0] 44 (0,0)) (by (with_reducible repeat (first|refine blk_drewN ?_ _|refine blk_drew ?_|refine blk_alloc ?_ _));exact BK143.out) hg (Kd.R_ne HO_144003.out BK143.out (by decide)))
                 have n3_:=Ak (hb)
                 have n4_:=Ak (ho)
                 clear HO_17;clear HO_144004;clear BK143;clear HB;clear HO_144003;have HO_17:=n0_;have HO_144004:=n1_;have BK143:=n2_;have HB:=n3_;have HO166:=n4_;clear n0_ n1_ n2_ n3_ n4_;clear ho hb hg hat
                 obtain ⟨Ao49,co49,eo49⟩:=Kd.R_slice HO166.out
                 (first|subst eo49|(injection eo49 with f1_ f2_ f3_;have f4_:=f1_.symm;have f5_:=f3_.symm;clear f1_ f2_ f3_;subst f4_;subst f5_))
                 refine hK.out _ _ ?_
                 clear hK K
                 refine norm_ (a':=?_) ?_ ?_
                 rotate_left
                 ·show Act.put _ (some 119) _=_
                  simp only [Act.put,List.setIfInBounds_toArray,List.set_cons_zero,List.set_cons_succ,i64_w,i32_w]
                  rfl
                 refine pure_ (i:=8) (N:=some 120) (v:=?_) (a':=?_) #[true,true,true,true,true,true,true,true,true,false] rfl rfl (any_of HT_.out (by kernel_rfl)) (fun _ _ _ h=>h) (Or.inl ⟨by rfl,?_⟩) ?_ ?_
                 rotate_left
                 ·intro w'
                  go_simp
                  with_reducible rfl
                 rotate_left
                 ·simp only [Act.put,List.setIfInBounds_toArray,List.set_cons_zero,List.set_cons_succ,i64_w,i32_w]
                  rfl
                 refine last_ (i:=9) (N:=none) #[true,true,true,true,true,true,true,true,true,true] rfl rfl (one_of HT_.out (by kernel_rfl)) (by decide) (fun K hK=>?_)
                 have hs50:w48.cell? ⟨gb143,3,none⟩=some (u144003):=(blk_cell BK143.out 3).trans rfl
                 have hfs50:=blk_frozen BK143.out 3
                 refine skip_ (w1:=?_) (by rfl) rfl ?_ ?_
                 rotate_left
                 ·go_simp
                  rfl
                 refine hK.out _ _ ?_
                 clear hK K
                 refine done_ (done_of HT_.out (by kernel_rfl)) ?_
                 try go_wp2
                 go_roundg k5
                 case measure=>have:=HJ5.out;have:=HJ7.out;have:=HK3.out;have:=HK4.out;have:=HK5.out;omega
                 case rel=>exact ⟨(wrap64 (x18_5+1)),(y164),(.slice Ao49 y164.length co49),(by first|rfl|(simp;done)|(simp [*];done)),H',⟨by have:=HJ5.out;have:=HJ7.out;have:=HK3.out;have:=HK4.out;have:=HK5.out;omega⟩,⟨by (with_reducible repeat (first|apply Kd.R_alloc|apply Kd.R_drewN|apply Kd.R_drew));exact Kd.R_mono (Kd.R_far (p:=⟨gb143,3,none⟩) (Kd.R_types HO_17.out BK143.out (by decide)) (fun _ hk=>hk.2) (.slice Ao49 y164.length co49)) (fun _ hk=>hk.1.2)⟩,⟨by (with_reducible repeat (first|apply Kd.R_alloc|apply Kd.R_drewN|apply Kd.R_drew));exact Kd.R_mono (Kd.R_far (p:=⟨gb143,3,none⟩) (Kd.R_types HO166.out BK143.out (by decide)) (fun _ hk=>hk.2) (.slice Ao49 y164.length co49)) (fun _ hk=>hk.1)⟩,⟨by (with_reducible repeat (first|apply Kd.R_alloc|apply Kd.R_drewN|apply Kd.R_drew));exact Kd.R_mono (Kd.R_far (p:=⟨gb143,3,none⟩) (Kd.R_types HO_144004.out BK143.out (by decide)) (fun _ hk=>hk.2) (.slice Ao49 y164.length co49)) (fun _ hk=>trivial)⟩,⟨by (with_reducible repeat (first|refine blk_drewN ?_ _|refine blk_drew ?_|refine blk_alloc ?_ _));refine blk_put (cs:=#[.int .i64 (Int.tmod t139 4),.bool (decide (t141<3)),.int .i64 12,u144003,.slice Ao17 y144.length co17,.slice none 0 0,.int .i64 x10_7,.string (⟨#[]⟩:ByteArray),.slice none 0 0,.slice none 0 0]) ?_ 3 _ rfl;(with_reducible repeat (first|refine blk_drewN ?_ _|refine blk_drew ?_|refine blk_alloc ?_ _));exact BK143.out⟩,⟨by repeat (first|(with_reducible first|exact HB.out|apply below_alloc|apply pw_below_drewN|apply below_drew1|refine below_set ?_ GE143.out)|exact HB.out)⟩⟩
                ·rw [if_neg c45] at H
                 exact absurd H (by simp)
               ·rw [if_neg c44] at H
                exact absurd H (by simp)
              ·rw [if_neg c43] at H
               have c43b0:decide (x18_5<(t159.length:Int))=false:=decide_eq_false c43
               clear c43
               have H':=Ak H
               clear H
               obtain ⟨Ao51,co51,eo51⟩:=Kd.R_slice HO_17.out
               subst eo51
               go_wp2
               go_roundg k5
               case measure=>have:=HJ5.out;have:=HJ7.out;have:=HK3.out;have:=HK4.out;have:=HK5.out;omega
               case rel=>exact ⟨(t160),(wrap64 (x16_4+1)),(x144003_5),(u144003),(by first|rfl|(simp;done)|(simp [*];done)),(by first|rfl|(simp;done)|(simp [*];done)),H',⟨by have:=HJ5.out;have:=HJ7.out;have:=HK3.out;have:=HK4.out;have:=HK5.out;omega⟩,⟨by (with_reducible repeat (first|apply Kd.R_alloc|apply Kd.R_drewN|apply Kd.R_drew));exact Kd.R_mono HO_144003.out (fun _ hk=>trivial)⟩,⟨by (with_reducible repeat (first|apply Kd.R_alloc|apply Kd.R_drewN|apply Kd.R_drew));exact HO_144004.out⟩,⟨by (with_reducible repeat (first|refine blk_drewN ?_ _|refine blk_drew ?_|refine blk_alloc ?_ _));exact BK143.out⟩,⟨by repeat (first|(with_reducible first|exact HB.out|apply below_alloc|apply pw_below_drewN|apply below_drew1|refine below_set ?_ GE143.out)|exact HB.out)⟩⟩
           ·rw [if_neg c39] at H
            have c39b0:decide (x16_4<t138)=false:=decide_eq_false c39
            clear c39
            replace H:=Option.bind_eq_some_iff.mp H
            obtain ⟨⟨t167,t168⟩,A520,H⟩:=H
            replace H:(if t167=0 then (spec_l4Tree.j5 k4 l0 t168 a2 a3 t167 (decide (t141<3)) (Int.tmod t139 4) (decide (t141<3)) 12 x144003_4 y144 x10_7 (⟨#[]⟩:ByteArray)) else (spec_l4Tree.j5 k4 l0 t168 a2 a3 t167 false (Int.tmod t139 4) (decide (t141<3)) 12 x144003_4 y144 x10_7 (⟨#[]⟩:ByteArray)))=some (r1,r2):=H
            have A52:=Ak A520;clear A520;have HC53:=Ak H;clear H
            go_upto_region 27 with (first|((with_reducible refine gate_callee (f:=30) rfl ?_);refine goesL_ (some 124) rfl rfl Try.func30 (by kernel_rfl) rfl #[.slice A0 l0.length c0,.int .i64 x1_4,.int .i64 6] rfl (by (try simp only [List.map_toArray,List.map_cons,List.map_nil]);first|done|rfl|(simp only [List.length_drop,List.length_take];rfl)) ?_;(with_reducible refine (spec_l1Take.calls k4 _ _ l0 x1_4 6 t167 t168 _ ?side1 ?side2 A52.out).mono ?_);(case side1=>repeat (first|exact (Kd.C_below HR0.out HB.out)|(with_reducible refine Kd.C_alloc ?_ _)|(with_reducible refine Kd.C_drewN ?_ _)|(with_reducible refine Kd.C_drew ?_)));(case side2=>exact HC0.out);rintro e w' ⟨rfl,⟨nd,rfl⟩⟩;refine ⟨_,rfl,?_⟩))
            (try simp only [Act.put,List.setIfInBounds_toArray,List.set_cons_zero,List.set_cons_succ])
            go_cut [132] (fun v132 wc=>∃ (kq:Nat) (x132_52:Bool),v132=.bool x132_52∧Aside0 (spec_l4Tree.j5 kq l0 t168 a2 a3 t167 x132_52 (Int.tmod t139 4) (decide (t141<3)) 12 x144003_4 y144 x10_7 (⟨#[]⟩:ByteArray)=some (r1,r2))∧Aside0 (kq≤k4)∧Aside0 (Kd.R (Kd.int .u32) 78 wc w.heap.size (fun _=>True) u144003 x144003_4)∧Aside0 (Kd.R k85 85 wc w.heap.size (fun _=>True) (.slice Ao17 y144.length co17) y144)∧Aside0 (wc.heap[gb143]?=some (.cells #[.int .i64 (Int.tmod t139 4),.bool (decide (t141<3)),.int .i64 12,u144003,(.slice Ao17 y144.length co17),(.slice none 0 0),.int .i64 x10_7,.string (⟨#[]⟩:ByteArray),(.slice none 0 0),(.slice none 0 0)] 44 (0,0)))∧Aside0 (Below w.heap.size w wc))
            case first =>
             have H:=HC53.out
             clear HC53
             by_cases c54:t167=0
             ·rw [if_pos c54] at H
              have c54b0:(t167 == 0)=true:=beq_iff_eq.mpr c54
              have c54b1:(t167 != 0)=false:=bne_eq_false_iff_eq.mpr c54
              clear c54
              (first|rw [c54b0]|(simp only [i64_w,i32_w];rw [c54b0])|skip)
              have H':=Ak H
              clear H
              obtain ⟨hcz55_0,hcz55_1,hcz55_2,hcz55_3,hcz55_4,hcz55_5,hcz55_6,hcz55_7,hcz55_8,hcz55_9,hfz55_0,hfz55_1,hfz55_2,hfz55_3,hfz55_4,hfz55_5,hfz55_6,hfz55_7,hfz55_8,hfz55_9⟩:=bk10 BK143.out
              go_wp2
              go_meet
              case rel=>exact ⟨_,((decide (t141<3))),(by first|rfl|(simp;done)|(simp [*];done)),H',⟨by have:=HJ5.out;have:=HJ7.out;have:=HK3.out;have:=HK4.out;first|omega|exact Nat.le_refl _⟩,⟨by (with_reducible repeat (first|apply Kd.R_alloc|apply Kd.R_drewN|apply Kd.R_drew));exact HO_144003.out⟩,⟨by (with_reducible repeat (first|apply Kd.R_alloc|apply Kd.R_drewN|apply Kd.R_drew));exact HO_144004.out⟩,⟨by (with_reducible repeat (first|refine blk_drewN ?_ _|refine blk_drew ?_|refine blk_alloc ?_ _));exact BK143.out⟩,⟨by repeat (first|(with_reducible first|exact HB.out|apply below_alloc|apply pw_below_drewN|apply below_drew1|refine below_set ?_ GE143.out)|exact HB.out)⟩⟩
             ·rw [if_neg c54] at H
              have c54b0:(t167 == 0)=false:=beq_eq_false_iff_ne.mpr c54
              have c54b1:(t167 != 0)=true:=bne_iff_ne.mpr c54
              (first|rw [c54b0]|(simp only [i64_w,i32_w];rw [c54b0])|skip)
              have H':=Ak H
              clear H
              go_wp2
              go_meet
              case rel=>exact ⟨_,(false),(by first|rfl|(simp;done)|(simp [*];done)),H',⟨by have:=HJ5.out;have:=HJ7.out;have:=HK3.out;have:=HK4.out;first|omega|exact Nat.le_refl _⟩,⟨by (with_reducible repeat (first|apply Kd.R_alloc|apply Kd.R_drewN|apply Kd.R_drew));exact HO_144003.out⟩,⟨by (with_reducible repeat (first|apply Kd.R_alloc|apply Kd.R_drewN|apply Kd.R_drew));exact HO_144004.out⟩,⟨by (with_reducible repeat (first|refine blk_drewN ?_ _|refine blk_drew ?_|refine blk_alloc ?_ _));exact BK143.out⟩,⟨by repeat (first|(with_reducible first|exact HB.out|apply below_alloc|apply pw_below_drewN|apply below_drew1|refine below_set ?_ GE143.out)|exact HB.out)⟩⟩
            case rest =>
             clear HC53;(try clear c1);(try clear p1);(try clear q1);(try clear hx1);(try clear c2);(try clear p2);(try clear c3);(try clear c4);(try clear c5);(try clear c6);(try clear p6);(try clear c7);(try clear c7b0);(try clear c7b1);(try clear c9);(try clear c9b0);(try clear c11);(try clear c12);(try clear p16);(try clear q16);(try clear hx16);(try clear c19)
             (try clear c19b0);(try clear c21);(try clear c29);(try clear c30);(try clear c39);(try clear c39b0);(try clear c43);(try clear c43b0);(try clear c44);(try clear c44b0);(try clear c45);(try clear c54);(try clear c54b0);(try clear c54b1);(try clear hcz14_0);(try clear hcz14_1);(try clear hcz14_2);(try clear hcz14_3);(try clear hcz14_4);(try clear hcz14_5)
             (try clear hcz14_6);(try clear hcz14_7);(try clear hcz14_8);(try clear hcz14_9);(try clear hcz18_0);(try clear hcz18_1);(try clear hcz18_2);(try clear hcz18_3);(try clear hcz18_4);(try clear hcz18_5);(try clear hcz18_6);(try clear hcz18_7);(try clear hcz18_8);(try clear hcz18_9);(try clear hcz41_0);(try clear hcz41_1);(try clear hcz41_2);(try clear hcz41_3)
             (try clear hcz41_4);(try clear hcz41_5);(try clear hcz41_6);(try clear hcz41_7);(try clear hcz41_8);(try clear hcz41_9);(try clear hcz55_0);(try clear hcz55_1);(try clear hcz55_2);(try clear hcz55_3);(try clear hcz55_4);(try clear hcz55_5);(try clear hcz55_6);(try clear hcz55_7);(try clear hcz55_8);(try clear hcz55_9);(try clear hfz14_0);(try clear hfz14_1)
             (try clear hfz14_2);(try clear hfz14_3);(try clear hfz14_4);(try clear hfz14_5);(try clear hfz14_6);(try clear hfz14_7);(try clear hfz14_8);(try clear hfz14_9);(try clear hfz18_0);(try clear hfz18_1);(try clear hfz18_2);(try clear hfz18_3);(try clear hfz18_4);(try clear hfz18_5);(try clear hfz18_6);(try clear hfz18_7);(try clear hfz18_8);(try clear hfz18_9)
             (try clear hfz41_0);(try clear hfz41_1);(try clear hfz41_2);(try clear hfz41_3);(try clear hfz41_4);(try clear hfz41_5);(try clear hfz41_6);(try clear hfz41_7);(try clear hfz41_8);(try clear hfz41_9);(try clear hfz55_0);(try clear hfz55_1);(try clear hfz55_2);(try clear hfz55_3);(try clear hfz55_4);(try clear hfz55_5);(try clear hfz55_6);(try clear hfz55_7)
             (try clear hfz55_8);(try clear hfz55_9);(try clear hx163_0);(try clear p163);(try clear p2);(try clear p6);(try clear q163)
             obtain ⟨kq,x132_52,rfl,HA,HJ52,HO_144003,HO_144004,BK143,HB⟩:=hcut
             cases kq with
             | zero=>exact absurd HA.out (by simp [spec_l4Tree.j5])
             | succ kj52 =>
              have H:=HA.out
              clear HA
              simp only [spec_l4Tree.j5] at H
              have HC56:=Ak H;clear H
              go_upto_if 132 with (fail)
              go_cut [] (fun wc=>∃ (kq:Nat) (x144003_55:List Int) (u144003:Value),Aside0 (spec_l4Tree.j6 kq l0 t168 a2 a3 (Int.tmod t139 4) (decide (t141<3)) 12 x144003_55 y144 x10_7 (⟨#[]⟩:ByteArray)=some (r1,r2))∧Aside0 (kq≤kj52)∧Aside0 (Kd.R (Kd.int .u32) 78 wc w.heap.size (fun _=>True) u144003 x144003_55)∧Aside0 (Kd.R k85 85 wc w.heap.size (fun _=>True) (.slice Ao17 y144.length co17) y144)∧Aside0 (wc.heap[gb143]?=some (.cells #[.int .i64 (Int.tmod t139 4),.bool (decide (t141<3)),.int .i64 12,u144003,(.slice Ao17 y144.length co17),(.slice none 0 0),.int .i64 x10_7,.string (⟨#[]⟩:ByteArray),(.slice none 0 0),(.slice none 0 0)] 44 (0,0)))∧Aside0 (Below w.heap.size w wc))
              case first =>
               have H:=HC56.out
               clear HC56
               by_cases c57:x132_52=true
               ·subst c57
                have H1:((spec_l4I.f 24 2 511 0).bind fun t169=>((spec_l4I.f 23 0 511 0).bind fun t170=>((some (([t169,t170]:List Int):List Int)).bind fun y171=>(if x144003_4.length+y171.length<35184372088832 then (spec_l4Tree.j6 kj52 l0 t168 a2 a3 (Int.tmod t139 4) (decide (t141<3)) 12 (x144003_4++y171) y144 x10_7 (⟨#[]⟩:ByteArray)) else (none)))))=some (r1,r2):=by rw [if_pos rfl] at H;exact H
                clear H;have H:=H1;clear H1
                replace H:=Option.bind_eq_some_iff.mp H
                obtain ⟨t169,A580,H⟩:=H
                replace H:((spec_l4I.f 23 0 511 0).bind fun t170=>((some (([t169,t170]:List Int):List Int)).bind fun y171=>(if x144003_4.length+y171.length<35184372088832 then (spec_l4Tree.j6 kj52 l0 t168 a2 a3 (Int.tmod t139 4) (decide (t141<3)) 12 (x144003_4++y171) y144 x10_7 (⟨#[]⟩:ByteArray)) else (none))))=some (r1,r2):=H
                have A58:=Ak A580;clear A580
                replace H:=Option.bind_eq_some_iff.mp H
                obtain ⟨t170,A590,H⟩:=H
                replace H:((some (([t169,t170]:List Int):List Int)).bind fun y171=>(if x144003_4.length+y171.length<35184372088832 then (spec_l4Tree.j6 kj52 l0 t168 a2 a3 (Int.tmod t139 4) (decide (t141<3)) 12 (x144003_4++y171) y144 x10_7 (⟨#[]⟩:ByteArray)) else (none)))=some (r1,r2):=H
                have A59:=Ak A590;clear A590
                obtain ⟨y171,hy171⟩:∃ y_:List Int,y_=(([t169,t170]:List Int)):=⟨_,rfl⟩
                replace H:(if x144003_4.length+y171.length<35184372088832 then (spec_l4Tree.j6 kj52 l0 t168 a2 a3 (Int.tmod t139 4) (decide (t141<3)) 12 (x144003_4++y171) y144 x10_7 (⟨#[]⟩:ByteArray)) else (none))=some (r1,r2):=by first|(rw [hy171];with_reducible exact H)|(have H2_:=(Option.bind_some _ _).symm.trans H;rw [hy171];with_reducible exact H2_)|(have H2_:=(Option.bind_some _ _).symm.trans H;with_reducible exact H2_)|with_reducible exact H|(rw [hy171];exact H)|exact H
                have Ny171:=Ak hy171;clear hy171
                by_cases c60:x144003_4.length+y171.length<35184372088832
                ·rw [if_pos c60] at H
                 have LMc60:=Ak c60;clear c60
                 obtain ⟨y174,hy174⟩:∃ y_:List Int,y_=(x144003_4++y171):=⟨_,rfl⟩
                 replace H:(spec_l4Tree.j6 kj52 l0 t168 a2 a3 (Int.tmod t139 4) (decide (t141<3)) 12 y174 y144 x10_7 (⟨#[]⟩:ByteArray))=some (r1,r2):=by first|(rw [hy174];with_reducible exact H)|(have H2_:=(Option.bind_some _ _).symm.trans H;rw [hy174];with_reducible exact H2_)|(have H2_:=(Option.bind_some _ _).symm.trans H;with_reducible exact H2_)|with_reducible exact H|(rw [hy174];exact H)|exact H
                 have Ny174:=Ak hy174;clear hy174
                 have H':=Ak H
                 clear H
                 try go_wp2
                 have n0_:=Ak (Kd.R_drew HO_144003.out)
                 have n1_:=Ak (Kd.R_drew HO_144004.out)
                 have n2_:=Ak (blk_drew BK143.out)
                 have n3_:=Ak (below_drew1 HB.out)
                 clear HO_144003;clear HO_144004;clear BK143;clear HB;have HO_144003:=n0_;have HO_144004:=n1_;have BK143:=n2_;have HB:=n3_;clear n0_ n1_ n2_ n3_
                 refine start_ (n:=8) (S:=fun w'=>w'.cell? ⟨gb143,0,none⟩=some (.int .i64 (Int.tmod t139 4))∧w'.cell? ⟨gb143,1,none⟩=some (.bool (decide (t141<3)))∧w'.cell? ⟨gb143,2,none⟩=some (.int .i64 12)∧w'.cell? ⟨gb143,3,none⟩=some (u144003)∧w'.cell? ⟨gb143,4,none⟩=some (.slice Ao17 y144.length co17)∧w'.cell? ⟨gb143,5,none⟩=some (.slice none 0 0)∧w'.cell? ⟨gb143,6,none⟩=some (.int .i64 x10_7)∧w'.cell? ⟨gb143,7,none⟩=some (.string (⟨#[]⟩:ByteArray))∧w'.cell? ⟨gb143,8,none⟩=some (.slice none 0 0)∧w'.cell? ⟨gb143,9,none⟩=some (.slice none 0 0)) (ds:=[7]) #[false,false,false,false,false,false,false,false] (by kernel_rfl) rfl rfl ⟨(blk_cell BK143.out 0).trans rfl,(blk_cell BK143.out 1).trans rfl,(blk_cell BK143.out 2).trans rfl,(blk_cell BK143.out 3).trans rfl,(blk_cell BK143.out 4).trans rfl,(blk_cell BK143.out 5).trans rfl,(blk_cell BK143.out 6).trans rfl,(blk_cell BK143.out 7).trans rfl,(blk_cell BK143.out 8).trans rfl,(blk_cell BK143.out 9).trans rfl⟩ (fun hHeld=>?_);refine with_tabW spec_l4Tree.tab28 spec_l4Tree.bits28 (fun HT_ HW_=>?_)
                 generalize wc.drew=w61 at HO_144003 HO_144004 BK143 HB hHeld ⊢
                 refine pure_ (i:=0) (N:=some 133) (v:=?_) (a':=?_) #[true,false,false,false,false,false,false,false] rfl rfl (any_of HT_.out (by kernel_rfl)) (fun _ _ _ h=>h) (Or.inl ⟨by rfl,?_⟩) ?_ ?_
                 rotate_left
                 ·intro w'
                  go_simp
                  with_reducible rfl
                 rotate_left
                 ·simp only [Act.put,List.setIfInBounds_toArray,List.set_cons_zero,List.set_cons_succ,i64_w,i32_w]
                  rfl
                 refine take_ (i:=1) (N:=some 134) (v:=?_) (a':=?_) #[true,true,false,false,false,false,false,false] rfl rfl (take_ofW HT_.out HW_.out (by kernel_rfl)) (fun _ _ _ h=>h) (Or.inl ⟨by rfl,?_⟩) hHeld ?_ ?_
                 rotate_left
                 ·rintro w' ⟨s0,s1,s2,s3,s4,s5,s6,s7,s8,s9⟩
                  go_simp
                  with_reducible rfl
                 rotate_left
                 ·simp only [Act.put,List.setIfInBounds_toArray,List.set_cons_zero,List.set_cons_succ,i64_w,i32_w]
                  rfl
                 refine one_ (i:=2) (N:=some 135) #[true,true,true,false,false,false,false,false] rfl rfl (one_of HT_.out (by kernel_rfl)) (by decide) (fun K hK=>?_)
                 refine goes_ Try.func119 (by kernel_rfl) rfl #[.int .i64 24,.int .i64 2,.int .i64 511,.int .i64 0] (by rfl) rfl rfl (by (try simp only [List.map_toArray,List.map_cons,List.map_nil]);first|done|rfl|(simp only [List.length_drop,List.length_take];rfl)) ?_
                 with_reducible refine (spec_l4I.calls 24 2 511 0 t169 _ A58.out).mono ?_
                 rintro e w62 ⟨rfl,hb⟩
                 refine ⟨_,rfl,?_⟩
                 have n0_:=Ak (Kd.R_below (by (with_reducible repeat (first|apply Kd.R_alloc|apply Kd.R_drewN|apply Kd.R_drew));exact HO_144003.out) hb)
                 have n1_:=Ak (Kd.R_below (by (with_reducible repeat (first|apply Kd.R_alloc|apply Kd.R_drewN|apply Kd.R_drew));exact HO_144004.out) hb)
                 have n2_:=Ak (blk_below (g:=gb143) (o:=.cells #[.int .i64 (Int.tmod t139 4),.bool (decide (t141<3)),.int .i64 12,u144003,.slice Ao17 y144.length co17,.slice none 0 0,.int .i64 x10_7,.string (⟨#[]⟩:ByteArray),.slice none 0 0,.slice none 0 0] 44 (0,0)) (by (with_reducible repeat (first|refine blk_drewN ?_ _|refine blk_drew ?_|refine blk_alloc ?_ _));exact BK143.out) hb)
                 have n3_:=Ak (below_step (by repeat (first|(with_reducible first|exact HB.out|apply below_alloc|apply pw_below_drewN|apply below_drew1|refine below_set ?_ GE143.out)|exact HB.out)) hb)
                 clear HO_144003;clear HO_144004;clear BK143;clear HB;have HO_144003:=n0_;have HO_144004:=n1_;have BK143:=n2_;have HB:=n3_;clear n0_ n1_ n2_ n3_
                 (try clear hb)
                 (try clear hb2)
                 (try clear hk)
                 (try clear hi)
                 refine hK.out _ _ ⟨(blk_cell BK143.out 0).trans rfl,(blk_cell BK143.out 1).trans rfl,(blk_cell BK143.out 2).trans rfl,(blk_cell BK143.out 3).trans rfl,(blk_cell BK143.out 4).trans rfl,(blk_cell BK143.out 5).trans rfl,(blk_cell BK143.out 6).trans rfl,(blk_cell BK143.out 7).trans rfl,(blk_cell BK143.out 8).trans rfl,(blk_cell BK143.out 9).trans rfl⟩ (fun hHeld=>?_)
                 clear hK K
                 refine norm_ (a':=?_) ?_ ?_
                 rotate_left
                 ·show Act.put _ (some 135) _=_
                  simp only [Act.put,List.setIfInBounds_toArray,List.set_cons_zero,List.set_cons_succ,i64_w,i32_w]
                  rfl
                 refine one_ (i:=3) (N:=some 136) #[true,true,true,true,false,false,false,false] rfl rfl (one_of HT_.out (by kernel_rfl)) (by decide) (fun K hK=>?_)
                 refine goes_ Try.func119 (by kernel_rfl) rfl #[.int .i64 23,.int .i64 0,.int .i64 511,.int .i64 0] (by rfl) rfl rfl (by (try simp only [List.map_toArray,List.map_cons,List.map_nil]);first|done|rfl|(simp only [List.length_drop,List.length_take];rfl)) ?_
                 with_reducible refine (spec_l4I.calls 23 0 511 0 t170 _ A59.out).mono ?_
                 rintro e w63 ⟨rfl,hb⟩
                 refine ⟨_,rfl,?_⟩
                 have n0_:=Ak (Kd.R_below (by (with_reducible repeat (first|apply Kd.R_alloc|apply Kd.R_drewN|apply Kd.R_drew));exact HO_144003.out) hb)
                 have n1_:=Ak (Kd.R_below (by (with_reducible repeat (first|apply Kd.R_alloc|apply Kd.R_drewN|apply Kd.R_drew));exact HO_144004.out) hb)
                 have n2_:=Ak (blk_below (g:=gb143) (o:=.cells #[.int .i64 (Int.tmod t139 4),.bool (decide (t141<3)),.int .i64 12,u144003,.slice Ao17 y144.length co17,.slice none 0 0,.int .i64 x10_7,.string (⟨#[]⟩:ByteArray),.slice none 0 0,.slice none 0 0] 44 (0,0)) (by (with_reducible repeat (first|refine blk_drewN ?_ _|refine blk_drew ?_|refine blk_alloc ?_ _));exact BK143.out) hb)
                 have n3_:=Ak (below_step (by repeat (first|(with_reducible first|exact HB.out|apply below_alloc|apply pw_below_drewN|apply below_drew1|refine below_set ?_ GE143.out)|exact HB.out)) hb)
                 clear HO_144003;clear HO_144004;clear BK143;clear HB;have HO_144003:=n0_;have HO_144004:=n1_;have BK143:=n2_;have HB:=n3_;clear n0_ n1_ n2_ n3_
                 (try clear hb)
                 (try clear hb2)
                 (try clear hk)
                 (try clear hi)
                 refine hK.out _ _ ⟨(blk_cell BK143.out 0).trans rfl,(blk_cell BK143.out 1).trans rfl,(blk_cell BK143.out 2).trans rfl,(blk_cell BK143.out 3).trans rfl,(blk_cell BK143.out 4).trans rfl,(blk_cell BK143.out 5).trans rfl,(blk_cell BK143.out 6).trans rfl,(blk_cell BK143.out 7).trans rfl,(blk_cell BK143.out 8).trans rfl,(blk_cell BK143.out 9).trans rfl⟩ (fun hHeld=>?_)
                 clear hK K
                 refine norm_ (a':=?_) ?_ ?_
                 rotate_left
                 ·show Act.put _ (some 136) _=_
                  simp only [Act.put,List.setIfInBounds_toArray,List.set_cons_zero,List.set_cons_succ,i64_w,i32_w]
                  rfl
                 refine one_ (i:=4) (N:=some 137) #[true,true,true,true,true,false,false,false] rfl rfl (one_of HT_.out (by kernel_rfl)) (by decide) (fun K hK=>?_)
                 refine Kd.R_lit_step (Kd.int .u32) _ 78 ?hg (N:=137) ?hd (xs:=([t169,t170]:List Int)) (inner:=[.int .u32 t169,.int .u32 t170]) (ok:=fun _=>True) (okp:=fun _=>True) ?hr ?hp (fun _ hk=>hk) trivial (Below.refl _ _) (Nat.le_refl _) (by simp) ?_;(case hd=>rfl);(case hg=>rfl);(case hr=>first|(go_simp;done)|(go_simp;rfl));(case hp=>exact (Reps.one (show Kd.M (Kd.int .u32) _ _ _ t169 [.int .u32 t169] from rfl) (Reps.one (show Kd.M (Kd.int .u32) _ _ _ t170 [.int .u32 t170] from rfl) (Reps.none _ _))))
                 intro v172 w64 ho65 hb hg_ hnew_
                 clear hg_ hnew_
                 (first|rw [← Ny171.out] at ho65|(simp only [Int.reduceToNat] at ho65;rw [← Ny171.out] at ho65))
                 have n0_:=Ak (Kd.R_elder' (by (with_reducible repeat (first|apply Kd.R_alloc|apply Kd.R_drewN|apply Kd.R_drew));exact HO_144003.out) (Kd.R_base ho65) hb)
                 have n1_:=Ak (Kd.R_below (by (with_reducible repeat (first|apply Kd.R_alloc|apply Kd.R_drewN|apply Kd.R_drew));exact HO_144004.out) hb)
                 have n2_:=Ak (Kd.R_lower (Kd.R_new' ho65 (Kd.R_lt (by (with_reducible repeat (first|apply Kd.R_alloc|apply Kd.R_drewN|apply Kd.R_drew));exact HO_144003.out))) (below_size (by repeat (first|(with_reducible first|exact HB.out|apply below_alloc|apply pw_below_drewN|apply below_drew1|refine below_set ?_ GE143.out)|exact HB.out))))
                 have n3_:=Ak (blk_below (g:=gb143) (o:=.cells #[.int .i64 (Int.tmod t139 4),.bool (decide (t141<3)),.int .i64 12,u144003,.slice Ao17 y144.length co17,.slice none 0 0,.int .i64 x10_7,.string (⟨#[]⟩:ByteArray),.slice none 0 0,.slice none 0 0] 44 (0,0)) (by (with_reducible repeat (first|refine blk_drewN ?_ _|refine blk_drew ?_|refine blk_alloc ?_ _));exact BK143.out) hb)
                 have n4_:=Ak (below_step (by repeat (first|(with_reducible first|exact HB.out|apply below_alloc|apply pw_below_drewN|apply below_drew1|refine below_set ?_ GE143.out)|exact HB.out)) hb)
                 clear HO_144003;clear HO_144004;clear BK143;clear HB;have HO_144003:=n0_;have HO_144004:=n1_;have HO173:=n2_;have BK143:=n3_;have HB:=n4_;clear n0_ n1_ n2_ n3_ n4_;clear hb ho65
                 obtain ⟨Ao67,co67,eo67⟩:=Kd.R_slice HO173.out
                 (first|subst eo67|(injection eo67 with f1_ f2_ f3_;have f4_:=f1_.symm;have f5_:=f3_.symm;clear f1_ f2_ f3_;subst f4_;subst f5_))
                 refine hK.out _ _ ⟨(blk_cell BK143.out 0).trans rfl,(blk_cell BK143.out 1).trans rfl,(blk_cell BK143.out 2).trans rfl,(blk_cell BK143.out 3).trans rfl,(blk_cell BK143.out 4).trans rfl,(blk_cell BK143.out 5).trans rfl,(blk_cell BK143.out 6).trans rfl,(blk_cell BK143.out 7).trans rfl,(blk_cell BK143.out 8).trans rfl,(blk_cell BK143.out 9).trans rfl⟩ (fun hHeld=>?_)
                 clear hK K
                 refine norm_ (a':=?_) ?_ ?_
                 rotate_left
                 ·show Act.put _ (some 137) _=_
                  simp only [Act.put,List.setIfInBounds_toArray,List.set_cons_zero,List.set_cons_succ,i64_w,i32_w]
                  rfl
                 refine one_ (i:=5) (N:=some 138) #[true,true,true,true,true,true,false,false] rfl rfl (one_of HT_.out (by kernel_rfl)) (by decide) (fun K hK=>?_)
                 refine Kd.R_append_rows_step (Kd.int .u32) (w0:=w) w.heap.size (by rfl) (.tmp 134) (.tmp 137) 38 78 (.int .u32 0) 4 rfl Try.underlying38 info78 rfl (by decide) (by omega) u144003 x144003_4 y171 _ _ _ (fun k_=>some k_≠(.slice Ao67 y171.length co67:Value).ownBlock) (fun _=>False) rfl rfl ?aO ?aR (fun _ _ h=>h) (fun _ h=>h.elim) ?aF ?aB ?aS ?aL ?_
                 (case aR=>repeat (first|exact (Kd.R_reads' HO173.out).2.2|(with_reducible refine Kd.C_alloc ?_ _)|(with_reducible refine Kd.C_drewN ?_ _)|(with_reducible refine Kd.C_drew ?_)))
                 (case aB=>exact (by repeat (first|(with_reducible first|exact HB.out|apply below_alloc|apply pw_below_drewN|apply below_drew1|refine below_set ?_ GE143.out)|exact HB.out)))
                 (case aF=>exact (fun k_ hk=>Kd.fresh' (Kd.R_lt (by (with_reducible repeat (first|apply Kd.R_alloc|apply Kd.R_drewN|apply Kd.R_drew));exact HO173.out)) k_ hk))
                 (case aO=>exact (by (with_reducible repeat (first|apply Kd.R_alloc|apply Kd.R_drewN|apply Kd.R_drew));exact Kd.R_mono HO_144003.out (fun _ hk=>hk.2)))
                 (case aS=>exact (below_size (by repeat (first|(with_reducible first|exact HB.out|apply below_alloc|apply pw_below_drewN|apply below_drew1|refine below_set ?_ GE143.out)|exact HB.out))))
                 (case aL=>have:=LMc60.out;omega)
                 intro v175 w66 ho hb hg hat
                 rw [← Ny174.out] at ho
                 have n0_:=Ak (Kd.R_over' (by (with_reducible repeat (first|apply Kd.R_alloc|apply Kd.R_drewN|apply Kd.R_drew));exact HO_144004.out) (Kd.R_typed (by (with_reducible repeat (first|apply Kd.R_alloc|apply Kd.R_drewN|apply Kd.R_drew));exact HO_144003.out)) (by decide) hg)
                 have n1_:=Ak (blk_grown (g:=gb143) (o:=.cells #[.int .i64 (Int.tmod t139 4),.bool (decide (t141<3)),.int .i64 12,u144003,.slice Ao17 y144.length co17,.slice none 0 0,.int .i64 x10_7,.string (⟨#[]⟩:ByteArray),.slice none 0 0,.slice none 0 0] 44 (0,0)) (by (with_reducible repeat (first|refine blk_drewN ?_ _|refine blk_drew ?_|refine blk_alloc ?_ _));exact BK143.out) hg (Kd.R_ne HO_144003.out BK143.out (by decide)))
                 have n2_:=Ak (Kd.R_after (ok:=(fun _=>True)) (by (with_reducible repeat (first|apply Kd.R_alloc|apply Kd.R_drewN|apply Kd.R_drew));exact HO173.out) hg hat)
                 have n3_:=Ak (hb)
                 have n4_:=Ak (ho)
                 clear HO_144004;clear BK143;clear HO173;clear HB;clear HO_144003;have HO_144004:=n0_;have BK143:=n1_;have HO173:=n2_;have HB:=n3_;have HO176:=n4_;clear n0_ n1_ n2_ n3_ n4_;clear ho hb hg hat
                 obtain ⟨Ao68,co68,eo68⟩:=Kd.R_slice HO176.out
                 (first|subst eo68|(injection eo68 with f1_ f2_ f3_;have f4_:=f1_.symm;have f5_:=f3_.symm;clear f1_ f2_ f3_;subst f4_;subst f5_))
                 refine hK.out _ _ ⟨(blk_cell BK143.out 0).trans rfl,(blk_cell BK143.out 1).trans rfl,(blk_cell BK143.out 2).trans rfl,(blk_cell BK143.out 3).trans rfl,(blk_cell BK143.out 4).trans rfl,(blk_cell BK143.out 5).trans rfl,(blk_cell BK143.out 6).trans rfl,(blk_cell BK143.out 7).trans rfl,(blk_cell BK143.out 8).trans rfl,(blk_cell BK143.out 9).trans rfl⟩ (fun hHeld=>?_)
                 clear hK K
                 refine norm_ (a':=?_) ?_ ?_
                 rotate_left
                 ·show Act.put _ (some 138) _=_
                  simp only [Act.put,List.setIfInBounds_toArray,List.set_cons_zero,List.set_cons_succ,i64_w,i32_w]
                  rfl
                 refine pure_ (i:=6) (N:=some 139) (v:=?_) (a':=?_) #[true,true,true,true,true,true,true,false] rfl rfl (any_of HT_.out (by kernel_rfl)) (fun _ _ _ h=>h) (Or.inl ⟨by rfl,?_⟩) ?_ ?_
                 rotate_left
                 ·intro w'
                  go_simp
                  with_reducible rfl
                 rotate_left
                 ·simp only [Act.put,List.setIfInBounds_toArray,List.set_cons_zero,List.set_cons_succ,i64_w,i32_w]
                  rfl
                 refine last_ (i:=7) (N:=none) #[true,true,true,true,true,true,true,true] rfl rfl (one_of HT_.out (by kernel_rfl)) (by decide) (fun K hK=>?_)
                 have hs69:w66.cell? ⟨gb143,3,none⟩=some (u144003):=(blk_cell BK143.out 3).trans rfl
                 have hfs69:=blk_frozen BK143.out 3
                 refine skip_ (w1:=?_) (by rfl) rfl ?_ ?_
                 rotate_left
                 ·go_simp
                  rfl
                 refine hK.out _ _ ?_
                 clear hK K
                 refine done_ (done_of HT_.out (by kernel_rfl)) ?_
                 try go_wp2
                 go_meet
                 case rel=>exact ⟨_,(y174),(.slice Ao68 y174.length co68),H',⟨by have:=HJ5.out;have:=HJ7.out;have:=HK3.out;have:=HK4.out;have:=HJ52.out;first|omega|exact Nat.le_refl _⟩,⟨by (with_reducible repeat (first|apply Kd.R_alloc|apply Kd.R_drewN|apply Kd.R_drew));exact Kd.R_mono (Kd.R_far (p:=⟨gb143,3,none⟩) (Kd.R_types HO176.out BK143.out (by decide)) (fun _ hk=>hk.2) (.slice Ao68 y174.length co68)) (fun _ hk=>trivial)⟩,⟨by (with_reducible repeat (first|apply Kd.R_alloc|apply Kd.R_drewN|apply Kd.R_drew));exact Kd.R_mono (Kd.R_far (p:=⟨gb143,3,none⟩) (Kd.R_types HO_144004.out BK143.out (by decide)) (fun _ hk=>hk.2) (.slice Ao68 y174.length co68)) (fun _ hk=>trivial)⟩,⟨by (with_reducible repeat (first|refine blk_drewN ?_ _|refine blk_drew ?_|refine blk_alloc ?_ _));refine blk_put (cs:=#[.int .i64 (Int.tmod t139 4),.bool (decide (t141<3)),.int .i64 12,u144003,.slice Ao17 y144.length co17,.slice none 0 0,.int .i64 x10_7,.string (⟨#[]⟩:ByteArray),.slice none 0 0,.slice none 0 0]) ?_ 3 _ rfl;(with_reducible repeat (first|refine blk_drewN ?_ _|refine blk_drew ?_|refine blk_alloc ?_ _));exact BK143.out⟩,⟨by repeat (first|(with_reducible first|exact HB.out|apply below_alloc|apply pw_below_drewN|apply below_drew1|refine below_set ?_ GE143.out)|exact HB.out)⟩⟩
                ·rw [if_neg c60] at H
                 exact absurd H (by simp)
               ·replace c57:=Bool.eq_false_iff.mpr c57
                subst c57
                have H1:((spec_l4I.f 23 0 (wrap64 (1+t167)) 0).bind fun t177=>(if x144003_4.length<35184372088832 then (spec_l4Tree.j6 kj52 l0 t168 a2 a3 (Int.tmod t139 4) (decide (t141<3)) 12 (x144003_4++[t177]) y144 x10_7 (⟨#[]⟩:ByteArray)) else (none)))=some (r1,r2):=by rw [if_neg (show ¬ (false=true) by decide)] at H;exact H
                clear H;have H:=H1;clear H1
                replace H:=Option.bind_eq_some_iff.mp H
                obtain ⟨t177,A700,H⟩:=H
                replace H:(if x144003_4.length<35184372088832 then (spec_l4Tree.j6 kj52 l0 t168 a2 a3 (Int.tmod t139 4) (decide (t141<3)) 12 (x144003_4++[t177]) y144 x10_7 (⟨#[]⟩:ByteArray)) else (none))=some (r1,r2):=H
                have A70:=Ak A700;clear A700
                by_cases c71:x144003_4.length<35184372088832
                ·rw [if_pos c71] at H
                 have LMc71:=Ak c71;clear c71
                 obtain ⟨y178,hy178⟩:∃ y_:List Int,y_=(x144003_4++[t177]):=⟨_,rfl⟩
                 replace H:(spec_l4Tree.j6 kj52 l0 t168 a2 a3 (Int.tmod t139 4) (decide (t141<3)) 12 y178 y144 x10_7 (⟨#[]⟩:ByteArray))=some (r1,r2):=by first|(rw [hy178];with_reducible exact H)|(have H2_:=(Option.bind_some _ _).symm.trans H;rw [hy178];with_reducible exact H2_)|(have H2_:=(Option.bind_some _ _).symm.trans H;with_reducible exact H2_)|with_reducible exact H|(rw [hy178];exact H)|exact H
                 have Ny178:=Ak hy178;clear hy178
                 have H':=Ak H
                 clear H
                 try go_wp2
                 have n0_:=Ak (Kd.R_drew HO_144003.out)
                 have n1_:=Ak (Kd.R_drew HO_144004.out)
                 have n2_:=Ak (blk_drew BK143.out)
                 have n3_:=Ak (below_drew1 HB.out)
                 clear HO_144003;clear HO_144004;clear BK143;clear HB;have HO_144003:=n0_;have HO_144004:=n1_;have BK143:=n2_;have HB:=n3_;clear n0_ n1_ n2_ n3_
                 refine start_ (n:=9) (S:=fun w'=>w'.cell? ⟨gb143,0,none⟩=some (.int .i64 (Int.tmod t139 4))∧w'.cell? ⟨gb143,1,none⟩=some (.bool (decide (t141<3)))∧w'.cell? ⟨gb143,2,none⟩=some (.int .i64 12)∧w'.cell? ⟨gb143,3,none⟩=some (u144003)∧w'.cell? ⟨gb143,4,none⟩=some (.slice Ao17 y144.length co17)∧w'.cell? ⟨gb143,5,none⟩=some (.slice none 0 0)∧w'.cell? ⟨gb143,6,none⟩=some (.int .i64 x10_7)∧w'.cell? ⟨gb143,7,none⟩=some (.string (⟨#[]⟩:ByteArray))∧w'.cell? ⟨gb143,8,none⟩=some (.slice none 0 0)∧w'.cell? ⟨gb143,9,none⟩=some (.slice none 0 0)) (ds:=[8]) #[false,false,false,false,false,false,false,false,false] (by kernel_rfl) rfl rfl ⟨(blk_cell BK143.out 0).trans rfl,(blk_cell BK143.out 1).trans rfl,(blk_cell BK143.out 2).trans rfl,(blk_cell BK143.out 3).trans rfl,(blk_cell BK143.out 4).trans rfl,(blk_cell BK143.out 5).trans rfl,(blk_cell BK143.out 6).trans rfl,(blk_cell BK143.out 7).trans rfl,(blk_cell BK143.out 8).trans rfl,(blk_cell BK143.out 9).trans rfl⟩ (fun hHeld=>?_);refine with_tabW spec_l4Tree.tab29 spec_l4Tree.bits29 (fun HT_ HW_=>?_)
                 generalize wc.drew=w72 at HO_144003 HO_144004 BK143 HB hHeld ⊢
                 refine pure_ (i:=0) (N:=some 140) (v:=?_) (a':=?_) #[true,false,false,false,false,false,false,false,false] rfl rfl (any_of HT_.out (by kernel_rfl)) (fun _ _ _ h=>h) (Or.inl ⟨by rfl,?_⟩) ?_ ?_
                 rotate_left
                 ·intro w'
                  go_simp
                  with_reducible rfl
                 rotate_left
                 ·simp only [Act.put,List.setIfInBounds_toArray,List.set_cons_zero,List.set_cons_succ,i64_w,i32_w]
                  rfl
                 refine pure_ (i:=2) (N:=some 142) (v:=?_) (a':=?_) #[true,false,true,false,false,false,false,false,false] rfl rfl (any_of HT_.out (by kernel_rfl)) (fun _ _ _ h=>h) (Or.inl ⟨by rfl,?_⟩) ?_ ?_
                 rotate_left
                 ·intro w'
                  go_simp
                  with_reducible rfl
                 rotate_left
                 ·simp only [Act.put,List.setIfInBounds_toArray,List.set_cons_zero,List.set_cons_succ,i64_w,i32_w]
                  rfl
                 refine pure_ (i:=3) (N:=some 143) (v:=?_) (a':=?_) #[true,false,true,true,false,false,false,false,false] rfl rfl (any_of HT_.out (by kernel_rfl)) (fun _ _ _ h=>h) (Or.inl ⟨by rfl,?_⟩) ?_ ?_
                 rotate_left
                 ·intro w'
                  go_simp
                  with_reducible rfl
                 rotate_left
                 ·simp only [Act.put,List.setIfInBounds_toArray,List.set_cons_zero,List.set_cons_succ,i64_w,i32_w]
                  rfl
                 refine take_ (i:=1) (N:=some 141) (v:=?_) (a':=?_) #[true,true,true,true,false,false,false,false,false] rfl rfl (take_ofW HT_.out HW_.out (by kernel_rfl)) (fun _ _ _ h=>h) (Or.inl ⟨by rfl,?_⟩) hHeld ?_ ?_
                 rotate_left
                 ·rintro w' ⟨s0,s1,s2,s3,s4,s5,s6,s7,s8,s9⟩
                  go_simp
                  with_reducible rfl
                 rotate_left
                 ·simp only [Act.put,List.setIfInBounds_toArray,List.set_cons_zero,List.set_cons_succ,i64_w,i32_w]
                  rfl
                 refine one_ (i:=4) (N:=some 144) #[true,true,true,true,true,false,false,false,false] rfl rfl (one_of HT_.out (by kernel_rfl)) (by decide) (fun K hK=>?_)
                 refine goes_ Try.func119 (by kernel_rfl) rfl #[.int .i64 23,.int .i64 0,.int .i64 (wrap64 (1+t167)),.int .i64 0] (by rfl) rfl rfl (by (try simp only [List.map_toArray,List.map_cons,List.map_nil]);first|done|rfl|(simp only [List.length_drop,List.length_take];rfl)) ?_
                 with_reducible refine (spec_l4I.calls 23 0 (wrap64 (1+t167)) 0 t177 _ A70.out).mono ?_
                 rintro e w73 ⟨rfl,hb⟩
                 refine ⟨_,rfl,?_⟩
                 have n0_:=Ak (Kd.R_below (by (with_reducible repeat (first|apply Kd.R_alloc|apply Kd.R_drewN|apply Kd.R_drew));exact HO_144003.out) hb)
                 have n1_:=Ak (Kd.R_below (by (with_reducible repeat (first|apply Kd.R_alloc|apply Kd.R_drewN|apply Kd.R_drew));exact HO_144004.out) hb)
                 have n2_:=Ak (blk_below (g:=gb143) (o:=.cells #[.int .i64 (Int.tmod t139 4),.bool (decide (t141<3)),.int .i64 12,u144003,.slice Ao17 y144.length co17,.slice none 0 0,.int .i64 x10_7,.string (⟨#[]⟩:ByteArray),.slice none 0 0,.slice none 0 0] 44 (0,0)) (by (with_reducible repeat (first|refine blk_drewN ?_ _|refine blk_drew ?_|refine blk_alloc ?_ _));exact BK143.out) hb)
                 have n3_:=Ak (below_step (by repeat (first|(with_reducible first|exact HB.out|apply below_alloc|apply pw_below_drewN|apply below_drew1|refine below_set ?_ GE143.out)|exact HB.out)) hb)
                 clear HO_144003;clear HO_144004;clear BK143;clear HB;have HO_144003:=n0_;have HO_144004:=n1_;have BK143:=n2_;have HB:=n3_;clear n0_ n1_ n2_ n3_
                 (try clear hb)
                 (try clear hb2)
                 (try clear hk)
                 (try clear hi)
                 refine hK.out _ _ ⟨(blk_cell BK143.out 0).trans rfl,(blk_cell BK143.out 1).trans rfl,(blk_cell BK143.out 2).trans rfl,(blk_cell BK143.out 3).trans rfl,(blk_cell BK143.out 4).trans rfl,(blk_cell BK143.out 5).trans rfl,(blk_cell BK143.out 6).trans rfl,(blk_cell BK143.out 7).trans rfl,(blk_cell BK143.out 8).trans rfl,(blk_cell BK143.out 9).trans rfl⟩ (fun hHeld=>?_)
                 clear hK K
                 refine norm_ (a':=?_) ?_ ?_
                 rotate_left
                 ·show Act.put _ (some 144) _=_
                  simp only [Act.put,List.setIfInBounds_toArray,List.set_cons_zero,List.set_cons_succ,i64_w,i32_w]
                  rfl
                 refine one_ (i:=5) (N:=some 145) #[true,true,true,true,true,true,false,false,false] rfl rfl (one_of HT_.out (by kernel_rfl)) (by decide) (fun K hK=>?_)
                 refine value_ (w1:=?_) (v:=?_) (by rfl) rfl ?_ ?_
                 rotate_left 2
                 ·go_simp
                  constructor
                  ·rfl
                  ·rfl
                 refine hK.out _ _ ⟨(blk_cell (blk_alloc BK143.out _) 0).trans rfl,(blk_cell (blk_alloc BK143.out _) 1).trans rfl,(blk_cell (blk_alloc BK143.out _) 2).trans rfl,(blk_cell (blk_alloc BK143.out _) 3).trans rfl,(blk_cell (blk_alloc BK143.out _) 4).trans rfl,(blk_cell (blk_alloc BK143.out _) 5).trans rfl,(blk_cell (blk_alloc BK143.out _) 6).trans rfl,(blk_cell (blk_alloc BK143.out _) 7).trans rfl,(blk_cell (blk_alloc BK143.out _) 8).trans rfl,(blk_cell (blk_alloc BK143.out _) 9).trans rfl⟩ (fun hHeld=>?_)
                 clear hK K
                 refine norm_ (a':=?_) ?_ ?_
                 rotate_left
                 ·show Act.put _ (some 145) _=_
                  simp only [Act.put,List.setIfInBounds_toArray,List.set_cons_zero,List.set_cons_succ,i64_w,i32_w]
                  rfl
                 refine one_ (i:=6) (N:=some 146) #[true,true,true,true,true,true,true,false,false] rfl rfl (one_of HT_.out (by kernel_rfl)) (by decide) (fun K hK=>?_)
                 refine Kd.R_append_step (Kd.int .u32) (w0:=w) w.heap.size (by rfl) (.tmp 141) (.tmp 145) 38 78 (.int .u32 0) 4 rfl Try.underlying38 info78 rfl (by decide) (by omega) u144003 x144003_4 t177 [.int .u32 t177] (fun _=>True) (fun _=>False) rfl rfl ?aP (fun _ hk=>hk.elim) ?aF ?aO ?aB ?aS ?aL ?_
                 (case aP=>exact rfl)
                 (case aB=>exact (by repeat (first|(with_reducible first|exact HB.out|apply below_alloc|apply pw_below_drewN|apply below_drew1|refine below_set ?_ GE143.out)|exact HB.out)))
                 (case aF=>exact (fun _ _=>trivial))
                 (case aO=>exact (by (with_reducible repeat (first|apply Kd.R_alloc|apply Kd.R_drewN|apply Kd.R_drew));exact HO_144003.out))
                 (case aS=>exact (below_size (by repeat (first|(with_reducible first|exact HB.out|apply below_alloc|apply pw_below_drewN|apply below_drew1|refine below_set ?_ GE143.out)|exact HB.out))))
                 (case aL=>have:=LMc71.out;omega)
                 intro v179 w74 ho hb hg hat
                 rw [← Ny178.out] at ho
                 have n0_:=Ak (Kd.R_over' (by (with_reducible repeat (first|apply Kd.R_alloc|apply Kd.R_drewN|apply Kd.R_drew));exact HO_144004.out) (Kd.R_typed (by (with_reducible repeat (first|apply Kd.R_alloc|apply Kd.R_drewN|apply Kd.R_drew));exact HO_144003.out)) (by decide) hg)
                 have n1_:=Ak (blk_grown (g:=gb143) (o:=.cells #[.int .i64 (Int.tmod t139 4),.bool (decide (t141<3)),.int .i64 12,u144003,.slice Ao17 y144.length co17,.slice none 0 0,.int .i64 x10_7,.string (⟨#[]⟩:ByteArray),.slice none 0 0,.slice none 0 0] 44 (0,0)) (by (with_reducible repeat (first|refine blk_drewN ?_ _|refine blk_drew ?_|refine blk_alloc ?_ _));exact BK143.out) hg (Kd.R_ne HO_144003.out BK143.out (by decide)))
                 have n2_:=Ak (hb)
                 have n3_:=Ak (ho)
                 clear HO_144004;clear BK143;clear HB;clear HO_144003;have HO_144004:=n0_;have BK143:=n1_;have HB:=n2_;have HO180:=n3_;clear n0_ n1_ n2_ n3_;clear ho hb hg hat
                 obtain ⟨Ao75,co75,eo75⟩:=Kd.R_slice HO180.out
                 (first|subst eo75|(injection eo75 with f1_ f2_ f3_;have f4_:=f1_.symm;have f5_:=f3_.symm;clear f1_ f2_ f3_;subst f4_;subst f5_))
                 refine hK.out _ _ ⟨(blk_cell BK143.out 0).trans rfl,(blk_cell BK143.out 1).trans rfl,(blk_cell BK143.out 2).trans rfl,(blk_cell BK143.out 3).trans rfl,(blk_cell BK143.out 4).trans rfl,(blk_cell BK143.out 5).trans rfl,(blk_cell BK143.out 6).trans rfl,(blk_cell BK143.out 7).trans rfl,(blk_cell BK143.out 8).trans rfl,(blk_cell BK143.out 9).trans rfl⟩ (fun hHeld=>?_)
                 clear hK K
                 refine norm_ (a':=?_) ?_ ?_
                 rotate_left
                 ·show Act.put _ (some 146) _=_
                  simp only [Act.put,List.setIfInBounds_toArray,List.set_cons_zero,List.set_cons_succ,i64_w,i32_w]
                  rfl
                 refine pure_ (i:=7) (N:=some 147) (v:=?_) (a':=?_) #[true,true,true,true,true,true,true,true,false] rfl rfl (any_of HT_.out (by kernel_rfl)) (fun _ _ _ h=>h) (Or.inl ⟨by rfl,?_⟩) ?_ ?_
                 rotate_left
                 ·intro w'
                  go_simp
                  with_reducible rfl
                 rotate_left
                 ·simp only [Act.put,List.setIfInBounds_toArray,List.set_cons_zero,List.set_cons_succ,i64_w,i32_w]
                  rfl
                 refine last_ (i:=8) (N:=none) #[true,true,true,true,true,true,true,true,true] rfl rfl (one_of HT_.out (by kernel_rfl)) (by decide) (fun K hK=>?_)
                 have hs76:w74.cell? ⟨gb143,3,none⟩=some (u144003):=(blk_cell BK143.out 3).trans rfl
                 have hfs76:=blk_frozen BK143.out 3
                 refine skip_ (w1:=?_) (by rfl) rfl ?_ ?_
                 rotate_left
                 ·go_simp
                  rfl
                 refine hK.out _ _ ?_
                 clear hK K
                 refine done_ (done_of HT_.out (by kernel_rfl)) ?_
                 try go_wp2
                 go_meet
                 case rel=>exact ⟨_,(y178),(.slice Ao75 y178.length co75),H',⟨by have:=HJ5.out;have:=HJ7.out;have:=HK3.out;have:=HK4.out;have:=HJ52.out;first|omega|exact Nat.le_refl _⟩,⟨by (with_reducible repeat (first|apply Kd.R_alloc|apply Kd.R_drewN|apply Kd.R_drew));exact Kd.R_mono (Kd.R_far (p:=⟨gb143,3,none⟩) (Kd.R_types HO180.out BK143.out (by decide)) (fun _ hk=>hk.2) (.slice Ao75 y178.length co75)) (fun _ hk=>trivial)⟩,⟨by (with_reducible repeat (first|apply Kd.R_alloc|apply Kd.R_drewN|apply Kd.R_drew));exact Kd.R_mono (Kd.R_far (p:=⟨gb143,3,none⟩) (Kd.R_types HO_144004.out BK143.out (by decide)) (fun _ hk=>hk.2) (.slice Ao75 y178.length co75)) (fun _ hk=>trivial)⟩,⟨by (with_reducible repeat (first|refine blk_drewN ?_ _|refine blk_drew ?_|refine blk_alloc ?_ _));refine blk_put (cs:=#[.int .i64 (Int.tmod t139 4),.bool (decide (t141<3)),.int .i64 12,u144003,.slice Ao17 y144.length co17,.slice none 0 0,.int .i64 x10_7,.string (⟨#[]⟩:ByteArray),.slice none 0 0,.slice none 0 0]) ?_ 3 _ rfl;(with_reducible repeat (first|refine blk_drewN ?_ _|refine blk_drew ?_|refine blk_alloc ?_ _));exact BK143.out⟩,⟨by repeat (first|(with_reducible first|exact HB.out|apply below_alloc|apply pw_below_drewN|apply below_drew1|refine below_set ?_ GE143.out)|exact HB.out)⟩⟩
                ·rw [if_neg c71] at H
                 exact absurd H (by simp)
              case rest =>
               clear HC56;(try clear c1);(try clear p1);(try clear q1);(try clear hx1);(try clear c2);(try clear p2);(try clear c3);(try clear c4);(try clear c5);(try clear c6);(try clear p6);(try clear c7);(try clear c7b0);(try clear c7b1);(try clear c9);(try clear c9b0);(try clear c11);(try clear c12);(try clear p16);(try clear q16);(try clear hx16);(try clear c19)
               (try clear c19b0);(try clear c21);(try clear c29);(try clear c30);(try clear c39);(try clear c39b0);(try clear c43);(try clear c43b0);(try clear c44);(try clear c44b0);(try clear c45);(try clear c54);(try clear c54b0);(try clear c54b1);(try clear c57);(try clear c60);(try clear p64);(try clear c71);(try clear hcz14_0);(try clear hcz14_1);(try clear hcz14_2)
               (try clear hcz14_3);(try clear hcz14_4);(try clear hcz14_5);(try clear hcz14_6);(try clear hcz14_7);(try clear hcz14_8);(try clear hcz14_9);(try clear hcz18_0);(try clear hcz18_1);(try clear hcz18_2);(try clear hcz18_3);(try clear hcz18_4);(try clear hcz18_5);(try clear hcz18_6);(try clear hcz18_7);(try clear hcz18_8);(try clear hcz18_9);(try clear hcz41_0)
               (try clear hcz41_1);(try clear hcz41_2);(try clear hcz41_3);(try clear hcz41_4);(try clear hcz41_5);(try clear hcz41_6);(try clear hcz41_7);(try clear hcz41_8);(try clear hcz41_9);(try clear hcz55_0);(try clear hcz55_1);(try clear hcz55_2);(try clear hcz55_3);(try clear hcz55_4);(try clear hcz55_5);(try clear hcz55_6);(try clear hcz55_7);(try clear hcz55_8)
               (try clear hcz55_9);(try clear hfz14_0);(try clear hfz14_1);(try clear hfz14_2);(try clear hfz14_3);(try clear hfz14_4);(try clear hfz14_5);(try clear hfz14_6);(try clear hfz14_7);(try clear hfz14_8);(try clear hfz14_9);(try clear hfz18_0);(try clear hfz18_1);(try clear hfz18_2);(try clear hfz18_3);(try clear hfz18_4);(try clear hfz18_5);(try clear hfz18_6)
               (try clear hfz18_7);(try clear hfz18_8);(try clear hfz18_9);(try clear hfz41_0);(try clear hfz41_1);(try clear hfz41_2);(try clear hfz41_3);(try clear hfz41_4);(try clear hfz41_5);(try clear hfz41_6);(try clear hfz41_7);(try clear hfz41_8);(try clear hfz41_9);(try clear hfz55_0);(try clear hfz55_1);(try clear hfz55_2);(try clear hfz55_3);(try clear hfz55_4)
               (try clear hfz55_5);(try clear hfz55_6);(try clear hfz55_7);(try clear hfz55_8);(try clear hfz55_9);(try clear hx163_0);(try clear p1);(try clear p16);(try clear p163);(try clear p2);(try clear p6);(try clear q1);(try clear q16);(try clear q163)
               obtain ⟨kq,x144003_55,u144003,HA,HJ55,HO_144003,HO_144004,BK143,HB⟩:=hcut
               cases kq with
               | zero=>exact absurd HA.out (by simp [spec_l4Tree.j6])
               | succ kj55 =>
                have H:=HA.out
                clear HA
                simp only [spec_l4Tree.j6] at H
                have H':=Ak H
                clear H
                go_wp2
                go_loopg [1,19] kj55 (fun kq v1 v19 w'=>∃ (x1_7:Int) (x19_7:Int) (x144005_7:List (S89)) (u144005:Value),v1=.int .i64 x1_7∧v19=.int .i64 x19_7∧Aside0 (spec_l4Tree.l3 kq l0 x1_7 a2 a3 x19_7 (Int.tmod t139 4) (decide (t141<3)) 12 x144003_55 y144 x144005_7 x10_7 (⟨#[]⟩:ByteArray)=some (r1,r2))∧Aside0 (kq≤kj55)∧Aside0 (Kd.R (Kd.int .u32) 78 w' w.heap.size (fun _=>True) u144003 x144003_55)∧Aside0 (Kd.R k85 85 w' w.heap.size (fun _=>True) (.slice Ao17 y144.length co17) y144)∧Aside0 (Kd.R k89 89 w' w.heap.size (fun _=>True) u144005 x144005_7)∧Aside0 (w'.heap[gb143]?=some (.cells #[.int .i64 (Int.tmod t139 4),.bool (decide (t141<3)),.int .i64 12,u144003,(.slice Ao17 y144.length co17),u144005,.int .i64 x10_7,.string (⟨#[]⟩:ByteArray),(.slice none 0 0),(.slice none 0 0)] 44 (0,0)))∧Aside0 (Below w.heap.size w w'))
                case atStart=>exact ⟨(t168),(0),(([]:List (S89))),(.slice none 0 0),(by first|rfl|(simp;done)|(simp [*];done)),(by first|rfl|(simp;done)|(simp [*];done)),H',⟨Nat.le_refl _⟩,⟨by (with_reducible repeat (first|apply Kd.R_alloc|apply Kd.R_drewN|apply Kd.R_drew));exact HO_144003.out⟩,⟨by (with_reducible repeat (first|apply Kd.R_alloc|apply Kd.R_drewN|apply Kd.R_drew));exact HO_144004.out⟩,⟨by first|exact Kd.R_nil _ _ _ _ _|exact Kd.N_nil _ _ _ _ _|exact Kd.V_nil _ _ _ _ _|exact Kd.Q_nil _ _ _ _ _|exact Kd.S_nil _ _ _ _ _⟩,⟨by (with_reducible repeat (first|refine blk_drewN ?_ _|refine blk_drew ?_|refine blk_alloc ?_ _));exact BK143.out⟩,⟨by repeat (first|(with_reducible first|exact HB.out|apply below_alloc|apply pw_below_drewN|apply below_drew1|refine below_set ?_ GE143.out)|exact HB.out)⟩⟩
                case round =>
                 clear H';(try clear c1);(try clear p1);(try clear q1);(try clear hx1);(try clear c2);(try clear p2);(try clear c3);(try clear c4);(try clear c5);(try clear c6);(try clear p6);(try clear c7);(try clear c7b0);(try clear c7b1);(try clear c9);(try clear c9b0);(try clear c11);(try clear c12);(try clear p16);(try clear q16);(try clear hx16);(try clear c19)
                 (try clear c19b0);(try clear c21);(try clear c29);(try clear c30);(try clear c39);(try clear c39b0);(try clear c43);(try clear c43b0);(try clear c44);(try clear c44b0);(try clear c45);(try clear c54);(try clear c54b0);(try clear c54b1);(try clear c57);(try clear c60);(try clear p64);(try clear c71);(try clear hcz14_0);(try clear hcz14_1);(try clear hcz14_2)
                 (try clear hcz14_3);(try clear hcz14_4);(try clear hcz14_5);(try clear hcz14_6);(try clear hcz14_7);(try clear hcz14_8);(try clear hcz14_9);(try clear hcz18_0);(try clear hcz18_1);(try clear hcz18_2);(try clear hcz18_3);(try clear hcz18_4);(try clear hcz18_5);(try clear hcz18_6);(try clear hcz18_7);(try clear hcz18_8);(try clear hcz18_9);(try clear hcz41_0)
                 (try clear hcz41_1);(try clear hcz41_2);(try clear hcz41_3);(try clear hcz41_4);(try clear hcz41_5);(try clear hcz41_6);(try clear hcz41_7);(try clear hcz41_8);(try clear hcz41_9);(try clear hcz55_0);(try clear hcz55_1);(try clear hcz55_2);(try clear hcz55_3);(try clear hcz55_4);(try clear hcz55_5);(try clear hcz55_6);(try clear hcz55_7);(try clear hcz55_8)
                 (try clear hcz55_9);(try clear hfz14_0);(try clear hfz14_1);(try clear hfz14_2);(try clear hfz14_3);(try clear hfz14_4);(try clear hfz14_5);(try clear hfz14_6);(try clear hfz14_7);(try clear hfz14_8);(try clear hfz14_9);(try clear hfz18_0);(try clear hfz18_1);(try clear hfz18_2);(try clear hfz18_3);(try clear hfz18_4);(try clear hfz18_5);(try clear hfz18_6)
                 (try clear hfz18_7);(try clear hfz18_8);(try clear hfz18_9);(try clear hfz41_0);(try clear hfz41_1);(try clear hfz41_2);(try clear hfz41_3);(try clear hfz41_4);(try clear hfz41_5);(try clear hfz41_6);(try clear hfz41_7);(try clear hfz41_8);(try clear hfz41_9);(try clear hfz55_0);(try clear hfz55_1);(try clear hfz55_2);(try clear hfz55_3);(try clear hfz55_4)
                 (try clear hfz55_5);(try clear hfz55_6);(try clear hfz55_7);(try clear hfz55_8);(try clear hfz55_9);(try clear hx163_0);(try clear p1);(try clear p16);(try clear p163);(try clear p2);(try clear p6);(try clear p64);(try clear q1);(try clear q16);(try clear q163)
                 obtain ⟨x1_7,x19_7,x144005_7,u144005,rfl,rfl,HA,HK7,HO_144003,HO_144004,HO_144005,BK143,HB⟩:=hrel
                 cases gk with
                 | zero=>exact absurd HA.out (by simp [spec_l4Tree.l3])
                 | succ k7 =>
                  have H:=HA.out
                  clear HA
                  simp only [spec_l4Tree.l3] at H
                  by_cases c77:x19_7<a3
                  ·rw [if_pos c77] at H
                   have c77b0:decide (x19_7<a3)=true:=decide_eq_true c77
                   clear c77
                   replace H:=Option.bind_eq_some_iff.mp H
                   obtain ⟨⟨t181,t182⟩,A780,H⟩:=H
                   replace H:(if x144005_7.length<8796093022208 then (spec_l4Tree.l3 k7 l0 t182 a2 a3 (wrap64 (x19_7+1)) (Int.tmod t139 4) (decide (t141<3)) 12 x144003_55 y144 (x144005_7++[(⟨true,t181⟩:S89)]) x10_7 (⟨#[]⟩:ByteArray)) else (none))=some (r1,r2):=H
                   have A78:=Ak A780;clear A780
                   by_cases c79:x144005_7.length<8796093022208
                   ·rw [if_pos c79] at H
                    have LMc79:=Ak c79;clear c79
                    obtain ⟨y183,hy183⟩:∃ y_:List (S89),y_=(x144005_7++[(⟨true,t181⟩:S89)]):=⟨_,rfl⟩
                    replace H:(spec_l4Tree.l3 k7 l0 t182 a2 a3 (wrap64 (x19_7+1)) (Int.tmod t139 4) (decide (t141<3)) 12 x144003_55 y144 y183 x10_7 (⟨#[]⟩:ByteArray))=some (r1,r2):=by first|(rw [hy183];with_reducible exact H)|(have H2_:=(Option.bind_some _ _).symm.trans H;rw [hy183];with_reducible exact H2_)|(have H2_:=(Option.bind_some _ _).symm.trans H;with_reducible exact H2_)|with_reducible exact H|(rw [hy183];exact H)|exact H
                    have Ny183:=Ak hy183;clear hy183
                    have H':=Ak H
                    clear H
                    go_wp2_with (first|((with_reducible refine gate_callee (f:=30) rfl ?_);refine goesL_ (some 156) rfl rfl Try.func30 (by kernel_rfl) rfl #[.slice A0 l0.length c0,.int .i64 x1_7,.int .i64 4] rfl (by (try simp only [List.map_toArray,List.map_cons,List.map_nil]);first|done|rfl|(simp only [List.length_drop,List.length_take];rfl)) ?_;(with_reducible refine (spec_l1Take.calls k7 _ _ l0 x1_7 4 t181 t182 _ ?side1 ?side2 A78.out).mono ?_);(case side1=>repeat (first|exact (Kd.C_below HR0.out HB.out)|(with_reducible refine Kd.C_alloc ?_ _)|(with_reducible refine Kd.C_drewN ?_ _)|(with_reducible refine Kd.C_drew ?_)));(case side2=>exact HC0.out);rintro e w' ⟨rfl,⟨nd,rfl⟩⟩;refine ⟨_,rfl,?_⟩;(try (rw [drewN_self wr];generalize hq_:World.drewN wr _=wr;have n0_:Aside0 (Kd.R (Kd.int .u32) 78 wr w.heap.size (fun _=>True) u144003 x144003_55):=⟨by rw [← hq_];exact (by (with_reducible repeat (first|apply Kd.R_alloc|apply Kd.R_drewN|apply Kd.R_drew));exact HO_144003.out)⟩;have n1_:Aside0 (Kd.R k85 85 wr w.heap.size (fun _=>True) (.slice Ao17 y144.length co17) y144):=⟨by rw [← hq_];exact (by (with_reducible repeat (first|apply Kd.R_alloc|apply Kd.R_drewN|apply Kd.R_drew));exact HO_144004.out)⟩;have n2_:Aside0 (Kd.R k89 89 wr w.heap.size (fun _=>True) u144005 x144005_7):=⟨by rw [← hq_];exact (by (with_reducible repeat (first|apply Kd.R_alloc|apply Kd.R_drewN|apply Kd.R_drew));exact HO_144005.out)⟩;have n3_:Aside0 (wr.heap[gb143]?=some (.cells #[.int .i64 (Int.tmod t139 4),.bool (decide (t141<3)),.int .i64 12,u144003,.slice Ao17 y144.length co17,u144005,.int .i64 x10_7,.string (⟨#[]⟩:ByteArray),.slice none 0 0,.slice none 0 0] 44 (0,0))):=⟨by rw [← hq_];exact (by (with_reducible repeat (first|refine blk_drewN ?_ _|refine blk_drew ?_|refine blk_alloc ?_ _));exact BK143.out)⟩;have n4_:Aside0 (Below w.heap.size w wr):=⟨by rw [← hq_];exact (by repeat (first|(with_reducible first|exact HB.out|apply below_alloc|apply pw_below_drewN|apply below_drew1|refine below_set ?_ GE143.out)|exact HB.out))⟩;clear HO_144003 HO_144004 HO_144005 BK143 HB hq_;have HO_144003:=n0_;have HO_144004:=n1_;have HO_144005:=n2_;have BK143:=n3_;have HB:=n4_;clear n0_ n1_ n2_ n3_ n4_));obtain ⟨hcz80_0,hcz80_1,hcz80_2,hcz80_3,hcz80_4,hcz80_5,hcz80_6,hcz80_7,hcz80_8,hcz80_9,hfz80_0,hfz80_1,hfz80_2,hfz80_3,hfz80_4,hfz80_5,hfz80_6,hfz80_7,hfz80_8,hfz80_9⟩:=bk10 BK143.out)|((with_reducible refine gate_builtin (b:=.append) (xs:=#[.tmp 160,.tmp 163]) rfl ?_);at_builtin;refine Kd.R_append k89 (w0:=w) w.heap.size rfl (.tmp 160) (.tmp 163) 40 89 (.agg #[(.bool false),(.int .i64 0)]) 16 rfl Try.underlying40 info89 rfl (by decide) (by omega) u144005 x144005_7 (⟨true,t181⟩:S89) [.bool true,.int .i64 t181] (fun _=>True) (fun _=>False) rfl rfl ?aP (fun _ hk=>hk.elim) ?aF ?aO ?aB ?aS ?aL ?_;(case aP=>exact k89_mkM _ _ _ (⟨true,t181⟩:S89));(case aB=>exact (by repeat (first|(with_reducible first|exact HB.out|apply below_alloc|apply pw_below_drewN|apply below_drew1|refine below_set ?_ GE143.out)|exact HB.out)));(case aF=>exact (fun _ _=>trivial));(case aO=>exact (by (with_reducible repeat (first|apply Kd.R_alloc|apply Kd.R_drewN|apply Kd.R_drew));exact HO_144005.out));(case aS=>exact (below_size (by repeat (first|(with_reducible first|exact HB.out|apply below_alloc|apply pw_below_drewN|apply below_drew1|refine below_set ?_ GE143.out)|exact HB.out))));(case aL=>have:=LMc79.out;omega);intro v184 w81 ho hb hg hat;rw [← Ny183.out] at ho;have n0_:=Ak (Kd.R_over' (by (with_reducible repeat (first|apply Kd.R_alloc|apply Kd.R_drewN|apply Kd.R_drew));exact HO_144003.out) (Kd.R_typed (by (with_reducible repeat (first|apply Kd.R_alloc|apply Kd.R_drewN|apply Kd.R_drew));exact HO_144005.out)) (by decide) hg);have n1_:=Ak (Kd.R_over' (by (with_reducible repeat (first|apply Kd.R_alloc|apply Kd.R_drewN|apply Kd.R_drew));exact HO_144004.out) (Kd.R_typed (by (with_reducible repeat (first|apply Kd.R_alloc|apply Kd.R_drewN|apply Kd.R_drew));exact HO_144005.out)) (by decide) hg);have n2_:=Ak (blk_grown (g:=gb143) (o:=.cells #[.int .i64 (Int.tmod t139 4),.bool (decide (t141<3)),.int .i64 12,u144003,.slice Ao17 y144.length co17,u144005,.int .i64 x10_7,.string (⟨#[]⟩:ByteArray),.slice none 0 0,.slice none 0 0] 44 (0,0)) (by (with_reducible repeat (first|refine blk_drewN ?_ _|refine blk_drew ?_|refine blk_alloc ?_ _));exact BK143.out) hg (Kd.R_ne HO_144005.out BK143.out (by decide)));have n3_:=Ak (hb);have n4_:=Ak (ho);clear HO_144003;clear HO_144004;clear BK143;clear HB;clear HO_144005;have HO_144003:=n0_;have HO_144004:=n1_;have BK143:=n2_;have HB:=n3_;have HO185:=n4_;clear n0_ n1_ n2_ n3_ n4_;clear ho hb hg hat;obtain ⟨Ao82,co82,eo82⟩:=Kd.R_slice HO185.out;subst eo82;obtain ⟨hcz83_0,hcz83_1,hcz83_2,hcz83_3,hcz83_4,hcz83_5,hcz83_6,hcz83_7,hcz83_8,hcz83_9,hfz83_0,hfz83_1,hfz83_2,hfz83_3,hfz83_4,hfz83_5,hfz83_6,hfz83_7,hfz83_8,hfz83_9⟩:=bk10 BK143.out))
                    go_roundg k7
                    case measure=>have:=HJ5.out;have:=HJ7.out;have:=HK3.out;have:=HK4.out;have:=HJ52.out;have:=HJ55.out;have:=HK7.out;omega
                    case rel=>exact ⟨(t182),(wrap64 (x19_7+1)),(y183),(.slice Ao82 y183.length co82),(by first|rfl|(simp;done)|(simp [*];done)),(by first|rfl|(simp;done)|(simp [*];done)),H',⟨by have:=HJ5.out;have:=HJ7.out;have:=HK3.out;have:=HK4.out;have:=HJ52.out;have:=HJ55.out;have:=HK7.out;omega⟩,⟨by (with_reducible repeat (first|apply Kd.R_alloc|apply Kd.R_drewN|apply Kd.R_drew));exact Kd.R_mono (Kd.R_far (p:=⟨gb143,5,none⟩) (Kd.R_types HO_144003.out BK143.out (by decide)) (fun _ hk=>hk.2) (.slice Ao82 y183.length co82)) (fun _ hk=>trivial)⟩,⟨by (with_reducible repeat (first|apply Kd.R_alloc|apply Kd.R_drewN|apply Kd.R_drew));exact Kd.R_mono (Kd.R_far (p:=⟨gb143,5,none⟩) (Kd.R_types HO_144004.out BK143.out (by decide)) (fun _ hk=>hk.2) (.slice Ao82 y183.length co82)) (fun _ hk=>trivial)⟩,⟨by (with_reducible repeat (first|apply Kd.R_alloc|apply Kd.R_drewN|apply Kd.R_drew));exact Kd.R_mono (Kd.R_far (p:=⟨gb143,5,none⟩) (Kd.R_types HO185.out BK143.out (by decide)) (fun _ hk=>hk.2) (.slice Ao82 y183.length co82)) (fun _ hk=>trivial)⟩,⟨by (with_reducible repeat (first|refine blk_drewN ?_ _|refine blk_drew ?_|refine blk_alloc ?_ _));refine blk_put (cs:=#[.int .i64 (Int.tmod t139 4),.bool (decide (t141<3)),.int .i64 12,u144003,.slice Ao17 y144.length co17,u144005,.int .i64 x10_7,.string (⟨#[]⟩:ByteArray),.slice none 0 0,.slice none 0 0]) ?_ 5 _ rfl;(with_reducible repeat (first|refine blk_drewN ?_ _|refine blk_drew ?_|refine blk_alloc ?_ _));exact BK143.out⟩,⟨by repeat (first|(with_reducible first|exact HB.out|apply below_alloc|apply pw_below_drewN|apply below_drew1|refine below_set ?_ GE143.out)|exact HB.out)⟩⟩
                   ·rw [if_neg c79] at H
                    exact absurd H (by simp)
                  ·rw [if_neg c77] at H
                   have c77b0:decide (x19_7<a3)=false:=decide_eq_false c77
                   clear c77
                   replace H:=Option.bind_eq_some_iff.mp H
                   obtain ⟨⟨t186,t189⟩,A840,H⟩:=H
                   replace H:(some (t186,t189))=some (r1,r2):=H
                   have A84:=Ak A840;clear A840
                   simp only [Option.some.injEq,Prod.mk.injEq] at H
                   obtain ⟨rfl,rfl⟩:=H
                   obtain ⟨hcz85_0,hcz85_1,hcz85_2,hcz85_3,hcz85_4,hcz85_5,hcz85_6,hcz85_7,hcz85_8,hcz85_9,hfz85_0,hfz85_1,hfz85_2,hfz85_3,hfz85_4,hfz85_5,hfz85_6,hfz85_7,hfz85_8,hfz85_9⟩:=bk10 BK143.out
                   obtain ⟨Ao86,co86,eo86⟩:=Kd.R_slice HO_144003.out
                   subst eo86
                   obtain ⟨Ao87,co87,eo87⟩:=Kd.R_slice HO_144005.out
                   subst eo87
                   go_wp2_with (first|((with_reducible refine gate_callee (f:=121) rfl ?_);refine goesL_ (some 170) rfl rfl Try.func121 (by kernel_rfl) rfl #[.slice A0 l0.length c0,.int .i64 x1_7,.int .i64 a2,.agg #[.int .i64 (Int.tmod t139 4),.bool (decide (t141<3)),.int .i64 12,.slice Ao86 x144003_55.length co86,.slice Ao17 y144.length co17,.slice Ao87 x144005_7.length co87,.int .i64 x10_7,.string (⟨#[]⟩:ByteArray),.slice none 0 0,.slice none 0 0]] rfl (by (try simp only [List.map_toArray,List.map_cons,List.map_nil]);first|done|rfl|(simp only [List.length_drop,List.length_take];rfl)) ?_;(refine ((default:KidsS).calls k7 _ _ l0 x1_7 a2 (Int.tmod t139 4) (decide (t141<3)) 12 _ _ x144003_55 _ _ y144 _ _ x144005_7 x10_7 t186 t189 w.heap.size _ ?side1 HC0.out (below_size (by repeat (first|(with_reducible first|exact HB.out|apply below_alloc|apply pw_below_drewN|apply below_drew1|refine below_set ?_ GE143.out)|exact HB.out))) (by (with_reducible repeat (first|apply Kd.R_alloc|apply Kd.R_drewN|apply Kd.R_drew));exact HO_144003.out) (by (with_reducible repeat (first|apply Kd.R_alloc|apply Kd.R_drewN|apply Kd.R_drew));exact HO_144004.out) (by (with_reducible repeat (first|apply Kd.R_alloc|apply Kd.R_drewN|apply Kd.R_drew));exact HO_144005.out) A84.out).mono ?_);(case side1=>repeat (first|exact (Kd.C_below HR0.out HB.out)|(with_reducible refine Kd.C_alloc ?_ _)|(with_reducible refine Kd.C_drewN ?_ _)|(with_reducible refine Kd.C_drew ?_)));rintro e w88 ⟨v187,rfl,ho0,hb⟩;refine ⟨_,rfl,?_⟩;have n0_:=Ak (Kd.R_below (by (with_reducible repeat (first|apply Kd.R_alloc|apply Kd.R_drewN|apply Kd.R_drew));exact HO_144003.out) hb);have n1_:=Ak (Kd.R_below (by (with_reducible repeat (first|apply Kd.R_alloc|apply Kd.R_drewN|apply Kd.R_drew));exact HO_144004.out) hb);have n2_:=Ak (Kd.R_below (by (with_reducible repeat (first|apply Kd.R_alloc|apply Kd.R_drewN|apply Kd.R_drew));exact HO_144005.out) hb);have n3_:=Ak ho0;have n4_:=Ak (blk_below (g:=gb143) (o:=.cells #[.int .i64 (Int.tmod t139 4),.bool (decide (t141<3)),.int .i64 12,.slice Ao86 x144003_55.length co86,.slice Ao17 y144.length co17,.slice Ao87 x144005_7.length co87,.int .i64 x10_7,.string (⟨#[]⟩:ByteArray),.slice none 0 0,.slice none 0 0] 44 (0,0)) (by (with_reducible repeat (first|refine blk_drewN ?_ _|refine blk_drew ?_|refine blk_alloc ?_ _));exact BK143.out) hb);have n5_:=Ak (below_step (by repeat (first|(with_reducible first|exact HB.out|apply below_alloc|apply pw_below_drewN|apply below_drew1|refine below_set ?_ GE143.out)|exact HB.out)) hb);clear HO_144003;clear HO_144004;clear HO_144005;clear BK143;clear HB;have HO_144003:=n0_;have HO_144004:=n1_;have HO_144005:=n2_;have HO188:=n3_;have BK143:=n4_;have HB:=n5_;clear n0_ n1_ n2_ n3_ n4_ n5_;(try clear hb);(try clear hb2);(try clear hk);(try clear hi);(try clear ho0)))
                   go_ret2
                   exact ⟨_,by first|rfl|(simp [errW_none,errW_some] <;> rfl)|(simp [*,errW_none,errW_some] <;> rfl),by (with_reducible repeat (first|apply Kd.S_alloc|apply Kd.S_drewN|apply Kd.S_drew));exact Kd.S_mono HO188.out (fun _ hk=>trivial),by repeat (first|(with_reducible first|exact HB.out|apply below_alloc|apply pw_below_drewN|apply below_drew1|refine below_set ?_ GE143.out)|exact HB.out)⟩
        ·rw [if_neg c29] at H
         exact absurd H (by simp)
end
end Go.Proofs.Ytiekodnojmkfaaa.PFnEnds
