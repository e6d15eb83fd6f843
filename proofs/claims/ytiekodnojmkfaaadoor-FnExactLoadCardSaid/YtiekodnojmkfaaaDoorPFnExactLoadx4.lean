-- Printed by the kit's print or by this session's program, then cut and tightened by it.
import Derived.Test.YtiekodnojmkfaaaDoorPFnExactLoadx0
import Derived.Test.YtiekodnojmkfaaaDoorPFnExactLoadx1
import Derived.Test.YtiekodnojmkfaaaDoorPFnExactLoadx3
namespace Go.Proofs.YtiekodnojmkfaaaDoor.PFnExactLoad
open Go.RowKit Go.Proofs.YtiekodnojmkfaaaDoorW.PrintWords Go.Proofs.YtiekodnojmkfaaaDoorW.PrintLast Go.Proofs.YtiekodnojmkfaaaDoorW.PrintMore
attribute [local go_sem] max2_int min2_int max_two min_two max_three min_three max_four min_four   -- for this text's walks alone
set_option linter.unusedVariables false
set_option linter.unusedSimpArgs false
def spec_l3ReadConst.j0:Nat→Int→Bool→ByteArray→Int→Int→Option (Int×Int×ByteArray×ByteArray×Int×Int)
 | 0,_,_,_,_,_=>none
 | k+1,x4,x23,x159000,x159001,x159002=>if x23=true then (some (1,wrap64 (x4-1),(⟨#[]⟩:ByteArray),x159000,x159001,x159002)) else (if x4=3 then ((spec_l3Bytes.f x159000 x159001 x159002 8).bind fun bt159=>((spec_GetInt.f k bt159.1 0).bind fun bt164=>(some (2,bt164.1,(⟨#[]⟩:ByteArray),bt159.2.1,bt159.2.2.1,bt159.2.2.2)))) else (if x4=4 then ((spec_l3Text.f k x159000 x159001 x159002).bind fun bt167=>(some (3,0,bt167.1,bt167.2.1,bt167.2.2.1,bt167.2.2.2))) else (some (0,0,(⟨#[]⟩:ByteArray),x159000,x159001,x159002))))
def spec_l3ReadConst.f (k:Nat) (a0_0:ByteArray) (a0_1:Int) (a0_2:Int):Option (Int×Int×ByteArray×ByteArray×Int×Int):=(spec_l3Byte.f a0_0 a0_1 a0_2 4).bind fun bt154=>(if bt154.1=1 then (spec_l3ReadConst.j0 k bt154.1 true bt154.2.1 bt154.2.2.1 bt154.2.2.2) else (spec_l3ReadConst.j0 k bt154.1 (bt154.1 == 2) bt154.2.1 bt154.2.2.1 bt154.2.2.2))
set_option maxHeartbeats 8000000 in
set_option maxRecDepth 100000 in
theorem spec_l3ReadConst.calls (k:Nat) (a0_0:ByteArray) (a0_1:Int) (a0_2:Int) (r1:Int) (r2:Int) (r3:ByteArray) (r4:ByteArray) (r5:Int) (r6:Int) (w:World) (h:spec_l3ReadConst.f k a0_0 a0_1 a0_2=some (r1,r2,r3,r4,r5,r6)) :
  Calls Tryd.prog 21 #[.agg #[.string a0_0,.int .i64 a0_1,.int .i64 a0_2]] w fun e w'=>e=.returned (.tuple #[.agg #[.int .i64 r1,.int .i64 r2,.string r3],.agg #[.string r4,.int .i64 r5,.int .i64 r6]])∧Below w.heap.size w w':=by
 have hu31:=Tryd.underlying31
 have hu63:=Tryd.underlying63
 have HB:=Ak (Below.refl w.heap.size w)
 have H:((spec_l3Byte.f a0_0 a0_1 a0_2 4).bind fun bt154=>(if bt154.1=1 then (spec_l3ReadConst.j0 k bt154.1 true bt154.2.1 bt154.2.2.1 bt154.2.2.2) else (spec_l3ReadConst.j0 k bt154.1 (bt154.1 == 2) bt154.2.1 bt154.2.2.1 bt154.2.2.2)))=some (r1,r2,r3,r4,r5,r6):=h
 clear h
 replace H:=Option.bind_eq_some_iff.mp H
 obtain ⟨⟨t154,t155,t156,t157⟩,A20,H⟩:=H
 replace H:(if t154=1 then (spec_l3ReadConst.j0 k t154 true t155 t156 t157) else (spec_l3ReadConst.j0 k t154 (t154 == 2) t155 t156 t157))=some (r1,r2,r3,r4,r5,r6):=H
 have A2:=Ak A20;clear A20;have HC3:=Ak H;clear H
 go_enter Tryd.func21,Tryd.ntmps21
 go_upto_region 2 with (first|((with_reducible refine gate_dst (N:=1) rfl ?_);refine box_event ?hg (N:=1) ?hd (cs:=#[.string a0_0,.int .i64 a0_1,.int .i64 a0_2]) (t:=31) ?hr ?_;(case hd=>rfl);(case hg=>rfl);(case hr=>first|(go_simp;done)|(go_simp;rfl));intro gb151 hg w4 hbox hb;have n0_:=Ak (below_step (by repeat (first|(with_reducible first|exact HB.out|apply below_alloc|apply pw_below_drewN|apply below_drew1)|exact HB.out)) hb);have n1_:=Ak (hbox);have n2_:=Ak ((by rw [hg];exact (below_size (by repeat (first|(with_reducible first|exact HB.out|apply below_alloc|apply pw_below_drewN|apply below_drew1)|exact HB.out))):w.heap.size≤gb151));have n3_:=Ak ((by rw [hg];exact (below_size (by repeat (first|(with_reducible first|exact HB.out|apply below_alloc|apply pw_below_drewN|apply below_drew1)|exact HB.out))):w.heap.size≤gb151));clear HB;have HB:=n0_;have BK151:=n1_;have GW151:=n2_;have GE151:=n3_;clear n0_ n1_ n2_ n3_;clear hb hbox hg)|((with_reducible refine gate_dst (N:=2) rfl ?_);refine box_event ?hg (N:=2) ?hd (cs:=#[.int .i64 0,.int .i64 0,.string (⟨#[]⟩:ByteArray)]) (t:=63) ?hr ?_;(case hd=>rfl);(case hg=>rfl);(case hr=>first|(go_simp;done)|(go_simp;rfl));intro gb152 hg w5 hbox hb;have n0_:=Ak (blk_below (g:=gb151) (by (with_reducible repeat (first|refine blk_drewN ?_ _|refine blk_drew ?_|refine blk_alloc ?_ _));exact BK151.out) hb);have n1_:=Ak (below_step (by repeat (first|(with_reducible first|exact HB.out|apply below_alloc|apply pw_below_drewN|apply below_drew1|refine below_set ?_ GE151.out)|exact HB.out)) hb);have n2_:=Ak (hbox);have n3_:=Ak ((by rw [hg];exact (below_size (by repeat (first|(with_reducible first|exact HB.out|apply below_alloc|apply pw_below_drewN|apply below_drew1|refine below_set ?_ GE151.out)|exact HB.out))):w.heap.size≤gb152));have n4_:=Ak ((by rw [hg];exact (below_size (by repeat (first|(with_reducible first|exact HB.out|apply below_alloc|apply pw_below_drewN|apply below_drew1|refine below_set ?_ GE151.out)|exact HB.out))):w.heap.size≤gb152));have n5_:=Ak ((by rw [hg];exact Nat.ne_of_lt (blk_lt (g:=gb151) (by (with_reducible repeat (first|refine blk_drewN ?_ _|refine blk_drew ?_|refine blk_alloc ?_ _));exact BK151.out)):gb151≠gb152));have n6_:=Ak ((by rw [hg];exact Nat.ne_of_gt (blk_lt (g:=gb151) (by (with_reducible repeat (first|refine blk_drewN ?_ _|refine blk_drew ?_|refine blk_alloc ?_ _));exact BK151.out)):gb152≠gb151));clear BK151;clear HB;have BK151:=n0_;have HB:=n1_;have BK152:=n2_;have GW152:=n3_;have GE152:=n4_;have NB151_152:=n5_;have NB152_151:=n6_;clear n0_ n1_ n2_ n3_ n4_ n5_ n6_;clear hb hbox hg)|((with_reducible refine gate_dst (N:=3) rfl ?_);refine box_event ?hg (N:=3) ?hd (cs:=#[.string (⟨#[]⟩:ByteArray),.int .i64 0,.int .i64 0]) (t:=31) ?hr ?_;(case hd=>rfl);(case hg=>rfl);(case hr=>first|(go_simp;done)|(go_simp;rfl));intro gb153 hg w6 hbox hb;have n0_:=Ak (blk_below (g:=gb151) (by (with_reducible repeat (first|refine blk_drewN ?_ _|refine blk_drew ?_|refine blk_alloc ?_ _));exact BK151.out) hb);have n1_:=Ak (blk_below (g:=gb152) (o:=.cells #[.int .i64 0,.int .i64 0,.string (⟨#[]⟩:ByteArray)] 63 (0,0)) (by (with_reducible repeat (first|refine blk_drewN ?_ _|refine blk_drew ?_|refine blk_alloc ?_ _));exact BK152.out) hb);have n2_:=Ak (below_step (by repeat (first|(with_reducible first|exact HB.out|apply below_alloc|apply pw_below_drewN|apply below_drew1|refine below_set ?_ GE151.out|refine below_set ?_ GE152.out)|exact HB.out)) hb);have n3_:=Ak (hbox);have n4_:=Ak ((by rw [hg];exact (below_size (by repeat (first|(with_reducible first|exact HB.out|apply below_alloc|apply pw_below_drewN|apply below_drew1|refine below_set ?_ GE151.out|refine below_set ?_ GE152.out)|exact HB.out))):w.heap.size≤gb153));have n5_:=Ak ((by rw [hg];exact (below_size (by repeat (first|(with_reducible first|exact HB.out|apply below_alloc|apply pw_below_drewN|apply below_drew1|refine below_set ?_ GE151.out|refine below_set ?_ GE152.out)|exact HB.out))):w.heap.size≤gb153));have n6_:=Ak ((by rw [hg];exact Nat.ne_of_lt (blk_lt (g:=gb151) (by (with_reducible repeat (first|refine blk_drewN ?_ _|refine blk_drew ?_|refine blk_alloc ?_ _));exact BK151.out)):gb151≠gb153));have n7_:=Ak ((by rw [hg];exact Nat.ne_of_gt (blk_lt (g:=gb151) (by (with_reducible repeat (first|refine blk_drewN ?_ _|refine blk_drew ?_|refine blk_alloc ?_ _));exact BK151.out)):gb153≠gb151));have n8_:=Ak ((by rw [hg];exact Nat.ne_of_lt (blk_lt (g:=gb152) (o:=.cells #[.int .i64 0,.int .i64 0,.string (⟨#[]⟩:ByteArray)] 63 (0,0)) (by (with_reducible repeat (first|refine blk_drewN ?_ _|refine blk_drew ?_|refine blk_alloc ?_ _));exact BK152.out)):gb152≠gb153));have n9_:=Ak ((by rw [hg];exact Nat.ne_of_gt (blk_lt (g:=gb152) (o:=.cells #[.int .i64 0,.int .i64 0,.string (⟨#[]⟩:ByteArray)] 63 (0,0)) (by (with_reducible repeat (first|refine blk_drewN ?_ _|refine blk_drew ?_|refine blk_alloc ?_ _));exact BK152.out)):gb153≠gb152));clear BK151;clear BK152;clear HB;have BK151:=n0_;have BK152:=n1_;have HB:=n2_;have BK153:=n3_;have GW153:=n4_;have GE153:=n5_;have NB151_153:=n6_;have NB153_151:=n7_;have NB152_153:=n8_;have NB153_152:=n9_;clear n0_ n1_ n2_ n3_ n4_ n5_ n6_ n7_ n8_ n9_;clear hb hbox hg;have hnb7:=NB151_152.out;have hnc7:=NB152_151.out;have hnb8:=NB151_153.out;have hnc8:=NB153_151.out;obtain ⟨hcz9_0,hcz9_1,hcz9_2,hfz9_0,hfz9_1,hfz9_2⟩:=bk3 BK151.out)|((with_reducible refine gate_callee (f:=18) rfl ?_);refine goesL_ (some 15) rfl rfl Tryd.func18 (by kernel_rfl) rfl #[.agg #[.string a0_0,.int .i64 a0_1,.int .i64 a0_2],.int .i64 4] rfl (by (try simp only [List.map_toArray,List.map_cons,List.map_nil]);first|done|rfl|(simp only [List.length_drop,List.length_take];rfl)) ?_;(with_reducible refine (spec_l3Byte.calls a0_0 a0_1 a0_2 4 t154 t155 t156 t157 _ A2.out).mono ?_);rintro e w10 ⟨rfl,hb⟩;refine ⟨_,rfl,?_⟩;have n0_:=Ak (blk_below (g:=gb151) (by (with_reducible repeat (first|refine blk_drewN ?_ _|refine blk_drew ?_|refine blk_alloc ?_ _));exact BK151.out) hb);have n1_:=Ak (blk_below (g:=gb152) (o:=.cells #[.int .i64 0,.int .i64 0,.string (⟨#[]⟩:ByteArray)] 63 (0,0)) (by (with_reducible repeat (first|refine blk_drewN ?_ _|refine blk_drew ?_|refine blk_alloc ?_ _));exact BK152.out) hb);have n2_:=Ak (blk_below (g:=gb153) (o:=.cells #[.string (⟨#[]⟩:ByteArray),.int .i64 0,.int .i64 0] 31 (0,0)) (by (with_reducible repeat (first|refine blk_drewN ?_ _|refine blk_drew ?_|refine blk_alloc ?_ _));exact BK153.out) hb);have n3_:=Ak (below_step (by repeat (first|(with_reducible first|exact HB.out|apply below_alloc|apply pw_below_drewN|apply below_drew1|refine below_set ?_ GE151.out|refine below_set ?_ GE152.out|refine below_set ?_ GE153.out)|exact HB.out)) hb);clear BK151;clear BK152;clear BK153;clear HB;have BK151:=n0_;have BK152:=n1_;have BK153:=n2_;have HB:=n3_;clear n0_ n1_ n2_ n3_;(try clear hb);(try clear hb2);(try clear hk);(try clear hi))|((with_reducible refine gate_dst (N:=5) rfl ?_);refine box_event ?hg (N:=5) ?hd (cs:=#[.string (⟨#[]⟩:ByteArray),.int .i64 0,.int .i64 0]) (t:=31) ?hr ?_;(case hd=>rfl);(case hg=>rfl);(case hr=>first|(go_simp;done)|(go_simp;rfl));intro gb158 hg w11 hbox hb;have n0_:=Ak (blk_below (g:=gb151) (by (with_reducible repeat (first|refine blk_drewN ?_ _|refine blk_drew ?_|refine blk_alloc ?_ _));exact BK151.out) hb);have n1_:=Ak (blk_below (g:=gb152) (o:=.cells #[.int .i64 0,.int .i64 0,.string (⟨#[]⟩:ByteArray)] 63 (0,0)) (by (with_reducible repeat (first|refine blk_drewN ?_ _|refine blk_drew ?_|refine blk_alloc ?_ _));exact BK152.out) hb);have n2_:=Ak (blk_below (g:=gb153) (o:=.cells #[.string (⟨#[]⟩:ByteArray),.int .i64 0,.int .i64 0] 31 (0,0)) (by (with_reducible repeat (first|refine blk_drewN ?_ _|refine blk_drew ?_|refine blk_alloc ?_ _));exact BK153.out) hb);have n3_:=Ak (below_step (by repeat (first|(with_reducible first|exact HB.out|apply below_alloc|apply pw_below_drewN|apply below_drew1|refine below_set ?_ GE151.out|refine below_set ?_ GE152.out|refine below_set ?_ GE153.out)|exact HB.out)) hb);have n4_:=Ak (hbox);have n5_:=Ak ((by rw [hg];exact (below_size (by repeat (first|(with_reducible first|exact HB.out|apply below_alloc|apply pw_below_drewN|apply below_drew1|refine below_set ?_ GE151.out|refine below_set ?_ GE152.out|refine below_set ?_ GE153.out)|exact HB.out))):w.heap.size≤gb158));have n6_:=Ak ((by rw [hg];exact (below_size (by repeat (first|(with_reducible first|exact HB.out|apply below_alloc|apply pw_below_drewN|apply below_drew1|refine below_set ?_ GE151.out|refine below_set ?_ GE152.out|refine below_set ?_ GE153.out)|exact HB.out))):w.heap.size≤gb158));have n7_:=Ak ((by rw [hg];exact Nat.ne_of_lt (blk_lt (g:=gb151) (by (with_reducible repeat (first|refine blk_drewN ?_ _|refine blk_drew ?_|refine blk_alloc ?_ _));exact BK151.out)):gb151≠gb158));have n8_:=Ak ((by rw [hg];exact Nat.ne_of_gt (blk_lt (g:=gb151) (by (with_reducible repeat (first|refine blk_drewN ?_ _|refine blk_drew ?_|refine blk_alloc ?_ _));exact BK151.out)):gb158≠gb151));have n9_:=Ak ((by rw [hg];exact Nat.ne_of_lt (blk_lt (g:=gb152) (o:=.cells #[.int .i64 0,.int .i64 0,.string (⟨#[]⟩:ByteArray)] 63 (0,0)) (by (with_reducible repeat (first|refine blk_drewN ?_ _|refine blk_drew ?_|refine blk_alloc ?_ _));exact BK152.out)):gb152≠gb158));have n10_:=Ak ((by rw [hg];exact Nat.ne_of_gt (blk_lt (g:=gb152) (o:=.cells #[.int .i64 0,.int .i64 0,.string (⟨#[]⟩:ByteArray)] 63 (0,0)) (by (with_reducible repeat (first|refine blk_drewN ?_ _|refine blk_drew ?_|refine blk_alloc ?_ _));exact BK152.out)):gb158≠gb152));have n11_:=Ak ((by rw [hg];exact Nat.ne_of_lt (blk_lt (g:=gb153) (o:=.cells #[.string (⟨#[]⟩:ByteArray),.int .i64 0,.int .i64 0] 31 (0,0)) (by (with_reducible repeat (first|refine blk_drewN ?_ _|refine blk_drew ?_|refine blk_alloc ?_ _));exact BK153.out)):gb153≠gb158));have n12_:=Ak ((by rw [hg];exact Nat.ne_of_gt (blk_lt (g:=gb153) (o:=.cells #[.string (⟨#[]⟩:ByteArray),.int .i64 0,.int .i64 0] 31 (0,0)) (by (with_reducible repeat (first|refine blk_drewN ?_ _|refine blk_drew ?_|refine blk_alloc ?_ _));exact BK153.out)):gb158≠gb153));clear BK151;clear BK152;clear BK153;clear HB;have BK151:=n0_;have BK152:=n1_;have BK153:=n2_;have HB:=n3_;have BK158:=n4_;have GW158:=n5_;have GE158:=n6_;have NB151_158:=n7_;have NB158_151:=n8_;have NB152_158:=n9_;have NB158_152:=n10_;have NB153_158:=n11_;have NB158_153:=n12_;clear n0_ n1_ n2_ n3_ n4_ n5_ n6_ n7_ n8_ n9_ n10_ n11_ n12_;clear hb hbox hg;have hnb12:=NB158_151.out;have hnc12:=NB151_158.out;have hnb13:=NB158_152.out;have hnc13:=NB152_158.out;have hnb14:=NB158_153.out;have hnc14:=NB153_158.out;obtain ⟨hcz15_0,hcz15_1,hcz15_2,hfz15_0,hfz15_1,hfz15_2⟩:=bk3 BK158.out))
 (try simp only [Act.put,List.setIfInBounds_toArray,List.set_cons_zero,List.set_cons_succ])
 go_cut [23] (fun v23 wc=>∃ (kq:Nat) (x23_2:Bool),v23=.bool x23_2∧Aside0 (spec_l3ReadConst.j0 kq t154 x23_2 t155 t156 t157=some (r1,r2,r3,r4,r5,r6))∧Aside0 (kq≤k)∧Aside0 (wc.heap[gb151]?=some (.cells #[.string a0_0,.int .i64 a0_1,.int .i64 a0_2] 31 (0,0)))∧Aside0 (wc.heap[gb152]?=some (.cells #[.int .i64 0,.int .i64 0,.string (⟨#[]⟩:ByteArray)] 63 (0,0)))∧Aside0 (wc.heap[gb153]?=some (.cells #[.string (⟨#[]⟩:ByteArray),.int .i64 0,.int .i64 0] 31 (0,0)))∧Aside0 (wc.heap[gb158]?=some (.cells #[.string t155,.int .i64 t156,.int .i64 t157] 31 (0,0)))∧Aside0 (Below w.heap.size w wc))
 case first =>
  have H:=HC3.out
  clear HC3
  by_cases c16:t154=1
  ·rw [if_pos c16] at H
   have c16b0:(t154 == 1)=true:=beq_iff_eq.mpr c16
   have c16b1:(t154 != 1)=false:=bne_eq_false_iff_eq.mpr c16
   clear c16
   (first|rw [c16b0]|(simp only [i64_w,i32_w];rw [c16b0])|skip)
   have H':=Ak H
   clear H
   go_wp2
   go_meet
   case rel=>exact ⟨_,(true),(by first|rfl|(simp;done)|(simp [*];done)),H',⟨by first|omega|exact Nat.le_refl _⟩,⟨by (with_reducible repeat (first|refine blk_drewN ?_ _|refine blk_drew ?_|refine blk_alloc ?_ _));refine blk_far ?_ NB151_158.out _;(with_reducible repeat (first|refine blk_drewN ?_ _|refine blk_drew ?_|refine blk_alloc ?_ _));refine blk_far ?_ NB151_158.out _;(with_reducible repeat (first|refine blk_drewN ?_ _|refine blk_drew ?_|refine blk_alloc ?_ _));refine blk_far ?_ NB151_158.out _;(with_reducible repeat (first|refine blk_drewN ?_ _|refine blk_drew ?_|refine blk_alloc ?_ _));exact BK151.out⟩,⟨by (with_reducible repeat (first|refine blk_drewN ?_ _|refine blk_drew ?_|refine blk_alloc ?_ _));refine blk_far ?_ NB152_158.out _;(with_reducible repeat (first|refine blk_drewN ?_ _|refine blk_drew ?_|refine blk_alloc ?_ _));refine blk_far ?_ NB152_158.out _;(with_reducible repeat (first|refine blk_drewN ?_ _|refine blk_drew ?_|refine blk_alloc ?_ _));refine blk_far ?_ NB152_158.out _;(with_reducible repeat (first|refine blk_drewN ?_ _|refine blk_drew ?_|refine blk_alloc ?_ _));exact BK152.out⟩,⟨by (with_reducible repeat (first|refine blk_drewN ?_ _|refine blk_drew ?_|refine blk_alloc ?_ _));refine blk_far ?_ NB153_158.out _;(with_reducible repeat (first|refine blk_drewN ?_ _|refine blk_drew ?_|refine blk_alloc ?_ _));refine blk_far ?_ NB153_158.out _;(with_reducible repeat (first|refine blk_drewN ?_ _|refine blk_drew ?_|refine blk_alloc ?_ _));refine blk_far ?_ NB153_158.out _;(with_reducible repeat (first|refine blk_drewN ?_ _|refine blk_drew ?_|refine blk_alloc ?_ _));exact BK153.out⟩,⟨by (with_reducible repeat (first|refine blk_drewN ?_ _|refine blk_drew ?_|refine blk_alloc ?_ _));refine blk_put (cs:=#[.string t155,.int .i64 t156,.int .i64 0]) ?_ 2 _ rfl;(with_reducible repeat (first|refine blk_drewN ?_ _|refine blk_drew ?_|refine blk_alloc ?_ _));refine blk_put (cs:=#[.string t155,.int .i64 0,.int .i64 0]) ?_ 1 _ rfl;(with_reducible repeat (first|refine blk_drewN ?_ _|refine blk_drew ?_|refine blk_alloc ?_ _));refine blk_put (cs:=#[.string (⟨#[]⟩:ByteArray),.int .i64 0,.int .i64 0]) ?_ 0 _ rfl;(with_reducible repeat (first|refine blk_drewN ?_ _|refine blk_drew ?_|refine blk_alloc ?_ _));exact BK158.out⟩,⟨by repeat (first|(with_reducible first|exact HB.out|apply below_alloc|apply pw_below_drewN|apply below_drew1|refine below_set ?_ GE151.out|refine below_set ?_ GE152.out|refine below_set ?_ GE153.out|refine below_set ?_ GE158.out)|exact HB.out)⟩⟩
  ·rw [if_neg c16] at H
   have c16b0:(t154 == 1)=false:=beq_eq_false_iff_ne.mpr c16
   have c16b1:(t154 != 1)=true:=bne_iff_ne.mpr c16
   (first|rw [c16b0]|(simp only [i64_w,i32_w];rw [c16b0])|skip)
   have H':=Ak H
   clear H
   go_wp2
   go_meet
   case rel=>exact ⟨_,((t154 == 2)),(by first|rfl|(simp;done)|(simp [*];done)),H',⟨by first|omega|exact Nat.le_refl _⟩,⟨by (with_reducible repeat (first|refine blk_drewN ?_ _|refine blk_drew ?_|refine blk_alloc ?_ _));refine blk_far ?_ NB151_158.out _;(with_reducible repeat (first|refine blk_drewN ?_ _|refine blk_drew ?_|refine blk_alloc ?_ _));refine blk_far ?_ NB151_158.out _;(with_reducible repeat (first|refine blk_drewN ?_ _|refine blk_drew ?_|refine blk_alloc ?_ _));refine blk_far ?_ NB151_158.out _;(with_reducible repeat (first|refine blk_drewN ?_ _|refine blk_drew ?_|refine blk_alloc ?_ _));exact BK151.out⟩,⟨by (with_reducible repeat (first|refine blk_drewN ?_ _|refine blk_drew ?_|refine blk_alloc ?_ _));refine blk_far ?_ NB152_158.out _;(with_reducible repeat (first|refine blk_drewN ?_ _|refine blk_drew ?_|refine blk_alloc ?_ _));refine blk_far ?_ NB152_158.out _;(with_reducible repeat (first|refine blk_drewN ?_ _|refine blk_drew ?_|refine blk_alloc ?_ _));refine blk_far ?_ NB152_158.out _;(with_reducible repeat (first|refine blk_drewN ?_ _|refine blk_drew ?_|refine blk_alloc ?_ _));exact BK152.out⟩,⟨by (with_reducible repeat (first|refine blk_drewN ?_ _|refine blk_drew ?_|refine blk_alloc ?_ _));refine blk_far ?_ NB153_158.out _;(with_reducible repeat (first|refine blk_drewN ?_ _|refine blk_drew ?_|refine blk_alloc ?_ _));refine blk_far ?_ NB153_158.out _;(with_reducible repeat (first|refine blk_drewN ?_ _|refine blk_drew ?_|refine blk_alloc ?_ _));refine blk_far ?_ NB153_158.out _;(with_reducible repeat (first|refine blk_drewN ?_ _|refine blk_drew ?_|refine blk_alloc ?_ _));exact BK153.out⟩,⟨by (with_reducible repeat (first|refine blk_drewN ?_ _|refine blk_drew ?_|refine blk_alloc ?_ _));refine blk_put (cs:=#[.string t155,.int .i64 t156,.int .i64 0]) ?_ 2 _ rfl;(with_reducible repeat (first|refine blk_drewN ?_ _|refine blk_drew ?_|refine blk_alloc ?_ _));refine blk_put (cs:=#[.string t155,.int .i64 0,.int .i64 0]) ?_ 1 _ rfl;(with_reducible repeat (first|refine blk_drewN ?_ _|refine blk_drew ?_|refine blk_alloc ?_ _));refine blk_put (cs:=#[.string (⟨#[]⟩:ByteArray),.int .i64 0,.int .i64 0]) ?_ 0 _ rfl;(with_reducible repeat (first|refine blk_drewN ?_ _|refine blk_drew ?_|refine blk_alloc ?_ _));exact BK158.out⟩,⟨by repeat (first|(with_reducible first|exact HB.out|apply below_alloc|apply pw_below_drewN|apply below_drew1|refine below_set ?_ GE151.out|refine below_set ?_ GE152.out|refine below_set ?_ GE153.out|refine below_set ?_ GE158.out)|exact HB.out)⟩⟩
 case rest =>
  clear HC3;(try clear c1);(try clear c2);(try clear p2);(try clear c7);(try clear c8);(try clear c12);(try clear c13);(try clear c14);(try clear c16);(try clear c16b0);(try clear c16b1);(try clear hcz15_0);(try clear hcz15_1);(try clear hcz15_2);(try clear hcz9_0);(try clear hcz9_1);(try clear hcz9_2);(try clear hfz15_0);(try clear hfz15_1);(try clear hfz15_2);(try clear hfz9_0)
  (try clear hfz9_1);(try clear hfz9_2)
  obtain ⟨kq,x23_2,rfl,HA,HJ2,BK151,BK152,BK153,BK158,HB⟩:=hcut
  cases kq with
  | zero=>exact absurd HA.out (by simp [spec_l3ReadConst.j0])
  | succ kj2 =>
   have H:=HA.out
   clear HA
   simp only [spec_l3ReadConst.j0] at H
   by_cases c17:x23_2=true
   ·subst c17
    have H1:(some (1,wrap64 (t154-1),(⟨#[]⟩:ByteArray),t155,t156,t157))=some (r1,r2,r3,r4,r5,r6):=by rw [if_pos rfl] at H;exact H
    clear H;have H:=H1;clear H1
    simp only [Option.some.injEq,Prod.mk.injEq] at H
    obtain ⟨rfl,rfl,rfl,rfl,rfl,rfl⟩:=H
    try go_wp2
    have n0_:=Ak (blk_drew BK151.out)
    have n1_:=Ak (blk_drew BK152.out)
    have n2_:=Ak (blk_drew BK153.out)
    have n3_:=Ak (blk_drew BK158.out)
    have n4_:=Ak (below_drew1 HB.out)
    clear BK151;clear BK152;clear BK153;clear BK158;clear HB;have BK151:=n0_;have BK152:=n1_;have BK153:=n2_;have BK158:=n3_;have HB:=n4_;clear n0_ n1_ n2_ n3_ n4_
    refine start_ (n:=6) (S:=fun w'=>w'.cell? ⟨gb158,0,none⟩=some (.string t155)∧w'.cell? ⟨gb158,1,none⟩=some (.int .i64 t156)∧w'.cell? ⟨gb158,2,none⟩=some (.int .i64 t157)) (ds:=[]) #[false,false,false,false,false,false] (by kernel_rfl) rfl rfl ⟨(blk_cell BK158.out 0).trans rfl,(blk_cell BK158.out 1).trans rfl,(blk_cell BK158.out 2).trans rfl⟩ (fun hHeld=>?_)
    generalize wc.drew=w18 at BK151 BK152 BK153 BK158 HB hHeld ⊢
    refine pure_ (i:=0) (N:=some 24) (v:=?_) (a':=?_) #[true,false,false,false,false,false] rfl rfl (by kernel_rfl) (fun _ _ _ h=>h) (Or.inl ⟨by rfl,?_⟩) ?_ ?_
    rotate_left
    ·intro w'
     go_simp
     with_reducible rfl
    rotate_left
    ·simp only [Act.put,List.setIfInBounds_toArray,List.set_cons_zero,List.set_cons_succ,i64_w,i32_w]
     rfl
    refine pure_ (i:=1) (N:=some 25) (v:=?_) (a':=?_) #[true,true,false,false,false,false] rfl rfl (by kernel_rfl) (fun _ _ _ h=>h) (Or.inl ⟨by rfl,?_⟩) ?_ ?_
    rotate_left
    ·intro w'
     go_simp
     with_reducible rfl
    rotate_left
    ·simp only [Act.put,List.setIfInBounds_toArray,List.set_cons_zero,List.set_cons_succ,i64_w,i32_w]
     rfl
    refine pure_ (i:=2) (N:=some 26) (v:=?_) (a':=?_) #[true,true,true,false,false,false] rfl rfl (by kernel_rfl) (fun _ _ _ h=>h) (Or.inl ⟨by rfl,?_⟩) ?_ ?_
    rotate_left
    ·intro w'
     go_simp
     with_reducible rfl
    rotate_left
    ·simp only [Act.put,List.setIfInBounds_toArray,List.set_cons_zero,List.set_cons_succ,i64_w,i32_w]
     rfl
    refine take_ (i:=3) (N:=some 27) (v:=?_) (a':=?_) #[true,true,true,true,false,false] rfl rfl (by kernel_rfl) (fun _ _ _ h=>h) (Or.inl ⟨by rfl,?_⟩) hHeld ?_ ?_
    rotate_left
    ·rintro w' ⟨s0,s1,s2⟩
     go_simp
     with_reducible rfl
    rotate_left
    ·simp only [Act.put,List.setIfInBounds_toArray,List.set_cons_zero,List.set_cons_succ,i64_w,i32_w]
     rfl
    refine one_ (i:=4) (N:=none) #[true,true,true,true,true,false] rfl rfl (by kernel_rfl) (by decide) (fun K hK=>?_)
    have hs19:w18.cell? ⟨gb152,0,none⟩=some (.int .i64 0):=(blk_cell BK152.out 0).trans rfl
    have hfs19:=blk_frozen BK152.out 0
    have hns19_0:=NB151_152.out
    have hns19_2:=NB153_152.out
    have hns19_3:=NB158_152.out
    have hms19_0:=NB152_151.out
    have hms19_2:=NB152_153.out
    have hms19_3:=NB152_158.out
    have hs20:w18.cell? ⟨gb152,1,none⟩=some (.int .i64 0):=(blk_cell BK152.out 1).trans rfl
    have hfs20:=blk_frozen BK152.out 1
    have hns20_0:=NB151_152.out
    have hns20_2:=NB153_152.out
    have hns20_3:=NB158_152.out
    have hms20_0:=NB152_151.out
    have hms20_2:=NB152_153.out
    have hms20_3:=NB152_158.out
    have hs21:w18.cell? ⟨gb152,2,none⟩=some (.string (⟨#[]⟩:ByteArray)):=(blk_cell BK152.out 2).trans rfl
    have hfs21:=blk_frozen BK152.out 2
    have hns21_0:=NB151_152.out
    have hns21_2:=NB153_152.out
    have hns21_3:=NB158_152.out
    have hms21_0:=NB152_151.out
    have hms21_2:=NB152_153.out
    have hms21_3:=NB152_158.out
    refine skip_ (w1:=?_) (by rfl) rfl ?_ ?_
    rotate_left
    ·go_simp
     rfl
    refine hK.out _ _ ⟨((cell_far (p:=⟨gb152,_,none⟩) NB158_152.out _).trans (((cell_far (p:=⟨gb152,_,none⟩) NB158_152.out _).trans (((cell_far (p:=⟨gb152,_,none⟩) NB158_152.out _).trans (hHeld.1)))))),((cell_far (p:=⟨gb152,_,none⟩) NB158_152.out _).trans (((cell_far (p:=⟨gb152,_,none⟩) NB158_152.out _).trans (((cell_far (p:=⟨gb152,_,none⟩) NB158_152.out _).trans (hHeld.2.1)))))),((cell_far (p:=⟨gb152,_,none⟩) NB158_152.out _).trans (((cell_far (p:=⟨gb152,_,none⟩) NB158_152.out _).trans (((cell_far (p:=⟨gb152,_,none⟩) NB158_152.out _).trans (hHeld.2.2))))))⟩ (fun hHeld=>?_)
    clear hK K
    refine one_ (i:=5) (N:=none) #[true,true,true,true,true,true] rfl rfl (by kernel_rfl) (by decide) (fun K hK=>?_)
    have hs22:w18.cell? ⟨gb153,0,none⟩=some (.string (⟨#[]⟩:ByteArray)):=(blk_cell BK153.out 0).trans rfl
    have hfs22:=blk_frozen BK153.out 0
    have hns22_0:=NB151_153.out
    have hns22_1:=NB152_153.out
    have hns22_3:=NB158_153.out
    have hms22_0:=NB153_151.out
    have hms22_1:=NB153_152.out
    have hms22_3:=NB153_158.out
    have hs23:w18.cell? ⟨gb153,1,none⟩=some (.int .i64 0):=(blk_cell BK153.out 1).trans rfl
    have hfs23:=blk_frozen BK153.out 1
    have hns23_0:=NB151_153.out
    have hns23_1:=NB152_153.out
    have hns23_3:=NB158_153.out
    have hms23_0:=NB153_151.out
    have hms23_1:=NB153_152.out
    have hms23_3:=NB153_158.out
    have hs24:w18.cell? ⟨gb153,2,none⟩=some (.int .i64 0):=(blk_cell BK153.out 2).trans rfl
    have hfs24:=blk_frozen BK153.out 2
    have hns24_0:=NB151_153.out
    have hns24_1:=NB152_153.out
    have hns24_3:=NB158_153.out
    have hms24_0:=NB153_151.out
    have hms24_1:=NB153_152.out
    have hms24_3:=NB153_158.out
    refine skip_ (w1:=?_) (by rfl) rfl ?_ ?_
    rotate_left
    ·go_simp
     rfl
    refine hK.out _ _ ⟨((cell_far (p:=⟨gb153,_,none⟩) NB158_153.out _).trans (((cell_far (p:=⟨gb153,_,none⟩) NB158_153.out _).trans (((cell_far (p:=⟨gb153,_,none⟩) NB158_153.out _).trans (hHeld.1)))))),((cell_far (p:=⟨gb153,_,none⟩) NB158_153.out _).trans (((cell_far (p:=⟨gb153,_,none⟩) NB158_153.out _).trans (((cell_far (p:=⟨gb153,_,none⟩) NB158_153.out _).trans (hHeld.2.1)))))),((cell_far (p:=⟨gb153,_,none⟩) NB158_153.out _).trans (((cell_far (p:=⟨gb153,_,none⟩) NB158_153.out _).trans (((cell_far (p:=⟨gb153,_,none⟩) NB158_153.out _).trans (hHeld.2.2))))))⟩ (fun hHeld=>?_)
    clear hK K
    refine done_ (by kernel_rfl) ?_
    try go_wp2
    refine bodyPost_ret (results_cc rfl _ _ gb152 gb153 63 31 #[.int .i64 1,.int .i64 (wrap64 (t154-1)),.string (⟨#[]⟩:ByteArray)] #[.string t155,.int .i64 t156,.int .i64 t157] (0,0) (0,0) _ _ rfl (by (with_reducible repeat (first|refine blk_drewN ?_ _|refine blk_drew ?_|refine blk_alloc ?_ _));refine blk_far ?_ NB152_153.out _;(with_reducible repeat (first|refine blk_drewN ?_ _|refine blk_drew ?_|refine blk_alloc ?_ _));refine blk_far ?_ NB152_153.out _;(with_reducible repeat (first|refine blk_drewN ?_ _|refine blk_drew ?_|refine blk_alloc ?_ _));refine blk_far ?_ NB152_153.out _;(with_reducible repeat (first|refine blk_drewN ?_ _|refine blk_drew ?_|refine blk_alloc ?_ _));refine blk_put (cs:=#[.int .i64 1,.int .i64 (wrap64 (t154-1)),.string (⟨#[]⟩:ByteArray)]) ?_ 2 _ rfl;(with_reducible repeat (first|refine blk_drewN ?_ _|refine blk_drew ?_|refine blk_alloc ?_ _));refine blk_put (cs:=#[.int .i64 1,.int .i64 0,.string (⟨#[]⟩:ByteArray)]) ?_ 1 _ rfl;(with_reducible repeat (first|refine blk_drewN ?_ _|refine blk_drew ?_|refine blk_alloc ?_ _));refine blk_put (cs:=#[.int .i64 0,.int .i64 0,.string (⟨#[]⟩:ByteArray)]) ?_ 0 _ rfl;(with_reducible repeat (first|refine blk_drewN ?_ _|refine blk_drew ?_|refine blk_alloc ?_ _));exact BK152.out) Tryd.underlying63 rfl (by kernel_rfl) rfl (by (with_reducible repeat (first|refine blk_drewN ?_ _|refine blk_drew ?_|refine blk_alloc ?_ _));refine blk_put (cs:=#[.string t155,.int .i64 t156,.int .i64 0]) ?_ 2 _ rfl;(with_reducible repeat (first|refine blk_drewN ?_ _|refine blk_drew ?_|refine blk_alloc ?_ _));refine blk_put (cs:=#[.string t155,.int .i64 0,.int .i64 0]) ?_ 1 _ rfl;(with_reducible repeat (first|refine blk_drewN ?_ _|refine blk_drew ?_|refine blk_alloc ?_ _));refine blk_put (cs:=#[.string (⟨#[]⟩:ByteArray),.int .i64 0,.int .i64 0]) ?_ 0 _ rfl;(with_reducible repeat (first|refine blk_drewN ?_ _|refine blk_drew ?_|refine blk_alloc ?_ _));refine blk_far ?_ NB153_152.out _;(with_reducible repeat (first|refine blk_drewN ?_ _|refine blk_drew ?_|refine blk_alloc ?_ _));refine blk_far ?_ NB153_152.out _;(with_reducible repeat (first|refine blk_drewN ?_ _|refine blk_drew ?_|refine blk_alloc ?_ _));refine blk_far ?_ NB153_152.out _;(with_reducible repeat (first|refine blk_drewN ?_ _|refine blk_drew ?_|refine blk_alloc ?_ _));exact BK153.out) Tryd.underlying31 rfl (by kernel_rfl)) rfl ?_
    exact ⟨by first|rfl|(simp [errW_none,errW_some] <;> rfl)|(simp [*,errW_none,errW_some] <;> rfl),by repeat (first|(with_reducible first|exact HB.out|apply below_alloc|apply pw_below_drewN|apply below_drew1|refine below_set ?_ GE151.out|refine below_set ?_ GE152.out|refine below_set ?_ GE153.out|refine below_set ?_ GE158.out)|exact HB.out)⟩
   ·replace c17:=Bool.eq_false_iff.mpr c17
    subst c17
    have H1:(if t154=3 then ((spec_l3Bytes.f t155 t156 t157 8).bind fun bt159=>((spec_GetInt.f kj2 bt159.1 0).bind fun bt164=>(some (2,bt164.1,(⟨#[]⟩:ByteArray),bt159.2.1,bt159.2.2.1,bt159.2.2.2)))) else (if t154=4 then ((spec_l3Text.f kj2 t155 t156 t157).bind fun bt167=>(some (3,0,bt167.1,bt167.2.1,bt167.2.2.1,bt167.2.2.2))) else (some (0,0,(⟨#[]⟩:ByteArray),t155,t156,t157))))=some (r1,r2,r3,r4,r5,r6):=by rw [if_neg (show ¬ (false=true) by decide)] at H;exact H
    clear H;have H:=H1;clear H1
    by_cases c25:t154=3
    ·rw [if_pos c25] at H
     have c25b0:(t154 == 3)=true:=beq_iff_eq.mpr c25
     have c25b1:(t154 != 3)=false:=bne_eq_false_iff_eq.mpr c25
     clear c25
     replace H:=Option.bind_eq_some_iff.mp H
     obtain ⟨⟨t159,t160,t161,t162⟩,A260,H⟩:=H
     replace H:((spec_GetInt.f kj2 t159 0).bind fun bt164=>(some (2,bt164.1,(⟨#[]⟩:ByteArray),t160,t161,t162)))=some (r1,r2,r3,r4,r5,r6):=H
     have A26:=Ak A260;clear A260
     replace H:=Option.bind_eq_some_iff.mp H
     obtain ⟨⟨t164,t165,t166⟩,A270,H⟩:=H
     replace H:(some (2,t164,(⟨#[]⟩:ByteArray),t160,t161,t162))=some (r1,r2,r3,r4,r5,r6):=H
     have A27:=Ak A270;clear A270
     simp only [Option.some.injEq,Prod.mk.injEq] at H
     obtain ⟨rfl,rfl,rfl,rfl,rfl,rfl⟩:=H
     have hnb28:=NB158_151.out
     have hnc28:=NB151_158.out
     have hnb29:=NB158_152.out
     have hnc29:=NB152_158.out
     have hnb30:=NB158_153.out
     have hnc30:=NB153_158.out
     obtain ⟨hcz31_0,hcz31_1,hcz31_2,hfz31_0,hfz31_1,hfz31_2⟩:=bk3 BK158.out
     try go_wp2_with (first|((with_reducible refine gate_callee (f:=20) rfl ?_);refine goesL_ (some 32) rfl rfl Tryd.func20 (by kernel_rfl) rfl #[.agg #[.string t155,.int .i64 t156,.int .i64 t157],.int .i64 8] rfl (by (try simp only [List.map_toArray,List.map_cons,List.map_nil]);first|done|rfl|(simp only [List.length_drop,List.length_take];rfl)) ?_;(with_reducible refine (spec_l3Bytes.calls t155 t156 t157 8 t159 t160 t161 t162 _ A26.out).mono ?_);rintro e w32 ⟨rfl,hb⟩;refine ⟨_,rfl,?_⟩;have n0_:=Ak (blk_below (g:=gb151) (by (with_reducible repeat (first|refine blk_drewN ?_ _|refine blk_drew ?_|refine blk_alloc ?_ _));exact BK151.out) hb);have n1_:=Ak (blk_below (g:=gb152) (o:=.cells #[.int .i64 0,.int .i64 0,.string (⟨#[]⟩:ByteArray)] 63 (0,0)) (by (with_reducible repeat (first|refine blk_drewN ?_ _|refine blk_drew ?_|refine blk_alloc ?_ _));exact BK152.out) hb);have n2_:=Ak (blk_below (g:=gb153) (o:=.cells #[.string (⟨#[]⟩:ByteArray),.int .i64 0,.int .i64 0] 31 (0,0)) (by (with_reducible repeat (first|refine blk_drewN ?_ _|refine blk_drew ?_|refine blk_alloc ?_ _));exact BK153.out) hb);have n3_:=Ak (blk_below (g:=gb158) (by (with_reducible repeat (first|refine blk_drewN ?_ _|refine blk_drew ?_|refine blk_alloc ?_ _));exact BK158.out) hb);have n4_:=Ak (below_step (by repeat (first|(with_reducible first|exact HB.out|apply below_alloc|apply pw_below_drewN|apply below_drew1|refine below_set ?_ GE151.out|refine below_set ?_ GE152.out|refine below_set ?_ GE153.out|refine below_set ?_ GE158.out)|exact HB.out)) hb);clear BK151;clear BK152;clear BK153;clear BK158;clear HB;have BK151:=n0_;have BK152:=n1_;have BK153:=n2_;have BK158:=n3_;have HB:=n4_;clear n0_ n1_ n2_ n3_ n4_;(try clear hb);(try clear hb2);(try clear hk);(try clear hi))|((with_reducible refine gate_dst (N:=7) rfl ?_);refine box_event ?hg (N:=7) ?hd (cs:=#[.string (⟨#[]⟩:ByteArray),.int .i64 0,.int .i64 0]) (t:=31) ?hr ?_;(case hd=>rfl);(case hg=>rfl);(case hr=>first|(go_simp;done)|(go_simp;rfl));intro gb163 hg w33 hbox hb;have n0_:=Ak (blk_below (g:=gb151) (by (with_reducible repeat (first|refine blk_drewN ?_ _|refine blk_drew ?_|refine blk_alloc ?_ _));exact BK151.out) hb);have n1_:=Ak (blk_below (g:=gb152) (o:=.cells #[.int .i64 0,.int .i64 0,.string (⟨#[]⟩:ByteArray)] 63 (0,0)) (by (with_reducible repeat (first|refine blk_drewN ?_ _|refine blk_drew ?_|refine blk_alloc ?_ _));exact BK152.out) hb);have n2_:=Ak (blk_below (g:=gb153) (o:=.cells #[.string (⟨#[]⟩:ByteArray),.int .i64 0,.int .i64 0] 31 (0,0)) (by (with_reducible repeat (first|refine blk_drewN ?_ _|refine blk_drew ?_|refine blk_alloc ?_ _));exact BK153.out) hb);have n3_:=Ak (blk_below (g:=gb158) (by (with_reducible repeat (first|refine blk_drewN ?_ _|refine blk_drew ?_|refine blk_alloc ?_ _));exact BK158.out) hb);have n4_:=Ak (below_step (by repeat (first|(with_reducible first|exact HB.out|apply below_alloc|apply pw_below_drewN|apply below_drew1|refine below_set ?_ GE151.out|refine below_set ?_ GE152.out|refine below_set ?_ GE153.out|refine below_set ?_ GE158.out)|exact HB.out)) hb);have n5_:=Ak (hbox);have n6_:=Ak ((by rw [hg];exact (below_size (by repeat (first|(with_reducible first|exact HB.out|apply below_alloc|apply pw_below_drewN|apply below_drew1|refine below_set ?_ GE151.out|refine below_set ?_ GE152.out|refine below_set ?_ GE153.out|refine below_set ?_ GE158.out)|exact HB.out))):w.heap.size≤gb163));have n7_:=Ak ((by rw [hg];exact (below_size (by repeat (first|(with_reducible first|exact HB.out|apply below_alloc|apply pw_below_drewN|apply below_drew1|refine below_set ?_ GE151.out|refine below_set ?_ GE152.out|refine below_set ?_ GE153.out|refine below_set ?_ GE158.out)|exact HB.out))):w.heap.size≤gb163));have n8_:=Ak ((by rw [hg];exact Nat.ne_of_lt (blk_lt (g:=gb151) (by (with_reducible repeat (first|refine blk_drewN ?_ _|refine blk_drew ?_|refine blk_alloc ?_ _));exact BK151.out)):gb151≠gb163));have n9_:=Ak ((by rw [hg];exact Nat.ne_of_gt (blk_lt (g:=gb151) (by (with_reducible repeat (first|refine blk_drewN ?_ _|refine blk_drew ?_|refine blk_alloc ?_ _));exact BK151.out)):gb163≠gb151));have n10_:=Ak ((by rw [hg];exact Nat.ne_of_lt (blk_lt (g:=gb152) (o:=.cells #[.int .i64 0,.int .i64 0,.string (⟨#[]⟩:ByteArray)] 63 (0,0)) (by (with_reducible repeat (first|refine blk_drewN ?_ _|refine blk_drew ?_|refine blk_alloc ?_ _));exact BK152.out)):gb152≠gb163));have n11_:=Ak ((by rw [hg];exact Nat.ne_of_gt (blk_lt (g:=gb152) (o:=.cells #[.int .i64 0,.int .i64 0,.string (⟨#[]⟩:ByteArray)] 63 (0,0)) (by (with_reducible repeat (first|refine blk_drewN ?_ _|refine blk_drew ?_|refine blk_alloc ?_ _));exact BK152.out)):gb163≠gb152));have n12_:=Ak ((by rw [hg];exact Nat.ne_of_lt (blk_lt (g:=gb153) (o:=.cells #[.string (⟨#[]⟩:ByteArray),.int .i64 0,.int .i64 0] 31 (0,0)) (by (with_reducible repeat (first|refine blk_drewN ?_ _|refine blk_drew ?_|refine blk_alloc ?_ _));exact BK153.out)):gb153≠gb163));have n13_:=Ak ((by rw [hg];exact Nat.ne_of_gt (blk_lt (g:=gb153) (o:=.cells #[.string (⟨#[]⟩:ByteArray),.int .i64 0,.int .i64 0] 31 (0,0)) (by (with_reducible repeat (first|refine blk_drewN ?_ _|refine blk_drew ?_|refine blk_alloc ?_ _));exact BK153.out)):gb163≠gb153));have n14_:=Ak ((by rw [hg];exact Nat.ne_of_lt (blk_lt (g:=gb158) (by (with_reducible repeat (first|refine blk_drewN ?_ _|refine blk_drew ?_|refine blk_alloc ?_ _));exact BK158.out)):gb158≠gb163));have n15_:=Ak ((by rw [hg];exact Nat.ne_of_gt (blk_lt (g:=gb158) (by (with_reducible repeat (first|refine blk_drewN ?_ _|refine blk_drew ?_|refine blk_alloc ?_ _));exact BK158.out)):gb163≠gb158));clear BK151;clear BK152;clear BK153;clear BK158;clear HB;have BK151:=n0_;have BK152:=n1_;have BK153:=n2_;have BK158:=n3_;have HB:=n4_;have BK163:=n5_;have GW163:=n6_;have GE163:=n7_;have NB151_163:=n8_;have NB163_151:=n9_;have NB152_163:=n10_;have NB163_152:=n11_;have NB153_163:=n12_;have NB163_153:=n13_;have NB158_163:=n14_;have NB163_158:=n15_;clear n0_ n1_ n2_ n3_ n4_ n5_ n6_ n7_ n8_ n9_ n10_ n11_ n12_ n13_ n14_ n15_;clear hb hbox hg;have hnb34:=NB163_151.out;have hnc34:=NB151_163.out;have hnb35:=NB163_152.out;have hnc35:=NB152_163.out;have hnb36:=NB163_153.out;have hnc36:=NB153_163.out;have hnb37:=NB163_158.out;have hnc37:=NB158_163.out;obtain ⟨hcz38_0,hcz38_1,hcz38_2,hfz38_0,hfz38_1,hfz38_2⟩:=bk3 BK163.out)|((with_reducible refine gate_callee (f:=56) rfl ?_);refine goesL_ (some 37) rfl rfl Tryd.func56 (by kernel_rfl) rfl #[.string t159,.int .i64 0] rfl (by (try simp only [List.map_toArray,List.map_cons,List.map_nil]);first|done|rfl|(simp only [List.length_drop,List.length_take];rfl)) ?_;(with_reducible refine (spec_GetInt.calls kj2 t159 0 t164 t165 t166 _ A27.out).mono ?_);rintro e w' ⟨rfl,⟨nd,rfl⟩⟩;refine ⟨_,rfl,?_⟩))
     have n0_:Aside0 ((((w33.setCell ⟨gb163,0,none⟩ (.string t160)).setCell ⟨gb163,1,none⟩ (.int .i64 t161)).setCell ⟨gb163,2,none⟩ (.int .i64 t162)).heap[gb151]?=some (.cells #[.string a0_0,.int .i64 a0_1,.int .i64 a0_2] 31 (0,0))):=⟨by (with_reducible repeat (first|refine blk_drewN ?_ _|refine blk_drew ?_|refine blk_alloc ?_ _));refine blk_far ?_ NB151_163.out _;(with_reducible repeat (first|refine blk_drewN ?_ _|refine blk_drew ?_|refine blk_alloc ?_ _));refine blk_far ?_ NB151_163.out _;(with_reducible repeat (first|refine blk_drewN ?_ _|refine blk_drew ?_|refine blk_alloc ?_ _));refine blk_far ?_ NB151_163.out _;(with_reducible repeat (first|refine blk_drewN ?_ _|refine blk_drew ?_|refine blk_alloc ?_ _));exact BK151.out⟩
     have n1_:Aside0 ((((w33.setCell ⟨gb163,0,none⟩ (.string t160)).setCell ⟨gb163,1,none⟩ (.int .i64 t161)).setCell ⟨gb163,2,none⟩ (.int .i64 t162)).heap[gb152]?=some (.cells #[.int .i64 0,.int .i64 0,.string (⟨#[]⟩:ByteArray)] 63 (0,0))):=⟨by (with_reducible repeat (first|refine blk_drewN ?_ _|refine blk_drew ?_|refine blk_alloc ?_ _));refine blk_far ?_ NB152_163.out _;(with_reducible repeat (first|refine blk_drewN ?_ _|refine blk_drew ?_|refine blk_alloc ?_ _));refine blk_far ?_ NB152_163.out _;(with_reducible repeat (first|refine blk_drewN ?_ _|refine blk_drew ?_|refine blk_alloc ?_ _));refine blk_far ?_ NB152_163.out _;(with_reducible repeat (first|refine blk_drewN ?_ _|refine blk_drew ?_|refine blk_alloc ?_ _));exact BK152.out⟩
     have n2_:Aside0 ((((w33.setCell ⟨gb163,0,none⟩ (.string t160)).setCell ⟨gb163,1,none⟩ (.int .i64 t161)).setCell ⟨gb163,2,none⟩ (.int .i64 t162)).heap[gb153]?=some (.cells #[.string (⟨#[]⟩:ByteArray),.int .i64 0,.int .i64 0] 31 (0,0))):=⟨by (with_reducible repeat (first|refine blk_drewN ?_ _|refine blk_drew ?_|refine blk_alloc ?_ _));refine blk_far ?_ NB153_163.out _;(with_reducible repeat (first|refine blk_drewN ?_ _|refine blk_drew ?_|refine blk_alloc ?_ _));refine blk_far ?_ NB153_163.out _;(with_reducible repeat (first|refine blk_drewN ?_ _|refine blk_drew ?_|refine blk_alloc ?_ _));refine blk_far ?_ NB153_163.out _;(with_reducible repeat (first|refine blk_drewN ?_ _|refine blk_drew ?_|refine blk_alloc ?_ _));exact BK153.out⟩
     have n3_:Aside0 ((((w33.setCell ⟨gb163,0,none⟩ (.string t160)).setCell ⟨gb163,1,none⟩ (.int .i64 t161)).setCell ⟨gb163,2,none⟩ (.int .i64 t162)).heap[gb158]?=some (.cells #[.string t155,.int .i64 t156,.int .i64 t157] 31 (0,0))):=⟨by (with_reducible repeat (first|refine blk_drewN ?_ _|refine blk_drew ?_|refine blk_alloc ?_ _));refine blk_far ?_ NB158_163.out _;(with_reducible repeat (first|refine blk_drewN ?_ _|refine blk_drew ?_|refine blk_alloc ?_ _));refine blk_far ?_ NB158_163.out _;(with_reducible repeat (first|refine blk_drewN ?_ _|refine blk_drew ?_|refine blk_alloc ?_ _));refine blk_far ?_ NB158_163.out _;(with_reducible repeat (first|refine blk_drewN ?_ _|refine blk_drew ?_|refine blk_alloc ?_ _));exact BK158.out⟩
     have n4_:Aside0 ((((w33.setCell ⟨gb163,0,none⟩ (.string t160)).setCell ⟨gb163,1,none⟩ (.int .i64 t161)).setCell ⟨gb163,2,none⟩ (.int .i64 t162)).heap[gb163]?=some (.cells #[.string t160,.int .i64 t161,.int .i64 t162] 31 (0,0))):=⟨by (with_reducible repeat (first|refine blk_drewN ?_ _|refine blk_drew ?_|refine blk_alloc ?_ _));refine blk_put (cs:=#[.string t160,.int .i64 t161,.int .i64 0]) ?_ 2 _ rfl;(with_reducible repeat (first|refine blk_drewN ?_ _|refine blk_drew ?_|refine blk_alloc ?_ _));refine blk_put (cs:=#[.string t160,.int .i64 0,.int .i64 0]) ?_ 1 _ rfl;(with_reducible repeat (first|refine blk_drewN ?_ _|refine blk_drew ?_|refine blk_alloc ?_ _));refine blk_put (cs:=#[.string (⟨#[]⟩:ByteArray),.int .i64 0,.int .i64 0]) ?_ 0 _ rfl;(with_reducible repeat (first|refine blk_drewN ?_ _|refine blk_drew ?_|refine blk_alloc ?_ _));exact BK163.out⟩
     have n5_:Aside0 (Below w.heap.size w (((w33.setCell ⟨gb163,0,none⟩ (.string t160)).setCell ⟨gb163,1,none⟩ (.int .i64 t161)).setCell ⟨gb163,2,none⟩ (.int .i64 t162))):=⟨by repeat (first|(with_reducible first|exact HB.out|apply below_alloc|apply pw_below_drewN|apply below_drew1|refine below_set ?_ GE151.out|refine below_set ?_ GE152.out|refine below_set ?_ GE153.out|refine below_set ?_ GE158.out|refine below_set ?_ GE163.out)|exact HB.out)⟩
     (try clear BK151)
     (try clear BK152)
     (try clear BK153)
     (try clear BK158)
     (try clear BK163)
     (try clear HB)
     generalize (((w33.setCell ⟨gb163,0,none⟩ (.string t160)).setCell ⟨gb163,1,none⟩ (.int .i64 t161)).setCell ⟨gb163,2,none⟩ (.int .i64 t162))=w39 at n0_ n1_ n2_ n3_ n4_ n5_ ⊢
     have BK151:=n0_;have BK152:=n1_;have BK153:=n2_;have BK158:=n3_;have BK163:=n4_;have HB:=n5_;clear n0_ n1_ n2_ n3_ n4_ n5_
     (try (rw [drewN_self w39];generalize hq_:World.drewN w39 _=w39;have n0_:Aside0 (w39.heap[gb151]?=some (.cells #[.string a0_0,.int .i64 a0_1,.int .i64 a0_2] 31 (0,0))):=⟨by rw [← hq_];exact (by (with_reducible repeat (first|refine blk_drewN ?_ _|refine blk_drew ?_|refine blk_alloc ?_ _));exact BK151.out)⟩;have n1_:Aside0 (w39.heap[gb152]?=some (.cells #[.int .i64 0,.int .i64 0,.string (⟨#[]⟩:ByteArray)] 63 (0,0))):=⟨by rw [← hq_];exact (by (with_reducible repeat (first|refine blk_drewN ?_ _|refine blk_drew ?_|refine blk_alloc ?_ _));exact BK152.out)⟩;have n2_:Aside0 (w39.heap[gb153]?=some (.cells #[.string (⟨#[]⟩:ByteArray),.int .i64 0,.int .i64 0] 31 (0,0))):=⟨by rw [← hq_];exact (by (with_reducible repeat (first|refine blk_drewN ?_ _|refine blk_drew ?_|refine blk_alloc ?_ _));exact BK153.out)⟩;have n3_:Aside0 (w39.heap[gb158]?=some (.cells #[.string t155,.int .i64 t156,.int .i64 t157] 31 (0,0))):=⟨by rw [← hq_];exact (by (with_reducible repeat (first|refine blk_drewN ?_ _|refine blk_drew ?_|refine blk_alloc ?_ _));exact BK158.out)⟩;have n4_:Aside0 (w39.heap[gb163]?=some (.cells #[.string t160,.int .i64 t161,.int .i64 t162] 31 (0,0))):=⟨by rw [← hq_];exact (by (with_reducible repeat (first|refine blk_drewN ?_ _|refine blk_drew ?_|refine blk_alloc ?_ _));exact BK163.out)⟩;have n5_:Aside0 (Below w.heap.size w w39):=⟨by rw [← hq_];exact (by repeat (first|(with_reducible first|exact HB.out|apply below_alloc|apply pw_below_drewN|apply below_drew1|refine below_set ?_ GE151.out|refine below_set ?_ GE152.out|refine below_set ?_ GE153.out|refine below_set ?_ GE158.out|refine below_set ?_ GE163.out)|exact HB.out))⟩;clear BK151 BK152 BK153 BK158 BK163 HB hq_;have BK151:=n0_;have BK152:=n1_;have BK153:=n2_;have BK158:=n3_;have BK163:=n4_;have HB:=n5_;clear n0_ n1_ n2_ n3_ n4_ n5_))
     have n0_:=Ak (blk_drew BK151.out)
     have n1_:=Ak (blk_drew BK152.out)
     have n2_:=Ak (blk_drew BK153.out)
     have n3_:=Ak (blk_drew BK158.out)
     have n4_:=Ak (blk_drew BK163.out)
     have n5_:=Ak (below_drew1 HB.out)
     clear BK151;clear BK152;clear BK153;clear BK158;clear BK163;clear HB;have BK151:=n0_;have BK152:=n1_;have BK153:=n2_;have BK158:=n3_;have BK163:=n4_;have HB:=n5_;clear n0_ n1_ n2_ n3_ n4_ n5_
     refine start_ (n:=5) (S:=fun w'=>w'.cell? ⟨gb163,0,none⟩=some (.string t160)∧w'.cell? ⟨gb163,1,none⟩=some (.int .i64 t161)∧w'.cell? ⟨gb163,2,none⟩=some (.int .i64 t162)) (ds:=[]) #[false,false,false,false,false] (by kernel_rfl) rfl rfl ⟨(blk_cell BK163.out 0).trans rfl,(blk_cell BK163.out 1).trans rfl,(blk_cell BK163.out 2).trans rfl⟩ (fun hHeld=>?_)
     generalize w39.drew=w40 at BK151 BK152 BK153 BK158 BK163 HB hHeld ⊢
     refine pure_ (i:=0) (N:=some 41) (v:=?_) (a':=?_) #[true,false,false,false,false] rfl rfl (by kernel_rfl) (fun _ _ _ h=>h) (Or.inl ⟨by rfl,?_⟩) ?_ ?_
     rotate_left
     ·intro w'
      go_simp
      with_reducible rfl
     rotate_left
     ·simp only [Act.put,List.setIfInBounds_toArray,List.set_cons_zero,List.set_cons_succ,i64_w,i32_w]
      rfl
     refine pure_ (i:=1) (N:=some 42) (v:=?_) (a':=?_) #[true,true,false,false,false] rfl rfl (by kernel_rfl) (fun _ _ _ h=>h) (Or.inl ⟨by rfl,?_⟩) ?_ ?_
     rotate_left
     ·intro w'
      go_simp
      with_reducible rfl
     rotate_left
     ·simp only [Act.put,List.setIfInBounds_toArray,List.set_cons_zero,List.set_cons_succ,i64_w,i32_w]
      rfl
     refine take_ (i:=2) (N:=some 43) (v:=?_) (a':=?_) #[true,true,true,false,false] rfl rfl (by kernel_rfl) (fun _ _ _ h=>h) (Or.inl ⟨by rfl,?_⟩) hHeld ?_ ?_
     rotate_left
     ·rintro w' ⟨s0,s1,s2⟩
      go_simp
      with_reducible rfl
     rotate_left
     ·simp only [Act.put,List.setIfInBounds_toArray,List.set_cons_zero,List.set_cons_succ,i64_w,i32_w]
      rfl
     refine one_ (i:=3) (N:=none) #[true,true,true,true,false] rfl rfl (by kernel_rfl) (by decide) (fun K hK=>?_)
     have hs41:w40.cell? ⟨gb152,0,none⟩=some (.int .i64 0):=(blk_cell BK152.out 0).trans rfl
     have hfs41:=blk_frozen BK152.out 0
     have hns41_0:=NB151_152.out
     have hns41_2:=NB153_152.out
     have hns41_3:=NB158_152.out
     have hns41_4:=NB163_152.out
     have hms41_0:=NB152_151.out
     have hms41_2:=NB152_153.out
     have hms41_3:=NB152_158.out
     have hms41_4:=NB152_163.out
     have hs42:w40.cell? ⟨gb152,1,none⟩=some (.int .i64 0):=(blk_cell BK152.out 1).trans rfl
     have hfs42:=blk_frozen BK152.out 1
     have hns42_0:=NB151_152.out
     have hns42_2:=NB153_152.out
     have hns42_3:=NB158_152.out
     have hns42_4:=NB163_152.out
     have hms42_0:=NB152_151.out
     have hms42_2:=NB152_153.out
     have hms42_3:=NB152_158.out
     have hms42_4:=NB152_163.out
     have hs43:w40.cell? ⟨gb152,2,none⟩=some (.string (⟨#[]⟩:ByteArray)):=(blk_cell BK152.out 2).trans rfl
     have hfs43:=blk_frozen BK152.out 2
     have hns43_0:=NB151_152.out
     have hns43_2:=NB153_152.out
     have hns43_3:=NB158_152.out
     have hns43_4:=NB163_152.out
     have hms43_0:=NB152_151.out
     have hms43_2:=NB152_153.out
     have hms43_3:=NB152_158.out
     have hms43_4:=NB152_163.out
     refine skip_ (w1:=?_) (by rfl) rfl ?_ ?_
     rotate_left
     ·go_simp
      rfl
     refine hK.out _ _ ⟨((cell_far (p:=⟨gb152,_,none⟩) NB163_152.out _).trans (((cell_far (p:=⟨gb152,_,none⟩) NB163_152.out _).trans (((cell_far (p:=⟨gb152,_,none⟩) NB163_152.out _).trans (hHeld.1)))))),((cell_far (p:=⟨gb152,_,none⟩) NB163_152.out _).trans (((cell_far (p:=⟨gb152,_,none⟩) NB163_152.out _).trans (((cell_far (p:=⟨gb152,_,none⟩) NB163_152.out _).trans (hHeld.2.1)))))),((cell_far (p:=⟨gb152,_,none⟩) NB163_152.out _).trans (((cell_far (p:=⟨gb152,_,none⟩) NB163_152.out _).trans (((cell_far (p:=⟨gb152,_,none⟩) NB163_152.out _).trans (hHeld.2.2))))))⟩ (fun hHeld=>?_)
     clear hK K
     refine one_ (i:=4) (N:=none) #[true,true,true,true,true] rfl rfl (by kernel_rfl) (by decide) (fun K hK=>?_)
     have hs44:w40.cell? ⟨gb153,0,none⟩=some (.string (⟨#[]⟩:ByteArray)):=(blk_cell BK153.out 0).trans rfl
     have hfs44:=blk_frozen BK153.out 0
     have hns44_0:=NB151_153.out
     have hns44_1:=NB152_153.out
     have hns44_3:=NB158_153.out
     have hns44_4:=NB163_153.out
     have hms44_0:=NB153_151.out
     have hms44_1:=NB153_152.out
     have hms44_3:=NB153_158.out
     have hms44_4:=NB153_163.out
     have hs45:w40.cell? ⟨gb153,1,none⟩=some (.int .i64 0):=(blk_cell BK153.out 1).trans rfl
     have hfs45:=blk_frozen BK153.out 1
     have hns45_0:=NB151_153.out
     have hns45_1:=NB152_153.out
     have hns45_3:=NB158_153.out
     have hns45_4:=NB163_153.out
     have hms45_0:=NB153_151.out
     have hms45_1:=NB153_152.out
     have hms45_3:=NB153_158.out
     have hms45_4:=NB153_163.out
     have hs46:w40.cell? ⟨gb153,2,none⟩=some (.int .i64 0):=(blk_cell BK153.out 2).trans rfl
     have hfs46:=blk_frozen BK153.out 2
     have hns46_0:=NB151_153.out
     have hns46_1:=NB152_153.out
     have hns46_3:=NB158_153.out
     have hns46_4:=NB163_153.out
     have hms46_0:=NB153_151.out
     have hms46_1:=NB153_152.out
     have hms46_3:=NB153_158.out
     have hms46_4:=NB153_163.out
     refine skip_ (w1:=?_) (by rfl) rfl ?_ ?_
     rotate_left
     ·go_simp
      rfl
     refine hK.out _ _ ⟨((cell_far (p:=⟨gb153,_,none⟩) NB163_153.out _).trans (((cell_far (p:=⟨gb153,_,none⟩) NB163_153.out _).trans (((cell_far (p:=⟨gb153,_,none⟩) NB163_153.out _).trans (hHeld.1)))))),((cell_far (p:=⟨gb153,_,none⟩) NB163_153.out _).trans (((cell_far (p:=⟨gb153,_,none⟩) NB163_153.out _).trans (((cell_far (p:=⟨gb153,_,none⟩) NB163_153.out _).trans (hHeld.2.1)))))),((cell_far (p:=⟨gb153,_,none⟩) NB163_153.out _).trans (((cell_far (p:=⟨gb153,_,none⟩) NB163_153.out _).trans (((cell_far (p:=⟨gb153,_,none⟩) NB163_153.out _).trans (hHeld.2.2))))))⟩ (fun hHeld=>?_)
     clear hK K
     refine done_ (by kernel_rfl) ?_
     try go_wp2
     refine bodyPost_ret (results_cc rfl _ _ gb152 gb153 63 31 #[.int .i64 2,.int .i64 t164,.string (⟨#[]⟩:ByteArray)] #[.string t160,.int .i64 t161,.int .i64 t162] (0,0) (0,0) _ _ rfl (by (with_reducible repeat (first|refine blk_drewN ?_ _|refine blk_drew ?_|refine blk_alloc ?_ _));refine blk_far ?_ NB152_153.out _;(with_reducible repeat (first|refine blk_drewN ?_ _|refine blk_drew ?_|refine blk_alloc ?_ _));refine blk_far ?_ NB152_153.out _;(with_reducible repeat (first|refine blk_drewN ?_ _|refine blk_drew ?_|refine blk_alloc ?_ _));refine blk_far ?_ NB152_153.out _;(with_reducible repeat (first|refine blk_drewN ?_ _|refine blk_drew ?_|refine blk_alloc ?_ _));refine blk_put (cs:=#[.int .i64 2,.int .i64 t164,.string (⟨#[]⟩:ByteArray)]) ?_ 2 _ rfl;(with_reducible repeat (first|refine blk_drewN ?_ _|refine blk_drew ?_|refine blk_alloc ?_ _));refine blk_put (cs:=#[.int .i64 2,.int .i64 0,.string (⟨#[]⟩:ByteArray)]) ?_ 1 _ rfl;(with_reducible repeat (first|refine blk_drewN ?_ _|refine blk_drew ?_|refine blk_alloc ?_ _));refine blk_put (cs:=#[.int .i64 0,.int .i64 0,.string (⟨#[]⟩:ByteArray)]) ?_ 0 _ rfl;(with_reducible repeat (first|refine blk_drewN ?_ _|refine blk_drew ?_|refine blk_alloc ?_ _));exact BK152.out) Tryd.underlying63 rfl (by kernel_rfl) rfl (by (with_reducible repeat (first|refine blk_drewN ?_ _|refine blk_drew ?_|refine blk_alloc ?_ _));refine blk_put (cs:=#[.string t160,.int .i64 t161,.int .i64 0]) ?_ 2 _ rfl;(with_reducible repeat (first|refine blk_drewN ?_ _|refine blk_drew ?_|refine blk_alloc ?_ _));refine blk_put (cs:=#[.string t160,.int .i64 0,.int .i64 0]) ?_ 1 _ rfl;(with_reducible repeat (first|refine blk_drewN ?_ _|refine blk_drew ?_|refine blk_alloc ?_ _));refine blk_put (cs:=#[.string (⟨#[]⟩:ByteArray),.int .i64 0,.int .i64 0]) ?_ 0 _ rfl;(with_reducible repeat (first|refine blk_drewN ?_ _|refine blk_drew ?_|refine blk_alloc ?_ _));refine blk_far ?_ NB153_152.out _;(with_reducible repeat (first|refine blk_drewN ?_ _|refine blk_drew ?_|refine blk_alloc ?_ _));refine blk_far ?_ NB153_152.out _;(with_reducible repeat (first|refine blk_drewN ?_ _|refine blk_drew ?_|refine blk_alloc ?_ _));refine blk_far ?_ NB153_152.out _;(with_reducible repeat (first|refine blk_drewN ?_ _|refine blk_drew ?_|refine blk_alloc ?_ _));exact BK153.out) Tryd.underlying31 rfl (by kernel_rfl)) rfl ?_
     exact ⟨by first|rfl|(simp [errW_none,errW_some] <;> rfl)|(simp [*,errW_none,errW_some] <;> rfl),by repeat (first|(with_reducible first|exact HB.out|apply below_alloc|apply pw_below_drewN|apply below_drew1|refine below_set ?_ GE151.out|refine below_set ?_ GE152.out|refine below_set ?_ GE153.out|refine below_set ?_ GE158.out|refine below_set ?_ GE163.out)|exact HB.out)⟩
    ·rw [if_neg c25] at H
     have c25b0:(t154 == 3)=false:=beq_eq_false_iff_ne.mpr c25
     have c25b1:(t154 != 3)=true:=bne_iff_ne.mpr c25
     by_cases c47:t154=4
     ·rw [if_pos c47] at H
      have c47b0:(t154 == 4)=true:=beq_iff_eq.mpr c47
      have c47b1:(t154 != 4)=false:=bne_eq_false_iff_eq.mpr c47
      clear c47
      replace H:=Option.bind_eq_some_iff.mp H
      obtain ⟨⟨t167,t168,t169,t170⟩,A480,H⟩:=H
      replace H:(some (3,0,t167,t168,t169,t170))=some (r1,r2,r3,r4,r5,r6):=H
      have A48:=Ak A480;clear A480
      simp only [Option.some.injEq,Prod.mk.injEq] at H
      obtain ⟨rfl,rfl,rfl,rfl,rfl,rfl⟩:=H
      have hnb49:=NB158_151.out
      have hnc49:=NB151_158.out
      have hnb50:=NB158_152.out
      have hnc50:=NB152_158.out
      have hnb51:=NB158_153.out
      have hnc51:=NB153_158.out
      obtain ⟨hcz52_0,hcz52_1,hcz52_2,hfz52_0,hfz52_1,hfz52_2⟩:=bk3 BK158.out
      try go_wp2_with (first|((with_reducible refine gate_callee (f:=57) rfl ?_);refine goesL_ (some 48) rfl rfl Tryd.func57 (by kernel_rfl) rfl #[.agg #[.string t155,.int .i64 t156,.int .i64 t157]] rfl (by (try simp only [List.map_toArray,List.map_cons,List.map_nil]);first|done|rfl|(simp only [List.length_drop,List.length_take];rfl)) ?_;(with_reducible refine (spec_l3Text.calls kj2 t155 t156 t157 t167 t168 t169 t170 _ A48.out).mono ?_);rintro e w53 ⟨rfl,hb⟩;refine ⟨_,rfl,?_⟩;have n0_:=Ak (blk_below (g:=gb151) (by (with_reducible repeat (first|refine blk_drewN ?_ _|refine blk_drew ?_|refine blk_alloc ?_ _));exact BK151.out) hb);have n1_:=Ak (blk_below (g:=gb152) (o:=.cells #[.int .i64 0,.int .i64 0,.string (⟨#[]⟩:ByteArray)] 63 (0,0)) (by (with_reducible repeat (first|refine blk_drewN ?_ _|refine blk_drew ?_|refine blk_alloc ?_ _));exact BK152.out) hb);have n2_:=Ak (blk_below (g:=gb153) (o:=.cells #[.string (⟨#[]⟩:ByteArray),.int .i64 0,.int .i64 0] 31 (0,0)) (by (with_reducible repeat (first|refine blk_drewN ?_ _|refine blk_drew ?_|refine blk_alloc ?_ _));exact BK153.out) hb);have n3_:=Ak (blk_below (g:=gb158) (by (with_reducible repeat (first|refine blk_drewN ?_ _|refine blk_drew ?_|refine blk_alloc ?_ _));exact BK158.out) hb);have n4_:=Ak (below_step (by repeat (first|(with_reducible first|exact HB.out|apply below_alloc|apply pw_below_drewN|apply below_drew1|refine below_set ?_ GE151.out|refine below_set ?_ GE152.out|refine below_set ?_ GE153.out|refine below_set ?_ GE158.out)|exact HB.out)) hb);clear BK151;clear BK152;clear BK153;clear BK158;clear HB;have BK151:=n0_;have BK152:=n1_;have BK153:=n2_;have BK158:=n3_;have HB:=n4_;clear n0_ n1_ n2_ n3_ n4_;(try clear hb);(try clear hb2);(try clear hk);(try clear hi))|((with_reducible refine gate_dst (N:=12) rfl ?_);refine box_event ?hg (N:=12) ?hd (cs:=#[.string (⟨#[]⟩:ByteArray),.int .i64 0,.int .i64 0]) (t:=31) ?hr ?_;(case hd=>rfl);(case hg=>rfl);(case hr=>first|(go_simp;done)|(go_simp;rfl));intro gb171 hg w54 hbox hb;have n0_:=Ak (blk_below (g:=gb151) (by (with_reducible repeat (first|refine blk_drewN ?_ _|refine blk_drew ?_|refine blk_alloc ?_ _));exact BK151.out) hb);have n1_:=Ak (blk_below (g:=gb152) (o:=.cells #[.int .i64 0,.int .i64 0,.string (⟨#[]⟩:ByteArray)] 63 (0,0)) (by (with_reducible repeat (first|refine blk_drewN ?_ _|refine blk_drew ?_|refine blk_alloc ?_ _));exact BK152.out) hb);have n2_:=Ak (blk_below (g:=gb153) (o:=.cells #[.string (⟨#[]⟩:ByteArray),.int .i64 0,.int .i64 0] 31 (0,0)) (by (with_reducible repeat (first|refine blk_drewN ?_ _|refine blk_drew ?_|refine blk_alloc ?_ _));exact BK153.out) hb);have n3_:=Ak (blk_below (g:=gb158) (by (with_reducible repeat (first|refine blk_drewN ?_ _|refine blk_drew ?_|refine blk_alloc ?_ _));exact BK158.out) hb);have n4_:=Ak (below_step (by repeat (first|(with_reducible first|exact HB.out|apply below_alloc|apply pw_below_drewN|apply below_drew1|refine below_set ?_ GE151.out|refine below_set ?_ GE152.out|refine below_set ?_ GE153.out|refine below_set ?_ GE158.out)|exact HB.out)) hb);have n5_:=Ak (hbox);have n6_:=Ak ((by rw [hg];exact (below_size (by repeat (first|(with_reducible first|exact HB.out|apply below_alloc|apply pw_below_drewN|apply below_drew1|refine below_set ?_ GE151.out|refine below_set ?_ GE152.out|refine below_set ?_ GE153.out|refine below_set ?_ GE158.out)|exact HB.out))):w.heap.size≤gb171));have n7_:=Ak ((by rw [hg];exact (below_size (by repeat (first|(with_reducible first|exact HB.out|apply below_alloc|apply pw_below_drewN|apply below_drew1|refine below_set ?_ GE151.out|refine below_set ?_ GE152.out|refine below_set ?_ GE153.out|refine below_set ?_ GE158.out)|exact HB.out))):w.heap.size≤gb171));have n8_:=Ak ((by rw [hg];exact Nat.ne_of_lt (blk_lt (g:=gb151) (by (with_reducible repeat (first|refine blk_drewN ?_ _|refine blk_drew ?_|refine blk_alloc ?_ _));exact BK151.out)):gb151≠gb171));have n9_:=Ak ((by rw [hg];exact Nat.ne_of_gt (blk_lt (g:=gb151) (by (with_reducible repeat (first|refine blk_drewN ?_ _|refine blk_drew ?_|refine blk_alloc ?_ _));exact BK151.out)):gb171≠gb151));have n10_:=Ak ((by rw [hg];exact Nat.ne_of_lt (blk_lt (g:=gb152) (o:=.cells #[.int .i64 0,.int .i64 0,.string (⟨#[]⟩:ByteArray)] 63 (0,0)) (by (with_reducible repeat (first|refine blk_drewN ?_ _|refine blk_drew ?_|refine blk_alloc ?_ _));exact BK152.out)):gb152≠gb171));have n11_:=Ak ((by rw [hg];exact Nat.ne_of_gt (blk_lt (g:=gb152) (o:=.cells #[.int .i64 0,.int .i64 0,.string (⟨#[]⟩:ByteArray)] 63 (0,0)) (by (with_reducible repeat (first|refine blk_drewN ?_ _|refine blk_drew ?_|refine blk_alloc ?_ _));exact BK152.out)):gb171≠gb152));have n12_:=Ak ((by rw [hg];exact Nat.ne_of_lt (blk_lt (g:=gb153) (o:=.cells #[.string (⟨#[]⟩:ByteArray),.int .i64 0,.int .i64 0] 31 (0,0)) (by (with_reducible repeat (first|refine blk_drewN ?_ _|refine blk_drew ?_|refine blk_alloc ?_ _));exact BK153.out)):gb153≠gb171));have n13_:=Ak ((by rw [hg];exact Nat.ne_of_gt (blk_lt (g:=gb153) (o:=.cells #[.string (⟨#[]⟩:ByteArray),.int .i64 0,.int .i64 0] 31 (0,0)) (by (with_reducible repeat (first|refine blk_drewN ?_ _|refine blk_drew ?_|refine blk_alloc ?_ _));exact BK153.out)):gb171≠gb153));have n14_:=Ak ((by rw [hg];exact Nat.ne_of_lt (blk_lt (g:=gb158) (by (with_reducible repeat (first|refine blk_drewN ?_ _|refine blk_drew ?_|refine blk_alloc ?_ _));exact BK158.out)):gb158≠gb171));have n15_:=Ak ((by rw [hg];exact Nat.ne_of_gt (blk_lt (g:=gb158) (by (with_reducible repeat (first|refine blk_drewN ?_ _|refine blk_drew ?_|refine blk_alloc ?_ _));exact BK158.out)):gb171≠gb158));clear BK151;clear BK152;clear BK153;clear BK158;clear HB;have BK151:=n0_;have BK152:=n1_;have BK153:=n2_;have BK158:=n3_;have HB:=n4_;have BK171:=n5_;have GW171:=n6_;have GE171:=n7_;have NB151_171:=n8_;have NB171_151:=n9_;have NB152_171:=n10_;have NB171_152:=n11_;have NB153_171:=n12_;have NB171_153:=n13_;have NB158_171:=n14_;have NB171_158:=n15_;clear n0_ n1_ n2_ n3_ n4_ n5_ n6_ n7_ n8_ n9_ n10_ n11_ n12_ n13_ n14_ n15_;clear hb hbox hg;have hnb55:=NB171_151.out;have hnc55:=NB151_171.out;have hnb56:=NB171_152.out;have hnc56:=NB152_171.out;have hnb57:=NB171_153.out;have hnc57:=NB153_171.out;have hnb58:=NB171_158.out;have hnc58:=NB158_171.out;obtain ⟨hcz59_0,hcz59_1,hcz59_2,hfz59_0,hfz59_1,hfz59_2⟩:=bk3 BK171.out))
      have n0_:Aside0 ((((w54.setCell ⟨gb171,0,none⟩ (.string t168)).setCell ⟨gb171,1,none⟩ (.int .i64 t169)).setCell ⟨gb171,2,none⟩ (.int .i64 t170)).heap[gb151]?=some (.cells #[.string a0_0,.int .i64 a0_1,.int .i64 a0_2] 31 (0,0))):=⟨by (with_reducible repeat (first|refine blk_drewN ?_ _|refine blk_drew ?_|refine blk_alloc ?_ _));refine blk_far ?_ NB151_171.out _;(with_reducible repeat (first|refine blk_drewN ?_ _|refine blk_drew ?_|refine blk_alloc ?_ _));refine blk_far ?_ NB151_171.out _;(with_reducible repeat (first|refine blk_drewN ?_ _|refine blk_drew ?_|refine blk_alloc ?_ _));refine blk_far ?_ NB151_171.out _;(with_reducible repeat (first|refine blk_drewN ?_ _|refine blk_drew ?_|refine blk_alloc ?_ _));exact BK151.out⟩
      have n1_:Aside0 ((((w54.setCell ⟨gb171,0,none⟩ (.string t168)).setCell ⟨gb171,1,none⟩ (.int .i64 t169)).setCell ⟨gb171,2,none⟩ (.int .i64 t170)).heap[gb152]?=some (.cells #[.int .i64 0,.int .i64 0,.string (⟨#[]⟩:ByteArray)] 63 (0,0))):=⟨by (with_reducible repeat (first|refine blk_drewN ?_ _|refine blk_drew ?_|refine blk_alloc ?_ _));refine blk_far ?_ NB152_171.out _;(with_reducible repeat (first|refine blk_drewN ?_ _|refine blk_drew ?_|refine blk_alloc ?_ _));refine blk_far ?_ NB152_171.out _;(with_reducible repeat (first|refine blk_drewN ?_ _|refine blk_drew ?_|refine blk_alloc ?_ _));refine blk_far ?_ NB152_171.out _;(with_reducible repeat (first|refine blk_drewN ?_ _|refine blk_drew ?_|refine blk_alloc ?_ _));exact BK152.out⟩
      have n2_:Aside0 ((((w54.setCell ⟨gb171,0,none⟩ (.string t168)).setCell ⟨gb171,1,none⟩ (.int .i64 t169)).setCell ⟨gb171,2,none⟩ (.int .i64 t170)).heap[gb153]?=some (.cells #[.string (⟨#[]⟩:ByteArray),.int .i64 0,.int .i64 0] 31 (0,0))):=⟨by (with_reducible repeat (first|refine blk_drewN ?_ _|refine blk_drew ?_|refine blk_alloc ?_ _));refine blk_far ?_ NB153_171.out _;(with_reducible repeat (first|refine blk_drewN ?_ _|refine blk_drew ?_|refine blk_alloc ?_ _));refine blk_far ?_ NB153_171.out _;(with_reducible repeat (first|refine blk_drewN ?_ _|refine blk_drew ?_|refine blk_alloc ?_ _));refine blk_far ?_ NB153_171.out _;(with_reducible repeat (first|refine blk_drewN ?_ _|refine blk_drew ?_|refine blk_alloc ?_ _));exact BK153.out⟩
      have n3_:Aside0 ((((w54.setCell ⟨gb171,0,none⟩ (.string t168)).setCell ⟨gb171,1,none⟩ (.int .i64 t169)).setCell ⟨gb171,2,none⟩ (.int .i64 t170)).heap[gb158]?=some (.cells #[.string t155,.int .i64 t156,.int .i64 t157] 31 (0,0))):=⟨by (with_reducible repeat (first|refine blk_drewN ?_ _|refine blk_drew ?_|refine blk_alloc ?_ _));refine blk_far ?_ NB158_171.out _;(with_reducible repeat (first|refine blk_drewN ?_ _|refine blk_drew ?_|refine blk_alloc ?_ _));refine blk_far ?_ NB158_171.out _;(with_reducible repeat (first|refine blk_drewN ?_ _|refine blk_drew ?_|refine blk_alloc ?_ _));refine blk_far ?_ NB158_171.out _;(with_reducible repeat (first|refine blk_drewN ?_ _|refine blk_drew ?_|refine blk_alloc ?_ _));exact BK158.out⟩
      have n4_:Aside0 ((((w54.setCell ⟨gb171,0,none⟩ (.string t168)).setCell ⟨gb171,1,none⟩ (.int .i64 t169)).setCell ⟨gb171,2,none⟩ (.int .i64 t170)).heap[gb171]?=some (.cells #[.string t168,.int .i64 t169,.int .i64 t170] 31 (0,0))):=⟨by (with_reducible repeat (first|refine blk_drewN ?_ _|refine blk_drew ?_|refine blk_alloc ?_ _));refine blk_put (cs:=#[.string t168,.int .i64 t169,.int .i64 0]) ?_ 2 _ rfl;(with_reducible repeat (first|refine blk_drewN ?_ _|refine blk_drew ?_|refine blk_alloc ?_ _));refine blk_put (cs:=#[.string t168,.int .i64 0,.int .i64 0]) ?_ 1 _ rfl;(with_reducible repeat (first|refine blk_drewN ?_ _|refine blk_drew ?_|refine blk_alloc ?_ _));refine blk_put (cs:=#[.string (⟨#[]⟩:ByteArray),.int .i64 0,.int .i64 0]) ?_ 0 _ rfl;(with_reducible repeat (first|refine blk_drewN ?_ _|refine blk_drew ?_|refine blk_alloc ?_ _));exact BK171.out⟩
      have n5_:Aside0 (Below w.heap.size w (((w54.setCell ⟨gb171,0,none⟩ (.string t168)).setCell ⟨gb171,1,none⟩ (.int .i64 t169)).setCell ⟨gb171,2,none⟩ (.int .i64 t170))):=⟨by repeat (first|(with_reducible first|exact HB.out|apply below_alloc|apply pw_below_drewN|apply below_drew1|refine below_set ?_ GE151.out|refine below_set ?_ GE152.out|refine below_set ?_ GE153.out|refine below_set ?_ GE158.out|refine below_set ?_ GE171.out)|exact HB.out)⟩
      (try clear BK151)
      (try clear BK152)
      (try clear BK153)
      (try clear BK158)
      (try clear BK171)
      (try clear HB)
      generalize (((w54.setCell ⟨gb171,0,none⟩ (.string t168)).setCell ⟨gb171,1,none⟩ (.int .i64 t169)).setCell ⟨gb171,2,none⟩ (.int .i64 t170))=w60 at n0_ n1_ n2_ n3_ n4_ n5_ ⊢
      have BK151:=n0_;have BK152:=n1_;have BK153:=n2_;have BK158:=n3_;have BK171:=n4_;have HB:=n5_;clear n0_ n1_ n2_ n3_ n4_ n5_
      have n0_:=Ak (blk_drew BK151.out)
      have n1_:=Ak (blk_drew BK152.out)
      have n2_:=Ak (blk_drew BK153.out)
      have n3_:=Ak (blk_drew BK158.out)
      have n4_:=Ak (blk_drew BK171.out)
      have n5_:=Ak (below_drew1 HB.out)
      clear BK151;clear BK152;clear BK153;clear BK158;clear BK171;clear HB;have BK151:=n0_;have BK152:=n1_;have BK153:=n2_;have BK158:=n3_;have BK171:=n4_;have HB:=n5_;clear n0_ n1_ n2_ n3_ n4_ n5_
      refine start_ (n:=5) (S:=fun w'=>w'.cell? ⟨gb171,0,none⟩=some (.string t168)∧w'.cell? ⟨gb171,1,none⟩=some (.int .i64 t169)∧w'.cell? ⟨gb171,2,none⟩=some (.int .i64 t170)) (ds:=[]) #[false,false,false,false,false] (by kernel_rfl) rfl rfl ⟨(blk_cell BK171.out 0).trans rfl,(blk_cell BK171.out 1).trans rfl,(blk_cell BK171.out 2).trans rfl⟩ (fun hHeld=>?_)
      generalize w60.drew=w61 at BK151 BK152 BK153 BK158 BK171 HB hHeld ⊢
      refine pure_ (i:=0) (N:=some 51) (v:=?_) (a':=?_) #[true,false,false,false,false] rfl rfl (by kernel_rfl) (fun _ _ _ h=>h) (Or.inl ⟨by rfl,?_⟩) ?_ ?_
      rotate_left
      ·intro w'
       go_simp
       with_reducible rfl
      rotate_left
      ·simp only [Act.put,List.setIfInBounds_toArray,List.set_cons_zero,List.set_cons_succ,i64_w,i32_w]
       rfl
      refine pure_ (i:=1) (N:=some 52) (v:=?_) (a':=?_) #[true,true,false,false,false] rfl rfl (by kernel_rfl) (fun _ _ _ h=>h) (Or.inl ⟨by rfl,?_⟩) ?_ ?_
      rotate_left
      ·intro w'
       go_simp
       with_reducible rfl
      rotate_left
      ·simp only [Act.put,List.setIfInBounds_toArray,List.set_cons_zero,List.set_cons_succ,i64_w,i32_w]
       rfl
      refine take_ (i:=2) (N:=some 53) (v:=?_) (a':=?_) #[true,true,true,false,false] rfl rfl (by kernel_rfl) (fun _ _ _ h=>h) (Or.inl ⟨by rfl,?_⟩) hHeld ?_ ?_
      rotate_left
      ·rintro w' ⟨s0,s1,s2⟩
       go_simp
       with_reducible rfl
      rotate_left
      ·simp only [Act.put,List.setIfInBounds_toArray,List.set_cons_zero,List.set_cons_succ,i64_w,i32_w]
       rfl
      refine one_ (i:=3) (N:=none) #[true,true,true,true,false] rfl rfl (by kernel_rfl) (by decide) (fun K hK=>?_)
      have hs62:w61.cell? ⟨gb152,0,none⟩=some (.int .i64 0):=(blk_cell BK152.out 0).trans rfl
      have hfs62:=blk_frozen BK152.out 0
      have hns62_0:=NB151_152.out
      have hns62_2:=NB153_152.out
      have hns62_3:=NB158_152.out
      have hns62_4:=NB171_152.out
      have hms62_0:=NB152_151.out
      have hms62_2:=NB152_153.out
      have hms62_3:=NB152_158.out
      have hms62_4:=NB152_171.out
      have hs63:w61.cell? ⟨gb152,1,none⟩=some (.int .i64 0):=(blk_cell BK152.out 1).trans rfl
      have hfs63:=blk_frozen BK152.out 1
      have hns63_0:=NB151_152.out
      have hns63_2:=NB153_152.out
      have hns63_3:=NB158_152.out
      have hns63_4:=NB171_152.out
      have hms63_0:=NB152_151.out
      have hms63_2:=NB152_153.out
      have hms63_3:=NB152_158.out
      have hms63_4:=NB152_171.out
      have hs64:w61.cell? ⟨gb152,2,none⟩=some (.string (⟨#[]⟩:ByteArray)):=(blk_cell BK152.out 2).trans rfl
      have hfs64:=blk_frozen BK152.out 2
      have hns64_0:=NB151_152.out
      have hns64_2:=NB153_152.out
      have hns64_3:=NB158_152.out
      have hns64_4:=NB171_152.out
      have hms64_0:=NB152_151.out
      have hms64_2:=NB152_153.out
      have hms64_3:=NB152_158.out
      have hms64_4:=NB152_171.out
      refine skip_ (w1:=?_) (by rfl) rfl ?_ ?_
      rotate_left
      ·go_simp
       rfl
      refine hK.out _ _ ⟨((cell_far (p:=⟨gb152,_,none⟩) NB171_152.out _).trans (((cell_far (p:=⟨gb152,_,none⟩) NB171_152.out _).trans (((cell_far (p:=⟨gb152,_,none⟩) NB171_152.out _).trans (hHeld.1)))))),((cell_far (p:=⟨gb152,_,none⟩) NB171_152.out _).trans (((cell_far (p:=⟨gb152,_,none⟩) NB171_152.out _).trans (((cell_far (p:=⟨gb152,_,none⟩) NB171_152.out _).trans (hHeld.2.1)))))),((cell_far (p:=⟨gb152,_,none⟩) NB171_152.out _).trans (((cell_far (p:=⟨gb152,_,none⟩) NB171_152.out _).trans (((cell_far (p:=⟨gb152,_,none⟩) NB171_152.out _).trans (hHeld.2.2))))))⟩ (fun hHeld=>?_)
      clear hK K
      refine one_ (i:=4) (N:=none) #[true,true,true,true,true] rfl rfl (by kernel_rfl) (by decide) (fun K hK=>?_)
      have hs65:w61.cell? ⟨gb153,0,none⟩=some (.string (⟨#[]⟩:ByteArray)):=(blk_cell BK153.out 0).trans rfl
      have hfs65:=blk_frozen BK153.out 0
      have hns65_0:=NB151_153.out
      have hns65_1:=NB152_153.out
      have hns65_3:=NB158_153.out
      have hns65_4:=NB171_153.out
      have hms65_0:=NB153_151.out
      have hms65_1:=NB153_152.out
      have hms65_3:=NB153_158.out
      have hms65_4:=NB153_171.out
      have hs66:w61.cell? ⟨gb153,1,none⟩=some (.int .i64 0):=(blk_cell BK153.out 1).trans rfl
      have hfs66:=blk_frozen BK153.out 1
      have hns66_0:=NB151_153.out
      have hns66_1:=NB152_153.out
      have hns66_3:=NB158_153.out
      have hns66_4:=NB171_153.out
      have hms66_0:=NB153_151.out
      have hms66_1:=NB153_152.out
      have hms66_3:=NB153_158.out
      have hms66_4:=NB153_171.out
      have hs67:w61.cell? ⟨gb153,2,none⟩=some (.int .i64 0):=(blk_cell BK153.out 2).trans rfl
      have hfs67:=blk_frozen BK153.out 2
      have hns67_0:=NB151_153.out
      have hns67_1:=NB152_153.out
      have hns67_3:=NB158_153.out
      have hns67_4:=NB171_153.out
      have hms67_0:=NB153_151.out
      have hms67_1:=NB153_152.out
      have hms67_3:=NB153_158.out
      have hms67_4:=NB153_171.out
      refine skip_ (w1:=?_) (by rfl) rfl ?_ ?_
      rotate_left
      ·go_simp
       rfl
      refine hK.out _ _ ⟨((cell_far (p:=⟨gb153,_,none⟩) NB171_153.out _).trans (((cell_far (p:=⟨gb153,_,none⟩) NB171_153.out _).trans (((cell_far (p:=⟨gb153,_,none⟩) NB171_153.out _).trans (hHeld.1)))))),((cell_far (p:=⟨gb153,_,none⟩) NB171_153.out _).trans (((cell_far (p:=⟨gb153,_,none⟩) NB171_153.out _).trans (((cell_far (p:=⟨gb153,_,none⟩) NB171_153.out _).trans (hHeld.2.1)))))),((cell_far (p:=⟨gb153,_,none⟩) NB171_153.out _).trans (((cell_far (p:=⟨gb153,_,none⟩) NB171_153.out _).trans (((cell_far (p:=⟨gb153,_,none⟩) NB171_153.out _).trans (hHeld.2.2))))))⟩ (fun hHeld=>?_)
      clear hK K
      refine done_ (by kernel_rfl) ?_
      try go_wp2
      refine bodyPost_ret (results_cc rfl _ _ gb152 gb153 63 31 #[.int .i64 3,.int .i64 0,.string t167] #[.string t168,.int .i64 t169,.int .i64 t170] (0,0) (0,0) _ _ rfl (by (with_reducible repeat (first|refine blk_drewN ?_ _|refine blk_drew ?_|refine blk_alloc ?_ _));refine blk_far ?_ NB152_153.out _;(with_reducible repeat (first|refine blk_drewN ?_ _|refine blk_drew ?_|refine blk_alloc ?_ _));refine blk_far ?_ NB152_153.out _;(with_reducible repeat (first|refine blk_drewN ?_ _|refine blk_drew ?_|refine blk_alloc ?_ _));refine blk_far ?_ NB152_153.out _;(with_reducible repeat (first|refine blk_drewN ?_ _|refine blk_drew ?_|refine blk_alloc ?_ _));refine blk_put (cs:=#[.int .i64 3,.int .i64 0,.string (⟨#[]⟩:ByteArray)]) ?_ 2 _ rfl;(with_reducible repeat (first|refine blk_drewN ?_ _|refine blk_drew ?_|refine blk_alloc ?_ _));refine blk_put (cs:=#[.int .i64 3,.int .i64 0,.string (⟨#[]⟩:ByteArray)]) ?_ 1 _ rfl;(with_reducible repeat (first|refine blk_drewN ?_ _|refine blk_drew ?_|refine blk_alloc ?_ _));refine blk_put (cs:=#[.int .i64 0,.int .i64 0,.string (⟨#[]⟩:ByteArray)]) ?_ 0 _ rfl;(with_reducible repeat (first|refine blk_drewN ?_ _|refine blk_drew ?_|refine blk_alloc ?_ _));exact BK152.out) Tryd.underlying63 rfl (by kernel_rfl) rfl (by (with_reducible repeat (first|refine blk_drewN ?_ _|refine blk_drew ?_|refine blk_alloc ?_ _));refine blk_put (cs:=#[.string t168,.int .i64 t169,.int .i64 0]) ?_ 2 _ rfl;(with_reducible repeat (first|refine blk_drewN ?_ _|refine blk_drew ?_|refine blk_alloc ?_ _));refine blk_put (cs:=#[.string t168,.int .i64 0,.int .i64 0]) ?_ 1 _ rfl;(with_reducible repeat (first|refine blk_drewN ?_ _|refine blk_drew ?_|refine blk_alloc ?_ _));refine blk_put (cs:=#[.string (⟨#[]⟩:ByteArray),.int .i64 0,.int .i64 0]) ?_ 0 _ rfl;(with_reducible repeat (first|refine blk_drewN ?_ _|refine blk_drew ?_|refine blk_alloc ?_ _));refine blk_far ?_ NB153_152.out _;(with_reducible repeat (first|refine blk_drewN ?_ _|refine blk_drew ?_|refine blk_alloc ?_ _));refine blk_far ?_ NB153_152.out _;(with_reducible repeat (first|refine blk_drewN ?_ _|refine blk_drew ?_|refine blk_alloc ?_ _));refine blk_far ?_ NB153_152.out _;(with_reducible repeat (first|refine blk_drewN ?_ _|refine blk_drew ?_|refine blk_alloc ?_ _));exact BK153.out) Tryd.underlying31 rfl (by kernel_rfl)) rfl ?_
      exact ⟨by first|rfl|(simp [errW_none,errW_some] <;> rfl)|(simp [*,errW_none,errW_some] <;> rfl),by repeat (first|(with_reducible first|exact HB.out|apply below_alloc|apply pw_below_drewN|apply below_drew1|refine below_set ?_ GE151.out|refine below_set ?_ GE152.out|refine below_set ?_ GE153.out|refine below_set ?_ GE158.out|refine below_set ?_ GE171.out)|exact HB.out)⟩
     ·rw [if_neg c47] at H
      have c47b0:(t154 == 4)=false:=beq_eq_false_iff_ne.mpr c47
      have c47b1:(t154 != 4)=true:=bne_iff_ne.mpr c47
      simp only [Option.some.injEq,Prod.mk.injEq] at H
      obtain ⟨rfl,rfl,rfl,rfl,rfl,rfl⟩:=H
      try go_wp2
      have n0_:=Ak (blk_drew BK151.out)
      have n1_:=Ak (blk_drew BK152.out)
      have n2_:=Ak (blk_drew BK153.out)
      have n3_:=Ak (blk_drew BK158.out)
      have n4_:=Ak (below_drew1 HB.out)
      clear BK151;clear BK152;clear BK153;clear BK158;clear HB;have BK151:=n0_;have BK152:=n1_;have BK153:=n2_;have BK158:=n3_;have HB:=n4_;clear n0_ n1_ n2_ n3_ n4_
      refine start_ (n:=4) (S:=fun w'=>w'.cell? ⟨gb158,0,none⟩=some (.string t155)∧w'.cell? ⟨gb158,1,none⟩=some (.int .i64 t156)∧w'.cell? ⟨gb158,2,none⟩=some (.int .i64 t157)) (ds:=[]) #[false,false,false,false] (by kernel_rfl) rfl rfl ⟨(blk_cell BK158.out 0).trans rfl,(blk_cell BK158.out 1).trans rfl,(blk_cell BK158.out 2).trans rfl⟩ (fun hHeld=>?_)
      generalize wc.drew=w68 at BK151 BK152 BK153 BK158 HB hHeld ⊢
      refine pure_ (i:=0) (N:=some 54) (v:=?_) (a':=?_) #[true,false,false,false] rfl rfl (by kernel_rfl) (fun _ _ _ h=>h) (Or.inl ⟨by rfl,?_⟩) ?_ ?_
      rotate_left
      ·intro w'
       go_simp
       with_reducible rfl
      rotate_left
      ·simp only [Act.put,List.setIfInBounds_toArray,List.set_cons_zero,List.set_cons_succ,i64_w,i32_w]
       rfl
      refine take_ (i:=1) (N:=some 55) (v:=?_) (a':=?_) #[true,true,false,false] rfl rfl (by kernel_rfl) (fun _ _ _ h=>h) (Or.inl ⟨by rfl,?_⟩) hHeld ?_ ?_
      rotate_left
      ·rintro w' ⟨s0,s1,s2⟩
       go_simp
       with_reducible rfl
      rotate_left
      ·simp only [Act.put,List.setIfInBounds_toArray,List.set_cons_zero,List.set_cons_succ,i64_w,i32_w]
       rfl
      refine one_ (i:=2) (N:=none) #[true,true,true,false] rfl rfl (by kernel_rfl) (by decide) (fun K hK=>?_)
      have hs69:w68.cell? ⟨gb152,0,none⟩=some (.int .i64 0):=(blk_cell BK152.out 0).trans rfl
      have hfs69:=blk_frozen BK152.out 0
      have hns69_0:=NB151_152.out
      have hns69_2:=NB153_152.out
      have hns69_3:=NB158_152.out
      have hms69_0:=NB152_151.out
      have hms69_2:=NB152_153.out
      have hms69_3:=NB152_158.out
      have hs70:w68.cell? ⟨gb152,1,none⟩=some (.int .i64 0):=(blk_cell BK152.out 1).trans rfl
      have hfs70:=blk_frozen BK152.out 1
      have hns70_0:=NB151_152.out
      have hns70_2:=NB153_152.out
      have hns70_3:=NB158_152.out
      have hms70_0:=NB152_151.out
      have hms70_2:=NB152_153.out
      have hms70_3:=NB152_158.out
      have hs71:w68.cell? ⟨gb152,2,none⟩=some (.string (⟨#[]⟩:ByteArray)):=(blk_cell BK152.out 2).trans rfl
      have hfs71:=blk_frozen BK152.out 2
      have hns71_0:=NB151_152.out
      have hns71_2:=NB153_152.out
      have hns71_3:=NB158_152.out
      have hms71_0:=NB152_151.out
      have hms71_2:=NB152_153.out
      have hms71_3:=NB152_158.out
      refine skip_ (w1:=?_) (by rfl) rfl ?_ ?_
      rotate_left
      ·go_simp
       rfl
      refine hK.out _ _ ⟨((cell_far (p:=⟨gb152,_,none⟩) NB158_152.out _).trans (((cell_far (p:=⟨gb152,_,none⟩) NB158_152.out _).trans (((cell_far (p:=⟨gb152,_,none⟩) NB158_152.out _).trans (hHeld.1)))))),((cell_far (p:=⟨gb152,_,none⟩) NB158_152.out _).trans (((cell_far (p:=⟨gb152,_,none⟩) NB158_152.out _).trans (((cell_far (p:=⟨gb152,_,none⟩) NB158_152.out _).trans (hHeld.2.1)))))),((cell_far (p:=⟨gb152,_,none⟩) NB158_152.out _).trans (((cell_far (p:=⟨gb152,_,none⟩) NB158_152.out _).trans (((cell_far (p:=⟨gb152,_,none⟩) NB158_152.out _).trans (hHeld.2.2))))))⟩ (fun hHeld=>?_)
      clear hK K
      refine one_ (i:=3) (N:=none) #[true,true,true,true] rfl rfl (by kernel_rfl) (by decide) (fun K hK=>?_)
      have hs72:w68.cell? ⟨gb153,0,none⟩=some (.string (⟨#[]⟩:ByteArray)):=(blk_cell BK153.out 0).trans rfl
      have hfs72:=blk_frozen BK153.out 0
      have hns72_0:=NB151_153.out
      have hns72_1:=NB152_153.out
      have hns72_3:=NB158_153.out
      have hms72_0:=NB153_151.out
      have hms72_1:=NB153_152.out
      have hms72_3:=NB153_158.out
      have hs73:w68.cell? ⟨gb153,1,none⟩=some (.int .i64 0):=(blk_cell BK153.out 1).trans rfl
      have hfs73:=blk_frozen BK153.out 1
      have hns73_0:=NB151_153.out
      have hns73_1:=NB152_153.out
      have hns73_3:=NB158_153.out
      have hms73_0:=NB153_151.out
      have hms73_1:=NB153_152.out
      have hms73_3:=NB153_158.out
      have hs74:w68.cell? ⟨gb153,2,none⟩=some (.int .i64 0):=(blk_cell BK153.out 2).trans rfl
      have hfs74:=blk_frozen BK153.out 2
      have hns74_0:=NB151_153.out
      have hns74_1:=NB152_153.out
      have hns74_3:=NB158_153.out
      have hms74_0:=NB153_151.out
      have hms74_1:=NB153_152.out
      have hms74_3:=NB153_158.out
      refine skip_ (w1:=?_) (by rfl) rfl ?_ ?_
      rotate_left
      ·go_simp
       rfl
      refine hK.out _ _ ⟨((cell_far (p:=⟨gb153,_,none⟩) NB158_153.out _).trans (((cell_far (p:=⟨gb153,_,none⟩) NB158_153.out _).trans (((cell_far (p:=⟨gb153,_,none⟩) NB158_153.out _).trans (hHeld.1)))))),((cell_far (p:=⟨gb153,_,none⟩) NB158_153.out _).trans (((cell_far (p:=⟨gb153,_,none⟩) NB158_153.out _).trans (((cell_far (p:=⟨gb153,_,none⟩) NB158_153.out _).trans (hHeld.2.1)))))),((cell_far (p:=⟨gb153,_,none⟩) NB158_153.out _).trans (((cell_far (p:=⟨gb153,_,none⟩) NB158_153.out _).trans (((cell_far (p:=⟨gb153,_,none⟩) NB158_153.out _).trans (hHeld.2.2))))))⟩ (fun hHeld=>?_)
      clear hK K
      refine done_ (by kernel_rfl) ?_
      try go_wp2
      refine bodyPost_ret (results_cc rfl _ _ gb152 gb153 63 31 #[.int .i64 0,.int .i64 0,.string (⟨#[]⟩:ByteArray)] #[.string t155,.int .i64 t156,.int .i64 t157] (0,0) (0,0) _ _ rfl (by (with_reducible repeat (first|refine blk_drewN ?_ _|refine blk_drew ?_|refine blk_alloc ?_ _));refine blk_far ?_ NB152_153.out _;(with_reducible repeat (first|refine blk_drewN ?_ _|refine blk_drew ?_|refine blk_alloc ?_ _));refine blk_far ?_ NB152_153.out _;(with_reducible repeat (first|refine blk_drewN ?_ _|refine blk_drew ?_|refine blk_alloc ?_ _));refine blk_far ?_ NB152_153.out _;(with_reducible repeat (first|refine blk_drewN ?_ _|refine blk_drew ?_|refine blk_alloc ?_ _));refine blk_put (cs:=#[.int .i64 0,.int .i64 0,.string (⟨#[]⟩:ByteArray)]) ?_ 2 _ rfl;(with_reducible repeat (first|refine blk_drewN ?_ _|refine blk_drew ?_|refine blk_alloc ?_ _));refine blk_put (cs:=#[.int .i64 0,.int .i64 0,.string (⟨#[]⟩:ByteArray)]) ?_ 1 _ rfl;(with_reducible repeat (first|refine blk_drewN ?_ _|refine blk_drew ?_|refine blk_alloc ?_ _));refine blk_put (cs:=#[.int .i64 0,.int .i64 0,.string (⟨#[]⟩:ByteArray)]) ?_ 0 _ rfl;(with_reducible repeat (first|refine blk_drewN ?_ _|refine blk_drew ?_|refine blk_alloc ?_ _));exact BK152.out) Tryd.underlying63 rfl (by kernel_rfl) rfl (by (with_reducible repeat (first|refine blk_drewN ?_ _|refine blk_drew ?_|refine blk_alloc ?_ _));refine blk_put (cs:=#[.string t155,.int .i64 t156,.int .i64 0]) ?_ 2 _ rfl;(with_reducible repeat (first|refine blk_drewN ?_ _|refine blk_drew ?_|refine blk_alloc ?_ _));refine blk_put (cs:=#[.string t155,.int .i64 0,.int .i64 0]) ?_ 1 _ rfl;(with_reducible repeat (first|refine blk_drewN ?_ _|refine blk_drew ?_|refine blk_alloc ?_ _));refine blk_put (cs:=#[.string (⟨#[]⟩:ByteArray),.int .i64 0,.int .i64 0]) ?_ 0 _ rfl;(with_reducible repeat (first|refine blk_drewN ?_ _|refine blk_drew ?_|refine blk_alloc ?_ _));refine blk_far ?_ NB153_152.out _;(with_reducible repeat (first|refine blk_drewN ?_ _|refine blk_drew ?_|refine blk_alloc ?_ _));refine blk_far ?_ NB153_152.out _;(with_reducible repeat (first|refine blk_drewN ?_ _|refine blk_drew ?_|refine blk_alloc ?_ _));refine blk_far ?_ NB153_152.out _;(with_reducible repeat (first|refine blk_drewN ?_ _|refine blk_drew ?_|refine blk_alloc ?_ _));exact BK153.out) Tryd.underlying31 rfl (by kernel_rfl)) rfl ?_
      exact ⟨by first|rfl|(simp [errW_none,errW_some] <;> rfl)|(simp [*,errW_none,errW_some] <;> rfl),by repeat (first|(with_reducible first|exact HB.out|apply below_alloc|apply pw_below_drewN|apply below_drew1|refine below_set ?_ GE151.out|refine below_set ?_ GE152.out|refine below_set ?_ GE153.out|refine below_set ?_ GE158.out)|exact HB.out)⟩
def spec_l3Bare.f (a0_0:Int) (a0_1:Bool) (a0_2:Int) (l0_3:List Int) (l0_4:List (S63)) (l0_5:List (S67)) (a0_6:Int) (a0_7:ByteArray) (l0_8:List Int) (l0_9:List ByteArray):Option (Bool):=if (a0_7.size:Int)=0 then (if (l0_8.length:Int)=0 then (some ((l0_9.length:Int) == 0)) else (some false)) else (some false)
set_option maxHeartbeats 8000000 in
set_option maxRecDepth 100000 in
theorem spec_l3Bare.calls (a0_0:Int) (a0_1:Bool) (a0_2:Int) (A0_3:Option Addr) (c0_3:Nat) (l0_3:List Int) (A0_4:Option Addr) (c0_4:Nat) (l0_4:List (S63)) (A0_5:Option Addr) (c0_5:Nat) (l0_5:List (S67)) (a0_6:Int) (a0_7:ByteArray) (A0_8:Option Addr) (c0_8:Nat) (l0_8:List Int) (A0_9:Option Addr) (c0_9:Nat) (l0_9:List ByteArray) (r:Bool) (w:World) (hr0_3:Kd.C (Kd.int .u32) w A0_3 l0_3.length l0_3) (hc0_3:l0_3.length≤c0_3) (hr0_4:Kd.C k63 w A0_4 l0_4.length l0_4) (hc0_4:l0_4.length≤c0_4) (hr0_5:Kd.C k67 w A0_5 l0_5.length l0_5) (hc0_5:l0_5.length≤c0_5) (hr0_8:Kd.C (Kd.int .i64) w A0_8 l0_8.length l0_8) (hc0_8:l0_8.length≤c0_8) (hr0_9:Kd.C Kd.string w A0_9 l0_9.length l0_9) (hc0_9:l0_9.length≤c0_9) (h:spec_l3Bare.f a0_0 a0_1 a0_2 l0_3 l0_4 l0_5 a0_6 a0_7 l0_8 l0_9=some r) :
  Calls Tryd.prog 58 #[.agg #[.int .i64 a0_0,.bool a0_1,.int .i64 a0_2,.slice A0_3 l0_3.length c0_3,.slice A0_4 l0_4.length c0_4,.slice A0_5 l0_5.length c0_5,.int .i64 a0_6,.string a0_7,.slice A0_8 l0_8.length c0_8,.slice A0_9 l0_9.length c0_9]] w fun e w'=>e=.returned (.bool r)∧Below w.heap.size w w':=by
 have hu38:=Tryd.underlying38
 have HR0_3:=Ak hr0_3;have HC0_3:=Ak hc0_3;clear hr0_3 hc0_3;have HR0_4:=Ak hr0_4;have HC0_4:=Ak hc0_4;clear hr0_4 hc0_4;have HR0_5:=Ak hr0_5;have HC0_5:=Ak hc0_5;clear hr0_5 hc0_5;have HR0_8:=Ak hr0_8;have HC0_8:=Ak hc0_8;clear hr0_8 hc0_8;have HR0_9:=Ak hr0_9;have HC0_9:=Ak hc0_9;clear hr0_9 hc0_9
 have HB:=Ak (Below.refl w.heap.size w)
 have H:(if (a0_7.size:Int)=0 then (if (l0_8.length:Int)=0 then (some ((l0_9.length:Int) == 0)) else (some false)) else (some false))=some r:=h
 clear h
 by_cases c2:(a0_7.size:Int)=0
 ·rw [if_pos c2] at H
  have c2b0:((a0_7.size:Int) == 0)=true:=beq_iff_eq.mpr c2
  have c2b1:((a0_7.size:Int) != 0)=false:=bne_eq_false_iff_eq.mpr c2
  clear c2
  by_cases c3:(l0_8.length:Int)=0
  ·rw [if_pos c3] at H
   have c3b0:((l0_8.length:Int) == 0)=true:=beq_iff_eq.mpr c3
   have c3b1:((l0_8.length:Int) != 0)=false:=bne_eq_false_iff_eq.mpr c3
   clear c3
   obtain rfl:=Option.some.inj H
   go_enter Tryd.func58,Tryd.ntmps58
   go_wp2_with (first|((with_reducible refine gate_dst (N:=1) rfl ?_);(try (refine gate_guard (by rfl) ?_;dsimp only));refine box_event ?hg (N:=1) ?hd (cs:=#[.int .i64 a0_0,.bool a0_1,.int .i64 a0_2,.slice A0_3 l0_3.length c0_3,.slice A0_4 l0_4.length c0_4,.slice A0_5 l0_5.length c0_5,.int .i64 a0_6,.string a0_7,.slice A0_8 l0_8.length c0_8,.slice A0_9 l0_9.length c0_9]) (t:=38) ?hr ?_;(case hd=>rfl);(case hg=>rfl);(case hr=>first|(go_simp;done)|(go_simp;rfl));intro gb172 hg w4 hbox hb;have n0_:=Ak (below_step (by repeat (first|(with_reducible first|exact HB.out|apply below_alloc|apply pw_below_drewN|apply below_drew1)|exact HB.out)) hb);have n1_:=Ak (hbox);have n2_:=Ak ((by rw [hg];exact (below_size (by repeat (first|(with_reducible first|exact HB.out|apply below_alloc|apply pw_below_drewN|apply below_drew1)|exact HB.out))):w.heap.size≤gb172));have n3_:=Ak ((by rw [hg];exact (below_size (by repeat (first|(with_reducible first|exact HB.out|apply below_alloc|apply pw_below_drewN|apply below_drew1)|exact HB.out))):w.heap.size≤gb172));clear HB;have HB:=n0_;have BK172:=n1_;have GW172:=n2_;have GE172:=n3_;clear n0_ n1_ n2_ n3_;clear hb hbox hg;obtain ⟨hcz5_0,hcz5_1,hcz5_2,hcz5_3,hcz5_4,hcz5_5,hcz5_6,hcz5_7,hcz5_8,hcz5_9,hfz5_0,hfz5_1,hfz5_2,hfz5_3,hfz5_4,hfz5_5,hfz5_6,hfz5_7,hfz5_8,hfz5_9⟩:=bk10 BK172.out))
   go_ret
   exact ⟨by first|rfl|(simp [errW_none,errW_some] <;> rfl)|(simp [*,errW_none,errW_some] <;> rfl),by repeat (first|(with_reducible first|exact HB.out|apply below_alloc|apply pw_below_drewN|apply below_drew1|refine below_set ?_ GE172.out)|exact HB.out)⟩
  ·rw [if_neg c3] at H
   have c3b0:((l0_8.length:Int) == 0)=false:=beq_eq_false_iff_ne.mpr c3
   have c3b1:((l0_8.length:Int) != 0)=true:=bne_iff_ne.mpr c3
   have c3b2:¬ (l0_8=[]):=fun h_=>c3 (by rw [h_];rfl)
   obtain rfl:=Option.some.inj H
   go_enter Tryd.func58,Tryd.ntmps58
   go_wp2_with (first|((with_reducible refine gate_dst (N:=1) rfl ?_);(try (refine gate_guard (by rfl) ?_;dsimp only));refine box_event ?hg (N:=1) ?hd (cs:=#[.int .i64 a0_0,.bool a0_1,.int .i64 a0_2,.slice A0_3 l0_3.length c0_3,.slice A0_4 l0_4.length c0_4,.slice A0_5 l0_5.length c0_5,.int .i64 a0_6,.string a0_7,.slice A0_8 l0_8.length c0_8,.slice A0_9 l0_9.length c0_9]) (t:=38) ?hr ?_;(case hd=>rfl);(case hg=>rfl);(case hr=>first|(go_simp;done)|(go_simp;rfl));intro gb172 hg w6 hbox hb;have n0_:=Ak (below_step (by repeat (first|(with_reducible first|exact HB.out|apply below_alloc|apply pw_below_drewN|apply below_drew1)|exact HB.out)) hb);have n1_:=Ak (hbox);have n2_:=Ak ((by rw [hg];exact (below_size (by repeat (first|(with_reducible first|exact HB.out|apply below_alloc|apply pw_below_drewN|apply below_drew1)|exact HB.out))):w.heap.size≤gb172));have n3_:=Ak ((by rw [hg];exact (below_size (by repeat (first|(with_reducible first|exact HB.out|apply below_alloc|apply pw_below_drewN|apply below_drew1)|exact HB.out))):w.heap.size≤gb172));clear HB;have HB:=n0_;have BK172:=n1_;have GW172:=n2_;have GE172:=n3_;clear n0_ n1_ n2_ n3_;clear hb hbox hg;obtain ⟨hcz7_0,hcz7_1,hcz7_2,hcz7_3,hcz7_4,hcz7_5,hcz7_6,hcz7_7,hcz7_8,hcz7_9,hfz7_0,hfz7_1,hfz7_2,hfz7_3,hfz7_4,hfz7_5,hfz7_6,hfz7_7,hfz7_8,hfz7_9⟩:=bk10 BK172.out))
   go_ret
   exact ⟨by first|rfl|(simp [errW_none,errW_some] <;> rfl)|(simp [*,errW_none,errW_some] <;> rfl),by repeat (first|(with_reducible first|exact HB.out|apply below_alloc|apply pw_below_drewN|apply below_drew1|refine below_set ?_ GE172.out)|exact HB.out)⟩
 ·rw [if_neg c2] at H
  have c2b0:((a0_7.size:Int) == 0)=false:=beq_eq_false_iff_ne.mpr c2
  have c2b1:((a0_7.size:Int) != 0)=true:=bne_iff_ne.mpr c2
  obtain rfl:=Option.some.inj H
  go_enter Tryd.func58,Tryd.ntmps58
  go_wp2_with (first|((with_reducible refine gate_dst (N:=1) rfl ?_);(try (refine gate_guard (by rfl) ?_;dsimp only));refine box_event ?hg (N:=1) ?hd (cs:=#[.int .i64 a0_0,.bool a0_1,.int .i64 a0_2,.slice A0_3 l0_3.length c0_3,.slice A0_4 l0_4.length c0_4,.slice A0_5 l0_5.length c0_5,.int .i64 a0_6,.string a0_7,.slice A0_8 l0_8.length c0_8,.slice A0_9 l0_9.length c0_9]) (t:=38) ?hr ?_;(case hd=>rfl);(case hg=>rfl);(case hr=>first|(go_simp;done)|(go_simp;rfl));intro gb172 hg w8 hbox hb;have n0_:=Ak (below_step (by repeat (first|(with_reducible first|exact HB.out|apply below_alloc|apply pw_below_drewN|apply below_drew1)|exact HB.out)) hb);have n1_:=Ak (hbox);have n2_:=Ak ((by rw [hg];exact (below_size (by repeat (first|(with_reducible first|exact HB.out|apply below_alloc|apply pw_below_drewN|apply below_drew1)|exact HB.out))):w.heap.size≤gb172));have n3_:=Ak ((by rw [hg];exact (below_size (by repeat (first|(with_reducible first|exact HB.out|apply below_alloc|apply pw_below_drewN|apply below_drew1)|exact HB.out))):w.heap.size≤gb172));clear HB;have HB:=n0_;have BK172:=n1_;have GW172:=n2_;have GE172:=n3_;clear n0_ n1_ n2_ n3_;clear hb hbox hg;obtain ⟨hcz9_0,hcz9_1,hcz9_2,hcz9_3,hcz9_4,hcz9_5,hcz9_6,hcz9_7,hcz9_8,hcz9_9,hfz9_0,hfz9_1,hfz9_2,hfz9_3,hfz9_4,hfz9_5,hfz9_6,hfz9_7,hfz9_8,hfz9_9⟩:=bk10 BK172.out))
  go_ret
  exact ⟨by first|rfl|(simp [errW_none,errW_some] <;> rfl)|(simp [*,errW_none,errW_some] <;> rfl),by repeat (first|(with_reducible first|exact HB.out|apply below_alloc|apply pw_below_drewN|apply below_drew1|refine below_set ?_ GE172.out)|exact HB.out)⟩
-- NOT PRINTED: function 22 (spec_l3ReadDebug)
-- NOT PRINTED: function 9 (spec_l3ReadProto)
end Go.Proofs.YtiekodnojmkfaaaDoor.PFnExactLoad
