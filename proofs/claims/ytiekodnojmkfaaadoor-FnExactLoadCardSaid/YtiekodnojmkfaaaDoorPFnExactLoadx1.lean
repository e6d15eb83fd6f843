-- Printed by the kit's print or by this session's program, then cut and tightened by it.
import Derived.Test.YtiekodnojmkfaaaDoorPFnExactLoadx0
namespace Go.Proofs.YtiekodnojmkfaaaDoor.PFnExactLoad
open Go.RowKit Go.Proofs.YtiekodnojmkfaaaDoorW.PrintWords Go.Proofs.YtiekodnojmkfaaaDoorW.PrintLast Go.Proofs.YtiekodnojmkfaaaDoorW.PrintMore
attribute [local go_sem] max2_int min2_int max_two min_two max_three min_three max_four min_four   -- for this text's walks alone
set_option linter.unusedVariables false
set_option linter.unusedSimpArgs false
def spec_l3Fail.f (a0_0:ByteArray) (a0_1:Int) (a0_2:Int) (a1:Int):Option (ByteArray×Int×Int):=if a0_2=0 then (some (a0_0,a0_1,a1)) else (some (a0_0,a0_1,a0_2))
set_option maxHeartbeats 8000000 in
set_option maxRecDepth 100000 in
theorem spec_l3Fail.calls (a0_0:ByteArray) (a0_1:Int) (a0_2:Int) (a1:Int) (r1:ByteArray) (r2:Int) (r3:Int) (w:World) (h:spec_l3Fail.f a0_0 a0_1 a0_2 a1=some (r1,r2,r3)) :
  Calls Tryd.prog 54 #[.agg #[.string a0_0,.int .i64 a0_1,.int .i64 a0_2],.int .i64 a1] w fun e w'=>e=.returned (.agg #[.string r1,.int .i64 r2,.int .i64 r3])∧Below w.heap.size w w':=by
 have hu31:=Tryd.underlying31
 have HB:=Ak (Below.refl w.heap.size w)
 have H:(if a0_2=0 then (some (a0_0,a0_1,a1)) else (some (a0_0,a0_1,a0_2)))=some (r1,r2,r3):=h
 clear h
 by_cases c3:a0_2=0
 ·rw [if_pos c3] at H
  have c3b0:(a0_2 == 0)=true:=beq_iff_eq.mpr c3
  have c3b1:(a0_2 != 0)=false:=bne_eq_false_iff_eq.mpr c3
  clear c3
  simp only [Option.some.injEq,Prod.mk.injEq] at H
  obtain ⟨rfl,rfl,rfl⟩:=H
  go_enter Tryd.func54,Tryd.ntmps54
  go_wp2_with (first|((with_reducible refine gate_dst (N:=2) rfl ?_);refine box_event ?hg (N:=2) ?hd (cs:=#[.string a0_0,.int .i64 a0_1,.int .i64 a0_2]) (t:=31) ?hr ?_;(case hd=>rfl);(case hg=>rfl);(case hr=>first|(go_simp;done)|(go_simp;rfl));intro gb101 hg w4 hbox hb;have n0_:=Ak (below_step (by repeat (first|(with_reducible first|exact HB.out|apply below_alloc|apply pw_below_drewN|apply below_drew1)|exact HB.out)) hb);have n1_:=Ak (hbox);have n2_:=Ak ((by rw [hg];exact (below_size (by repeat (first|(with_reducible first|exact HB.out|apply below_alloc|apply pw_below_drewN|apply below_drew1)|exact HB.out))):w.heap.size≤gb101));have n3_:=Ak ((by rw [hg];exact (below_size (by repeat (first|(with_reducible first|exact HB.out|apply below_alloc|apply pw_below_drewN|apply below_drew1)|exact HB.out))):w.heap.size≤gb101));clear HB;have HB:=n0_;have BK101:=n1_;have GW101:=n2_;have GE101:=n3_;clear n0_ n1_ n2_ n3_;clear hb hbox hg)|((with_reducible refine gate_dst (N:=4) rfl ?_);refine box_event ?hg (N:=4) ?hd (cs:=#[.string (⟨#[]⟩:ByteArray),.int .i64 0,.int .i64 0]) (t:=31) ?hr ?_;(case hd=>rfl);(case hg=>rfl);(case hr=>first|(go_simp;done)|(go_simp;rfl));intro gb102 hg w5 hbox hb;have n0_:=Ak (blk_below (g:=gb101) (by (with_reducible repeat (first|refine blk_drewN ?_ _|refine blk_drew ?_|refine blk_alloc ?_ _));exact BK101.out) hb);have n1_:=Ak (below_step (by repeat (first|(with_reducible first|exact HB.out|apply below_alloc|apply pw_below_drewN|apply below_drew1|refine below_set ?_ GE101.out)|exact HB.out)) hb);have n2_:=Ak (hbox);have n3_:=Ak ((by rw [hg];exact (below_size (by repeat (first|(with_reducible first|exact HB.out|apply below_alloc|apply pw_below_drewN|apply below_drew1|refine below_set ?_ GE101.out)|exact HB.out))):w.heap.size≤gb102));have n4_:=Ak ((by rw [hg];exact (below_size (by repeat (first|(with_reducible first|exact HB.out|apply below_alloc|apply pw_below_drewN|apply below_drew1|refine below_set ?_ GE101.out)|exact HB.out))):w.heap.size≤gb102));have n5_:=Ak ((by rw [hg];exact Nat.ne_of_lt (blk_lt (g:=gb101) (by (with_reducible repeat (first|refine blk_drewN ?_ _|refine blk_drew ?_|refine blk_alloc ?_ _));exact BK101.out)):gb101≠gb102));have n6_:=Ak ((by rw [hg];exact Nat.ne_of_gt (blk_lt (g:=gb101) (by (with_reducible repeat (first|refine blk_drewN ?_ _|refine blk_drew ?_|refine blk_alloc ?_ _));exact BK101.out)):gb102≠gb101));clear BK101;clear HB;have BK101:=n0_;have HB:=n1_;have BK102:=n2_;have GW102:=n3_;have GE102:=n4_;have NB101_102:=n5_;have NB102_101:=n6_;clear n0_ n1_ n2_ n3_ n4_ n5_ n6_;clear hb hbox hg;have hnb6:=NB101_102.out;have hnc6:=NB102_101.out;obtain ⟨hcz7_0,hcz7_1,hcz7_2,hfz7_0,hfz7_1,hfz7_2⟩:=bk3 BK101.out;obtain ⟨hcz8_0,hcz8_1,hcz8_2,hfz8_0,hfz8_1,hfz8_2⟩:=bk3 BK102.out))
  refine bodyPost_ret (results_cell_row rfl _ _ gb102 31 #[.string a0_0,.int .i64 a0_1,.int .i64 a1] (0,0) _ rfl (by (with_reducible repeat (first|refine blk_drewN ?_ _|refine blk_drew ?_|refine blk_alloc ?_ _));refine blk_put (cs:=#[.string a0_0,.int .i64 a0_1,.int .i64 0]) ?_ 2 _ rfl;(with_reducible repeat (first|refine blk_drewN ?_ _|refine blk_drew ?_|refine blk_alloc ?_ _));refine blk_put (cs:=#[.string a0_0,.int .i64 0,.int .i64 0]) ?_ 1 _ rfl;(with_reducible repeat (first|refine blk_drewN ?_ _|refine blk_drew ?_|refine blk_alloc ?_ _));refine blk_put (cs:=#[.string (⟨#[]⟩:ByteArray),.int .i64 0,.int .i64 0]) ?_ 0 _ rfl;(with_reducible repeat (first|refine blk_drewN ?_ _|refine blk_drew ?_|refine blk_alloc ?_ _));refine blk_far ?_ NB102_101.out _;(with_reducible repeat (first|refine blk_drewN ?_ _|refine blk_drew ?_|refine blk_alloc ?_ _));exact BK102.out) Tryd.underlying31 rfl (by kernel_rfl)) rfl ?_
  exact ⟨by first|rfl|(simp [errW_none,errW_some] <;> rfl)|(simp [*,errW_none,errW_some] <;> rfl),by repeat (first|(with_reducible first|exact HB.out|apply below_alloc|apply pw_below_drewN|apply below_drew1|refine below_set ?_ GE101.out|refine below_set ?_ GE102.out)|exact HB.out)⟩
 ·rw [if_neg c3] at H
  have c3b0:(a0_2 == 0)=false:=beq_eq_false_iff_ne.mpr c3
  have c3b1:(a0_2 != 0)=true:=bne_iff_ne.mpr c3
  simp only [Option.some.injEq,Prod.mk.injEq] at H
  obtain ⟨rfl,rfl,rfl⟩:=H
  go_enter Tryd.func54,Tryd.ntmps54
  go_wp2_with (first|((with_reducible refine gate_dst (N:=2) rfl ?_);refine box_event ?hg (N:=2) ?hd (cs:=#[.string a0_0,.int .i64 a0_1,.int .i64 a0_2]) (t:=31) ?hr ?_;(case hd=>rfl);(case hg=>rfl);(case hr=>first|(go_simp;done)|(go_simp;rfl));intro gb101 hg w9 hbox hb;have n0_:=Ak (below_step (by repeat (first|(with_reducible first|exact HB.out|apply below_alloc|apply pw_below_drewN|apply below_drew1)|exact HB.out)) hb);have n1_:=Ak (hbox);have n2_:=Ak ((by rw [hg];exact (below_size (by repeat (first|(with_reducible first|exact HB.out|apply below_alloc|apply pw_below_drewN|apply below_drew1)|exact HB.out))):w.heap.size≤gb101));have n3_:=Ak ((by rw [hg];exact (below_size (by repeat (first|(with_reducible first|exact HB.out|apply below_alloc|apply pw_below_drewN|apply below_drew1)|exact HB.out))):w.heap.size≤gb101));clear HB;have HB:=n0_;have BK101:=n1_;have GW101:=n2_;have GE101:=n3_;clear n0_ n1_ n2_ n3_;clear hb hbox hg)|((with_reducible refine gate_dst (N:=4) rfl ?_);refine box_event ?hg (N:=4) ?hd (cs:=#[.string (⟨#[]⟩:ByteArray),.int .i64 0,.int .i64 0]) (t:=31) ?hr ?_;(case hd=>rfl);(case hg=>rfl);(case hr=>first|(go_simp;done)|(go_simp;rfl));intro gb102 hg w10 hbox hb;have n0_:=Ak (blk_below (g:=gb101) (by (with_reducible repeat (first|refine blk_drewN ?_ _|refine blk_drew ?_|refine blk_alloc ?_ _));exact BK101.out) hb);have n1_:=Ak (below_step (by repeat (first|(with_reducible first|exact HB.out|apply below_alloc|apply pw_below_drewN|apply below_drew1|refine below_set ?_ GE101.out)|exact HB.out)) hb);have n2_:=Ak (hbox);have n3_:=Ak ((by rw [hg];exact (below_size (by repeat (first|(with_reducible first|exact HB.out|apply below_alloc|apply pw_below_drewN|apply below_drew1|refine below_set ?_ GE101.out)|exact HB.out))):w.heap.size≤gb102));have n4_:=Ak ((by rw [hg];exact (below_size (by repeat (first|(with_reducible first|exact HB.out|apply below_alloc|apply pw_below_drewN|apply below_drew1|refine below_set ?_ GE101.out)|exact HB.out))):w.heap.size≤gb102));have n5_:=Ak ((by rw [hg];exact Nat.ne_of_lt (blk_lt (g:=gb101) (by (with_reducible repeat (first|refine blk_drewN ?_ _|refine blk_drew ?_|refine blk_alloc ?_ _));exact BK101.out)):gb101≠gb102));have n6_:=Ak ((by rw [hg];exact Nat.ne_of_gt (blk_lt (g:=gb101) (by (with_reducible repeat (first|refine blk_drewN ?_ _|refine blk_drew ?_|refine blk_alloc ?_ _));exact BK101.out)):gb102≠gb101));clear BK101;clear HB;have BK101:=n0_;have HB:=n1_;have BK102:=n2_;have GW102:=n3_;have GE102:=n4_;have NB101_102:=n5_;have NB102_101:=n6_;clear n0_ n1_ n2_ n3_ n4_ n5_ n6_;clear hb hbox hg;have hnb11:=NB101_102.out;have hnc11:=NB102_101.out;obtain ⟨hcz12_0,hcz12_1,hcz12_2,hfz12_0,hfz12_1,hfz12_2⟩:=bk3 BK101.out;obtain ⟨hcz13_0,hcz13_1,hcz13_2,hfz13_0,hfz13_1,hfz13_2⟩:=bk3 BK102.out))
  refine bodyPost_ret (results_cell_row rfl _ _ gb102 31 #[.string a0_0,.int .i64 a0_1,.int .i64 a0_2] (0,0) _ rfl (by (with_reducible repeat (first|refine blk_drewN ?_ _|refine blk_drew ?_|refine blk_alloc ?_ _));refine blk_put (cs:=#[.string a0_0,.int .i64 a0_1,.int .i64 0]) ?_ 2 _ rfl;(with_reducible repeat (first|refine blk_drewN ?_ _|refine blk_drew ?_|refine blk_alloc ?_ _));refine blk_put (cs:=#[.string a0_0,.int .i64 0,.int .i64 0]) ?_ 1 _ rfl;(with_reducible repeat (first|refine blk_drewN ?_ _|refine blk_drew ?_|refine blk_alloc ?_ _));refine blk_put (cs:=#[.string (⟨#[]⟩:ByteArray),.int .i64 0,.int .i64 0]) ?_ 0 _ rfl;(with_reducible repeat (first|refine blk_drewN ?_ _|refine blk_drew ?_|refine blk_alloc ?_ _));exact BK102.out) Tryd.underlying31 rfl (by kernel_rfl)) rfl ?_
  exact ⟨by first|rfl|(simp [errW_none,errW_some] <;> rfl)|(simp [*,errW_none,errW_some] <;> rfl),by repeat (first|(with_reducible first|exact HB.out|apply below_alloc|apply pw_below_drewN|apply below_drew1|refine below_set ?_ GE101.out|refine below_set ?_ GE102.out)|exact HB.out)⟩
def spec_l3Byte.f (a0_0:ByteArray) (a0_1:Int) (a0_2:Int) (a1:Int):Option (Int×ByteArray×Int×Int):=if a0_2=0 then (if a0_1 ≥ (a0_0.size:Int) then ((spec_l3Fail.f a0_0 a0_1 a0_2 2).bind fun bt105=>(some (0,bt105.1,bt105.2.1,bt105.2.2))) else (if 0≤a0_1 then (if a0_1<(a0_0.size:Int) then (if (wrap64 (bt a0_0 a0_1)) > a1 then ((spec_l3Fail.f a0_0 (wrap64 (a0_1+1)) a0_2 3).bind fun bt108=>(some (0,bt108.1,bt108.2.1,bt108.2.2))) else (some (wrap64 (bt a0_0 a0_1),a0_0,wrap64 (a0_1+1),a0_2))) else (none)) else (none))) else (some (0,a0_0,a0_1,a0_2))
set_option maxHeartbeats 8000000 in
set_option maxRecDepth 100000 in
theorem spec_l3Byte.calls (a0_0:ByteArray) (a0_1:Int) (a0_2:Int) (a1:Int) (r1:Int) (r2:ByteArray) (r3:Int) (r4:Int) (w:World) (h:spec_l3Byte.f a0_0 a0_1 a0_2 a1=some (r1,r2,r3,r4)) :
  Calls Tryd.prog 18 #[.agg #[.string a0_0,.int .i64 a0_1,.int .i64 a0_2],.int .i64 a1] w fun e w'=>e=.returned (.tuple #[.int .i64 r1,.agg #[.string r2,.int .i64 r3,.int .i64 r4]])∧Below w.heap.size w w':=by
 have hu31:=Tryd.underlying31
 have HB:=Ak (Below.refl w.heap.size w)
 have H:(if a0_2=0 then (if a0_1 ≥ (a0_0.size:Int) then ((spec_l3Fail.f a0_0 a0_1 a0_2 2).bind fun bt105=>(some (0,bt105.1,bt105.2.1,bt105.2.2))) else (if 0≤a0_1 then (if a0_1<(a0_0.size:Int) then (if (wrap64 (bt a0_0 a0_1)) > a1 then ((spec_l3Fail.f a0_0 (wrap64 (a0_1+1)) a0_2 3).bind fun bt108=>(some (0,bt108.1,bt108.2.1,bt108.2.2))) else (some (wrap64 (bt a0_0 a0_1),a0_0,wrap64 (a0_1+1),a0_2))) else (none)) else (none))) else (some (0,a0_0,a0_1,a0_2)))=some (r1,r2,r3,r4):=h
 clear h
 by_cases c3:a0_2=0
 ·rw [if_pos c3] at H
  have c3b0:(a0_2 == 0)=true:=beq_iff_eq.mpr c3
  have c3b1:(a0_2 != 0)=false:=bne_eq_false_iff_eq.mpr c3
  clear c3
  by_cases c4:a0_1 ≥ (a0_0.size:Int)
  ·rw [if_pos c4] at H
   have c4b0:decide ((a0_0.size:Int)≤a0_1)=true:=decide_eq_true c4
   clear c4
   replace H:=Option.bind_eq_some_iff.mp H
   obtain ⟨⟨t105,t106,t107⟩,A50,H⟩:=H
   replace H:(some (0,t105,t106,t107))=some (r1,r2,r3,r4):=H
   have A5:=Ak A50;clear A50
   simp only [Option.some.injEq,Prod.mk.injEq] at H
   obtain ⟨rfl,rfl,rfl,rfl⟩:=H
   go_enter Tryd.func18,Tryd.ntmps18
   go_wp2_with (first|((with_reducible refine gate_dst (N:=2) rfl ?_);refine box_event ?hg (N:=2) ?hd (cs:=#[.string a0_0,.int .i64 a0_1,.int .i64 a0_2]) (t:=31) ?hr ?_;(case hd=>rfl);(case hg=>rfl);(case hr=>first|(go_simp;done)|(go_simp;rfl));intro gb103 hg w6 hbox hb;have n0_:=Ak (below_step (by repeat (first|(with_reducible first|exact HB.out|apply below_alloc|apply pw_below_drewN|apply below_drew1)|exact HB.out)) hb);have n1_:=Ak (hbox);have n2_:=Ak ((by rw [hg];exact (below_size (by repeat (first|(with_reducible first|exact HB.out|apply below_alloc|apply pw_below_drewN|apply below_drew1)|exact HB.out))):w.heap.size≤gb103));have n3_:=Ak ((by rw [hg];exact (below_size (by repeat (first|(with_reducible first|exact HB.out|apply below_alloc|apply pw_below_drewN|apply below_drew1)|exact HB.out))):w.heap.size≤gb103));clear HB;have HB:=n0_;have BK103:=n1_;have GW103:=n2_;have GE103:=n3_;clear n0_ n1_ n2_ n3_;clear hb hbox hg)|((with_reducible refine gate_dst (N:=5) rfl ?_);refine box_event ?hg (N:=5) ?hd (cs:=#[.string (⟨#[]⟩:ByteArray),.int .i64 0,.int .i64 0]) (t:=31) ?hr ?_;(case hd=>rfl);(case hg=>rfl);(case hr=>first|(go_simp;done)|(go_simp;rfl));intro gb104 hg w7 hbox hb;have n0_:=Ak (blk_below (g:=gb103) (by (with_reducible repeat (first|refine blk_drewN ?_ _|refine blk_drew ?_|refine blk_alloc ?_ _));exact BK103.out) hb);have n1_:=Ak (below_step (by repeat (first|(with_reducible first|exact HB.out|apply below_alloc|apply pw_below_drewN|apply below_drew1|refine below_set ?_ GE103.out)|exact HB.out)) hb);have n2_:=Ak (hbox);have n3_:=Ak ((by rw [hg];exact (below_size (by repeat (first|(with_reducible first|exact HB.out|apply below_alloc|apply pw_below_drewN|apply below_drew1|refine below_set ?_ GE103.out)|exact HB.out))):w.heap.size≤gb104));have n4_:=Ak ((by rw [hg];exact (below_size (by repeat (first|(with_reducible first|exact HB.out|apply below_alloc|apply pw_below_drewN|apply below_drew1|refine below_set ?_ GE103.out)|exact HB.out))):w.heap.size≤gb104));have n5_:=Ak ((by rw [hg];exact Nat.ne_of_lt (blk_lt (g:=gb103) (by (with_reducible repeat (first|refine blk_drewN ?_ _|refine blk_drew ?_|refine blk_alloc ?_ _));exact BK103.out)):gb103≠gb104));have n6_:=Ak ((by rw [hg];exact Nat.ne_of_gt (blk_lt (g:=gb103) (by (with_reducible repeat (first|refine blk_drewN ?_ _|refine blk_drew ?_|refine blk_alloc ?_ _));exact BK103.out)):gb104≠gb103));clear BK103;clear HB;have BK103:=n0_;have HB:=n1_;have BK104:=n2_;have GW104:=n3_;have GE104:=n4_;have NB103_104:=n5_;have NB104_103:=n6_;clear n0_ n1_ n2_ n3_ n4_ n5_ n6_;clear hb hbox hg;have hnb8:=NB103_104.out;have hnc8:=NB104_103.out;obtain ⟨hcz9_0,hcz9_1,hcz9_2,hfz9_0,hfz9_1,hfz9_2⟩:=bk3 BK103.out)|((with_reducible refine gate_callee (f:=54) rfl ?_);refine goesL_ (some 18) rfl rfl Tryd.func54 (by kernel_rfl) rfl #[.agg #[.string a0_0,.int .i64 a0_1,.int .i64 a0_2],.int .i64 2] rfl (by (try simp only [List.map_toArray,List.map_cons,List.map_nil]);first|done|rfl|(simp only [List.length_drop,List.length_take];rfl)) ?_;(with_reducible refine (spec_l3Fail.calls a0_0 a0_1 a0_2 2 t105 t106 t107 _ A5.out).mono ?_);rintro e w10 ⟨rfl,hb⟩;refine ⟨_,rfl,?_⟩;have n0_:=Ak (blk_below (g:=gb103) (by (with_reducible repeat (first|refine blk_drewN ?_ _|refine blk_drew ?_|refine blk_alloc ?_ _));exact BK103.out) hb);have n1_:=Ak (blk_below (g:=gb104) (o:=.cells #[.string (⟨#[]⟩:ByteArray),.int .i64 0,.int .i64 0] 31 (0,0)) (by (with_reducible repeat (first|refine blk_drewN ?_ _|refine blk_drew ?_|refine blk_alloc ?_ _));exact BK104.out) hb);have n2_:=Ak (below_step (by repeat (first|(with_reducible first|exact HB.out|apply below_alloc|apply pw_below_drewN|apply below_drew1|refine below_set ?_ GE103.out|refine below_set ?_ GE104.out)|exact HB.out)) hb);clear BK103;clear BK104;clear HB;have BK103:=n0_;have BK104:=n1_;have HB:=n2_;clear n0_ n1_ n2_;(try clear hb);(try clear hb2);(try clear hk);(try clear hi);obtain ⟨hcz11_0,hcz11_1,hcz11_2,hfz11_0,hfz11_1,hfz11_2⟩:=bk3 BK104.out))
   refine bodyPost_ret (results_tc rfl _ _ gb104 31 #[.string t105,.int .i64 t106,.int .i64 t107] (0,0) _ rfl (by (with_reducible repeat (first|refine blk_drewN ?_ _|refine blk_drew ?_|refine blk_alloc ?_ _));refine blk_put (cs:=#[.string t105,.int .i64 t106,.int .i64 0]) ?_ 2 _ rfl;(with_reducible repeat (first|refine blk_drewN ?_ _|refine blk_drew ?_|refine blk_alloc ?_ _));refine blk_put (cs:=#[.string t105,.int .i64 0,.int .i64 0]) ?_ 1 _ rfl;(with_reducible repeat (first|refine blk_drewN ?_ _|refine blk_drew ?_|refine blk_alloc ?_ _));refine blk_put (cs:=#[.string (⟨#[]⟩:ByteArray),.int .i64 0,.int .i64 0]) ?_ 0 _ rfl;(with_reducible repeat (first|refine blk_drewN ?_ _|refine blk_drew ?_|refine blk_alloc ?_ _));exact BK104.out) Tryd.underlying31 rfl (by kernel_rfl)) rfl ?_
   exact ⟨by first|rfl|(simp [errW_none,errW_some] <;> rfl)|(simp [*,errW_none,errW_some] <;> rfl),by repeat (first|(with_reducible first|exact HB.out|apply below_alloc|apply pw_below_drewN|apply below_drew1|refine below_set ?_ GE103.out|refine below_set ?_ GE104.out)|exact HB.out)⟩
  ·rw [if_neg c4] at H
   have c4b0:decide ((a0_0.size:Int)≤a0_1)=false:=decide_eq_false c4
   clear c4
   by_cases c12:0≤a0_1
   ·rw [if_pos c12] at H
    have c12b0:decide (0≤a0_1)=true:=decide_eq_true c12
    clear c12
    by_cases c13:a0_1<(a0_0.size:Int)
    ·rw [if_pos c13] at H
     have c13b0:decide (a0_1<(a0_0.size:Int))=true:=decide_eq_true c13
     clear c13
     by_cases c15:(wrap64 (bt a0_0 a0_1)) > a1
     ·rw [if_pos c15] at H
      have c15b0:decide (a1<(wrap64 (bt a0_0 a0_1)))=true:=decide_eq_true c15
      clear c15
      replace H:=Option.bind_eq_some_iff.mp H
      obtain ⟨⟨t108,t109,t110⟩,A160,H⟩:=H
      replace H:(some (0,t108,t109,t110))=some (r1,r2,r3,r4):=H
      have A16:=Ak A160;clear A160
      simp only [Option.some.injEq,Prod.mk.injEq] at H
      obtain ⟨rfl,rfl,rfl,rfl⟩:=H
      go_enter Tryd.func18,Tryd.ntmps18
      go_wp2_with (first|((with_reducible refine gate_dst (N:=2) rfl ?_);refine box_event ?hg (N:=2) ?hd (cs:=#[.string a0_0,.int .i64 a0_1,.int .i64 a0_2]) (t:=31) ?hr ?_;(case hd=>rfl);(case hg=>rfl);(case hr=>first|(go_simp;done)|(go_simp;rfl));intro gb103 hg w17 hbox hb;have n0_:=Ak (below_step (by repeat (first|(with_reducible first|exact HB.out|apply below_alloc|apply pw_below_drewN|apply below_drew1)|exact HB.out)) hb);have n1_:=Ak (hbox);have n2_:=Ak ((by rw [hg];exact (below_size (by repeat (first|(with_reducible first|exact HB.out|apply below_alloc|apply pw_below_drewN|apply below_drew1)|exact HB.out))):w.heap.size≤gb103));have n3_:=Ak ((by rw [hg];exact (below_size (by repeat (first|(with_reducible first|exact HB.out|apply below_alloc|apply pw_below_drewN|apply below_drew1)|exact HB.out))):w.heap.size≤gb103));clear HB;have HB:=n0_;have BK103:=n1_;have GW103:=n2_;have GE103:=n3_;clear n0_ n1_ n2_ n3_;clear hb hbox hg)|((with_reducible refine gate_dst (N:=5) rfl ?_);refine box_event ?hg (N:=5) ?hd (cs:=#[.string (⟨#[]⟩:ByteArray),.int .i64 0,.int .i64 0]) (t:=31) ?hr ?_;(case hd=>rfl);(case hg=>rfl);(case hr=>first|(go_simp;done)|(go_simp;rfl));intro gb104 hg w18 hbox hb;have n0_:=Ak (blk_below (g:=gb103) (by (with_reducible repeat (first|refine blk_drewN ?_ _|refine blk_drew ?_|refine blk_alloc ?_ _));exact BK103.out) hb);have n1_:=Ak (below_step (by repeat (first|(with_reducible first|exact HB.out|apply below_alloc|apply pw_below_drewN|apply below_drew1|refine below_set ?_ GE103.out)|exact HB.out)) hb);have n2_:=Ak (hbox);have n3_:=Ak ((by rw [hg];exact (below_size (by repeat (first|(with_reducible first|exact HB.out|apply below_alloc|apply pw_below_drewN|apply below_drew1|refine below_set ?_ GE103.out)|exact HB.out))):w.heap.size≤gb104));have n4_:=Ak ((by rw [hg];exact (below_size (by repeat (first|(with_reducible first|exact HB.out|apply below_alloc|apply pw_below_drewN|apply below_drew1|refine below_set ?_ GE103.out)|exact HB.out))):w.heap.size≤gb104));have n5_:=Ak ((by rw [hg];exact Nat.ne_of_lt (blk_lt (g:=gb103) (by (with_reducible repeat (first|refine blk_drewN ?_ _|refine blk_drew ?_|refine blk_alloc ?_ _));exact BK103.out)):gb103≠gb104));have n6_:=Ak ((by rw [hg];exact Nat.ne_of_gt (blk_lt (g:=gb103) (by (with_reducible repeat (first|refine blk_drewN ?_ _|refine blk_drew ?_|refine blk_alloc ?_ _));exact BK103.out)):gb104≠gb103));clear BK103;clear HB;have BK103:=n0_;have HB:=n1_;have BK104:=n2_;have GW104:=n3_;have GE104:=n4_;have NB103_104:=n5_;have NB104_103:=n6_;clear n0_ n1_ n2_ n3_ n4_ n5_ n6_;clear hb hbox hg;have hnb19:=NB103_104.out;have hnc19:=NB104_103.out;obtain ⟨hcz20_0,hcz20_1,hcz20_2,hfz20_0,hfz20_1,hfz20_2⟩:=bk3 BK103.out;have p14:0≤(a0_1:Int):=of_decide_eq_true (by first|(with_reducible assumption)|assumption);have q14:a0_1<(a0_0.size:Int):=of_decide_eq_true (by first|(with_reducible assumption)|assumption);have hx14:=bt_at a0_0 a0_1;replace p14:=eq_true p14;replace q14:=eq_true q14)|((with_reducible refine gate_callee (f:=54) rfl ?_);refine goesL_ (some 33) rfl rfl Tryd.func54 (by kernel_rfl) rfl #[.agg #[.string a0_0,.int .i64 (wrap64 (a0_1+1)),.int .i64 a0_2],.int .i64 3] rfl (by (try simp only [List.map_toArray,List.map_cons,List.map_nil]);first|done|rfl|(simp only [List.length_drop,List.length_take];rfl)) ?_;(with_reducible refine (spec_l3Fail.calls a0_0 (wrap64 (a0_1+1)) a0_2 3 t108 t109 t110 _ A16.out).mono ?_);rintro e w21 ⟨rfl,hb⟩;refine ⟨_,rfl,?_⟩;have n0_:=Ak (blk_below (g:=gb103) (o:=.cells #[.string a0_0,.int .i64 (wrap64 (a0_1+1)),.int .i64 a0_2] 31 (0,0)) (by (with_reducible repeat (first|refine blk_drewN ?_ _|refine blk_drew ?_|refine blk_alloc ?_ _));refine blk_put (cs:=#[.string a0_0,.int .i64 a0_1,.int .i64 a0_2]) ?_ 1 _ rfl;(with_reducible repeat (first|refine blk_drewN ?_ _|refine blk_drew ?_|refine blk_alloc ?_ _));exact BK103.out) hb);have n1_:=Ak (blk_below (g:=gb104) (o:=.cells #[.string (⟨#[]⟩:ByteArray),.int .i64 0,.int .i64 0] 31 (0,0)) (by (with_reducible repeat (first|refine blk_drewN ?_ _|refine blk_drew ?_|refine blk_alloc ?_ _));refine blk_far ?_ NB104_103.out _;(with_reducible repeat (first|refine blk_drewN ?_ _|refine blk_drew ?_|refine blk_alloc ?_ _));exact BK104.out) hb);have n2_:=Ak (below_step (by repeat (first|(with_reducible first|exact HB.out|apply below_alloc|apply pw_below_drewN|apply below_drew1|refine below_set ?_ GE103.out|refine below_set ?_ GE104.out)|exact HB.out)) hb);clear BK103;clear BK104;clear HB;have BK103:=n0_;have BK104:=n1_;have HB:=n2_;clear n0_ n1_ n2_;(try clear hb);(try clear hb2);(try clear hk);(try clear hi);obtain ⟨hcz22_0,hcz22_1,hcz22_2,hfz22_0,hfz22_1,hfz22_2⟩:=bk3 BK104.out))
      refine bodyPost_ret (results_tc rfl _ _ gb104 31 #[.string t108,.int .i64 t109,.int .i64 t110] (0,0) _ rfl (by (with_reducible repeat (first|refine blk_drewN ?_ _|refine blk_drew ?_|refine blk_alloc ?_ _));refine blk_put (cs:=#[.string t108,.int .i64 t109,.int .i64 0]) ?_ 2 _ rfl;(with_reducible repeat (first|refine blk_drewN ?_ _|refine blk_drew ?_|refine blk_alloc ?_ _));refine blk_put (cs:=#[.string t108,.int .i64 0,.int .i64 0]) ?_ 1 _ rfl;(with_reducible repeat (first|refine blk_drewN ?_ _|refine blk_drew ?_|refine blk_alloc ?_ _));refine blk_put (cs:=#[.string (⟨#[]⟩:ByteArray),.int .i64 0,.int .i64 0]) ?_ 0 _ rfl;(with_reducible repeat (first|refine blk_drewN ?_ _|refine blk_drew ?_|refine blk_alloc ?_ _));exact BK104.out) Tryd.underlying31 rfl (by kernel_rfl)) rfl ?_
      exact ⟨by first|rfl|(simp [errW_none,errW_some] <;> rfl)|(simp [*,errW_none,errW_some] <;> rfl),by repeat (first|(with_reducible first|exact HB.out|apply below_alloc|apply pw_below_drewN|apply below_drew1|refine below_set ?_ GE103.out|refine below_set ?_ GE104.out)|exact HB.out)⟩
     ·rw [if_neg c15] at H
      have c15b0:decide (a1<(wrap64 (bt a0_0 a0_1)))=false:=decide_eq_false c15
      clear c15
      simp only [Option.some.injEq,Prod.mk.injEq] at H
      obtain ⟨rfl,rfl,rfl,rfl⟩:=H
      go_enter Tryd.func18,Tryd.ntmps18
      try go_wp2_with (first|((with_reducible refine gate_dst (N:=2) rfl ?_);refine box_event ?hg (N:=2) ?hd (cs:=#[.string a0_0,.int .i64 a0_1,.int .i64 a0_2]) (t:=31) ?hr ?_;(case hd=>rfl);(case hg=>rfl);(case hr=>first|(go_simp;done)|(go_simp;rfl));intro gb103 hg w23 hbox hb;have n0_:=Ak (below_step (by repeat (first|(with_reducible first|exact HB.out|apply below_alloc|apply pw_below_drewN|apply below_drew1)|exact HB.out)) hb);have n1_:=Ak (hbox);have n2_:=Ak ((by rw [hg];exact (below_size (by repeat (first|(with_reducible first|exact HB.out|apply below_alloc|apply pw_below_drewN|apply below_drew1)|exact HB.out))):w.heap.size≤gb103));have n3_:=Ak ((by rw [hg];exact (below_size (by repeat (first|(with_reducible first|exact HB.out|apply below_alloc|apply pw_below_drewN|apply below_drew1)|exact HB.out))):w.heap.size≤gb103));clear HB;have HB:=n0_;have BK103:=n1_;have GW103:=n2_;have GE103:=n3_;clear n0_ n1_ n2_ n3_;clear hb hbox hg)|((with_reducible refine gate_dst (N:=5) rfl ?_);refine box_event ?hg (N:=5) ?hd (cs:=#[.string (⟨#[]⟩:ByteArray),.int .i64 0,.int .i64 0]) (t:=31) ?hr ?_;(case hd=>rfl);(case hg=>rfl);(case hr=>first|(go_simp;done)|(go_simp;rfl));intro gb104 hg w24 hbox hb;have n0_:=Ak (blk_below (g:=gb103) (by (with_reducible repeat (first|refine blk_drewN ?_ _|refine blk_drew ?_|refine blk_alloc ?_ _));exact BK103.out) hb);have n1_:=Ak (below_step (by repeat (first|(with_reducible first|exact HB.out|apply below_alloc|apply pw_below_drewN|apply below_drew1|refine below_set ?_ GE103.out)|exact HB.out)) hb);have n2_:=Ak (hbox);have n3_:=Ak ((by rw [hg];exact (below_size (by repeat (first|(with_reducible first|exact HB.out|apply below_alloc|apply pw_below_drewN|apply below_drew1|refine below_set ?_ GE103.out)|exact HB.out))):w.heap.size≤gb104));have n4_:=Ak ((by rw [hg];exact (below_size (by repeat (first|(with_reducible first|exact HB.out|apply below_alloc|apply pw_below_drewN|apply below_drew1|refine below_set ?_ GE103.out)|exact HB.out))):w.heap.size≤gb104));have n5_:=Ak ((by rw [hg];exact Nat.ne_of_lt (blk_lt (g:=gb103) (by (with_reducible repeat (first|refine blk_drewN ?_ _|refine blk_drew ?_|refine blk_alloc ?_ _));exact BK103.out)):gb103≠gb104));have n6_:=Ak ((by rw [hg];exact Nat.ne_of_gt (blk_lt (g:=gb103) (by (with_reducible repeat (first|refine blk_drewN ?_ _|refine blk_drew ?_|refine blk_alloc ?_ _));exact BK103.out)):gb104≠gb103));clear BK103;clear HB;have BK103:=n0_;have HB:=n1_;have BK104:=n2_;have GW104:=n3_;have GE104:=n4_;have NB103_104:=n5_;have NB104_103:=n6_;clear n0_ n1_ n2_ n3_ n4_ n5_ n6_;clear hb hbox hg;have hnb25:=NB103_104.out;have hnc25:=NB104_103.out;obtain ⟨hcz26_0,hcz26_1,hcz26_2,hfz26_0,hfz26_1,hfz26_2⟩:=bk3 BK103.out;have p14:0≤(a0_1:Int):=of_decide_eq_true (by first|(with_reducible assumption)|assumption);have q14:a0_1<(a0_0.size:Int):=of_decide_eq_true (by first|(with_reducible assumption)|assumption);have hx14:=bt_at a0_0 a0_1;replace p14:=eq_true p14;replace q14:=eq_true q14))
      have n0_:Aside0 ((w24.setCell ⟨gb103,1,none⟩ (.int .i64 (wrap64 (a0_1+1)))).heap[gb103]?=some (.cells #[.string a0_0,.int .i64 (wrap64 (a0_1+1)),.int .i64 a0_2] 31 (0,0))):=⟨by (with_reducible repeat (first|refine blk_drewN ?_ _|refine blk_drew ?_|refine blk_alloc ?_ _));refine blk_put (cs:=#[.string a0_0,.int .i64 a0_1,.int .i64 a0_2]) ?_ 1 _ rfl;(with_reducible repeat (first|refine blk_drewN ?_ _|refine blk_drew ?_|refine blk_alloc ?_ _));exact BK103.out⟩
      have n1_:Aside0 ((w24.setCell ⟨gb103,1,none⟩ (.int .i64 (wrap64 (a0_1+1)))).heap[gb104]?=some (.cells #[.string (⟨#[]⟩:ByteArray),.int .i64 0,.int .i64 0] 31 (0,0))):=⟨by (with_reducible repeat (first|refine blk_drewN ?_ _|refine blk_drew ?_|refine blk_alloc ?_ _));refine blk_far ?_ NB104_103.out _;(with_reducible repeat (first|refine blk_drewN ?_ _|refine blk_drew ?_|refine blk_alloc ?_ _));exact BK104.out⟩
      have n2_:Aside0 (Below w.heap.size w (w24.setCell ⟨gb103,1,none⟩ (.int .i64 (wrap64 (a0_1+1))))):=⟨by repeat (first|(with_reducible first|exact HB.out|apply below_alloc|apply pw_below_drewN|apply below_drew1|refine below_set ?_ GE103.out|refine below_set ?_ GE104.out)|exact HB.out)⟩
      (try clear BK103)
      (try clear BK104)
      (try clear HB)
      generalize (w24.setCell ⟨gb103,1,none⟩ (.int .i64 (wrap64 (a0_1+1))))=w27 at n0_ n1_ n2_ ⊢
      have BK103:=n0_;have BK104:=n1_;have HB:=n2_;clear n0_ n1_ n2_
      have n0_:=Ak (blk_drew BK103.out)
      have n1_:=Ak (blk_drew BK104.out)
      have n2_:=Ak (below_drew1 HB.out)
      clear BK103;clear BK104;clear HB;have BK103:=n0_;have BK104:=n1_;have HB:=n2_;clear n0_ n1_ n2_
      refine start_ (n:=4) (S:=fun w'=>w'.cell? ⟨gb103,0,none⟩=some (.string a0_0)∧w'.cell? ⟨gb103,1,none⟩=some (.int .i64 (wrap64 (a0_1+1)))∧w'.cell? ⟨gb103,2,none⟩=some (.int .i64 a0_2)) (ds:=[]) #[false,false,false,false] (by kernel_rfl) rfl rfl ⟨(blk_cell BK103.out 0).trans rfl,(blk_cell BK103.out 1).trans rfl,(blk_cell BK103.out 2).trans rfl⟩ (fun hHeld=>?_)
      generalize w27.drew=w28 at BK103 BK104 HB hHeld ⊢
      refine pure_ (i:=0) (N:=some 34) (v:=?_) (a':=?_) #[true,false,false,false] rfl rfl (by kernel_rfl) (fun _ _ _ h=>h) (Or.inl ⟨by rfl,?_⟩) ?_ ?_
      rotate_left
      ·intro w'
       go_simp
       with_reducible rfl
      rotate_left
      ·simp only [Act.put,List.setIfInBounds_toArray,List.set_cons_zero,List.set_cons_succ,i64_w,i32_w]
       rfl
      refine pure_ (i:=2) (N:=some 4) (v:=?_) (a':=?_) #[true,false,true,false] rfl rfl (by kernel_rfl) (fun _ _ _ h=>h) (Or.inl ⟨by rfl,?_⟩) ?_ ?_
      rotate_left
      ·intro w'
       go_simp
       with_reducible rfl
      rotate_left
      ·simp only [Act.put,List.setIfInBounds_toArray,List.set_cons_zero,List.set_cons_succ,i64_w,i32_w]
       rfl
      refine take_ (i:=1) (N:=some 35) (v:=?_) (a':=?_) #[true,true,true,false] rfl rfl (by kernel_rfl) (fun _ _ _ h=>h) (Or.inl ⟨by rfl,?_⟩) hHeld ?_ ?_
      rotate_left
      ·rintro w' ⟨s0,s1,s2⟩
       go_simp
       with_reducible rfl
      rotate_left
      ·simp only [Act.put,List.setIfInBounds_toArray,List.set_cons_zero,List.set_cons_succ,i64_w,i32_w]
       rfl
      refine one_ (i:=3) (N:=none) #[true,true,true,true] rfl rfl (by kernel_rfl) (by decide) (fun K hK=>?_)
      have hs29:w28.cell? ⟨gb104,0,none⟩=some (.string (⟨#[]⟩:ByteArray)):=(blk_cell BK104.out 0).trans rfl
      have hfs29:=blk_frozen BK104.out 0
      have hns29_0:=NB103_104.out
      have hms29_0:=NB104_103.out
      have hs30:w28.cell? ⟨gb104,1,none⟩=some (.int .i64 0):=(blk_cell BK104.out 1).trans rfl
      have hfs30:=blk_frozen BK104.out 1
      have hns30_0:=NB103_104.out
      have hms30_0:=NB104_103.out
      have hs31:w28.cell? ⟨gb104,2,none⟩=some (.int .i64 0):=(blk_cell BK104.out 2).trans rfl
      have hfs31:=blk_frozen BK104.out 2
      have hns31_0:=NB103_104.out
      have hms31_0:=NB104_103.out
      refine skip_ (w1:=?_) (by rfl) rfl ?_ ?_
      rotate_left
      ·go_simp
       rfl
      refine hK.out _ _ ⟨((cell_far (p:=⟨gb104,_,none⟩) NB103_104.out _).trans (((cell_far (p:=⟨gb104,_,none⟩) NB103_104.out _).trans (((cell_far (p:=⟨gb104,_,none⟩) NB103_104.out _).trans (hHeld.1)))))),((cell_far (p:=⟨gb104,_,none⟩) NB103_104.out _).trans (((cell_far (p:=⟨gb104,_,none⟩) NB103_104.out _).trans (((cell_far (p:=⟨gb104,_,none⟩) NB103_104.out _).trans (hHeld.2.1)))))),((cell_far (p:=⟨gb104,_,none⟩) NB103_104.out _).trans (((cell_far (p:=⟨gb104,_,none⟩) NB103_104.out _).trans (((cell_far (p:=⟨gb104,_,none⟩) NB103_104.out _).trans (hHeld.2.2))))))⟩ (fun hHeld=>?_)
      clear hK K
      refine done_ (by kernel_rfl) ?_
      try go_wp2
      refine bodyPost_ret (results_tc rfl _ _ gb104 31 #[.string a0_0,.int .i64 (wrap64 (a0_1+1)),.int .i64 a0_2] (0,0) _ rfl (by (with_reducible repeat (first|refine blk_drewN ?_ _|refine blk_drew ?_|refine blk_alloc ?_ _));refine blk_put (cs:=#[.string a0_0,.int .i64 (wrap64 (a0_1+1)),.int .i64 0]) ?_ 2 _ rfl;(with_reducible repeat (first|refine blk_drewN ?_ _|refine blk_drew ?_|refine blk_alloc ?_ _));refine blk_put (cs:=#[.string a0_0,.int .i64 0,.int .i64 0]) ?_ 1 _ rfl;(with_reducible repeat (first|refine blk_drewN ?_ _|refine blk_drew ?_|refine blk_alloc ?_ _));refine blk_put (cs:=#[.string (⟨#[]⟩:ByteArray),.int .i64 0,.int .i64 0]) ?_ 0 _ rfl;(with_reducible repeat (first|refine blk_drewN ?_ _|refine blk_drew ?_|refine blk_alloc ?_ _));exact BK104.out) Tryd.underlying31 rfl (by kernel_rfl)) rfl ?_
      exact ⟨by first|rfl|(simp [errW_none,errW_some] <;> rfl)|(simp [*,errW_none,errW_some] <;> rfl),by repeat (first|(with_reducible first|exact HB.out|apply below_alloc|apply pw_below_drewN|apply below_drew1|refine below_set ?_ GE103.out|refine below_set ?_ GE104.out)|exact HB.out)⟩
    ·rw [if_neg c13] at H
     exact absurd H (by simp)
   ·rw [if_neg c12] at H
    exact absurd H (by simp)
 ·rw [if_neg c3] at H
  have c3b0:(a0_2 == 0)=false:=beq_eq_false_iff_ne.mpr c3
  have c3b1:(a0_2 != 0)=true:=bne_iff_ne.mpr c3
  simp only [Option.some.injEq,Prod.mk.injEq] at H
  obtain ⟨rfl,rfl,rfl,rfl⟩:=H
  go_enter Tryd.func18,Tryd.ntmps18
  try go_wp2_with (first|((with_reducible refine gate_dst (N:=2) rfl ?_);refine box_event ?hg (N:=2) ?hd (cs:=#[.string a0_0,.int .i64 a0_1,.int .i64 a0_2]) (t:=31) ?hr ?_;(case hd=>rfl);(case hg=>rfl);(case hr=>first|(go_simp;done)|(go_simp;rfl));intro gb103 hg w32 hbox hb;have n0_:=Ak (below_step (by repeat (first|(with_reducible first|exact HB.out|apply below_alloc|apply pw_below_drewN|apply below_drew1)|exact HB.out)) hb);have n1_:=Ak (hbox);have n2_:=Ak ((by rw [hg];exact (below_size (by repeat (first|(with_reducible first|exact HB.out|apply below_alloc|apply pw_below_drewN|apply below_drew1)|exact HB.out))):w.heap.size≤gb103));have n3_:=Ak ((by rw [hg];exact (below_size (by repeat (first|(with_reducible first|exact HB.out|apply below_alloc|apply pw_below_drewN|apply below_drew1)|exact HB.out))):w.heap.size≤gb103));clear HB;have HB:=n0_;have BK103:=n1_;have GW103:=n2_;have GE103:=n3_;clear n0_ n1_ n2_ n3_;clear hb hbox hg)|((with_reducible refine gate_dst (N:=5) rfl ?_);refine box_event ?hg (N:=5) ?hd (cs:=#[.string (⟨#[]⟩:ByteArray),.int .i64 0,.int .i64 0]) (t:=31) ?hr ?_;(case hd=>rfl);(case hg=>rfl);(case hr=>first|(go_simp;done)|(go_simp;rfl));intro gb104 hg w33 hbox hb;have n0_:=Ak (blk_below (g:=gb103) (by (with_reducible repeat (first|refine blk_drewN ?_ _|refine blk_drew ?_|refine blk_alloc ?_ _));exact BK103.out) hb);have n1_:=Ak (below_step (by repeat (first|(with_reducible first|exact HB.out|apply below_alloc|apply pw_below_drewN|apply below_drew1|refine below_set ?_ GE103.out)|exact HB.out)) hb);have n2_:=Ak (hbox);have n3_:=Ak ((by rw [hg];exact (below_size (by repeat (first|(with_reducible first|exact HB.out|apply below_alloc|apply pw_below_drewN|apply below_drew1|refine below_set ?_ GE103.out)|exact HB.out))):w.heap.size≤gb104));have n4_:=Ak ((by rw [hg];exact (below_size (by repeat (first|(with_reducible first|exact HB.out|apply below_alloc|apply pw_below_drewN|apply below_drew1|refine below_set ?_ GE103.out)|exact HB.out))):w.heap.size≤gb104));have n5_:=Ak ((by rw [hg];exact Nat.ne_of_lt (blk_lt (g:=gb103) (by (with_reducible repeat (first|refine blk_drewN ?_ _|refine blk_drew ?_|refine blk_alloc ?_ _));exact BK103.out)):gb103≠gb104));have n6_:=Ak ((by rw [hg];exact Nat.ne_of_gt (blk_lt (g:=gb103) (by (with_reducible repeat (first|refine blk_drewN ?_ _|refine blk_drew ?_|refine blk_alloc ?_ _));exact BK103.out)):gb104≠gb103));clear BK103;clear HB;have BK103:=n0_;have HB:=n1_;have BK104:=n2_;have GW104:=n3_;have GE104:=n4_;have NB103_104:=n5_;have NB104_103:=n6_;clear n0_ n1_ n2_ n3_ n4_ n5_ n6_;clear hb hbox hg;have hnb34:=NB103_104.out;have hnc34:=NB104_103.out;obtain ⟨hcz35_0,hcz35_1,hcz35_2,hfz35_0,hfz35_1,hfz35_2⟩:=bk3 BK103.out))
  have n0_:=Ak (blk_drew BK103.out)
  have n1_:=Ak (blk_drew BK104.out)
  have n2_:=Ak (below_drew1 HB.out)
  clear BK103;clear BK104;clear HB;have BK103:=n0_;have BK104:=n1_;have HB:=n2_;clear n0_ n1_ n2_
  refine start_ (n:=3) (S:=fun w'=>w'.cell? ⟨gb103,0,none⟩=some (.string a0_0)∧w'.cell? ⟨gb103,1,none⟩=some (.int .i64 a0_1)∧w'.cell? ⟨gb103,2,none⟩=some (.int .i64 a0_2)) (ds:=[]) #[false,false,false] (by kernel_rfl) rfl rfl ⟨(blk_cell BK103.out 0).trans rfl,(blk_cell BK103.out 1).trans rfl,(blk_cell BK103.out 2).trans rfl⟩ (fun hHeld=>?_)
  generalize w33.drew=w36 at BK103 BK104 HB hHeld ⊢
  refine pure_ (i:=1) (N:=some 4) (v:=?_) (a':=?_) #[false,true,false] rfl rfl (by kernel_rfl) (fun _ _ _ h=>h) (Or.inl ⟨by rfl,?_⟩) ?_ ?_
  rotate_left
  ·intro w'
   go_simp
   with_reducible rfl
  rotate_left
  ·simp only [Act.put,List.setIfInBounds_toArray,List.set_cons_zero,List.set_cons_succ,i64_w,i32_w]
   rfl
  refine take_ (i:=0) (N:=some 10) (v:=?_) (a':=?_) #[true,true,false] rfl rfl (by kernel_rfl) (fun _ _ _ h=>h) (Or.inl ⟨by rfl,?_⟩) hHeld ?_ ?_
  rotate_left
  ·rintro w' ⟨s0,s1,s2⟩
   go_simp
   with_reducible rfl
  rotate_left
  ·simp only [Act.put,List.setIfInBounds_toArray,List.set_cons_zero,List.set_cons_succ,i64_w,i32_w]
   rfl
  refine one_ (i:=2) (N:=none) #[true,true,true] rfl rfl (by kernel_rfl) (by decide) (fun K hK=>?_)
  have hs37:w36.cell? ⟨gb104,0,none⟩=some (.string (⟨#[]⟩:ByteArray)):=(blk_cell BK104.out 0).trans rfl
  have hfs37:=blk_frozen BK104.out 0
  have hns37_0:=NB103_104.out
  have hms37_0:=NB104_103.out
  have hs38:w36.cell? ⟨gb104,1,none⟩=some (.int .i64 0):=(blk_cell BK104.out 1).trans rfl
  have hfs38:=blk_frozen BK104.out 1
  have hns38_0:=NB103_104.out
  have hms38_0:=NB104_103.out
  have hs39:w36.cell? ⟨gb104,2,none⟩=some (.int .i64 0):=(blk_cell BK104.out 2).trans rfl
  have hfs39:=blk_frozen BK104.out 2
  have hns39_0:=NB103_104.out
  have hms39_0:=NB104_103.out
  refine skip_ (w1:=?_) (by rfl) rfl ?_ ?_
  rotate_left
  ·go_simp
   rfl
  refine hK.out _ _ ⟨((cell_far (p:=⟨gb104,_,none⟩) NB103_104.out _).trans (((cell_far (p:=⟨gb104,_,none⟩) NB103_104.out _).trans (((cell_far (p:=⟨gb104,_,none⟩) NB103_104.out _).trans (hHeld.1)))))),((cell_far (p:=⟨gb104,_,none⟩) NB103_104.out _).trans (((cell_far (p:=⟨gb104,_,none⟩) NB103_104.out _).trans (((cell_far (p:=⟨gb104,_,none⟩) NB103_104.out _).trans (hHeld.2.1)))))),((cell_far (p:=⟨gb104,_,none⟩) NB103_104.out _).trans (((cell_far (p:=⟨gb104,_,none⟩) NB103_104.out _).trans (((cell_far (p:=⟨gb104,_,none⟩) NB103_104.out _).trans (hHeld.2.2))))))⟩ (fun hHeld=>?_)
  clear hK K
  refine done_ (by kernel_rfl) ?_
  try go_wp2
  refine bodyPost_ret (results_tc rfl _ _ gb104 31 #[.string a0_0,.int .i64 a0_1,.int .i64 a0_2] (0,0) _ rfl (by (with_reducible repeat (first|refine blk_drewN ?_ _|refine blk_drew ?_|refine blk_alloc ?_ _));refine blk_put (cs:=#[.string a0_0,.int .i64 a0_1,.int .i64 0]) ?_ 2 _ rfl;(with_reducible repeat (first|refine blk_drewN ?_ _|refine blk_drew ?_|refine blk_alloc ?_ _));refine blk_put (cs:=#[.string a0_0,.int .i64 0,.int .i64 0]) ?_ 1 _ rfl;(with_reducible repeat (first|refine blk_drewN ?_ _|refine blk_drew ?_|refine blk_alloc ?_ _));refine blk_put (cs:=#[.string (⟨#[]⟩:ByteArray),.int .i64 0,.int .i64 0]) ?_ 0 _ rfl;(with_reducible repeat (first|refine blk_drewN ?_ _|refine blk_drew ?_|refine blk_alloc ?_ _));exact BK104.out) Tryd.underlying31 rfl (by kernel_rfl)) rfl ?_
  exact ⟨by first|rfl|(simp [errW_none,errW_some] <;> rfl)|(simp [*,errW_none,errW_some] <;> rfl),by repeat (first|(with_reducible first|exact HB.out|apply below_alloc|apply pw_below_drewN|apply below_drew1|refine below_set ?_ GE103.out|refine below_set ?_ GE104.out)|exact HB.out)⟩
def spec_l1Byte.f (a0:Int):Option (ByteArray):=some (strOfNums (([(a0) % 256]:List Int)))
set_option maxHeartbeats 8000000 in
set_option maxRecDepth 100000 in
theorem spec_l1Byte.calls (a0:Int) (r:ByteArray) (w:World) (h:spec_l1Byte.f a0=some r) :
  Calls Tryd.prog 74 #[.int .i64 a0] w fun e w'=>e=.returned (.string r)∧Below w.heap.size w w':=by
 have HB:=Ak (Below.refl w.heap.size w)
 have H:(some (strOfNums (([(a0) % 256]:List Int))))=some r:=h
 clear h
 obtain ⟨y111,hy111⟩:∃ y_:List Int,y_=(([(a0) % 256]:List Int)):=⟨_,rfl⟩
 replace H:(some (strOfNums y111))=some r:=by first|(rw [hy111];with_reducible exact H)|(have H2_:=(Option.bind_some _ _).symm.trans H;rw [hy111];with_reducible exact H2_)|(have H2_:=(Option.bind_some _ _).symm.trans H;with_reducible exact H2_)|with_reducible exact H|(rw [hy111];exact H)|exact H
 have Ny111:=Ak hy111;clear hy111
 obtain rfl:=Option.some.inj H
 go_enter Tryd.func74,Tryd.ntmps74
 go_wp2_with (first|((with_reducible refine gate_dst (N:=5) rfl ?_);refine Kd.R_lit (Kd.int .u8) _ 5 ?hg (N:=5) ?hd (xs:=([(a0) % 256]:List Int)) (inner:=[.int .u8 ((a0) % 256)]) (ok:=fun _=>True) (okp:=fun _=>True) ?hr ?hp (fun _ hk=>hk) trivial (Below.refl _ _) (Nat.le_refl _) (by simp) ?_;(case hd=>rfl);(case hg=>rfl);(case hr=>first|(go_simp;done)|(go_simp;rfl));(case hp=>exact (Reps.one (show Kd.M (Kd.int .u8) _ _ _ ((a0) % 256) [.int .u8 ((a0) % 256)] from rfl) (Reps.none _ _)));intro v112 w2 ho3 hb hg_ hnew_;clear hg_ hnew_;(first|rw [← Ny111.out] at ho3|(simp only [Int.reduceToNat] at ho3;rw [← Ny111.out] at ho3));have n0_:=Ak (Kd.R_lower ho3 (below_size (by repeat (first|(with_reducible first|exact HB.out|apply below_alloc|apply pw_below_drewN|apply below_drew1)|exact HB.out))));have n1_:=Ak (below_step (by repeat (first|(with_reducible first|exact HB.out|apply below_alloc|apply pw_below_drewN|apply below_drew1)|exact HB.out)) hb);clear HB;have HO113:=n0_;have HB:=n1_;clear n0_ n1_;clear hb ho3;have hcv4:=own_string (P:=Tryd.prog) Tryd.underlying129 Tryd.underlying5 Tryd.underlying9 (Kd.own_of_R HO113.out)))
 go_ret
 exact ⟨by first|rfl|(simp [errW_none,errW_some] <;> rfl)|(simp [*,errW_none,errW_some] <;> rfl),by repeat (first|(with_reducible first|exact HB.out|apply below_alloc|apply pw_below_drewN|apply below_drew1)|exact HB.out)⟩
mutual
def spec_PutVarint.j0:Nat→Int→Bool→Option (ByteArray)
 | 0,_,_=>none
 | k+1,x0,x8=>if x8=true then (some (⟨#[]⟩:ByteArray)) else (if x0<128 then ((spec_l1Byte.f x0).bind fun t114=>(some t114)) else ((spec_l1Byte.f (wrap64 ((Int.tmod x0 128)+128))).bind fun t115=>((spec_PutVarint.f k (wrap64 (Int.tdiv x0 128))).bind fun t116=>(if t115.size+t116.size≤9223372036854775807 then (some (t115++t116)) else (none)))))
def spec_PutVarint.f:Nat→Int→Option (ByteArray)
 | 0,_=>none
 | k+1,a0=>if a0<0 then (spec_PutVarint.j0 k a0 true) else (spec_PutVarint.j0 k a0 (decide (a0 > 16777215)))
end
set_option maxHeartbeats 8000000 in
set_option maxRecDepth 100000 in
theorem spec_PutVarint.calls (k:Nat):∀ (a0:Int) (r:ByteArray) (w:World) (h:spec_PutVarint.f k a0=some r),
  Calls Tryd.prog 71 #[.int .i64 a0] w fun e w'=>e=.returned (.string r)∧Below w.heap.size w w':=by
 induction k using Nat.strongRecOn with
 | _ k ih =>
 intro a0 r w h
 cases k with
 | zero=>exact absurd h (by simp [spec_PutVarint.f])
 | succ k =>
 simp only [spec_PutVarint.f] at h
 have HB:=Ak (Below.refl w.heap.size w)
 have H:(if a0<0 then (spec_PutVarint.j0 k a0 true) else (spec_PutVarint.j0 k a0 (decide (a0 > 16777215))))=some r:=h
 clear h;have HC2:=Ak H;clear H
 go_enter Tryd.func71,Tryd.ntmps71
 go_upto_region 1 with (fail)
 go_cut [8] (fun v8 wc=>∃ (kq:Nat) (x8_1:Bool),v8=.bool x8_1∧Aside0 (spec_PutVarint.j0 kq a0 x8_1=some r)∧Aside0 (kq≤k)∧Aside0 (Below w.heap.size w wc))
 case first =>
  have H:=HC2.out
  clear HC2
  by_cases c3:a0<0
  ·rw [if_pos c3] at H
   have c3b0:decide (a0<0)=true:=decide_eq_true c3
   clear c3
   (first|rw [c3b0]|(simp only [i64_w,i32_w];rw [c3b0])|skip)
   have H':=Ak H
   clear H
   go_wp2
   go_meet
   case rel=>exact ⟨_,(true),(by first|rfl|(simp;done)|(simp [*];done)),H',⟨by first|omega|exact Nat.le_refl _⟩,⟨by repeat (first|(with_reducible first|exact HB.out|apply below_alloc|apply pw_below_drewN|apply below_drew1)|exact HB.out)⟩⟩
  ·rw [if_neg c3] at H
   have c3b0:decide (a0<0)=false:=decide_eq_false c3
   clear c3
   (first|rw [c3b0]|(simp only [i64_w,i32_w];rw [c3b0])|skip)
   have H':=Ak H
   clear H
   go_wp2
   go_meet
   case rel=>exact ⟨_,(decide (a0 > 16777215)),(by first|rfl|(simp;done)|(simp [*];done)),H',⟨by first|omega|exact Nat.le_refl _⟩,⟨by repeat (first|(with_reducible first|exact HB.out|apply below_alloc|apply pw_below_drewN|apply below_drew1)|exact HB.out)⟩⟩
 case rest =>
  clear HC2;(try clear p2);(try clear c3);(try clear c3b0)
  obtain ⟨kq,x8_1,rfl,HA,HJ1,HB⟩:=hcut
  cases kq with
  | zero=>exact absurd HA.out (by simp [spec_PutVarint.j0])
  | succ kj1 =>
   have H:=HA.out
   clear HA
   simp only [spec_PutVarint.j0] at H
   by_cases c4:x8_1=true
   ·subst c4
    have H1:(some (⟨#[]⟩:ByteArray))=some r:=by rw [if_pos rfl] at H;exact H
    clear H;have H:=H1;clear H1
    obtain rfl:=Option.some.inj H
    go_wp2
    go_ret
    exact ⟨by first|rfl|(simp [errW_none,errW_some] <;> rfl)|(simp [*,errW_none,errW_some] <;> rfl),by repeat (first|(with_reducible first|exact HB.out|apply below_alloc|apply pw_below_drewN|apply below_drew1)|exact HB.out)⟩
   ·replace c4:=Bool.eq_false_iff.mpr c4
    subst c4
    have H1:(if a0<128 then ((spec_l1Byte.f a0).bind fun t114=>(some t114)) else ((spec_l1Byte.f (wrap64 ((Int.tmod a0 128)+128))).bind fun t115=>((spec_PutVarint.f kj1 (wrap64 (Int.tdiv a0 128))).bind fun t116=>(if t115.size+t116.size≤9223372036854775807 then (some (t115++t116)) else (none)))))=some r:=by rw [if_neg (show ¬ (false=true) by decide)] at H;exact H
    clear H;have H:=H1;clear H1
    by_cases c5:a0<128
    ·rw [if_pos c5] at H
     have c5b0:decide (a0<128)=true:=decide_eq_true c5
     clear c5
     replace H:=Option.bind_eq_some_iff.mp H
     obtain ⟨t114,A60,H⟩:=H
     replace H:(some t114)=some r:=H
     have A6:=Ak A60;clear A60
     obtain rfl:=Option.some.inj H
     go_wp2_with (first|((with_reducible refine gate_callee (f:=74) rfl ?_);refine goesL_ (some 12) rfl rfl Tryd.func74 (by kernel_rfl) rfl #[.int .i64 a0] rfl (by (try simp only [List.map_toArray,List.map_cons,List.map_nil]);first|done|rfl|(simp only [List.length_drop,List.length_take];rfl)) ?_;(with_reducible refine (spec_l1Byte.calls a0 t114 _ A6.out).mono ?_);rintro e w7 ⟨rfl,hb⟩;refine ⟨_,rfl,?_⟩;have n0_:=Ak (below_step (by repeat (first|(with_reducible first|exact HB.out|apply below_alloc|apply pw_below_drewN|apply below_drew1)|exact HB.out)) hb);clear HB;have HB:=n0_;clear n0_;(try clear hb);(try clear hb2);(try clear hk);(try clear hi)))
     go_ret
     exact ⟨by first|rfl|(simp [errW_none,errW_some] <;> rfl)|(simp [*,errW_none,errW_some] <;> rfl),by repeat (first|(with_reducible first|exact HB.out|apply below_alloc|apply pw_below_drewN|apply below_drew1)|exact HB.out)⟩
    ·rw [if_neg c5] at H
     have c5b0:decide (a0<128)=false:=decide_eq_false c5
     clear c5
     replace H:=Option.bind_eq_some_iff.mp H
     obtain ⟨t115,A80,H⟩:=H
     replace H:((spec_PutVarint.f kj1 (wrap64 (Int.tdiv a0 128))).bind fun t116=>(if t115.size+t116.size≤9223372036854775807 then (some (t115++t116)) else (none)))=some r:=H
     have A8:=Ak A80;clear A80
     replace H:=Option.bind_eq_some_iff.mp H
     obtain ⟨t116,A90,H⟩:=H
     replace H:(if t115.size+t116.size≤9223372036854775807 then (some (t115++t116)) else (none))=some r:=H
     have A9:=Ak A90;clear A90
     by_cases c10:t115.size+t116.size≤9223372036854775807
     ·rw [if_pos c10] at H
      have c10b0:=eq_true c10
      have c10b1:decide (t115.size+t116.size≤9223372036854775807)=true:=decide_eq_true c10
      try have c10b2:(9223372036854775807<t115.size+t116.size)=False:=eq_false (Nat.not_lt.2 c10)
      obtain rfl:=Option.some.inj H
      go_wp2_with (first|((with_reducible refine gate_callee (f:=74) rfl ?_);refine goesL_ (some 16) rfl rfl Tryd.func74 (by kernel_rfl) rfl #[.int .i64 (wrap64 ((Int.tmod a0 128)+128))] rfl (by (try simp only [List.map_toArray,List.map_cons,List.map_nil]);first|done|rfl|(simp only [List.length_drop,List.length_take];rfl)) ?_;(with_reducible refine (spec_l1Byte.calls (wrap64 ((Int.tmod a0 128)+128)) t115 _ A8.out).mono ?_);rintro e w11 ⟨rfl,hb⟩;refine ⟨_,rfl,?_⟩;have n0_:=Ak (below_step (by repeat (first|(with_reducible first|exact HB.out|apply below_alloc|apply pw_below_drewN|apply below_drew1)|exact HB.out)) hb);clear HB;have HB:=n0_;clear n0_;(try clear hb);(try clear hb2);(try clear hk);(try clear hi))|((with_reducible refine gate_callee (f:=71) rfl ?_);refine goesL_ (some 19) rfl rfl Tryd.func71 (by kernel_rfl) rfl #[.int .i64 (wrap64 (Int.tdiv a0 128))] rfl (by (try simp only [List.map_toArray,List.map_cons,List.map_nil]);first|done|rfl|(simp only [List.length_drop,List.length_take];rfl)) ?_;(with_reducible refine (ih kj1 (by have:=HJ1.out;omega) (wrap64 (Int.tdiv a0 128)) t116 _ A9.out).mono ?_);rintro e w12 ⟨rfl,hb⟩;refine ⟨_,rfl,?_⟩;have n0_:=Ak (below_step (by repeat (first|(with_reducible first|exact HB.out|apply below_alloc|apply pw_below_drewN|apply below_drew1)|exact HB.out)) hb);clear HB;have HB:=n0_;clear n0_;(try clear hb);(try clear hb2);(try clear hk);(try clear hi)))
      go_ret
      exact ⟨by first|rfl|(simp [errW_none,errW_some] <;> rfl)|(simp [*,errW_none,errW_some] <;> rfl),by repeat (first|(with_reducible first|exact HB.out|apply below_alloc|apply pw_below_drewN|apply below_drew1)|exact HB.out)⟩
     ·rw [if_neg c10] at H
      exact absurd H (by simp)
mutual
def spec_GetVarint.j0:Nat→ByteArray→Int→Bool→Option (Int×Int×Bool)
 | 0,_,_,_=>none
 | k+1,x0,x1,x17=>if x17=true then (some (0,0,false)) else (spec_GetVarint.l0 k x0 x1 0 1 0)
def spec_GetVarint.l0:Nat→ByteArray→Int→Int→Int→Int→Option (Int×Int×Bool)
 | 0,_,_,_,_,_=>none
 | k+1,x0,x1,x7,x8,x9=>if x9<4 then (spec_GetVarint.j2 k x0 x1 x7 x8 x9 (decide ((wrap64 (x1+x9))<(x0.size:Int)))) else (spec_GetVarint.j2 k x0 x1 x7 x8 x9 false)
def spec_GetVarint.j2:Nat→ByteArray→Int→Int→Int→Int→Bool→Option (Int×Int×Bool)
 | 0,_,_,_,_,_,_=>none
 | k+1,x0,x1,x7,x8,x9,x27=>if x27=true then (if 0≤(wrap64 (x1+x9)) then (if (wrap64 (x1+x9))<(x0.size:Int) then (if (bt x0 (wrap64 (x1+x9)))<128 then ((spec_PutVarint.f k (wrap64 (x7+(wrap64 ((wrap64 (Int.tmod (bt x0 (wrap64 (x1+x9))) 128))*x8))))).bind fun t117=>(if (t117.size:Int)=(wrap64 (x9+1)) then (some (wrap64 (x7+(wrap64 ((wrap64 (Int.tmod (bt x0 (wrap64 (x1+x9))) 128))*x8))),wrap64 ((wrap64 (x1+x9))+1),true)) else (some (0,0,false)))) else (spec_GetVarint.l0 k x0 x1 (wrap64 (x7+(wrap64 ((wrap64 (Int.tmod (bt x0 (wrap64 (x1+x9))) 128))*x8)))) (wrap64 (x8*128)) (wrap64 (x9+1)))) else (none)) else (none)) else (some (0,0,false))
end
def spec_GetVarint.f (k:Nat) (a0:ByteArray) (a1:Int):Option (Int×Int×Bool):=if a1<0 then (spec_GetVarint.j0 k a0 a1 true) else (spec_GetVarint.j0 k a0 a1 (decide (a1 > (a0.size:Int))))
set_option maxHeartbeats 8000000 in
set_option maxRecDepth 100000 in
theorem spec_GetVarint.calls (k:Nat) (a0:ByteArray) (a1:Int) (r1:Int) (r2:Int) (r3:Bool) (w:World) (h:spec_GetVarint.f k a0 a1=some (r1,r2,r3)) :
  Calls Tryd.prog 55 #[.string a0,.int .i64 a1] w fun e w'=>e=.returned (.tuple #[.int .i64 r1,.int .i64 r2,.bool r3])∧Below w.heap.size w w':=by
 have HB:=Ak (Below.refl w.heap.size w)
 have H:(if a1<0 then (spec_GetVarint.j0 k a0 a1 true) else (spec_GetVarint.j0 k a0 a1 (decide (a1 > (a0.size:Int)))))=some (r1,r2,r3):=h
 clear h;have HC3:=Ak H;clear H
 go_enter Tryd.func55,Tryd.ntmps55
 go_upto_region 1 with (fail)
 go_cut [17] (fun v17 wc=>∃ (kq:Nat) (x17_2:Bool),v17=.bool x17_2∧Aside0 (spec_GetVarint.j0 kq a0 a1 x17_2=some (r1,r2,r3))∧Aside0 (kq≤k)∧Aside0 (Below w.heap.size w wc))
 case first =>
  have H:=HC3.out
  clear HC3
  by_cases c4:a1<0
  ·rw [if_pos c4] at H
   have c4b0:decide (a1<0)=true:=decide_eq_true c4
   clear c4
   (first|rw [c4b0]|(simp only [i64_w,i32_w];rw [c4b0])|skip)
   have H':=Ak H
   clear H
   go_wp2
   go_meet
   case rel=>exact ⟨_,(true),(by first|rfl|(simp;done)|(simp [*];done)),H',⟨by first|omega|exact Nat.le_refl _⟩,⟨by repeat (first|(with_reducible first|exact HB.out|apply below_alloc|apply pw_below_drewN|apply below_drew1)|exact HB.out)⟩⟩
  ·rw [if_neg c4] at H
   have c4b0:decide (a1<0)=false:=decide_eq_false c4
   clear c4
   (first|rw [c4b0]|(simp only [i64_w,i32_w];rw [c4b0])|skip)
   have H':=Ak H
   clear H
   go_wp2
   go_meet
   case rel=>exact ⟨_,(decide (a1 > (a0.size:Int))),(by first|rfl|(simp;done)|(simp [*];done)),H',⟨by first|omega|exact Nat.le_refl _⟩,⟨by repeat (first|(with_reducible first|exact HB.out|apply below_alloc|apply pw_below_drewN|apply below_drew1)|exact HB.out)⟩⟩
 case rest =>
  clear HC3;(try clear p2);(try clear c4);(try clear c4b0)
  obtain ⟨kq,x17_2,rfl,HA,HJ2,HB⟩:=hcut
  cases kq with
  | zero=>exact absurd HA.out (by simp [spec_GetVarint.j0])
  | succ kj2 =>
   have H:=HA.out
   clear HA
   simp only [spec_GetVarint.j0] at H
   by_cases c5:x17_2=true
   ·subst c5
    have H1:(some (0,0,false))=some (r1,r2,r3):=by rw [if_pos rfl] at H;exact H
    clear H;have H:=H1;clear H1
    simp only [Option.some.injEq,Prod.mk.injEq] at H
    obtain ⟨rfl,rfl,rfl⟩:=H
    go_wp2
    go_ret3
    exact ⟨by first|rfl|(simp [errW_none,errW_some] <;> rfl)|(simp [*,errW_none,errW_some] <;> rfl),by repeat (first|(with_reducible first|exact HB.out|apply below_alloc|apply pw_below_drewN|apply below_drew1)|exact HB.out)⟩
   ·replace c5:=Bool.eq_false_iff.mpr c5
    subst c5
    have H1:(spec_GetVarint.l0 kj2 a0 a1 0 1 0)=some (r1,r2,r3):=by rw [if_neg (show ¬ (false=true) by decide)] at H;exact H
    clear H;have H:=H1;clear H1
    have H':=Ak H
    clear H
    go_wp2
    go_loopg [7,8,9] kj2 (fun kq v7 v8 v9 w'=>∃ (x7_2:Int) (x8_2:Int) (x9_2:Int),v7=.int .i64 x7_2∧v8=.int .i64 x8_2∧v9=.int .i64 x9_2∧Aside0 (spec_GetVarint.l0 kq a0 a1 x7_2 x8_2 x9_2=some (r1,r2,r3))∧Aside0 (kq≤kj2)∧Aside0 (Below w.heap.size w w'))
    case atStart=>exact ⟨(0),(1),(0),(by first|rfl|(simp;done)|(simp [*];done)),(by first|rfl|(simp;done)|(simp [*];done)),(by first|rfl|(simp;done)|(simp [*];done)),H',⟨Nat.le_refl _⟩,⟨by repeat (first|(with_reducible first|exact HB.out|apply below_alloc|apply pw_below_drewN|apply below_drew1)|exact HB.out)⟩⟩
    case round =>
     clear H';(try clear p2);(try clear c4);(try clear c4b0);(try clear c5);(try clear p2)
     obtain ⟨x7_2,x8_2,x9_2,rfl,rfl,rfl,HA,HK2,HB⟩:=hrel
     cases gk with
     | zero=>exact absurd HA.out (by simp [spec_GetVarint.l0])
     | succ k2 =>
      have H:=HA.out
      clear HA
      simp only [spec_GetVarint.l0] at H
      have HC6:=Ak H;clear H
      go_upto_region 6 with (fail)
      go_cut [27] (fun v27 wc=>∃ (kq:Nat) (x27_5:Bool),v27=.bool x27_5∧Aside0 (spec_GetVarint.j2 kq a0 a1 x7_2 x8_2 x9_2 x27_5=some (r1,r2,r3))∧Aside0 (kq≤k2)∧Aside0 (Below w.heap.size w wc))
      case first =>
       have H:=HC6.out
       clear HC6
       by_cases c7:x9_2<4
       ·rw [if_pos c7] at H
        have c7b0:decide (x9_2<4)=true:=decide_eq_true c7
        clear c7
        (first|rw [c7b0]|(simp only [i64_w,i32_w];rw [c7b0])|skip)
        have H':=Ak H
        clear H
        go_wp2
        go_meet
        case rel=>exact ⟨_,(decide ((wrap64 (a1+x9_2))<(a0.size:Int))),(by first|rfl|(simp;done)|(simp [*];done)),H',⟨by have:=HJ2.out;have:=HK2.out;first|omega|exact Nat.le_refl _⟩,⟨by repeat (first|(with_reducible first|exact HB.out|apply below_alloc|apply pw_below_drewN|apply below_drew1)|exact HB.out)⟩⟩
       ·rw [if_neg c7] at H
        have c7b0:decide (x9_2<4)=false:=decide_eq_false c7
        clear c7
        (first|rw [c7b0]|(simp only [i64_w,i32_w];rw [c7b0])|skip)
        have H':=Ak H
        clear H
        go_wp2
        go_meet
        case rel=>exact ⟨_,(false),(by first|rfl|(simp;done)|(simp [*];done)),H',⟨by have:=HJ2.out;have:=HK2.out;first|omega|exact Nat.le_refl _⟩,⟨by repeat (first|(with_reducible first|exact HB.out|apply below_alloc|apply pw_below_drewN|apply below_drew1)|exact HB.out)⟩⟩
      case rest =>
       clear HC6;(try clear p2);(try clear c4);(try clear c4b0);(try clear c5);(try clear p6);(try clear c7);(try clear c7b0);(try clear p2)
       obtain ⟨kq,x27_5,rfl,HA,HJ5,HB⟩:=hcut
       cases kq with
       | zero=>exact absurd HA.out (by simp [spec_GetVarint.j2])
       | succ kj5 =>
        have H:=HA.out
        clear HA
        simp only [spec_GetVarint.j2] at H
        by_cases c8:x27_5=true
        ·subst c8
         have H1:(if 0≤(wrap64 (a1+x9_2)) then (if (wrap64 (a1+x9_2))<(a0.size:Int) then (if (bt a0 (wrap64 (a1+x9_2)))<128 then ((spec_PutVarint.f kj5 (wrap64 (x7_2+(wrap64 ((wrap64 (Int.tmod (bt a0 (wrap64 (a1+x9_2))) 128))*x8_2))))).bind fun t117=>(if (t117.size:Int)=(wrap64 (x9_2+1)) then (some (wrap64 (x7_2+(wrap64 ((wrap64 (Int.tmod (bt a0 (wrap64 (a1+x9_2))) 128))*x8_2))),wrap64 ((wrap64 (a1+x9_2))+1),true)) else (some (0,0,false)))) else (spec_GetVarint.l0 kj5 a0 a1 (wrap64 (x7_2+(wrap64 ((wrap64 (Int.tmod (bt a0 (wrap64 (a1+x9_2))) 128))*x8_2)))) (wrap64 (x8_2*128)) (wrap64 (x9_2+1)))) else (none)) else (none))=some (r1,r2,r3):=by rw [if_pos rfl] at H;exact H
         clear H;have H:=H1;clear H1
         obtain ⟨ji9,hji9⟩:∃ j_:Int,(wrap64 (a1+x9_2))=j_:=⟨_,rfl⟩
         replace H:(if 0≤(ji9) then (if (ji9)<(a0.size:Int) then (if (bt a0 (ji9))<128 then ((spec_PutVarint.f kj5 (wrap64 (x7_2+(wrap64 ((wrap64 (Int.tmod (bt a0 (ji9)) 128))*x8_2))))).bind fun t117=>(if (t117.size:Int)=(wrap64 (x9_2+1)) then (some (wrap64 (x7_2+(wrap64 ((wrap64 (Int.tmod (bt a0 (ji9)) 128))*x8_2))),wrap64 ((ji9)+1),true)) else (some (0,0,false)))) else (spec_GetVarint.l0 kj5 a0 a1 (wrap64 (x7_2+(wrap64 ((wrap64 (Int.tmod (bt a0 (ji9)) 128))*x8_2)))) (wrap64 (x8_2*128)) (wrap64 (x9_2+1)))) else (none)) else (none))=some (r1,r2,r3):=by first|(rw [hji9] at H;exact H)|(simp only [hji9] at H ⊢;exact H)
         have hji9w:(IntKind.i64.wrap (a1+x9_2))=ji9:=(i64_w _).trans hji9
         by_cases c10:0≤(ji9)
         ·rw [if_pos c10] at H
          have c10b0:decide (0≤(ji9))=true:=decide_eq_true c10
          clear c10
          by_cases c11:(ji9)<(a0.size:Int)
          ·rw [if_pos c11] at H
           have c11b0:decide ((ji9)<(a0.size:Int))=true:=decide_eq_true c11
           clear c11
           by_cases c14:(bt a0 (ji9))<128
           ·rw [if_pos c14] at H
            have c14b0:decide ((bt a0 (ji9))<128)=true:=decide_eq_true c14
            clear c14
            replace H:=Option.bind_eq_some_iff.mp H
            obtain ⟨t117,A150,H⟩:=H
            replace H:(if (t117.size:Int)=(wrap64 (x9_2+1)) then (some (wrap64 (x7_2+(wrap64 ((wrap64 (Int.tmod (bt a0 (ji9)) 128))*x8_2))),wrap64 ((ji9)+1),true)) else (some (0,0,false)))=some (r1,r2,r3):=H
            have A15:=Ak A150;clear A150
            by_cases c16:(t117.size:Int)=(wrap64 (x9_2+1))
            ·rw [if_pos c16] at H
             have c16b0:((t117.size:Int) == (wrap64 (x9_2+1)))=true:=beq_iff_eq.mpr c16
             have c16b1:((t117.size:Int) != (wrap64 (x9_2+1)))=false:=bne_eq_false_iff_eq.mpr c16
             clear c16
             simp only [Option.some.injEq,Prod.mk.injEq] at H
             obtain ⟨rfl,rfl,rfl⟩:=H
             have p12:0≤((ji9):Int):=of_decide_eq_true (by first|(with_reducible assumption)|assumption)
             have q12:(ji9)<(a0.size:Int):=of_decide_eq_true (by first|(with_reducible assumption)|assumption)
             have hx12:=bt_at a0 (ji9)
             replace p12:=eq_true p12
             replace q12:=eq_true q12
             have p13:0≤((ji9):Int):=of_decide_eq_true (by first|(with_reducible assumption)|assumption)
             have q13:(ji9)<(a0.size:Int):=of_decide_eq_true (by first|(with_reducible assumption)|assumption)
             have hx13:=bt_at a0 (ji9)
             replace p13:=eq_true p13
             replace q13:=eq_true q13
             go_wp2_with (first|((with_reducible refine gate_callee (f:=71) rfl ?_);refine goesL_ (some 50) rfl rfl Tryd.func71 (by kernel_rfl) rfl #[.int .i64 (wrap64 (x7_2+(wrap64 ((wrap64 (Int.tmod (bt a0 (ji9)) 128))*x8_2))))] rfl (by (try simp only [List.map_toArray,List.map_cons,List.map_nil]);first|done|(simp only [hji9];rfl)|rfl|(simp only [List.length_drop,List.length_take];rfl)) ?_;(with_reducible refine (spec_PutVarint.calls kj5 (wrap64 (x7_2+(wrap64 ((wrap64 (Int.tmod (bt a0 (ji9)) 128))*x8_2)))) t117 _ A15.out).mono ?_);rintro e w17 ⟨rfl,hb⟩;refine ⟨_,rfl,?_⟩;have n0_:=Ak (below_step (by repeat (first|(with_reducible first|exact HB.out|apply below_alloc|apply pw_below_drewN|apply below_drew1)|exact HB.out)) hb);clear HB;have HB:=n0_;clear n0_;(try clear hb);(try clear hb2);(try clear hk);(try clear hi)))
             go_ret3
             exact ⟨by first|rfl|(simp [errW_none,errW_some] <;> rfl)|(simp only [← hji9];first|rfl|(simp [errW_none,errW_some] <;> rfl))|(simp [*,errW_none,errW_some] <;> rfl),by repeat (first|(with_reducible first|exact HB.out|apply below_alloc|apply pw_below_drewN|apply below_drew1)|exact HB.out)⟩
            ·rw [if_neg c16] at H
             have c16b0:((t117.size:Int) == (wrap64 (x9_2+1)))=false:=beq_eq_false_iff_ne.mpr c16
             have c16b1:((t117.size:Int) != (wrap64 (x9_2+1)))=true:=bne_iff_ne.mpr c16
             simp only [Option.some.injEq,Prod.mk.injEq] at H
             obtain ⟨rfl,rfl,rfl⟩:=H
             have p12:0≤((ji9):Int):=of_decide_eq_true (by first|(with_reducible assumption)|assumption)
             have q12:(ji9)<(a0.size:Int):=of_decide_eq_true (by first|(with_reducible assumption)|assumption)
             have hx12:=bt_at a0 (ji9)
             replace p12:=eq_true p12
             replace q12:=eq_true q12
             have p13:0≤((ji9):Int):=of_decide_eq_true (by first|(with_reducible assumption)|assumption)
             have q13:(ji9)<(a0.size:Int):=of_decide_eq_true (by first|(with_reducible assumption)|assumption)
             have hx13:=bt_at a0 (ji9)
             replace p13:=eq_true p13
             replace q13:=eq_true q13
             go_wp2_with (first|((with_reducible refine gate_callee (f:=71) rfl ?_);refine goesL_ (some 50) rfl rfl Tryd.func71 (by kernel_rfl) rfl #[.int .i64 (wrap64 (x7_2+(wrap64 ((wrap64 (Int.tmod (bt a0 (ji9)) 128))*x8_2))))] rfl (by (try simp only [List.map_toArray,List.map_cons,List.map_nil]);first|done|(simp only [hji9];rfl)|rfl|(simp only [List.length_drop,List.length_take];rfl)) ?_;(with_reducible refine (spec_PutVarint.calls kj5 (wrap64 (x7_2+(wrap64 ((wrap64 (Int.tmod (bt a0 (ji9)) 128))*x8_2)))) t117 _ A15.out).mono ?_);rintro e w18 ⟨rfl,hb⟩;refine ⟨_,rfl,?_⟩;have n0_:=Ak (below_step (by repeat (first|(with_reducible first|exact HB.out|apply below_alloc|apply pw_below_drewN|apply below_drew1)|exact HB.out)) hb);clear HB;have HB:=n0_;clear n0_;(try clear hb);(try clear hb2);(try clear hk);(try clear hi)))
             go_ret3
             exact ⟨by first|rfl|(simp [errW_none,errW_some] <;> rfl)|(simp only [← hji9];first|rfl|(simp [errW_none,errW_some] <;> rfl))|(simp [*,errW_none,errW_some] <;> rfl),by repeat (first|(with_reducible first|exact HB.out|apply below_alloc|apply pw_below_drewN|apply below_drew1)|exact HB.out)⟩
           ·rw [if_neg c14] at H
            have c14b0:decide ((bt a0 (ji9))<128)=false:=decide_eq_false c14
            clear c14
            have H':=Ak H
            clear H
            have p12:0≤((ji9):Int):=of_decide_eq_true (by first|(with_reducible assumption)|assumption)
            have q12:(ji9)<(a0.size:Int):=of_decide_eq_true (by first|(with_reducible assumption)|assumption)
            have hx12:=bt_at a0 (ji9)
            replace p12:=eq_true p12
            replace q12:=eq_true q12
            have p13:0≤((ji9):Int):=of_decide_eq_true (by first|(with_reducible assumption)|assumption)
            have q13:(ji9)<(a0.size:Int):=of_decide_eq_true (by first|(with_reducible assumption)|assumption)
            have hx13:=bt_at a0 (ji9)
            replace p13:=eq_true p13
            replace q13:=eq_true q13
            go_wp2
            go_roundg kj5
            case measure=>have:=HJ2.out;have:=HK2.out;have:=HJ5.out;omega
            case rel=>exact ⟨(wrap64 (x7_2+(wrap64 ((wrap64 (Int.tmod (bt a0 (ji9)) 128))*x8_2)))),(wrap64 (x8_2*128)),(wrap64 (x9_2+1)),(by first|rfl|(simp;done)|(simp only [← hji9] <;> (first|rfl|simp))|(simp [*];done)),(by first|rfl|(simp;done)|(simp [*];done)),(by first|rfl|(simp;done)|(simp [*];done)),H',⟨by have:=HJ2.out;have:=HK2.out;have:=HJ5.out;omega⟩,⟨by repeat (first|(with_reducible first|exact HB.out|apply below_alloc|apply pw_below_drewN|apply below_drew1)|exact HB.out)⟩⟩
          ·rw [if_neg c11] at H
           exact absurd H (by simp)
         ·rw [if_neg c10] at H
          exact absurd H (by simp)
        ·replace c8:=Bool.eq_false_iff.mpr c8
         subst c8
         have H1:(some (0,0,false))=some (r1,r2,r3):=by rw [if_neg (show ¬ (false=true) by decide)] at H;exact H
         clear H;have H:=H1;clear H1
         simp only [Option.some.injEq,Prod.mk.injEq] at H
         obtain ⟨rfl,rfl,rfl⟩:=H
         go_wp2
         go_ret3
         exact ⟨by first|rfl|(simp [errW_none,errW_some] <;> rfl)|(simp [*,errW_none,errW_some] <;> rfl),by repeat (first|(with_reducible first|exact HB.out|apply below_alloc|apply pw_below_drewN|apply below_drew1)|exact HB.out)⟩
end Go.Proofs.YtiekodnojmkfaaaDoor.PFnExactLoad
