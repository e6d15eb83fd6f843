-- Printed by the kit's print or by this session's program, then cut and tightened by it.
import Derived.Test.YtiekodnojmkfaaaDoorPFnExactLoadx0
import Derived.Test.YtiekodnojmkfaaaDoorPFnExactLoadx1
namespace Go.Proofs.YtiekodnojmkfaaaDoor.PFnExactLoad
open Go.RowKit Go.Proofs.YtiekodnojmkfaaaDoorW.PrintWords Go.Proofs.YtiekodnojmkfaaaDoorW.PrintLast Go.Proofs.YtiekodnojmkfaaaDoorW.PrintMore
attribute [local go_sem] max2_int min2_int max_two min_two max_three min_three max_four min_four   -- for this text's walks alone
set_option linter.unusedVariables false
set_option linter.unusedSimpArgs false
mutual
def spec_l3Number.j1:Nat→Int→ByteArray→Int→Int→Option (Int×ByteArray×Int×Int)
 | 0,_,_,_,_=>none
 | k+1,x11,x119000,x119001,x119002=>if x11<4 then (spec_l3Number.j2 k (decide ((wrap64 (x119001+x11)) ≥ (x119000.size:Int))) x119000 x119001 x119002) else (spec_l3Number.j2 k false x119000 x119001 x119002)
def spec_l3Number.j2:Nat→Bool→ByteArray→Int→Int→Option (Int×ByteArray×Int×Int)
 | 0,_,_,_,_=>none
 | k+1,x62,x119000,x119001,x119002=>if x62=true then ((spec_l3Fail.f x119000 x119001 x119002 2).bind fun bt129=>(some (0,bt129.1,bt129.2.1,bt129.2.2))) else ((spec_l3Fail.f x119000 x119001 x119002 3).bind fun bt132=>(some (0,bt132.1,bt132.2.1,bt132.2.2)))
def spec_l3Number.l0:Nat→Int→ByteArray→Int→Int→Option (Int×ByteArray×Int×Int)
 | 0,_,_,_,_=>none
 | k+1,x11,x119000,x119001,x119002=>if (wrap64 (x119001+x11))<(x119000.size:Int) then (if x11<4 then (if 0≤(wrap64 (x119001+x11)) then (if (bt x119000 (wrap64 (x119001+x11))) ≥ 128 then (spec_l3Number.l0 k (wrap64 (x11+1)) x119000 x119001 x119002) else (spec_l3Number.j1 k x11 x119000 x119001 x119002)) else (none)) else (spec_l3Number.j1 k x11 x119000 x119001 x119002)) else (spec_l3Number.j1 k x11 x119000 x119001 x119002)
end
def spec_l3Number.f (k:Nat) (a0_0:ByteArray) (a0_1:Int) (a0_2:Int) (a1:Int) (a2:Int):Option (Int×ByteArray×Int×Int):=if a0_2=0 then ((spec_GetVarint.f k a0_0 a0_1).bind fun bt120=>(if bt120.2.2=true then (if bt120.1<a1 then ((spec_l3Fail.f a0_0 bt120.2.1 a0_2 4).bind fun bt123=>(some (0,bt123.1,bt123.2.1,bt123.2.2))) else (if bt120.1 > a2 then ((spec_l3Fail.f a0_0 bt120.2.1 a0_2 4).bind fun bt126=>(some (0,bt126.1,bt126.2.1,bt126.2.2))) else (some (bt120.1,a0_0,bt120.2.1,a0_2)))) else (spec_l3Number.l0 k 0 a0_0 a0_1 a0_2))) else (some (0,a0_0,a0_1,a0_2))
set_option maxHeartbeats 8000000 in
set_option maxRecDepth 100000 in
theorem spec_l3Number.calls (k:Nat) (a0_0:ByteArray) (a0_1:Int) (a0_2:Int) (a1:Int) (a2:Int) (r1:Int) (r2:ByteArray) (r3:Int) (r4:Int) (w:World) (h:spec_l3Number.f k a0_0 a0_1 a0_2 a1 a2=some (r1,r2,r3,r4)) :
  Calls Tryd.prog 19 #[.agg #[.string a0_0,.int .i64 a0_1,.int .i64 a0_2],.int .i64 a1,.int .i64 a2] w fun e w'=>e=.returned (.tuple #[.int .i64 r1,.agg #[.string r2,.int .i64 r3,.int .i64 r4]])∧Below w.heap.size w w':=by
 have hu31:=Tryd.underlying31
 have HB:=Ak (Below.refl w.heap.size w)
 have H:(if a0_2=0 then ((spec_GetVarint.f k a0_0 a0_1).bind fun bt120=>(if bt120.2.2=true then (if bt120.1<a1 then ((spec_l3Fail.f a0_0 bt120.2.1 a0_2 4).bind fun bt123=>(some (0,bt123.1,bt123.2.1,bt123.2.2))) else (if bt120.1 > a2 then ((spec_l3Fail.f a0_0 bt120.2.1 a0_2 4).bind fun bt126=>(some (0,bt126.1,bt126.2.1,bt126.2.2))) else (some (bt120.1,a0_0,bt120.2.1,a0_2)))) else (spec_l3Number.l0 k 0 a0_0 a0_1 a0_2))) else (some (0,a0_0,a0_1,a0_2)))=some (r1,r2,r3,r4):=h
 clear h
 by_cases c4:a0_2=0
 ·rw [if_pos c4] at H
  have c4b0:(a0_2 == 0)=true:=beq_iff_eq.mpr c4
  have c4b1:(a0_2 != 0)=false:=bne_eq_false_iff_eq.mpr c4
  clear c4
  replace H:=Option.bind_eq_some_iff.mp H
  obtain ⟨⟨t120,t121,t122⟩,A50,H⟩:=H
  replace H:(if t122=true then (if t120<a1 then ((spec_l3Fail.f a0_0 t121 a0_2 4).bind fun bt123=>(some (0,bt123.1,bt123.2.1,bt123.2.2))) else (if t120 > a2 then ((spec_l3Fail.f a0_0 t121 a0_2 4).bind fun bt126=>(some (0,bt126.1,bt126.2.1,bt126.2.2))) else (some (t120,a0_0,t121,a0_2)))) else (spec_l3Number.l0 k 0 a0_0 a0_1 a0_2))=some (r1,r2,r3,r4):=H
  have A5:=Ak A50;clear A50
  by_cases c6:t122=true
  ·subst c6
   have H1:(if t120<a1 then ((spec_l3Fail.f a0_0 t121 a0_2 4).bind fun bt123=>(some (0,bt123.1,bt123.2.1,bt123.2.2))) else (if t120 > a2 then ((spec_l3Fail.f a0_0 t121 a0_2 4).bind fun bt126=>(some (0,bt126.1,bt126.2.1,bt126.2.2))) else (some (t120,a0_0,t121,a0_2))))=some (r1,r2,r3,r4):=by rw [if_pos rfl] at H;exact H
   clear H;have H:=H1;clear H1
   by_cases c7:t120<a1
   ·rw [if_pos c7] at H
    have c7b0:decide (t120<a1)=true:=decide_eq_true c7
    clear c7
    replace H:=Option.bind_eq_some_iff.mp H
    obtain ⟨⟨t123,t124,t125⟩,A80,H⟩:=H
    replace H:(some (0,t123,t124,t125))=some (r1,r2,r3,r4):=H
    have A8:=Ak A80;clear A80
    simp only [Option.some.injEq,Prod.mk.injEq] at H
    obtain ⟨rfl,rfl,rfl,rfl⟩:=H
    go_enter Tryd.func19,Tryd.ntmps19
    go_wp2_with (first|((with_reducible refine gate_dst (N:=3) rfl ?_);(try (refine gate_guard (by rfl) ?_;dsimp only));refine box_event ?hg (N:=3) ?hd (cs:=#[.string a0_0,.int .i64 a0_1,.int .i64 a0_2]) (t:=31) ?hr ?_;(case hd=>rfl);(case hg=>rfl);(case hr=>first|(go_simp;done)|(go_simp;rfl));intro gb118 hg w9 hbox hb;have n0_:=Ak (below_step (by repeat (first|(with_reducible first|exact HB.out|apply below_alloc|apply pw_below_drewN|apply below_drew1)|exact HB.out)) hb);have n1_:=Ak (hbox);have n2_:=Ak ((by rw [hg];exact (below_size (by repeat (first|(with_reducible first|exact HB.out|apply below_alloc|apply pw_below_drewN|apply below_drew1)|exact HB.out))):w.heap.size≤gb118));have n3_:=Ak ((by rw [hg];exact (below_size (by repeat (first|(with_reducible first|exact HB.out|apply below_alloc|apply pw_below_drewN|apply below_drew1)|exact HB.out))):w.heap.size≤gb118));clear HB;have HB:=n0_;have BK118:=n1_;have GW118:=n2_;have GE118:=n3_;clear n0_ n1_ n2_ n3_;clear hb hbox hg)|((with_reducible refine gate_dst (N:=7) rfl ?_);(try (refine gate_guard (by rfl) ?_;dsimp only));refine box_event ?hg (N:=7) ?hd (cs:=#[.string (⟨#[]⟩:ByteArray),.int .i64 0,.int .i64 0]) (t:=31) ?hr ?_;(case hd=>rfl);(case hg=>rfl);(case hr=>first|(go_simp;done)|(go_simp;rfl));intro gb119 hg w10 hbox hb;have n0_:=Ak (blk_below (g:=gb118) (by (with_reducible repeat (first|refine blk_drewN ?_ _|refine blk_drew ?_|refine blk_alloc ?_ _));exact BK118.out) hb);have n1_:=Ak (below_step (by repeat (first|(with_reducible first|exact HB.out|apply below_alloc|apply pw_below_drewN|apply below_drew1|refine below_set ?_ GE118.out)|exact HB.out)) hb);have n2_:=Ak (hbox);have n3_:=Ak ((by rw [hg];exact (below_size (by repeat (first|(with_reducible first|exact HB.out|apply below_alloc|apply pw_below_drewN|apply below_drew1|refine below_set ?_ GE118.out)|exact HB.out))):w.heap.size≤gb119));have n4_:=Ak ((by rw [hg];exact (below_size (by repeat (first|(with_reducible first|exact HB.out|apply below_alloc|apply pw_below_drewN|apply below_drew1|refine below_set ?_ GE118.out)|exact HB.out))):w.heap.size≤gb119));have n5_:=Ak ((by rw [hg];exact Nat.ne_of_lt (blk_lt (g:=gb118) (by (with_reducible repeat (first|refine blk_drewN ?_ _|refine blk_drew ?_|refine blk_alloc ?_ _));exact BK118.out)):gb118≠gb119));have n6_:=Ak ((by rw [hg];exact Nat.ne_of_gt (blk_lt (g:=gb118) (by (with_reducible repeat (first|refine blk_drewN ?_ _|refine blk_drew ?_|refine blk_alloc ?_ _));exact BK118.out)):gb119≠gb118));clear BK118;clear HB;have BK118:=n0_;have HB:=n1_;have BK119:=n2_;have GW119:=n3_;have GE119:=n4_;have NB118_119:=n5_;have NB119_118:=n6_;clear n0_ n1_ n2_ n3_ n4_ n5_ n6_;clear hb hbox hg;have hnb11:=NB118_119.out;have hnc11:=NB119_118.out;obtain ⟨hcz12_0,hcz12_1,hcz12_2,hfz12_0,hfz12_1,hfz12_2⟩:=bk3 BK118.out)|((with_reducible refine gate_callee (f:=55) rfl ?_);refine goesL_ (some 21) rfl rfl Tryd.func55 (by kernel_rfl) rfl #[.string a0_0,.int .i64 a0_1] rfl (by (try simp only [List.map_toArray,List.map_cons,List.map_nil]);first|done|rfl|(simp only [List.length_drop,List.length_take];rfl)) ?_;(with_reducible refine (spec_GetVarint.calls k a0_0 a0_1 t120 t121 true _ A5.out).mono ?_);rintro e w13 ⟨rfl,hb⟩;refine ⟨_,rfl,?_⟩;have n0_:=Ak (blk_below (g:=gb118) (by (with_reducible repeat (first|refine blk_drewN ?_ _|refine blk_drew ?_|refine blk_alloc ?_ _));exact BK118.out) hb);have n1_:=Ak (blk_below (g:=gb119) (o:=.cells #[.string (⟨#[]⟩:ByteArray),.int .i64 0,.int .i64 0] 31 (0,0)) (by (with_reducible repeat (first|refine blk_drewN ?_ _|refine blk_drew ?_|refine blk_alloc ?_ _));exact BK119.out) hb);have n2_:=Ak (below_step (by repeat (first|(with_reducible first|exact HB.out|apply below_alloc|apply pw_below_drewN|apply below_drew1|refine below_set ?_ GE118.out|refine below_set ?_ GE119.out)|exact HB.out)) hb);clear BK118;clear BK119;clear HB;have BK118:=n0_;have BK119:=n1_;have HB:=n2_;clear n0_ n1_ n2_;(try clear hb);(try clear hb2);(try clear hk);(try clear hi);obtain ⟨hcz14_0,hcz14_1,hcz14_2,hfz14_0,hfz14_1,hfz14_2⟩:=bk3 BK118.out)|((with_reducible refine gate_callee (f:=54) rfl ?_);refine goesL_ (some 78) rfl rfl Tryd.func54 (by kernel_rfl) rfl #[.agg #[.string a0_0,.int .i64 t121,.int .i64 a0_2],.int .i64 4] rfl (by (try simp only [List.map_toArray,List.map_cons,List.map_nil]);first|done|rfl|(simp only [List.length_drop,List.length_take];rfl)) ?_;(with_reducible refine (spec_l3Fail.calls a0_0 t121 a0_2 4 t123 t124 t125 _ A8.out).mono ?_);rintro e w15 ⟨rfl,hb⟩;refine ⟨_,rfl,?_⟩;have n0_:=Ak (blk_below (g:=gb118) (o:=.cells #[.string a0_0,.int .i64 t121,.int .i64 a0_2] 31 (0,0)) (by (with_reducible repeat (first|refine blk_drewN ?_ _|refine blk_drew ?_|refine blk_alloc ?_ _));refine blk_put (cs:=#[.string a0_0,.int .i64 a0_1,.int .i64 a0_2]) ?_ 1 _ rfl;(with_reducible repeat (first|refine blk_drewN ?_ _|refine blk_drew ?_|refine blk_alloc ?_ _));exact BK118.out) hb);have n1_:=Ak (blk_below (g:=gb119) (o:=.cells #[.string (⟨#[]⟩:ByteArray),.int .i64 0,.int .i64 0] 31 (0,0)) (by (with_reducible repeat (first|refine blk_drewN ?_ _|refine blk_drew ?_|refine blk_alloc ?_ _));refine blk_far ?_ NB119_118.out _;(with_reducible repeat (first|refine blk_drewN ?_ _|refine blk_drew ?_|refine blk_alloc ?_ _));exact BK119.out) hb);have n2_:=Ak (below_step (by repeat (first|(with_reducible first|exact HB.out|apply below_alloc|apply pw_below_drewN|apply below_drew1|refine below_set ?_ GE118.out|refine below_set ?_ GE119.out)|exact HB.out)) hb);clear BK118;clear BK119;clear HB;have BK118:=n0_;have BK119:=n1_;have HB:=n2_;clear n0_ n1_ n2_;(try clear hb);(try clear hb2);(try clear hk);(try clear hi);obtain ⟨hcz16_0,hcz16_1,hcz16_2,hfz16_0,hfz16_1,hfz16_2⟩:=bk3 BK119.out))
    refine bodyPost_ret (results_tc rfl _ _ gb119 31 #[.string t123,.int .i64 t124,.int .i64 t125] (0,0) _ rfl (by (with_reducible repeat (first|refine blk_drewN ?_ _|refine blk_drew ?_|refine blk_alloc ?_ _));refine blk_put (cs:=#[.string t123,.int .i64 t124,.int .i64 0]) ?_ 2 _ rfl;(with_reducible repeat (first|refine blk_drewN ?_ _|refine blk_drew ?_|refine blk_alloc ?_ _));refine blk_put (cs:=#[.string t123,.int .i64 0,.int .i64 0]) ?_ 1 _ rfl;(with_reducible repeat (first|refine blk_drewN ?_ _|refine blk_drew ?_|refine blk_alloc ?_ _));refine blk_put (cs:=#[.string (⟨#[]⟩:ByteArray),.int .i64 0,.int .i64 0]) ?_ 0 _ rfl;(with_reducible repeat (first|refine blk_drewN ?_ _|refine blk_drew ?_|refine blk_alloc ?_ _));exact BK119.out) Tryd.underlying31 rfl (by kernel_rfl)) rfl ?_
    exact ⟨by first|rfl|(simp [errW_none,errW_some] <;> rfl)|(simp [*,errW_none,errW_some] <;> rfl),by repeat (first|(with_reducible first|exact HB.out|apply below_alloc|apply pw_below_drewN|apply below_drew1|refine below_set ?_ GE118.out|refine below_set ?_ GE119.out)|exact HB.out)⟩
   ·rw [if_neg c7] at H
    have c7b0:decide (t120<a1)=false:=decide_eq_false c7
    clear c7
    by_cases c17:t120 > a2
    ·rw [if_pos c17] at H
     have c17b0:decide (a2<t120)=true:=decide_eq_true c17
     clear c17
     replace H:=Option.bind_eq_some_iff.mp H
     obtain ⟨⟨t126,t127,t128⟩,A180,H⟩:=H
     replace H:(some (0,t126,t127,t128))=some (r1,r2,r3,r4):=H
     have A18:=Ak A180;clear A180
     simp only [Option.some.injEq,Prod.mk.injEq] at H
     obtain ⟨rfl,rfl,rfl,rfl⟩:=H
     go_enter Tryd.func19,Tryd.ntmps19
     go_wp2_with (first|((with_reducible refine gate_dst (N:=3) rfl ?_);(try (refine gate_guard (by rfl) ?_;dsimp only));refine box_event ?hg (N:=3) ?hd (cs:=#[.string a0_0,.int .i64 a0_1,.int .i64 a0_2]) (t:=31) ?hr ?_;(case hd=>rfl);(case hg=>rfl);(case hr=>first|(go_simp;done)|(go_simp;rfl));intro gb118 hg w19 hbox hb;have n0_:=Ak (below_step (by repeat (first|(with_reducible first|exact HB.out|apply below_alloc|apply pw_below_drewN|apply below_drew1)|exact HB.out)) hb);have n1_:=Ak (hbox);have n2_:=Ak ((by rw [hg];exact (below_size (by repeat (first|(with_reducible first|exact HB.out|apply below_alloc|apply pw_below_drewN|apply below_drew1)|exact HB.out))):w.heap.size≤gb118));have n3_:=Ak ((by rw [hg];exact (below_size (by repeat (first|(with_reducible first|exact HB.out|apply below_alloc|apply pw_below_drewN|apply below_drew1)|exact HB.out))):w.heap.size≤gb118));clear HB;have HB:=n0_;have BK118:=n1_;have GW118:=n2_;have GE118:=n3_;clear n0_ n1_ n2_ n3_;clear hb hbox hg)|((with_reducible refine gate_dst (N:=7) rfl ?_);(try (refine gate_guard (by rfl) ?_;dsimp only));refine box_event ?hg (N:=7) ?hd (cs:=#[.string (⟨#[]⟩:ByteArray),.int .i64 0,.int .i64 0]) (t:=31) ?hr ?_;(case hd=>rfl);(case hg=>rfl);(case hr=>first|(go_simp;done)|(go_simp;rfl));intro gb119 hg w20 hbox hb;have n0_:=Ak (blk_below (g:=gb118) (by (with_reducible repeat (first|refine blk_drewN ?_ _|refine blk_drew ?_|refine blk_alloc ?_ _));exact BK118.out) hb);have n1_:=Ak (below_step (by repeat (first|(with_reducible first|exact HB.out|apply below_alloc|apply pw_below_drewN|apply below_drew1|refine below_set ?_ GE118.out)|exact HB.out)) hb);have n2_:=Ak (hbox);have n3_:=Ak ((by rw [hg];exact (below_size (by repeat (first|(with_reducible first|exact HB.out|apply below_alloc|apply pw_below_drewN|apply below_drew1|refine below_set ?_ GE118.out)|exact HB.out))):w.heap.size≤gb119));have n4_:=Ak ((by rw [hg];exact (below_size (by repeat (first|(with_reducible first|exact HB.out|apply below_alloc|apply pw_below_drewN|apply below_drew1|refine below_set ?_ GE118.out)|exact HB.out))):w.heap.size≤gb119));have n5_:=Ak ((by rw [hg];exact Nat.ne_of_lt (blk_lt (g:=gb118) (by (with_reducible repeat (first|refine blk_drewN ?_ _|refine blk_drew ?_|refine blk_alloc ?_ _));exact BK118.out)):gb118≠gb119));have n6_:=Ak ((by rw [hg];exact Nat.ne_of_gt (blk_lt (g:=gb118) (by (with_reducible repeat (first|refine blk_drewN ?_ _|refine blk_drew ?_|refine blk_alloc ?_ _));exact BK118.out)):gb119≠gb118));clear BK118;clear HB;have BK118:=n0_;have HB:=n1_;have BK119:=n2_;have GW119:=n3_;have GE119:=n4_;have NB118_119:=n5_;have NB119_118:=n6_;clear n0_ n1_ n2_ n3_ n4_ n5_ n6_;clear hb hbox hg;have hnb21:=NB118_119.out;have hnc21:=NB119_118.out;obtain ⟨hcz22_0,hcz22_1,hcz22_2,hfz22_0,hfz22_1,hfz22_2⟩:=bk3 BK118.out)|((with_reducible refine gate_callee (f:=55) rfl ?_);refine goesL_ (some 21) rfl rfl Tryd.func55 (by kernel_rfl) rfl #[.string a0_0,.int .i64 a0_1] rfl (by (try simp only [List.map_toArray,List.map_cons,List.map_nil]);first|done|rfl|(simp only [List.length_drop,List.length_take];rfl)) ?_;(with_reducible refine (spec_GetVarint.calls k a0_0 a0_1 t120 t121 true _ A5.out).mono ?_);rintro e w23 ⟨rfl,hb⟩;refine ⟨_,rfl,?_⟩;have n0_:=Ak (blk_below (g:=gb118) (by (with_reducible repeat (first|refine blk_drewN ?_ _|refine blk_drew ?_|refine blk_alloc ?_ _));exact BK118.out) hb);have n1_:=Ak (blk_below (g:=gb119) (o:=.cells #[.string (⟨#[]⟩:ByteArray),.int .i64 0,.int .i64 0] 31 (0,0)) (by (with_reducible repeat (first|refine blk_drewN ?_ _|refine blk_drew ?_|refine blk_alloc ?_ _));exact BK119.out) hb);have n2_:=Ak (below_step (by repeat (first|(with_reducible first|exact HB.out|apply below_alloc|apply pw_below_drewN|apply below_drew1|refine below_set ?_ GE118.out|refine below_set ?_ GE119.out)|exact HB.out)) hb);clear BK118;clear BK119;clear HB;have BK118:=n0_;have BK119:=n1_;have HB:=n2_;clear n0_ n1_ n2_;(try clear hb);(try clear hb2);(try clear hk);(try clear hi);obtain ⟨hcz24_0,hcz24_1,hcz24_2,hfz24_0,hfz24_1,hfz24_2⟩:=bk3 BK118.out)|((with_reducible refine gate_callee (f:=54) rfl ?_);refine goesL_ (some 78) rfl rfl Tryd.func54 (by kernel_rfl) rfl #[.agg #[.string a0_0,.int .i64 t121,.int .i64 a0_2],.int .i64 4] rfl (by (try simp only [List.map_toArray,List.map_cons,List.map_nil]);first|done|rfl|(simp only [List.length_drop,List.length_take];rfl)) ?_;(with_reducible refine (spec_l3Fail.calls a0_0 t121 a0_2 4 t126 t127 t128 _ A18.out).mono ?_);rintro e w25 ⟨rfl,hb⟩;refine ⟨_,rfl,?_⟩;have n0_:=Ak (blk_below (g:=gb118) (o:=.cells #[.string a0_0,.int .i64 t121,.int .i64 a0_2] 31 (0,0)) (by (with_reducible repeat (first|refine blk_drewN ?_ _|refine blk_drew ?_|refine blk_alloc ?_ _));refine blk_put (cs:=#[.string a0_0,.int .i64 a0_1,.int .i64 a0_2]) ?_ 1 _ rfl;(with_reducible repeat (first|refine blk_drewN ?_ _|refine blk_drew ?_|refine blk_alloc ?_ _));exact BK118.out) hb);have n1_:=Ak (blk_below (g:=gb119) (o:=.cells #[.string (⟨#[]⟩:ByteArray),.int .i64 0,.int .i64 0] 31 (0,0)) (by (with_reducible repeat (first|refine blk_drewN ?_ _|refine blk_drew ?_|refine blk_alloc ?_ _));refine blk_far ?_ NB119_118.out _;(with_reducible repeat (first|refine blk_drewN ?_ _|refine blk_drew ?_|refine blk_alloc ?_ _));exact BK119.out) hb);have n2_:=Ak (below_step (by repeat (first|(with_reducible first|exact HB.out|apply below_alloc|apply pw_below_drewN|apply below_drew1|refine below_set ?_ GE118.out|refine below_set ?_ GE119.out)|exact HB.out)) hb);clear BK118;clear BK119;clear HB;have BK118:=n0_;have BK119:=n1_;have HB:=n2_;clear n0_ n1_ n2_;(try clear hb);(try clear hb2);(try clear hk);(try clear hi);obtain ⟨hcz26_0,hcz26_1,hcz26_2,hfz26_0,hfz26_1,hfz26_2⟩:=bk3 BK119.out))
     refine bodyPost_ret (results_tc rfl _ _ gb119 31 #[.string t126,.int .i64 t127,.int .i64 t128] (0,0) _ rfl (by (with_reducible repeat (first|refine blk_drewN ?_ _|refine blk_drew ?_|refine blk_alloc ?_ _));refine blk_put (cs:=#[.string t126,.int .i64 t127,.int .i64 0]) ?_ 2 _ rfl;(with_reducible repeat (first|refine blk_drewN ?_ _|refine blk_drew ?_|refine blk_alloc ?_ _));refine blk_put (cs:=#[.string t126,.int .i64 0,.int .i64 0]) ?_ 1 _ rfl;(with_reducible repeat (first|refine blk_drewN ?_ _|refine blk_drew ?_|refine blk_alloc ?_ _));refine blk_put (cs:=#[.string (⟨#[]⟩:ByteArray),.int .i64 0,.int .i64 0]) ?_ 0 _ rfl;(with_reducible repeat (first|refine blk_drewN ?_ _|refine blk_drew ?_|refine blk_alloc ?_ _));exact BK119.out) Tryd.underlying31 rfl (by kernel_rfl)) rfl ?_
     exact ⟨by first|rfl|(simp [errW_none,errW_some] <;> rfl)|(simp [*,errW_none,errW_some] <;> rfl),by repeat (first|(with_reducible first|exact HB.out|apply below_alloc|apply pw_below_drewN|apply below_drew1|refine below_set ?_ GE118.out|refine below_set ?_ GE119.out)|exact HB.out)⟩
    ·rw [if_neg c17] at H
     have c17b0:decide (a2<t120)=false:=decide_eq_false c17
     clear c17
     simp only [Option.some.injEq,Prod.mk.injEq] at H
     obtain ⟨rfl,rfl,rfl,rfl⟩:=H
     go_enter Tryd.func19,Tryd.ntmps19
     try go_wp2_with (first|((with_reducible refine gate_dst (N:=3) rfl ?_);(try (refine gate_guard (by rfl) ?_;dsimp only));refine box_event ?hg (N:=3) ?hd (cs:=#[.string a0_0,.int .i64 a0_1,.int .i64 a0_2]) (t:=31) ?hr ?_;(case hd=>rfl);(case hg=>rfl);(case hr=>first|(go_simp;done)|(go_simp;rfl));intro gb118 hg w27 hbox hb;have n0_:=Ak (below_step (by repeat (first|(with_reducible first|exact HB.out|apply below_alloc|apply pw_below_drewN|apply below_drew1)|exact HB.out)) hb);have n1_:=Ak (hbox);have n2_:=Ak ((by rw [hg];exact (below_size (by repeat (first|(with_reducible first|exact HB.out|apply below_alloc|apply pw_below_drewN|apply below_drew1)|exact HB.out))):w.heap.size≤gb118));have n3_:=Ak ((by rw [hg];exact (below_size (by repeat (first|(with_reducible first|exact HB.out|apply below_alloc|apply pw_below_drewN|apply below_drew1)|exact HB.out))):w.heap.size≤gb118));clear HB;have HB:=n0_;have BK118:=n1_;have GW118:=n2_;have GE118:=n3_;clear n0_ n1_ n2_ n3_;clear hb hbox hg)|((with_reducible refine gate_dst (N:=7) rfl ?_);(try (refine gate_guard (by rfl) ?_;dsimp only));refine box_event ?hg (N:=7) ?hd (cs:=#[.string (⟨#[]⟩:ByteArray),.int .i64 0,.int .i64 0]) (t:=31) ?hr ?_;(case hd=>rfl);(case hg=>rfl);(case hr=>first|(go_simp;done)|(go_simp;rfl));intro gb119 hg w28 hbox hb;have n0_:=Ak (blk_below (g:=gb118) (by (with_reducible repeat (first|refine blk_drewN ?_ _|refine blk_drew ?_|refine blk_alloc ?_ _));exact BK118.out) hb);have n1_:=Ak (below_step (by repeat (first|(with_reducible first|exact HB.out|apply below_alloc|apply pw_below_drewN|apply below_drew1|refine below_set ?_ GE118.out)|exact HB.out)) hb);have n2_:=Ak (hbox);have n3_:=Ak ((by rw [hg];exact (below_size (by repeat (first|(with_reducible first|exact HB.out|apply below_alloc|apply pw_below_drewN|apply below_drew1|refine below_set ?_ GE118.out)|exact HB.out))):w.heap.size≤gb119));have n4_:=Ak ((by rw [hg];exact (below_size (by repeat (first|(with_reducible first|exact HB.out|apply below_alloc|apply pw_below_drewN|apply below_drew1|refine below_set ?_ GE118.out)|exact HB.out))):w.heap.size≤gb119));have n5_:=Ak ((by rw [hg];exact Nat.ne_of_lt (blk_lt (g:=gb118) (by (with_reducible repeat (first|refine blk_drewN ?_ _|refine blk_drew ?_|refine blk_alloc ?_ _));exact BK118.out)):gb118≠gb119));have n6_:=Ak ((by rw [hg];exact Nat.ne_of_gt (blk_lt (g:=gb118) (by (with_reducible repeat (first|refine blk_drewN ?_ _|refine blk_drew ?_|refine blk_alloc ?_ _));exact BK118.out)):gb119≠gb118));clear BK118;clear HB;have BK118:=n0_;have HB:=n1_;have BK119:=n2_;have GW119:=n3_;have GE119:=n4_;have NB118_119:=n5_;have NB119_118:=n6_;clear n0_ n1_ n2_ n3_ n4_ n5_ n6_;clear hb hbox hg;have hnb29:=NB118_119.out;have hnc29:=NB119_118.out;obtain ⟨hcz30_0,hcz30_1,hcz30_2,hfz30_0,hfz30_1,hfz30_2⟩:=bk3 BK118.out)|((with_reducible refine gate_callee (f:=55) rfl ?_);refine goesL_ (some 21) rfl rfl Tryd.func55 (by kernel_rfl) rfl #[.string a0_0,.int .i64 a0_1] rfl (by (try simp only [List.map_toArray,List.map_cons,List.map_nil]);first|done|rfl|(simp only [List.length_drop,List.length_take];rfl)) ?_;(with_reducible refine (spec_GetVarint.calls k a0_0 a0_1 t120 t121 true _ A5.out).mono ?_);rintro e w31 ⟨rfl,hb⟩;refine ⟨_,rfl,?_⟩;have n0_:=Ak (blk_below (g:=gb118) (by (with_reducible repeat (first|refine blk_drewN ?_ _|refine blk_drew ?_|refine blk_alloc ?_ _));exact BK118.out) hb);have n1_:=Ak (blk_below (g:=gb119) (o:=.cells #[.string (⟨#[]⟩:ByteArray),.int .i64 0,.int .i64 0] 31 (0,0)) (by (with_reducible repeat (first|refine blk_drewN ?_ _|refine blk_drew ?_|refine blk_alloc ?_ _));exact BK119.out) hb);have n2_:=Ak (below_step (by repeat (first|(with_reducible first|exact HB.out|apply below_alloc|apply pw_below_drewN|apply below_drew1|refine below_set ?_ GE118.out|refine below_set ?_ GE119.out)|exact HB.out)) hb);clear BK118;clear BK119;clear HB;have BK118:=n0_;have BK119:=n1_;have HB:=n2_;clear n0_ n1_ n2_;(try clear hb);(try clear hb2);(try clear hk);(try clear hi);obtain ⟨hcz32_0,hcz32_1,hcz32_2,hfz32_0,hfz32_1,hfz32_2⟩:=bk3 BK118.out))
     have n0_:Aside0 ((w31.setCell ⟨gb118,1,none⟩ (.int .i64 t121)).heap[gb118]?=some (.cells #[.string a0_0,.int .i64 t121,.int .i64 a0_2] 31 (0,0))):=⟨by (with_reducible repeat (first|refine blk_drewN ?_ _|refine blk_drew ?_|refine blk_alloc ?_ _));refine blk_put (cs:=#[.string a0_0,.int .i64 a0_1,.int .i64 a0_2]) ?_ 1 _ rfl;(with_reducible repeat (first|refine blk_drewN ?_ _|refine blk_drew ?_|refine blk_alloc ?_ _));exact BK118.out⟩
     have n1_:Aside0 ((w31.setCell ⟨gb118,1,none⟩ (.int .i64 t121)).heap[gb119]?=some (.cells #[.string (⟨#[]⟩:ByteArray),.int .i64 0,.int .i64 0] 31 (0,0))):=⟨by (with_reducible repeat (first|refine blk_drewN ?_ _|refine blk_drew ?_|refine blk_alloc ?_ _));refine blk_far ?_ NB119_118.out _;(with_reducible repeat (first|refine blk_drewN ?_ _|refine blk_drew ?_|refine blk_alloc ?_ _));exact BK119.out⟩
     have n2_:Aside0 (Below w.heap.size w (w31.setCell ⟨gb118,1,none⟩ (.int .i64 t121))):=⟨by repeat (first|(with_reducible first|exact HB.out|apply below_alloc|apply pw_below_drewN|apply below_drew1|refine below_set ?_ GE118.out|refine below_set ?_ GE119.out)|exact HB.out)⟩
     (try clear BK118)
     (try clear BK119)
     (try clear HB)
     generalize (w31.setCell ⟨gb118,1,none⟩ (.int .i64 t121))=w33 at n0_ n1_ n2_ ⊢
     have BK118:=n0_;have BK119:=n1_;have HB:=n2_;clear n0_ n1_ n2_
     have n0_:=Ak (blk_drew BK118.out)
     have n1_:=Ak (blk_drew BK119.out)
     have n2_:=Ak (below_drew1 HB.out)
     clear BK118;clear BK119;clear HB;have BK118:=n0_;have BK119:=n1_;have HB:=n2_;clear n0_ n1_ n2_
     refine start_ (n:=4) (S:=fun w'=>w'.cell? ⟨gb118,0,none⟩=some (.string a0_0)∧w'.cell? ⟨gb118,1,none⟩=some (.int .i64 t121)∧w'.cell? ⟨gb118,2,none⟩=some (.int .i64 a0_2)) (ds:=[]) #[false,false,false,false] (by kernel_rfl) rfl rfl ⟨(blk_cell BK118.out 0).trans rfl,(blk_cell BK118.out 1).trans rfl,(blk_cell BK118.out 2).trans rfl⟩ (fun hHeld=>?_)
     generalize w33.drew=w34 at BK118 BK119 HB hHeld ⊢
     refine pure_ (i:=0) (N:=some 79) (v:=?_) (a':=?_) #[true,false,false,false] rfl rfl (by kernel_rfl) (fun _ _ _ h=>h) (Or.inl ⟨by rfl,?_⟩) ?_ ?_
     rotate_left
     ·intro w'
      go_simp
      with_reducible rfl
     rotate_left
     ·simp only [Act.put,List.setIfInBounds_toArray,List.set_cons_zero,List.set_cons_succ,i64_w,i32_w]
      rfl
     refine pure_ (i:=2) (N:=some 6) (v:=?_) (a':=?_) #[true,false,true,false] rfl rfl (by kernel_rfl) (fun _ _ _ h=>h) (Or.inl ⟨by rfl,?_⟩) ?_ ?_
     rotate_left
     ·intro w'
      go_simp
      with_reducible rfl
     rotate_left
     ·simp only [Act.put,List.setIfInBounds_toArray,List.set_cons_zero,List.set_cons_succ,i64_w,i32_w]
      rfl
     refine take_ (i:=1) (N:=some 80) (v:=?_) (a':=?_) #[true,true,true,false] rfl rfl (by kernel_rfl) (fun _ _ _ h=>h) (Or.inl ⟨by rfl,?_⟩) hHeld ?_ ?_
     rotate_left
     ·rintro w' ⟨s0,s1,s2⟩
      go_simp
      with_reducible rfl
     rotate_left
     ·simp only [Act.put,List.setIfInBounds_toArray,List.set_cons_zero,List.set_cons_succ,i64_w,i32_w]
      rfl
     refine one_ (i:=3) (N:=none) #[true,true,true,true] rfl rfl (by kernel_rfl) (by decide) (fun K hK=>?_)
     have hs35:w34.cell? ⟨gb119,0,none⟩=some (.string (⟨#[]⟩:ByteArray)):=(blk_cell BK119.out 0).trans rfl
     have hfs35:=blk_frozen BK119.out 0
     have hns35_0:=NB118_119.out
     have hms35_0:=NB119_118.out
     have hs36:w34.cell? ⟨gb119,1,none⟩=some (.int .i64 0):=(blk_cell BK119.out 1).trans rfl
     have hfs36:=blk_frozen BK119.out 1
     have hns36_0:=NB118_119.out
     have hms36_0:=NB119_118.out
     have hs37:w34.cell? ⟨gb119,2,none⟩=some (.int .i64 0):=(blk_cell BK119.out 2).trans rfl
     have hfs37:=blk_frozen BK119.out 2
     have hns37_0:=NB118_119.out
     have hms37_0:=NB119_118.out
     refine skip_ (w1:=?_) (by rfl) rfl ?_ ?_
     rotate_left
     ·go_simp
      rfl
     refine hK.out _ _ ⟨((cell_far (p:=⟨gb119,_,none⟩) NB118_119.out _).trans (((cell_far (p:=⟨gb119,_,none⟩) NB118_119.out _).trans (((cell_far (p:=⟨gb119,_,none⟩) NB118_119.out _).trans (hHeld.1)))))),((cell_far (p:=⟨gb119,_,none⟩) NB118_119.out _).trans (((cell_far (p:=⟨gb119,_,none⟩) NB118_119.out _).trans (((cell_far (p:=⟨gb119,_,none⟩) NB118_119.out _).trans (hHeld.2.1)))))),((cell_far (p:=⟨gb119,_,none⟩) NB118_119.out _).trans (((cell_far (p:=⟨gb119,_,none⟩) NB118_119.out _).trans (((cell_far (p:=⟨gb119,_,none⟩) NB118_119.out _).trans (hHeld.2.2))))))⟩ (fun hHeld=>?_)
     clear hK K
     refine done_ (by kernel_rfl) ?_
     try go_wp2
     refine bodyPost_ret (results_tc rfl _ _ gb119 31 #[.string a0_0,.int .i64 t121,.int .i64 a0_2] (0,0) _ rfl (by (with_reducible repeat (first|refine blk_drewN ?_ _|refine blk_drew ?_|refine blk_alloc ?_ _));refine blk_put (cs:=#[.string a0_0,.int .i64 t121,.int .i64 0]) ?_ 2 _ rfl;(with_reducible repeat (first|refine blk_drewN ?_ _|refine blk_drew ?_|refine blk_alloc ?_ _));refine blk_put (cs:=#[.string a0_0,.int .i64 0,.int .i64 0]) ?_ 1 _ rfl;(with_reducible repeat (first|refine blk_drewN ?_ _|refine blk_drew ?_|refine blk_alloc ?_ _));refine blk_put (cs:=#[.string (⟨#[]⟩:ByteArray),.int .i64 0,.int .i64 0]) ?_ 0 _ rfl;(with_reducible repeat (first|refine blk_drewN ?_ _|refine blk_drew ?_|refine blk_alloc ?_ _));exact BK119.out) Tryd.underlying31 rfl (by kernel_rfl)) rfl ?_
     exact ⟨by first|rfl|(simp [errW_none,errW_some] <;> rfl)|(simp [*,errW_none,errW_some] <;> rfl),by repeat (first|(with_reducible first|exact HB.out|apply below_alloc|apply pw_below_drewN|apply below_drew1|refine below_set ?_ GE118.out|refine below_set ?_ GE119.out)|exact HB.out)⟩
  ·replace c6:=Bool.eq_false_iff.mpr c6
   subst c6
   have H1:(spec_l3Number.l0 k 0 a0_0 a0_1 a0_2)=some (r1,r2,r3,r4):=by rw [if_neg (show ¬ (false=true) by decide)] at H;exact H
   clear H;have H:=H1;clear H1;have HC38:=Ak H;clear H
   go_enter Tryd.func19,Tryd.ntmps19
   go_upto_block 0 with (first|((with_reducible refine gate_dst (N:=3) rfl ?_);(try (refine gate_guard (by rfl) ?_;dsimp only));refine box_event ?hg (N:=3) ?hd (cs:=#[.string a0_0,.int .i64 a0_1,.int .i64 a0_2]) (t:=31) ?hr ?_;(case hd=>rfl);(case hg=>rfl);(case hr=>first|(go_simp;done)|(go_simp;rfl));intro gb118 hg w39 hbox hb;have n0_:=Ak (below_step (by repeat (first|(with_reducible first|exact HB.out|apply below_alloc|apply pw_below_drewN|apply below_drew1)|exact HB.out)) hb);have n1_:=Ak (hbox);have n2_:=Ak ((by rw [hg];exact (below_size (by repeat (first|(with_reducible first|exact HB.out|apply below_alloc|apply pw_below_drewN|apply below_drew1)|exact HB.out))):w.heap.size≤gb118));have n3_:=Ak ((by rw [hg];exact (below_size (by repeat (first|(with_reducible first|exact HB.out|apply below_alloc|apply pw_below_drewN|apply below_drew1)|exact HB.out))):w.heap.size≤gb118));clear HB;have HB:=n0_;have BK118:=n1_;have GW118:=n2_;have GE118:=n3_;clear n0_ n1_ n2_ n3_;clear hb hbox hg)|((with_reducible refine gate_dst (N:=7) rfl ?_);(try (refine gate_guard (by rfl) ?_;dsimp only));refine box_event ?hg (N:=7) ?hd (cs:=#[.string (⟨#[]⟩:ByteArray),.int .i64 0,.int .i64 0]) (t:=31) ?hr ?_;(case hd=>rfl);(case hg=>rfl);(case hr=>first|(go_simp;done)|(go_simp;rfl));intro gb119 hg w40 hbox hb;have n0_:=Ak (blk_below (g:=gb118) (by (with_reducible repeat (first|refine blk_drewN ?_ _|refine blk_drew ?_|refine blk_alloc ?_ _));exact BK118.out) hb);have n1_:=Ak (below_step (by repeat (first|(with_reducible first|exact HB.out|apply below_alloc|apply pw_below_drewN|apply below_drew1|refine below_set ?_ GE118.out)|exact HB.out)) hb);have n2_:=Ak (hbox);have n3_:=Ak ((by rw [hg];exact (below_size (by repeat (first|(with_reducible first|exact HB.out|apply below_alloc|apply pw_below_drewN|apply below_drew1|refine below_set ?_ GE118.out)|exact HB.out))):w.heap.size≤gb119));have n4_:=Ak ((by rw [hg];exact (below_size (by repeat (first|(with_reducible first|exact HB.out|apply below_alloc|apply pw_below_drewN|apply below_drew1|refine below_set ?_ GE118.out)|exact HB.out))):w.heap.size≤gb119));have n5_:=Ak ((by rw [hg];exact Nat.ne_of_lt (blk_lt (g:=gb118) (by (with_reducible repeat (first|refine blk_drewN ?_ _|refine blk_drew ?_|refine blk_alloc ?_ _));exact BK118.out)):gb118≠gb119));have n6_:=Ak ((by rw [hg];exact Nat.ne_of_gt (blk_lt (g:=gb118) (by (with_reducible repeat (first|refine blk_drewN ?_ _|refine blk_drew ?_|refine blk_alloc ?_ _));exact BK118.out)):gb119≠gb118));clear BK118;clear HB;have BK118:=n0_;have HB:=n1_;have BK119:=n2_;have GW119:=n3_;have GE119:=n4_;have NB118_119:=n5_;have NB119_118:=n6_;clear n0_ n1_ n2_ n3_ n4_ n5_ n6_;clear hb hbox hg;have hnb41:=NB118_119.out;have hnc41:=NB119_118.out;obtain ⟨hcz42_0,hcz42_1,hcz42_2,hfz42_0,hfz42_1,hfz42_2⟩:=bk3 BK118.out)|((with_reducible refine gate_callee (f:=55) rfl ?_);refine goesL_ (some 21) rfl rfl Tryd.func55 (by kernel_rfl) rfl #[.string a0_0,.int .i64 a0_1] rfl (by (try simp only [List.map_toArray,List.map_cons,List.map_nil]);first|done|rfl|(simp only [List.length_drop,List.length_take];rfl)) ?_;(with_reducible refine (spec_GetVarint.calls k a0_0 a0_1 t120 t121 false _ A5.out).mono ?_);rintro e w43 ⟨rfl,hb⟩;refine ⟨_,rfl,?_⟩;have n0_:=Ak (blk_below (g:=gb118) (by (with_reducible repeat (first|refine blk_drewN ?_ _|refine blk_drew ?_|refine blk_alloc ?_ _));exact BK118.out) hb);have n1_:=Ak (blk_below (g:=gb119) (o:=.cells #[.string (⟨#[]⟩:ByteArray),.int .i64 0,.int .i64 0] 31 (0,0)) (by (with_reducible repeat (first|refine blk_drewN ?_ _|refine blk_drew ?_|refine blk_alloc ?_ _));exact BK119.out) hb);have n2_:=Ak (below_step (by repeat (first|(with_reducible first|exact HB.out|apply below_alloc|apply pw_below_drewN|apply below_drew1|refine below_set ?_ GE118.out|refine below_set ?_ GE119.out)|exact HB.out)) hb);clear BK118;clear BK119;clear HB;have BK118:=n0_;have BK119:=n1_;have HB:=n2_;clear n0_ n1_ n2_;(try clear hb);(try clear hb2);(try clear hk);(try clear hi)))
   (try simp only [Act.put,List.setIfInBounds_toArray,List.set_cons_zero,List.set_cons_succ])
   go_cut [11] (fun v11 wc=>∃ (kq:Nat) (x11_37:Int),v11=.int .i64 x11_37∧Aside0 (spec_l3Number.j1 kq x11_37 a0_0 a0_1 a0_2=some (r1,r2,r3,r4))∧Aside0 (kq≤k)∧Aside0 (wc.heap[gb118]?=some (.cells #[.string a0_0,.int .i64 a0_1,.int .i64 a0_2] 31 (0,0)))∧Aside0 (wc.heap[gb119]?=some (.cells #[.string (⟨#[]⟩:ByteArray),.int .i64 0,.int .i64 0] 31 (0,0)))∧Aside0 (Below w.heap.size w wc))
   case first =>
    have H:=HC38.out
    clear HC38
    have H':=Ak H
    clear H
    go_wp2
    go_loopg [11] k (fun kq v11 w'=>∃ (x11_1:Int),v11=.int .i64 x11_1∧Aside0 (spec_l3Number.l0 kq x11_1 a0_0 a0_1 a0_2=some (r1,r2,r3,r4))∧Aside0 (kq≤k)∧Aside0 (w'.heap[gb118]?=some (.cells #[.string a0_0,.int .i64 a0_1,.int .i64 a0_2] 31 (0,0)))∧Aside0 (w'.heap[gb119]?=some (.cells #[.string (⟨#[]⟩:ByteArray),.int .i64 0,.int .i64 0] 31 (0,0)))∧Aside0 (Below w.heap.size w w'))
    case atStart=>exact ⟨(0),(by first|rfl|(simp;done)|(simp [*];done)),H',⟨Nat.le_refl _⟩,⟨by (with_reducible repeat (first|refine blk_drewN ?_ _|refine blk_drew ?_|refine blk_alloc ?_ _));exact BK118.out⟩,⟨by (with_reducible repeat (first|refine blk_drewN ?_ _|refine blk_drew ?_|refine blk_alloc ?_ _));exact BK119.out⟩,⟨by repeat (first|(with_reducible first|exact HB.out|apply below_alloc|apply pw_below_drewN|apply below_drew1|refine below_set ?_ GE118.out|refine below_set ?_ GE119.out)|exact HB.out)⟩⟩
    case round =>
     clear H';(try clear c1);(try clear c2);(try clear p2);(try clear c4);(try clear c4b0);(try clear c4b1);(try clear c5);(try clear c6);(try clear c7);(try clear c7b0);(try clear c11);(try clear c17);(try clear c17b0);(try clear c19);(try clear c21);(try clear c29);(try clear c41);(try clear hcz12_0);(try clear hcz12_1);(try clear hcz12_2);(try clear hcz14_0);(try clear hcz14_1)
     (try clear hcz14_2);(try clear hcz16_0);(try clear hcz16_1);(try clear hcz16_2);(try clear hcz22_0);(try clear hcz22_1);(try clear hcz22_2);(try clear hcz24_0);(try clear hcz24_1);(try clear hcz24_2);(try clear hcz26_0);(try clear hcz26_1);(try clear hcz26_2);(try clear hcz30_0);(try clear hcz30_1);(try clear hcz30_2);(try clear hcz32_0);(try clear hcz32_1);(try clear hcz32_2)
     (try clear hcz42_0);(try clear hcz42_1);(try clear hcz42_2);(try clear hfz12_0);(try clear hfz12_1);(try clear hfz12_2);(try clear hfz14_0);(try clear hfz14_1);(try clear hfz14_2);(try clear hfz16_0);(try clear hfz16_1);(try clear hfz16_2);(try clear hfz22_0);(try clear hfz22_1);(try clear hfz22_2);(try clear hfz24_0);(try clear hfz24_1);(try clear hfz24_2);(try clear hfz26_0)
     (try clear hfz26_1);(try clear hfz26_2);(try clear hfz30_0);(try clear hfz30_1);(try clear hfz30_2);(try clear hfz32_0);(try clear hfz32_1);(try clear hfz32_2);(try clear hfz42_0);(try clear hfz42_1);(try clear hfz42_2)
     obtain ⟨x11_1,rfl,HA,HK1,BK118,BK119,HB⟩:=hrel
     cases gk with
     | zero=>exact absurd HA.out (by simp [spec_l3Number.l0])
     | succ k1 =>
      have H:=HA.out
      clear HA
      simp only [spec_l3Number.l0] at H
      by_cases c44:(wrap64 (a0_1+x11_1))<(a0_0.size:Int)
      ·rw [if_pos c44] at H
       have c44b0:decide ((wrap64 (a0_1+x11_1))<(a0_0.size:Int))=true:=decide_eq_true c44
       clear c44
       (first|rw [c44b0]|(simp only [i64_w,i32_w];rw [c44b0])|skip)
       by_cases c45:x11_1<4
       ·rw [if_pos c45] at H
        have c45b0:decide (x11_1<4)=true:=decide_eq_true c45
        clear c45
        obtain ⟨ji46,hji46⟩:∃ j_:Int,(wrap64 (a0_1+x11_1))=j_:=⟨_,rfl⟩
        replace H:(if 0≤(ji46) then (if (bt a0_0 (ji46)) ≥ 128 then (spec_l3Number.l0 k1 (wrap64 (x11_1+1)) a0_0 a0_1 a0_2) else (spec_l3Number.j1 k1 x11_1 a0_0 a0_1 a0_2)) else (none))=some (r1,r2,r3,r4):=by first|(rw [hji46] at H;exact H)|(simp only [hji46] at H ⊢;exact H)
        (try rw [hji46] at c44b0)
        have hji46w:(IntKind.i64.wrap (a0_1+x11_1))=ji46:=(i64_w _).trans hji46
        by_cases c47:0≤(ji46)
        ·rw [if_pos c47] at H
         have c47b0:decide (0≤(ji46))=true:=decide_eq_true c47
         clear c47
         by_cases c49:(bt a0_0 (ji46)) ≥ 128
         ·rw [if_pos c49] at H
          have c49b0:decide (128≤(bt a0_0 (ji46)))=true:=decide_eq_true c49
          clear c49
          have H':=Ak H
          clear H
          have hnb50:=NB118_119.out
          have hnc50:=NB119_118.out
          obtain ⟨hcz51_0,hcz51_1,hcz51_2,hfz51_0,hfz51_1,hfz51_2⟩:=bk3 BK118.out
          have p48:0≤((ji46):Int):=of_decide_eq_true (by first|(with_reducible assumption)|assumption)
          have q48:(ji46)<(a0_0.size:Int):=of_decide_eq_true (by first|(with_reducible assumption)|assumption)
          have hx48:=bt_at a0_0 (ji46)
          replace p48:=eq_true p48
          replace q48:=eq_true q48
          go_wp2
          go_roundg k1
          case measure=>have:=HK1.out;omega
          case rel=>exact ⟨(wrap64 (x11_1+1)),(by first|rfl|(simp;done)|(simp [*];done)),H',⟨by have:=HK1.out;omega⟩,⟨by (with_reducible repeat (first|refine blk_drewN ?_ _|refine blk_drew ?_|refine blk_alloc ?_ _));exact BK118.out⟩,⟨by (with_reducible repeat (first|refine blk_drewN ?_ _|refine blk_drew ?_|refine blk_alloc ?_ _));exact BK119.out⟩,⟨by repeat (first|(with_reducible first|exact HB.out|apply below_alloc|apply pw_below_drewN|apply below_drew1|refine below_set ?_ GE118.out|refine below_set ?_ GE119.out)|exact HB.out)⟩⟩
         ·rw [if_neg c49] at H
          have c49b0:decide (128≤(bt a0_0 (ji46)))=false:=decide_eq_false c49
          clear c49
          have H':=Ak H
          clear H
          have hnb52:=NB118_119.out
          have hnc52:=NB119_118.out
          obtain ⟨hcz53_0,hcz53_1,hcz53_2,hfz53_0,hfz53_1,hfz53_2⟩:=bk3 BK118.out
          have p48:0≤((ji46):Int):=of_decide_eq_true (by first|(with_reducible assumption)|assumption)
          have q48:(ji46)<(a0_0.size:Int):=of_decide_eq_true (by first|(with_reducible assumption)|assumption)
          have hx48:=bt_at a0_0 (ji46)
          replace p48:=eq_true p48
          replace q48:=eq_true q48
          go_wp2
          go_meet
          case rel=>exact ⟨_,(x11_1),(by first|rfl|(simp;done)|(simp [*];done)),H',⟨by have:=HK1.out;first|omega|exact Nat.le_refl _⟩,⟨by (with_reducible repeat (first|refine blk_drewN ?_ _|refine blk_drew ?_|refine blk_alloc ?_ _));exact BK118.out⟩,⟨by (with_reducible repeat (first|refine blk_drewN ?_ _|refine blk_drew ?_|refine blk_alloc ?_ _));exact BK119.out⟩,⟨by repeat (first|(with_reducible first|exact HB.out|apply below_alloc|apply pw_below_drewN|apply below_drew1|refine below_set ?_ GE118.out|refine below_set ?_ GE119.out)|exact HB.out)⟩⟩
        ·rw [if_neg c47] at H
         exact absurd H (by simp)
       ·rw [if_neg c45] at H
        have c45b0:decide (x11_1<4)=false:=decide_eq_false c45
        clear c45
        have H':=Ak H
        clear H
        have hnb54:=NB118_119.out
        have hnc54:=NB119_118.out
        obtain ⟨hcz55_0,hcz55_1,hcz55_2,hfz55_0,hfz55_1,hfz55_2⟩:=bk3 BK118.out
        go_wp2
        go_meet
        case rel=>exact ⟨_,(x11_1),(by first|rfl|(simp;done)|(simp [*];done)),H',⟨by have:=HK1.out;first|omega|exact Nat.le_refl _⟩,⟨by (with_reducible repeat (first|refine blk_drewN ?_ _|refine blk_drew ?_|refine blk_alloc ?_ _));exact BK118.out⟩,⟨by (with_reducible repeat (first|refine blk_drewN ?_ _|refine blk_drew ?_|refine blk_alloc ?_ _));exact BK119.out⟩,⟨by repeat (first|(with_reducible first|exact HB.out|apply below_alloc|apply pw_below_drewN|apply below_drew1|refine below_set ?_ GE118.out|refine below_set ?_ GE119.out)|exact HB.out)⟩⟩
      ·rw [if_neg c44] at H
       have c44b0:decide ((wrap64 (a0_1+x11_1))<(a0_0.size:Int))=false:=decide_eq_false c44
       clear c44
       (first|rw [c44b0]|(simp only [i64_w,i32_w];rw [c44b0])|skip)
       have H':=Ak H
       clear H
       have hnb56:=NB118_119.out
       have hnc56:=NB119_118.out
       obtain ⟨hcz57_0,hcz57_1,hcz57_2,hfz57_0,hfz57_1,hfz57_2⟩:=bk3 BK118.out
       go_wp2
       go_meet
       case rel=>exact ⟨_,(x11_1),(by first|rfl|(simp;done)|(simp [*];done)),H',⟨by have:=HK1.out;first|omega|exact Nat.le_refl _⟩,⟨by (with_reducible repeat (first|refine blk_drewN ?_ _|refine blk_drew ?_|refine blk_alloc ?_ _));exact BK118.out⟩,⟨by (with_reducible repeat (first|refine blk_drewN ?_ _|refine blk_drew ?_|refine blk_alloc ?_ _));exact BK119.out⟩,⟨by repeat (first|(with_reducible first|exact HB.out|apply below_alloc|apply pw_below_drewN|apply below_drew1|refine below_set ?_ GE118.out|refine below_set ?_ GE119.out)|exact HB.out)⟩⟩
   case rest =>
    clear HC38;(try clear c1);(try clear c2);(try clear p2);(try clear c4);(try clear c4b0);(try clear c4b1);(try clear p4);(try clear q4);(try clear hx4);(try clear c5);(try clear c6);(try clear p6);(try clear c7);(try clear c7b0);(try clear c11);(try clear c17);(try clear c17b0);(try clear c19);(try clear c21);(try clear c29);(try clear c41);(try clear c44);(try clear c44b0)
    (try clear c45);(try clear c45b0);(try clear c47);(try clear c47b0);(try clear p48);(try clear q48);(try clear hx48);(try clear c49);(try clear c49b0);(try clear c50);(try clear c52);(try clear c54);(try clear c55);(try clear c56);(try clear hcz12_0);(try clear hcz12_1);(try clear hcz12_2);(try clear hcz14_0);(try clear hcz14_1);(try clear hcz14_2);(try clear hcz16_0);(try clear hcz16_1)
    (try clear hcz16_2);(try clear hcz22_0);(try clear hcz22_1);(try clear hcz22_2);(try clear hcz24_0);(try clear hcz24_1);(try clear hcz24_2);(try clear hcz26_0);(try clear hcz26_1);(try clear hcz26_2);(try clear hcz30_0);(try clear hcz30_1);(try clear hcz30_2);(try clear hcz32_0);(try clear hcz32_1);(try clear hcz32_2);(try clear hcz42_0);(try clear hcz42_1);(try clear hcz42_2)
    (try clear hcz51_0);(try clear hcz51_1);(try clear hcz51_2);(try clear hcz53_0);(try clear hcz53_1);(try clear hcz53_2);(try clear hcz55_0);(try clear hcz55_1);(try clear hcz55_2);(try clear hcz57_0);(try clear hcz57_1);(try clear hcz57_2);(try clear hfz12_0);(try clear hfz12_1);(try clear hfz12_2);(try clear hfz14_0);(try clear hfz14_1);(try clear hfz14_2);(try clear hfz16_0)
    (try clear hfz16_1);(try clear hfz16_2);(try clear hfz22_0);(try clear hfz22_1);(try clear hfz22_2);(try clear hfz24_0);(try clear hfz24_1);(try clear hfz24_2);(try clear hfz26_0);(try clear hfz26_1);(try clear hfz26_2);(try clear hfz30_0);(try clear hfz30_1);(try clear hfz30_2);(try clear hfz32_0);(try clear hfz32_1);(try clear hfz32_2);(try clear hfz42_0);(try clear hfz42_1)
    (try clear hfz42_2);(try clear hfz51_0);(try clear hfz51_1);(try clear hfz51_2);(try clear hfz53_0);(try clear hfz53_1);(try clear hfz53_2);(try clear hfz55_0);(try clear hfz55_1);(try clear hfz55_2);(try clear hfz57_0);(try clear hfz57_1);(try clear hfz57_2);(try clear p2);(try clear p48);(try clear q48)
    obtain ⟨kq,x11_37,rfl,HA,HJ37,BK118,BK119,HB⟩:=hcut
    cases kq with
    | zero=>exact absurd HA.out (by simp [spec_l3Number.j1])
    | succ kj37 =>
     have H:=HA.out
     clear HA
     simp only [spec_l3Number.j1] at H
     have HC58:=Ak H;clear H
     go_upto_region 8 with (fail)
     go_cut [62] (fun v62 wc=>∃ (kq:Nat) (x62_57:Bool),v62=.bool x62_57∧Aside0 (spec_l3Number.j2 kq x62_57 a0_0 a0_1 a0_2=some (r1,r2,r3,r4))∧Aside0 (kq≤kj37)∧Aside0 (wc.heap[gb118]?=some (.cells #[.string a0_0,.int .i64 a0_1,.int .i64 a0_2] 31 (0,0)))∧Aside0 (wc.heap[gb119]?=some (.cells #[.string (⟨#[]⟩:ByteArray),.int .i64 0,.int .i64 0] 31 (0,0)))∧Aside0 (Below w.heap.size w wc))
     case first =>
      have H:=HC58.out
      clear HC58
      by_cases c59:x11_37<4
      ·rw [if_pos c59] at H
       have c59b0:decide (x11_37<4)=true:=decide_eq_true c59
       clear c59
       (first|rw [c59b0]|(simp only [i64_w,i32_w];rw [c59b0])|skip)
       have H':=Ak H
       clear H
       have hnb60:=NB118_119.out
       have hnc60:=NB119_118.out
       obtain ⟨hcz61_0,hcz61_1,hcz61_2,hfz61_0,hfz61_1,hfz61_2⟩:=bk3 BK118.out
       go_wp2
       go_meet
       case rel=>exact ⟨_,(decide ((wrap64 (a0_1+x11_37)) ≥ (a0_0.size:Int))),(by first|rfl|(simp;done)|(simp [*];done)),H',⟨by have:=HJ37.out;first|omega|exact Nat.le_refl _⟩,⟨by (with_reducible repeat (first|refine blk_drewN ?_ _|refine blk_drew ?_|refine blk_alloc ?_ _));exact BK118.out⟩,⟨by (with_reducible repeat (first|refine blk_drewN ?_ _|refine blk_drew ?_|refine blk_alloc ?_ _));exact BK119.out⟩,⟨by repeat (first|(with_reducible first|exact HB.out|apply below_alloc|apply pw_below_drewN|apply below_drew1|refine below_set ?_ GE118.out|refine below_set ?_ GE119.out)|exact HB.out)⟩⟩
      ·rw [if_neg c59] at H
       have c59b0:decide (x11_37<4)=false:=decide_eq_false c59
       clear c59
       (first|rw [c59b0]|(simp only [i64_w,i32_w];rw [c59b0])|skip)
       have H':=Ak H
       clear H
       go_wp2
       go_meet
       case rel=>exact ⟨_,(false),(by first|rfl|(simp;done)|(simp [*];done)),H',⟨by have:=HJ37.out;first|omega|exact Nat.le_refl _⟩,⟨by (with_reducible repeat (first|refine blk_drewN ?_ _|refine blk_drew ?_|refine blk_alloc ?_ _));exact BK118.out⟩,⟨by (with_reducible repeat (first|refine blk_drewN ?_ _|refine blk_drew ?_|refine blk_alloc ?_ _));exact BK119.out⟩,⟨by repeat (first|(with_reducible first|exact HB.out|apply below_alloc|apply pw_below_drewN|apply below_drew1|refine below_set ?_ GE118.out|refine below_set ?_ GE119.out)|exact HB.out)⟩⟩
     case rest =>
      clear HC58;(try clear c1);(try clear c2);(try clear p2);(try clear c4);(try clear c4b0);(try clear c4b1);(try clear p4);(try clear q4);(try clear hx4);(try clear c5);(try clear c6);(try clear p6);(try clear c7);(try clear c7b0);(try clear c11);(try clear c17);(try clear c17b0);(try clear c19);(try clear c21);(try clear c29);(try clear c41);(try clear c44);(try clear c44b0)
      (try clear c45);(try clear c45b0);(try clear c47);(try clear c47b0);(try clear p48);(try clear q48);(try clear hx48);(try clear c49);(try clear c49b0);(try clear c50);(try clear c52);(try clear c54);(try clear c55);(try clear c56);(try clear c59);(try clear c59b0);(try clear c60);(try clear hcz12_0);(try clear hcz12_1);(try clear hcz12_2);(try clear hcz14_0);(try clear hcz14_1)
      (try clear hcz14_2);(try clear hcz16_0);(try clear hcz16_1);(try clear hcz16_2);(try clear hcz22_0);(try clear hcz22_1);(try clear hcz22_2);(try clear hcz24_0);(try clear hcz24_1);(try clear hcz24_2);(try clear hcz26_0);(try clear hcz26_1);(try clear hcz26_2);(try clear hcz30_0);(try clear hcz30_1);(try clear hcz30_2);(try clear hcz32_0);(try clear hcz32_1);(try clear hcz32_2)
      (try clear hcz42_0);(try clear hcz42_1);(try clear hcz42_2);(try clear hcz51_0);(try clear hcz51_1);(try clear hcz51_2);(try clear hcz53_0);(try clear hcz53_1);(try clear hcz53_2);(try clear hcz55_0);(try clear hcz55_1);(try clear hcz55_2);(try clear hcz57_0);(try clear hcz57_1);(try clear hcz57_2);(try clear hcz61_0);(try clear hcz61_1);(try clear hcz61_2);(try clear hfz12_0)
      (try clear hfz12_1);(try clear hfz12_2);(try clear hfz14_0);(try clear hfz14_1);(try clear hfz14_2);(try clear hfz16_0);(try clear hfz16_1);(try clear hfz16_2);(try clear hfz22_0);(try clear hfz22_1);(try clear hfz22_2);(try clear hfz24_0);(try clear hfz24_1);(try clear hfz24_2);(try clear hfz26_0);(try clear hfz26_1);(try clear hfz26_2);(try clear hfz30_0);(try clear hfz30_1)
      (try clear hfz30_2);(try clear hfz32_0);(try clear hfz32_1);(try clear hfz32_2);(try clear hfz42_0);(try clear hfz42_1);(try clear hfz42_2);(try clear hfz51_0);(try clear hfz51_1);(try clear hfz51_2);(try clear hfz53_0);(try clear hfz53_1);(try clear hfz53_2);(try clear hfz55_0);(try clear hfz55_1);(try clear hfz55_2);(try clear hfz57_0);(try clear hfz57_1);(try clear hfz57_2)
      (try clear hfz61_0);(try clear hfz61_1);(try clear hfz61_2);(try clear p2);(try clear p4);(try clear p48);(try clear p6);(try clear q4);(try clear q48)
      obtain ⟨kq,x62_57,rfl,HA,HJ57,BK118,BK119,HB⟩:=hcut
      cases kq with
      | zero=>exact absurd HA.out (by simp [spec_l3Number.j2])
      | succ kj57 =>
       have H:=HA.out
       clear HA
       simp only [spec_l3Number.j2] at H
       by_cases c62:x62_57=true
       ·subst c62
        have H1:((spec_l3Fail.f a0_0 a0_1 a0_2 2).bind fun bt129=>(some (0,bt129.1,bt129.2.1,bt129.2.2)))=some (r1,r2,r3,r4):=by rw [if_pos rfl] at H;exact H
        clear H;have H:=H1;clear H1
        replace H:=Option.bind_eq_some_iff.mp H
        obtain ⟨⟨t129,t130,t131⟩,A630,H⟩:=H
        replace H:(some (0,t129,t130,t131))=some (r1,r2,r3,r4):=H
        have A63:=Ak A630;clear A630
        simp only [Option.some.injEq,Prod.mk.injEq] at H
        obtain ⟨rfl,rfl,rfl,rfl⟩:=H
        have hnb64:=NB118_119.out
        have hnc64:=NB119_118.out
        obtain ⟨hcz65_0,hcz65_1,hcz65_2,hfz65_0,hfz65_1,hfz65_2⟩:=bk3 BK118.out
        go_wp2_with (first|((with_reducible refine gate_callee (f:=54) rfl ?_);refine goesL_ (some 64) rfl rfl Tryd.func54 (by kernel_rfl) rfl #[.agg #[.string a0_0,.int .i64 a0_1,.int .i64 a0_2],.int .i64 2] rfl (by (try simp only [List.map_toArray,List.map_cons,List.map_nil]);first|done|rfl|(simp only [List.length_drop,List.length_take];rfl)) ?_;(with_reducible refine (spec_l3Fail.calls a0_0 a0_1 a0_2 2 t129 t130 t131 _ A63.out).mono ?_);rintro e w66 ⟨rfl,hb⟩;refine ⟨_,rfl,?_⟩;have n0_:=Ak (blk_below (g:=gb118) (by (with_reducible repeat (first|refine blk_drewN ?_ _|refine blk_drew ?_|refine blk_alloc ?_ _));exact BK118.out) hb);have n1_:=Ak (blk_below (g:=gb119) (o:=.cells #[.string (⟨#[]⟩:ByteArray),.int .i64 0,.int .i64 0] 31 (0,0)) (by (with_reducible repeat (first|refine blk_drewN ?_ _|refine blk_drew ?_|refine blk_alloc ?_ _));exact BK119.out) hb);have n2_:=Ak (below_step (by repeat (first|(with_reducible first|exact HB.out|apply below_alloc|apply pw_below_drewN|apply below_drew1|refine below_set ?_ GE118.out|refine below_set ?_ GE119.out)|exact HB.out)) hb);clear BK118;clear BK119;clear HB;have BK118:=n0_;have BK119:=n1_;have HB:=n2_;clear n0_ n1_ n2_;(try clear hb);(try clear hb2);(try clear hk);(try clear hi);obtain ⟨hcz67_0,hcz67_1,hcz67_2,hfz67_0,hfz67_1,hfz67_2⟩:=bk3 BK119.out))
        refine bodyPost_ret (results_tc rfl _ _ gb119 31 #[.string t129,.int .i64 t130,.int .i64 t131] (0,0) _ rfl (by (with_reducible repeat (first|refine blk_drewN ?_ _|refine blk_drew ?_|refine blk_alloc ?_ _));refine blk_put (cs:=#[.string t129,.int .i64 t130,.int .i64 0]) ?_ 2 _ rfl;(with_reducible repeat (first|refine blk_drewN ?_ _|refine blk_drew ?_|refine blk_alloc ?_ _));refine blk_put (cs:=#[.string t129,.int .i64 0,.int .i64 0]) ?_ 1 _ rfl;(with_reducible repeat (first|refine blk_drewN ?_ _|refine blk_drew ?_|refine blk_alloc ?_ _));refine blk_put (cs:=#[.string (⟨#[]⟩:ByteArray),.int .i64 0,.int .i64 0]) ?_ 0 _ rfl;(with_reducible repeat (first|refine blk_drewN ?_ _|refine blk_drew ?_|refine blk_alloc ?_ _));exact BK119.out) Tryd.underlying31 rfl (by kernel_rfl)) rfl ?_
        exact ⟨by first|rfl|(simp [errW_none,errW_some] <;> rfl)|(simp [*,errW_none,errW_some] <;> rfl),by repeat (first|(with_reducible first|exact HB.out|apply below_alloc|apply pw_below_drewN|apply below_drew1|refine below_set ?_ GE118.out|refine below_set ?_ GE119.out)|exact HB.out)⟩
       ·replace c62:=Bool.eq_false_iff.mpr c62
        subst c62
        have H1:((spec_l3Fail.f a0_0 a0_1 a0_2 3).bind fun bt132=>(some (0,bt132.1,bt132.2.1,bt132.2.2)))=some (r1,r2,r3,r4):=by rw [if_neg (show ¬ (false=true) by decide)] at H;exact H
        clear H;have H:=H1;clear H1
        replace H:=Option.bind_eq_some_iff.mp H
        obtain ⟨⟨t132,t133,t134⟩,A680,H⟩:=H
        replace H:(some (0,t132,t133,t134))=some (r1,r2,r3,r4):=H
        have A68:=Ak A680;clear A680
        simp only [Option.some.injEq,Prod.mk.injEq] at H
        obtain ⟨rfl,rfl,rfl,rfl⟩:=H
        have hnb69:=NB118_119.out
        have hnc69:=NB119_118.out
        obtain ⟨hcz70_0,hcz70_1,hcz70_2,hfz70_0,hfz70_1,hfz70_2⟩:=bk3 BK118.out
        go_wp2_with (first|((with_reducible refine gate_callee (f:=54) rfl ?_);refine goesL_ (some 66) rfl rfl Tryd.func54 (by kernel_rfl) rfl #[.agg #[.string a0_0,.int .i64 a0_1,.int .i64 a0_2],.int .i64 3] rfl (by (try simp only [List.map_toArray,List.map_cons,List.map_nil]);first|done|rfl|(simp only [List.length_drop,List.length_take];rfl)) ?_;(with_reducible refine (spec_l3Fail.calls a0_0 a0_1 a0_2 3 t132 t133 t134 _ A68.out).mono ?_);rintro e w71 ⟨rfl,hb⟩;refine ⟨_,rfl,?_⟩;have n0_:=Ak (blk_below (g:=gb118) (by (with_reducible repeat (first|refine blk_drewN ?_ _|refine blk_drew ?_|refine blk_alloc ?_ _));exact BK118.out) hb);have n1_:=Ak (blk_below (g:=gb119) (o:=.cells #[.string (⟨#[]⟩:ByteArray),.int .i64 0,.int .i64 0] 31 (0,0)) (by (with_reducible repeat (first|refine blk_drewN ?_ _|refine blk_drew ?_|refine blk_alloc ?_ _));exact BK119.out) hb);have n2_:=Ak (below_step (by repeat (first|(with_reducible first|exact HB.out|apply below_alloc|apply pw_below_drewN|apply below_drew1|refine below_set ?_ GE118.out|refine below_set ?_ GE119.out)|exact HB.out)) hb);clear BK118;clear BK119;clear HB;have BK118:=n0_;have BK119:=n1_;have HB:=n2_;clear n0_ n1_ n2_;(try clear hb);(try clear hb2);(try clear hk);(try clear hi);obtain ⟨hcz72_0,hcz72_1,hcz72_2,hfz72_0,hfz72_1,hfz72_2⟩:=bk3 BK119.out))
        refine bodyPost_ret (results_tc rfl _ _ gb119 31 #[.string t132,.int .i64 t133,.int .i64 t134] (0,0) _ rfl (by (with_reducible repeat (first|refine blk_drewN ?_ _|refine blk_drew ?_|refine blk_alloc ?_ _));refine blk_put (cs:=#[.string t132,.int .i64 t133,.int .i64 0]) ?_ 2 _ rfl;(with_reducible repeat (first|refine blk_drewN ?_ _|refine blk_drew ?_|refine blk_alloc ?_ _));refine blk_put (cs:=#[.string t132,.int .i64 0,.int .i64 0]) ?_ 1 _ rfl;(with_reducible repeat (first|refine blk_drewN ?_ _|refine blk_drew ?_|refine blk_alloc ?_ _));refine blk_put (cs:=#[.string (⟨#[]⟩:ByteArray),.int .i64 0,.int .i64 0]) ?_ 0 _ rfl;(with_reducible repeat (first|refine blk_drewN ?_ _|refine blk_drew ?_|refine blk_alloc ?_ _));exact BK119.out) Tryd.underlying31 rfl (by kernel_rfl)) rfl ?_
        exact ⟨by first|rfl|(simp [errW_none,errW_some] <;> rfl)|(simp [*,errW_none,errW_some] <;> rfl),by repeat (first|(with_reducible first|exact HB.out|apply below_alloc|apply pw_below_drewN|apply below_drew1|refine below_set ?_ GE118.out|refine below_set ?_ GE119.out)|exact HB.out)⟩
 ·rw [if_neg c4] at H
  have c4b0:(a0_2 == 0)=false:=beq_eq_false_iff_ne.mpr c4
  have c4b1:(a0_2 != 0)=true:=bne_iff_ne.mpr c4
  simp only [Option.some.injEq,Prod.mk.injEq] at H
  obtain ⟨rfl,rfl,rfl,rfl⟩:=H
  go_enter Tryd.func19,Tryd.ntmps19
  try go_wp2_with (first|((with_reducible refine gate_dst (N:=3) rfl ?_);(try (refine gate_guard (by rfl) ?_;dsimp only));refine box_event ?hg (N:=3) ?hd (cs:=#[.string a0_0,.int .i64 a0_1,.int .i64 a0_2]) (t:=31) ?hr ?_;(case hd=>rfl);(case hg=>rfl);(case hr=>first|(go_simp;done)|(go_simp;rfl));intro gb118 hg w73 hbox hb;have n0_:=Ak (below_step (by repeat (first|(with_reducible first|exact HB.out|apply below_alloc|apply pw_below_drewN|apply below_drew1)|exact HB.out)) hb);have n1_:=Ak (hbox);have n2_:=Ak ((by rw [hg];exact (below_size (by repeat (first|(with_reducible first|exact HB.out|apply below_alloc|apply pw_below_drewN|apply below_drew1)|exact HB.out))):w.heap.size≤gb118));have n3_:=Ak ((by rw [hg];exact (below_size (by repeat (first|(with_reducible first|exact HB.out|apply below_alloc|apply pw_below_drewN|apply below_drew1)|exact HB.out))):w.heap.size≤gb118));clear HB;have HB:=n0_;have BK118:=n1_;have GW118:=n2_;have GE118:=n3_;clear n0_ n1_ n2_ n3_;clear hb hbox hg)|((with_reducible refine gate_dst (N:=7) rfl ?_);(try (refine gate_guard (by rfl) ?_;dsimp only));refine box_event ?hg (N:=7) ?hd (cs:=#[.string (⟨#[]⟩:ByteArray),.int .i64 0,.int .i64 0]) (t:=31) ?hr ?_;(case hd=>rfl);(case hg=>rfl);(case hr=>first|(go_simp;done)|(go_simp;rfl));intro gb119 hg w74 hbox hb;have n0_:=Ak (blk_below (g:=gb118) (by (with_reducible repeat (first|refine blk_drewN ?_ _|refine blk_drew ?_|refine blk_alloc ?_ _));exact BK118.out) hb);have n1_:=Ak (below_step (by repeat (first|(with_reducible first|exact HB.out|apply below_alloc|apply pw_below_drewN|apply below_drew1|refine below_set ?_ GE118.out)|exact HB.out)) hb);have n2_:=Ak (hbox);have n3_:=Ak ((by rw [hg];exact (below_size (by repeat (first|(with_reducible first|exact HB.out|apply below_alloc|apply pw_below_drewN|apply below_drew1|refine below_set ?_ GE118.out)|exact HB.out))):w.heap.size≤gb119));have n4_:=Ak ((by rw [hg];exact (below_size (by repeat (first|(with_reducible first|exact HB.out|apply below_alloc|apply pw_below_drewN|apply below_drew1|refine below_set ?_ GE118.out)|exact HB.out))):w.heap.size≤gb119));have n5_:=Ak ((by rw [hg];exact Nat.ne_of_lt (blk_lt (g:=gb118) (by (with_reducible repeat (first|refine blk_drewN ?_ _|refine blk_drew ?_|refine blk_alloc ?_ _));exact BK118.out)):gb118≠gb119));have n6_:=Ak ((by rw [hg];exact Nat.ne_of_gt (blk_lt (g:=gb118) (by (with_reducible repeat (first|refine blk_drewN ?_ _|refine blk_drew ?_|refine blk_alloc ?_ _));exact BK118.out)):gb119≠gb118));clear BK118;clear HB;have BK118:=n0_;have HB:=n1_;have BK119:=n2_;have GW119:=n3_;have GE119:=n4_;have NB118_119:=n5_;have NB119_118:=n6_;clear n0_ n1_ n2_ n3_ n4_ n5_ n6_;clear hb hbox hg;have hnb75:=NB118_119.out;have hnc75:=NB119_118.out;obtain ⟨hcz76_0,hcz76_1,hcz76_2,hfz76_0,hfz76_1,hfz76_2⟩:=bk3 BK118.out))
  have n0_:=Ak (blk_drew BK118.out)
  have n1_:=Ak (blk_drew BK119.out)
  have n2_:=Ak (below_drew1 HB.out)
  clear BK118;clear BK119;clear HB;have BK118:=n0_;have BK119:=n1_;have HB:=n2_;clear n0_ n1_ n2_
  refine start_ (n:=3) (S:=fun w'=>w'.cell? ⟨gb118,0,none⟩=some (.string a0_0)∧w'.cell? ⟨gb118,1,none⟩=some (.int .i64 a0_1)∧w'.cell? ⟨gb118,2,none⟩=some (.int .i64 a0_2)) (ds:=[]) #[false,false,false] (by kernel_rfl) rfl rfl ⟨(blk_cell BK118.out 0).trans rfl,(blk_cell BK118.out 1).trans rfl,(blk_cell BK118.out 2).trans rfl⟩ (fun hHeld=>?_)
  generalize w74.drew=w77 at BK118 BK119 HB hHeld ⊢
  refine pure_ (i:=1) (N:=some 6) (v:=?_) (a':=?_) #[false,true,false] rfl rfl (by kernel_rfl) (fun _ _ _ h=>h) (Or.inl ⟨by rfl,?_⟩) ?_ ?_
  rotate_left
  ·intro w'
   go_simp
   with_reducible rfl
  rotate_left
  ·simp only [Act.put,List.setIfInBounds_toArray,List.set_cons_zero,List.set_cons_succ,i64_w,i32_w]
   rfl
  refine take_ (i:=0) (N:=some 15) (v:=?_) (a':=?_) #[true,true,false] rfl rfl (by kernel_rfl) (fun _ _ _ h=>h) (Or.inl ⟨by rfl,?_⟩) hHeld ?_ ?_
  rotate_left
  ·rintro w' ⟨s0,s1,s2⟩
   go_simp
   with_reducible rfl
  rotate_left
  ·simp only [Act.put,List.setIfInBounds_toArray,List.set_cons_zero,List.set_cons_succ,i64_w,i32_w]
   rfl
  refine one_ (i:=2) (N:=none) #[true,true,true] rfl rfl (by kernel_rfl) (by decide) (fun K hK=>?_)
  have hs78:w77.cell? ⟨gb119,0,none⟩=some (.string (⟨#[]⟩:ByteArray)):=(blk_cell BK119.out 0).trans rfl
  have hfs78:=blk_frozen BK119.out 0
  have hns78_0:=NB118_119.out
  have hms78_0:=NB119_118.out
  have hs79:w77.cell? ⟨gb119,1,none⟩=some (.int .i64 0):=(blk_cell BK119.out 1).trans rfl
  have hfs79:=blk_frozen BK119.out 1
  have hns79_0:=NB118_119.out
  have hms79_0:=NB119_118.out
  have hs80:w77.cell? ⟨gb119,2,none⟩=some (.int .i64 0):=(blk_cell BK119.out 2).trans rfl
  have hfs80:=blk_frozen BK119.out 2
  have hns80_0:=NB118_119.out
  have hms80_0:=NB119_118.out
  refine skip_ (w1:=?_) (by rfl) rfl ?_ ?_
  rotate_left
  ·go_simp
   rfl
  refine hK.out _ _ ⟨((cell_far (p:=⟨gb119,_,none⟩) NB118_119.out _).trans (((cell_far (p:=⟨gb119,_,none⟩) NB118_119.out _).trans (((cell_far (p:=⟨gb119,_,none⟩) NB118_119.out _).trans (hHeld.1)))))),((cell_far (p:=⟨gb119,_,none⟩) NB118_119.out _).trans (((cell_far (p:=⟨gb119,_,none⟩) NB118_119.out _).trans (((cell_far (p:=⟨gb119,_,none⟩) NB118_119.out _).trans (hHeld.2.1)))))),((cell_far (p:=⟨gb119,_,none⟩) NB118_119.out _).trans (((cell_far (p:=⟨gb119,_,none⟩) NB118_119.out _).trans (((cell_far (p:=⟨gb119,_,none⟩) NB118_119.out _).trans (hHeld.2.2))))))⟩ (fun hHeld=>?_)
  clear hK K
  refine done_ (by kernel_rfl) ?_
  try go_wp2
  refine bodyPost_ret (results_tc rfl _ _ gb119 31 #[.string a0_0,.int .i64 a0_1,.int .i64 a0_2] (0,0) _ rfl (by (with_reducible repeat (first|refine blk_drewN ?_ _|refine blk_drew ?_|refine blk_alloc ?_ _));refine blk_put (cs:=#[.string a0_0,.int .i64 a0_1,.int .i64 0]) ?_ 2 _ rfl;(with_reducible repeat (first|refine blk_drewN ?_ _|refine blk_drew ?_|refine blk_alloc ?_ _));refine blk_put (cs:=#[.string a0_0,.int .i64 0,.int .i64 0]) ?_ 1 _ rfl;(with_reducible repeat (first|refine blk_drewN ?_ _|refine blk_drew ?_|refine blk_alloc ?_ _));refine blk_put (cs:=#[.string (⟨#[]⟩:ByteArray),.int .i64 0,.int .i64 0]) ?_ 0 _ rfl;(with_reducible repeat (first|refine blk_drewN ?_ _|refine blk_drew ?_|refine blk_alloc ?_ _));exact BK119.out) Tryd.underlying31 rfl (by kernel_rfl)) rfl ?_
  exact ⟨by first|rfl|(simp [errW_none,errW_some] <;> rfl)|(simp [*,errW_none,errW_some] <;> rfl),by repeat (first|(with_reducible first|exact HB.out|apply below_alloc|apply pw_below_drewN|apply below_drew1|refine below_set ?_ GE118.out|refine below_set ?_ GE119.out)|exact HB.out)⟩
end Go.Proofs.YtiekodnojmkfaaaDoor.PFnExactLoad
