-- Printed by the kit's print or by this session's program, then cut and tightened by it.
import Derived.Test.YtiekodnojmkfaaaDoorPFnExactLoadx0
import Derived.Test.YtiekodnojmkfaaaDoorPFnExactLoadx1
import Derived.Test.YtiekodnojmkfaaaDoorPFnExactLoadx2
namespace Go.Proofs.YtiekodnojmkfaaaDoor.PFnExactLoad
open Go.RowKit Go.Proofs.YtiekodnojmkfaaaDoorW.PrintWords Go.Proofs.YtiekodnojmkfaaaDoorW.PrintLast Go.Proofs.YtiekodnojmkfaaaDoorW.PrintMore
attribute [local go_sem] max2_int min2_int max_two min_two max_three min_three max_four min_four   -- for this text's walks alone
set_option linter.unusedVariables false
set_option linter.unusedSimpArgs false
def spec_l3Bytes.f (a0_0:ByteArray) (a0_1:Int) (a0_2:Int) (a1:Int):Option (ByteArray×ByteArray×Int×Int):=if a0_2=0 then (if a1 > (wrap64 ((a0_0.size:Int)-a0_1)) then ((spec_l3Fail.f a0_0 a0_1 a0_2 2).bind fun bt137=>(some ((⟨#[]⟩:ByteArray),bt137.1,bt137.2.1,bt137.2.2))) else (if 0≤(wrap64 ((wrap64 (a0_1+a1))-a1)) then (if (wrap64 ((wrap64 (a0_1+a1))-a1))≤(wrap64 (a0_1+a1)) then (if (wrap64 (a0_1+a1))≤(a0_0.size:Int) then (some (a0_0.extract ((wrap64 ((wrap64 (a0_1+a1))-a1)):Int).toNat ((wrap64 (a0_1+a1)):Int).toNat,a0_0,wrap64 (a0_1+a1),a0_2)) else (none)) else (none)) else (none))) else (some ((⟨#[]⟩:ByteArray),a0_0,a0_1,a0_2))
def spec_l3Bytes.T6:Bool×List (List Nat×List Nat):=(true,[([],[]),([0],[0]),([],[]),([2],[2]),([],[]),([3,4],[3,4]),([],[]),([6],[6]),([1,5,7],[1,5,7]),([],[]),([8,0,1,2,3,4,5,6,7,8],[8]),([9,10,0,1,2,3,4,5,6,7,8,9,10],[9])])
def spec_l3Bytes.B6:List Nat:=[0,1,0,4,0,28,0,64,255,0,511,2047]
theorem spec_l3Bytes.tab6:rtab .any (opsOf Tryd.f20 6)=spec_l3Bytes.T6:=by kernel_rfl
theorem spec_l3Bytes.bits6:waitsOk spec_l3Bytes.T6.2 spec_l3Bytes.B6=true:=by kernel_rfl
set_option maxHeartbeats 8000000 in
set_option maxRecDepth 100000 in
theorem spec_l3Bytes.calls (a0_0:ByteArray) (a0_1:Int) (a0_2:Int) (a1:Int) (r1:ByteArray) (r2:ByteArray) (r3:Int) (r4:Int) (w:World) (h:spec_l3Bytes.f a0_0 a0_1 a0_2 a1=some (r1,r2,r3,r4)) :
  Calls Tryd.prog 20 #[.agg #[.string a0_0,.int .i64 a0_1,.int .i64 a0_2],.int .i64 a1] w fun e w'=>e=.returned (.tuple #[.string r1,.agg #[.string r2,.int .i64 r3,.int .i64 r4]])∧Below w.heap.size w w':=by
 have hu31:=Tryd.underlying31
 have HB:=Ak (Below.refl w.heap.size w)
 have H:(if a0_2=0 then (if a1 > (wrap64 ((a0_0.size:Int)-a0_1)) then ((spec_l3Fail.f a0_0 a0_1 a0_2 2).bind fun bt137=>(some ((⟨#[]⟩:ByteArray),bt137.1,bt137.2.1,bt137.2.2))) else (if 0≤(wrap64 ((wrap64 (a0_1+a1))-a1)) then (if (wrap64 ((wrap64 (a0_1+a1))-a1))≤(wrap64 (a0_1+a1)) then (if (wrap64 (a0_1+a1))≤(a0_0.size:Int) then (some (a0_0.extract ((wrap64 ((wrap64 (a0_1+a1))-a1)):Int).toNat ((wrap64 (a0_1+a1)):Int).toNat,a0_0,wrap64 (a0_1+a1),a0_2)) else (none)) else (none)) else (none))) else (some ((⟨#[]⟩:ByteArray),a0_0,a0_1,a0_2)))=some (r1,r2,r3,r4):=h
 clear h
 by_cases c3:a0_2=0
 ·rw [if_pos c3] at H
  have c3b0:(a0_2 == 0)=true:=beq_iff_eq.mpr c3
  have c3b1:(a0_2 != 0)=false:=bne_eq_false_iff_eq.mpr c3
  clear c3
  by_cases c4:a1 > (wrap64 ((a0_0.size:Int)-a0_1))
  ·rw [if_pos c4] at H
   have c4b0:decide ((wrap64 ((a0_0.size:Int)-a0_1))<a1)=true:=decide_eq_true c4
   clear c4
   replace H:=Option.bind_eq_some_iff.mp H
   obtain ⟨⟨t137,t138,t139⟩,A50,H⟩:=H
   replace H:(some ((⟨#[]⟩:ByteArray),t137,t138,t139))=some (r1,r2,r3,r4):=H
   have A5:=Ak A50;clear A50
   simp only [Option.some.injEq,Prod.mk.injEq] at H
   obtain ⟨rfl,rfl,rfl,rfl⟩:=H
   go_enter Tryd.func20,Tryd.ntmps20
   go_wp2_with (first|((with_reducible refine gate_dst (N:=2) rfl ?_);refine box_event ?hg (N:=2) ?hd (cs:=#[.string a0_0,.int .i64 a0_1,.int .i64 a0_2]) (t:=31) ?hr ?_;(case hd=>rfl);(case hg=>rfl);(case hr=>first|(go_simp;done)|(go_simp;rfl));intro gb135 hg w6 hbox hb;have n0_:=Ak (below_step (by repeat (first|(with_reducible first|exact HB.out|apply below_alloc|apply pw_below_drewN|apply below_drew1)|exact HB.out)) hb);have n1_:=Ak (hbox);have n2_:=Ak ((by rw [hg];exact (below_size (by repeat (first|(with_reducible first|exact HB.out|apply below_alloc|apply pw_below_drewN|apply below_drew1)|exact HB.out))):w.heap.size≤gb135));have n3_:=Ak ((by rw [hg];exact (below_size (by repeat (first|(with_reducible first|exact HB.out|apply below_alloc|apply pw_below_drewN|apply below_drew1)|exact HB.out))):w.heap.size≤gb135));clear HB;have HB:=n0_;have BK135:=n1_;have GW135:=n2_;have GE135:=n3_;clear n0_ n1_ n2_ n3_;clear hb hbox hg)|((with_reducible refine gate_dst (N:=5) rfl ?_);refine box_event ?hg (N:=5) ?hd (cs:=#[.string (⟨#[]⟩:ByteArray),.int .i64 0,.int .i64 0]) (t:=31) ?hr ?_;(case hd=>rfl);(case hg=>rfl);(case hr=>first|(go_simp;done)|(go_simp;rfl));intro gb136 hg w7 hbox hb;have n0_:=Ak (blk_below (g:=gb135) (by (with_reducible repeat (first|refine blk_drewN ?_ _|refine blk_drew ?_|refine blk_alloc ?_ _));exact BK135.out) hb);have n1_:=Ak (below_step (by repeat (first|(with_reducible first|exact HB.out|apply below_alloc|apply pw_below_drewN|apply below_drew1|refine below_set ?_ GE135.out)|exact HB.out)) hb);have n2_:=Ak (hbox);have n3_:=Ak ((by rw [hg];exact (below_size (by repeat (first|(with_reducible first|exact HB.out|apply below_alloc|apply pw_below_drewN|apply below_drew1|refine below_set ?_ GE135.out)|exact HB.out))):w.heap.size≤gb136));have n4_:=Ak ((by rw [hg];exact (below_size (by repeat (first|(with_reducible first|exact HB.out|apply below_alloc|apply pw_below_drewN|apply below_drew1|refine below_set ?_ GE135.out)|exact HB.out))):w.heap.size≤gb136));have n5_:=Ak ((by rw [hg];exact Nat.ne_of_lt (blk_lt (g:=gb135) (by (with_reducible repeat (first|refine blk_drewN ?_ _|refine blk_drew ?_|refine blk_alloc ?_ _));exact BK135.out)):gb135≠gb136));have n6_:=Ak ((by rw [hg];exact Nat.ne_of_gt (blk_lt (g:=gb135) (by (with_reducible repeat (first|refine blk_drewN ?_ _|refine blk_drew ?_|refine blk_alloc ?_ _));exact BK135.out)):gb136≠gb135));clear BK135;clear HB;have BK135:=n0_;have HB:=n1_;have BK136:=n2_;have GW136:=n3_;have GE136:=n4_;have NB135_136:=n5_;have NB136_135:=n6_;clear n0_ n1_ n2_ n3_ n4_ n5_ n6_;clear hb hbox hg;have hnb8:=NB135_136.out;have hnc8:=NB136_135.out;obtain ⟨hcz9_0,hcz9_1,hcz9_2,hfz9_0,hfz9_1,hfz9_2⟩:=bk3 BK135.out)|((with_reducible refine gate_callee (f:=54) rfl ?_);refine goesL_ (some 19) rfl rfl Tryd.func54 (by kernel_rfl) rfl #[.agg #[.string a0_0,.int .i64 a0_1,.int .i64 a0_2],.int .i64 2] rfl (by (try simp only [List.map_toArray,List.map_cons,List.map_nil]);first|done|rfl|(simp only [List.length_drop,List.length_take];rfl)) ?_;(with_reducible refine (spec_l3Fail.calls a0_0 a0_1 a0_2 2 t137 t138 t139 _ A5.out).mono ?_);rintro e w10 ⟨rfl,hb⟩;refine ⟨_,rfl,?_⟩;have n0_:=Ak (blk_below (g:=gb135) (by (with_reducible repeat (first|refine blk_drewN ?_ _|refine blk_drew ?_|refine blk_alloc ?_ _));exact BK135.out) hb);have n1_:=Ak (blk_below (g:=gb136) (o:=.cells #[.string (⟨#[]⟩:ByteArray),.int .i64 0,.int .i64 0] 31 (0,0)) (by (with_reducible repeat (first|refine blk_drewN ?_ _|refine blk_drew ?_|refine blk_alloc ?_ _));exact BK136.out) hb);have n2_:=Ak (below_step (by repeat (first|(with_reducible first|exact HB.out|apply below_alloc|apply pw_below_drewN|apply below_drew1|refine below_set ?_ GE135.out|refine below_set ?_ GE136.out)|exact HB.out)) hb);clear BK135;clear BK136;clear HB;have BK135:=n0_;have BK136:=n1_;have HB:=n2_;clear n0_ n1_ n2_;(try clear hb);(try clear hb2);(try clear hk);(try clear hi);obtain ⟨hcz11_0,hcz11_1,hcz11_2,hfz11_0,hfz11_1,hfz11_2⟩:=bk3 BK136.out))
   refine bodyPost_ret (results_tc rfl _ _ gb136 31 #[.string t137,.int .i64 t138,.int .i64 t139] (0,0) _ rfl (by (with_reducible repeat (first|refine blk_drewN ?_ _|refine blk_drew ?_|refine blk_alloc ?_ _));refine blk_put (cs:=#[.string t137,.int .i64 t138,.int .i64 0]) ?_ 2 _ rfl;(with_reducible repeat (first|refine blk_drewN ?_ _|refine blk_drew ?_|refine blk_alloc ?_ _));refine blk_put (cs:=#[.string t137,.int .i64 0,.int .i64 0]) ?_ 1 _ rfl;(with_reducible repeat (first|refine blk_drewN ?_ _|refine blk_drew ?_|refine blk_alloc ?_ _));refine blk_put (cs:=#[.string (⟨#[]⟩:ByteArray),.int .i64 0,.int .i64 0]) ?_ 0 _ rfl;(with_reducible repeat (first|refine blk_drewN ?_ _|refine blk_drew ?_|refine blk_alloc ?_ _));exact BK136.out) Tryd.underlying31 rfl (by kernel_rfl)) rfl ?_
   exact ⟨by first|rfl|(simp [errW_none,errW_some] <;> rfl)|(simp [*,errW_none,errW_some] <;> rfl),by repeat (first|(with_reducible first|exact HB.out|apply below_alloc|apply pw_below_drewN|apply below_drew1|refine below_set ?_ GE135.out|refine below_set ?_ GE136.out)|exact HB.out)⟩
  ·rw [if_neg c4] at H
   have c4b0:decide ((wrap64 ((a0_0.size:Int)-a0_1))<a1)=false:=decide_eq_false c4
   clear c4
   obtain ⟨ji12,hji12⟩:∃ j_:Int,(wrap64 ((wrap64 (a0_1+a1))-a1))=j_:=⟨_,rfl⟩
   replace H:(if 0≤(ji12) then (if (ji12)≤(wrap64 (a0_1+a1)) then (if (wrap64 (a0_1+a1))≤(a0_0.size:Int) then (some (a0_0.extract ((ji12):Int).toNat ((wrap64 (a0_1+a1)):Int).toNat,a0_0,wrap64 (a0_1+a1),a0_2)) else (none)) else (none)) else (none))=some (r1,r2,r3,r4):=by first|(rw [hji12] at H;exact H)|(simp only [hji12] at H ⊢;exact H)
   have hji12w:(IntKind.i64.wrap ((wrap64 (a0_1+a1))-a1))=ji12:=(i64_w _).trans hji12
   by_cases c13:0≤(ji12)
   ·rw [if_pos c13] at H
    have c13b0:=eq_true c13
    have c13b1:decide (0≤(ji12))=true:=decide_eq_true c13
    clear c13
    by_cases c14:(ji12)≤(wrap64 (a0_1+a1))
    ·rw [if_pos c14] at H
     have c14b0:=eq_true c14
     have c14b1:decide ((ji12)≤(wrap64 (a0_1+a1)))=true:=decide_eq_true c14
     by_cases c15:(wrap64 (a0_1+a1))≤(a0_0.size:Int)
     ·rw [if_pos c15] at H
      have c15b0:=eq_true c15
      have c15b1:decide ((wrap64 (a0_1+a1))≤(a0_0.size:Int))=true:=decide_eq_true c15
      simp only [Option.some.injEq,Prod.mk.injEq] at H
      obtain ⟨rfl,rfl,rfl,rfl⟩:=H
      go_enter Tryd.func20,Tryd.ntmps20
      try go_wp2_with (first|((with_reducible refine gate_dst (N:=2) rfl ?_);refine box_event ?hg (N:=2) ?hd (cs:=#[.string a0_0,.int .i64 a0_1,.int .i64 a0_2]) (t:=31) ?hr ?_;(case hd=>rfl);(case hg=>rfl);(case hr=>first|(go_simp;done)|(go_simp;rfl));intro gb135 hg w16 hbox hb;have n0_:=Ak (below_step (by repeat (first|(with_reducible first|exact HB.out|apply below_alloc|apply pw_below_drewN|apply below_drew1)|exact HB.out)) hb);have n1_:=Ak (hbox);have n2_:=Ak ((by rw [hg];exact (below_size (by repeat (first|(with_reducible first|exact HB.out|apply below_alloc|apply pw_below_drewN|apply below_drew1)|exact HB.out))):w.heap.size≤gb135));have n3_:=Ak ((by rw [hg];exact (below_size (by repeat (first|(with_reducible first|exact HB.out|apply below_alloc|apply pw_below_drewN|apply below_drew1)|exact HB.out))):w.heap.size≤gb135));clear HB;have HB:=n0_;have BK135:=n1_;have GW135:=n2_;have GE135:=n3_;clear n0_ n1_ n2_ n3_;clear hb hbox hg)|((with_reducible refine gate_dst (N:=5) rfl ?_);refine box_event ?hg (N:=5) ?hd (cs:=#[.string (⟨#[]⟩:ByteArray),.int .i64 0,.int .i64 0]) (t:=31) ?hr ?_;(case hd=>rfl);(case hg=>rfl);(case hr=>first|(go_simp;done)|(go_simp;rfl));intro gb136 hg w17 hbox hb;have n0_:=Ak (blk_below (g:=gb135) (by (with_reducible repeat (first|refine blk_drewN ?_ _|refine blk_drew ?_|refine blk_alloc ?_ _));exact BK135.out) hb);have n1_:=Ak (below_step (by repeat (first|(with_reducible first|exact HB.out|apply below_alloc|apply pw_below_drewN|apply below_drew1|refine below_set ?_ GE135.out)|exact HB.out)) hb);have n2_:=Ak (hbox);have n3_:=Ak ((by rw [hg];exact (below_size (by repeat (first|(with_reducible first|exact HB.out|apply below_alloc|apply pw_below_drewN|apply below_drew1|refine below_set ?_ GE135.out)|exact HB.out))):w.heap.size≤gb136));have n4_:=Ak ((by rw [hg];exact (below_size (by repeat (first|(with_reducible first|exact HB.out|apply below_alloc|apply pw_below_drewN|apply below_drew1|refine below_set ?_ GE135.out)|exact HB.out))):w.heap.size≤gb136));have n5_:=Ak ((by rw [hg];exact Nat.ne_of_lt (blk_lt (g:=gb135) (by (with_reducible repeat (first|refine blk_drewN ?_ _|refine blk_drew ?_|refine blk_alloc ?_ _));exact BK135.out)):gb135≠gb136));have n6_:=Ak ((by rw [hg];exact Nat.ne_of_gt (blk_lt (g:=gb135) (by (with_reducible repeat (first|refine blk_drewN ?_ _|refine blk_drew ?_|refine blk_alloc ?_ _));exact BK135.out)):gb136≠gb135));clear BK135;clear HB;have BK135:=n0_;have HB:=n1_;have BK136:=n2_;have GW136:=n3_;have GE136:=n4_;have NB135_136:=n5_;have NB136_135:=n6_;clear n0_ n1_ n2_ n3_ n4_ n5_ n6_;clear hb hbox hg;have hnb18:=NB135_136.out;have hnc18:=NB136_135.out;obtain ⟨hcz19_0,hcz19_1,hcz19_2,hfz19_0,hfz19_1,hfz19_2⟩:=bk3 BK135.out))
      have n0_:Aside0 ((w17.setCell ⟨gb135,1,none⟩ (.int .i64 (wrap64 (a0_1+a1)))).heap[gb135]?=some (.cells #[.string a0_0,.int .i64 (wrap64 (a0_1+a1)),.int .i64 a0_2] 31 (0,0))):=⟨by (with_reducible repeat (first|refine blk_drewN ?_ _|refine blk_drew ?_|refine blk_alloc ?_ _));refine blk_put (cs:=#[.string a0_0,.int .i64 a0_1,.int .i64 a0_2]) ?_ 1 _ rfl;(with_reducible repeat (first|refine blk_drewN ?_ _|refine blk_drew ?_|refine blk_alloc ?_ _));exact BK135.out⟩
      have n1_:Aside0 ((w17.setCell ⟨gb135,1,none⟩ (.int .i64 (wrap64 (a0_1+a1)))).heap[gb136]?=some (.cells #[.string (⟨#[]⟩:ByteArray),.int .i64 0,.int .i64 0] 31 (0,0))):=⟨by (with_reducible repeat (first|refine blk_drewN ?_ _|refine blk_drew ?_|refine blk_alloc ?_ _));refine blk_far ?_ NB136_135.out _;(with_reducible repeat (first|refine blk_drewN ?_ _|refine blk_drew ?_|refine blk_alloc ?_ _));exact BK136.out⟩
      have n2_:Aside0 (Below w.heap.size w (w17.setCell ⟨gb135,1,none⟩ (.int .i64 (wrap64 (a0_1+a1))))):=⟨by repeat (first|(with_reducible first|exact HB.out|apply below_alloc|apply pw_below_drewN|apply below_drew1|refine below_set ?_ GE135.out|refine below_set ?_ GE136.out)|exact HB.out)⟩
      (try clear BK135)
      (try clear BK136)
      (try clear HB)
      generalize (w17.setCell ⟨gb135,1,none⟩ (.int .i64 (wrap64 (a0_1+a1))))=w20 at n0_ n1_ n2_ ⊢
      have BK135:=n0_;have BK136:=n1_;have HB:=n2_;clear n0_ n1_ n2_
      have n0_:=Ak (blk_drew BK135.out)
      have n1_:=Ak (blk_drew BK136.out)
      have n2_:=Ak (below_drew1 HB.out)
      clear BK135;clear BK136;clear HB;have BK135:=n0_;have BK136:=n1_;have HB:=n2_;clear n0_ n1_ n2_
      refine start_ (n:=12) (S:=fun w'=>w'.cell? ⟨gb135,0,none⟩=some (.string a0_0)∧w'.cell? ⟨gb135,1,none⟩=some (.int .i64 (wrap64 (a0_1+a1)))∧w'.cell? ⟨gb135,2,none⟩=some (.int .i64 a0_2)) (ds:=[]) #[false,false,false,false,false,false,false,false,false,false,false,false] (by kernel_rfl) rfl rfl ⟨(blk_cell BK135.out 0).trans rfl,(blk_cell BK135.out 1).trans rfl,(blk_cell BK135.out 2).trans rfl⟩ (fun hHeld=>?_);refine with_tabW spec_l3Bytes.tab6 spec_l3Bytes.bits6 (fun HT_ HW_=>?_)
      generalize w20.drew=w21 at BK135 BK136 HB hHeld ⊢
      refine pure_ (i:=0) (N:=some 25) (v:=?_) (a':=?_) #[true,false,false,false,false,false,false,false,false,false,false,false] rfl rfl (any_of HT_.out (by kernel_rfl)) (fun _ _ _ h=>h) (Or.inl ⟨by rfl,?_⟩) ?_ ?_
      rotate_left
      ·intro w'
       go_simp
       with_reducible rfl
      rotate_left
      ·simp only [Act.put,List.setIfInBounds_toArray,List.set_cons_zero,List.set_cons_succ,i64_w,i32_w]
       rfl
      refine pure_ (i:=2) (N:=some 27) (v:=?_) (a':=?_) #[true,false,true,false,false,false,false,false,false,false,false,false] rfl rfl (any_of HT_.out (by kernel_rfl)) (fun _ _ _ h=>h) (Or.inl ⟨by rfl,?_⟩) ?_ ?_
      rotate_left
      ·intro w'
       go_simp
       with_reducible rfl
      rotate_left
      ·simp only [Act.put,List.setIfInBounds_toArray,List.set_cons_zero,List.set_cons_succ,i64_w,i32_w]
       rfl
      refine pure_ (i:=4) (N:=some 29) (v:=?_) (a':=?_) #[true,false,true,false,true,false,false,false,false,false,false,false] rfl rfl (any_of HT_.out (by kernel_rfl)) (fun _ _ _ h=>h) (Or.inl ⟨by rfl,?_⟩) ?_ ?_
      rotate_left
      ·intro w'
       go_simp
       with_reducible rfl
      rotate_left
      ·simp only [Act.put,List.setIfInBounds_toArray,List.set_cons_zero,List.set_cons_succ,i64_w,i32_w]
       rfl
      refine pure_ (i:=6) (N:=some 31) (v:=?_) (a':=?_) #[true,false,true,false,true,false,true,false,false,false,false,false] rfl rfl (any_of HT_.out (by kernel_rfl)) (fun _ _ _ h=>h) (Or.inl ⟨by rfl,?_⟩) ?_ ?_
      rotate_left
      ·intro w'
       go_simp
       with_reducible rfl
      rotate_left
      ·simp only [Act.put,List.setIfInBounds_toArray,List.set_cons_zero,List.set_cons_succ,i64_w,i32_w]
       rfl
      refine take_ (i:=1) (N:=some 26) (v:=?_) (a':=?_) #[true,true,true,false,true,false,true,false,false,false,false,false] rfl rfl (take_ofW HT_.out HW_.out (by kernel_rfl)) (fun _ _ _ h=>h) (Or.inl ⟨by rfl,?_⟩) hHeld ?_ ?_
      rotate_left
      ·rintro w' ⟨s0,s1,s2⟩
       go_simp
       with_reducible rfl
      rotate_left
      ·simp only [Act.put,List.setIfInBounds_toArray,List.set_cons_zero,List.set_cons_succ,i64_w,i32_w]
       rfl
      refine take_ (i:=3) (N:=some 28) (v:=?_) (a':=?_) #[true,true,true,true,true,false,true,false,false,false,false,false] rfl rfl (take_ofW HT_.out HW_.out (by kernel_rfl)) (fun _ _ _ h=>h) (Or.inl ⟨by rfl,?_⟩) hHeld ?_ ?_
      rotate_left
      ·rintro w' ⟨s0,s1,s2⟩
       go_simp
       with_reducible rfl
      rotate_left
      ·simp only [Act.put,List.setIfInBounds_toArray,List.set_cons_zero,List.set_cons_succ,i64_w,i32_w]
       rfl
      refine pure_ (i:=5) (N:=some 30) (v:=?_) (a':=?_) #[true,true,true,true,true,true,true,false,false,false,false,false] rfl rfl (any_of HT_.out (by kernel_rfl)) (fun _ _ _ h=>h) (Or.inl ⟨by rfl,?_⟩) ?_ ?_
      rotate_left
      ·intro w'
       go_simp
       with_reducible rfl
      rotate_left
      ·simp only [Act.put,List.setIfInBounds_toArray,List.set_cons_zero,List.set_cons_succ,i64_w,i32_w]
       rfl
      refine take_ (i:=7) (N:=some 32) (v:=?_) (a':=?_) #[true,true,true,true,true,true,true,true,false,false,false,false] rfl rfl (take_ofW HT_.out HW_.out (by kernel_rfl)) (fun _ _ _ h=>h) (Or.inl ⟨by rfl,?_⟩) hHeld ?_ ?_
      rotate_left
      ·rintro w' ⟨s0,s1,s2⟩
       go_simp
       with_reducible rfl
      rotate_left
      ·simp only [Act.put,List.setIfInBounds_toArray,List.set_cons_zero,List.set_cons_succ,i64_w,i32_w]
       rfl
      refine pure_ (i:=8) (N:=some 33) (v:=?_) (a':=?_) #[true,true,true,true,true,true,true,true,true,false,false,false] rfl rfl (any_of HT_.out (by kernel_rfl)) (fun _ _ _ h=>h) (Or.inl ⟨by rfl,?_⟩) ?_ ?_
      rotate_left
      ·intro w'
       go_simp
       with_reducible rfl
      rotate_left
      ·simp only [Act.put,List.setIfInBounds_toArray,List.set_cons_zero,List.set_cons_succ,i64_w,i32_w]
       rfl
      refine pure_ (i:=10) (N:=some 4) (v:=?_) (a':=?_) #[true,true,true,true,true,true,true,true,true,false,true,false] rfl rfl (any_of HT_.out (by kernel_rfl)) (fun _ _ _ h=>h) (Or.inl ⟨by rfl,?_⟩) ?_ ?_
      rotate_left
      ·intro w'
       go_simp
       with_reducible rfl
      rotate_left
      ·simp only [Act.put,List.setIfInBounds_toArray,List.set_cons_zero,List.set_cons_succ,i64_w,i32_w]
       rfl
      refine take_ (i:=9) (N:=some 34) (v:=?_) (a':=?_) #[true,true,true,true,true,true,true,true,true,true,true,false] rfl rfl (take_ofW HT_.out HW_.out (by kernel_rfl)) (fun _ _ _ h=>h) (Or.inl ⟨by rfl,?_⟩) hHeld ?_ ?_
      rotate_left
      ·rintro w' ⟨s0,s1,s2⟩
       go_simp
       with_reducible rfl
      rotate_left
      ·simp only [Act.put,List.setIfInBounds_toArray,List.set_cons_zero,List.set_cons_succ,i64_w,i32_w]
       rfl
      refine one_ (i:=11) (N:=none) #[true,true,true,true,true,true,true,true,true,true,true,true] rfl rfl (one_of HT_.out (by kernel_rfl)) (by decide) (fun K hK=>?_)
      have hs22:w21.cell? ⟨gb136,0,none⟩=some (.string (⟨#[]⟩:ByteArray)):=(blk_cell BK136.out 0).trans rfl
      have hfs22:=blk_frozen BK136.out 0
      have hns22_0:=NB135_136.out
      have hms22_0:=NB136_135.out
      have hs23:w21.cell? ⟨gb136,1,none⟩=some (.int .i64 0):=(blk_cell BK136.out 1).trans rfl
      have hfs23:=blk_frozen BK136.out 1
      have hns23_0:=NB135_136.out
      have hms23_0:=NB136_135.out
      have hs24:w21.cell? ⟨gb136,2,none⟩=some (.int .i64 0):=(blk_cell BK136.out 2).trans rfl
      have hfs24:=blk_frozen BK136.out 2
      have hns24_0:=NB135_136.out
      have hms24_0:=NB136_135.out
      refine skip_ (w1:=?_) (by rfl) rfl ?_ ?_
      rotate_left
      ·go_simp
       rfl
      refine hK.out _ _ ⟨((cell_far (p:=⟨gb136,_,none⟩) NB135_136.out _).trans (((cell_far (p:=⟨gb136,_,none⟩) NB135_136.out _).trans (((cell_far (p:=⟨gb136,_,none⟩) NB135_136.out _).trans (hHeld.1)))))),((cell_far (p:=⟨gb136,_,none⟩) NB135_136.out _).trans (((cell_far (p:=⟨gb136,_,none⟩) NB135_136.out _).trans (((cell_far (p:=⟨gb136,_,none⟩) NB135_136.out _).trans (hHeld.2.1)))))),((cell_far (p:=⟨gb136,_,none⟩) NB135_136.out _).trans (((cell_far (p:=⟨gb136,_,none⟩) NB135_136.out _).trans (((cell_far (p:=⟨gb136,_,none⟩) NB135_136.out _).trans (hHeld.2.2))))))⟩ (fun hHeld=>?_)
      clear hK K
      refine done_ (done_of HT_.out (by kernel_rfl)) ?_
      try go_wp2
      refine bodyPost_ret (results_tc rfl _ _ gb136 31 #[.string a0_0,.int .i64 (wrap64 (a0_1+a1)),.int .i64 a0_2] (0,0) _ rfl (by (with_reducible repeat (first|refine blk_drewN ?_ _|refine blk_drew ?_|refine blk_alloc ?_ _));refine blk_put (cs:=#[.string a0_0,.int .i64 (wrap64 (a0_1+a1)),.int .i64 0]) ?_ 2 _ rfl;(with_reducible repeat (first|refine blk_drewN ?_ _|refine blk_drew ?_|refine blk_alloc ?_ _));refine blk_put (cs:=#[.string a0_0,.int .i64 0,.int .i64 0]) ?_ 1 _ rfl;(with_reducible repeat (first|refine blk_drewN ?_ _|refine blk_drew ?_|refine blk_alloc ?_ _));refine blk_put (cs:=#[.string (⟨#[]⟩:ByteArray),.int .i64 0,.int .i64 0]) ?_ 0 _ rfl;(with_reducible repeat (first|refine blk_drewN ?_ _|refine blk_drew ?_|refine blk_alloc ?_ _));exact BK136.out) Tryd.underlying31 rfl (by kernel_rfl)) rfl ?_
      exact ⟨by first|rfl|(simp [errW_none,errW_some] <;> rfl)|(simp only [← hji12];first|rfl|(simp [errW_none,errW_some] <;> rfl))|(simp [*,errW_none,errW_some] <;> rfl),by repeat (first|(with_reducible first|exact HB.out|apply below_alloc|apply pw_below_drewN|apply below_drew1|refine below_set ?_ GE135.out|refine below_set ?_ GE136.out)|exact HB.out)⟩
     ·rw [if_neg c15] at H
      exact absurd H (by simp)
    ·rw [if_neg c14] at H
     exact absurd H (by simp)
   ·rw [if_neg c13] at H
    exact absurd H (by simp)
 ·rw [if_neg c3] at H
  have c3b0:(a0_2 == 0)=false:=beq_eq_false_iff_ne.mpr c3
  have c3b1:(a0_2 != 0)=true:=bne_iff_ne.mpr c3
  simp only [Option.some.injEq,Prod.mk.injEq] at H
  obtain ⟨rfl,rfl,rfl,rfl⟩:=H
  go_enter Tryd.func20,Tryd.ntmps20
  try go_wp2_with (first|((with_reducible refine gate_dst (N:=2) rfl ?_);refine box_event ?hg (N:=2) ?hd (cs:=#[.string a0_0,.int .i64 a0_1,.int .i64 a0_2]) (t:=31) ?hr ?_;(case hd=>rfl);(case hg=>rfl);(case hr=>first|(go_simp;done)|(go_simp;rfl));intro gb135 hg w25 hbox hb;have n0_:=Ak (below_step (by repeat (first|(with_reducible first|exact HB.out|apply below_alloc|apply pw_below_drewN|apply below_drew1)|exact HB.out)) hb);have n1_:=Ak (hbox);have n2_:=Ak ((by rw [hg];exact (below_size (by repeat (first|(with_reducible first|exact HB.out|apply below_alloc|apply pw_below_drewN|apply below_drew1)|exact HB.out))):w.heap.size≤gb135));have n3_:=Ak ((by rw [hg];exact (below_size (by repeat (first|(with_reducible first|exact HB.out|apply below_alloc|apply pw_below_drewN|apply below_drew1)|exact HB.out))):w.heap.size≤gb135));clear HB;have HB:=n0_;have BK135:=n1_;have GW135:=n2_;have GE135:=n3_;clear n0_ n1_ n2_ n3_;clear hb hbox hg)|((with_reducible refine gate_dst (N:=5) rfl ?_);refine box_event ?hg (N:=5) ?hd (cs:=#[.string (⟨#[]⟩:ByteArray),.int .i64 0,.int .i64 0]) (t:=31) ?hr ?_;(case hd=>rfl);(case hg=>rfl);(case hr=>first|(go_simp;done)|(go_simp;rfl));intro gb136 hg w26 hbox hb;have n0_:=Ak (blk_below (g:=gb135) (by (with_reducible repeat (first|refine blk_drewN ?_ _|refine blk_drew ?_|refine blk_alloc ?_ _));exact BK135.out) hb);have n1_:=Ak (below_step (by repeat (first|(with_reducible first|exact HB.out|apply below_alloc|apply pw_below_drewN|apply below_drew1|refine below_set ?_ GE135.out)|exact HB.out)) hb);have n2_:=Ak (hbox);have n3_:=Ak ((by rw [hg];exact (below_size (by repeat (first|(with_reducible first|exact HB.out|apply below_alloc|apply pw_below_drewN|apply below_drew1|refine below_set ?_ GE135.out)|exact HB.out))):w.heap.size≤gb136));have n4_:=Ak ((by rw [hg];exact (below_size (by repeat (first|(with_reducible first|exact HB.out|apply below_alloc|apply pw_below_drewN|apply below_drew1|refine below_set ?_ GE135.out)|exact HB.out))):w.heap.size≤gb136));have n5_:=Ak ((by rw [hg];exact Nat.ne_of_lt (blk_lt (g:=gb135) (by (with_reducible repeat (first|refine blk_drewN ?_ _|refine blk_drew ?_|refine blk_alloc ?_ _));exact BK135.out)):gb135≠gb136));have n6_:=Ak ((by rw [hg];exact Nat.ne_of_gt (blk_lt (g:=gb135) (by (with_reducible repeat (first|refine blk_drewN ?_ _|refine blk_drew ?_|refine blk_alloc ?_ _));exact BK135.out)):gb136≠gb135));clear BK135;clear HB;have BK135:=n0_;have HB:=n1_;have BK136:=n2_;have GW136:=n3_;have GE136:=n4_;have NB135_136:=n5_;have NB136_135:=n6_;clear n0_ n1_ n2_ n3_ n4_ n5_ n6_;clear hb hbox hg;have hnb27:=NB135_136.out;have hnc27:=NB136_135.out;obtain ⟨hcz28_0,hcz28_1,hcz28_2,hfz28_0,hfz28_1,hfz28_2⟩:=bk3 BK135.out))
  have n0_:=Ak (blk_drew BK135.out)
  have n1_:=Ak (blk_drew BK136.out)
  have n2_:=Ak (below_drew1 HB.out)
  clear BK135;clear BK136;clear HB;have BK135:=n0_;have BK136:=n1_;have HB:=n2_;clear n0_ n1_ n2_
  refine start_ (n:=3) (S:=fun w'=>w'.cell? ⟨gb135,0,none⟩=some (.string a0_0)∧w'.cell? ⟨gb135,1,none⟩=some (.int .i64 a0_1)∧w'.cell? ⟨gb135,2,none⟩=some (.int .i64 a0_2)) (ds:=[]) #[false,false,false] (by kernel_rfl) rfl rfl ⟨(blk_cell BK135.out 0).trans rfl,(blk_cell BK135.out 1).trans rfl,(blk_cell BK135.out 2).trans rfl⟩ (fun hHeld=>?_)
  generalize w26.drew=w29 at BK135 BK136 HB hHeld ⊢
  refine pure_ (i:=1) (N:=some 4) (v:=?_) (a':=?_) #[false,true,false] rfl rfl (by kernel_rfl) (fun _ _ _ h=>h) (Or.inl ⟨by rfl,?_⟩) ?_ ?_
  rotate_left
  ·intro w'
   go_simp
   with_reducible rfl
  rotate_left
  ·simp only [Act.put,List.setIfInBounds_toArray,List.set_cons_zero,List.set_cons_succ,i64_w,i32_w]
   rfl
  refine take_ (i:=0) (N:=some 9) (v:=?_) (a':=?_) #[true,true,false] rfl rfl (by kernel_rfl) (fun _ _ _ h=>h) (Or.inl ⟨by rfl,?_⟩) hHeld ?_ ?_
  rotate_left
  ·rintro w' ⟨s0,s1,s2⟩
   go_simp
   with_reducible rfl
  rotate_left
  ·simp only [Act.put,List.setIfInBounds_toArray,List.set_cons_zero,List.set_cons_succ,i64_w,i32_w]
   rfl
  refine one_ (i:=2) (N:=none) #[true,true,true] rfl rfl (by kernel_rfl) (by decide) (fun K hK=>?_)
  have hs30:w29.cell? ⟨gb136,0,none⟩=some (.string (⟨#[]⟩:ByteArray)):=(blk_cell BK136.out 0).trans rfl
  have hfs30:=blk_frozen BK136.out 0
  have hns30_0:=NB135_136.out
  have hms30_0:=NB136_135.out
  have hs31:w29.cell? ⟨gb136,1,none⟩=some (.int .i64 0):=(blk_cell BK136.out 1).trans rfl
  have hfs31:=blk_frozen BK136.out 1
  have hns31_0:=NB135_136.out
  have hms31_0:=NB136_135.out
  have hs32:w29.cell? ⟨gb136,2,none⟩=some (.int .i64 0):=(blk_cell BK136.out 2).trans rfl
  have hfs32:=blk_frozen BK136.out 2
  have hns32_0:=NB135_136.out
  have hms32_0:=NB136_135.out
  refine skip_ (w1:=?_) (by rfl) rfl ?_ ?_
  rotate_left
  ·go_simp
   rfl
  refine hK.out _ _ ⟨((cell_far (p:=⟨gb136,_,none⟩) NB135_136.out _).trans (((cell_far (p:=⟨gb136,_,none⟩) NB135_136.out _).trans (((cell_far (p:=⟨gb136,_,none⟩) NB135_136.out _).trans (hHeld.1)))))),((cell_far (p:=⟨gb136,_,none⟩) NB135_136.out _).trans (((cell_far (p:=⟨gb136,_,none⟩) NB135_136.out _).trans (((cell_far (p:=⟨gb136,_,none⟩) NB135_136.out _).trans (hHeld.2.1)))))),((cell_far (p:=⟨gb136,_,none⟩) NB135_136.out _).trans (((cell_far (p:=⟨gb136,_,none⟩) NB135_136.out _).trans (((cell_far (p:=⟨gb136,_,none⟩) NB135_136.out _).trans (hHeld.2.2))))))⟩ (fun hHeld=>?_)
  clear hK K
  refine done_ (by kernel_rfl) ?_
  try go_wp2
  refine bodyPost_ret (results_tc rfl _ _ gb136 31 #[.string a0_0,.int .i64 a0_1,.int .i64 a0_2] (0,0) _ rfl (by (with_reducible repeat (first|refine blk_drewN ?_ _|refine blk_drew ?_|refine blk_alloc ?_ _));refine blk_put (cs:=#[.string a0_0,.int .i64 a0_1,.int .i64 0]) ?_ 2 _ rfl;(with_reducible repeat (first|refine blk_drewN ?_ _|refine blk_drew ?_|refine blk_alloc ?_ _));refine blk_put (cs:=#[.string a0_0,.int .i64 0,.int .i64 0]) ?_ 1 _ rfl;(with_reducible repeat (first|refine blk_drewN ?_ _|refine blk_drew ?_|refine blk_alloc ?_ _));refine blk_put (cs:=#[.string (⟨#[]⟩:ByteArray),.int .i64 0,.int .i64 0]) ?_ 0 _ rfl;(with_reducible repeat (first|refine blk_drewN ?_ _|refine blk_drew ?_|refine blk_alloc ?_ _));exact BK136.out) Tryd.underlying31 rfl (by kernel_rfl)) rfl ?_
  exact ⟨by first|rfl|(simp [errW_none,errW_some] <;> rfl)|(simp [*,errW_none,errW_some] <;> rfl),by repeat (first|(with_reducible first|exact HB.out|apply below_alloc|apply pw_below_drewN|apply below_drew1|refine below_set ?_ GE135.out|refine below_set ?_ GE136.out)|exact HB.out)⟩
mutual
def spec_GetInt.j0:Nat→ByteArray→Int→Bool→Option (Int×Int×Bool)
 | 0,_,_,_=>none
 | k+1,x0,x1,x23=>if x23=true then (some (0,0,false)) else (spec_GetInt.l0 k x0 x1 0 7)
def spec_GetInt.l0:Nat→ByteArray→Int→Int→Int→Option (Int×Int×Bool)
 | 0,_,_,_,_=>none
 | k+1,x0,x1,x7,x8=>if x8 ≥ 0 then (if 0≤(wrap64 (x1+x8)) then (if (wrap64 (x1+x8))<(x0.size:Int) then (spec_GetInt.l0 k x0 x1 (IntKind.u64.wrap ((IntKind.u64.wrap (x7*256))+(IntKind.u64.wrap (bt x0 (wrap64 (x1+x8)))))) (wrap64 (x8-1))) else (none)) else (none)) else (some (wrap64 (x7),wrap64 (x1+8),true))
end
def spec_GetInt.f (k:Nat) (a0:ByteArray) (a1:Int):Option (Int×Int×Bool):=if a1<0 then (spec_GetInt.j0 k a0 a1 true) else (if a1 > (a0.size:Int) then (spec_GetInt.j0 k a0 a1 true) else (spec_GetInt.j0 k a0 a1 (decide ((wrap64 ((a0.size:Int)-a1))<8))))
set_option maxHeartbeats 8000000 in
set_option maxRecDepth 100000 in
theorem spec_GetInt.calls (k:Nat) (a0:ByteArray) (a1:Int) (r1:Int) (r2:Int) (r3:Bool) (w:World) (h:spec_GetInt.f k a0 a1=some (r1,r2,r3)) :
  Calls Tryd.prog 56 #[.string a0,.int .i64 a1] w fun e w'=>e=.returned (.tuple #[.int .i64 r1,.int .i64 r2,.bool r3])∧Drawn0 w w':=by
 have H:(if a1<0 then (spec_GetInt.j0 k a0 a1 true) else (if a1 > (a0.size:Int) then (spec_GetInt.j0 k a0 a1 true) else (spec_GetInt.j0 k a0 a1 (decide ((wrap64 ((a0.size:Int)-a1))<8)))))=some (r1,r2,r3):=h
 clear h;have HC3:=Ak H;clear H
 go_enter Tryd.func56,Tryd.ntmps56
 go_upto_region 1 with (fail)
 go_cut [23] (fun v23 wc=>∃ (kq:Nat) (x23_2:Bool),v23=.bool x23_2∧Aside0 (spec_GetInt.j0 kq a0 a1 x23_2=some (r1,r2,r3))∧Aside0 (kq≤k)∧Drawn0 w wc)
 case first =>
  have H:=HC3.out
  clear HC3
  by_cases c4:a1<0
  ·rw [if_pos c4] at H
   have c4b0:decide (a1<0)=true:=decide_eq_true c4
   clear c4
   (first|rw [c4b0]|(simp only [i64_w,i32_w];rw [c4b0])|skip)
   have H':=Ak H
   clear H
   go_wp2
   go_meet
   case rel=>exact ⟨_,(true),(by first|rfl|(simp;done)|(simp [*];done)),H',⟨by first|omega|exact Nat.le_refl _⟩,by repeat (first|exact Drawn0.refl _|apply Drawn0.step)⟩
  ·rw [if_neg c4] at H
   have c4b0:decide (a1<0)=false:=decide_eq_false c4
   clear c4
   (first|rw [c4b0]|(simp only [i64_w,i32_w];rw [c4b0])|skip)
   by_cases c5:a1 > (a0.size:Int)
   ·rw [if_pos c5] at H
    have c5b0:decide ((a0.size:Int)<a1)=true:=decide_eq_true c5
    clear c5
    have H':=Ak H
    clear H
    go_wp2
    go_meet
    case rel=>exact ⟨_,(true),(by first|rfl|(simp;done)|(simp [*];done)),H',⟨by first|omega|exact Nat.le_refl _⟩,by repeat (first|exact Drawn0.refl _|apply Drawn0.step)⟩
   ·rw [if_neg c5] at H
    have c5b0:decide ((a0.size:Int)<a1)=false:=decide_eq_false c5
    clear c5
    have H':=Ak H
    clear H
    go_wp2
    go_meet
    case rel=>exact ⟨_,(decide ((wrap64 ((a0.size:Int)-a1))<8)),(by first|rfl|(simp;done)|(simp [*];done)),H',⟨by first|omega|exact Nat.le_refl _⟩,by repeat (first|exact Drawn0.refl _|apply Drawn0.step)⟩
 case rest =>
  clear HC3;(try clear p2);(try clear c4);(try clear c4b0);(try clear c5);(try clear c5b0)
  obtain ⟨kq,x23_2,rfl,HA,HJ2,⟨mc2,rfl⟩⟩:=hcut
  cases kq with
  | zero=>exact absurd HA.out (by simp [spec_GetInt.j0])
  | succ kj2 =>
   have H:=HA.out
   clear HA
   simp only [spec_GetInt.j0] at H
   by_cases c6:x23_2=true
   ·subst c6
    have H1:(some (0,0,false))=some (r1,r2,r3):=by rw [if_pos rfl] at H;exact H
    clear H;have H:=H1;clear H1
    simp only [Option.some.injEq,Prod.mk.injEq] at H
    obtain ⟨rfl,rfl,rfl⟩:=H
    go_wp2
    go_ret3
    exact ⟨by first|rfl|(simp;done)|(simp [*];done),by repeat (first|exact Drawn0.refl _|apply Drawn0.step)⟩
   ·replace c6:=Bool.eq_false_iff.mpr c6
    subst c6
    have H1:(spec_GetInt.l0 kj2 a0 a1 0 7)=some (r1,r2,r3):=by rw [if_neg (show ¬ (false=true) by decide)] at H;exact H
    clear H;have H:=H1;clear H1
    have H':=Ak H
    clear H
    go_wp2
    go_loopg [7,8] kj2 (fun kq v7 v8 w'=>∃ (x7_2:Int) (x8_2:Int),v7=.int .u64 x7_2∧v8=.int .i64 x8_2∧Aside0 (spec_GetInt.l0 kq a0 a1 x7_2 x8_2=some (r1,r2,r3))∧Aside0 (kq≤kj2)∧Drawn0 w w')
    case atStart=>exact ⟨(0),(7),(by first|rfl|(simp;done)|(simp [*];done)),(by first|rfl|(simp;done)|(simp [*];done)),H',⟨Nat.le_refl _⟩,by repeat (first|exact Drawn0.refl _|apply Drawn0.step)⟩
    case round =>
     clear H';(try clear c2);(try clear p2);(try clear c4);(try clear c4b0);(try clear c5);(try clear c5b0);(try clear c6);(try clear p6);(try clear p2)
     obtain ⟨x7_2,x8_2,rfl,rfl,HA,HK2,⟨m2,rfl⟩⟩:=hrel
     cases gk with
     | zero=>exact absurd HA.out (by simp [spec_GetInt.l0])
     | succ k2 =>
      have H:=HA.out
      clear HA
      simp only [spec_GetInt.l0] at H
      by_cases c7:x8_2 ≥ 0
      ·rw [if_pos c7] at H
       have c7b0:decide (0≤x8_2)=true:=decide_eq_true c7
       clear c7
       obtain ⟨ji8,hji8⟩:∃ j_:Int,(wrap64 (a1+x8_2))=j_:=⟨_,rfl⟩
       replace H:(if 0≤(ji8) then (if (ji8)<(a0.size:Int) then (spec_GetInt.l0 k2 a0 a1 (IntKind.u64.wrap ((IntKind.u64.wrap (x7_2*256))+(IntKind.u64.wrap (bt a0 (ji8))))) (wrap64 (x8_2-1))) else (none)) else (none))=some (r1,r2,r3):=by first|(rw [hji8] at H;exact H)|(simp only [hji8] at H ⊢;exact H)
       have hji8w:(IntKind.i64.wrap (a1+x8_2))=ji8:=(i64_w _).trans hji8
       by_cases c9:0≤(ji8)
       ·rw [if_pos c9] at H
        have c9b0:decide (0≤(ji8))=true:=decide_eq_true c9
        clear c9
        by_cases c10:(ji8)<(a0.size:Int)
        ·rw [if_pos c10] at H
         have c10b0:decide ((ji8)<(a0.size:Int))=true:=decide_eq_true c10
         clear c10
         have H':=Ak H
         clear H
         have p11:0≤((ji8):Int):=of_decide_eq_true (by first|(with_reducible assumption)|assumption)
         have q11:(ji8)<(a0.size:Int):=of_decide_eq_true (by first|(with_reducible assumption)|assumption)
         have hx11:=bt_at a0 (ji8)
         replace p11:=eq_true p11
         replace q11:=eq_true q11
         go_wp2
         go_roundg k2
         case measure=>have:=HJ2.out;have:=HK2.out;omega
         case rel=>exact ⟨(IntKind.u64.wrap ((IntKind.u64.wrap (x7_2*256))+(IntKind.u64.wrap (bt a0 (ji8))))),(wrap64 (x8_2-1)),(by first|rfl|(simp;done)|(simp only [← hji8] <;> (first|rfl|simp))|(simp [*];done)),(by first|rfl|(simp;done)|(simp [*];done)),H',⟨by have:=HJ2.out;have:=HK2.out;omega⟩,by repeat (first|exact Drawn0.refl _|apply Drawn0.step)⟩
        ·rw [if_neg c10] at H
         exact absurd H (by simp)
       ·rw [if_neg c9] at H
        exact absurd H (by simp)
      ·rw [if_neg c7] at H
       have c7b0:decide (0≤x8_2)=false:=decide_eq_false c7
       clear c7
       simp only [Option.some.injEq,Prod.mk.injEq] at H
       obtain ⟨rfl,rfl,rfl⟩:=H
       go_wp2
       go_ret3
       exact ⟨by first|rfl|(simp;done)|(simp [*];done),by repeat (first|exact Drawn0.refl _|apply Drawn0.step)⟩
def spec_l3Text.f (k:Nat) (a0_0:ByteArray) (a0_1:Int) (a0_2:Int):Option (ByteArray×ByteArray×Int×Int):=(spec_l3Number.f k a0_0 a0_1 a0_2 0 1000).bind fun bt142=>((spec_l3Bytes.f bt142.2.1 bt142.2.2.1 bt142.2.2.2 bt142.1).bind fun bt147=>(some (bt147.1,bt147.2.1,bt147.2.2.1,bt147.2.2.2)))
set_option maxHeartbeats 8000000 in
set_option maxRecDepth 100000 in
theorem spec_l3Text.calls (k:Nat) (a0_0:ByteArray) (a0_1:Int) (a0_2:Int) (r1:ByteArray) (r2:ByteArray) (r3:Int) (r4:Int) (w:World) (h:spec_l3Text.f k a0_0 a0_1 a0_2=some (r1,r2,r3,r4)) :
  Calls Tryd.prog 57 #[.agg #[.string a0_0,.int .i64 a0_1,.int .i64 a0_2]] w fun e w'=>e=.returned (.tuple #[.string r1,.agg #[.string r2,.int .i64 r3,.int .i64 r4]])∧Below w.heap.size w w':=by
 have hu31:=Tryd.underlying31
 have HB:=Ak (Below.refl w.heap.size w)
 have H:((spec_l3Number.f k a0_0 a0_1 a0_2 0 1000).bind fun bt142=>((spec_l3Bytes.f bt142.2.1 bt142.2.2.1 bt142.2.2.2 bt142.1).bind fun bt147=>(some (bt147.1,bt147.2.1,bt147.2.2.1,bt147.2.2.2))))=some (r1,r2,r3,r4):=h
 clear h
 replace H:=Option.bind_eq_some_iff.mp H
 obtain ⟨⟨t142,t143,t144,t145⟩,A20,H⟩:=H
 replace H:((spec_l3Bytes.f t143 t144 t145 t142).bind fun bt147=>(some (bt147.1,bt147.2.1,bt147.2.2.1,bt147.2.2.2)))=some (r1,r2,r3,r4):=H
 have A2:=Ak A20;clear A20
 replace H:=Option.bind_eq_some_iff.mp H
 obtain ⟨⟨t147,t148,t149,t150⟩,A30,H⟩:=H
 replace H:(some (t147,t148,t149,t150))=some (r1,r2,r3,r4):=H
 have A3:=Ak A30;clear A30
 simp only [Option.some.injEq,Prod.mk.injEq] at H
 obtain ⟨rfl,rfl,rfl,rfl⟩:=H
 go_enter Tryd.func57,Tryd.ntmps57
 go_wp2_with (first|((with_reducible refine gate_dst (N:=1) rfl ?_);refine box_event ?hg (N:=1) ?hd (cs:=#[.string a0_0,.int .i64 a0_1,.int .i64 a0_2]) (t:=31) ?hr ?_;(case hd=>rfl);(case hg=>rfl);(case hr=>first|(go_simp;done)|(go_simp;rfl));intro gb140 hg w4 hbox hb;have n0_:=Ak (below_step (by repeat (first|(with_reducible first|exact HB.out|apply below_alloc|apply pw_below_drewN|apply below_drew1)|exact HB.out)) hb);have n1_:=Ak (hbox);have n2_:=Ak ((by rw [hg];exact (below_size (by repeat (first|(with_reducible first|exact HB.out|apply below_alloc|apply pw_below_drewN|apply below_drew1)|exact HB.out))):w.heap.size≤gb140));have n3_:=Ak ((by rw [hg];exact (below_size (by repeat (first|(with_reducible first|exact HB.out|apply below_alloc|apply pw_below_drewN|apply below_drew1)|exact HB.out))):w.heap.size≤gb140));clear HB;have HB:=n0_;have BK140:=n1_;have GW140:=n2_;have GE140:=n3_;clear n0_ n1_ n2_ n3_;clear hb hbox hg)|((with_reducible refine gate_dst (N:=3) rfl ?_);refine box_event ?hg (N:=3) ?hd (cs:=#[.string (⟨#[]⟩:ByteArray),.int .i64 0,.int .i64 0]) (t:=31) ?hr ?_;(case hd=>rfl);(case hg=>rfl);(case hr=>first|(go_simp;done)|(go_simp;rfl));intro gb141 hg w5 hbox hb;have n0_:=Ak (blk_below (g:=gb140) (by (with_reducible repeat (first|refine blk_drewN ?_ _|refine blk_drew ?_|refine blk_alloc ?_ _));exact BK140.out) hb);have n1_:=Ak (below_step (by repeat (first|(with_reducible first|exact HB.out|apply below_alloc|apply pw_below_drewN|apply below_drew1|refine below_set ?_ GE140.out)|exact HB.out)) hb);have n2_:=Ak (hbox);have n3_:=Ak ((by rw [hg];exact (below_size (by repeat (first|(with_reducible first|exact HB.out|apply below_alloc|apply pw_below_drewN|apply below_drew1|refine below_set ?_ GE140.out)|exact HB.out))):w.heap.size≤gb141));have n4_:=Ak ((by rw [hg];exact (below_size (by repeat (first|(with_reducible first|exact HB.out|apply below_alloc|apply pw_below_drewN|apply below_drew1|refine below_set ?_ GE140.out)|exact HB.out))):w.heap.size≤gb141));have n5_:=Ak ((by rw [hg];exact Nat.ne_of_lt (blk_lt (g:=gb140) (by (with_reducible repeat (first|refine blk_drewN ?_ _|refine blk_drew ?_|refine blk_alloc ?_ _));exact BK140.out)):gb140≠gb141));have n6_:=Ak ((by rw [hg];exact Nat.ne_of_gt (blk_lt (g:=gb140) (by (with_reducible repeat (first|refine blk_drewN ?_ _|refine blk_drew ?_|refine blk_alloc ?_ _));exact BK140.out)):gb141≠gb140));clear BK140;clear HB;have BK140:=n0_;have HB:=n1_;have BK141:=n2_;have GW141:=n3_;have GE141:=n4_;have NB140_141:=n5_;have NB141_140:=n6_;clear n0_ n1_ n2_ n3_ n4_ n5_ n6_;clear hb hbox hg;have hnb6:=NB140_141.out;have hnc6:=NB141_140.out;obtain ⟨hcz7_0,hcz7_1,hcz7_2,hfz7_0,hfz7_1,hfz7_2⟩:=bk3 BK140.out)|((with_reducible refine gate_callee (f:=19) rfl ?_);refine goesL_ (some 8) rfl rfl Tryd.func19 (by kernel_rfl) rfl #[.agg #[.string a0_0,.int .i64 a0_1,.int .i64 a0_2],.int .i64 0,.int .i64 1000] rfl (by (try simp only [List.map_toArray,List.map_cons,List.map_nil]);first|done|rfl|(simp only [List.length_drop,List.length_take];rfl)) ?_;(with_reducible refine (spec_l3Number.calls k a0_0 a0_1 a0_2 0 1000 t142 t143 t144 t145 _ A2.out).mono ?_);rintro e w8 ⟨rfl,hb⟩;refine ⟨_,rfl,?_⟩;have n0_:=Ak (blk_below (g:=gb140) (by (with_reducible repeat (first|refine blk_drewN ?_ _|refine blk_drew ?_|refine blk_alloc ?_ _));exact BK140.out) hb);have n1_:=Ak (blk_below (g:=gb141) (o:=.cells #[.string (⟨#[]⟩:ByteArray),.int .i64 0,.int .i64 0] 31 (0,0)) (by (with_reducible repeat (first|refine blk_drewN ?_ _|refine blk_drew ?_|refine blk_alloc ?_ _));exact BK141.out) hb);have n2_:=Ak (below_step (by repeat (first|(with_reducible first|exact HB.out|apply below_alloc|apply pw_below_drewN|apply below_drew1|refine below_set ?_ GE140.out|refine below_set ?_ GE141.out)|exact HB.out)) hb);clear BK140;clear BK141;clear HB;have BK140:=n0_;have BK141:=n1_;have HB:=n2_;clear n0_ n1_ n2_;(try clear hb);(try clear hb2);(try clear hk);(try clear hi))|((with_reducible refine gate_dst (N:=5) rfl ?_);refine box_event ?hg (N:=5) ?hd (cs:=#[.string (⟨#[]⟩:ByteArray),.int .i64 0,.int .i64 0]) (t:=31) ?hr ?_;(case hd=>rfl);(case hg=>rfl);(case hr=>first|(go_simp;done)|(go_simp;rfl));intro gb146 hg w9 hbox hb;have n0_:=Ak (blk_below (g:=gb140) (by (with_reducible repeat (first|refine blk_drewN ?_ _|refine blk_drew ?_|refine blk_alloc ?_ _));exact BK140.out) hb);have n1_:=Ak (blk_below (g:=gb141) (o:=.cells #[.string (⟨#[]⟩:ByteArray),.int .i64 0,.int .i64 0] 31 (0,0)) (by (with_reducible repeat (first|refine blk_drewN ?_ _|refine blk_drew ?_|refine blk_alloc ?_ _));exact BK141.out) hb);have n2_:=Ak (below_step (by repeat (first|(with_reducible first|exact HB.out|apply below_alloc|apply pw_below_drewN|apply below_drew1|refine below_set ?_ GE140.out|refine below_set ?_ GE141.out)|exact HB.out)) hb);have n3_:=Ak (hbox);have n4_:=Ak ((by rw [hg];exact (below_size (by repeat (first|(with_reducible first|exact HB.out|apply below_alloc|apply pw_below_drewN|apply below_drew1|refine below_set ?_ GE140.out|refine below_set ?_ GE141.out)|exact HB.out))):w.heap.size≤gb146));have n5_:=Ak ((by rw [hg];exact (below_size (by repeat (first|(with_reducible first|exact HB.out|apply below_alloc|apply pw_below_drewN|apply below_drew1|refine below_set ?_ GE140.out|refine below_set ?_ GE141.out)|exact HB.out))):w.heap.size≤gb146));have n6_:=Ak ((by rw [hg];exact Nat.ne_of_lt (blk_lt (g:=gb140) (by (with_reducible repeat (first|refine blk_drewN ?_ _|refine blk_drew ?_|refine blk_alloc ?_ _));exact BK140.out)):gb140≠gb146));have n7_:=Ak ((by rw [hg];exact Nat.ne_of_gt (blk_lt (g:=gb140) (by (with_reducible repeat (first|refine blk_drewN ?_ _|refine blk_drew ?_|refine blk_alloc ?_ _));exact BK140.out)):gb146≠gb140));have n8_:=Ak ((by rw [hg];exact Nat.ne_of_lt (blk_lt (g:=gb141) (o:=.cells #[.string (⟨#[]⟩:ByteArray),.int .i64 0,.int .i64 0] 31 (0,0)) (by (with_reducible repeat (first|refine blk_drewN ?_ _|refine blk_drew ?_|refine blk_alloc ?_ _));exact BK141.out)):gb141≠gb146));have n9_:=Ak ((by rw [hg];exact Nat.ne_of_gt (blk_lt (g:=gb141) (o:=.cells #[.string (⟨#[]⟩:ByteArray),.int .i64 0,.int .i64 0] 31 (0,0)) (by (with_reducible repeat (first|refine blk_drewN ?_ _|refine blk_drew ?_|refine blk_alloc ?_ _));exact BK141.out)):gb146≠gb141));clear BK140;clear BK141;clear HB;have BK140:=n0_;have BK141:=n1_;have HB:=n2_;have BK146:=n3_;have GW146:=n4_;have GE146:=n5_;have NB140_146:=n6_;have NB146_140:=n7_;have NB141_146:=n8_;have NB146_141:=n9_;clear n0_ n1_ n2_ n3_ n4_ n5_ n6_ n7_ n8_ n9_;clear hb hbox hg;have hnb10:=NB146_140.out;have hnc10:=NB140_146.out;have hnb11:=NB146_141.out;have hnc11:=NB141_146.out;obtain ⟨hcz12_0,hcz12_1,hcz12_2,hfz12_0,hfz12_1,hfz12_2⟩:=bk3 BK146.out)|((with_reducible refine gate_callee (f:=20) rfl ?_);refine goesL_ (some 13) rfl rfl Tryd.func20 (by kernel_rfl) rfl #[.agg #[.string t143,.int .i64 t144,.int .i64 t145],.int .i64 t142] rfl (by (try simp only [List.map_toArray,List.map_cons,List.map_nil]);first|done|rfl|(simp only [List.length_drop,List.length_take];rfl)) ?_;(with_reducible refine (spec_l3Bytes.calls t143 t144 t145 t142 t147 t148 t149 t150 _ A3.out).mono ?_);rintro e w13 ⟨rfl,hb⟩;refine ⟨_,rfl,?_⟩;have n0_:=Ak (blk_below (g:=gb140) (o:=.cells #[.string a0_0,.int .i64 a0_1,.int .i64 a0_2] 31 (0,0)) (by (with_reducible repeat (first|refine blk_drewN ?_ _|refine blk_drew ?_|refine blk_alloc ?_ _));refine blk_far ?_ NB140_146.out _;(with_reducible repeat (first|refine blk_drewN ?_ _|refine blk_drew ?_|refine blk_alloc ?_ _));refine blk_far ?_ NB140_146.out _;(with_reducible repeat (first|refine blk_drewN ?_ _|refine blk_drew ?_|refine blk_alloc ?_ _));refine blk_far ?_ NB140_146.out _;(with_reducible repeat (first|refine blk_drewN ?_ _|refine blk_drew ?_|refine blk_alloc ?_ _));exact BK140.out) hb);have n1_:=Ak (blk_below (g:=gb141) (o:=.cells #[.string (⟨#[]⟩:ByteArray),.int .i64 0,.int .i64 0] 31 (0,0)) (by (with_reducible repeat (first|refine blk_drewN ?_ _|refine blk_drew ?_|refine blk_alloc ?_ _));refine blk_far ?_ NB141_146.out _;(with_reducible repeat (first|refine blk_drewN ?_ _|refine blk_drew ?_|refine blk_alloc ?_ _));refine blk_far ?_ NB141_146.out _;(with_reducible repeat (first|refine blk_drewN ?_ _|refine blk_drew ?_|refine blk_alloc ?_ _));refine blk_far ?_ NB141_146.out _;(with_reducible repeat (first|refine blk_drewN ?_ _|refine blk_drew ?_|refine blk_alloc ?_ _));exact BK141.out) hb);have n2_:=Ak (blk_below (g:=gb146) (o:=.cells #[.string t143,.int .i64 t144,.int .i64 t145] 31 (0,0)) (by (with_reducible repeat (first|refine blk_drewN ?_ _|refine blk_drew ?_|refine blk_alloc ?_ _));refine blk_put (cs:=#[.string t143,.int .i64 t144,.int .i64 0]) ?_ 2 _ rfl;(with_reducible repeat (first|refine blk_drewN ?_ _|refine blk_drew ?_|refine blk_alloc ?_ _));refine blk_put (cs:=#[.string t143,.int .i64 0,.int .i64 0]) ?_ 1 _ rfl;(with_reducible repeat (first|refine blk_drewN ?_ _|refine blk_drew ?_|refine blk_alloc ?_ _));refine blk_put (cs:=#[.string (⟨#[]⟩:ByteArray),.int .i64 0,.int .i64 0]) ?_ 0 _ rfl;(with_reducible repeat (first|refine blk_drewN ?_ _|refine blk_drew ?_|refine blk_alloc ?_ _));exact BK146.out) hb);have n3_:=Ak (below_step (by repeat (first|(with_reducible first|exact HB.out|apply below_alloc|apply pw_below_drewN|apply below_drew1|refine below_set ?_ GE140.out|refine below_set ?_ GE141.out|refine below_set ?_ GE146.out)|exact HB.out)) hb);clear BK140;clear BK141;clear BK146;clear HB;have BK140:=n0_;have BK141:=n1_;have BK146:=n2_;have HB:=n3_;clear n0_ n1_ n2_ n3_;(try clear hb);(try clear hb2);(try clear hk);(try clear hi);obtain ⟨hcz14_0,hcz14_1,hcz14_2,hfz14_0,hfz14_1,hfz14_2⟩:=bk3 BK141.out))
 refine bodyPost_ret (results_tc rfl _ _ gb141 31 #[.string t148,.int .i64 t149,.int .i64 t150] (0,0) _ rfl (by (with_reducible repeat (first|refine blk_drewN ?_ _|refine blk_drew ?_|refine blk_alloc ?_ _));refine blk_put (cs:=#[.string t148,.int .i64 t149,.int .i64 0]) ?_ 2 _ rfl;(with_reducible repeat (first|refine blk_drewN ?_ _|refine blk_drew ?_|refine blk_alloc ?_ _));refine blk_put (cs:=#[.string t148,.int .i64 0,.int .i64 0]) ?_ 1 _ rfl;(with_reducible repeat (first|refine blk_drewN ?_ _|refine blk_drew ?_|refine blk_alloc ?_ _));refine blk_put (cs:=#[.string (⟨#[]⟩:ByteArray),.int .i64 0,.int .i64 0]) ?_ 0 _ rfl;(with_reducible repeat (first|refine blk_drewN ?_ _|refine blk_drew ?_|refine blk_alloc ?_ _));exact BK141.out) Tryd.underlying31 rfl (by kernel_rfl)) rfl ?_
 exact ⟨by first|rfl|(simp [errW_none,errW_some] <;> rfl)|(simp [*,errW_none,errW_some] <;> rfl),by repeat (first|(with_reducible first|exact HB.out|apply below_alloc|apply pw_below_drewN|apply below_drew1|refine below_set ?_ GE140.out|refine below_set ?_ GE141.out|refine below_set ?_ GE146.out)|exact HB.out)⟩
end Go.Proofs.YtiekodnojmkfaaaDoor.PFnExactLoad
