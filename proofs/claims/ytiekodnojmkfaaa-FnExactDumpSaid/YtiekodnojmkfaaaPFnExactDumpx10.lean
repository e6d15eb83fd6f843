-- Printed by the kit's print or by this session's program, then cut and tightened by it.
import Derived.Test.YtiekodnojmkfaaaPFnExactDumpx0
import Derived.Test.YtiekodnojmkfaaaPFnExactDumpx8
import Derived.Test.YtiekodnojmkfaaaPFnExactDumpx9
namespace Go.Proofs.Ytiekodnojmkfaaa.PFnExactDump
open Go.RowKit Go.Proofs.YtiekodnojmkfaaaW.PrintWords Go.Proofs.YtiekodnojmkfaaaW.PrintLast Go.Proofs.YtiekodnojmkfaaaW.PrintMore
attribute [local go_sem] max2_int min2_int max_two min_two max_three min_three max_four min_four   -- for this text's walks alone
set_option linter.unusedVariables false
set_option linter.unusedSimpArgs false
def spec_Dump.l0:Nat→List Int→Int→List (S44)→Option (ByteArray×Bool)
 | 0,_,_,_=>none
 | k+1,x4,x5,x332000=>if x5<(x332000.length:Int) then (if 0≤x5 then ((spec_l3Proto.f k x4 ((rd_T44 x332000 x5).f0) ((rd_T44 x332000 x5).f1) ((rd_T44 x332000 x5).f2) ((rd_T44 x332000 x5).f3) ((rd_T44 x332000 x5).f4) ((rd_T44 x332000 x5).f5) ((rd_T44 x332000 x5).f6) ((rd_T44 x332000 x5).f7) ((rd_T44 x332000 x5).f8) ((rd_T44 x332000 x5).f9)).bind fun t340=>(spec_Dump.l0 k t340 (wrap64 (x5+1)) x332000)) else (none)) else (some (strOfNums x4,true))
def spec_Dump.f (k:Nat) (l0_0:List (S44)):Option (ByteArray×Bool):=(spec_WellFormed.f k l0_0).bind fun t332=>(if t332=true then ((spec_l3Put.f k (([]:List Int)) (⟨#[27,76,82,86,1,0]⟩:ByteArray)).bind fun t336=>(spec_Dump.l0 k t336 0 l0_0)) else (some ((⟨#[]⟩:ByteArray),false)))
set_option maxHeartbeats 8000000 in
set_option maxRecDepth 100000 in
theorem spec_Dump.calls (k:Nat) (A0_0:Option Addr) (c0_0:Nat) (l0_0:List (S44)) (r1:ByteArray) (r2:Bool) (w:World) (hr0_0:Kd.C k44 w A0_0 l0_0.length l0_0) (hc0_0:l0_0.length≤c0_0) (h:spec_Dump.f k l0_0=some (r1,r2)) :
  Calls Try.prog 16 #[.agg #[.slice A0_0 l0_0.length c0_0]] w fun e w'=>e=.returned (.tuple #[.string r1,.bool r2])∧Below w.heap.size w w':=by
 have hu29:=Try.underlying29
 have hu44:=Try.underlying44
 have HR0_0:=Ak hr0_0;have HC0_0:=Ak hc0_0;clear hr0_0 hc0_0
 have HB:=Ak (Below.refl w.heap.size w)
 have H:((spec_WellFormed.f k l0_0).bind fun t332=>(if t332=true then ((spec_l3Put.f k (([]:List Int)) (⟨#[27,76,82,86,1,0]⟩:ByteArray)).bind fun t336=>(spec_Dump.l0 k t336 0 l0_0)) else (some ((⟨#[]⟩:ByteArray),false))))=some (r1,r2):=h
 clear h
 replace H:=Option.bind_eq_some_iff.mp H
 obtain ⟨t332,A20,H⟩:=H
 replace H:(if t332=true then ((spec_l3Put.f k (([]:List Int)) (⟨#[27,76,82,86,1,0]⟩:ByteArray)).bind fun t336=>(spec_Dump.l0 k t336 0 l0_0)) else (some ((⟨#[]⟩:ByteArray),false)))=some (r1,r2):=H
 have A2:=Ak A20;clear A20
 by_cases c3:t332=true
 ·subst c3
  have H1:((spec_l3Put.f k (([]:List Int)) (⟨#[27,76,82,86,1,0]⟩:ByteArray)).bind fun t336=>(spec_Dump.l0 k t336 0 l0_0))=some (r1,r2):=by rw [if_pos rfl] at H;exact H
  clear H;have H:=H1;clear H1
  obtain ⟨y333,hy333⟩:∃ y_:List Int,y_=(([]:List Int)):=⟨_,rfl⟩
  replace H:((spec_l3Put.f k y333 (⟨#[27,76,82,86,1,0]⟩:ByteArray)).bind fun t336=>(spec_Dump.l0 k t336 0 l0_0))=some (r1,r2):=by first|(rw [hy333];with_reducible exact H)|(have H2_:=(Option.bind_some _ _).symm.trans H;rw [hy333];with_reducible exact H2_)|(have H2_:=(Option.bind_some _ _).symm.trans H;with_reducible exact H2_)|with_reducible exact H|(rw [hy333];exact H)|exact H
  have Ny333:=Ak hy333;clear hy333
  replace H:=Option.bind_eq_some_iff.mp H
  obtain ⟨t336,A40,H⟩:=H
  replace H:(spec_Dump.l0 k t336 0 l0_0)=some (r1,r2):=H
  have A4:=Ak A40;clear A40
  have H':=Ak H
  clear H
  go_enter Try.func16,Try.ntmps16
  go_wp2_with (first|((with_reducible refine gate_dst (N:=1) rfl ?_);refine box_event ?hg (N:=1) ?hd (cs:=#[.slice A0_0 l0_0.length c0_0]) (t:=29) ?hr ?_;(case hd=>rfl);(case hg=>rfl);(case hr=>first|(go_simp;done)|(go_simp;rfl));intro gb331 hg w5 hbox hb;have n0_:=Ak (below_step (by repeat (first|(with_reducible first|exact HB.out|apply below_alloc|apply pw_below_drewN|apply below_drew1)|exact HB.out)) hb);have n1_:=Ak (hbox);have n2_:=Ak ((by rw [hg];exact (below_size (by repeat (first|(with_reducible first|exact HB.out|apply below_alloc|apply pw_below_drewN|apply below_drew1)|exact HB.out))):w.heap.size≤gb331));have n3_:=Ak ((by rw [hg];exact (below_size (by repeat (first|(with_reducible first|exact HB.out|apply below_alloc|apply pw_below_drewN|apply below_drew1)|exact HB.out))):w.heap.size≤gb331));clear HB;have HB:=n0_;have BK331:=n1_;have GW331:=n2_;have GE331:=n3_;clear n0_ n1_ n2_ n3_;clear hb hbox hg;obtain ⟨hcz6_0,hfz6_0⟩:=bk1 BK331.out)|((with_reducible refine gate_callee (f:=9) rfl ?_);refine goesL_ (some 7) rfl rfl Try.func9 (by kernel_rfl) rfl #[.agg #[.slice A0_0 l0_0.length c0_0]] rfl (by (try simp only [List.map_toArray,List.map_cons,List.map_nil]);first|done|rfl|(simp only [List.length_drop,List.length_take];rfl)) ?_;(with_reducible refine (spec_WellFormed.calls k _ _ l0_0 true _ ?side1 ?side2 A2.out).mono ?_);(case side1=>repeat (first|exact (Kd.C_below HR0_0.out HB.out)|(with_reducible refine Kd.C_alloc ?_ _)|(with_reducible refine Kd.C_drewN ?_ _)|(with_reducible refine Kd.C_drew ?_)));(case side2=>exact HC0_0.out);rintro e w7 ⟨rfl,hb⟩;refine ⟨_,rfl,?_⟩;have n0_:=Ak (blk_below (g:=gb331) (o:=.cells #[.slice A0_0 l0_0.length c0_0] 29 (0,0)) (by (with_reducible repeat (first|refine blk_drewN ?_ _|refine blk_drew ?_|refine blk_alloc ?_ _));exact BK331.out) hb);have n1_:=Ak (below_step (by repeat (first|(with_reducible first|exact HB.out|apply below_alloc|apply pw_below_drewN|apply below_drew1|refine below_set ?_ GE331.out)|exact HB.out)) hb);clear BK331;clear HB;have BK331:=n0_;have HB:=n1_;clear n0_ n1_;(try clear hb);(try clear hb2);(try clear hk);(try clear hi))|((with_reducible refine gate_dst (N:=9) rfl ?_);refine Kd.R_lit (Kd.int .u8) _ 5 ?hg (N:=9) ?hd (xs:=([]:List Int)) (inner:=[]) (ok:=fun _=>True) (okp:=fun _=>True) ?hr ?hp (fun _ hk=>hk) trivial (Below.refl _ _) (Nat.le_refl _) (by simp) ?_;(case hd=>rfl);(case hg=>rfl);(case hr=>first|(go_simp;done)|(go_simp;rfl));(case hp=>exact (Reps.none _ _));intro v334 w8 ho9 hb hg_ hnew_;clear hg_ hnew_;(first|rw [← Ny333.out] at ho9|(simp only [Int.reduceToNat] at ho9;rw [← Ny333.out] at ho9));have n0_:=Ak (Kd.R_lower ho9 (below_size (by repeat (first|(with_reducible first|exact HB.out|apply below_alloc|apply pw_below_drewN|apply below_drew1|refine below_set ?_ GE331.out)|exact HB.out))));have n1_:=Ak (blk_below (g:=gb331) (o:=.cells #[.slice A0_0 l0_0.length c0_0] 29 (0,0)) (by (with_reducible repeat (first|refine blk_drewN ?_ _|refine blk_drew ?_|refine blk_alloc ?_ _));exact BK331.out) hb);have n2_:=Ak (below_step (by repeat (first|(with_reducible first|exact HB.out|apply below_alloc|apply pw_below_drewN|apply below_drew1|refine below_set ?_ GE331.out)|exact HB.out)) hb);clear BK331;clear HB;have HO335:=n0_;have BK331:=n1_;have HB:=n2_;clear n0_ n1_ n2_;clear hb ho9;obtain ⟨Ao10,co10,eo10⟩:=Kd.R_slice HO335.out;subst eo10)|((with_reducible refine gate_callee (f:=33) rfl ?_);refine goesL_ (some 10) rfl rfl Try.func33 (by kernel_rfl) rfl #[.slice Ao10 y333.length co10,.string (⟨#[27,76,82,86,1,0]⟩:ByteArray)] rfl (by (try simp only [List.map_toArray,List.map_cons,List.map_nil]);first|done|rfl|(simp only [List.length_drop,List.length_take];rfl)) ?_;(with_reducible refine (spec_l3Put.calls k (fun k_=>some k_=(.slice Ao10 y333.length co10:Value).ownBlock) (.slice Ao10 y333.length co10) y333 (⟨#[27,76,82,86,1,0]⟩:ByteArray) t336 w _ ?side1 ?side2 A4.out).mono ?_);(case side1=>repeat (first|(with_reducible first|exact HB.out|apply below_alloc|apply pw_below_drewN|apply below_drew1|refine below_set ?_ GE331.out)|exact HB.out));(case side2=>exact Kd.R_tight rfl HO335.out);rintro e w11 ⟨v337,rfl,ho0,hb,hkp⟩;refine ⟨_,rfl,?_⟩;have n0_:=Ak (blk_kept (by (with_reducible repeat (first|refine blk_drewN ?_ _|refine blk_drew ?_|refine blk_alloc ?_ _));exact BK331.out) hkp (fun hs_=>(fun e_=>(Kd.R_ne HO335.out BK331.out (by decide)) e_) hs_));have n1_:=Ak (Kd.R_mono (ok':=fun k_=>True) ho0 (fun k_ hk_=>trivial));have n2_:=Ak (hb);clear BK331;clear HB;clear HO335;have BK331:=n0_;have HO338:=n1_;have HB:=n2_;clear n0_ n1_ n2_;(try clear hb);(try clear hkp);(try clear ho0)))
  go_loopg [4,5] k (fun kq v4 v5 w'=>∃ (x4_1:List Int) (x5_1:Int),v5=.int .i64 x5_1∧Aside0 (spec_Dump.l0 kq x4_1 x5_1 l0_0=some (r1,r2))∧Aside0 (kq≤k)∧Aside0 (Kd.R (Kd.int .u8) 5 w' w.heap.size (fun _=>True) v4 x4_1)∧Aside0 (w'.heap[gb331]?=some (.cells #[(.slice A0_0 l0_0.length c0_0)] 29 (0,0)))∧Aside0 (Below w.heap.size w w'))
  case atStart=>exact ⟨(t336),(0),(by first|rfl|(simp;done)|(simp [*];done)),H',⟨Nat.le_refl _⟩,⟨by (with_reducible repeat (first|apply Kd.R_alloc|apply Kd.R_drewN|apply Kd.R_drew));exact HO338.out⟩,⟨by (with_reducible repeat (first|refine blk_drewN ?_ _|refine blk_drew ?_|refine blk_alloc ?_ _));exact BK331.out⟩,⟨by repeat (first|(with_reducible first|exact HB.out|apply below_alloc|apply pw_below_drewN|apply below_drew1|refine below_set ?_ GE331.out)|exact HB.out)⟩⟩
  case round =>
   clear H';(try clear c1);(try clear p2);(try clear c3);(try clear c9);(try clear hcz6_0);(try clear hfz6_0)
   obtain ⟨x4_1,x5_1,rfl,HA,HK1,HO_4,BK331,HB⟩:=hrel
   cases gk with
   | zero=>exact absurd HA.out (by simp [spec_Dump.l0])
   | succ k1 =>
    have H:=HA.out
    clear HA
    simp only [spec_Dump.l0] at H
    by_cases c12:x5_1<(l0_0.length:Int)
    ·rw [if_pos c12] at H
     have c12b0:decide (x5_1<(l0_0.length:Int))=true:=decide_eq_true c12
     clear c12
     by_cases c13:0≤x5_1
     ·rw [if_pos c13] at H
      have c13b0:decide (0≤x5_1)=true:=decide_eq_true c13
      clear c13
      replace H:=Option.bind_eq_some_iff.mp H
      obtain ⟨t340,A140,H⟩:=H
      replace H:(spec_Dump.l0 k1 t340 (wrap64 (x5_1+1)) l0_0)=some (r1,r2):=H
      have A14:=Ak A140;clear A140
      have H':=Ak H
      clear H
      obtain ⟨hcz15_0,hfz15_0⟩:=bk1 BK331.out
      have p339:0≤(x5_1:Int):=of_decide_eq_true (by first|(with_reducible assumption)|assumption)
      have q339:x5_1<(l0_0.length:Int):=of_decide_eq_true (by first|(with_reducible assumption)|assumption)
      obtain ⟨ad339,A339_3,c339_3,A339_4,c339_4,A339_5,c339_5,A339_8,c339_8,A339_9,c339_9,e339,hx339_0,hx339_1,hx339_2,hx339_3,hx339_4,hx339_5,hx339_6,hx339_7,hx339_8,hx339_9,hl339_3,hi339_3,hl339_4,hi339_4,hl339_5,hi339_5,hl339_8,hi339_8,hl339_9,hi339_9⟩:=at_T44 HR0_0.out x5_1 p339 q339
      cases e339
      replace hx339_0:=(HB.out.cell (World.block_lt_of_cell? w _ hx339_0)).trans hx339_0
      replace hx339_1:=(HB.out.cell (World.block_lt_of_cell? w _ hx339_1)).trans hx339_1
      replace hx339_2:=(HB.out.cell (World.block_lt_of_cell? w _ hx339_2)).trans hx339_2
      replace hx339_3:=(HB.out.cell (World.block_lt_of_cell? w _ hx339_3)).trans hx339_3
      replace hx339_4:=(HB.out.cell (World.block_lt_of_cell? w _ hx339_4)).trans hx339_4
      replace hx339_5:=(HB.out.cell (World.block_lt_of_cell? w _ hx339_5)).trans hx339_5
      replace hx339_6:=(HB.out.cell (World.block_lt_of_cell? w _ hx339_6)).trans hx339_6
      replace hx339_7:=(HB.out.cell (World.block_lt_of_cell? w _ hx339_7)).trans hx339_7
      replace hx339_8:=(HB.out.cell (World.block_lt_of_cell? w _ hx339_8)).trans hx339_8
      replace hx339_9:=(HB.out.cell (World.block_lt_of_cell? w _ hx339_9)).trans hx339_9
      have HR339_3:=Ak hi339_3;have HC339_3:=Ak hl339_3;clear hi339_3 hl339_3;have HR339_4:=Ak hi339_4;have HC339_4:=Ak hl339_4;clear hi339_4 hl339_4;have HR339_5:=Ak hi339_5;have HC339_5:=Ak hl339_5;clear hi339_5 hl339_5;have HR339_8:=Ak hi339_8;have HC339_8:=Ak hl339_8;clear hi339_8 hl339_8;have HR339_9:=Ak hi339_9;have HC339_9:=Ak hl339_9;clear hi339_9 hl339_9
      replace p339:=eq_true p339
      replace q339:=eq_true q339
      obtain ⟨Ao16,co16,eo16⟩:=Kd.R_slice HO_4.out
      subst eo16
      go_wp2_with (first|((with_reducible refine gate_callee (f:=34) rfl ?_);refine goesL_ (some 24) rfl rfl Try.func34 (by kernel_rfl) rfl #[.slice Ao16 x4_1.length co16,.agg #[.int .i64 ((rd_T44 l0_0 x5_1).f0),.bool ((rd_T44 l0_0 x5_1).f1),.int .i64 ((rd_T44 l0_0 x5_1).f2),.slice A339_3 ((rd_T44 l0_0 x5_1).f3).length c339_3,.slice A339_4 ((rd_T44 l0_0 x5_1).f4).length c339_4,.slice A339_5 ((rd_T44 l0_0 x5_1).f5).length c339_5,.int .i64 ((rd_T44 l0_0 x5_1).f6),.string ((rd_T44 l0_0 x5_1).f7),.slice A339_8 ((rd_T44 l0_0 x5_1).f8).length c339_8,.slice A339_9 ((rd_T44 l0_0 x5_1).f9).length c339_9]] rfl (by (try simp only [List.map_toArray,List.map_cons,List.map_nil]);first|done|rfl|(simp only [List.length_drop,List.length_take];rfl)) ?_;(with_reducible refine (spec_l3Proto.calls k1 (fun k_=>some k_=(.slice Ao16 x4_1.length co16:Value).ownBlock) (.slice Ao16 x4_1.length co16) x4_1 ((rd_T44 l0_0 x5_1).f0) ((rd_T44 l0_0 x5_1).f1) ((rd_T44 l0_0 x5_1).f2) _ _ ((rd_T44 l0_0 x5_1).f3) _ _ ((rd_T44 l0_0 x5_1).f4) _ _ ((rd_T44 l0_0 x5_1).f5) ((rd_T44 l0_0 x5_1).f6) ((rd_T44 l0_0 x5_1).f7) _ _ ((rd_T44 l0_0 x5_1).f8) _ _ ((rd_T44 l0_0 x5_1).f9) t340 w _ ?side1 ?side2 ?side3 ?side4 ?side5 ?side6 ?side7 ?side8 ?side9 ?side10 ?side11 ?side12 A14.out).mono ?_);(case side1=>repeat (first|(with_reducible first|exact HB.out|apply below_alloc|apply pw_below_drewN|apply below_drew1|refine below_set ?_ GE331.out)|exact HB.out));(case side2=>exact Kd.R_tight rfl HO_4.out);(case side3=>exact Kd.C_kept_came (Kd.heap_int .u32) HR339_3.out (by repeat (first|(with_reducible first|exact HB.out|apply below_alloc|apply pw_below_drewN|apply below_drew1|refine below_set ?_ GE331.out)|exact HB.out)) (fun k_ hs_=>(fun e_=>Kd.R_base HO_4.out k_ e_.symm) hs_));(case side4=>exact HC339_3.out);(case side5=>exact Kd.C_kept_came k85_heap HR339_4.out (by repeat (first|(with_reducible first|exact HB.out|apply below_alloc|apply pw_below_drewN|apply below_drew1|refine below_set ?_ GE331.out)|exact HB.out)) (fun k_ hs_=>(fun e_=>Kd.R_base HO_4.out k_ e_.symm) hs_));(case side6=>exact HC339_4.out);(case side7=>exact Kd.C_kept_came k89_heap HR339_5.out (by repeat (first|(with_reducible first|exact HB.out|apply below_alloc|apply pw_below_drewN|apply below_drew1|refine below_set ?_ GE331.out)|exact HB.out)) (fun k_ hs_=>(fun e_=>Kd.R_base HO_4.out k_ e_.symm) hs_));(case side8=>exact HC339_5.out);(case side9=>exact Kd.C_kept_came (Kd.heap_int .i64) HR339_8.out (by repeat (first|(with_reducible first|exact HB.out|apply below_alloc|apply pw_below_drewN|apply below_drew1|refine below_set ?_ GE331.out)|exact HB.out)) (fun k_ hs_=>(fun e_=>Kd.R_base HO_4.out k_ e_.symm) hs_));(case side10=>exact HC339_8.out);(case side11=>exact Kd.C_kept_came Kd.heap_string HR339_9.out (by repeat (first|(with_reducible first|exact HB.out|apply below_alloc|apply pw_below_drewN|apply below_drew1|refine below_set ?_ GE331.out)|exact HB.out)) (fun k_ hs_=>(fun e_=>Kd.R_base HO_4.out k_ e_.symm) hs_));(case side12=>exact HC339_9.out);rintro e w17 ⟨v341,rfl,ho0,hb,hkp⟩;refine ⟨_,rfl,?_⟩;have n0_:=Ak (blk_kept (by (with_reducible repeat (first|refine blk_drewN ?_ _|refine blk_drew ?_|refine blk_alloc ?_ _));exact BK331.out) hkp (fun hs_=>(fun e_=>(Kd.R_ne HO_4.out BK331.out (by decide)) e_) hs_));have n1_:=Ak (Kd.R_mono (ok':=fun k_=>True) ho0 (fun k_ hk_=>trivial));have n2_:=Ak (hb);clear BK331;clear HB;clear HO_4;have BK331:=n0_;have HO342:=n1_;have HB:=n2_;clear n0_ n1_ n2_;(try clear hb);(try clear hkp);(try clear ho0)))
      go_roundg k1
      case measure=>have:=HK1.out;omega
      case rel=>exact ⟨(t340),(wrap64 (x5_1+1)),(by first|rfl|(simp;done)|(simp [*];done)),H',⟨by have:=HK1.out;omega⟩,⟨by (with_reducible repeat (first|apply Kd.R_alloc|apply Kd.R_drewN|apply Kd.R_drew));exact HO342.out⟩,⟨by (with_reducible repeat (first|refine blk_drewN ?_ _|refine blk_drew ?_|refine blk_alloc ?_ _));exact BK331.out⟩,⟨by repeat (first|(with_reducible first|exact HB.out|apply below_alloc|apply pw_below_drewN|apply below_drew1|refine below_set ?_ GE331.out)|exact HB.out)⟩⟩
     ·rw [if_neg c13] at H
      exact absurd H (by simp)
    ·rw [if_neg c12] at H
     have c12b0:decide (x5_1<(l0_0.length:Int))=false:=decide_eq_false c12
     clear c12
     simp only [Option.some.injEq,Prod.mk.injEq] at H
     obtain ⟨rfl,rfl⟩:=H
     obtain ⟨hcz18_0,hfz18_0⟩:=bk1 BK331.out
     have hcv19:=own_string (P:=Try.prog) Try.underlying35 Try.underlying5 Try.underlying9 (Kd.own_of_R HO_4.out)
     go_wp2
     go_ret2
     exact ⟨by first|rfl|(simp [errW_none,errW_some] <;> rfl)|(simp [*,errW_none,errW_some] <;> rfl),by repeat (first|(with_reducible first|exact HB.out|apply below_alloc|apply pw_below_drewN|apply below_drew1|refine below_set ?_ GE331.out)|exact HB.out)⟩
 ·replace c3:=Bool.eq_false_iff.mpr c3
  subst c3
  have H1:(some ((⟨#[]⟩:ByteArray),false))=some (r1,r2):=by rw [if_neg (show ¬ (false=true) by decide)] at H;exact H
  clear H;have H:=H1;clear H1
  simp only [Option.some.injEq,Prod.mk.injEq] at H
  obtain ⟨rfl,rfl⟩:=H
  go_enter Try.func16,Try.ntmps16
  go_wp2_with (first|((with_reducible refine gate_dst (N:=1) rfl ?_);refine box_event ?hg (N:=1) ?hd (cs:=#[.slice A0_0 l0_0.length c0_0]) (t:=29) ?hr ?_;(case hd=>rfl);(case hg=>rfl);(case hr=>first|(go_simp;done)|(go_simp;rfl));intro gb331 hg w20 hbox hb;have n0_:=Ak (below_step (by repeat (first|(with_reducible first|exact HB.out|apply below_alloc|apply pw_below_drewN|apply below_drew1)|exact HB.out)) hb);have n1_:=Ak (hbox);have n2_:=Ak ((by rw [hg];exact (below_size (by repeat (first|(with_reducible first|exact HB.out|apply below_alloc|apply pw_below_drewN|apply below_drew1)|exact HB.out))):w.heap.size≤gb331));have n3_:=Ak ((by rw [hg];exact (below_size (by repeat (first|(with_reducible first|exact HB.out|apply below_alloc|apply pw_below_drewN|apply below_drew1)|exact HB.out))):w.heap.size≤gb331));clear HB;have HB:=n0_;have BK331:=n1_;have GW331:=n2_;have GE331:=n3_;clear n0_ n1_ n2_ n3_;clear hb hbox hg;obtain ⟨hcz21_0,hfz21_0⟩:=bk1 BK331.out)|((with_reducible refine gate_callee (f:=9) rfl ?_);refine goesL_ (some 7) rfl rfl Try.func9 (by kernel_rfl) rfl #[.agg #[.slice A0_0 l0_0.length c0_0]] rfl (by (try simp only [List.map_toArray,List.map_cons,List.map_nil]);first|done|rfl|(simp only [List.length_drop,List.length_take];rfl)) ?_;(with_reducible refine (spec_WellFormed.calls k _ _ l0_0 false _ ?side1 ?side2 A2.out).mono ?_);(case side1=>repeat (first|exact (Kd.C_below HR0_0.out HB.out)|(with_reducible refine Kd.C_alloc ?_ _)|(with_reducible refine Kd.C_drewN ?_ _)|(with_reducible refine Kd.C_drew ?_)));(case side2=>exact HC0_0.out);rintro e w22 ⟨rfl,hb⟩;refine ⟨_,rfl,?_⟩;have n0_:=Ak (blk_below (g:=gb331) (o:=.cells #[.slice A0_0 l0_0.length c0_0] 29 (0,0)) (by (with_reducible repeat (first|refine blk_drewN ?_ _|refine blk_drew ?_|refine blk_alloc ?_ _));exact BK331.out) hb);have n1_:=Ak (below_step (by repeat (first|(with_reducible first|exact HB.out|apply below_alloc|apply pw_below_drewN|apply below_drew1|refine below_set ?_ GE331.out)|exact HB.out)) hb);clear BK331;clear HB;have BK331:=n0_;have HB:=n1_;clear n0_ n1_;(try clear hb);(try clear hb2);(try clear hk);(try clear hi)))
  go_ret2
  exact ⟨by first|rfl|(simp [errW_none,errW_some] <;> rfl)|(simp [*,errW_none,errW_some] <;> rfl),by repeat (first|(with_reducible first|exact HB.out|apply below_alloc|apply pw_below_drewN|apply below_drew1|refine below_set ?_ GE331.out)|exact HB.out)⟩
def impl_within.f (a0:Int) (a1:Int) (a2:Int):Option (Bool):=if a1≤a0 then (some (decide (a0≤a2))) else (some false)
set_option maxHeartbeats 8000000 in
set_option maxRecDepth 100000 in
theorem impl_within.calls (a0:Int) (a1:Int) (a2:Int) (r:Bool) (w:World) (h:impl_within.f a0 a1 a2=some r) :
  Calls Try.prog 26 #[.int .i64 a0,.int .i64 a1,.int .i64 a2] w fun e w'=>e=.returned (.bool r)∧Drawn0 w w':=by
 have H:(if a1≤a0 then (some (decide (a0≤a2))) else (some false))=some r:=h
 clear h
 by_cases c4:a1≤a0
 ·rw [if_pos c4] at H
  have c4b0:decide (a1≤a0)=true:=decide_eq_true c4
  clear c4
  obtain rfl:=Option.some.inj H
  go_enter Try.func26,Try.ntmps26
  go_wp2
  go_ret
  exact ⟨by first|rfl|(simp;done)|(simp [*];done),by repeat (first|exact Drawn0.refl _|apply Drawn0.step)⟩
 ·rw [if_neg c4] at H
  have c4b0:decide (a1≤a0)=false:=decide_eq_false c4
  clear c4
  obtain rfl:=Option.some.inj H
  go_enter Try.func26,Try.ntmps26
  go_wp2
  go_ret
  exact ⟨by first|rfl|(simp;done)|(simp [*];done),by repeat (first|exact Drawn0.refl _|apply Drawn0.step)⟩
-- NOT PRINTED: function 108 (impl_Value_108)
-- NOT PRINTED: function 58 (impl_Value_58)
def impl_plain.f (a0_0:Int) (a0_1:Int) (a0_2:ByteArray):Option (Bool):=if a0_0=0 then (if a0_1=0 then (some (a0_2.toList == ([]:List UInt8))) else (some false)) else (if a0_0=1 then (if a0_1=0 then (some (a0_2.toList == ([]:List UInt8))) else (if a0_1=1 then (some (a0_2.toList == ([]:List UInt8))) else (some false))) else (if a0_0=2 then (some (a0_2.toList == ([]:List UInt8))) else (if a0_0=3 then (if a0_1=0 then (some (decide ((a0_2.size:Int)≤1000))) else (some false)) else (some false))))
set_option maxHeartbeats 8000000 in
set_option maxRecDepth 100000 in
theorem impl_plain.calls (a0_0:Int) (a0_1:Int) (a0_2:ByteArray) (r:Bool) (w:World) (h:impl_plain.f a0_0 a0_1 a0_2=some r) :
  Calls Try.prog 60 #[.agg #[.int .i64 a0_0,.int .i64 a0_1,.string a0_2]] w fun e w'=>e=.returned (.bool r)∧Below w.heap.size w w':=by
 have hu85:=Try.underlying85
 have HB:=Ak (Below.refl w.heap.size w)
 have H:(if a0_0=0 then (if a0_1=0 then (some (a0_2.toList == ([]:List UInt8))) else (some false)) else (if a0_0=1 then (if a0_1=0 then (some (a0_2.toList == ([]:List UInt8))) else (if a0_1=1 then (some (a0_2.toList == ([]:List UInt8))) else (some false))) else (if a0_0=2 then (some (a0_2.toList == ([]:List UInt8))) else (if a0_0=3 then (if a0_1=0 then (some (decide ((a0_2.size:Int)≤1000))) else (some false)) else (some false)))))=some r:=h
 clear h
 by_cases c2:a0_0=0
 ·rw [if_pos c2] at H
  have c2b0:(a0_0 == 0)=true:=beq_iff_eq.mpr c2
  have c2b1:(a0_0 != 0)=false:=bne_eq_false_iff_eq.mpr c2
  clear c2
  by_cases c3:a0_1=0
  ·rw [if_pos c3] at H
   have c3b0:(a0_1 == 0)=true:=beq_iff_eq.mpr c3
   have c3b1:(a0_1 != 0)=false:=bne_eq_false_iff_eq.mpr c3
   clear c3
   obtain rfl:=Option.some.inj H
   go_enter Try.func60,Try.ntmps60
   go_wp2_with (first|((with_reducible refine gate_dst (N:=1) rfl ?_);(try (refine gate_guard (by rfl) ?_;dsimp only));refine box_event ?hg (N:=1) ?hd (cs:=#[.int .i64 a0_0,.int .i64 a0_1,.string a0_2]) (t:=85) ?hr ?_;(case hd=>rfl);(case hg=>rfl);(case hr=>first|(go_simp;done)|(go_simp;rfl));intro gb343 hg w4 hbox hb;have n0_:=Ak (below_step (by repeat (first|(with_reducible first|exact HB.out|apply below_alloc|apply pw_below_drewN|apply below_drew1)|exact HB.out)) hb);have n1_:=Ak (hbox);have n2_:=Ak ((by rw [hg];exact (below_size (by repeat (first|(with_reducible first|exact HB.out|apply below_alloc|apply pw_below_drewN|apply below_drew1)|exact HB.out))):w.heap.size≤gb343));have n3_:=Ak ((by rw [hg];exact (below_size (by repeat (first|(with_reducible first|exact HB.out|apply below_alloc|apply pw_below_drewN|apply below_drew1)|exact HB.out))):w.heap.size≤gb343));clear HB;have HB:=n0_;have BK343:=n1_;have GW343:=n2_;have GE343:=n3_;clear n0_ n1_ n2_ n3_;clear hb hbox hg;obtain ⟨hcz5_0,hcz5_1,hcz5_2,hfz5_0,hfz5_1,hfz5_2⟩:=bk3 BK343.out))
   go_ret
   exact ⟨by first|rfl|(simp [errW_none,errW_some] <;> rfl)|(simp [*,errW_none,errW_some] <;> rfl),by repeat (first|(with_reducible first|exact HB.out|apply below_alloc|apply pw_below_drewN|apply below_drew1|refine below_set ?_ GE343.out)|exact HB.out)⟩
  ·rw [if_neg c3] at H
   have c3b0:(a0_1 == 0)=false:=beq_eq_false_iff_ne.mpr c3
   have c3b1:(a0_1 != 0)=true:=bne_iff_ne.mpr c3
   obtain rfl:=Option.some.inj H
   go_enter Try.func60,Try.ntmps60
   go_wp2_with (first|((with_reducible refine gate_dst (N:=1) rfl ?_);(try (refine gate_guard (by rfl) ?_;dsimp only));refine box_event ?hg (N:=1) ?hd (cs:=#[.int .i64 a0_0,.int .i64 a0_1,.string a0_2]) (t:=85) ?hr ?_;(case hd=>rfl);(case hg=>rfl);(case hr=>first|(go_simp;done)|(go_simp;rfl));intro gb343 hg w6 hbox hb;have n0_:=Ak (below_step (by repeat (first|(with_reducible first|exact HB.out|apply below_alloc|apply pw_below_drewN|apply below_drew1)|exact HB.out)) hb);have n1_:=Ak (hbox);have n2_:=Ak ((by rw [hg];exact (below_size (by repeat (first|(with_reducible first|exact HB.out|apply below_alloc|apply pw_below_drewN|apply below_drew1)|exact HB.out))):w.heap.size≤gb343));have n3_:=Ak ((by rw [hg];exact (below_size (by repeat (first|(with_reducible first|exact HB.out|apply below_alloc|apply pw_below_drewN|apply below_drew1)|exact HB.out))):w.heap.size≤gb343));clear HB;have HB:=n0_;have BK343:=n1_;have GW343:=n2_;have GE343:=n3_;clear n0_ n1_ n2_ n3_;clear hb hbox hg;obtain ⟨hcz7_0,hcz7_1,hcz7_2,hfz7_0,hfz7_1,hfz7_2⟩:=bk3 BK343.out))
   go_ret
   exact ⟨by first|rfl|(simp [errW_none,errW_some] <;> rfl)|(simp [*,errW_none,errW_some] <;> rfl),by repeat (first|(with_reducible first|exact HB.out|apply below_alloc|apply pw_below_drewN|apply below_drew1|refine below_set ?_ GE343.out)|exact HB.out)⟩
 ·rw [if_neg c2] at H
  have c2b0:(a0_0 == 0)=false:=beq_eq_false_iff_ne.mpr c2
  have c2b1:(a0_0 != 0)=true:=bne_iff_ne.mpr c2
  by_cases c8:a0_0=1
  ·rw [if_pos c8] at H
   have c8b0:(a0_0 == 1)=true:=beq_iff_eq.mpr c8
   have c8b1:(a0_0 != 1)=false:=bne_eq_false_iff_eq.mpr c8
   clear c8
   by_cases c9:a0_1=0
   ·rw [if_pos c9] at H
    have c9b0:(a0_1 == 0)=true:=beq_iff_eq.mpr c9
    have c9b1:(a0_1 != 0)=false:=bne_eq_false_iff_eq.mpr c9
    clear c9
    obtain rfl:=Option.some.inj H
    go_enter Try.func60,Try.ntmps60
    go_wp2_with (first|((with_reducible refine gate_dst (N:=1) rfl ?_);(try (refine gate_guard (by rfl) ?_;dsimp only));refine box_event ?hg (N:=1) ?hd (cs:=#[.int .i64 a0_0,.int .i64 a0_1,.string a0_2]) (t:=85) ?hr ?_;(case hd=>rfl);(case hg=>rfl);(case hr=>first|(go_simp;done)|(go_simp;rfl));intro gb343 hg w10 hbox hb;have n0_:=Ak (below_step (by repeat (first|(with_reducible first|exact HB.out|apply below_alloc|apply pw_below_drewN|apply below_drew1)|exact HB.out)) hb);have n1_:=Ak (hbox);have n2_:=Ak ((by rw [hg];exact (below_size (by repeat (first|(with_reducible first|exact HB.out|apply below_alloc|apply pw_below_drewN|apply below_drew1)|exact HB.out))):w.heap.size≤gb343));have n3_:=Ak ((by rw [hg];exact (below_size (by repeat (first|(with_reducible first|exact HB.out|apply below_alloc|apply pw_below_drewN|apply below_drew1)|exact HB.out))):w.heap.size≤gb343));clear HB;have HB:=n0_;have BK343:=n1_;have GW343:=n2_;have GE343:=n3_;clear n0_ n1_ n2_ n3_;clear hb hbox hg;obtain ⟨hcz11_0,hcz11_1,hcz11_2,hfz11_0,hfz11_1,hfz11_2⟩:=bk3 BK343.out))
    go_ret
    exact ⟨by first|rfl|(simp [errW_none,errW_some] <;> rfl)|(simp [*,errW_none,errW_some] <;> rfl),by repeat (first|(with_reducible first|exact HB.out|apply below_alloc|apply pw_below_drewN|apply below_drew1|refine below_set ?_ GE343.out)|exact HB.out)⟩
   ·rw [if_neg c9] at H
    have c9b0:(a0_1 == 0)=false:=beq_eq_false_iff_ne.mpr c9
    have c9b1:(a0_1 != 0)=true:=bne_iff_ne.mpr c9
    by_cases c12:a0_1=1
    ·rw [if_pos c12] at H
     have c12b0:(a0_1 == 1)=true:=beq_iff_eq.mpr c12
     have c12b1:(a0_1 != 1)=false:=bne_eq_false_iff_eq.mpr c12
     clear c12
     obtain rfl:=Option.some.inj H
     go_enter Try.func60,Try.ntmps60
     go_wp2_with (first|((with_reducible refine gate_dst (N:=1) rfl ?_);(try (refine gate_guard (by rfl) ?_;dsimp only));refine box_event ?hg (N:=1) ?hd (cs:=#[.int .i64 a0_0,.int .i64 a0_1,.string a0_2]) (t:=85) ?hr ?_;(case hd=>rfl);(case hg=>rfl);(case hr=>first|(go_simp;done)|(go_simp;rfl));intro gb343 hg w13 hbox hb;have n0_:=Ak (below_step (by repeat (first|(with_reducible first|exact HB.out|apply below_alloc|apply pw_below_drewN|apply below_drew1)|exact HB.out)) hb);have n1_:=Ak (hbox);have n2_:=Ak ((by rw [hg];exact (below_size (by repeat (first|(with_reducible first|exact HB.out|apply below_alloc|apply pw_below_drewN|apply below_drew1)|exact HB.out))):w.heap.size≤gb343));have n3_:=Ak ((by rw [hg];exact (below_size (by repeat (first|(with_reducible first|exact HB.out|apply below_alloc|apply pw_below_drewN|apply below_drew1)|exact HB.out))):w.heap.size≤gb343));clear HB;have HB:=n0_;have BK343:=n1_;have GW343:=n2_;have GE343:=n3_;clear n0_ n1_ n2_ n3_;clear hb hbox hg;obtain ⟨hcz14_0,hcz14_1,hcz14_2,hfz14_0,hfz14_1,hfz14_2⟩:=bk3 BK343.out))
     go_ret
     exact ⟨by first|rfl|(simp [errW_none,errW_some] <;> rfl)|(simp [*,errW_none,errW_some] <;> rfl),by repeat (first|(with_reducible first|exact HB.out|apply below_alloc|apply pw_below_drewN|apply below_drew1|refine below_set ?_ GE343.out)|exact HB.out)⟩
    ·rw [if_neg c12] at H
     have c12b0:(a0_1 == 1)=false:=beq_eq_false_iff_ne.mpr c12
     have c12b1:(a0_1 != 1)=true:=bne_iff_ne.mpr c12
     obtain rfl:=Option.some.inj H
     go_enter Try.func60,Try.ntmps60
     go_wp2_with (first|((with_reducible refine gate_dst (N:=1) rfl ?_);(try (refine gate_guard (by rfl) ?_;dsimp only));refine box_event ?hg (N:=1) ?hd (cs:=#[.int .i64 a0_0,.int .i64 a0_1,.string a0_2]) (t:=85) ?hr ?_;(case hd=>rfl);(case hg=>rfl);(case hr=>first|(go_simp;done)|(go_simp;rfl));intro gb343 hg w15 hbox hb;have n0_:=Ak (below_step (by repeat (first|(with_reducible first|exact HB.out|apply below_alloc|apply pw_below_drewN|apply below_drew1)|exact HB.out)) hb);have n1_:=Ak (hbox);have n2_:=Ak ((by rw [hg];exact (below_size (by repeat (first|(with_reducible first|exact HB.out|apply below_alloc|apply pw_below_drewN|apply below_drew1)|exact HB.out))):w.heap.size≤gb343));have n3_:=Ak ((by rw [hg];exact (below_size (by repeat (first|(with_reducible first|exact HB.out|apply below_alloc|apply pw_below_drewN|apply below_drew1)|exact HB.out))):w.heap.size≤gb343));clear HB;have HB:=n0_;have BK343:=n1_;have GW343:=n2_;have GE343:=n3_;clear n0_ n1_ n2_ n3_;clear hb hbox hg;obtain ⟨hcz16_0,hcz16_1,hcz16_2,hfz16_0,hfz16_1,hfz16_2⟩:=bk3 BK343.out))
     go_ret
     exact ⟨by first|rfl|(simp [errW_none,errW_some] <;> rfl)|(simp [*,errW_none,errW_some] <;> rfl),by repeat (first|(with_reducible first|exact HB.out|apply below_alloc|apply pw_below_drewN|apply below_drew1|refine below_set ?_ GE343.out)|exact HB.out)⟩
  ·rw [if_neg c8] at H
   have c8b0:(a0_0 == 1)=false:=beq_eq_false_iff_ne.mpr c8
   have c8b1:(a0_0 != 1)=true:=bne_iff_ne.mpr c8
   by_cases c17:a0_0=2
   ·rw [if_pos c17] at H
    have c17b0:(a0_0 == 2)=true:=beq_iff_eq.mpr c17
    have c17b1:(a0_0 != 2)=false:=bne_eq_false_iff_eq.mpr c17
    clear c17
    obtain rfl:=Option.some.inj H
    go_enter Try.func60,Try.ntmps60
    go_wp2_with (first|((with_reducible refine gate_dst (N:=1) rfl ?_);(try (refine gate_guard (by rfl) ?_;dsimp only));refine box_event ?hg (N:=1) ?hd (cs:=#[.int .i64 a0_0,.int .i64 a0_1,.string a0_2]) (t:=85) ?hr ?_;(case hd=>rfl);(case hg=>rfl);(case hr=>first|(go_simp;done)|(go_simp;rfl));intro gb343 hg w18 hbox hb;have n0_:=Ak (below_step (by repeat (first|(with_reducible first|exact HB.out|apply below_alloc|apply pw_below_drewN|apply below_drew1)|exact HB.out)) hb);have n1_:=Ak (hbox);have n2_:=Ak ((by rw [hg];exact (below_size (by repeat (first|(with_reducible first|exact HB.out|apply below_alloc|apply pw_below_drewN|apply below_drew1)|exact HB.out))):w.heap.size≤gb343));have n3_:=Ak ((by rw [hg];exact (below_size (by repeat (first|(with_reducible first|exact HB.out|apply below_alloc|apply pw_below_drewN|apply below_drew1)|exact HB.out))):w.heap.size≤gb343));clear HB;have HB:=n0_;have BK343:=n1_;have GW343:=n2_;have GE343:=n3_;clear n0_ n1_ n2_ n3_;clear hb hbox hg;obtain ⟨hcz19_0,hcz19_1,hcz19_2,hfz19_0,hfz19_1,hfz19_2⟩:=bk3 BK343.out))
    go_ret
    exact ⟨by first|rfl|(simp [errW_none,errW_some] <;> rfl)|(simp [*,errW_none,errW_some] <;> rfl),by repeat (first|(with_reducible first|exact HB.out|apply below_alloc|apply pw_below_drewN|apply below_drew1|refine below_set ?_ GE343.out)|exact HB.out)⟩
   ·rw [if_neg c17] at H
    have c17b0:(a0_0 == 2)=false:=beq_eq_false_iff_ne.mpr c17
    have c17b1:(a0_0 != 2)=true:=bne_iff_ne.mpr c17
    by_cases c20:a0_0=3
    ·rw [if_pos c20] at H
     have c20b0:(a0_0 == 3)=true:=beq_iff_eq.mpr c20
     have c20b1:(a0_0 != 3)=false:=bne_eq_false_iff_eq.mpr c20
     clear c20
     by_cases c21:a0_1=0
     ·rw [if_pos c21] at H
      have c21b0:(a0_1 == 0)=true:=beq_iff_eq.mpr c21
      have c21b1:(a0_1 != 0)=false:=bne_eq_false_iff_eq.mpr c21
      clear c21
      obtain rfl:=Option.some.inj H
      go_enter Try.func60,Try.ntmps60
      go_wp2_with (first|((with_reducible refine gate_dst (N:=1) rfl ?_);(try (refine gate_guard (by rfl) ?_;dsimp only));refine box_event ?hg (N:=1) ?hd (cs:=#[.int .i64 a0_0,.int .i64 a0_1,.string a0_2]) (t:=85) ?hr ?_;(case hd=>rfl);(case hg=>rfl);(case hr=>first|(go_simp;done)|(go_simp;rfl));intro gb343 hg w22 hbox hb;have n0_:=Ak (below_step (by repeat (first|(with_reducible first|exact HB.out|apply below_alloc|apply pw_below_drewN|apply below_drew1)|exact HB.out)) hb);have n1_:=Ak (hbox);have n2_:=Ak ((by rw [hg];exact (below_size (by repeat (first|(with_reducible first|exact HB.out|apply below_alloc|apply pw_below_drewN|apply below_drew1)|exact HB.out))):w.heap.size≤gb343));have n3_:=Ak ((by rw [hg];exact (below_size (by repeat (first|(with_reducible first|exact HB.out|apply below_alloc|apply pw_below_drewN|apply below_drew1)|exact HB.out))):w.heap.size≤gb343));clear HB;have HB:=n0_;have BK343:=n1_;have GW343:=n2_;have GE343:=n3_;clear n0_ n1_ n2_ n3_;clear hb hbox hg;obtain ⟨hcz23_0,hcz23_1,hcz23_2,hfz23_0,hfz23_1,hfz23_2⟩:=bk3 BK343.out))
      go_ret
      exact ⟨by first|rfl|(simp [errW_none,errW_some] <;> rfl)|(simp [*,errW_none,errW_some] <;> rfl),by repeat (first|(with_reducible first|exact HB.out|apply below_alloc|apply pw_below_drewN|apply below_drew1|refine below_set ?_ GE343.out)|exact HB.out)⟩
     ·rw [if_neg c21] at H
      have c21b0:(a0_1 == 0)=false:=beq_eq_false_iff_ne.mpr c21
      have c21b1:(a0_1 != 0)=true:=bne_iff_ne.mpr c21
      obtain rfl:=Option.some.inj H
      go_enter Try.func60,Try.ntmps60
      go_wp2_with (first|((with_reducible refine gate_dst (N:=1) rfl ?_);(try (refine gate_guard (by rfl) ?_;dsimp only));refine box_event ?hg (N:=1) ?hd (cs:=#[.int .i64 a0_0,.int .i64 a0_1,.string a0_2]) (t:=85) ?hr ?_;(case hd=>rfl);(case hg=>rfl);(case hr=>first|(go_simp;done)|(go_simp;rfl));intro gb343 hg w24 hbox hb;have n0_:=Ak (below_step (by repeat (first|(with_reducible first|exact HB.out|apply below_alloc|apply pw_below_drewN|apply below_drew1)|exact HB.out)) hb);have n1_:=Ak (hbox);have n2_:=Ak ((by rw [hg];exact (below_size (by repeat (first|(with_reducible first|exact HB.out|apply below_alloc|apply pw_below_drewN|apply below_drew1)|exact HB.out))):w.heap.size≤gb343));have n3_:=Ak ((by rw [hg];exact (below_size (by repeat (first|(with_reducible first|exact HB.out|apply below_alloc|apply pw_below_drewN|apply below_drew1)|exact HB.out))):w.heap.size≤gb343));clear HB;have HB:=n0_;have BK343:=n1_;have GW343:=n2_;have GE343:=n3_;clear n0_ n1_ n2_ n3_;clear hb hbox hg;obtain ⟨hcz25_0,hcz25_1,hcz25_2,hfz25_0,hfz25_1,hfz25_2⟩:=bk3 BK343.out))
      go_ret
      exact ⟨by first|rfl|(simp [errW_none,errW_some] <;> rfl)|(simp [*,errW_none,errW_some] <;> rfl),by repeat (first|(with_reducible first|exact HB.out|apply below_alloc|apply pw_below_drewN|apply below_drew1|refine below_set ?_ GE343.out)|exact HB.out)⟩
    ·rw [if_neg c20] at H
     have c20b0:(a0_0 == 3)=false:=beq_eq_false_iff_ne.mpr c20
     have c20b1:(a0_0 != 3)=true:=bne_iff_ne.mpr c20
     obtain rfl:=Option.some.inj H
     go_enter Try.func60,Try.ntmps60
     go_wp2_with (first|((with_reducible refine gate_dst (N:=1) rfl ?_);(try (refine gate_guard (by rfl) ?_;dsimp only));refine box_event ?hg (N:=1) ?hd (cs:=#[.int .i64 a0_0,.int .i64 a0_1,.string a0_2]) (t:=85) ?hr ?_;(case hd=>rfl);(case hg=>rfl);(case hr=>first|(go_simp;done)|(go_simp;rfl));intro gb343 hg w26 hbox hb;have n0_:=Ak (below_step (by repeat (first|(with_reducible first|exact HB.out|apply below_alloc|apply pw_below_drewN|apply below_drew1)|exact HB.out)) hb);have n1_:=Ak (hbox);have n2_:=Ak ((by rw [hg];exact (below_size (by repeat (first|(with_reducible first|exact HB.out|apply below_alloc|apply pw_below_drewN|apply below_drew1)|exact HB.out))):w.heap.size≤gb343));have n3_:=Ak ((by rw [hg];exact (below_size (by repeat (first|(with_reducible first|exact HB.out|apply below_alloc|apply pw_below_drewN|apply below_drew1)|exact HB.out))):w.heap.size≤gb343));clear HB;have HB:=n0_;have BK343:=n1_;have GW343:=n2_;have GE343:=n3_;clear n0_ n1_ n2_ n3_;clear hb hbox hg;obtain ⟨hcz27_0,hcz27_1,hcz27_2,hfz27_0,hfz27_1,hfz27_2⟩:=bk3 BK343.out))
     go_ret
     exact ⟨by first|rfl|(simp [errW_none,errW_some] <;> rfl)|(simp [*,errW_none,errW_some] <;> rfl),by repeat (first|(with_reducible first|exact HB.out|apply below_alloc|apply pw_below_drewN|apply below_drew1|refine below_set ?_ GE343.out)|exact HB.out)⟩
-- NOT PRINTED: function 109 (impl_Up_109)
-- NOT PRINTED: function 61 (impl_Up_61)
-- NOT PRINTED: function 110 (slices_IndexFunc_int_int)
-- NOT PRINTED: function 63 (slices_ContainsFunc_int_int)
-- NOT PRINTED: function 111 (slices_IndexFunc_string_string)
-- NOT PRINTED: function 65 (slices_ContainsFunc_string_string)
end Go.Proofs.Ytiekodnojmkfaaa.PFnExactDump
