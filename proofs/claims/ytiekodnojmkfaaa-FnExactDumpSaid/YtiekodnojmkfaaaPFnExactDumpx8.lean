-- Printed by the kit's print or by this session's program, then cut and tightened by it.
import Derived.Test.YtiekodnojmkfaaaPFnExactDumpx0
import Derived.Test.YtiekodnojmkfaaaPFnExactDumpx6
import Derived.Test.YtiekodnojmkfaaaPFnExactDumpx7
namespace Go.Proofs.Ytiekodnojmkfaaa.PFnExactDump
open Go.RowKit Go.Proofs.YtiekodnojmkfaaaW.PrintWords Go.Proofs.YtiekodnojmkfaaaW.PrintLast Go.Proofs.YtiekodnojmkfaaaW.PrintMore
attribute [local go_sem] max2_int min2_int max_two min_two max_three min_three max_four min_four   -- for this text's walks alone
set_option linter.unusedVariables false
set_option linter.unusedSimpArgs false
mutual
def spec_WellFormed.j0:Nat→Int→Bool→List (S44)→Option (Bool)
 | 0,_,_,_=>none
 | k+1,x3,x20,x242000=>if x20=true then (some false) else (spec_WellFormed.l0 k x3 0 x242000)
def spec_WellFormed.l0:Nat→Int→Int→List (S44)→Option (Bool)
 | 0,_,_,_=>none
 | k+1,x3,x4,x242000=>if x4<x3 then (if 0≤x4 then (if x4<(x242000.length:Int) then ((spec_l2ProtoOk.f k ((rd_T44 x242000 x4).f0) ((rd_T44 x242000 x4).f1) ((rd_T44 x242000 x4).f2) ((rd_T44 x242000 x4).f3) ((rd_T44 x242000 x4).f4) ((rd_T44 x242000 x4).f5) ((rd_T44 x242000 x4).f6) ((rd_T44 x242000 x4).f7) ((rd_T44 x242000 x4).f8) ((rd_T44 x242000 x4).f9)).bind fun t244=>(if t244=true then (spec_WellFormed.l0 k x3 (wrap64 (x4+1)) x242000) else (some false))) else (none)) else (none)) else (some true)
end
def spec_WellFormed.f (k:Nat) (l0_0:List (S44)):Option (Bool):=if (l0_0.length:Int)<1 then (spec_WellFormed.j0 k (l0_0.length:Int) true l0_0) else (if (l0_0.length:Int) > 200 then (spec_WellFormed.j0 k (l0_0.length:Int) true l0_0) else ((spec_l2End.f k l0_0 0 0).bind fun t242=>(spec_WellFormed.j0 k (l0_0.length:Int) (t242 != (l0_0.length:Int)) l0_0)))
set_option maxHeartbeats 8000000 in
set_option maxRecDepth 100000 in
theorem spec_WellFormed.calls (k:Nat) (A0_0:Option Addr) (c0_0:Nat) (l0_0:List (S44)) (r:Bool) (w:World) (hr0_0:Kd.C k44 w A0_0 l0_0.length l0_0) (hc0_0:l0_0.length≤c0_0) (h:spec_WellFormed.f k l0_0=some r) :
  Calls Try.prog 9 #[.agg #[.slice A0_0 l0_0.length c0_0]] w fun e w'=>e=.returned (.bool r)∧Below w.heap.size w w':=by
 have hu29:=Try.underlying29
 have hu44:=Try.underlying44
 have HR0_0:=Ak hr0_0;have HC0_0:=Ak hc0_0;clear hr0_0 hc0_0
 have HB:=Ak (Below.refl w.heap.size w)
 have H:(if (l0_0.length:Int)<1 then (spec_WellFormed.j0 k (l0_0.length:Int) true l0_0) else (if (l0_0.length:Int) > 200 then (spec_WellFormed.j0 k (l0_0.length:Int) true l0_0) else ((spec_l2End.f k l0_0 0 0).bind fun t242=>(spec_WellFormed.j0 k (l0_0.length:Int) (t242 != (l0_0.length:Int)) l0_0))))=some r:=h
 clear h;have HC2:=Ak H;clear H
 go_enter Try.func9,Try.ntmps9
 go_upto_region 2 with (first|((with_reducible refine gate_dst (N:=1) rfl ?_);refine box_event ?hg (N:=1) ?hd (cs:=#[.slice A0_0 l0_0.length c0_0]) (t:=29) ?hr ?_;(case hd=>rfl);(case hg=>rfl);(case hr=>first|(go_simp;done)|(go_simp;rfl));intro gb241 hg w3 hbox hb;have n0_:=Ak (below_step (by repeat (first|(with_reducible first|exact HB.out|apply below_alloc|apply pw_below_drewN|apply below_drew1)|exact HB.out)) hb);have n1_:=Ak (hbox);have n2_:=Ak ((by rw [hg];exact (below_size (by repeat (first|(with_reducible first|exact HB.out|apply below_alloc|apply pw_below_drewN|apply below_drew1)|exact HB.out))):w.heap.size≤gb241));have n3_:=Ak ((by rw [hg];exact (below_size (by repeat (first|(with_reducible first|exact HB.out|apply below_alloc|apply pw_below_drewN|apply below_drew1)|exact HB.out))):w.heap.size≤gb241));clear HB;have HB:=n0_;have BK241:=n1_;have GW241:=n2_;have GE241:=n3_;clear n0_ n1_ n2_ n3_;clear hb hbox hg;obtain ⟨hcz4_0,hfz4_0⟩:=bk1 BK241.out))
 (try simp only [Act.put,List.setIfInBounds_toArray,List.set_cons_zero,List.set_cons_succ])
 go_cut [20] (fun v20 wc=>∃ (kq:Nat) (x20_1:Bool),v20=.bool x20_1∧Aside0 (spec_WellFormed.j0 kq (l0_0.length:Int) x20_1 l0_0=some r)∧Aside0 (kq≤k)∧Aside0 (wc.heap[gb241]?=some (.cells #[(.slice A0_0 l0_0.length c0_0)] 29 (0,0)))∧Aside0 (Below w.heap.size w wc))
 case first =>
  have H:=HC2.out
  clear HC2
  by_cases c5:(l0_0.length:Int)<1
  ·rw [if_pos c5] at H
   have c5b0:decide ((l0_0.length:Int)<1)=true:=decide_eq_true c5
   have c5b1:decide (l0_0.length<1)=true:=decide_eq_true (by omega)
   clear c5
   (first|rw [c5b0]|(simp only [i64_w,i32_w];rw [c5b0])|skip)
   have H':=Ak H
   clear H
   go_wp2
   go_meet
   case rel=>exact ⟨_,(true),(by first|rfl|(simp;done)|(simp [*];done)),H',⟨by first|omega|exact Nat.le_refl _⟩,⟨by (with_reducible repeat (first|refine blk_drewN ?_ _|refine blk_drew ?_|refine blk_alloc ?_ _));exact BK241.out⟩,⟨by repeat (first|(with_reducible first|exact HB.out|apply below_alloc|apply pw_below_drewN|apply below_drew1|refine below_set ?_ GE241.out)|exact HB.out)⟩⟩
  ·rw [if_neg c5] at H
   have c5b0:decide ((l0_0.length:Int)<1)=false:=decide_eq_false c5
   have c5b1:decide (l0_0.length<1)=false:=decide_eq_false (by omega)
   clear c5
   (first|rw [c5b0]|(simp only [i64_w,i32_w];rw [c5b0])|skip)
   by_cases c6:(l0_0.length:Int) > 200
   ·rw [if_pos c6] at H
    have c6b0:decide (200<(l0_0.length:Int))=true:=decide_eq_true c6
    have c6b1:decide (200<l0_0.length)=true:=decide_eq_true (by omega)
    clear c6
    have H':=Ak H
    clear H
    go_wp2
    go_meet
    case rel=>exact ⟨_,(true),(by first|rfl|(simp;done)|(simp [*];done)),H',⟨by first|omega|exact Nat.le_refl _⟩,⟨by (with_reducible repeat (first|refine blk_drewN ?_ _|refine blk_drew ?_|refine blk_alloc ?_ _));exact BK241.out⟩,⟨by repeat (first|(with_reducible first|exact HB.out|apply below_alloc|apply pw_below_drewN|apply below_drew1|refine below_set ?_ GE241.out)|exact HB.out)⟩⟩
   ·rw [if_neg c6] at H
    have c6b0:decide (200<(l0_0.length:Int))=false:=decide_eq_false c6
    have c6b1:decide (200<l0_0.length)=false:=decide_eq_false (by omega)
    clear c6
    replace H:=Option.bind_eq_some_iff.mp H
    obtain ⟨t242,A70,H⟩:=H
    replace H:(spec_WellFormed.j0 k (l0_0.length:Int) (t242 != (l0_0.length:Int)) l0_0)=some r:=H
    have A7:=Ak A70;clear A70
    have H':=Ak H
    clear H
    obtain ⟨hcz8_0,hfz8_0⟩:=bk1 BK241.out
    go_wp2_with (first|(go_at_call 23;(with_reducible refine (spec_l2End.calls k _ _ l0_0 0 0 t242 _ ?side1 ?side2 A7.out).mono ?_);(case side1=>repeat (first|exact (Kd.C_below HR0_0.out HB.out)|(with_reducible refine Kd.C_alloc ?_ _)|(with_reducible refine Kd.C_drewN ?_ _)|(with_reducible refine Kd.C_drew ?_)));(case side2=>exact HC0_0.out);rintro e w' ⟨rfl,⟨nd,rfl⟩⟩))
    go_meet
    case rel=>exact ⟨_,((t242 != (l0_0.length:Int))),(by first|rfl|(simp;done)|(simp [*];done)),H',⟨by first|omega|exact Nat.le_refl _⟩,⟨by (with_reducible repeat (first|refine blk_drewN ?_ _|refine blk_drew ?_|refine blk_alloc ?_ _));exact BK241.out⟩,⟨by repeat (first|(with_reducible first|exact HB.out|apply below_alloc|apply pw_below_drewN|apply below_drew1|refine below_set ?_ GE241.out)|exact HB.out)⟩⟩
 case rest =>
  clear HC2;(try clear p2);(try clear c5);(try clear c5b0);(try clear c5b1);(try clear c6);(try clear c6b0);(try clear c6b1);(try clear hcz4_0);(try clear hcz8_0);(try clear hfz4_0);(try clear hfz8_0)
  obtain ⟨kq,x20_1,rfl,HA,HJ1,BK241,HB⟩:=hcut
  cases kq with
  | zero=>exact absurd HA.out (by simp [spec_WellFormed.j0])
  | succ kj1 =>
   have H:=HA.out
   clear HA
   simp only [spec_WellFormed.j0] at H
   by_cases c9:x20_1=true
   ·subst c9
    have H1:(some false)=some r:=by rw [if_pos rfl] at H;exact H
    clear H;have H:=H1;clear H1
    obtain rfl:=Option.some.inj H
    go_wp2
    go_ret
    exact ⟨by first|rfl|(simp [errW_none,errW_some] <;> rfl)|(simp [*,errW_none,errW_some] <;> rfl),by repeat (first|(with_reducible first|exact HB.out|apply below_alloc|apply pw_below_drewN|apply below_drew1|refine below_set ?_ GE241.out)|exact HB.out)⟩
   ·replace c9:=Bool.eq_false_iff.mpr c9
    subst c9
    have H1:(spec_WellFormed.l0 kj1 (l0_0.length:Int) 0 l0_0)=some r:=by rw [if_neg (show ¬ (false=true) by decide)] at H;exact H
    clear H;have H:=H1;clear H1
    have H':=Ak H
    clear H
    go_wp2
    go_loopg [4] kj1 (fun kq v4 w'=>∃ (x4_2:Int),v4=.int .i64 x4_2∧Aside0 (spec_WellFormed.l0 kq (l0_0.length:Int) x4_2 l0_0=some r)∧Aside0 (kq≤kj1)∧Aside0 (w'.heap[gb241]?=some (.cells #[(.slice A0_0 l0_0.length c0_0)] 29 (0,0)))∧Aside0 (Below w.heap.size w w'))
    case atStart=>exact ⟨(0),(by first|rfl|(simp;done)|(simp [*];done)),H',⟨Nat.le_refl _⟩,⟨by (with_reducible repeat (first|refine blk_drewN ?_ _|refine blk_drew ?_|refine blk_alloc ?_ _));exact BK241.out⟩,⟨by repeat (first|(with_reducible first|exact HB.out|apply below_alloc|apply pw_below_drewN|apply below_drew1|refine below_set ?_ GE241.out)|exact HB.out)⟩⟩
    case round =>
     clear H';(try clear p2);(try clear c5);(try clear c5b0);(try clear c5b1);(try clear c6);(try clear c6b0);(try clear c6b1);(try clear c9);(try clear hcz4_0);(try clear hcz8_0);(try clear hfz4_0);(try clear hfz8_0);(try clear p2)
     obtain ⟨x4_2,rfl,HA,HK2,BK241,HB⟩:=hrel
     cases gk with
     | zero=>exact absurd HA.out (by simp [spec_WellFormed.l0])
     | succ k2 =>
      have H:=HA.out
      clear HA
      simp only [spec_WellFormed.l0] at H
      by_cases c10:x4_2<(l0_0.length:Int)
      ·rw [if_pos c10] at H
       have c10b0:decide (x4_2<(l0_0.length:Int))=true:=decide_eq_true c10
       clear c10
       by_cases c11:0≤x4_2
       ·rw [if_pos c11] at H
        have c11b0:decide (0≤x4_2)=true:=decide_eq_true c11
        clear c11
        by_cases c12:x4_2<(l0_0.length:Int)
        ·rw [if_pos c12] at H
         have c12b0:decide (x4_2<(l0_0.length:Int))=true:=decide_eq_true c12
         clear c12
         replace H:=Option.bind_eq_some_iff.mp H
         obtain ⟨t244,A130,H⟩:=H
         replace H:(if t244=true then (spec_WellFormed.l0 k2 (l0_0.length:Int) (wrap64 (x4_2+1)) l0_0) else (some false))=some r:=H
         have A13:=Ak A130;clear A130
         by_cases c14:t244=true
         ·subst c14
          have H1:(spec_WellFormed.l0 k2 (l0_0.length:Int) (wrap64 (x4_2+1)) l0_0)=some r:=by rw [if_pos rfl] at H;exact H
          clear H;have H:=H1;clear H1
          have H':=Ak H
          clear H
          obtain ⟨hcz15_0,hfz15_0⟩:=bk1 BK241.out
          have p243:0≤(x4_2:Int):=of_decide_eq_true (by first|(with_reducible assumption)|assumption)
          have q243:x4_2<(l0_0.length:Int):=of_decide_eq_true (by first|(with_reducible assumption)|assumption)
          obtain ⟨ad243,A243_3,c243_3,A243_4,c243_4,A243_5,c243_5,A243_8,c243_8,A243_9,c243_9,e243,hx243_0,hx243_1,hx243_2,hx243_3,hx243_4,hx243_5,hx243_6,hx243_7,hx243_8,hx243_9,hl243_3,hi243_3,hl243_4,hi243_4,hl243_5,hi243_5,hl243_8,hi243_8,hl243_9,hi243_9⟩:=at_T44 HR0_0.out x4_2 p243 q243
          cases e243
          replace hx243_0:=(HB.out.cell (World.block_lt_of_cell? w _ hx243_0)).trans hx243_0
          replace hx243_1:=(HB.out.cell (World.block_lt_of_cell? w _ hx243_1)).trans hx243_1
          replace hx243_2:=(HB.out.cell (World.block_lt_of_cell? w _ hx243_2)).trans hx243_2
          replace hx243_3:=(HB.out.cell (World.block_lt_of_cell? w _ hx243_3)).trans hx243_3
          replace hx243_4:=(HB.out.cell (World.block_lt_of_cell? w _ hx243_4)).trans hx243_4
          replace hx243_5:=(HB.out.cell (World.block_lt_of_cell? w _ hx243_5)).trans hx243_5
          replace hx243_6:=(HB.out.cell (World.block_lt_of_cell? w _ hx243_6)).trans hx243_6
          replace hx243_7:=(HB.out.cell (World.block_lt_of_cell? w _ hx243_7)).trans hx243_7
          replace hx243_8:=(HB.out.cell (World.block_lt_of_cell? w _ hx243_8)).trans hx243_8
          replace hx243_9:=(HB.out.cell (World.block_lt_of_cell? w _ hx243_9)).trans hx243_9
          have HR243_3:=Ak hi243_3;have HC243_3:=Ak hl243_3;clear hi243_3 hl243_3;have HR243_4:=Ak hi243_4;have HC243_4:=Ak hl243_4;clear hi243_4 hl243_4;have HR243_5:=Ak hi243_5;have HC243_5:=Ak hl243_5;clear hi243_5 hl243_5;have HR243_8:=Ak hi243_8;have HC243_8:=Ak hl243_8;clear hi243_8 hl243_8;have HR243_9:=Ak hi243_9;have HC243_9:=Ak hl243_9;clear hi243_9 hl243_9
          replace p243:=eq_true p243
          replace q243:=eq_true q243
          go_wp2_with (first|((with_reducible refine gate_callee (f:=24) rfl ?_);refine goesL_ (some 31) rfl rfl Try.func24 (by kernel_rfl) rfl #[.agg #[.int .i64 ((rd_T44 l0_0 x4_2).f0),.bool ((rd_T44 l0_0 x4_2).f1),.int .i64 ((rd_T44 l0_0 x4_2).f2),.slice A243_3 ((rd_T44 l0_0 x4_2).f3).length c243_3,.slice A243_4 ((rd_T44 l0_0 x4_2).f4).length c243_4,.slice A243_5 ((rd_T44 l0_0 x4_2).f5).length c243_5,.int .i64 ((rd_T44 l0_0 x4_2).f6),.string ((rd_T44 l0_0 x4_2).f7),.slice A243_8 ((rd_T44 l0_0 x4_2).f8).length c243_8,.slice A243_9 ((rd_T44 l0_0 x4_2).f9).length c243_9]] rfl (by (try simp only [List.map_toArray,List.map_cons,List.map_nil]);first|done|rfl|(simp only [List.length_drop,List.length_take];rfl)) ?_;(with_reducible refine (spec_l2ProtoOk.calls k2 ((rd_T44 l0_0 x4_2).f0) ((rd_T44 l0_0 x4_2).f1) ((rd_T44 l0_0 x4_2).f2) _ _ ((rd_T44 l0_0 x4_2).f3) _ _ ((rd_T44 l0_0 x4_2).f4) _ _ ((rd_T44 l0_0 x4_2).f5) ((rd_T44 l0_0 x4_2).f6) ((rd_T44 l0_0 x4_2).f7) _ _ ((rd_T44 l0_0 x4_2).f8) _ _ ((rd_T44 l0_0 x4_2).f9) true _ ?side1 ?side2 ?side3 ?side4 ?side5 ?side6 ?side7 ?side8 ?side9 ?side10 A13.out).mono ?_);(case side1=>repeat (first|exact (Kd.C_below HR243_3.out HB.out)|(with_reducible refine Kd.C_alloc ?_ _)|(with_reducible refine Kd.C_drewN ?_ _)|(with_reducible refine Kd.C_drew ?_)));(case side2=>exact HC243_3.out);(case side3=>repeat (first|exact (Kd.C_below HR243_4.out HB.out)|(with_reducible refine Kd.C_alloc ?_ _)|(with_reducible refine Kd.C_drewN ?_ _)|(with_reducible refine Kd.C_drew ?_)));(case side4=>exact HC243_4.out);(case side5=>repeat (first|exact (Kd.C_below HR243_5.out HB.out)|(with_reducible refine Kd.C_alloc ?_ _)|(with_reducible refine Kd.C_drewN ?_ _)|(with_reducible refine Kd.C_drew ?_)));(case side6=>exact HC243_5.out);(case side7=>repeat (first|exact (Kd.C_below HR243_8.out HB.out)|(with_reducible refine Kd.C_alloc ?_ _)|(with_reducible refine Kd.C_drewN ?_ _)|(with_reducible refine Kd.C_drew ?_)));(case side8=>exact HC243_8.out);(case side9=>repeat (first|exact (Kd.C_below HR243_9.out HB.out)|(with_reducible refine Kd.C_alloc ?_ _)|(with_reducible refine Kd.C_drewN ?_ _)|(with_reducible refine Kd.C_drew ?_)));(case side10=>exact HC243_9.out);rintro e w16 ⟨rfl,hb⟩;refine ⟨_,rfl,?_⟩;have n0_:=Ak (blk_below (g:=gb241) (by (with_reducible repeat (first|refine blk_drewN ?_ _|refine blk_drew ?_|refine blk_alloc ?_ _));exact BK241.out) hb);have n1_:=Ak (below_step (by repeat (first|(with_reducible first|exact HB.out|apply below_alloc|apply pw_below_drewN|apply below_drew1|refine below_set ?_ GE241.out)|exact HB.out)) hb);clear BK241;clear HB;have BK241:=n0_;have HB:=n1_;clear n0_ n1_;(try clear hb);(try clear hb2);(try clear hk);(try clear hi)))
          go_roundg k2
          case measure=>have:=HJ1.out;have:=HK2.out;omega
          case rel=>exact ⟨(wrap64 (x4_2+1)),(by first|rfl|(simp;done)|(simp [*];done)),H',⟨by have:=HJ1.out;have:=HK2.out;omega⟩,⟨by (with_reducible repeat (first|refine blk_drewN ?_ _|refine blk_drew ?_|refine blk_alloc ?_ _));exact BK241.out⟩,⟨by repeat (first|(with_reducible first|exact HB.out|apply below_alloc|apply pw_below_drewN|apply below_drew1|refine below_set ?_ GE241.out)|exact HB.out)⟩⟩
         ·replace c14:=Bool.eq_false_iff.mpr c14
          subst c14
          have H1:(some false)=some r:=by rw [if_neg (show ¬ (false=true) by decide)] at H;exact H
          clear H;have H:=H1;clear H1
          obtain rfl:=Option.some.inj H
          obtain ⟨hcz17_0,hfz17_0⟩:=bk1 BK241.out
          have p243:0≤(x4_2:Int):=of_decide_eq_true (by first|(with_reducible assumption)|assumption)
          have q243:x4_2<(l0_0.length:Int):=of_decide_eq_true (by first|(with_reducible assumption)|assumption)
          obtain ⟨ad243,A243_3,c243_3,A243_4,c243_4,A243_5,c243_5,A243_8,c243_8,A243_9,c243_9,e243,hx243_0,hx243_1,hx243_2,hx243_3,hx243_4,hx243_5,hx243_6,hx243_7,hx243_8,hx243_9,hl243_3,hi243_3,hl243_4,hi243_4,hl243_5,hi243_5,hl243_8,hi243_8,hl243_9,hi243_9⟩:=at_T44 HR0_0.out x4_2 p243 q243
          cases e243
          replace hx243_0:=(HB.out.cell (World.block_lt_of_cell? w _ hx243_0)).trans hx243_0
          replace hx243_1:=(HB.out.cell (World.block_lt_of_cell? w _ hx243_1)).trans hx243_1
          replace hx243_2:=(HB.out.cell (World.block_lt_of_cell? w _ hx243_2)).trans hx243_2
          replace hx243_3:=(HB.out.cell (World.block_lt_of_cell? w _ hx243_3)).trans hx243_3
          replace hx243_4:=(HB.out.cell (World.block_lt_of_cell? w _ hx243_4)).trans hx243_4
          replace hx243_5:=(HB.out.cell (World.block_lt_of_cell? w _ hx243_5)).trans hx243_5
          replace hx243_6:=(HB.out.cell (World.block_lt_of_cell? w _ hx243_6)).trans hx243_6
          replace hx243_7:=(HB.out.cell (World.block_lt_of_cell? w _ hx243_7)).trans hx243_7
          replace hx243_8:=(HB.out.cell (World.block_lt_of_cell? w _ hx243_8)).trans hx243_8
          replace hx243_9:=(HB.out.cell (World.block_lt_of_cell? w _ hx243_9)).trans hx243_9
          have HR243_3:=Ak hi243_3;have HC243_3:=Ak hl243_3;clear hi243_3 hl243_3;have HR243_4:=Ak hi243_4;have HC243_4:=Ak hl243_4;clear hi243_4 hl243_4;have HR243_5:=Ak hi243_5;have HC243_5:=Ak hl243_5;clear hi243_5 hl243_5;have HR243_8:=Ak hi243_8;have HC243_8:=Ak hl243_8;clear hi243_8 hl243_8;have HR243_9:=Ak hi243_9;have HC243_9:=Ak hl243_9;clear hi243_9 hl243_9
          replace p243:=eq_true p243
          replace q243:=eq_true q243
          go_wp2_with (first|((with_reducible refine gate_callee (f:=24) rfl ?_);refine goesL_ (some 31) rfl rfl Try.func24 (by kernel_rfl) rfl #[.agg #[.int .i64 ((rd_T44 l0_0 x4_2).f0),.bool ((rd_T44 l0_0 x4_2).f1),.int .i64 ((rd_T44 l0_0 x4_2).f2),.slice A243_3 ((rd_T44 l0_0 x4_2).f3).length c243_3,.slice A243_4 ((rd_T44 l0_0 x4_2).f4).length c243_4,.slice A243_5 ((rd_T44 l0_0 x4_2).f5).length c243_5,.int .i64 ((rd_T44 l0_0 x4_2).f6),.string ((rd_T44 l0_0 x4_2).f7),.slice A243_8 ((rd_T44 l0_0 x4_2).f8).length c243_8,.slice A243_9 ((rd_T44 l0_0 x4_2).f9).length c243_9]] rfl (by (try simp only [List.map_toArray,List.map_cons,List.map_nil]);first|done|rfl|(simp only [List.length_drop,List.length_take];rfl)) ?_;(with_reducible refine (spec_l2ProtoOk.calls k2 ((rd_T44 l0_0 x4_2).f0) ((rd_T44 l0_0 x4_2).f1) ((rd_T44 l0_0 x4_2).f2) _ _ ((rd_T44 l0_0 x4_2).f3) _ _ ((rd_T44 l0_0 x4_2).f4) _ _ ((rd_T44 l0_0 x4_2).f5) ((rd_T44 l0_0 x4_2).f6) ((rd_T44 l0_0 x4_2).f7) _ _ ((rd_T44 l0_0 x4_2).f8) _ _ ((rd_T44 l0_0 x4_2).f9) false _ ?side1 ?side2 ?side3 ?side4 ?side5 ?side6 ?side7 ?side8 ?side9 ?side10 A13.out).mono ?_);(case side1=>repeat (first|exact (Kd.C_below HR243_3.out HB.out)|(with_reducible refine Kd.C_alloc ?_ _)|(with_reducible refine Kd.C_drewN ?_ _)|(with_reducible refine Kd.C_drew ?_)));(case side2=>exact HC243_3.out);(case side3=>repeat (first|exact (Kd.C_below HR243_4.out HB.out)|(with_reducible refine Kd.C_alloc ?_ _)|(with_reducible refine Kd.C_drewN ?_ _)|(with_reducible refine Kd.C_drew ?_)));(case side4=>exact HC243_4.out);(case side5=>repeat (first|exact (Kd.C_below HR243_5.out HB.out)|(with_reducible refine Kd.C_alloc ?_ _)|(with_reducible refine Kd.C_drewN ?_ _)|(with_reducible refine Kd.C_drew ?_)));(case side6=>exact HC243_5.out);(case side7=>repeat (first|exact (Kd.C_below HR243_8.out HB.out)|(with_reducible refine Kd.C_alloc ?_ _)|(with_reducible refine Kd.C_drewN ?_ _)|(with_reducible refine Kd.C_drew ?_)));(case side8=>exact HC243_8.out);(case side9=>repeat (first|exact (Kd.C_below HR243_9.out HB.out)|(with_reducible refine Kd.C_alloc ?_ _)|(with_reducible refine Kd.C_drewN ?_ _)|(with_reducible refine Kd.C_drew ?_)));(case side10=>exact HC243_9.out);rintro e w18 ⟨rfl,hb⟩;refine ⟨_,rfl,?_⟩;have n0_:=Ak (blk_below (g:=gb241) (by (with_reducible repeat (first|refine blk_drewN ?_ _|refine blk_drew ?_|refine blk_alloc ?_ _));exact BK241.out) hb);have n1_:=Ak (below_step (by repeat (first|(with_reducible first|exact HB.out|apply below_alloc|apply pw_below_drewN|apply below_drew1|refine below_set ?_ GE241.out)|exact HB.out)) hb);clear BK241;clear HB;have BK241:=n0_;have HB:=n1_;clear n0_ n1_;(try clear hb);(try clear hb2);(try clear hk);(try clear hi)))
          go_ret
          exact ⟨by first|rfl|(simp [errW_none,errW_some] <;> rfl)|(simp [*,errW_none,errW_some] <;> rfl),by repeat (first|(with_reducible first|exact HB.out|apply below_alloc|apply pw_below_drewN|apply below_drew1|refine below_set ?_ GE241.out)|exact HB.out)⟩
        ·rw [if_neg c12] at H
         exact absurd H (by simp)
       ·rw [if_neg c11] at H
        exact absurd H (by simp)
      ·rw [if_neg c10] at H
       have c10b0:decide (x4_2<(l0_0.length:Int))=false:=decide_eq_false c10
       clear c10
       obtain rfl:=Option.some.inj H
       go_wp2
       go_ret
       exact ⟨by first|rfl|(simp [errW_none,errW_some] <;> rfl)|(simp [*,errW_none,errW_some] <;> rfl),by repeat (first|(with_reducible first|exact HB.out|apply below_alloc|apply pw_below_drewN|apply below_drew1|refine below_set ?_ GE241.out)|exact HB.out)⟩
def spec_l3Put.l0:Nat→List Int→ByteArray→Int→Option (List Int)
 | 0,_,_,_=>none
 | k+1,x0,x1,x5=>if x5<(x1.size:Int) then (if 0≤x5 then (if x0.length<140737488355328 then (spec_l3Put.l0 k (x0++[bt x1 x5]) x1 (wrap64 (x5+1))) else (none)) else (none)) else (some x0)
def spec_l3Put.f (k:Nat) (l0:List Int) (a1:ByteArray):Option (List Int):=spec_l3Put.l0 k l0 a1 0
set_option maxHeartbeats 8000000 in
set_option maxRecDepth 100000 in
theorem spec_l3Put.calls (k:Nat) (P0_:Nat→Prop) (u9000_:Value) (l0:List Int) (a1:ByteArray) (r:List Int) (w0 w:World) (hB:Below w0.heap.size w0 w) (ho0:Kd.R (Kd.int .u8) 5 w w0.heap.size P0_ u9000_ l0) (h:spec_l3Put.f k l0 a1=some r) :
  Calls Try.prog 33 #[u9000_,.string a1] w fun e w'=>∃ v0_:Value,e=.returned (v0_)∧Kd.R (Kd.int .u8) 5 w' w0.heap.size (fun k_=>(P0_ k_∨w.heap.size≤k_)) v0_ r∧Below w0.heap.size w0 w'∧Kept w w' (fun k_=>P0_ k_):=by
 have HO0:=Ak (show Kd.R (Kd.int .u8) 5 w w0.heap.size (fun k_=>(P0_ k_∨w.heap.size≤k_)) u9000_ l0 from Kd.R_mono ho0 (fun k_ hk=>(.inl hk)))
 have HK:=Ak (Kept.refl w (fun k_=>P0_ k_))
 have HW0:=Ak hB.size
 have HB:=Ak hB;clear hB
 have H:(spec_l3Put.l0 k l0 a1 0)=some r:=h
 clear h
 have H':=Ak H
 clear H
 go_enter Try.func33,Try.ntmps33
 go_wp2
 go_loopg [0,5] k (fun kq v0 v5 w'=>∃ (x0_1:List Int) (x5_1:Int),v5=.int .i64 x5_1∧Aside0 (spec_l3Put.l0 kq x0_1 a1 x5_1=some r)∧Aside0 (kq≤k)∧Aside0 (Kd.R (Kd.int .u8) 5 w' w0.heap.size (fun k_=>(P0_ k_∨w.heap.size≤k_)) v0 x0_1)∧Aside0 (Kept w w' (fun k_=>P0_ k_))∧Aside0 (Below w0.heap.size w0 w'))
 case atStart=>exact ⟨(l0),(0),(by first|rfl|(simp;done)|(simp [*];done)),H',⟨Nat.le_refl _⟩,⟨by (with_reducible repeat (first|apply Kd.R_alloc|apply Kd.R_drewN|apply Kd.R_drew));exact HO0.out⟩,⟨by repeat (first|(with_reducible first|exact HK.out|apply Kept.alloc|apply Kept.drewN|apply Kept.drew)|exact HK.out)⟩,⟨by repeat (first|(with_reducible first|exact HB.out|apply below_alloc|apply pw_below_drewN|apply below_drew1)|exact HB.out)⟩⟩
 case round =>
  clear H';(try clear p2)
  obtain ⟨x0_1,x5_1,rfl,HA,HK1,HO_0,HK,HB⟩:=hrel
  cases gk with
  | zero=>exact absurd HA.out (by simp [spec_l3Put.l0])
  | succ k1 =>
   have H:=HA.out
   clear HA
   simp only [spec_l3Put.l0] at H
   by_cases c3:x5_1<(a1.size:Int)
   ·rw [if_pos c3] at H
    have c3b0:decide (x5_1<(a1.size:Int))=true:=decide_eq_true c3
    clear c3
    by_cases c4:0≤x5_1
    ·rw [if_pos c4] at H
     have c4b0:decide (0≤x5_1)=true:=decide_eq_true c4
     clear c4
     by_cases c6:x0_1.length<140737488355328
     ·rw [if_pos c6] at H
      have LMc6:=Ak c6;clear c6
      obtain ⟨y245,hy245⟩:∃ y_:List Int,y_=(x0_1++[bt a1 x5_1]):=⟨_,rfl⟩
      replace H:(spec_l3Put.l0 k1 y245 a1 (wrap64 (x5_1+1)))=some r:=by first|(rw [hy245];with_reducible exact H)|(have H2_:=(Option.bind_some _ _).symm.trans H;rw [hy245];with_reducible exact H2_)|(have H2_:=(Option.bind_some _ _).symm.trans H;with_reducible exact H2_)|with_reducible exact H|(rw [hy245];exact H)|exact H
      have Ny245:=Ak hy245;clear hy245
      have H':=Ak H
      clear H
      have p5:0≤(x5_1:Int):=of_decide_eq_true (by first|(with_reducible assumption)|assumption)
      have q5:x5_1<(a1.size:Int):=of_decide_eq_true (by first|(with_reducible assumption)|assumption)
      have hx5:=bt_at a1 x5_1
      replace p5:=eq_true p5
      replace q5:=eq_true q5
      go_wp2_with (first|((with_reducible refine gate_builtin (b:=.append) (xs:=#[.tmp 12,.tmp 16]) rfl ?_);at_builtin;refine Kd.R_append (Kd.int .u8) (w0:=w0) w0.heap.size rfl (.tmp 12) (.tmp 16) 35 5 (.int .u8 0) 1 rfl Try.underlying35 info5 rfl (by decide) (by omega) u0 x0_1 (bt a1 x5_1) [.int .u8 (bt a1 x5_1)] (fun k_=>(P0_ k_∨w.heap.size≤k_)) (fun _=>False) rfl rfl ?aP (fun _ hk=>hk.elim) ?aF ?aO ?aB ?aS ?aL ?_;(case aP=>exact rfl);(case aB=>exact (by repeat (first|(with_reducible first|exact HB.out|apply below_alloc|apply pw_below_drewN|apply below_drew1)|exact HB.out)));(case aF=>exact (fun k_ hk=>(.inr (Nat.le_trans (by first|exact HK.out.1|exact (show Kept w _ (fun k_=>P0_ k_) from by repeat (first|(with_reducible first|exact HK.out|apply Kept.alloc|apply Kept.drewN|apply Kept.drew)|exact HK.out)).1) hk))));(case aO=>exact (by (with_reducible repeat (first|apply Kd.R_alloc|apply Kd.R_drewN|apply Kd.R_drew));exact HO_0.out));(case aS=>exact (below_size (by repeat (first|(with_reducible first|exact HB.out|apply below_alloc|apply pw_below_drewN|apply below_drew1)|exact HB.out))));(case aL=>have:=LMc6.out;omega);intro v246 w7 ho hb hg hat;rw [← Ny245.out] at ho;have n0_:=Ak (hb);have n1_:=Ak (Kept.of_grown (S:=(fun k_=>P0_ k_)) hg (by repeat (first|(with_reducible first|exact HK.out|apply Kept.alloc|apply Kept.drewN|apply Kept.drew)|exact HK.out)) (fun k_ e_=>(HO_0.out.1 k_ e_)));have n2_:=Ak (ho);clear HB;clear HK;clear HO_0;have HB:=n0_;have HK:=n1_;have HO247:=n2_;clear n0_ n1_ n2_;clear ho hb hg hat))
      go_roundg k1
      case measure=>have:=HK1.out;omega
      case rel=>exact ⟨(y245),(wrap64 (x5_1+1)),(by first|rfl|(simp;done)|(simp [*];done)),H',⟨by have:=HK1.out;omega⟩,⟨by (with_reducible repeat (first|apply Kd.R_alloc|apply Kd.R_drewN|apply Kd.R_drew));exact HO247.out⟩,⟨by repeat (first|(with_reducible first|exact HK.out|apply Kept.alloc|apply Kept.drewN|apply Kept.drew)|exact HK.out)⟩,⟨by repeat (first|(with_reducible first|exact HB.out|apply below_alloc|apply pw_below_drewN|apply below_drew1)|exact HB.out)⟩⟩
     ·rw [if_neg c6] at H
      exact absurd H (by simp)
    ·rw [if_neg c4] at H
     exact absurd H (by simp)
   ·rw [if_neg c3] at H
    have c3b0:decide (x5_1<(a1.size:Int))=false:=decide_eq_false c3
    clear c3
    obtain rfl:=Option.some.inj H
    go_wp2
    go_ret
    exact ⟨_,by first|rfl|(simp [errW_none,errW_some] <;> rfl)|(simp [*,errW_none,errW_some] <;> rfl),by (with_reducible repeat (first|apply Kd.R_alloc|apply Kd.R_drewN|apply Kd.R_drew));exact HO_0.out,by repeat (first|(with_reducible first|exact HB.out|apply below_alloc|apply pw_below_drewN|apply below_drew1)|exact HB.out),by repeat (first|(with_reducible first|exact HK.out|apply Kept.alloc|apply Kept.drewN|apply Kept.drew)|exact HK.out)⟩
def spec_l3Flag.f (a0:Bool):Option (ByteArray):=if a0=true then (some (⟨#[1]⟩:ByteArray)) else (some (⟨#[0]⟩:ByteArray))
set_option maxHeartbeats 8000000 in
set_option maxRecDepth 100000 in
theorem spec_l3Flag.calls (a0:Bool) (r:ByteArray) (w:World) (h:spec_l3Flag.f a0=some r) :
  Calls Try.prog 73 #[.bool a0] w fun e w'=>e=.returned (.string r)∧Drawn0 w w':=by
 have H:(if a0=true then (some (⟨#[1]⟩:ByteArray)) else (some (⟨#[0]⟩:ByteArray)))=some r:=h
 clear h
 by_cases c2:a0=true
 ·subst c2
  have H1:(some (⟨#[1]⟩:ByteArray))=some r:=by rw [if_pos rfl] at H;exact H
  clear H;have H:=H1;clear H1
  obtain rfl:=Option.some.inj H
  go_enter Try.func73,Try.ntmps73
  go_wp2
  go_ret
  exact ⟨by first|rfl|(simp;done)|(simp [*];done),by repeat (first|exact Drawn0.refl _|apply Drawn0.step)⟩
 ·replace c2:=Bool.eq_false_iff.mpr c2
  subst c2
  have H1:(some (⟨#[0]⟩:ByteArray))=some r:=by rw [if_neg (show ¬ (false=true) by decide)] at H;exact H
  clear H;have H:=H1;clear H1
  obtain rfl:=Option.some.inj H
  go_enter Try.func73,Try.ntmps73
  go_wp2
  go_ret
  exact ⟨by first|rfl|(simp;done)|(simp [*];done),by repeat (first|exact Drawn0.refl _|apply Drawn0.step)⟩
def spec_l1Byte.f (a0:Int):Option (ByteArray):=some (strOfNums (([(a0) % 256]:List Int)))
set_option maxHeartbeats 8000000 in
set_option maxRecDepth 100000 in
theorem spec_l1Byte.calls (a0:Int) (r:ByteArray) (w:World) (h:spec_l1Byte.f a0=some r) :
  Calls Try.prog 123 #[.int .i64 a0] w fun e w'=>e=.returned (.string r)∧Below w.heap.size w w':=by
 have HB:=Ak (Below.refl w.heap.size w)
 have H:(some (strOfNums (([(a0) % 256]:List Int))))=some r:=h
 clear h
 obtain ⟨y248,hy248⟩:∃ y_:List Int,y_=(([(a0) % 256]:List Int)):=⟨_,rfl⟩
 replace H:(some (strOfNums y248))=some r:=by first|(rw [hy248];with_reducible exact H)|(have H2_:=(Option.bind_some _ _).symm.trans H;rw [hy248];with_reducible exact H2_)|(have H2_:=(Option.bind_some _ _).symm.trans H;with_reducible exact H2_)|with_reducible exact H|(rw [hy248];exact H)|exact H
 have Ny248:=Ak hy248;clear hy248
 obtain rfl:=Option.some.inj H
 go_enter Try.func123,Try.ntmps123
 go_wp2_with (first|((with_reducible refine gate_dst (N:=5) rfl ?_);refine Kd.R_lit (Kd.int .u8) _ 5 ?hg (N:=5) ?hd (xs:=([(a0) % 256]:List Int)) (inner:=[.int .u8 ((a0) % 256)]) (ok:=fun _=>True) (okp:=fun _=>True) ?hr ?hp (fun _ hk=>hk) trivial (Below.refl _ _) (Nat.le_refl _) (by simp) ?_;(case hd=>rfl);(case hg=>rfl);(case hr=>first|(go_simp;done)|(go_simp;rfl));(case hp=>exact (Reps.one (show Kd.M (Kd.int .u8) _ _ _ ((a0) % 256) [.int .u8 ((a0) % 256)] from rfl) (Reps.none _ _)));intro v249 w2 ho3 hb hg_ hnew_;clear hg_ hnew_;(first|rw [← Ny248.out] at ho3|(simp only [Int.reduceToNat] at ho3;rw [← Ny248.out] at ho3));have n0_:=Ak (Kd.R_lower ho3 (below_size (by repeat (first|(with_reducible first|exact HB.out|apply below_alloc|apply pw_below_drewN|apply below_drew1)|exact HB.out))));have n1_:=Ak (below_step (by repeat (first|(with_reducible first|exact HB.out|apply below_alloc|apply pw_below_drewN|apply below_drew1)|exact HB.out)) hb);clear HB;have HO250:=n0_;have HB:=n1_;clear n0_ n1_;clear hb ho3;have hcv4:=own_string (P:=Try.prog) Try.underlying35 Try.underlying5 Try.underlying9 (Kd.own_of_R HO250.out)))
 go_ret
 exact ⟨by first|rfl|(simp [errW_none,errW_some] <;> rfl)|(simp [*,errW_none,errW_some] <;> rfl),by repeat (first|(with_reducible first|exact HB.out|apply below_alloc|apply pw_below_drewN|apply below_drew1)|exact HB.out)⟩
mutual
def spec_PutVarint.j0:Nat→Int→Bool→Option (ByteArray)
 | 0,_,_=>none
 | k+1,x0,x8=>if x8=true then (some (⟨#[]⟩:ByteArray)) else (if x0<128 then ((spec_l1Byte.f x0).bind fun t251=>(some t251)) else ((spec_l1Byte.f (wrap64 ((Int.tmod x0 128)+128))).bind fun t252=>((spec_PutVarint.f k (wrap64 (Int.tdiv x0 128))).bind fun t253=>(if t252.size+t253.size≤9223372036854775807 then (some (t252++t253)) else (none)))))
def spec_PutVarint.f:Nat→Int→Option (ByteArray)
 | 0,_=>none
 | k+1,a0=>if a0<0 then (spec_PutVarint.j0 k a0 true) else (spec_PutVarint.j0 k a0 (decide (a0 > 16777215)))
end
set_option maxHeartbeats 8000000 in
set_option maxRecDepth 100000 in
theorem spec_PutVarint.calls (k:Nat):∀ (a0:Int) (r:ByteArray) (w:World) (h:spec_PutVarint.f k a0=some r),
  Calls Try.prog 74 #[.int .i64 a0] w fun e w'=>e=.returned (.string r)∧Below w.heap.size w w':=by
 induction k using Nat.strongRecOn with
 | _ k ih =>
 intro a0 r w h
 cases k with
 | zero=>exact absurd h (by simp [spec_PutVarint.f])
 | succ k =>
 simp only [spec_PutVarint.f] at h
 have HB:=Ak (Below.refl w.heap.size w)
 have H:(if a0<0 then (spec_PutVarint.j0 k a0 true) else (spec_PutVarint.j0 k a0 (decide (a0 > 16777215))))=some r:=h
 clear h;have HC2:=Ak H;clear H
 go_enter Try.func74,Try.ntmps74
 go_upto_region 1 with (fail)
 go_cut [8] (fun v8 wc=>∃ (kq:Nat) (x8_1:Bool),v8=.bool x8_1∧Aside0 (spec_PutVarint.j0 kq a0 x8_1=some r)∧Aside0 (kq≤k)∧Aside0 (Below w.heap.size w wc))
 case first =>
  have H:=HC2.out
  clear HC2
  by_cases c3:a0<0
  ·rw [if_pos c3] at H
   have c3b0:decide (a0<0)=true:=decide_eq_true c3
   clear c3
   (first|rw [c3b0]|(simp only [i64_w,i32_w];rw [c3b0])|skip)
   have H':=Ak H
   clear H
   go_wp2
   go_meet
   case rel=>exact ⟨_,(true),(by first|rfl|(simp;done)|(simp [*];done)),H',⟨by first|omega|exact Nat.le_refl _⟩,⟨by repeat (first|(with_reducible first|exact HB.out|apply below_alloc|apply pw_below_drewN|apply below_drew1)|exact HB.out)⟩⟩
  ·rw [if_neg c3] at H
   have c3b0:decide (a0<0)=false:=decide_eq_false c3
   clear c3
   (first|rw [c3b0]|(simp only [i64_w,i32_w];rw [c3b0])|skip)
   have H':=Ak H
   clear H
   go_wp2
   go_meet
   case rel=>exact ⟨_,(decide (a0 > 16777215)),(by first|rfl|(simp;done)|(simp [*];done)),H',⟨by first|omega|exact Nat.le_refl _⟩,⟨by repeat (first|(with_reducible first|exact HB.out|apply below_alloc|apply pw_below_drewN|apply below_drew1)|exact HB.out)⟩⟩
 case rest =>
  clear HC2;(try clear p2);(try clear c3);(try clear c3b0)
  obtain ⟨kq,x8_1,rfl,HA,HJ1,HB⟩:=hcut
  cases kq with
  | zero=>exact absurd HA.out (by simp [spec_PutVarint.j0])
  | succ kj1 =>
   have H:=HA.out
   clear HA
   simp only [spec_PutVarint.j0] at H
   by_cases c4:x8_1=true
   ·subst c4
    have H1:(some (⟨#[]⟩:ByteArray))=some r:=by rw [if_pos rfl] at H;exact H
    clear H;have H:=H1;clear H1
    obtain rfl:=Option.some.inj H
    go_wp2
    go_ret
    exact ⟨by first|rfl|(simp [errW_none,errW_some] <;> rfl)|(simp [*,errW_none,errW_some] <;> rfl),by repeat (first|(with_reducible first|exact HB.out|apply below_alloc|apply pw_below_drewN|apply below_drew1)|exact HB.out)⟩
   ·replace c4:=Bool.eq_false_iff.mpr c4
    subst c4
    have H1:(if a0<128 then ((spec_l1Byte.f a0).bind fun t251=>(some t251)) else ((spec_l1Byte.f (wrap64 ((Int.tmod a0 128)+128))).bind fun t252=>((spec_PutVarint.f kj1 (wrap64 (Int.tdiv a0 128))).bind fun t253=>(if t252.size+t253.size≤9223372036854775807 then (some (t252++t253)) else (none)))))=some r:=by rw [if_neg (show ¬ (false=true) by decide)] at H;exact H
    clear H;have H:=H1;clear H1
    by_cases c5:a0<128
    ·rw [if_pos c5] at H
     have c5b0:decide (a0<128)=true:=decide_eq_true c5
     clear c5
     replace H:=Option.bind_eq_some_iff.mp H
     obtain ⟨t251,A60,H⟩:=H
     replace H:(some t251)=some r:=H
     have A6:=Ak A60;clear A60
     obtain rfl:=Option.some.inj H
     go_wp2_with (first|((with_reducible refine gate_callee (f:=123) rfl ?_);refine goesL_ (some 12) rfl rfl Try.func123 (by kernel_rfl) rfl #[.int .i64 a0] rfl (by (try simp only [List.map_toArray,List.map_cons,List.map_nil]);first|done|rfl|(simp only [List.length_drop,List.length_take];rfl)) ?_;(with_reducible refine (spec_l1Byte.calls a0 t251 _ A6.out).mono ?_);rintro e w7 ⟨rfl,hb⟩;refine ⟨_,rfl,?_⟩;have n0_:=Ak (below_step (by repeat (first|(with_reducible first|exact HB.out|apply below_alloc|apply pw_below_drewN|apply below_drew1)|exact HB.out)) hb);clear HB;have HB:=n0_;clear n0_;(try clear hb);(try clear hb2);(try clear hk);(try clear hi)))
     go_ret
     exact ⟨by first|rfl|(simp [errW_none,errW_some] <;> rfl)|(simp [*,errW_none,errW_some] <;> rfl),by repeat (first|(with_reducible first|exact HB.out|apply below_alloc|apply pw_below_drewN|apply below_drew1)|exact HB.out)⟩
    ·rw [if_neg c5] at H
     have c5b0:decide (a0<128)=false:=decide_eq_false c5
     clear c5
     replace H:=Option.bind_eq_some_iff.mp H
     obtain ⟨t252,A80,H⟩:=H
     replace H:((spec_PutVarint.f kj1 (wrap64 (Int.tdiv a0 128))).bind fun t253=>(if t252.size+t253.size≤9223372036854775807 then (some (t252++t253)) else (none)))=some r:=H
     have A8:=Ak A80;clear A80
     replace H:=Option.bind_eq_some_iff.mp H
     obtain ⟨t253,A90,H⟩:=H
     replace H:(if t252.size+t253.size≤9223372036854775807 then (some (t252++t253)) else (none))=some r:=H
     have A9:=Ak A90;clear A90
     by_cases c10:t252.size+t253.size≤9223372036854775807
     ·rw [if_pos c10] at H
      have c10b0:=eq_true c10
      have c10b1:decide (t252.size+t253.size≤9223372036854775807)=true:=decide_eq_true c10
      try have c10b2:(9223372036854775807<t252.size+t253.size)=False:=eq_false (Nat.not_lt.2 c10)
      obtain rfl:=Option.some.inj H
      go_wp2_with (first|((with_reducible refine gate_callee (f:=123) rfl ?_);refine goesL_ (some 16) rfl rfl Try.func123 (by kernel_rfl) rfl #[.int .i64 (wrap64 ((Int.tmod a0 128)+128))] rfl (by (try simp only [List.map_toArray,List.map_cons,List.map_nil]);first|done|rfl|(simp only [List.length_drop,List.length_take];rfl)) ?_;(with_reducible refine (spec_l1Byte.calls (wrap64 ((Int.tmod a0 128)+128)) t252 _ A8.out).mono ?_);rintro e w11 ⟨rfl,hb⟩;refine ⟨_,rfl,?_⟩;have n0_:=Ak (below_step (by repeat (first|(with_reducible first|exact HB.out|apply below_alloc|apply pw_below_drewN|apply below_drew1)|exact HB.out)) hb);clear HB;have HB:=n0_;clear n0_;(try clear hb);(try clear hb2);(try clear hk);(try clear hi))|((with_reducible refine gate_callee (f:=74) rfl ?_);refine goesL_ (some 19) rfl rfl Try.func74 (by kernel_rfl) rfl #[.int .i64 (wrap64 (Int.tdiv a0 128))] rfl (by (try simp only [List.map_toArray,List.map_cons,List.map_nil]);first|done|rfl|(simp only [List.length_drop,List.length_take];rfl)) ?_;(with_reducible refine (ih kj1 (by have:=HJ1.out;omega) (wrap64 (Int.tdiv a0 128)) t253 _ A9.out).mono ?_);rintro e w12 ⟨rfl,hb⟩;refine ⟨_,rfl,?_⟩;have n0_:=Ak (below_step (by repeat (first|(with_reducible first|exact HB.out|apply below_alloc|apply pw_below_drewN|apply below_drew1)|exact HB.out)) hb);clear HB;have HB:=n0_;clear n0_;(try clear hb);(try clear hb2);(try clear hk);(try clear hi)))
      go_ret
      exact ⟨by first|rfl|(simp [errW_none,errW_some] <;> rfl)|(simp [*,errW_none,errW_some] <;> rfl),by repeat (first|(with_reducible first|exact HB.out|apply below_alloc|apply pw_below_drewN|apply below_drew1)|exact HB.out)⟩
     ·rw [if_neg c10] at H
      exact absurd H (by simp)
def spec_l3Sized.f (k:Nat) (a0:ByteArray):Option (ByteArray):=(spec_PutVarint.f k (a0.size:Int)).bind fun t254=>(if t254.size+a0.size≤9223372036854775807 then (some (t254++a0)) else (none))
set_option maxHeartbeats 8000000 in
set_option maxRecDepth 100000 in
theorem spec_l3Sized.calls (k:Nat) (a0:ByteArray) (r:ByteArray) (w:World) (h:spec_l3Sized.f k a0=some r) :
  Calls Try.prog 77 #[.string a0] w fun e w'=>e=.returned (.string r)∧Below w.heap.size w w':=by
 have HB:=Ak (Below.refl w.heap.size w)
 have H:((spec_PutVarint.f k (a0.size:Int)).bind fun t254=>(if t254.size+a0.size≤9223372036854775807 then (some (t254++a0)) else (none)))=some r:=h
 clear h
 replace H:=Option.bind_eq_some_iff.mp H
 obtain ⟨t254,A20,H⟩:=H
 replace H:(if t254.size+a0.size≤9223372036854775807 then (some (t254++a0)) else (none))=some r:=H
 have A2:=Ak A20;clear A20
 by_cases c3:t254.size+a0.size≤9223372036854775807
 ·rw [if_pos c3] at H
  have c3b0:=eq_true c3
  have c3b1:decide (t254.size+a0.size≤9223372036854775807)=true:=decide_eq_true c3
  try have c3b2:(9223372036854775807<t254.size+a0.size)=False:=eq_false (Nat.not_lt.2 c3)
  obtain rfl:=Option.some.inj H
  go_enter Try.func77,Try.ntmps77
  go_wp2_with (first|((with_reducible refine gate_callee (f:=74) rfl ?_);refine goesL_ (some 5) rfl rfl Try.func74 (by kernel_rfl) rfl #[.int .i64 (a0.size:Int)] rfl (by (try simp only [List.map_toArray,List.map_cons,List.map_nil]);first|done|rfl|(simp only [List.length_drop,List.length_take];rfl)) ?_;(with_reducible refine (spec_PutVarint.calls k (a0.size:Int) t254 _ A2.out).mono ?_);rintro e w4 ⟨rfl,hb⟩;refine ⟨_,rfl,?_⟩;have n0_:=Ak (below_step (by repeat (first|(with_reducible first|exact HB.out|apply below_alloc|apply pw_below_drewN|apply below_drew1)|exact HB.out)) hb);clear HB;have HB:=n0_;clear n0_;(try clear hb);(try clear hb2);(try clear hk);(try clear hi)))
  go_ret
  exact ⟨by first|rfl|(simp [errW_none,errW_some] <;> rfl)|(simp [*,errW_none,errW_some] <;> rfl),by repeat (first|(with_reducible first|exact HB.out|apply below_alloc|apply pw_below_drewN|apply below_drew1)|exact HB.out)⟩
 ·rw [if_neg c3] at H
  exact absurd H (by simp)
def spec_PutInt.l0:Nat→Int→List Int→Int→Option (ByteArray)
 | 0,_,_,_=>none
 | k+1,x3,x4,x5=>if x5<8 then (if x4.length<140737488355328 then (spec_PutInt.l0 k (IntKind.u64.wrap (Int.tdiv x3 256)) (x4++[(Int.tmod x3 256) % 256]) (wrap64 (x5+1))) else (none)) else (some (strOfNums x4))
def spec_PutInt.f (k:Nat) (a0:Int):Option (ByteArray):=spec_PutInt.l0 k (IntKind.u64.wrap (a0)) (([]:List Int)) 0
set_option maxHeartbeats 8000000 in
set_option maxRecDepth 100000 in
theorem spec_PutInt.calls (k:Nat) (a0:Int) (r:ByteArray) (w:World) (h:spec_PutInt.f k a0=some r) :
  Calls Try.prog 124 #[.int .i64 a0] w fun e w'=>e=.returned (.string r)∧Below w.heap.size w w':=by
 have HB:=Ak (Below.refl w.heap.size w)
 have H:(spec_PutInt.l0 k (IntKind.u64.wrap (a0)) (([]:List Int)) 0)=some r:=h
 clear h
 obtain ⟨y255,hy255⟩:∃ y_:List Int,y_=(([]:List Int)):=⟨_,rfl⟩
 replace H:(spec_PutInt.l0 k (IntKind.u64.wrap (a0)) y255 0)=some r:=by first|(rw [hy255];with_reducible exact H)|(have H2_:=(Option.bind_some _ _).symm.trans H;rw [hy255];with_reducible exact H2_)|(have H2_:=(Option.bind_some _ _).symm.trans H;with_reducible exact H2_)|with_reducible exact H|(rw [hy255];exact H)|exact H
 have Ny255:=Ak hy255;clear hy255
 have H':=Ak H
 clear H
 go_enter Try.func124,Try.ntmps124
 go_wp2_with (first|((with_reducible refine gate_dst (N:=8) rfl ?_);refine Kd.R_lit (Kd.int .u8) _ 5 ?hg (N:=8) ?hd (xs:=([]:List Int)) (inner:=[]) (ok:=fun _=>True) (okp:=fun _=>True) ?hr ?hp (fun _ hk=>hk) trivial (Below.refl _ _) (Nat.le_refl _) (by simp) ?_;(case hd=>rfl);(case hg=>rfl);(case hr=>first|(go_simp;done)|(go_simp;rfl));(case hp=>exact (Reps.none _ _));intro v256 w2 ho3 hb hg_ hnew_;clear hg_ hnew_;(first|rw [← Ny255.out] at ho3|(simp only [Int.reduceToNat] at ho3;rw [← Ny255.out] at ho3));have n0_:=Ak (Kd.R_lower ho3 (below_size (by repeat (first|(with_reducible first|exact HB.out|apply below_alloc|apply pw_below_drewN|apply below_drew1)|exact HB.out))));have n1_:=Ak (below_step (by repeat (first|(with_reducible first|exact HB.out|apply below_alloc|apply pw_below_drewN|apply below_drew1)|exact HB.out)) hb);clear HB;have HO257:=n0_;have HB:=n1_;clear n0_ n1_;clear hb ho3))
 go_loopg [3,4,5] k (fun kq v3 v4 v5 w'=>∃ (x3_1:Int) (x4_1:List Int) (x5_1:Int),v3=.int .u64 x3_1∧v5=.int .i64 x5_1∧Aside0 (spec_PutInt.l0 kq x3_1 x4_1 x5_1=some r)∧Aside0 (kq≤k)∧Aside0 (Kd.R (Kd.int .u8) 5 w' w.heap.size (fun _=>True) v4 x4_1)∧Aside0 (Below w.heap.size w w'))
 case atStart=>exact ⟨(IntKind.u64.wrap (a0)),(y255),(0),(by first|rfl|(simp;done)|(simp [*];done)),(by first|rfl|(simp;done)|(simp [*];done)),H',⟨Nat.le_refl _⟩,⟨by (with_reducible repeat (first|apply Kd.R_alloc|apply Kd.R_drewN|apply Kd.R_drew));exact HO257.out⟩,⟨by repeat (first|(with_reducible first|exact HB.out|apply below_alloc|apply pw_below_drewN|apply below_drew1)|exact HB.out)⟩⟩
 case round =>
  clear H';(try clear c1);(try clear p2)
  obtain ⟨x3_1,x4_1,x5_1,rfl,rfl,HA,HK1,HO_4,HB⟩:=hrel
  cases gk with
  | zero=>exact absurd HA.out (by simp [spec_PutInt.l0])
  | succ k1 =>
   have H:=HA.out
   clear HA
   simp only [spec_PutInt.l0] at H
   by_cases c4:x5_1<8
   ·rw [if_pos c4] at H
    have c4b0:decide (x5_1<8)=true:=decide_eq_true c4
    clear c4
    by_cases c5:x4_1.length<140737488355328
    ·rw [if_pos c5] at H
     have LMc5:=Ak c5;clear c5
     obtain ⟨y258,hy258⟩:∃ y_:List Int,y_=(x4_1++[(Int.tmod x3_1 256) % 256]):=⟨_,rfl⟩
     replace H:(spec_PutInt.l0 k1 (IntKind.u64.wrap (Int.tdiv x3_1 256)) y258 (wrap64 (x5_1+1)))=some r:=by first|(rw [hy258];with_reducible exact H)|(have H2_:=(Option.bind_some _ _).symm.trans H;rw [hy258];with_reducible exact H2_)|(have H2_:=(Option.bind_some _ _).symm.trans H;with_reducible exact H2_)|with_reducible exact H|(rw [hy258];exact H)|exact H
     have Ny258:=Ak hy258;clear hy258
     have H':=Ak H
     clear H
     go_wp2_with (first|((with_reducible refine gate_builtin (b:=.append) (xs:=#[.tmp 13,.tmp 17]) rfl ?_);at_builtin;refine Kd.R_append (Kd.int .u8) (w0:=w) w.heap.size rfl (.tmp 13) (.tmp 17) 35 5 (.int .u8 0) 1 rfl Try.underlying35 info5 rfl (by decide) (by omega) u4 x4_1 ((Int.tmod x3_1 256) % 256) [.int .u8 ((Int.tmod x3_1 256) % 256)] (fun _=>True) (fun _=>False) rfl rfl ?aP (fun _ hk=>hk.elim) ?aF ?aO ?aB ?aS ?aL ?_;(case aP=>exact rfl);(case aB=>exact (by repeat (first|(with_reducible first|exact HB.out|apply below_alloc|apply pw_below_drewN|apply below_drew1)|exact HB.out)));(case aF=>exact (fun _ _=>trivial));(case aO=>exact (by (with_reducible repeat (first|apply Kd.R_alloc|apply Kd.R_drewN|apply Kd.R_drew));exact HO_4.out));(case aS=>exact (below_size (by repeat (first|(with_reducible first|exact HB.out|apply below_alloc|apply pw_below_drewN|apply below_drew1)|exact HB.out))));(case aL=>have:=LMc5.out;omega);intro v259 w6 ho hb hg hat;rw [← Ny258.out] at ho;have n0_:=Ak (hb);have n1_:=Ak (ho);clear HB;clear HO_4;have HB:=n0_;have HO260:=n1_;clear n0_ n1_;clear ho hb hg hat))
     go_roundg k1
     case measure=>have:=HK1.out;omega
     case rel=>exact ⟨(IntKind.u64.wrap (Int.tdiv x3_1 256)),(y258),(wrap64 (x5_1+1)),(by first|rfl|(simp;done)|(simp [*];done)),(by first|rfl|(simp;done)|(simp [*];done)),H',⟨by have:=HK1.out;omega⟩,⟨by (with_reducible repeat (first|apply Kd.R_alloc|apply Kd.R_drewN|apply Kd.R_drew));exact HO260.out⟩,⟨by repeat (first|(with_reducible first|exact HB.out|apply below_alloc|apply pw_below_drewN|apply below_drew1)|exact HB.out)⟩⟩
    ·rw [if_neg c5] at H
     exact absurd H (by simp)
   ·rw [if_neg c4] at H
    have c4b0:decide (x5_1<8)=false:=decide_eq_false c4
    clear c4
    obtain rfl:=Option.some.inj H
    have hcv7:=own_string (P:=Try.prog) Try.underlying35 Try.underlying5 Try.underlying9 (Kd.own_of_R HO_4.out)
    go_wp2
    go_ret
    exact ⟨by first|rfl|(simp [errW_none,errW_some] <;> rfl)|(simp [*,errW_none,errW_some] <;> rfl),by repeat (first|(with_reducible first|exact HB.out|apply below_alloc|apply pw_below_drewN|apply below_drew1)|exact HB.out)⟩
def spec_l3Const.f (k:Nat) (a0_0:Int) (a0_1:Int) (a0_2:ByteArray):Option (ByteArray):=if a0_0=0 then (some (⟨#[0]⟩:ByteArray)) else (if a0_0=1 then ((spec_l1Byte.f (wrap64 (1+a0_1))).bind fun t262=>(some t262)) else (if a0_0=2 then ((spec_PutInt.f k a0_1).bind fun t263=>(if 1+t263.size≤9223372036854775807 then (some ((⟨#[3]⟩:ByteArray)++t263)) else (none))) else ((spec_l3Sized.f k a0_2).bind fun t264=>(if 1+t264.size≤9223372036854775807 then (some ((⟨#[4]⟩:ByteArray)++t264)) else (none)))))
set_option maxHeartbeats 8000000 in
set_option maxRecDepth 100000 in
theorem spec_l3Const.calls (k:Nat) (a0_0:Int) (a0_1:Int) (a0_2:ByteArray) (r:ByteArray) (w:World) (h:spec_l3Const.f k a0_0 a0_1 a0_2=some r) :
  Calls Try.prog 75 #[.agg #[.int .i64 a0_0,.int .i64 a0_1,.string a0_2]] w fun e w'=>e=.returned (.string r)∧Below w.heap.size w w':=by
 have hu85:=Try.underlying85
 have HB:=Ak (Below.refl w.heap.size w)
 have H:(if a0_0=0 then (some (⟨#[0]⟩:ByteArray)) else (if a0_0=1 then ((spec_l1Byte.f (wrap64 (1+a0_1))).bind fun t262=>(some t262)) else (if a0_0=2 then ((spec_PutInt.f k a0_1).bind fun t263=>(if 1+t263.size≤9223372036854775807 then (some ((⟨#[3]⟩:ByteArray)++t263)) else (none))) else ((spec_l3Sized.f k a0_2).bind fun t264=>(if 1+t264.size≤9223372036854775807 then (some ((⟨#[4]⟩:ByteArray)++t264)) else (none))))))=some r:=h
 clear h
 by_cases c2:a0_0=0
 ·rw [if_pos c2] at H
  have c2b0:(a0_0 == 0)=true:=beq_iff_eq.mpr c2
  have c2b1:(a0_0 != 0)=false:=bne_eq_false_iff_eq.mpr c2
  clear c2
  obtain rfl:=Option.some.inj H
  go_enter Try.func75,Try.ntmps75
  go_wp2_with (first|((with_reducible refine gate_dst (N:=1) rfl ?_);refine box_event ?hg (N:=1) ?hd (cs:=#[.int .i64 a0_0,.int .i64 a0_1,.string a0_2]) (t:=85) ?hr ?_;(case hd=>rfl);(case hg=>rfl);(case hr=>first|(go_simp;done)|(go_simp;rfl));intro gb261 hg w3 hbox hb;have n0_:=Ak (below_step (by repeat (first|(with_reducible first|exact HB.out|apply below_alloc|apply pw_below_drewN|apply below_drew1)|exact HB.out)) hb);have n1_:=Ak (hbox);have n2_:=Ak ((by rw [hg];exact (below_size (by repeat (first|(with_reducible first|exact HB.out|apply below_alloc|apply pw_below_drewN|apply below_drew1)|exact HB.out))):w.heap.size≤gb261));have n3_:=Ak ((by rw [hg];exact (below_size (by repeat (first|(with_reducible first|exact HB.out|apply below_alloc|apply pw_below_drewN|apply below_drew1)|exact HB.out))):w.heap.size≤gb261));clear HB;have HB:=n0_;have BK261:=n1_;have GW261:=n2_;have GE261:=n3_;clear n0_ n1_ n2_ n3_;clear hb hbox hg;obtain ⟨hcz4_0,hcz4_1,hcz4_2,hfz4_0,hfz4_1,hfz4_2⟩:=bk3 BK261.out))
  go_ret
  exact ⟨by first|rfl|(simp [errW_none,errW_some] <;> rfl)|(simp [*,errW_none,errW_some] <;> rfl),by repeat (first|(with_reducible first|exact HB.out|apply below_alloc|apply pw_below_drewN|apply below_drew1|refine below_set ?_ GE261.out)|exact HB.out)⟩
 ·rw [if_neg c2] at H
  have c2b0:(a0_0 == 0)=false:=beq_eq_false_iff_ne.mpr c2
  have c2b1:(a0_0 != 0)=true:=bne_iff_ne.mpr c2
  by_cases c5:a0_0=1
  ·rw [if_pos c5] at H
   have c5b0:(a0_0 == 1)=true:=beq_iff_eq.mpr c5
   have c5b1:(a0_0 != 1)=false:=bne_eq_false_iff_eq.mpr c5
   clear c5
   replace H:=Option.bind_eq_some_iff.mp H
   obtain ⟨t262,A60,H⟩:=H
   replace H:(some t262)=some r:=H
   have A6:=Ak A60;clear A60
   obtain rfl:=Option.some.inj H
   go_enter Try.func75,Try.ntmps75
   go_wp2_with (first|((with_reducible refine gate_dst (N:=1) rfl ?_);refine box_event ?hg (N:=1) ?hd (cs:=#[.int .i64 a0_0,.int .i64 a0_1,.string a0_2]) (t:=85) ?hr ?_;(case hd=>rfl);(case hg=>rfl);(case hr=>first|(go_simp;done)|(go_simp;rfl));intro gb261 hg w7 hbox hb;have n0_:=Ak (below_step (by repeat (first|(with_reducible first|exact HB.out|apply below_alloc|apply pw_below_drewN|apply below_drew1)|exact HB.out)) hb);have n1_:=Ak (hbox);have n2_:=Ak ((by rw [hg];exact (below_size (by repeat (first|(with_reducible first|exact HB.out|apply below_alloc|apply pw_below_drewN|apply below_drew1)|exact HB.out))):w.heap.size≤gb261));have n3_:=Ak ((by rw [hg];exact (below_size (by repeat (first|(with_reducible first|exact HB.out|apply below_alloc|apply pw_below_drewN|apply below_drew1)|exact HB.out))):w.heap.size≤gb261));clear HB;have HB:=n0_;have BK261:=n1_;have GW261:=n2_;have GE261:=n3_;clear n0_ n1_ n2_ n3_;clear hb hbox hg;obtain ⟨hcz8_0,hcz8_1,hcz8_2,hfz8_0,hfz8_1,hfz8_2⟩:=bk3 BK261.out)|((with_reducible refine gate_callee (f:=123) rfl ?_);refine goesL_ (some 12) rfl rfl Try.func123 (by kernel_rfl) rfl #[.int .i64 (wrap64 (1+a0_1))] rfl (by (try simp only [List.map_toArray,List.map_cons,List.map_nil]);first|done|rfl|(simp only [List.length_drop,List.length_take];rfl)) ?_;(with_reducible refine (spec_l1Byte.calls (wrap64 (1+a0_1)) t262 _ A6.out).mono ?_);rintro e w9 ⟨rfl,hb⟩;refine ⟨_,rfl,?_⟩;have n0_:=Ak (blk_below (g:=gb261) (by (with_reducible repeat (first|refine blk_drewN ?_ _|refine blk_drew ?_|refine blk_alloc ?_ _));exact BK261.out) hb);have n1_:=Ak (below_step (by repeat (first|(with_reducible first|exact HB.out|apply below_alloc|apply pw_below_drewN|apply below_drew1|refine below_set ?_ GE261.out)|exact HB.out)) hb);clear BK261;clear HB;have BK261:=n0_;have HB:=n1_;clear n0_ n1_;(try clear hb);(try clear hb2);(try clear hk);(try clear hi)))
   go_ret
   exact ⟨by first|rfl|(simp [errW_none,errW_some] <;> rfl)|(simp [*,errW_none,errW_some] <;> rfl),by repeat (first|(with_reducible first|exact HB.out|apply below_alloc|apply pw_below_drewN|apply below_drew1|refine below_set ?_ GE261.out)|exact HB.out)⟩
  ·rw [if_neg c5] at H
   have c5b0:(a0_0 == 1)=false:=beq_eq_false_iff_ne.mpr c5
   have c5b1:(a0_0 != 1)=true:=bne_iff_ne.mpr c5
   by_cases c10:a0_0=2
   ·rw [if_pos c10] at H
    have c10b0:(a0_0 == 2)=true:=beq_iff_eq.mpr c10
    have c10b1:(a0_0 != 2)=false:=bne_eq_false_iff_eq.mpr c10
    clear c10
    replace H:=Option.bind_eq_some_iff.mp H
    obtain ⟨t263,A110,H⟩:=H
    replace H:(if 1+t263.size≤9223372036854775807 then (some ((⟨#[3]⟩:ByteArray)++t263)) else (none))=some r:=H
    have A11:=Ak A110;clear A110
    by_cases c12:1+t263.size≤9223372036854775807
    ·rw [if_pos c12] at H
     have c12b0:=eq_true c12
     have c12b1:decide (1+t263.size≤9223372036854775807)=true:=decide_eq_true c12
     try have c12b2:(9223372036854775807<1+t263.size)=False:=eq_false (Nat.not_lt.2 c12)
     obtain rfl:=Option.some.inj H
     go_enter Try.func75,Try.ntmps75
     go_wp2_with (first|((with_reducible refine gate_dst (N:=1) rfl ?_);refine box_event ?hg (N:=1) ?hd (cs:=#[.int .i64 a0_0,.int .i64 a0_1,.string a0_2]) (t:=85) ?hr ?_;(case hd=>rfl);(case hg=>rfl);(case hr=>first|(go_simp;done)|(go_simp;rfl));intro gb261 hg w13 hbox hb;have n0_:=Ak (below_step (by repeat (first|(with_reducible first|exact HB.out|apply below_alloc|apply pw_below_drewN|apply below_drew1)|exact HB.out)) hb);have n1_:=Ak (hbox);have n2_:=Ak ((by rw [hg];exact (below_size (by repeat (first|(with_reducible first|exact HB.out|apply below_alloc|apply pw_below_drewN|apply below_drew1)|exact HB.out))):w.heap.size≤gb261));have n3_:=Ak ((by rw [hg];exact (below_size (by repeat (first|(with_reducible first|exact HB.out|apply below_alloc|apply pw_below_drewN|apply below_drew1)|exact HB.out))):w.heap.size≤gb261));clear HB;have HB:=n0_;have BK261:=n1_;have GW261:=n2_;have GE261:=n3_;clear n0_ n1_ n2_ n3_;clear hb hbox hg;obtain ⟨hcz14_0,hcz14_1,hcz14_2,hfz14_0,hfz14_1,hfz14_2⟩:=bk3 BK261.out)|((with_reducible refine gate_callee (f:=124) rfl ?_);refine goesL_ (some 18) rfl rfl Try.func124 (by kernel_rfl) rfl #[.int .i64 a0_1] rfl (by (try simp only [List.map_toArray,List.map_cons,List.map_nil]);first|done|rfl|(simp only [List.length_drop,List.length_take];rfl)) ?_;(with_reducible refine (spec_PutInt.calls k a0_1 t263 _ A11.out).mono ?_);rintro e w15 ⟨rfl,hb⟩;refine ⟨_,rfl,?_⟩;have n0_:=Ak (blk_below (g:=gb261) (by (with_reducible repeat (first|refine blk_drewN ?_ _|refine blk_drew ?_|refine blk_alloc ?_ _));exact BK261.out) hb);have n1_:=Ak (below_step (by repeat (first|(with_reducible first|exact HB.out|apply below_alloc|apply pw_below_drewN|apply below_drew1|refine below_set ?_ GE261.out)|exact HB.out)) hb);clear BK261;clear HB;have BK261:=n0_;have HB:=n1_;clear n0_ n1_;(try clear hb);(try clear hb2);(try clear hk);(try clear hi)))
     go_ret
     exact ⟨by first|rfl|(simp [errW_none,errW_some] <;> rfl)|(simp [*,errW_none,errW_some] <;> rfl),by repeat (first|(with_reducible first|exact HB.out|apply below_alloc|apply pw_below_drewN|apply below_drew1|refine below_set ?_ GE261.out)|exact HB.out)⟩
    ·rw [if_neg c12] at H
     exact absurd H (by simp)
   ·rw [if_neg c10] at H
    have c10b0:(a0_0 == 2)=false:=beq_eq_false_iff_ne.mpr c10
    have c10b1:(a0_0 != 2)=true:=bne_iff_ne.mpr c10
    replace H:=Option.bind_eq_some_iff.mp H
    obtain ⟨t264,A160,H⟩:=H
    replace H:(if 1+t264.size≤9223372036854775807 then (some ((⟨#[4]⟩:ByteArray)++t264)) else (none))=some r:=H
    have A16:=Ak A160;clear A160
    by_cases c17:1+t264.size≤9223372036854775807
    ·rw [if_pos c17] at H
     have c17b0:=eq_true c17
     have c17b1:decide (1+t264.size≤9223372036854775807)=true:=decide_eq_true c17
     try have c17b2:(9223372036854775807<1+t264.size)=False:=eq_false (Nat.not_lt.2 c17)
     obtain rfl:=Option.some.inj H
     go_enter Try.func75,Try.ntmps75
     go_wp2_with (first|((with_reducible refine gate_dst (N:=1) rfl ?_);refine box_event ?hg (N:=1) ?hd (cs:=#[.int .i64 a0_0,.int .i64 a0_1,.string a0_2]) (t:=85) ?hr ?_;(case hd=>rfl);(case hg=>rfl);(case hr=>first|(go_simp;done)|(go_simp;rfl));intro gb261 hg w18 hbox hb;have n0_:=Ak (below_step (by repeat (first|(with_reducible first|exact HB.out|apply below_alloc|apply pw_below_drewN|apply below_drew1)|exact HB.out)) hb);have n1_:=Ak (hbox);have n2_:=Ak ((by rw [hg];exact (below_size (by repeat (first|(with_reducible first|exact HB.out|apply below_alloc|apply pw_below_drewN|apply below_drew1)|exact HB.out))):w.heap.size≤gb261));have n3_:=Ak ((by rw [hg];exact (below_size (by repeat (first|(with_reducible first|exact HB.out|apply below_alloc|apply pw_below_drewN|apply below_drew1)|exact HB.out))):w.heap.size≤gb261));clear HB;have HB:=n0_;have BK261:=n1_;have GW261:=n2_;have GE261:=n3_;clear n0_ n1_ n2_ n3_;clear hb hbox hg;obtain ⟨hcz19_0,hcz19_1,hcz19_2,hfz19_0,hfz19_1,hfz19_2⟩:=bk3 BK261.out)|((with_reducible refine gate_callee (f:=77) rfl ?_);refine goesL_ (some 22) rfl rfl Try.func77 (by kernel_rfl) rfl #[.string a0_2] rfl (by (try simp only [List.map_toArray,List.map_cons,List.map_nil]);first|done|rfl|(simp only [List.length_drop,List.length_take];rfl)) ?_;(with_reducible refine (spec_l3Sized.calls k a0_2 t264 _ A16.out).mono ?_);rintro e w20 ⟨rfl,hb⟩;refine ⟨_,rfl,?_⟩;have n0_:=Ak (blk_below (g:=gb261) (by (with_reducible repeat (first|refine blk_drewN ?_ _|refine blk_drew ?_|refine blk_alloc ?_ _));exact BK261.out) hb);have n1_:=Ak (below_step (by repeat (first|(with_reducible first|exact HB.out|apply below_alloc|apply pw_below_drewN|apply below_drew1|refine below_set ?_ GE261.out)|exact HB.out)) hb);clear BK261;clear HB;have BK261:=n0_;have HB:=n1_;clear n0_ n1_;(try clear hb);(try clear hb2);(try clear hk);(try clear hi)))
     go_ret
     exact ⟨by first|rfl|(simp [errW_none,errW_some] <;> rfl)|(simp [*,errW_none,errW_some] <;> rfl),by repeat (first|(with_reducible first|exact HB.out|apply below_alloc|apply pw_below_drewN|apply below_drew1|refine below_set ?_ GE261.out)|exact HB.out)⟩
    ·rw [if_neg c17] at H
     exact absurd H (by simp)
def spec_l3Bare.f (a0_0:Int) (a0_1:Bool) (a0_2:Int) (l0_3:List Int) (l0_4:List (S85)) (l0_5:List (S89)) (a0_6:Int) (a0_7:ByteArray) (l0_8:List Int) (l0_9:List ByteArray):Option (Bool):=if (a0_7.size:Int)=0 then (if (l0_8.length:Int)=0 then (some ((l0_9.length:Int) == 0)) else (some false)) else (some false)
set_option maxHeartbeats 8000000 in
set_option maxRecDepth 100000 in
theorem spec_l3Bare.calls (a0_0:Int) (a0_1:Bool) (a0_2:Int) (A0_3:Option Addr) (c0_3:Nat) (l0_3:List Int) (A0_4:Option Addr) (c0_4:Nat) (l0_4:List (S85)) (A0_5:Option Addr) (c0_5:Nat) (l0_5:List (S89)) (a0_6:Int) (a0_7:ByteArray) (A0_8:Option Addr) (c0_8:Nat) (l0_8:List Int) (A0_9:Option Addr) (c0_9:Nat) (l0_9:List ByteArray) (r:Bool) (w:World) (hr0_3:Kd.C (Kd.int .u32) w A0_3 l0_3.length l0_3) (hc0_3:l0_3.length≤c0_3) (hr0_4:Kd.C k85 w A0_4 l0_4.length l0_4) (hc0_4:l0_4.length≤c0_4) (hr0_5:Kd.C k89 w A0_5 l0_5.length l0_5) (hc0_5:l0_5.length≤c0_5) (hr0_8:Kd.C (Kd.int .i64) w A0_8 l0_8.length l0_8) (hc0_8:l0_8.length≤c0_8) (hr0_9:Kd.C Kd.string w A0_9 l0_9.length l0_9) (hc0_9:l0_9.length≤c0_9) (h:spec_l3Bare.f a0_0 a0_1 a0_2 l0_3 l0_4 l0_5 a0_6 a0_7 l0_8 l0_9=some r) :
  Calls Try.prog 76 #[.agg #[.int .i64 a0_0,.bool a0_1,.int .i64 a0_2,.slice A0_3 l0_3.length c0_3,.slice A0_4 l0_4.length c0_4,.slice A0_5 l0_5.length c0_5,.int .i64 a0_6,.string a0_7,.slice A0_8 l0_8.length c0_8,.slice A0_9 l0_9.length c0_9]] w fun e w'=>e=.returned (.bool r)∧Below w.heap.size w w':=by
 have hu44:=Try.underlying44
 have HR0_3:=Ak hr0_3;have HC0_3:=Ak hc0_3;clear hr0_3 hc0_3;have HR0_4:=Ak hr0_4;have HC0_4:=Ak hc0_4;clear hr0_4 hc0_4;have HR0_5:=Ak hr0_5;have HC0_5:=Ak hc0_5;clear hr0_5 hc0_5;have HR0_8:=Ak hr0_8;have HC0_8:=Ak hc0_8;clear hr0_8 hc0_8;have HR0_9:=Ak hr0_9;have HC0_9:=Ak hc0_9;clear hr0_9 hc0_9
 have HB:=Ak (Below.refl w.heap.size w)
 have H:(if (a0_7.size:Int)=0 then (if (l0_8.length:Int)=0 then (some ((l0_9.length:Int) == 0)) else (some false)) else (some false))=some r:=h
 clear h
 by_cases c2:(a0_7.size:Int)=0
 ·rw [if_pos c2] at H
  have c2b0:((a0_7.size:Int) == 0)=true:=beq_iff_eq.mpr c2
  have c2b1:((a0_7.size:Int) != 0)=false:=bne_eq_false_iff_eq.mpr c2
  clear c2
  by_cases c3:(l0_8.length:Int)=0
  ·rw [if_pos c3] at H
   have c3b0:((l0_8.length:Int) == 0)=true:=beq_iff_eq.mpr c3
   have c3b1:((l0_8.length:Int) != 0)=false:=bne_eq_false_iff_eq.mpr c3
   clear c3
   obtain rfl:=Option.some.inj H
   go_enter Try.func76,Try.ntmps76
   go_wp2_with (first|((with_reducible refine gate_dst (N:=1) rfl ?_);(try (refine gate_guard (by rfl) ?_;dsimp only));refine box_event ?hg (N:=1) ?hd (cs:=#[.int .i64 a0_0,.bool a0_1,.int .i64 a0_2,.slice A0_3 l0_3.length c0_3,.slice A0_4 l0_4.length c0_4,.slice A0_5 l0_5.length c0_5,.int .i64 a0_6,.string a0_7,.slice A0_8 l0_8.length c0_8,.slice A0_9 l0_9.length c0_9]) (t:=44) ?hr ?_;(case hd=>rfl);(case hg=>rfl);(case hr=>first|(go_simp;done)|(go_simp;rfl));intro gb265 hg w4 hbox hb;have n0_:=Ak (below_step (by repeat (first|(with_reducible first|exact HB.out|apply below_alloc|apply pw_below_drewN|apply below_drew1)|exact HB.out)) hb);have n1_:=Ak (hbox);have n2_:=Ak ((by rw [hg];exact (below_size (by repeat (first|(with_reducible first|exact HB.out|apply below_alloc|apply pw_below_drewN|apply below_drew1)|exact HB.out))):w.heap.size≤gb265));have n3_:=Ak ((by rw [hg];exact (below_size (by repeat (first|(with_reducible first|exact HB.out|apply below_alloc|apply pw_below_drewN|apply below_drew1)|exact HB.out))):w.heap.size≤gb265));clear HB;have HB:=n0_;have BK265:=n1_;have GW265:=n2_;have GE265:=n3_;clear n0_ n1_ n2_ n3_;clear hb hbox hg;obtain ⟨hcz5_0,hcz5_1,hcz5_2,hcz5_3,hcz5_4,hcz5_5,hcz5_6,hcz5_7,hcz5_8,hcz5_9,hfz5_0,hfz5_1,hfz5_2,hfz5_3,hfz5_4,hfz5_5,hfz5_6,hfz5_7,hfz5_8,hfz5_9⟩:=bk10 BK265.out))
   go_ret
   exact ⟨by first|rfl|(simp [errW_none,errW_some] <;> rfl)|(simp [*,errW_none,errW_some] <;> rfl),by repeat (first|(with_reducible first|exact HB.out|apply below_alloc|apply pw_below_drewN|apply below_drew1|refine below_set ?_ GE265.out)|exact HB.out)⟩
  ·rw [if_neg c3] at H
   have c3b0:((l0_8.length:Int) == 0)=false:=beq_eq_false_iff_ne.mpr c3
   have c3b1:((l0_8.length:Int) != 0)=true:=bne_iff_ne.mpr c3
   have c3b2:¬ (l0_8=[]):=fun h_=>c3 (by rw [h_];rfl)
   obtain rfl:=Option.some.inj H
   go_enter Try.func76,Try.ntmps76
   go_wp2_with (first|((with_reducible refine gate_dst (N:=1) rfl ?_);(try (refine gate_guard (by rfl) ?_;dsimp only));refine box_event ?hg (N:=1) ?hd (cs:=#[.int .i64 a0_0,.bool a0_1,.int .i64 a0_2,.slice A0_3 l0_3.length c0_3,.slice A0_4 l0_4.length c0_4,.slice A0_5 l0_5.length c0_5,.int .i64 a0_6,.string a0_7,.slice A0_8 l0_8.length c0_8,.slice A0_9 l0_9.length c0_9]) (t:=44) ?hr ?_;(case hd=>rfl);(case hg=>rfl);(case hr=>first|(go_simp;done)|(go_simp;rfl));intro gb265 hg w6 hbox hb;have n0_:=Ak (below_step (by repeat (first|(with_reducible first|exact HB.out|apply below_alloc|apply pw_below_drewN|apply below_drew1)|exact HB.out)) hb);have n1_:=Ak (hbox);have n2_:=Ak ((by rw [hg];exact (below_size (by repeat (first|(with_reducible first|exact HB.out|apply below_alloc|apply pw_below_drewN|apply below_drew1)|exact HB.out))):w.heap.size≤gb265));have n3_:=Ak ((by rw [hg];exact (below_size (by repeat (first|(with_reducible first|exact HB.out|apply below_alloc|apply pw_below_drewN|apply below_drew1)|exact HB.out))):w.heap.size≤gb265));clear HB;have HB:=n0_;have BK265:=n1_;have GW265:=n2_;have GE265:=n3_;clear n0_ n1_ n2_ n3_;clear hb hbox hg;obtain ⟨hcz7_0,hcz7_1,hcz7_2,hcz7_3,hcz7_4,hcz7_5,hcz7_6,hcz7_7,hcz7_8,hcz7_9,hfz7_0,hfz7_1,hfz7_2,hfz7_3,hfz7_4,hfz7_5,hfz7_6,hfz7_7,hfz7_8,hfz7_9⟩:=bk10 BK265.out))
   go_ret
   exact ⟨by first|rfl|(simp [errW_none,errW_some] <;> rfl)|(simp [*,errW_none,errW_some] <;> rfl),by repeat (first|(with_reducible first|exact HB.out|apply below_alloc|apply pw_below_drewN|apply below_drew1|refine below_set ?_ GE265.out)|exact HB.out)⟩
 ·rw [if_neg c2] at H
  have c2b0:((a0_7.size:Int) == 0)=false:=beq_eq_false_iff_ne.mpr c2
  have c2b1:((a0_7.size:Int) != 0)=true:=bne_iff_ne.mpr c2
  obtain rfl:=Option.some.inj H
  go_enter Try.func76,Try.ntmps76
  go_wp2_with (first|((with_reducible refine gate_dst (N:=1) rfl ?_);(try (refine gate_guard (by rfl) ?_;dsimp only));refine box_event ?hg (N:=1) ?hd (cs:=#[.int .i64 a0_0,.bool a0_1,.int .i64 a0_2,.slice A0_3 l0_3.length c0_3,.slice A0_4 l0_4.length c0_4,.slice A0_5 l0_5.length c0_5,.int .i64 a0_6,.string a0_7,.slice A0_8 l0_8.length c0_8,.slice A0_9 l0_9.length c0_9]) (t:=44) ?hr ?_;(case hd=>rfl);(case hg=>rfl);(case hr=>first|(go_simp;done)|(go_simp;rfl));intro gb265 hg w8 hbox hb;have n0_:=Ak (below_step (by repeat (first|(with_reducible first|exact HB.out|apply below_alloc|apply pw_below_drewN|apply below_drew1)|exact HB.out)) hb);have n1_:=Ak (hbox);have n2_:=Ak ((by rw [hg];exact (below_size (by repeat (first|(with_reducible first|exact HB.out|apply below_alloc|apply pw_below_drewN|apply below_drew1)|exact HB.out))):w.heap.size≤gb265));have n3_:=Ak ((by rw [hg];exact (below_size (by repeat (first|(with_reducible first|exact HB.out|apply below_alloc|apply pw_below_drewN|apply below_drew1)|exact HB.out))):w.heap.size≤gb265));clear HB;have HB:=n0_;have BK265:=n1_;have GW265:=n2_;have GE265:=n3_;clear n0_ n1_ n2_ n3_;clear hb hbox hg;obtain ⟨hcz9_0,hcz9_1,hcz9_2,hcz9_3,hcz9_4,hcz9_5,hcz9_6,hcz9_7,hcz9_8,hcz9_9,hfz9_0,hfz9_1,hfz9_2,hfz9_3,hfz9_4,hfz9_5,hfz9_6,hfz9_7,hfz9_8,hfz9_9⟩:=bk10 BK265.out))
  go_ret
  exact ⟨by first|rfl|(simp [errW_none,errW_some] <;> rfl)|(simp [*,errW_none,errW_some] <;> rfl),by repeat (first|(with_reducible first|exact HB.out|apply below_alloc|apply pw_below_drewN|apply below_drew1|refine below_set ?_ GE265.out)|exact HB.out)⟩
end Go.Proofs.Ytiekodnojmkfaaa.PFnExactDump
