-- Printed by the kit's print or by this session's program, then cut and tightened by it.
import Derived.Test.YtiekodnojmkfaaaPFnExactStripx0
import Derived.Test.YtiekodnojmkfaaaPFnExactStripx5
import Derived.Test.YtiekodnojmkfaaaPFnExactStripx6
namespace Go.Proofs.Ytiekodnojmkfaaa.PFnExactStrip
open Go.RowKit Go.Proofs.YtiekodnojmkfaaaW.PrintWords Go.Proofs.YtiekodnojmkfaaaW.PrintLast Go.Proofs.YtiekodnojmkfaaaW.PrintMore
attribute [local go_sem] max2_int min2_int max_two min_two max_three min_three max_four min_four   -- for this text's walks alone
set_option linter.unusedVariables false
set_option linter.unusedSimpArgs false
mutual
def spec_WellFormed.j0:Nat→Int→Bool→List (S44)→Option (Bool)
 | 0,_,_,_=>none
 | k+1,x3,x20,x242000=>if x20=true then (some false) else (spec_WellFormed.l0 k x3 0 x242000)
def spec_WellFormed.l0:Nat→Int→Int→List (S44)→Option (Bool)
 | 0,_,_,_=>none
 | k+1,x3,x4,x242000=>if x4<x3 then (if 0≤x4 then (if x4<(x242000.length:Int) then ((spec_l2ProtoOk.f k ((rd_T44 x242000 x4).f0) ((rd_T44 x242000 x4).f1) ((rd_T44 x242000 x4).f2) ((rd_T44 x242000 x4).f3) ((rd_T44 x242000 x4).f4) ((rd_T44 x242000 x4).f5) ((rd_T44 x242000 x4).f6) ((rd_T44 x242000 x4).f7) ((rd_T44 x242000 x4).f8) ((rd_T44 x242000 x4).f9)).bind fun t244=>(if t244=true then (spec_WellFormed.l0 k x3 (wrap64 (x4+1)) x242000) else (some false))) else (none)) else (none)) else (some true)
end
def spec_WellFormed.f (k:Nat) (l0_0:List (S44)):Option (Bool):=if (l0_0.length:Int)<1 then (spec_WellFormed.j0 k (l0_0.length:Int) true l0_0) else (if (l0_0.length:Int) > 200 then (spec_WellFormed.j0 k (l0_0.length:Int) true l0_0) else ((spec_l2End.f k l0_0 0 0).bind fun t242=>(spec_WellFormed.j0 k (l0_0.length:Int) (t242 != (l0_0.length:Int)) l0_0)))
set_option maxHeartbeats 8000000 in
set_option maxRecDepth 100000 in
theorem spec_WellFormed.calls (k:Nat) (A0_0:Option Addr) (c0_0:Nat) (l0_0:List (S44)) (r:Bool) (w:World) (hr0_0:Kd.C k44 w A0_0 l0_0.length l0_0) (hc0_0:l0_0.length≤c0_0) (h:spec_WellFormed.f k l0_0=some r) :
  Calls Try.prog 9 #[.agg #[.slice A0_0 l0_0.length c0_0]] w fun e w'=>e=.returned (.bool r)∧Below w.heap.size w w':=by
 have hu29:=Try.underlying29
 have hu44:=Try.underlying44
 have HR0_0:=Ak hr0_0;have HC0_0:=Ak hc0_0;clear hr0_0 hc0_0
 have HB:=Ak (Below.refl w.heap.size w)
 have H:(if (l0_0.length:Int)<1 then (spec_WellFormed.j0 k (l0_0.length:Int) true l0_0) else (if (l0_0.length:Int) > 200 then (spec_WellFormed.j0 k (l0_0.length:Int) true l0_0) else ((spec_l2End.f k l0_0 0 0).bind fun t242=>(spec_WellFormed.j0 k (l0_0.length:Int) (t242 != (l0_0.length:Int)) l0_0))))=some r:=h
 clear h;have HC2:=Ak H;clear H
 go_enter Try.func9,Try.ntmps9
 go_upto_region 2 with (first|((with_reducible refine gate_dst (N:=1) rfl ?_);refine box_event ?hg (N:=1) ?hd (cs:=#[.slice A0_0 l0_0.length c0_0]) (t:=29) ?hr ?_;(case hd=>rfl);(case hg=>rfl);(case hr=>first|(go_simp;done)|(go_simp;rfl));intro gb241 hg w3 hbox hb;have n0_:=Ak (below_step (by repeat (first|(with_reducible first|exact HB.out|apply below_alloc|apply pw_below_drewN|apply below_drew1)|exact HB.out)) hb);have n1_:=Ak (hbox);have n2_:=Ak ((by rw [hg];exact (below_size (by repeat (first|(with_reducible first|exact HB.out|apply below_alloc|apply pw_below_drewN|apply below_drew1)|exact HB.out))):w.heap.size≤gb241));have n3_:=Ak ((by rw [hg];exact (below_size (by repeat (first|(with_reducible first|exact HB.out|apply below_alloc|apply pw_below_drewN|apply below_drew1)|exact HB.out))):w.heap.size≤gb241));clear HB;have HB:=n0_;have BK241:=n1_;have GW241:=n2_;have GE241:=n3_;clear n0_ n1_ n2_ n3_;clear hb hbox hg;obtain ⟨hcz4_0,hfz4_0⟩:=bk1 BK241.out))
 (try simp only [Act.put,List.setIfInBounds_toArray,List.set_cons_zero,List.set_cons_succ])
 go_cut [20] (fun v20 wc=>∃ (kq:Nat) (x20_1:Bool),v20=.bool x20_1∧Aside0 (spec_WellFormed.j0 kq (l0_0.length:Int) x20_1 l0_0=some r)∧Aside0 (kq≤k)∧Aside0 (wc.heap[gb241]?=some (.cells #[(.slice A0_0 l0_0.length c0_0)] 29 (0,0)))∧Aside0 (Below w.heap.size w wc))
 case first =>
  have H:=HC2.out
  clear HC2
  by_cases c5:(l0_0.length:Int)<1
  ·rw [if_pos c5] at H
   have c5b0:decide ((l0_0.length:Int)<1)=true:=decide_eq_true c5
   have c5b1:decide (l0_0.length<1)=true:=decide_eq_true (by omega)
   clear c5
   (first|rw [c5b0]|(simp only [i64_w,i32_w];rw [c5b0])|skip)
   have H':=Ak H
   clear H
   go_wp2
   go_meet
   case rel=>exact ⟨_,(true),(by first|rfl|(simp;done)|(simp [*];done)),H',⟨by first|omega|exact Nat.le_refl _⟩,⟨by (with_reducible repeat (first|refine blk_drewN ?_ _|refine blk_drew ?_|refine blk_alloc ?_ _));exact BK241.out⟩,⟨by repeat (first|(with_reducible first|exact HB.out|apply below_alloc|apply pw_below_drewN|apply below_drew1|refine below_set ?_ GE241.out)|exact HB.out)⟩⟩
  ·rw [if_neg c5] at H
   have c5b0:decide ((l0_0.length:Int)<1)=false:=decide_eq_false c5
   have c5b1:decide (l0_0.length<1)=false:=decide_eq_false (by omega)
   clear c5
   (first|rw [c5b0]|(simp only [i64_w,i32_w];rw [c5b0])|skip)
   by_cases c6:(l0_0.length:Int) > 200
   ·rw [if_pos c6] at H
    have c6b0:decide (200<(l0_0.length:Int))=true:=decide_eq_true c6
    have c6b1:decide (200<l0_0.length)=true:=decide_eq_true (by omega)
    clear c6
    have H':=Ak H
    clear H
    go_wp2
    go_meet
    case rel=>exact ⟨_,(true),(by first|rfl|(simp;done)|(simp [*];done)),H',⟨by first|omega|exact Nat.le_refl _⟩,⟨by (with_reducible repeat (first|refine blk_drewN ?_ _|refine blk_drew ?_|refine blk_alloc ?_ _));exact BK241.out⟩,⟨by repeat (first|(with_reducible first|exact HB.out|apply below_alloc|apply pw_below_drewN|apply below_drew1|refine below_set ?_ GE241.out)|exact HB.out)⟩⟩
   ·rw [if_neg c6] at H
    have c6b0:decide (200<(l0_0.length:Int))=false:=decide_eq_false c6
    have c6b1:decide (200<l0_0.length)=false:=decide_eq_false (by omega)
    clear c6
    replace H:=Option.bind_eq_some_iff.mp H
    obtain ⟨t242,A70,H⟩:=H
    replace H:(spec_WellFormed.j0 k (l0_0.length:Int) (t242 != (l0_0.length:Int)) l0_0)=some r:=H
    have A7:=Ak A70;clear A70
    have H':=Ak H
    clear H
    obtain ⟨hcz8_0,hfz8_0⟩:=bk1 BK241.out
    go_wp2_with (first|(go_at_call 23;(with_reducible refine (spec_l2End.calls k _ _ l0_0 0 0 t242 _ ?side1 ?side2 A7.out).mono ?_);(case side1=>repeat (first|exact (Kd.C_below HR0_0.out HB.out)|(with_reducible refine Kd.C_alloc ?_ _)|(with_reducible refine Kd.C_drewN ?_ _)|(with_reducible refine Kd.C_drew ?_)));(case side2=>exact HC0_0.out);rintro e w' ⟨rfl,⟨nd,rfl⟩⟩))
    go_meet
    case rel=>exact ⟨_,((t242 != (l0_0.length:Int))),(by first|rfl|(simp;done)|(simp [*];done)),H',⟨by first|omega|exact Nat.le_refl _⟩,⟨by (with_reducible repeat (first|refine blk_drewN ?_ _|refine blk_drew ?_|refine blk_alloc ?_ _));exact BK241.out⟩,⟨by repeat (first|(with_reducible first|exact HB.out|apply below_alloc|apply pw_below_drewN|apply below_drew1|refine below_set ?_ GE241.out)|exact HB.out)⟩⟩
 case rest =>
  clear HC2;(try clear p2);(try clear c5);(try clear c5b0);(try clear c5b1);(try clear c6);(try clear c6b0);(try clear c6b1);(try clear hcz4_0);(try clear hcz8_0);(try clear hfz4_0);(try clear hfz8_0)
  obtain ⟨kq,x20_1,rfl,HA,HJ1,BK241,HB⟩:=hcut
  cases kq with
  | zero=>exact absurd HA.out (by simp [spec_WellFormed.j0])
  | succ kj1 =>
   have H:=HA.out
   clear HA
   simp only [spec_WellFormed.j0] at H
   by_cases c9:x20_1=true
   ·subst c9
    have H1:(some false)=some r:=by rw [if_pos rfl] at H;exact H
    clear H;have H:=H1;clear H1
    obtain rfl:=Option.some.inj H
    go_wp2
    go_ret
    exact ⟨by first|rfl|(simp [errW_none,errW_some] <;> rfl)|(simp [*,errW_none,errW_some] <;> rfl),by repeat (first|(with_reducible first|exact HB.out|apply below_alloc|apply pw_below_drewN|apply below_drew1|refine below_set ?_ GE241.out)|exact HB.out)⟩
   ·replace c9:=Bool.eq_false_iff.mpr c9
    subst c9
    have H1:(spec_WellFormed.l0 kj1 (l0_0.length:Int) 0 l0_0)=some r:=by rw [if_neg (show ¬ (false=true) by decide)] at H;exact H
    clear H;have H:=H1;clear H1
    have H':=Ak H
    clear H
    go_wp2
    go_loopg [4] kj1 (fun kq v4 w'=>∃ (x4_2:Int),v4=.int .i64 x4_2∧Aside0 (spec_WellFormed.l0 kq (l0_0.length:Int) x4_2 l0_0=some r)∧Aside0 (kq≤kj1)∧Aside0 (w'.heap[gb241]?=some (.cells #[(.slice A0_0 l0_0.length c0_0)] 29 (0,0)))∧Aside0 (Below w.heap.size w w'))
    case atStart=>exact ⟨(0),(by first|rfl|(simp;done)|(simp [*];done)),H',⟨Nat.le_refl _⟩,⟨by (with_reducible repeat (first|refine blk_drewN ?_ _|refine blk_drew ?_|refine blk_alloc ?_ _));exact BK241.out⟩,⟨by repeat (first|(with_reducible first|exact HB.out|apply below_alloc|apply pw_below_drewN|apply below_drew1|refine below_set ?_ GE241.out)|exact HB.out)⟩⟩
    case round =>
     clear H';(try clear p2);(try clear c5);(try clear c5b0);(try clear c5b1);(try clear c6);(try clear c6b0);(try clear c6b1);(try clear c9);(try clear hcz4_0);(try clear hcz8_0);(try clear hfz4_0);(try clear hfz8_0);(try clear p2)
     obtain ⟨x4_2,rfl,HA,HK2,BK241,HB⟩:=hrel
     cases gk with
     | zero=>exact absurd HA.out (by simp [spec_WellFormed.l0])
     | succ k2 =>
      have H:=HA.out
      clear HA
      simp only [spec_WellFormed.l0] at H
      by_cases c10:x4_2<(l0_0.length:Int)
      ·rw [if_pos c10] at H
       have c10b0:decide (x4_2<(l0_0.length:Int))=true:=decide_eq_true c10
       clear c10
       by_cases c11:0≤x4_2
       ·rw [if_pos c11] at H
        have c11b0:decide (0≤x4_2)=true:=decide_eq_true c11
        clear c11
        by_cases c12:x4_2<(l0_0.length:Int)
        ·rw [if_pos c12] at H
         have c12b0:decide (x4_2<(l0_0.length:Int))=true:=decide_eq_true c12
         clear c12
         replace H:=Option.bind_eq_some_iff.mp H
         obtain ⟨t244,A130,H⟩:=H
         replace H:(if t244=true then (spec_WellFormed.l0 k2 (l0_0.length:Int) (wrap64 (x4_2+1)) l0_0) else (some false))=some r:=H
         have A13:=Ak A130;clear A130
         by_cases c14:t244=true
         ·subst c14
          have H1:(spec_WellFormed.l0 k2 (l0_0.length:Int) (wrap64 (x4_2+1)) l0_0)=some r:=by rw [if_pos rfl] at H;exact H
          clear H;have H:=H1;clear H1
          have H':=Ak H
          clear H
          obtain ⟨hcz15_0,hfz15_0⟩:=bk1 BK241.out
          have p243:0≤(x4_2:Int):=of_decide_eq_true (by first|(with_reducible assumption)|assumption)
          have q243:x4_2<(l0_0.length:Int):=of_decide_eq_true (by first|(with_reducible assumption)|assumption)
          obtain ⟨ad243,A243_3,c243_3,A243_4,c243_4,A243_5,c243_5,A243_8,c243_8,A243_9,c243_9,e243,hx243_0,hx243_1,hx243_2,hx243_3,hx243_4,hx243_5,hx243_6,hx243_7,hx243_8,hx243_9,hl243_3,hi243_3,hl243_4,hi243_4,hl243_5,hi243_5,hl243_8,hi243_8,hl243_9,hi243_9⟩:=at_T44 HR0_0.out x4_2 p243 q243
          cases e243
          replace hx243_0:=(HB.out.cell (World.block_lt_of_cell? w _ hx243_0)).trans hx243_0
          replace hx243_1:=(HB.out.cell (World.block_lt_of_cell? w _ hx243_1)).trans hx243_1
          replace hx243_2:=(HB.out.cell (World.block_lt_of_cell? w _ hx243_2)).trans hx243_2
          replace hx243_3:=(HB.out.cell (World.block_lt_of_cell? w _ hx243_3)).trans hx243_3
          replace hx243_4:=(HB.out.cell (World.block_lt_of_cell? w _ hx243_4)).trans hx243_4
          replace hx243_5:=(HB.out.cell (World.block_lt_of_cell? w _ hx243_5)).trans hx243_5
          replace hx243_6:=(HB.out.cell (World.block_lt_of_cell? w _ hx243_6)).trans hx243_6
          replace hx243_7:=(HB.out.cell (World.block_lt_of_cell? w _ hx243_7)).trans hx243_7
          replace hx243_8:=(HB.out.cell (World.block_lt_of_cell? w _ hx243_8)).trans hx243_8
          replace hx243_9:=(HB.out.cell (World.block_lt_of_cell? w _ hx243_9)).trans hx243_9
          have HR243_3:=Ak hi243_3;have HC243_3:=Ak hl243_3;clear hi243_3 hl243_3;have HR243_4:=Ak hi243_4;have HC243_4:=Ak hl243_4;clear hi243_4 hl243_4;have HR243_5:=Ak hi243_5;have HC243_5:=Ak hl243_5;clear hi243_5 hl243_5;have HR243_8:=Ak hi243_8;have HC243_8:=Ak hl243_8;clear hi243_8 hl243_8;have HR243_9:=Ak hi243_9;have HC243_9:=Ak hl243_9;clear hi243_9 hl243_9
          replace p243:=eq_true p243
          replace q243:=eq_true q243
          go_wp2_with (first|((with_reducible refine gate_callee (f:=24) rfl ?_);refine goesL_ (some 31) rfl rfl Try.func24 (by kernel_rfl) rfl #[.agg #[.int .i64 ((rd_T44 l0_0 x4_2).f0),.bool ((rd_T44 l0_0 x4_2).f1),.int .i64 ((rd_T44 l0_0 x4_2).f2),.slice A243_3 ((rd_T44 l0_0 x4_2).f3).length c243_3,.slice A243_4 ((rd_T44 l0_0 x4_2).f4).length c243_4,.slice A243_5 ((rd_T44 l0_0 x4_2).f5).length c243_5,.int .i64 ((rd_T44 l0_0 x4_2).f6),.string ((rd_T44 l0_0 x4_2).f7),.slice A243_8 ((rd_T44 l0_0 x4_2).f8).length c243_8,.slice A243_9 ((rd_T44 l0_0 x4_2).f9).length c243_9]] rfl (by (try simp only [List.map_toArray,List.map_cons,List.map_nil]);first|done|rfl|(simp only [List.length_drop,List.length_take];rfl)) ?_;(with_reducible refine (spec_l2ProtoOk.calls k2 ((rd_T44 l0_0 x4_2).f0) ((rd_T44 l0_0 x4_2).f1) ((rd_T44 l0_0 x4_2).f2) _ _ ((rd_T44 l0_0 x4_2).f3) _ _ ((rd_T44 l0_0 x4_2).f4) _ _ ((rd_T44 l0_0 x4_2).f5) ((rd_T44 l0_0 x4_2).f6) ((rd_T44 l0_0 x4_2).f7) _ _ ((rd_T44 l0_0 x4_2).f8) _ _ ((rd_T44 l0_0 x4_2).f9) true _ ?side1 ?side2 ?side3 ?side4 ?side5 ?side6 ?side7 ?side8 ?side9 ?side10 A13.out).mono ?_);(case side1=>repeat (first|exact (Kd.C_below HR243_3.out HB.out)|(with_reducible refine Kd.C_alloc ?_ _)|(with_reducible refine Kd.C_drewN ?_ _)|(with_reducible refine Kd.C_drew ?_)));(case side2=>exact HC243_3.out);(case side3=>repeat (first|exact (Kd.C_below HR243_4.out HB.out)|(with_reducible refine Kd.C_alloc ?_ _)|(with_reducible refine Kd.C_drewN ?_ _)|(with_reducible refine Kd.C_drew ?_)));(case side4=>exact HC243_4.out);(case side5=>repeat (first|exact (Kd.C_below HR243_5.out HB.out)|(with_reducible refine Kd.C_alloc ?_ _)|(with_reducible refine Kd.C_drewN ?_ _)|(with_reducible refine Kd.C_drew ?_)));(case side6=>exact HC243_5.out);(case side7=>repeat (first|exact (Kd.C_below HR243_8.out HB.out)|(with_reducible refine Kd.C_alloc ?_ _)|(with_reducible refine Kd.C_drewN ?_ _)|(with_reducible refine Kd.C_drew ?_)));(case side8=>exact HC243_8.out);(case side9=>repeat (first|exact (Kd.C_below HR243_9.out HB.out)|(with_reducible refine Kd.C_alloc ?_ _)|(with_reducible refine Kd.C_drewN ?_ _)|(with_reducible refine Kd.C_drew ?_)));(case side10=>exact HC243_9.out);rintro e w16 ⟨rfl,hb⟩;refine ⟨_,rfl,?_⟩;have n0_:=Ak (blk_below (g:=gb241) (by (with_reducible repeat (first|refine blk_drewN ?_ _|refine blk_drew ?_|refine blk_alloc ?_ _));exact BK241.out) hb);have n1_:=Ak (below_step (by repeat (first|(with_reducible first|exact HB.out|apply below_alloc|apply pw_below_drewN|apply below_drew1|refine below_set ?_ GE241.out)|exact HB.out)) hb);clear BK241;clear HB;have BK241:=n0_;have HB:=n1_;clear n0_ n1_;(try clear hb);(try clear hb2);(try clear hk);(try clear hi)))
          go_roundg k2
          case measure=>have:=HJ1.out;have:=HK2.out;omega
          case rel=>exact ⟨(wrap64 (x4_2+1)),(by first|rfl|(simp;done)|(simp [*];done)),H',⟨by have:=HJ1.out;have:=HK2.out;omega⟩,⟨by (with_reducible repeat (first|refine blk_drewN ?_ _|refine blk_drew ?_|refine blk_alloc ?_ _));exact BK241.out⟩,⟨by repeat (first|(with_reducible first|exact HB.out|apply below_alloc|apply pw_below_drewN|apply below_drew1|refine below_set ?_ GE241.out)|exact HB.out)⟩⟩
         ·replace c14:=Bool.eq_false_iff.mpr c14
          subst c14
          have H1:(some false)=some r:=by rw [if_neg (show ¬ (false=true) by decide)] at H;exact H
          clear H;have H:=H1;clear H1
          obtain rfl:=Option.some.inj H
          obtain ⟨hcz17_0,hfz17_0⟩:=bk1 BK241.out
          have p243:0≤(x4_2:Int):=of_decide_eq_true (by first|(with_reducible assumption)|assumption)
          have q243:x4_2<(l0_0.length:Int):=of_decide_eq_true (by first|(with_reducible assumption)|assumption)
          obtain ⟨ad243,A243_3,c243_3,A243_4,c243_4,A243_5,c243_5,A243_8,c243_8,A243_9,c243_9,e243,hx243_0,hx243_1,hx243_2,hx243_3,hx243_4,hx243_5,hx243_6,hx243_7,hx243_8,hx243_9,hl243_3,hi243_3,hl243_4,hi243_4,hl243_5,hi243_5,hl243_8,hi243_8,hl243_9,hi243_9⟩:=at_T44 HR0_0.out x4_2 p243 q243
          cases e243
          replace hx243_0:=(HB.out.cell (World.block_lt_of_cell? w _ hx243_0)).trans hx243_0
          replace hx243_1:=(HB.out.cell (World.block_lt_of_cell? w _ hx243_1)).trans hx243_1
          replace hx243_2:=(HB.out.cell (World.block_lt_of_cell? w _ hx243_2)).trans hx243_2
          replace hx243_3:=(HB.out.cell (World.block_lt_of_cell? w _ hx243_3)).trans hx243_3
          replace hx243_4:=(HB.out.cell (World.block_lt_of_cell? w _ hx243_4)).trans hx243_4
          replace hx243_5:=(HB.out.cell (World.block_lt_of_cell? w _ hx243_5)).trans hx243_5
          replace hx243_6:=(HB.out.cell (World.block_lt_of_cell? w _ hx243_6)).trans hx243_6
          replace hx243_7:=(HB.out.cell (World.block_lt_of_cell? w _ hx243_7)).trans hx243_7
          replace hx243_8:=(HB.out.cell (World.block_lt_of_cell? w _ hx243_8)).trans hx243_8
          replace hx243_9:=(HB.out.cell (World.block_lt_of_cell? w _ hx243_9)).trans hx243_9
          have HR243_3:=Ak hi243_3;have HC243_3:=Ak hl243_3;clear hi243_3 hl243_3;have HR243_4:=Ak hi243_4;have HC243_4:=Ak hl243_4;clear hi243_4 hl243_4;have HR243_5:=Ak hi243_5;have HC243_5:=Ak hl243_5;clear hi243_5 hl243_5;have HR243_8:=Ak hi243_8;have HC243_8:=Ak hl243_8;clear hi243_8 hl243_8;have HR243_9:=Ak hi243_9;have HC243_9:=Ak hl243_9;clear hi243_9 hl243_9
          replace p243:=eq_true p243
          replace q243:=eq_true q243
          go_wp2_with (first|((with_reducible refine gate_callee (f:=24) rfl ?_);refine goesL_ (some 31) rfl rfl Try.func24 (by kernel_rfl) rfl #[.agg #[.int .i64 ((rd_T44 l0_0 x4_2).f0),.bool ((rd_T44 l0_0 x4_2).f1),.int .i64 ((rd_T44 l0_0 x4_2).f2),.slice A243_3 ((rd_T44 l0_0 x4_2).f3).length c243_3,.slice A243_4 ((rd_T44 l0_0 x4_2).f4).length c243_4,.slice A243_5 ((rd_T44 l0_0 x4_2).f5).length c243_5,.int .i64 ((rd_T44 l0_0 x4_2).f6),.string ((rd_T44 l0_0 x4_2).f7),.slice A243_8 ((rd_T44 l0_0 x4_2).f8).length c243_8,.slice A243_9 ((rd_T44 l0_0 x4_2).f9).length c243_9]] rfl (by (try simp only [List.map_toArray,List.map_cons,List.map_nil]);first|done|rfl|(simp only [List.length_drop,List.length_take];rfl)) ?_;(with_reducible refine (spec_l2ProtoOk.calls k2 ((rd_T44 l0_0 x4_2).f0) ((rd_T44 l0_0 x4_2).f1) ((rd_T44 l0_0 x4_2).f2) _ _ ((rd_T44 l0_0 x4_2).f3) _ _ ((rd_T44 l0_0 x4_2).f4) _ _ ((rd_T44 l0_0 x4_2).f5) ((rd_T44 l0_0 x4_2).f6) ((rd_T44 l0_0 x4_2).f7) _ _ ((rd_T44 l0_0 x4_2).f8) _ _ ((rd_T44 l0_0 x4_2).f9) false _ ?side1 ?side2 ?side3 ?side4 ?side5 ?side6 ?side7 ?side8 ?side9 ?side10 A13.out).mono ?_);(case side1=>repeat (first|exact (Kd.C_below HR243_3.out HB.out)|(with_reducible refine Kd.C_alloc ?_ _)|(with_reducible refine Kd.C_drewN ?_ _)|(with_reducible refine Kd.C_drew ?_)));(case side2=>exact HC243_3.out);(case side3=>repeat (first|exact (Kd.C_below HR243_4.out HB.out)|(with_reducible refine Kd.C_alloc ?_ _)|(with_reducible refine Kd.C_drewN ?_ _)|(with_reducible refine Kd.C_drew ?_)));(case side4=>exact HC243_4.out);(case side5=>repeat (first|exact (Kd.C_below HR243_5.out HB.out)|(with_reducible refine Kd.C_alloc ?_ _)|(with_reducible refine Kd.C_drewN ?_ _)|(with_reducible refine Kd.C_drew ?_)));(case side6=>exact HC243_5.out);(case side7=>repeat (first|exact (Kd.C_below HR243_8.out HB.out)|(with_reducible refine Kd.C_alloc ?_ _)|(with_reducible refine Kd.C_drewN ?_ _)|(with_reducible refine Kd.C_drew ?_)));(case side8=>exact HC243_8.out);(case side9=>repeat (first|exact (Kd.C_below HR243_9.out HB.out)|(with_reducible refine Kd.C_alloc ?_ _)|(with_reducible refine Kd.C_drewN ?_ _)|(with_reducible refine Kd.C_drew ?_)));(case side10=>exact HC243_9.out);rintro e w18 ⟨rfl,hb⟩;refine ⟨_,rfl,?_⟩;have n0_:=Ak (blk_below (g:=gb241) (by (with_reducible repeat (first|refine blk_drewN ?_ _|refine blk_drew ?_|refine blk_alloc ?_ _));exact BK241.out) hb);have n1_:=Ak (below_step (by repeat (first|(with_reducible first|exact HB.out|apply below_alloc|apply pw_below_drewN|apply below_drew1|refine below_set ?_ GE241.out)|exact HB.out)) hb);clear BK241;clear HB;have BK241:=n0_;have HB:=n1_;clear n0_ n1_;(try clear hb);(try clear hb2);(try clear hk);(try clear hi)))
          go_ret
          exact ⟨by first|rfl|(simp [errW_none,errW_some] <;> rfl)|(simp [*,errW_none,errW_some] <;> rfl),by repeat (first|(with_reducible first|exact HB.out|apply below_alloc|apply pw_below_drewN|apply below_drew1|refine below_set ?_ GE241.out)|exact HB.out)⟩
        ·rw [if_neg c12] at H
         exact absurd H (by simp)
       ·rw [if_neg c11] at H
        exact absurd H (by simp)
      ·rw [if_neg c10] at H
       have c10b0:decide (x4_2<(l0_0.length:Int))=false:=decide_eq_false c10
       clear c10
       obtain rfl:=Option.some.inj H
       go_wp2
       go_ret
       exact ⟨by first|rfl|(simp [errW_none,errW_some] <;> rfl)|(simp [*,errW_none,errW_some] <;> rfl),by repeat (first|(with_reducible first|exact HB.out|apply below_alloc|apply pw_below_drewN|apply below_drew1|refine below_set ?_ GE241.out)|exact HB.out)⟩
end Go.Proofs.Ytiekodnojmkfaaa.PFnExactStrip
