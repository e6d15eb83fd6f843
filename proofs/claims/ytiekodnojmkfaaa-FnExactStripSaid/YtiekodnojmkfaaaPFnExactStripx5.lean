-- Printed by the kit's print or by this session's program, then cut and tightened by it.
import Derived.Test.YtiekodnojmkfaaaPFnExactStripx0
import Derived.Test.YtiekodnojmkfaaaPFnExactStripx4
namespace Go.Proofs.Ytiekodnojmkfaaa.PFnExactStrip
open Go.RowKit Go.Proofs.YtiekodnojmkfaaaW.PrintWords Go.Proofs.YtiekodnojmkfaaaW.PrintLast Go.Proofs.YtiekodnojmkfaaaW.PrintMore
attribute [local go_sem] max2_int min2_int max_two min_two max_three min_three max_four min_four   -- for this text's walks alone
set_option linter.unusedVariables false
set_option linter.unusedSimpArgs false
def laws_eqChunk.f (k:Nat) (l0_0:List (S44)) (l1_0:List (S44)):Option (Bool):=(laws_eqProtoS.f k l0_0 l1_0).bind fun t228=>(if t228=true then (some true) else (some false))
set_option maxHeartbeats 8000000 in
set_option maxRecDepth 100000 in
theorem laws_eqChunk.calls (k:Nat) (A0_0:Option Addr) (c0_0:Nat) (l0_0:List (S44)) (A1_0:Option Addr) (c1_0:Nat) (l1_0:List (S44)) (r:Bool) (w:World) (hr0_0:Kd.C k44 w A0_0 l0_0.length l0_0) (hc0_0:l0_0.length≤c0_0) (hr1_0:Kd.C k44 w A1_0 l1_0.length l1_0) (hc1_0:l1_0.length≤c1_0) (h:laws_eqChunk.f k l0_0 l1_0=some r) (hp_:r=true) :
  Calls Try.prog 12 #[.agg #[.slice A0_0 l0_0.length c0_0],.agg #[.slice A1_0 l1_0.length c1_0]] w fun e w'=>e=.returned (.bool r)∧Below w.heap.size w w':=by
 have HP_:=Ak hp_;clear hp_
 have hu29:=Try.underlying29
 have HR0_0:=Ak hr0_0;have HC0_0:=Ak hc0_0;clear hr0_0 hc0_0;have HR1_0:=Ak hr1_0;have HC1_0:=Ak hc1_0;clear hr1_0 hc1_0
 have HB:=Ak (Below.refl w.heap.size w)
 have H:((laws_eqProtoS.f k l0_0 l1_0).bind fun t228=>(if t228=true then (some true) else (some false)))=some r:=h
 clear h
 replace H:=Option.bind_eq_some_iff.mp H
 obtain ⟨t228,A30,H⟩:=H
 replace H:(if t228=true then (some true) else (some false))=some r:=H
 have A3:=Ak A30;clear A30
 by_cases c4:t228=true
 ·subst c4
  have H1:(some true)=some r:=by rw [if_pos rfl] at H;exact H
  clear H;have H:=H1;clear H1
  obtain rfl:=Option.some.inj H
  go_enter Try.func12,Try.ntmps12
  go_wp2_with (first|((with_reducible refine gate_dst (N:=2) rfl ?_);refine box_event ?hg (N:=2) ?hd (cs:=#[.slice A0_0 l0_0.length c0_0]) (t:=29) ?hr ?_;(case hd=>rfl);(case hg=>rfl);(case hr=>first|(go_simp;done)|(go_simp;rfl));intro gb226 hg w5 hbox hb;have n0_:=Ak (below_step (by repeat (first|(with_reducible first|exact HB.out|apply below_alloc|apply pw_below_drewN|apply below_drew1)|exact HB.out)) hb);have n1_:=Ak (hbox);have n2_:=Ak ((by rw [hg];exact (below_size (by repeat (first|(with_reducible first|exact HB.out|apply below_alloc|apply pw_below_drewN|apply below_drew1)|exact HB.out))):w.heap.size≤gb226));have n3_:=Ak ((by rw [hg];exact (below_size (by repeat (first|(with_reducible first|exact HB.out|apply below_alloc|apply pw_below_drewN|apply below_drew1)|exact HB.out))):w.heap.size≤gb226));clear HB;have HB:=n0_;have BK226:=n1_;have GW226:=n2_;have GE226:=n3_;clear n0_ n1_ n2_ n3_;clear hb hbox hg)|((with_reducible refine gate_dst (N:=3) rfl ?_);refine box_event ?hg (N:=3) ?hd (cs:=#[.slice A1_0 l1_0.length c1_0]) (t:=29) ?hr ?_;(case hd=>rfl);(case hg=>rfl);(case hr=>first|(go_simp;done)|(go_simp;rfl));intro gb227 hg w6 hbox hb;have n0_:=Ak (blk_below (g:=gb226) (by (with_reducible repeat (first|refine blk_drewN ?_ _|refine blk_drew ?_|refine blk_alloc ?_ _));exact BK226.out) hb);have n1_:=Ak (below_step (by repeat (first|(with_reducible first|exact HB.out|apply below_alloc|apply pw_below_drewN|apply below_drew1|refine below_set ?_ GE226.out)|exact HB.out)) hb);have n2_:=Ak (hbox);have n3_:=Ak ((by rw [hg];exact (below_size (by repeat (first|(with_reducible first|exact HB.out|apply below_alloc|apply pw_below_drewN|apply below_drew1|refine below_set ?_ GE226.out)|exact HB.out))):w.heap.size≤gb227));have n4_:=Ak ((by rw [hg];exact (below_size (by repeat (first|(with_reducible first|exact HB.out|apply below_alloc|apply pw_below_drewN|apply below_drew1|refine below_set ?_ GE226.out)|exact HB.out))):w.heap.size≤gb227));have n5_:=Ak ((by rw [hg];exact Nat.ne_of_lt (blk_lt (g:=gb226) (by (with_reducible repeat (first|refine blk_drewN ?_ _|refine blk_drew ?_|refine blk_alloc ?_ _));exact BK226.out)):gb226≠gb227));have n6_:=Ak ((by rw [hg];exact Nat.ne_of_gt (blk_lt (g:=gb226) (by (with_reducible repeat (first|refine blk_drewN ?_ _|refine blk_drew ?_|refine blk_alloc ?_ _));exact BK226.out)):gb227≠gb226));clear BK226;clear HB;have BK226:=n0_;have HB:=n1_;have BK227:=n2_;have GW227:=n3_;have GE227:=n4_;have NB226_227:=n5_;have NB227_226:=n6_;clear n0_ n1_ n2_ n3_ n4_ n5_ n6_;clear hb hbox hg;have hnb7:=NB226_227.out;have hnc7:=NB227_226.out;obtain ⟨hcz8_0,hfz8_0⟩:=bk1 BK226.out;obtain ⟨hcz9_0,hfz9_0⟩:=bk1 BK227.out)|((with_reducible refine gate_callee (f:=29) rfl ?_);refine goesL_ (some 9) rfl rfl Try.func29 (by kernel_rfl) rfl #[.slice A0_0 l0_0.length c0_0,.slice A1_0 l1_0.length c1_0] rfl (by (try simp only [List.map_toArray,List.map_cons,List.map_nil]);first|done|rfl|(simp only [List.length_drop,List.length_take];rfl)) ?_;(with_reducible refine (laws_eqProtoS.calls k _ _ l0_0 _ _ l1_0 true _ ?side1 ?side2 ?side3 ?side4 A3.out rfl).mono ?_);(case side1=>repeat (first|exact (Kd.C_below HR0_0.out HB.out)|(with_reducible refine Kd.C_alloc ?_ _)|(with_reducible refine Kd.C_drewN ?_ _)|(with_reducible refine Kd.C_drew ?_)));(case side2=>exact HC0_0.out);(case side3=>repeat (first|exact (Kd.C_below HR1_0.out HB.out)|(with_reducible refine Kd.C_alloc ?_ _)|(with_reducible refine Kd.C_drewN ?_ _)|(with_reducible refine Kd.C_drew ?_)));(case side4=>exact HC1_0.out);rintro e w10 ⟨rfl,hb⟩;refine ⟨_,rfl,?_⟩;have n0_:=Ak (blk_below (g:=gb226) (by (with_reducible repeat (first|refine blk_drewN ?_ _|refine blk_drew ?_|refine blk_alloc ?_ _));exact BK226.out) hb);have n1_:=Ak (blk_below (g:=gb227) (by (with_reducible repeat (first|refine blk_drewN ?_ _|refine blk_drew ?_|refine blk_alloc ?_ _));exact BK227.out) hb);have n2_:=Ak (below_step (by repeat (first|(with_reducible first|exact HB.out|apply below_alloc|apply pw_below_drewN|apply below_drew1|refine below_set ?_ GE226.out|refine below_set ?_ GE227.out)|exact HB.out)) hb);clear BK226;clear BK227;clear HB;have BK226:=n0_;have BK227:=n1_;have HB:=n2_;clear n0_ n1_ n2_;(try clear hb);(try clear hb2);(try clear hk);(try clear hi)))
  go_ret
  exact ⟨by first|rfl|(simp [errW_none,errW_some] <;> rfl)|(simp [*,errW_none,errW_some] <;> rfl),by repeat (first|(with_reducible first|exact HB.out|apply below_alloc|apply pw_below_drewN|apply below_drew1|refine below_set ?_ GE226.out|refine below_set ?_ GE227.out)|exact HB.out)⟩
 ·replace c4:=Bool.eq_false_iff.mpr c4
  subst c4
  have H1:(some false)=some r:=by rw [if_neg (show ¬ (false=true) by decide)] at H;exact H
  clear H;have H:=H1;clear H1
  exact absurd (Option.some.inj H) (by rw [HP_.out];decide)
mutual
def spec_l2End.j0:Nat→List (S44)→Int→Int→Bool→Option (Int)
 | 0,_,_,_,_=>none
 | k+1,x0,x1,x2,x24=>if x24=true then (some (-1)) else (spec_l2End.l0 k x0 x1 x2 (wrap64 (x1+1)) 0)
def spec_l2End.l0:Nat→List (S44)→Int→Int→Int→Int→Option (Int)
 | 0,_,_,_,_,_=>none
 | k+1,x0,x1,x2,x7,x8=>if 0≤x1 then (if x1<(x0.length:Int) then (if x8<((rd_T44 x0 x1).f6) then (if x7 ≥ 0 then ((spec_l2End.f k x0 x7 (wrap64 (x2+1))).bind fun t231=>(spec_l2End.l0 k x0 x1 x2 t231 (wrap64 (x8+1)))) else (some x7)) else (some x7)) else (none)) else (none)
def spec_l2End.f:Nat→List (S44)→Int→Int→Option (Int)
 | 0,_,_,_=>none
 | k+1,l0,a1,a2=>if a1 ≥ (l0.length:Int) then (spec_l2End.j0 k l0 a1 a2 true) else (if a2 ≥ 64 then (spec_l2End.j0 k l0 a1 a2 true) else (if 0≤a1 then (if a1<(l0.length:Int) then (spec_l2End.j0 k l0 a1 a2 (decide (((rd_T44 l0 a1).f6)<0))) else (none)) else (none)))
end
set_option maxHeartbeats 8000000 in
set_option maxRecDepth 100000 in
theorem spec_l2End.calls (k:Nat):∀ (A0:Option Addr) (c0:Nat) (l0:List (S44)) (a1:Int) (a2:Int) (r:Int) (w:World) (hr0:Kd.C k44 w A0 l0.length l0) (hc0:l0.length≤c0) (h:spec_l2End.f k l0 a1 a2=some r),
  Calls Try.prog 23 #[.slice A0 l0.length c0,.int .i64 a1,.int .i64 a2] w fun e w'=>e=.returned (.int .i64 r)∧Drawn0 w w':=by
 induction k using Nat.strongRecOn with
 | _ k ih =>
 intro A0 c0 l0 a1 a2 r w hr0 hc0 h
 cases k with
 | zero=>exact absurd h (by simp [spec_l2End.f])
 | succ k =>
 simp only [spec_l2End.f] at h
 have HR0:=Ak hr0;have HC0:=Ak hc0;clear hr0 hc0
 have H:(if a1 ≥ (l0.length:Int) then (spec_l2End.j0 k l0 a1 a2 true) else (if a2 ≥ 64 then (spec_l2End.j0 k l0 a1 a2 true) else (if 0≤a1 then (if a1<(l0.length:Int) then (spec_l2End.j0 k l0 a1 a2 (decide (((rd_T44 l0 a1).f6)<0))) else (none)) else (none))))=some r:=h
 clear h;have HC4:=Ak H;clear H
 go_enter Try.func23,Try.ntmps23
 go_upto_region 1 with (fail)
 go_cut [24] (fun v24 wc=>∃ (kq:Nat) (x24_3:Bool),v24=.bool x24_3∧Aside0 (spec_l2End.j0 kq l0 a1 a2 x24_3=some r)∧Aside0 (kq≤k)∧Drawn0 w wc)
 case first =>
  have H:=HC4.out
  clear HC4
  by_cases c5:a1 ≥ (l0.length:Int)
  ·rw [if_pos c5] at H
   have c5b0:decide ((l0.length:Int)≤a1)=true:=decide_eq_true c5
   clear c5
   (first|rw [c5b0]|(simp only [i64_w,i32_w];rw [c5b0])|skip)
   have H':=Ak H
   clear H
   go_wp2
   go_meet
   case rel=>exact ⟨_,(true),(by first|rfl|(simp;done)|(simp [*];done)),H',⟨by first|omega|exact Nat.le_refl _⟩,by repeat (first|exact Drawn0.refl _|apply Drawn0.step)⟩
  ·rw [if_neg c5] at H
   have c5b0:decide ((l0.length:Int)≤a1)=false:=decide_eq_false c5
   clear c5
   (first|rw [c5b0]|(simp only [i64_w,i32_w];rw [c5b0])|skip)
   by_cases c6:a2 ≥ 64
   ·rw [if_pos c6] at H
    have c6b0:decide (64≤a2)=true:=decide_eq_true c6
    clear c6
    have H':=Ak H
    clear H
    go_wp2
    go_meet
    case rel=>exact ⟨_,(true),(by first|rfl|(simp;done)|(simp [*];done)),H',⟨by first|omega|exact Nat.le_refl _⟩,by repeat (first|exact Drawn0.refl _|apply Drawn0.step)⟩
   ·rw [if_neg c6] at H
    have c6b0:decide (64≤a2)=false:=decide_eq_false c6
    clear c6
    by_cases c7:0≤a1
    ·rw [if_pos c7] at H
     have c7b0:decide (0≤a1)=true:=decide_eq_true c7
     clear c7
     by_cases c8:a1<(l0.length:Int)
     ·rw [if_pos c8] at H
      have c8b0:decide (a1<(l0.length:Int))=true:=decide_eq_true c8
      clear c8
      have H':=Ak H
      clear H
      have p229:0≤(a1:Int):=of_decide_eq_true (by first|(with_reducible assumption)|assumption)
      have q229:a1<(l0.length:Int):=of_decide_eq_true (by first|(with_reducible assumption)|assumption)
      obtain ⟨ad229,A229_3,c229_3,A229_4,c229_4,A229_5,c229_5,A229_8,c229_8,A229_9,c229_9,e229,hx229_0,hx229_1,hx229_2,hx229_3,hx229_4,hx229_5,hx229_6,hx229_7,hx229_8,hx229_9,hl229_3,hi229_3,hl229_4,hi229_4,hl229_5,hi229_5,hl229_8,hi229_8,hl229_9,hi229_9⟩:=at_T44 HR0.out a1 p229 q229
      cases e229
      have HR229_3:=Ak hi229_3;have HC229_3:=Ak hl229_3;clear hi229_3 hl229_3;have HR229_4:=Ak hi229_4;have HC229_4:=Ak hl229_4;clear hi229_4 hl229_4;have HR229_5:=Ak hi229_5;have HC229_5:=Ak hl229_5;clear hi229_5 hl229_5;have HR229_8:=Ak hi229_8;have HC229_8:=Ak hl229_8;clear hi229_8 hl229_8;have HR229_9:=Ak hi229_9;have HC229_9:=Ak hl229_9;clear hi229_9 hl229_9
      replace p229:=eq_true p229
      replace q229:=eq_true q229
      go_wp2
      go_meet
      case rel=>exact ⟨_,(decide (((rd_T44 l0 a1).f6)<0)),(by first|rfl|(simp;done)|(simp [*];done)),H',⟨by first|omega|exact Nat.le_refl _⟩,by repeat (first|exact Drawn0.refl _|apply Drawn0.step)⟩
     ·rw [if_neg c8] at H
      exact absurd H (by simp)
    ·rw [if_neg c7] at H
     exact absurd H (by simp)
 case rest =>
  clear HC4;(try clear c2);(try clear p2);(try clear q2);(try clear hx2);(try clear c5);(try clear c5b0);(try clear c6);(try clear c6b0);(try clear c7);(try clear c7b0);(try clear c8);(try clear c8b0);(try clear hx229_0);(try clear hx229_1);(try clear hx229_2);(try clear hx229_3);(try clear hx229_4);(try clear hx229_5);(try clear hx229_6);(try clear hx229_7);(try clear hx229_8)
  (try clear hx229_9);(try clear p229);(try clear q229)
  obtain ⟨kq,x24_3,rfl,HA,HJ3,⟨mc3,rfl⟩⟩:=hcut
  cases kq with
  | zero=>exact absurd HA.out (by simp [spec_l2End.j0])
  | succ kj3 =>
   have H:=HA.out
   clear HA
   simp only [spec_l2End.j0] at H
   by_cases c9:x24_3=true
   ·subst c9
    have H1:(some (-1))=some r:=by rw [if_pos rfl] at H;exact H
    clear H;have H:=H1;clear H1
    obtain rfl:=Option.some.inj H
    go_wp2
    go_ret
    exact ⟨by first|rfl|(simp;done)|(simp [*];done),by repeat (first|exact Drawn0.refl _|apply Drawn0.step)⟩
   ·replace c9:=Bool.eq_false_iff.mpr c9
    subst c9
    have H1:(spec_l2End.l0 kj3 l0 a1 a2 (wrap64 (a1+1)) 0)=some r:=by rw [if_neg (show ¬ (false=true) by decide)] at H;exact H
    clear H;have H:=H1;clear H1
    have H':=Ak H
    clear H
    go_wp2
    go_loopg [7,8] kj3 (fun kq v7 v8 w'=>∃ (x7_2:Int) (x8_2:Int),v7=.int .i64 x7_2∧v8=.int .i64 x8_2∧Aside0 (spec_l2End.l0 kq l0 a1 a2 x7_2 x8_2=some r)∧Aside0 (kq≤kj3)∧Drawn0 w w')
    case atStart=>exact ⟨(wrap64 (a1+1)),(0),(by first|rfl|(simp;done)|(simp [*];done)),(by first|rfl|(simp;done)|(simp [*];done)),H',⟨Nat.le_refl _⟩,by repeat (first|exact Drawn0.refl _|apply Drawn0.step)⟩
    case round =>
     clear H';(try clear c2);(try clear p2);(try clear q2);(try clear hx2);(try clear c3);(try clear c5);(try clear c5b0);(try clear c6);(try clear c6b0);(try clear p6);(try clear c7);(try clear c7b0);(try clear c8);(try clear c8b0);(try clear c9);(try clear hx229_0);(try clear hx229_1);(try clear hx229_2);(try clear hx229_3);(try clear hx229_4);(try clear hx229_5);(try clear hx229_6)
     (try clear hx229_7);(try clear hx229_8);(try clear hx229_9);(try clear p2);(try clear p229);(try clear q2);(try clear q229)
     obtain ⟨x7_2,x8_2,rfl,rfl,HA,HK2,⟨m2,rfl⟩⟩:=hrel
     cases gk with
     | zero=>exact absurd HA.out (by simp [spec_l2End.l0])
     | succ k2 =>
      have H:=HA.out
      clear HA
      simp only [spec_l2End.l0] at H
      by_cases c10:0≤a1
      ·rw [if_pos c10] at H
       have c10b0:decide (0≤a1)=true:=decide_eq_true c10
       clear c10
       by_cases c11:a1<(l0.length:Int)
       ·rw [if_pos c11] at H
        have c11b0:decide (a1<(l0.length:Int))=true:=decide_eq_true c11
        clear c11
        by_cases c12:x8_2<((rd_T44 l0 a1).f6)
        ·rw [if_pos c12] at H
         have c12b0:decide (x8_2<((rd_T44 l0 a1).f6))=true:=decide_eq_true c12
         clear c12
         by_cases c13:x7_2 ≥ 0
         ·rw [if_pos c13] at H
          have c13b0:decide (0≤x7_2)=true:=decide_eq_true c13
          clear c13
          replace H:=Option.bind_eq_some_iff.mp H
          obtain ⟨t231,A140,H⟩:=H
          replace H:(spec_l2End.l0 k2 l0 a1 a2 t231 (wrap64 (x8_2+1)))=some r:=H
          have A14:=Ak A140;clear A140
          have H':=Ak H
          clear H
          have p230:0≤(a1:Int):=of_decide_eq_true (by first|(with_reducible assumption)|assumption)
          have q230:a1<(l0.length:Int):=of_decide_eq_true (by first|(with_reducible assumption)|assumption)
          obtain ⟨ad230,A230_3,c230_3,A230_4,c230_4,A230_5,c230_5,A230_8,c230_8,A230_9,c230_9,e230,hx230_0,hx230_1,hx230_2,hx230_3,hx230_4,hx230_5,hx230_6,hx230_7,hx230_8,hx230_9,hl230_3,hi230_3,hl230_4,hi230_4,hl230_5,hi230_5,hl230_8,hi230_8,hl230_9,hi230_9⟩:=at_T44 HR0.out a1 p230 q230
          cases e230
          have HR230_3:=Ak hi230_3;have HC230_3:=Ak hl230_3;clear hi230_3 hl230_3;have HR230_4:=Ak hi230_4;have HC230_4:=Ak hl230_4;clear hi230_4 hl230_4;have HR230_5:=Ak hi230_5;have HC230_5:=Ak hl230_5;clear hi230_5 hl230_5;have HR230_8:=Ak hi230_8;have HC230_8:=Ak hl230_8;clear hi230_8 hl230_8;have HR230_9:=Ak hi230_9;have HC230_9:=Ak hl230_9;clear hi230_9 hl230_9
          replace p230:=eq_true p230
          replace q230:=eq_true q230
          go_wp2_with (first|((with_reducible refine gate_callee (f:=23) rfl ?_);refine goesL_ (some 44) rfl rfl Try.func23 (by kernel_rfl) rfl #[.slice (some ad230) l0.length c0,.int .i64 x7_2,.int .i64 (wrap64 (a2+1))] rfl (by (try simp only [List.map_toArray,List.map_cons,List.map_nil]);first|done|rfl|(simp only [List.length_drop,List.length_take];rfl)) ?_;(with_reducible refine (ih k2 (by have:=HJ3.out;have:=HK2.out;omega) _ _ l0 x7_2 (wrap64 (a2+1)) t231 _ ?side1 ?side2 A14.out).mono ?_);(case side1=>repeat (first|exact HR0.out|(with_reducible refine Kd.C_alloc ?_ _)|(with_reducible refine Kd.C_drewN ?_ _)|(with_reducible refine Kd.C_drew ?_)));(case side2=>exact HC0.out);rintro e w' ⟨rfl,⟨nd,rfl⟩⟩;refine ⟨_,rfl,?_⟩))
          go_roundg k2
          case measure=>have:=HJ3.out;have:=HK2.out;omega
          case rel=>exact ⟨(t231),(wrap64 (x8_2+1)),(by first|rfl|(simp;done)|(simp [*];done)),(by first|rfl|(simp;done)|(simp [*];done)),H',⟨by have:=HJ3.out;have:=HK2.out;omega⟩,by repeat (first|exact Drawn0.refl _|apply Drawn0.step)⟩
         ·rw [if_neg c13] at H
          have c13b0:decide (0≤x7_2)=false:=decide_eq_false c13
          clear c13
          obtain rfl:=Option.some.inj H
          have p230:0≤(a1:Int):=of_decide_eq_true (by first|(with_reducible assumption)|assumption)
          have q230:a1<(l0.length:Int):=of_decide_eq_true (by first|(with_reducible assumption)|assumption)
          obtain ⟨ad230,A230_3,c230_3,A230_4,c230_4,A230_5,c230_5,A230_8,c230_8,A230_9,c230_9,e230,hx230_0,hx230_1,hx230_2,hx230_3,hx230_4,hx230_5,hx230_6,hx230_7,hx230_8,hx230_9,hl230_3,hi230_3,hl230_4,hi230_4,hl230_5,hi230_5,hl230_8,hi230_8,hl230_9,hi230_9⟩:=at_T44 HR0.out a1 p230 q230
          cases e230
          have HR230_3:=Ak hi230_3;have HC230_3:=Ak hl230_3;clear hi230_3 hl230_3;have HR230_4:=Ak hi230_4;have HC230_4:=Ak hl230_4;clear hi230_4 hl230_4;have HR230_5:=Ak hi230_5;have HC230_5:=Ak hl230_5;clear hi230_5 hl230_5;have HR230_8:=Ak hi230_8;have HC230_8:=Ak hl230_8;clear hi230_8 hl230_8;have HR230_9:=Ak hi230_9;have HC230_9:=Ak hl230_9;clear hi230_9 hl230_9
          replace p230:=eq_true p230
          replace q230:=eq_true q230
          go_wp2
          go_ret
          exact ⟨by first|rfl|(simp;done)|(simp [*];done),by repeat (first|exact Drawn0.refl _|apply Drawn0.step)⟩
        ·rw [if_neg c12] at H
         have c12b0:decide (x8_2<((rd_T44 l0 a1).f6))=false:=decide_eq_false c12
         clear c12
         obtain rfl:=Option.some.inj H
         have p230:0≤(a1:Int):=of_decide_eq_true (by first|(with_reducible assumption)|assumption)
         have q230:a1<(l0.length:Int):=of_decide_eq_true (by first|(with_reducible assumption)|assumption)
         obtain ⟨ad230,A230_3,c230_3,A230_4,c230_4,A230_5,c230_5,A230_8,c230_8,A230_9,c230_9,e230,hx230_0,hx230_1,hx230_2,hx230_3,hx230_4,hx230_5,hx230_6,hx230_7,hx230_8,hx230_9,hl230_3,hi230_3,hl230_4,hi230_4,hl230_5,hi230_5,hl230_8,hi230_8,hl230_9,hi230_9⟩:=at_T44 HR0.out a1 p230 q230
         cases e230
         have HR230_3:=Ak hi230_3;have HC230_3:=Ak hl230_3;clear hi230_3 hl230_3;have HR230_4:=Ak hi230_4;have HC230_4:=Ak hl230_4;clear hi230_4 hl230_4;have HR230_5:=Ak hi230_5;have HC230_5:=Ak hl230_5;clear hi230_5 hl230_5;have HR230_8:=Ak hi230_8;have HC230_8:=Ak hl230_8;clear hi230_8 hl230_8;have HR230_9:=Ak hi230_9;have HC230_9:=Ak hl230_9;clear hi230_9 hl230_9
         replace p230:=eq_true p230
         replace q230:=eq_true q230
         go_wp2
         go_ret
         exact ⟨by first|rfl|(simp;done)|(simp [*];done),by repeat (first|exact Drawn0.refl _|apply Drawn0.step)⟩
       ·rw [if_neg c11] at H
        exact absurd H (by simp)
      ·rw [if_neg c10] at H
       exact absurd H (by simp)
def spec_l2Plain.f (a0_0:Int) (a0_1:Int) (a0_2:ByteArray):Option (Bool):=if a0_0=3 then (if a0_1=0 then (some (decide ((a0_2.size:Int)≤1000))) else (some false)) else (if (a0_2.size:Int) > 0 then (some false) else (if a0_0=1 then (if a0_1=0 then (some true) else (some (a0_1 == 1))) else (if a0_0=2 then (some true) else (if a0_0=0 then (some (a0_1 == 0)) else (some false)))))
set_option maxHeartbeats 8000000 in
set_option maxRecDepth 100000 in
theorem spec_l2Plain.calls (a0_0:Int) (a0_1:Int) (a0_2:ByteArray) (r:Bool) (w:World) (h:spec_l2Plain.f a0_0 a0_1 a0_2=some r) :
  Calls Try.prog 55 #[.agg #[.int .i64 a0_0,.int .i64 a0_1,.string a0_2]] w fun e w'=>e=.returned (.bool r)∧Below w.heap.size w w':=by
 have hu85:=Try.underlying85
 have HB:=Ak (Below.refl w.heap.size w)
 have H:(if a0_0=3 then (if a0_1=0 then (some (decide ((a0_2.size:Int)≤1000))) else (some false)) else (if (a0_2.size:Int) > 0 then (some false) else (if a0_0=1 then (if a0_1=0 then (some true) else (some (a0_1 == 1))) else (if a0_0=2 then (some true) else (if a0_0=0 then (some (a0_1 == 0)) else (some false))))))=some r:=h
 clear h
 by_cases c2:a0_0=3
 ·rw [if_pos c2] at H
  have c2b0:(a0_0 == 3)=true:=beq_iff_eq.mpr c2
  have c2b1:(a0_0 != 3)=false:=bne_eq_false_iff_eq.mpr c2
  clear c2
  by_cases c3:a0_1=0
  ·rw [if_pos c3] at H
   have c3b0:(a0_1 == 0)=true:=beq_iff_eq.mpr c3
   have c3b1:(a0_1 != 0)=false:=bne_eq_false_iff_eq.mpr c3
   clear c3
   obtain rfl:=Option.some.inj H
   go_enter Try.func55,Try.ntmps55
   go_wp2_with (first|((with_reducible refine gate_dst (N:=1) rfl ?_);(try (refine gate_guard (by rfl) ?_;dsimp only));refine box_event ?hg (N:=1) ?hd (cs:=#[.int .i64 a0_0,.int .i64 a0_1,.string a0_2]) (t:=85) ?hr ?_;(case hd=>rfl);(case hg=>rfl);(case hr=>first|(go_simp;done)|(go_simp;rfl));intro gb232 hg w4 hbox hb;have n0_:=Ak (below_step (by repeat (first|(with_reducible first|exact HB.out|apply below_alloc|apply pw_below_drewN|apply below_drew1)|exact HB.out)) hb);have n1_:=Ak (hbox);have n2_:=Ak ((by rw [hg];exact (below_size (by repeat (first|(with_reducible first|exact HB.out|apply below_alloc|apply pw_below_drewN|apply below_drew1)|exact HB.out))):w.heap.size≤gb232));have n3_:=Ak ((by rw [hg];exact (below_size (by repeat (first|(with_reducible first|exact HB.out|apply below_alloc|apply pw_below_drewN|apply below_drew1)|exact HB.out))):w.heap.size≤gb232));clear HB;have HB:=n0_;have BK232:=n1_;have GW232:=n2_;have GE232:=n3_;clear n0_ n1_ n2_ n3_;clear hb hbox hg;obtain ⟨hcz5_0,hcz5_1,hcz5_2,hfz5_0,hfz5_1,hfz5_2⟩:=bk3 BK232.out))
   go_ret
   exact ⟨by first|rfl|(simp [errW_none,errW_some] <;> rfl)|(simp [*,errW_none,errW_some] <;> rfl),by repeat (first|(with_reducible first|exact HB.out|apply below_alloc|apply pw_below_drewN|apply below_drew1|refine below_set ?_ GE232.out)|exact HB.out)⟩
  ·rw [if_neg c3] at H
   have c3b0:(a0_1 == 0)=false:=beq_eq_false_iff_ne.mpr c3
   have c3b1:(a0_1 != 0)=true:=bne_iff_ne.mpr c3
   obtain rfl:=Option.some.inj H
   go_enter Try.func55,Try.ntmps55
   go_wp2_with (first|((with_reducible refine gate_dst (N:=1) rfl ?_);(try (refine gate_guard (by rfl) ?_;dsimp only));refine box_event ?hg (N:=1) ?hd (cs:=#[.int .i64 a0_0,.int .i64 a0_1,.string a0_2]) (t:=85) ?hr ?_;(case hd=>rfl);(case hg=>rfl);(case hr=>first|(go_simp;done)|(go_simp;rfl));intro gb232 hg w6 hbox hb;have n0_:=Ak (below_step (by repeat (first|(with_reducible first|exact HB.out|apply below_alloc|apply pw_below_drewN|apply below_drew1)|exact HB.out)) hb);have n1_:=Ak (hbox);have n2_:=Ak ((by rw [hg];exact (below_size (by repeat (first|(with_reducible first|exact HB.out|apply below_alloc|apply pw_below_drewN|apply below_drew1)|exact HB.out))):w.heap.size≤gb232));have n3_:=Ak ((by rw [hg];exact (below_size (by repeat (first|(with_reducible first|exact HB.out|apply below_alloc|apply pw_below_drewN|apply below_drew1)|exact HB.out))):w.heap.size≤gb232));clear HB;have HB:=n0_;have BK232:=n1_;have GW232:=n2_;have GE232:=n3_;clear n0_ n1_ n2_ n3_;clear hb hbox hg;obtain ⟨hcz7_0,hcz7_1,hcz7_2,hfz7_0,hfz7_1,hfz7_2⟩:=bk3 BK232.out))
   go_ret
   exact ⟨by first|rfl|(simp [errW_none,errW_some] <;> rfl)|(simp [*,errW_none,errW_some] <;> rfl),by repeat (first|(with_reducible first|exact HB.out|apply below_alloc|apply pw_below_drewN|apply below_drew1|refine below_set ?_ GE232.out)|exact HB.out)⟩
 ·rw [if_neg c2] at H
  have c2b0:(a0_0 == 3)=false:=beq_eq_false_iff_ne.mpr c2
  have c2b1:(a0_0 != 3)=true:=bne_iff_ne.mpr c2
  by_cases c8:(a0_2.size:Int) > 0
  ·rw [if_pos c8] at H
   have c8b0:decide (0<(a0_2.size:Int))=true:=decide_eq_true c8
   have c8b1:decide (0<a0_2.size)=true:=decide_eq_true (by omega)
   clear c8
   obtain rfl:=Option.some.inj H
   go_enter Try.func55,Try.ntmps55
   go_wp2_with (first|((with_reducible refine gate_dst (N:=1) rfl ?_);(try (refine gate_guard (by rfl) ?_;dsimp only));refine box_event ?hg (N:=1) ?hd (cs:=#[.int .i64 a0_0,.int .i64 a0_1,.string a0_2]) (t:=85) ?hr ?_;(case hd=>rfl);(case hg=>rfl);(case hr=>first|(go_simp;done)|(go_simp;rfl));intro gb232 hg w9 hbox hb;have n0_:=Ak (below_step (by repeat (first|(with_reducible first|exact HB.out|apply below_alloc|apply pw_below_drewN|apply below_drew1)|exact HB.out)) hb);have n1_:=Ak (hbox);have n2_:=Ak ((by rw [hg];exact (below_size (by repeat (first|(with_reducible first|exact HB.out|apply below_alloc|apply pw_below_drewN|apply below_drew1)|exact HB.out))):w.heap.size≤gb232));have n3_:=Ak ((by rw [hg];exact (below_size (by repeat (first|(with_reducible first|exact HB.out|apply below_alloc|apply pw_below_drewN|apply below_drew1)|exact HB.out))):w.heap.size≤gb232));clear HB;have HB:=n0_;have BK232:=n1_;have GW232:=n2_;have GE232:=n3_;clear n0_ n1_ n2_ n3_;clear hb hbox hg;obtain ⟨hcz10_0,hcz10_1,hcz10_2,hfz10_0,hfz10_1,hfz10_2⟩:=bk3 BK232.out))
   go_ret
   exact ⟨by first|rfl|(simp [errW_none,errW_some] <;> rfl)|(simp [*,errW_none,errW_some] <;> rfl),by repeat (first|(with_reducible first|exact HB.out|apply below_alloc|apply pw_below_drewN|apply below_drew1|refine below_set ?_ GE232.out)|exact HB.out)⟩
  ·rw [if_neg c8] at H
   have c8b0:decide (0<(a0_2.size:Int))=false:=decide_eq_false c8
   have c8b1:decide (0<a0_2.size)=false:=decide_eq_false (by omega)
   clear c8
   by_cases c11:a0_0=1
   ·rw [if_pos c11] at H
    have c11b0:(a0_0 == 1)=true:=beq_iff_eq.mpr c11
    have c11b1:(a0_0 != 1)=false:=bne_eq_false_iff_eq.mpr c11
    clear c11
    by_cases c12:a0_1=0
    ·rw [if_pos c12] at H
     have c12b0:(a0_1 == 0)=true:=beq_iff_eq.mpr c12
     have c12b1:(a0_1 != 0)=false:=bne_eq_false_iff_eq.mpr c12
     clear c12
     obtain rfl:=Option.some.inj H
     go_enter Try.func55,Try.ntmps55
     go_wp2_with (first|((with_reducible refine gate_dst (N:=1) rfl ?_);(try (refine gate_guard (by rfl) ?_;dsimp only));refine box_event ?hg (N:=1) ?hd (cs:=#[.int .i64 a0_0,.int .i64 a0_1,.string a0_2]) (t:=85) ?hr ?_;(case hd=>rfl);(case hg=>rfl);(case hr=>first|(go_simp;done)|(go_simp;rfl));intro gb232 hg w13 hbox hb;have n0_:=Ak (below_step (by repeat (first|(with_reducible first|exact HB.out|apply below_alloc|apply pw_below_drewN|apply below_drew1)|exact HB.out)) hb);have n1_:=Ak (hbox);have n2_:=Ak ((by rw [hg];exact (below_size (by repeat (first|(with_reducible first|exact HB.out|apply below_alloc|apply pw_below_drewN|apply below_drew1)|exact HB.out))):w.heap.size≤gb232));have n3_:=Ak ((by rw [hg];exact (below_size (by repeat (first|(with_reducible first|exact HB.out|apply below_alloc|apply pw_below_drewN|apply below_drew1)|exact HB.out))):w.heap.size≤gb232));clear HB;have HB:=n0_;have BK232:=n1_;have GW232:=n2_;have GE232:=n3_;clear n0_ n1_ n2_ n3_;clear hb hbox hg;obtain ⟨hcz14_0,hcz14_1,hcz14_2,hfz14_0,hfz14_1,hfz14_2⟩:=bk3 BK232.out))
     go_ret
     exact ⟨by first|rfl|(simp [errW_none,errW_some] <;> rfl)|(simp [*,errW_none,errW_some] <;> rfl),by repeat (first|(with_reducible first|exact HB.out|apply below_alloc|apply pw_below_drewN|apply below_drew1|refine below_set ?_ GE232.out)|exact HB.out)⟩
    ·rw [if_neg c12] at H
     have c12b0:(a0_1 == 0)=false:=beq_eq_false_iff_ne.mpr c12
     have c12b1:(a0_1 != 0)=true:=bne_iff_ne.mpr c12
     obtain rfl:=Option.some.inj H
     go_enter Try.func55,Try.ntmps55
     go_wp2_with (first|((with_reducible refine gate_dst (N:=1) rfl ?_);(try (refine gate_guard (by rfl) ?_;dsimp only));refine box_event ?hg (N:=1) ?hd (cs:=#[.int .i64 a0_0,.int .i64 a0_1,.string a0_2]) (t:=85) ?hr ?_;(case hd=>rfl);(case hg=>rfl);(case hr=>first|(go_simp;done)|(go_simp;rfl));intro gb232 hg w15 hbox hb;have n0_:=Ak (below_step (by repeat (first|(with_reducible first|exact HB.out|apply below_alloc|apply pw_below_drewN|apply below_drew1)|exact HB.out)) hb);have n1_:=Ak (hbox);have n2_:=Ak ((by rw [hg];exact (below_size (by repeat (first|(with_reducible first|exact HB.out|apply below_alloc|apply pw_below_drewN|apply below_drew1)|exact HB.out))):w.heap.size≤gb232));have n3_:=Ak ((by rw [hg];exact (below_size (by repeat (first|(with_reducible first|exact HB.out|apply below_alloc|apply pw_below_drewN|apply below_drew1)|exact HB.out))):w.heap.size≤gb232));clear HB;have HB:=n0_;have BK232:=n1_;have GW232:=n2_;have GE232:=n3_;clear n0_ n1_ n2_ n3_;clear hb hbox hg;obtain ⟨hcz16_0,hcz16_1,hcz16_2,hfz16_0,hfz16_1,hfz16_2⟩:=bk3 BK232.out))
     go_ret
     exact ⟨by first|rfl|(simp [errW_none,errW_some] <;> rfl)|(simp [*,errW_none,errW_some] <;> rfl),by repeat (first|(with_reducible first|exact HB.out|apply below_alloc|apply pw_below_drewN|apply below_drew1|refine below_set ?_ GE232.out)|exact HB.out)⟩
   ·rw [if_neg c11] at H
    have c11b0:(a0_0 == 1)=false:=beq_eq_false_iff_ne.mpr c11
    have c11b1:(a0_0 != 1)=true:=bne_iff_ne.mpr c11
    by_cases c17:a0_0=2
    ·rw [if_pos c17] at H
     have c17b0:(a0_0 == 2)=true:=beq_iff_eq.mpr c17
     have c17b1:(a0_0 != 2)=false:=bne_eq_false_iff_eq.mpr c17
     clear c17
     obtain rfl:=Option.some.inj H
     go_enter Try.func55,Try.ntmps55
     go_wp2_with (first|((with_reducible refine gate_dst (N:=1) rfl ?_);(try (refine gate_guard (by rfl) ?_;dsimp only));refine box_event ?hg (N:=1) ?hd (cs:=#[.int .i64 a0_0,.int .i64 a0_1,.string a0_2]) (t:=85) ?hr ?_;(case hd=>rfl);(case hg=>rfl);(case hr=>first|(go_simp;done)|(go_simp;rfl));intro gb232 hg w18 hbox hb;have n0_:=Ak (below_step (by repeat (first|(with_reducible first|exact HB.out|apply below_alloc|apply pw_below_drewN|apply below_drew1)|exact HB.out)) hb);have n1_:=Ak (hbox);have n2_:=Ak ((by rw [hg];exact (below_size (by repeat (first|(with_reducible first|exact HB.out|apply below_alloc|apply pw_below_drewN|apply below_drew1)|exact HB.out))):w.heap.size≤gb232));have n3_:=Ak ((by rw [hg];exact (below_size (by repeat (first|(with_reducible first|exact HB.out|apply below_alloc|apply pw_below_drewN|apply below_drew1)|exact HB.out))):w.heap.size≤gb232));clear HB;have HB:=n0_;have BK232:=n1_;have GW232:=n2_;have GE232:=n3_;clear n0_ n1_ n2_ n3_;clear hb hbox hg;obtain ⟨hcz19_0,hcz19_1,hcz19_2,hfz19_0,hfz19_1,hfz19_2⟩:=bk3 BK232.out))
     go_ret
     exact ⟨by first|rfl|(simp [errW_none,errW_some] <;> rfl)|(simp [*,errW_none,errW_some] <;> rfl),by repeat (first|(with_reducible first|exact HB.out|apply below_alloc|apply pw_below_drewN|apply below_drew1|refine below_set ?_ GE232.out)|exact HB.out)⟩
    ·rw [if_neg c17] at H
     have c17b0:(a0_0 == 2)=false:=beq_eq_false_iff_ne.mpr c17
     have c17b1:(a0_0 != 2)=true:=bne_iff_ne.mpr c17
     by_cases c20:a0_0=0
     ·rw [if_pos c20] at H
      have c20b0:(a0_0 == 0)=true:=beq_iff_eq.mpr c20
      have c20b1:(a0_0 != 0)=false:=bne_eq_false_iff_eq.mpr c20
      clear c20
      obtain rfl:=Option.some.inj H
      go_enter Try.func55,Try.ntmps55
      go_wp2_with (first|((with_reducible refine gate_dst (N:=1) rfl ?_);(try (refine gate_guard (by rfl) ?_;dsimp only));refine box_event ?hg (N:=1) ?hd (cs:=#[.int .i64 a0_0,.int .i64 a0_1,.string a0_2]) (t:=85) ?hr ?_;(case hd=>rfl);(case hg=>rfl);(case hr=>first|(go_simp;done)|(go_simp;rfl));intro gb232 hg w21 hbox hb;have n0_:=Ak (below_step (by repeat (first|(with_reducible first|exact HB.out|apply below_alloc|apply pw_below_drewN|apply below_drew1)|exact HB.out)) hb);have n1_:=Ak (hbox);have n2_:=Ak ((by rw [hg];exact (below_size (by repeat (first|(with_reducible first|exact HB.out|apply below_alloc|apply pw_below_drewN|apply below_drew1)|exact HB.out))):w.heap.size≤gb232));have n3_:=Ak ((by rw [hg];exact (below_size (by repeat (first|(with_reducible first|exact HB.out|apply below_alloc|apply pw_below_drewN|apply below_drew1)|exact HB.out))):w.heap.size≤gb232));clear HB;have HB:=n0_;have BK232:=n1_;have GW232:=n2_;have GE232:=n3_;clear n0_ n1_ n2_ n3_;clear hb hbox hg;obtain ⟨hcz22_0,hcz22_1,hcz22_2,hfz22_0,hfz22_1,hfz22_2⟩:=bk3 BK232.out))
      go_ret
      exact ⟨by first|rfl|(simp [errW_none,errW_some] <;> rfl)|(simp [*,errW_none,errW_some] <;> rfl),by repeat (first|(with_reducible first|exact HB.out|apply below_alloc|apply pw_below_drewN|apply below_drew1|refine below_set ?_ GE232.out)|exact HB.out)⟩
     ·rw [if_neg c20] at H
      have c20b0:(a0_0 == 0)=false:=beq_eq_false_iff_ne.mpr c20
      have c20b1:(a0_0 != 0)=true:=bne_iff_ne.mpr c20
      obtain rfl:=Option.some.inj H
      go_enter Try.func55,Try.ntmps55
      go_wp2_with (first|((with_reducible refine gate_dst (N:=1) rfl ?_);(try (refine gate_guard (by rfl) ?_;dsimp only));refine box_event ?hg (N:=1) ?hd (cs:=#[.int .i64 a0_0,.int .i64 a0_1,.string a0_2]) (t:=85) ?hr ?_;(case hd=>rfl);(case hg=>rfl);(case hr=>first|(go_simp;done)|(go_simp;rfl));intro gb232 hg w23 hbox hb;have n0_:=Ak (below_step (by repeat (first|(with_reducible first|exact HB.out|apply below_alloc|apply pw_below_drewN|apply below_drew1)|exact HB.out)) hb);have n1_:=Ak (hbox);have n2_:=Ak ((by rw [hg];exact (below_size (by repeat (first|(with_reducible first|exact HB.out|apply below_alloc|apply pw_below_drewN|apply below_drew1)|exact HB.out))):w.heap.size≤gb232));have n3_:=Ak ((by rw [hg];exact (below_size (by repeat (first|(with_reducible first|exact HB.out|apply below_alloc|apply pw_below_drewN|apply below_drew1)|exact HB.out))):w.heap.size≤gb232));clear HB;have HB:=n0_;have BK232:=n1_;have GW232:=n2_;have GE232:=n3_;clear n0_ n1_ n2_ n3_;clear hb hbox hg;obtain ⟨hcz24_0,hcz24_1,hcz24_2,hfz24_0,hfz24_1,hfz24_2⟩:=bk3 BK232.out))
      go_ret
      exact ⟨by first|rfl|(simp [errW_none,errW_some] <;> rfl)|(simp [*,errW_none,errW_some] <;> rfl),by repeat (first|(with_reducible first|exact HB.out|apply below_alloc|apply pw_below_drewN|apply below_drew1|refine below_set ?_ GE232.out)|exact HB.out)⟩
def spec_l2NumOk.f (a0:Int):Option (Bool):=if a0 ≥ 0 then (some (decide (a0≤16777215))) else (some false)
set_option maxHeartbeats 8000000 in
set_option maxRecDepth 100000 in
theorem spec_l2NumOk.calls (a0:Int) (r:Bool) (w:World) (h:spec_l2NumOk.f a0=some r) :
  Calls Try.prog 56 #[.int .i64 a0] w fun e w'=>e=.returned (.bool r)∧Drawn0 w w':=by
 have H:(if a0 ≥ 0 then (some (decide (a0≤16777215))) else (some false))=some r:=h
 clear h
 by_cases c2:a0 ≥ 0
 ·rw [if_pos c2] at H
  have c2b0:decide (0≤a0)=true:=decide_eq_true c2
  clear c2
  obtain rfl:=Option.some.inj H
  go_enter Try.func56,Try.ntmps56
  go_wp2
  go_ret
  exact ⟨by first|rfl|(simp;done)|(simp [*];done),by repeat (first|exact Drawn0.refl _|apply Drawn0.step)⟩
 ·rw [if_neg c2] at H
  have c2b0:decide (0≤a0)=false:=decide_eq_false c2
  clear c2
  obtain rfl:=Option.some.inj H
  go_enter Try.func56,Try.ntmps56
  go_wp2
  go_ret
  exact ⟨by first|rfl|(simp;done)|(simp [*];done),by repeat (first|exact Drawn0.refl _|apply Drawn0.step)⟩
end Go.Proofs.Ytiekodnojmkfaaa.PFnExactStrip
