-- Printed by the kit's print or by this session's program, then cut and tightened by it.
import Derived.Test.YtiekodnojmkfaaaPFnEndsx0
namespace Go.Proofs.Ytiekodnojmkfaaa.PFnEnds
open Go.RowKit Go.Proofs.YtiekodnojmkfaaaW.PrintWords Go.Proofs.YtiekodnojmkfaaaW.PrintLast Go.Proofs.YtiekodnojmkfaaaW.PrintMore
attribute [local go_sem] max2_int min2_int max_two min_two max_three min_three max_four min_four   -- for this text's walks alone
set_option linter.unusedVariables false
set_option linter.unusedSimpArgs false
mutual
def spec_l2End.j0:Nat→List (S44)→Int→Int→Bool→Option (Int)
 | 0,_,_,_,_=>none
 | k+1,x0,x1,x2,x24=>if x24=true then (some (-1)) else (spec_l2End.l0 k x0 x1 x2 (wrap64 (x1+1)) 0)
def spec_l2End.l0:Nat→List (S44)→Int→Int→Int→Int→Option (Int)
 | 0,_,_,_,_,_=>none
 | k+1,x0,x1,x2,x7,x8=>if 0≤x1 then (if x1<(x0.length:Int) then (if x8<((rd_T44 x0 x1).f6) then (if x7 ≥ 0 then ((spec_l2End.f k x0 x7 (wrap64 (x2+1))).bind fun t103=>(spec_l2End.l0 k x0 x1 x2 t103 (wrap64 (x8+1)))) else (some x7)) else (some x7)) else (none)) else (none)
def spec_l2End.f:Nat→List (S44)→Int→Int→Option (Int)
 | 0,_,_,_=>none
 | k+1,l0,a1,a2=>if a1 ≥ (l0.length:Int) then (spec_l2End.j0 k l0 a1 a2 true) else (if a2 ≥ 64 then (spec_l2End.j0 k l0 a1 a2 true) else (if 0≤a1 then (if a1<(l0.length:Int) then (spec_l2End.j0 k l0 a1 a2 (decide (((rd_T44 l0 a1).f6)<0))) else (none)) else (none)))
end
set_option maxHeartbeats 8000000 in
set_option maxRecDepth 100000 in
theorem spec_l2End.calls (k:Nat):∀ (A0:Option Addr) (c0:Nat) (l0:List (S44)) (a1:Int) (a2:Int) (r:Int) (w:World) (hr0:Kd.C k44 w A0 l0.length l0) (hc0:l0.length≤c0) (h:spec_l2End.f k l0 a1 a2=some r),
  Calls Try.prog 23 #[.slice A0 l0.length c0,.int .i64 a1,.int .i64 a2] w fun e w'=>e=.returned (.int .i64 r)∧Drawn0 w w':=by
 induction k using Nat.strongRecOn with
 | _ k ih =>
 intro A0 c0 l0 a1 a2 r w hr0 hc0 h
 cases k with
 | zero=>exact absurd h (by simp [spec_l2End.f])
 | succ k =>
 simp only [spec_l2End.f] at h
 have HR0:=Ak hr0;have HC0:=Ak hc0;clear hr0 hc0
 have H:(if a1 ≥ (l0.length:Int) then (spec_l2End.j0 k l0 a1 a2 true) else (if a2 ≥ 64 then (spec_l2End.j0 k l0 a1 a2 true) else (if 0≤a1 then (if a1<(l0.length:Int) then (spec_l2End.j0 k l0 a1 a2 (decide (((rd_T44 l0 a1).f6)<0))) else (none)) else (none))))=some r:=h
 clear h;have HC4:=Ak H;clear H
 go_enter Try.func23,Try.ntmps23
 go_upto_region 1 with (fail)
 go_cut [24] (fun v24 wc=>∃ (kq:Nat) (x24_3:Bool),v24=.bool x24_3∧Aside0 (spec_l2End.j0 kq l0 a1 a2 x24_3=some r)∧Aside0 (kq≤k)∧Drawn0 w wc)
 case first =>
  have H:=HC4.out
  clear HC4
  by_cases c5:a1 ≥ (l0.length:Int)
  ·rw [if_pos c5] at H
   have c5b0:decide ((l0.length:Int)≤a1)=true:=decide_eq_true c5
   clear c5
   (first|rw [c5b0]|(simp only [i64_w,i32_w];rw [c5b0])|skip)
   have H':=Ak H
   clear H
   go_wp2
   go_meet
   case rel=>exact ⟨_,(true),(by first|rfl|(simp;done)|(simp [*];done)),H',⟨by first|omega|exact Nat.le_refl _⟩,by repeat (first|exact Drawn0.refl _|apply Drawn0.step)⟩
  ·rw [if_neg c5] at H
   have c5b0:decide ((l0.length:Int)≤a1)=false:=decide_eq_false c5
   clear c5
   (first|rw [c5b0]|(simp only [i64_w,i32_w];rw [c5b0])|skip)
   by_cases c6:a2 ≥ 64
   ·rw [if_pos c6] at H
    have c6b0:decide (64≤a2)=true:=decide_eq_true c6
    clear c6
    have H':=Ak H
    clear H
    go_wp2
    go_meet
    case rel=>exact ⟨_,(true),(by first|rfl|(simp;done)|(simp [*];done)),H',⟨by first|omega|exact Nat.le_refl _⟩,by repeat (first|exact Drawn0.refl _|apply Drawn0.step)⟩
   ·rw [if_neg c6] at H
    have c6b0:decide (64≤a2)=false:=decide_eq_false c6
    clear c6
    by_cases c7:0≤a1
    ·rw [if_pos c7] at H
     have c7b0:decide (0≤a1)=true:=decide_eq_true c7
     clear c7
     by_cases c8:a1<(l0.length:Int)
     ·rw [if_pos c8] at H
      have c8b0:decide (a1<(l0.length:Int))=true:=decide_eq_true c8
      clear c8
      have H':=Ak H
      clear H
      have p101:0≤(a1:Int):=of_decide_eq_true (by first|(with_reducible assumption)|assumption)
      have q101:a1<(l0.length:Int):=of_decide_eq_true (by first|(with_reducible assumption)|assumption)
      obtain ⟨ad101,A101_3,c101_3,A101_4,c101_4,A101_5,c101_5,A101_8,c101_8,A101_9,c101_9,e101,hx101_0,hx101_1,hx101_2,hx101_3,hx101_4,hx101_5,hx101_6,hx101_7,hx101_8,hx101_9,hl101_3,hi101_3,hl101_4,hi101_4,hl101_5,hi101_5,hl101_8,hi101_8,hl101_9,hi101_9⟩:=at_T44 HR0.out a1 p101 q101
      cases e101
      have HR101_3:=Ak hi101_3;have HC101_3:=Ak hl101_3;clear hi101_3 hl101_3;have HR101_4:=Ak hi101_4;have HC101_4:=Ak hl101_4;clear hi101_4 hl101_4;have HR101_5:=Ak hi101_5;have HC101_5:=Ak hl101_5;clear hi101_5 hl101_5;have HR101_8:=Ak hi101_8;have HC101_8:=Ak hl101_8;clear hi101_8 hl101_8;have HR101_9:=Ak hi101_9;have HC101_9:=Ak hl101_9;clear hi101_9 hl101_9
      replace p101:=eq_true p101
      replace q101:=eq_true q101
      go_wp2
      go_meet
      case rel=>exact ⟨_,(decide (((rd_T44 l0 a1).f6)<0)),(by first|rfl|(simp;done)|(simp [*];done)),H',⟨by first|omega|exact Nat.le_refl _⟩,by repeat (first|exact Drawn0.refl _|apply Drawn0.step)⟩
     ·rw [if_neg c8] at H
      exact absurd H (by simp)
    ·rw [if_neg c7] at H
     exact absurd H (by simp)
 case rest =>
  clear HC4;(try clear c1);(try clear p1);(try clear q1);(try clear hx1);(try clear c2);(try clear p2);(try clear c5);(try clear c5b0);(try clear c6);(try clear c6b0);(try clear c7);(try clear c7b0);(try clear c8);(try clear c8b0);(try clear hx101_0);(try clear hx101_1);(try clear hx101_2);(try clear hx101_3);(try clear hx101_4);(try clear hx101_5);(try clear hx101_6);(try clear hx101_7)
  (try clear hx101_8);(try clear hx101_9);(try clear p101);(try clear q101)
  obtain ⟨kq,x24_3,rfl,HA,HJ3,⟨mc3,rfl⟩⟩:=hcut
  cases kq with
  | zero=>exact absurd HA.out (by simp [spec_l2End.j0])
  | succ kj3 =>
   have H:=HA.out
   clear HA
   simp only [spec_l2End.j0] at H
   by_cases c9:x24_3=true
   ·subst c9
    have H1:(some (-1))=some r:=by rw [if_pos rfl] at H;exact H
    clear H;have H:=H1;clear H1
    obtain rfl:=Option.some.inj H
    go_wp2
    go_ret
    exact ⟨by first|rfl|(simp;done)|(simp [*];done),by repeat (first|exact Drawn0.refl _|apply Drawn0.step)⟩
   ·replace c9:=Bool.eq_false_iff.mpr c9
    subst c9
    have H1:(spec_l2End.l0 kj3 l0 a1 a2 (wrap64 (a1+1)) 0)=some r:=by rw [if_neg (show ¬ (false=true) by decide)] at H;exact H
    clear H;have H:=H1;clear H1
    have H':=Ak H
    clear H
    go_wp2
    go_loopg [7,8] kj3 (fun kq v7 v8 w'=>∃ (x7_2:Int) (x8_2:Int),v7=.int .i64 x7_2∧v8=.int .i64 x8_2∧Aside0 (spec_l2End.l0 kq l0 a1 a2 x7_2 x8_2=some r)∧Aside0 (kq≤kj3)∧Drawn0 w w')
    case atStart=>exact ⟨(wrap64 (a1+1)),(0),(by first|rfl|(simp;done)|(simp [*];done)),(by first|rfl|(simp;done)|(simp [*];done)),H',⟨Nat.le_refl _⟩,by repeat (first|exact Drawn0.refl _|apply Drawn0.step)⟩
    case round =>
     clear H';(try clear c1);(try clear p1);(try clear q1);(try clear hx1);(try clear c2);(try clear p2);(try clear c3);(try clear c5);(try clear c5b0);(try clear c6);(try clear c6b0);(try clear p6);(try clear c7);(try clear c7b0);(try clear c8);(try clear c8b0);(try clear c9);(try clear hx101_0);(try clear hx101_1);(try clear hx101_2);(try clear hx101_3);(try clear hx101_4)
     (try clear hx101_5);(try clear hx101_6);(try clear hx101_7);(try clear hx101_8);(try clear hx101_9);(try clear p1);(try clear p101);(try clear p2);(try clear q1);(try clear q101)
     obtain ⟨x7_2,x8_2,rfl,rfl,HA,HK2,⟨m2,rfl⟩⟩:=hrel
     cases gk with
     | zero=>exact absurd HA.out (by simp [spec_l2End.l0])
     | succ k2 =>
      have H:=HA.out
      clear HA
      simp only [spec_l2End.l0] at H
      by_cases c10:0≤a1
      ·rw [if_pos c10] at H
       have c10b0:decide (0≤a1)=true:=decide_eq_true c10
       clear c10
       by_cases c11:a1<(l0.length:Int)
       ·rw [if_pos c11] at H
        have c11b0:decide (a1<(l0.length:Int))=true:=decide_eq_true c11
        clear c11
        by_cases c12:x8_2<((rd_T44 l0 a1).f6)
        ·rw [if_pos c12] at H
         have c12b0:decide (x8_2<((rd_T44 l0 a1).f6))=true:=decide_eq_true c12
         clear c12
         by_cases c13:x7_2 ≥ 0
         ·rw [if_pos c13] at H
          have c13b0:decide (0≤x7_2)=true:=decide_eq_true c13
          clear c13
          replace H:=Option.bind_eq_some_iff.mp H
          obtain ⟨t103,A140,H⟩:=H
          replace H:(spec_l2End.l0 k2 l0 a1 a2 t103 (wrap64 (x8_2+1)))=some r:=H
          have A14:=Ak A140;clear A140
          have H':=Ak H
          clear H
          have p102:0≤(a1:Int):=of_decide_eq_true (by first|(with_reducible assumption)|assumption)
          have q102:a1<(l0.length:Int):=of_decide_eq_true (by first|(with_reducible assumption)|assumption)
          obtain ⟨ad102,A102_3,c102_3,A102_4,c102_4,A102_5,c102_5,A102_8,c102_8,A102_9,c102_9,e102,hx102_0,hx102_1,hx102_2,hx102_3,hx102_4,hx102_5,hx102_6,hx102_7,hx102_8,hx102_9,hl102_3,hi102_3,hl102_4,hi102_4,hl102_5,hi102_5,hl102_8,hi102_8,hl102_9,hi102_9⟩:=at_T44 HR0.out a1 p102 q102
          cases e102
          have HR102_3:=Ak hi102_3;have HC102_3:=Ak hl102_3;clear hi102_3 hl102_3;have HR102_4:=Ak hi102_4;have HC102_4:=Ak hl102_4;clear hi102_4 hl102_4;have HR102_5:=Ak hi102_5;have HC102_5:=Ak hl102_5;clear hi102_5 hl102_5;have HR102_8:=Ak hi102_8;have HC102_8:=Ak hl102_8;clear hi102_8 hl102_8;have HR102_9:=Ak hi102_9;have HC102_9:=Ak hl102_9;clear hi102_9 hl102_9
          replace p102:=eq_true p102
          replace q102:=eq_true q102
          go_wp2_with (first|((with_reducible refine gate_callee (f:=23) rfl ?_);refine goesL_ (some 44) rfl rfl Try.func23 (by kernel_rfl) rfl #[.slice (some ad102) l0.length c0,.int .i64 x7_2,.int .i64 (wrap64 (a2+1))] rfl (by (try simp only [List.map_toArray,List.map_cons,List.map_nil]);first|done|rfl|(simp only [List.length_drop,List.length_take];rfl)) ?_;(with_reducible refine (ih k2 (by have:=HJ3.out;have:=HK2.out;omega) _ _ l0 x7_2 (wrap64 (a2+1)) t103 _ ?side1 ?side2 A14.out).mono ?_);(case side1=>repeat (first|exact HR0.out|(with_reducible refine Kd.C_alloc ?_ _)|(with_reducible refine Kd.C_drewN ?_ _)|(with_reducible refine Kd.C_drew ?_)));(case side2=>exact HC0.out);rintro e w' ⟨rfl,⟨nd,rfl⟩⟩;refine ⟨_,rfl,?_⟩))
          go_roundg k2
          case measure=>have:=HJ3.out;have:=HK2.out;omega
          case rel=>exact ⟨(t103),(wrap64 (x8_2+1)),(by first|rfl|(simp;done)|(simp [*];done)),(by first|rfl|(simp;done)|(simp [*];done)),H',⟨by have:=HJ3.out;have:=HK2.out;omega⟩,by repeat (first|exact Drawn0.refl _|apply Drawn0.step)⟩
         ·rw [if_neg c13] at H
          have c13b0:decide (0≤x7_2)=false:=decide_eq_false c13
          clear c13
          obtain rfl:=Option.some.inj H
          have p102:0≤(a1:Int):=of_decide_eq_true (by first|(with_reducible assumption)|assumption)
          have q102:a1<(l0.length:Int):=of_decide_eq_true (by first|(with_reducible assumption)|assumption)
          obtain ⟨ad102,A102_3,c102_3,A102_4,c102_4,A102_5,c102_5,A102_8,c102_8,A102_9,c102_9,e102,hx102_0,hx102_1,hx102_2,hx102_3,hx102_4,hx102_5,hx102_6,hx102_7,hx102_8,hx102_9,hl102_3,hi102_3,hl102_4,hi102_4,hl102_5,hi102_5,hl102_8,hi102_8,hl102_9,hi102_9⟩:=at_T44 HR0.out a1 p102 q102
          cases e102
          have HR102_3:=Ak hi102_3;have HC102_3:=Ak hl102_3;clear hi102_3 hl102_3;have HR102_4:=Ak hi102_4;have HC102_4:=Ak hl102_4;clear hi102_4 hl102_4;have HR102_5:=Ak hi102_5;have HC102_5:=Ak hl102_5;clear hi102_5 hl102_5;have HR102_8:=Ak hi102_8;have HC102_8:=Ak hl102_8;clear hi102_8 hl102_8;have HR102_9:=Ak hi102_9;have HC102_9:=Ak hl102_9;clear hi102_9 hl102_9
          replace p102:=eq_true p102
          replace q102:=eq_true q102
          go_wp2
          go_ret
          exact ⟨by first|rfl|(simp;done)|(simp [*];done),by repeat (first|exact Drawn0.refl _|apply Drawn0.step)⟩
        ·rw [if_neg c12] at H
         have c12b0:decide (x8_2<((rd_T44 l0 a1).f6))=false:=decide_eq_false c12
         clear c12
         obtain rfl:=Option.some.inj H
         have p102:0≤(a1:Int):=of_decide_eq_true (by first|(with_reducible assumption)|assumption)
         have q102:a1<(l0.length:Int):=of_decide_eq_true (by first|(with_reducible assumption)|assumption)
         obtain ⟨ad102,A102_3,c102_3,A102_4,c102_4,A102_5,c102_5,A102_8,c102_8,A102_9,c102_9,e102,hx102_0,hx102_1,hx102_2,hx102_3,hx102_4,hx102_5,hx102_6,hx102_7,hx102_8,hx102_9,hl102_3,hi102_3,hl102_4,hi102_4,hl102_5,hi102_5,hl102_8,hi102_8,hl102_9,hi102_9⟩:=at_T44 HR0.out a1 p102 q102
         cases e102
         have HR102_3:=Ak hi102_3;have HC102_3:=Ak hl102_3;clear hi102_3 hl102_3;have HR102_4:=Ak hi102_4;have HC102_4:=Ak hl102_4;clear hi102_4 hl102_4;have HR102_5:=Ak hi102_5;have HC102_5:=Ak hl102_5;clear hi102_5 hl102_5;have HR102_8:=Ak hi102_8;have HC102_8:=Ak hl102_8;clear hi102_8 hl102_8;have HR102_9:=Ak hi102_9;have HC102_9:=Ak hl102_9;clear hi102_9 hl102_9
         replace p102:=eq_true p102
         replace q102:=eq_true q102
         go_wp2
         go_ret
         exact ⟨by first|rfl|(simp;done)|(simp [*];done),by repeat (first|exact Drawn0.refl _|apply Drawn0.step)⟩
       ·rw [if_neg c11] at H
        exact absurd H (by simp)
      ·rw [if_neg c10] at H
       exact absurd H (by simp)
def spec_l2Plain.f (a0_0:Int) (a0_1:Int) (a0_2:ByteArray):Option (Bool):=if a0_0=3 then (if a0_1=0 then (some (decide ((a0_2.size:Int)≤1000))) else (some false)) else (if (a0_2.size:Int) > 0 then (some false) else (if a0_0=1 then (if a0_1=0 then (some true) else (some (a0_1 == 1))) else (if a0_0=2 then (some true) else (if a0_0=0 then (some (a0_1 == 0)) else (some false)))))
set_option maxHeartbeats 8000000 in
set_option maxRecDepth 100000 in
theorem spec_l2Plain.calls (a0_0:Int) (a0_1:Int) (a0_2:ByteArray) (r:Bool) (w:World) (h:spec_l2Plain.f a0_0 a0_1 a0_2=some r) :
  Calls Try.prog 55 #[.agg #[.int .i64 a0_0,.int .i64 a0_1,.string a0_2]] w fun e w'=>e=.returned (.bool r)∧Below w.heap.size w w':=by
 have hu85:=Try.underlying85
 have HB:=Ak (Below.refl w.heap.size w)
 have H:(if a0_0=3 then (if a0_1=0 then (some (decide ((a0_2.size:Int)≤1000))) else (some false)) else (if (a0_2.size:Int) > 0 then (some false) else (if a0_0=1 then (if a0_1=0 then (some true) else (some (a0_1 == 1))) else (if a0_0=2 then (some true) else (if a0_0=0 then (some (a0_1 == 0)) else (some false))))))=some r:=h
 clear h
 by_cases c2:a0_0=3
 ·rw [if_pos c2] at H
  have c2b0:(a0_0 == 3)=true:=beq_iff_eq.mpr c2
  have c2b1:(a0_0 != 3)=false:=bne_eq_false_iff_eq.mpr c2
  clear c2
  by_cases c3:a0_1=0
  ·rw [if_pos c3] at H
   have c3b0:(a0_1 == 0)=true:=beq_iff_eq.mpr c3
   have c3b1:(a0_1 != 0)=false:=bne_eq_false_iff_eq.mpr c3
   clear c3
   obtain rfl:=Option.some.inj H
   go_enter Try.func55,Try.ntmps55
   go_wp2_with (first|((with_reducible refine gate_dst (N:=1) rfl ?_);(try (refine gate_guard (by rfl) ?_;dsimp only));refine box_event ?hg (N:=1) ?hd (cs:=#[.int .i64 a0_0,.int .i64 a0_1,.string a0_2]) (t:=85) ?hr ?_;(case hd=>rfl);(case hg=>rfl);(case hr=>first|(go_simp;done)|(go_simp;rfl));intro gb104 hg w4 hbox hb;have n0_:=Ak (below_step (by repeat (first|(with_reducible first|exact HB.out|apply below_alloc|apply pw_below_drewN|apply below_drew1)|exact HB.out)) hb);have n1_:=Ak (hbox);have n2_:=Ak ((by rw [hg];exact (below_size (by repeat (first|(with_reducible first|exact HB.out|apply below_alloc|apply pw_below_drewN|apply below_drew1)|exact HB.out))):w.heap.size≤gb104));have n3_:=Ak ((by rw [hg];exact (below_size (by repeat (first|(with_reducible first|exact HB.out|apply below_alloc|apply pw_below_drewN|apply below_drew1)|exact HB.out))):w.heap.size≤gb104));clear HB;have HB:=n0_;have BK104:=n1_;have GW104:=n2_;have GE104:=n3_;clear n0_ n1_ n2_ n3_;clear hb hbox hg;obtain ⟨hcz5_0,hcz5_1,hcz5_2,hfz5_0,hfz5_1,hfz5_2⟩:=bk3 BK104.out))
   go_ret
   exact ⟨by first|rfl|(simp [errW_none,errW_some] <;> rfl)|(simp [*,errW_none,errW_some] <;> rfl),by repeat (first|(with_reducible first|exact HB.out|apply below_alloc|apply pw_below_drewN|apply below_drew1|refine below_set ?_ GE104.out)|exact HB.out)⟩
  ·rw [if_neg c3] at H
   have c3b0:(a0_1 == 0)=false:=beq_eq_false_iff_ne.mpr c3
   have c3b1:(a0_1 != 0)=true:=bne_iff_ne.mpr c3
   obtain rfl:=Option.some.inj H
   go_enter Try.func55,Try.ntmps55
   go_wp2_with (first|((with_reducible refine gate_dst (N:=1) rfl ?_);(try (refine gate_guard (by rfl) ?_;dsimp only));refine box_event ?hg (N:=1) ?hd (cs:=#[.int .i64 a0_0,.int .i64 a0_1,.string a0_2]) (t:=85) ?hr ?_;(case hd=>rfl);(case hg=>rfl);(case hr=>first|(go_simp;done)|(go_simp;rfl));intro gb104 hg w6 hbox hb;have n0_:=Ak (below_step (by repeat (first|(with_reducible first|exact HB.out|apply below_alloc|apply pw_below_drewN|apply below_drew1)|exact HB.out)) hb);have n1_:=Ak (hbox);have n2_:=Ak ((by rw [hg];exact (below_size (by repeat (first|(with_reducible first|exact HB.out|apply below_alloc|apply pw_below_drewN|apply below_drew1)|exact HB.out))):w.heap.size≤gb104));have n3_:=Ak ((by rw [hg];exact (below_size (by repeat (first|(with_reducible first|exact HB.out|apply below_alloc|apply pw_below_drewN|apply below_drew1)|exact HB.out))):w.heap.size≤gb104));clear HB;have HB:=n0_;have BK104:=n1_;have GW104:=n2_;have GE104:=n3_;clear n0_ n1_ n2_ n3_;clear hb hbox hg;obtain ⟨hcz7_0,hcz7_1,hcz7_2,hfz7_0,hfz7_1,hfz7_2⟩:=bk3 BK104.out))
   go_ret
   exact ⟨by first|rfl|(simp [errW_none,errW_some] <;> rfl)|(simp [*,errW_none,errW_some] <;> rfl),by repeat (first|(with_reducible first|exact HB.out|apply below_alloc|apply pw_below_drewN|apply below_drew1|refine below_set ?_ GE104.out)|exact HB.out)⟩
 ·rw [if_neg c2] at H
  have c2b0:(a0_0 == 3)=false:=beq_eq_false_iff_ne.mpr c2
  have c2b1:(a0_0 != 3)=true:=bne_iff_ne.mpr c2
  by_cases c8:(a0_2.size:Int) > 0
  ·rw [if_pos c8] at H
   have c8b0:decide (0<(a0_2.size:Int))=true:=decide_eq_true c8
   have c8b1:decide (0<a0_2.size)=true:=decide_eq_true (by omega)
   clear c8
   obtain rfl:=Option.some.inj H
   go_enter Try.func55,Try.ntmps55
   go_wp2_with (first|((with_reducible refine gate_dst (N:=1) rfl ?_);(try (refine gate_guard (by rfl) ?_;dsimp only));refine box_event ?hg (N:=1) ?hd (cs:=#[.int .i64 a0_0,.int .i64 a0_1,.string a0_2]) (t:=85) ?hr ?_;(case hd=>rfl);(case hg=>rfl);(case hr=>first|(go_simp;done)|(go_simp;rfl));intro gb104 hg w9 hbox hb;have n0_:=Ak (below_step (by repeat (first|(with_reducible first|exact HB.out|apply below_alloc|apply pw_below_drewN|apply below_drew1)|exact HB.out)) hb);have n1_:=Ak (hbox);have n2_:=Ak ((by rw [hg];exact (below_size (by repeat (first|(with_reducible first|exact HB.out|apply below_alloc|apply pw_below_drewN|apply below_drew1)|exact HB.out))):w.heap.size≤gb104));have n3_:=Ak ((by rw [hg];exact (below_size (by repeat (first|(with_reducible first|exact HB.out|apply below_alloc|apply pw_below_drewN|apply below_drew1)|exact HB.out))):w.heap.size≤gb104));clear HB;have HB:=n0_;have BK104:=n1_;have GW104:=n2_;have GE104:=n3_;clear n0_ n1_ n2_ n3_;clear hb hbox hg;obtain ⟨hcz10_0,hcz10_1,hcz10_2,hfz10_0,hfz10_1,hfz10_2⟩:=bk3 BK104.out))
   go_ret
   exact ⟨by first|rfl|(simp [errW_none,errW_some] <;> rfl)|(simp [*,errW_none,errW_some] <;> rfl),by repeat (first|(with_reducible first|exact HB.out|apply below_alloc|apply pw_below_drewN|apply below_drew1|refine below_set ?_ GE104.out)|exact HB.out)⟩
  ·rw [if_neg c8] at H
   have c8b0:decide (0<(a0_2.size:Int))=false:=decide_eq_false c8
   have c8b1:decide (0<a0_2.size)=false:=decide_eq_false (by omega)
   clear c8
   by_cases c11:a0_0=1
   ·rw [if_pos c11] at H
    have c11b0:(a0_0 == 1)=true:=beq_iff_eq.mpr c11
    have c11b1:(a0_0 != 1)=false:=bne_eq_false_iff_eq.mpr c11
    clear c11
    by_cases c12:a0_1=0
    ·rw [if_pos c12] at H
     have c12b0:(a0_1 == 0)=true:=beq_iff_eq.mpr c12
     have c12b1:(a0_1 != 0)=false:=bne_eq_false_iff_eq.mpr c12
     clear c12
     obtain rfl:=Option.some.inj H
     go_enter Try.func55,Try.ntmps55
     go_wp2_with (first|((with_reducible refine gate_dst (N:=1) rfl ?_);(try (refine gate_guard (by rfl) ?_;dsimp only));refine box_event ?hg (N:=1) ?hd (cs:=#[.int .i64 a0_0,.int .i64 a0_1,.string a0_2]) (t:=85) ?hr ?_;(case hd=>rfl);(case hg=>rfl);(case hr=>first|(go_simp;done)|(go_simp;rfl));intro gb104 hg w13 hbox hb;have n0_:=Ak (below_step (by repeat (first|(with_reducible first|exact HB.out|apply below_alloc|apply pw_below_drewN|apply below_drew1)|exact HB.out)) hb);have n1_:=Ak (hbox);have n2_:=Ak ((by rw [hg];exact (below_size (by repeat (first|(with_reducible first|exact HB.out|apply below_alloc|apply pw_below_drewN|apply below_drew1)|exact HB.out))):w.heap.size≤gb104));have n3_:=Ak ((by rw [hg];exact (below_size (by repeat (first|(with_reducible first|exact HB.out|apply below_alloc|apply pw_below_drewN|apply below_drew1)|exact HB.out))):w.heap.size≤gb104));clear HB;have HB:=n0_;have BK104:=n1_;have GW104:=n2_;have GE104:=n3_;clear n0_ n1_ n2_ n3_;clear hb hbox hg;obtain ⟨hcz14_0,hcz14_1,hcz14_2,hfz14_0,hfz14_1,hfz14_2⟩:=bk3 BK104.out))
     go_ret
     exact ⟨by first|rfl|(simp [errW_none,errW_some] <;> rfl)|(simp [*,errW_none,errW_some] <;> rfl),by repeat (first|(with_reducible first|exact HB.out|apply below_alloc|apply pw_below_drewN|apply below_drew1|refine below_set ?_ GE104.out)|exact HB.out)⟩
    ·rw [if_neg c12] at H
     have c12b0:(a0_1 == 0)=false:=beq_eq_false_iff_ne.mpr c12
     have c12b1:(a0_1 != 0)=true:=bne_iff_ne.mpr c12
     obtain rfl:=Option.some.inj H
     go_enter Try.func55,Try.ntmps55
     go_wp2_with (first|((with_reducible refine gate_dst (N:=1) rfl ?_);(try (refine gate_guard (by rfl) ?_;dsimp only));refine box_event ?hg (N:=1) ?hd (cs:=#[.int .i64 a0_0,.int .i64 a0_1,.string a0_2]) (t:=85) ?hr ?_;(case hd=>rfl);(case hg=>rfl);(case hr=>first|(go_simp;done)|(go_simp;rfl));intro gb104 hg w15 hbox hb;have n0_:=Ak (below_step (by repeat (first|(with_reducible first|exact HB.out|apply below_alloc|apply pw_below_drewN|apply below_drew1)|exact HB.out)) hb);have n1_:=Ak (hbox);have n2_:=Ak ((by rw [hg];exact (below_size (by repeat (first|(with_reducible first|exact HB.out|apply below_alloc|apply pw_below_drewN|apply below_drew1)|exact HB.out))):w.heap.size≤gb104));have n3_:=Ak ((by rw [hg];exact (below_size (by repeat (first|(with_reducible first|exact HB.out|apply below_alloc|apply pw_below_drewN|apply below_drew1)|exact HB.out))):w.heap.size≤gb104));clear HB;have HB:=n0_;have BK104:=n1_;have GW104:=n2_;have GE104:=n3_;clear n0_ n1_ n2_ n3_;clear hb hbox hg;obtain ⟨hcz16_0,hcz16_1,hcz16_2,hfz16_0,hfz16_1,hfz16_2⟩:=bk3 BK104.out))
     go_ret
     exact ⟨by first|rfl|(simp [errW_none,errW_some] <;> rfl)|(simp [*,errW_none,errW_some] <;> rfl),by repeat (first|(with_reducible first|exact HB.out|apply below_alloc|apply pw_below_drewN|apply below_drew1|refine below_set ?_ GE104.out)|exact HB.out)⟩
   ·rw [if_neg c11] at H
    have c11b0:(a0_0 == 1)=false:=beq_eq_false_iff_ne.mpr c11
    have c11b1:(a0_0 != 1)=true:=bne_iff_ne.mpr c11
    by_cases c17:a0_0=2
    ·rw [if_pos c17] at H
     have c17b0:(a0_0 == 2)=true:=beq_iff_eq.mpr c17
     have c17b1:(a0_0 != 2)=false:=bne_eq_false_iff_eq.mpr c17
     clear c17
     obtain rfl:=Option.some.inj H
     go_enter Try.func55,Try.ntmps55
     go_wp2_with (first|((with_reducible refine gate_dst (N:=1) rfl ?_);(try (refine gate_guard (by rfl) ?_;dsimp only));refine box_event ?hg (N:=1) ?hd (cs:=#[.int .i64 a0_0,.int .i64 a0_1,.string a0_2]) (t:=85) ?hr ?_;(case hd=>rfl);(case hg=>rfl);(case hr=>first|(go_simp;done)|(go_simp;rfl));intro gb104 hg w18 hbox hb;have n0_:=Ak (below_step (by repeat (first|(with_reducible first|exact HB.out|apply below_alloc|apply pw_below_drewN|apply below_drew1)|exact HB.out)) hb);have n1_:=Ak (hbox);have n2_:=Ak ((by rw [hg];exact (below_size (by repeat (first|(with_reducible first|exact HB.out|apply below_alloc|apply pw_below_drewN|apply below_drew1)|exact HB.out))):w.heap.size≤gb104));have n3_:=Ak ((by rw [hg];exact (below_size (by repeat (first|(with_reducible first|exact HB.out|apply below_alloc|apply pw_below_drewN|apply below_drew1)|exact HB.out))):w.heap.size≤gb104));clear HB;have HB:=n0_;have BK104:=n1_;have GW104:=n2_;have GE104:=n3_;clear n0_ n1_ n2_ n3_;clear hb hbox hg;obtain ⟨hcz19_0,hcz19_1,hcz19_2,hfz19_0,hfz19_1,hfz19_2⟩:=bk3 BK104.out))
     go_ret
     exact ⟨by first|rfl|(simp [errW_none,errW_some] <;> rfl)|(simp [*,errW_none,errW_some] <;> rfl),by repeat (first|(with_reducible first|exact HB.out|apply below_alloc|apply pw_below_drewN|apply below_drew1|refine below_set ?_ GE104.out)|exact HB.out)⟩
    ·rw [if_neg c17] at H
     have c17b0:(a0_0 == 2)=false:=beq_eq_false_iff_ne.mpr c17
     have c17b1:(a0_0 != 2)=true:=bne_iff_ne.mpr c17
     by_cases c20:a0_0=0
     ·rw [if_pos c20] at H
      have c20b0:(a0_0 == 0)=true:=beq_iff_eq.mpr c20
      have c20b1:(a0_0 != 0)=false:=bne_eq_false_iff_eq.mpr c20
      clear c20
      obtain rfl:=Option.some.inj H
      go_enter Try.func55,Try.ntmps55
      go_wp2_with (first|((with_reducible refine gate_dst (N:=1) rfl ?_);(try (refine gate_guard (by rfl) ?_;dsimp only));refine box_event ?hg (N:=1) ?hd (cs:=#[.int .i64 a0_0,.int .i64 a0_1,.string a0_2]) (t:=85) ?hr ?_;(case hd=>rfl);(case hg=>rfl);(case hr=>first|(go_simp;done)|(go_simp;rfl));intro gb104 hg w21 hbox hb;have n0_:=Ak (below_step (by repeat (first|(with_reducible first|exact HB.out|apply below_alloc|apply pw_below_drewN|apply below_drew1)|exact HB.out)) hb);have n1_:=Ak (hbox);have n2_:=Ak ((by rw [hg];exact (below_size (by repeat (first|(with_reducible first|exact HB.out|apply below_alloc|apply pw_below_drewN|apply below_drew1)|exact HB.out))):w.heap.size≤gb104));have n3_:=Ak ((by rw [hg];exact (below_size (by repeat (first|(with_reducible first|exact HB.out|apply below_alloc|apply pw_below_drewN|apply below_drew1)|exact HB.out))):w.heap.size≤gb104));clear HB;have HB:=n0_;have BK104:=n1_;have GW104:=n2_;have GE104:=n3_;clear n0_ n1_ n2_ n3_;clear hb hbox hg;obtain ⟨hcz22_0,hcz22_1,hcz22_2,hfz22_0,hfz22_1,hfz22_2⟩:=bk3 BK104.out))
      go_ret
      exact ⟨by first|rfl|(simp [errW_none,errW_some] <;> rfl)|(simp [*,errW_none,errW_some] <;> rfl),by repeat (first|(with_reducible first|exact HB.out|apply below_alloc|apply pw_below_drewN|apply below_drew1|refine below_set ?_ GE104.out)|exact HB.out)⟩
     ·rw [if_neg c20] at H
      have c20b0:(a0_0 == 0)=false:=beq_eq_false_iff_ne.mpr c20
      have c20b1:(a0_0 != 0)=true:=bne_iff_ne.mpr c20
      obtain rfl:=Option.some.inj H
      go_enter Try.func55,Try.ntmps55
      go_wp2_with (first|((with_reducible refine gate_dst (N:=1) rfl ?_);(try (refine gate_guard (by rfl) ?_;dsimp only));refine box_event ?hg (N:=1) ?hd (cs:=#[.int .i64 a0_0,.int .i64 a0_1,.string a0_2]) (t:=85) ?hr ?_;(case hd=>rfl);(case hg=>rfl);(case hr=>first|(go_simp;done)|(go_simp;rfl));intro gb104 hg w23 hbox hb;have n0_:=Ak (below_step (by repeat (first|(with_reducible first|exact HB.out|apply below_alloc|apply pw_below_drewN|apply below_drew1)|exact HB.out)) hb);have n1_:=Ak (hbox);have n2_:=Ak ((by rw [hg];exact (below_size (by repeat (first|(with_reducible first|exact HB.out|apply below_alloc|apply pw_below_drewN|apply below_drew1)|exact HB.out))):w.heap.size≤gb104));have n3_:=Ak ((by rw [hg];exact (below_size (by repeat (first|(with_reducible first|exact HB.out|apply below_alloc|apply pw_below_drewN|apply below_drew1)|exact HB.out))):w.heap.size≤gb104));clear HB;have HB:=n0_;have BK104:=n1_;have GW104:=n2_;have GE104:=n3_;clear n0_ n1_ n2_ n3_;clear hb hbox hg;obtain ⟨hcz24_0,hcz24_1,hcz24_2,hfz24_0,hfz24_1,hfz24_2⟩:=bk3 BK104.out))
      go_ret
      exact ⟨by first|rfl|(simp [errW_none,errW_some] <;> rfl)|(simp [*,errW_none,errW_some] <;> rfl),by repeat (first|(with_reducible first|exact HB.out|apply below_alloc|apply pw_below_drewN|apply below_drew1|refine below_set ?_ GE104.out)|exact HB.out)⟩
def spec_l2NumOk.f (a0:Int):Option (Bool):=if a0 ≥ 0 then (some (decide (a0≤16777215))) else (some false)
set_option maxHeartbeats 8000000 in
set_option maxRecDepth 100000 in
theorem spec_l2NumOk.calls (a0:Int) (r:Bool) (w:World) (h:spec_l2NumOk.f a0=some r) :
  Calls Try.prog 56 #[.int .i64 a0] w fun e w'=>e=.returned (.bool r)∧Drawn0 w w':=by
 have H:(if a0 ≥ 0 then (some (decide (a0≤16777215))) else (some false))=some r:=h
 clear h
 by_cases c2:a0 ≥ 0
 ·rw [if_pos c2] at H
  have c2b0:decide (0≤a0)=true:=decide_eq_true c2
  clear c2
  obtain rfl:=Option.some.inj H
  go_enter Try.func56,Try.ntmps56
  go_wp2
  go_ret
  exact ⟨by first|rfl|(simp;done)|(simp [*];done),by repeat (first|exact Drawn0.refl _|apply Drawn0.step)⟩
 ·rw [if_neg c2] at H
  have c2b0:decide (0≤a0)=false:=decide_eq_false c2
  clear c2
  obtain rfl:=Option.some.inj H
  go_enter Try.func56,Try.ntmps56
  go_wp2
  go_ret
  exact ⟨by first|rfl|(simp;done)|(simp [*];done),by repeat (first|exact Drawn0.refl _|apply Drawn0.step)⟩
end Go.Proofs.Ytiekodnojmkfaaa.PFnEnds
