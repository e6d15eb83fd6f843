-- Printed by the kit's print or by this session's program, then cut and tightened by it.
import Derived.Test.YtiekodnojmkfaaaPFnEndsx0
import Derived.Test.YtiekodnojmkfaaaPFnEndsx2
namespace Go.Proofs.Ytiekodnojmkfaaa.PFnEnds
open Go.RowKit Go.Proofs.YtiekodnojmkfaaaW.PrintWords Go.Proofs.YtiekodnojmkfaaaW.PrintLast Go.Proofs.YtiekodnojmkfaaaW.PrintMore
attribute [local go_sem] max2_int min2_int max_two min_two max_three min_three max_four min_four   -- for this text's walks alone
set_option linter.unusedVariables false
set_option linter.unusedSimpArgs false
mutual
def spec_l2ProtoOk.j0:Nat→Bool→Int→Bool→Int→List Int→List (S85)→List (S89)→Int→ByteArray→List Int→List ByteArray→Option (Bool)
 | 0,_,_,_,_,_,_,_,_,_,_,_=>none
 | k+1,x38,x106000,x106001,x106002,x106003,x106004,x106005,x106006,x106007,x106008,x106009=>if x38=true then (some false) else (if (x106004.length:Int) > 500 then (spec_l2ProtoOk.j1 k true x106000 x106001 x106002 x106003 x106004 x106005 x106006 x106007 x106008 x106009) else (if (x106005.length:Int) > 60 then (spec_l2ProtoOk.j1 k true x106000 x106001 x106002 x106003 x106004 x106005 x106006 x106007 x106008 x106009) else (spec_l2ProtoOk.j1 k (decide ((x106007.size:Int) > 1000)) x106000 x106001 x106002 x106003 x106004 x106005 x106006 x106007 x106008 x106009)))
def spec_l2ProtoOk.j1:Nat→Bool→Int→Bool→Int→List Int→List (S85)→List (S89)→Int→ByteArray→List Int→List ByteArray→Option (Bool)
 | 0,_,_,_,_,_,_,_,_,_,_,_=>none
 | k+1,x54,x106000,x106001,x106002,x106003,x106004,x106005,x106006,x106007,x106008,x106009=>if x54=true then (some false) else (if (x106008.length:Int) > 0 then (if (x106008.length:Int)=(x106003.length:Int) then (if (x106009.length:Int) > 0 then (spec_l2ProtoOk.j2 k ((x106009.length:Int) != (x106005.length:Int)) x106000 x106001 x106002 x106003 x106004 x106005 x106006 x106007 x106008 x106009) else (spec_l2ProtoOk.j2 k false x106000 x106001 x106002 x106003 x106004 x106005 x106006 x106007 x106008 x106009)) else (spec_l2ProtoOk.j2 k true x106000 x106001 x106002 x106003 x106004 x106005 x106006 x106007 x106008 x106009)) else (if (x106009.length:Int) > 0 then (spec_l2ProtoOk.j2 k ((x106009.length:Int) != (x106005.length:Int)) x106000 x106001 x106002 x106003 x106004 x106005 x106006 x106007 x106008 x106009) else (spec_l2ProtoOk.j2 k false x106000 x106001 x106002 x106003 x106004 x106005 x106006 x106007 x106008 x106009)))
def spec_l2ProtoOk.j2:Nat→Bool→Int→Bool→Int→List Int→List (S85)→List (S89)→Int→ByteArray→List Int→List ByteArray→Option (Bool)
 | 0,_,_,_,_,_,_,_,_,_,_,_=>none
 | k+1,x82,x106000,x106001,x106002,x106003,x106004,x106005,x106006,x106007,x106008,x106009=>if x82=true then (some false) else (spec_l2ProtoOk.l0 k 0 x106000 x106001 x106002 x106003 x106004 x106005 x106006 x106007 x106008 x106009)
def spec_l2ProtoOk.l0:Nat→Int→Int→Bool→Int→List Int→List (S85)→List (S89)→Int→ByteArray→List Int→List ByteArray→Option (Bool)
 | 0,_,_,_,_,_,_,_,_,_,_,_=>none
 | k+1,x3,x106000,x106001,x106002,x106003,x106004,x106005,x106006,x106007,x106008,x106009=>if x3<(x106004.length:Int) then (if 0≤x3 then ((spec_l2Plain.f ((rd_T85 x106004 x3).f0) ((rd_T85 x106004 x3).f1) ((rd_T85 x106004 x3).f2)).bind fun t107=>(if t107=true then (spec_l2ProtoOk.l0 k (wrap64 (x3+1)) x106000 x106001 x106002 x106003 x106004 x106005 x106006 x106007 x106008 x106009) else (some false))) else (none)) else (spec_l2ProtoOk.l1 k 0 x106000 x106001 x106002 x106003 x106004 x106005 x106006 x106007 x106008 x106009)
def spec_l2ProtoOk.l1:Nat→Int→Int→Bool→Int→List Int→List (S85)→List (S89)→Int→ByteArray→List Int→List ByteArray→Option (Bool)
 | 0,_,_,_,_,_,_,_,_,_,_,_=>none
 | k+1,x4,x106000,x106001,x106002,x106003,x106004,x106005,x106006,x106007,x106008,x106009=>if x4<(x106005.length:Int) then (if 0≤x4 then ((spec_l2NumOk.f ((rd_T89 x106005 x4).f1)).bind fun t109=>(if t109=true then (spec_l2ProtoOk.l1 k (wrap64 (x4+1)) x106000 x106001 x106002 x106003 x106004 x106005 x106006 x106007 x106008 x106009) else (some false))) else (none)) else (spec_l2ProtoOk.l2 k 0 x106000 x106001 x106002 x106003 x106004 x106005 x106006 x106007 x106008 x106009)
def spec_l2ProtoOk.l2:Nat→Int→Int→Bool→Int→List Int→List (S85)→List (S89)→Int→ByteArray→List Int→List ByteArray→Option (Bool)
 | 0,_,_,_,_,_,_,_,_,_,_,_=>none
 | k+1,x5,x106000,x106001,x106002,x106003,x106004,x106005,x106006,x106007,x106008,x106009=>if x5<(x106008.length:Int) then (if 0≤x5 then ((spec_l2NumOk.f (rd x106008 x5)).bind fun t111=>(if t111=true then (spec_l2ProtoOk.l2 k (wrap64 (x5+1)) x106000 x106001 x106002 x106003 x106004 x106005 x106006 x106007 x106008 x106009) else (some false))) else (none)) else (spec_l2ProtoOk.l3 k 0 x106000 x106001 x106002 x106003 x106004 x106005 x106006 x106007 x106008 x106009)
def spec_l2ProtoOk.l3:Nat→Int→Int→Bool→Int→List Int→List (S85)→List (S89)→Int→ByteArray→List Int→List ByteArray→Option (Bool)
 | 0,_,_,_,_,_,_,_,_,_,_,_=>none
 | k+1,x6,x106000,x106001,x106002,x106003,x106004,x106005,x106006,x106007,x106008,x106009=>if x6<(x106009.length:Int) then (if 0≤x6 then (if ((rdOf ByteArray.empty x106009 x6).size:Int) > 1000 then (some false) else (spec_l2ProtoOk.l3 k (wrap64 (x6+1)) x106000 x106001 x106002 x106003 x106004 x106005 x106006 x106007 x106008 x106009)) else (none)) else (some true)
end
def spec_l2ProtoOk.f (k:Nat) (a0_0:Int) (a0_1:Bool) (a0_2:Int) (l0_3:List Int) (l0_4:List (S85)) (l0_5:List (S89)) (a0_6:Int) (a0_7:ByteArray) (l0_8:List Int) (l0_9:List ByteArray):Option (Bool):=if a0_2<1 then (spec_l2ProtoOk.j0 k true a0_0 a0_1 a0_2 l0_3 l0_4 l0_5 a0_6 a0_7 l0_8 l0_9) else (if a0_2 > 250 then (spec_l2ProtoOk.j0 k true a0_0 a0_1 a0_2 l0_3 l0_4 l0_5 a0_6 a0_7 l0_8 l0_9) else (if a0_0<0 then (spec_l2ProtoOk.j0 k true a0_0 a0_1 a0_2 l0_3 l0_4 l0_5 a0_6 a0_7 l0_8 l0_9) else (if a0_0 > a0_2 then (spec_l2ProtoOk.j0 k true a0_0 a0_1 a0_2 l0_3 l0_4 l0_5 a0_6 a0_7 l0_8 l0_9) else (if (l0_3.length:Int)<1 then (spec_l2ProtoOk.j0 k true a0_0 a0_1 a0_2 l0_3 l0_4 l0_5 a0_6 a0_7 l0_8 l0_9) else (spec_l2ProtoOk.j0 k (decide ((l0_3.length:Int) > 2000)) a0_0 a0_1 a0_2 l0_3 l0_4 l0_5 a0_6 a0_7 l0_8 l0_9)))))
set_option maxHeartbeats 8000000 in
set_option maxRecDepth 100000 in
theorem spec_l2ProtoOk.calls (k:Nat) (a0_0:Int) (a0_1:Bool) (a0_2:Int) (A0_3:Option Addr) (c0_3:Nat) (l0_3:List Int) (A0_4:Option Addr) (c0_4:Nat) (l0_4:List (S85)) (A0_5:Option Addr) (c0_5:Nat) (l0_5:List (S89)) (a0_6:Int) (a0_7:ByteArray) (A0_8:Option Addr) (c0_8:Nat) (l0_8:List Int) (A0_9:Option Addr) (c0_9:Nat) (l0_9:List ByteArray) (r:Bool) (w:World) (hr0_3:Kd.C (Kd.int .u32) w A0_3 l0_3.length l0_3) (hc0_3:l0_3.length≤c0_3) (hr0_4:Kd.C k85 w A0_4 l0_4.length l0_4) (hc0_4:l0_4.length≤c0_4) (hr0_5:Kd.C k89 w A0_5 l0_5.length l0_5) (hc0_5:l0_5.length≤c0_5) (hr0_8:Kd.C (Kd.int .i64) w A0_8 l0_8.length l0_8) (hc0_8:l0_8.length≤c0_8) (hr0_9:Kd.C Kd.string w A0_9 l0_9.length l0_9) (hc0_9:l0_9.length≤c0_9) (h:spec_l2ProtoOk.f k a0_0 a0_1 a0_2 l0_3 l0_4 l0_5 a0_6 a0_7 l0_8 l0_9=some r) :
  Calls Try.prog 24 #[.agg #[.int .i64 a0_0,.bool a0_1,.int .i64 a0_2,.slice A0_3 l0_3.length c0_3,.slice A0_4 l0_4.length c0_4,.slice A0_5 l0_5.length c0_5,.int .i64 a0_6,.string a0_7,.slice A0_8 l0_8.length c0_8,.slice A0_9 l0_9.length c0_9]] w fun e w'=>e=.returned (.bool r)∧Below w.heap.size w w':=by
 have hu44:=Try.underlying44
 have hu85:=Try.underlying85
 have HR0_3:=Ak hr0_3;have HC0_3:=Ak hc0_3;clear hr0_3 hc0_3;have HR0_4:=Ak hr0_4;have HC0_4:=Ak hc0_4;clear hr0_4 hc0_4;have HR0_5:=Ak hr0_5;have HC0_5:=Ak hc0_5;clear hr0_5 hc0_5;have HR0_8:=Ak hr0_8;have HC0_8:=Ak hc0_8;clear hr0_8 hc0_8;have HR0_9:=Ak hr0_9;have HC0_9:=Ak hc0_9;clear hr0_9 hc0_9
 have HB:=Ak (Below.refl w.heap.size w)
 have H:(if a0_2<1 then (spec_l2ProtoOk.j0 k true a0_0 a0_1 a0_2 l0_3 l0_4 l0_5 a0_6 a0_7 l0_8 l0_9) else (if a0_2 > 250 then (spec_l2ProtoOk.j0 k true a0_0 a0_1 a0_2 l0_3 l0_4 l0_5 a0_6 a0_7 l0_8 l0_9) else (if a0_0<0 then (spec_l2ProtoOk.j0 k true a0_0 a0_1 a0_2 l0_3 l0_4 l0_5 a0_6 a0_7 l0_8 l0_9) else (if a0_0 > a0_2 then (spec_l2ProtoOk.j0 k true a0_0 a0_1 a0_2 l0_3 l0_4 l0_5 a0_6 a0_7 l0_8 l0_9) else (if (l0_3.length:Int)<1 then (spec_l2ProtoOk.j0 k true a0_0 a0_1 a0_2 l0_3 l0_4 l0_5 a0_6 a0_7 l0_8 l0_9) else (spec_l2ProtoOk.j0 k (decide ((l0_3.length:Int) > 2000)) a0_0 a0_1 a0_2 l0_3 l0_4 l0_5 a0_6 a0_7 l0_8 l0_9))))))=some r:=h
 clear h;have HC2:=Ak H;clear H
 go_enter Try.func24,Try.ntmps24
 go_upto_region 1 with (first|((with_reducible refine gate_dst (N:=1) rfl ?_);(try (refine gate_guard (by rfl) ?_;dsimp only));refine box_event ?hg (N:=1) ?hd (cs:=#[.int .i64 a0_0,.bool a0_1,.int .i64 a0_2,.slice A0_3 l0_3.length c0_3,.slice A0_4 l0_4.length c0_4,.slice A0_5 l0_5.length c0_5,.int .i64 a0_6,.string a0_7,.slice A0_8 l0_8.length c0_8,.slice A0_9 l0_9.length c0_9]) (t:=44) ?hr ?_;(case hd=>rfl);(case hg=>rfl);(case hr=>first|(go_simp;done)|(go_simp;rfl));intro gb105 hg w3 hbox hb;have n0_:=Ak (below_step (by repeat (first|(with_reducible first|exact HB.out|apply below_alloc|apply pw_below_drewN|apply below_drew1)|exact HB.out)) hb);have n1_:=Ak (hbox);have n2_:=Ak ((by rw [hg];exact (below_size (by repeat (first|(with_reducible first|exact HB.out|apply below_alloc|apply pw_below_drewN|apply below_drew1)|exact HB.out))):w.heap.size≤gb105));have n3_:=Ak ((by rw [hg];exact (below_size (by repeat (first|(with_reducible first|exact HB.out|apply below_alloc|apply pw_below_drewN|apply below_drew1)|exact HB.out))):w.heap.size≤gb105));clear HB;have HB:=n0_;have BK105:=n1_;have GW105:=n2_;have GE105:=n3_;clear n0_ n1_ n2_ n3_;clear hb hbox hg))
 (try simp only [Act.put,List.setIfInBounds_toArray,List.set_cons_zero,List.set_cons_succ])
 go_cut [38] (fun v38 wc=>∃ (kq:Nat) (x38_1:Bool),v38=.bool x38_1∧Aside0 (spec_l2ProtoOk.j0 kq x38_1 a0_0 a0_1 a0_2 l0_3 l0_4 l0_5 a0_6 a0_7 l0_8 l0_9=some r)∧Aside0 (kq≤k)∧Aside0 (wc.heap[gb105]?=some (.cells #[.int .i64 a0_0,.bool a0_1,.int .i64 a0_2,(.slice A0_3 l0_3.length c0_3),(.slice A0_4 l0_4.length c0_4),(.slice A0_5 l0_5.length c0_5),.int .i64 a0_6,.string a0_7,(.slice A0_8 l0_8.length c0_8),(.slice A0_9 l0_9.length c0_9)] 44 (0,0)))∧Aside0 (Below w.heap.size w wc))
 case first =>
  have H:=HC2.out
  clear HC2
  by_cases c4:a0_2<1
  ·rw [if_pos c4] at H
   have c4b0:decide (a0_2<1)=true:=decide_eq_true c4
   clear c4
   (first|rw [c4b0]|(simp only [i64_w,i32_w];rw [c4b0])|skip)
   have H':=Ak H
   clear H
   obtain ⟨hcz5_0,hcz5_1,hcz5_2,hcz5_3,hcz5_4,hcz5_5,hcz5_6,hcz5_7,hcz5_8,hcz5_9,hfz5_0,hfz5_1,hfz5_2,hfz5_3,hfz5_4,hfz5_5,hfz5_6,hfz5_7,hfz5_8,hfz5_9⟩:=bk10 BK105.out
   go_wp2
   go_meet
   case rel=>exact ⟨_,(true),(by first|rfl|(simp;done)|(simp [*];done)),H',⟨by first|omega|exact Nat.le_refl _⟩,⟨by (with_reducible repeat (first|refine blk_drewN ?_ _|refine blk_drew ?_|refine blk_alloc ?_ _));exact BK105.out⟩,⟨by repeat (first|(with_reducible first|exact HB.out|apply below_alloc|apply pw_below_drewN|apply below_drew1|refine below_set ?_ GE105.out)|exact HB.out)⟩⟩
  ·rw [if_neg c4] at H
   have c4b0:decide (a0_2<1)=false:=decide_eq_false c4
   clear c4
   (first|rw [c4b0]|(simp only [i64_w,i32_w];rw [c4b0])|skip)
   by_cases c6:a0_2 > 250
   ·rw [if_pos c6] at H
    have c6b0:decide (250<a0_2)=true:=decide_eq_true c6
    clear c6
    have H':=Ak H
    clear H
    obtain ⟨hcz7_0,hcz7_1,hcz7_2,hcz7_3,hcz7_4,hcz7_5,hcz7_6,hcz7_7,hcz7_8,hcz7_9,hfz7_0,hfz7_1,hfz7_2,hfz7_3,hfz7_4,hfz7_5,hfz7_6,hfz7_7,hfz7_8,hfz7_9⟩:=bk10 BK105.out
    go_wp2
    go_meet
    case rel=>exact ⟨_,(true),(by first|rfl|(simp;done)|(simp [*];done)),H',⟨by first|omega|exact Nat.le_refl _⟩,⟨by (with_reducible repeat (first|refine blk_drewN ?_ _|refine blk_drew ?_|refine blk_alloc ?_ _));exact BK105.out⟩,⟨by repeat (first|(with_reducible first|exact HB.out|apply below_alloc|apply pw_below_drewN|apply below_drew1|refine below_set ?_ GE105.out)|exact HB.out)⟩⟩
   ·rw [if_neg c6] at H
    have c6b0:decide (250<a0_2)=false:=decide_eq_false c6
    clear c6
    by_cases c8:a0_0<0
    ·rw [if_pos c8] at H
     have c8b0:decide (a0_0<0)=true:=decide_eq_true c8
     clear c8
     have H':=Ak H
     clear H
     obtain ⟨hcz9_0,hcz9_1,hcz9_2,hcz9_3,hcz9_4,hcz9_5,hcz9_6,hcz9_7,hcz9_8,hcz9_9,hfz9_0,hfz9_1,hfz9_2,hfz9_3,hfz9_4,hfz9_5,hfz9_6,hfz9_7,hfz9_8,hfz9_9⟩:=bk10 BK105.out
     go_wp2
     go_meet
     case rel=>exact ⟨_,(true),(by first|rfl|(simp;done)|(simp [*];done)),H',⟨by first|omega|exact Nat.le_refl _⟩,⟨by (with_reducible repeat (first|refine blk_drewN ?_ _|refine blk_drew ?_|refine blk_alloc ?_ _));exact BK105.out⟩,⟨by repeat (first|(with_reducible first|exact HB.out|apply below_alloc|apply pw_below_drewN|apply below_drew1|refine below_set ?_ GE105.out)|exact HB.out)⟩⟩
    ·rw [if_neg c8] at H
     have c8b0:decide (a0_0<0)=false:=decide_eq_false c8
     clear c8
     by_cases c10:a0_0 > a0_2
     ·rw [if_pos c10] at H
      have c10b0:decide (a0_2<a0_0)=true:=decide_eq_true c10
      clear c10
      have H':=Ak H
      clear H
      obtain ⟨hcz11_0,hcz11_1,hcz11_2,hcz11_3,hcz11_4,hcz11_5,hcz11_6,hcz11_7,hcz11_8,hcz11_9,hfz11_0,hfz11_1,hfz11_2,hfz11_3,hfz11_4,hfz11_5,hfz11_6,hfz11_7,hfz11_8,hfz11_9⟩:=bk10 BK105.out
      go_wp2
      go_meet
      case rel=>exact ⟨_,(true),(by first|rfl|(simp;done)|(simp [*];done)),H',⟨by first|omega|exact Nat.le_refl _⟩,⟨by (with_reducible repeat (first|refine blk_drewN ?_ _|refine blk_drew ?_|refine blk_alloc ?_ _));exact BK105.out⟩,⟨by repeat (first|(with_reducible first|exact HB.out|apply below_alloc|apply pw_below_drewN|apply below_drew1|refine below_set ?_ GE105.out)|exact HB.out)⟩⟩
     ·rw [if_neg c10] at H
      have c10b0:decide (a0_2<a0_0)=false:=decide_eq_false c10
      clear c10
      by_cases c12:(l0_3.length:Int)<1
      ·rw [if_pos c12] at H
       have c12b0:decide ((l0_3.length:Int)<1)=true:=decide_eq_true c12
       have c12b1:decide (l0_3.length<1)=true:=decide_eq_true (by omega)
       clear c12
       have H':=Ak H
       clear H
       obtain ⟨hcz13_0,hcz13_1,hcz13_2,hcz13_3,hcz13_4,hcz13_5,hcz13_6,hcz13_7,hcz13_8,hcz13_9,hfz13_0,hfz13_1,hfz13_2,hfz13_3,hfz13_4,hfz13_5,hfz13_6,hfz13_7,hfz13_8,hfz13_9⟩:=bk10 BK105.out
       go_wp2
       go_meet
       case rel=>exact ⟨_,(true),(by first|rfl|(simp;done)|(simp [*];done)),H',⟨by first|omega|exact Nat.le_refl _⟩,⟨by (with_reducible repeat (first|refine blk_drewN ?_ _|refine blk_drew ?_|refine blk_alloc ?_ _));exact BK105.out⟩,⟨by repeat (first|(with_reducible first|exact HB.out|apply below_alloc|apply pw_below_drewN|apply below_drew1|refine below_set ?_ GE105.out)|exact HB.out)⟩⟩
      ·rw [if_neg c12] at H
       have c12b0:decide ((l0_3.length:Int)<1)=false:=decide_eq_false c12
       have c12b1:decide (l0_3.length<1)=false:=decide_eq_false (by omega)
       clear c12
       have H':=Ak H
       clear H
       obtain ⟨hcz14_0,hcz14_1,hcz14_2,hcz14_3,hcz14_4,hcz14_5,hcz14_6,hcz14_7,hcz14_8,hcz14_9,hfz14_0,hfz14_1,hfz14_2,hfz14_3,hfz14_4,hfz14_5,hfz14_6,hfz14_7,hfz14_8,hfz14_9⟩:=bk10 BK105.out
       go_wp2
       go_meet
       case rel=>exact ⟨_,(decide ((l0_3.length:Int) > 2000)),(by first|rfl|(simp;done)|(simp [*];done)),H',⟨by first|omega|exact Nat.le_refl _⟩,⟨by (with_reducible repeat (first|refine blk_drewN ?_ _|refine blk_drew ?_|refine blk_alloc ?_ _));exact BK105.out⟩,⟨by repeat (first|(with_reducible first|exact HB.out|apply below_alloc|apply pw_below_drewN|apply below_drew1|refine below_set ?_ GE105.out)|exact HB.out)⟩⟩
 case rest =>
  clear HC2;(try clear c1);(try clear c2);(try clear p2);(try clear c4);(try clear c4b0);(try clear c6);(try clear c6b0);(try clear c8);(try clear c8b0);(try clear c10);(try clear c10b0);(try clear c12);(try clear c12b0);(try clear c12b1);(try clear hcz11_0);(try clear hcz11_1);(try clear hcz11_2);(try clear hcz11_3);(try clear hcz11_4);(try clear hcz11_5);(try clear hcz11_6)
  (try clear hcz11_7);(try clear hcz11_8);(try clear hcz11_9);(try clear hcz13_0);(try clear hcz13_1);(try clear hcz13_2);(try clear hcz13_3);(try clear hcz13_4);(try clear hcz13_5);(try clear hcz13_6);(try clear hcz13_7);(try clear hcz13_8);(try clear hcz13_9);(try clear hcz14_0);(try clear hcz14_1);(try clear hcz14_2);(try clear hcz14_3);(try clear hcz14_4);(try clear hcz14_5)
  (try clear hcz14_6);(try clear hcz14_7);(try clear hcz14_8);(try clear hcz14_9);(try clear hcz5_0);(try clear hcz5_1);(try clear hcz5_2);(try clear hcz5_3);(try clear hcz5_4);(try clear hcz5_5);(try clear hcz5_6);(try clear hcz5_7);(try clear hcz5_8);(try clear hcz5_9);(try clear hcz7_0);(try clear hcz7_1);(try clear hcz7_2);(try clear hcz7_3);(try clear hcz7_4);(try clear hcz7_5)
  (try clear hcz7_6);(try clear hcz7_7);(try clear hcz7_8);(try clear hcz7_9);(try clear hcz9_0);(try clear hcz9_1);(try clear hcz9_2);(try clear hcz9_3);(try clear hcz9_4);(try clear hcz9_5);(try clear hcz9_6);(try clear hcz9_7);(try clear hcz9_8);(try clear hcz9_9);(try clear hfz11_0);(try clear hfz11_1);(try clear hfz11_2);(try clear hfz11_3);(try clear hfz11_4);(try clear hfz11_5)
  (try clear hfz11_6);(try clear hfz11_7);(try clear hfz11_8);(try clear hfz11_9);(try clear hfz13_0);(try clear hfz13_1);(try clear hfz13_2);(try clear hfz13_3);(try clear hfz13_4);(try clear hfz13_5);(try clear hfz13_6);(try clear hfz13_7);(try clear hfz13_8);(try clear hfz13_9);(try clear hfz14_0);(try clear hfz14_1);(try clear hfz14_2);(try clear hfz14_3);(try clear hfz14_4)
  (try clear hfz14_5);(try clear hfz14_6);(try clear hfz14_7);(try clear hfz14_8);(try clear hfz14_9);(try clear hfz5_0);(try clear hfz5_1);(try clear hfz5_2);(try clear hfz5_3);(try clear hfz5_4);(try clear hfz5_5);(try clear hfz5_6);(try clear hfz5_7);(try clear hfz5_8);(try clear hfz5_9);(try clear hfz7_0);(try clear hfz7_1);(try clear hfz7_2);(try clear hfz7_3);(try clear hfz7_4)
  (try clear hfz7_5);(try clear hfz7_6);(try clear hfz7_7);(try clear hfz7_8);(try clear hfz7_9);(try clear hfz9_0);(try clear hfz9_1);(try clear hfz9_2);(try clear hfz9_3);(try clear hfz9_4);(try clear hfz9_5);(try clear hfz9_6);(try clear hfz9_7);(try clear hfz9_8);(try clear hfz9_9)
  obtain ⟨kq,x38_1,rfl,HA,HJ1,BK105,HB⟩:=hcut
  cases kq with
  | zero=>exact absurd HA.out (by simp [spec_l2ProtoOk.j0])
  | succ kj1 =>
   have H:=HA.out
   clear HA
   simp only [spec_l2ProtoOk.j0] at H
   by_cases c15:x38_1=true
   ·subst c15
    have H1:(some false)=some r:=by rw [if_pos rfl] at H;exact H
    clear H;have H:=H1;clear H1
    obtain rfl:=Option.some.inj H
    go_wp2
    go_ret
    exact ⟨by first|rfl|(simp [errW_none,errW_some] <;> rfl)|(simp [*,errW_none,errW_some] <;> rfl),by repeat (first|(with_reducible first|exact HB.out|apply below_alloc|apply pw_below_drewN|apply below_drew1|refine below_set ?_ GE105.out)|exact HB.out)⟩
   ·replace c15:=Bool.eq_false_iff.mpr c15
    subst c15
    have H1:(if (l0_4.length:Int) > 500 then (spec_l2ProtoOk.j1 kj1 true a0_0 a0_1 a0_2 l0_3 l0_4 l0_5 a0_6 a0_7 l0_8 l0_9) else (if (l0_5.length:Int) > 60 then (spec_l2ProtoOk.j1 kj1 true a0_0 a0_1 a0_2 l0_3 l0_4 l0_5 a0_6 a0_7 l0_8 l0_9) else (spec_l2ProtoOk.j1 kj1 (decide ((a0_7.size:Int) > 1000)) a0_0 a0_1 a0_2 l0_3 l0_4 l0_5 a0_6 a0_7 l0_8 l0_9)))=some r:=by rw [if_neg (show ¬ (false=true) by decide)] at H;exact H
    clear H;have H:=H1;clear H1;have HC16:=Ak H;clear H
    go_upto_region 3 with (fail)
    go_cut [54] (fun v54 wc=>∃ (kq:Nat) (x54_15:Bool),v54=.bool x54_15∧Aside0 (spec_l2ProtoOk.j1 kq x54_15 a0_0 a0_1 a0_2 l0_3 l0_4 l0_5 a0_6 a0_7 l0_8 l0_9=some r)∧Aside0 (kq≤kj1)∧Aside0 (wc.heap[gb105]?=some (.cells #[.int .i64 a0_0,.bool a0_1,.int .i64 a0_2,(.slice A0_3 l0_3.length c0_3),(.slice A0_4 l0_4.length c0_4),(.slice A0_5 l0_5.length c0_5),.int .i64 a0_6,.string a0_7,(.slice A0_8 l0_8.length c0_8),(.slice A0_9 l0_9.length c0_9)] 44 (0,0)))∧Aside0 (Below w.heap.size w wc))
    case first =>
     have H:=HC16.out
     clear HC16
     by_cases c17:(l0_4.length:Int) > 500
     ·rw [if_pos c17] at H
      have c17b0:decide (500<(l0_4.length:Int))=true:=decide_eq_true c17
      have c17b1:decide (500<l0_4.length)=true:=decide_eq_true (by omega)
      clear c17
      (first|rw [c17b0]|(simp only [i64_w,i32_w];rw [c17b0])|skip)
      have H':=Ak H
      clear H
      obtain ⟨hcz18_0,hcz18_1,hcz18_2,hcz18_3,hcz18_4,hcz18_5,hcz18_6,hcz18_7,hcz18_8,hcz18_9,hfz18_0,hfz18_1,hfz18_2,hfz18_3,hfz18_4,hfz18_5,hfz18_6,hfz18_7,hfz18_8,hfz18_9⟩:=bk10 BK105.out
      go_wp2
      go_meet
      case rel=>exact ⟨_,(true),(by first|rfl|(simp;done)|(simp [*];done)),H',⟨by have:=HJ1.out;first|omega|exact Nat.le_refl _⟩,⟨by (with_reducible repeat (first|refine blk_drewN ?_ _|refine blk_drew ?_|refine blk_alloc ?_ _));exact BK105.out⟩,⟨by repeat (first|(with_reducible first|exact HB.out|apply below_alloc|apply pw_below_drewN|apply below_drew1|refine below_set ?_ GE105.out)|exact HB.out)⟩⟩
     ·rw [if_neg c17] at H
      have c17b0:decide (500<(l0_4.length:Int))=false:=decide_eq_false c17
      have c17b1:decide (500<l0_4.length)=false:=decide_eq_false (by omega)
      clear c17
      (first|rw [c17b0]|(simp only [i64_w,i32_w];rw [c17b0])|skip)
      by_cases c19:(l0_5.length:Int) > 60
      ·rw [if_pos c19] at H
       have c19b0:decide (60<(l0_5.length:Int))=true:=decide_eq_true c19
       have c19b1:decide (60<l0_5.length)=true:=decide_eq_true (by omega)
       clear c19
       have H':=Ak H
       clear H
       obtain ⟨hcz20_0,hcz20_1,hcz20_2,hcz20_3,hcz20_4,hcz20_5,hcz20_6,hcz20_7,hcz20_8,hcz20_9,hfz20_0,hfz20_1,hfz20_2,hfz20_3,hfz20_4,hfz20_5,hfz20_6,hfz20_7,hfz20_8,hfz20_9⟩:=bk10 BK105.out
       go_wp2
       go_meet
       case rel=>exact ⟨_,(true),(by first|rfl|(simp;done)|(simp [*];done)),H',⟨by have:=HJ1.out;first|omega|exact Nat.le_refl _⟩,⟨by (with_reducible repeat (first|refine blk_drewN ?_ _|refine blk_drew ?_|refine blk_alloc ?_ _));exact BK105.out⟩,⟨by repeat (first|(with_reducible first|exact HB.out|apply below_alloc|apply pw_below_drewN|apply below_drew1|refine below_set ?_ GE105.out)|exact HB.out)⟩⟩
      ·rw [if_neg c19] at H
       have c19b0:decide (60<(l0_5.length:Int))=false:=decide_eq_false c19
       have c19b1:decide (60<l0_5.length)=false:=decide_eq_false (by omega)
       clear c19
       have H':=Ak H
       clear H
       obtain ⟨hcz21_0,hcz21_1,hcz21_2,hcz21_3,hcz21_4,hcz21_5,hcz21_6,hcz21_7,hcz21_8,hcz21_9,hfz21_0,hfz21_1,hfz21_2,hfz21_3,hfz21_4,hfz21_5,hfz21_6,hfz21_7,hfz21_8,hfz21_9⟩:=bk10 BK105.out
       go_wp2
       go_meet
       case rel=>exact ⟨_,(decide ((a0_7.size:Int) > 1000)),(by first|rfl|(simp;done)|(simp [*];done)),H',⟨by have:=HJ1.out;first|omega|exact Nat.le_refl _⟩,⟨by (with_reducible repeat (first|refine blk_drewN ?_ _|refine blk_drew ?_|refine blk_alloc ?_ _));exact BK105.out⟩,⟨by repeat (first|(with_reducible first|exact HB.out|apply below_alloc|apply pw_below_drewN|apply below_drew1|refine below_set ?_ GE105.out)|exact HB.out)⟩⟩
    case rest =>
     clear HC16;(try clear c1);(try clear c2);(try clear p2);(try clear c4);(try clear c4b0);(try clear c6);(try clear c6b0);(try clear c8);(try clear c8b0);(try clear c10);(try clear c10b0);(try clear c12);(try clear c12b0);(try clear c12b1);(try clear c15);(try clear c17);(try clear c17b0);(try clear c17b1);(try clear c19);(try clear c19b0);(try clear c19b1);(try clear hcz11_0)
     (try clear hcz11_1);(try clear hcz11_2);(try clear hcz11_3);(try clear hcz11_4);(try clear hcz11_5);(try clear hcz11_6);(try clear hcz11_7);(try clear hcz11_8);(try clear hcz11_9);(try clear hcz13_0);(try clear hcz13_1);(try clear hcz13_2);(try clear hcz13_3);(try clear hcz13_4);(try clear hcz13_5);(try clear hcz13_6);(try clear hcz13_7);(try clear hcz13_8);(try clear hcz13_9)
     (try clear hcz14_0);(try clear hcz14_1);(try clear hcz14_2);(try clear hcz14_3);(try clear hcz14_4);(try clear hcz14_5);(try clear hcz14_6);(try clear hcz14_7);(try clear hcz14_8);(try clear hcz14_9);(try clear hcz18_0);(try clear hcz18_1);(try clear hcz18_2);(try clear hcz18_3);(try clear hcz18_4);(try clear hcz18_5);(try clear hcz18_6);(try clear hcz18_7);(try clear hcz18_8)
     (try clear hcz18_9);(try clear hcz20_0);(try clear hcz20_1);(try clear hcz20_2);(try clear hcz20_3);(try clear hcz20_4);(try clear hcz20_5);(try clear hcz20_6);(try clear hcz20_7);(try clear hcz20_8);(try clear hcz20_9);(try clear hcz21_0);(try clear hcz21_1);(try clear hcz21_2);(try clear hcz21_3);(try clear hcz21_4);(try clear hcz21_5);(try clear hcz21_6);(try clear hcz21_7)
     (try clear hcz21_8);(try clear hcz21_9);(try clear hcz5_0);(try clear hcz5_1);(try clear hcz5_2);(try clear hcz5_3);(try clear hcz5_4);(try clear hcz5_5);(try clear hcz5_6);(try clear hcz5_7);(try clear hcz5_8);(try clear hcz5_9);(try clear hcz7_0);(try clear hcz7_1);(try clear hcz7_2);(try clear hcz7_3);(try clear hcz7_4);(try clear hcz7_5);(try clear hcz7_6);(try clear hcz7_7)
     (try clear hcz7_8);(try clear hcz7_9);(try clear hcz9_0);(try clear hcz9_1);(try clear hcz9_2);(try clear hcz9_3);(try clear hcz9_4);(try clear hcz9_5);(try clear hcz9_6);(try clear hcz9_7);(try clear hcz9_8);(try clear hcz9_9);(try clear hfz11_0);(try clear hfz11_1);(try clear hfz11_2);(try clear hfz11_3);(try clear hfz11_4);(try clear hfz11_5);(try clear hfz11_6);(try clear hfz11_7)
     (try clear hfz11_8);(try clear hfz11_9);(try clear hfz13_0);(try clear hfz13_1);(try clear hfz13_2);(try clear hfz13_3);(try clear hfz13_4);(try clear hfz13_5);(try clear hfz13_6);(try clear hfz13_7);(try clear hfz13_8);(try clear hfz13_9);(try clear hfz14_0);(try clear hfz14_1);(try clear hfz14_2);(try clear hfz14_3);(try clear hfz14_4);(try clear hfz14_5);(try clear hfz14_6)
     (try clear hfz14_7);(try clear hfz14_8);(try clear hfz14_9);(try clear hfz18_0);(try clear hfz18_1);(try clear hfz18_2);(try clear hfz18_3);(try clear hfz18_4);(try clear hfz18_5);(try clear hfz18_6);(try clear hfz18_7);(try clear hfz18_8);(try clear hfz18_9);(try clear hfz20_0);(try clear hfz20_1);(try clear hfz20_2);(try clear hfz20_3);(try clear hfz20_4);(try clear hfz20_5)
     (try clear hfz20_6);(try clear hfz20_7);(try clear hfz20_8);(try clear hfz20_9);(try clear hfz21_0);(try clear hfz21_1);(try clear hfz21_2);(try clear hfz21_3);(try clear hfz21_4);(try clear hfz21_5);(try clear hfz21_6);(try clear hfz21_7);(try clear hfz21_8);(try clear hfz21_9);(try clear hfz5_0);(try clear hfz5_1);(try clear hfz5_2);(try clear hfz5_3);(try clear hfz5_4)
     (try clear hfz5_5);(try clear hfz5_6);(try clear hfz5_7);(try clear hfz5_8);(try clear hfz5_9);(try clear hfz7_0);(try clear hfz7_1);(try clear hfz7_2);(try clear hfz7_3);(try clear hfz7_4);(try clear hfz7_5);(try clear hfz7_6);(try clear hfz7_7);(try clear hfz7_8);(try clear hfz7_9);(try clear hfz9_0);(try clear hfz9_1);(try clear hfz9_2);(try clear hfz9_3);(try clear hfz9_4)
     (try clear hfz9_5);(try clear hfz9_6);(try clear hfz9_7);(try clear hfz9_8);(try clear hfz9_9);(try clear p2)
     obtain ⟨kq,x54_15,rfl,HA,HJ15,BK105,HB⟩:=hcut
     cases kq with
     | zero=>exact absurd HA.out (by simp [spec_l2ProtoOk.j1])
     | succ kj15 =>
      have H:=HA.out
      clear HA
      simp only [spec_l2ProtoOk.j1] at H
      by_cases c22:x54_15=true
      ·subst c22
       have H1:(some false)=some r:=by rw [if_pos rfl] at H;exact H
       clear H;have H:=H1;clear H1
       obtain rfl:=Option.some.inj H
       go_wp2
       go_ret
       exact ⟨by first|rfl|(simp [errW_none,errW_some] <;> rfl)|(simp [*,errW_none,errW_some] <;> rfl),by repeat (first|(with_reducible first|exact HB.out|apply below_alloc|apply pw_below_drewN|apply below_drew1|refine below_set ?_ GE105.out)|exact HB.out)⟩
      ·replace c22:=Bool.eq_false_iff.mpr c22
       subst c22
       have H1:(if (l0_8.length:Int) > 0 then (if (l0_8.length:Int)=(l0_3.length:Int) then (if (l0_9.length:Int) > 0 then (spec_l2ProtoOk.j2 kj15 ((l0_9.length:Int) != (l0_5.length:Int)) a0_0 a0_1 a0_2 l0_3 l0_4 l0_5 a0_6 a0_7 l0_8 l0_9) else (spec_l2ProtoOk.j2 kj15 false a0_0 a0_1 a0_2 l0_3 l0_4 l0_5 a0_6 a0_7 l0_8 l0_9)) else (spec_l2ProtoOk.j2 kj15 true a0_0 a0_1 a0_2 l0_3 l0_4 l0_5 a0_6 a0_7 l0_8 l0_9)) else (if (l0_9.length:Int) > 0 then (spec_l2ProtoOk.j2 kj15 ((l0_9.length:Int) != (l0_5.length:Int)) a0_0 a0_1 a0_2 l0_3 l0_4 l0_5 a0_6 a0_7 l0_8 l0_9) else (spec_l2ProtoOk.j2 kj15 false a0_0 a0_1 a0_2 l0_3 l0_4 l0_5 a0_6 a0_7 l0_8 l0_9)))=some r:=by rw [if_neg (show ¬ (false=true) by decide)] at H;exact H
       clear H;have H:=H1;clear H1;have HC23:=Ak H;clear H
       go_upto_region 5 with (fail)
       go_cut [82] (fun v82 wc=>∃ (kq:Nat) (x82_22:Bool),v82=.bool x82_22∧Aside0 (spec_l2ProtoOk.j2 kq x82_22 a0_0 a0_1 a0_2 l0_3 l0_4 l0_5 a0_6 a0_7 l0_8 l0_9=some r)∧Aside0 (kq≤kj15)∧Aside0 (wc.heap[gb105]?=some (.cells #[.int .i64 a0_0,.bool a0_1,.int .i64 a0_2,(.slice A0_3 l0_3.length c0_3),(.slice A0_4 l0_4.length c0_4),(.slice A0_5 l0_5.length c0_5),.int .i64 a0_6,.string a0_7,(.slice A0_8 l0_8.length c0_8),(.slice A0_9 l0_9.length c0_9)] 44 (0,0)))∧Aside0 (Below w.heap.size w wc))
       case first =>
        have H:=HC23.out
        clear HC23
        by_cases c24:(l0_8.length:Int) > 0
        ·rw [if_pos c24] at H
         have c24b0:decide (0<(l0_8.length:Int))=true:=decide_eq_true c24
         have c24b1:decide (0<l0_8.length)=true:=decide_eq_true (by omega)
         clear c24
         (first|rw [c24b0]|(simp only [i64_w,i32_w];rw [c24b0])|skip)
         by_cases c25:(l0_8.length:Int)=(l0_3.length:Int)
         ·rw [if_pos c25] at H
          have c25b0:((l0_8.length:Int) == (l0_3.length:Int))=true:=beq_iff_eq.mpr c25
          have c25b1:((l0_8.length:Int) != (l0_3.length:Int))=false:=bne_eq_false_iff_eq.mpr c25
          have c25b2:(l0_8.length == l0_3.length)=true:=by first|simpa using c25|(simp at c25 ⊢;omega)
          clear c25
          by_cases c26:(l0_9.length:Int) > 0
          ·rw [if_pos c26] at H
           have c26b0:decide (0<(l0_9.length:Int))=true:=decide_eq_true c26
           have c26b1:decide (0<l0_9.length)=true:=decide_eq_true (by omega)
           clear c26
           have H':=Ak H
           clear H
           obtain ⟨hcz27_0,hcz27_1,hcz27_2,hcz27_3,hcz27_4,hcz27_5,hcz27_6,hcz27_7,hcz27_8,hcz27_9,hfz27_0,hfz27_1,hfz27_2,hfz27_3,hfz27_4,hfz27_5,hfz27_6,hfz27_7,hfz27_8,hfz27_9⟩:=bk10 BK105.out
           go_wp2
           go_meet
           case rel=>exact ⟨_,(((l0_9.length:Int) != (l0_5.length:Int))),(by first|rfl|(simp;done)|(simp [*];done)),H',⟨by have:=HJ1.out;have:=HJ15.out;first|omega|exact Nat.le_refl _⟩,⟨by (with_reducible repeat (first|refine blk_drewN ?_ _|refine blk_drew ?_|refine blk_alloc ?_ _));exact BK105.out⟩,⟨by repeat (first|(with_reducible first|exact HB.out|apply below_alloc|apply pw_below_drewN|apply below_drew1|refine below_set ?_ GE105.out)|exact HB.out)⟩⟩
          ·rw [if_neg c26] at H
           have c26b0:decide (0<(l0_9.length:Int))=false:=decide_eq_false c26
           have c26b1:decide (0<l0_9.length)=false:=decide_eq_false (by omega)
           clear c26
           have H':=Ak H
           clear H
           obtain ⟨hcz28_0,hcz28_1,hcz28_2,hcz28_3,hcz28_4,hcz28_5,hcz28_6,hcz28_7,hcz28_8,hcz28_9,hfz28_0,hfz28_1,hfz28_2,hfz28_3,hfz28_4,hfz28_5,hfz28_6,hfz28_7,hfz28_8,hfz28_9⟩:=bk10 BK105.out
           go_wp2
           go_meet
           case rel=>exact ⟨_,(false),(by first|rfl|(simp;done)|(simp [*];done)),H',⟨by have:=HJ1.out;have:=HJ15.out;first|omega|exact Nat.le_refl _⟩,⟨by (with_reducible repeat (first|refine blk_drewN ?_ _|refine blk_drew ?_|refine blk_alloc ?_ _));exact BK105.out⟩,⟨by repeat (first|(with_reducible first|exact HB.out|apply below_alloc|apply pw_below_drewN|apply below_drew1|refine below_set ?_ GE105.out)|exact HB.out)⟩⟩
         ·rw [if_neg c25] at H
          have c25b0:((l0_8.length:Int) == (l0_3.length:Int))=false:=beq_eq_false_iff_ne.mpr c25
          have c25b1:((l0_8.length:Int) != (l0_3.length:Int))=true:=bne_iff_ne.mpr c25
          have c25b2:(l0_8.length == l0_3.length)=false:=by first|simpa using c25|(simp at c25 ⊢;omega)
          have H':=Ak H
          clear H
          obtain ⟨hcz29_0,hcz29_1,hcz29_2,hcz29_3,hcz29_4,hcz29_5,hcz29_6,hcz29_7,hcz29_8,hcz29_9,hfz29_0,hfz29_1,hfz29_2,hfz29_3,hfz29_4,hfz29_5,hfz29_6,hfz29_7,hfz29_8,hfz29_9⟩:=bk10 BK105.out
          go_wp2
          go_meet
          case rel=>exact ⟨_,(true),(by first|rfl|(simp;done)|(simp [*];done)),H',⟨by have:=HJ1.out;have:=HJ15.out;first|omega|exact Nat.le_refl _⟩,⟨by (with_reducible repeat (first|refine blk_drewN ?_ _|refine blk_drew ?_|refine blk_alloc ?_ _));exact BK105.out⟩,⟨by repeat (first|(with_reducible first|exact HB.out|apply below_alloc|apply pw_below_drewN|apply below_drew1|refine below_set ?_ GE105.out)|exact HB.out)⟩⟩
        ·rw [if_neg c24] at H
         have c24b0:decide (0<(l0_8.length:Int))=false:=decide_eq_false c24
         have c24b1:decide (0<l0_8.length)=false:=decide_eq_false (by omega)
         clear c24
         (first|rw [c24b0]|(simp only [i64_w,i32_w];rw [c24b0])|skip)
         by_cases c30:(l0_9.length:Int) > 0
         ·rw [if_pos c30] at H
          have c30b0:decide (0<(l0_9.length:Int))=true:=decide_eq_true c30
          have c30b1:decide (0<l0_9.length)=true:=decide_eq_true (by omega)
          clear c30
          have H':=Ak H
          clear H
          obtain ⟨hcz31_0,hcz31_1,hcz31_2,hcz31_3,hcz31_4,hcz31_5,hcz31_6,hcz31_7,hcz31_8,hcz31_9,hfz31_0,hfz31_1,hfz31_2,hfz31_3,hfz31_4,hfz31_5,hfz31_6,hfz31_7,hfz31_8,hfz31_9⟩:=bk10 BK105.out
          go_wp2
          go_meet
          case rel=>exact ⟨_,(((l0_9.length:Int) != (l0_5.length:Int))),(by first|rfl|(simp;done)|(simp [*];done)),H',⟨by have:=HJ1.out;have:=HJ15.out;first|omega|exact Nat.le_refl _⟩,⟨by (with_reducible repeat (first|refine blk_drewN ?_ _|refine blk_drew ?_|refine blk_alloc ?_ _));exact BK105.out⟩,⟨by repeat (first|(with_reducible first|exact HB.out|apply below_alloc|apply pw_below_drewN|apply below_drew1|refine below_set ?_ GE105.out)|exact HB.out)⟩⟩
         ·rw [if_neg c30] at H
          have c30b0:decide (0<(l0_9.length:Int))=false:=decide_eq_false c30
          have c30b1:decide (0<l0_9.length)=false:=decide_eq_false (by omega)
          clear c30
          have H':=Ak H
          clear H
          obtain ⟨hcz32_0,hcz32_1,hcz32_2,hcz32_3,hcz32_4,hcz32_5,hcz32_6,hcz32_7,hcz32_8,hcz32_9,hfz32_0,hfz32_1,hfz32_2,hfz32_3,hfz32_4,hfz32_5,hfz32_6,hfz32_7,hfz32_8,hfz32_9⟩:=bk10 BK105.out
          go_wp2
          go_meet
          case rel=>exact ⟨_,(false),(by first|rfl|(simp;done)|(simp [*];done)),H',⟨by have:=HJ1.out;have:=HJ15.out;first|omega|exact Nat.le_refl _⟩,⟨by (with_reducible repeat (first|refine blk_drewN ?_ _|refine blk_drew ?_|refine blk_alloc ?_ _));exact BK105.out⟩,⟨by repeat (first|(with_reducible first|exact HB.out|apply below_alloc|apply pw_below_drewN|apply below_drew1|refine below_set ?_ GE105.out)|exact HB.out)⟩⟩
       case rest =>
        clear HC23;(try clear c1);(try clear c2);(try clear p2);(try clear c3);(try clear c4);(try clear c4b0);(try clear c6);(try clear c6b0);(try clear c8);(try clear c8b0);(try clear c10);(try clear c10b0);(try clear c12);(try clear c12b0);(try clear c12b1);(try clear c15);(try clear c17);(try clear c17b0);(try clear c17b1);(try clear c19);(try clear c19b0);(try clear c19b1)
        (try clear c22);(try clear c24);(try clear c24b0);(try clear c24b1);(try clear c25);(try clear c25b0);(try clear c25b1);(try clear c25b2);(try clear c26);(try clear c26b0);(try clear c26b1);(try clear c30);(try clear c30b0);(try clear c30b1);(try clear hcz11_0);(try clear hcz11_1);(try clear hcz11_2);(try clear hcz11_3);(try clear hcz11_4);(try clear hcz11_5);(try clear hcz11_6)
        (try clear hcz11_7);(try clear hcz11_8);(try clear hcz11_9);(try clear hcz13_0);(try clear hcz13_1);(try clear hcz13_2);(try clear hcz13_3);(try clear hcz13_4);(try clear hcz13_5);(try clear hcz13_6);(try clear hcz13_7);(try clear hcz13_8);(try clear hcz13_9);(try clear hcz14_0);(try clear hcz14_1);(try clear hcz14_2);(try clear hcz14_3);(try clear hcz14_4);(try clear hcz14_5)
        (try clear hcz14_6);(try clear hcz14_7);(try clear hcz14_8);(try clear hcz14_9);(try clear hcz18_0);(try clear hcz18_1);(try clear hcz18_2);(try clear hcz18_3);(try clear hcz18_4);(try clear hcz18_5);(try clear hcz18_6);(try clear hcz18_7);(try clear hcz18_8);(try clear hcz18_9);(try clear hcz20_0);(try clear hcz20_1);(try clear hcz20_2);(try clear hcz20_3);(try clear hcz20_4)
        (try clear hcz20_5);(try clear hcz20_6);(try clear hcz20_7);(try clear hcz20_8);(try clear hcz20_9);(try clear hcz21_0);(try clear hcz21_1);(try clear hcz21_2);(try clear hcz21_3);(try clear hcz21_4);(try clear hcz21_5);(try clear hcz21_6);(try clear hcz21_7);(try clear hcz21_8);(try clear hcz21_9);(try clear hcz27_0);(try clear hcz27_1);(try clear hcz27_2);(try clear hcz27_3)
        (try clear hcz27_4);(try clear hcz27_5);(try clear hcz27_6);(try clear hcz27_7);(try clear hcz27_8);(try clear hcz27_9);(try clear hcz28_0);(try clear hcz28_1);(try clear hcz28_2);(try clear hcz28_3);(try clear hcz28_4);(try clear hcz28_5);(try clear hcz28_6);(try clear hcz28_7);(try clear hcz28_8);(try clear hcz28_9);(try clear hcz29_0);(try clear hcz29_1);(try clear hcz29_2)
        (try clear hcz29_3);(try clear hcz29_4);(try clear hcz29_5);(try clear hcz29_6);(try clear hcz29_7);(try clear hcz29_8);(try clear hcz29_9);(try clear hcz31_0);(try clear hcz31_1);(try clear hcz31_2);(try clear hcz31_3);(try clear hcz31_4);(try clear hcz31_5);(try clear hcz31_6);(try clear hcz31_7);(try clear hcz31_8);(try clear hcz31_9);(try clear hcz32_0);(try clear hcz32_1)
        (try clear hcz32_2);(try clear hcz32_3);(try clear hcz32_4);(try clear hcz32_5);(try clear hcz32_6);(try clear hcz32_7);(try clear hcz32_8);(try clear hcz32_9);(try clear hcz5_0);(try clear hcz5_1);(try clear hcz5_2);(try clear hcz5_3);(try clear hcz5_4);(try clear hcz5_5);(try clear hcz5_6);(try clear hcz5_7);(try clear hcz5_8);(try clear hcz5_9);(try clear hcz7_0)
        (try clear hcz7_1);(try clear hcz7_2);(try clear hcz7_3);(try clear hcz7_4);(try clear hcz7_5);(try clear hcz7_6);(try clear hcz7_7);(try clear hcz7_8);(try clear hcz7_9);(try clear hcz9_0);(try clear hcz9_1);(try clear hcz9_2);(try clear hcz9_3);(try clear hcz9_4);(try clear hcz9_5);(try clear hcz9_6);(try clear hcz9_7);(try clear hcz9_8);(try clear hcz9_9);(try clear hfz11_0)
        (try clear hfz11_1);(try clear hfz11_2);(try clear hfz11_3);(try clear hfz11_4);(try clear hfz11_5);(try clear hfz11_6);(try clear hfz11_7);(try clear hfz11_8);(try clear hfz11_9);(try clear hfz13_0);(try clear hfz13_1);(try clear hfz13_2);(try clear hfz13_3);(try clear hfz13_4);(try clear hfz13_5);(try clear hfz13_6);(try clear hfz13_7);(try clear hfz13_8);(try clear hfz13_9)
        (try clear hfz14_0);(try clear hfz14_1);(try clear hfz14_2);(try clear hfz14_3);(try clear hfz14_4);(try clear hfz14_5);(try clear hfz14_6);(try clear hfz14_7);(try clear hfz14_8);(try clear hfz14_9);(try clear hfz18_0);(try clear hfz18_1);(try clear hfz18_2);(try clear hfz18_3);(try clear hfz18_4);(try clear hfz18_5);(try clear hfz18_6);(try clear hfz18_7);(try clear hfz18_8)
        (try clear hfz18_9);(try clear hfz20_0);(try clear hfz20_1);(try clear hfz20_2);(try clear hfz20_3);(try clear hfz20_4);(try clear hfz20_5);(try clear hfz20_6);(try clear hfz20_7);(try clear hfz20_8);(try clear hfz20_9);(try clear hfz21_0);(try clear hfz21_1);(try clear hfz21_2);(try clear hfz21_3);(try clear hfz21_4);(try clear hfz21_5);(try clear hfz21_6);(try clear hfz21_7)
        (try clear hfz21_8);(try clear hfz21_9);(try clear hfz27_0);(try clear hfz27_1);(try clear hfz27_2);(try clear hfz27_3);(try clear hfz27_4);(try clear hfz27_5);(try clear hfz27_6);(try clear hfz27_7);(try clear hfz27_8);(try clear hfz27_9);(try clear hfz28_0);(try clear hfz28_1);(try clear hfz28_2);(try clear hfz28_3);(try clear hfz28_4);(try clear hfz28_5);(try clear hfz28_6)
        (try clear hfz28_7);(try clear hfz28_8);(try clear hfz28_9);(try clear hfz29_0);(try clear hfz29_1);(try clear hfz29_2);(try clear hfz29_3);(try clear hfz29_4);(try clear hfz29_5);(try clear hfz29_6);(try clear hfz29_7);(try clear hfz29_8);(try clear hfz29_9);(try clear hfz31_0);(try clear hfz31_1);(try clear hfz31_2);(try clear hfz31_3);(try clear hfz31_4);(try clear hfz31_5)
        (try clear hfz31_6);(try clear hfz31_7);(try clear hfz31_8);(try clear hfz31_9);(try clear hfz32_0);(try clear hfz32_1);(try clear hfz32_2);(try clear hfz32_3);(try clear hfz32_4);(try clear hfz32_5);(try clear hfz32_6);(try clear hfz32_7);(try clear hfz32_8);(try clear hfz32_9);(try clear hfz5_0);(try clear hfz5_1);(try clear hfz5_2);(try clear hfz5_3);(try clear hfz5_4)
        (try clear hfz5_5);(try clear hfz5_6);(try clear hfz5_7);(try clear hfz5_8);(try clear hfz5_9);(try clear hfz7_0);(try clear hfz7_1);(try clear hfz7_2);(try clear hfz7_3);(try clear hfz7_4);(try clear hfz7_5);(try clear hfz7_6);(try clear hfz7_7);(try clear hfz7_8);(try clear hfz7_9);(try clear hfz9_0);(try clear hfz9_1);(try clear hfz9_2);(try clear hfz9_3);(try clear hfz9_4)
        (try clear hfz9_5);(try clear hfz9_6);(try clear hfz9_7);(try clear hfz9_8);(try clear hfz9_9);(try clear p2)
        obtain ⟨kq,x82_22,rfl,HA,HJ22,BK105,HB⟩:=hcut
        cases kq with
        | zero=>exact absurd HA.out (by simp [spec_l2ProtoOk.j2])
        | succ kj22 =>
         have H:=HA.out
         clear HA
         simp only [spec_l2ProtoOk.j2] at H
         by_cases c33:x82_22=true
         ·subst c33
          have H1:(some false)=some r:=by rw [if_pos rfl] at H;exact H
          clear H;have H:=H1;clear H1
          obtain rfl:=Option.some.inj H
          go_wp2
          go_ret
          exact ⟨by first|rfl|(simp [errW_none,errW_some] <;> rfl)|(simp [*,errW_none,errW_some] <;> rfl),by repeat (first|(with_reducible first|exact HB.out|apply below_alloc|apply pw_below_drewN|apply below_drew1|refine below_set ?_ GE105.out)|exact HB.out)⟩
         ·replace c33:=Bool.eq_false_iff.mpr c33
          subst c33
          have H1:(spec_l2ProtoOk.l0 kj22 0 a0_0 a0_1 a0_2 l0_3 l0_4 l0_5 a0_6 a0_7 l0_8 l0_9)=some r:=by rw [if_neg (show ¬ (false=true) by decide)] at H;exact H
          clear H;have H:=H1;clear H1
          have H':=Ak H
          clear H
          go_wp2
          go_loopg [3] kj22 (fun kq v3 w'=>∃ (x3_4:Int),v3=.int .i64 x3_4∧Aside0 (spec_l2ProtoOk.l0 kq x3_4 a0_0 a0_1 a0_2 l0_3 l0_4 l0_5 a0_6 a0_7 l0_8 l0_9=some r)∧Aside0 (kq≤kj22)∧Aside0 (w'.heap[gb105]?=some (.cells #[.int .i64 a0_0,.bool a0_1,.int .i64 a0_2,(.slice A0_3 l0_3.length c0_3),(.slice A0_4 l0_4.length c0_4),(.slice A0_5 l0_5.length c0_5),.int .i64 a0_6,.string a0_7,(.slice A0_8 l0_8.length c0_8),(.slice A0_9 l0_9.length c0_9)] 44 (0,0)))∧Aside0 (Below w.heap.size w w'))
          case atStart=>exact ⟨(0),(by first|rfl|(simp;done)|(simp [*];done)),H',⟨Nat.le_refl _⟩,⟨by (with_reducible repeat (first|refine blk_drewN ?_ _|refine blk_drew ?_|refine blk_alloc ?_ _));exact BK105.out⟩,⟨by repeat (first|(with_reducible first|exact HB.out|apply below_alloc|apply pw_below_drewN|apply below_drew1|refine below_set ?_ GE105.out)|exact HB.out)⟩⟩
          case round =>
           clear H';(try clear c1);(try clear c2);(try clear p2);(try clear c3);(try clear c4);(try clear c4b0);(try clear c6);(try clear c6b0);(try clear c8);(try clear c8b0);(try clear c10);(try clear c10b0);(try clear c12);(try clear c12b0);(try clear c12b1);(try clear c15);(try clear c17);(try clear c17b0);(try clear c17b1);(try clear c19);(try clear c19b0);(try clear c19b1)
           (try clear c22);(try clear c24);(try clear c24b0);(try clear c24b1);(try clear c25);(try clear c25b0);(try clear c25b1);(try clear c25b2);(try clear c26);(try clear c26b0);(try clear c26b1);(try clear c30);(try clear c30b0);(try clear c30b1);(try clear c33);(try clear hcz11_0);(try clear hcz11_1);(try clear hcz11_2);(try clear hcz11_3);(try clear hcz11_4);(try clear hcz11_5)
           (try clear hcz11_6);(try clear hcz11_7);(try clear hcz11_8);(try clear hcz11_9);(try clear hcz13_0);(try clear hcz13_1);(try clear hcz13_2);(try clear hcz13_3);(try clear hcz13_4);(try clear hcz13_5);(try clear hcz13_6);(try clear hcz13_7);(try clear hcz13_8);(try clear hcz13_9);(try clear hcz14_0);(try clear hcz14_1);(try clear hcz14_2);(try clear hcz14_3);(try clear hcz14_4)
           (try clear hcz14_5);(try clear hcz14_6);(try clear hcz14_7);(try clear hcz14_8);(try clear hcz14_9);(try clear hcz18_0);(try clear hcz18_1);(try clear hcz18_2);(try clear hcz18_3);(try clear hcz18_4);(try clear hcz18_5);(try clear hcz18_6);(try clear hcz18_7);(try clear hcz18_8);(try clear hcz18_9);(try clear hcz20_0);(try clear hcz20_1);(try clear hcz20_2);(try clear hcz20_3)
           (try clear hcz20_4);(try clear hcz20_5);(try clear hcz20_6);(try clear hcz20_7);(try clear hcz20_8);(try clear hcz20_9);(try clear hcz21_0);(try clear hcz21_1);(try clear hcz21_2);(try clear hcz21_3);(try clear hcz21_4);(try clear hcz21_5);(try clear hcz21_6);(try clear hcz21_7);(try clear hcz21_8);(try clear hcz21_9);(try clear hcz27_0);(try clear hcz27_1);(try clear hcz27_2)
           (try clear hcz27_3);(try clear hcz27_4);(try clear hcz27_5);(try clear hcz27_6);(try clear hcz27_7);(try clear hcz27_8);(try clear hcz27_9);(try clear hcz28_0);(try clear hcz28_1);(try clear hcz28_2);(try clear hcz28_3);(try clear hcz28_4);(try clear hcz28_5);(try clear hcz28_6);(try clear hcz28_7);(try clear hcz28_8);(try clear hcz28_9);(try clear hcz29_0);(try clear hcz29_1)
           (try clear hcz29_2);(try clear hcz29_3);(try clear hcz29_4);(try clear hcz29_5);(try clear hcz29_6);(try clear hcz29_7);(try clear hcz29_8);(try clear hcz29_9);(try clear hcz31_0);(try clear hcz31_1);(try clear hcz31_2);(try clear hcz31_3);(try clear hcz31_4);(try clear hcz31_5);(try clear hcz31_6);(try clear hcz31_7);(try clear hcz31_8);(try clear hcz31_9);(try clear hcz32_0)
           (try clear hcz32_1);(try clear hcz32_2);(try clear hcz32_3);(try clear hcz32_4);(try clear hcz32_5);(try clear hcz32_6);(try clear hcz32_7);(try clear hcz32_8);(try clear hcz32_9);(try clear hcz5_0);(try clear hcz5_1);(try clear hcz5_2);(try clear hcz5_3);(try clear hcz5_4);(try clear hcz5_5);(try clear hcz5_6);(try clear hcz5_7);(try clear hcz5_8);(try clear hcz5_9)
           (try clear hcz7_0);(try clear hcz7_1);(try clear hcz7_2);(try clear hcz7_3);(try clear hcz7_4);(try clear hcz7_5);(try clear hcz7_6);(try clear hcz7_7);(try clear hcz7_8);(try clear hcz7_9);(try clear hcz9_0);(try clear hcz9_1);(try clear hcz9_2);(try clear hcz9_3);(try clear hcz9_4);(try clear hcz9_5);(try clear hcz9_6);(try clear hcz9_7);(try clear hcz9_8)
           (try clear hcz9_9);(try clear hfz11_0);(try clear hfz11_1);(try clear hfz11_2);(try clear hfz11_3);(try clear hfz11_4);(try clear hfz11_5);(try clear hfz11_6);(try clear hfz11_7);(try clear hfz11_8);(try clear hfz11_9);(try clear hfz13_0);(try clear hfz13_1);(try clear hfz13_2);(try clear hfz13_3);(try clear hfz13_4);(try clear hfz13_5);(try clear hfz13_6);(try clear hfz13_7)
           (try clear hfz13_8);(try clear hfz13_9);(try clear hfz14_0);(try clear hfz14_1);(try clear hfz14_2);(try clear hfz14_3);(try clear hfz14_4);(try clear hfz14_5);(try clear hfz14_6);(try clear hfz14_7);(try clear hfz14_8);(try clear hfz14_9);(try clear hfz18_0);(try clear hfz18_1);(try clear hfz18_2);(try clear hfz18_3);(try clear hfz18_4);(try clear hfz18_5);(try clear hfz18_6)
           (try clear hfz18_7);(try clear hfz18_8);(try clear hfz18_9);(try clear hfz20_0);(try clear hfz20_1);(try clear hfz20_2);(try clear hfz20_3);(try clear hfz20_4);(try clear hfz20_5);(try clear hfz20_6);(try clear hfz20_7);(try clear hfz20_8);(try clear hfz20_9);(try clear hfz21_0);(try clear hfz21_1);(try clear hfz21_2);(try clear hfz21_3);(try clear hfz21_4);(try clear hfz21_5)
           (try clear hfz21_6);(try clear hfz21_7);(try clear hfz21_8);(try clear hfz21_9);(try clear hfz27_0);(try clear hfz27_1);(try clear hfz27_2);(try clear hfz27_3);(try clear hfz27_4);(try clear hfz27_5);(try clear hfz27_6);(try clear hfz27_7);(try clear hfz27_8);(try clear hfz27_9);(try clear hfz28_0);(try clear hfz28_1);(try clear hfz28_2);(try clear hfz28_3);(try clear hfz28_4)
           (try clear hfz28_5);(try clear hfz28_6);(try clear hfz28_7);(try clear hfz28_8);(try clear hfz28_9);(try clear hfz29_0);(try clear hfz29_1);(try clear hfz29_2);(try clear hfz29_3);(try clear hfz29_4);(try clear hfz29_5);(try clear hfz29_6);(try clear hfz29_7);(try clear hfz29_8);(try clear hfz29_9);(try clear hfz31_0);(try clear hfz31_1);(try clear hfz31_2);(try clear hfz31_3)
           (try clear hfz31_4);(try clear hfz31_5);(try clear hfz31_6);(try clear hfz31_7);(try clear hfz31_8);(try clear hfz31_9);(try clear hfz32_0);(try clear hfz32_1);(try clear hfz32_2);(try clear hfz32_3);(try clear hfz32_4);(try clear hfz32_5);(try clear hfz32_6);(try clear hfz32_7);(try clear hfz32_8);(try clear hfz32_9);(try clear hfz5_0);(try clear hfz5_1);(try clear hfz5_2)
           (try clear hfz5_3);(try clear hfz5_4);(try clear hfz5_5);(try clear hfz5_6);(try clear hfz5_7);(try clear hfz5_8);(try clear hfz5_9);(try clear hfz7_0);(try clear hfz7_1);(try clear hfz7_2);(try clear hfz7_3);(try clear hfz7_4);(try clear hfz7_5);(try clear hfz7_6);(try clear hfz7_7);(try clear hfz7_8);(try clear hfz7_9);(try clear hfz9_0);(try clear hfz9_1)
           (try clear hfz9_2);(try clear hfz9_3);(try clear hfz9_4);(try clear hfz9_5);(try clear hfz9_6);(try clear hfz9_7);(try clear hfz9_8);(try clear hfz9_9);(try clear p2)
           obtain ⟨x3_4,rfl,HA,HK4,BK105,HB⟩:=hrel
           cases gk with
           | zero=>exact absurd HA.out (by simp [spec_l2ProtoOk.l0])
           | succ k4 =>
            have H:=HA.out
            clear HA
            simp only [spec_l2ProtoOk.l0] at H
            by_cases c34:x3_4<(l0_4.length:Int)
            ·rw [if_pos c34] at H
             have c34b0:decide (x3_4<(l0_4.length:Int))=true:=decide_eq_true c34
             clear c34
             by_cases c35:0≤x3_4
             ·rw [if_pos c35] at H
              have c35b0:decide (0≤x3_4)=true:=decide_eq_true c35
              clear c35
              replace H:=Option.bind_eq_some_iff.mp H
              obtain ⟨t107,A360,H⟩:=H
              replace H:(if t107=true then (spec_l2ProtoOk.l0 k4 (wrap64 (x3_4+1)) a0_0 a0_1 a0_2 l0_3 l0_4 l0_5 a0_6 a0_7 l0_8 l0_9) else (some false))=some r:=H
              have A36:=Ak A360;clear A360
              by_cases c37:t107=true
              ·subst c37
               have H1:(spec_l2ProtoOk.l0 k4 (wrap64 (x3_4+1)) a0_0 a0_1 a0_2 l0_3 l0_4 l0_5 a0_6 a0_7 l0_8 l0_9)=some r:=by rw [if_pos rfl] at H;exact H
               clear H;have H:=H1;clear H1
               have H':=Ak H
               clear H
               obtain ⟨hcz38_0,hcz38_1,hcz38_2,hcz38_3,hcz38_4,hcz38_5,hcz38_6,hcz38_7,hcz38_8,hcz38_9,hfz38_0,hfz38_1,hfz38_2,hfz38_3,hfz38_4,hfz38_5,hfz38_6,hfz38_7,hfz38_8,hfz38_9⟩:=bk10 BK105.out
               have p106:0≤(x3_4:Int):=of_decide_eq_true (by first|(with_reducible assumption)|assumption)
               have q106:x3_4<(l0_4.length:Int):=of_decide_eq_true (by first|(with_reducible assumption)|assumption)
               obtain ⟨ad106,e106,hx106_0,hx106_1,hx106_2⟩:=at_T85 HR0_4.out x3_4 p106 q106
               cases e106
               replace hx106_0:=(HB.out.cell (World.block_lt_of_cell? w _ hx106_0)).trans hx106_0
               replace hx106_1:=(HB.out.cell (World.block_lt_of_cell? w _ hx106_1)).trans hx106_1
               replace hx106_2:=(HB.out.cell (World.block_lt_of_cell? w _ hx106_2)).trans hx106_2
               replace p106:=eq_true p106
               replace q106:=eq_true q106
               go_wp2_with (first|((with_reducible refine gate_callee (f:=55) rfl ?_);refine goesL_ (some 95) rfl rfl Try.func55 (by kernel_rfl) rfl #[.agg #[.int .i64 ((rd_T85 l0_4 x3_4).f0),.int .i64 ((rd_T85 l0_4 x3_4).f1),.string ((rd_T85 l0_4 x3_4).f2)]] rfl (by (try simp only [List.map_toArray,List.map_cons,List.map_nil]);first|done|rfl|(simp only [List.length_drop,List.length_take];rfl)) ?_;(with_reducible refine (spec_l2Plain.calls ((rd_T85 l0_4 x3_4).f0) ((rd_T85 l0_4 x3_4).f1) ((rd_T85 l0_4 x3_4).f2) true _ A36.out).mono ?_);rintro e w39 ⟨rfl,hb⟩;refine ⟨_,rfl,?_⟩;have n0_:=Ak (blk_below (g:=gb105) (by (with_reducible repeat (first|refine blk_drewN ?_ _|refine blk_drew ?_|refine blk_alloc ?_ _));exact BK105.out) hb);have n1_:=Ak (below_step (by repeat (first|(with_reducible first|exact HB.out|apply below_alloc|apply pw_below_drewN|apply below_drew1|refine below_set ?_ GE105.out)|exact HB.out)) hb);clear BK105;clear HB;have BK105:=n0_;have HB:=n1_;clear n0_ n1_;(try clear hb);(try clear hb2);(try clear hk);(try clear hi)))
               go_roundg k4
               case measure=>have:=HJ1.out;have:=HJ15.out;have:=HJ22.out;have:=HK4.out;omega
               case rel=>exact ⟨(wrap64 (x3_4+1)),(by first|rfl|(simp;done)|(simp [*];done)),H',⟨by have:=HJ1.out;have:=HJ15.out;have:=HJ22.out;have:=HK4.out;omega⟩,⟨by (with_reducible repeat (first|refine blk_drewN ?_ _|refine blk_drew ?_|refine blk_alloc ?_ _));exact BK105.out⟩,⟨by repeat (first|(with_reducible first|exact HB.out|apply below_alloc|apply pw_below_drewN|apply below_drew1|refine below_set ?_ GE105.out)|exact HB.out)⟩⟩
              ·replace c37:=Bool.eq_false_iff.mpr c37
               subst c37
               have H1:(some false)=some r:=by rw [if_neg (show ¬ (false=true) by decide)] at H;exact H
               clear H;have H:=H1;clear H1
               obtain rfl:=Option.some.inj H
               obtain ⟨hcz40_0,hcz40_1,hcz40_2,hcz40_3,hcz40_4,hcz40_5,hcz40_6,hcz40_7,hcz40_8,hcz40_9,hfz40_0,hfz40_1,hfz40_2,hfz40_3,hfz40_4,hfz40_5,hfz40_6,hfz40_7,hfz40_8,hfz40_9⟩:=bk10 BK105.out
               have p106:0≤(x3_4:Int):=of_decide_eq_true (by first|(with_reducible assumption)|assumption)
               have q106:x3_4<(l0_4.length:Int):=of_decide_eq_true (by first|(with_reducible assumption)|assumption)
               obtain ⟨ad106,e106,hx106_0,hx106_1,hx106_2⟩:=at_T85 HR0_4.out x3_4 p106 q106
               cases e106
               replace hx106_0:=(HB.out.cell (World.block_lt_of_cell? w _ hx106_0)).trans hx106_0
               replace hx106_1:=(HB.out.cell (World.block_lt_of_cell? w _ hx106_1)).trans hx106_1
               replace hx106_2:=(HB.out.cell (World.block_lt_of_cell? w _ hx106_2)).trans hx106_2
               replace p106:=eq_true p106
               replace q106:=eq_true q106
               go_wp2_with (first|((with_reducible refine gate_callee (f:=55) rfl ?_);refine goesL_ (some 95) rfl rfl Try.func55 (by kernel_rfl) rfl #[.agg #[.int .i64 ((rd_T85 l0_4 x3_4).f0),.int .i64 ((rd_T85 l0_4 x3_4).f1),.string ((rd_T85 l0_4 x3_4).f2)]] rfl (by (try simp only [List.map_toArray,List.map_cons,List.map_nil]);first|done|rfl|(simp only [List.length_drop,List.length_take];rfl)) ?_;(with_reducible refine (spec_l2Plain.calls ((rd_T85 l0_4 x3_4).f0) ((rd_T85 l0_4 x3_4).f1) ((rd_T85 l0_4 x3_4).f2) false _ A36.out).mono ?_);rintro e w41 ⟨rfl,hb⟩;refine ⟨_,rfl,?_⟩;have n0_:=Ak (blk_below (g:=gb105) (by (with_reducible repeat (first|refine blk_drewN ?_ _|refine blk_drew ?_|refine blk_alloc ?_ _));exact BK105.out) hb);have n1_:=Ak (below_step (by repeat (first|(with_reducible first|exact HB.out|apply below_alloc|apply pw_below_drewN|apply below_drew1|refine below_set ?_ GE105.out)|exact HB.out)) hb);clear BK105;clear HB;have BK105:=n0_;have HB:=n1_;clear n0_ n1_;(try clear hb);(try clear hb2);(try clear hk);(try clear hi)))
               go_ret
               exact ⟨by first|rfl|(simp [errW_none,errW_some] <;> rfl)|(simp [*,errW_none,errW_some] <;> rfl),by repeat (first|(with_reducible first|exact HB.out|apply below_alloc|apply pw_below_drewN|apply below_drew1|refine below_set ?_ GE105.out)|exact HB.out)⟩
             ·rw [if_neg c35] at H
              exact absurd H (by simp)
            ·rw [if_neg c34] at H
             have c34b0:decide (x3_4<(l0_4.length:Int))=false:=decide_eq_false c34
             clear c34
             have H':=Ak H
             clear H
             obtain ⟨hcz42_0,hcz42_1,hcz42_2,hcz42_3,hcz42_4,hcz42_5,hcz42_6,hcz42_7,hcz42_8,hcz42_9,hfz42_0,hfz42_1,hfz42_2,hfz42_3,hfz42_4,hfz42_5,hfz42_6,hfz42_7,hfz42_8,hfz42_9⟩:=bk10 BK105.out
             go_wp2
             go_loopg [4] k4 (fun kq v4 w'=>∃ (x4_5:Int),v4=.int .i64 x4_5∧Aside0 (spec_l2ProtoOk.l1 kq x4_5 a0_0 a0_1 a0_2 l0_3 l0_4 l0_5 a0_6 a0_7 l0_8 l0_9=some r)∧Aside0 (kq≤k4)∧Aside0 (w'.heap[gb105]?=some (.cells #[.int .i64 a0_0,.bool a0_1,.int .i64 a0_2,(.slice A0_3 l0_3.length c0_3),(.slice A0_4 l0_4.length c0_4),(.slice A0_5 l0_5.length c0_5),.int .i64 a0_6,.string a0_7,(.slice A0_8 l0_8.length c0_8),(.slice A0_9 l0_9.length c0_9)] 44 (0,0)))∧Aside0 (Below w.heap.size w w'))
             case atStart=>exact ⟨(0),(by first|rfl|(simp;done)|(simp [*];done)),H',⟨Nat.le_refl _⟩,⟨by (with_reducible repeat (first|refine blk_drewN ?_ _|refine blk_drew ?_|refine blk_alloc ?_ _));exact BK105.out⟩,⟨by repeat (first|(with_reducible first|exact HB.out|apply below_alloc|apply pw_below_drewN|apply below_drew1|refine below_set ?_ GE105.out)|exact HB.out)⟩⟩
             case round =>
              clear H';(try clear c1);(try clear p1);(try clear q1);(try clear hx1);(try clear c2);(try clear p2);(try clear c3);(try clear c4);(try clear c4b0);(try clear c5);(try clear c6);(try clear c6b0);(try clear p6);(try clear c8);(try clear c8b0);(try clear c10);(try clear c10b0);(try clear p10);(try clear q10);(try clear hx10);(try clear c12);(try clear c12b0)
              (try clear c12b1);(try clear c15);(try clear c17);(try clear c17b0);(try clear c17b1);(try clear c19);(try clear c19b0);(try clear c19b1);(try clear c22);(try clear c24);(try clear c24b0);(try clear c24b1);(try clear c25);(try clear c25b0);(try clear c25b1);(try clear c25b2);(try clear c26);(try clear c26b0);(try clear c26b1);(try clear c30);(try clear c30b0)
              (try clear c30b1);(try clear c33);(try clear c34);(try clear c34b0);(try clear c35);(try clear c35b0);(try clear c37);(try clear hcz11_0);(try clear hcz11_1);(try clear hcz11_2);(try clear hcz11_3);(try clear hcz11_4);(try clear hcz11_5);(try clear hcz11_6);(try clear hcz11_7);(try clear hcz11_8);(try clear hcz11_9);(try clear hcz13_0);(try clear hcz13_1)
              (try clear hcz13_2);(try clear hcz13_3);(try clear hcz13_4);(try clear hcz13_5);(try clear hcz13_6);(try clear hcz13_7);(try clear hcz13_8);(try clear hcz13_9);(try clear hcz14_0);(try clear hcz14_1);(try clear hcz14_2);(try clear hcz14_3);(try clear hcz14_4);(try clear hcz14_5);(try clear hcz14_6);(try clear hcz14_7);(try clear hcz14_8);(try clear hcz14_9)
              (try clear hcz18_0);(try clear hcz18_1);(try clear hcz18_2);(try clear hcz18_3);(try clear hcz18_4);(try clear hcz18_5);(try clear hcz18_6);(try clear hcz18_7);(try clear hcz18_8);(try clear hcz18_9);(try clear hcz20_0);(try clear hcz20_1);(try clear hcz20_2);(try clear hcz20_3);(try clear hcz20_4);(try clear hcz20_5);(try clear hcz20_6);(try clear hcz20_7)
              (try clear hcz20_8);(try clear hcz20_9);(try clear hcz21_0);(try clear hcz21_1);(try clear hcz21_2);(try clear hcz21_3);(try clear hcz21_4);(try clear hcz21_5);(try clear hcz21_6);(try clear hcz21_7);(try clear hcz21_8);(try clear hcz21_9);(try clear hcz27_0);(try clear hcz27_1);(try clear hcz27_2);(try clear hcz27_3);(try clear hcz27_4);(try clear hcz27_5)
              (try clear hcz27_6);(try clear hcz27_7);(try clear hcz27_8);(try clear hcz27_9);(try clear hcz28_0);(try clear hcz28_1);(try clear hcz28_2);(try clear hcz28_3);(try clear hcz28_4);(try clear hcz28_5);(try clear hcz28_6);(try clear hcz28_7);(try clear hcz28_8);(try clear hcz28_9);(try clear hcz29_0);(try clear hcz29_1);(try clear hcz29_2);(try clear hcz29_3)
              (try clear hcz29_4);(try clear hcz29_5);(try clear hcz29_6);(try clear hcz29_7);(try clear hcz29_8);(try clear hcz29_9);(try clear hcz31_0);(try clear hcz31_1);(try clear hcz31_2);(try clear hcz31_3);(try clear hcz31_4);(try clear hcz31_5);(try clear hcz31_6);(try clear hcz31_7);(try clear hcz31_8);(try clear hcz31_9);(try clear hcz32_0);(try clear hcz32_1)
              (try clear hcz32_2);(try clear hcz32_3);(try clear hcz32_4);(try clear hcz32_5);(try clear hcz32_6);(try clear hcz32_7);(try clear hcz32_8);(try clear hcz32_9);(try clear hcz38_0);(try clear hcz38_1);(try clear hcz38_2);(try clear hcz38_3);(try clear hcz38_4);(try clear hcz38_5);(try clear hcz38_6);(try clear hcz38_7);(try clear hcz38_8);(try clear hcz38_9)
              (try clear hcz40_0);(try clear hcz40_1);(try clear hcz40_2);(try clear hcz40_3);(try clear hcz40_4);(try clear hcz40_5);(try clear hcz40_6);(try clear hcz40_7);(try clear hcz40_8);(try clear hcz40_9);(try clear hcz42_0);(try clear hcz42_1);(try clear hcz42_2);(try clear hcz42_3);(try clear hcz42_4);(try clear hcz42_5);(try clear hcz42_6);(try clear hcz42_7)
              (try clear hcz42_8);(try clear hcz42_9);(try clear hcz5_0);(try clear hcz5_1);(try clear hcz5_2);(try clear hcz5_3);(try clear hcz5_4);(try clear hcz5_5);(try clear hcz5_6);(try clear hcz5_7);(try clear hcz5_8);(try clear hcz5_9);(try clear hcz7_0);(try clear hcz7_1);(try clear hcz7_2);(try clear hcz7_3);(try clear hcz7_4);(try clear hcz7_5);(try clear hcz7_6)
              (try clear hcz7_7);(try clear hcz7_8);(try clear hcz7_9);(try clear hcz9_0);(try clear hcz9_1);(try clear hcz9_2);(try clear hcz9_3);(try clear hcz9_4);(try clear hcz9_5);(try clear hcz9_6);(try clear hcz9_7);(try clear hcz9_8);(try clear hcz9_9);(try clear hfz11_0);(try clear hfz11_1);(try clear hfz11_2);(try clear hfz11_3);(try clear hfz11_4);(try clear hfz11_5)
              (try clear hfz11_6);(try clear hfz11_7);(try clear hfz11_8);(try clear hfz11_9);(try clear hfz13_0);(try clear hfz13_1);(try clear hfz13_2);(try clear hfz13_3);(try clear hfz13_4);(try clear hfz13_5);(try clear hfz13_6);(try clear hfz13_7);(try clear hfz13_8);(try clear hfz13_9);(try clear hfz14_0);(try clear hfz14_1);(try clear hfz14_2);(try clear hfz14_3)
              (try clear hfz14_4);(try clear hfz14_5);(try clear hfz14_6);(try clear hfz14_7);(try clear hfz14_8);(try clear hfz14_9);(try clear hfz18_0);(try clear hfz18_1);(try clear hfz18_2);(try clear hfz18_3);(try clear hfz18_4);(try clear hfz18_5);(try clear hfz18_6);(try clear hfz18_7);(try clear hfz18_8);(try clear hfz18_9);(try clear hfz20_0);(try clear hfz20_1)
              (try clear hfz20_2);(try clear hfz20_3);(try clear hfz20_4);(try clear hfz20_5);(try clear hfz20_6);(try clear hfz20_7);(try clear hfz20_8);(try clear hfz20_9);(try clear hfz21_0);(try clear hfz21_1);(try clear hfz21_2);(try clear hfz21_3);(try clear hfz21_4);(try clear hfz21_5);(try clear hfz21_6);(try clear hfz21_7);(try clear hfz21_8);(try clear hfz21_9)
              (try clear hfz27_0);(try clear hfz27_1);(try clear hfz27_2);(try clear hfz27_3);(try clear hfz27_4);(try clear hfz27_5);(try clear hfz27_6);(try clear hfz27_7);(try clear hfz27_8);(try clear hfz27_9);(try clear hfz28_0);(try clear hfz28_1);(try clear hfz28_2);(try clear hfz28_3);(try clear hfz28_4);(try clear hfz28_5);(try clear hfz28_6);(try clear hfz28_7)
              (try clear hfz28_8);(try clear hfz28_9);(try clear hfz29_0);(try clear hfz29_1);(try clear hfz29_2);(try clear hfz29_3);(try clear hfz29_4);(try clear hfz29_5);(try clear hfz29_6);(try clear hfz29_7);(try clear hfz29_8);(try clear hfz29_9);(try clear hfz31_0);(try clear hfz31_1);(try clear hfz31_2);(try clear hfz31_3);(try clear hfz31_4);(try clear hfz31_5)
              (try clear hfz31_6);(try clear hfz31_7);(try clear hfz31_8);(try clear hfz31_9);(try clear hfz32_0);(try clear hfz32_1);(try clear hfz32_2);(try clear hfz32_3);(try clear hfz32_4);(try clear hfz32_5);(try clear hfz32_6);(try clear hfz32_7);(try clear hfz32_8);(try clear hfz32_9);(try clear hfz38_0);(try clear hfz38_1);(try clear hfz38_2);(try clear hfz38_3)
              (try clear hfz38_4);(try clear hfz38_5);(try clear hfz38_6);(try clear hfz38_7);(try clear hfz38_8);(try clear hfz38_9);(try clear hfz40_0);(try clear hfz40_1);(try clear hfz40_2);(try clear hfz40_3);(try clear hfz40_4);(try clear hfz40_5);(try clear hfz40_6);(try clear hfz40_7);(try clear hfz40_8);(try clear hfz40_9);(try clear hfz42_0);(try clear hfz42_1)
              (try clear hfz42_2);(try clear hfz42_3);(try clear hfz42_4);(try clear hfz42_5);(try clear hfz42_6);(try clear hfz42_7);(try clear hfz42_8);(try clear hfz42_9);(try clear hfz5_0);(try clear hfz5_1);(try clear hfz5_2);(try clear hfz5_3);(try clear hfz5_4);(try clear hfz5_5);(try clear hfz5_6);(try clear hfz5_7);(try clear hfz5_8);(try clear hfz5_9);(try clear hfz7_0)
              (try clear hfz7_1);(try clear hfz7_2);(try clear hfz7_3);(try clear hfz7_4);(try clear hfz7_5);(try clear hfz7_6);(try clear hfz7_7);(try clear hfz7_8);(try clear hfz7_9);(try clear hfz9_0);(try clear hfz9_1);(try clear hfz9_2);(try clear hfz9_3);(try clear hfz9_4);(try clear hfz9_5);(try clear hfz9_6);(try clear hfz9_7);(try clear hfz9_8);(try clear hfz9_9)
              (try clear hx106_0);(try clear hx106_1);(try clear hx106_2);(try clear p106);(try clear p2);(try clear q106)
              obtain ⟨x4_5,rfl,HA,HK5,BK105,HB⟩:=hrel
              cases gk with
              | zero=>exact absurd HA.out (by simp [spec_l2ProtoOk.l1])
              | succ k5 =>
               have H:=HA.out
               clear HA
               simp only [spec_l2ProtoOk.l1] at H
               by_cases c43:x4_5<(l0_5.length:Int)
               ·rw [if_pos c43] at H
                have c43b0:decide (x4_5<(l0_5.length:Int))=true:=decide_eq_true c43
                clear c43
                by_cases c44:0≤x4_5
                ·rw [if_pos c44] at H
                 have c44b0:decide (0≤x4_5)=true:=decide_eq_true c44
                 clear c44
                 replace H:=Option.bind_eq_some_iff.mp H
                 obtain ⟨t109,A450,H⟩:=H
                 replace H:(if t109=true then (spec_l2ProtoOk.l1 k5 (wrap64 (x4_5+1)) a0_0 a0_1 a0_2 l0_3 l0_4 l0_5 a0_6 a0_7 l0_8 l0_9) else (some false))=some r:=H
                 have A45:=Ak A450;clear A450
                 by_cases c46:t109=true
                 ·subst c46
                  have H1:(spec_l2ProtoOk.l1 k5 (wrap64 (x4_5+1)) a0_0 a0_1 a0_2 l0_3 l0_4 l0_5 a0_6 a0_7 l0_8 l0_9)=some r:=by rw [if_pos rfl] at H;exact H
                  clear H;have H:=H1;clear H1
                  have H':=Ak H
                  clear H
                  obtain ⟨hcz47_0,hcz47_1,hcz47_2,hcz47_3,hcz47_4,hcz47_5,hcz47_6,hcz47_7,hcz47_8,hcz47_9,hfz47_0,hfz47_1,hfz47_2,hfz47_3,hfz47_4,hfz47_5,hfz47_6,hfz47_7,hfz47_8,hfz47_9⟩:=bk10 BK105.out
                  have p108:0≤(x4_5:Int):=of_decide_eq_true (by first|(with_reducible assumption)|assumption)
                  have q108:x4_5<(l0_5.length:Int):=of_decide_eq_true (by first|(with_reducible assumption)|assumption)
                  obtain ⟨ad108,e108,hx108_0,hx108_1⟩:=at_T89 HR0_5.out x4_5 p108 q108
                  cases e108
                  replace hx108_0:=(HB.out.cell (World.block_lt_of_cell? w _ hx108_0)).trans hx108_0
                  replace hx108_1:=(HB.out.cell (World.block_lt_of_cell? w _ hx108_1)).trans hx108_1
                  replace p108:=eq_true p108
                  replace q108:=eq_true q108
                  go_wp2_with (first|((with_reducible refine gate_callee (f:=56) rfl ?_);refine goesL_ (some 110) rfl rfl Try.func56 (by kernel_rfl) rfl #[.int .i64 ((rd_T89 l0_5 x4_5).f1)] rfl (by (try simp only [List.map_toArray,List.map_cons,List.map_nil]);first|done|rfl|(simp only [List.length_drop,List.length_take];rfl)) ?_;(with_reducible refine (spec_l2NumOk.calls ((rd_T89 l0_5 x4_5).f1) true _ A45.out).mono ?_);rintro e w' ⟨rfl,⟨nd,rfl⟩⟩;refine ⟨_,rfl,?_⟩))
                  go_roundg k5
                  case measure=>have:=HJ1.out;have:=HJ15.out;have:=HJ22.out;have:=HK4.out;have:=HK5.out;omega
                  case rel=>exact ⟨(wrap64 (x4_5+1)),(by first|rfl|(simp;done)|(simp [*];done)),H',⟨by have:=HJ1.out;have:=HJ15.out;have:=HJ22.out;have:=HK4.out;have:=HK5.out;omega⟩,⟨by (with_reducible repeat (first|refine blk_drewN ?_ _|refine blk_drew ?_|refine blk_alloc ?_ _));exact BK105.out⟩,⟨by repeat (first|(with_reducible first|exact HB.out|apply below_alloc|apply pw_below_drewN|apply below_drew1|refine below_set ?_ GE105.out)|exact HB.out)⟩⟩
                 ·replace c46:=Bool.eq_false_iff.mpr c46
                  subst c46
                  have H1:(some false)=some r:=by rw [if_neg (show ¬ (false=true) by decide)] at H;exact H
                  clear H;have H:=H1;clear H1
                  obtain rfl:=Option.some.inj H
                  obtain ⟨hcz48_0,hcz48_1,hcz48_2,hcz48_3,hcz48_4,hcz48_5,hcz48_6,hcz48_7,hcz48_8,hcz48_9,hfz48_0,hfz48_1,hfz48_2,hfz48_3,hfz48_4,hfz48_5,hfz48_6,hfz48_7,hfz48_8,hfz48_9⟩:=bk10 BK105.out
                  have p108:0≤(x4_5:Int):=of_decide_eq_true (by first|(with_reducible assumption)|assumption)
                  have q108:x4_5<(l0_5.length:Int):=of_decide_eq_true (by first|(with_reducible assumption)|assumption)
                  obtain ⟨ad108,e108,hx108_0,hx108_1⟩:=at_T89 HR0_5.out x4_5 p108 q108
                  cases e108
                  replace hx108_0:=(HB.out.cell (World.block_lt_of_cell? w _ hx108_0)).trans hx108_0
                  replace hx108_1:=(HB.out.cell (World.block_lt_of_cell? w _ hx108_1)).trans hx108_1
                  replace p108:=eq_true p108
                  replace q108:=eq_true q108
                  go_wp2_with (first|((with_reducible refine gate_callee (f:=56) rfl ?_);refine goesL_ (some 110) rfl rfl Try.func56 (by kernel_rfl) rfl #[.int .i64 ((rd_T89 l0_5 x4_5).f1)] rfl (by (try simp only [List.map_toArray,List.map_cons,List.map_nil]);first|done|rfl|(simp only [List.length_drop,List.length_take];rfl)) ?_;(with_reducible refine (spec_l2NumOk.calls ((rd_T89 l0_5 x4_5).f1) false _ A45.out).mono ?_);rintro e w' ⟨rfl,⟨nd,rfl⟩⟩;refine ⟨_,rfl,?_⟩))
                  go_ret
                  exact ⟨by first|rfl|(simp [errW_none,errW_some] <;> rfl)|(simp [*,errW_none,errW_some] <;> rfl),by repeat (first|(with_reducible first|exact HB.out|apply below_alloc|apply pw_below_drewN|apply below_drew1|refine below_set ?_ GE105.out)|exact HB.out)⟩
                ·rw [if_neg c44] at H
                 exact absurd H (by simp)
               ·rw [if_neg c43] at H
                have c43b0:decide (x4_5<(l0_5.length:Int))=false:=decide_eq_false c43
                clear c43
                have H':=Ak H
                clear H
                obtain ⟨hcz49_0,hcz49_1,hcz49_2,hcz49_3,hcz49_4,hcz49_5,hcz49_6,hcz49_7,hcz49_8,hcz49_9,hfz49_0,hfz49_1,hfz49_2,hfz49_3,hfz49_4,hfz49_5,hfz49_6,hfz49_7,hfz49_8,hfz49_9⟩:=bk10 BK105.out
                go_wp2
                go_loopg [5] k5 (fun kq v5 w'=>∃ (x5_6:Int),v5=.int .i64 x5_6∧Aside0 (spec_l2ProtoOk.l2 kq x5_6 a0_0 a0_1 a0_2 l0_3 l0_4 l0_5 a0_6 a0_7 l0_8 l0_9=some r)∧Aside0 (kq≤k5)∧Aside0 (w'.heap[gb105]?=some (.cells #[.int .i64 a0_0,.bool a0_1,.int .i64 a0_2,(.slice A0_3 l0_3.length c0_3),(.slice A0_4 l0_4.length c0_4),(.slice A0_5 l0_5.length c0_5),.int .i64 a0_6,.string a0_7,(.slice A0_8 l0_8.length c0_8),(.slice A0_9 l0_9.length c0_9)] 44 (0,0)))∧Aside0 (Below w.heap.size w w'))
                case atStart=>exact ⟨(0),(by first|rfl|(simp;done)|(simp [*];done)),H',⟨Nat.le_refl _⟩,⟨by (with_reducible repeat (first|refine blk_drewN ?_ _|refine blk_drew ?_|refine blk_alloc ?_ _));exact BK105.out⟩,⟨by repeat (first|(with_reducible first|exact HB.out|apply below_alloc|apply pw_below_drewN|apply below_drew1|refine below_set ?_ GE105.out)|exact HB.out)⟩⟩
                case round =>
                 clear H';(try clear c1);(try clear p1);(try clear q1);(try clear hx1);(try clear c2);(try clear p2);(try clear c3);(try clear c4);(try clear c4b0);(try clear c5);(try clear c6);(try clear c6b0);(try clear p6);(try clear c8);(try clear c8b0);(try clear c10);(try clear c10b0);(try clear p10);(try clear q10);(try clear hx10);(try clear c12);(try clear c12b0)
                 (try clear c12b1);(try clear c15);(try clear c17);(try clear c17b0);(try clear c17b1);(try clear c19);(try clear c19b0);(try clear c19b1);(try clear c22);(try clear c24);(try clear c24b0);(try clear c24b1);(try clear c25);(try clear c25b0);(try clear c25b1);(try clear c25b2);(try clear c26);(try clear c26b0);(try clear c26b1);(try clear c30);(try clear c30b0)
                 (try clear c30b1);(try clear c33);(try clear c34);(try clear c34b0);(try clear c35);(try clear c35b0);(try clear c37);(try clear c43);(try clear c43b0);(try clear c44);(try clear c44b0);(try clear c46);(try clear hcz11_0);(try clear hcz11_1);(try clear hcz11_2);(try clear hcz11_3);(try clear hcz11_4);(try clear hcz11_5);(try clear hcz11_6);(try clear hcz11_7)
                 (try clear hcz11_8);(try clear hcz11_9);(try clear hcz13_0);(try clear hcz13_1);(try clear hcz13_2);(try clear hcz13_3);(try clear hcz13_4);(try clear hcz13_5);(try clear hcz13_6);(try clear hcz13_7);(try clear hcz13_8);(try clear hcz13_9);(try clear hcz14_0);(try clear hcz14_1);(try clear hcz14_2);(try clear hcz14_3);(try clear hcz14_4);(try clear hcz14_5)
                 (try clear hcz14_6);(try clear hcz14_7);(try clear hcz14_8);(try clear hcz14_9);(try clear hcz18_0);(try clear hcz18_1);(try clear hcz18_2);(try clear hcz18_3);(try clear hcz18_4);(try clear hcz18_5);(try clear hcz18_6);(try clear hcz18_7);(try clear hcz18_8);(try clear hcz18_9);(try clear hcz20_0);(try clear hcz20_1);(try clear hcz20_2);(try clear hcz20_3)
                 (try clear hcz20_4);(try clear hcz20_5);(try clear hcz20_6);(try clear hcz20_7);(try clear hcz20_8);(try clear hcz20_9);(try clear hcz21_0);(try clear hcz21_1);(try clear hcz21_2);(try clear hcz21_3);(try clear hcz21_4);(try clear hcz21_5);(try clear hcz21_6);(try clear hcz21_7);(try clear hcz21_8);(try clear hcz21_9);(try clear hcz27_0);(try clear hcz27_1)
                 (try clear hcz27_2);(try clear hcz27_3);(try clear hcz27_4);(try clear hcz27_5);(try clear hcz27_6);(try clear hcz27_7);(try clear hcz27_8);(try clear hcz27_9);(try clear hcz28_0);(try clear hcz28_1);(try clear hcz28_2);(try clear hcz28_3);(try clear hcz28_4);(try clear hcz28_5);(try clear hcz28_6);(try clear hcz28_7);(try clear hcz28_8);(try clear hcz28_9)
                 (try clear hcz29_0);(try clear hcz29_1);(try clear hcz29_2);(try clear hcz29_3);(try clear hcz29_4);(try clear hcz29_5);(try clear hcz29_6);(try clear hcz29_7);(try clear hcz29_8);(try clear hcz29_9);(try clear hcz31_0);(try clear hcz31_1);(try clear hcz31_2);(try clear hcz31_3);(try clear hcz31_4);(try clear hcz31_5);(try clear hcz31_6);(try clear hcz31_7)
                 (try clear hcz31_8);(try clear hcz31_9);(try clear hcz32_0);(try clear hcz32_1);(try clear hcz32_2);(try clear hcz32_3);(try clear hcz32_4);(try clear hcz32_5);(try clear hcz32_6);(try clear hcz32_7);(try clear hcz32_8);(try clear hcz32_9);(try clear hcz38_0);(try clear hcz38_1);(try clear hcz38_2);(try clear hcz38_3);(try clear hcz38_4);(try clear hcz38_5)
                 (try clear hcz38_6);(try clear hcz38_7);(try clear hcz38_8);(try clear hcz38_9);(try clear hcz40_0);(try clear hcz40_1);(try clear hcz40_2);(try clear hcz40_3);(try clear hcz40_4);(try clear hcz40_5);(try clear hcz40_6);(try clear hcz40_7);(try clear hcz40_8);(try clear hcz40_9);(try clear hcz42_0);(try clear hcz42_1);(try clear hcz42_2);(try clear hcz42_3)
                 (try clear hcz42_4);(try clear hcz42_5);(try clear hcz42_6);(try clear hcz42_7);(try clear hcz42_8);(try clear hcz42_9);(try clear hcz47_0);(try clear hcz47_1);(try clear hcz47_2);(try clear hcz47_3);(try clear hcz47_4);(try clear hcz47_5);(try clear hcz47_6);(try clear hcz47_7);(try clear hcz47_8);(try clear hcz47_9);(try clear hcz48_0);(try clear hcz48_1)
                 (try clear hcz48_2);(try clear hcz48_3);(try clear hcz48_4);(try clear hcz48_5);(try clear hcz48_6);(try clear hcz48_7);(try clear hcz48_8);(try clear hcz48_9);(try clear hcz49_0);(try clear hcz49_1);(try clear hcz49_2);(try clear hcz49_3);(try clear hcz49_4);(try clear hcz49_5);(try clear hcz49_6);(try clear hcz49_7);(try clear hcz49_8);(try clear hcz49_9)
                 (try clear hcz5_0);(try clear hcz5_1);(try clear hcz5_2);(try clear hcz5_3);(try clear hcz5_4);(try clear hcz5_5);(try clear hcz5_6);(try clear hcz5_7);(try clear hcz5_8);(try clear hcz5_9);(try clear hcz7_0);(try clear hcz7_1);(try clear hcz7_2);(try clear hcz7_3);(try clear hcz7_4);(try clear hcz7_5);(try clear hcz7_6);(try clear hcz7_7);(try clear hcz7_8)
                 (try clear hcz7_9);(try clear hcz9_0);(try clear hcz9_1);(try clear hcz9_2);(try clear hcz9_3);(try clear hcz9_4);(try clear hcz9_5);(try clear hcz9_6);(try clear hcz9_7);(try clear hcz9_8);(try clear hcz9_9);(try clear hfz11_0);(try clear hfz11_1);(try clear hfz11_2);(try clear hfz11_3);(try clear hfz11_4);(try clear hfz11_5);(try clear hfz11_6);(try clear hfz11_7)
                 (try clear hfz11_8);(try clear hfz11_9);(try clear hfz13_0);(try clear hfz13_1);(try clear hfz13_2);(try clear hfz13_3);(try clear hfz13_4);(try clear hfz13_5);(try clear hfz13_6);(try clear hfz13_7);(try clear hfz13_8);(try clear hfz13_9);(try clear hfz14_0);(try clear hfz14_1);(try clear hfz14_2);(try clear hfz14_3);(try clear hfz14_4);(try clear hfz14_5)
                 (try clear hfz14_6);(try clear hfz14_7);(try clear hfz14_8);(try clear hfz14_9);(try clear hfz18_0);(try clear hfz18_1);(try clear hfz18_2);(try clear hfz18_3);(try clear hfz18_4);(try clear hfz18_5);(try clear hfz18_6);(try clear hfz18_7);(try clear hfz18_8);(try clear hfz18_9);(try clear hfz20_0);(try clear hfz20_1);(try clear hfz20_2);(try clear hfz20_3)
                 (try clear hfz20_4);(try clear hfz20_5);(try clear hfz20_6);(try clear hfz20_7);(try clear hfz20_8);(try clear hfz20_9);(try clear hfz21_0);(try clear hfz21_1);(try clear hfz21_2);(try clear hfz21_3);(try clear hfz21_4);(try clear hfz21_5);(try clear hfz21_6);(try clear hfz21_7);(try clear hfz21_8);(try clear hfz21_9);(try clear hfz27_0);(try clear hfz27_1)
                 (try clear hfz27_2);(try clear hfz27_3);(try clear hfz27_4);(try clear hfz27_5);(try clear hfz27_6);(try clear hfz27_7);(try clear hfz27_8);(try clear hfz27_9);(try clear hfz28_0);(try clear hfz28_1);(try clear hfz28_2);(try clear hfz28_3);(try clear hfz28_4);(try clear hfz28_5);(try clear hfz28_6);(try clear hfz28_7);(try clear hfz28_8);(try clear hfz28_9)
                 (try clear hfz29_0);(try clear hfz29_1);(try clear hfz29_2);(try clear hfz29_3);(try clear hfz29_4);(try clear hfz29_5);(try clear hfz29_6);(try clear hfz29_7);(try clear hfz29_8);(try clear hfz29_9);(try clear hfz31_0);(try clear hfz31_1);(try clear hfz31_2);(try clear hfz31_3);(try clear hfz31_4);(try clear hfz31_5);(try clear hfz31_6);(try clear hfz31_7)
                 (try clear hfz31_8);(try clear hfz31_9);(try clear hfz32_0);(try clear hfz32_1);(try clear hfz32_2);(try clear hfz32_3);(try clear hfz32_4);(try clear hfz32_5);(try clear hfz32_6);(try clear hfz32_7);(try clear hfz32_8);(try clear hfz32_9);(try clear hfz38_0);(try clear hfz38_1);(try clear hfz38_2);(try clear hfz38_3);(try clear hfz38_4);(try clear hfz38_5)
                 (try clear hfz38_6);(try clear hfz38_7);(try clear hfz38_8);(try clear hfz38_9);(try clear hfz40_0);(try clear hfz40_1);(try clear hfz40_2);(try clear hfz40_3);(try clear hfz40_4);(try clear hfz40_5);(try clear hfz40_6);(try clear hfz40_7);(try clear hfz40_8);(try clear hfz40_9);(try clear hfz42_0);(try clear hfz42_1);(try clear hfz42_2);(try clear hfz42_3)
                 (try clear hfz42_4);(try clear hfz42_5);(try clear hfz42_6);(try clear hfz42_7);(try clear hfz42_8);(try clear hfz42_9);(try clear hfz47_0);(try clear hfz47_1);(try clear hfz47_2);(try clear hfz47_3);(try clear hfz47_4);(try clear hfz47_5);(try clear hfz47_6);(try clear hfz47_7);(try clear hfz47_8);(try clear hfz47_9);(try clear hfz48_0);(try clear hfz48_1)
                 (try clear hfz48_2);(try clear hfz48_3);(try clear hfz48_4);(try clear hfz48_5);(try clear hfz48_6);(try clear hfz48_7);(try clear hfz48_8);(try clear hfz48_9);(try clear hfz49_0);(try clear hfz49_1);(try clear hfz49_2);(try clear hfz49_3);(try clear hfz49_4);(try clear hfz49_5);(try clear hfz49_6);(try clear hfz49_7);(try clear hfz49_8);(try clear hfz49_9)
                 (try clear hfz5_0);(try clear hfz5_1);(try clear hfz5_2);(try clear hfz5_3);(try clear hfz5_4);(try clear hfz5_5);(try clear hfz5_6);(try clear hfz5_7);(try clear hfz5_8);(try clear hfz5_9);(try clear hfz7_0);(try clear hfz7_1);(try clear hfz7_2);(try clear hfz7_3);(try clear hfz7_4);(try clear hfz7_5);(try clear hfz7_6);(try clear hfz7_7);(try clear hfz7_8)
                 (try clear hfz7_9);(try clear hfz9_0);(try clear hfz9_1);(try clear hfz9_2);(try clear hfz9_3);(try clear hfz9_4);(try clear hfz9_5);(try clear hfz9_6);(try clear hfz9_7);(try clear hfz9_8);(try clear hfz9_9);(try clear hx106_0);(try clear hx106_1);(try clear hx106_2);(try clear hx108_0);(try clear hx108_1);(try clear p1);(try clear p10);(try clear p106)
                 (try clear p108);(try clear p2);(try clear p6);(try clear q1);(try clear q10);(try clear q106);(try clear q108)
                 obtain ⟨x5_6,rfl,HA,HK6,BK105,HB⟩:=hrel
                 cases gk with
                 | zero=>exact absurd HA.out (by simp [spec_l2ProtoOk.l2])
                 | succ k6 =>
                  have H:=HA.out
                  clear HA
                  simp only [spec_l2ProtoOk.l2] at H
                  by_cases c50:x5_6<(l0_8.length:Int)
                  ·rw [if_pos c50] at H
                   have c50b0:decide (x5_6<(l0_8.length:Int))=true:=decide_eq_true c50
                   clear c50
                   by_cases c51:0≤x5_6
                   ·rw [if_pos c51] at H
                    have c51b0:decide (0≤x5_6)=true:=decide_eq_true c51
                    clear c51
                    replace H:=Option.bind_eq_some_iff.mp H
                    obtain ⟨t111,A520,H⟩:=H
                    replace H:(if t111=true then (spec_l2ProtoOk.l2 k6 (wrap64 (x5_6+1)) a0_0 a0_1 a0_2 l0_3 l0_4 l0_5 a0_6 a0_7 l0_8 l0_9) else (some false))=some r:=H
                    have A52:=Ak A520;clear A520
                    by_cases c53:t111=true
                    ·subst c53
                     have H1:(spec_l2ProtoOk.l2 k6 (wrap64 (x5_6+1)) a0_0 a0_1 a0_2 l0_3 l0_4 l0_5 a0_6 a0_7 l0_8 l0_9)=some r:=by rw [if_pos rfl] at H;exact H
                     clear H;have H:=H1;clear H1
                     have H':=Ak H
                     clear H
                     obtain ⟨hcz54_0,hcz54_1,hcz54_2,hcz54_3,hcz54_4,hcz54_5,hcz54_6,hcz54_7,hcz54_8,hcz54_9,hfz54_0,hfz54_1,hfz54_2,hfz54_3,hfz54_4,hfz54_5,hfz54_6,hfz54_7,hfz54_8,hfz54_9⟩:=bk10 BK105.out
                     have p110:0≤(x5_6:Int):=of_decide_eq_true (by first|(with_reducible assumption)|assumption)
                     have q110:x5_6<(l0_8.length:Int):=of_decide_eq_true (by first|(with_reducible assumption)|assumption)
                     obtain ⟨ad110,e110,hx110_0⟩:=Kd.at_int HR0_8.out x5_6 p110 q110
                     cases e110
                     replace hx110_0:=(HB.out.cell (World.block_lt_of_cell? w _ hx110_0)).trans hx110_0
                     replace p110:=eq_true p110
                     replace q110:=eq_true q110
                     go_wp2_with (first|((with_reducible refine gate_callee (f:=56) rfl ?_);refine goesL_ (some 124) rfl rfl Try.func56 (by kernel_rfl) rfl #[.int .i64 (rd l0_8 x5_6)] rfl (by (try simp only [List.map_toArray,List.map_cons,List.map_nil]);first|done|rfl|(simp only [List.length_drop,List.length_take];rfl)) ?_;(with_reducible refine (spec_l2NumOk.calls (rd l0_8 x5_6) true _ A52.out).mono ?_);rintro e w' ⟨rfl,⟨nd,rfl⟩⟩;refine ⟨_,rfl,?_⟩))
                     go_roundg k6
                     case measure=>have:=HJ1.out;have:=HJ15.out;have:=HJ22.out;have:=HK4.out;have:=HK5.out;have:=HK6.out;omega
                     case rel=>exact ⟨(wrap64 (x5_6+1)),(by first|rfl|(simp;done)|(simp [*];done)),H',⟨by have:=HJ1.out;have:=HJ15.out;have:=HJ22.out;have:=HK4.out;have:=HK5.out;have:=HK6.out;omega⟩,⟨by (with_reducible repeat (first|refine blk_drewN ?_ _|refine blk_drew ?_|refine blk_alloc ?_ _));exact BK105.out⟩,⟨by repeat (first|(with_reducible first|exact HB.out|apply below_alloc|apply pw_below_drewN|apply below_drew1|refine below_set ?_ GE105.out)|exact HB.out)⟩⟩
                    ·replace c53:=Bool.eq_false_iff.mpr c53
                     subst c53
                     have H1:(some false)=some r:=by rw [if_neg (show ¬ (false=true) by decide)] at H;exact H
                     clear H;have H:=H1;clear H1
                     obtain rfl:=Option.some.inj H
                     obtain ⟨hcz55_0,hcz55_1,hcz55_2,hcz55_3,hcz55_4,hcz55_5,hcz55_6,hcz55_7,hcz55_8,hcz55_9,hfz55_0,hfz55_1,hfz55_2,hfz55_3,hfz55_4,hfz55_5,hfz55_6,hfz55_7,hfz55_8,hfz55_9⟩:=bk10 BK105.out
                     have p110:0≤(x5_6:Int):=of_decide_eq_true (by first|(with_reducible assumption)|assumption)
                     have q110:x5_6<(l0_8.length:Int):=of_decide_eq_true (by first|(with_reducible assumption)|assumption)
                     obtain ⟨ad110,e110,hx110_0⟩:=Kd.at_int HR0_8.out x5_6 p110 q110
                     cases e110
                     replace hx110_0:=(HB.out.cell (World.block_lt_of_cell? w _ hx110_0)).trans hx110_0
                     replace p110:=eq_true p110
                     replace q110:=eq_true q110
                     go_wp2_with (first|((with_reducible refine gate_callee (f:=56) rfl ?_);refine goesL_ (some 124) rfl rfl Try.func56 (by kernel_rfl) rfl #[.int .i64 (rd l0_8 x5_6)] rfl (by (try simp only [List.map_toArray,List.map_cons,List.map_nil]);first|done|rfl|(simp only [List.length_drop,List.length_take];rfl)) ?_;(with_reducible refine (spec_l2NumOk.calls (rd l0_8 x5_6) false _ A52.out).mono ?_);rintro e w' ⟨rfl,⟨nd,rfl⟩⟩;refine ⟨_,rfl,?_⟩))
                     go_ret
                     exact ⟨by first|rfl|(simp [errW_none,errW_some] <;> rfl)|(simp [*,errW_none,errW_some] <;> rfl),by repeat (first|(with_reducible first|exact HB.out|apply below_alloc|apply pw_below_drewN|apply below_drew1|refine below_set ?_ GE105.out)|exact HB.out)⟩
                   ·rw [if_neg c51] at H
                    exact absurd H (by simp)
                  ·rw [if_neg c50] at H
                   have c50b0:decide (x5_6<(l0_8.length:Int))=false:=decide_eq_false c50
                   clear c50
                   have H':=Ak H
                   clear H
                   obtain ⟨hcz56_0,hcz56_1,hcz56_2,hcz56_3,hcz56_4,hcz56_5,hcz56_6,hcz56_7,hcz56_8,hcz56_9,hfz56_0,hfz56_1,hfz56_2,hfz56_3,hfz56_4,hfz56_5,hfz56_6,hfz56_7,hfz56_8,hfz56_9⟩:=bk10 BK105.out
                   go_wp2
                   go_loopg [6] k6 (fun kq v6 w'=>∃ (x6_7:Int),v6=.int .i64 x6_7∧Aside0 (spec_l2ProtoOk.l3 kq x6_7 a0_0 a0_1 a0_2 l0_3 l0_4 l0_5 a0_6 a0_7 l0_8 l0_9=some r)∧Aside0 (kq≤k6)∧Aside0 (w'.heap[gb105]?=some (.cells #[.int .i64 a0_0,.bool a0_1,.int .i64 a0_2,(.slice A0_3 l0_3.length c0_3),(.slice A0_4 l0_4.length c0_4),(.slice A0_5 l0_5.length c0_5),.int .i64 a0_6,.string a0_7,(.slice A0_8 l0_8.length c0_8),(.slice A0_9 l0_9.length c0_9)] 44 (0,0)))∧Aside0 (Below w.heap.size w w'))
                   case atStart=>exact ⟨(0),(by first|rfl|(simp;done)|(simp [*];done)),H',⟨Nat.le_refl _⟩,⟨by (with_reducible repeat (first|refine blk_drewN ?_ _|refine blk_drew ?_|refine blk_alloc ?_ _));exact BK105.out⟩,⟨by repeat (first|(with_reducible first|exact HB.out|apply below_alloc|apply pw_below_drewN|apply below_drew1|refine below_set ?_ GE105.out)|exact HB.out)⟩⟩
                   case round =>
                    clear H';(try clear c1);(try clear p1);(try clear q1);(try clear hx1);(try clear c2);(try clear p2);(try clear c3);(try clear c4);(try clear c4b0);(try clear c5);(try clear c6);(try clear c6b0);(try clear p6);(try clear c8);(try clear c8b0);(try clear c10);(try clear c10b0);(try clear p10);(try clear q10);(try clear hx10);(try clear p11)
                    (try clear q11);(try clear hx11);(try clear c12);(try clear c12b0);(try clear c12b1);(try clear c15);(try clear c17);(try clear c17b0);(try clear c17b1);(try clear c19);(try clear c19b0);(try clear c19b1);(try clear c22);(try clear c24);(try clear c24b0);(try clear c24b1);(try clear c25);(try clear c25b0);(try clear c25b1);(try clear c25b2)
                    (try clear c26);(try clear c26b0);(try clear c26b1);(try clear c30);(try clear c30b0);(try clear c30b1);(try clear c33);(try clear c34);(try clear c34b0);(try clear c35);(try clear c35b0);(try clear c37);(try clear c43);(try clear c43b0);(try clear c44);(try clear c44b0);(try clear c46);(try clear c50);(try clear c50b0);(try clear c51);(try clear c51b0)
                    (try clear c53);(try clear c56);(try clear hcz11_0);(try clear hcz11_1);(try clear hcz11_2);(try clear hcz11_3);(try clear hcz11_4);(try clear hcz11_5);(try clear hcz11_6);(try clear hcz11_7);(try clear hcz11_8);(try clear hcz11_9);(try clear hcz13_0);(try clear hcz13_1);(try clear hcz13_2);(try clear hcz13_3);(try clear hcz13_4);(try clear hcz13_5)
                    (try clear hcz13_6);(try clear hcz13_7);(try clear hcz13_8);(try clear hcz13_9);(try clear hcz14_0);(try clear hcz14_1);(try clear hcz14_2);(try clear hcz14_3);(try clear hcz14_4);(try clear hcz14_5);(try clear hcz14_6);(try clear hcz14_7);(try clear hcz14_8);(try clear hcz14_9);(try clear hcz18_0);(try clear hcz18_1);(try clear hcz18_2);(try clear hcz18_3)
                    (try clear hcz18_4);(try clear hcz18_5);(try clear hcz18_6);(try clear hcz18_7);(try clear hcz18_8);(try clear hcz18_9);(try clear hcz20_0);(try clear hcz20_1);(try clear hcz20_2);(try clear hcz20_3);(try clear hcz20_4);(try clear hcz20_5);(try clear hcz20_6);(try clear hcz20_7);(try clear hcz20_8);(try clear hcz20_9);(try clear hcz21_0);(try clear hcz21_1)
                    (try clear hcz21_2);(try clear hcz21_3);(try clear hcz21_4);(try clear hcz21_5);(try clear hcz21_6);(try clear hcz21_7);(try clear hcz21_8);(try clear hcz21_9);(try clear hcz27_0);(try clear hcz27_1);(try clear hcz27_2);(try clear hcz27_3);(try clear hcz27_4);(try clear hcz27_5);(try clear hcz27_6);(try clear hcz27_7);(try clear hcz27_8);(try clear hcz27_9)
                    (try clear hcz28_0);(try clear hcz28_1);(try clear hcz28_2);(try clear hcz28_3);(try clear hcz28_4);(try clear hcz28_5);(try clear hcz28_6);(try clear hcz28_7);(try clear hcz28_8);(try clear hcz28_9);(try clear hcz29_0);(try clear hcz29_1);(try clear hcz29_2);(try clear hcz29_3);(try clear hcz29_4);(try clear hcz29_5);(try clear hcz29_6);(try clear hcz29_7)
                    (try clear hcz29_8);(try clear hcz29_9);(try clear hcz31_0);(try clear hcz31_1);(try clear hcz31_2);(try clear hcz31_3);(try clear hcz31_4);(try clear hcz31_5);(try clear hcz31_6);(try clear hcz31_7);(try clear hcz31_8);(try clear hcz31_9);(try clear hcz32_0);(try clear hcz32_1);(try clear hcz32_2);(try clear hcz32_3);(try clear hcz32_4);(try clear hcz32_5)
                    (try clear hcz32_6);(try clear hcz32_7);(try clear hcz32_8);(try clear hcz32_9);(try clear hcz38_0);(try clear hcz38_1);(try clear hcz38_2);(try clear hcz38_3);(try clear hcz38_4);(try clear hcz38_5);(try clear hcz38_6);(try clear hcz38_7);(try clear hcz38_8);(try clear hcz38_9);(try clear hcz40_0);(try clear hcz40_1);(try clear hcz40_2);(try clear hcz40_3)
                    (try clear hcz40_4);(try clear hcz40_5);(try clear hcz40_6);(try clear hcz40_7);(try clear hcz40_8);(try clear hcz40_9);(try clear hcz42_0);(try clear hcz42_1);(try clear hcz42_2);(try clear hcz42_3);(try clear hcz42_4);(try clear hcz42_5);(try clear hcz42_6);(try clear hcz42_7);(try clear hcz42_8);(try clear hcz42_9);(try clear hcz47_0);(try clear hcz47_1)
                    (try clear hcz47_2);(try clear hcz47_3);(try clear hcz47_4);(try clear hcz47_5);(try clear hcz47_6);(try clear hcz47_7);(try clear hcz47_8);(try clear hcz47_9);(try clear hcz48_0);(try clear hcz48_1);(try clear hcz48_2);(try clear hcz48_3);(try clear hcz48_4);(try clear hcz48_5);(try clear hcz48_6);(try clear hcz48_7);(try clear hcz48_8);(try clear hcz48_9)
                    (try clear hcz49_0);(try clear hcz49_1);(try clear hcz49_2);(try clear hcz49_3);(try clear hcz49_4);(try clear hcz49_5);(try clear hcz49_6);(try clear hcz49_7);(try clear hcz49_8);(try clear hcz49_9);(try clear hcz54_0);(try clear hcz54_1);(try clear hcz54_2);(try clear hcz54_3);(try clear hcz54_4);(try clear hcz54_5);(try clear hcz54_6);(try clear hcz54_7)
                    (try clear hcz54_8);(try clear hcz54_9);(try clear hcz55_0);(try clear hcz55_1);(try clear hcz55_2);(try clear hcz55_3);(try clear hcz55_4);(try clear hcz55_5);(try clear hcz55_6);(try clear hcz55_7);(try clear hcz55_8);(try clear hcz55_9);(try clear hcz56_0);(try clear hcz56_1);(try clear hcz56_2);(try clear hcz56_3);(try clear hcz56_4);(try clear hcz56_5)
                    (try clear hcz56_6);(try clear hcz56_7);(try clear hcz56_8);(try clear hcz56_9);(try clear hcz5_0);(try clear hcz5_1);(try clear hcz5_2);(try clear hcz5_3);(try clear hcz5_4);(try clear hcz5_5);(try clear hcz5_6);(try clear hcz5_7);(try clear hcz5_8);(try clear hcz5_9);(try clear hcz7_0);(try clear hcz7_1);(try clear hcz7_2);(try clear hcz7_3)
                    (try clear hcz7_4);(try clear hcz7_5);(try clear hcz7_6);(try clear hcz7_7);(try clear hcz7_8);(try clear hcz7_9);(try clear hcz9_0);(try clear hcz9_1);(try clear hcz9_2);(try clear hcz9_3);(try clear hcz9_4);(try clear hcz9_5);(try clear hcz9_6);(try clear hcz9_7);(try clear hcz9_8);(try clear hcz9_9);(try clear hfz11_0);(try clear hfz11_1)
                    (try clear hfz11_2);(try clear hfz11_3);(try clear hfz11_4);(try clear hfz11_5);(try clear hfz11_6);(try clear hfz11_7);(try clear hfz11_8);(try clear hfz11_9);(try clear hfz13_0);(try clear hfz13_1);(try clear hfz13_2);(try clear hfz13_3);(try clear hfz13_4);(try clear hfz13_5);(try clear hfz13_6);(try clear hfz13_7);(try clear hfz13_8);(try clear hfz13_9)
                    (try clear hfz14_0);(try clear hfz14_1);(try clear hfz14_2);(try clear hfz14_3);(try clear hfz14_4);(try clear hfz14_5);(try clear hfz14_6);(try clear hfz14_7);(try clear hfz14_8);(try clear hfz14_9);(try clear hfz18_0);(try clear hfz18_1);(try clear hfz18_2);(try clear hfz18_3);(try clear hfz18_4);(try clear hfz18_5);(try clear hfz18_6);(try clear hfz18_7)
                    (try clear hfz18_8);(try clear hfz18_9);(try clear hfz20_0);(try clear hfz20_1);(try clear hfz20_2);(try clear hfz20_3);(try clear hfz20_4);(try clear hfz20_5);(try clear hfz20_6);(try clear hfz20_7);(try clear hfz20_8);(try clear hfz20_9);(try clear hfz21_0);(try clear hfz21_1);(try clear hfz21_2);(try clear hfz21_3);(try clear hfz21_4);(try clear hfz21_5)
                    (try clear hfz21_6);(try clear hfz21_7);(try clear hfz21_8);(try clear hfz21_9);(try clear hfz27_0);(try clear hfz27_1);(try clear hfz27_2);(try clear hfz27_3);(try clear hfz27_4);(try clear hfz27_5);(try clear hfz27_6);(try clear hfz27_7);(try clear hfz27_8);(try clear hfz27_9);(try clear hfz28_0);(try clear hfz28_1);(try clear hfz28_2);(try clear hfz28_3)
                    (try clear hfz28_4);(try clear hfz28_5);(try clear hfz28_6);(try clear hfz28_7);(try clear hfz28_8);(try clear hfz28_9);(try clear hfz29_0);(try clear hfz29_1);(try clear hfz29_2);(try clear hfz29_3);(try clear hfz29_4);(try clear hfz29_5);(try clear hfz29_6);(try clear hfz29_7);(try clear hfz29_8);(try clear hfz29_9);(try clear hfz31_0);(try clear hfz31_1)
                    (try clear hfz31_2);(try clear hfz31_3);(try clear hfz31_4);(try clear hfz31_5);(try clear hfz31_6);(try clear hfz31_7);(try clear hfz31_8);(try clear hfz31_9);(try clear hfz32_0);(try clear hfz32_1);(try clear hfz32_2);(try clear hfz32_3);(try clear hfz32_4);(try clear hfz32_5);(try clear hfz32_6);(try clear hfz32_7);(try clear hfz32_8);(try clear hfz32_9)
                    (try clear hfz38_0);(try clear hfz38_1);(try clear hfz38_2);(try clear hfz38_3);(try clear hfz38_4);(try clear hfz38_5);(try clear hfz38_6);(try clear hfz38_7);(try clear hfz38_8);(try clear hfz38_9);(try clear hfz40_0);(try clear hfz40_1);(try clear hfz40_2);(try clear hfz40_3);(try clear hfz40_4);(try clear hfz40_5);(try clear hfz40_6);(try clear hfz40_7)
                    (try clear hfz40_8);(try clear hfz40_9);(try clear hfz42_0);(try clear hfz42_1);(try clear hfz42_2);(try clear hfz42_3);(try clear hfz42_4);(try clear hfz42_5);(try clear hfz42_6);(try clear hfz42_7);(try clear hfz42_8);(try clear hfz42_9);(try clear hfz47_0);(try clear hfz47_1);(try clear hfz47_2);(try clear hfz47_3);(try clear hfz47_4);(try clear hfz47_5)
                    (try clear hfz47_6);(try clear hfz47_7);(try clear hfz47_8);(try clear hfz47_9);(try clear hfz48_0);(try clear hfz48_1);(try clear hfz48_2);(try clear hfz48_3);(try clear hfz48_4);(try clear hfz48_5);(try clear hfz48_6);(try clear hfz48_7);(try clear hfz48_8);(try clear hfz48_9);(try clear hfz49_0);(try clear hfz49_1);(try clear hfz49_2);(try clear hfz49_3)
                    (try clear hfz49_4);(try clear hfz49_5);(try clear hfz49_6);(try clear hfz49_7);(try clear hfz49_8);(try clear hfz49_9);(try clear hfz54_0);(try clear hfz54_1);(try clear hfz54_2);(try clear hfz54_3);(try clear hfz54_4);(try clear hfz54_5);(try clear hfz54_6);(try clear hfz54_7);(try clear hfz54_8);(try clear hfz54_9);(try clear hfz55_0);(try clear hfz55_1)
                    (try clear hfz55_2);(try clear hfz55_3);(try clear hfz55_4);(try clear hfz55_5);(try clear hfz55_6);(try clear hfz55_7);(try clear hfz55_8);(try clear hfz55_9);(try clear hfz56_0);(try clear hfz56_1);(try clear hfz56_2);(try clear hfz56_3);(try clear hfz56_4);(try clear hfz56_5);(try clear hfz56_6);(try clear hfz56_7);(try clear hfz56_8);(try clear hfz56_9)
                    (try clear hfz5_0);(try clear hfz5_1);(try clear hfz5_2);(try clear hfz5_3);(try clear hfz5_4);(try clear hfz5_5);(try clear hfz5_6);(try clear hfz5_7);(try clear hfz5_8);(try clear hfz5_9);(try clear hfz7_0);(try clear hfz7_1);(try clear hfz7_2);(try clear hfz7_3);(try clear hfz7_4);(try clear hfz7_5);(try clear hfz7_6);(try clear hfz7_7);(try clear hfz7_8)
                    (try clear hfz7_9);(try clear hfz9_0);(try clear hfz9_1);(try clear hfz9_2);(try clear hfz9_3);(try clear hfz9_4);(try clear hfz9_5);(try clear hfz9_6);(try clear hfz9_7);(try clear hfz9_8);(try clear hfz9_9);(try clear hx106_0);(try clear hx106_1);(try clear hx106_2);(try clear hx108_0);(try clear hx108_1);(try clear hx110_0);(try clear p1)
                    (try clear p10);(try clear p106);(try clear p108);(try clear p110);(try clear p2);(try clear p6);(try clear q1);(try clear q10);(try clear q106);(try clear q108);(try clear q110)
                    obtain ⟨x6_7,rfl,HA,HK7,BK105,HB⟩:=hrel
                    cases gk with
                    | zero=>exact absurd HA.out (by simp [spec_l2ProtoOk.l3])
                    | succ k7 =>
                     have H:=HA.out
                     clear HA
                     simp only [spec_l2ProtoOk.l3] at H
                     by_cases c57:x6_7<(l0_9.length:Int)
                     ·rw [if_pos c57] at H
                      have c57b0:decide (x6_7<(l0_9.length:Int))=true:=decide_eq_true c57
                      clear c57
                      by_cases c58:0≤x6_7
                      ·rw [if_pos c58] at H
                       have c58b0:decide (0≤x6_7)=true:=decide_eq_true c58
                       clear c58
                       by_cases c59:((rdOf ByteArray.empty l0_9 x6_7).size:Int) > 1000
                       ·rw [if_pos c59] at H
                        have c59b0:decide (1000<((rdOf ByteArray.empty l0_9 x6_7).size:Int))=true:=decide_eq_true c59
                        have c59b1:decide (1000<(rdOf ByteArray.empty l0_9 x6_7).size)=true:=decide_eq_true (by omega)
                        clear c59
                        obtain rfl:=Option.some.inj H
                        obtain ⟨hcz60_0,hcz60_1,hcz60_2,hcz60_3,hcz60_4,hcz60_5,hcz60_6,hcz60_7,hcz60_8,hcz60_9,hfz60_0,hfz60_1,hfz60_2,hfz60_3,hfz60_4,hfz60_5,hfz60_6,hfz60_7,hfz60_8,hfz60_9⟩:=bk10 BK105.out
                        have p112:0≤(x6_7:Int):=of_decide_eq_true (by first|(with_reducible assumption)|assumption)
                        have q112:x6_7<(l0_9.length:Int):=of_decide_eq_true (by first|(with_reducible assumption)|assumption)
                        obtain ⟨ad112,e112,hx112_0⟩:=Kd.at_string HR0_9.out x6_7 p112 q112
                        cases e112
                        replace hx112_0:=(HB.out.cell (World.block_lt_of_cell? w _ hx112_0)).trans hx112_0
                        replace p112:=eq_true p112
                        replace q112:=eq_true q112
                        go_wp2
                        go_ret
                        exact ⟨by first|rfl|(simp [errW_none,errW_some] <;> rfl)|(simp [*,errW_none,errW_some] <;> rfl),by repeat (first|(with_reducible first|exact HB.out|apply below_alloc|apply pw_below_drewN|apply below_drew1|refine below_set ?_ GE105.out)|exact HB.out)⟩
                       ·rw [if_neg c59] at H
                        have c59b0:decide (1000<((rdOf ByteArray.empty l0_9 x6_7).size:Int))=false:=decide_eq_false c59
                        have c59b1:decide (1000<(rdOf ByteArray.empty l0_9 x6_7).size)=false:=decide_eq_false (by omega)
                        clear c59
                        have H':=Ak H
                        clear H
                        obtain ⟨hcz61_0,hcz61_1,hcz61_2,hcz61_3,hcz61_4,hcz61_5,hcz61_6,hcz61_7,hcz61_8,hcz61_9,hfz61_0,hfz61_1,hfz61_2,hfz61_3,hfz61_4,hfz61_5,hfz61_6,hfz61_7,hfz61_8,hfz61_9⟩:=bk10 BK105.out
                        have p112:0≤(x6_7:Int):=of_decide_eq_true (by first|(with_reducible assumption)|assumption)
                        have q112:x6_7<(l0_9.length:Int):=of_decide_eq_true (by first|(with_reducible assumption)|assumption)
                        obtain ⟨ad112,e112,hx112_0⟩:=Kd.at_string HR0_9.out x6_7 p112 q112
                        cases e112
                        replace hx112_0:=(HB.out.cell (World.block_lt_of_cell? w _ hx112_0)).trans hx112_0
                        replace p112:=eq_true p112
                        replace q112:=eq_true q112
                        go_wp2
                        go_roundg k7
                        case measure=>have:=HJ1.out;have:=HJ15.out;have:=HJ22.out;have:=HK4.out;have:=HK5.out;have:=HK6.out;have:=HK7.out;omega
                        case rel=>exact ⟨(wrap64 (x6_7+1)),(by first|rfl|(simp;done)|(simp [*];done)),H',⟨by have:=HJ1.out;have:=HJ15.out;have:=HJ22.out;have:=HK4.out;have:=HK5.out;have:=HK6.out;have:=HK7.out;omega⟩,⟨by (with_reducible repeat (first|refine blk_drewN ?_ _|refine blk_drew ?_|refine blk_alloc ?_ _));exact BK105.out⟩,⟨by repeat (first|(with_reducible first|exact HB.out|apply below_alloc|apply pw_below_drewN|apply below_drew1|refine below_set ?_ GE105.out)|exact HB.out)⟩⟩
                      ·rw [if_neg c58] at H
                       exact absurd H (by simp)
                     ·rw [if_neg c57] at H
                      have c57b0:decide (x6_7<(l0_9.length:Int))=false:=decide_eq_false c57
                      clear c57
                      obtain rfl:=Option.some.inj H
                      obtain ⟨hcz62_0,hcz62_1,hcz62_2,hcz62_3,hcz62_4,hcz62_5,hcz62_6,hcz62_7,hcz62_8,hcz62_9,hfz62_0,hfz62_1,hfz62_2,hfz62_3,hfz62_4,hfz62_5,hfz62_6,hfz62_7,hfz62_8,hfz62_9⟩:=bk10 BK105.out
                      go_wp2
                      go_ret
                      exact ⟨by first|rfl|(simp [errW_none,errW_some] <;> rfl)|(simp [*,errW_none,errW_some] <;> rfl),by repeat (first|(with_reducible first|exact HB.out|apply below_alloc|apply pw_below_drewN|apply below_drew1|refine below_set ?_ GE105.out)|exact HB.out)⟩
end Go.Proofs.Ytiekodnojmkfaaa.PFnEnds
