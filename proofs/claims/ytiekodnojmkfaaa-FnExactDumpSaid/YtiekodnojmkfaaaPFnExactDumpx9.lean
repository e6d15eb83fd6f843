-- Printed by the kit's print or by this session's program, then cut and tightened by it.
import Derived.Test.YtiekodnojmkfaaaPFnExactDumpx0
import Derived.Test.YtiekodnojmkfaaaPFnExactDumpx8
namespace Go.Proofs.Ytiekodnojmkfaaa.PFnExactDump
open Go.RowKit Go.Proofs.YtiekodnojmkfaaaW.PrintWords Go.Proofs.YtiekodnojmkfaaaW.PrintLast Go.Proofs.YtiekodnojmkfaaaW.PrintMore
attribute [local go_sem] max2_int min2_int max_two min_two max_three min_three max_four min_four   -- for this text's walks alone
set_option linter.unusedVariables false
set_option linter.unusedSimpArgs false
mutual
def spec_l3Proto.l0:Nat→List Int→Int→Int→Bool→Int→List Int→List (S85)→List (S89)→Int→ByteArray→List Int→List ByteArray→Option (List Int)
 | 0,_,_,_,_,_,_,_,_,_,_,_,_=>none
 | k+1,x0,x5,x267000,x267001,x267002,x267003,x267004,x267005,x267006,x267007,x267008,x267009=>if x5<(x267003.length:Int) then (if 0≤x5 then ((some (([(rd x267003 x5) % 256,((Int.tdiv (rd x267003 x5) 256) % 4294967296) % 256,((Int.tdiv (rd x267003 x5) 65536) % 4294967296) % 256,((Int.tdiv (rd x267003 x5) 16777216) % 4294967296) % 256]:List Int):List Int)).bind fun y278=>(if x0.length+y278.length<140737488355328 then (spec_l3Proto.l0 k (x0++y278) (wrap64 (x5+1)) x267000 x267001 x267002 x267003 x267004 x267005 x267006 x267007 x267008 x267009) else (none))) else (none)) else ((spec_PutVarint.f k (x267004.length:Int)).bind fun t284=>((spec_l3Put.f k x0 t284).bind fun t285=>(spec_l3Proto.l1 k t285 0 x267000 x267001 x267002 x267003 x267004 x267005 x267006 x267007 x267008 x267009)))
def spec_l3Proto.l1:Nat→List Int→Int→Int→Bool→Int→List Int→List (S85)→List (S89)→Int→ByteArray→List Int→List ByteArray→Option (List Int)
 | 0,_,_,_,_,_,_,_,_,_,_,_,_=>none
 | k+1,x0,x6,x267000,x267001,x267002,x267003,x267004,x267005,x267006,x267007,x267008,x267009=>if x6<(x267004.length:Int) then (if 0≤x6 then ((spec_l3Const.f k ((rd_T85 x267004 x6).f0) ((rd_T85 x267004 x6).f1) ((rd_T85 x267004 x6).f2)).bind fun t289=>((spec_l3Put.f k x0 t289).bind fun t290=>(spec_l3Proto.l1 k t290 (wrap64 (x6+1)) x267000 x267001 x267002 x267003 x267004 x267005 x267006 x267007 x267008 x267009))) else (none)) else ((spec_PutVarint.f k (x267005.length:Int)).bind fun t293=>((spec_l3Put.f k x0 t293).bind fun t294=>(spec_l3Proto.l2 k t294 0 x267000 x267001 x267002 x267003 x267004 x267005 x267006 x267007 x267008 x267009)))
def spec_l3Proto.l2:Nat→List Int→Int→Int→Bool→Int→List Int→List (S85)→List (S89)→Int→ByteArray→List Int→List ByteArray→Option (List Int)
 | 0,_,_,_,_,_,_,_,_,_,_,_,_=>none
 | k+1,x0,x7,x267000,x267001,x267002,x267003,x267004,x267005,x267006,x267007,x267008,x267009=>if x7<(x267005.length:Int) then (if 0≤x7 then ((spec_l3Flag.f ((rd_T89 x267005 x7).f0)).bind fun t298=>((spec_PutVarint.f k ((rd_T89 x267005 x7).f1)).bind fun t300=>(if t298.size+t300.size≤9223372036854775807 then ((spec_l3Put.f k x0 (t298++t300)).bind fun t301=>(spec_l3Proto.l2 k t301 (wrap64 (x7+1)) x267000 x267001 x267002 x267003 x267004 x267005 x267006 x267007 x267008 x267009)) else (none)))) else (none)) else ((spec_PutVarint.f k x267006).bind fun t304=>((spec_l3Put.f k x0 t304).bind fun t305=>((spec_l3Bare.f x267000 x267001 x267002 x267003 x267004 x267005 x267006 x267007 x267008 x267009).bind fun t308=>(if t308=true then (if t305.length<140737488355328 then (some (t305++[0])) else (none)) else ((spec_l3Sized.f k x267007).bind fun t312=>(if 1+t312.size≤9223372036854775807 then ((spec_PutVarint.f k (x267008.length:Int)).bind fun t313=>(if ((⟨#[1]⟩:ByteArray)++t312).size+t313.size≤9223372036854775807 then ((spec_l3Put.f k t305 (((⟨#[1]⟩:ByteArray)++t312)++t313)).bind fun t314=>(spec_l3Proto.l3 k t314 0 x267000 x267001 x267002 x267003 x267004 x267005 x267006 x267007 x267008 x267009)) else (none))) else (none)))))))
def spec_l3Proto.l3:Nat→List Int→Int→Int→Bool→Int→List Int→List (S85)→List (S89)→Int→ByteArray→List Int→List ByteArray→Option (List Int)
 | 0,_,_,_,_,_,_,_,_,_,_,_,_=>none
 | k+1,x0,x8,x267000,x267001,x267002,x267003,x267004,x267005,x267006,x267007,x267008,x267009=>if x8<(x267008.length:Int) then (if 0≤x8 then ((spec_PutVarint.f k (rd x267008 x8)).bind fun t318=>((spec_l3Put.f k x0 t318).bind fun t319=>(spec_l3Proto.l3 k t319 (wrap64 (x8+1)) x267000 x267001 x267002 x267003 x267004 x267005 x267006 x267007 x267008 x267009))) else (none)) else ((spec_PutVarint.f k (x267009.length:Int)).bind fun t322=>((spec_l3Put.f k x0 t322).bind fun t323=>(spec_l3Proto.l4 k t323 0 x267000 x267001 x267002 x267003 x267004 x267005 x267006 x267007 x267008 x267009)))
def spec_l3Proto.l4:Nat→List Int→Int→Int→Bool→Int→List Int→List (S85)→List (S89)→Int→ByteArray→List Int→List ByteArray→Option (List Int)
 | 0,_,_,_,_,_,_,_,_,_,_,_,_=>none
 | k+1,x0,x9,x267000,x267001,x267002,x267003,x267004,x267005,x267006,x267007,x267008,x267009=>if x9<(x267009.length:Int) then (if 0≤x9 then ((spec_l3Sized.f k (rdOf ByteArray.empty x267009 x9)).bind fun t327=>((spec_l3Put.f k x0 t327).bind fun t328=>(spec_l3Proto.l4 k t328 (wrap64 (x9+1)) x267000 x267001 x267002 x267003 x267004 x267005 x267006 x267007 x267008 x267009))) else (none)) else (some x0)
end
def spec_l3Proto.f (k:Nat) (l0:List Int) (a1_0:Int) (a1_1:Bool) (a1_2:Int) (l1_3:List Int) (l1_4:List (S85)) (l1_5:List (S89)) (a1_6:Int) (a1_7:ByteArray) (l1_8:List Int) (l1_9:List ByteArray):Option (List Int):=(spec_l3Flag.f a1_1).bind fun t267=>((spec_PutVarint.f k a1_0).bind fun t268=>(if t267.size+t268.size≤9223372036854775807 then ((spec_PutVarint.f k a1_2).bind fun t269=>(if (t267++t268).size+t269.size≤9223372036854775807 then ((spec_PutVarint.f k (l1_3.length:Int)).bind fun t270=>(if ((t267++t268)++t269).size+t270.size≤9223372036854775807 then ((spec_l3Put.f k l0 (((t267++t268)++t269)++t270)).bind fun t271=>(spec_l3Proto.l0 k t271 0 a1_0 a1_1 a1_2 l1_3 l1_4 l1_5 a1_6 a1_7 l1_8 l1_9)) else (none))) else (none))) else (none)))
def spec_l3Proto.T1:Bool×List (List Nat×List Nat):=(true,[([],[]),([],[]),([1],[1]),([2],[2]),([],[]),([4],[4]),([5,3],[5]),([3,6],[3,6]),([],[]),([8],[8]),([9,6],[9]),([7,10],[7,10]),([],[]),([12],[12]),([13],[13]),([14,10],[14]),([11,15],[11,15]),([0,16,15],[0,16]),([17,17,0,1,2,3,4,5,6,7,8,9,10,11,12,13,14,15,16,17],[0,17])])
def spec_l3Proto.B1:List Nat:=[0,0,2,6,0,16,62,126,0,256,894,2046,0,4096,12288,30590,65534,131071,262143]
theorem spec_l3Proto.tab1:rtab .any (opsOf Try.f34 1)=spec_l3Proto.T1:=by kernel_rfl
theorem spec_l3Proto.bits1:waitsOk spec_l3Proto.T1.2 spec_l3Proto.B1=true:=by kernel_rfl
def spec_l3Proto.T5:Bool×List (List Nat×List Nat):=(true,[([],[]),([],[]),([1],[1]),([],[]),([2,3],[2,3]),([4],[4]),([5],[5]),([],[]),([7],[7]),([],[]),([8,9],[8,9]),([10],[10]),([11],[11]),([12],[12]),([],[]),([14],[14]),([],[]),([15,16],[15,16]),([17],[17]),([18],[18]),([19],[19]),([],[]),([21],[21]),([],[]),([22,23],[22,23]),([24],[24]),([25],[25]),([26],[26]),([6,13,20,27],[6,13,20,27]),([0,28],[0,28]),([29,29,0,1,2,3,4,5,6,7,8,9,10,11,12,13,14,15,16,17,18,19,20,21,22,23,24,25,26,27,28,29],[0,29])])
def spec_l3Proto.B5:List Nat:=[0,0,2,0,14,30,62,0,128,0,896,1920,3968,8064,0,16384,0,114688,245760,507904,1032192,0,2097152,0,14680064,31457280,65011712,132120576,268435454,536870911,1073741823]
theorem spec_l3Proto.tab5:rtab .any (opsOf Try.f34 5)=spec_l3Proto.T5:=by kernel_rfl
theorem spec_l3Proto.bits5:waitsOk spec_l3Proto.T5.2 spec_l3Proto.B5=true:=by kernel_rfl
def spec_l3Proto.T15:Bool×List (List Nat×List Nat):=(true,[([],[]),([],[]),([1],[1]),([],[]),([2,3],[2,3]),([4],[4]),([5],[5]),([6],[6]),([],[]),([8],[8]),([],[]),([9,10],[9,10]),([11],[11]),([12],[12]),([13,7],[13]),([7,14],[7,14]),([0,15,14],[0,15]),([16,16,0,1,2,3,4,5,6,7,8,9,10,11,12,13,14,15,16],[0,16])])
def spec_l3Proto.B15:List Nat:=[0,0,2,0,14,30,62,126,0,256,0,1792,3840,7936,16382,32766,65535,131071]
theorem spec_l3Proto.tab15:rtab .any (opsOf Try.f34 15)=spec_l3Proto.T15:=by kernel_rfl
theorem spec_l3Proto.bits15:waitsOk spec_l3Proto.T15.2 spec_l3Proto.B15=true:=by kernel_rfl
def spec_l3Proto.T19:Bool×List (List Nat×List Nat):=(true,[([],[]),([],[]),([1],[1]),([2],[2]),([3],[3]),([],[]),([5],[5]),([6],[6]),([7,3],[7]),([4,8],[4,8]),([0,9,8],[0,9]),([10,10,0,1,2,3,4,5,6,7,8,9,10],[0,10])])
def spec_l3Proto.B19:List Nat:=[0,0,2,6,14,0,32,96,238,510,1023,2047]
theorem spec_l3Proto.tab19:rtab .any (opsOf Try.f34 19)=spec_l3Proto.T19:=by kernel_rfl
theorem spec_l3Proto.bits19:waitsOk spec_l3Proto.T19.2 spec_l3Proto.B19=true:=by kernel_rfl
set_option maxHeartbeats 8000000 in
set_option maxRecDepth 100000 in
theorem spec_l3Proto.calls (k:Nat) (P0_:Nat→Prop) (u9000_:Value) (l0:List Int) (a1_0:Int) (a1_1:Bool) (a1_2:Int) (A1_3:Option Addr) (c1_3:Nat) (l1_3:List Int) (A1_4:Option Addr) (c1_4:Nat) (l1_4:List (S85)) (A1_5:Option Addr) (c1_5:Nat) (l1_5:List (S89)) (a1_6:Int) (a1_7:ByteArray) (A1_8:Option Addr) (c1_8:Nat) (l1_8:List Int) (A1_9:Option Addr) (c1_9:Nat) (l1_9:List ByteArray) (r:List Int) (w0 w:World) (hB:Below w0.heap.size w0 w) (ho0:Kd.R (Kd.int .u8) 5 w w0.heap.size P0_ u9000_ l0) (hr1_3:∀ W_,Kept w W_ (fun k_=>P0_ k_)→Kd.C (Kd.int .u32) W_ A1_3 l1_3.length l1_3) (hc1_3:l1_3.length≤c1_3) (hr1_4:∀ W_,Kept w W_ (fun k_=>P0_ k_)→Kd.C k85 W_ A1_4 l1_4.length l1_4) (hc1_4:l1_4.length≤c1_4) (hr1_5:∀ W_,Kept w W_ (fun k_=>P0_ k_)→Kd.C k89 W_ A1_5 l1_5.length l1_5) (hc1_5:l1_5.length≤c1_5) (hr1_8:∀ W_,Kept w W_ (fun k_=>P0_ k_)→Kd.C (Kd.int .i64) W_ A1_8 l1_8.length l1_8) (hc1_8:l1_8.length≤c1_8) (hr1_9:∀ W_,Kept w W_ (fun k_=>P0_ k_)→Kd.C Kd.string W_ A1_9 l1_9.length l1_9) (hc1_9:l1_9.length≤c1_9) (h:spec_l3Proto.f k l0 a1_0 a1_1 a1_2 l1_3 l1_4 l1_5 a1_6 a1_7 l1_8 l1_9=some r) :
  Calls Try.prog 34 #[u9000_,.agg #[.int .i64 a1_0,.bool a1_1,.int .i64 a1_2,.slice A1_3 l1_3.length c1_3,.slice A1_4 l1_4.length c1_4,.slice A1_5 l1_5.length c1_5,.int .i64 a1_6,.string a1_7,.slice A1_8 l1_8.length c1_8,.slice A1_9 l1_9.length c1_9]] w fun e w'=>∃ v0_:Value,e=.returned (v0_)∧Kd.R (Kd.int .u8) 5 w' w0.heap.size (fun k_=>(P0_ k_∨w.heap.size≤k_)) v0_ r∧Below w0.heap.size w0 w'∧Kept w w' (fun k_=>P0_ k_):=by
 have hu44:=Try.underlying44
 have hu85:=Try.underlying85
 have HO0:=Ak (show Kd.R (Kd.int .u8) 5 w w0.heap.size (fun k_=>(P0_ k_∨w.heap.size≤k_)) u9000_ l0 from Kd.R_mono ho0 (fun k_ hk=>(.inl hk)))
 have HR1_3:=Ak hr1_3;have HC1_3:=Ak hc1_3;clear hr1_3 hc1_3;have HR1_4:=Ak hr1_4;have HC1_4:=Ak hc1_4;clear hr1_4 hc1_4;have HR1_5:=Ak hr1_5;have HC1_5:=Ak hc1_5;clear hr1_5 hc1_5;have HR1_8:=Ak hr1_8;have HC1_8:=Ak hc1_8;clear hr1_8 hc1_8;have HR1_9:=Ak hr1_9;have HC1_9:=Ak hc1_9;clear hr1_9 hc1_9
 have HK:=Ak (Kept.refl w (fun k_=>P0_ k_))
 have HW0:=Ak hB.size
 have HB:=Ak hB;clear hB
 have H:((spec_l3Flag.f a1_1).bind fun t267=>((spec_PutVarint.f k a1_0).bind fun t268=>(if t267.size+t268.size≤9223372036854775807 then ((spec_PutVarint.f k a1_2).bind fun t269=>(if (t267++t268).size+t269.size≤9223372036854775807 then ((spec_PutVarint.f k (l1_3.length:Int)).bind fun t270=>(if ((t267++t268)++t269).size+t270.size≤9223372036854775807 then ((spec_l3Put.f k l0 (((t267++t268)++t269)++t270)).bind fun t271=>(spec_l3Proto.l0 k t271 0 a1_0 a1_1 a1_2 l1_3 l1_4 l1_5 a1_6 a1_7 l1_8 l1_9)) else (none))) else (none))) else (none))))=some r:=h
 clear h
 replace H:=Option.bind_eq_some_iff.mp H
 obtain ⟨t267,A30,H⟩:=H
 replace H:((spec_PutVarint.f k a1_0).bind fun t268=>(if t267.size+t268.size≤9223372036854775807 then ((spec_PutVarint.f k a1_2).bind fun t269=>(if (t267++t268).size+t269.size≤9223372036854775807 then ((spec_PutVarint.f k (l1_3.length:Int)).bind fun t270=>(if ((t267++t268)++t269).size+t270.size≤9223372036854775807 then ((spec_l3Put.f k l0 (((t267++t268)++t269)++t270)).bind fun t271=>(spec_l3Proto.l0 k t271 0 a1_0 a1_1 a1_2 l1_3 l1_4 l1_5 a1_6 a1_7 l1_8 l1_9)) else (none))) else (none))) else (none)))=some r:=H
 have A3:=Ak A30;clear A30
 replace H:=Option.bind_eq_some_iff.mp H
 obtain ⟨t268,A40,H⟩:=H
 replace H:(if t267.size+t268.size≤9223372036854775807 then ((spec_PutVarint.f k a1_2).bind fun t269=>(if (t267++t268).size+t269.size≤9223372036854775807 then ((spec_PutVarint.f k (l1_3.length:Int)).bind fun t270=>(if ((t267++t268)++t269).size+t270.size≤9223372036854775807 then ((spec_l3Put.f k l0 (((t267++t268)++t269)++t270)).bind fun t271=>(spec_l3Proto.l0 k t271 0 a1_0 a1_1 a1_2 l1_3 l1_4 l1_5 a1_6 a1_7 l1_8 l1_9)) else (none))) else (none))) else (none))=some r:=H
 have A4:=Ak A40;clear A40
 by_cases c5:t267.size+t268.size≤9223372036854775807
 ·rw [if_pos c5] at H
  have c5b0:=eq_true c5
  have c5b1:decide (t267.size+t268.size≤9223372036854775807)=true:=decide_eq_true c5
  try have c5b2:(9223372036854775807<t267.size+t268.size)=False:=eq_false (Nat.not_lt.2 c5)
  replace H:=Option.bind_eq_some_iff.mp H
  obtain ⟨t269,A60,H⟩:=H
  replace H:(if (t267++t268).size+t269.size≤9223372036854775807 then ((spec_PutVarint.f k (l1_3.length:Int)).bind fun t270=>(if ((t267++t268)++t269).size+t270.size≤9223372036854775807 then ((spec_l3Put.f k l0 (((t267++t268)++t269)++t270)).bind fun t271=>(spec_l3Proto.l0 k t271 0 a1_0 a1_1 a1_2 l1_3 l1_4 l1_5 a1_6 a1_7 l1_8 l1_9)) else (none))) else (none))=some r:=H
  have A6:=Ak A60;clear A60
  by_cases c7:(t267++t268).size+t269.size≤9223372036854775807
  ·rw [if_pos c7] at H
   have c7b0:=eq_true c7
   have c7b1:decide ((t267++t268).size+t269.size≤9223372036854775807)=true:=decide_eq_true c7
   try have c7b2:(9223372036854775807<(t267++t268).size+t269.size)=False:=eq_false (Nat.not_lt.2 c7)
   have c7b3:(9223372036854775807<t267.size+t268.size+t269.size)=False:=eq_false (Nat.not_lt.2 (by have h_:=c7;simp only [ByteArray.size_append] at h_;exact h_))
   replace H:=Option.bind_eq_some_iff.mp H
   obtain ⟨t270,A80,H⟩:=H
   replace H:(if ((t267++t268)++t269).size+t270.size≤9223372036854775807 then ((spec_l3Put.f k l0 (((t267++t268)++t269)++t270)).bind fun t271=>(spec_l3Proto.l0 k t271 0 a1_0 a1_1 a1_2 l1_3 l1_4 l1_5 a1_6 a1_7 l1_8 l1_9)) else (none))=some r:=H
   have A8:=Ak A80;clear A80
   by_cases c9:((t267++t268)++t269).size+t270.size≤9223372036854775807
   ·rw [if_pos c9] at H
    have c9b0:=eq_true c9
    have c9b1:decide (((t267++t268)++t269).size+t270.size≤9223372036854775807)=true:=decide_eq_true c9
    try have c9b2:(9223372036854775807<((t267++t268)++t269).size+t270.size)=False:=eq_false (Nat.not_lt.2 c9)
    have c9b3:(9223372036854775807<t267.size+t268.size+t269.size+t270.size)=False:=eq_false (Nat.not_lt.2 (by have h_:=c9;simp only [ByteArray.size_append] at h_;exact h_))
    replace H:=Option.bind_eq_some_iff.mp H
    obtain ⟨t271,A100,H⟩:=H
    replace H:(spec_l3Proto.l0 k t271 0 a1_0 a1_1 a1_2 l1_3 l1_4 l1_5 a1_6 a1_7 l1_8 l1_9)=some r:=H
    have A10:=Ak A100;clear A100
    have H':=Ak H
    clear H
    go_enter Try.func34,Try.ntmps34
    try go_wp2_with (first|((with_reducible refine gate_dst (N:=3) rfl ?_);refine box_event ?hg (N:=3) ?hd (cs:=#[.int .i64 a1_0,.bool a1_1,.int .i64 a1_2,.slice A1_3 l1_3.length c1_3,.slice A1_4 l1_4.length c1_4,.slice A1_5 l1_5.length c1_5,.int .i64 a1_6,.string a1_7,.slice A1_8 l1_8.length c1_8,.slice A1_9 l1_9.length c1_9]) (t:=44) ?hr ?_;(case hd=>rfl);(case hg=>rfl);(case hr=>first|(go_simp;done)|(go_simp;rfl));intro gb266 hg w11 hbox hb;have n0_:=Ak (Kd.R_below (by (with_reducible repeat (first|apply Kd.R_alloc|apply Kd.R_drewN|apply Kd.R_drew));exact HO0.out) hb);have n1_:=Ak (Kept.below (S:=(fun k_=>P0_ k_)) (by repeat (first|(with_reducible first|exact HK.out|apply Kept.alloc|apply Kept.drewN|apply Kept.drew)|exact HK.out)) hb);have n2_:=Ak (below_step (by repeat (first|(with_reducible first|exact HB.out|apply below_alloc|apply pw_below_drewN|apply below_drew1)|exact HB.out)) hb);have n3_:=Ak (hbox);have n4_:=Ak ((by rw [hg];exact (by first|exact HK.out.1|exact (show Kept w _ (fun k_=>P0_ k_) from by repeat (first|(with_reducible first|exact HK.out|apply Kept.alloc|apply Kept.drewN|apply Kept.drew)|exact HK.out)).1):w.heap.size≤gb266));have n5_:=Ak ((by rw [hg];exact (below_size (by repeat (first|(with_reducible first|exact HB.out|apply below_alloc|apply pw_below_drewN|apply below_drew1)|exact HB.out))):w0.heap.size≤gb266));clear HO0;clear HK;clear HB;have HO0:=n0_;have HK:=n1_;have HB:=n2_;have BK266:=n3_;have GW266:=n4_;have GE266:=n5_;clear n0_ n1_ n2_ n3_ n4_ n5_;clear hb hbox hg))
    have n0_:=Ak (Kd.R_drew HO0.out)
    have n1_:=Ak (blk_drew BK266.out)
    have n2_:=Ak (Kept.drew HK.out)
    have n3_:=Ak (below_drew1 HB.out)
    clear HO0;clear BK266;clear HK;clear HB;have HO0:=n0_;have BK266:=n1_;have HK:=n2_;have HB:=n3_;clear n0_ n1_ n2_ n3_
    refine start_ (n:=19) (S:=fun w'=>w'.cell? ⟨gb266,0,none⟩=some (.int .i64 a1_0)∧w'.cell? ⟨gb266,1,none⟩=some (.bool a1_1)∧w'.cell? ⟨gb266,2,none⟩=some (.int .i64 a1_2)∧w'.cell? ⟨gb266,3,none⟩=some (.slice A1_3 l1_3.length c1_3)∧w'.cell? ⟨gb266,4,none⟩=some (.slice A1_4 l1_4.length c1_4)∧w'.cell? ⟨gb266,5,none⟩=some (.slice A1_5 l1_5.length c1_5)∧w'.cell? ⟨gb266,6,none⟩=some (.int .i64 a1_6)∧w'.cell? ⟨gb266,7,none⟩=some (.string a1_7)∧w'.cell? ⟨gb266,8,none⟩=some (.slice A1_8 l1_8.length c1_8)∧w'.cell? ⟨gb266,9,none⟩=some (.slice A1_9 l1_9.length c1_9)) (ds:=[]) #[false,false,false,false,false,false,false,false,false,false,false,false,false,false,false,false,false,false,false] (by kernel_rfl) rfl rfl ⟨(blk_cell BK266.out 0).trans rfl,(blk_cell BK266.out 1).trans rfl,(blk_cell BK266.out 2).trans rfl,(blk_cell BK266.out 3).trans rfl,(blk_cell BK266.out 4).trans rfl,(blk_cell BK266.out 5).trans rfl,(blk_cell BK266.out 6).trans rfl,(blk_cell BK266.out 7).trans rfl,(blk_cell BK266.out 8).trans rfl,(blk_cell BK266.out 9).trans rfl⟩ (fun hHeld=>?_);refine with_tabW spec_l3Proto.tab1 spec_l3Proto.bits1 (fun HT_ HW_=>?_)
    generalize w11.drew=w12 at HO0 BK266 HK HB hHeld ⊢
    refine pure_ (i:=0) (N:=some 10) (v:=?_) (a':=?_) #[true,false,false,false,false,false,false,false,false,false,false,false,false,false,false,false,false,false,false] rfl rfl (any_of HT_.out (by kernel_rfl)) (fun _ _ _ h=>h) (Or.inl ⟨by rfl,?_⟩) ?_ ?_
    rotate_left
    ·intro w'
     go_simp
     with_reducible rfl
    rotate_left
    ·simp only [Act.put,List.setIfInBounds_toArray,List.set_cons_zero,List.set_cons_succ,i64_w,i32_w]
     rfl
    refine pure_ (i:=1) (N:=some 11) (v:=?_) (a':=?_) #[true,true,false,false,false,false,false,false,false,false,false,false,false,false,false,false,false,false,false] rfl rfl (any_of HT_.out (by kernel_rfl)) (fun _ _ _ h=>h) (Or.inl ⟨by rfl,?_⟩) ?_ ?_
    rotate_left
    ·intro w'
     go_simp
     with_reducible rfl
    rotate_left
    ·simp only [Act.put,List.setIfInBounds_toArray,List.set_cons_zero,List.set_cons_succ,i64_w,i32_w]
     rfl
    refine pure_ (i:=4) (N:=some 14) (v:=?_) (a':=?_) #[true,true,false,false,true,false,false,false,false,false,false,false,false,false,false,false,false,false,false] rfl rfl (any_of HT_.out (by kernel_rfl)) (fun _ _ _ h=>h) (Or.inl ⟨by rfl,?_⟩) ?_ ?_
    rotate_left
    ·intro w'
     go_simp
     with_reducible rfl
    rotate_left
    ·simp only [Act.put,List.setIfInBounds_toArray,List.set_cons_zero,List.set_cons_succ,i64_w,i32_w]
     rfl
    refine pure_ (i:=8) (N:=some 18) (v:=?_) (a':=?_) #[true,true,false,false,true,false,false,false,true,false,false,false,false,false,false,false,false,false,false] rfl rfl (any_of HT_.out (by kernel_rfl)) (fun _ _ _ h=>h) (Or.inl ⟨by rfl,?_⟩) ?_ ?_
    rotate_left
    ·intro w'
     go_simp
     with_reducible rfl
    rotate_left
    ·simp only [Act.put,List.setIfInBounds_toArray,List.set_cons_zero,List.set_cons_succ,i64_w,i32_w]
     rfl
    refine pure_ (i:=12) (N:=some 22) (v:=?_) (a':=?_) #[true,true,false,false,true,false,false,false,true,false,false,false,true,false,false,false,false,false,false] rfl rfl (any_of HT_.out (by kernel_rfl)) (fun _ _ _ h=>h) (Or.inl ⟨by rfl,?_⟩) ?_ ?_
    rotate_left
    ·intro w'
     go_simp
     with_reducible rfl
    rotate_left
    ·simp only [Act.put,List.setIfInBounds_toArray,List.set_cons_zero,List.set_cons_succ,i64_w,i32_w]
     rfl
    refine take_ (i:=2) (N:=some 12) (v:=?_) (a':=?_) #[true,true,true,false,true,false,false,false,true,false,false,false,true,false,false,false,false,false,false] rfl rfl (take_ofW HT_.out HW_.out (by kernel_rfl)) (fun _ _ _ h=>h) (Or.inl ⟨by rfl,?_⟩) hHeld ?_ ?_
    rotate_left
    ·rintro w' ⟨s0,s1,s2,s3,s4,s5,s6,s7,s8,s9⟩
     go_simp
     with_reducible rfl
    rotate_left
    ·simp only [Act.put,List.setIfInBounds_toArray,List.set_cons_zero,List.set_cons_succ,i64_w,i32_w]
     rfl
    refine take_ (i:=5) (N:=some 15) (v:=?_) (a':=?_) #[true,true,true,false,true,true,false,false,true,false,false,false,true,false,false,false,false,false,false] rfl rfl (take_ofW HT_.out HW_.out (by kernel_rfl)) (fun _ _ _ h=>h) (Or.inl ⟨by rfl,?_⟩) hHeld ?_ ?_
    rotate_left
    ·rintro w' ⟨s0,s1,s2,s3,s4,s5,s6,s7,s8,s9⟩
     go_simp
     with_reducible rfl
    rotate_left
    ·simp only [Act.put,List.setIfInBounds_toArray,List.set_cons_zero,List.set_cons_succ,i64_w,i32_w]
     rfl
    refine take_ (i:=9) (N:=some 19) (v:=?_) (a':=?_) #[true,true,true,false,true,true,false,false,true,true,false,false,true,false,false,false,false,false,false] rfl rfl (take_ofW HT_.out HW_.out (by kernel_rfl)) (fun _ _ _ h=>h) (Or.inl ⟨by rfl,?_⟩) hHeld ?_ ?_
    rotate_left
    ·rintro w' ⟨s0,s1,s2,s3,s4,s5,s6,s7,s8,s9⟩
     go_simp
     with_reducible rfl
    rotate_left
    ·simp only [Act.put,List.setIfInBounds_toArray,List.set_cons_zero,List.set_cons_succ,i64_w,i32_w]
     rfl
    refine take_ (i:=13) (N:=some 23) (v:=?_) (a':=?_) #[true,true,true,false,true,true,false,false,true,true,false,false,true,true,false,false,false,false,false] rfl rfl (take_ofW HT_.out HW_.out (by kernel_rfl)) (fun _ _ _ h=>h) (Or.inl ⟨by rfl,?_⟩) hHeld ?_ ?_
    rotate_left
    ·rintro w' ⟨s0,s1,s2,s3,s4,s5,s6,s7,s8,s9⟩
     go_simp
     with_reducible rfl
    rotate_left
    ·simp only [Act.put,List.setIfInBounds_toArray,List.set_cons_zero,List.set_cons_succ,i64_w,i32_w]
     rfl
    refine pure_ (i:=14) (N:=some 24) (v:=?_) (a':=?_) #[true,true,true,false,true,true,false,false,true,true,false,false,true,true,true,false,false,false,false] rfl rfl (any_of HT_.out (by kernel_rfl)) (fun _ _ _ h=>h) (Or.inl ⟨by rfl,?_⟩) ?_ ?_
    rotate_left
    ·intro w'
     go_simp
     with_reducible rfl
    rotate_left
    ·simp only [Act.put,List.setIfInBounds_toArray,List.set_cons_zero,List.set_cons_succ,i64_w,i32_w]
     rfl
    refine one_ (i:=3) (N:=some 13) #[true,true,true,true,true,true,false,false,true,true,false,false,true,true,true,false,false,false,false] rfl rfl (one_of HT_.out (by kernel_rfl)) (by decide) (fun K hK=>?_)
    refine goes_ Try.func73 (by kernel_rfl) rfl #[.bool a1_1] (by rfl) rfl rfl (by (try simp only [List.map_toArray,List.map_cons,List.map_nil]);first|done|rfl|(simp only [List.length_drop,List.length_take];rfl)) ?_
    with_reducible refine (spec_l3Flag.calls a1_1 t267 _ A3.out).mono ?_
    rintro e w' ⟨rfl,⟨nd,rfl⟩⟩
    refine ⟨_,rfl,?_⟩
    refine hK.out _ _ ⟨(blk_cell BK266.out 0).trans rfl,(blk_cell BK266.out 1).trans rfl,(blk_cell BK266.out 2).trans rfl,(blk_cell BK266.out 3).trans rfl,(blk_cell BK266.out 4).trans rfl,(blk_cell BK266.out 5).trans rfl,(blk_cell BK266.out 6).trans rfl,(blk_cell BK266.out 7).trans rfl,(blk_cell BK266.out 8).trans rfl,(blk_cell BK266.out 9).trans rfl⟩ (fun hHeld=>?_)
    clear hK K
    refine norm_ (a':=?_) ?_ ?_
    rotate_left
    ·show Act.put _ (some 13) _=_
     simp only [Act.put,List.setIfInBounds_toArray,List.set_cons_zero,List.set_cons_succ,i64_w,i32_w]
     rfl
    refine one_ (i:=6) (N:=some 16) #[true,true,true,true,true,true,true,false,true,true,false,false,true,true,true,false,false,false,false] rfl rfl (one_of HT_.out (by kernel_rfl)) (by decide) (fun K hK=>?_)
    refine goes_ Try.func74 (by kernel_rfl) rfl #[.int .i64 a1_0] (by rfl) rfl rfl (by (try simp only [List.map_toArray,List.map_cons,List.map_nil]);first|done|rfl|(simp only [List.length_drop,List.length_take];rfl)) ?_
    with_reducible refine (spec_PutVarint.calls k a1_0 t268 _ A4.out).mono ?_
    rintro e w13 ⟨rfl,hb⟩
    refine ⟨_,rfl,?_⟩
    have n0_:=Ak (Kd.R_below (by (with_reducible repeat (first|apply Kd.R_alloc|apply Kd.R_drewN|apply Kd.R_drew));exact HO0.out) hb)
    have n1_:=Ak (blk_below (g:=gb266) (o:=.cells #[.int .i64 a1_0,.bool a1_1,.int .i64 a1_2,.slice A1_3 l1_3.length c1_3,.slice A1_4 l1_4.length c1_4,.slice A1_5 l1_5.length c1_5,.int .i64 a1_6,.string a1_7,.slice A1_8 l1_8.length c1_8,.slice A1_9 l1_9.length c1_9] 44 (0,0)) (by (with_reducible repeat (first|refine blk_drewN ?_ _|refine blk_drew ?_|refine blk_alloc ?_ _));exact BK266.out) hb)
    have n2_:=Ak (Kept.below (S:=(fun k_=>P0_ k_)) (by repeat (first|(with_reducible first|exact HK.out|apply Kept.alloc|apply Kept.drewN|apply Kept.drew|refine Kept.setCell ?_ (.inr GW266.out) _)|exact HK.out)) hb)
    have n3_:=Ak (below_step (by repeat (first|(with_reducible first|exact HB.out|apply below_alloc|apply pw_below_drewN|apply below_drew1|refine below_set ?_ GE266.out)|exact HB.out)) hb)
    clear HO0;clear BK266;clear HK;clear HB;have HO0:=n0_;have BK266:=n1_;have HK:=n2_;have HB:=n3_;clear n0_ n1_ n2_ n3_
    (try clear hb)
    (try clear hb2)
    (try clear hk)
    (try clear hi)
    refine hK.out _ _ ⟨(blk_cell BK266.out 0).trans rfl,(blk_cell BK266.out 1).trans rfl,(blk_cell BK266.out 2).trans rfl,(blk_cell BK266.out 3).trans rfl,(blk_cell BK266.out 4).trans rfl,(blk_cell BK266.out 5).trans rfl,(blk_cell BK266.out 6).trans rfl,(blk_cell BK266.out 7).trans rfl,(blk_cell BK266.out 8).trans rfl,(blk_cell BK266.out 9).trans rfl⟩ (fun hHeld=>?_)
    clear hK K
    refine norm_ (a':=?_) ?_ ?_
    rotate_left
    ·show Act.put _ (some 16) _=_
     simp only [Act.put,List.setIfInBounds_toArray,List.set_cons_zero,List.set_cons_succ,i64_w,i32_w]
     rfl
    refine pure_ (i:=7) (N:=some 17) (v:=?_) (a':=?_) #[true,true,true,true,true,true,true,true,true,true,false,false,true,true,true,false,false,false,false] rfl rfl (any_of HT_.out (by kernel_rfl)) (fun _ _ _ h=>h) (Or.inl ⟨by rfl,?_⟩) ?_ ?_
    rotate_left
    ·intro w'
     go_simp
     with_reducible rfl
    rotate_left
    ·simp only [Act.put,List.setIfInBounds_toArray,List.set_cons_zero,List.set_cons_succ,i64_w,i32_w]
     rfl
    refine one_ (i:=10) (N:=some 20) #[true,true,true,true,true,true,true,true,true,true,true,false,true,true,true,false,false,false,false] rfl rfl (one_of HT_.out (by kernel_rfl)) (by decide) (fun K hK=>?_)
    refine goes_ Try.func74 (by kernel_rfl) rfl #[.int .i64 a1_2] (by rfl) rfl rfl (by (try simp only [List.map_toArray,List.map_cons,List.map_nil]);first|done|rfl|(simp only [List.length_drop,List.length_take];rfl)) ?_
    with_reducible refine (spec_PutVarint.calls k a1_2 t269 _ A6.out).mono ?_
    rintro e w14 ⟨rfl,hb⟩
    refine ⟨_,rfl,?_⟩
    have n0_:=Ak (Kd.R_below (by (with_reducible repeat (first|apply Kd.R_alloc|apply Kd.R_drewN|apply Kd.R_drew));exact HO0.out) hb)
    have n1_:=Ak (blk_below (g:=gb266) (o:=.cells #[.int .i64 a1_0,.bool a1_1,.int .i64 a1_2,.slice A1_3 l1_3.length c1_3,.slice A1_4 l1_4.length c1_4,.slice A1_5 l1_5.length c1_5,.int .i64 a1_6,.string a1_7,.slice A1_8 l1_8.length c1_8,.slice A1_9 l1_9.length c1_9] 44 (0,0)) (by (with_reducible repeat (first|refine blk_drewN ?_ _|refine blk_drew ?_|refine blk_alloc ?_ _));exact BK266.out) hb)
    have n2_:=Ak (Kept.below (S:=(fun k_=>P0_ k_)) (by repeat (first|(with_reducible first|exact HK.out|apply Kept.alloc|apply Kept.drewN|apply Kept.drew|refine Kept.setCell ?_ (.inr GW266.out) _)|exact HK.out)) hb)
    have n3_:=Ak (below_step (by repeat (first|(with_reducible first|exact HB.out|apply below_alloc|apply pw_below_drewN|apply below_drew1|refine below_set ?_ GE266.out)|exact HB.out)) hb)
    clear HO0;clear BK266;clear HK;clear HB;have HO0:=n0_;have BK266:=n1_;have HK:=n2_;have HB:=n3_;clear n0_ n1_ n2_ n3_
    (try clear hb)
    (try clear hb2)
    (try clear hk)
    (try clear hi)
    refine hK.out _ _ ⟨(blk_cell BK266.out 0).trans rfl,(blk_cell BK266.out 1).trans rfl,(blk_cell BK266.out 2).trans rfl,(blk_cell BK266.out 3).trans rfl,(blk_cell BK266.out 4).trans rfl,(blk_cell BK266.out 5).trans rfl,(blk_cell BK266.out 6).trans rfl,(blk_cell BK266.out 7).trans rfl,(blk_cell BK266.out 8).trans rfl,(blk_cell BK266.out 9).trans rfl⟩ (fun hHeld=>?_)
    clear hK K
    refine norm_ (a':=?_) ?_ ?_
    rotate_left
    ·show Act.put _ (some 20) _=_
     simp only [Act.put,List.setIfInBounds_toArray,List.set_cons_zero,List.set_cons_succ,i64_w,i32_w]
     rfl
    refine pure_ (i:=11) (N:=some 21) (v:=?_) (a':=?_) #[true,true,true,true,true,true,true,true,true,true,true,true,true,true,true,false,false,false,false] rfl rfl (any_of HT_.out (by kernel_rfl)) (fun _ _ _ h=>h) (Or.inl ⟨by rfl,?_⟩) ?_ ?_
    rotate_left
    ·intro w'
     go_simp
     with_reducible rfl
    rotate_left
    ·simp only [Act.put,List.setIfInBounds_toArray,List.set_cons_zero,List.set_cons_succ,i64_w,i32_w]
     rfl
    refine one_ (i:=15) (N:=some 25) #[true,true,true,true,true,true,true,true,true,true,true,true,true,true,true,true,false,false,false] rfl rfl (one_of HT_.out (by kernel_rfl)) (by decide) (fun K hK=>?_)
    refine goes_ Try.func74 (by kernel_rfl) rfl #[.int .i64 (l1_3.length:Int)] (by rfl) rfl rfl (by (try simp only [List.map_toArray,List.map_cons,List.map_nil]);first|done|rfl|(simp only [List.length_drop,List.length_take];rfl)) ?_
    with_reducible refine (spec_PutVarint.calls k (l1_3.length:Int) t270 _ A8.out).mono ?_
    rintro e w15 ⟨rfl,hb⟩
    refine ⟨_,rfl,?_⟩
    have n0_:=Ak (Kd.R_below (by (with_reducible repeat (first|apply Kd.R_alloc|apply Kd.R_drewN|apply Kd.R_drew));exact HO0.out) hb)
    have n1_:=Ak (blk_below (g:=gb266) (o:=.cells #[.int .i64 a1_0,.bool a1_1,.int .i64 a1_2,.slice A1_3 l1_3.length c1_3,.slice A1_4 l1_4.length c1_4,.slice A1_5 l1_5.length c1_5,.int .i64 a1_6,.string a1_7,.slice A1_8 l1_8.length c1_8,.slice A1_9 l1_9.length c1_9] 44 (0,0)) (by (with_reducible repeat (first|refine blk_drewN ?_ _|refine blk_drew ?_|refine blk_alloc ?_ _));exact BK266.out) hb)
    have n2_:=Ak (Kept.below (S:=(fun k_=>P0_ k_)) (by repeat (first|(with_reducible first|exact HK.out|apply Kept.alloc|apply Kept.drewN|apply Kept.drew|refine Kept.setCell ?_ (.inr GW266.out) _)|exact HK.out)) hb)
    have n3_:=Ak (below_step (by repeat (first|(with_reducible first|exact HB.out|apply below_alloc|apply pw_below_drewN|apply below_drew1|refine below_set ?_ GE266.out)|exact HB.out)) hb)
    clear HO0;clear BK266;clear HK;clear HB;have HO0:=n0_;have BK266:=n1_;have HK:=n2_;have HB:=n3_;clear n0_ n1_ n2_ n3_
    (try clear hb)
    (try clear hb2)
    (try clear hk)
    (try clear hi)
    obtain ⟨Ao16,co16,eo16⟩:=Kd.R_slice HO0.out
    (first|subst eo16|(injection eo16 with f1_ f2_ f3_;have f4_:=f1_.symm;have f5_:=f3_.symm;clear f1_ f2_ f3_;subst f4_;subst f5_))
    refine hK.out _ _ ⟨(blk_cell BK266.out 0).trans rfl,(blk_cell BK266.out 1).trans rfl,(blk_cell BK266.out 2).trans rfl,(blk_cell BK266.out 3).trans rfl,(blk_cell BK266.out 4).trans rfl,(blk_cell BK266.out 5).trans rfl,(blk_cell BK266.out 6).trans rfl,(blk_cell BK266.out 7).trans rfl,(blk_cell BK266.out 8).trans rfl,(blk_cell BK266.out 9).trans rfl⟩ (fun hHeld=>?_)
    clear hK K
    refine norm_ (a':=?_) ?_ ?_
    rotate_left
    ·show Act.put _ (some 25) _=_
     simp only [Act.put,List.setIfInBounds_toArray,List.set_cons_zero,List.set_cons_succ,i64_w,i32_w]
     rfl
    refine pure_ (i:=16) (N:=some 26) (v:=?_) (a':=?_) #[true,true,true,true,true,true,true,true,true,true,true,true,true,true,true,true,true,false,false] rfl rfl (any_of HT_.out (by kernel_rfl)) (fun _ _ _ h=>h) (Or.inl ⟨by rfl,?_⟩) ?_ ?_
    rotate_left
    ·intro w'
     go_simp
     with_reducible rfl
    rotate_left
    ·simp only [Act.put,List.setIfInBounds_toArray,List.set_cons_zero,List.set_cons_succ,i64_w,i32_w]
     rfl
    refine one_ (i:=17) (N:=some 27) #[true,true,true,true,true,true,true,true,true,true,true,true,true,true,true,true,true,true,false] rfl rfl (one_of HT_.out (by kernel_rfl)) (by decide) (fun K hK=>?_)
    refine goes_ Try.func33 (by kernel_rfl) rfl #[.slice Ao16 l0.length co16,.string (((t267++t268)++t269)++t270)] (by rfl) rfl rfl (by (try simp only [List.map_toArray,List.map_cons,List.map_nil]);first|done|rfl|(simp only [List.length_drop,List.length_take];rfl)) ?_
    with_reducible refine (spec_l3Put.calls k (fun k_=>some k_=(.slice Ao16 l0.length co16:Value).ownBlock) (.slice Ao16 l0.length co16) l0 (((t267++t268)++t269)++t270) t271 w0 _ ?side1 ?side2 A10.out).mono ?_
    (case side1=>repeat (first|(with_reducible first|exact HB.out|apply below_alloc|apply pw_below_drewN|apply below_drew1|refine below_set ?_ GE266.out)|exact HB.out))
    (case side2=>exact Kd.R_tight rfl HO0.out)
    rintro e w17 ⟨v272,rfl,ho0,hb,hkp⟩
    refine ⟨_,rfl,?_⟩
    have n0_:=Ak (blk_kept (by (with_reducible repeat (first|refine blk_drewN ?_ _|refine blk_drew ?_|refine blk_alloc ?_ _));exact BK266.out) hkp (fun hs_=>(fun e_=>(Kd.R_ne HO0.out BK266.out (by decide)) e_) hs_))
    have n1_:=Ak (Kd.R_mono (ok':=fun k_=>(P0_ k_∨w.heap.size≤k_)) ho0 (fun k_ hk_=>Or.elim hk_ (fun hs_=>(HO0.out.1 k_ (hs_).symm)) (fun hn_=>(.inr (Nat.le_trans (by first|exact HK.out.1|exact (show Kept w _ (fun k_=>P0_ k_) from by repeat (first|(with_reducible first|exact HK.out|apply Kept.alloc|apply Kept.drewN|apply Kept.drew|refine Kept.setCell ?_ (.inr GW266.out) _)|exact HK.out)).1) hn_)))))
    have n2_:=Ak (Kept.then_ (S:=(fun k_=>P0_ k_)) (by repeat (first|(with_reducible first|exact HK.out|apply Kept.alloc|apply Kept.drewN|apply Kept.drew|refine Kept.setCell ?_ (.inr GW266.out) _)|exact HK.out)) hkp (fun k_ hs_=>(fun e_=>(HO0.out.1 k_ e_.symm)) hs_))
    have n3_:=Ak (hb)
    clear BK266;clear HK;clear HB;clear HO0;have BK266:=n0_;have HO273:=n1_;have HK:=n2_;have HB:=n3_;clear n0_ n1_ n2_ n3_
    (try clear hb)
    (try clear hkp)
    (try clear ho0)
    refine hK.out _ _ ⟨(blk_cell BK266.out 0).trans rfl,(blk_cell BK266.out 1).trans rfl,(blk_cell BK266.out 2).trans rfl,(blk_cell BK266.out 3).trans rfl,(blk_cell BK266.out 4).trans rfl,(blk_cell BK266.out 5).trans rfl,(blk_cell BK266.out 6).trans rfl,(blk_cell BK266.out 7).trans rfl,(blk_cell BK266.out 8).trans rfl,(blk_cell BK266.out 9).trans rfl⟩ (fun hHeld=>?_)
    clear hK K
    refine norm_ (a':=?_) ?_ ?_
    rotate_left
    ·show Act.put _ (some 27) _=_
     simp only [Act.put,List.setIfInBounds_toArray,List.set_cons_zero,List.set_cons_succ,i64_w,i32_w]
     rfl
    refine pure_ (i:=18) (N:=some 0) (v:=?_) (a':=?_) #[true,true,true,true,true,true,true,true,true,true,true,true,true,true,true,true,true,true,true] rfl rfl (any_of HT_.out (by kernel_rfl)) (fun _ _ _ h=>h) (Or.inl ⟨by rfl,?_⟩) ?_ ?_
    rotate_left
    ·intro w'
     go_simp
     with_reducible rfl
    rotate_left
    ·simp only [Act.put,List.setIfInBounds_toArray,List.set_cons_zero,List.set_cons_succ,i64_w,i32_w]
     rfl
    refine done_ (done_of HT_.out (by kernel_rfl)) ?_
    try go_wp2
    go_loopg [0,5] k (fun kq v0 v5 w'=>∃ (x0_1:List Int) (x5_1:Int),v5=.int .i64 x5_1∧Aside0 (spec_l3Proto.l0 kq x0_1 x5_1 a1_0 a1_1 a1_2 l1_3 l1_4 l1_5 a1_6 a1_7 l1_8 l1_9=some r)∧Aside0 (kq≤k)∧Aside0 (Kd.R (Kd.int .u8) 5 w' w0.heap.size (fun k_=>(P0_ k_∨w.heap.size≤k_)) v0 x0_1)∧Aside0 (w'.heap[gb266]?=some (.cells #[.int .i64 a1_0,.bool a1_1,.int .i64 a1_2,(.slice A1_3 l1_3.length c1_3),(.slice A1_4 l1_4.length c1_4),(.slice A1_5 l1_5.length c1_5),.int .i64 a1_6,.string a1_7,(.slice A1_8 l1_8.length c1_8),(.slice A1_9 l1_9.length c1_9)] 44 (0,0)))∧Aside0 (Kept w w' (fun k_=>P0_ k_))∧Aside0 (Below w0.heap.size w0 w'))
    case atStart=>exact ⟨(t271),(0),(by first|rfl|(simp;done)|(simp [*];done)),H',⟨Nat.le_refl _⟩,⟨by (with_reducible repeat (first|apply Kd.R_alloc|apply Kd.R_drewN|apply Kd.R_drew));exact HO273.out⟩,⟨by (with_reducible repeat (first|refine blk_drewN ?_ _|refine blk_drew ?_|refine blk_alloc ?_ _));exact BK266.out⟩,⟨by repeat (first|(with_reducible first|exact HK.out|apply Kept.alloc|apply Kept.drewN|apply Kept.drew|refine Kept.setCell ?_ (.inr GW266.out) _)|exact HK.out)⟩,⟨by repeat (first|(with_reducible first|exact HB.out|apply below_alloc|apply pw_below_drewN|apply below_drew1|refine below_set ?_ GE266.out)|exact HB.out)⟩⟩
    case round =>
     clear H';(try clear c1);(try clear p2);(try clear c3);(try clear c5);(try clear c5b0);(try clear c5b1);(try clear c5b2);(try clear c5b3);(try clear c7);(try clear c7b0);(try clear c7b1);(try clear c7b2);(try clear c7b3);(try clear c9);(try clear c9b0);(try clear c9b1);(try clear c9b2);(try clear c9b3)
     obtain ⟨x0_1,x5_1,rfl,HA,HK1,HO_0,BK266,HK,HB⟩:=hrel
     cases gk with
     | zero=>exact absurd HA.out (by simp [spec_l3Proto.l0])
     | succ k1 =>
      have H:=HA.out
      clear HA
      simp only [spec_l3Proto.l0] at H
      by_cases c18:x5_1<(l1_3.length:Int)
      ·rw [if_pos c18] at H
       have c18b0:decide (x5_1<(l1_3.length:Int))=true:=decide_eq_true c18
       clear c18
       by_cases c19:0≤x5_1
       ·rw [if_pos c19] at H
        have c19b0:decide (0≤x5_1)=true:=decide_eq_true c19
        clear c19
        obtain ⟨y278,hy278⟩:∃ y_:List Int,y_=(([(rd l1_3 x5_1) % 256,((Int.tdiv (rd l1_3 x5_1) 256) % 4294967296) % 256,((Int.tdiv (rd l1_3 x5_1) 65536) % 4294967296) % 256,((Int.tdiv (rd l1_3 x5_1) 16777216) % 4294967296) % 256]:List Int)):=⟨_,rfl⟩
        replace H:(if x0_1.length+y278.length<140737488355328 then (spec_l3Proto.l0 k1 (x0_1++y278) (wrap64 (x5_1+1)) a1_0 a1_1 a1_2 l1_3 l1_4 l1_5 a1_6 a1_7 l1_8 l1_9) else (none))=some r:=by first|(rw [hy278];with_reducible exact H)|(have H2_:=(Option.bind_some _ _).symm.trans H;rw [hy278];with_reducible exact H2_)|(have H2_:=(Option.bind_some _ _).symm.trans H;with_reducible exact H2_)|with_reducible exact H|(rw [hy278];exact H)|exact H
        have Ny278:=Ak hy278;clear hy278
        by_cases c20:x0_1.length+y278.length<140737488355328
        ·rw [if_pos c20] at H
         have LMc20:=Ak c20;clear c20
         obtain ⟨y281,hy281⟩:∃ y_:List Int,y_=(x0_1++y278):=⟨_,rfl⟩
         replace H:(spec_l3Proto.l0 k1 y281 (wrap64 (x5_1+1)) a1_0 a1_1 a1_2 l1_3 l1_4 l1_5 a1_6 a1_7 l1_8 l1_9)=some r:=by first|(rw [hy281];with_reducible exact H)|(have H2_:=(Option.bind_some _ _).symm.trans H;rw [hy281];with_reducible exact H2_)|(have H2_:=(Option.bind_some _ _).symm.trans H;with_reducible exact H2_)|with_reducible exact H|(rw [hy281];exact H)|exact H
         have Ny281:=Ak hy281;clear hy281
         have H':=Ak H
         clear H
         obtain ⟨hcz21_0,hcz21_1,hcz21_2,hcz21_3,hcz21_4,hcz21_5,hcz21_6,hcz21_7,hcz21_8,hcz21_9,hfz21_0,hfz21_1,hfz21_2,hfz21_3,hfz21_4,hfz21_5,hfz21_6,hfz21_7,hfz21_8,hfz21_9⟩:=bk10 BK266.out
         try go_wp2
         have n0_:=Ak (Kd.R_drew HO_0.out)
         have n1_:=Ak (blk_drew BK266.out)
         have n2_:=Ak (Kept.drew HK.out)
         have n3_:=Ak (below_drew1 HB.out)
         clear HO_0;clear BK266;clear HK;clear HB;have HO_0:=n0_;have BK266:=n1_;have HK:=n2_;have HB:=n3_;clear n0_ n1_ n2_ n3_
         have p274:0≤(x5_1:Int):=of_decide_eq_true (by first|(with_reducible assumption)|assumption)
         have q274:x5_1<(l1_3.length:Int):=of_decide_eq_true (by first|(with_reducible assumption)|assumption)
         obtain ⟨ad274,e274,hx274_0⟩:=Kd.at_int (Kd.C_kept_now HR1_3.out HK.out) x5_1 p274 q274
         have hw274_0:=hx274_0
         cases e274
         replace p274:=eq_true p274
         replace q274:=eq_true q274
         have p275:0≤(x5_1:Int):=of_decide_eq_true (by first|(with_reducible assumption)|assumption)
         have q275:x5_1<(l1_3.length:Int):=of_decide_eq_true (by first|(with_reducible assumption)|assumption)
         obtain ⟨ad275,e275,hx275_0⟩:=Kd.at_int (Kd.C_kept_now HR1_3.out HK.out) x5_1 p275 q275
         have hw275_0:=hx275_0
         obtain rfl:ad274=ad275:=(by injection e275)
         replace p275:=eq_true p275
         replace q275:=eq_true q275
         have p276:0≤(x5_1:Int):=of_decide_eq_true (by first|(with_reducible assumption)|assumption)
         have q276:x5_1<(l1_3.length:Int):=of_decide_eq_true (by first|(with_reducible assumption)|assumption)
         obtain ⟨ad276,e276,hx276_0⟩:=Kd.at_int (Kd.C_kept_now HR1_3.out HK.out) x5_1 p276 q276
         have hw276_0:=hx276_0
         obtain rfl:ad274=ad276:=(by injection e276)
         replace p276:=eq_true p276
         replace q276:=eq_true q276
         have p277:0≤(x5_1:Int):=of_decide_eq_true (by first|(with_reducible assumption)|assumption)
         have q277:x5_1<(l1_3.length:Int):=of_decide_eq_true (by first|(with_reducible assumption)|assumption)
         obtain ⟨ad277,e277,hx277_0⟩:=Kd.at_int (Kd.C_kept_now HR1_3.out HK.out) x5_1 p277 q277
         have hw277_0:=hx277_0
         obtain rfl:ad274=ad277:=(by injection e277)
         replace p277:=eq_true p277
         replace q277:=eq_true q277
         refine start_ (n:=31) (S:=fun w'=>w'.cell? ⟨gb266,0,none⟩=some (.int .i64 a1_0)∧w'.cell? ⟨gb266,1,none⟩=some (.bool a1_1)∧w'.cell? ⟨gb266,2,none⟩=some (.int .i64 a1_2)∧w'.cell? ⟨gb266,3,none⟩=some (.slice (some ad274) l1_3.length c1_3)∧w'.cell? ⟨gb266,4,none⟩=some (.slice A1_4 l1_4.length c1_4)∧w'.cell? ⟨gb266,5,none⟩=some (.slice A1_5 l1_5.length c1_5)∧w'.cell? ⟨gb266,6,none⟩=some (.int .i64 a1_6)∧w'.cell? ⟨gb266,7,none⟩=some (.string a1_7)∧w'.cell? ⟨gb266,8,none⟩=some (.slice A1_8 l1_8.length c1_8)∧w'.cell? ⟨gb266,9,none⟩=some (.slice A1_9 l1_9.length c1_9)∧w'.cell? (ad274.add (x5_1).toNat)=some (.int .u32 (rd l1_3 x5_1))∧w'.cell? (ad274.add (x5_1).toNat)=some (.int .u32 (rd l1_3 x5_1))∧w'.cell? (ad274.add (x5_1).toNat)=some (.int .u32 (rd l1_3 x5_1))∧w'.cell? (ad274.add (x5_1).toNat)=some (.int .u32 (rd l1_3 x5_1))) (ds:=[]) #[false,false,false,false,false,false,false,false,false,false,false,false,false,false,false,false,false,false,false,false,false,false,false,false,false,false,false,false,false,false,false] (by kernel_rfl) rfl rfl ⟨(blk_cell BK266.out 0).trans rfl,(blk_cell BK266.out 1).trans rfl,(blk_cell BK266.out 2).trans rfl,(blk_cell BK266.out 3).trans rfl,(blk_cell BK266.out 4).trans rfl,(blk_cell BK266.out 5).trans rfl,(blk_cell BK266.out 6).trans rfl,(blk_cell BK266.out 7).trans rfl,(blk_cell BK266.out 8).trans rfl,(blk_cell BK266.out 9).trans rfl,(Kd.foot_int (HR1_3.out _ (by repeat (first|exact HK.out|apply Kept.alloc|apply Kept.drewN|apply Kept.drew))) x5_1 (of_eq_true p274) (of_eq_true q274)),(Kd.foot_int (HR1_3.out _ (by repeat (first|exact HK.out|apply Kept.alloc|apply Kept.drewN|apply Kept.drew))) x5_1 (of_eq_true p275) (of_eq_true q275)),(Kd.foot_int (HR1_3.out _ (by repeat (first|exact HK.out|apply Kept.alloc|apply Kept.drewN|apply Kept.drew))) x5_1 (of_eq_true p276) (of_eq_true q276)),(Kd.foot_int (HR1_3.out _ (by repeat (first|exact HK.out|apply Kept.alloc|apply Kept.drewN|apply Kept.drew))) x5_1 (of_eq_true p277) (of_eq_true q277))⟩ (fun hHeld=>?_);refine with_tabW spec_l3Proto.tab5 spec_l3Proto.bits5 (fun HT_ HW_=>?_)
         generalize wr.drew=w22 at HO_0 BK266 HK HB hx274_0 hx275_0 hx276_0 hx277_0 hHeld ⊢
         refine pure_ (i:=0) (N:=some 35) (v:=?_) (a':=?_) #[true,false,false,false,false,false,false,false,false,false,false,false,false,false,false,false,false,false,false,false,false,false,false,false,false,false,false,false,false,false,false] rfl rfl (any_of HT_.out (by kernel_rfl)) (fun _ _ _ h=>h) (Or.inl ⟨by rfl,?_⟩) ?_ ?_
         rotate_left
         ·intro w'
          go_simp
          with_reducible rfl
         rotate_left
         ·simp only [Act.put,List.setIfInBounds_toArray,List.set_cons_zero,List.set_cons_succ,i64_w,i32_w]
          rfl
         refine pure_ (i:=1) (N:=some 36) (v:=?_) (a':=?_) #[true,true,false,false,false,false,false,false,false,false,false,false,false,false,false,false,false,false,false,false,false,false,false,false,false,false,false,false,false,false,false] rfl rfl (any_of HT_.out (by kernel_rfl)) (fun _ _ _ h=>h) (Or.inl ⟨by rfl,?_⟩) ?_ ?_
         rotate_left
         ·intro w'
          go_simp
          with_reducible rfl
         rotate_left
         ·simp only [Act.put,List.setIfInBounds_toArray,List.set_cons_zero,List.set_cons_succ,i64_w,i32_w]
          rfl
         refine pure_ (i:=3) (N:=some 38) (v:=?_) (a':=?_) #[true,true,false,true,false,false,false,false,false,false,false,false,false,false,false,false,false,false,false,false,false,false,false,false,false,false,false,false,false,false,false] rfl rfl (any_of HT_.out (by kernel_rfl)) (fun _ _ _ h=>h) (Or.inl ⟨by rfl,?_⟩) ?_ ?_
         rotate_left
         ·intro w'
          go_simp
          with_reducible rfl
         rotate_left
         ·simp only [Act.put,List.setIfInBounds_toArray,List.set_cons_zero,List.set_cons_succ,i64_w,i32_w]
          rfl
         refine pure_ (i:=7) (N:=some 42) (v:=?_) (a':=?_) #[true,true,false,true,false,false,false,true,false,false,false,false,false,false,false,false,false,false,false,false,false,false,false,false,false,false,false,false,false,false,false] rfl rfl (any_of HT_.out (by kernel_rfl)) (fun _ _ _ h=>h) (Or.inl ⟨by rfl,?_⟩) ?_ ?_
         rotate_left
         ·intro w'
          go_simp
          with_reducible rfl
         rotate_left
         ·simp only [Act.put,List.setIfInBounds_toArray,List.set_cons_zero,List.set_cons_succ,i64_w,i32_w]
          rfl
         refine pure_ (i:=9) (N:=some 44) (v:=?_) (a':=?_) #[true,true,false,true,false,false,false,true,false,true,false,false,false,false,false,false,false,false,false,false,false,false,false,false,false,false,false,false,false,false,false] rfl rfl (any_of HT_.out (by kernel_rfl)) (fun _ _ _ h=>h) (Or.inl ⟨by rfl,?_⟩) ?_ ?_
         rotate_left
         ·intro w'
          go_simp
          with_reducible rfl
         rotate_left
         ·simp only [Act.put,List.setIfInBounds_toArray,List.set_cons_zero,List.set_cons_succ,i64_w,i32_w]
          rfl
         refine pure_ (i:=14) (N:=some 49) (v:=?_) (a':=?_) #[true,true,false,true,false,false,false,true,false,true,false,false,false,false,true,false,false,false,false,false,false,false,false,false,false,false,false,false,false,false,false] rfl rfl (any_of HT_.out (by kernel_rfl)) (fun _ _ _ h=>h) (Or.inl ⟨by rfl,?_⟩) ?_ ?_
         rotate_left
         ·intro w'
          go_simp
          with_reducible rfl
         rotate_left
         ·simp only [Act.put,List.setIfInBounds_toArray,List.set_cons_zero,List.set_cons_succ,i64_w,i32_w]
          rfl
         refine pure_ (i:=16) (N:=some 51) (v:=?_) (a':=?_) #[true,true,false,true,false,false,false,true,false,true,false,false,false,false,true,false,true,false,false,false,false,false,false,false,false,false,false,false,false,false,false] rfl rfl (any_of HT_.out (by kernel_rfl)) (fun _ _ _ h=>h) (Or.inl ⟨by rfl,?_⟩) ?_ ?_
         rotate_left
         ·intro w'
          go_simp
          with_reducible rfl
         rotate_left
         ·simp only [Act.put,List.setIfInBounds_toArray,List.set_cons_zero,List.set_cons_succ,i64_w,i32_w]
          rfl
         refine pure_ (i:=21) (N:=some 56) (v:=?_) (a':=?_) #[true,true,false,true,false,false,false,true,false,true,false,false,false,false,true,false,true,false,false,false,false,true,false,false,false,false,false,false,false,false,false] rfl rfl (any_of HT_.out (by kernel_rfl)) (fun _ _ _ h=>h) (Or.inl ⟨by rfl,?_⟩) ?_ ?_
         rotate_left
         ·intro w'
          go_simp
          with_reducible rfl
         rotate_left
         ·simp only [Act.put,List.setIfInBounds_toArray,List.set_cons_zero,List.set_cons_succ,i64_w,i32_w]
          rfl
         refine pure_ (i:=23) (N:=some 58) (v:=?_) (a':=?_) #[true,true,false,true,false,false,false,true,false,true,false,false,false,false,true,false,true,false,false,false,false,true,false,true,false,false,false,false,false,false,false] rfl rfl (any_of HT_.out (by kernel_rfl)) (fun _ _ _ h=>h) (Or.inl ⟨by rfl,?_⟩) ?_ ?_
         rotate_left
         ·intro w'
          go_simp
          with_reducible rfl
         rotate_left
         ·simp only [Act.put,List.setIfInBounds_toArray,List.set_cons_zero,List.set_cons_succ,i64_w,i32_w]
          rfl
         refine take_ (i:=2) (N:=some 37) (v:=?_) (a':=?_) #[true,true,true,true,false,false,false,true,false,true,false,false,false,false,true,false,true,false,false,false,false,true,false,true,false,false,false,false,false,false,false] rfl rfl (take_ofW HT_.out HW_.out (by kernel_rfl)) (fun _ _ _ h=>h) (Or.inl ⟨by rfl,?_⟩) hHeld ?_ ?_
         rotate_left
         ·rintro w' ⟨s0,s1,s2,s3,s4,s5,s6,s7,s8,s9,s10,s11,s12,s13⟩
          go_simp
          with_reducible rfl
         rotate_left
         ·simp only [Act.put,List.setIfInBounds_toArray,List.set_cons_zero,List.set_cons_succ,i64_w,i32_w]
          rfl
         refine pure_ (i:=4) (N:=some 39) (v:=?_) (a':=?_) #[true,true,true,true,true,false,false,true,false,true,false,false,false,false,true,false,true,false,false,false,false,true,false,true,false,false,false,false,false,false,false] rfl rfl (any_of HT_.out (by kernel_rfl)) (fun _ _ _ h=>h) (Or.inl ⟨by rfl,?_⟩) ?_ ?_
         rotate_left
         ·intro w'
          go_simp
          with_reducible rfl
         rotate_left
         ·simp only [Act.put,List.setIfInBounds_toArray,List.set_cons_zero,List.set_cons_succ,i64_w,i32_w]
          rfl
         refine take_ (i:=5) (N:=some 40) (v:=?_) (a':=?_) #[true,true,true,true,true,true,false,true,false,true,false,false,false,false,true,false,true,false,false,false,false,true,false,true,false,false,false,false,false,false,false] rfl rfl (take_ofW HT_.out HW_.out (by kernel_rfl)) (fun _ _ _ h=>h) (Or.inl ⟨by rfl,?_⟩) hHeld ?_ ?_
         rotate_left
         ·rintro w' ⟨s0,s1,s2,s3,s4,s5,s6,s7,s8,s9,s10,s11,s12,s13⟩
          go_simp
          with_reducible rfl
         rotate_left
         ·simp only [Act.put,List.setIfInBounds_toArray,List.set_cons_zero,List.set_cons_succ,i64_w,i32_w]
          rfl
         refine pure_ (i:=6) (N:=some 41) (v:=?_) (a':=?_) #[true,true,true,true,true,true,true,true,false,true,false,false,false,false,true,false,true,false,false,false,false,true,false,true,false,false,false,false,false,false,false] rfl rfl (any_of HT_.out (by kernel_rfl)) (fun _ _ _ h=>h) (Or.inl ⟨by rfl,?_⟩) ?_ ?_
         rotate_left
         ·intro w'
          go_simp
          with_reducible rfl
         rotate_left
         ·simp only [Act.put,List.setIfInBounds_toArray,List.set_cons_zero,List.set_cons_succ,i64_w,i32_w]
          rfl
         refine take_ (i:=8) (N:=some 43) (v:=?_) (a':=?_) #[true,true,true,true,true,true,true,true,true,true,false,false,false,false,true,false,true,false,false,false,false,true,false,true,false,false,false,false,false,false,false] rfl rfl (take_ofW HT_.out HW_.out (by kernel_rfl)) (fun _ _ _ h=>h) (Or.inl ⟨by rfl,?_⟩) hHeld ?_ ?_
         rotate_left
         ·rintro w' ⟨s0,s1,s2,s3,s4,s5,s6,s7,s8,s9,s10,s11,s12,s13⟩
          go_simp
          with_reducible rfl
         rotate_left
         ·simp only [Act.put,List.setIfInBounds_toArray,List.set_cons_zero,List.set_cons_succ,i64_w,i32_w]
          rfl
         refine pure_ (i:=10) (N:=some 45) (v:=?_) (a':=?_) #[true,true,true,true,true,true,true,true,true,true,true,false,false,false,true,false,true,false,false,false,false,true,false,true,false,false,false,false,false,false,false] rfl rfl (any_of HT_.out (by kernel_rfl)) (fun _ _ _ h=>h) (Or.inl ⟨by rfl,?_⟩) ?_ ?_
         rotate_left
         ·intro w'
          go_simp
          with_reducible rfl
         rotate_left
         ·simp only [Act.put,List.setIfInBounds_toArray,List.set_cons_zero,List.set_cons_succ,i64_w,i32_w]
          rfl
         refine take_ (i:=11) (N:=some 46) (v:=?_) (a':=?_) #[true,true,true,true,true,true,true,true,true,true,true,true,false,false,true,false,true,false,false,false,false,true,false,true,false,false,false,false,false,false,false] rfl rfl (take_ofW HT_.out HW_.out (by kernel_rfl)) (fun _ _ _ h=>h) (Or.inl ⟨by rfl,?_⟩) hHeld ?_ ?_
         rotate_left
         ·rintro w' ⟨s0,s1,s2,s3,s4,s5,s6,s7,s8,s9,s10,s11,s12,s13⟩
          go_simp
          with_reducible rfl
         rotate_left
         ·simp only [Act.put,List.setIfInBounds_toArray,List.set_cons_zero,List.set_cons_succ,i64_w,i32_w]
          rfl
         refine pure_ (i:=12) (N:=some 47) (v:=?_) (a':=?_) #[true,true,true,true,true,true,true,true,true,true,true,true,true,false,true,false,true,false,false,false,false,true,false,true,false,false,false,false,false,false,false] rfl rfl (any_of HT_.out (by kernel_rfl)) (fun _ _ _ h=>h) (Or.inl ⟨by rfl,?_⟩) ?_ ?_
         rotate_left
         ·intro w'
          go_simp
          with_reducible rfl
         rotate_left
         ·simp only [Act.put,List.setIfInBounds_toArray,List.set_cons_zero,List.set_cons_succ,i64_w,i32_w]
          rfl
         refine pure_ (i:=13) (N:=some 48) (v:=?_) (a':=?_) #[true,true,true,true,true,true,true,true,true,true,true,true,true,true,true,false,true,false,false,false,false,true,false,true,false,false,false,false,false,false,false] rfl rfl (any_of HT_.out (by kernel_rfl)) (fun _ _ _ h=>h) (Or.inl ⟨by rfl,?_⟩) ?_ ?_
         rotate_left
         ·intro w'
          go_simp
          with_reducible rfl
         rotate_left
         ·simp only [Act.put,List.setIfInBounds_toArray,List.set_cons_zero,List.set_cons_succ,i64_w,i32_w]
          rfl
         refine take_ (i:=15) (N:=some 50) (v:=?_) (a':=?_) #[true,true,true,true,true,true,true,true,true,true,true,true,true,true,true,true,true,false,false,false,false,true,false,true,false,false,false,false,false,false,false] rfl rfl (take_ofW HT_.out HW_.out (by kernel_rfl)) (fun _ _ _ h=>h) (Or.inl ⟨by rfl,?_⟩) hHeld ?_ ?_
         rotate_left
         ·rintro w' ⟨s0,s1,s2,s3,s4,s5,s6,s7,s8,s9,s10,s11,s12,s13⟩
          go_simp
          with_reducible rfl
         rotate_left
         ·simp only [Act.put,List.setIfInBounds_toArray,List.set_cons_zero,List.set_cons_succ,i64_w,i32_w]
          rfl
         refine pure_ (i:=17) (N:=some 52) (v:=?_) (a':=?_) #[true,true,true,true,true,true,true,true,true,true,true,true,true,true,true,true,true,true,false,false,false,true,false,true,false,false,false,false,false,false,false] rfl rfl (any_of HT_.out (by kernel_rfl)) (fun _ _ _ h=>h) (Or.inl ⟨by rfl,?_⟩) ?_ ?_
         rotate_left
         ·intro w'
          go_simp
          with_reducible rfl
         rotate_left
         ·simp only [Act.put,List.setIfInBounds_toArray,List.set_cons_zero,List.set_cons_succ,i64_w,i32_w]
          rfl
         refine take_ (i:=18) (N:=some 53) (v:=?_) (a':=?_) #[true,true,true,true,true,true,true,true,true,true,true,true,true,true,true,true,true,true,true,false,false,true,false,true,false,false,false,false,false,false,false] rfl rfl (take_ofW HT_.out HW_.out (by kernel_rfl)) (fun _ _ _ h=>h) (Or.inl ⟨by rfl,?_⟩) hHeld ?_ ?_
         rotate_left
         ·rintro w' ⟨s0,s1,s2,s3,s4,s5,s6,s7,s8,s9,s10,s11,s12,s13⟩
          go_simp
          with_reducible rfl
         rotate_left
         ·simp only [Act.put,List.setIfInBounds_toArray,List.set_cons_zero,List.set_cons_succ,i64_w,i32_w]
          rfl
         refine pure_ (i:=19) (N:=some 54) (v:=?_) (a':=?_) #[true,true,true,true,true,true,true,true,true,true,true,true,true,true,true,true,true,true,true,true,false,true,false,true,false,false,false,false,false,false,false] rfl rfl (any_of HT_.out (by kernel_rfl)) (fun _ _ _ h=>h) (Or.inl ⟨by rfl,?_⟩) ?_ ?_
         rotate_left
         ·intro w'
          go_simp
          with_reducible rfl
         rotate_left
         ·simp only [Act.put,List.setIfInBounds_toArray,List.set_cons_zero,List.set_cons_succ,i64_w,i32_w]
          rfl
         refine pure_ (i:=20) (N:=some 55) (v:=?_) (a':=?_) #[true,true,true,true,true,true,true,true,true,true,true,true,true,true,true,true,true,true,true,true,true,true,false,true,false,false,false,false,false,false,false] rfl rfl (any_of HT_.out (by kernel_rfl)) (fun _ _ _ h=>h) (Or.inl ⟨by rfl,?_⟩) ?_ ?_
         rotate_left
         ·intro w'
          go_simp
          with_reducible rfl
         rotate_left
         ·simp only [Act.put,List.setIfInBounds_toArray,List.set_cons_zero,List.set_cons_succ,i64_w,i32_w]
          rfl
         refine take_ (i:=22) (N:=some 57) (v:=?_) (a':=?_) #[true,true,true,true,true,true,true,true,true,true,true,true,true,true,true,true,true,true,true,true,true,true,true,true,false,false,false,false,false,false,false] rfl rfl (take_ofW HT_.out HW_.out (by kernel_rfl)) (fun _ _ _ h=>h) (Or.inl ⟨by rfl,?_⟩) hHeld ?_ ?_
         rotate_left
         ·rintro w' ⟨s0,s1,s2,s3,s4,s5,s6,s7,s8,s9,s10,s11,s12,s13⟩
          go_simp
          with_reducible rfl
         rotate_left
         ·simp only [Act.put,List.setIfInBounds_toArray,List.set_cons_zero,List.set_cons_succ,i64_w,i32_w]
          rfl
         refine pure_ (i:=24) (N:=some 59) (v:=?_) (a':=?_) #[true,true,true,true,true,true,true,true,true,true,true,true,true,true,true,true,true,true,true,true,true,true,true,true,true,false,false,false,false,false,false] rfl rfl (any_of HT_.out (by kernel_rfl)) (fun _ _ _ h=>h) (Or.inl ⟨by rfl,?_⟩) ?_ ?_
         rotate_left
         ·intro w'
          go_simp
          with_reducible rfl
         rotate_left
         ·simp only [Act.put,List.setIfInBounds_toArray,List.set_cons_zero,List.set_cons_succ,i64_w,i32_w]
          rfl
         refine take_ (i:=25) (N:=some 60) (v:=?_) (a':=?_) #[true,true,true,true,true,true,true,true,true,true,true,true,true,true,true,true,true,true,true,true,true,true,true,true,true,true,false,false,false,false,false] rfl rfl (take_ofW HT_.out HW_.out (by kernel_rfl)) (fun _ _ _ h=>h) (Or.inl ⟨by rfl,?_⟩) hHeld ?_ ?_
         rotate_left
         ·rintro w' ⟨s0,s1,s2,s3,s4,s5,s6,s7,s8,s9,s10,s11,s12,s13⟩
          go_simp
          with_reducible rfl
         rotate_left
         ·simp only [Act.put,List.setIfInBounds_toArray,List.set_cons_zero,List.set_cons_succ,i64_w,i32_w]
          rfl
         refine pure_ (i:=26) (N:=some 61) (v:=?_) (a':=?_) #[true,true,true,true,true,true,true,true,true,true,true,true,true,true,true,true,true,true,true,true,true,true,true,true,true,true,true,false,false,false,false] rfl rfl (any_of HT_.out (by kernel_rfl)) (fun _ _ _ h=>h) (Or.inl ⟨by rfl,?_⟩) ?_ ?_
         rotate_left
         ·intro w'
          go_simp
          with_reducible rfl
         rotate_left
         ·simp only [Act.put,List.setIfInBounds_toArray,List.set_cons_zero,List.set_cons_succ,i64_w,i32_w]
          rfl
         refine pure_ (i:=27) (N:=some 62) (v:=?_) (a':=?_) #[true,true,true,true,true,true,true,true,true,true,true,true,true,true,true,true,true,true,true,true,true,true,true,true,true,true,true,true,false,false,false] rfl rfl (any_of HT_.out (by kernel_rfl)) (fun _ _ _ h=>h) (Or.inl ⟨by rfl,?_⟩) ?_ ?_
         rotate_left
         ·intro w'
          go_simp
          with_reducible rfl
         rotate_left
         ·simp only [Act.put,List.setIfInBounds_toArray,List.set_cons_zero,List.set_cons_succ,i64_w,i32_w]
          rfl
         refine one_ (i:=28) (N:=some 63) #[true,true,true,true,true,true,true,true,true,true,true,true,true,true,true,true,true,true,true,true,true,true,true,true,true,true,true,true,true,false,false] rfl rfl (one_of HT_.out (by kernel_rfl)) (by decide) (fun K hK=>?_)
         refine Kd.R_lit_step (Kd.int .u8) _ 5 ?hg (N:=63) ?hd (xs:=([(rd l1_3 x5_1) % 256,((Int.tdiv (rd l1_3 x5_1) 256) % 4294967296) % 256,((Int.tdiv (rd l1_3 x5_1) 65536) % 4294967296) % 256,((Int.tdiv (rd l1_3 x5_1) 16777216) % 4294967296) % 256]:List Int)) (inner:=[.int .u8 ((rd l1_3 x5_1) % 256),.int .u8 (((Int.tdiv (rd l1_3 x5_1) 256) % 4294967296) % 256),.int .u8 (((Int.tdiv (rd l1_3 x5_1) 65536) % 4294967296) % 256),.int .u8 (((Int.tdiv (rd l1_3 x5_1) 16777216) % 4294967296) % 256)]) (ok:=fun _=>True) (okp:=fun _=>True) ?hr ?hp (fun _ hk=>hk) trivial (Below.refl _ _) (Nat.le_refl _) (by simp) ?_;(case hd=>rfl);(case hg=>rfl);(case hr=>first|(go_simp;done)|(go_simp;rfl)|(go_simp;simp [IntKind.wrap_u8,IntKind.wrap_u32];done));(case hp=>exact (Reps.one (show Kd.M (Kd.int .u8) _ _ _ ((rd l1_3 x5_1) % 256) [.int .u8 ((rd l1_3 x5_1) % 256)] from rfl) (Reps.one (show Kd.M (Kd.int .u8) _ _ _ (((Int.tdiv (rd l1_3 x5_1) 256) % 4294967296) % 256) [.int .u8 (((Int.tdiv (rd l1_3 x5_1) 256) % 4294967296) % 256)] from rfl) (Reps.one (show Kd.M (Kd.int .u8) _ _ _ (((Int.tdiv (rd l1_3 x5_1) 65536) % 4294967296) % 256) [.int .u8 (((Int.tdiv (rd l1_3 x5_1) 65536) % 4294967296) % 256)] from rfl) (Reps.one (show Kd.M (Kd.int .u8) _ _ _ (((Int.tdiv (rd l1_3 x5_1) 16777216) % 4294967296) % 256) [.int .u8 (((Int.tdiv (rd l1_3 x5_1) 16777216) % 4294967296) % 256)] from rfl) (Reps.none _ _))))))
         intro v279 w23 ho24 hb hg_ hnew_
         clear hg_ hnew_
         (first|rw [← Ny278.out] at ho24|(simp only [Int.reduceToNat] at ho24;rw [← Ny278.out] at ho24))
         have n0_:=Ak (Kd.R_elder' (by (with_reducible repeat (first|apply Kd.R_alloc|apply Kd.R_drewN|apply Kd.R_drew));exact HO_0.out) (Kd.R_base ho24) hb)
         have n1_:=Ak (Kd.R_lower (Kd.R_new' (Kd.R_newM (M:=fun k_=>(P0_ k_∨w.heap.size≤k_)) ho24 (by first|exact HK.out.1|exact (show Kept w _ (fun k_=>P0_ k_) from by repeat (first|(with_reducible first|exact HK.out|apply Kept.alloc|apply Kept.drewN|apply Kept.drew|refine Kept.setCell ?_ (.inr GW266.out) _)|exact HK.out)).1) (fun k_ h_=>.inr h_)) (Kd.R_lt (by (with_reducible repeat (first|apply Kd.R_alloc|apply Kd.R_drewN|apply Kd.R_drew));exact HO_0.out))) (below_size (by repeat (first|(with_reducible first|exact HB.out|apply below_alloc|apply pw_below_drewN|apply below_drew1|refine below_set ?_ GE266.out)|exact HB.out))))
         have n2_:=Ak (blk_below (g:=gb266) (o:=.cells #[.int .i64 a1_0,.bool a1_1,.int .i64 a1_2,.slice (some ad274) l1_3.length c1_3,.slice A1_4 l1_4.length c1_4,.slice A1_5 l1_5.length c1_5,.int .i64 a1_6,.string a1_7,.slice A1_8 l1_8.length c1_8,.slice A1_9 l1_9.length c1_9] 44 (0,0)) (by (with_reducible repeat (first|refine blk_drewN ?_ _|refine blk_drew ?_|refine blk_alloc ?_ _));exact BK266.out) hb)
         have n3_:=Ak (Kept.below (S:=(fun k_=>P0_ k_)) (by repeat (first|(with_reducible first|exact HK.out|apply Kept.alloc|apply Kept.drewN|apply Kept.drew|refine Kept.setCell ?_ (.inr GW266.out) _)|exact HK.out)) hb)
         have n4_:=Ak (below_step (by repeat (first|(with_reducible first|exact HB.out|apply below_alloc|apply pw_below_drewN|apply below_drew1|refine below_set ?_ GE266.out)|exact HB.out)) hb)
         clear HO_0;clear BK266;clear HK;clear HB;have HO_0:=n0_;have HO280:=n1_;have BK266:=n2_;have HK:=n3_;have HB:=n4_;clear n0_ n1_ n2_ n3_ n4_;clear hb ho24
         obtain ⟨Ao26,co26,eo26⟩:=Kd.R_slice HO280.out
         (first|subst eo26|(injection eo26 with f1_ f2_ f3_;have f4_:=f1_.symm;have f5_:=f3_.symm;clear f1_ f2_ f3_;subst f4_;subst f5_))
         refine hK.out _ _ ⟨(blk_cell BK266.out 0).trans rfl,(blk_cell BK266.out 1).trans rfl,(blk_cell BK266.out 2).trans rfl,(blk_cell BK266.out 3).trans rfl,(blk_cell BK266.out 4).trans rfl,(blk_cell BK266.out 5).trans rfl,(blk_cell BK266.out 6).trans rfl,(blk_cell BK266.out 7).trans rfl,(blk_cell BK266.out 8).trans rfl,(blk_cell BK266.out 9).trans rfl,(Kd.foot_int (HR1_3.out _ (by repeat (first|exact HK.out|apply Kept.alloc|apply Kept.drewN|apply Kept.drew))) x5_1 (of_eq_true p274) (of_eq_true q274)),(Kd.foot_int (HR1_3.out _ (by repeat (first|exact HK.out|apply Kept.alloc|apply Kept.drewN|apply Kept.drew))) x5_1 (of_eq_true p275) (of_eq_true q275)),(Kd.foot_int (HR1_3.out _ (by repeat (first|exact HK.out|apply Kept.alloc|apply Kept.drewN|apply Kept.drew))) x5_1 (of_eq_true p276) (of_eq_true q276)),(Kd.foot_int (HR1_3.out _ (by repeat (first|exact HK.out|apply Kept.alloc|apply Kept.drewN|apply Kept.drew))) x5_1 (of_eq_true p277) (of_eq_true q277))⟩ (fun hHeld=>?_)
         clear hK K
         refine norm_ (a':=?_) ?_ ?_
         rotate_left
         ·show Act.put _ (some 63) _=_
          simp only [Act.put,List.setIfInBounds_toArray,List.set_cons_zero,List.set_cons_succ,i64_w,i32_w]
          rfl
         refine one_ (i:=29) (N:=some 64) #[true,true,true,true,true,true,true,true,true,true,true,true,true,true,true,true,true,true,true,true,true,true,true,true,true,true,true,true,true,true,false] rfl rfl (one_of HT_.out (by kernel_rfl)) (by decide) (fun K hK=>?_)
         refine Kd.R_append_rows_step (Kd.int .u8) (w0:=w0) w0.heap.size (by rfl) (.tmp 35) (.tmp 63) 35 5 (.int .u8 0) 1 rfl Try.underlying35 info5 rfl (by decide) (by omega) u0 x0_1 y278 _ _ _ (fun k_=>(P0_ k_∨w.heap.size≤k_)∧some k_≠(.slice Ao26 y278.length co26:Value).ownBlock) (fun _=>False) rfl rfl ?aO ?aR (fun _ _ h=>h) (fun _ h=>h.elim) ?aF ?aB ?aS ?aL ?_
         (case aR=>repeat (first|exact (Kd.R_reads' HO280.out).2.2|(with_reducible refine Kd.C_alloc ?_ _)|(with_reducible refine Kd.C_drewN ?_ _)|(with_reducible refine Kd.C_drew ?_)))
         (case aB=>exact (by repeat (first|(with_reducible first|exact HB.out|apply below_alloc|apply pw_below_drewN|apply below_drew1|refine below_set ?_ GE266.out)|exact HB.out)))
         (case aF=>exact (fun k_ hk=>⟨(.inr (Nat.le_trans (by first|exact HK.out.1|exact (show Kept w _ (fun k_=>P0_ k_) from by repeat (first|(with_reducible first|exact HK.out|apply Kept.alloc|apply Kept.drewN|apply Kept.drew|refine Kept.setCell ?_ (.inr GW266.out) _)|exact HK.out)).1) hk)),Kd.fresh' (Kd.R_lt (by (with_reducible repeat (first|apply Kd.R_alloc|apply Kd.R_drewN|apply Kd.R_drew));exact HO280.out)) k_ hk⟩))
         (case aO=>exact (by (with_reducible repeat (first|apply Kd.R_alloc|apply Kd.R_drewN|apply Kd.R_drew));exact HO_0.out))
         (case aS=>exact (below_size (by repeat (first|(with_reducible first|exact HB.out|apply below_alloc|apply pw_below_drewN|apply below_drew1|refine below_set ?_ GE266.out)|exact HB.out))))
         (case aL=>have:=LMc20.out;omega)
         intro v282 w25 ho hb hg hat
         rw [← Ny281.out] at ho
         have n0_:=Ak (blk_grown (g:=gb266) (o:=.cells #[.int .i64 a1_0,.bool a1_1,.int .i64 a1_2,.slice (some ad274) l1_3.length c1_3,.slice A1_4 l1_4.length c1_4,.slice A1_5 l1_5.length c1_5,.int .i64 a1_6,.string a1_7,.slice A1_8 l1_8.length c1_8,.slice A1_9 l1_9.length c1_9] 44 (0,0)) (by (with_reducible repeat (first|refine blk_drewN ?_ _|refine blk_drew ?_|refine blk_alloc ?_ _));exact BK266.out) hg (Kd.R_ne HO_0.out BK266.out (by decide)))
         have n1_:=Ak (Kd.R_after (ok:=(fun k_=>(P0_ k_∨w.heap.size≤k_))) (by (with_reducible repeat (first|apply Kd.R_alloc|apply Kd.R_drewN|apply Kd.R_drew));exact Kd.R_mono HO280.out (fun _ hk=>⟨hk.1.1,hk.2⟩)) hg hat)
         have n2_:=Ak (hb)
         have n3_:=Ak (Kept.of_grown (S:=(fun k_=>P0_ k_)) hg (by repeat (first|(with_reducible first|exact HK.out|apply Kept.alloc|apply Kept.drewN|apply Kept.drew|refine Kept.setCell ?_ (.inr GW266.out) _)|exact HK.out)) (fun k_ e_=>(HO_0.out.1 k_ e_).1))
         have n4_:=Ak (ho)
         clear BK266;clear HO280;clear HB;clear HK;clear HO_0;have BK266:=n0_;have HO280:=n1_;have HB:=n2_;have HK:=n3_;have HO283:=n4_;clear n0_ n1_ n2_ n3_ n4_;clear ho hb hg hat
         refine hK.out _ _ ⟨(blk_cell BK266.out 0).trans rfl,(blk_cell BK266.out 1).trans rfl,(blk_cell BK266.out 2).trans rfl,(blk_cell BK266.out 3).trans rfl,(blk_cell BK266.out 4).trans rfl,(blk_cell BK266.out 5).trans rfl,(blk_cell BK266.out 6).trans rfl,(blk_cell BK266.out 7).trans rfl,(blk_cell BK266.out 8).trans rfl,(blk_cell BK266.out 9).trans rfl,(Kd.foot_int (HR1_3.out _ (by repeat (first|exact HK.out|apply Kept.alloc|apply Kept.drewN|apply Kept.drew))) x5_1 (of_eq_true p274) (of_eq_true q274)),(Kd.foot_int (HR1_3.out _ (by repeat (first|exact HK.out|apply Kept.alloc|apply Kept.drewN|apply Kept.drew))) x5_1 (of_eq_true p275) (of_eq_true q275)),(Kd.foot_int (HR1_3.out _ (by repeat (first|exact HK.out|apply Kept.alloc|apply Kept.drewN|apply Kept.drew))) x5_1 (of_eq_true p276) (of_eq_true q276)),(Kd.foot_int (HR1_3.out _ (by repeat (first|exact HK.out|apply Kept.alloc|apply Kept.drewN|apply Kept.drew))) x5_1 (of_eq_true p277) (of_eq_true q277))⟩ (fun hHeld=>?_)
         clear hK K
         refine norm_ (a':=?_) ?_ ?_
         rotate_left
         ·show Act.put _ (some 64) _=_
          simp only [Act.put,List.setIfInBounds_toArray,List.set_cons_zero,List.set_cons_succ,i64_w,i32_w]
          rfl
         refine pure_ (i:=30) (N:=some 0) (v:=?_) (a':=?_) #[true,true,true,true,true,true,true,true,true,true,true,true,true,true,true,true,true,true,true,true,true,true,true,true,true,true,true,true,true,true,true] rfl rfl (any_of HT_.out (by kernel_rfl)) (fun _ _ _ h=>h) (Or.inl ⟨by rfl,?_⟩) ?_ ?_
         rotate_left
         ·intro w'
          go_simp
          with_reducible rfl
         rotate_left
         ·simp only [Act.put,List.setIfInBounds_toArray,List.set_cons_zero,List.set_cons_succ,i64_w,i32_w]
          rfl
         refine done_ (done_of HT_.out (by kernel_rfl)) ?_
         try go_wp2
         go_roundg k1
         case measure=>have:=HK1.out;omega
         case rel=>exact ⟨(y281),(wrap64 (x5_1+1)),(by first|rfl|(simp;done)|(simp [*];done)),H',⟨by have:=HK1.out;omega⟩,⟨by (with_reducible repeat (first|apply Kd.R_alloc|apply Kd.R_drewN|apply Kd.R_drew));exact Kd.R_mono HO283.out (fun _ hk=>hk.1)⟩,⟨by (with_reducible repeat (first|refine blk_drewN ?_ _|refine blk_drew ?_|refine blk_alloc ?_ _));exact BK266.out⟩,⟨by repeat (first|(with_reducible first|exact HK.out|apply Kept.alloc|apply Kept.drewN|apply Kept.drew|refine Kept.setCell ?_ (.inr GW266.out) _)|exact HK.out)⟩,⟨by repeat (first|(with_reducible first|exact HB.out|apply below_alloc|apply pw_below_drewN|apply below_drew1|refine below_set ?_ GE266.out)|exact HB.out)⟩⟩
        ·rw [if_neg c20] at H
         exact absurd H (by simp)
       ·rw [if_neg c19] at H
        exact absurd H (by simp)
      ·rw [if_neg c18] at H
       have c18b0:decide (x5_1<(l1_3.length:Int))=false:=decide_eq_false c18
       clear c18
       replace H:=Option.bind_eq_some_iff.mp H
       obtain ⟨t284,A270,H⟩:=H
       replace H:((spec_l3Put.f k1 x0_1 t284).bind fun t285=>(spec_l3Proto.l1 k1 t285 0 a1_0 a1_1 a1_2 l1_3 l1_4 l1_5 a1_6 a1_7 l1_8 l1_9))=some r:=H
       have A27:=Ak A270;clear A270
       replace H:=Option.bind_eq_some_iff.mp H
       obtain ⟨t285,A280,H⟩:=H
       replace H:(spec_l3Proto.l1 k1 t285 0 a1_0 a1_1 a1_2 l1_3 l1_4 l1_5 a1_6 a1_7 l1_8 l1_9)=some r:=H
       have A28:=Ak A280;clear A280
       have H':=Ak H
       clear H
       obtain ⟨hcz29_0,hcz29_1,hcz29_2,hcz29_3,hcz29_4,hcz29_5,hcz29_6,hcz29_7,hcz29_8,hcz29_9,hfz29_0,hfz29_1,hfz29_2,hfz29_3,hfz29_4,hfz29_5,hfz29_6,hfz29_7,hfz29_8,hfz29_9⟩:=bk10 BK266.out
       go_wp2_with (first|((with_reducible refine gate_callee (f:=74) rfl ?_);refine goesL_ (some 69) rfl rfl Try.func74 (by kernel_rfl) rfl #[.int .i64 (l1_4.length:Int)] rfl (by (try simp only [List.map_toArray,List.map_cons,List.map_nil]);first|done|rfl|(simp only [List.length_drop,List.length_take];rfl)) ?_;(with_reducible refine (spec_PutVarint.calls k1 (l1_4.length:Int) t284 _ A27.out).mono ?_);rintro e w30 ⟨rfl,hb⟩;refine ⟨_,rfl,?_⟩;have n0_:=Ak (Kd.R_below (by (with_reducible repeat (first|apply Kd.R_alloc|apply Kd.R_drewN|apply Kd.R_drew));exact HO_0.out) hb);have n1_:=Ak (blk_below (g:=gb266) (o:=.cells #[.int .i64 a1_0,.bool a1_1,.int .i64 a1_2,.slice A1_3 l1_3.length c1_3,.slice A1_4 l1_4.length c1_4,.slice A1_5 l1_5.length c1_5,.int .i64 a1_6,.string a1_7,.slice A1_8 l1_8.length c1_8,.slice A1_9 l1_9.length c1_9] 44 (0,0)) (by (with_reducible repeat (first|refine blk_drewN ?_ _|refine blk_drew ?_|refine blk_alloc ?_ _));exact BK266.out) hb);have n2_:=Ak (Kept.below (S:=(fun k_=>P0_ k_)) (by repeat (first|(with_reducible first|exact HK.out|apply Kept.alloc|apply Kept.drewN|apply Kept.drew|refine Kept.setCell ?_ (.inr GW266.out) _)|exact HK.out)) hb);have n3_:=Ak (below_step (by repeat (first|(with_reducible first|exact HB.out|apply below_alloc|apply pw_below_drewN|apply below_drew1|refine below_set ?_ GE266.out)|exact HB.out)) hb);clear HO_0;clear BK266;clear HK;clear HB;have HO_0:=n0_;have BK266:=n1_;have HK:=n2_;have HB:=n3_;clear n0_ n1_ n2_ n3_;(try clear hb);(try clear hb2);(try clear hk);(try clear hi);obtain ⟨Ao31,co31,eo31⟩:=Kd.R_slice HO_0.out;subst eo31)|((with_reducible refine gate_callee (f:=33) rfl ?_);refine goesL_ (some 70) rfl rfl Try.func33 (by kernel_rfl) rfl #[.slice Ao31 x0_1.length co31,.string t284] rfl (by (try simp only [List.map_toArray,List.map_cons,List.map_nil]);first|done|rfl|(simp only [List.length_drop,List.length_take];rfl)) ?_;(with_reducible refine (spec_l3Put.calls k1 (fun k_=>some k_=(.slice Ao31 x0_1.length co31:Value).ownBlock) (.slice Ao31 x0_1.length co31) x0_1 t284 t285 w0 _ ?side1 ?side2 A28.out).mono ?_);(case side1=>repeat (first|(with_reducible first|exact HB.out|apply below_alloc|apply pw_below_drewN|apply below_drew1|refine below_set ?_ GE266.out)|exact HB.out));(case side2=>exact Kd.R_tight rfl HO_0.out);rintro e w32 ⟨v286,rfl,ho0,hb,hkp⟩;refine ⟨_,rfl,?_⟩;have n0_:=Ak (blk_kept (by (with_reducible repeat (first|refine blk_drewN ?_ _|refine blk_drew ?_|refine blk_alloc ?_ _));exact BK266.out) hkp (fun hs_=>(fun e_=>(Kd.R_ne HO_0.out BK266.out (by decide)) e_) hs_));have n1_:=Ak (Kd.R_mono (ok':=fun k_=>(P0_ k_∨w.heap.size≤k_)) ho0 (fun k_ hk_=>Or.elim hk_ (fun hs_=>(HO_0.out.1 k_ (hs_).symm)) (fun hn_=>(.inr (Nat.le_trans (by first|exact HK.out.1|exact (show Kept w _ (fun k_=>P0_ k_) from by repeat (first|(with_reducible first|exact HK.out|apply Kept.alloc|apply Kept.drewN|apply Kept.drew|refine Kept.setCell ?_ (.inr GW266.out) _)|exact HK.out)).1) hn_)))));have n2_:=Ak (Kept.then_ (S:=(fun k_=>P0_ k_)) (by repeat (first|(with_reducible first|exact HK.out|apply Kept.alloc|apply Kept.drewN|apply Kept.drew|refine Kept.setCell ?_ (.inr GW266.out) _)|exact HK.out)) hkp (fun k_ hs_=>(fun e_=>(HO_0.out.1 k_ e_.symm)) hs_));have n3_:=Ak (hb);clear BK266;clear HK;clear HB;clear HO_0;have BK266:=n0_;have HO287:=n1_;have HK:=n2_;have HB:=n3_;clear n0_ n1_ n2_ n3_;(try clear hb);(try clear hkp);(try clear ho0)))
       go_loopg [0,6] k1 (fun kq v0 v6 w'=>∃ (x0_2:List Int) (x6_2:Int),v6=.int .i64 x6_2∧Aside0 (spec_l3Proto.l1 kq x0_2 x6_2 a1_0 a1_1 a1_2 l1_3 l1_4 l1_5 a1_6 a1_7 l1_8 l1_9=some r)∧Aside0 (kq≤k1)∧Aside0 (Kd.R (Kd.int .u8) 5 w' w0.heap.size (fun k_=>(P0_ k_∨w.heap.size≤k_)) v0 x0_2)∧Aside0 (w'.heap[gb266]?=some (.cells #[.int .i64 a1_0,.bool a1_1,.int .i64 a1_2,(.slice A1_3 l1_3.length c1_3),(.slice A1_4 l1_4.length c1_4),(.slice A1_5 l1_5.length c1_5),.int .i64 a1_6,.string a1_7,(.slice A1_8 l1_8.length c1_8),(.slice A1_9 l1_9.length c1_9)] 44 (0,0)))∧Aside0 (Kept w w' (fun k_=>P0_ k_))∧Aside0 (Below w0.heap.size w0 w'))
       case atStart=>exact ⟨(t285),(0),(by first|rfl|(simp;done)|(simp [*];done)),H',⟨Nat.le_refl _⟩,⟨by (with_reducible repeat (first|apply Kd.R_alloc|apply Kd.R_drewN|apply Kd.R_drew));exact HO287.out⟩,⟨by (with_reducible repeat (first|refine blk_drewN ?_ _|refine blk_drew ?_|refine blk_alloc ?_ _));exact BK266.out⟩,⟨by repeat (first|(with_reducible first|exact HK.out|apply Kept.alloc|apply Kept.drewN|apply Kept.drew|refine Kept.setCell ?_ (.inr GW266.out) _)|exact HK.out)⟩,⟨by repeat (first|(with_reducible first|exact HB.out|apply below_alloc|apply pw_below_drewN|apply below_drew1|refine below_set ?_ GE266.out)|exact HB.out)⟩⟩
       case round =>
        clear H';(try clear c1);(try clear c2);(try clear p2);(try clear q2);(try clear hx2);(try clear c3);(try clear c5);(try clear c5b0);(try clear c5b1);(try clear c5b2);(try clear c5b3);(try clear p6);(try clear c7);(try clear c7b0);(try clear c7b1);(try clear c7b2);(try clear c7b3);(try clear c9);(try clear c9b0);(try clear c9b1);(try clear c9b2);(try clear c9b3)
        (try clear c18);(try clear c18b0);(try clear c19);(try clear c19b0);(try clear c20);(try clear p27);(try clear q27);(try clear hx27);(try clear hcz21_0);(try clear hcz21_1);(try clear hcz21_2);(try clear hcz21_3);(try clear hcz21_4);(try clear hcz21_5);(try clear hcz21_6);(try clear hcz21_7);(try clear hcz21_8);(try clear hcz21_9);(try clear hcz29_0);(try clear hcz29_1)
        (try clear hcz29_2);(try clear hcz29_3);(try clear hcz29_4);(try clear hcz29_5);(try clear hcz29_6);(try clear hcz29_7);(try clear hcz29_8);(try clear hcz29_9);(try clear hfz21_0);(try clear hfz21_1);(try clear hfz21_2);(try clear hfz21_3);(try clear hfz21_4);(try clear hfz21_5);(try clear hfz21_6);(try clear hfz21_7);(try clear hfz21_8);(try clear hfz21_9);(try clear hfz29_0)
        (try clear hfz29_1);(try clear hfz29_2);(try clear hfz29_3);(try clear hfz29_4);(try clear hfz29_5);(try clear hfz29_6);(try clear hfz29_7);(try clear hfz29_8);(try clear hfz29_9);(try clear hx274_0);(try clear hx275_0);(try clear hx276_0);(try clear hx277_0);(try clear p2);(try clear p274);(try clear p275);(try clear p276);(try clear p277);(try clear q274);(try clear q275)
        (try clear q276);(try clear q277)
        obtain ⟨x0_2,x6_2,rfl,HA,HK2,HO_0,BK266,HK,HB⟩:=hrel
        cases gk with
        | zero=>exact absurd HA.out (by simp [spec_l3Proto.l1])
        | succ k2 =>
         have H:=HA.out
         clear HA
         simp only [spec_l3Proto.l1] at H
         by_cases c33:x6_2<(l1_4.length:Int)
         ·rw [if_pos c33] at H
          have c33b0:decide (x6_2<(l1_4.length:Int))=true:=decide_eq_true c33
          clear c33
          by_cases c34:0≤x6_2
          ·rw [if_pos c34] at H
           have c34b0:decide (0≤x6_2)=true:=decide_eq_true c34
           clear c34
           replace H:=Option.bind_eq_some_iff.mp H
           obtain ⟨t289,A350,H⟩:=H
           replace H:((spec_l3Put.f k2 x0_2 t289).bind fun t290=>(spec_l3Proto.l1 k2 t290 (wrap64 (x6_2+1)) a1_0 a1_1 a1_2 l1_3 l1_4 l1_5 a1_6 a1_7 l1_8 l1_9))=some r:=H
           have A35:=Ak A350;clear A350
           replace H:=Option.bind_eq_some_iff.mp H
           obtain ⟨t290,A360,H⟩:=H
           replace H:(spec_l3Proto.l1 k2 t290 (wrap64 (x6_2+1)) a1_0 a1_1 a1_2 l1_3 l1_4 l1_5 a1_6 a1_7 l1_8 l1_9)=some r:=H
           have A36:=Ak A360;clear A360
           have H':=Ak H
           clear H
           obtain ⟨hcz37_0,hcz37_1,hcz37_2,hcz37_3,hcz37_4,hcz37_5,hcz37_6,hcz37_7,hcz37_8,hcz37_9,hfz37_0,hfz37_1,hfz37_2,hfz37_3,hfz37_4,hfz37_5,hfz37_6,hfz37_7,hfz37_8,hfz37_9⟩:=bk10 BK266.out
           have p288:0≤(x6_2:Int):=of_decide_eq_true (by first|(with_reducible assumption)|assumption)
           have q288:x6_2<(l1_4.length:Int):=of_decide_eq_true (by first|(with_reducible assumption)|assumption)
           obtain ⟨ad288,e288,hx288_0,hx288_1,hx288_2⟩:=at_T85 (Kd.C_kept_now HR1_4.out HK.out) x6_2 p288 q288
           cases e288
           replace p288:=eq_true p288
           replace q288:=eq_true q288
           go_wp2_with (first|((with_reducible refine gate_callee (f:=75) rfl ?_);refine goesL_ (some 84) rfl rfl Try.func75 (by kernel_rfl) rfl #[.agg #[.int .i64 ((rd_T85 l1_4 x6_2).f0),.int .i64 ((rd_T85 l1_4 x6_2).f1),.string ((rd_T85 l1_4 x6_2).f2)]] rfl (by (try simp only [List.map_toArray,List.map_cons,List.map_nil]);first|done|rfl|(simp only [List.length_drop,List.length_take];rfl)) ?_;(with_reducible refine (spec_l3Const.calls k2 ((rd_T85 l1_4 x6_2).f0) ((rd_T85 l1_4 x6_2).f1) ((rd_T85 l1_4 x6_2).f2) t289 _ A35.out).mono ?_);rintro e w38 ⟨rfl,hb⟩;refine ⟨_,rfl,?_⟩;have n0_:=Ak (Kd.R_below (by (with_reducible repeat (first|apply Kd.R_alloc|apply Kd.R_drewN|apply Kd.R_drew));exact HO_0.out) hb);have n1_:=Ak (blk_below (g:=gb266) (o:=.cells #[.int .i64 a1_0,.bool a1_1,.int .i64 a1_2,.slice A1_3 l1_3.length c1_3,.slice (some ad288) l1_4.length c1_4,.slice A1_5 l1_5.length c1_5,.int .i64 a1_6,.string a1_7,.slice A1_8 l1_8.length c1_8,.slice A1_9 l1_9.length c1_9] 44 (0,0)) (by (with_reducible repeat (first|refine blk_drewN ?_ _|refine blk_drew ?_|refine blk_alloc ?_ _));exact BK266.out) hb);have n2_:=Ak (Kept.below (S:=(fun k_=>P0_ k_)) (by repeat (first|(with_reducible first|exact HK.out|apply Kept.alloc|apply Kept.drewN|apply Kept.drew|refine Kept.setCell ?_ (.inr GW266.out) _)|exact HK.out)) hb);have n3_:=Ak (below_step (by repeat (first|(with_reducible first|exact HB.out|apply below_alloc|apply pw_below_drewN|apply below_drew1|refine below_set ?_ GE266.out)|exact HB.out)) hb);clear HO_0;clear BK266;clear HK;clear HB;have HO_0:=n0_;have BK266:=n1_;have HK:=n2_;have HB:=n3_;clear n0_ n1_ n2_ n3_;(try clear hb);(try clear hb2);(try clear hk);(try clear hi);obtain ⟨Ao39,co39,eo39⟩:=Kd.R_slice HO_0.out;subst eo39)|((with_reducible refine gate_callee (f:=33) rfl ?_);refine goesL_ (some 85) rfl rfl Try.func33 (by kernel_rfl) rfl #[.slice Ao39 x0_2.length co39,.string t289] rfl (by (try simp only [List.map_toArray,List.map_cons,List.map_nil]);first|done|rfl|(simp only [List.length_drop,List.length_take];rfl)) ?_;(with_reducible refine (spec_l3Put.calls k2 (fun k_=>some k_=(.slice Ao39 x0_2.length co39:Value).ownBlock) (.slice Ao39 x0_2.length co39) x0_2 t289 t290 w0 _ ?side1 ?side2 A36.out).mono ?_);(case side1=>repeat (first|(with_reducible first|exact HB.out|apply below_alloc|apply pw_below_drewN|apply below_drew1|refine below_set ?_ GE266.out)|exact HB.out));(case side2=>exact Kd.R_tight rfl HO_0.out);rintro e w40 ⟨v291,rfl,ho0,hb,hkp⟩;refine ⟨_,rfl,?_⟩;have n0_:=Ak (blk_kept (by (with_reducible repeat (first|refine blk_drewN ?_ _|refine blk_drew ?_|refine blk_alloc ?_ _));exact BK266.out) hkp (fun hs_=>(fun e_=>(Kd.R_ne HO_0.out BK266.out (by decide)) e_) hs_));have n1_:=Ak (Kd.R_mono (ok':=fun k_=>(P0_ k_∨w.heap.size≤k_)) ho0 (fun k_ hk_=>Or.elim hk_ (fun hs_=>(HO_0.out.1 k_ (hs_).symm)) (fun hn_=>(.inr (Nat.le_trans (by first|exact HK.out.1|exact (show Kept w _ (fun k_=>P0_ k_) from by repeat (first|(with_reducible first|exact HK.out|apply Kept.alloc|apply Kept.drewN|apply Kept.drew|refine Kept.setCell ?_ (.inr GW266.out) _)|exact HK.out)).1) hn_)))));have n2_:=Ak (Kept.then_ (S:=(fun k_=>P0_ k_)) (by repeat (first|(with_reducible first|exact HK.out|apply Kept.alloc|apply Kept.drewN|apply Kept.drew|refine Kept.setCell ?_ (.inr GW266.out) _)|exact HK.out)) hkp (fun k_ hs_=>(fun e_=>(HO_0.out.1 k_ e_.symm)) hs_));have n3_:=Ak (hb);clear BK266;clear HK;clear HB;clear HO_0;have BK266:=n0_;have HO292:=n1_;have HK:=n2_;have HB:=n3_;clear n0_ n1_ n2_ n3_;(try clear hb);(try clear hkp);(try clear ho0)))
           go_roundg k2
           case measure=>have:=HK1.out;have:=HK2.out;omega
           case rel=>exact ⟨(t290),(wrap64 (x6_2+1)),(by first|rfl|(simp;done)|(simp [*];done)),H',⟨by have:=HK1.out;have:=HK2.out;omega⟩,⟨by (with_reducible repeat (first|apply Kd.R_alloc|apply Kd.R_drewN|apply Kd.R_drew));exact HO292.out⟩,⟨by (with_reducible repeat (first|refine blk_drewN ?_ _|refine blk_drew ?_|refine blk_alloc ?_ _));exact BK266.out⟩,⟨by repeat (first|(with_reducible first|exact HK.out|apply Kept.alloc|apply Kept.drewN|apply Kept.drew|refine Kept.setCell ?_ (.inr GW266.out) _)|exact HK.out)⟩,⟨by repeat (first|(with_reducible first|exact HB.out|apply below_alloc|apply pw_below_drewN|apply below_drew1|refine below_set ?_ GE266.out)|exact HB.out)⟩⟩
          ·rw [if_neg c34] at H
           exact absurd H (by simp)
         ·rw [if_neg c33] at H
          have c33b0:decide (x6_2<(l1_4.length:Int))=false:=decide_eq_false c33
          clear c33
          replace H:=Option.bind_eq_some_iff.mp H
          obtain ⟨t293,A410,H⟩:=H
          replace H:((spec_l3Put.f k2 x0_2 t293).bind fun t294=>(spec_l3Proto.l2 k2 t294 0 a1_0 a1_1 a1_2 l1_3 l1_4 l1_5 a1_6 a1_7 l1_8 l1_9))=some r:=H
          have A41:=Ak A410;clear A410
          replace H:=Option.bind_eq_some_iff.mp H
          obtain ⟨t294,A420,H⟩:=H
          replace H:(spec_l3Proto.l2 k2 t294 0 a1_0 a1_1 a1_2 l1_3 l1_4 l1_5 a1_6 a1_7 l1_8 l1_9)=some r:=H
          have A42:=Ak A420;clear A420
          have H':=Ak H
          clear H
          obtain ⟨hcz43_0,hcz43_1,hcz43_2,hcz43_3,hcz43_4,hcz43_5,hcz43_6,hcz43_7,hcz43_8,hcz43_9,hfz43_0,hfz43_1,hfz43_2,hfz43_3,hfz43_4,hfz43_5,hfz43_6,hfz43_7,hfz43_8,hfz43_9⟩:=bk10 BK266.out
          go_wp2_with (first|((with_reducible refine gate_callee (f:=74) rfl ?_);refine goesL_ (some 90) rfl rfl Try.func74 (by kernel_rfl) rfl #[.int .i64 (l1_5.length:Int)] rfl (by (try simp only [List.map_toArray,List.map_cons,List.map_nil]);first|done|rfl|(simp only [List.length_drop,List.length_take];rfl)) ?_;(with_reducible refine (spec_PutVarint.calls k2 (l1_5.length:Int) t293 _ A41.out).mono ?_);rintro e w44 ⟨rfl,hb⟩;refine ⟨_,rfl,?_⟩;have n0_:=Ak (Kd.R_below (by (with_reducible repeat (first|apply Kd.R_alloc|apply Kd.R_drewN|apply Kd.R_drew));exact HO_0.out) hb);have n1_:=Ak (blk_below (g:=gb266) (o:=.cells #[.int .i64 a1_0,.bool a1_1,.int .i64 a1_2,.slice A1_3 l1_3.length c1_3,.slice A1_4 l1_4.length c1_4,.slice A1_5 l1_5.length c1_5,.int .i64 a1_6,.string a1_7,.slice A1_8 l1_8.length c1_8,.slice A1_9 l1_9.length c1_9] 44 (0,0)) (by (with_reducible repeat (first|refine blk_drewN ?_ _|refine blk_drew ?_|refine blk_alloc ?_ _));exact BK266.out) hb);have n2_:=Ak (Kept.below (S:=(fun k_=>P0_ k_)) (by repeat (first|(with_reducible first|exact HK.out|apply Kept.alloc|apply Kept.drewN|apply Kept.drew|refine Kept.setCell ?_ (.inr GW266.out) _)|exact HK.out)) hb);have n3_:=Ak (below_step (by repeat (first|(with_reducible first|exact HB.out|apply below_alloc|apply pw_below_drewN|apply below_drew1|refine below_set ?_ GE266.out)|exact HB.out)) hb);clear HO_0;clear BK266;clear HK;clear HB;have HO_0:=n0_;have BK266:=n1_;have HK:=n2_;have HB:=n3_;clear n0_ n1_ n2_ n3_;(try clear hb);(try clear hb2);(try clear hk);(try clear hi);obtain ⟨Ao45,co45,eo45⟩:=Kd.R_slice HO_0.out;subst eo45)|((with_reducible refine gate_callee (f:=33) rfl ?_);refine goesL_ (some 91) rfl rfl Try.func33 (by kernel_rfl) rfl #[.slice Ao45 x0_2.length co45,.string t293] rfl (by (try simp only [List.map_toArray,List.map_cons,List.map_nil]);first|done|rfl|(simp only [List.length_drop,List.length_take];rfl)) ?_;(with_reducible refine (spec_l3Put.calls k2 (fun k_=>some k_=(.slice Ao45 x0_2.length co45:Value).ownBlock) (.slice Ao45 x0_2.length co45) x0_2 t293 t294 w0 _ ?side1 ?side2 A42.out).mono ?_);(case side1=>repeat (first|(with_reducible first|exact HB.out|apply below_alloc|apply pw_below_drewN|apply below_drew1|refine below_set ?_ GE266.out)|exact HB.out));(case side2=>exact Kd.R_tight rfl HO_0.out);rintro e w46 ⟨v295,rfl,ho0,hb,hkp⟩;refine ⟨_,rfl,?_⟩;have n0_:=Ak (blk_kept (by (with_reducible repeat (first|refine blk_drewN ?_ _|refine blk_drew ?_|refine blk_alloc ?_ _));exact BK266.out) hkp (fun hs_=>(fun e_=>(Kd.R_ne HO_0.out BK266.out (by decide)) e_) hs_));have n1_:=Ak (Kd.R_mono (ok':=fun k_=>(P0_ k_∨w.heap.size≤k_)) ho0 (fun k_ hk_=>Or.elim hk_ (fun hs_=>(HO_0.out.1 k_ (hs_).symm)) (fun hn_=>(.inr (Nat.le_trans (by first|exact HK.out.1|exact (show Kept w _ (fun k_=>P0_ k_) from by repeat (first|(with_reducible first|exact HK.out|apply Kept.alloc|apply Kept.drewN|apply Kept.drew|refine Kept.setCell ?_ (.inr GW266.out) _)|exact HK.out)).1) hn_)))));have n2_:=Ak (Kept.then_ (S:=(fun k_=>P0_ k_)) (by repeat (first|(with_reducible first|exact HK.out|apply Kept.alloc|apply Kept.drewN|apply Kept.drew|refine Kept.setCell ?_ (.inr GW266.out) _)|exact HK.out)) hkp (fun k_ hs_=>(fun e_=>(HO_0.out.1 k_ e_.symm)) hs_));have n3_:=Ak (hb);clear BK266;clear HK;clear HB;clear HO_0;have BK266:=n0_;have HO296:=n1_;have HK:=n2_;have HB:=n3_;clear n0_ n1_ n2_ n3_;(try clear hb);(try clear hkp);(try clear ho0)))
          go_loopg [0,7] k2 (fun kq v0 v7 w'=>∃ (x0_3:List Int) (x7_3:Int),v7=.int .i64 x7_3∧Aside0 (spec_l3Proto.l2 kq x0_3 x7_3 a1_0 a1_1 a1_2 l1_3 l1_4 l1_5 a1_6 a1_7 l1_8 l1_9=some r)∧Aside0 (kq≤k2)∧Aside0 (Kd.R (Kd.int .u8) 5 w' w0.heap.size (fun k_=>(P0_ k_∨w.heap.size≤k_)) v0 x0_3)∧Aside0 (w'.heap[gb266]?=some (.cells #[.int .i64 a1_0,.bool a1_1,.int .i64 a1_2,(.slice A1_3 l1_3.length c1_3),(.slice A1_4 l1_4.length c1_4),(.slice A1_5 l1_5.length c1_5),.int .i64 a1_6,.string a1_7,(.slice A1_8 l1_8.length c1_8),(.slice A1_9 l1_9.length c1_9)] 44 (0,0)))∧Aside0 (Kept w w' (fun k_=>P0_ k_))∧Aside0 (Below w0.heap.size w0 w'))
          case atStart=>exact ⟨(t294),(0),(by first|rfl|(simp;done)|(simp [*];done)),H',⟨Nat.le_refl _⟩,⟨by (with_reducible repeat (first|apply Kd.R_alloc|apply Kd.R_drewN|apply Kd.R_drew));exact HO296.out⟩,⟨by (with_reducible repeat (first|refine blk_drewN ?_ _|refine blk_drew ?_|refine blk_alloc ?_ _));exact BK266.out⟩,⟨by repeat (first|(with_reducible first|exact HK.out|apply Kept.alloc|apply Kept.drewN|apply Kept.drew|refine Kept.setCell ?_ (.inr GW266.out) _)|exact HK.out)⟩,⟨by repeat (first|(with_reducible first|exact HB.out|apply below_alloc|apply pw_below_drewN|apply below_drew1|refine below_set ?_ GE266.out)|exact HB.out)⟩⟩
          case round =>
           clear H';(try clear c1);(try clear c2);(try clear p2);(try clear q2);(try clear hx2);(try clear c3);(try clear c5);(try clear c5b0);(try clear c5b1);(try clear c5b2);(try clear c5b3);(try clear p6);(try clear c7);(try clear c7b0);(try clear c7b1);(try clear c7b2);(try clear c7b3);(try clear c9);(try clear c9b0);(try clear c9b1);(try clear c9b2);(try clear c9b3)
           (try clear c18);(try clear c18b0);(try clear c19);(try clear c19b0);(try clear c20);(try clear p27);(try clear q27);(try clear hx27);(try clear p28);(try clear q28);(try clear hx28);(try clear c33);(try clear c33b0);(try clear c34);(try clear c34b0);(try clear hcz21_0);(try clear hcz21_1);(try clear hcz21_2);(try clear hcz21_3);(try clear hcz21_4);(try clear hcz21_5)
           (try clear hcz21_6);(try clear hcz21_7);(try clear hcz21_8);(try clear hcz21_9);(try clear hcz29_0);(try clear hcz29_1);(try clear hcz29_2);(try clear hcz29_3);(try clear hcz29_4);(try clear hcz29_5);(try clear hcz29_6);(try clear hcz29_7);(try clear hcz29_8);(try clear hcz29_9);(try clear hcz37_0);(try clear hcz37_1);(try clear hcz37_2);(try clear hcz37_3);(try clear hcz37_4)
           (try clear hcz37_5);(try clear hcz37_6);(try clear hcz37_7);(try clear hcz37_8);(try clear hcz37_9);(try clear hcz43_0);(try clear hcz43_1);(try clear hcz43_2);(try clear hcz43_3);(try clear hcz43_4);(try clear hcz43_5);(try clear hcz43_6);(try clear hcz43_7);(try clear hcz43_8);(try clear hcz43_9);(try clear hfz21_0);(try clear hfz21_1);(try clear hfz21_2);(try clear hfz21_3)
           (try clear hfz21_4);(try clear hfz21_5);(try clear hfz21_6);(try clear hfz21_7);(try clear hfz21_8);(try clear hfz21_9);(try clear hfz29_0);(try clear hfz29_1);(try clear hfz29_2);(try clear hfz29_3);(try clear hfz29_4);(try clear hfz29_5);(try clear hfz29_6);(try clear hfz29_7);(try clear hfz29_8);(try clear hfz29_9);(try clear hfz37_0);(try clear hfz37_1);(try clear hfz37_2)
           (try clear hfz37_3);(try clear hfz37_4);(try clear hfz37_5);(try clear hfz37_6);(try clear hfz37_7);(try clear hfz37_8);(try clear hfz37_9);(try clear hfz43_0);(try clear hfz43_1);(try clear hfz43_2);(try clear hfz43_3);(try clear hfz43_4);(try clear hfz43_5);(try clear hfz43_6);(try clear hfz43_7);(try clear hfz43_8);(try clear hfz43_9);(try clear hx274_0);(try clear hx275_0)
           (try clear hx276_0);(try clear hx277_0);(try clear hx288_0);(try clear hx288_1);(try clear hx288_2);(try clear p2);(try clear p27);(try clear p274);(try clear p275);(try clear p276);(try clear p277);(try clear p288);(try clear p6);(try clear q2);(try clear q27);(try clear q274);(try clear q275);(try clear q276);(try clear q277);(try clear q288)
           obtain ⟨x0_3,x7_3,rfl,HA,HK3,HO_0,BK266,HK,HB⟩:=hrel
           cases gk with
           | zero=>exact absurd HA.out (by simp [spec_l3Proto.l2])
           | succ k3 =>
            have H:=HA.out
            clear HA
            simp only [spec_l3Proto.l2] at H
            by_cases c47:x7_3<(l1_5.length:Int)
            ·rw [if_pos c47] at H
             have c47b0:decide (x7_3<(l1_5.length:Int))=true:=decide_eq_true c47
             clear c47
             by_cases c48:0≤x7_3
             ·rw [if_pos c48] at H
              have c48b0:decide (0≤x7_3)=true:=decide_eq_true c48
              clear c48
              replace H:=Option.bind_eq_some_iff.mp H
              obtain ⟨t298,A490,H⟩:=H
              replace H:((spec_PutVarint.f k3 ((rd_T89 l1_5 x7_3).f1)).bind fun t300=>(if t298.size+t300.size≤9223372036854775807 then ((spec_l3Put.f k3 x0_3 (t298++t300)).bind fun t301=>(spec_l3Proto.l2 k3 t301 (wrap64 (x7_3+1)) a1_0 a1_1 a1_2 l1_3 l1_4 l1_5 a1_6 a1_7 l1_8 l1_9)) else (none)))=some r:=H
              have A49:=Ak A490;clear A490
              replace H:=Option.bind_eq_some_iff.mp H
              obtain ⟨t300,A500,H⟩:=H
              replace H:(if t298.size+t300.size≤9223372036854775807 then ((spec_l3Put.f k3 x0_3 (t298++t300)).bind fun t301=>(spec_l3Proto.l2 k3 t301 (wrap64 (x7_3+1)) a1_0 a1_1 a1_2 l1_3 l1_4 l1_5 a1_6 a1_7 l1_8 l1_9)) else (none))=some r:=H
              have A50:=Ak A500;clear A500
              by_cases c51:t298.size+t300.size≤9223372036854775807
              ·rw [if_pos c51] at H
               have c51b0:=eq_true c51
               have c51b1:decide (t298.size+t300.size≤9223372036854775807)=true:=decide_eq_true c51
               try have c51b2:(9223372036854775807<t298.size+t300.size)=False:=eq_false (Nat.not_lt.2 c51)
               replace H:=Option.bind_eq_some_iff.mp H
               obtain ⟨t301,A520,H⟩:=H
               replace H:(spec_l3Proto.l2 k3 t301 (wrap64 (x7_3+1)) a1_0 a1_1 a1_2 l1_3 l1_4 l1_5 a1_6 a1_7 l1_8 l1_9)=some r:=H
               have A52:=Ak A520;clear A520
               have H':=Ak H
               clear H
               obtain ⟨hcz53_0,hcz53_1,hcz53_2,hcz53_3,hcz53_4,hcz53_5,hcz53_6,hcz53_7,hcz53_8,hcz53_9,hfz53_0,hfz53_1,hfz53_2,hfz53_3,hfz53_4,hfz53_5,hfz53_6,hfz53_7,hfz53_8,hfz53_9⟩:=bk10 BK266.out
               try go_wp2
               have n0_:=Ak (Kd.R_drew HO_0.out)
               have n1_:=Ak (blk_drew BK266.out)
               have n2_:=Ak (Kept.drew HK.out)
               have n3_:=Ak (below_drew1 HB.out)
               clear HO_0;clear BK266;clear HK;clear HB;have HO_0:=n0_;have BK266:=n1_;have HK:=n2_;have HB:=n3_;clear n0_ n1_ n2_ n3_
               have p297:0≤(x7_3:Int):=of_decide_eq_true (by first|(with_reducible assumption)|assumption)
               have q297:x7_3<(l1_5.length:Int):=of_decide_eq_true (by first|(with_reducible assumption)|assumption)
               obtain ⟨ad297,e297,hx297_0,hx297_1⟩:=at_T89 (Kd.C_kept_now HR1_5.out HK.out) x7_3 p297 q297
               have hw297_1:=hx297_1;have hw297_0:=hx297_0
               cases e297
               replace p297:=eq_true p297
               replace q297:=eq_true q297
               have p299:0≤(x7_3:Int):=of_decide_eq_true (by first|(with_reducible assumption)|assumption)
               have q299:x7_3<(l1_5.length:Int):=of_decide_eq_true (by first|(with_reducible assumption)|assumption)
               obtain ⟨ad299,e299,hx299_0,hx299_1⟩:=at_T89 (Kd.C_kept_now HR1_5.out HK.out) x7_3 p299 q299
               have hw299_1:=hx299_1;have hw299_0:=hx299_0
               obtain rfl:ad297=ad299:=(by injection e299)
               replace p299:=eq_true p299
               replace q299:=eq_true q299
               refine start_ (n:=18) (S:=fun w'=>w'.cell? ⟨gb266,0,none⟩=some (.int .i64 a1_0)∧w'.cell? ⟨gb266,1,none⟩=some (.bool a1_1)∧w'.cell? ⟨gb266,2,none⟩=some (.int .i64 a1_2)∧w'.cell? ⟨gb266,3,none⟩=some (.slice A1_3 l1_3.length c1_3)∧w'.cell? ⟨gb266,4,none⟩=some (.slice A1_4 l1_4.length c1_4)∧w'.cell? ⟨gb266,5,none⟩=some (.slice (some ad297) l1_5.length c1_5)∧w'.cell? ⟨gb266,6,none⟩=some (.int .i64 a1_6)∧w'.cell? ⟨gb266,7,none⟩=some (.string a1_7)∧w'.cell? ⟨gb266,8,none⟩=some (.slice A1_8 l1_8.length c1_8)∧w'.cell? ⟨gb266,9,none⟩=some (.slice A1_9 l1_9.length c1_9)∧w'.cell? (ad297.add ((x7_3).toNat*2))=some (.bool ((rd_T89 l1_5 x7_3).f0))∧w'.cell? ⟨(ad297.add ((x7_3).toNat*2)).block,(ad297.add ((x7_3).toNat*2)).off+1,none⟩=some (.int .i64 ((rd_T89 l1_5 x7_3).f1))∧w'.cell? (ad297.add ((x7_3).toNat*2))=some (.bool ((rd_T89 l1_5 x7_3).f0))∧w'.cell? ⟨(ad297.add ((x7_3).toNat*2)).block,(ad297.add ((x7_3).toNat*2)).off+1,none⟩=some (.int .i64 ((rd_T89 l1_5 x7_3).f1))) (ds:=[16]) #[false,false,false,false,false,false,false,false,false,false,false,false,false,false,false,false,false,false] (by kernel_rfl) rfl rfl ⟨(blk_cell BK266.out 0).trans rfl,(blk_cell BK266.out 1).trans rfl,(blk_cell BK266.out 2).trans rfl,(blk_cell BK266.out 3).trans rfl,(blk_cell BK266.out 4).trans rfl,(blk_cell BK266.out 5).trans rfl,(blk_cell BK266.out 6).trans rfl,(blk_cell BK266.out 7).trans rfl,(blk_cell BK266.out 8).trans rfl,(blk_cell BK266.out 9).trans rfl,hx297_0,hx297_1,hx299_0,hx299_1⟩ (fun hHeld=>?_);refine with_tabW spec_l3Proto.tab15 spec_l3Proto.bits15 (fun HT_ HW_=>?_)
               generalize wr.drew=w54 at HO_0 BK266 HK HB hx297_0 hx297_1 hx299_0 hx299_1 hHeld ⊢
               refine pure_ (i:=0) (N:=some 99) (v:=?_) (a':=?_) #[true,false,false,false,false,false,false,false,false,false,false,false,false,false,false,false,false,false] rfl rfl (any_of HT_.out (by kernel_rfl)) (fun _ _ _ h=>h) (Or.inl ⟨by rfl,?_⟩) ?_ ?_
               rotate_left
               ·intro w'
                go_simp
                with_reducible rfl
               rotate_left
               ·simp only [Act.put,List.setIfInBounds_toArray,List.set_cons_zero,List.set_cons_succ,i64_w,i32_w]
                rfl
               refine pure_ (i:=1) (N:=some 100) (v:=?_) (a':=?_) #[true,true,false,false,false,false,false,false,false,false,false,false,false,false,false,false,false,false] rfl rfl (any_of HT_.out (by kernel_rfl)) (fun _ _ _ h=>h) (Or.inl ⟨by rfl,?_⟩) ?_ ?_
               rotate_left
               ·intro w'
                go_simp
                with_reducible rfl
               rotate_left
               ·simp only [Act.put,List.setIfInBounds_toArray,List.set_cons_zero,List.set_cons_succ,i64_w,i32_w]
                rfl
               refine pure_ (i:=3) (N:=some 102) (v:=?_) (a':=?_) #[true,true,false,true,false,false,false,false,false,false,false,false,false,false,false,false,false,false] rfl rfl (any_of HT_.out (by kernel_rfl)) (fun _ _ _ h=>h) (Or.inl ⟨by rfl,?_⟩) ?_ ?_
               rotate_left
               ·intro w'
                go_simp
                with_reducible rfl
               rotate_left
               ·simp only [Act.put,List.setIfInBounds_toArray,List.set_cons_zero,List.set_cons_succ,i64_w,i32_w]
                rfl
               refine pure_ (i:=8) (N:=some 107) (v:=?_) (a':=?_) #[true,true,false,true,false,false,false,false,true,false,false,false,false,false,false,false,false,false] rfl rfl (any_of HT_.out (by kernel_rfl)) (fun _ _ _ h=>h) (Or.inl ⟨by rfl,?_⟩) ?_ ?_
               rotate_left
               ·intro w'
                go_simp
                with_reducible rfl
               rotate_left
               ·simp only [Act.put,List.setIfInBounds_toArray,List.set_cons_zero,List.set_cons_succ,i64_w,i32_w]
                rfl
               refine pure_ (i:=10) (N:=some 109) (v:=?_) (a':=?_) #[true,true,false,true,false,false,false,false,true,false,true,false,false,false,false,false,false,false] rfl rfl (any_of HT_.out (by kernel_rfl)) (fun _ _ _ h=>h) (Or.inl ⟨by rfl,?_⟩) ?_ ?_
               rotate_left
               ·intro w'
                go_simp
                with_reducible rfl
               rotate_left
               ·simp only [Act.put,List.setIfInBounds_toArray,List.set_cons_zero,List.set_cons_succ,i64_w,i32_w]
                rfl
               refine take_ (i:=2) (N:=some 101) (v:=?_) (a':=?_) #[true,true,true,true,false,false,false,false,true,false,true,false,false,false,false,false,false,false] rfl rfl (take_ofW HT_.out HW_.out (by kernel_rfl)) (fun _ _ _ h=>h) (Or.inl ⟨by rfl,?_⟩) hHeld ?_ ?_
               rotate_left
               ·rintro w' ⟨s0,s1,s2,s3,s4,s5,s6,s7,s8,s9,s10,s11,s12,s13⟩
                go_simp
                with_reducible rfl
               rotate_left
               ·simp only [Act.put,List.setIfInBounds_toArray,List.set_cons_zero,List.set_cons_succ,i64_w,i32_w]
                rfl
               refine pure_ (i:=4) (N:=some 103) (v:=?_) (a':=?_) #[true,true,true,true,true,false,false,false,true,false,true,false,false,false,false,false,false,false] rfl rfl (any_of HT_.out (by kernel_rfl)) (fun _ _ _ h=>h) (Or.inl ⟨by rfl,?_⟩) ?_ ?_
               rotate_left
               ·intro w'
                go_simp
                with_reducible rfl
               rotate_left
               ·simp only [Act.put,List.setIfInBounds_toArray,List.set_cons_zero,List.set_cons_succ,i64_w,i32_w]
                rfl
               refine pure_ (i:=5) (N:=some 104) (v:=?_) (a':=?_) #[true,true,true,true,true,true,false,false,true,false,true,false,false,false,false,false,false,false] rfl rfl (any_of HT_.out (by kernel_rfl)) (fun _ _ _ h=>h) (Or.inl ⟨by rfl,?_⟩) ?_ ?_
               rotate_left
               ·intro w'
                go_simp
                with_reducible rfl
               rotate_left
               ·simp only [Act.put,List.setIfInBounds_toArray,List.set_cons_zero,List.set_cons_succ,i64_w,i32_w]
                rfl
               refine take_ (i:=6) (N:=some 105) (v:=?_) (a':=?_) #[true,true,true,true,true,true,true,false,true,false,true,false,false,false,false,false,false,false] rfl rfl (take_ofW HT_.out HW_.out (by kernel_rfl)) (fun _ _ _ h=>h) (Or.inl ⟨by rfl,?_⟩) hHeld ?_ ?_
               rotate_left
               ·rintro w' ⟨s0,s1,s2,s3,s4,s5,s6,s7,s8,s9,s10,s11,s12,s13⟩
                go_simp
                with_reducible rfl
               rotate_left
               ·simp only [Act.put,List.setIfInBounds_toArray,List.set_cons_zero,List.set_cons_succ,i64_w,i32_w]
                rfl
               refine take_ (i:=9) (N:=some 108) (v:=?_) (a':=?_) #[true,true,true,true,true,true,true,false,true,true,true,false,false,false,false,false,false,false] rfl rfl (take_ofW HT_.out HW_.out (by kernel_rfl)) (fun _ _ _ h=>h) (Or.inl ⟨by rfl,?_⟩) hHeld ?_ ?_
               rotate_left
               ·rintro w' ⟨s0,s1,s2,s3,s4,s5,s6,s7,s8,s9,s10,s11,s12,s13⟩
                go_simp
                with_reducible rfl
               rotate_left
               ·simp only [Act.put,List.setIfInBounds_toArray,List.set_cons_zero,List.set_cons_succ,i64_w,i32_w]
                rfl
               refine pure_ (i:=11) (N:=some 110) (v:=?_) (a':=?_) #[true,true,true,true,true,true,true,false,true,true,true,true,false,false,false,false,false,false] rfl rfl (any_of HT_.out (by kernel_rfl)) (fun _ _ _ h=>h) (Or.inl ⟨by rfl,?_⟩) ?_ ?_
               rotate_left
               ·intro w'
                go_simp
                with_reducible rfl
               rotate_left
               ·simp only [Act.put,List.setIfInBounds_toArray,List.set_cons_zero,List.set_cons_succ,i64_w,i32_w]
                rfl
               refine pure_ (i:=12) (N:=some 111) (v:=?_) (a':=?_) #[true,true,true,true,true,true,true,false,true,true,true,true,true,false,false,false,false,false] rfl rfl (any_of HT_.out (by kernel_rfl)) (fun _ _ _ h=>h) (Or.inl ⟨by rfl,?_⟩) ?_ ?_
               rotate_left
               ·intro w'
                go_simp
                with_reducible rfl
               rotate_left
               ·simp only [Act.put,List.setIfInBounds_toArray,List.set_cons_zero,List.set_cons_succ,i64_w,i32_w]
                rfl
               refine take_ (i:=13) (N:=some 112) (v:=?_) (a':=?_) #[true,true,true,true,true,true,true,false,true,true,true,true,true,true,false,false,false,false] rfl rfl (take_ofW HT_.out HW_.out (by kernel_rfl)) (fun _ _ _ h=>h) (Or.inl ⟨by rfl,?_⟩) hHeld ?_ ?_
               rotate_left
               ·rintro w' ⟨s0,s1,s2,s3,s4,s5,s6,s7,s8,s9,s10,s11,s12,s13⟩
                go_simp
                with_reducible rfl
               rotate_left
               ·simp only [Act.put,List.setIfInBounds_toArray,List.set_cons_zero,List.set_cons_succ,i64_w,i32_w]
                rfl
               refine one_ (i:=7) (N:=some 106) #[true,true,true,true,true,true,true,true,true,true,true,true,true,true,false,false,false,false] rfl rfl (one_of HT_.out (by kernel_rfl)) (by decide) (fun K hK=>?_)
               refine goes_ Try.func73 (by kernel_rfl) rfl #[.bool ((rd_T89 l1_5 x7_3).f0)] (by rfl) rfl rfl (by (try simp only [List.map_toArray,List.map_cons,List.map_nil]);first|done|rfl|(simp only [List.length_drop,List.length_take];rfl)) ?_
               with_reducible refine (spec_l3Flag.calls ((rd_T89 l1_5 x7_3).f0) t298 _ A49.out).mono ?_
               rintro e w' ⟨rfl,⟨nd,rfl⟩⟩
               refine ⟨_,rfl,?_⟩
               refine hK.out _ _ ⟨(blk_cell BK266.out 0).trans rfl,(blk_cell BK266.out 1).trans rfl,(blk_cell BK266.out 2).trans rfl,(blk_cell BK266.out 3).trans rfl,(blk_cell BK266.out 4).trans rfl,(blk_cell BK266.out 5).trans rfl,(blk_cell BK266.out 6).trans rfl,(blk_cell BK266.out 7).trans rfl,(blk_cell BK266.out 8).trans rfl,(blk_cell BK266.out 9).trans rfl,hHeld.2.2.2.2.2.2.2.2.2.2.1,hHeld.2.2.2.2.2.2.2.2.2.2.2.1,hHeld.2.2.2.2.2.2.2.2.2.2.2.2.1,hHeld.2.2.2.2.2.2.2.2.2.2.2.2.2⟩ (fun hHeld=>?_)
               clear hK K
               refine norm_ (a':=?_) ?_ ?_
               rotate_left
               ·show Act.put _ (some 106) _=_
                simp only [Act.put,List.setIfInBounds_toArray,List.set_cons_zero,List.set_cons_succ,i64_w,i32_w]
                rfl
               refine one_ (i:=14) (N:=some 113) #[true,true,true,true,true,true,true,true,true,true,true,true,true,true,true,false,false,false] rfl rfl (one_of HT_.out (by kernel_rfl)) (by decide) (fun K hK=>?_)
               refine goes_ Try.func74 (by kernel_rfl) rfl #[.int .i64 ((rd_T89 l1_5 x7_3).f1)] (by rfl) rfl rfl (by (try simp only [List.map_toArray,List.map_cons,List.map_nil]);first|done|rfl|(simp only [List.length_drop,List.length_take];rfl)) ?_
               with_reducible refine (spec_PutVarint.calls k3 ((rd_T89 l1_5 x7_3).f1) t300 _ A50.out).mono ?_
               rintro e w55 ⟨rfl,hb⟩
               have HS10_:=(hb.cell (World.block_lt_of_cell? _ _ (hHeld.2.2.2.2.2.2.2.2.2.2.1))).trans (hHeld.2.2.2.2.2.2.2.2.2.2.1)
               have HS11_:=(hb.cell (World.block_lt_of_cell? _ _ (hHeld.2.2.2.2.2.2.2.2.2.2.2.1))).trans (hHeld.2.2.2.2.2.2.2.2.2.2.2.1)
               have HS12_:=(hb.cell (World.block_lt_of_cell? _ _ (hHeld.2.2.2.2.2.2.2.2.2.2.2.2.1))).trans (hHeld.2.2.2.2.2.2.2.2.2.2.2.2.1)
               have HS13_:=(hb.cell (World.block_lt_of_cell? _ _ (hHeld.2.2.2.2.2.2.2.2.2.2.2.2.2))).trans (hHeld.2.2.2.2.2.2.2.2.2.2.2.2.2)
               refine ⟨_,rfl,?_⟩
               have n0_:=Ak (Kd.R_below (by (with_reducible repeat (first|apply Kd.R_alloc|apply Kd.R_drewN|apply Kd.R_drew));exact HO_0.out) hb)
               have n1_:=Ak (blk_below (g:=gb266) (o:=.cells #[.int .i64 a1_0,.bool a1_1,.int .i64 a1_2,.slice A1_3 l1_3.length c1_3,.slice A1_4 l1_4.length c1_4,.slice (some ad297) l1_5.length c1_5,.int .i64 a1_6,.string a1_7,.slice A1_8 l1_8.length c1_8,.slice A1_9 l1_9.length c1_9] 44 (0,0)) (by (with_reducible repeat (first|refine blk_drewN ?_ _|refine blk_drew ?_|refine blk_alloc ?_ _));exact BK266.out) hb)
               have n2_:=Ak (Kept.below (S:=(fun k_=>P0_ k_)) (by repeat (first|(with_reducible first|exact HK.out|apply Kept.alloc|apply Kept.drewN|apply Kept.drew|refine Kept.setCell ?_ (.inr GW266.out) _)|exact HK.out)) hb)
               have n3_:=Ak (below_step (by repeat (first|(with_reducible first|exact HB.out|apply below_alloc|apply pw_below_drewN|apply below_drew1|refine below_set ?_ GE266.out)|exact HB.out)) hb)
               clear HO_0;clear BK266;clear HK;clear HB;have HO_0:=n0_;have BK266:=n1_;have HK:=n2_;have HB:=n3_;clear n0_ n1_ n2_ n3_
               (try clear hb)
               (try clear hb2)
               (try clear hk)
               (try clear hi)
               obtain ⟨Ao56,co56,eo56⟩:=Kd.R_slice HO_0.out
               (first|subst eo56|(injection eo56 with f1_ f2_ f3_;have f4_:=f1_.symm;have f5_:=f3_.symm;clear f1_ f2_ f3_;subst f4_;subst f5_))
               refine hK.out _ _ ⟨(blk_cell BK266.out 0).trans rfl,(blk_cell BK266.out 1).trans rfl,(blk_cell BK266.out 2).trans rfl,(blk_cell BK266.out 3).trans rfl,(blk_cell BK266.out 4).trans rfl,(blk_cell BK266.out 5).trans rfl,(blk_cell BK266.out 6).trans rfl,(blk_cell BK266.out 7).trans rfl,(blk_cell BK266.out 8).trans rfl,(blk_cell BK266.out 9).trans rfl,HS10_,HS11_,HS12_,HS13_⟩ (fun hHeld=>?_)
               clear hK K
               refine norm_ (a':=?_) ?_ ?_
               rotate_left
               ·show Act.put _ (some 113) _=_
                simp only [Act.put,List.setIfInBounds_toArray,List.set_cons_zero,List.set_cons_succ,i64_w,i32_w]
                rfl
               refine pure_ (i:=15) (N:=some 114) (v:=?_) (a':=?_) #[true,true,true,true,true,true,true,true,true,true,true,true,true,true,true,true,false,false] rfl rfl (any_of HT_.out (by kernel_rfl)) (fun _ _ _ h=>h) (Or.inl ⟨by rfl,?_⟩) ?_ ?_
               rotate_left
               ·intro w'
                go_simp
                with_reducible rfl
               rotate_left
               ·simp only [Act.put,List.setIfInBounds_toArray,List.set_cons_zero,List.set_cons_succ,i64_w,i32_w]
                rfl
               refine last_ (i:=16) (N:=some 115) #[true,true,true,true,true,true,true,true,true,true,true,true,true,true,true,true,true,false] rfl rfl (one_of HT_.out (by kernel_rfl)) (by decide) (fun K hK=>?_)
               refine goes_ Try.func33 (by kernel_rfl) rfl #[.slice Ao56 x0_3.length co56,.string (t298++t300)] (by rfl) rfl rfl (by (try simp only [List.map_toArray,List.map_cons,List.map_nil]);first|done|rfl|(simp only [List.length_drop,List.length_take];rfl)) ?_
               with_reducible refine (spec_l3Put.calls k3 (fun k_=>some k_=(.slice Ao56 x0_3.length co56:Value).ownBlock) (.slice Ao56 x0_3.length co56) x0_3 (t298++t300) t301 w0 _ ?side1 ?side2 A52.out).mono ?_
               (case side1=>repeat (first|(with_reducible first|exact HB.out|apply below_alloc|apply pw_below_drewN|apply below_drew1|refine below_set ?_ GE266.out)|exact HB.out))
               (case side2=>exact Kd.R_tight rfl HO_0.out)
               rintro e w57 ⟨v302,rfl,ho0,hb,hkp⟩
               refine ⟨_,rfl,?_⟩
               have n0_:=Ak (blk_kept (by (with_reducible repeat (first|refine blk_drewN ?_ _|refine blk_drew ?_|refine blk_alloc ?_ _));exact BK266.out) hkp (fun hs_=>(fun e_=>(Kd.R_ne HO_0.out BK266.out (by decide)) e_) hs_))
               have n1_:=Ak (Kd.R_mono (ok':=fun k_=>(P0_ k_∨w.heap.size≤k_)) ho0 (fun k_ hk_=>Or.elim hk_ (fun hs_=>(HO_0.out.1 k_ (hs_).symm)) (fun hn_=>(.inr (Nat.le_trans (by first|exact HK.out.1|exact (show Kept w _ (fun k_=>P0_ k_) from by repeat (first|(with_reducible first|exact HK.out|apply Kept.alloc|apply Kept.drewN|apply Kept.drew|refine Kept.setCell ?_ (.inr GW266.out) _)|exact HK.out)).1) hn_)))))
               have n2_:=Ak (Kept.then_ (S:=(fun k_=>P0_ k_)) (by repeat (first|(with_reducible first|exact HK.out|apply Kept.alloc|apply Kept.drewN|apply Kept.drew|refine Kept.setCell ?_ (.inr GW266.out) _)|exact HK.out)) hkp (fun k_ hs_=>(fun e_=>(HO_0.out.1 k_ e_.symm)) hs_))
               have n3_:=Ak (hb)
               clear BK266;clear HK;clear HB;clear HO_0;have BK266:=n0_;have HO303:=n1_;have HK:=n2_;have HB:=n3_;clear n0_ n1_ n2_ n3_
               (try clear hb)
               (try clear hkp)
               (try clear ho0)
               refine hK.out _ _ ?_
               clear hK K
               refine norm_ (a':=?_) ?_ ?_
               rotate_left
               ·show Act.put _ (some 115) _=_
                simp only [Act.put,List.setIfInBounds_toArray,List.set_cons_zero,List.set_cons_succ,i64_w,i32_w]
                rfl
               refine pure_ (i:=17) (N:=some 0) (v:=?_) (a':=?_) #[true,true,true,true,true,true,true,true,true,true,true,true,true,true,true,true,true,true] rfl rfl (any_of HT_.out (by kernel_rfl)) (fun _ _ _ h=>h) (Or.inl ⟨by rfl,?_⟩) ?_ ?_
               rotate_left
               ·intro w'
                go_simp
                with_reducible rfl
               rotate_left
               ·simp only [Act.put,List.setIfInBounds_toArray,List.set_cons_zero,List.set_cons_succ,i64_w,i32_w]
                rfl
               refine done_ (done_of HT_.out (by kernel_rfl)) ?_
               try go_wp2
               go_roundg k3
               case measure=>have:=HK1.out;have:=HK2.out;have:=HK3.out;omega
               case rel=>exact ⟨(t301),(wrap64 (x7_3+1)),(by first|rfl|(simp;done)|(simp [*];done)),H',⟨by have:=HK1.out;have:=HK2.out;have:=HK3.out;omega⟩,⟨by (with_reducible repeat (first|apply Kd.R_alloc|apply Kd.R_drewN|apply Kd.R_drew));exact HO303.out⟩,⟨by (with_reducible repeat (first|refine blk_drewN ?_ _|refine blk_drew ?_|refine blk_alloc ?_ _));exact BK266.out⟩,⟨by repeat (first|(with_reducible first|exact HK.out|apply Kept.alloc|apply Kept.drewN|apply Kept.drew|refine Kept.setCell ?_ (.inr GW266.out) _)|exact HK.out)⟩,⟨by repeat (first|(with_reducible first|exact HB.out|apply below_alloc|apply pw_below_drewN|apply below_drew1|refine below_set ?_ GE266.out)|exact HB.out)⟩⟩
              ·rw [if_neg c51] at H
               exact absurd H (by simp)
             ·rw [if_neg c48] at H
              exact absurd H (by simp)
            ·rw [if_neg c47] at H
             have c47b0:decide (x7_3<(l1_5.length:Int))=false:=decide_eq_false c47
             clear c47
             replace H:=Option.bind_eq_some_iff.mp H
             obtain ⟨t304,A580,H⟩:=H
             replace H:((spec_l3Put.f k3 x0_3 t304).bind fun t305=>((spec_l3Bare.f a1_0 a1_1 a1_2 l1_3 l1_4 l1_5 a1_6 a1_7 l1_8 l1_9).bind fun t308=>(if t308=true then (if t305.length<140737488355328 then (some (t305++[0])) else (none)) else ((spec_l3Sized.f k3 a1_7).bind fun t312=>(if 1+t312.size≤9223372036854775807 then ((spec_PutVarint.f k3 (l1_8.length:Int)).bind fun t313=>(if ((⟨#[1]⟩:ByteArray)++t312).size+t313.size≤9223372036854775807 then ((spec_l3Put.f k3 t305 (((⟨#[1]⟩:ByteArray)++t312)++t313)).bind fun t314=>(spec_l3Proto.l3 k3 t314 0 a1_0 a1_1 a1_2 l1_3 l1_4 l1_5 a1_6 a1_7 l1_8 l1_9)) else (none))) else (none))))))=some r:=H
             have A58:=Ak A580;clear A580
             replace H:=Option.bind_eq_some_iff.mp H
             obtain ⟨t305,A590,H⟩:=H
             replace H:((spec_l3Bare.f a1_0 a1_1 a1_2 l1_3 l1_4 l1_5 a1_6 a1_7 l1_8 l1_9).bind fun t308=>(if t308=true then (if t305.length<140737488355328 then (some (t305++[0])) else (none)) else ((spec_l3Sized.f k3 a1_7).bind fun t312=>(if 1+t312.size≤9223372036854775807 then ((spec_PutVarint.f k3 (l1_8.length:Int)).bind fun t313=>(if ((⟨#[1]⟩:ByteArray)++t312).size+t313.size≤9223372036854775807 then ((spec_l3Put.f k3 t305 (((⟨#[1]⟩:ByteArray)++t312)++t313)).bind fun t314=>(spec_l3Proto.l3 k3 t314 0 a1_0 a1_1 a1_2 l1_3 l1_4 l1_5 a1_6 a1_7 l1_8 l1_9)) else (none))) else (none)))))=some r:=H
             have A59:=Ak A590;clear A590
             replace H:=Option.bind_eq_some_iff.mp H
             obtain ⟨t308,A600,H⟩:=H
             replace H:(if t308=true then (if t305.length<140737488355328 then (some (t305++[0])) else (none)) else ((spec_l3Sized.f k3 a1_7).bind fun t312=>(if 1+t312.size≤9223372036854775807 then ((spec_PutVarint.f k3 (l1_8.length:Int)).bind fun t313=>(if ((⟨#[1]⟩:ByteArray)++t312).size+t313.size≤9223372036854775807 then ((spec_l3Put.f k3 t305 (((⟨#[1]⟩:ByteArray)++t312)++t313)).bind fun t314=>(spec_l3Proto.l3 k3 t314 0 a1_0 a1_1 a1_2 l1_3 l1_4 l1_5 a1_6 a1_7 l1_8 l1_9)) else (none))) else (none))))=some r:=H
             have A60:=Ak A600;clear A600
             by_cases c61:t308=true
             ·subst c61
              have H1:(if t305.length<140737488355328 then (some (t305++[0])) else (none))=some r:=by rw [if_pos rfl] at H;exact H
              clear H;have H:=H1;clear H1
              by_cases c62:t305.length<140737488355328
              ·rw [if_pos c62] at H
               have LMc62:=Ak c62;clear c62
               obtain ⟨y309,hy309⟩:∃ y_:List Int,y_=(t305++[0]):=⟨_,rfl⟩
               replace H:(some y309)=some r:=by first|(rw [hy309];with_reducible exact H)|(have H2_:=(Option.bind_some _ _).symm.trans H;rw [hy309];with_reducible exact H2_)|(have H2_:=(Option.bind_some _ _).symm.trans H;with_reducible exact H2_)|with_reducible exact H|(rw [hy309];exact H)|exact H
               have Ny309:=Ak hy309;clear hy309
               obtain rfl:=Option.some.inj H
               obtain ⟨hcz63_0,hcz63_1,hcz63_2,hcz63_3,hcz63_4,hcz63_5,hcz63_6,hcz63_7,hcz63_8,hcz63_9,hfz63_0,hfz63_1,hfz63_2,hfz63_3,hfz63_4,hfz63_5,hfz63_6,hfz63_7,hfz63_8,hfz63_9⟩:=bk10 BK266.out
               go_wp2_with (first|((with_reducible refine gate_callee (f:=74) rfl ?_);refine goesL_ (some 119) rfl rfl Try.func74 (by kernel_rfl) rfl #[.int .i64 a1_6] rfl (by (try simp only [List.map_toArray,List.map_cons,List.map_nil]);first|done|rfl|(simp only [List.length_drop,List.length_take];rfl)) ?_;(with_reducible refine (spec_PutVarint.calls k3 a1_6 t304 _ A58.out).mono ?_);rintro e w64 ⟨rfl,hb⟩;refine ⟨_,rfl,?_⟩;have n0_:=Ak (Kd.R_below (by (with_reducible repeat (first|apply Kd.R_alloc|apply Kd.R_drewN|apply Kd.R_drew));exact HO_0.out) hb);have n1_:=Ak (blk_below (g:=gb266) (o:=.cells #[.int .i64 a1_0,.bool a1_1,.int .i64 a1_2,.slice A1_3 l1_3.length c1_3,.slice A1_4 l1_4.length c1_4,.slice A1_5 l1_5.length c1_5,.int .i64 a1_6,.string a1_7,.slice A1_8 l1_8.length c1_8,.slice A1_9 l1_9.length c1_9] 44 (0,0)) (by (with_reducible repeat (first|refine blk_drewN ?_ _|refine blk_drew ?_|refine blk_alloc ?_ _));exact BK266.out) hb);have n2_:=Ak (Kept.below (S:=(fun k_=>P0_ k_)) (by repeat (first|(with_reducible first|exact HK.out|apply Kept.alloc|apply Kept.drewN|apply Kept.drew|refine Kept.setCell ?_ (.inr GW266.out) _)|exact HK.out)) hb);have n3_:=Ak (below_step (by repeat (first|(with_reducible first|exact HB.out|apply below_alloc|apply pw_below_drewN|apply below_drew1|refine below_set ?_ GE266.out)|exact HB.out)) hb);clear HO_0;clear BK266;clear HK;clear HB;have HO_0:=n0_;have BK266:=n1_;have HK:=n2_;have HB:=n3_;clear n0_ n1_ n2_ n3_;(try clear hb);(try clear hb2);(try clear hk);(try clear hi);obtain ⟨Ao65,co65,eo65⟩:=Kd.R_slice HO_0.out;subst eo65)|((with_reducible refine gate_callee (f:=33) rfl ?_);refine goesL_ (some 120) rfl rfl Try.func33 (by kernel_rfl) rfl #[.slice Ao65 x0_3.length co65,.string t304] rfl (by (try simp only [List.map_toArray,List.map_cons,List.map_nil]);first|done|rfl|(simp only [List.length_drop,List.length_take];rfl)) ?_;(with_reducible refine (spec_l3Put.calls k3 (fun k_=>some k_=(.slice Ao65 x0_3.length co65:Value).ownBlock) (.slice Ao65 x0_3.length co65) x0_3 t304 t305 w0 _ ?side1 ?side2 A59.out).mono ?_);(case side1=>repeat (first|(with_reducible first|exact HB.out|apply below_alloc|apply pw_below_drewN|apply below_drew1|refine below_set ?_ GE266.out)|exact HB.out));(case side2=>exact Kd.R_tight rfl HO_0.out);rintro e w66 ⟨v306,rfl,ho0,hb,hkp⟩;refine ⟨_,rfl,?_⟩;have n0_:=Ak (blk_kept (by (with_reducible repeat (first|refine blk_drewN ?_ _|refine blk_drew ?_|refine blk_alloc ?_ _));exact BK266.out) hkp (fun hs_=>(fun e_=>(Kd.R_ne HO_0.out BK266.out (by decide)) e_) hs_));have n1_:=Ak (Kd.R_mono (ok':=fun k_=>(P0_ k_∨w.heap.size≤k_)) ho0 (fun k_ hk_=>Or.elim hk_ (fun hs_=>(HO_0.out.1 k_ (hs_).symm)) (fun hn_=>(.inr (Nat.le_trans (by first|exact HK.out.1|exact (show Kept w _ (fun k_=>P0_ k_) from by repeat (first|(with_reducible first|exact HK.out|apply Kept.alloc|apply Kept.drewN|apply Kept.drew|refine Kept.setCell ?_ (.inr GW266.out) _)|exact HK.out)).1) hn_)))));have n2_:=Ak (Kept.then_ (S:=(fun k_=>P0_ k_)) (by repeat (first|(with_reducible first|exact HK.out|apply Kept.alloc|apply Kept.drewN|apply Kept.drew|refine Kept.setCell ?_ (.inr GW266.out) _)|exact HK.out)) hkp (fun k_ hs_=>(fun e_=>(HO_0.out.1 k_ e_.symm)) hs_));have n3_:=Ak (hb);clear BK266;clear HK;clear HB;clear HO_0;have BK266:=n0_;have HO307:=n1_;have HK:=n2_;have HB:=n3_;clear n0_ n1_ n2_ n3_;(try clear hb);(try clear hkp);(try clear ho0);obtain ⟨hcz67_0,hcz67_1,hcz67_2,hcz67_3,hcz67_4,hcz67_5,hcz67_6,hcz67_7,hcz67_8,hcz67_9,hfz67_0,hfz67_1,hfz67_2,hfz67_3,hfz67_4,hfz67_5,hfz67_6,hfz67_7,hfz67_8,hfz67_9⟩:=bk10 BK266.out)|((with_reducible refine gate_callee (f:=76) rfl ?_);refine goesL_ (some 122) rfl rfl Try.func76 (by kernel_rfl) rfl #[.agg #[.int .i64 a1_0,.bool a1_1,.int .i64 a1_2,.slice A1_3 l1_3.length c1_3,.slice A1_4 l1_4.length c1_4,.slice A1_5 l1_5.length c1_5,.int .i64 a1_6,.string a1_7,.slice A1_8 l1_8.length c1_8,.slice A1_9 l1_9.length c1_9]] rfl (by (try simp only [List.map_toArray,List.map_cons,List.map_nil]);first|done|rfl|(simp only [List.length_drop,List.length_take];rfl)) ?_;(with_reducible refine (spec_l3Bare.calls a1_0 a1_1 a1_2 _ _ l1_3 _ _ l1_4 _ _ l1_5 a1_6 a1_7 _ _ l1_8 _ _ l1_9 true _ ?side1 ?side2 ?side3 ?side4 ?side5 ?side6 ?side7 ?side8 ?side9 ?side10 A60.out).mono ?_);(case side1=>exact Kd.C_kept_now HR1_3.out (by repeat (first|(with_reducible first|exact HK.out|apply Kept.alloc|apply Kept.drewN|apply Kept.drew|refine Kept.setCell ?_ (.inr GW266.out) _)|exact HK.out)));(case side2=>exact HC1_3.out);(case side3=>exact Kd.C_kept_now HR1_4.out (by repeat (first|(with_reducible first|exact HK.out|apply Kept.alloc|apply Kept.drewN|apply Kept.drew|refine Kept.setCell ?_ (.inr GW266.out) _)|exact HK.out)));(case side4=>exact HC1_4.out);(case side5=>exact Kd.C_kept_now HR1_5.out (by repeat (first|(with_reducible first|exact HK.out|apply Kept.alloc|apply Kept.drewN|apply Kept.drew|refine Kept.setCell ?_ (.inr GW266.out) _)|exact HK.out)));(case side6=>exact HC1_5.out);(case side7=>exact Kd.C_kept_now HR1_8.out (by repeat (first|(with_reducible first|exact HK.out|apply Kept.alloc|apply Kept.drewN|apply Kept.drew|refine Kept.setCell ?_ (.inr GW266.out) _)|exact HK.out)));(case side8=>exact HC1_8.out);(case side9=>exact Kd.C_kept_now HR1_9.out (by repeat (first|(with_reducible first|exact HK.out|apply Kept.alloc|apply Kept.drewN|apply Kept.drew|refine Kept.setCell ?_ (.inr GW266.out) _)|exact HK.out)));(case side10=>exact HC1_9.out);rintro e w68 ⟨rfl,hb⟩;refine ⟨_,rfl,?_⟩;have n0_:=Ak (Kd.R_below (by (with_reducible repeat (first|apply Kd.R_alloc|apply Kd.R_drewN|apply Kd.R_drew));exact HO307.out) hb);have n1_:=Ak (blk_below (g:=gb266) (o:=.cells #[.int .i64 a1_0,.bool a1_1,.int .i64 a1_2,.slice A1_3 l1_3.length c1_3,.slice A1_4 l1_4.length c1_4,.slice A1_5 l1_5.length c1_5,.int .i64 a1_6,.string a1_7,.slice A1_8 l1_8.length c1_8,.slice A1_9 l1_9.length c1_9] 44 (0,0)) (by (with_reducible repeat (first|refine blk_drewN ?_ _|refine blk_drew ?_|refine blk_alloc ?_ _));exact BK266.out) hb);have n2_:=Ak (Kept.below (S:=(fun k_=>P0_ k_)) (by repeat (first|(with_reducible first|exact HK.out|apply Kept.alloc|apply Kept.drewN|apply Kept.drew|refine Kept.setCell ?_ (.inr GW266.out) _)|exact HK.out)) hb);have n3_:=Ak (below_step (by repeat (first|(with_reducible first|exact HB.out|apply below_alloc|apply pw_below_drewN|apply below_drew1|refine below_set ?_ GE266.out)|exact HB.out)) hb);clear HO307;clear BK266;clear HK;clear HB;have HO307:=n0_;have BK266:=n1_;have HK:=n2_;have HB:=n3_;clear n0_ n1_ n2_ n3_;(try clear hb);(try clear hb2);(try clear hk);(try clear hi))|((with_reducible refine gate_builtin (b:=.append) (xs:=#[.tmp 123,.tmp 124]) rfl ?_);at_builtin;refine Kd.R_append (Kd.int .u8) (w0:=w0) w0.heap.size rfl (.tmp 123) (.tmp 124) 35 5 (.int .u8 0) 1 rfl Try.underlying35 info5 rfl (by decide) (by omega) v306 t305 0 [.int .u8 0] (fun k_=>(P0_ k_∨w.heap.size≤k_)) (fun _=>False) rfl rfl ?aP (fun _ hk=>hk.elim) ?aF ?aO ?aB ?aS ?aL ?_;(case aP=>exact rfl);(case aB=>exact (by repeat (first|(with_reducible first|exact HB.out|apply below_alloc|apply pw_below_drewN|apply below_drew1|refine below_set ?_ GE266.out)|exact HB.out)));(case aF=>exact (fun k_ hk=>(.inr (Nat.le_trans (by first|exact HK.out.1|exact (show Kept w _ (fun k_=>P0_ k_) from by repeat (first|(with_reducible first|exact HK.out|apply Kept.alloc|apply Kept.drewN|apply Kept.drew|refine Kept.setCell ?_ (.inr GW266.out) _)|exact HK.out)).1) hk))));(case aO=>exact (by (with_reducible repeat (first|apply Kd.R_alloc|apply Kd.R_drewN|apply Kd.R_drew));exact HO307.out));(case aS=>exact (below_size (by repeat (first|(with_reducible first|exact HB.out|apply below_alloc|apply pw_below_drewN|apply below_drew1|refine below_set ?_ GE266.out)|exact HB.out))));(case aL=>have:=LMc62.out;omega);intro v310 w69 ho hb hg hat;rw [← Ny309.out] at ho;have n0_:=Ak (blk_grown (g:=gb266) (o:=.cells #[.int .i64 a1_0,.bool a1_1,.int .i64 a1_2,.slice A1_3 l1_3.length c1_3,.slice A1_4 l1_4.length c1_4,.slice A1_5 l1_5.length c1_5,.int .i64 a1_6,.string a1_7,.slice A1_8 l1_8.length c1_8,.slice A1_9 l1_9.length c1_9] 44 (0,0)) (by (with_reducible repeat (first|refine blk_drewN ?_ _|refine blk_drew ?_|refine blk_alloc ?_ _));exact BK266.out) hg (Kd.R_ne HO307.out BK266.out (by decide)));have n1_:=Ak (hb);have n2_:=Ak (Kept.of_grown (S:=(fun k_=>P0_ k_)) hg (by repeat (first|(with_reducible first|exact HK.out|apply Kept.alloc|apply Kept.drewN|apply Kept.drew|refine Kept.setCell ?_ (.inr GW266.out) _)|exact HK.out)) (fun k_ e_=>(HO307.out.1 k_ e_)));have n3_:=Ak (ho);clear BK266;clear HB;clear HK;clear HO307;have BK266:=n0_;have HB:=n1_;have HK:=n2_;have HO311:=n3_;clear n0_ n1_ n2_ n3_;clear ho hb hg hat))
               go_ret
               exact ⟨_,by first|rfl|(simp [errW_none,errW_some] <;> rfl)|(simp [*,errW_none,errW_some] <;> rfl),by (with_reducible repeat (first|apply Kd.R_alloc|apply Kd.R_drewN|apply Kd.R_drew));exact HO311.out,by repeat (first|(with_reducible first|exact HB.out|apply below_alloc|apply pw_below_drewN|apply below_drew1|refine below_set ?_ GE266.out)|exact HB.out),by repeat (first|(with_reducible first|exact HK.out|apply Kept.alloc|apply Kept.drewN|apply Kept.drew|refine Kept.setCell ?_ (.inr GW266.out) _)|exact HK.out)⟩
              ·rw [if_neg c62] at H
               exact absurd H (by simp)
             ·replace c61:=Bool.eq_false_iff.mpr c61
              subst c61
              have H1:((spec_l3Sized.f k3 a1_7).bind fun t312=>(if 1+t312.size≤9223372036854775807 then ((spec_PutVarint.f k3 (l1_8.length:Int)).bind fun t313=>(if ((⟨#[1]⟩:ByteArray)++t312).size+t313.size≤9223372036854775807 then ((spec_l3Put.f k3 t305 (((⟨#[1]⟩:ByteArray)++t312)++t313)).bind fun t314=>(spec_l3Proto.l3 k3 t314 0 a1_0 a1_1 a1_2 l1_3 l1_4 l1_5 a1_6 a1_7 l1_8 l1_9)) else (none))) else (none)))=some r:=by rw [if_neg (show ¬ (false=true) by decide)] at H;exact H
              clear H;have H:=H1;clear H1
              replace H:=Option.bind_eq_some_iff.mp H
              obtain ⟨t312,A700,H⟩:=H
              replace H:(if 1+t312.size≤9223372036854775807 then ((spec_PutVarint.f k3 (l1_8.length:Int)).bind fun t313=>(if ((⟨#[1]⟩:ByteArray)++t312).size+t313.size≤9223372036854775807 then ((spec_l3Put.f k3 t305 (((⟨#[1]⟩:ByteArray)++t312)++t313)).bind fun t314=>(spec_l3Proto.l3 k3 t314 0 a1_0 a1_1 a1_2 l1_3 l1_4 l1_5 a1_6 a1_7 l1_8 l1_9)) else (none))) else (none))=some r:=H
              have A70:=Ak A700;clear A700
              by_cases c71:1+t312.size≤9223372036854775807
              ·rw [if_pos c71] at H
               have c71b0:=eq_true c71
               have c71b1:decide (1+t312.size≤9223372036854775807)=true:=decide_eq_true c71
               try have c71b2:(9223372036854775807<1+t312.size)=False:=eq_false (Nat.not_lt.2 c71)
               replace H:=Option.bind_eq_some_iff.mp H
               obtain ⟨t313,A720,H⟩:=H
               replace H:(if ((⟨#[1]⟩:ByteArray)++t312).size+t313.size≤9223372036854775807 then ((spec_l3Put.f k3 t305 (((⟨#[1]⟩:ByteArray)++t312)++t313)).bind fun t314=>(spec_l3Proto.l3 k3 t314 0 a1_0 a1_1 a1_2 l1_3 l1_4 l1_5 a1_6 a1_7 l1_8 l1_9)) else (none))=some r:=H
               have A72:=Ak A720;clear A720
               by_cases c73:((⟨#[1]⟩:ByteArray)++t312).size+t313.size≤9223372036854775807
               ·rw [if_pos c73] at H
                have c73b0:=eq_true c73
                have c73b1:decide (((⟨#[1]⟩:ByteArray)++t312).size+t313.size≤9223372036854775807)=true:=decide_eq_true c73
                try have c73b2:(9223372036854775807<((⟨#[1]⟩:ByteArray)++t312).size+t313.size)=False:=eq_false (Nat.not_lt.2 c73)
                have c73b3:(9223372036854775807<1+t312.size+t313.size)=False:=eq_false (Nat.not_lt.2 (by have h_:=c73;simp only [ByteArray.size_append] at h_;exact h_))
                replace H:=Option.bind_eq_some_iff.mp H
                obtain ⟨t314,A740,H⟩:=H
                replace H:(spec_l3Proto.l3 k3 t314 0 a1_0 a1_1 a1_2 l1_3 l1_4 l1_5 a1_6 a1_7 l1_8 l1_9)=some r:=H
                have A74:=Ak A740;clear A740
                have H':=Ak H
                clear H
                obtain ⟨hcz75_0,hcz75_1,hcz75_2,hcz75_3,hcz75_4,hcz75_5,hcz75_6,hcz75_7,hcz75_8,hcz75_9,hfz75_0,hfz75_1,hfz75_2,hfz75_3,hfz75_4,hfz75_5,hfz75_6,hfz75_7,hfz75_8,hfz75_9⟩:=bk10 BK266.out
                try go_wp2_with (first|((with_reducible refine gate_callee (f:=74) rfl ?_);refine goesL_ (some 119) rfl rfl Try.func74 (by kernel_rfl) rfl #[.int .i64 a1_6] rfl (by (try simp only [List.map_toArray,List.map_cons,List.map_nil]);first|done|rfl|(simp only [List.length_drop,List.length_take];rfl)) ?_;(with_reducible refine (spec_PutVarint.calls k3 a1_6 t304 _ A58.out).mono ?_);rintro e w76 ⟨rfl,hb⟩;refine ⟨_,rfl,?_⟩;have n0_:=Ak (Kd.R_below (by (with_reducible repeat (first|apply Kd.R_alloc|apply Kd.R_drewN|apply Kd.R_drew));exact HO_0.out) hb);have n1_:=Ak (blk_below (g:=gb266) (o:=.cells #[.int .i64 a1_0,.bool a1_1,.int .i64 a1_2,.slice A1_3 l1_3.length c1_3,.slice A1_4 l1_4.length c1_4,.slice A1_5 l1_5.length c1_5,.int .i64 a1_6,.string a1_7,.slice A1_8 l1_8.length c1_8,.slice A1_9 l1_9.length c1_9] 44 (0,0)) (by (with_reducible repeat (first|refine blk_drewN ?_ _|refine blk_drew ?_|refine blk_alloc ?_ _));exact BK266.out) hb);have n2_:=Ak (Kept.below (S:=(fun k_=>P0_ k_)) (by repeat (first|(with_reducible first|exact HK.out|apply Kept.alloc|apply Kept.drewN|apply Kept.drew|refine Kept.setCell ?_ (.inr GW266.out) _)|exact HK.out)) hb);have n3_:=Ak (below_step (by repeat (first|(with_reducible first|exact HB.out|apply below_alloc|apply pw_below_drewN|apply below_drew1|refine below_set ?_ GE266.out)|exact HB.out)) hb);clear HO_0;clear BK266;clear HK;clear HB;have HO_0:=n0_;have BK266:=n1_;have HK:=n2_;have HB:=n3_;clear n0_ n1_ n2_ n3_;(try clear hb);(try clear hb2);(try clear hk);(try clear hi);obtain ⟨Ao77,co77,eo77⟩:=Kd.R_slice HO_0.out;subst eo77)|((with_reducible refine gate_callee (f:=33) rfl ?_);refine goesL_ (some 120) rfl rfl Try.func33 (by kernel_rfl) rfl #[.slice Ao77 x0_3.length co77,.string t304] rfl (by (try simp only [List.map_toArray,List.map_cons,List.map_nil]);first|done|rfl|(simp only [List.length_drop,List.length_take];rfl)) ?_;(with_reducible refine (spec_l3Put.calls k3 (fun k_=>some k_=(.slice Ao77 x0_3.length co77:Value).ownBlock) (.slice Ao77 x0_3.length co77) x0_3 t304 t305 w0 _ ?side1 ?side2 A59.out).mono ?_);(case side1=>repeat (first|(with_reducible first|exact HB.out|apply below_alloc|apply pw_below_drewN|apply below_drew1|refine below_set ?_ GE266.out)|exact HB.out));(case side2=>exact Kd.R_tight rfl HO_0.out);rintro e w78 ⟨v306,rfl,ho0,hb,hkp⟩;refine ⟨_,rfl,?_⟩;have n0_:=Ak (blk_kept (by (with_reducible repeat (first|refine blk_drewN ?_ _|refine blk_drew ?_|refine blk_alloc ?_ _));exact BK266.out) hkp (fun hs_=>(fun e_=>(Kd.R_ne HO_0.out BK266.out (by decide)) e_) hs_));have n1_:=Ak (Kd.R_mono (ok':=fun k_=>(P0_ k_∨w.heap.size≤k_)) ho0 (fun k_ hk_=>Or.elim hk_ (fun hs_=>(HO_0.out.1 k_ (hs_).symm)) (fun hn_=>(.inr (Nat.le_trans (by first|exact HK.out.1|exact (show Kept w _ (fun k_=>P0_ k_) from by repeat (first|(with_reducible first|exact HK.out|apply Kept.alloc|apply Kept.drewN|apply Kept.drew|refine Kept.setCell ?_ (.inr GW266.out) _)|exact HK.out)).1) hn_)))));have n2_:=Ak (Kept.then_ (S:=(fun k_=>P0_ k_)) (by repeat (first|(with_reducible first|exact HK.out|apply Kept.alloc|apply Kept.drewN|apply Kept.drew|refine Kept.setCell ?_ (.inr GW266.out) _)|exact HK.out)) hkp (fun k_ hs_=>(fun e_=>(HO_0.out.1 k_ e_.symm)) hs_));have n3_:=Ak (hb);clear BK266;clear HK;clear HB;clear HO_0;have BK266:=n0_;have HO307:=n1_;have HK:=n2_;have HB:=n3_;clear n0_ n1_ n2_ n3_;(try clear hb);(try clear hkp);(try clear ho0);obtain ⟨hcz79_0,hcz79_1,hcz79_2,hcz79_3,hcz79_4,hcz79_5,hcz79_6,hcz79_7,hcz79_8,hcz79_9,hfz79_0,hfz79_1,hfz79_2,hfz79_3,hfz79_4,hfz79_5,hfz79_6,hfz79_7,hfz79_8,hfz79_9⟩:=bk10 BK266.out)|((with_reducible refine gate_callee (f:=76) rfl ?_);refine goesL_ (some 122) rfl rfl Try.func76 (by kernel_rfl) rfl #[.agg #[.int .i64 a1_0,.bool a1_1,.int .i64 a1_2,.slice A1_3 l1_3.length c1_3,.slice A1_4 l1_4.length c1_4,.slice A1_5 l1_5.length c1_5,.int .i64 a1_6,.string a1_7,.slice A1_8 l1_8.length c1_8,.slice A1_9 l1_9.length c1_9]] rfl (by (try simp only [List.map_toArray,List.map_cons,List.map_nil]);first|done|rfl|(simp only [List.length_drop,List.length_take];rfl)) ?_;(with_reducible refine (spec_l3Bare.calls a1_0 a1_1 a1_2 _ _ l1_3 _ _ l1_4 _ _ l1_5 a1_6 a1_7 _ _ l1_8 _ _ l1_9 false _ ?side1 ?side2 ?side3 ?side4 ?side5 ?side6 ?side7 ?side8 ?side9 ?side10 A60.out).mono ?_);(case side1=>exact Kd.C_kept_now HR1_3.out (by repeat (first|(with_reducible first|exact HK.out|apply Kept.alloc|apply Kept.drewN|apply Kept.drew|refine Kept.setCell ?_ (.inr GW266.out) _)|exact HK.out)));(case side2=>exact HC1_3.out);(case side3=>exact Kd.C_kept_now HR1_4.out (by repeat (first|(with_reducible first|exact HK.out|apply Kept.alloc|apply Kept.drewN|apply Kept.drew|refine Kept.setCell ?_ (.inr GW266.out) _)|exact HK.out)));(case side4=>exact HC1_4.out);(case side5=>exact Kd.C_kept_now HR1_5.out (by repeat (first|(with_reducible first|exact HK.out|apply Kept.alloc|apply Kept.drewN|apply Kept.drew|refine Kept.setCell ?_ (.inr GW266.out) _)|exact HK.out)));(case side6=>exact HC1_5.out);(case side7=>exact Kd.C_kept_now HR1_8.out (by repeat (first|(with_reducible first|exact HK.out|apply Kept.alloc|apply Kept.drewN|apply Kept.drew|refine Kept.setCell ?_ (.inr GW266.out) _)|exact HK.out)));(case side8=>exact HC1_8.out);(case side9=>exact Kd.C_kept_now HR1_9.out (by repeat (first|(with_reducible first|exact HK.out|apply Kept.alloc|apply Kept.drewN|apply Kept.drew|refine Kept.setCell ?_ (.inr GW266.out) _)|exact HK.out)));(case side10=>exact HC1_9.out);rintro e w80 ⟨rfl,hb⟩;refine ⟨_,rfl,?_⟩;have n0_:=Ak (Kd.R_below (by (with_reducible repeat (first|apply Kd.R_alloc|apply Kd.R_drewN|apply Kd.R_drew));exact HO307.out) hb);have n1_:=Ak (blk_below (g:=gb266) (o:=.cells #[.int .i64 a1_0,.bool a1_1,.int .i64 a1_2,.slice A1_3 l1_3.length c1_3,.slice A1_4 l1_4.length c1_4,.slice A1_5 l1_5.length c1_5,.int .i64 a1_6,.string a1_7,.slice A1_8 l1_8.length c1_8,.slice A1_9 l1_9.length c1_9] 44 (0,0)) (by (with_reducible repeat (first|refine blk_drewN ?_ _|refine blk_drew ?_|refine blk_alloc ?_ _));exact BK266.out) hb);have n2_:=Ak (Kept.below (S:=(fun k_=>P0_ k_)) (by repeat (first|(with_reducible first|exact HK.out|apply Kept.alloc|apply Kept.drewN|apply Kept.drew|refine Kept.setCell ?_ (.inr GW266.out) _)|exact HK.out)) hb);have n3_:=Ak (below_step (by repeat (first|(with_reducible first|exact HB.out|apply below_alloc|apply pw_below_drewN|apply below_drew1|refine below_set ?_ GE266.out)|exact HB.out)) hb);clear HO307;clear BK266;clear HK;clear HB;have HO307:=n0_;have BK266:=n1_;have HK:=n2_;have HB:=n3_;clear n0_ n1_ n2_ n3_;(try clear hb);(try clear hb2);(try clear hk);(try clear hi)))
                have n0_:=Ak (Kd.R_drew HO307.out)
                have n1_:=Ak (blk_drew BK266.out)
                have n2_:=Ak (Kept.drew HK.out)
                have n3_:=Ak (below_drew1 HB.out)
                clear HO307;clear BK266;clear HK;clear HB;have HO307:=n0_;have BK266:=n1_;have HK:=n2_;have HB:=n3_;clear n0_ n1_ n2_ n3_
                refine start_ (n:=12) (S:=fun w'=>w'.cell? ⟨gb266,0,none⟩=some (.int .i64 a1_0)∧w'.cell? ⟨gb266,1,none⟩=some (.bool a1_1)∧w'.cell? ⟨gb266,2,none⟩=some (.int .i64 a1_2)∧w'.cell? ⟨gb266,3,none⟩=some (.slice A1_3 l1_3.length c1_3)∧w'.cell? ⟨gb266,4,none⟩=some (.slice A1_4 l1_4.length c1_4)∧w'.cell? ⟨gb266,5,none⟩=some (.slice A1_5 l1_5.length c1_5)∧w'.cell? ⟨gb266,6,none⟩=some (.int .i64 a1_6)∧w'.cell? ⟨gb266,7,none⟩=some (.string a1_7)∧w'.cell? ⟨gb266,8,none⟩=some (.slice A1_8 l1_8.length c1_8)∧w'.cell? ⟨gb266,9,none⟩=some (.slice A1_9 l1_9.length c1_9)) (ds:=[]) #[false,false,false,false,false,false,false,false,false,false,false,false] (by kernel_rfl) rfl rfl ⟨(blk_cell BK266.out 0).trans rfl,(blk_cell BK266.out 1).trans rfl,(blk_cell BK266.out 2).trans rfl,(blk_cell BK266.out 3).trans rfl,(blk_cell BK266.out 4).trans rfl,(blk_cell BK266.out 5).trans rfl,(blk_cell BK266.out 6).trans rfl,(blk_cell BK266.out 7).trans rfl,(blk_cell BK266.out 8).trans rfl,(blk_cell BK266.out 9).trans rfl⟩ (fun hHeld=>?_);refine with_tabW spec_l3Proto.tab19 spec_l3Proto.bits19 (fun HT_ HW_=>?_)
                generalize w80.drew=w81 at HO307 BK266 HK HB hHeld ⊢
                refine pure_ (i:=0) (N:=some 126) (v:=?_) (a':=?_) #[true,false,false,false,false,false,false,false,false,false,false,false] rfl rfl (any_of HT_.out (by kernel_rfl)) (fun _ _ _ h=>h) (Or.inl ⟨by rfl,?_⟩) ?_ ?_
                rotate_left
                ·intro w'
                 go_simp
                 with_reducible rfl
                rotate_left
                ·simp only [Act.put,List.setIfInBounds_toArray,List.set_cons_zero,List.set_cons_succ,i64_w,i32_w]
                 rfl
                refine pure_ (i:=1) (N:=some 127) (v:=?_) (a':=?_) #[true,true,false,false,false,false,false,false,false,false,false,false] rfl rfl (any_of HT_.out (by kernel_rfl)) (fun _ _ _ h=>h) (Or.inl ⟨by rfl,?_⟩) ?_ ?_
                rotate_left
                ·intro w'
                 go_simp
                 with_reducible rfl
                rotate_left
                ·simp only [Act.put,List.setIfInBounds_toArray,List.set_cons_zero,List.set_cons_succ,i64_w,i32_w]
                 rfl
                refine pure_ (i:=5) (N:=some 131) (v:=?_) (a':=?_) #[true,true,false,false,false,true,false,false,false,false,false,false] rfl rfl (any_of HT_.out (by kernel_rfl)) (fun _ _ _ h=>h) (Or.inl ⟨by rfl,?_⟩) ?_ ?_
                rotate_left
                ·intro w'
                 go_simp
                 with_reducible rfl
                rotate_left
                ·simp only [Act.put,List.setIfInBounds_toArray,List.set_cons_zero,List.set_cons_succ,i64_w,i32_w]
                 rfl
                refine take_ (i:=2) (N:=some 128) (v:=?_) (a':=?_) #[true,true,true,false,false,true,false,false,false,false,false,false] rfl rfl (take_ofW HT_.out HW_.out (by kernel_rfl)) (fun _ _ _ h=>h) (Or.inl ⟨by rfl,?_⟩) hHeld ?_ ?_
                rotate_left
                ·rintro w' ⟨s0,s1,s2,s3,s4,s5,s6,s7,s8,s9⟩
                 go_simp
                 with_reducible rfl
                rotate_left
                ·simp only [Act.put,List.setIfInBounds_toArray,List.set_cons_zero,List.set_cons_succ,i64_w,i32_w]
                 rfl
                refine take_ (i:=6) (N:=some 132) (v:=?_) (a':=?_) #[true,true,true,false,false,true,true,false,false,false,false,false] rfl rfl (take_ofW HT_.out HW_.out (by kernel_rfl)) (fun _ _ _ h=>h) (Or.inl ⟨by rfl,?_⟩) hHeld ?_ ?_
                rotate_left
                ·rintro w' ⟨s0,s1,s2,s3,s4,s5,s6,s7,s8,s9⟩
                 go_simp
                 with_reducible rfl
                rotate_left
                ·simp only [Act.put,List.setIfInBounds_toArray,List.set_cons_zero,List.set_cons_succ,i64_w,i32_w]
                 rfl
                refine pure_ (i:=7) (N:=some 133) (v:=?_) (a':=?_) #[true,true,true,false,false,true,true,true,false,false,false,false] rfl rfl (any_of HT_.out (by kernel_rfl)) (fun _ _ _ h=>h) (Or.inl ⟨by rfl,?_⟩) ?_ ?_
                rotate_left
                ·intro w'
                 go_simp
                 with_reducible rfl
                rotate_left
                ·simp only [Act.put,List.setIfInBounds_toArray,List.set_cons_zero,List.set_cons_succ,i64_w,i32_w]
                 rfl
                refine one_ (i:=3) (N:=some 129) #[true,true,true,true,false,true,true,true,false,false,false,false] rfl rfl (one_of HT_.out (by kernel_rfl)) (by decide) (fun K hK=>?_)
                refine goes_ Try.func77 (by kernel_rfl) rfl #[.string a1_7] (by rfl) rfl rfl (by (try simp only [List.map_toArray,List.map_cons,List.map_nil]);first|done|rfl|(simp only [List.length_drop,List.length_take];rfl)) ?_
                with_reducible refine (spec_l3Sized.calls k3 a1_7 t312 _ A70.out).mono ?_
                rintro e w82 ⟨rfl,hb⟩
                refine ⟨_,rfl,?_⟩
                have n0_:=Ak (Kd.R_below (by (with_reducible repeat (first|apply Kd.R_alloc|apply Kd.R_drewN|apply Kd.R_drew));exact HO307.out) hb)
                have n1_:=Ak (blk_below (g:=gb266) (o:=.cells #[.int .i64 a1_0,.bool a1_1,.int .i64 a1_2,.slice A1_3 l1_3.length c1_3,.slice A1_4 l1_4.length c1_4,.slice A1_5 l1_5.length c1_5,.int .i64 a1_6,.string a1_7,.slice A1_8 l1_8.length c1_8,.slice A1_9 l1_9.length c1_9] 44 (0,0)) (by (with_reducible repeat (first|refine blk_drewN ?_ _|refine blk_drew ?_|refine blk_alloc ?_ _));exact BK266.out) hb)
                have n2_:=Ak (Kept.below (S:=(fun k_=>P0_ k_)) (by repeat (first|(with_reducible first|exact HK.out|apply Kept.alloc|apply Kept.drewN|apply Kept.drew|refine Kept.setCell ?_ (.inr GW266.out) _)|exact HK.out)) hb)
                have n3_:=Ak (below_step (by repeat (first|(with_reducible first|exact HB.out|apply below_alloc|apply pw_below_drewN|apply below_drew1|refine below_set ?_ GE266.out)|exact HB.out)) hb)
                clear HO307;clear BK266;clear HK;clear HB;have HO307:=n0_;have BK266:=n1_;have HK:=n2_;have HB:=n3_;clear n0_ n1_ n2_ n3_
                (try clear hb)
                (try clear hb2)
                (try clear hk)
                (try clear hi)
                refine hK.out _ _ ⟨(blk_cell BK266.out 0).trans rfl,(blk_cell BK266.out 1).trans rfl,(blk_cell BK266.out 2).trans rfl,(blk_cell BK266.out 3).trans rfl,(blk_cell BK266.out 4).trans rfl,(blk_cell BK266.out 5).trans rfl,(blk_cell BK266.out 6).trans rfl,(blk_cell BK266.out 7).trans rfl,(blk_cell BK266.out 8).trans rfl,(blk_cell BK266.out 9).trans rfl⟩ (fun hHeld=>?_)
                clear hK K
                refine norm_ (a':=?_) ?_ ?_
                rotate_left
                ·show Act.put _ (some 129) _=_
                 simp only [Act.put,List.setIfInBounds_toArray,List.set_cons_zero,List.set_cons_succ,i64_w,i32_w]
                 rfl
                refine pure_ (i:=4) (N:=some 130) (v:=?_) (a':=?_) #[true,true,true,true,true,true,true,true,false,false,false,false] rfl rfl (any_of HT_.out (by kernel_rfl)) (fun _ _ _ h=>h) (Or.inl ⟨by rfl,?_⟩) ?_ ?_
                rotate_left
                ·intro w'
                 go_simp
                 with_reducible rfl
                rotate_left
                ·simp only [Act.put,List.setIfInBounds_toArray,List.set_cons_zero,List.set_cons_succ,i64_w,i32_w]
                 rfl
                refine one_ (i:=8) (N:=some 134) #[true,true,true,true,true,true,true,true,true,false,false,false] rfl rfl (one_of HT_.out (by kernel_rfl)) (by decide) (fun K hK=>?_)
                refine goes_ Try.func74 (by kernel_rfl) rfl #[.int .i64 (l1_8.length:Int)] (by rfl) rfl rfl (by (try simp only [List.map_toArray,List.map_cons,List.map_nil]);first|done|rfl|(simp only [List.length_drop,List.length_take];rfl)) ?_
                with_reducible refine (spec_PutVarint.calls k3 (l1_8.length:Int) t313 _ A72.out).mono ?_
                rintro e w83 ⟨rfl,hb⟩
                refine ⟨_,rfl,?_⟩
                have n0_:=Ak (Kd.R_below (by (with_reducible repeat (first|apply Kd.R_alloc|apply Kd.R_drewN|apply Kd.R_drew));exact HO307.out) hb)
                have n1_:=Ak (blk_below (g:=gb266) (o:=.cells #[.int .i64 a1_0,.bool a1_1,.int .i64 a1_2,.slice A1_3 l1_3.length c1_3,.slice A1_4 l1_4.length c1_4,.slice A1_5 l1_5.length c1_5,.int .i64 a1_6,.string a1_7,.slice A1_8 l1_8.length c1_8,.slice A1_9 l1_9.length c1_9] 44 (0,0)) (by (with_reducible repeat (first|refine blk_drewN ?_ _|refine blk_drew ?_|refine blk_alloc ?_ _));exact BK266.out) hb)
                have n2_:=Ak (Kept.below (S:=(fun k_=>P0_ k_)) (by repeat (first|(with_reducible first|exact HK.out|apply Kept.alloc|apply Kept.drewN|apply Kept.drew|refine Kept.setCell ?_ (.inr GW266.out) _)|exact HK.out)) hb)
                have n3_:=Ak (below_step (by repeat (first|(with_reducible first|exact HB.out|apply below_alloc|apply pw_below_drewN|apply below_drew1|refine below_set ?_ GE266.out)|exact HB.out)) hb)
                clear HO307;clear BK266;clear HK;clear HB;have HO307:=n0_;have BK266:=n1_;have HK:=n2_;have HB:=n3_;clear n0_ n1_ n2_ n3_
                (try clear hb)
                (try clear hb2)
                (try clear hk)
                (try clear hi)
                obtain ⟨Ao84,co84,eo84⟩:=Kd.R_slice HO307.out
                (first|subst eo84|(injection eo84 with f1_ f2_ f3_;have f4_:=f1_.symm;have f5_:=f3_.symm;clear f1_ f2_ f3_;subst f4_;subst f5_))
                refine hK.out _ _ ⟨(blk_cell BK266.out 0).trans rfl,(blk_cell BK266.out 1).trans rfl,(blk_cell BK266.out 2).trans rfl,(blk_cell BK266.out 3).trans rfl,(blk_cell BK266.out 4).trans rfl,(blk_cell BK266.out 5).trans rfl,(blk_cell BK266.out 6).trans rfl,(blk_cell BK266.out 7).trans rfl,(blk_cell BK266.out 8).trans rfl,(blk_cell BK266.out 9).trans rfl⟩ (fun hHeld=>?_)
                clear hK K
                refine norm_ (a':=?_) ?_ ?_
                rotate_left
                ·show Act.put _ (some 134) _=_
                 simp only [Act.put,List.setIfInBounds_toArray,List.set_cons_zero,List.set_cons_succ,i64_w,i32_w]
                 rfl
                refine pure_ (i:=9) (N:=some 135) (v:=?_) (a':=?_) #[true,true,true,true,true,true,true,true,true,true,false,false] rfl rfl (any_of HT_.out (by kernel_rfl)) (fun _ _ _ h=>h) (Or.inl ⟨by rfl,?_⟩) ?_ ?_
                rotate_left
                ·intro w'
                 go_simp
                 with_reducible rfl
                rotate_left
                ·simp only [Act.put,List.setIfInBounds_toArray,List.set_cons_zero,List.set_cons_succ,i64_w,i32_w]
                 rfl
                refine one_ (i:=10) (N:=some 136) #[true,true,true,true,true,true,true,true,true,true,true,false] rfl rfl (one_of HT_.out (by kernel_rfl)) (by decide) (fun K hK=>?_)
                refine goes_ Try.func33 (by kernel_rfl) rfl #[.slice Ao84 t305.length co84,.string (((⟨#[1]⟩:ByteArray)++t312)++t313)] (by rfl) rfl rfl (by (try simp only [List.map_toArray,List.map_cons,List.map_nil]);first|done|rfl|(simp only [List.length_drop,List.length_take];rfl)) ?_
                with_reducible refine (spec_l3Put.calls k3 (fun k_=>some k_=(.slice Ao84 t305.length co84:Value).ownBlock) (.slice Ao84 t305.length co84) t305 (((⟨#[1]⟩:ByteArray)++t312)++t313) t314 w0 _ ?side1 ?side2 A74.out).mono ?_
                (case side1=>repeat (first|(with_reducible first|exact HB.out|apply below_alloc|apply pw_below_drewN|apply below_drew1|refine below_set ?_ GE266.out)|exact HB.out))
                (case side2=>exact Kd.R_tight rfl HO307.out)
                rintro e w85 ⟨v315,rfl,ho0,hb,hkp⟩
                refine ⟨_,rfl,?_⟩
                have n0_:=Ak (blk_kept (by (with_reducible repeat (first|refine blk_drewN ?_ _|refine blk_drew ?_|refine blk_alloc ?_ _));exact BK266.out) hkp (fun hs_=>(fun e_=>(Kd.R_ne HO307.out BK266.out (by decide)) e_) hs_))
                have n1_:=Ak (Kd.R_mono (ok':=fun k_=>(P0_ k_∨w.heap.size≤k_)) ho0 (fun k_ hk_=>Or.elim hk_ (fun hs_=>(HO307.out.1 k_ (hs_).symm)) (fun hn_=>(.inr (Nat.le_trans (by first|exact HK.out.1|exact (show Kept w _ (fun k_=>P0_ k_) from by repeat (first|(with_reducible first|exact HK.out|apply Kept.alloc|apply Kept.drewN|apply Kept.drew|refine Kept.setCell ?_ (.inr GW266.out) _)|exact HK.out)).1) hn_)))))
                have n2_:=Ak (Kept.then_ (S:=(fun k_=>P0_ k_)) (by repeat (first|(with_reducible first|exact HK.out|apply Kept.alloc|apply Kept.drewN|apply Kept.drew|refine Kept.setCell ?_ (.inr GW266.out) _)|exact HK.out)) hkp (fun k_ hs_=>(fun e_=>(HO307.out.1 k_ e_.symm)) hs_))
                have n3_:=Ak (hb)
                clear BK266;clear HK;clear HB;clear HO307;have BK266:=n0_;have HO316:=n1_;have HK:=n2_;have HB:=n3_;clear n0_ n1_ n2_ n3_
                (try clear hb)
                (try clear hkp)
                (try clear ho0)
                refine hK.out _ _ ⟨(blk_cell BK266.out 0).trans rfl,(blk_cell BK266.out 1).trans rfl,(blk_cell BK266.out 2).trans rfl,(blk_cell BK266.out 3).trans rfl,(blk_cell BK266.out 4).trans rfl,(blk_cell BK266.out 5).trans rfl,(blk_cell BK266.out 6).trans rfl,(blk_cell BK266.out 7).trans rfl,(blk_cell BK266.out 8).trans rfl,(blk_cell BK266.out 9).trans rfl⟩ (fun hHeld=>?_)
                clear hK K
                refine norm_ (a':=?_) ?_ ?_
                rotate_left
                ·show Act.put _ (some 136) _=_
                 simp only [Act.put,List.setIfInBounds_toArray,List.set_cons_zero,List.set_cons_succ,i64_w,i32_w]
                 rfl
                refine pure_ (i:=11) (N:=some 0) (v:=?_) (a':=?_) #[true,true,true,true,true,true,true,true,true,true,true,true] rfl rfl (any_of HT_.out (by kernel_rfl)) (fun _ _ _ h=>h) (Or.inl ⟨by rfl,?_⟩) ?_ ?_
                rotate_left
                ·intro w'
                 go_simp
                 with_reducible rfl
                rotate_left
                ·simp only [Act.put,List.setIfInBounds_toArray,List.set_cons_zero,List.set_cons_succ,i64_w,i32_w]
                 rfl
                refine done_ (done_of HT_.out (by kernel_rfl)) ?_
                try go_wp2
                go_loopg [0,8] k3 (fun kq v0 v8 w'=>∃ (x0_4:List Int) (x8_4:Int),v8=.int .i64 x8_4∧Aside0 (spec_l3Proto.l3 kq x0_4 x8_4 a1_0 a1_1 a1_2 l1_3 l1_4 l1_5 a1_6 a1_7 l1_8 l1_9=some r)∧Aside0 (kq≤k3)∧Aside0 (Kd.R (Kd.int .u8) 5 w' w0.heap.size (fun k_=>(P0_ k_∨w.heap.size≤k_)) v0 x0_4)∧Aside0 (w'.heap[gb266]?=some (.cells #[.int .i64 a1_0,.bool a1_1,.int .i64 a1_2,(.slice A1_3 l1_3.length c1_3),(.slice A1_4 l1_4.length c1_4),(.slice A1_5 l1_5.length c1_5),.int .i64 a1_6,.string a1_7,(.slice A1_8 l1_8.length c1_8),(.slice A1_9 l1_9.length c1_9)] 44 (0,0)))∧Aside0 (Kept w w' (fun k_=>P0_ k_))∧Aside0 (Below w0.heap.size w0 w'))
                case atStart=>exact ⟨(t314),(0),(by first|rfl|(simp;done)|(simp [*];done)),H',⟨Nat.le_refl _⟩,⟨by (with_reducible repeat (first|apply Kd.R_alloc|apply Kd.R_drewN|apply Kd.R_drew));exact HO316.out⟩,⟨by (with_reducible repeat (first|refine blk_drewN ?_ _|refine blk_drew ?_|refine blk_alloc ?_ _));exact BK266.out⟩,⟨by repeat (first|(with_reducible first|exact HK.out|apply Kept.alloc|apply Kept.drewN|apply Kept.drew|refine Kept.setCell ?_ (.inr GW266.out) _)|exact HK.out)⟩,⟨by repeat (first|(with_reducible first|exact HB.out|apply below_alloc|apply pw_below_drewN|apply below_drew1|refine below_set ?_ GE266.out)|exact HB.out)⟩⟩
                case round =>
                 clear H';(try clear c1);(try clear p2);(try clear q2);(try clear hx2);(try clear c3);(try clear c4);(try clear c5);(try clear c6);(try clear p6);(try clear c7);(try clear p27);(try clear q27);(try clear p28);(try clear q28);(try clear p29);(try clear q29);(try clear hx29);(try clear c33);(try clear c47);(try clear c47b0);(try clear c48);(try clear c48b0)
                 (try clear c51);(try clear c51b0);(try clear c51b1);(try clear c51b2);(try clear c51b3);(try clear c61);(try clear c62);(try clear p64);(try clear c71);(try clear c71b0);(try clear c71b1);(try clear c71b2);(try clear c71b3);(try clear c73);(try clear c73b0);(try clear c73b1);(try clear c73b2);(try clear c73b3);(try clear c74);(try clear c76);(try clear c77)
                 (try clear hcz53_0);(try clear hcz53_1);(try clear hcz53_2);(try clear hcz53_3);(try clear hcz53_4);(try clear hcz53_5);(try clear hcz53_6);(try clear hcz53_7);(try clear hcz53_8);(try clear hcz53_9);(try clear hcz63_0);(try clear hcz63_1);(try clear hcz63_2);(try clear hcz63_3);(try clear hcz63_4);(try clear hcz63_5);(try clear hcz63_6);(try clear hcz63_7)
                 (try clear hcz63_8);(try clear hcz63_9);(try clear hcz67_0);(try clear hcz67_1);(try clear hcz67_2);(try clear hcz67_3);(try clear hcz67_4);(try clear hcz67_5);(try clear hcz67_6);(try clear hcz67_7);(try clear hcz67_8);(try clear hcz67_9);(try clear hcz75_0);(try clear hcz75_1);(try clear hcz75_2);(try clear hcz75_3);(try clear hcz75_4);(try clear hcz75_5)
                 (try clear hcz75_6);(try clear hcz75_7);(try clear hcz75_8);(try clear hcz75_9);(try clear hcz79_0);(try clear hcz79_1);(try clear hcz79_2);(try clear hcz79_3);(try clear hcz79_4);(try clear hcz79_5);(try clear hcz79_6);(try clear hcz79_7);(try clear hcz79_8);(try clear hcz79_9);(try clear hfz53_0);(try clear hfz53_1);(try clear hfz53_2);(try clear hfz53_3)
                 (try clear hfz53_4);(try clear hfz53_5);(try clear hfz53_6);(try clear hfz53_7);(try clear hfz53_8);(try clear hfz53_9);(try clear hfz63_0);(try clear hfz63_1);(try clear hfz63_2);(try clear hfz63_3);(try clear hfz63_4);(try clear hfz63_5);(try clear hfz63_6);(try clear hfz63_7);(try clear hfz63_8);(try clear hfz63_9);(try clear hfz67_0);(try clear hfz67_1)
                 (try clear hfz67_2);(try clear hfz67_3);(try clear hfz67_4);(try clear hfz67_5);(try clear hfz67_6);(try clear hfz67_7);(try clear hfz67_8);(try clear hfz67_9);(try clear hfz75_0);(try clear hfz75_1);(try clear hfz75_2);(try clear hfz75_3);(try clear hfz75_4);(try clear hfz75_5);(try clear hfz75_6);(try clear hfz75_7);(try clear hfz75_8);(try clear hfz75_9)
                 (try clear hfz79_0);(try clear hfz79_1);(try clear hfz79_2);(try clear hfz79_3);(try clear hfz79_4);(try clear hfz79_5);(try clear hfz79_6);(try clear hfz79_7);(try clear hfz79_8);(try clear hfz79_9);(try clear hx297_0);(try clear hx297_1);(try clear hx299_0);(try clear hx299_1);(try clear p277);(try clear p288);(try clear p297);(try clear p299);(try clear p6)
                 (try clear q2);(try clear q27);(try clear q274);(try clear q275);(try clear q276);(try clear q277);(try clear q288);(try clear q297);(try clear q299)
                 obtain ⟨x0_4,x8_4,rfl,HA,HK4,HO_0,BK266,HK,HB⟩:=hrel
                 cases gk with
                 | zero=>exact absurd HA.out (by simp [spec_l3Proto.l3])
                 | succ k4 =>
                  have H:=HA.out
                  clear HA
                  simp only [spec_l3Proto.l3] at H
                  by_cases c86:x8_4<(l1_8.length:Int)
                  ·rw [if_pos c86] at H
                   have c86b0:decide (x8_4<(l1_8.length:Int))=true:=decide_eq_true c86
                   clear c86
                   by_cases c87:0≤x8_4
                   ·rw [if_pos c87] at H
                    have c87b0:decide (0≤x8_4)=true:=decide_eq_true c87
                    clear c87
                    replace H:=Option.bind_eq_some_iff.mp H
                    obtain ⟨t318,A880,H⟩:=H
                    replace H:((spec_l3Put.f k4 x0_4 t318).bind fun t319=>(spec_l3Proto.l3 k4 t319 (wrap64 (x8_4+1)) a1_0 a1_1 a1_2 l1_3 l1_4 l1_5 a1_6 a1_7 l1_8 l1_9))=some r:=H
                    have A88:=Ak A880;clear A880
                    replace H:=Option.bind_eq_some_iff.mp H
                    obtain ⟨t319,A890,H⟩:=H
                    replace H:(spec_l3Proto.l3 k4 t319 (wrap64 (x8_4+1)) a1_0 a1_1 a1_2 l1_3 l1_4 l1_5 a1_6 a1_7 l1_8 l1_9)=some r:=H
                    have A89:=Ak A890;clear A890
                    have H':=Ak H
                    clear H
                    obtain ⟨hcz90_0,hcz90_1,hcz90_2,hcz90_3,hcz90_4,hcz90_5,hcz90_6,hcz90_7,hcz90_8,hcz90_9,hfz90_0,hfz90_1,hfz90_2,hfz90_3,hfz90_4,hfz90_5,hfz90_6,hfz90_7,hfz90_8,hfz90_9⟩:=bk10 BK266.out
                    have p317:0≤(x8_4:Int):=of_decide_eq_true (by first|(with_reducible assumption)|assumption)
                    have q317:x8_4<(l1_8.length:Int):=of_decide_eq_true (by first|(with_reducible assumption)|assumption)
                    obtain ⟨ad317,e317,hx317_0⟩:=Kd.at_int (Kd.C_kept_now HR1_8.out HK.out) x8_4 p317 q317
                    cases e317
                    replace p317:=eq_true p317
                    replace q317:=eq_true q317
                    go_wp2_with (first|((with_reducible refine gate_callee (f:=74) rfl ?_);refine goesL_ (some 150) rfl rfl Try.func74 (by kernel_rfl) rfl #[.int .i64 (rd l1_8 x8_4)] rfl (by (try simp only [List.map_toArray,List.map_cons,List.map_nil]);first|done|rfl|(simp only [List.length_drop,List.length_take];rfl)) ?_;(with_reducible refine (spec_PutVarint.calls k4 (rd l1_8 x8_4) t318 _ A88.out).mono ?_);rintro e w91 ⟨rfl,hb⟩;refine ⟨_,rfl,?_⟩;have n0_:=Ak (Kd.R_below (by (with_reducible repeat (first|apply Kd.R_alloc|apply Kd.R_drewN|apply Kd.R_drew));exact HO_0.out) hb);have n1_:=Ak (blk_below (g:=gb266) (o:=.cells #[.int .i64 a1_0,.bool a1_1,.int .i64 a1_2,.slice A1_3 l1_3.length c1_3,.slice A1_4 l1_4.length c1_4,.slice A1_5 l1_5.length c1_5,.int .i64 a1_6,.string a1_7,.slice (some ad317) l1_8.length c1_8,.slice A1_9 l1_9.length c1_9] 44 (0,0)) (by (with_reducible repeat (first|refine blk_drewN ?_ _|refine blk_drew ?_|refine blk_alloc ?_ _));exact BK266.out) hb);have n2_:=Ak (Kept.below (S:=(fun k_=>P0_ k_)) (by repeat (first|(with_reducible first|exact HK.out|apply Kept.alloc|apply Kept.drewN|apply Kept.drew|refine Kept.setCell ?_ (.inr GW266.out) _)|exact HK.out)) hb);have n3_:=Ak (below_step (by repeat (first|(with_reducible first|exact HB.out|apply below_alloc|apply pw_below_drewN|apply below_drew1|refine below_set ?_ GE266.out)|exact HB.out)) hb);clear HO_0;clear BK266;clear HK;clear HB;have HO_0:=n0_;have BK266:=n1_;have HK:=n2_;have HB:=n3_;clear n0_ n1_ n2_ n3_;(try clear hb);(try clear hb2);(try clear hk);(try clear hi);obtain ⟨Ao92,co92,eo92⟩:=Kd.R_slice HO_0.out;subst eo92)|((with_reducible refine gate_callee (f:=33) rfl ?_);refine goesL_ (some 151) rfl rfl Try.func33 (by kernel_rfl) rfl #[.slice Ao92 x0_4.length co92,.string t318] rfl (by (try simp only [List.map_toArray,List.map_cons,List.map_nil]);first|done|rfl|(simp only [List.length_drop,List.length_take];rfl)) ?_;(with_reducible refine (spec_l3Put.calls k4 (fun k_=>some k_=(.slice Ao92 x0_4.length co92:Value).ownBlock) (.slice Ao92 x0_4.length co92) x0_4 t318 t319 w0 _ ?side1 ?side2 A89.out).mono ?_);(case side1=>repeat (first|(with_reducible first|exact HB.out|apply below_alloc|apply pw_below_drewN|apply below_drew1|refine below_set ?_ GE266.out)|exact HB.out));(case side2=>exact Kd.R_tight rfl HO_0.out);rintro e w93 ⟨v320,rfl,ho0,hb,hkp⟩;refine ⟨_,rfl,?_⟩;have n0_:=Ak (blk_kept (by (with_reducible repeat (first|refine blk_drewN ?_ _|refine blk_drew ?_|refine blk_alloc ?_ _));exact BK266.out) hkp (fun hs_=>(fun e_=>(Kd.R_ne HO_0.out BK266.out (by decide)) e_) hs_));have n1_:=Ak (Kd.R_mono (ok':=fun k_=>(P0_ k_∨w.heap.size≤k_)) ho0 (fun k_ hk_=>Or.elim hk_ (fun hs_=>(HO_0.out.1 k_ (hs_).symm)) (fun hn_=>(.inr (Nat.le_trans (by first|exact HK.out.1|exact (show Kept w _ (fun k_=>P0_ k_) from by repeat (first|(with_reducible first|exact HK.out|apply Kept.alloc|apply Kept.drewN|apply Kept.drew|refine Kept.setCell ?_ (.inr GW266.out) _)|exact HK.out)).1) hn_)))));have n2_:=Ak (Kept.then_ (S:=(fun k_=>P0_ k_)) (by repeat (first|(with_reducible first|exact HK.out|apply Kept.alloc|apply Kept.drewN|apply Kept.drew|refine Kept.setCell ?_ (.inr GW266.out) _)|exact HK.out)) hkp (fun k_ hs_=>(fun e_=>(HO_0.out.1 k_ e_.symm)) hs_));have n3_:=Ak (hb);clear BK266;clear HK;clear HB;clear HO_0;have BK266:=n0_;have HO321:=n1_;have HK:=n2_;have HB:=n3_;clear n0_ n1_ n2_ n3_;(try clear hb);(try clear hkp);(try clear ho0)))
                    go_roundg k4
                    case measure=>have:=HK1.out;have:=HK2.out;have:=HK3.out;have:=HK4.out;omega
                    case rel=>exact ⟨(t319),(wrap64 (x8_4+1)),(by first|rfl|(simp;done)|(simp [*];done)),H',⟨by have:=HK1.out;have:=HK2.out;have:=HK3.out;have:=HK4.out;omega⟩,⟨by (with_reducible repeat (first|apply Kd.R_alloc|apply Kd.R_drewN|apply Kd.R_drew));exact HO321.out⟩,⟨by (with_reducible repeat (first|refine blk_drewN ?_ _|refine blk_drew ?_|refine blk_alloc ?_ _));exact BK266.out⟩,⟨by repeat (first|(with_reducible first|exact HK.out|apply Kept.alloc|apply Kept.drewN|apply Kept.drew|refine Kept.setCell ?_ (.inr GW266.out) _)|exact HK.out)⟩,⟨by repeat (first|(with_reducible first|exact HB.out|apply below_alloc|apply pw_below_drewN|apply below_drew1|refine below_set ?_ GE266.out)|exact HB.out)⟩⟩
                   ·rw [if_neg c87] at H
                    exact absurd H (by simp)
                  ·rw [if_neg c86] at H
                   have c86b0:decide (x8_4<(l1_8.length:Int))=false:=decide_eq_false c86
                   clear c86
                   replace H:=Option.bind_eq_some_iff.mp H
                   obtain ⟨t322,A940,H⟩:=H
                   replace H:((spec_l3Put.f k4 x0_4 t322).bind fun t323=>(spec_l3Proto.l4 k4 t323 0 a1_0 a1_1 a1_2 l1_3 l1_4 l1_5 a1_6 a1_7 l1_8 l1_9))=some r:=H
                   have A94:=Ak A940;clear A940
                   replace H:=Option.bind_eq_some_iff.mp H
                   obtain ⟨t323,A950,H⟩:=H
                   replace H:(spec_l3Proto.l4 k4 t323 0 a1_0 a1_1 a1_2 l1_3 l1_4 l1_5 a1_6 a1_7 l1_8 l1_9)=some r:=H
                   have A95:=Ak A950;clear A950
                   have H':=Ak H
                   clear H
                   obtain ⟨hcz96_0,hcz96_1,hcz96_2,hcz96_3,hcz96_4,hcz96_5,hcz96_6,hcz96_7,hcz96_8,hcz96_9,hfz96_0,hfz96_1,hfz96_2,hfz96_3,hfz96_4,hfz96_5,hfz96_6,hfz96_7,hfz96_8,hfz96_9⟩:=bk10 BK266.out
                   go_wp2_with (first|((with_reducible refine gate_callee (f:=74) rfl ?_);refine goesL_ (some 156) rfl rfl Try.func74 (by kernel_rfl) rfl #[.int .i64 (l1_9.length:Int)] rfl (by (try simp only [List.map_toArray,List.map_cons,List.map_nil]);first|done|rfl|(simp only [List.length_drop,List.length_take];rfl)) ?_;(with_reducible refine (spec_PutVarint.calls k4 (l1_9.length:Int) t322 _ A94.out).mono ?_);rintro e w97 ⟨rfl,hb⟩;refine ⟨_,rfl,?_⟩;have n0_:=Ak (Kd.R_below (by (with_reducible repeat (first|apply Kd.R_alloc|apply Kd.R_drewN|apply Kd.R_drew));exact HO_0.out) hb);have n1_:=Ak (blk_below (g:=gb266) (o:=.cells #[.int .i64 a1_0,.bool a1_1,.int .i64 a1_2,.slice A1_3 l1_3.length c1_3,.slice A1_4 l1_4.length c1_4,.slice A1_5 l1_5.length c1_5,.int .i64 a1_6,.string a1_7,.slice A1_8 l1_8.length c1_8,.slice A1_9 l1_9.length c1_9] 44 (0,0)) (by (with_reducible repeat (first|refine blk_drewN ?_ _|refine blk_drew ?_|refine blk_alloc ?_ _));exact BK266.out) hb);have n2_:=Ak (Kept.below (S:=(fun k_=>P0_ k_)) (by repeat (first|(with_reducible first|exact HK.out|apply Kept.alloc|apply Kept.drewN|apply Kept.drew|refine Kept.setCell ?_ (.inr GW266.out) _)|exact HK.out)) hb);have n3_:=Ak (below_step (by repeat (first|(with_reducible first|exact HB.out|apply below_alloc|apply pw_below_drewN|apply below_drew1|refine below_set ?_ GE266.out)|exact HB.out)) hb);clear HO_0;clear BK266;clear HK;clear HB;have HO_0:=n0_;have BK266:=n1_;have HK:=n2_;have HB:=n3_;clear n0_ n1_ n2_ n3_;(try clear hb);(try clear hb2);(try clear hk);(try clear hi);obtain ⟨Ao98,co98,eo98⟩:=Kd.R_slice HO_0.out;subst eo98)|((with_reducible refine gate_callee (f:=33) rfl ?_);refine goesL_ (some 157) rfl rfl Try.func33 (by kernel_rfl) rfl #[.slice Ao98 x0_4.length co98,.string t322] rfl (by (try simp only [List.map_toArray,List.map_cons,List.map_nil]);first|done|rfl|(simp only [List.length_drop,List.length_take];rfl)) ?_;(with_reducible refine (spec_l3Put.calls k4 (fun k_=>some k_=(.slice Ao98 x0_4.length co98:Value).ownBlock) (.slice Ao98 x0_4.length co98) x0_4 t322 t323 w0 _ ?side1 ?side2 A95.out).mono ?_);(case side1=>repeat (first|(with_reducible first|exact HB.out|apply below_alloc|apply pw_below_drewN|apply below_drew1|refine below_set ?_ GE266.out)|exact HB.out));(case side2=>exact Kd.R_tight rfl HO_0.out);rintro e w99 ⟨v324,rfl,ho0,hb,hkp⟩;refine ⟨_,rfl,?_⟩;have n0_:=Ak (blk_kept (by (with_reducible repeat (first|refine blk_drewN ?_ _|refine blk_drew ?_|refine blk_alloc ?_ _));exact BK266.out) hkp (fun hs_=>(fun e_=>(Kd.R_ne HO_0.out BK266.out (by decide)) e_) hs_));have n1_:=Ak (Kd.R_mono (ok':=fun k_=>(P0_ k_∨w.heap.size≤k_)) ho0 (fun k_ hk_=>Or.elim hk_ (fun hs_=>(HO_0.out.1 k_ (hs_).symm)) (fun hn_=>(.inr (Nat.le_trans (by first|exact HK.out.1|exact (show Kept w _ (fun k_=>P0_ k_) from by repeat (first|(with_reducible first|exact HK.out|apply Kept.alloc|apply Kept.drewN|apply Kept.drew|refine Kept.setCell ?_ (.inr GW266.out) _)|exact HK.out)).1) hn_)))));have n2_:=Ak (Kept.then_ (S:=(fun k_=>P0_ k_)) (by repeat (first|(with_reducible first|exact HK.out|apply Kept.alloc|apply Kept.drewN|apply Kept.drew|refine Kept.setCell ?_ (.inr GW266.out) _)|exact HK.out)) hkp (fun k_ hs_=>(fun e_=>(HO_0.out.1 k_ e_.symm)) hs_));have n3_:=Ak (hb);clear BK266;clear HK;clear HB;clear HO_0;have BK266:=n0_;have HO325:=n1_;have HK:=n2_;have HB:=n3_;clear n0_ n1_ n2_ n3_;(try clear hb);(try clear hkp);(try clear ho0)))
                   go_loopg [0,9] k4 (fun kq v0 v9 w'=>∃ (x0_5:List Int) (x9_5:Int),v9=.int .i64 x9_5∧Aside0 (spec_l3Proto.l4 kq x0_5 x9_5 a1_0 a1_1 a1_2 l1_3 l1_4 l1_5 a1_6 a1_7 l1_8 l1_9=some r)∧Aside0 (kq≤k4)∧Aside0 (Kd.R (Kd.int .u8) 5 w' w0.heap.size (fun k_=>(P0_ k_∨w.heap.size≤k_)) v0 x0_5)∧Aside0 (w'.heap[gb266]?=some (.cells #[.int .i64 a1_0,.bool a1_1,.int .i64 a1_2,(.slice A1_3 l1_3.length c1_3),(.slice A1_4 l1_4.length c1_4),(.slice A1_5 l1_5.length c1_5),.int .i64 a1_6,.string a1_7,(.slice A1_8 l1_8.length c1_8),(.slice A1_9 l1_9.length c1_9)] 44 (0,0)))∧Aside0 (Kept w w' (fun k_=>P0_ k_))∧Aside0 (Below w0.heap.size w0 w'))
                   case atStart=>exact ⟨(t323),(0),(by first|rfl|(simp;done)|(simp [*];done)),H',⟨Nat.le_refl _⟩,⟨by (with_reducible repeat (first|apply Kd.R_alloc|apply Kd.R_drewN|apply Kd.R_drew));exact HO325.out⟩,⟨by (with_reducible repeat (first|refine blk_drewN ?_ _|refine blk_drew ?_|refine blk_alloc ?_ _));exact BK266.out⟩,⟨by repeat (first|(with_reducible first|exact HK.out|apply Kept.alloc|apply Kept.drewN|apply Kept.drew|refine Kept.setCell ?_ (.inr GW266.out) _)|exact HK.out)⟩,⟨by repeat (first|(with_reducible first|exact HB.out|apply below_alloc|apply pw_below_drewN|apply below_drew1|refine below_set ?_ GE266.out)|exact HB.out)⟩⟩
                   case round =>
                    clear H';(try clear c1);(try clear p2);(try clear q2);(try clear hx2);(try clear c3);(try clear p3);(try clear q3);(try clear hx3);(try clear c4);(try clear c5);(try clear c6);(try clear p6);(try clear c7);(try clear c8);(try clear p27);(try clear q27);(try clear p28);(try clear q28);(try clear p29);(try clear q29);(try clear hx29);(try clear p31)
                    (try clear q31);(try clear hx31);(try clear c33);(try clear c47);(try clear c47b0);(try clear c48);(try clear c48b0);(try clear c51);(try clear c51b0);(try clear c51b1);(try clear c51b2);(try clear c51b3);(try clear c61);(try clear c62);(try clear p64);(try clear c71);(try clear c71b0);(try clear c71b1);(try clear c71b2);(try clear c71b3);(try clear c73)
                    (try clear c73b0);(try clear c73b1);(try clear c73b2);(try clear c73b3);(try clear c74);(try clear c76);(try clear c77);(try clear c86);(try clear c86b0);(try clear c87);(try clear c87b0);(try clear hcz53_0);(try clear hcz53_1);(try clear hcz53_2);(try clear hcz53_3);(try clear hcz53_4);(try clear hcz53_5);(try clear hcz53_6);(try clear hcz53_7)
                    (try clear hcz53_8);(try clear hcz53_9);(try clear hcz63_0);(try clear hcz63_1);(try clear hcz63_2);(try clear hcz63_3);(try clear hcz63_4);(try clear hcz63_5);(try clear hcz63_6);(try clear hcz63_7);(try clear hcz63_8);(try clear hcz63_9);(try clear hcz67_0);(try clear hcz67_1);(try clear hcz67_2);(try clear hcz67_3);(try clear hcz67_4);(try clear hcz67_5)
                    (try clear hcz67_6);(try clear hcz67_7);(try clear hcz67_8);(try clear hcz67_9);(try clear hcz75_0);(try clear hcz75_1);(try clear hcz75_2);(try clear hcz75_3);(try clear hcz75_4);(try clear hcz75_5);(try clear hcz75_6);(try clear hcz75_7);(try clear hcz75_8);(try clear hcz75_9);(try clear hcz79_0);(try clear hcz79_1);(try clear hcz79_2);(try clear hcz79_3)
                    (try clear hcz79_4);(try clear hcz79_5);(try clear hcz79_6);(try clear hcz79_7);(try clear hcz79_8);(try clear hcz79_9);(try clear hcz90_0);(try clear hcz90_1);(try clear hcz90_2);(try clear hcz90_3);(try clear hcz90_4);(try clear hcz90_5);(try clear hcz90_6);(try clear hcz90_7);(try clear hcz90_8);(try clear hcz90_9);(try clear hcz96_0);(try clear hcz96_1)
                    (try clear hcz96_2);(try clear hcz96_3);(try clear hcz96_4);(try clear hcz96_5);(try clear hcz96_6);(try clear hcz96_7);(try clear hcz96_8);(try clear hcz96_9);(try clear hfz53_0);(try clear hfz53_1);(try clear hfz53_2);(try clear hfz53_3);(try clear hfz53_4);(try clear hfz53_5);(try clear hfz53_6);(try clear hfz53_7);(try clear hfz53_8);(try clear hfz53_9)
                    (try clear hfz63_0);(try clear hfz63_1);(try clear hfz63_2);(try clear hfz63_3);(try clear hfz63_4);(try clear hfz63_5);(try clear hfz63_6);(try clear hfz63_7);(try clear hfz63_8);(try clear hfz63_9);(try clear hfz67_0);(try clear hfz67_1);(try clear hfz67_2);(try clear hfz67_3);(try clear hfz67_4);(try clear hfz67_5);(try clear hfz67_6);(try clear hfz67_7)
                    (try clear hfz67_8);(try clear hfz67_9);(try clear hfz75_0);(try clear hfz75_1);(try clear hfz75_2);(try clear hfz75_3);(try clear hfz75_4);(try clear hfz75_5);(try clear hfz75_6);(try clear hfz75_7);(try clear hfz75_8);(try clear hfz75_9);(try clear hfz79_0);(try clear hfz79_1);(try clear hfz79_2);(try clear hfz79_3);(try clear hfz79_4);(try clear hfz79_5)
                    (try clear hfz79_6);(try clear hfz79_7);(try clear hfz79_8);(try clear hfz79_9);(try clear hfz90_0);(try clear hfz90_1);(try clear hfz90_2);(try clear hfz90_3);(try clear hfz90_4);(try clear hfz90_5);(try clear hfz90_6);(try clear hfz90_7);(try clear hfz90_8);(try clear hfz90_9);(try clear hfz96_0);(try clear hfz96_1);(try clear hfz96_2);(try clear hfz96_3)
                    (try clear hfz96_4);(try clear hfz96_5);(try clear hfz96_6);(try clear hfz96_7);(try clear hfz96_8);(try clear hfz96_9);(try clear hx297_0);(try clear hx297_1);(try clear hx299_0);(try clear hx299_1);(try clear hx317_0);(try clear p2);(try clear p27);(try clear p277);(try clear p28);(try clear p288);(try clear p29);(try clear p297);(try clear p299)
                    (try clear p317);(try clear p6);(try clear p64);(try clear q2);(try clear q27);(try clear q274);(try clear q275);(try clear q276);(try clear q277);(try clear q28);(try clear q288);(try clear q29);(try clear q297);(try clear q299);(try clear q317)
                    obtain ⟨x0_5,x9_5,rfl,HA,HK5,HO_0,BK266,HK,HB⟩:=hrel
                    cases gk with
                    | zero=>exact absurd HA.out (by simp [spec_l3Proto.l4])
                    | succ k5 =>
                     have H:=HA.out
                     clear HA
                     simp only [spec_l3Proto.l4] at H
                     by_cases c100:x9_5<(l1_9.length:Int)
                     ·rw [if_pos c100] at H
                      have c100b0:decide (x9_5<(l1_9.length:Int))=true:=decide_eq_true c100
                      clear c100
                      by_cases c101:0≤x9_5
                      ·rw [if_pos c101] at H
                       have c101b0:decide (0≤x9_5)=true:=decide_eq_true c101
                       clear c101
                       replace H:=Option.bind_eq_some_iff.mp H
                       obtain ⟨t327,A1020,H⟩:=H
                       replace H:((spec_l3Put.f k5 x0_5 t327).bind fun t328=>(spec_l3Proto.l4 k5 t328 (wrap64 (x9_5+1)) a1_0 a1_1 a1_2 l1_3 l1_4 l1_5 a1_6 a1_7 l1_8 l1_9))=some r:=H
                       have A102:=Ak A1020;clear A1020
                       replace H:=Option.bind_eq_some_iff.mp H
                       obtain ⟨t328,A1030,H⟩:=H
                       replace H:(spec_l3Proto.l4 k5 t328 (wrap64 (x9_5+1)) a1_0 a1_1 a1_2 l1_3 l1_4 l1_5 a1_6 a1_7 l1_8 l1_9)=some r:=H
                       have A103:=Ak A1030;clear A1030
                       have H':=Ak H
                       clear H
                       obtain ⟨hcz104_0,hcz104_1,hcz104_2,hcz104_3,hcz104_4,hcz104_5,hcz104_6,hcz104_7,hcz104_8,hcz104_9,hfz104_0,hfz104_1,hfz104_2,hfz104_3,hfz104_4,hfz104_5,hfz104_6,hfz104_7,hfz104_8,hfz104_9⟩:=bk10 BK266.out
                       have p326:0≤(x9_5:Int):=of_decide_eq_true (by first|(with_reducible assumption)|assumption)
                       have q326:x9_5<(l1_9.length:Int):=of_decide_eq_true (by first|(with_reducible assumption)|assumption)
                       obtain ⟨ad326,e326,hx326_0⟩:=Kd.at_string (Kd.C_kept_now HR1_9.out HK.out) x9_5 p326 q326
                       cases e326
                       replace p326:=eq_true p326
                       replace q326:=eq_true q326
                       go_wp2_with (first|((with_reducible refine gate_callee (f:=77) rfl ?_);refine goesL_ (some 171) rfl rfl Try.func77 (by kernel_rfl) rfl #[.string (rdOf ByteArray.empty l1_9 x9_5)] rfl (by (try simp only [List.map_toArray,List.map_cons,List.map_nil]);first|done|rfl|(simp only [List.length_drop,List.length_take];rfl)) ?_;(with_reducible refine (spec_l3Sized.calls k5 (rdOf ByteArray.empty l1_9 x9_5) t327 _ A102.out).mono ?_);rintro e w105 ⟨rfl,hb⟩;refine ⟨_,rfl,?_⟩;have n0_:=Ak (Kd.R_below (by (with_reducible repeat (first|apply Kd.R_alloc|apply Kd.R_drewN|apply Kd.R_drew));exact HO_0.out) hb);have n1_:=Ak (blk_below (g:=gb266) (o:=.cells #[.int .i64 a1_0,.bool a1_1,.int .i64 a1_2,.slice A1_3 l1_3.length c1_3,.slice A1_4 l1_4.length c1_4,.slice A1_5 l1_5.length c1_5,.int .i64 a1_6,.string a1_7,.slice A1_8 l1_8.length c1_8,.slice (some ad326) l1_9.length c1_9] 44 (0,0)) (by (with_reducible repeat (first|refine blk_drewN ?_ _|refine blk_drew ?_|refine blk_alloc ?_ _));exact BK266.out) hb);have n2_:=Ak (Kept.below (S:=(fun k_=>P0_ k_)) (by repeat (first|(with_reducible first|exact HK.out|apply Kept.alloc|apply Kept.drewN|apply Kept.drew|refine Kept.setCell ?_ (.inr GW266.out) _)|exact HK.out)) hb);have n3_:=Ak (below_step (by repeat (first|(with_reducible first|exact HB.out|apply below_alloc|apply pw_below_drewN|apply below_drew1|refine below_set ?_ GE266.out)|exact HB.out)) hb);clear HO_0;clear BK266;clear HK;clear HB;have HO_0:=n0_;have BK266:=n1_;have HK:=n2_;have HB:=n3_;clear n0_ n1_ n2_ n3_;(try clear hb);(try clear hb2);(try clear hk);(try clear hi);obtain ⟨Ao106,co106,eo106⟩:=Kd.R_slice HO_0.out;subst eo106)|((with_reducible refine gate_callee (f:=33) rfl ?_);refine goesL_ (some 172) rfl rfl Try.func33 (by kernel_rfl) rfl #[.slice Ao106 x0_5.length co106,.string t327] rfl (by (try simp only [List.map_toArray,List.map_cons,List.map_nil]);first|done|rfl|(simp only [List.length_drop,List.length_take];rfl)) ?_;(with_reducible refine (spec_l3Put.calls k5 (fun k_=>some k_=(.slice Ao106 x0_5.length co106:Value).ownBlock) (.slice Ao106 x0_5.length co106) x0_5 t327 t328 w0 _ ?side1 ?side2 A103.out).mono ?_);(case side1=>repeat (first|(with_reducible first|exact HB.out|apply below_alloc|apply pw_below_drewN|apply below_drew1|refine below_set ?_ GE266.out)|exact HB.out));(case side2=>exact Kd.R_tight rfl HO_0.out);rintro e w107 ⟨v329,rfl,ho0,hb,hkp⟩;refine ⟨_,rfl,?_⟩;have n0_:=Ak (blk_kept (by (with_reducible repeat (first|refine blk_drewN ?_ _|refine blk_drew ?_|refine blk_alloc ?_ _));exact BK266.out) hkp (fun hs_=>(fun e_=>(Kd.R_ne HO_0.out BK266.out (by decide)) e_) hs_));have n1_:=Ak (Kd.R_mono (ok':=fun k_=>(P0_ k_∨w.heap.size≤k_)) ho0 (fun k_ hk_=>Or.elim hk_ (fun hs_=>(HO_0.out.1 k_ (hs_).symm)) (fun hn_=>(.inr (Nat.le_trans (by first|exact HK.out.1|exact (show Kept w _ (fun k_=>P0_ k_) from by repeat (first|(with_reducible first|exact HK.out|apply Kept.alloc|apply Kept.drewN|apply Kept.drew|refine Kept.setCell ?_ (.inr GW266.out) _)|exact HK.out)).1) hn_)))));have n2_:=Ak (Kept.then_ (S:=(fun k_=>P0_ k_)) (by repeat (first|(with_reducible first|exact HK.out|apply Kept.alloc|apply Kept.drewN|apply Kept.drew|refine Kept.setCell ?_ (.inr GW266.out) _)|exact HK.out)) hkp (fun k_ hs_=>(fun e_=>(HO_0.out.1 k_ e_.symm)) hs_));have n3_:=Ak (hb);clear BK266;clear HK;clear HB;clear HO_0;have BK266:=n0_;have HO330:=n1_;have HK:=n2_;have HB:=n3_;clear n0_ n1_ n2_ n3_;(try clear hb);(try clear hkp);(try clear ho0)))
                       go_roundg k5
                       case measure=>have:=HK1.out;have:=HK2.out;have:=HK3.out;have:=HK4.out;have:=HK5.out;omega
                       case rel=>exact ⟨(t328),(wrap64 (x9_5+1)),(by first|rfl|(simp;done)|(simp [*];done)),H',⟨by have:=HK1.out;have:=HK2.out;have:=HK3.out;have:=HK4.out;have:=HK5.out;omega⟩,⟨by (with_reducible repeat (first|apply Kd.R_alloc|apply Kd.R_drewN|apply Kd.R_drew));exact HO330.out⟩,⟨by (with_reducible repeat (first|refine blk_drewN ?_ _|refine blk_drew ?_|refine blk_alloc ?_ _));exact BK266.out⟩,⟨by repeat (first|(with_reducible first|exact HK.out|apply Kept.alloc|apply Kept.drewN|apply Kept.drew|refine Kept.setCell ?_ (.inr GW266.out) _)|exact HK.out)⟩,⟨by repeat (first|(with_reducible first|exact HB.out|apply below_alloc|apply pw_below_drewN|apply below_drew1|refine below_set ?_ GE266.out)|exact HB.out)⟩⟩
                      ·rw [if_neg c101] at H
                       exact absurd H (by simp)
                     ·rw [if_neg c100] at H
                      have c100b0:decide (x9_5<(l1_9.length:Int))=false:=decide_eq_false c100
                      clear c100
                      obtain rfl:=Option.some.inj H
                      obtain ⟨hcz108_0,hcz108_1,hcz108_2,hcz108_3,hcz108_4,hcz108_5,hcz108_6,hcz108_7,hcz108_8,hcz108_9,hfz108_0,hfz108_1,hfz108_2,hfz108_3,hfz108_4,hfz108_5,hfz108_6,hfz108_7,hfz108_8,hfz108_9⟩:=bk10 BK266.out
                      go_wp2
                      go_ret
                      exact ⟨_,by first|rfl|(simp [errW_none,errW_some] <;> rfl)|(simp [*,errW_none,errW_some] <;> rfl),by (with_reducible repeat (first|apply Kd.R_alloc|apply Kd.R_drewN|apply Kd.R_drew));exact HO_0.out,by repeat (first|(with_reducible first|exact HB.out|apply below_alloc|apply pw_below_drewN|apply below_drew1|refine below_set ?_ GE266.out)|exact HB.out),by repeat (first|(with_reducible first|exact HK.out|apply Kept.alloc|apply Kept.drewN|apply Kept.drew|refine Kept.setCell ?_ (.inr GW266.out) _)|exact HK.out)⟩
               ·rw [if_neg c73] at H
                exact absurd H (by simp)
              ·rw [if_neg c71] at H
               exact absurd H (by simp)
   ·rw [if_neg c9] at H
    exact absurd H (by simp)
  ·rw [if_neg c7] at H
   exact absurd H (by simp)
 ·rw [if_neg c5] at H
  exact absurd H (by simp)
end Go.Proofs.Ytiekodnojmkfaaa.PFnExactDump
