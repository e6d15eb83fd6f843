-- Printed by the kit's print or by this session's program, then cut and tightened by it.
import Derived.Test.YtiekodnojmkfaaaPFnEndsx0
import Derived.Test.YtiekodnojmkfaaaPFnEndsx11
import Derived.Test.YtiekodnojmkfaaaKids
namespace Go.Proofs.Ytiekodnojmkfaaa.PFnEnds
open Go.RowKit Go.Proofs.YtiekodnojmkfaaaW.PrintWords Go.Proofs.YtiekodnojmkfaaaW.PrintLast Go.Proofs.YtiekodnojmkfaaaW.PrintMore
attribute [local go_sem] max2_int min2_int max_two min_two max_three min_three max_four min_four   -- for this text's walks alone
set_option linter.unusedVariables false
set_option linter.unusedSimpArgs false
def spec_l4DrawChunk.f (k:Nat) (l0:List Int) (a1:Int):Option ((List (S44))×Int):=(spec_l4Tree.f k l0 a1 0 0).bind fun bt191=>(some (bt191.1,bt191.2))
set_option maxHeartbeats 8000000 in
set_option maxRecDepth 100000 in
theorem spec_l4DrawChunk.calls (k:Nat) (A0:Option Addr) (c0:Nat) (l0:List Int) (a1:Int) (r1:List (S44)) (r2:Int) (w:World) (hr0:Kd.C (Kd.int .u8) w A0 l0.length l0) (hc0:l0.length≤c0) (h:spec_l4DrawChunk.f k l0 a1=some (r1,r2)) :
  Calls Try.prog 31 #[.slice A0 l0.length c0,.int .i64 a1] w fun e w'=>∃ v0_:Value,e=.returned (.tuple #[.agg #[v0_],.int .i64 r2])∧Kd.S k44 44 w' w.heap.size (fun _=>True) v0_ r1∧Below w.heap.size w w':=by
 have hu29:=Try.underlying29
 have HR0:=Ak hr0;have HC0:=Ak hc0;clear hr0 hc0
 have HB:=Ak (Below.refl w.heap.size w)
 have H:((spec_l4Tree.f k l0 a1 0 0).bind fun bt191=>(some (bt191.1,bt191.2)))=some (r1,r2):=h
 clear h
 replace H:=Option.bind_eq_some_iff.mp H
 obtain ⟨⟨t191,t192⟩,A30,H⟩:=H
 replace H:(some (t191,t192))=some (r1,r2):=H
 have A3:=Ak A30;clear A30
 simp only [Option.some.injEq,Prod.mk.injEq] at H
 obtain ⟨rfl,rfl⟩:=H
 go_enter Try.func31,Try.ntmps31
 go_wp2_with (first|((with_reducible refine gate_dst (N:=4) rfl ?_);refine box_event ?hg (N:=4) ?hd (cs:=#[.slice none 0 0]) (t:=29) ?hr ?_;(case hd=>rfl);(case hg=>rfl);(case hr=>first|(go_simp;done)|(go_simp;rfl));intro gb190 hg w4 hbox hb;have n0_:=Ak (below_step (by repeat (first|(with_reducible first|exact HB.out|apply below_alloc|apply pw_below_drewN|apply below_drew1)|exact HB.out)) hb);have n1_:=Ak (hbox);have n2_:=Ak ((by rw [hg];exact (below_size (by repeat (first|(with_reducible first|exact HB.out|apply below_alloc|apply pw_below_drewN|apply below_drew1)|exact HB.out))):w.heap.size≤gb190));have n3_:=Ak ((by rw [hg];exact (below_size (by repeat (first|(with_reducible first|exact HB.out|apply below_alloc|apply pw_below_drewN|apply below_drew1)|exact HB.out))):w.heap.size≤gb190));clear HB;have HB:=n0_;have BK190:=n1_;have GW190:=n2_;have GE190:=n3_;clear n0_ n1_ n2_ n3_;clear hb hbox hg)|((with_reducible refine gate_callee (f:=69) rfl ?_);refine goesL_ (some 11) rfl rfl Try.func69 (by kernel_rfl) rfl #[.slice A0 l0.length c0,.int .i64 a1,.int .i64 0,.int .i64 0] rfl (by (try simp only [List.map_toArray,List.map_cons,List.map_nil]);first|done|rfl|(simp only [List.length_drop,List.length_take];rfl)) ?_;(with_reducible refine (spec_l4Tree.calls k _ _ l0 a1 0 0 t191 t192 _ ?side1 ?side2 A3.out).mono ?_);(case side1=>repeat (first|exact (Kd.C_below HR0.out HB.out)|(with_reducible refine Kd.C_alloc ?_ _)|(with_reducible refine Kd.C_drewN ?_ _)|(with_reducible refine Kd.C_drew ?_)));(case side2=>exact HC0.out);rintro e w5 ⟨v193,rfl,ho0,hb⟩;refine ⟨_,rfl,?_⟩;have n0_:=Ak (Kd.S_lower ho0 (below_size (by repeat (first|(with_reducible first|exact HB.out|apply below_alloc|apply pw_below_drewN|apply below_drew1|refine below_set ?_ GE190.out)|exact HB.out))));have n1_:=Ak (blk_below (g:=gb190) (by (with_reducible repeat (first|refine blk_drewN ?_ _|refine blk_drew ?_|refine blk_alloc ?_ _));exact BK190.out) hb);have n2_:=Ak (below_step (by repeat (first|(with_reducible first|exact HB.out|apply below_alloc|apply pw_below_drewN|apply below_drew1|refine below_set ?_ GE190.out)|exact HB.out)) hb);clear BK190;clear HB;have HO194:=n0_;have BK190:=n1_;have HB:=n2_;clear n0_ n1_ n2_;(try clear hb);(try clear hb2);(try clear hk);(try clear hi);(try clear ho0);obtain ⟨Ao6,co6,eo6⟩:=Kd.S_slice HO194.out;subst eo6;obtain ⟨hcz7_0,hfz7_0⟩:=bk1 BK190.out))
 refine bodyPost_ret (results_ct rfl _ _ gb190 29 #[.slice Ao6 t191.length co6] (0,0) _ rfl (by (with_reducible repeat (first|refine blk_drewN ?_ _|refine blk_drew ?_|refine blk_alloc ?_ _));refine blk_put (cs:=#[.slice none 0 0]) ?_ 0 _ rfl;(with_reducible repeat (first|refine blk_drewN ?_ _|refine blk_drew ?_|refine blk_alloc ?_ _));exact BK190.out) Try.underlying29 rfl (by kernel_rfl)) rfl ?_
 exact ⟨_,by first|rfl|(simp [errW_none,errW_some] <;> rfl)|(simp [*,errW_none,errW_some] <;> rfl),by (with_reducible repeat (first|apply Kd.S_alloc|apply Kd.S_drewN|apply Kd.S_drew));exact Kd.S_mono (Kd.S_far (p:=⟨gb190,0,none⟩) (Kd.S_types HO194.out BK190.out (by decide)) (fun _ hk=>hk.2) (.slice Ao6 t191.length co6)) (fun _ hk=>trivial),by repeat (first|(with_reducible first|exact HB.out|apply below_alloc|apply pw_below_drewN|apply below_drew1|refine below_set ?_ GE190.out)|exact HB.out)⟩
def spec_l2Copy.l0:Nat→Int→List (S44)→List (S44)→Option ((List (S44)))
 | 0,_,_,_=>none
 | k+1,x4,x196000,x198000=>if x4<(x196000.length:Int) then (if 0≤x4 then (if x198000.length<837723144972 then (spec_l2Copy.l0 k (wrap64 (x4+1)) x196000 (x198000++[(⟨(rd_T44 x196000 x4).f0,(rd_T44 x196000 x4).f1,(rd_T44 x196000 x4).f2,(rd_T44 x196000 x4).f3,(rd_T44 x196000 x4).f4,(rd_T44 x196000 x4).f5,(rd_T44 x196000 x4).f6,(rd_T44 x196000 x4).f7,(rd_T44 x196000 x4).f8,(rd_T44 x196000 x4).f9⟩:S44)])) else (none)) else (none)) else (some x198000)
def spec_l2Copy.f (k:Nat) (l0_0:List (S44)):Option ((List (S44))):=spec_l2Copy.l0 k 0 l0_0 ([]:List (S44))
def spec_l2Copy.T5:Bool×List (List Nat×List Nat):=(true,[([],[]),([0],[0]),([],[]),([2],[2]),([],[]),([3,4],[3,4]),([5],[5]),([6],[6]),([1,7],[1,7]),([0,1,2,3,4,5,6,7,8],[]),([9,8,8,0,1,2,3,4,5,6,7,8],[8,9])])
def spec_l2Copy.B5:List Nat:=[0,1,0,4,0,28,60,124,255,511,1023]
theorem spec_l2Copy.tab5:rtab .any (opsOf Try.f70 5)=spec_l2Copy.T5:=by kernel_rfl
theorem spec_l2Copy.bits5:waitsOk spec_l2Copy.T5.2 spec_l2Copy.B5=true:=by kernel_rfl
set_option maxHeartbeats 8000000 in
set_option maxRecDepth 100000 in
theorem spec_l2Copy.calls (k:Nat) (P0_0_:Nat→Prop) (A0_0:Option Addr) (c0_0:Nat) (l0_0:List (S44)) (r:List (S44)) (w:World) (hs0_0:Kd.V k44 44 w w.heap.size (fun k_=>P0_0_ k_) (.slice A0_0 l0_0.length c0_0) l0_0) (h:spec_l2Copy.f k l0_0=some r) :
  Calls Try.prog 70 #[.agg #[.slice A0_0 l0_0.length c0_0]] w fun e w'=>∃ v0_:Value,e=.returned (.agg #[v0_])∧Kd.N k44 44 w' w.heap.size (fun k_=>(P0_0_ k_∨w.heap.size≤k_)) v0_ r∧Below w.heap.size w w':=by
 have hu29:=Try.underlying29
 have hu44:=Try.underlying44
 have HO0_0:=Ak (show Kd.V k44 44 w w.heap.size (fun k_=>(P0_0_ k_∨w.heap.size≤k_)) (.slice A0_0 l0_0.length c0_0) l0_0 from Kd.V_mono hs0_0 (fun k_ hk=>.inl hk))
 have HB:=Ak (Below.refl w.heap.size w)
 have H:(spec_l2Copy.l0 k 0 l0_0 ([]:List (S44)))=some r:=h
 clear h
 have H':=Ak H
 clear H
 go_enter Try.func70,Try.ntmps70
 go_wp2_with (first|((with_reducible refine gate_dst (N:=1) rfl ?_);refine box_event ?hg (N:=1) ?hd (cs:=#[.slice A0_0 l0_0.length c0_0]) (t:=29) ?hr ?_;(case hd=>rfl);(case hg=>rfl);(case hr=>first|(go_simp;done)|(go_simp;rfl));intro gb195 hg w2 hbox hb;have n0_:=Ak (Kd.V_below (Kd.V_elderB (by (with_reducible repeat (first|apply Kd.V_alloc|apply Kd.V_drewN|apply Kd.V_drew));exact HO0_0.out) gb195 (Nat.le_of_eq hg.symm)) hb);have n1_:=Ak (below_step (by repeat (first|(with_reducible first|exact HB.out|apply below_alloc|apply pw_below_drewN|apply below_drew1)|exact HB.out)) hb);have n2_:=Ak (hbox);have n3_:=Ak ((by rw [hg];exact (below_size (by repeat (first|(with_reducible first|exact HB.out|apply below_alloc|apply pw_below_drewN|apply below_drew1)|exact HB.out))):w.heap.size≤gb195));have n4_:=Ak ((by rw [hg];exact (below_size (by repeat (first|(with_reducible first|exact HB.out|apply below_alloc|apply pw_below_drewN|apply below_drew1)|exact HB.out))):w.heap.size≤gb195));clear HO0_0;clear HB;have HO0_0:=n0_;have HB:=n1_;have BK195:=n2_;have GW195:=n3_;have GE195:=n4_;clear n0_ n1_ n2_ n3_ n4_;clear hb hbox hg)|((with_reducible refine gate_dst (N:=2) rfl ?_);refine box_event ?hg (N:=2) ?hd (cs:=#[.slice none 0 0]) (t:=29) ?hr ?_;(case hd=>rfl);(case hg=>rfl);(case hr=>first|(go_simp;done)|(go_simp;rfl));intro gb196 hg w3 hbox hb;have n0_:=Ak (Kd.V_below (Kd.V_elderB (by (with_reducible repeat (first|apply Kd.V_alloc|apply Kd.V_drewN|apply Kd.V_drew));exact HO0_0.out) gb196 (Nat.le_of_eq hg.symm)) hb);have n1_:=Ak (blk_below (g:=gb195) (by (with_reducible repeat (first|refine blk_drewN ?_ _|refine blk_drew ?_|refine blk_alloc ?_ _));exact BK195.out) hb);have n2_:=Ak (below_step (by repeat (first|(with_reducible first|exact HB.out|apply below_alloc|apply pw_below_drewN|apply below_drew1|refine below_set ?_ GE195.out)|exact HB.out)) hb);have n3_:=Ak (hbox);have n4_:=Ak ((by rw [hg];exact (below_size (by repeat (first|(with_reducible first|exact HB.out|apply below_alloc|apply pw_below_drewN|apply below_drew1|refine below_set ?_ GE195.out)|exact HB.out))):w.heap.size≤gb196));have n5_:=Ak ((by rw [hg];exact (below_size (by repeat (first|(with_reducible first|exact HB.out|apply below_alloc|apply pw_below_drewN|apply below_drew1|refine below_set ?_ GE195.out)|exact HB.out))):w.heap.size≤gb196));have n6_:=Ak ((by rw [hg];exact Nat.ne_of_lt (blk_lt (g:=gb195) (by (with_reducible repeat (first|refine blk_drewN ?_ _|refine blk_drew ?_|refine blk_alloc ?_ _));exact BK195.out)):gb195≠gb196));have n7_:=Ak ((by rw [hg];exact Nat.ne_of_gt (blk_lt (g:=gb195) (by (with_reducible repeat (first|refine blk_drewN ?_ _|refine blk_drew ?_|refine blk_alloc ?_ _));exact BK195.out)):gb196≠gb195));clear HO0_0;clear BK195;clear HB;have HO0_0:=n0_;have BK195:=n1_;have HB:=n2_;have BK196:=n3_;have GW196:=n4_;have GE196:=n5_;have NB195_196:=n6_;have NB196_195:=n7_;clear n0_ n1_ n2_ n3_ n4_ n5_ n6_ n7_;clear hb hbox hg)|((with_reducible refine gate_dst (N:=3) rfl ?_);refine box_event ?hg (N:=3) ?hd (cs:=#[.slice none 0 0]) (t:=29) ?hr ?_;(case hd=>rfl);(case hg=>rfl);(case hr=>first|(go_simp;done)|(go_simp;rfl));intro gb197 hg w4 hbox hb;have n0_:=Ak (Kd.V_below (Kd.V_elderB (by (with_reducible repeat (first|apply Kd.V_alloc|apply Kd.V_drewN|apply Kd.V_drew));exact HO0_0.out) gb197 (Nat.le_of_eq hg.symm)) hb);have n1_:=Ak (blk_below (g:=gb195) (by (with_reducible repeat (first|refine blk_drewN ?_ _|refine blk_drew ?_|refine blk_alloc ?_ _));exact BK195.out) hb);have n2_:=Ak (blk_below (g:=gb196) (by (with_reducible repeat (first|refine blk_drewN ?_ _|refine blk_drew ?_|refine blk_alloc ?_ _));exact BK196.out) hb);have n3_:=Ak (below_step (by repeat (first|(with_reducible first|exact HB.out|apply below_alloc|apply pw_below_drewN|apply below_drew1|refine below_set ?_ GE195.out|refine below_set ?_ GE196.out)|exact HB.out)) hb);have n4_:=Ak (hbox);have n5_:=Ak ((by rw [hg];exact (below_size (by repeat (first|(with_reducible first|exact HB.out|apply below_alloc|apply pw_below_drewN|apply below_drew1|refine below_set ?_ GE195.out|refine below_set ?_ GE196.out)|exact HB.out))):w.heap.size≤gb197));have n6_:=Ak ((by rw [hg];exact (below_size (by repeat (first|(with_reducible first|exact HB.out|apply below_alloc|apply pw_below_drewN|apply below_drew1|refine below_set ?_ GE195.out|refine below_set ?_ GE196.out)|exact HB.out))):w.heap.size≤gb197));have n7_:=Ak ((by rw [hg];exact Nat.ne_of_lt (blk_lt (g:=gb195) (by (with_reducible repeat (first|refine blk_drewN ?_ _|refine blk_drew ?_|refine blk_alloc ?_ _));exact BK195.out)):gb195≠gb197));have n8_:=Ak ((by rw [hg];exact Nat.ne_of_gt (blk_lt (g:=gb195) (by (with_reducible repeat (first|refine blk_drewN ?_ _|refine blk_drew ?_|refine blk_alloc ?_ _));exact BK195.out)):gb197≠gb195));have n9_:=Ak ((by rw [hg];exact Nat.ne_of_lt (blk_lt (g:=gb196) (by (with_reducible repeat (first|refine blk_drewN ?_ _|refine blk_drew ?_|refine blk_alloc ?_ _));exact BK196.out)):gb196≠gb197));have n10_:=Ak ((by rw [hg];exact Nat.ne_of_gt (blk_lt (g:=gb196) (by (with_reducible repeat (first|refine blk_drewN ?_ _|refine blk_drew ?_|refine blk_alloc ?_ _));exact BK196.out)):gb197≠gb196));clear HO0_0;clear BK195;clear BK196;clear HB;have HO0_0:=n0_;have BK195:=n1_;have BK196:=n2_;have HB:=n3_;have BK197:=n4_;have GW197:=n5_;have GE197:=n6_;have NB195_197:=n7_;have NB197_195:=n8_;have NB196_197:=n9_;have NB197_196:=n10_;clear n0_ n1_ n2_ n3_ n4_ n5_ n6_ n7_ n8_ n9_ n10_;clear hb hbox hg;have hnb5:=NB197_195.out;have hnc5:=NB195_197.out;have hnb6:=NB197_196.out;have hnc6:=NB196_197.out;obtain ⟨hcz7_0,hfz7_0⟩:=bk1 BK197.out))
 go_loopg [4] k (fun kq v4 w'=>∃ (x4_1:Int) (x198000_1:List (S44)) (u198000:Value),v4=.int .i64 x4_1∧Aside0 (spec_l2Copy.l0 kq x4_1 l0_0 x198000_1=some r)∧Aside0 (kq≤k)∧Aside0 (Kd.V k44 44 w' w.heap.size (fun k_=>(P0_0_ k_∨w.heap.size≤k_)∧some k_≠(u198000:Value).ownBlock∧k_≠gb195∧k_≠gb196∧k_≠gb197) (.slice A0_0 l0_0.length c0_0) l0_0)∧Aside0 (Kd.N k44 44 w' w.heap.size (fun k_=>(P0_0_ k_∨w.heap.size≤k_)∧k_≠gb195∧k_≠gb196∧k_≠gb197) u198000 x198000_1)∧Aside0 (w'.heap[gb195]?=some (.cells #[(.slice A0_0 l0_0.length c0_0)] 29 (0,0)))∧Aside0 (w'.heap[gb196]?=some (.cells #[(.slice none 0 0)] 29 (0,0)))∧Aside0 (w'.heap[gb197]?=some (.cells #[u198000] 29 (0,0)))∧Aside0 (Below w.heap.size w w'))
 case atStart=>exact ⟨(0),(([]:List (S44))),(.slice none 0 0),(by first|rfl|(simp;done)|(simp [*];done)),H',⟨Nat.le_refl _⟩,⟨by (with_reducible repeat (first|apply Kd.V_alloc|apply Kd.V_drewN|apply Kd.V_drew));exact Kd.V_mono (Kd.V_far (p:=⟨gb197,0,none⟩) (Kd.V_mono HO0_0.out (fun k_ hk=>(⟨hk,hk.2⟩:_∧k_≠gb197))) (fun _ hk=>hk.2) (.slice none 0 0)) (fun _ hk=>⟨hk.1.1.1.1,⟨(by simp [Value.ownBlock]),⟨hk.1.1.1.2,⟨hk.1.1.2,hk.1.2⟩⟩⟩⟩)⟩,⟨by first|exact Kd.S_nil _ _ _ _ _|exact Kd.N_nil _ _ _ _ _|exact Kd.V_nil _ _ _ _ _|exact Kd.Q_nil _ _ _ _ _|exact Kd.R_nil _ _ _ _ _⟩,⟨by (with_reducible repeat (first|refine blk_drewN ?_ _|refine blk_drew ?_|refine blk_alloc ?_ _));refine blk_far ?_ NB195_197.out _;(with_reducible repeat (first|refine blk_drewN ?_ _|refine blk_drew ?_|refine blk_alloc ?_ _));exact BK195.out⟩,⟨by (with_reducible repeat (first|refine blk_drewN ?_ _|refine blk_drew ?_|refine blk_alloc ?_ _));refine blk_far ?_ NB196_197.out _;(with_reducible repeat (first|refine blk_drewN ?_ _|refine blk_drew ?_|refine blk_alloc ?_ _));exact BK196.out⟩,⟨by (with_reducible repeat (first|refine blk_drewN ?_ _|refine blk_drew ?_|refine blk_alloc ?_ _));refine blk_put (cs:=#[.slice none 0 0]) ?_ 0 _ rfl;(with_reducible repeat (first|refine blk_drewN ?_ _|refine blk_drew ?_|refine blk_alloc ?_ _));exact BK197.out⟩,⟨by repeat (first|(with_reducible first|exact HB.out|apply below_alloc|apply pw_below_drewN|apply below_drew1|refine below_set ?_ GE195.out|refine below_set ?_ GE196.out|refine below_set ?_ GE197.out)|exact HB.out)⟩⟩
 case round =>
  clear H';(try clear p2);(try clear c5);(try clear c6);(try clear c7);(try clear hcz7_0);(try clear hfz7_0)
  obtain ⟨x4_1,x198000_1,u198000,rfl,HA,HK1,HO_196000,HO_198000,BK195,BK196,BK197,HB⟩:=hrel
  cases gk with
  | zero=>exact absurd HA.out (by simp [spec_l2Copy.l0])
  | succ k1 =>
   have H:=HA.out
   clear HA
   simp only [spec_l2Copy.l0] at H
   by_cases c8:x4_1<(l0_0.length:Int)
   ·rw [if_pos c8] at H
    have c8b0:decide (x4_1<(l0_0.length:Int))=true:=decide_eq_true c8
    clear c8
    by_cases c9:0≤x4_1
    ·rw [if_pos c9] at H
     have c9b0:decide (0≤x4_1)=true:=decide_eq_true c9
     clear c9
     by_cases c10:x198000_1.length<837723144972
     ·rw [if_pos c10] at H
      have LMc10:=Ak c10;clear c10
      obtain ⟨y199,hy199⟩:∃ y_:List (S44),y_=(x198000_1++[(⟨(rd_T44 l0_0 x4_1).f0,(rd_T44 l0_0 x4_1).f1,(rd_T44 l0_0 x4_1).f2,(rd_T44 l0_0 x4_1).f3,(rd_T44 l0_0 x4_1).f4,(rd_T44 l0_0 x4_1).f5,(rd_T44 l0_0 x4_1).f6,(rd_T44 l0_0 x4_1).f7,(rd_T44 l0_0 x4_1).f8,(rd_T44 l0_0 x4_1).f9⟩:S44)]):=⟨_,rfl⟩
      replace H:(spec_l2Copy.l0 k1 (wrap64 (x4_1+1)) l0_0 y199)=some r:=by first|(rw [hy199];with_reducible exact H)|(have H2_:=(Option.bind_some _ _).symm.trans H;rw [hy199];with_reducible exact H2_)|(have H2_:=(Option.bind_some _ _).symm.trans H;with_reducible exact H2_)|with_reducible exact H|(rw [hy199];exact H)|exact H
      have Ny199:=Ak hy199;clear hy199
      have H':=Ak H
      clear H
      have hnb11:=NB195_196.out
      have hnc11:=NB196_195.out
      have hnb12:=NB195_197.out
      have hnc12:=NB197_195.out
      obtain ⟨hcz13_0,hfz13_0⟩:=bk1 BK195.out
      try go_wp2
      have n0_:=Ak (Kd.V_drew HO_196000.out)
      have n1_:=Ak (Kd.N_drew HO_198000.out)
      have n2_:=Ak (blk_drew BK195.out)
      have n3_:=Ak (blk_drew BK196.out)
      have n4_:=Ak (blk_drew BK197.out)
      have n5_:=Ak (below_drew1 HB.out)
      clear HO_196000;clear HO_198000;clear BK195;clear BK196;clear BK197;clear HB;have HO_196000:=n0_;have HO_198000:=n1_;have BK195:=n2_;have BK196:=n3_;have BK197:=n4_;have HB:=n5_;clear n0_ n1_ n2_ n3_ n4_ n5_
      have p198:0≤(x4_1:Int):=of_decide_eq_true (by first|(with_reducible assumption)|assumption)
      have q198:x4_1<(l0_0.length:Int):=of_decide_eq_true (by first|(with_reducible assumption)|assumption)
      obtain ⟨ad198,A198_3,c198_3,A198_4,c198_4,A198_5,c198_5,A198_8,c198_8,A198_9,c198_9,e198,hx198_0,hx198_1,hx198_2,hx198_3,hx198_4,hx198_5,hx198_6,hx198_7,hx198_8,hx198_9,hl198_3,hi198_3,hl198_4,hi198_4,hl198_5,hi198_5,hl198_8,hi198_8,hl198_9,hi198_9⟩:=at_T44 (Kd.V_reads' HO_196000.out).2.2 x4_1 p198 q198
      cases e198
      obtain ⟨ce198,hce198,hMe198,hcc198⟩:=Kd.V_get HO_196000.out z44 x4_1 p198 (by first|exact q198|exact of_decide_eq_true (by first|(with_reducible assumption)|assumption)|(have e_:=(Kd.V_reads' HO_196000.out).1;omega))
      obtain ⟨ua198_3,uc198_3,ua198_4,uc198_4,ua198_5,uc198_5,ua198_8,uc198_8,ua198_9,uc198_9,rfl,ul198_3,ge198_3,ul198_4,ge198_4,ul198_5,ge198_5,ul198_8,ge198_8,ul198_9,ge198_9⟩:=k44_openF hMe198
      have hv198_3:=hcc198 3 _ rfl
      rw [add_field _ _ 3 (by omega)] at hv198_3
      replace hv198_3:=Option.some.inj (hv198_3.symm.trans hx198_3)
      injection hv198_3 with hva_ hvn_ hvc_
      rw [hva_] at ge198_3
      rw [hvc_] at ul198_3
      have HL198_3:=Ak (show Kd.V (Kd.int .u32) 78 _ w.heap.size _ _ ((rd_T44 l0_0 x4_1).f3) from Kd.V_mk ul198_3 ge198_3)
      clear hva_ hvn_ hvc_ ge198_3 ul198_3
      have hv198_4:=hcc198 4 _ rfl
      rw [add_field _ _ 4 (by omega)] at hv198_4
      replace hv198_4:=Option.some.inj (hv198_4.symm.trans hx198_4)
      injection hv198_4 with hva_ hvn_ hvc_
      rw [hva_] at ge198_4
      rw [hvc_] at ul198_4
      have HL198_4:=Ak (show Kd.V k85 85 _ w.heap.size _ _ ((rd_T44 l0_0 x4_1).f4) from Kd.V_mk ul198_4 ge198_4)
      clear hva_ hvn_ hvc_ ge198_4 ul198_4
      have hv198_5:=hcc198 5 _ rfl
      rw [add_field _ _ 5 (by omega)] at hv198_5
      replace hv198_5:=Option.some.inj (hv198_5.symm.trans hx198_5)
      injection hv198_5 with hva_ hvn_ hvc_
      rw [hva_] at ge198_5
      rw [hvc_] at ul198_5
      have HL198_5:=Ak (show Kd.V k89 89 _ w.heap.size _ _ ((rd_T44 l0_0 x4_1).f5) from Kd.V_mk ul198_5 ge198_5)
      clear hva_ hvn_ hvc_ ge198_5 ul198_5
      have hv198_8:=hcc198 8 _ rfl
      rw [add_field _ _ 8 (by omega)] at hv198_8
      replace hv198_8:=Option.some.inj (hv198_8.symm.trans hx198_8)
      injection hv198_8 with hva_ hvn_ hvc_
      rw [hva_] at ge198_8
      rw [hvc_] at ul198_8
      have HL198_8:=Ak (show Kd.V (Kd.int .i64) 3 _ w.heap.size _ _ ((rd_T44 l0_0 x4_1).f8) from Kd.V_mk ul198_8 ge198_8)
      clear hva_ hvn_ hvc_ ge198_8 ul198_8
      have hv198_9:=hcc198 9 _ rfl
      rw [add_field _ _ 9 (by omega)] at hv198_9
      replace hv198_9:=Option.some.inj (hv198_9.symm.trans hx198_9)
      injection hv198_9 with hva_ hvn_ hvc_
      rw [hva_] at ge198_9
      rw [hvc_] at ul198_9
      have HL198_9:=Ak (show Kd.V Kd.string 9 _ w.heap.size _ _ ((rd_T44 l0_0 x4_1).f9) from Kd.V_mk ul198_9 ge198_9)
      clear hva_ hvn_ hvc_ ge198_9 ul198_9;clear hcc198 hce198;have HR198_3:=Ak hi198_3;have HC198_3:=Ak hl198_3;clear hi198_3 hl198_3;have HR198_4:=Ak hi198_4;have HC198_4:=Ak hl198_4;clear hi198_4 hl198_4;have HR198_5:=Ak hi198_5;have HC198_5:=Ak hl198_5;clear hi198_5 hl198_5;have HR198_8:=Ak hi198_8;have HC198_8:=Ak hl198_8;clear hi198_8 hl198_8;have HR198_9:=Ak hi198_9
      have HC198_9:=Ak hl198_9;clear hi198_9 hl198_9
      replace p198:=eq_true p198
      replace q198:=eq_true q198
      refine start_ (n:=11) (S:=fun w'=>w'.cell? ⟨gb197,0,none⟩=some (u198000)∧w'.cell? ⟨gb195,0,none⟩=some (.slice (some ad198) l0_0.length c0_0)∧w'.cell? (ad198.add ((x4_1).toNat*10))=some (.int .i64 ((rd_T44 l0_0 x4_1).f0))∧w'.cell? ⟨(ad198.add ((x4_1).toNat*10)).block,(ad198.add ((x4_1).toNat*10)).off+1,none⟩=some (.bool ((rd_T44 l0_0 x4_1).f1))∧w'.cell? ⟨(ad198.add ((x4_1).toNat*10)).block,(ad198.add ((x4_1).toNat*10)).off+2,none⟩=some (.int .i64 ((rd_T44 l0_0 x4_1).f2))∧w'.cell? ⟨(ad198.add ((x4_1).toNat*10)).block,(ad198.add ((x4_1).toNat*10)).off+3,none⟩=some (.slice A198_3 ((rd_T44 l0_0 x4_1).f3).length c198_3)∧w'.cell? ⟨(ad198.add ((x4_1).toNat*10)).block,(ad198.add ((x4_1).toNat*10)).off+4,none⟩=some (.slice A198_4 ((rd_T44 l0_0 x4_1).f4).length c198_4)∧w'.cell? ⟨(ad198.add ((x4_1).toNat*10)).block,(ad198.add ((x4_1).toNat*10)).off+5,none⟩=some (.slice A198_5 ((rd_T44 l0_0 x4_1).f5).length c198_5)∧w'.cell? ⟨(ad198.add ((x4_1).toNat*10)).block,(ad198.add ((x4_1).toNat*10)).off+6,none⟩=some (.int .i64 ((rd_T44 l0_0 x4_1).f6))∧w'.cell? ⟨(ad198.add ((x4_1).toNat*10)).block,(ad198.add ((x4_1).toNat*10)).off+7,none⟩=some (.string ((rd_T44 l0_0 x4_1).f7))∧w'.cell? ⟨(ad198.add ((x4_1).toNat*10)).block,(ad198.add ((x4_1).toNat*10)).off+8,none⟩=some (.slice A198_8 ((rd_T44 l0_0 x4_1).f8).length c198_8)∧w'.cell? ⟨(ad198.add ((x4_1).toNat*10)).block,(ad198.add ((x4_1).toNat*10)).off+9,none⟩=some (.slice A198_9 ((rd_T44 l0_0 x4_1).f9).length c198_9)) (ds:=[8,10]) #[false,false,false,false,false,false,false,false,false,false,false] (by kernel_rfl) rfl rfl ⟨(blk_cell BK197.out 0).trans rfl,(blk_cell BK195.out 0).trans rfl,hx198_0,hx198_1,hx198_2,hx198_3,hx198_4,hx198_5,hx198_6,hx198_7,hx198_8,hx198_9⟩ (fun hHeld=>?_);refine with_tabW spec_l2Copy.tab5 spec_l2Copy.bits5 (fun HT_ HW_=>?_)
      generalize wr.drew=w14 at HO_196000 HO_198000 BK195 BK196 BK197 HB HL198_3 HL198_4 HL198_5 HL198_8 HL198_9 HR198_3 HR198_4 HR198_5 HR198_8 HR198_9 hx198_0 hx198_1 hx198_2 hx198_3 hx198_4 hx198_5 hx198_6 hx198_7 hx198_8 hx198_9 hHeld ⊢
      refine pure_ (i:=0) (N:=some 13) (v:=?_) (a':=?_) #[true,false,false,false,false,false,false,false,false,false,false] rfl rfl (any_of HT_.out (by kernel_rfl)) (fun _ _ _ h=>h) (Or.inl ⟨by rfl,?_⟩) ?_ ?_
      rotate_left
      ·intro w'
       go_simp
       with_reducible rfl
      rotate_left
      ·simp only [Act.put,List.setIfInBounds_toArray,List.set_cons_zero,List.set_cons_succ,i64_w,i32_w]
       rfl
      refine pure_ (i:=2) (N:=some 15) (v:=?_) (a':=?_) #[true,false,true,false,false,false,false,false,false,false,false] rfl rfl (any_of HT_.out (by kernel_rfl)) (fun _ _ _ h=>h) (Or.inl ⟨by rfl,?_⟩) ?_ ?_
      rotate_left
      ·intro w'
       go_simp
       with_reducible rfl
      rotate_left
      ·simp only [Act.put,List.setIfInBounds_toArray,List.set_cons_zero,List.set_cons_succ,i64_w,i32_w]
       rfl
      refine pure_ (i:=4) (N:=some 17) (v:=?_) (a':=?_) #[true,false,true,false,true,false,false,false,false,false,false] rfl rfl (any_of HT_.out (by kernel_rfl)) (fun _ _ _ h=>h) (Or.inl ⟨by rfl,?_⟩) ?_ ?_
      rotate_left
      ·intro w'
       go_simp
       with_reducible rfl
      rotate_left
      ·simp only [Act.put,List.setIfInBounds_toArray,List.set_cons_zero,List.set_cons_succ,i64_w,i32_w]
       rfl
      refine take_ (i:=1) (N:=some 14) (v:=?_) (a':=?_) #[true,true,true,false,true,false,false,false,false,false,false] rfl rfl (take_ofW HT_.out HW_.out (by kernel_rfl)) (fun _ _ _ h=>h) (Or.inl ⟨by rfl,?_⟩) hHeld ?_ ?_
      rotate_left
      ·rintro w' ⟨s0,s1,s2,s3,s4,s5,s6,s7,s8,s9,s10,s11⟩
       go_simp
       with_reducible rfl
      rotate_left
      ·simp only [Act.put,List.setIfInBounds_toArray,List.set_cons_zero,List.set_cons_succ,i64_w,i32_w]
       rfl
      refine take_ (i:=3) (N:=some 16) (v:=?_) (a':=?_) #[true,true,true,true,true,false,false,false,false,false,false] rfl rfl (take_ofW HT_.out HW_.out (by kernel_rfl)) (fun _ _ _ h=>h) (Or.inl ⟨by rfl,?_⟩) hHeld ?_ ?_
      rotate_left
      ·rintro w' ⟨s0,s1,s2,s3,s4,s5,s6,s7,s8,s9,s10,s11⟩
       go_simp
       with_reducible rfl
      rotate_left
      ·simp only [Act.put,List.setIfInBounds_toArray,List.set_cons_zero,List.set_cons_succ,i64_w,i32_w]
       rfl
      refine pure_ (i:=5) (N:=some 18) (v:=?_) (a':=?_) #[true,true,true,true,true,true,false,false,false,false,false] rfl rfl (any_of HT_.out (by kernel_rfl)) (fun _ _ _ h=>h) (Or.inl ⟨by rfl,?_⟩) ?_ ?_
      rotate_left
      ·intro w'
       go_simp
       with_reducible rfl
      rotate_left
      ·simp only [Act.put,List.setIfInBounds_toArray,List.set_cons_zero,List.set_cons_succ,i64_w,i32_w]
       rfl
      refine take_ (i:=6) (N:=some 19) (v:=?_) (a':=?_) #[true,true,true,true,true,true,true,false,false,false,false] rfl rfl (take_ofW HT_.out HW_.out (by kernel_rfl)) (fun _ _ _ h=>h) (Or.inl ⟨by rfl,?_⟩) hHeld ?_ ?_
      rotate_left
      ·rintro w' ⟨s0,s1,s2,s3,s4,s5,s6,s7,s8,s9,s10,s11⟩
       go_simp
       with_reducible rfl
      rotate_left
      ·simp only [Act.put,List.setIfInBounds_toArray,List.set_cons_zero,List.set_cons_succ,i64_w,i32_w]
       rfl
      refine one_ (i:=7) (N:=some 20) #[true,true,true,true,true,true,true,true,false,false,false] rfl rfl (one_of HT_.out (by kernel_rfl)) (by decide) (fun K hK=>?_)
      refine value_ (w1:=?_) (v:=?_) (by rfl) rfl ?_ ?_
      rotate_left 2
      ·go_simp
       constructor
       ·rfl
       ·rfl
      refine hK.out _ _ ⟨(blk_cell (blk_alloc BK197.out _) 0).trans rfl,(blk_cell (blk_alloc BK195.out _) 0).trans rfl,(World.cell?_alloc_lt _ _ _ (World.block_lt_of_cell? _ _ (hHeld.2.2.1))).trans (hHeld.2.2.1),(World.cell?_alloc_lt _ _ _ (World.block_lt_of_cell? _ _ (hHeld.2.2.2.1))).trans (hHeld.2.2.2.1),(World.cell?_alloc_lt _ _ _ (World.block_lt_of_cell? _ _ (hHeld.2.2.2.2.1))).trans (hHeld.2.2.2.2.1),(World.cell?_alloc_lt _ _ _ (World.block_lt_of_cell? _ _ (hHeld.2.2.2.2.2.1))).trans (hHeld.2.2.2.2.2.1),(World.cell?_alloc_lt _ _ _ (World.block_lt_of_cell? _ _ (hHeld.2.2.2.2.2.2.1))).trans (hHeld.2.2.2.2.2.2.1),(World.cell?_alloc_lt _ _ _ (World.block_lt_of_cell? _ _ (hHeld.2.2.2.2.2.2.2.1))).trans (hHeld.2.2.2.2.2.2.2.1),(World.cell?_alloc_lt _ _ _ (World.block_lt_of_cell? _ _ (hHeld.2.2.2.2.2.2.2.2.1))).trans (hHeld.2.2.2.2.2.2.2.2.1),(World.cell?_alloc_lt _ _ _ (World.block_lt_of_cell? _ _ (hHeld.2.2.2.2.2.2.2.2.2.1))).trans (hHeld.2.2.2.2.2.2.2.2.2.1),(World.cell?_alloc_lt _ _ _ (World.block_lt_of_cell? _ _ (hHeld.2.2.2.2.2.2.2.2.2.2.1))).trans (hHeld.2.2.2.2.2.2.2.2.2.2.1),(World.cell?_alloc_lt _ _ _ (World.block_lt_of_cell? _ _ (hHeld.2.2.2.2.2.2.2.2.2.2.2))).trans (hHeld.2.2.2.2.2.2.2.2.2.2.2)⟩ (fun hHeld=>?_)
      clear hK K
      refine norm_ (a':=?_) ?_ ?_
      rotate_left
      ·show Act.put _ (some 20) _=_
       simp only [Act.put,List.setIfInBounds_toArray,List.set_cons_zero,List.set_cons_succ,i64_w,i32_w]
       rfl
      refine last_ (i:=8) (N:=some 21) #[true,true,true,true,true,true,true,true,true,false,false] rfl rfl (one_of HT_.out (by kernel_rfl)) (by decide) (fun K hK=>?_)
      refine Kd.N_append_step k44 (w0:=w) w.heap.size (by rfl) (.tmp 14) (.tmp 20) 27 44 (.agg #[(.int .i64 0),(.bool false),(.int .i64 0),(.slice none 0 0),(.slice none 0 0),(.slice none 0 0),(.int .i64 0),(.string ⟨#[]⟩),(.slice none 0 0),(.slice none 0 0)]) 168 rfl Try.underlying27 info44 rfl (by decide) (by omega) u198000 x198000_1 (⟨(rd_T44 l0_0 x4_1).f0,(rd_T44 l0_0 x4_1).f1,(rd_T44 l0_0 x4_1).f2,(rd_T44 l0_0 x4_1).f3,(rd_T44 l0_0 x4_1).f4,(rd_T44 l0_0 x4_1).f5,(rd_T44 l0_0 x4_1).f6,(rd_T44 l0_0 x4_1).f7,(rd_T44 l0_0 x4_1).f8,(rd_T44 l0_0 x4_1).f9⟩:S44) [.int .i64 ((rd_T44 l0_0 x4_1).f0),.bool ((rd_T44 l0_0 x4_1).f1),.int .i64 ((rd_T44 l0_0 x4_1).f2),.slice A198_3 ((rd_T44 l0_0 x4_1).f3).length c198_3,.slice A198_4 ((rd_T44 l0_0 x4_1).f4).length c198_4,.slice A198_5 ((rd_T44 l0_0 x4_1).f5).length c198_5,.int .i64 ((rd_T44 l0_0 x4_1).f6),.string ((rd_T44 l0_0 x4_1).f7),.slice A198_8 ((rd_T44 l0_0 x4_1).f8).length c198_8,.slice A198_9 ((rd_T44 l0_0 x4_1).f9).length c198_9] (fun k_=>(P0_0_ k_∨w.heap.size≤k_)∧k_≠gb195∧k_≠gb196∧k_≠gb197) (fun k_=>((fun k_=>(P0_0_ k_∨w.heap.size≤k_)∧k_≠gb195∧k_≠gb196∧k_≠gb197)) k_∧some k_≠(u198000:Value).ownBlock) rfl rfl ?aP (fun _ hk=>hk) ?aF ?aO ?aB ?aS ?aL ?_
      (case aP=>exact (k44_mkF _ _ (⟨(rd_T44 l0_0 x4_1).f0,(rd_T44 l0_0 x4_1).f1,(rd_T44 l0_0 x4_1).f2,(rd_T44 l0_0 x4_1).f3,(rd_T44 l0_0 x4_1).f4,(rd_T44 l0_0 x4_1).f5,(rd_T44 l0_0 x4_1).f6,(rd_T44 l0_0 x4_1).f7,(rd_T44 l0_0 x4_1).f8,(rd_T44 l0_0 x4_1).f9⟩:S44) (Kd.V_reads' (Kd.V_mono (ok':=(fun k_=>((fun k_=>(P0_0_ k_∨w.heap.size≤k_)∧k_≠gb195∧k_≠gb196∧k_≠gb197)) k_∧some k_≠(u198000:Value).ownBlock)) (HL198_3.out) (fun k_ hk=>⟨⟨hk.1,⟨hk.2.2.1,⟨hk.2.2.2.1,hk.2.2.2.2⟩⟩⟩,hk.2.1⟩))).2.1 (Kd.V_F (Kd.V_mono (ok':=(fun k_=>((fun k_=>(P0_0_ k_∨w.heap.size≤k_)∧k_≠gb195∧k_≠gb196∧k_≠gb197)) k_∧some k_≠(u198000:Value).ownBlock)) (HL198_3.out) (fun k_ hk=>⟨⟨hk.1,⟨hk.2.2.1,⟨hk.2.2.2.1,hk.2.2.2.2⟩⟩⟩,hk.2.1⟩))) (Kd.V_reads' (Kd.V_mono (ok':=(fun k_=>((fun k_=>(P0_0_ k_∨w.heap.size≤k_)∧k_≠gb195∧k_≠gb196∧k_≠gb197)) k_∧some k_≠(u198000:Value).ownBlock)) (HL198_4.out) (fun k_ hk=>⟨⟨hk.1,⟨hk.2.2.1,⟨hk.2.2.2.1,hk.2.2.2.2⟩⟩⟩,hk.2.1⟩))).2.1 (Kd.V_F (Kd.V_mono (ok':=(fun k_=>((fun k_=>(P0_0_ k_∨w.heap.size≤k_)∧k_≠gb195∧k_≠gb196∧k_≠gb197)) k_∧some k_≠(u198000:Value).ownBlock)) (HL198_4.out) (fun k_ hk=>⟨⟨hk.1,⟨hk.2.2.1,⟨hk.2.2.2.1,hk.2.2.2.2⟩⟩⟩,hk.2.1⟩))) (Kd.V_reads' (Kd.V_mono (ok':=(fun k_=>((fun k_=>(P0_0_ k_∨w.heap.size≤k_)∧k_≠gb195∧k_≠gb196∧k_≠gb197)) k_∧some k_≠(u198000:Value).ownBlock)) (HL198_5.out) (fun k_ hk=>⟨⟨hk.1,⟨hk.2.2.1,⟨hk.2.2.2.1,hk.2.2.2.2⟩⟩⟩,hk.2.1⟩))).2.1 (Kd.V_F (Kd.V_mono (ok':=(fun k_=>((fun k_=>(P0_0_ k_∨w.heap.size≤k_)∧k_≠gb195∧k_≠gb196∧k_≠gb197)) k_∧some k_≠(u198000:Value).ownBlock)) (HL198_5.out) (fun k_ hk=>⟨⟨hk.1,⟨hk.2.2.1,⟨hk.2.2.2.1,hk.2.2.2.2⟩⟩⟩,hk.2.1⟩))) (Kd.V_reads' (Kd.V_mono (ok':=(fun k_=>((fun k_=>(P0_0_ k_∨w.heap.size≤k_)∧k_≠gb195∧k_≠gb196∧k_≠gb197)) k_∧some k_≠(u198000:Value).ownBlock)) (HL198_8.out) (fun k_ hk=>⟨⟨hk.1,⟨hk.2.2.1,⟨hk.2.2.2.1,hk.2.2.2.2⟩⟩⟩,hk.2.1⟩))).2.1 (Kd.V_F (Kd.V_mono (ok':=(fun k_=>((fun k_=>(P0_0_ k_∨w.heap.size≤k_)∧k_≠gb195∧k_≠gb196∧k_≠gb197)) k_∧some k_≠(u198000:Value).ownBlock)) (HL198_8.out) (fun k_ hk=>⟨⟨hk.1,⟨hk.2.2.1,⟨hk.2.2.2.1,hk.2.2.2.2⟩⟩⟩,hk.2.1⟩))) (Kd.V_reads' (Kd.V_mono (ok':=(fun k_=>((fun k_=>(P0_0_ k_∨w.heap.size≤k_)∧k_≠gb195∧k_≠gb196∧k_≠gb197)) k_∧some k_≠(u198000:Value).ownBlock)) (HL198_9.out) (fun k_ hk=>⟨⟨hk.1,⟨hk.2.2.1,⟨hk.2.2.2.1,hk.2.2.2.2⟩⟩⟩,hk.2.1⟩))).2.1 (Kd.V_F (Kd.V_mono (ok':=(fun k_=>((fun k_=>(P0_0_ k_∨w.heap.size≤k_)∧k_≠gb195∧k_≠gb196∧k_≠gb197)) k_∧some k_≠(u198000:Value).ownBlock)) (HL198_9.out) (fun k_ hk=>⟨⟨hk.1,⟨hk.2.2.1,⟨hk.2.2.2.1,hk.2.2.2.2⟩⟩⟩,hk.2.1⟩)))))
      (case aB=>exact (by repeat (first|(with_reducible first|exact HB.out|apply below_alloc|apply pw_below_drewN|apply below_drew1|refine below_set ?_ GE195.out|refine below_set ?_ GE196.out|refine below_set ?_ GE197.out)|exact HB.out)))
      (case aF=>exact (fun k_ hk=>⟨(.inr (Nat.le_trans (below_size (by repeat (first|(with_reducible first|exact HB.out|apply below_alloc|apply pw_below_drewN|apply below_drew1|refine below_set ?_ GE195.out|refine below_set ?_ GE196.out|refine below_set ?_ GE197.out)|exact HB.out))) hk)),Kd.freshB (g:=gb195) (by (with_reducible repeat (first|refine blk_drewN ?_ _|refine blk_drew ?_|refine blk_alloc ?_ _));exact BK195.out) k_ hk,Kd.freshB (g:=gb196) (by (with_reducible repeat (first|refine blk_drewN ?_ _|refine blk_drew ?_|refine blk_alloc ?_ _));exact BK196.out) k_ hk,Kd.freshB (g:=gb197) (by (with_reducible repeat (first|refine blk_drewN ?_ _|refine blk_drew ?_|refine blk_alloc ?_ _));exact BK197.out) k_ hk⟩))
      (case aO=>exact (by (with_reducible repeat (first|apply Kd.N_alloc|apply Kd.N_drewN|apply Kd.N_drew));exact HO_198000.out))
      (case aS=>exact (below_size (by repeat (first|(with_reducible first|exact HB.out|apply below_alloc|apply pw_below_drewN|apply below_drew1|refine below_set ?_ GE195.out|refine below_set ?_ GE196.out|refine below_set ?_ GE197.out)|exact HB.out))))
      (case aL=>have:=LMc10.out;omega)
      intro v200 w15 ho hb hg hat
      rw [← Ny199.out] at ho
      have n0_:=Ak (Kd.V_afterv (ok:=(fun k_=>(P0_0_ k_∨w.heap.size≤k_)∧k_≠gb195∧k_≠gb196∧k_≠gb197)) (by (with_reducible repeat (first|apply Kd.V_alloc|apply Kd.V_drewN|apply Kd.V_drew));exact Kd.V_mono HO_196000.out (fun _ hk=>⟨⟨hk.1,⟨hk.2.2.1,⟨hk.2.2.2.1,hk.2.2.2.2⟩⟩⟩,hk.2.1⟩)) hg hat)
      have n1_:=Ak (blk_grown (g:=gb195) (by (with_reducible repeat (first|refine blk_drewN ?_ _|refine blk_drew ?_|refine blk_alloc ?_ _));exact BK195.out) hg (Kd.N_ne HO_198000.out BK195.out (by decide)))
      have n2_:=Ak (blk_grown (g:=gb196) (by (with_reducible repeat (first|refine blk_drewN ?_ _|refine blk_drew ?_|refine blk_alloc ?_ _));exact BK196.out) hg (Kd.N_ne HO_198000.out BK196.out (by decide)))
      have n3_:=Ak (blk_grown (g:=gb197) (by (with_reducible repeat (first|refine blk_drewN ?_ _|refine blk_drew ?_|refine blk_alloc ?_ _));exact BK197.out) hg (Kd.N_ne HO_198000.out BK197.out (by decide)))
      have n4_:=Ak (Kd.V_afterv (ok:=(fun k_=>(P0_0_ k_∨w.heap.size≤k_)∧k_≠gb195∧k_≠gb196∧k_≠gb197)) (by (with_reducible repeat (first|apply Kd.V_alloc|apply Kd.V_drewN|apply Kd.V_drew));exact Kd.V_mono HL198_3.out (fun _ hk=>⟨⟨hk.1,⟨hk.2.2.1,⟨hk.2.2.2.1,hk.2.2.2.2⟩⟩⟩,hk.2.1⟩)) hg hat)
      have n5_:=Ak (Kd.V_afterv (ok:=(fun k_=>(P0_0_ k_∨w.heap.size≤k_)∧k_≠gb195∧k_≠gb196∧k_≠gb197)) (by (with_reducible repeat (first|apply Kd.V_alloc|apply Kd.V_drewN|apply Kd.V_drew));exact Kd.V_mono HL198_4.out (fun _ hk=>⟨⟨hk.1,⟨hk.2.2.1,⟨hk.2.2.2.1,hk.2.2.2.2⟩⟩⟩,hk.2.1⟩)) hg hat)
      have n6_:=Ak (Kd.V_afterv (ok:=(fun k_=>(P0_0_ k_∨w.heap.size≤k_)∧k_≠gb195∧k_≠gb196∧k_≠gb197)) (by (with_reducible repeat (first|apply Kd.V_alloc|apply Kd.V_drewN|apply Kd.V_drew));exact Kd.V_mono HL198_5.out (fun _ hk=>⟨⟨hk.1,⟨hk.2.2.1,⟨hk.2.2.2.1,hk.2.2.2.2⟩⟩⟩,hk.2.1⟩)) hg hat)
      have n7_:=Ak (Kd.V_afterv (ok:=(fun k_=>(P0_0_ k_∨w.heap.size≤k_)∧k_≠gb195∧k_≠gb196∧k_≠gb197)) (by (with_reducible repeat (first|apply Kd.V_alloc|apply Kd.V_drewN|apply Kd.V_drew));exact Kd.V_mono HL198_8.out (fun _ hk=>⟨⟨hk.1,⟨hk.2.2.1,⟨hk.2.2.2.1,hk.2.2.2.2⟩⟩⟩,hk.2.1⟩)) hg hat)
      have n8_:=Ak (Kd.V_afterv (ok:=(fun k_=>(P0_0_ k_∨w.heap.size≤k_)∧k_≠gb195∧k_≠gb196∧k_≠gb197)) (by (with_reducible repeat (first|apply Kd.V_alloc|apply Kd.V_drewN|apply Kd.V_drew));exact Kd.V_mono HL198_9.out (fun _ hk=>⟨⟨hk.1,⟨hk.2.2.1,⟨hk.2.2.2.1,hk.2.2.2.2⟩⟩⟩,hk.2.1⟩)) hg hat)
      have n9_:=Ak (hb)
      have n10_:=Ak (ho)
      clear HO_196000;clear BK195;clear BK196;clear BK197;clear HL198_3;clear HL198_4;clear HL198_5;clear HL198_8;clear HL198_9;clear HB;clear HO_198000;have HO_196000:=n0_;have BK195:=n1_;have BK196:=n2_;have BK197:=n3_;have HL198_3:=n4_;have HL198_4:=n5_;have HL198_5:=n6_;have HL198_8:=n7_;have HL198_9:=n8_;have HB:=n9_;have HO201:=n10_;clear n0_ n1_ n2_ n3_ n4_ n5_ n6_ n7_ n8_ n9_ n10_
      clear ho hb hg hat
      obtain ⟨Ao16,co16,eo16⟩:=Kd.N_slice HO201.out
      (first|subst eo16|(injection eo16 with f1_ f2_ f3_;have f4_:=f1_.symm;have f5_:=f3_.symm;clear f1_ f2_ f3_;subst f4_;subst f5_))
      refine hK.out _ _ ?_
      clear hK K
      refine norm_ (a':=?_) ?_ ?_
      rotate_left
      ·show Act.put _ (some 21) _=_
       simp only [Act.put,List.setIfInBounds_toArray,List.set_cons_zero,List.set_cons_succ,i64_w,i32_w]
       rfl
      refine pure_ (i:=9) (N:=some 22) (v:=?_) (a':=?_) #[true,true,true,true,true,true,true,true,true,true,false] rfl rfl (any_of HT_.out (by kernel_rfl)) (fun _ _ _ h=>h) (Or.inl ⟨by rfl,?_⟩) ?_ ?_
      rotate_left
      ·intro w'
       go_simp
       with_reducible rfl
      rotate_left
      ·simp only [Act.put,List.setIfInBounds_toArray,List.set_cons_zero,List.set_cons_succ,i64_w,i32_w]
       rfl
      refine last_ (i:=10) (N:=none) #[true,true,true,true,true,true,true,true,true,true,true] rfl rfl (one_of HT_.out (by kernel_rfl)) (by decide) (fun K hK=>?_)
      have hs17:w15.cell? ⟨gb197,0,none⟩=some (u198000):=(blk_cell BK197.out 0).trans rfl
      have hfs17:=blk_frozen BK197.out 0
      have hns17_0:=NB195_197.out
      have hns17_1:=NB196_197.out
      have hms17_0:=NB197_195.out
      have hms17_1:=NB197_196.out
      refine skip_ (w1:=?_) (by rfl) rfl ?_ ?_
      rotate_left
      ·go_simp
       rfl
      refine hK.out _ _ ?_
      clear hK K
      refine done_ (done_of HT_.out (by kernel_rfl)) ?_
      try go_wp2
      go_roundg k1
      case measure=>have:=HK1.out;omega
      case rel=>exact ⟨(wrap64 (x4_1+1)),(y199),(.slice Ao16 y199.length co16),(by first|rfl|(simp;done)|(simp [*];done)),H',⟨by have:=HK1.out;omega⟩,⟨by (with_reducible repeat (first|apply Kd.V_alloc|apply Kd.V_drewN|apply Kd.V_drew));exact Kd.V_mono (Kd.V_far (p:=⟨gb197,0,none⟩) (Kd.V_mono HO_196000.out (fun k_ hk=>(⟨hk,hk.1.2.2.2⟩:_∧k_≠gb197))) (fun _ hk=>hk.2) (.slice Ao16 y199.length co16)) (fun _ hk=>⟨hk.1.1.1,⟨hk.1.2,⟨hk.1.1.2.1,⟨hk.1.1.2.2.1,hk.1.1.2.2.2⟩⟩⟩⟩)⟩,⟨by (with_reducible repeat (first|apply Kd.N_alloc|apply Kd.N_drewN|apply Kd.N_drew));exact Kd.N_mono (Kd.N_far (p:=⟨gb197,0,none⟩) (Kd.N_mono HO201.out (fun k_ hk=>(⟨hk,hk.2.2.2⟩:_∧k_≠gb197))) (fun _ hk=>hk.2) (.slice Ao16 y199.length co16)) (fun _ hk=>⟨hk.1.1,⟨hk.1.2.1,⟨hk.1.2.2.1,hk.1.2.2.2⟩⟩⟩)⟩,⟨by (with_reducible repeat (first|refine blk_drewN ?_ _|refine blk_drew ?_|refine blk_alloc ?_ _));refine blk_far ?_ NB195_197.out _;(with_reducible repeat (first|refine blk_drewN ?_ _|refine blk_drew ?_|refine blk_alloc ?_ _));exact BK195.out⟩,⟨by (with_reducible repeat (first|refine blk_drewN ?_ _|refine blk_drew ?_|refine blk_alloc ?_ _));refine blk_far ?_ NB196_197.out _;(with_reducible repeat (first|refine blk_drewN ?_ _|refine blk_drew ?_|refine blk_alloc ?_ _));exact BK196.out⟩,⟨by (with_reducible repeat (first|refine blk_drewN ?_ _|refine blk_drew ?_|refine blk_alloc ?_ _));refine blk_put (cs:=#[u198000]) ?_ 0 _ rfl;(with_reducible repeat (first|refine blk_drewN ?_ _|refine blk_drew ?_|refine blk_alloc ?_ _));exact BK197.out⟩,⟨by repeat (first|(with_reducible first|exact HB.out|apply below_alloc|apply pw_below_drewN|apply below_drew1|refine below_set ?_ GE195.out|refine below_set ?_ GE196.out|refine below_set ?_ GE197.out)|exact HB.out)⟩⟩
     ·rw [if_neg c10] at H
      exact absurd H (by simp)
    ·rw [if_neg c9] at H
     exact absurd H (by simp)
   ·rw [if_neg c8] at H
    have c8b0:decide (x4_1<(l0_0.length:Int))=false:=decide_eq_false c8
    clear c8
    obtain rfl:=Option.some.inj H
    have hnb18:=NB195_196.out
    have hnc18:=NB196_195.out
    have hnb19:=NB195_197.out
    have hnc19:=NB197_195.out
    obtain ⟨hcz20_0,hfz20_0⟩:=bk1 BK195.out
    have hnb21:=NB197_196.out
    have hnc21:=NB196_197.out
    obtain ⟨hcz22_0,hfz22_0⟩:=bk1 BK197.out
    obtain ⟨Ao23,co23,eo23⟩:=Kd.N_slice HO_198000.out
    subst eo23
    obtain ⟨hcz24_0,hfz24_0⟩:=bk1 BK196.out
    go_wp2
    refine bodyPost_ret (results_cell_row rfl _ _ gb196 29 #[.slice Ao23 x198000_1.length co23] (0,0) _ rfl (by (with_reducible repeat (first|refine blk_drewN ?_ _|refine blk_drew ?_|refine blk_alloc ?_ _));refine blk_put (cs:=#[.slice none 0 0]) ?_ 0 _ rfl;(with_reducible repeat (first|refine blk_drewN ?_ _|refine blk_drew ?_|refine blk_alloc ?_ _));exact BK196.out) Try.underlying29 rfl (by kernel_rfl)) rfl ?_
    exact ⟨_,by first|rfl|(simp [errW_none,errW_some] <;> rfl)|(simp [*,errW_none,errW_some] <;> rfl),by (with_reducible repeat (first|apply Kd.N_alloc|apply Kd.N_drewN|apply Kd.N_drew));exact Kd.N_mono (Kd.N_far (p:=⟨gb196,0,none⟩) (Kd.N_mono HO_198000.out (fun k_ hk=>(⟨hk,hk.2.2.1⟩:_∧k_≠gb196))) (fun _ hk=>hk.2) (.slice Ao23 x198000_1.length co23)) (fun _ hk=>hk.1.1),by repeat (first|(with_reducible first|exact HB.out|apply below_alloc|apply pw_below_drewN|apply below_drew1|refine below_set ?_ GE195.out|refine below_set ?_ GE196.out|refine below_set ?_ GE197.out)|exact HB.out)⟩
def strRep (b:ByteArray):Nat→ByteArray
 | 0=>⟨#[]⟩
 | n+1=>strRep b n++b
theorem strRep_size {b:ByteArray} (h:b.size=1):∀ n,(strRep b n).size=n
 | 0=>rfl
 | n+1=>by rw [strRep,ByteArray.size_append,strRep_size h n,h]
theorem strRep_add (b:ByteArray) (m:Nat):∀ n,strRep b (m+n)=strRep b m++strRep b n
 | 0=>by rw [Nat.add_zero,strRep];exact (ByteArray.append_empty).symm
 | n+1=>by rw [← Nat.add_assoc,strRep,strRep_add b m n,strRep,ByteArray.append_assoc]
def spec_l1Long.f (k:Nat) (n:Int) (b:ByteArray):Option ByteArray:=if b.size=1∧n≤100000 then some (strRep b n.toNat) else none
set_option maxHeartbeats 8000000 in
set_option maxRecDepth 100000 in
theorem spec_l1Long_walk (b:ByteArray) (hb:b.size=1):∀ (m:Nat) (n:Int) (w:World),n.toNat=m→n≤100000→Calls Try.prog 72 #[.int .i64 n,.string b] w fun e w'=>e=.returned (.string (strRep b n.toNat))∧Drawn0 w w':=by
 intro m
 induction m using Nat.strongRecOn with
 | _ m ih =>
 intro n w hm hn
 have IH:=Ak ih;have HM:=Ak hm;have HB:=Ak hb
 have D0:=Drawn0.refl w
 clear ih hm hb
 by_cases h0:0<n
 ·have d0:decide ((0:Int)<n)=true:=decide_eq_true h0
  go_enter Try.func72,Try.ntmps72
  go_wp2
  go_loopg [5] m (fun kq v5 w'=>∃ (j:Nat) (s:ByteArray),v5=.string s∧Aside0 (s=strRep b j)∧Aside0 (kq=m+1-j)∧Aside0 (1≤j∧j≤m)∧Drawn0 w w')
  case atStart=>exact ⟨1,b,rfl,⟨by show b=strRep b 0++b;exact (ByteArray.empty_append).symm⟩,⟨by omega⟩,⟨by have:=HM.out;omega⟩,D0⟩
  case round =>
   obtain ⟨j,s,rfl,HS,HK,HJ,D1⟩:=hrel
   have hs:s.size=j:=by rw [HS.out];exact strRep_size HB.out j
   have hj:=HJ.out
   have hm:=HM.out
   by_cases h2:(j:Int)*2≤n
   ·have d2:decide ((j:Int)*2≤n)=true:=decide_eq_true h2
    go_wp2
    go_roundg (m+1-(j+j))
    case measure=>have:=HK.out;omega
    case rel=>exact ⟨j+j,s++s,rfl,⟨by rw [strRep_add,← HS.out]⟩,⟨rfl⟩,⟨by omega⟩,D1⟩
   ·have d2:decide ((j:Int)*2≤n)=false:=decide_eq_false h2
    by_cases h3:(j:Int)<n
    ·have d3:decide ((j:Int)<n)=true:=decide_eq_true h3
     have hq:(strRep b (m-j)).size=m-j:=strRep_size HB.out _
     have hq2:(9223372036854775807<j+(m-j))=False:=eq_false (by omega)
     have hq3:(j+(m-j)≤9223372036854775807)=True:=eq_true (by omega)
     have hq4:(9223372036854775807<s.size+(strRep b (m-j)).size)=False:=eq_false (by omega)
     have hq5:(s.size+(strRep b (m-j)).size≤9223372036854775807)=True:=eq_true (by omega)
     have WN:Aside0 (IntKind.i64.wrap (n-(j:Int))=n-(j:Int)):=⟨by rw [IntKind.wrap_i64];omega⟩
     have E:Aside0 (strRep b n.toNat=s++strRep b (n-(j:Int)).toNat):=⟨by rw [show n.toNat=j+(n-(j:Int)).toNat by omega,strRep_add,← HS.out]⟩
     go_wp2_with (fail)
     refine (IH.out (n-(j:Int)).toNat (by omega) (n-(j:Int)) _ rfl (by omega)).mono ?_
     rintro r w4 ⟨rfl,hd⟩
     have D2:Drawn0 w w4:=(by obtain ⟨q,rfl⟩:=hd.out;exact D1.step q)
     clear hd
     go_wp2_with (fail)
     refine bodyPost_ret (results_tmp rfl _ _ _) rfl ?_
     refine ⟨?_,D2⟩
     have e:=E.out
     rw [hm] at e ⊢
     rw [e,show (n-(j:Int)).toNat=m-j by omega]
     rfl
    ·have d3:decide ((j:Int)<n)=false:=decide_eq_false h3
     have E:Aside0 (s=strRep b m):=⟨by rw [HS.out,show j=m by omega]⟩
     go_wp2_with (fail)
     refine bodyPost_ret (results_tmp rfl _ _ _) rfl ?_
     exact ⟨by rw [← E.out];rfl,D1⟩
 ·have d0:decide ((0:Int)<n)=false:=decide_eq_false h0
  have e0:n.toNat=0:=by omega
  by_cases h1:0≤n
  ·have d1:decide ((0:Int)≤n)=true:=decide_eq_true h1
   have d2:decide ((0:Int)<n)=false:=decide_eq_false h0
   go_enter Try.func72,Try.ntmps72
   go_wp2
   go_loopg [5] 0 (fun kq v5 w'=>v5=.string ⟨#[]⟩∧Drawn0 w w')
   case atStart=>exact ⟨rfl,D0⟩
   case round =>
    obtain ⟨rfl,D1⟩:=hrel
    go_wp2
    go_ret
    exact ⟨by rw [e0];rfl,D1⟩
  ·have d1:decide ((0:Int)≤n)=false:=decide_eq_false h1
   go_enter Try.func72,Try.ntmps72
   go_wp2
   go_loopg [5] 0 (fun kq v5 w'=>v5=.string ⟨#[]⟩∧Drawn0 w w')
   case atStart=>exact ⟨rfl,D0⟩
   case round =>
    obtain ⟨rfl,D1⟩:=hrel
    go_wp2
    go_ret
    exact ⟨by rw [e0];rfl,D1⟩
theorem spec_l1Long.calls (k:Nat) (a0:Int) (a1:ByteArray) (r:ByteArray) (w:World) (h:spec_l1Long.f k a0 a1=some r) :
  Calls Try.prog 72 #[.int .i64 a0,.string a1] w fun e w'=>e=.returned (.string r)∧Drawn0 w w':=by
 unfold spec_l1Long.f at h
 split at h
 case isFalse=>cases h
 case isTrue hg =>
  obtain rfl:=Option.some.inj h
  exact spec_l1Long_walk a1 hg.1 _ a0 w rfl hg.2
end Go.Proofs.Ytiekodnojmkfaaa.PFnEnds
