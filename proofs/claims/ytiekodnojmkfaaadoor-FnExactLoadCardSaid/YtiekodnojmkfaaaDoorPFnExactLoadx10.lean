-- Printed by the kit's print or by this session's program, then cut and tightened by it.
import Derived.Test.YtiekodnojmkfaaaDoorPFnExactLoadx0
import Derived.Test.YtiekodnojmkfaaaDoorPFnExactLoadx8
import Derived.Test.YtiekodnojmkfaaaDoorPFnExactLoadx9
namespace Go.Proofs.YtiekodnojmkfaaaDoor.PFnExactLoad
open Go.RowKit Go.Proofs.YtiekodnojmkfaaaDoorW.PrintWords Go.Proofs.YtiekodnojmkfaaaDoorW.PrintLast Go.Proofs.YtiekodnojmkfaaaDoorW.PrintMore
attribute [local go_sem] max2_int min2_int max_two min_two max_three min_three max_four min_four   -- for this text's walks alone
set_option linter.unusedVariables false
set_option linter.unusedSimpArgs false
def laws_heldProtoS.l0:Nat→List (S38)→Int→Int→Option (Int)
 | 0,_,_,_=>none
 | k+1,x0,x1,x5=>if x5<(x0.length:Int) then (if 0≤x5 then (if ((rd_T38 x0 x5).f0)=x1 then (if (((rd_T38 x0 x5).f1) != ((Int.tmod (wrap64 (x1+1)) 3) == 0))=true then (some (-1)) else (if ((rd_T38 x0 x5).f2)=(wrap64 ((wrap64 (x1+1))+1)) then ((laws_heldUint32S.f k ((rd_T38 x0 x5).f3) (wrap64 ((wrap64 ((wrap64 (x1+1))+1))+1))).bind fun t351=>(if t351<0 then (some (-1)) else ((laws_heldValueS.f k ((rd_T38 x0 x5).f4) t351).bind fun t353=>(if t353<0 then (some (-1)) else ((laws_heldUpS.f k ((rd_T38 x0 x5).f5) t353).bind fun t355=>(if t355<0 then (some (-1)) else (if ((rd_T38 x0 x5).f6)=t355 then ((laws_markText.f k (wrap64 (t355+1))).bind fun t358=>(if ((rd_T38 x0 x5).f7).toList=t358.toList then ((laws_heldIntS.f k ((rd_T38 x0 x5).f8) (wrap64 ((wrap64 (t355+1))+1))).bind fun t360=>(if t360<0 then (some (-1)) else ((laws_heldStringS.f k ((rd_T38 x0 x5).f9) t360).bind fun t362=>(if t362<0 then (some (-1)) else (laws_heldProtoS.l0 k x0 t362 (wrap64 (x5+1))))))) else (some (-1)))) else (some (-1))))))))) else (some (-1)))) else (some (-1))) else (none)) else (some x1)
def laws_heldProtoS.f (k:Nat) (l0:List (S38)) (a1:Int):Option (Int):=laws_heldProtoS.l0 k l0 a1 0
def laws_heldProtoS.T25:Bool×List (List Nat×List Nat):=(true,[([],[]),([],[]),([0,1],[0,1]),([2],[2]),([3],[3]),([],[]),([5],[5]),([4,6],[4,6])])
def laws_heldProtoS.B25:List Nat:=[0,0,3,7,15,0,32,127]
theorem laws_heldProtoS.tab25:rtab .any (opsOf Tryd.f17 25)=laws_heldProtoS.T25:=by kernel_rfl
theorem laws_heldProtoS.bits25:waitsOk laws_heldProtoS.T25.2 laws_heldProtoS.B25=true:=by kernel_rfl
set_option maxHeartbeats 8000000 in
set_option maxRecDepth 100000 in
theorem laws_heldProtoS.calls (k:Nat) (A0:Option Addr) (c0:Nat) (l0:List (S38)) (a1:Int) (r:Int) (w:World) (hr0:Kd.C k38 w A0 l0.length l0) (hc0:l0.length≤c0) (h:laws_heldProtoS.f k l0 a1=some r) (hp_:0≤r) :
  Calls Tryd.prog 17 #[.slice A0 l0.length c0,.int .i64 a1] w fun e w'=>e=.returned (.int .i64 r)∧Below w.heap.size w w':=by
 have HP_:=Ak hp_;clear hp_;have HR0:=Ak hr0;have HC0:=Ak hc0;clear hr0 hc0
 have HB:=Ak (Below.refl w.heap.size w)
 have H:(laws_heldProtoS.l0 k l0 a1 0)=some r:=h
 clear h
 have H':=Ak H
 clear H
 go_enter Tryd.func17,Tryd.ntmps17
 go_wp2
 go_loopg [1,5] k (fun kq v1 v5 w'=>∃ (x1_1:Int) (x5_1:Int),v1=.int .i64 x1_1∧v5=.int .i64 x5_1∧Aside0 (laws_heldProtoS.l0 kq l0 x1_1 x5_1=some r)∧Aside0 (kq≤k)∧Aside0 (Below w.heap.size w w'))
 case atStart=>exact ⟨(a1),(0),(by first|rfl|(simp;done)|(simp [*];done)),(by first|rfl|(simp;done)|(simp [*];done)),H',⟨Nat.le_refl _⟩,⟨by repeat (first|(with_reducible first|exact HB.out|apply below_alloc|apply pw_below_drewN|apply below_drew1)|exact HB.out)⟩⟩
 case round =>
  clear H';(try clear c1);(try clear p2)
  obtain ⟨x1_1,x5_1,rfl,rfl,HA,HK1,HB⟩:=hrel
  cases gk with
  | zero=>exact absurd HA.out (by simp [laws_heldProtoS.l0])
  | succ k1 =>
   have H:=HA.out
   clear HA
   simp only [laws_heldProtoS.l0] at H
   by_cases c3:x5_1<(l0.length:Int)
   ·rw [if_pos c3] at H
    have c3b0:decide (x5_1<(l0.length:Int))=true:=decide_eq_true c3
    clear c3
    by_cases c4:0≤x5_1
    ·rw [if_pos c4] at H
     have c4b0:decide (0≤x5_1)=true:=decide_eq_true c4
     clear c4
     by_cases c5:((rd_T38 l0 x5_1).f0)=x1_1
     ·rw [if_pos c5] at H
      have c5b0:(((rd_T38 l0 x5_1).f0) == x1_1)=true:=beq_iff_eq.mpr c5
      have c5b1:(((rd_T38 l0 x5_1).f0) != x1_1)=false:=bne_eq_false_iff_eq.mpr c5
      clear c5
      by_cases c6:(((rd_T38 l0 x5_1).f1) != ((Int.tmod (wrap64 (x1_1+1)) 3) == 0))=true
      ·rw [if_pos c6] at H
       have c6b0:(((rd_T38 l0 x5_1).f1) != ((Int.tmod (wrap64 (x1_1+1)) 3) == 0))=true:=c6
       (try (have c6b1:decide (((rd_T38 l0 x5_1).f1)=((Int.tmod (wrap64 (x1_1+1)) 3) == 0))=false:=by simpa using c6))
       (try (have c6b2:(((rd_T38 l0 x5_1).f1) == ((Int.tmod (wrap64 (x1_1+1)) 3) == 0))=false:=by simpa using c6))
       (try (have c6b3:¬ (((rd_T38 l0 x5_1).f1)=((Int.tmod (wrap64 (x1_1+1)) 3) == 0)):=by simpa using c6))
       clear c6
       exact absurd (Option.some.inj H) (by have:=HP_.out;omega)
      ·rw [if_neg c6] at H
       have c6b0:(((rd_T38 l0 x5_1).f1) != ((Int.tmod (wrap64 (x1_1+1)) 3) == 0))=false:=by simpa using c6
       (try (have c6b1:decide (((rd_T38 l0 x5_1).f1)=((Int.tmod (wrap64 (x1_1+1)) 3) == 0))=true:=by simpa using c6))
       (try (have c6b2:(((rd_T38 l0 x5_1).f1) == ((Int.tmod (wrap64 (x1_1+1)) 3) == 0))=true:=by simpa using c6))
       clear c6
       by_cases c7:((rd_T38 l0 x5_1).f2)=(wrap64 ((wrap64 (x1_1+1))+1))
       ·rw [if_pos c7] at H
        have c7b0:(((rd_T38 l0 x5_1).f2) == (wrap64 ((wrap64 (x1_1+1))+1)))=true:=beq_iff_eq.mpr c7
        have c7b1:(((rd_T38 l0 x5_1).f2) != (wrap64 ((wrap64 (x1_1+1))+1)))=false:=bne_eq_false_iff_eq.mpr c7
        clear c7
        replace H:=Option.bind_eq_some_iff.mp H
        obtain ⟨t351,A80,H⟩:=H
        replace H:(if t351<0 then (some (-1)) else ((laws_heldValueS.f k1 ((rd_T38 l0 x5_1).f4) t351).bind fun t353=>(if t353<0 then (some (-1)) else ((laws_heldUpS.f k1 ((rd_T38 l0 x5_1).f5) t353).bind fun t355=>(if t355<0 then (some (-1)) else (if ((rd_T38 l0 x5_1).f6)=t355 then ((laws_markText.f k1 (wrap64 (t355+1))).bind fun t358=>(if ((rd_T38 l0 x5_1).f7).toList=t358.toList then ((laws_heldIntS.f k1 ((rd_T38 l0 x5_1).f8) (wrap64 ((wrap64 (t355+1))+1))).bind fun t360=>(if t360<0 then (some (-1)) else ((laws_heldStringS.f k1 ((rd_T38 l0 x5_1).f9) t360).bind fun t362=>(if t362<0 then (some (-1)) else (laws_heldProtoS.l0 k1 l0 t362 (wrap64 (x5_1+1))))))) else (some (-1)))) else (some (-1))))))))=some r:=H
        have A8:=Ak A80;clear A80
        by_cases c9:t351<0
        ·rw [if_pos c9] at H
         have c9b0:decide (t351<0)=true:=decide_eq_true c9
         clear c9
         exact absurd (Option.some.inj H) (by have:=HP_.out;omega)
        ·rw [if_neg c9] at H
         have c9b0:decide (t351<0)=false:=decide_eq_false c9
         clear c9
         replace H:=Option.bind_eq_some_iff.mp H
         obtain ⟨t353,A100,H⟩:=H
         replace H:(if t353<0 then (some (-1)) else ((laws_heldUpS.f k1 ((rd_T38 l0 x5_1).f5) t353).bind fun t355=>(if t355<0 then (some (-1)) else (if ((rd_T38 l0 x5_1).f6)=t355 then ((laws_markText.f k1 (wrap64 (t355+1))).bind fun t358=>(if ((rd_T38 l0 x5_1).f7).toList=t358.toList then ((laws_heldIntS.f k1 ((rd_T38 l0 x5_1).f8) (wrap64 ((wrap64 (t355+1))+1))).bind fun t360=>(if t360<0 then (some (-1)) else ((laws_heldStringS.f k1 ((rd_T38 l0 x5_1).f9) t360).bind fun t362=>(if t362<0 then (some (-1)) else (laws_heldProtoS.l0 k1 l0 t362 (wrap64 (x5_1+1))))))) else (some (-1)))) else (some (-1))))))=some r:=H
         have A10:=Ak A100;clear A100
         by_cases c11:t353<0
         ·rw [if_pos c11] at H
          have c11b0:decide (t353<0)=true:=decide_eq_true c11
          clear c11
          exact absurd (Option.some.inj H) (by have:=HP_.out;omega)
         ·rw [if_neg c11] at H
          have c11b0:decide (t353<0)=false:=decide_eq_false c11
          clear c11
          replace H:=Option.bind_eq_some_iff.mp H
          obtain ⟨t355,A130,H⟩:=H
          replace H:(if t355<0 then (some (-1)) else (if ((rd_T38 l0 x5_1).f6)=t355 then ((laws_markText.f k1 (wrap64 (t355+1))).bind fun t358=>(if ((rd_T38 l0 x5_1).f7).toList=t358.toList then ((laws_heldIntS.f k1 ((rd_T38 l0 x5_1).f8) (wrap64 ((wrap64 (t355+1))+1))).bind fun t360=>(if t360<0 then (some (-1)) else ((laws_heldStringS.f k1 ((rd_T38 l0 x5_1).f9) t360).bind fun t362=>(if t362<0 then (some (-1)) else (laws_heldProtoS.l0 k1 l0 t362 (wrap64 (x5_1+1))))))) else (some (-1)))) else (some (-1))))=some r:=H
          have A13:=Ak A130;clear A130
          by_cases c14:t355<0
          ·rw [if_pos c14] at H
           have c14b0:decide (t355<0)=true:=decide_eq_true c14
           clear c14
           exact absurd (Option.some.inj H) (by have:=HP_.out;omega)
          ·rw [if_neg c14] at H
           have c14b0:decide (t355<0)=false:=decide_eq_false c14
           clear c14
           by_cases c16:((rd_T38 l0 x5_1).f6)=t355
           ·rw [if_pos c16] at H
            have c16b0:(((rd_T38 l0 x5_1).f6) == t355)=true:=beq_iff_eq.mpr c16
            have c16b1:(((rd_T38 l0 x5_1).f6) != t355)=false:=bne_eq_false_iff_eq.mpr c16
            clear c16
            replace H:=Option.bind_eq_some_iff.mp H
            obtain ⟨t358,A170,H⟩:=H
            replace H:(if ((rd_T38 l0 x5_1).f7).toList=t358.toList then ((laws_heldIntS.f k1 ((rd_T38 l0 x5_1).f8) (wrap64 ((wrap64 (t355+1))+1))).bind fun t360=>(if t360<0 then (some (-1)) else ((laws_heldStringS.f k1 ((rd_T38 l0 x5_1).f9) t360).bind fun t362=>(if t362<0 then (some (-1)) else (laws_heldProtoS.l0 k1 l0 t362 (wrap64 (x5_1+1))))))) else (some (-1)))=some r:=H
            have A17:=Ak A170;clear A170
            by_cases c18:((rd_T38 l0 x5_1).f7).toList=t358.toList
            ·rw [if_pos c18] at H
             have c18b0:(((rd_T38 l0 x5_1).f7).toList == t358.toList)=true:=beq_iff_eq.mpr c18
             have c18b1:(((rd_T38 l0 x5_1).f7).toList != t358.toList)=false:=bne_eq_false_iff_eq.mpr c18
             clear c18
             replace H:=Option.bind_eq_some_iff.mp H
             obtain ⟨t360,A190,H⟩:=H
             replace H:(if t360<0 then (some (-1)) else ((laws_heldStringS.f k1 ((rd_T38 l0 x5_1).f9) t360).bind fun t362=>(if t362<0 then (some (-1)) else (laws_heldProtoS.l0 k1 l0 t362 (wrap64 (x5_1+1))))))=some r:=H
             have A19:=Ak A190;clear A190
             by_cases c20:t360<0
             ·rw [if_pos c20] at H
              have c20b0:decide (t360<0)=true:=decide_eq_true c20
              clear c20
              exact absurd (Option.some.inj H) (by have:=HP_.out;omega)
             ·rw [if_neg c20] at H
              have c20b0:decide (t360<0)=false:=decide_eq_false c20
              clear c20
              replace H:=Option.bind_eq_some_iff.mp H
              obtain ⟨t362,A240,H⟩:=H
              replace H:(if t362<0 then (some (-1)) else (laws_heldProtoS.l0 k1 l0 t362 (wrap64 (x5_1+1))))=some r:=H
              have A24:=Ak A240;clear A240
              by_cases c25:t362<0
              ·rw [if_pos c25] at H
               have c25b0:decide (t362<0)=true:=decide_eq_true c25
               clear c25
               exact absurd (Option.some.inj H) (by have:=HP_.out;omega)
              ·rw [if_neg c25] at H
               have c25b0:decide (t362<0)=false:=decide_eq_false c25
               clear c25
               have H':=Ak H
               clear H
               have p347:0≤(x5_1:Int):=of_decide_eq_true (by first|(with_reducible assumption)|assumption)
               have q347:x5_1<(l0.length:Int):=of_decide_eq_true (by first|(with_reducible assumption)|assumption)
               obtain ⟨ad347,A347_3,c347_3,A347_4,c347_4,A347_5,c347_5,A347_8,c347_8,A347_9,c347_9,e347,hx347_0,hx347_1,hx347_2,hx347_3,hx347_4,hx347_5,hx347_6,hx347_7,hx347_8,hx347_9,hl347_3,hi347_3,hl347_4,hi347_4,hl347_5,hi347_5,hl347_8,hi347_8,hl347_9,hi347_9⟩:=at_T38 HR0.out x5_1 p347 q347
               cases e347
               replace hx347_0:=(HB.out.cell (World.block_lt_of_cell? w _ hx347_0)).trans hx347_0
               replace hx347_1:=(HB.out.cell (World.block_lt_of_cell? w _ hx347_1)).trans hx347_1
               replace hx347_2:=(HB.out.cell (World.block_lt_of_cell? w _ hx347_2)).trans hx347_2
               replace hx347_3:=(HB.out.cell (World.block_lt_of_cell? w _ hx347_3)).trans hx347_3
               replace hx347_4:=(HB.out.cell (World.block_lt_of_cell? w _ hx347_4)).trans hx347_4
               replace hx347_5:=(HB.out.cell (World.block_lt_of_cell? w _ hx347_5)).trans hx347_5
               replace hx347_6:=(HB.out.cell (World.block_lt_of_cell? w _ hx347_6)).trans hx347_6
               replace hx347_7:=(HB.out.cell (World.block_lt_of_cell? w _ hx347_7)).trans hx347_7
               replace hx347_8:=(HB.out.cell (World.block_lt_of_cell? w _ hx347_8)).trans hx347_8
               replace hx347_9:=(HB.out.cell (World.block_lt_of_cell? w _ hx347_9)).trans hx347_9
               have HR347_3:=Ak hi347_3;have HC347_3:=Ak hl347_3;clear hi347_3 hl347_3;have HR347_4:=Ak hi347_4;have HC347_4:=Ak hl347_4;clear hi347_4 hl347_4;have HR347_5:=Ak hi347_5;have HC347_5:=Ak hl347_5;clear hi347_5 hl347_5;have HR347_8:=Ak hi347_8;have HC347_8:=Ak hl347_8;clear hi347_8 hl347_8;have HR347_9:=Ak hi347_9;have HC347_9:=Ak hl347_9
               clear hi347_9 hl347_9
               replace p347:=eq_true p347
               replace q347:=eq_true q347
               have p348:0≤(x5_1:Int):=of_decide_eq_true (by first|(with_reducible assumption)|assumption)
               have q348:x5_1<(l0.length:Int):=of_decide_eq_true (by first|(with_reducible assumption)|assumption)
               obtain ⟨ad348,A348_3,c348_3,A348_4,c348_4,A348_5,c348_5,A348_8,c348_8,A348_9,c348_9,e348,hx348_0,hx348_1,hx348_2,hx348_3,hx348_4,hx348_5,hx348_6,hx348_7,hx348_8,hx348_9,hl348_3,hi348_3,hl348_4,hi348_4,hl348_5,hi348_5,hl348_8,hi348_8,hl348_9,hi348_9⟩:=at_T38 HR0.out x5_1 p348 q348
               obtain rfl:ad347=ad348:=(by injection e348)
               replace hx348_0:=(HB.out.cell (World.block_lt_of_cell? w _ hx348_0)).trans hx348_0
               replace hx348_1:=(HB.out.cell (World.block_lt_of_cell? w _ hx348_1)).trans hx348_1
               replace hx348_2:=(HB.out.cell (World.block_lt_of_cell? w _ hx348_2)).trans hx348_2
               replace hx348_3:=(HB.out.cell (World.block_lt_of_cell? w _ hx348_3)).trans hx348_3
               replace hx348_4:=(HB.out.cell (World.block_lt_of_cell? w _ hx348_4)).trans hx348_4
               replace hx348_5:=(HB.out.cell (World.block_lt_of_cell? w _ hx348_5)).trans hx348_5
               replace hx348_6:=(HB.out.cell (World.block_lt_of_cell? w _ hx348_6)).trans hx348_6
               replace hx348_7:=(HB.out.cell (World.block_lt_of_cell? w _ hx348_7)).trans hx348_7
               replace hx348_8:=(HB.out.cell (World.block_lt_of_cell? w _ hx348_8)).trans hx348_8
               replace hx348_9:=(HB.out.cell (World.block_lt_of_cell? w _ hx348_9)).trans hx348_9
               have HR348_3:=Ak hi348_3;have HC348_3:=Ak hl348_3;clear hi348_3 hl348_3;have HR348_4:=Ak hi348_4;have HC348_4:=Ak hl348_4;clear hi348_4 hl348_4;have HR348_5:=Ak hi348_5;have HC348_5:=Ak hl348_5;clear hi348_5 hl348_5;have HR348_8:=Ak hi348_8;have HC348_8:=Ak hl348_8;clear hi348_8 hl348_8;have HR348_9:=Ak hi348_9;have HC348_9:=Ak hl348_9
               clear hi348_9 hl348_9
               replace p348:=eq_true p348
               replace q348:=eq_true q348
               have ea_:=Option.some.inj (hx347_3.symm.trans hx348_3)
               injection ea_ with ea_ en_ ec_
               subst ea_
               subst ec_
               clear en_
               have ea_:=Option.some.inj (hx347_4.symm.trans hx348_4)
               injection ea_ with ea_ en_ ec_
               subst ea_
               subst ec_
               clear en_
               have ea_:=Option.some.inj (hx347_5.symm.trans hx348_5)
               injection ea_ with ea_ en_ ec_
               subst ea_
               subst ec_
               clear en_
               have ea_:=Option.some.inj (hx347_8.symm.trans hx348_8)
               injection ea_ with ea_ en_ ec_
               subst ea_
               subst ec_
               clear en_
               have ea_:=Option.some.inj (hx347_9.symm.trans hx348_9)
               injection ea_ with ea_ en_ ec_
               subst ea_
               subst ec_
               clear en_
               have p349:0≤(x5_1:Int):=of_decide_eq_true (by first|(with_reducible assumption)|assumption)
               have q349:x5_1<(l0.length:Int):=of_decide_eq_true (by first|(with_reducible assumption)|assumption)
               obtain ⟨ad349,A349_3,c349_3,A349_4,c349_4,A349_5,c349_5,A349_8,c349_8,A349_9,c349_9,e349,hx349_0,hx349_1,hx349_2,hx349_3,hx349_4,hx349_5,hx349_6,hx349_7,hx349_8,hx349_9,hl349_3,hi349_3,hl349_4,hi349_4,hl349_5,hi349_5,hl349_8,hi349_8,hl349_9,hi349_9⟩:=at_T38 HR0.out x5_1 p349 q349
               obtain rfl:ad347=ad349:=(by injection e349)
               replace hx349_0:=(HB.out.cell (World.block_lt_of_cell? w _ hx349_0)).trans hx349_0
               replace hx349_1:=(HB.out.cell (World.block_lt_of_cell? w _ hx349_1)).trans hx349_1
               replace hx349_2:=(HB.out.cell (World.block_lt_of_cell? w _ hx349_2)).trans hx349_2
               replace hx349_3:=(HB.out.cell (World.block_lt_of_cell? w _ hx349_3)).trans hx349_3
               replace hx349_4:=(HB.out.cell (World.block_lt_of_cell? w _ hx349_4)).trans hx349_4
               replace hx349_5:=(HB.out.cell (World.block_lt_of_cell? w _ hx349_5)).trans hx349_5
               replace hx349_6:=(HB.out.cell (World.block_lt_of_cell? w _ hx349_6)).trans hx349_6
               replace hx349_7:=(HB.out.cell (World.block_lt_of_cell? w _ hx349_7)).trans hx349_7
               replace hx349_8:=(HB.out.cell (World.block_lt_of_cell? w _ hx349_8)).trans hx349_8
               replace hx349_9:=(HB.out.cell (World.block_lt_of_cell? w _ hx349_9)).trans hx349_9
               have HR349_3:=Ak hi349_3;have HC349_3:=Ak hl349_3;clear hi349_3 hl349_3;have HR349_4:=Ak hi349_4;have HC349_4:=Ak hl349_4;clear hi349_4 hl349_4;have HR349_5:=Ak hi349_5;have HC349_5:=Ak hl349_5;clear hi349_5 hl349_5;have HR349_8:=Ak hi349_8;have HC349_8:=Ak hl349_8;clear hi349_8 hl349_8;have HR349_9:=Ak hi349_9;have HC349_9:=Ak hl349_9
               clear hi349_9 hl349_9
               replace p349:=eq_true p349
               replace q349:=eq_true q349
               have ea_:=Option.some.inj (hx347_3.symm.trans hx349_3)
               injection ea_ with ea_ en_ ec_
               subst ea_
               subst ec_
               clear en_
               have ea_:=Option.some.inj (hx347_4.symm.trans hx349_4)
               injection ea_ with ea_ en_ ec_
               subst ea_
               subst ec_
               clear en_
               have ea_:=Option.some.inj (hx347_5.symm.trans hx349_5)
               injection ea_ with ea_ en_ ec_
               subst ea_
               subst ec_
               clear en_
               have ea_:=Option.some.inj (hx347_8.symm.trans hx349_8)
               injection ea_ with ea_ en_ ec_
               subst ea_
               subst ec_
               clear en_
               have ea_:=Option.some.inj (hx347_9.symm.trans hx349_9)
               injection ea_ with ea_ en_ ec_
               subst ea_
               subst ec_
               clear en_
               have p350:0≤(x5_1:Int):=of_decide_eq_true (by first|(with_reducible assumption)|assumption)
               have q350:x5_1<(l0.length:Int):=of_decide_eq_true (by first|(with_reducible assumption)|assumption)
               obtain ⟨ad350,A350_3,c350_3,A350_4,c350_4,A350_5,c350_5,A350_8,c350_8,A350_9,c350_9,e350,hx350_0,hx350_1,hx350_2,hx350_3,hx350_4,hx350_5,hx350_6,hx350_7,hx350_8,hx350_9,hl350_3,hi350_3,hl350_4,hi350_4,hl350_5,hi350_5,hl350_8,hi350_8,hl350_9,hi350_9⟩:=at_T38 HR0.out x5_1 p350 q350
               obtain rfl:ad347=ad350:=(by injection e350)
               replace hx350_0:=(HB.out.cell (World.block_lt_of_cell? w _ hx350_0)).trans hx350_0
               replace hx350_1:=(HB.out.cell (World.block_lt_of_cell? w _ hx350_1)).trans hx350_1
               replace hx350_2:=(HB.out.cell (World.block_lt_of_cell? w _ hx350_2)).trans hx350_2
               replace hx350_3:=(HB.out.cell (World.block_lt_of_cell? w _ hx350_3)).trans hx350_3
               replace hx350_4:=(HB.out.cell (World.block_lt_of_cell? w _ hx350_4)).trans hx350_4
               replace hx350_5:=(HB.out.cell (World.block_lt_of_cell? w _ hx350_5)).trans hx350_5
               replace hx350_6:=(HB.out.cell (World.block_lt_of_cell? w _ hx350_6)).trans hx350_6
               replace hx350_7:=(HB.out.cell (World.block_lt_of_cell? w _ hx350_7)).trans hx350_7
               replace hx350_8:=(HB.out.cell (World.block_lt_of_cell? w _ hx350_8)).trans hx350_8
               replace hx350_9:=(HB.out.cell (World.block_lt_of_cell? w _ hx350_9)).trans hx350_9
               have HR350_3:=Ak hi350_3;have HC350_3:=Ak hl350_3;clear hi350_3 hl350_3;have HR350_4:=Ak hi350_4;have HC350_4:=Ak hl350_4;clear hi350_4 hl350_4;have HR350_5:=Ak hi350_5;have HC350_5:=Ak hl350_5;clear hi350_5 hl350_5;have HR350_8:=Ak hi350_8;have HC350_8:=Ak hl350_8;clear hi350_8 hl350_8;have HR350_9:=Ak hi350_9;have HC350_9:=Ak hl350_9
               clear hi350_9 hl350_9
               replace p350:=eq_true p350
               replace q350:=eq_true q350
               have ea_:=Option.some.inj (hx347_3.symm.trans hx350_3)
               injection ea_ with ea_ en_ ec_
               subst ea_
               subst ec_
               clear en_
               have ea_:=Option.some.inj (hx347_4.symm.trans hx350_4)
               injection ea_ with ea_ en_ ec_
               subst ea_
               subst ec_
               clear en_
               have ea_:=Option.some.inj (hx347_5.symm.trans hx350_5)
               injection ea_ with ea_ en_ ec_
               subst ea_
               subst ec_
               clear en_
               have ea_:=Option.some.inj (hx347_8.symm.trans hx350_8)
               injection ea_ with ea_ en_ ec_
               subst ea_
               subst ec_
               clear en_
               have ea_:=Option.some.inj (hx347_9.symm.trans hx350_9)
               injection ea_ with ea_ en_ ec_
               subst ea_
               subst ec_
               clear en_
               try go_wp2_with (first|((with_reducible refine gate_callee (f:=49) rfl ?_);refine goesL_ (some 47) rfl rfl Tryd.func49 (by kernel_rfl) rfl #[.slice A347_3 ((rd_T38 l0 x5_1).f3).length c347_3,.int .i64 (wrap64 ((wrap64 ((wrap64 (x1_1+1))+1))+1))] rfl (by (try simp only [List.map_toArray,List.map_cons,List.map_nil]);first|done|rfl|(simp only [List.length_drop,List.length_take];rfl)) ?_;(with_reducible refine (laws_heldUint32S.calls k1 _ _ ((rd_T38 l0 x5_1).f3) (wrap64 ((wrap64 ((wrap64 (x1_1+1))+1))+1)) t351 _ ?side1 ?side2 A8.out).mono ?_);(case side1=>repeat (first|exact (Kd.C_below HR350_3.out HB.out)|(with_reducible refine Kd.C_alloc ?_ _)|(with_reducible refine Kd.C_drewN ?_ _)|(with_reducible refine Kd.C_drew ?_)));(case side2=>exact HC350_3.out);rintro e w' ⟨rfl,⟨nd,rfl⟩⟩;refine ⟨_,rfl,?_⟩;have p352:0≤(x5_1:Int):=of_decide_eq_true (by first|(with_reducible assumption)|assumption);have q352:x5_1<(l0.length:Int):=of_decide_eq_true (by first|(with_reducible assumption)|assumption);obtain ⟨ad352,A352_3,c352_3,A352_4,c352_4,A352_5,c352_5,A352_8,c352_8,A352_9,c352_9,e352,hx352_0,hx352_1,hx352_2,hx352_3,hx352_4,hx352_5,hx352_6,hx352_7,hx352_8,hx352_9,hl352_3,hi352_3,hl352_4,hi352_4,hl352_5,hi352_5,hl352_8,hi352_8,hl352_9,hi352_9⟩:=at_T38 HR0.out x5_1 p352 q352;obtain rfl:ad347=ad352:=(by injection e352);replace hx352_0:=(HB.out.cell (World.block_lt_of_cell? w _ hx352_0)).trans hx352_0;replace hx352_1:=(HB.out.cell (World.block_lt_of_cell? w _ hx352_1)).trans hx352_1;replace hx352_2:=(HB.out.cell (World.block_lt_of_cell? w _ hx352_2)).trans hx352_2;replace hx352_3:=(HB.out.cell (World.block_lt_of_cell? w _ hx352_3)).trans hx352_3;replace hx352_4:=(HB.out.cell (World.block_lt_of_cell? w _ hx352_4)).trans hx352_4;replace hx352_5:=(HB.out.cell (World.block_lt_of_cell? w _ hx352_5)).trans hx352_5;replace hx352_6:=(HB.out.cell (World.block_lt_of_cell? w _ hx352_6)).trans hx352_6;replace hx352_7:=(HB.out.cell (World.block_lt_of_cell? w _ hx352_7)).trans hx352_7;replace hx352_8:=(HB.out.cell (World.block_lt_of_cell? w _ hx352_8)).trans hx352_8;replace hx352_9:=(HB.out.cell (World.block_lt_of_cell? w _ hx352_9)).trans hx352_9;have HR352_3:=Ak hi352_3;have HC352_3:=Ak hl352_3;clear hi352_3 hl352_3;have HR352_4:=Ak hi352_4;have HC352_4:=Ak hl352_4;clear hi352_4 hl352_4;have HR352_5:=Ak hi352_5;have HC352_5:=Ak hl352_5;clear hi352_5 hl352_5;have HR352_8:=Ak hi352_8;have HC352_8:=Ak hl352_8;clear hi352_8 hl352_8;have HR352_9:=Ak hi352_9;have HC352_9:=Ak hl352_9;clear hi352_9 hl352_9;replace p352:=eq_true p352;replace q352:=eq_true q352;have ea_:=Option.some.inj (hx347_3.symm.trans hx352_3);injection ea_ with ea_ en_ ec_;subst ea_;subst ec_;clear en_;have ea_:=Option.some.inj (hx347_4.symm.trans hx352_4);injection ea_ with ea_ en_ ec_;subst ea_;subst ec_;clear en_;have ea_:=Option.some.inj (hx347_5.symm.trans hx352_5);injection ea_ with ea_ en_ ec_;subst ea_;subst ec_;clear en_;have ea_:=Option.some.inj (hx347_8.symm.trans hx352_8);injection ea_ with ea_ en_ ec_;subst ea_;subst ec_;clear en_;have ea_:=Option.some.inj (hx347_9.symm.trans hx352_9);injection ea_ with ea_ en_ ec_;subst ea_;subst ec_;clear en_)|((with_reducible refine gate_callee (f:=50) rfl ?_);refine goesL_ (some 56) rfl rfl Tryd.func50 (by kernel_rfl) rfl #[.slice A347_4 ((rd_T38 l0 x5_1).f4).length c347_4,.int .i64 t351] rfl (by (try simp only [List.map_toArray,List.map_cons,List.map_nil]);first|done|rfl|(simp only [List.length_drop,List.length_take];rfl)) ?_;(with_reducible refine (laws_heldValueS.calls k1 _ _ ((rd_T38 l0 x5_1).f4) t351 t353 _ ?side1 ?side2 A10.out (by simp only [decide_eq_false_iff_not,Int.not_lt] at *;omega)).mono ?_);(case side1=>repeat (first|exact (Kd.C_below HR352_4.out (by repeat (first|(with_reducible first|exact HB.out|apply below_alloc|apply pw_below_drewN|apply below_drew1)|exact HB.out)))|(with_reducible refine Kd.C_alloc ?_ _)|(with_reducible refine Kd.C_drewN ?_ _)|(with_reducible refine Kd.C_drew ?_)));(case side2=>exact HC352_4.out);rintro e w30 ⟨rfl,hb⟩;refine ⟨_,rfl,?_⟩;have n0_:=Ak (below_step (by repeat (first|(with_reducible first|exact HB.out|apply below_alloc|apply pw_below_drewN|apply below_drew1)|exact HB.out)) hb);clear HB;have HB:=n0_;clear n0_;(try clear hb);(try clear hb2);(try clear hk);(try clear hi);have p354:0≤(x5_1:Int):=of_decide_eq_true (by first|(with_reducible assumption)|assumption);have q354:x5_1<(l0.length:Int):=of_decide_eq_true (by first|(with_reducible assumption)|assumption);obtain ⟨ad354,A354_3,c354_3,A354_4,c354_4,A354_5,c354_5,A354_8,c354_8,A354_9,c354_9,e354,hx354_0,hx354_1,hx354_2,hx354_3,hx354_4,hx354_5,hx354_6,hx354_7,hx354_8,hx354_9,hl354_3,hi354_3,hl354_4,hi354_4,hl354_5,hi354_5,hl354_8,hi354_8,hl354_9,hi354_9⟩:=at_T38 HR0.out x5_1 p354 q354;obtain rfl:ad347=ad354:=(by injection e354);replace hx354_0:=(HB.out.cell (World.block_lt_of_cell? w _ hx354_0)).trans hx354_0;replace hx354_1:=(HB.out.cell (World.block_lt_of_cell? w _ hx354_1)).trans hx354_1;replace hx354_2:=(HB.out.cell (World.block_lt_of_cell? w _ hx354_2)).trans hx354_2;replace hx354_3:=(HB.out.cell (World.block_lt_of_cell? w _ hx354_3)).trans hx354_3;replace hx354_4:=(HB.out.cell (World.block_lt_of_cell? w _ hx354_4)).trans hx354_4;replace hx354_5:=(HB.out.cell (World.block_lt_of_cell? w _ hx354_5)).trans hx354_5;replace hx354_6:=(HB.out.cell (World.block_lt_of_cell? w _ hx354_6)).trans hx354_6;replace hx354_7:=(HB.out.cell (World.block_lt_of_cell? w _ hx354_7)).trans hx354_7;replace hx354_8:=(HB.out.cell (World.block_lt_of_cell? w _ hx354_8)).trans hx354_8;replace hx354_9:=(HB.out.cell (World.block_lt_of_cell? w _ hx354_9)).trans hx354_9;have HR354_3:=Ak hi354_3;have HC354_3:=Ak hl354_3;clear hi354_3 hl354_3;have HR354_4:=Ak hi354_4;have HC354_4:=Ak hl354_4;clear hi354_4 hl354_4;have HR354_5:=Ak hi354_5;have HC354_5:=Ak hl354_5;clear hi354_5 hl354_5;have HR354_8:=Ak hi354_8;have HC354_8:=Ak hl354_8;clear hi354_8 hl354_8;have HR354_9:=Ak hi354_9;have HC354_9:=Ak hl354_9;clear hi354_9 hl354_9;replace p354:=eq_true p354;replace q354:=eq_true q354)|((with_reducible refine gate_callee (f:=51) rfl ?_);refine goesL_ (some 65) rfl rfl Tryd.func51 (by kernel_rfl) rfl #[.slice A354_5 ((rd_T38 l0 x5_1).f5).length c354_5,.int .i64 t353] rfl (by (try simp only [List.map_toArray,List.map_cons,List.map_nil]);first|done|rfl|(simp only [List.length_drop,List.length_take];rfl)) ?_;(with_reducible refine (laws_heldUpS.calls k1 _ _ ((rd_T38 l0 x5_1).f5) t353 t355 _ ?side1 ?side2 A13.out).mono ?_);(case side1=>repeat (first|exact (Kd.C_below HR354_5.out HB.out)|(with_reducible refine Kd.C_alloc ?_ _)|(with_reducible refine Kd.C_drewN ?_ _)|(with_reducible refine Kd.C_drew ?_)));(case side2=>exact HC354_5.out);rintro e w' ⟨rfl,⟨nd,rfl⟩⟩;refine ⟨_,rfl,?_⟩;have p356:0≤(x5_1:Int):=of_decide_eq_true (by first|(with_reducible assumption)|assumption);have q356:x5_1<(l0.length:Int):=of_decide_eq_true (by first|(with_reducible assumption)|assumption);obtain ⟨ad356,A356_3,c356_3,A356_4,c356_4,A356_5,c356_5,A356_8,c356_8,A356_9,c356_9,e356,hx356_0,hx356_1,hx356_2,hx356_3,hx356_4,hx356_5,hx356_6,hx356_7,hx356_8,hx356_9,hl356_3,hi356_3,hl356_4,hi356_4,hl356_5,hi356_5,hl356_8,hi356_8,hl356_9,hi356_9⟩:=at_T38 HR0.out x5_1 p356 q356;obtain rfl:ad347=ad356:=(by injection e356);replace hx356_0:=(HB.out.cell (World.block_lt_of_cell? w _ hx356_0)).trans hx356_0;replace hx356_1:=(HB.out.cell (World.block_lt_of_cell? w _ hx356_1)).trans hx356_1;replace hx356_2:=(HB.out.cell (World.block_lt_of_cell? w _ hx356_2)).trans hx356_2;replace hx356_3:=(HB.out.cell (World.block_lt_of_cell? w _ hx356_3)).trans hx356_3;replace hx356_4:=(HB.out.cell (World.block_lt_of_cell? w _ hx356_4)).trans hx356_4;replace hx356_5:=(HB.out.cell (World.block_lt_of_cell? w _ hx356_5)).trans hx356_5;replace hx356_6:=(HB.out.cell (World.block_lt_of_cell? w _ hx356_6)).trans hx356_6;replace hx356_7:=(HB.out.cell (World.block_lt_of_cell? w _ hx356_7)).trans hx356_7;replace hx356_8:=(HB.out.cell (World.block_lt_of_cell? w _ hx356_8)).trans hx356_8;replace hx356_9:=(HB.out.cell (World.block_lt_of_cell? w _ hx356_9)).trans hx356_9;have HR356_3:=Ak hi356_3;have HC356_3:=Ak hl356_3;clear hi356_3 hl356_3;have HR356_4:=Ak hi356_4;have HC356_4:=Ak hl356_4;clear hi356_4 hl356_4;have HR356_5:=Ak hi356_5;have HC356_5:=Ak hl356_5;clear hi356_5 hl356_5;have HR356_8:=Ak hi356_8;have HC356_8:=Ak hl356_8;clear hi356_8 hl356_8;have HR356_9:=Ak hi356_9;have HC356_9:=Ak hl356_9;clear hi356_9 hl356_9;replace p356:=eq_true p356;replace q356:=eq_true q356;have ea_:=Option.some.inj (hx354_3.symm.trans hx356_3);injection ea_ with ea_ en_ ec_;subst ea_;subst ec_;clear en_;have ea_:=Option.some.inj (hx354_4.symm.trans hx356_4);injection ea_ with ea_ en_ ec_;subst ea_;subst ec_;clear en_;have ea_:=Option.some.inj (hx354_5.symm.trans hx356_5);injection ea_ with ea_ en_ ec_;subst ea_;subst ec_;clear en_;have ea_:=Option.some.inj (hx354_8.symm.trans hx356_8);injection ea_ with ea_ en_ ec_;subst ea_;subst ec_;clear en_;have ea_:=Option.some.inj (hx354_9.symm.trans hx356_9);injection ea_ with ea_ en_ ec_;subst ea_;subst ec_;clear en_))
               (try (rw [drewN_self w30];generalize hq_:World.drewN w30 _=w30;have n0_:Aside0 (Below w.heap.size w w30):=⟨by rw [← hq_];exact (by repeat (first|(with_reducible first|exact HB.out|apply below_alloc|apply pw_below_drewN|apply below_drew1)|exact HB.out))⟩;clear HB hq_;have HB:=n0_;clear n0_))
               have n0_:=Ak (below_drew1 HB.out)
               clear HB;have HB:=n0_;clear n0_
               have p357:0≤(x5_1:Int):=of_decide_eq_true (by first|(with_reducible assumption)|assumption)
               have q357:x5_1<(l0.length:Int):=of_decide_eq_true (by first|(with_reducible assumption)|assumption)
               obtain ⟨ad357,A357_3,c357_3,A357_4,c357_4,A357_5,c357_5,A357_8,c357_8,A357_9,c357_9,e357,hx357_0,hx357_1,hx357_2,hx357_3,hx357_4,hx357_5,hx357_6,hx357_7,hx357_8,hx357_9,hl357_3,hi357_3,hl357_4,hi357_4,hl357_5,hi357_5,hl357_8,hi357_8,hl357_9,hi357_9⟩:=at_T38 HR0.out x5_1 p357 q357
               have hw357_9:=hx357_9;have hw357_8:=hx357_8;have hw357_7:=hx357_7;have hw357_6:=hx357_6;have hw357_5:=hx357_5;have hw357_4:=hx357_4;have hw357_3:=hx357_3;have hw357_2:=hx357_2;have hw357_1:=hx357_1;have hw357_0:=hx357_0
               obtain rfl:ad347=ad357:=(by injection e357)
               replace hx357_0:=(HB.out.cell (World.block_lt_of_cell? w _ hx357_0)).trans hx357_0
               replace hx357_1:=(HB.out.cell (World.block_lt_of_cell? w _ hx357_1)).trans hx357_1
               replace hx357_2:=(HB.out.cell (World.block_lt_of_cell? w _ hx357_2)).trans hx357_2
               replace hx357_3:=(HB.out.cell (World.block_lt_of_cell? w _ hx357_3)).trans hx357_3
               replace hx357_4:=(HB.out.cell (World.block_lt_of_cell? w _ hx357_4)).trans hx357_4
               replace hx357_5:=(HB.out.cell (World.block_lt_of_cell? w _ hx357_5)).trans hx357_5
               replace hx357_6:=(HB.out.cell (World.block_lt_of_cell? w _ hx357_6)).trans hx357_6
               replace hx357_7:=(HB.out.cell (World.block_lt_of_cell? w _ hx357_7)).trans hx357_7
               replace hx357_8:=(HB.out.cell (World.block_lt_of_cell? w _ hx357_8)).trans hx357_8
               replace hx357_9:=(HB.out.cell (World.block_lt_of_cell? w _ hx357_9)).trans hx357_9
               have HR357_3:=Ak hi357_3;have HC357_3:=Ak hl357_3;clear hi357_3 hl357_3;have HR357_4:=Ak hi357_4;have HC357_4:=Ak hl357_4;clear hi357_4 hl357_4;have HR357_5:=Ak hi357_5;have HC357_5:=Ak hl357_5;clear hi357_5 hl357_5;have HR357_8:=Ak hi357_8;have HC357_8:=Ak hl357_8;clear hi357_8 hl357_8;have HR357_9:=Ak hi357_9;have HC357_9:=Ak hl357_9
               clear hi357_9 hl357_9
               replace p357:=eq_true p357
               replace q357:=eq_true q357
               refine start_ (n:=8) (S:=fun w'=>w'.cell? (ad347.add ((x5_1).toNat*10))=some (.int .i64 ((rd_T38 l0 x5_1).f0))∧w'.cell? ⟨(ad347.add ((x5_1).toNat*10)).block,(ad347.add ((x5_1).toNat*10)).off+1,none⟩=some (.bool ((rd_T38 l0 x5_1).f1))∧w'.cell? ⟨(ad347.add ((x5_1).toNat*10)).block,(ad347.add ((x5_1).toNat*10)).off+2,none⟩=some (.int .i64 ((rd_T38 l0 x5_1).f2))∧w'.cell? ⟨(ad347.add ((x5_1).toNat*10)).block,(ad347.add ((x5_1).toNat*10)).off+3,none⟩=some (.slice A357_3 ((rd_T38 l0 x5_1).f3).length c357_3)∧w'.cell? ⟨(ad347.add ((x5_1).toNat*10)).block,(ad347.add ((x5_1).toNat*10)).off+4,none⟩=some (.slice A357_4 ((rd_T38 l0 x5_1).f4).length c357_4)∧w'.cell? ⟨(ad347.add ((x5_1).toNat*10)).block,(ad347.add ((x5_1).toNat*10)).off+5,none⟩=some (.slice A357_5 ((rd_T38 l0 x5_1).f5).length c357_5)∧w'.cell? ⟨(ad347.add ((x5_1).toNat*10)).block,(ad347.add ((x5_1).toNat*10)).off+6,none⟩=some (.int .i64 ((rd_T38 l0 x5_1).f6))∧w'.cell? ⟨(ad347.add ((x5_1).toNat*10)).block,(ad347.add ((x5_1).toNat*10)).off+7,none⟩=some (.string ((rd_T38 l0 x5_1).f7))∧w'.cell? ⟨(ad347.add ((x5_1).toNat*10)).block,(ad347.add ((x5_1).toNat*10)).off+8,none⟩=some (.slice A357_8 ((rd_T38 l0 x5_1).f8).length c357_8)∧w'.cell? ⟨(ad347.add ((x5_1).toNat*10)).block,(ad347.add ((x5_1).toNat*10)).off+9,none⟩=some (.slice A357_9 ((rd_T38 l0 x5_1).f9).length c357_9)) (ds:=[]) #[false,false,false,false,false,false,false,false] (by kernel_rfl) rfl rfl ⟨((HB.out.cell (World.block_lt_of_cell? w _ hw357_0)).trans hw357_0),((HB.out.cell (World.block_lt_of_cell? w _ hw357_1)).trans hw357_1),((HB.out.cell (World.block_lt_of_cell? w _ hw357_2)).trans hw357_2),((HB.out.cell (World.block_lt_of_cell? w _ hw357_3)).trans hw357_3),((HB.out.cell (World.block_lt_of_cell? w _ hw357_4)).trans hw357_4),((HB.out.cell (World.block_lt_of_cell? w _ hw357_5)).trans hw357_5),((HB.out.cell (World.block_lt_of_cell? w _ hw357_6)).trans hw357_6),((HB.out.cell (World.block_lt_of_cell? w _ hw357_7)).trans hw357_7),((HB.out.cell (World.block_lt_of_cell? w _ hw357_8)).trans hw357_8),((HB.out.cell (World.block_lt_of_cell? w _ hw357_9)).trans hw357_9)⟩ (fun hHeld=>?_);refine with_tabW laws_heldProtoS.tab25 laws_heldProtoS.bits25 (fun HT_ HW_=>?_)
               generalize w30.drew=w31 at HB HR357_3 HR357_4 HR357_5 HR357_8 HR357_9 hx357_0 hx357_1 hx357_2 hx357_3 hx357_4 hx357_5 hx357_6 hx357_7 hx357_8 hx357_9 hHeld ⊢
               refine pure_ (i:=0) (N:=some 77) (v:=?_) (a':=?_) #[true,false,false,false,false,false,false,false] rfl rfl (any_of HT_.out (by kernel_rfl)) (fun _ _ _ h=>h) (Or.inl ⟨by rfl,?_⟩) ?_ ?_
               rotate_left
               ·intro w'
                go_simp
                with_reducible rfl
               rotate_left
               ·simp only [Act.put,List.setIfInBounds_toArray,List.set_cons_zero,List.set_cons_succ,i64_w,i32_w]
                rfl
               refine pure_ (i:=1) (N:=some 78) (v:=?_) (a':=?_) #[true,true,false,false,false,false,false,false] rfl rfl (any_of HT_.out (by kernel_rfl)) (fun _ _ _ h=>h) (Or.inl ⟨by rfl,?_⟩) ?_ ?_
               rotate_left
               ·intro w'
                go_simp
                with_reducible rfl
               rotate_left
               ·simp only [Act.put,List.setIfInBounds_toArray,List.set_cons_zero,List.set_cons_succ,i64_w,i32_w]
                rfl
               refine pure_ (i:=2) (N:=some 79) (v:=?_) (a':=?_) #[true,true,true,false,false,false,false,false] rfl rfl (any_of HT_.out (by kernel_rfl)) (fun _ _ _ h=>h) (Or.inl ⟨by rfl,?_⟩) ?_ ?_
               rotate_left
               ·intro w'
                go_simp
                with_reducible rfl
               rotate_left
               ·simp only [Act.put,List.setIfInBounds_toArray,List.set_cons_zero,List.set_cons_succ,i64_w,i32_w]
                rfl
               refine pure_ (i:=3) (N:=some 80) (v:=?_) (a':=?_) #[true,true,true,true,false,false,false,false] rfl rfl (any_of HT_.out (by kernel_rfl)) (fun _ _ _ h=>h) (Or.inl ⟨by rfl,?_⟩) ?_ ?_
               rotate_left
               ·intro w'
                go_simp
                with_reducible rfl
               rotate_left
               ·simp only [Act.put,List.setIfInBounds_toArray,List.set_cons_zero,List.set_cons_succ,i64_w,i32_w]
                rfl
               refine pure_ (i:=5) (N:=some 82) (v:=?_) (a':=?_) #[true,true,true,true,false,true,false,false] rfl rfl (any_of HT_.out (by kernel_rfl)) (fun _ _ _ h=>h) (Or.inl ⟨by rfl,?_⟩) ?_ ?_
               rotate_left
               ·intro w'
                go_simp
                with_reducible rfl
               rotate_left
               ·simp only [Act.put,List.setIfInBounds_toArray,List.set_cons_zero,List.set_cons_succ,i64_w,i32_w]
                rfl
               refine take_ (i:=4) (N:=some 81) (v:=?_) (a':=?_) #[true,true,true,true,true,true,false,false] rfl rfl (take_ofW HT_.out HW_.out (by kernel_rfl)) (fun _ _ _ h=>h) (Or.inl ⟨by rfl,?_⟩) hHeld ?_ ?_
               rotate_left
               ·rintro w' ⟨s0,s1,s2,s3,s4,s5,s6,s7,s8,s9⟩
                go_simp
                with_reducible rfl
               rotate_left
               ·simp only [Act.put,List.setIfInBounds_toArray,List.set_cons_zero,List.set_cons_succ,i64_w,i32_w]
                rfl
               refine one_ (i:=6) (N:=some 83) #[true,true,true,true,true,true,true,false] rfl rfl (one_of HT_.out (by kernel_rfl)) (by decide) (fun K hK=>?_)
               refine goes_ Tryd.func46 (by kernel_rfl) rfl #[.int .i64 (wrap64 (t355+1))] (by rfl) rfl rfl (by (try simp only [List.map_toArray,List.map_cons,List.map_nil]);first|done|rfl|(simp only [List.length_drop,List.length_take];rfl)) ?_
               with_reducible refine (laws_markText.calls k1 (wrap64 (t355+1)) t358 _ A17.out).mono ?_
               rintro e w32 ⟨rfl,hb⟩
               refine ⟨_,rfl,?_⟩
               have n0_:=Ak (below_step (by repeat (first|(with_reducible first|exact HB.out|apply below_alloc|apply pw_below_drewN|apply below_drew1)|exact HB.out)) hb)
               clear HB;have HB:=n0_;clear n0_
               (try clear hb)
               (try clear hb2)
               (try clear hk)
               (try clear hi)
               refine hK.out _ _ ⟨((HB.out.cell (World.block_lt_of_cell? w _ hw357_0)).trans hw357_0),((HB.out.cell (World.block_lt_of_cell? w _ hw357_1)).trans hw357_1),((HB.out.cell (World.block_lt_of_cell? w _ hw357_2)).trans hw357_2),((HB.out.cell (World.block_lt_of_cell? w _ hw357_3)).trans hw357_3),((HB.out.cell (World.block_lt_of_cell? w _ hw357_4)).trans hw357_4),((HB.out.cell (World.block_lt_of_cell? w _ hw357_5)).trans hw357_5),((HB.out.cell (World.block_lt_of_cell? w _ hw357_6)).trans hw357_6),((HB.out.cell (World.block_lt_of_cell? w _ hw357_7)).trans hw357_7),((HB.out.cell (World.block_lt_of_cell? w _ hw357_8)).trans hw357_8),((HB.out.cell (World.block_lt_of_cell? w _ hw357_9)).trans hw357_9)⟩ (fun hHeld=>?_)
               clear hK K
               refine norm_ (a':=?_) ?_ ?_
               rotate_left
               ·show Act.put _ (some 83) _=_
                simp only [Act.put,List.setIfInBounds_toArray,List.set_cons_zero,List.set_cons_succ,i64_w,i32_w]
                rfl
               refine pure_ (i:=7) (N:=some 84) (v:=?_) (a':=?_) #[true,true,true,true,true,true,true,true] rfl rfl (any_of HT_.out (by kernel_rfl)) (fun _ _ _ h=>h) (Or.inl ⟨by rfl,?_⟩) ?_ ?_
               rotate_left
               ·intro w'
                go_simp
                with_reducible rfl
               rotate_left
               ·simp only [Act.put,List.setIfInBounds_toArray,List.set_cons_zero,List.set_cons_succ,i64_w,i32_w]
                rfl
               refine done_ (done_of HT_.out (by kernel_rfl)) ?_
               have p359:0≤(x5_1:Int):=of_decide_eq_true (by first|(with_reducible assumption)|assumption)
               have q359:x5_1<(l0.length:Int):=of_decide_eq_true (by first|(with_reducible assumption)|assumption)
               obtain ⟨ad359,A359_3,c359_3,A359_4,c359_4,A359_5,c359_5,A359_8,c359_8,A359_9,c359_9,e359,hx359_0,hx359_1,hx359_2,hx359_3,hx359_4,hx359_5,hx359_6,hx359_7,hx359_8,hx359_9,hl359_3,hi359_3,hl359_4,hi359_4,hl359_5,hi359_5,hl359_8,hi359_8,hl359_9,hi359_9⟩:=at_T38 HR0.out x5_1 p359 q359
               obtain rfl:ad347=ad359:=(by injection e359)
               replace hx359_0:=(HB.out.cell (World.block_lt_of_cell? w _ hx359_0)).trans hx359_0
               replace hx359_1:=(HB.out.cell (World.block_lt_of_cell? w _ hx359_1)).trans hx359_1
               replace hx359_2:=(HB.out.cell (World.block_lt_of_cell? w _ hx359_2)).trans hx359_2
               replace hx359_3:=(HB.out.cell (World.block_lt_of_cell? w _ hx359_3)).trans hx359_3
               replace hx359_4:=(HB.out.cell (World.block_lt_of_cell? w _ hx359_4)).trans hx359_4
               replace hx359_5:=(HB.out.cell (World.block_lt_of_cell? w _ hx359_5)).trans hx359_5
               replace hx359_6:=(HB.out.cell (World.block_lt_of_cell? w _ hx359_6)).trans hx359_6
               replace hx359_7:=(HB.out.cell (World.block_lt_of_cell? w _ hx359_7)).trans hx359_7
               replace hx359_8:=(HB.out.cell (World.block_lt_of_cell? w _ hx359_8)).trans hx359_8
               replace hx359_9:=(HB.out.cell (World.block_lt_of_cell? w _ hx359_9)).trans hx359_9
               have HR359_3:=Ak hi359_3;have HC359_3:=Ak hl359_3;clear hi359_3 hl359_3;have HR359_4:=Ak hi359_4;have HC359_4:=Ak hl359_4;clear hi359_4 hl359_4;have HR359_5:=Ak hi359_5;have HC359_5:=Ak hl359_5;clear hi359_5 hl359_5;have HR359_8:=Ak hi359_8;have HC359_8:=Ak hl359_8;clear hi359_8 hl359_8;have HR359_9:=Ak hi359_9;have HC359_9:=Ak hl359_9
               clear hi359_9 hl359_9
               replace p359:=eq_true p359
               replace q359:=eq_true q359
               have ea_:=Option.some.inj (hx359_3.symm.trans ((HB.out.cell (World.block_lt_of_cell? w _ hw357_3)).trans hw357_3));injection ea_ with ea_ en_ ec_;subst ea_;subst ec_;clear en_
               have ea_:=Option.some.inj (hx359_4.symm.trans ((HB.out.cell (World.block_lt_of_cell? w _ hw357_4)).trans hw357_4));injection ea_ with ea_ en_ ec_;subst ea_;subst ec_;clear en_
               have ea_:=Option.some.inj (hx359_5.symm.trans ((HB.out.cell (World.block_lt_of_cell? w _ hw357_5)).trans hw357_5));injection ea_ with ea_ en_ ec_;subst ea_;subst ec_;clear en_
               have ea_:=Option.some.inj (hx359_8.symm.trans ((HB.out.cell (World.block_lt_of_cell? w _ hw357_8)).trans hw357_8));injection ea_ with ea_ en_ ec_;subst ea_;subst ec_;clear en_
               have ea_:=Option.some.inj (hx359_9.symm.trans ((HB.out.cell (World.block_lt_of_cell? w _ hw357_9)).trans hw357_9));injection ea_ with ea_ en_ ec_;subst ea_;subst ec_;clear en_
               try go_wp2_with (first|((with_reducible refine gate_callee (f:=52) rfl ?_);refine goesL_ (some 93) rfl rfl Tryd.func52 (by kernel_rfl) rfl #[.slice A359_8 ((rd_T38 l0 x5_1).f8).length c359_8,.int .i64 (wrap64 ((wrap64 (t355+1))+1))] rfl (by (try simp only [List.map_toArray,List.map_cons,List.map_nil]);first|done|rfl|(simp only [List.length_drop,List.length_take];rfl)) ?_;(with_reducible refine (laws_heldIntS.calls k1 _ _ ((rd_T38 l0 x5_1).f8) (wrap64 ((wrap64 (t355+1))+1)) t360 _ ?side1 ?side2 A19.out).mono ?_);(case side1=>repeat (first|exact (Kd.C_below HR359_8.out HB.out)|(with_reducible refine Kd.C_alloc ?_ _)|(with_reducible refine Kd.C_drewN ?_ _)|(with_reducible refine Kd.C_drew ?_)));(case side2=>exact HC359_8.out);rintro e w' ⟨rfl,⟨nd,rfl⟩⟩;refine ⟨_,rfl,?_⟩;have p361:0≤(x5_1:Int):=of_decide_eq_true (by first|(with_reducible assumption)|assumption);have q361:x5_1<(l0.length:Int):=of_decide_eq_true (by first|(with_reducible assumption)|assumption);obtain ⟨ad361,A361_3,c361_3,A361_4,c361_4,A361_5,c361_5,A361_8,c361_8,A361_9,c361_9,e361,hx361_0,hx361_1,hx361_2,hx361_3,hx361_4,hx361_5,hx361_6,hx361_7,hx361_8,hx361_9,hl361_3,hi361_3,hl361_4,hi361_4,hl361_5,hi361_5,hl361_8,hi361_8,hl361_9,hi361_9⟩:=at_T38 HR0.out x5_1 p361 q361;obtain rfl:ad347=ad361:=(by injection e361);replace hx361_0:=(HB.out.cell (World.block_lt_of_cell? w _ hx361_0)).trans hx361_0;replace hx361_1:=(HB.out.cell (World.block_lt_of_cell? w _ hx361_1)).trans hx361_1;replace hx361_2:=(HB.out.cell (World.block_lt_of_cell? w _ hx361_2)).trans hx361_2;replace hx361_3:=(HB.out.cell (World.block_lt_of_cell? w _ hx361_3)).trans hx361_3;replace hx361_4:=(HB.out.cell (World.block_lt_of_cell? w _ hx361_4)).trans hx361_4;replace hx361_5:=(HB.out.cell (World.block_lt_of_cell? w _ hx361_5)).trans hx361_5;replace hx361_6:=(HB.out.cell (World.block_lt_of_cell? w _ hx361_6)).trans hx361_6;replace hx361_7:=(HB.out.cell (World.block_lt_of_cell? w _ hx361_7)).trans hx361_7;replace hx361_8:=(HB.out.cell (World.block_lt_of_cell? w _ hx361_8)).trans hx361_8;replace hx361_9:=(HB.out.cell (World.block_lt_of_cell? w _ hx361_9)).trans hx361_9;have HR361_3:=Ak hi361_3;have HC361_3:=Ak hl361_3;clear hi361_3 hl361_3;have HR361_4:=Ak hi361_4;have HC361_4:=Ak hl361_4;clear hi361_4 hl361_4;have HR361_5:=Ak hi361_5;have HC361_5:=Ak hl361_5;clear hi361_5 hl361_5;have HR361_8:=Ak hi361_8;have HC361_8:=Ak hl361_8;clear hi361_8 hl361_8;have HR361_9:=Ak hi361_9;have HC361_9:=Ak hl361_9;clear hi361_9 hl361_9;replace p361:=eq_true p361;replace q361:=eq_true q361;have ea_:=Option.some.inj (hx359_3.symm.trans hx361_3);injection ea_ with ea_ en_ ec_;subst ea_;subst ec_;clear en_;have ea_:=Option.some.inj (hx359_4.symm.trans hx361_4);injection ea_ with ea_ en_ ec_;subst ea_;subst ec_;clear en_;have ea_:=Option.some.inj (hx359_5.symm.trans hx361_5);injection ea_ with ea_ en_ ec_;subst ea_;subst ec_;clear en_;have ea_:=Option.some.inj (hx359_8.symm.trans hx361_8);injection ea_ with ea_ en_ ec_;subst ea_;subst ec_;clear en_;have ea_:=Option.some.inj (hx359_9.symm.trans hx361_9);injection ea_ with ea_ en_ ec_;subst ea_;subst ec_;clear en_)|((with_reducible refine gate_callee (f:=53) rfl ?_);refine goesL_ (some 102) rfl rfl Tryd.func53 (by kernel_rfl) rfl #[.slice A359_9 ((rd_T38 l0 x5_1).f9).length c359_9,.int .i64 t360] rfl (by (try simp only [List.map_toArray,List.map_cons,List.map_nil]);first|done|rfl|(simp only [List.length_drop,List.length_take];rfl)) ?_;(with_reducible refine (laws_heldStringS.calls k1 _ _ ((rd_T38 l0 x5_1).f9) t360 t362 _ ?side1 ?side2 A24.out (by simp only [decide_eq_false_iff_not,Int.not_lt] at *;omega)).mono ?_);(case side1=>repeat (first|exact (Kd.C_below HR361_9.out (by repeat (first|(with_reducible first|exact HB.out|apply below_alloc|apply pw_below_drewN|apply below_drew1)|exact HB.out)))|(with_reducible refine Kd.C_alloc ?_ _)|(with_reducible refine Kd.C_drewN ?_ _)|(with_reducible refine Kd.C_drew ?_)));(case side2=>exact HC361_9.out);rintro e w33 ⟨rfl,hb⟩;refine ⟨_,rfl,?_⟩;have n0_:=Ak (below_step (by repeat (first|(with_reducible first|exact HB.out|apply below_alloc|apply pw_below_drewN|apply below_drew1)|exact HB.out)) hb);clear HB;have HB:=n0_;clear n0_;(try clear hb);(try clear hb2);(try clear hk);(try clear hi)))
               go_roundg k1
               case measure=>have:=HK1.out;omega
               case rel=>exact ⟨(t362),(wrap64 (x5_1+1)),(by first|rfl|(simp;done)|(simp [*];done)),(by first|rfl|(simp;done)|(simp [*];done)),H',⟨by have:=HK1.out;omega⟩,⟨by repeat (first|(with_reducible first|exact HB.out|apply below_alloc|apply pw_below_drewN|apply below_drew1)|exact HB.out)⟩⟩
            ·rw [if_neg c18] at H
             have c18b0:(((rd_T38 l0 x5_1).f7).toList == t358.toList)=false:=beq_eq_false_iff_ne.mpr c18
             have c18b1:(((rd_T38 l0 x5_1).f7).toList != t358.toList)=true:=bne_iff_ne.mpr c18
             exact absurd (Option.some.inj H) (by have:=HP_.out;omega)
           ·rw [if_neg c16] at H
            have c16b0:(((rd_T38 l0 x5_1).f6) == t355)=false:=beq_eq_false_iff_ne.mpr c16
            have c16b1:(((rd_T38 l0 x5_1).f6) != t355)=true:=bne_iff_ne.mpr c16
            exact absurd (Option.some.inj H) (by have:=HP_.out;omega)
       ·rw [if_neg c7] at H
        have c7b0:(((rd_T38 l0 x5_1).f2) == (wrap64 ((wrap64 (x1_1+1))+1)))=false:=beq_eq_false_iff_ne.mpr c7
        have c7b1:(((rd_T38 l0 x5_1).f2) != (wrap64 ((wrap64 (x1_1+1))+1)))=true:=bne_iff_ne.mpr c7
        exact absurd (Option.some.inj H) (by have:=HP_.out;omega)
     ·rw [if_neg c5] at H
      have c5b0:(((rd_T38 l0 x5_1).f0) == x1_1)=false:=beq_eq_false_iff_ne.mpr c5
      have c5b1:(((rd_T38 l0 x5_1).f0) != x1_1)=true:=bne_iff_ne.mpr c5
      exact absurd (Option.some.inj H) (by have:=HP_.out;omega)
    ·rw [if_neg c4] at H
     exact absurd H (by simp)
   ·rw [if_neg c3] at H
    have c3b0:decide (x5_1<(l0.length:Int))=false:=decide_eq_false c3
    clear c3
    obtain rfl:=Option.some.inj H
    go_wp2
    go_ret
    exact ⟨by first|rfl|(simp [errW_none,errW_some] <;> rfl)|(simp [*,errW_none,errW_some] <;> rfl),by repeat (first|(with_reducible first|exact HB.out|apply below_alloc|apply pw_below_drewN|apply below_drew1)|exact HB.out)⟩
def laws_heldChunk.f (k:Nat) (l0_0:List (S38)) (a1:Int):Option (Int):=(laws_heldProtoS.f k l0_0 a1).bind fun t364=>(if t364<0 then (some (-1)) else (some t364))
set_option maxHeartbeats 8000000 in
set_option maxRecDepth 100000 in
theorem laws_heldChunk.calls (k:Nat) (A0_0:Option Addr) (c0_0:Nat) (l0_0:List (S38)) (a1:Int) (r:Int) (w:World) (hr0_0:Kd.C k38 w A0_0 l0_0.length l0_0) (hc0_0:l0_0.length≤c0_0) (h:laws_heldChunk.f k l0_0 a1=some r) (hp_:0≤r) :
  Calls Tryd.prog 8 #[.agg #[.slice A0_0 l0_0.length c0_0],.int .i64 a1] w fun e w'=>e=.returned (.int .i64 r)∧Below w.heap.size w w':=by
 have HP_:=Ak hp_;clear hp_
 have hu24:=Tryd.underlying24
 have HR0_0:=Ak hr0_0;have HC0_0:=Ak hc0_0;clear hr0_0 hc0_0
 have HB:=Ak (Below.refl w.heap.size w)
 have H:((laws_heldProtoS.f k l0_0 a1).bind fun t364=>(if t364<0 then (some (-1)) else (some t364)))=some r:=h
 clear h
 replace H:=Option.bind_eq_some_iff.mp H
 obtain ⟨t364,A30,H⟩:=H
 replace H:(if t364<0 then (some (-1)) else (some t364))=some r:=H
 have A3:=Ak A30;clear A30
 by_cases c4:t364<0
 ·rw [if_pos c4] at H
  have c4b0:decide (t364<0)=true:=decide_eq_true c4
  clear c4
  exact absurd (Option.some.inj H) (by have:=HP_.out;omega)
 ·rw [if_neg c4] at H
  have c4b0:decide (t364<0)=false:=decide_eq_false c4
  clear c4
  obtain rfl:=Option.some.inj H
  go_enter Tryd.func8,Tryd.ntmps8
  go_wp2_with (first|((with_reducible refine gate_dst (N:=2) rfl ?_);refine box_event ?hg (N:=2) ?hd (cs:=#[.slice A0_0 l0_0.length c0_0]) (t:=24) ?hr ?_;(case hd=>rfl);(case hg=>rfl);(case hr=>first|(go_simp;done)|(go_simp;rfl));intro gb363 hg w8 hbox hb;have n0_:=Ak (below_step (by repeat (first|(with_reducible first|exact HB.out|apply below_alloc|apply pw_below_drewN|apply below_drew1)|exact HB.out)) hb);have n1_:=Ak (hbox);have n2_:=Ak ((by rw [hg];exact (below_size (by repeat (first|(with_reducible first|exact HB.out|apply below_alloc|apply pw_below_drewN|apply below_drew1)|exact HB.out))):w.heap.size≤gb363));have n3_:=Ak ((by rw [hg];exact (below_size (by repeat (first|(with_reducible first|exact HB.out|apply below_alloc|apply pw_below_drewN|apply below_drew1)|exact HB.out))):w.heap.size≤gb363));clear HB;have HB:=n0_;have BK363:=n1_;have GW363:=n2_;have GE363:=n3_;clear n0_ n1_ n2_ n3_;clear hb hbox hg;obtain ⟨hcz9_0,hfz9_0⟩:=bk1 BK363.out)|((with_reducible refine gate_callee (f:=17) rfl ?_);refine goesL_ (some 8) rfl rfl Tryd.func17 (by kernel_rfl) rfl #[.slice A0_0 l0_0.length c0_0,.int .i64 a1] rfl (by (try simp only [List.map_toArray,List.map_cons,List.map_nil]);first|done|rfl|(simp only [List.length_drop,List.length_take];rfl)) ?_;(with_reducible refine (laws_heldProtoS.calls k _ _ l0_0 a1 t364 _ ?side1 ?side2 A3.out HP_.out).mono ?_);(case side1=>repeat (first|exact (Kd.C_below HR0_0.out HB.out)|(with_reducible refine Kd.C_alloc ?_ _)|(with_reducible refine Kd.C_drewN ?_ _)|(with_reducible refine Kd.C_drew ?_)));(case side2=>exact HC0_0.out);rintro e w10 ⟨rfl,hb⟩;refine ⟨_,rfl,?_⟩;have n0_:=Ak (blk_below (g:=gb363) (by (with_reducible repeat (first|refine blk_drewN ?_ _|refine blk_drew ?_|refine blk_alloc ?_ _));exact BK363.out) hb);have n1_:=Ak (below_step (by repeat (first|(with_reducible first|exact HB.out|apply below_alloc|apply pw_below_drewN|apply below_drew1|refine below_set ?_ GE363.out)|exact HB.out)) hb);clear BK363;clear HB;have BK363:=n0_;have HB:=n1_;clear n0_ n1_;(try clear hb);(try clear hb2);(try clear hk);(try clear hi)))
  go_ret
  exact ⟨by first|rfl|(simp [errW_none,errW_some] <;> rfl)|(simp [*,errW_none,errW_some] <;> rfl),by repeat (first|(with_reducible first|exact HB.out|apply below_alloc|apply pw_below_drewN|apply below_drew1|refine below_set ?_ GE363.out)|exact HB.out)⟩
-- NOT PRINTED: function 3 (laws_FnExactLoad)
end Go.Proofs.YtiekodnojmkfaaaDoor.PFnExactLoad
