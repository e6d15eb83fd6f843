-- Printed by the kit's print or by this session's program, then cut and tightened by it.
import Derived.Test.YtiekodnojmkfaaaPFnExactStripx0
import Derived.Test.YtiekodnojmkfaaaPFnExactStripx12
import Derived.Test.YtiekodnojmkfaaaPFnExactStripx13
import Derived.Test.YtiekodnojmkfaaaPFnExactStripx14
namespace Go.Proofs.Ytiekodnojmkfaaa.PFnExactStrip
open Go.RowKit Go.Proofs.YtiekodnojmkfaaaW.PrintWords Go.Proofs.YtiekodnojmkfaaaW.PrintLast Go.Proofs.YtiekodnojmkfaaaW.PrintMore
attribute [local go_sem] max2_int min2_int max_two min_two max_three min_three max_four min_four   -- for this text's walks alone
set_option linter.unusedVariables false
set_option linter.unusedSimpArgs false
def laws_heldProtoS.l0:Nat→List (S44)→Int→Int→Option (Int)
 | 0,_,_,_=>none
 | k+1,x0,x1,x5=>if x5<(x0.length:Int) then (if 0≤x5 then (if ((rd_T44 x0 x5).f0)=x1 then (if (((rd_T44 x0 x5).f1) != ((Int.tmod (wrap64 (x1+1)) 3) == 0))=true then (some (-1)) else (if ((rd_T44 x0 x5).f2)=(wrap64 ((wrap64 (x1+1))+1)) then ((laws_heldUint32S.f k ((rd_T44 x0 x5).f3) (wrap64 ((wrap64 ((wrap64 (x1+1))+1))+1))).bind fun t343=>(if t343<0 then (some (-1)) else ((laws_heldValueS.f k ((rd_T44 x0 x5).f4) t343).bind fun t345=>(if t345<0 then (some (-1)) else ((laws_heldUpS.f k ((rd_T44 x0 x5).f5) t345).bind fun t347=>(if t347<0 then (some (-1)) else (if ((rd_T44 x0 x5).f6)=t347 then ((laws_markText.f k (wrap64 (t347+1))).bind fun t350=>(if ((rd_T44 x0 x5).f7).toList=t350.toList then ((laws_heldIntS.f k ((rd_T44 x0 x5).f8) (wrap64 ((wrap64 (t347+1))+1))).bind fun t352=>(if t352<0 then (some (-1)) else ((laws_heldStringS.f k ((rd_T44 x0 x5).f9) t352).bind fun t354=>(if t354<0 then (some (-1)) else (laws_heldProtoS.l0 k x0 t354 (wrap64 (x5+1))))))) else (some (-1)))) else (some (-1))))))))) else (some (-1)))) else (some (-1))) else (none)) else (some x1)
def laws_heldProtoS.f (k:Nat) (l0:List (S44)) (a1:Int):Option (Int):=laws_heldProtoS.l0 k l0 a1 0
def laws_heldProtoS.T25:Bool×List (List Nat×List Nat):=(true,[([],[]),([],[]),([0,1],[0,1]),([2],[2]),([3],[3]),([],[]),([5],[5]),([4,6],[4,6])])
def laws_heldProtoS.B25:List Nat:=[0,0,3,7,15,0,32,127]
theorem laws_heldProtoS.tab25:rtab .any (opsOf Try.f53 25)=laws_heldProtoS.T25:=by kernel_rfl
theorem laws_heldProtoS.bits25:waitsOk laws_heldProtoS.T25.2 laws_heldProtoS.B25=true:=by kernel_rfl
set_option maxHeartbeats 8000000 in
set_option maxRecDepth 100000 in
theorem laws_heldProtoS.calls (k:Nat) (A0:Option Addr) (c0:Nat) (l0:List (S44)) (a1:Int) (r:Int) (w:World) (hr0:Kd.C k44 w A0 l0.length l0) (hc0:l0.length≤c0) (h:laws_heldProtoS.f k l0 a1=some r) (hp_:0≤r) :
  Calls Try.prog 53 #[.slice A0 l0.length c0,.int .i64 a1] w fun e w'=>e=.returned (.int .i64 r)∧Below w.heap.size w w':=by
 have HP_:=Ak hp_;clear hp_;have HR0:=Ak hr0;have HC0:=Ak hc0;clear hr0 hc0
 have HB:=Ak (Below.refl w.heap.size w)
 have H:(laws_heldProtoS.l0 k l0 a1 0)=some r:=h
 clear h
 have H':=Ak H
 clear H
 go_enter Try.func53,Try.ntmps53
 go_wp2
 go_loopg [1,5] k (fun kq v1 v5 w'=>∃ (x1_1:Int) (x5_1:Int),v1=.int .i64 x1_1∧v5=.int .i64 x5_1∧Aside0 (laws_heldProtoS.l0 kq l0 x1_1 x5_1=some r)∧Aside0 (kq≤k)∧Aside0 (Below w.heap.size w w'))
 case atStart=>exact ⟨(a1),(0),(by first|rfl|(simp;done)|(simp [*];done)),(by first|rfl|(simp;done)|(simp [*];done)),H',⟨Nat.le_refl _⟩,⟨by repeat (first|(with_reducible first|exact HB.out|apply below_alloc|apply pw_below_drewN|apply below_drew1)|exact HB.out)⟩⟩
 case round =>
  clear H';(try clear p2)
  obtain ⟨x1_1,x5_1,rfl,rfl,HA,HK1,HB⟩:=hrel
  cases gk with
  | zero=>exact absurd HA.out (by simp [laws_heldProtoS.l0])
  | succ k1 =>
   have H:=HA.out
   clear HA
   simp only [laws_heldProtoS.l0] at H
   by_cases c3:x5_1<(l0.length:Int)
   ·rw [if_pos c3] at H
    have c3b0:decide (x5_1<(l0.length:Int))=true:=decide_eq_true c3
    clear c3
    by_cases c4:0≤x5_1
    ·rw [if_pos c4] at H
     have c4b0:decide (0≤x5_1)=true:=decide_eq_true c4
     clear c4
     by_cases c5:((rd_T44 l0 x5_1).f0)=x1_1
     ·rw [if_pos c5] at H
      have c5b0:(((rd_T44 l0 x5_1).f0) == x1_1)=true:=beq_iff_eq.mpr c5
      have c5b1:(((rd_T44 l0 x5_1).f0) != x1_1)=false:=bne_eq_false_iff_eq.mpr c5
      clear c5
      by_cases c6:(((rd_T44 l0 x5_1).f1) != ((Int.tmod (wrap64 (x1_1+1)) 3) == 0))=true
      ·rw [if_pos c6] at H
       have c6b0:(((rd_T44 l0 x5_1).f1) != ((Int.tmod (wrap64 (x1_1+1)) 3) == 0))=true:=c6
       (try (have c6b1:decide (((rd_T44 l0 x5_1).f1)=((Int.tmod (wrap64 (x1_1+1)) 3) == 0))=false:=by simpa using c6))
       (try (have c6b2:(((rd_T44 l0 x5_1).f1) == ((Int.tmod (wrap64 (x1_1+1)) 3) == 0))=false:=by simpa using c6))
       (try (have c6b3:¬ (((rd_T44 l0 x5_1).f1)=((Int.tmod (wrap64 (x1_1+1)) 3) == 0)):=by simpa using c6))
       clear c6
       exact absurd (Option.some.inj H) (by have:=HP_.out;omega)
      ·rw [if_neg c6] at H
       have c6b0:(((rd_T44 l0 x5_1).f1) != ((Int.tmod (wrap64 (x1_1+1)) 3) == 0))=false:=by simpa using c6
       (try (have c6b1:decide (((rd_T44 l0 x5_1).f1)=((Int.tmod (wrap64 (x1_1+1)) 3) == 0))=true:=by simpa using c6))
       (try (have c6b2:(((rd_T44 l0 x5_1).f1) == ((Int.tmod (wrap64 (x1_1+1)) 3) == 0))=true:=by simpa using c6))
       clear c6
       by_cases c7:((rd_T44 l0 x5_1).f2)=(wrap64 ((wrap64 (x1_1+1))+1))
       ·rw [if_pos c7] at H
        have c7b0:(((rd_T44 l0 x5_1).f2) == (wrap64 ((wrap64 (x1_1+1))+1)))=true:=beq_iff_eq.mpr c7
        have c7b1:(((rd_T44 l0 x5_1).f2) != (wrap64 ((wrap64 (x1_1+1))+1)))=false:=bne_eq_false_iff_eq.mpr c7
        clear c7
        replace H:=Option.bind_eq_some_iff.mp H
        obtain ⟨t343,A80,H⟩:=H
        replace H:(if t343<0 then (some (-1)) else ((laws_heldValueS.f k1 ((rd_T44 l0 x5_1).f4) t343).bind fun t345=>(if t345<0 then (some (-1)) else ((laws_heldUpS.f k1 ((rd_T44 l0 x5_1).f5) t345).bind fun t347=>(if t347<0 then (some (-1)) else (if ((rd_T44 l0 x5_1).f6)=t347 then ((laws_markText.f k1 (wrap64 (t347+1))).bind fun t350=>(if ((rd_T44 l0 x5_1).f7).toList=t350.toList then ((laws_heldIntS.f k1 ((rd_T44 l0 x5_1).f8) (wrap64 ((wrap64 (t347+1))+1))).bind fun t352=>(if t352<0 then (some (-1)) else ((laws_heldStringS.f k1 ((rd_T44 l0 x5_1).f9) t352).bind fun t354=>(if t354<0 then (some (-1)) else (laws_heldProtoS.l0 k1 l0 t354 (wrap64 (x5_1+1))))))) else (some (-1)))) else (some (-1))))))))=some r:=H
        have A8:=Ak A80;clear A80
        by_cases c9:t343<0
        ·rw [if_pos c9] at H
         have c9b0:decide (t343<0)=true:=decide_eq_true c9
         clear c9
         exact absurd (Option.some.inj H) (by have:=HP_.out;omega)
        ·rw [if_neg c9] at H
         have c9b0:decide (t343<0)=false:=decide_eq_false c9
         clear c9
         replace H:=Option.bind_eq_some_iff.mp H
         obtain ⟨t345,A100,H⟩:=H
         replace H:(if t345<0 then (some (-1)) else ((laws_heldUpS.f k1 ((rd_T44 l0 x5_1).f5) t345).bind fun t347=>(if t347<0 then (some (-1)) else (if ((rd_T44 l0 x5_1).f6)=t347 then ((laws_markText.f k1 (wrap64 (t347+1))).bind fun t350=>(if ((rd_T44 l0 x5_1).f7).toList=t350.toList then ((laws_heldIntS.f k1 ((rd_T44 l0 x5_1).f8) (wrap64 ((wrap64 (t347+1))+1))).bind fun t352=>(if t352<0 then (some (-1)) else ((laws_heldStringS.f k1 ((rd_T44 l0 x5_1).f9) t352).bind fun t354=>(if t354<0 then (some (-1)) else (laws_heldProtoS.l0 k1 l0 t354 (wrap64 (x5_1+1))))))) else (some (-1)))) else (some (-1))))))=some r:=H
         have A10:=Ak A100;clear A100
         by_cases c11:t345<0
         ·rw [if_pos c11] at H
          have c11b0:decide (t345<0)=true:=decide_eq_true c11
          clear c11
          exact absurd (Option.some.inj H) (by have:=HP_.out;omega)
         ·rw [if_neg c11] at H
          have c11b0:decide (t345<0)=false:=decide_eq_false c11
          clear c11
          replace H:=Option.bind_eq_some_iff.mp H
          obtain ⟨t347,A130,H⟩:=H
          replace H:(if t347<0 then (some (-1)) else (if ((rd_T44 l0 x5_1).f6)=t347 then ((laws_markText.f k1 (wrap64 (t347+1))).bind fun t350=>(if ((rd_T44 l0 x5_1).f7).toList=t350.toList then ((laws_heldIntS.f k1 ((rd_T44 l0 x5_1).f8) (wrap64 ((wrap64 (t347+1))+1))).bind fun t352=>(if t352<0 then (some (-1)) else ((laws_heldStringS.f k1 ((rd_T44 l0 x5_1).f9) t352).bind fun t354=>(if t354<0 then (some (-1)) else (laws_heldProtoS.l0 k1 l0 t354 (wrap64 (x5_1+1))))))) else (some (-1)))) else (some (-1))))=some r:=H
          have A13:=Ak A130;clear A130
          by_cases c14:t347<0
          ·rw [if_pos c14] at H
           have c14b0:decide (t347<0)=true:=decide_eq_true c14
           clear c14
           exact absurd (Option.some.inj H) (by have:=HP_.out;omega)
          ·rw [if_neg c14] at H
           have c14b0:decide (t347<0)=false:=decide_eq_false c14
           clear c14
           by_cases c16:((rd_T44 l0 x5_1).f6)=t347
           ·rw [if_pos c16] at H
            have c16b0:(((rd_T44 l0 x5_1).f6) == t347)=true:=beq_iff_eq.mpr c16
            have c16b1:(((rd_T44 l0 x5_1).f6) != t347)=false:=bne_eq_false_iff_eq.mpr c16
            clear c16
            replace H:=Option.bind_eq_some_iff.mp H
            obtain ⟨t350,A170,H⟩:=H
            replace H:(if ((rd_T44 l0 x5_1).f7).toList=t350.toList then ((laws_heldIntS.f k1 ((rd_T44 l0 x5_1).f8) (wrap64 ((wrap64 (t347+1))+1))).bind fun t352=>(if t352<0 then (some (-1)) else ((laws_heldStringS.f k1 ((rd_T44 l0 x5_1).f9) t352).bind fun t354=>(if t354<0 then (some (-1)) else (laws_heldProtoS.l0 k1 l0 t354 (wrap64 (x5_1+1))))))) else (some (-1)))=some r:=H
            have A17:=Ak A170;clear A170
            by_cases c18:((rd_T44 l0 x5_1).f7).toList=t350.toList
            ·rw [if_pos c18] at H
             have c18b0:(((rd_T44 l0 x5_1).f7).toList == t350.toList)=true:=beq_iff_eq.mpr c18
             have c18b1:(((rd_T44 l0 x5_1).f7).toList != t350.toList)=false:=bne_eq_false_iff_eq.mpr c18
             clear c18
             replace H:=Option.bind_eq_some_iff.mp H
             obtain ⟨t352,A190,H⟩:=H
             replace H:(if t352<0 then (some (-1)) else ((laws_heldStringS.f k1 ((rd_T44 l0 x5_1).f9) t352).bind fun t354=>(if t354<0 then (some (-1)) else (laws_heldProtoS.l0 k1 l0 t354 (wrap64 (x5_1+1))))))=some r:=H
             have A19:=Ak A190;clear A190
             by_cases c20:t352<0
             ·rw [if_pos c20] at H
              have c20b0:decide (t352<0)=true:=decide_eq_true c20
              clear c20
              exact absurd (Option.some.inj H) (by have:=HP_.out;omega)
             ·rw [if_neg c20] at H
              have c20b0:decide (t352<0)=false:=decide_eq_false c20
              clear c20
              replace H:=Option.bind_eq_some_iff.mp H
              obtain ⟨t354,A240,H⟩:=H
              replace H:(if t354<0 then (some (-1)) else (laws_heldProtoS.l0 k1 l0 t354 (wrap64 (x5_1+1))))=some r:=H
              have A24:=Ak A240;clear A240
              by_cases c25:t354<0
              ·rw [if_pos c25] at H
               have c25b0:decide (t354<0)=true:=decide_eq_true c25
               clear c25
               exact absurd (Option.some.inj H) (by have:=HP_.out;omega)
              ·rw [if_neg c25] at H
               have c25b0:decide (t354<0)=false:=decide_eq_false c25
               clear c25
               have H':=Ak H
               clear H
               have p339:0≤(x5_1:Int):=of_decide_eq_true (by first|(with_reducible assumption)|assumption)
               have q339:x5_1<(l0.length:Int):=of_decide_eq_true (by first|(with_reducible assumption)|assumption)
               obtain ⟨ad339,A339_3,c339_3,A339_4,c339_4,A339_5,c339_5,A339_8,c339_8,A339_9,c339_9,e339,hx339_0,hx339_1,hx339_2,hx339_3,hx339_4,hx339_5,hx339_6,hx339_7,hx339_8,hx339_9,hl339_3,hi339_3,hl339_4,hi339_4,hl339_5,hi339_5,hl339_8,hi339_8,hl339_9,hi339_9⟩:=at_T44 HR0.out x5_1 p339 q339
               cases e339
               replace hx339_0:=(HB.out.cell (World.block_lt_of_cell? w _ hx339_0)).trans hx339_0
               replace hx339_1:=(HB.out.cell (World.block_lt_of_cell? w _ hx339_1)).trans hx339_1
               replace hx339_2:=(HB.out.cell (World.block_lt_of_cell? w _ hx339_2)).trans hx339_2
               replace hx339_3:=(HB.out.cell (World.block_lt_of_cell? w _ hx339_3)).trans hx339_3
               replace hx339_4:=(HB.out.cell (World.block_lt_of_cell? w _ hx339_4)).trans hx339_4
               replace hx339_5:=(HB.out.cell (World.block_lt_of_cell? w _ hx339_5)).trans hx339_5
               replace hx339_6:=(HB.out.cell (World.block_lt_of_cell? w _ hx339_6)).trans hx339_6
               replace hx339_7:=(HB.out.cell (World.block_lt_of_cell? w _ hx339_7)).trans hx339_7
               replace hx339_8:=(HB.out.cell (World.block_lt_of_cell? w _ hx339_8)).trans hx339_8
               replace hx339_9:=(HB.out.cell (World.block_lt_of_cell? w _ hx339_9)).trans hx339_9
               have HR339_3:=Ak hi339_3;have HC339_3:=Ak hl339_3;clear hi339_3 hl339_3;have HR339_4:=Ak hi339_4;have HC339_4:=Ak hl339_4;clear hi339_4 hl339_4;have HR339_5:=Ak hi339_5;have HC339_5:=Ak hl339_5;clear hi339_5 hl339_5;have HR339_8:=Ak hi339_8;have HC339_8:=Ak hl339_8;clear hi339_8 hl339_8;have HR339_9:=Ak hi339_9;have HC339_9:=Ak hl339_9
               clear hi339_9 hl339_9
               replace p339:=eq_true p339
               replace q339:=eq_true q339
               have p340:0≤(x5_1:Int):=of_decide_eq_true (by first|(with_reducible assumption)|assumption)
               have q340:x5_1<(l0.length:Int):=of_decide_eq_true (by first|(with_reducible assumption)|assumption)
               obtain ⟨ad340,A340_3,c340_3,A340_4,c340_4,A340_5,c340_5,A340_8,c340_8,A340_9,c340_9,e340,hx340_0,hx340_1,hx340_2,hx340_3,hx340_4,hx340_5,hx340_6,hx340_7,hx340_8,hx340_9,hl340_3,hi340_3,hl340_4,hi340_4,hl340_5,hi340_5,hl340_8,hi340_8,hl340_9,hi340_9⟩:=at_T44 HR0.out x5_1 p340 q340
               obtain rfl:ad339=ad340:=(by injection e340)
               replace hx340_0:=(HB.out.cell (World.block_lt_of_cell? w _ hx340_0)).trans hx340_0
               replace hx340_1:=(HB.out.cell (World.block_lt_of_cell? w _ hx340_1)).trans hx340_1
               replace hx340_2:=(HB.out.cell (World.block_lt_of_cell? w _ hx340_2)).trans hx340_2
               replace hx340_3:=(HB.out.cell (World.block_lt_of_cell? w _ hx340_3)).trans hx340_3
               replace hx340_4:=(HB.out.cell (World.block_lt_of_cell? w _ hx340_4)).trans hx340_4
               replace hx340_5:=(HB.out.cell (World.block_lt_of_cell? w _ hx340_5)).trans hx340_5
               replace hx340_6:=(HB.out.cell (World.block_lt_of_cell? w _ hx340_6)).trans hx340_6
               replace hx340_7:=(HB.out.cell (World.block_lt_of_cell? w _ hx340_7)).trans hx340_7
               replace hx340_8:=(HB.out.cell (World.block_lt_of_cell? w _ hx340_8)).trans hx340_8
               replace hx340_9:=(HB.out.cell (World.block_lt_of_cell? w _ hx340_9)).trans hx340_9
               have HR340_3:=Ak hi340_3;have HC340_3:=Ak hl340_3;clear hi340_3 hl340_3;have HR340_4:=Ak hi340_4;have HC340_4:=Ak hl340_4;clear hi340_4 hl340_4;have HR340_5:=Ak hi340_5;have HC340_5:=Ak hl340_5;clear hi340_5 hl340_5;have HR340_8:=Ak hi340_8;have HC340_8:=Ak hl340_8;clear hi340_8 hl340_8;have HR340_9:=Ak hi340_9;have HC340_9:=Ak hl340_9
               clear hi340_9 hl340_9
               replace p340:=eq_true p340
               replace q340:=eq_true q340
               have ea_:=Option.some.inj (hx339_3.symm.trans hx340_3)
               injection ea_ with ea_ en_ ec_
               subst ea_
               subst ec_
               clear en_
               have ea_:=Option.some.inj (hx339_4.symm.trans hx340_4)
               injection ea_ with ea_ en_ ec_
               subst ea_
               subst ec_
               clear en_
               have ea_:=Option.some.inj (hx339_5.symm.trans hx340_5)
               injection ea_ with ea_ en_ ec_
               subst ea_
               subst ec_
               clear en_
               have ea_:=Option.some.inj (hx339_8.symm.trans hx340_8)
               injection ea_ with ea_ en_ ec_
               subst ea_
               subst ec_
               clear en_
               have ea_:=Option.some.inj (hx339_9.symm.trans hx340_9)
               injection ea_ with ea_ en_ ec_
               subst ea_
               subst ec_
               clear en_
               have p341:0≤(x5_1:Int):=of_decide_eq_true (by first|(with_reducible assumption)|assumption)
               have q341:x5_1<(l0.length:Int):=of_decide_eq_true (by first|(with_reducible assumption)|assumption)
               obtain ⟨ad341,A341_3,c341_3,A341_4,c341_4,A341_5,c341_5,A341_8,c341_8,A341_9,c341_9,e341,hx341_0,hx341_1,hx341_2,hx341_3,hx341_4,hx341_5,hx341_6,hx341_7,hx341_8,hx341_9,hl341_3,hi341_3,hl341_4,hi341_4,hl341_5,hi341_5,hl341_8,hi341_8,hl341_9,hi341_9⟩:=at_T44 HR0.out x5_1 p341 q341
               obtain rfl:ad339=ad341:=(by injection e341)
               replace hx341_0:=(HB.out.cell (World.block_lt_of_cell? w _ hx341_0)).trans hx341_0
               replace hx341_1:=(HB.out.cell (World.block_lt_of_cell? w _ hx341_1)).trans hx341_1
               replace hx341_2:=(HB.out.cell (World.block_lt_of_cell? w _ hx341_2)).trans hx341_2
               replace hx341_3:=(HB.out.cell (World.block_lt_of_cell? w _ hx341_3)).trans hx341_3
               replace hx341_4:=(HB.out.cell (World.block_lt_of_cell? w _ hx341_4)).trans hx341_4
               replace hx341_5:=(HB.out.cell (World.block_lt_of_cell? w _ hx341_5)).trans hx341_5
               replace hx341_6:=(HB.out.cell (World.block_lt_of_cell? w _ hx341_6)).trans hx341_6
               replace hx341_7:=(HB.out.cell (World.block_lt_of_cell? w _ hx341_7)).trans hx341_7
               replace hx341_8:=(HB.out.cell (World.block_lt_of_cell? w _ hx341_8)).trans hx341_8
               replace hx341_9:=(HB.out.cell (World.block_lt_of_cell? w _ hx341_9)).trans hx341_9
               have HR341_3:=Ak hi341_3;have HC341_3:=Ak hl341_3;clear hi341_3 hl341_3;have HR341_4:=Ak hi341_4;have HC341_4:=Ak hl341_4;clear hi341_4 hl341_4;have HR341_5:=Ak hi341_5;have HC341_5:=Ak hl341_5;clear hi341_5 hl341_5;have HR341_8:=Ak hi341_8;have HC341_8:=Ak hl341_8;clear hi341_8 hl341_8;have HR341_9:=Ak hi341_9;have HC341_9:=Ak hl341_9
               clear hi341_9 hl341_9
               replace p341:=eq_true p341
               replace q341:=eq_true q341
               have ea_:=Option.some.inj (hx339_3.symm.trans hx341_3)
               injection ea_ with ea_ en_ ec_
               subst ea_
               subst ec_
               clear en_
               have ea_:=Option.some.inj (hx339_4.symm.trans hx341_4)
               injection ea_ with ea_ en_ ec_
               subst ea_
               subst ec_
               clear en_
               have ea_:=Option.some.inj (hx339_5.symm.trans hx341_5)
               injection ea_ with ea_ en_ ec_
               subst ea_
               subst ec_
               clear en_
               have ea_:=Option.some.inj (hx339_8.symm.trans hx341_8)
               injection ea_ with ea_ en_ ec_
               subst ea_
               subst ec_
               clear en_
               have ea_:=Option.some.inj (hx339_9.symm.trans hx341_9)
               injection ea_ with ea_ en_ ec_
               subst ea_
               subst ec_
               clear en_
               have p342:0≤(x5_1:Int):=of_decide_eq_true (by first|(with_reducible assumption)|assumption)
               have q342:x5_1<(l0.length:Int):=of_decide_eq_true (by first|(with_reducible assumption)|assumption)
               obtain ⟨ad342,A342_3,c342_3,A342_4,c342_4,A342_5,c342_5,A342_8,c342_8,A342_9,c342_9,e342,hx342_0,hx342_1,hx342_2,hx342_3,hx342_4,hx342_5,hx342_6,hx342_7,hx342_8,hx342_9,hl342_3,hi342_3,hl342_4,hi342_4,hl342_5,hi342_5,hl342_8,hi342_8,hl342_9,hi342_9⟩:=at_T44 HR0.out x5_1 p342 q342
               obtain rfl:ad339=ad342:=(by injection e342)
               replace hx342_0:=(HB.out.cell (World.block_lt_of_cell? w _ hx342_0)).trans hx342_0
               replace hx342_1:=(HB.out.cell (World.block_lt_of_cell? w _ hx342_1)).trans hx342_1
               replace hx342_2:=(HB.out.cell (World.block_lt_of_cell? w _ hx342_2)).trans hx342_2
               replace hx342_3:=(HB.out.cell (World.block_lt_of_cell? w _ hx342_3)).trans hx342_3
               replace hx342_4:=(HB.out.cell (World.block_lt_of_cell? w _ hx342_4)).trans hx342_4
               replace hx342_5:=(HB.out.cell (World.block_lt_of_cell? w _ hx342_5)).trans hx342_5
               replace hx342_6:=(HB.out.cell (World.block_lt_of_cell? w _ hx342_6)).trans hx342_6
               replace hx342_7:=(HB.out.cell (World.block_lt_of_cell? w _ hx342_7)).trans hx342_7
               replace hx342_8:=(HB.out.cell (World.block_lt_of_cell? w _ hx342_8)).trans hx342_8
               replace hx342_9:=(HB.out.cell (World.block_lt_of_cell? w _ hx342_9)).trans hx342_9
               have HR342_3:=Ak hi342_3;have HC342_3:=Ak hl342_3;clear hi342_3 hl342_3;have HR342_4:=Ak hi342_4;have HC342_4:=Ak hl342_4;clear hi342_4 hl342_4;have HR342_5:=Ak hi342_5;have HC342_5:=Ak hl342_5;clear hi342_5 hl342_5;have HR342_8:=Ak hi342_8;have HC342_8:=Ak hl342_8;clear hi342_8 hl342_8;have HR342_9:=Ak hi342_9;have HC342_9:=Ak hl342_9
               clear hi342_9 hl342_9
               replace p342:=eq_true p342
               replace q342:=eq_true q342
               have ea_:=Option.some.inj (hx339_3.symm.trans hx342_3)
               injection ea_ with ea_ en_ ec_
               subst ea_
               subst ec_
               clear en_
               have ea_:=Option.some.inj (hx339_4.symm.trans hx342_4)
               injection ea_ with ea_ en_ ec_
               subst ea_
               subst ec_
               clear en_
               have ea_:=Option.some.inj (hx339_5.symm.trans hx342_5)
               injection ea_ with ea_ en_ ec_
               subst ea_
               subst ec_
               clear en_
               have ea_:=Option.some.inj (hx339_8.symm.trans hx342_8)
               injection ea_ with ea_ en_ ec_
               subst ea_
               subst ec_
               clear en_
               have ea_:=Option.some.inj (hx339_9.symm.trans hx342_9)
               injection ea_ with ea_ en_ ec_
               subst ea_
               subst ec_
               clear en_
               try go_wp2_with (first|((with_reducible refine gate_callee (f:=93) rfl ?_);refine goesL_ (some 47) rfl rfl Try.func93 (by kernel_rfl) rfl #[.slice A339_3 ((rd_T44 l0 x5_1).f3).length c339_3,.int .i64 (wrap64 ((wrap64 ((wrap64 (x1_1+1))+1))+1))] rfl (by (try simp only [List.map_toArray,List.map_cons,List.map_nil]);first|done|rfl|(simp only [List.length_drop,List.length_take];rfl)) ?_;(with_reducible refine (laws_heldUint32S.calls k1 _ _ ((rd_T44 l0 x5_1).f3) (wrap64 ((wrap64 ((wrap64 (x1_1+1))+1))+1)) t343 _ ?side1 ?side2 A8.out).mono ?_);(case side1=>repeat (first|exact (Kd.C_below HR342_3.out HB.out)|(with_reducible refine Kd.C_alloc ?_ _)|(with_reducible refine Kd.C_drewN ?_ _)|(with_reducible refine Kd.C_drew ?_)));(case side2=>exact HC342_3.out);rintro e w' ⟨rfl,⟨nd,rfl⟩⟩;refine ⟨_,rfl,?_⟩;have p344:0≤(x5_1:Int):=of_decide_eq_true (by first|(with_reducible assumption)|assumption);have q344:x5_1<(l0.length:Int):=of_decide_eq_true (by first|(with_reducible assumption)|assumption);obtain ⟨ad344,A344_3,c344_3,A344_4,c344_4,A344_5,c344_5,A344_8,c344_8,A344_9,c344_9,e344,hx344_0,hx344_1,hx344_2,hx344_3,hx344_4,hx344_5,hx344_6,hx344_7,hx344_8,hx344_9,hl344_3,hi344_3,hl344_4,hi344_4,hl344_5,hi344_5,hl344_8,hi344_8,hl344_9,hi344_9⟩:=at_T44 HR0.out x5_1 p344 q344;obtain rfl:ad339=ad344:=(by injection e344);replace hx344_0:=(HB.out.cell (World.block_lt_of_cell? w _ hx344_0)).trans hx344_0;replace hx344_1:=(HB.out.cell (World.block_lt_of_cell? w _ hx344_1)).trans hx344_1;replace hx344_2:=(HB.out.cell (World.block_lt_of_cell? w _ hx344_2)).trans hx344_2;replace hx344_3:=(HB.out.cell (World.block_lt_of_cell? w _ hx344_3)).trans hx344_3;replace hx344_4:=(HB.out.cell (World.block_lt_of_cell? w _ hx344_4)).trans hx344_4;replace hx344_5:=(HB.out.cell (World.block_lt_of_cell? w _ hx344_5)).trans hx344_5;replace hx344_6:=(HB.out.cell (World.block_lt_of_cell? w _ hx344_6)).trans hx344_6;replace hx344_7:=(HB.out.cell (World.block_lt_of_cell? w _ hx344_7)).trans hx344_7;replace hx344_8:=(HB.out.cell (World.block_lt_of_cell? w _ hx344_8)).trans hx344_8;replace hx344_9:=(HB.out.cell (World.block_lt_of_cell? w _ hx344_9)).trans hx344_9;have HR344_3:=Ak hi344_3;have HC344_3:=Ak hl344_3;clear hi344_3 hl344_3;have HR344_4:=Ak hi344_4;have HC344_4:=Ak hl344_4;clear hi344_4 hl344_4;have HR344_5:=Ak hi344_5;have HC344_5:=Ak hl344_5;clear hi344_5 hl344_5;have HR344_8:=Ak hi344_8;have HC344_8:=Ak hl344_8;clear hi344_8 hl344_8;have HR344_9:=Ak hi344_9;have HC344_9:=Ak hl344_9;clear hi344_9 hl344_9;replace p344:=eq_true p344;replace q344:=eq_true q344;have ea_:=Option.some.inj (hx339_3.symm.trans hx344_3);injection ea_ with ea_ en_ ec_;subst ea_;subst ec_;clear en_;have ea_:=Option.some.inj (hx339_4.symm.trans hx344_4);injection ea_ with ea_ en_ ec_;subst ea_;subst ec_;clear en_;have ea_:=Option.some.inj (hx339_5.symm.trans hx344_5);injection ea_ with ea_ en_ ec_;subst ea_;subst ec_;clear en_;have ea_:=Option.some.inj (hx339_8.symm.trans hx344_8);injection ea_ with ea_ en_ ec_;subst ea_;subst ec_;clear en_;have ea_:=Option.some.inj (hx339_9.symm.trans hx344_9);injection ea_ with ea_ en_ ec_;subst ea_;subst ec_;clear en_)|((with_reducible refine gate_callee (f:=94) rfl ?_);refine goesL_ (some 56) rfl rfl Try.func94 (by kernel_rfl) rfl #[.slice A339_4 ((rd_T44 l0 x5_1).f4).length c339_4,.int .i64 t343] rfl (by (try simp only [List.map_toArray,List.map_cons,List.map_nil]);first|done|rfl|(simp only [List.length_drop,List.length_take];rfl)) ?_;(with_reducible refine (laws_heldValueS.calls k1 _ _ ((rd_T44 l0 x5_1).f4) t343 t345 _ ?side1 ?side2 A10.out (by simp only [decide_eq_false_iff_not,Int.not_lt] at *;omega)).mono ?_);(case side1=>repeat (first|exact (Kd.C_below HR344_4.out (by repeat (first|(with_reducible first|exact HB.out|apply below_alloc|apply pw_below_drewN|apply below_drew1)|exact HB.out)))|(with_reducible refine Kd.C_alloc ?_ _)|(with_reducible refine Kd.C_drewN ?_ _)|(with_reducible refine Kd.C_drew ?_)));(case side2=>exact HC344_4.out);rintro e w30 ⟨rfl,hb⟩;refine ⟨_,rfl,?_⟩;have n0_:=Ak (below_step (by repeat (first|(with_reducible first|exact HB.out|apply below_alloc|apply pw_below_drewN|apply below_drew1)|exact HB.out)) hb);clear HB;have HB:=n0_;clear n0_;(try clear hb);(try clear hb2);(try clear hk);(try clear hi);have p346:0≤(x5_1:Int):=of_decide_eq_true (by first|(with_reducible assumption)|assumption);have q346:x5_1<(l0.length:Int):=of_decide_eq_true (by first|(with_reducible assumption)|assumption);obtain ⟨ad346,A346_3,c346_3,A346_4,c346_4,A346_5,c346_5,A346_8,c346_8,A346_9,c346_9,e346,hx346_0,hx346_1,hx346_2,hx346_3,hx346_4,hx346_5,hx346_6,hx346_7,hx346_8,hx346_9,hl346_3,hi346_3,hl346_4,hi346_4,hl346_5,hi346_5,hl346_8,hi346_8,hl346_9,hi346_9⟩:=at_T44 HR0.out x5_1 p346 q346;obtain rfl:ad339=ad346:=(by injection e346);replace hx346_0:=(HB.out.cell (World.block_lt_of_cell? w _ hx346_0)).trans hx346_0;replace hx346_1:=(HB.out.cell (World.block_lt_of_cell? w _ hx346_1)).trans hx346_1;replace hx346_2:=(HB.out.cell (World.block_lt_of_cell? w _ hx346_2)).trans hx346_2;replace hx346_3:=(HB.out.cell (World.block_lt_of_cell? w _ hx346_3)).trans hx346_3;replace hx346_4:=(HB.out.cell (World.block_lt_of_cell? w _ hx346_4)).trans hx346_4;replace hx346_5:=(HB.out.cell (World.block_lt_of_cell? w _ hx346_5)).trans hx346_5;replace hx346_6:=(HB.out.cell (World.block_lt_of_cell? w _ hx346_6)).trans hx346_6;replace hx346_7:=(HB.out.cell (World.block_lt_of_cell? w _ hx346_7)).trans hx346_7;replace hx346_8:=(HB.out.cell (World.block_lt_of_cell? w _ hx346_8)).trans hx346_8;replace hx346_9:=(HB.out.cell (World.block_lt_of_cell? w _ hx346_9)).trans hx346_9;have HR346_3:=Ak hi346_3;have HC346_3:=Ak hl346_3;clear hi346_3 hl346_3;have HR346_4:=Ak hi346_4;have HC346_4:=Ak hl346_4;clear hi346_4 hl346_4;have HR346_5:=Ak hi346_5;have HC346_5:=Ak hl346_5;clear hi346_5 hl346_5;have HR346_8:=Ak hi346_8;have HC346_8:=Ak hl346_8;clear hi346_8 hl346_8;have HR346_9:=Ak hi346_9;have HC346_9:=Ak hl346_9;clear hi346_9 hl346_9;replace p346:=eq_true p346;replace q346:=eq_true q346)|((with_reducible refine gate_callee (f:=95) rfl ?_);refine goesL_ (some 65) rfl rfl Try.func95 (by kernel_rfl) rfl #[.slice A346_5 ((rd_T44 l0 x5_1).f5).length c346_5,.int .i64 t345] rfl (by (try simp only [List.map_toArray,List.map_cons,List.map_nil]);first|done|rfl|(simp only [List.length_drop,List.length_take];rfl)) ?_;(with_reducible refine (laws_heldUpS.calls k1 _ _ ((rd_T44 l0 x5_1).f5) t345 t347 _ ?side1 ?side2 A13.out).mono ?_);(case side1=>repeat (first|exact (Kd.C_below HR346_5.out HB.out)|(with_reducible refine Kd.C_alloc ?_ _)|(with_reducible refine Kd.C_drewN ?_ _)|(with_reducible refine Kd.C_drew ?_)));(case side2=>exact HC346_5.out);rintro e w' ⟨rfl,⟨nd,rfl⟩⟩;refine ⟨_,rfl,?_⟩;have p348:0≤(x5_1:Int):=of_decide_eq_true (by first|(with_reducible assumption)|assumption);have q348:x5_1<(l0.length:Int):=of_decide_eq_true (by first|(with_reducible assumption)|assumption);obtain ⟨ad348,A348_3,c348_3,A348_4,c348_4,A348_5,c348_5,A348_8,c348_8,A348_9,c348_9,e348,hx348_0,hx348_1,hx348_2,hx348_3,hx348_4,hx348_5,hx348_6,hx348_7,hx348_8,hx348_9,hl348_3,hi348_3,hl348_4,hi348_4,hl348_5,hi348_5,hl348_8,hi348_8,hl348_9,hi348_9⟩:=at_T44 HR0.out x5_1 p348 q348;obtain rfl:ad339=ad348:=(by injection e348);replace hx348_0:=(HB.out.cell (World.block_lt_of_cell? w _ hx348_0)).trans hx348_0;replace hx348_1:=(HB.out.cell (World.block_lt_of_cell? w _ hx348_1)).trans hx348_1;replace hx348_2:=(HB.out.cell (World.block_lt_of_cell? w _ hx348_2)).trans hx348_2;replace hx348_3:=(HB.out.cell (World.block_lt_of_cell? w _ hx348_3)).trans hx348_3;replace hx348_4:=(HB.out.cell (World.block_lt_of_cell? w _ hx348_4)).trans hx348_4;replace hx348_5:=(HB.out.cell (World.block_lt_of_cell? w _ hx348_5)).trans hx348_5;replace hx348_6:=(HB.out.cell (World.block_lt_of_cell? w _ hx348_6)).trans hx348_6;replace hx348_7:=(HB.out.cell (World.block_lt_of_cell? w _ hx348_7)).trans hx348_7;replace hx348_8:=(HB.out.cell (World.block_lt_of_cell? w _ hx348_8)).trans hx348_8;replace hx348_9:=(HB.out.cell (World.block_lt_of_cell? w _ hx348_9)).trans hx348_9;have HR348_3:=Ak hi348_3;have HC348_3:=Ak hl348_3;clear hi348_3 hl348_3;have HR348_4:=Ak hi348_4;have HC348_4:=Ak hl348_4;clear hi348_4 hl348_4;have HR348_5:=Ak hi348_5;have HC348_5:=Ak hl348_5;clear hi348_5 hl348_5;have HR348_8:=Ak hi348_8;have HC348_8:=Ak hl348_8;clear hi348_8 hl348_8;have HR348_9:=Ak hi348_9;have HC348_9:=Ak hl348_9;clear hi348_9 hl348_9;replace p348:=eq_true p348;replace q348:=eq_true q348;have ea_:=Option.some.inj (hx346_3.symm.trans hx348_3);injection ea_ with ea_ en_ ec_;subst ea_;subst ec_;clear en_;have ea_:=Option.some.inj (hx346_4.symm.trans hx348_4);injection ea_ with ea_ en_ ec_;subst ea_;subst ec_;clear en_;have ea_:=Option.some.inj (hx346_5.symm.trans hx348_5);injection ea_ with ea_ en_ ec_;subst ea_;subst ec_;clear en_;have ea_:=Option.some.inj (hx346_8.symm.trans hx348_8);injection ea_ with ea_ en_ ec_;subst ea_;subst ec_;clear en_;have ea_:=Option.some.inj (hx346_9.symm.trans hx348_9);injection ea_ with ea_ en_ ec_;subst ea_;subst ec_;clear en_))
               (try (rw [drewN_self w30];generalize hq_:World.drewN w30 _=w30;have n0_:Aside0 (Below w.heap.size w w30):=⟨by rw [← hq_];exact (by repeat (first|(with_reducible first|exact HB.out|apply below_alloc|apply pw_below_drewN|apply below_drew1)|exact HB.out))⟩;clear HB hq_;have HB:=n0_;clear n0_))
               have n0_:=Ak (below_drew1 HB.out)
               clear HB;have HB:=n0_;clear n0_
               have p349:0≤(x5_1:Int):=of_decide_eq_true (by first|(with_reducible assumption)|assumption)
               have q349:x5_1<(l0.length:Int):=of_decide_eq_true (by first|(with_reducible assumption)|assumption)
               obtain ⟨ad349,A349_3,c349_3,A349_4,c349_4,A349_5,c349_5,A349_8,c349_8,A349_9,c349_9,e349,hx349_0,hx349_1,hx349_2,hx349_3,hx349_4,hx349_5,hx349_6,hx349_7,hx349_8,hx349_9,hl349_3,hi349_3,hl349_4,hi349_4,hl349_5,hi349_5,hl349_8,hi349_8,hl349_9,hi349_9⟩:=at_T44 HR0.out x5_1 p349 q349
               have hw349_9:=hx349_9;have hw349_8:=hx349_8;have hw349_7:=hx349_7;have hw349_6:=hx349_6;have hw349_5:=hx349_5;have hw349_4:=hx349_4;have hw349_3:=hx349_3;have hw349_2:=hx349_2;have hw349_1:=hx349_1;have hw349_0:=hx349_0
               obtain rfl:ad339=ad349:=(by injection e349)
               replace hx349_0:=(HB.out.cell (World.block_lt_of_cell? w _ hx349_0)).trans hx349_0
               replace hx349_1:=(HB.out.cell (World.block_lt_of_cell? w _ hx349_1)).trans hx349_1
               replace hx349_2:=(HB.out.cell (World.block_lt_of_cell? w _ hx349_2)).trans hx349_2
               replace hx349_3:=(HB.out.cell (World.block_lt_of_cell? w _ hx349_3)).trans hx349_3
               replace hx349_4:=(HB.out.cell (World.block_lt_of_cell? w _ hx349_4)).trans hx349_4
               replace hx349_5:=(HB.out.cell (World.block_lt_of_cell? w _ hx349_5)).trans hx349_5
               replace hx349_6:=(HB.out.cell (World.block_lt_of_cell? w _ hx349_6)).trans hx349_6
               replace hx349_7:=(HB.out.cell (World.block_lt_of_cell? w _ hx349_7)).trans hx349_7
               replace hx349_8:=(HB.out.cell (World.block_lt_of_cell? w _ hx349_8)).trans hx349_8
               replace hx349_9:=(HB.out.cell (World.block_lt_of_cell? w _ hx349_9)).trans hx349_9
               have HR349_3:=Ak hi349_3;have HC349_3:=Ak hl349_3;clear hi349_3 hl349_3;have HR349_4:=Ak hi349_4;have HC349_4:=Ak hl349_4;clear hi349_4 hl349_4;have HR349_5:=Ak hi349_5;have HC349_5:=Ak hl349_5;clear hi349_5 hl349_5;have HR349_8:=Ak hi349_8;have HC349_8:=Ak hl349_8;clear hi349_8 hl349_8;have HR349_9:=Ak hi349_9;have HC349_9:=Ak hl349_9
               clear hi349_9 hl349_9
               replace p349:=eq_true p349
               replace q349:=eq_true q349
               refine start_ (n:=8) (S:=fun w'=>w'.cell? (ad339.add ((x5_1).toNat*10))=some (.int .i64 ((rd_T44 l0 x5_1).f0))∧w'.cell? ⟨(ad339.add ((x5_1).toNat*10)).block,(ad339.add ((x5_1).toNat*10)).off+1,none⟩=some (.bool ((rd_T44 l0 x5_1).f1))∧w'.cell? ⟨(ad339.add ((x5_1).toNat*10)).block,(ad339.add ((x5_1).toNat*10)).off+2,none⟩=some (.int .i64 ((rd_T44 l0 x5_1).f2))∧w'.cell? ⟨(ad339.add ((x5_1).toNat*10)).block,(ad339.add ((x5_1).toNat*10)).off+3,none⟩=some (.slice A349_3 ((rd_T44 l0 x5_1).f3).length c349_3)∧w'.cell? ⟨(ad339.add ((x5_1).toNat*10)).block,(ad339.add ((x5_1).toNat*10)).off+4,none⟩=some (.slice A349_4 ((rd_T44 l0 x5_1).f4).length c349_4)∧w'.cell? ⟨(ad339.add ((x5_1).toNat*10)).block,(ad339.add ((x5_1).toNat*10)).off+5,none⟩=some (.slice A349_5 ((rd_T44 l0 x5_1).f5).length c349_5)∧w'.cell? ⟨(ad339.add ((x5_1).toNat*10)).block,(ad339.add ((x5_1).toNat*10)).off+6,none⟩=some (.int .i64 ((rd_T44 l0 x5_1).f6))∧w'.cell? ⟨(ad339.add ((x5_1).toNat*10)).block,(ad339.add ((x5_1).toNat*10)).off+7,none⟩=some (.string ((rd_T44 l0 x5_1).f7))∧w'.cell? ⟨(ad339.add ((x5_1).toNat*10)).block,(ad339.add ((x5_1).toNat*10)).off+8,none⟩=some (.slice A349_8 ((rd_T44 l0 x5_1).f8).length c349_8)∧w'.cell? ⟨(ad339.add ((x5_1).toNat*10)).block,(ad339.add ((x5_1).toNat*10)).off+9,none⟩=some (.slice A349_9 ((rd_T44 l0 x5_1).f9).length c349_9)) (ds:=[]) #[false,false,false,false,false,false,false,false] (by kernel_rfl) rfl rfl ⟨((HB.out.cell (World.block_lt_of_cell? w _ hw349_0)).trans hw349_0),((HB.out.cell (World.block_lt_of_cell? w _ hw349_1)).trans hw349_1),((HB.out.cell (World.block_lt_of_cell? w _ hw349_2)).trans hw349_2),((HB.out.cell (World.block_lt_of_cell? w _ hw349_3)).trans hw349_3),((HB.out.cell (World.block_lt_of_cell? w _ hw349_4)).trans hw349_4),((HB.out.cell (World.block_lt_of_cell? w _ hw349_5)).trans hw349_5),((HB.out.cell (World.block_lt_of_cell? w _ hw349_6)).trans hw349_6),((HB.out.cell (World.block_lt_of_cell? w _ hw349_7)).trans hw349_7),((HB.out.cell (World.block_lt_of_cell? w _ hw349_8)).trans hw349_8),((HB.out.cell (World.block_lt_of_cell? w _ hw349_9)).trans hw349_9)⟩ (fun hHeld=>?_);refine with_tabW laws_heldProtoS.tab25 laws_heldProtoS.bits25 (fun HT_ HW_=>?_)
               generalize w30.drew=w31 at HB HR349_3 HR349_4 HR349_5 HR349_8 HR349_9 hx349_0 hx349_1 hx349_2 hx349_3 hx349_4 hx349_5 hx349_6 hx349_7 hx349_8 hx349_9 hHeld ⊢
               refine pure_ (i:=0) (N:=some 77) (v:=?_) (a':=?_) #[true,false,false,false,false,false,false,false] rfl rfl (any_of HT_.out (by kernel_rfl)) (fun _ _ _ h=>h) (Or.inl ⟨by rfl,?_⟩) ?_ ?_
               rotate_left
               ·intro w'
                go_simp
                with_reducible rfl
               rotate_left
               ·simp only [Act.put,List.setIfInBounds_toArray,List.set_cons_zero,List.set_cons_succ,i64_w,i32_w]
                rfl
               refine pure_ (i:=1) (N:=some 78) (v:=?_) (a':=?_) #[true,true,false,false,false,false,false,false] rfl rfl (any_of HT_.out (by kernel_rfl)) (fun _ _ _ h=>h) (Or.inl ⟨by rfl,?_⟩) ?_ ?_
               rotate_left
               ·intro w'
                go_simp
                with_reducible rfl
               rotate_left
               ·simp only [Act.put,List.setIfInBounds_toArray,List.set_cons_zero,List.set_cons_succ,i64_w,i32_w]
                rfl
               refine pure_ (i:=2) (N:=some 79) (v:=?_) (a':=?_) #[true,true,true,false,false,false,false,false] rfl rfl (any_of HT_.out (by kernel_rfl)) (fun _ _ _ h=>h) (Or.inl ⟨by rfl,?_⟩) ?_ ?_
               rotate_left
               ·intro w'
                go_simp
                with_reducible rfl
               rotate_left
               ·simp only [Act.put,List.setIfInBounds_toArray,List.set_cons_zero,List.set_cons_succ,i64_w,i32_w]
                rfl
               refine pure_ (i:=3) (N:=some 80) (v:=?_) (a':=?_) #[true,true,true,true,false,false,false,false] rfl rfl (any_of HT_.out (by kernel_rfl)) (fun _ _ _ h=>h) (Or.inl ⟨by rfl,?_⟩) ?_ ?_
               rotate_left
               ·intro w'
                go_simp
                with_reducible rfl
               rotate_left
               ·simp only [Act.put,List.setIfInBounds_toArray,List.set_cons_zero,List.set_cons_succ,i64_w,i32_w]
                rfl
               refine pure_ (i:=5) (N:=some 82) (v:=?_) (a':=?_) #[true,true,true,true,false,true,false,false] rfl rfl (any_of HT_.out (by kernel_rfl)) (fun _ _ _ h=>h) (Or.inl ⟨by rfl,?_⟩) ?_ ?_
               rotate_left
               ·intro w'
                go_simp
                with_reducible rfl
               rotate_left
               ·simp only [Act.put,List.setIfInBounds_toArray,List.set_cons_zero,List.set_cons_succ,i64_w,i32_w]
                rfl
               refine take_ (i:=4) (N:=some 81) (v:=?_) (a':=?_) #[true,true,true,true,true,true,false,false] rfl rfl (take_ofW HT_.out HW_.out (by kernel_rfl)) (fun _ _ _ h=>h) (Or.inl ⟨by rfl,?_⟩) hHeld ?_ ?_
               rotate_left
               ·rintro w' ⟨s0,s1,s2,s3,s4,s5,s6,s7,s8,s9⟩
                go_simp
                with_reducible rfl
               rotate_left
               ·simp only [Act.put,List.setIfInBounds_toArray,List.set_cons_zero,List.set_cons_succ,i64_w,i32_w]
                rfl
               refine one_ (i:=6) (N:=some 83) #[true,true,true,true,true,true,true,false] rfl rfl (one_of HT_.out (by kernel_rfl)) (by decide) (fun K hK=>?_)
               refine goes_ Try.func90 (by kernel_rfl) rfl #[.int .i64 (wrap64 (t347+1))] (by rfl) rfl rfl (by (try simp only [List.map_toArray,List.map_cons,List.map_nil]);first|done|rfl|(simp only [List.length_drop,List.length_take];rfl)) ?_
               with_reducible refine (laws_markText.calls k1 (wrap64 (t347+1)) t350 _ A17.out).mono ?_
               rintro e w32 ⟨rfl,hb⟩
               refine ⟨_,rfl,?_⟩
               have n0_:=Ak (below_step (by repeat (first|(with_reducible first|exact HB.out|apply below_alloc|apply pw_below_drewN|apply below_drew1)|exact HB.out)) hb)
               clear HB;have HB:=n0_;clear n0_
               (try clear hb)
               (try clear hb2)
               (try clear hk)
               (try clear hi)
               refine hK.out _ _ ⟨((HB.out.cell (World.block_lt_of_cell? w _ hw349_0)).trans hw349_0),((HB.out.cell (World.block_lt_of_cell? w _ hw349_1)).trans hw349_1),((HB.out.cell (World.block_lt_of_cell? w _ hw349_2)).trans hw349_2),((HB.out.cell (World.block_lt_of_cell? w _ hw349_3)).trans hw349_3),((HB.out.cell (World.block_lt_of_cell? w _ hw349_4)).trans hw349_4),((HB.out.cell (World.block_lt_of_cell? w _ hw349_5)).trans hw349_5),((HB.out.cell (World.block_lt_of_cell? w _ hw349_6)).trans hw349_6),((HB.out.cell (World.block_lt_of_cell? w _ hw349_7)).trans hw349_7),((HB.out.cell (World.block_lt_of_cell? w _ hw349_8)).trans hw349_8),((HB.out.cell (World.block_lt_of_cell? w _ hw349_9)).trans hw349_9)⟩ (fun hHeld=>?_)
               clear hK K
               refine norm_ (a':=?_) ?_ ?_
               rotate_left
               ·show Act.put _ (some 83) _=_
                simp only [Act.put,List.setIfInBounds_toArray,List.set_cons_zero,List.set_cons_succ,i64_w,i32_w]
                rfl
               refine pure_ (i:=7) (N:=some 84) (v:=?_) (a':=?_) #[true,true,true,true,true,true,true,true] rfl rfl (any_of HT_.out (by kernel_rfl)) (fun _ _ _ h=>h) (Or.inl ⟨by rfl,?_⟩) ?_ ?_
               rotate_left
               ·intro w'
                go_simp
                with_reducible rfl
               rotate_left
               ·simp only [Act.put,List.setIfInBounds_toArray,List.set_cons_zero,List.set_cons_succ,i64_w,i32_w]
                rfl
               refine done_ (done_of HT_.out (by kernel_rfl)) ?_
               have p351:0≤(x5_1:Int):=of_decide_eq_true (by first|(with_reducible assumption)|assumption)
               have q351:x5_1<(l0.length:Int):=of_decide_eq_true (by first|(with_reducible assumption)|assumption)
               obtain ⟨ad351,A351_3,c351_3,A351_4,c351_4,A351_5,c351_5,A351_8,c351_8,A351_9,c351_9,e351,hx351_0,hx351_1,hx351_2,hx351_3,hx351_4,hx351_5,hx351_6,hx351_7,hx351_8,hx351_9,hl351_3,hi351_3,hl351_4,hi351_4,hl351_5,hi351_5,hl351_8,hi351_8,hl351_9,hi351_9⟩:=at_T44 HR0.out x5_1 p351 q351
               obtain rfl:ad339=ad351:=(by injection e351)
               replace hx351_0:=(HB.out.cell (World.block_lt_of_cell? w _ hx351_0)).trans hx351_0
               replace hx351_1:=(HB.out.cell (World.block_lt_of_cell? w _ hx351_1)).trans hx351_1
               replace hx351_2:=(HB.out.cell (World.block_lt_of_cell? w _ hx351_2)).trans hx351_2
               replace hx351_3:=(HB.out.cell (World.block_lt_of_cell? w _ hx351_3)).trans hx351_3
               replace hx351_4:=(HB.out.cell (World.block_lt_of_cell? w _ hx351_4)).trans hx351_4
               replace hx351_5:=(HB.out.cell (World.block_lt_of_cell? w _ hx351_5)).trans hx351_5
               replace hx351_6:=(HB.out.cell (World.block_lt_of_cell? w _ hx351_6)).trans hx351_6
               replace hx351_7:=(HB.out.cell (World.block_lt_of_cell? w _ hx351_7)).trans hx351_7
               replace hx351_8:=(HB.out.cell (World.block_lt_of_cell? w _ hx351_8)).trans hx351_8
               replace hx351_9:=(HB.out.cell (World.block_lt_of_cell? w _ hx351_9)).trans hx351_9
               have HR351_3:=Ak hi351_3;have HC351_3:=Ak hl351_3;clear hi351_3 hl351_3;have HR351_4:=Ak hi351_4;have HC351_4:=Ak hl351_4;clear hi351_4 hl351_4;have HR351_5:=Ak hi351_5;have HC351_5:=Ak hl351_5;clear hi351_5 hl351_5;have HR351_8:=Ak hi351_8;have HC351_8:=Ak hl351_8;clear hi351_8 hl351_8;have HR351_9:=Ak hi351_9;have HC351_9:=Ak hl351_9
               clear hi351_9 hl351_9
               replace p351:=eq_true p351
               replace q351:=eq_true q351
               have ea_:=Option.some.inj (hx351_3.symm.trans ((HB.out.cell (World.block_lt_of_cell? w _ hw349_3)).trans hw349_3));injection ea_ with ea_ en_ ec_;subst ea_;subst ec_;clear en_
               have ea_:=Option.some.inj (hx351_4.symm.trans ((HB.out.cell (World.block_lt_of_cell? w _ hw349_4)).trans hw349_4));injection ea_ with ea_ en_ ec_;subst ea_;subst ec_;clear en_
               have ea_:=Option.some.inj (hx351_5.symm.trans ((HB.out.cell (World.block_lt_of_cell? w _ hw349_5)).trans hw349_5));injection ea_ with ea_ en_ ec_;subst ea_;subst ec_;clear en_
               have ea_:=Option.some.inj (hx351_8.symm.trans ((HB.out.cell (World.block_lt_of_cell? w _ hw349_8)).trans hw349_8));injection ea_ with ea_ en_ ec_;subst ea_;subst ec_;clear en_
               have ea_:=Option.some.inj (hx351_9.symm.trans ((HB.out.cell (World.block_lt_of_cell? w _ hw349_9)).trans hw349_9));injection ea_ with ea_ en_ ec_;subst ea_;subst ec_;clear en_
               try go_wp2_with (first|((with_reducible refine gate_callee (f:=96) rfl ?_);refine goesL_ (some 93) rfl rfl Try.func96 (by kernel_rfl) rfl #[.slice A351_8 ((rd_T44 l0 x5_1).f8).length c351_8,.int .i64 (wrap64 ((wrap64 (t347+1))+1))] rfl (by (try simp only [List.map_toArray,List.map_cons,List.map_nil]);first|done|rfl|(simp only [List.length_drop,List.length_take];rfl)) ?_;(with_reducible refine (laws_heldIntS.calls k1 _ _ ((rd_T44 l0 x5_1).f8) (wrap64 ((wrap64 (t347+1))+1)) t352 _ ?side1 ?side2 A19.out).mono ?_);(case side1=>repeat (first|exact (Kd.C_below HR351_8.out HB.out)|(with_reducible refine Kd.C_alloc ?_ _)|(with_reducible refine Kd.C_drewN ?_ _)|(with_reducible refine Kd.C_drew ?_)));(case side2=>exact HC351_8.out);rintro e w' ⟨rfl,⟨nd,rfl⟩⟩;refine ⟨_,rfl,?_⟩;have p353:0≤(x5_1:Int):=of_decide_eq_true (by first|(with_reducible assumption)|assumption);have q353:x5_1<(l0.length:Int):=of_decide_eq_true (by first|(with_reducible assumption)|assumption);obtain ⟨ad353,A353_3,c353_3,A353_4,c353_4,A353_5,c353_5,A353_8,c353_8,A353_9,c353_9,e353,hx353_0,hx353_1,hx353_2,hx353_3,hx353_4,hx353_5,hx353_6,hx353_7,hx353_8,hx353_9,hl353_3,hi353_3,hl353_4,hi353_4,hl353_5,hi353_5,hl353_8,hi353_8,hl353_9,hi353_9⟩:=at_T44 HR0.out x5_1 p353 q353;obtain rfl:ad339=ad353:=(by injection e353);replace hx353_0:=(HB.out.cell (World.block_lt_of_cell? w _ hx353_0)).trans hx353_0;replace hx353_1:=(HB.out.cell (World.block_lt_of_cell? w _ hx353_1)).trans hx353_1;replace hx353_2:=(HB.out.cell (World.block_lt_of_cell? w _ hx353_2)).trans hx353_2;replace hx353_3:=(HB.out.cell (World.block_lt_of_cell? w _ hx353_3)).trans hx353_3;replace hx353_4:=(HB.out.cell (World.block_lt_of_cell? w _ hx353_4)).trans hx353_4;replace hx353_5:=(HB.out.cell (World.block_lt_of_cell? w _ hx353_5)).trans hx353_5;replace hx353_6:=(HB.out.cell (World.block_lt_of_cell? w _ hx353_6)).trans hx353_6;replace hx353_7:=(HB.out.cell (World.block_lt_of_cell? w _ hx353_7)).trans hx353_7;replace hx353_8:=(HB.out.cell (World.block_lt_of_cell? w _ hx353_8)).trans hx353_8;replace hx353_9:=(HB.out.cell (World.block_lt_of_cell? w _ hx353_9)).trans hx353_9;have HR353_3:=Ak hi353_3;have HC353_3:=Ak hl353_3;clear hi353_3 hl353_3;have HR353_4:=Ak hi353_4;have HC353_4:=Ak hl353_4;clear hi353_4 hl353_4;have HR353_5:=Ak hi353_5;have HC353_5:=Ak hl353_5;clear hi353_5 hl353_5;have HR353_8:=Ak hi353_8;have HC353_8:=Ak hl353_8;clear hi353_8 hl353_8;have HR353_9:=Ak hi353_9;have HC353_9:=Ak hl353_9;clear hi353_9 hl353_9;replace p353:=eq_true p353;replace q353:=eq_true q353;have ea_:=Option.some.inj (hx351_3.symm.trans hx353_3);injection ea_ with ea_ en_ ec_;subst ea_;subst ec_;clear en_;have ea_:=Option.some.inj (hx351_4.symm.trans hx353_4);injection ea_ with ea_ en_ ec_;subst ea_;subst ec_;clear en_;have ea_:=Option.some.inj (hx351_5.symm.trans hx353_5);injection ea_ with ea_ en_ ec_;subst ea_;subst ec_;clear en_;have ea_:=Option.some.inj (hx351_8.symm.trans hx353_8);injection ea_ with ea_ en_ ec_;subst ea_;subst ec_;clear en_;have ea_:=Option.some.inj (hx351_9.symm.trans hx353_9);injection ea_ with ea_ en_ ec_;subst ea_;subst ec_;clear en_)|((with_reducible refine gate_callee (f:=97) rfl ?_);refine goesL_ (some 102) rfl rfl Try.func97 (by kernel_rfl) rfl #[.slice A351_9 ((rd_T44 l0 x5_1).f9).length c351_9,.int .i64 t352] rfl (by (try simp only [List.map_toArray,List.map_cons,List.map_nil]);first|done|rfl|(simp only [List.length_drop,List.length_take];rfl)) ?_;(with_reducible refine (laws_heldStringS.calls k1 _ _ ((rd_T44 l0 x5_1).f9) t352 t354 _ ?side1 ?side2 A24.out (by simp only [decide_eq_false_iff_not,Int.not_lt] at *;omega)).mono ?_);(case side1=>repeat (first|exact (Kd.C_below HR353_9.out (by repeat (first|(with_reducible first|exact HB.out|apply below_alloc|apply pw_below_drewN|apply below_drew1)|exact HB.out)))|(with_reducible refine Kd.C_alloc ?_ _)|(with_reducible refine Kd.C_drewN ?_ _)|(with_reducible refine Kd.C_drew ?_)));(case side2=>exact HC353_9.out);rintro e w33 ⟨rfl,hb⟩;refine ⟨_,rfl,?_⟩;have n0_:=Ak (below_step (by repeat (first|(with_reducible first|exact HB.out|apply below_alloc|apply pw_below_drewN|apply below_drew1)|exact HB.out)) hb);clear HB;have HB:=n0_;clear n0_;(try clear hb);(try clear hb2);(try clear hk);(try clear hi)))
               go_roundg k1
               case measure=>have:=HK1.out;omega
               case rel=>exact ⟨(t354),(wrap64 (x5_1+1)),(by first|rfl|(simp;done)|(simp [*];done)),(by first|rfl|(simp;done)|(simp [*];done)),H',⟨by have:=HK1.out;omega⟩,⟨by repeat (first|(with_reducible first|exact HB.out|apply below_alloc|apply pw_below_drewN|apply below_drew1)|exact HB.out)⟩⟩
            ·rw [if_neg c18] at H
             have c18b0:(((rd_T44 l0 x5_1).f7).toList == t350.toList)=false:=beq_eq_false_iff_ne.mpr c18
             have c18b1:(((rd_T44 l0 x5_1).f7).toList != t350.toList)=true:=bne_iff_ne.mpr c18
             exact absurd (Option.some.inj H) (by have:=HP_.out;omega)
           ·rw [if_neg c16] at H
            have c16b0:(((rd_T44 l0 x5_1).f6) == t347)=false:=beq_eq_false_iff_ne.mpr c16
            have c16b1:(((rd_T44 l0 x5_1).f6) != t347)=true:=bne_iff_ne.mpr c16
            exact absurd (Option.some.inj H) (by have:=HP_.out;omega)
       ·rw [if_neg c7] at H
        have c7b0:(((rd_T44 l0 x5_1).f2) == (wrap64 ((wrap64 (x1_1+1))+1)))=false:=beq_eq_false_iff_ne.mpr c7
        have c7b1:(((rd_T44 l0 x5_1).f2) != (wrap64 ((wrap64 (x1_1+1))+1)))=true:=bne_iff_ne.mpr c7
        exact absurd (Option.some.inj H) (by have:=HP_.out;omega)
     ·rw [if_neg c5] at H
      have c5b0:(((rd_T44 l0 x5_1).f0) == x1_1)=false:=beq_eq_false_iff_ne.mpr c5
      have c5b1:(((rd_T44 l0 x5_1).f0) != x1_1)=true:=bne_iff_ne.mpr c5
      exact absurd (Option.some.inj H) (by have:=HP_.out;omega)
    ·rw [if_neg c4] at H
     exact absurd H (by simp)
   ·rw [if_neg c3] at H
    have c3b0:decide (x5_1<(l0.length:Int))=false:=decide_eq_false c3
    clear c3
    obtain rfl:=Option.some.inj H
    go_wp2
    go_ret
    exact ⟨by first|rfl|(simp [errW_none,errW_some] <;> rfl)|(simp [*,errW_none,errW_some] <;> rfl),by repeat (first|(with_reducible first|exact HB.out|apply below_alloc|apply pw_below_drewN|apply below_drew1)|exact HB.out)⟩
def laws_heldChunk.f (k:Nat) (l0_0:List (S44)) (a1:Int):Option (Int):=(laws_heldProtoS.f k l0_0 a1).bind fun t356=>(if t356<0 then (some (-1)) else (some t356))
set_option maxHeartbeats 8000000 in
set_option maxRecDepth 100000 in
theorem laws_heldChunk.calls (k:Nat) (A0_0:Option Addr) (c0_0:Nat) (l0_0:List (S44)) (a1:Int) (r:Int) (w:World) (hr0_0:Kd.C k44 w A0_0 l0_0.length l0_0) (hc0_0:l0_0.length≤c0_0) (h:laws_heldChunk.f k l0_0 a1=some r) (hp_:0≤r) :
  Calls Try.prog 21 #[.agg #[.slice A0_0 l0_0.length c0_0],.int .i64 a1] w fun e w'=>e=.returned (.int .i64 r)∧Below w.heap.size w w':=by
 have HP_:=Ak hp_;clear hp_
 have hu29:=Try.underlying29
 have HR0_0:=Ak hr0_0;have HC0_0:=Ak hc0_0;clear hr0_0 hc0_0
 have HB:=Ak (Below.refl w.heap.size w)
 have H:((laws_heldProtoS.f k l0_0 a1).bind fun t356=>(if t356<0 then (some (-1)) else (some t356)))=some r:=h
 clear h
 replace H:=Option.bind_eq_some_iff.mp H
 obtain ⟨t356,A30,H⟩:=H
 replace H:(if t356<0 then (some (-1)) else (some t356))=some r:=H
 have A3:=Ak A30;clear A30
 by_cases c4:t356<0
 ·rw [if_pos c4] at H
  have c4b0:decide (t356<0)=true:=decide_eq_true c4
  clear c4
  exact absurd (Option.some.inj H) (by have:=HP_.out;omega)
 ·rw [if_neg c4] at H
  have c4b0:decide (t356<0)=false:=decide_eq_false c4
  clear c4
  obtain rfl:=Option.some.inj H
  go_enter Try.func21,Try.ntmps21
  go_wp2_with (first|((with_reducible refine gate_dst (N:=2) rfl ?_);refine box_event ?hg (N:=2) ?hd (cs:=#[.slice A0_0 l0_0.length c0_0]) (t:=29) ?hr ?_;(case hd=>rfl);(case hg=>rfl);(case hr=>first|(go_simp;done)|(go_simp;rfl));intro gb355 hg w8 hbox hb;have n0_:=Ak (below_step (by repeat (first|(with_reducible first|exact HB.out|apply below_alloc|apply pw_below_drewN|apply below_drew1)|exact HB.out)) hb);have n1_:=Ak (hbox);have n2_:=Ak ((by rw [hg];exact (below_size (by repeat (first|(with_reducible first|exact HB.out|apply below_alloc|apply pw_below_drewN|apply below_drew1)|exact HB.out))):w.heap.size≤gb355));have n3_:=Ak ((by rw [hg];exact (below_size (by repeat (first|(with_reducible first|exact HB.out|apply below_alloc|apply pw_below_drewN|apply below_drew1)|exact HB.out))):w.heap.size≤gb355));clear HB;have HB:=n0_;have BK355:=n1_;have GW355:=n2_;have GE355:=n3_;clear n0_ n1_ n2_ n3_;clear hb hbox hg;obtain ⟨hcz9_0,hfz9_0⟩:=bk1 BK355.out)|((with_reducible refine gate_callee (f:=53) rfl ?_);refine goesL_ (some 8) rfl rfl Try.func53 (by kernel_rfl) rfl #[.slice A0_0 l0_0.length c0_0,.int .i64 a1] rfl (by (try simp only [List.map_toArray,List.map_cons,List.map_nil]);first|done|rfl|(simp only [List.length_drop,List.length_take];rfl)) ?_;(with_reducible refine (laws_heldProtoS.calls k _ _ l0_0 a1 t356 _ ?side1 ?side2 A3.out HP_.out).mono ?_);(case side1=>repeat (first|exact (Kd.C_below HR0_0.out HB.out)|(with_reducible refine Kd.C_alloc ?_ _)|(with_reducible refine Kd.C_drewN ?_ _)|(with_reducible refine Kd.C_drew ?_)));(case side2=>exact HC0_0.out);rintro e w10 ⟨rfl,hb⟩;refine ⟨_,rfl,?_⟩;have n0_:=Ak (blk_below (g:=gb355) (o:=.cells #[.slice A0_0 l0_0.length c0_0] 29 (0,0)) (by (with_reducible repeat (first|refine blk_drewN ?_ _|refine blk_drew ?_|refine blk_alloc ?_ _));exact BK355.out) hb);have n1_:=Ak (below_step (by repeat (first|(with_reducible first|exact HB.out|apply below_alloc|apply pw_below_drewN|apply below_drew1|refine below_set ?_ GE355.out)|exact HB.out)) hb);clear BK355;clear HB;have BK355:=n0_;have HB:=n1_;clear n0_ n1_;(try clear hb);(try clear hb2);(try clear hk);(try clear hi)))
  go_ret
  exact ⟨by first|rfl|(simp [errW_none,errW_some] <;> rfl)|(simp [*,errW_none,errW_some] <;> rfl),by repeat (first|(with_reducible first|exact HB.out|apply below_alloc|apply pw_below_drewN|apply below_drew1|refine below_set ?_ GE355.out)|exact HB.out)⟩
-- NOT PRINTED: function 7 (laws_FnExactStrip)
end Go.Proofs.Ytiekodnojmkfaaa.PFnExactStrip
