-- Printed by the kit's print or by this session's program, then cut and tightened by it.
import Derived.Test.YtiekodnojmkfaaaDoorPFnExactLoadx0
namespace Go.Proofs.YtiekodnojmkfaaaDoor.PFnExactLoad
open Go.RowKit Go.Proofs.YtiekodnojmkfaaaDoorW.PrintWords Go.Proofs.YtiekodnojmkfaaaDoorW.PrintLast Go.Proofs.YtiekodnojmkfaaaDoorW.PrintMore
attribute [local go_sem] max2_int min2_int max_two min_two max_three min_three max_four min_four   -- for this text's walks alone
set_option linter.unusedVariables false
set_option linter.unusedSimpArgs false
def spec_l3Up.l0:Nat→List Int→Option (List Int)
 | 0,_=>none
 | k+1,x0=>if (x0.length:Int) > 0 then (if 0≤(wrap64 ((x0.length:Int)-1)) then (if (wrap64 ((x0.length:Int)-1))<(x0.length:Int) then (if (wrap64 ((x0.length:Int)-1))≤(x0.length:Int) then ((some (x0.take ((wrap64 ((x0.length:Int)-1)):Int).toNat:List Int)).bind fun y278=>(if (wrap64 ((rd x0 (wrap64 ((x0.length:Int)-1)))-1)) > 0 then (if y278.length<17592186044416 then (some (y278++[wrap64 ((rd x0 (wrap64 ((x0.length:Int)-1)))-1)])) else (none)) else (spec_l3Up.l0 k y278))) else (none)) else (none)) else (none)) else (some x0)
def spec_l3Up.f (k:Nat) (l0:List Int):Option (List Int):=spec_l3Up.l0 k l0
set_option maxHeartbeats 8000000 in
set_option maxRecDepth 100000 in
theorem spec_l3Up.calls (k:Nat) (P0_:Nat→Prop) (u9000_:Value) (l0:List Int) (r:List Int) (w0 w:World) (hB:Below w0.heap.size w0 w) (ho0:Kd.R (Kd.int .i64) 3 w w0.heap.size P0_ u9000_ l0) (h:spec_l3Up.f k l0=some r) :
  Calls Tryd.prog 10 #[u9000_] w fun e w'=>∃ v0_:Value,e=.returned (v0_)∧Kd.R (Kd.int .i64) 3 w' w0.heap.size (fun k_=>(P0_ k_∨w.heap.size≤k_)) v0_ r∧Below w0.heap.size w0 w'∧Kept w w' (fun k_=>P0_ k_):=by
 have HO0:=Ak (show Kd.R (Kd.int .i64) 3 w w0.heap.size (fun k_=>(P0_ k_∨w.heap.size≤k_)) u9000_ l0 from Kd.R_mono ho0 (fun k_ hk=>(.inl hk)))
 have HK:=Ak (Kept.refl w (fun k_=>P0_ k_))
 have HW0:=Ak hB.size
 have HB:=Ak hB;clear hB
 have H:(spec_l3Up.l0 k l0)=some r:=h
 clear h
 have H':=Ak H
 clear H
 go_enter Tryd.func10,Tryd.ntmps10
 go_wp2
 go_loopg [0] k (fun kq v0 w'=>∃ (x0_1:List Int),Aside0 (spec_l3Up.l0 kq x0_1=some r)∧Aside0 (kq≤k)∧Aside0 (Kd.R (Kd.int .i64) 3 w' w0.heap.size (fun k_=>(P0_ k_∨w.heap.size≤k_)) v0 x0_1)∧Aside0 (Kept w w' (fun k_=>P0_ k_))∧Aside0 (Below w0.heap.size w0 w'))
 case atStart=>exact ⟨(l0),H',⟨Nat.le_refl _⟩,⟨by (with_reducible repeat (first|apply Kd.R_alloc|apply Kd.R_drewN|apply Kd.R_drew));exact HO0.out⟩,⟨by repeat (first|(with_reducible first|exact HK.out|apply Kept.alloc|apply Kept.drewN|apply Kept.drew)|exact HK.out)⟩,⟨by repeat (first|(with_reducible first|exact HB.out|apply below_alloc|apply pw_below_drewN|apply below_drew1)|exact HB.out)⟩⟩
 case round =>
  clear H';(try clear c1)
  obtain ⟨x0_1,HA,HK1,HO_0,HK,HB⟩:=hrel
  cases gk with
  | zero=>exact absurd HA.out (by simp [spec_l3Up.l0])
  | succ k1 =>
   have H:=HA.out
   clear HA
   simp only [spec_l3Up.l0] at H
   by_cases c2:(x0_1.length:Int) > 0
   ·rw [if_pos c2] at H
    have c2b0:decide (0<(x0_1.length:Int))=true:=decide_eq_true c2
    have c2b1:decide (0<x0_1.length)=true:=decide_eq_true (by omega)
    clear c2
    obtain ⟨ji3,hji3⟩:∃ j_:Int,(wrap64 ((x0_1.length:Int)-1))=j_:=⟨_,rfl⟩
    replace H:(if 0≤(ji3) then (if (ji3)<(x0_1.length:Int) then (if (ji3)≤(x0_1.length:Int) then ((some (x0_1.take ((ji3):Int).toNat:List Int)).bind fun y278=>(if (wrap64 ((rd x0_1 (ji3))-1)) > 0 then (if y278.length<17592186044416 then (some (y278++[wrap64 ((rd x0_1 (ji3))-1)])) else (none)) else (spec_l3Up.l0 k1 y278))) else (none)) else (none)) else (none))=some r:=by first|(rw [hji3] at H;exact H)|(simp only [hji3] at H ⊢;exact H)
    have hji3w:(IntKind.i64.wrap ((x0_1.length:Int)-1))=ji3:=(i64_w _).trans hji3
    by_cases c4:0≤(ji3)
    ·rw [if_pos c4] at H
     have c4b0:decide (0≤(ji3))=true:=decide_eq_true c4
     clear c4
     by_cases c5:(ji3)<(x0_1.length:Int)
     ·rw [if_pos c5] at H
      have c5b0:decide ((ji3)<(x0_1.length:Int))=true:=decide_eq_true c5
      clear c5
      by_cases c6:(ji3)≤(x0_1.length:Int)
      ·rw [if_pos c6] at H
       have c6b0:=eq_true c6
       have c6b1:decide ((ji3)≤(x0_1.length:Int))=true:=decide_eq_true c6
       clear c6
       obtain ⟨y278,hy278⟩:∃ y_:List Int,y_=(x0_1.take ((ji3):Int).toNat):=⟨_,rfl⟩
       replace H:(if (wrap64 ((rd x0_1 (ji3))-1)) > 0 then (if y278.length<17592186044416 then (some (y278++[wrap64 ((rd x0_1 (ji3))-1)])) else (none)) else (spec_l3Up.l0 k1 y278))=some r:=by first|(rw [hy278];with_reducible exact H)|(have H2_:=(Option.bind_some _ _).symm.trans H;rw [hy278];with_reducible exact H2_)|(have H2_:=(Option.bind_some _ _).symm.trans H;with_reducible exact H2_)|with_reducible exact H|(rw [hy278];exact H)|exact H
       have Ny278:=Ak hy278;clear hy278
       by_cases c7:(wrap64 ((rd x0_1 (ji3))-1)) > 0
       ·rw [if_pos c7] at H
        have c7b0:decide (0<(wrap64 ((rd x0_1 (ji3))-1)))=true:=decide_eq_true c7
        clear c7
        by_cases c8:y278.length<17592186044416
        ·rw [if_pos c8] at H
         have LMc8:=Ak c8;clear c8
         obtain ⟨y281,hy281⟩:∃ y_:List Int,y_=(y278++[wrap64 ((rd x0_1 (ji3))-1)]):=⟨_,rfl⟩
         replace H:(some y281)=some r:=by first|(rw [hy281];with_reducible exact H)|(have H2_:=(Option.bind_some _ _).symm.trans H;rw [hy281];with_reducible exact H2_)|(have H2_:=(Option.bind_some _ _).symm.trans H;with_reducible exact H2_)|with_reducible exact H|(rw [hy281];exact H)|exact H
         have Ny281:=Ak hy281;clear hy281
         obtain rfl:=Option.some.inj H
         obtain ⟨Ao9,co9,eo9⟩:=Kd.R_slice HO_0.out
         subst eo9
         have p277:0≤((ji3):Int):=of_decide_eq_true (by first|(with_reducible assumption)|assumption)
         have q277:(ji3)<(x0_1.length:Int):=of_decide_eq_true (by first|(with_reducible assumption)|assumption)
         obtain ⟨ad277,e277,hx277_0⟩:=Kd.at_int (Kd.R_reads' HO_0.out).2.2 (ji3) p277 q277
         cases e277
         replace p277:=eq_true p277
         replace q277:=eq_true q277
         have q10:((ji3):Int)≤((x0_1.length:Int):Int):=of_decide_eq_true (by first|(with_reducible assumption)|assumption)
         obtain ⟨i010,hi010,_,hsz10,_⟩:=info_parts info3
         have hcut10:=cut_to (P:=Tryd.prog) 32 3 .i64 Tryd.underlying32 hi010 (some ad277) x0_1.length co9 (ji3) (of_decide_eq_true (by first|(with_reducible assumption)|assumption)) q10 (Kd.R_reads' HO_0.out).2.1
         have hr10:=Kd.R_take (m:=((ji3):Int).toNat) HO_0.out (by omega)
         have hy10:y278.length=((ji3):Int).toNat:=(by rw [Ny278.out,List.length_take];omega)
         rw [← Ny278.out] at hr10
         rw [← hy10] at hr10 hcut10
         clear hy10 hi010 hsz10 HO_0;have HO280:=Ak hr10;clear hr10
         replace q10:=eq_true q10
         go_wp2_with (first|((with_reducible refine gate_builtin (b:=.append) (xs:=#[.tmp 21,.tmp 23]) rfl ?_);at_builtin;refine Kd.R_append (Kd.int .i64) (w0:=w0) w0.heap.size rfl (.tmp 21) (.tmp 23) 32 3 (.int .i64 0) 8 rfl Tryd.underlying32 info3 rfl (by decide) (by omega) (.slice (some ad277) y278.length co9) y278 (wrap64 ((rd x0_1 (ji3))-1)) [.int .i64 (wrap64 ((rd x0_1 (ji3))-1))] (fun k_=>(P0_ k_∨w.heap.size≤k_)) (fun _=>False) rfl rfl ?aP (fun _ hk=>hk.elim) ?aF ?aO ?aB ?aS ?aL ?_;(case aP=>exact rfl);(case aB=>exact (by repeat (first|(with_reducible first|exact HB.out|apply below_alloc|apply pw_below_drewN|apply below_drew1)|exact HB.out)));(case aF=>exact (fun k_ hk=>(.inr (Nat.le_trans (by first|exact HK.out.1|exact (show Kept w _ (fun k_=>P0_ k_) from by repeat (first|(with_reducible first|exact HK.out|apply Kept.alloc|apply Kept.drewN|apply Kept.drew)|exact HK.out)).1) hk))));(case aO=>exact (by (with_reducible repeat (first|apply Kd.R_alloc|apply Kd.R_drewN|apply Kd.R_drew));exact HO280.out));(case aS=>exact (below_size (by repeat (first|(with_reducible first|exact HB.out|apply below_alloc|apply pw_below_drewN|apply below_drew1)|exact HB.out))));(case aL=>have:=LMc8.out;omega);intro v282 w11 ho hb hg hat;rw [← Ny281.out] at ho;have n0_:=Ak (hb);have n1_:=Ak (Kept.of_grown (S:=(fun k_=>P0_ k_)) hg (by repeat (first|(with_reducible first|exact HK.out|apply Kept.alloc|apply Kept.drewN|apply Kept.drew)|exact HK.out)) (fun k_ e_=>(HO280.out.1 k_ e_)));have n2_:=Ak (ho);clear HB;clear HK;clear HO280;have HB:=n0_;have HK:=n1_;have HO283:=n2_;clear n0_ n1_ n2_;clear ho hb hg hat))
         go_ret
         exact ⟨_,by first|rfl|(simp [errW_none,errW_some] <;> rfl)|(simp only [← hji3];first|rfl|(simp [errW_none,errW_some] <;> rfl))|(simp [*,errW_none,errW_some] <;> rfl),by (with_reducible repeat (first|apply Kd.R_alloc|apply Kd.R_drewN|apply Kd.R_drew));exact HO283.out,by repeat (first|(with_reducible first|exact HB.out|apply below_alloc|apply pw_below_drewN|apply below_drew1)|exact HB.out),by repeat (first|(with_reducible first|exact HK.out|apply Kept.alloc|apply Kept.drewN|apply Kept.drew)|exact HK.out)⟩
        ·rw [if_neg c8] at H
         exact absurd H (by simp)
       ·rw [if_neg c7] at H
        have c7b0:decide (0<(wrap64 ((rd x0_1 (ji3))-1)))=false:=decide_eq_false c7
        clear c7
        have H':=Ak H
        clear H
        obtain ⟨Ao12,co12,eo12⟩:=Kd.R_slice HO_0.out
        subst eo12
        have p277:0≤((ji3):Int):=of_decide_eq_true (by first|(with_reducible assumption)|assumption)
        have q277:(ji3)<(x0_1.length:Int):=of_decide_eq_true (by first|(with_reducible assumption)|assumption)
        obtain ⟨ad277,e277,hx277_0⟩:=Kd.at_int (Kd.R_reads' HO_0.out).2.2 (ji3) p277 q277
        cases e277
        replace p277:=eq_true p277
        replace q277:=eq_true q277
        have q13:((ji3):Int)≤((x0_1.length:Int):Int):=of_decide_eq_true (by first|(with_reducible assumption)|assumption)
        obtain ⟨i013,hi013,_,hsz13,_⟩:=info_parts info3
        have hcut13:=cut_to (P:=Tryd.prog) 32 3 .i64 Tryd.underlying32 hi013 (some ad277) x0_1.length co12 (ji3) (of_decide_eq_true (by first|(with_reducible assumption)|assumption)) q13 (Kd.R_reads' HO_0.out).2.1
        have hr13:=Kd.R_take (m:=((ji3):Int).toNat) HO_0.out (by omega)
        have hy13:y278.length=((ji3):Int).toNat:=(by rw [Ny278.out,List.length_take];omega)
        rw [← Ny278.out] at hr13
        rw [← hy13] at hr13 hcut13
        clear hy13 hi013 hsz13 HO_0;have HO280:=Ak hr13;clear hr13
        replace q13:=eq_true q13
        go_wp2
        go_roundg k1
        case measure=>have:=HK1.out;omega
        case rel=>exact ⟨(y278),H',⟨by have:=HK1.out;omega⟩,⟨by (with_reducible repeat (first|apply Kd.R_alloc|apply Kd.R_drewN|apply Kd.R_drew));exact HO280.out⟩,⟨by repeat (first|(with_reducible first|exact HK.out|apply Kept.alloc|apply Kept.drewN|apply Kept.drew)|exact HK.out)⟩,⟨by repeat (first|(with_reducible first|exact HB.out|apply below_alloc|apply pw_below_drewN|apply below_drew1)|exact HB.out)⟩⟩
      ·rw [if_neg c6] at H
       exact absurd H (by simp)
     ·rw [if_neg c5] at H
      exact absurd H (by simp)
    ·rw [if_neg c4] at H
     exact absurd H (by simp)
   ·rw [if_neg c2] at H
    have c2b0:decide (0<(x0_1.length:Int))=false:=decide_eq_false c2
    have c2b1:decide (0<x0_1.length)=false:=decide_eq_false (by omega)
    clear c2
    obtain rfl:=Option.some.inj H
    obtain ⟨Ao14,co14,eo14⟩:=Kd.R_slice HO_0.out
    subst eo14
    go_wp2
    go_ret
    exact ⟨_,by first|rfl|(simp [errW_none,errW_some] <;> rfl)|(simp [*,errW_none,errW_some] <;> rfl),by (with_reducible repeat (first|apply Kd.R_alloc|apply Kd.R_drewN|apply Kd.R_drew));exact HO_0.out,by repeat (first|(with_reducible first|exact HB.out|apply below_alloc|apply pw_below_drewN|apply below_drew1)|exact HB.out),by repeat (first|(with_reducible first|exact HK.out|apply Kept.alloc|apply Kept.drewN|apply Kept.drew)|exact HK.out)⟩
-- NOT PRINTED: function 4 (spec_Load)
def stringslite_HasPrefix.f (a0:ByteArray) (a1:ByteArray):Option (Bool):=if (a0.size:Int) ≥ (a1.size:Int) then (if 0≤(a1.size:Int) then (if (a1.size:Int)≤(a0.size:Int) then (some ((a0.extract 0 ((a1.size:Int):Int).toNat).toList == a1.toList)) else (none)) else (none)) else (some false)
set_option maxHeartbeats 8000000 in
set_option maxRecDepth 100000 in
theorem stringslite_HasPrefix.calls (a0:ByteArray) (a1:ByteArray) (r:Bool) (w:World) (h:stringslite_HasPrefix.f a0 a1=some r) :
  Calls Tryd.prog 23 #[.string a0,.string a1] w fun e w'=>e=.returned (.bool r)∧Drawn0 w w':=by
 have H:(if (a0.size:Int) ≥ (a1.size:Int) then (if 0≤(a1.size:Int) then (if (a1.size:Int)≤(a0.size:Int) then (some ((a0.extract 0 ((a1.size:Int):Int).toNat).toList == a1.toList)) else (none)) else (none)) else (some false))=some r:=h
 clear h
 by_cases c3:(a0.size:Int) ≥ (a1.size:Int)
 ·rw [if_pos c3] at H
  have c3b0:decide ((a1.size:Int)≤(a0.size:Int))=true:=decide_eq_true c3
  have c3b1:decide (a1.size≤a0.size)=true:=decide_eq_true (Int.ofNat_le.mp c3)
  clear c3
  by_cases c4:0≤(a1.size:Int)
  ·rw [if_pos c4] at H
   have c4b0:=eq_true c4
   have c4b1:decide (0≤(a1.size:Int))=true:=decide_eq_true c4
   clear c4
   by_cases c5:(a1.size:Int)≤(a0.size:Int)
   ·rw [if_pos c5] at H
    have c5b0:=eq_true c5
    have c5b1:decide ((a1.size:Int)≤(a0.size:Int))=true:=decide_eq_true c5
    clear c5
    obtain rfl:=Option.some.inj H
    go_enter Tryd.func23,Tryd.ntmps23
    go_wp2
    go_ret
    exact ⟨by first|rfl|(simp;done)|(simp [*];done),by repeat (first|exact Drawn0.refl _|apply Drawn0.step)⟩
   ·rw [if_neg c5] at H
    exact absurd H (by simp)
  ·rw [if_neg c4] at H
   exact absurd H (by simp)
 ·rw [if_neg c3] at H
  have c3b0:decide ((a1.size:Int)≤(a0.size:Int))=false:=decide_eq_false c3
  have c3b1:decide (a1.size≤a0.size)=false:=decide_eq_false (fun h=>c3 (Int.ofNat_le.mpr h))
  clear c3
  obtain rfl:=Option.some.inj H
  go_enter Tryd.func23,Tryd.ntmps23
  go_wp2
  go_ret
  exact ⟨by first|rfl|(simp;done)|(simp [*];done),by repeat (first|exact Drawn0.refl _|apply Drawn0.step)⟩
def strings_HasPrefix.f (a0:ByteArray) (a1:ByteArray):Option (Bool):=(stringslite_HasPrefix.f a0 a1).bind fun t290=>(some t290)
set_option maxHeartbeats 8000000 in
set_option maxRecDepth 100000 in
theorem strings_HasPrefix.calls (a0:ByteArray) (a1:ByteArray) (r:Bool) (w:World) (h:strings_HasPrefix.f a0 a1=some r) :
  Calls Tryd.prog 11 #[.string a0,.string a1] w fun e w'=>e=.returned (.bool r)∧Drawn0 w w':=by
 have H:((stringslite_HasPrefix.f a0 a1).bind fun t290=>(some t290))=some r:=h
 clear h
 replace H:=Option.bind_eq_some_iff.mp H
 obtain ⟨t290,A30,H⟩:=H
 replace H:(some t290)=some r:=H
 have A3:=Ak A30;clear A30
 obtain rfl:=Option.some.inj H
 go_enter Tryd.func11,Tryd.ntmps11
 go_wp2_with (first|((with_reducible refine gate_callee (f:=23) rfl ?_);refine goesL_ (some 7) rfl rfl Tryd.func23 (by kernel_rfl) rfl #[.string a0,.string a1] rfl (by (try simp only [List.map_toArray,List.map_cons,List.map_nil]);first|done|rfl|(simp only [List.length_drop,List.length_take];rfl)) ?_;(with_reducible refine (stringslite_HasPrefix.calls a0 a1 t290 _ A3.out).mono ?_);rintro e w' ⟨rfl,⟨nd,rfl⟩⟩;refine ⟨_,rfl,?_⟩))
 go_ret
 exact ⟨by first|rfl|(simp;done)|(simp [*];done),by repeat (first|exact Drawn0.refl _|apply Drawn0.step)⟩
-- NOT PRINTED: function 13 (impl_reader_fail)
-- NOT PRINTED: function 59 (impl_reader_octet)
-- NOT PRINTED: function 24 (impl_reader_flag)
mutual
def impl_GetVarint.j0:Nat→ByteArray→Int→Bool→Option (Int×Int×Bool)
 | 0,_,_,_=>none
 | k+1,x0,x1,x16=>if x16=true then (some (0,0,false)) else (impl_GetVarint.l0 k x0 x1 0 x1)
def impl_GetVarint.l0:Nat→ByteArray→Int→Int→Int→Option (Int×Int×Bool)
 | 0,_,_,_,_=>none
 | k+1,x0,x1,x7,x8=>if x8<(x0.size:Int) then (impl_GetVarint.j2 k x0 x1 x7 x8 (decide (x8<(wrap64 (x1+4))))) else (impl_GetVarint.j2 k x0 x1 x7 x8 false)
def impl_GetVarint.j2:Nat→ByteArray→Int→Int→Int→Bool→Option (Int×Int×Bool)
 | 0,_,_,_,_,_=>none
 | k+1,x0,x1,x7,x8,x27=>if x27=true then (if 0≤x8 then (if x8<(x0.size:Int) then (if 0≤(wrap64 (7*(wrap64 (x8-x1)))) then (if (bt x0 x8)<128 then (if (bt x0 x8)=0 then (if x8 > x1 then (some (0,0,false)) else (if (Go.bits .or .i64 x7 (shl .i64 (wrap64 (Go.bits .and .u8 (bt x0 x8) 127)) (wrap64 (7*(wrap64 (x8-x1)))))) > 16777215 then (some (0,0,false)) else (some (Go.bits .or .i64 x7 (shl .i64 (wrap64 (Go.bits .and .u8 (bt x0 x8) 127)) (wrap64 (7*(wrap64 (x8-x1))))),wrap64 (x8+1),true)))) else (if (Go.bits .or .i64 x7 (shl .i64 (wrap64 (Go.bits .and .u8 (bt x0 x8) 127)) (wrap64 (7*(wrap64 (x8-x1)))))) > 16777215 then (some (0,0,false)) else (some (Go.bits .or .i64 x7 (shl .i64 (wrap64 (Go.bits .and .u8 (bt x0 x8) 127)) (wrap64 (7*(wrap64 (x8-x1))))),wrap64 (x8+1),true)))) else (impl_GetVarint.l0 k x0 x1 (Go.bits .or .i64 x7 (shl .i64 (wrap64 (Go.bits .and .u8 (bt x0 x8) 127)) (wrap64 (7*(wrap64 (x8-x1)))))) (wrap64 (x8+1)))) else (none)) else (none)) else (none)) else (some (0,0,false))
end
def impl_GetVarint.f (k:Nat) (a0:ByteArray) (a1:Int):Option (Int×Int×Bool):=if a1<0 then (impl_GetVarint.j0 k a0 a1 true) else (impl_GetVarint.j0 k a0 a1 (decide (a1 > (a0.size:Int))))
set_option maxHeartbeats 8000000 in
set_option maxRecDepth 100000 in
theorem impl_GetVarint.calls (k:Nat) (a0:ByteArray) (a1:Int) (r1:Int) (r2:Int) (r3:Bool) (w:World) (h:impl_GetVarint.f k a0 a1=some (r1,r2,r3)) :
  Calls Tryd.prog 60 #[.string a0,.int .i64 a1] w fun e w'=>e=.returned (.tuple #[.int .i64 r1,.int .i64 r2,.bool r3])∧Drawn0 w w':=by
 have H:(if a1<0 then (impl_GetVarint.j0 k a0 a1 true) else (impl_GetVarint.j0 k a0 a1 (decide (a1 > (a0.size:Int)))))=some (r1,r2,r3):=h
 clear h;have HC3:=Ak H;clear H
 go_enter Tryd.func60,Tryd.ntmps60
 go_upto_region 1 with (fail)
 go_cut [16] (fun v16 wc=>∃ (kq:Nat) (x16_2:Bool),v16=.bool x16_2∧Aside0 (impl_GetVarint.j0 kq a0 a1 x16_2=some (r1,r2,r3))∧Aside0 (kq≤k)∧Drawn0 w wc)
 case first =>
  have H:=HC3.out
  clear HC3
  by_cases c4:a1<0
  ·rw [if_pos c4] at H
   have c4b0:decide (a1<0)=true:=decide_eq_true c4
   clear c4
   (first|rw [c4b0]|(simp only [i64_w,i32_w];rw [c4b0])|skip)
   have H':=Ak H
   clear H
   go_wp2
   go_meet
   case rel=>exact ⟨_,(true),(by first|rfl|(simp;done)|(simp [*];done)),H',⟨by first|omega|exact Nat.le_refl _⟩,by repeat (first|exact Drawn0.refl _|apply Drawn0.step)⟩
  ·rw [if_neg c4] at H
   have c4b0:decide (a1<0)=false:=decide_eq_false c4
   clear c4
   (first|rw [c4b0]|(simp only [i64_w,i32_w];rw [c4b0])|skip)
   have H':=Ak H
   clear H
   go_wp2
   go_meet
   case rel=>exact ⟨_,(decide (a1 > (a0.size:Int))),(by first|rfl|(simp;done)|(simp [*];done)),H',⟨by first|omega|exact Nat.le_refl _⟩,by repeat (first|exact Drawn0.refl _|apply Drawn0.step)⟩
 case rest =>
  clear HC3;(try clear p2);(try clear c4);(try clear c4b0)
  obtain ⟨kq,x16_2,rfl,HA,HJ2,⟨mc2,rfl⟩⟩:=hcut
  cases kq with
  | zero=>exact absurd HA.out (by simp [impl_GetVarint.j0])
  | succ kj2 =>
   have H:=HA.out
   clear HA
   simp only [impl_GetVarint.j0] at H
   by_cases c5:x16_2=true
   ·subst c5
    have H1:(some (0,0,false))=some (r1,r2,r3):=by rw [if_pos rfl] at H;exact H
    clear H;have H:=H1;clear H1
    simp only [Option.some.injEq,Prod.mk.injEq] at H
    obtain ⟨rfl,rfl,rfl⟩:=H
    go_wp2
    go_ret3
    exact ⟨by first|rfl|(simp;done)|(simp [*];done),by repeat (first|exact Drawn0.refl _|apply Drawn0.step)⟩
   ·replace c5:=Bool.eq_false_iff.mpr c5
    subst c5
    have H1:(impl_GetVarint.l0 kj2 a0 a1 0 a1)=some (r1,r2,r3):=by rw [if_neg (show ¬ (false=true) by decide)] at H;exact H
    clear H;have H:=H1;clear H1
    have H':=Ak H
    clear H
    go_wp2
    go_loopg [7,8] kj2 (fun kq v7 v8 w'=>∃ (x7_2:Int) (x8_2:Int),v7=.int .i64 x7_2∧v8=.int .i64 x8_2∧Aside0 (impl_GetVarint.l0 kq a0 a1 x7_2 x8_2=some (r1,r2,r3))∧Aside0 (kq≤kj2)∧Drawn0 w w')
    case atStart=>exact ⟨(0),(a1),(by first|rfl|(simp;done)|(simp [*];done)),(by first|rfl|(simp;done)|(simp [*];done)),H',⟨Nat.le_refl _⟩,by repeat (first|exact Drawn0.refl _|apply Drawn0.step)⟩
    case round =>
     clear H';(try clear c2);(try clear p2);(try clear c4);(try clear c4b0);(try clear c5);(try clear p2)
     obtain ⟨x7_2,x8_2,rfl,rfl,HA,HK2,⟨m2,rfl⟩⟩:=hrel
     cases gk with
     | zero=>exact absurd HA.out (by simp [impl_GetVarint.l0])
     | succ k2 =>
      have H:=HA.out
      clear HA
      simp only [impl_GetVarint.l0] at H
      have HC6:=Ak H;clear H
      go_upto_region 5 with (fail)
      go_cut [27] (fun v27 wc=>∃ (kq:Nat) (x27_5:Bool),v27=.bool x27_5∧Aside0 (impl_GetVarint.j2 kq a0 a1 x7_2 x8_2 x27_5=some (r1,r2,r3))∧Aside0 (kq≤k2)∧Drawn0 w wc)
      case first =>
       have H:=HC6.out
       clear HC6
       by_cases c7:x8_2<(a0.size:Int)
       ·rw [if_pos c7] at H
        have c7b0:decide (x8_2<(a0.size:Int))=true:=decide_eq_true c7
        clear c7
        (first|rw [c7b0]|(simp only [i64_w,i32_w];rw [c7b0])|skip)
        have H':=Ak H
        clear H
        go_wp2
        go_meet
        case rel=>exact ⟨_,(decide (x8_2<(wrap64 (a1+4)))),(by first|rfl|(simp;done)|(simp [*];done)),H',⟨by have:=HJ2.out;have:=HK2.out;first|omega|exact Nat.le_refl _⟩,by repeat (first|exact Drawn0.refl _|apply Drawn0.step)⟩
       ·rw [if_neg c7] at H
        have c7b0:decide (x8_2<(a0.size:Int))=false:=decide_eq_false c7
        clear c7
        (first|rw [c7b0]|(simp only [i64_w,i32_w];rw [c7b0])|skip)
        have H':=Ak H
        clear H
        go_wp2
        go_meet
        case rel=>exact ⟨_,(false),(by first|rfl|(simp;done)|(simp [*];done)),H',⟨by have:=HJ2.out;have:=HK2.out;first|omega|exact Nat.le_refl _⟩,by repeat (first|exact Drawn0.refl _|apply Drawn0.step)⟩
      case rest =>
       clear HC6;(try clear c2);(try clear p2);(try clear c4);(try clear c4b0);(try clear c5);(try clear c6);(try clear p6);(try clear c7);(try clear c7b0);(try clear p2)
       obtain ⟨kq,x27_5,rfl,HA,HJ5,⟨mc5,rfl⟩⟩:=hcut
       cases kq with
       | zero=>exact absurd HA.out (by simp [impl_GetVarint.j2])
       | succ kj5 =>
        have H:=HA.out
        clear HA
        simp only [impl_GetVarint.j2] at H
        by_cases c8:x27_5=true
        ·subst c8
         have H1:(if 0≤x8_2 then (if x8_2<(a0.size:Int) then (if 0≤(wrap64 (7*(wrap64 (x8_2-a1)))) then (if (bt a0 x8_2)<128 then (if (bt a0 x8_2)=0 then (if x8_2 > a1 then (some (0,0,false)) else (if (Go.bits .or .i64 x7_2 (shl .i64 (wrap64 (Go.bits .and .u8 (bt a0 x8_2) 127)) (wrap64 (7*(wrap64 (x8_2-a1)))))) > 16777215 then (some (0,0,false)) else (some (Go.bits .or .i64 x7_2 (shl .i64 (wrap64 (Go.bits .and .u8 (bt a0 x8_2) 127)) (wrap64 (7*(wrap64 (x8_2-a1))))),wrap64 (x8_2+1),true)))) else (if (Go.bits .or .i64 x7_2 (shl .i64 (wrap64 (Go.bits .and .u8 (bt a0 x8_2) 127)) (wrap64 (7*(wrap64 (x8_2-a1)))))) > 16777215 then (some (0,0,false)) else (some (Go.bits .or .i64 x7_2 (shl .i64 (wrap64 (Go.bits .and .u8 (bt a0 x8_2) 127)) (wrap64 (7*(wrap64 (x8_2-a1))))),wrap64 (x8_2+1),true)))) else (impl_GetVarint.l0 kj5 a0 a1 (Go.bits .or .i64 x7_2 (shl .i64 (wrap64 (Go.bits .and .u8 (bt a0 x8_2) 127)) (wrap64 (7*(wrap64 (x8_2-a1)))))) (wrap64 (x8_2+1)))) else (none)) else (none)) else (none))=some (r1,r2,r3):=by rw [if_pos rfl] at H;exact H
         clear H;have H:=H1;clear H1
         by_cases c9:0≤x8_2
         ·rw [if_pos c9] at H
          have c9b0:decide (0≤x8_2)=true:=decide_eq_true c9
          clear c9
          by_cases c10:x8_2<(a0.size:Int)
          ·rw [if_pos c10] at H
           have c10b0:decide (x8_2<(a0.size:Int))=true:=decide_eq_true c10
           clear c10
           obtain ⟨ji12,hji12⟩:∃ j_:Int,(wrap64 (7*(wrap64 (x8_2-a1))))=j_:=⟨_,rfl⟩
           replace H:(if 0≤(ji12) then (if (bt a0 x8_2)<128 then (if (bt a0 x8_2)=0 then (if x8_2 > a1 then (some (0,0,false)) else (if (Go.bits .or .i64 x7_2 (shl .i64 (wrap64 (Go.bits .and .u8 (bt a0 x8_2) 127)) (ji12))) > 16777215 then (some (0,0,false)) else (some (Go.bits .or .i64 x7_2 (shl .i64 (wrap64 (Go.bits .and .u8 (bt a0 x8_2) 127)) (ji12)),wrap64 (x8_2+1),true)))) else (if (Go.bits .or .i64 x7_2 (shl .i64 (wrap64 (Go.bits .and .u8 (bt a0 x8_2) 127)) (ji12))) > 16777215 then (some (0,0,false)) else (some (Go.bits .or .i64 x7_2 (shl .i64 (wrap64 (Go.bits .and .u8 (bt a0 x8_2) 127)) (ji12)),wrap64 (x8_2+1),true)))) else (impl_GetVarint.l0 kj5 a0 a1 (Go.bits .or .i64 x7_2 (shl .i64 (wrap64 (Go.bits .and .u8 (bt a0 x8_2) 127)) (ji12))) (wrap64 (x8_2+1)))) else (none))=some (r1,r2,r3):=by first|(rw [hji12] at H;exact H)|(simp only [hji12] at H ⊢;exact H)
           have hji12w:(IntKind.i64.wrap (7*(wrap64 (x8_2-a1))))=ji12:=(i64_w _).trans hji12
           by_cases c13:0≤(ji12)
           ·rw [if_pos c13] at H
            have c13b0:=eq_true c13
            have c13b1:decide (0≤(ji12))=true:=decide_eq_true c13
            clear c13
            obtain ⟨ji14,hji14⟩:∃ j_:Int,(shl .i64 (wrap64 (Go.bits .and .u8 (bt a0 x8_2) 127)) (ji12))=j_:=⟨_,rfl⟩
            replace H:(if (bt a0 x8_2)<128 then (if (bt a0 x8_2)=0 then (if x8_2 > a1 then (some (0,0,false)) else (if (Go.bits .or .i64 x7_2 (ji14)) > 16777215 then (some (0,0,false)) else (some (Go.bits .or .i64 x7_2 (ji14),wrap64 (x8_2+1),true)))) else (if (Go.bits .or .i64 x7_2 (ji14)) > 16777215 then (some (0,0,false)) else (some (Go.bits .or .i64 x7_2 (ji14),wrap64 (x8_2+1),true)))) else (impl_GetVarint.l0 kj5 a0 a1 (Go.bits .or .i64 x7_2 (ji14)) (wrap64 (x8_2+1))))=some (r1,r2,r3):=by first|(rw [hji14] at H;exact H)|(simp only [hji14] at H ⊢;exact H)
            have hji14_:(IntKind.i64.wrap ((wrap64 (Go.bits .and .u8 (bt a0 x8_2) 127))*2 ^ min (ji12).toNat 64))=ji14:=hji14
            have hji14z:(ji12)≤64→(IntKind.i64.wrap ((wrap64 (Go.bits .and .u8 (bt a0 x8_2) 127))*2 ^ (ji12).toNat))=ji14:=shl_small hji14
            have hji14y:(wrap64 ((wrap64 (Go.bits .and .u8 (bt a0 x8_2) 127))*2 ^ min (ji12).toNat 64))=ji14:=(i64_w _).symm.trans hji14_
            have hji14x:(ji12)≤64→(wrap64 ((wrap64 (Go.bits .and .u8 (bt a0 x8_2) 127))*2 ^ (ji12).toNat))=ji14:=fun h_=>(i64_w _).symm.trans (hji14z h_)
            by_cases c16:(bt a0 x8_2)<128
            ·rw [if_pos c16] at H
             have c16b0:decide ((bt a0 x8_2)<128)=true:=decide_eq_true c16
             clear c16
             by_cases c18:(bt a0 x8_2)=0
             ·rw [if_pos c18] at H
              have c18b0:((bt a0 x8_2) == 0)=true:=beq_iff_eq.mpr c18
              have c18b1:((bt a0 x8_2) != 0)=false:=bne_eq_false_iff_eq.mpr c18
              clear c18
              by_cases c19:x8_2 > a1
              ·rw [if_pos c19] at H
               have c19b0:decide (a1<x8_2)=true:=decide_eq_true c19
               clear c19
               simp only [Option.some.injEq,Prod.mk.injEq] at H
               obtain ⟨rfl,rfl,rfl⟩:=H
               have p11:0≤(x8_2:Int):=of_decide_eq_true (by first|(with_reducible assumption)|assumption)
               have q11:x8_2<(a0.size:Int):=of_decide_eq_true (by first|(with_reducible assumption)|assumption)
               have hx11:=bt_at a0 x8_2
               replace p11:=eq_true p11
               replace q11:=eq_true q11
               have p15:0≤(x8_2:Int):=of_decide_eq_true (by first|(with_reducible assumption)|assumption)
               have q15:x8_2<(a0.size:Int):=of_decide_eq_true (by first|(with_reducible assumption)|assumption)
               have hx15:=bt_at a0 x8_2
               replace p15:=eq_true p15
               replace q15:=eq_true q15
               have p17:0≤(x8_2:Int):=of_decide_eq_true (by first|(with_reducible assumption)|assumption)
               have q17:x8_2<(a0.size:Int):=of_decide_eq_true (by first|(with_reducible assumption)|assumption)
               have hx17:=bt_at a0 x8_2
               replace p17:=eq_true p17
               replace q17:=eq_true q17
               go_wp2
               go_ret3
               exact ⟨by first|rfl|(simp;done)|(simp only [← hji12,← hji14] <;> (first|rfl|simp))|(simp [*];done),by repeat (first|exact Drawn0.refl _|apply Drawn0.step)⟩
              ·rw [if_neg c19] at H
               have c19b0:decide (a1<x8_2)=false:=decide_eq_false c19
               clear c19
               by_cases c20:(Go.bits .or .i64 x7_2 (ji14)) > 16777215
               ·rw [if_pos c20] at H
                have c20b0:decide (16777215<(Go.bits .or .i64 x7_2 (ji14)))=true:=decide_eq_true c20
                clear c20
                simp only [Option.some.injEq,Prod.mk.injEq] at H
                obtain ⟨rfl,rfl,rfl⟩:=H
                have p11:0≤(x8_2:Int):=of_decide_eq_true (by first|(with_reducible assumption)|assumption)
                have q11:x8_2<(a0.size:Int):=of_decide_eq_true (by first|(with_reducible assumption)|assumption)
                have hx11:=bt_at a0 x8_2
                replace p11:=eq_true p11
                replace q11:=eq_true q11
                have p15:0≤(x8_2:Int):=of_decide_eq_true (by first|(with_reducible assumption)|assumption)
                have q15:x8_2<(a0.size:Int):=of_decide_eq_true (by first|(with_reducible assumption)|assumption)
                have hx15:=bt_at a0 x8_2
                replace p15:=eq_true p15
                replace q15:=eq_true q15
                have p17:0≤(x8_2:Int):=of_decide_eq_true (by first|(with_reducible assumption)|assumption)
                have q17:x8_2<(a0.size:Int):=of_decide_eq_true (by first|(with_reducible assumption)|assumption)
                have hx17:=bt_at a0 x8_2
                replace p17:=eq_true p17
                replace q17:=eq_true q17
                go_wp2
                go_ret3
                exact ⟨by first|rfl|(simp;done)|(simp only [← hji12,← hji14] <;> (first|rfl|simp))|(simp [*];done),by repeat (first|exact Drawn0.refl _|apply Drawn0.step)⟩
               ·rw [if_neg c20] at H
                have c20b0:decide (16777215<(Go.bits .or .i64 x7_2 (ji14)))=false:=decide_eq_false c20
                clear c20
                simp only [Option.some.injEq,Prod.mk.injEq] at H
                obtain ⟨rfl,rfl,rfl⟩:=H
                have p11:0≤(x8_2:Int):=of_decide_eq_true (by first|(with_reducible assumption)|assumption)
                have q11:x8_2<(a0.size:Int):=of_decide_eq_true (by first|(with_reducible assumption)|assumption)
                have hx11:=bt_at a0 x8_2
                replace p11:=eq_true p11
                replace q11:=eq_true q11
                have p15:0≤(x8_2:Int):=of_decide_eq_true (by first|(with_reducible assumption)|assumption)
                have q15:x8_2<(a0.size:Int):=of_decide_eq_true (by first|(with_reducible assumption)|assumption)
                have hx15:=bt_at a0 x8_2
                replace p15:=eq_true p15
                replace q15:=eq_true q15
                have p17:0≤(x8_2:Int):=of_decide_eq_true (by first|(with_reducible assumption)|assumption)
                have q17:x8_2<(a0.size:Int):=of_decide_eq_true (by first|(with_reducible assumption)|assumption)
                have hx17:=bt_at a0 x8_2
                replace p17:=eq_true p17
                replace q17:=eq_true q17
                go_wp2
                go_ret3
                exact ⟨by first|rfl|(simp;done)|(simp only [← hji12,← hji14] <;> (first|rfl|simp))|(simp [*];done),by repeat (first|exact Drawn0.refl _|apply Drawn0.step)⟩
             ·rw [if_neg c18] at H
              have c18b0:((bt a0 x8_2) == 0)=false:=beq_eq_false_iff_ne.mpr c18
              have c18b1:((bt a0 x8_2) != 0)=true:=bne_iff_ne.mpr c18
              by_cases c21:(Go.bits .or .i64 x7_2 (ji14)) > 16777215
              ·rw [if_pos c21] at H
               have c21b0:decide (16777215<(Go.bits .or .i64 x7_2 (ji14)))=true:=decide_eq_true c21
               clear c21
               simp only [Option.some.injEq,Prod.mk.injEq] at H
               obtain ⟨rfl,rfl,rfl⟩:=H
               have p11:0≤(x8_2:Int):=of_decide_eq_true (by first|(with_reducible assumption)|assumption)
               have q11:x8_2<(a0.size:Int):=of_decide_eq_true (by first|(with_reducible assumption)|assumption)
               have hx11:=bt_at a0 x8_2
               replace p11:=eq_true p11
               replace q11:=eq_true q11
               have p15:0≤(x8_2:Int):=of_decide_eq_true (by first|(with_reducible assumption)|assumption)
               have q15:x8_2<(a0.size:Int):=of_decide_eq_true (by first|(with_reducible assumption)|assumption)
               have hx15:=bt_at a0 x8_2
               replace p15:=eq_true p15
               replace q15:=eq_true q15
               have p17:0≤(x8_2:Int):=of_decide_eq_true (by first|(with_reducible assumption)|assumption)
               have q17:x8_2<(a0.size:Int):=of_decide_eq_true (by first|(with_reducible assumption)|assumption)
               have hx17:=bt_at a0 x8_2
               replace p17:=eq_true p17
               replace q17:=eq_true q17
               go_wp2
               go_ret3
               exact ⟨by first|rfl|(simp;done)|(simp only [← hji12,← hji14] <;> (first|rfl|simp))|(simp [*];done),by repeat (first|exact Drawn0.refl _|apply Drawn0.step)⟩
              ·rw [if_neg c21] at H
               have c21b0:decide (16777215<(Go.bits .or .i64 x7_2 (ji14)))=false:=decide_eq_false c21
               clear c21
               simp only [Option.some.injEq,Prod.mk.injEq] at H
               obtain ⟨rfl,rfl,rfl⟩:=H
               have p11:0≤(x8_2:Int):=of_decide_eq_true (by first|(with_reducible assumption)|assumption)
               have q11:x8_2<(a0.size:Int):=of_decide_eq_true (by first|(with_reducible assumption)|assumption)
               have hx11:=bt_at a0 x8_2
               replace p11:=eq_true p11
               replace q11:=eq_true q11
               have p15:0≤(x8_2:Int):=of_decide_eq_true (by first|(with_reducible assumption)|assumption)
               have q15:x8_2<(a0.size:Int):=of_decide_eq_true (by first|(with_reducible assumption)|assumption)
               have hx15:=bt_at a0 x8_2
               replace p15:=eq_true p15
               replace q15:=eq_true q15
               have p17:0≤(x8_2:Int):=of_decide_eq_true (by first|(with_reducible assumption)|assumption)
               have q17:x8_2<(a0.size:Int):=of_decide_eq_true (by first|(with_reducible assumption)|assumption)
               have hx17:=bt_at a0 x8_2
               replace p17:=eq_true p17
               replace q17:=eq_true q17
               go_wp2
               go_ret3
               exact ⟨by first|rfl|(simp;done)|(simp only [← hji12,← hji14] <;> (first|rfl|simp))|(simp [*];done),by repeat (first|exact Drawn0.refl _|apply Drawn0.step)⟩
            ·rw [if_neg c16] at H
             have c16b0:decide ((bt a0 x8_2)<128)=false:=decide_eq_false c16
             clear c16
             have H':=Ak H
             clear H
             have p11:0≤(x8_2:Int):=of_decide_eq_true (by first|(with_reducible assumption)|assumption)
             have q11:x8_2<(a0.size:Int):=of_decide_eq_true (by first|(with_reducible assumption)|assumption)
             have hx11:=bt_at a0 x8_2
             replace p11:=eq_true p11
             replace q11:=eq_true q11
             have p15:0≤(x8_2:Int):=of_decide_eq_true (by first|(with_reducible assumption)|assumption)
             have q15:x8_2<(a0.size:Int):=of_decide_eq_true (by first|(with_reducible assumption)|assumption)
             have hx15:=bt_at a0 x8_2
             replace p15:=eq_true p15
             replace q15:=eq_true q15
             go_wp2
             go_roundg kj5
             case measure=>have:=HJ2.out;have:=HK2.out;have:=HJ5.out;omega
             case rel=>exact ⟨(Go.bits .or .i64 x7_2 (ji14)),(wrap64 (x8_2+1)),(by first|rfl|(simp;done)|(simp only [← hji14] <;> (first|rfl|simp))|(simp [*];done)),(by first|rfl|(simp;done)|(simp [*];done)),H',⟨by have:=HJ2.out;have:=HK2.out;have:=HJ5.out;omega⟩,by repeat (first|exact Drawn0.refl _|apply Drawn0.step)⟩
           ·rw [if_neg c13] at H
            exact absurd H (by simp)
          ·rw [if_neg c10] at H
           exact absurd H (by simp)
         ·rw [if_neg c9] at H
          exact absurd H (by simp)
        ·replace c8:=Bool.eq_false_iff.mpr c8
         subst c8
         have H1:(some (0,0,false))=some (r1,r2,r3):=by rw [if_neg (show ¬ (false=true) by decide)] at H;exact H
         clear H;have H:=H1;clear H1
         simp only [Option.some.injEq,Prod.mk.injEq] at H
         obtain ⟨rfl,rfl,rfl⟩:=H
         go_wp2
         go_ret3
         exact ⟨by first|rfl|(simp;done)|(simp [*];done),by repeat (first|exact Drawn0.refl _|apply Drawn0.step)⟩
-- NOT PRINTED: function 25 (impl_reader_num)
-- NOT PRINTED: function 26 (impl_some_uint32)
-- NOT PRINTED: function 61 (impl_reader_bytes)
-- NOT PRINTED: function 27 (impl_reader_word)
-- NOT PRINTED: function 28 (impl_Value)
-- NOT PRINTED: function 32 (impl_reader_text)
mutual
def impl_GetInt.j0:Nat→ByteArray→Int→Bool→Option (Int×Int×Bool)
 | 0,_,_,_=>none
 | k+1,x0,x1,x17=>if x17=true then (some (0,0,false)) else (impl_GetInt.l0 k x0 x1 0 7)
def impl_GetInt.l0:Nat→ByteArray→Int→Int→Int→Option (Int×Int×Bool)
 | 0,_,_,_,_=>none
 | k+1,x0,x1,x7,x8=>if x8 ≥ 0 then (if 0≤(wrap64 (x1+x8)) then (if (wrap64 (x1+x8))<(x0.size:Int) then (impl_GetInt.l0 k x0 x1 (Go.bits .or .u64 (IntKind.u64.wrap (x7*256)) (IntKind.u64.wrap (bt x0 (wrap64 (x1+x8))))) (wrap64 (x8-1))) else (none)) else (none)) else (some (wrap64 (x7),wrap64 (x1+8),true))
end
def impl_GetInt.f (k:Nat) (a0:ByteArray) (a1:Int):Option (Int×Int×Bool):=if a1<0 then (impl_GetInt.j0 k a0 a1 true) else (impl_GetInt.j0 k a0 a1 (decide ((wrap64 ((a0.size:Int)-a1))<8)))
set_option maxHeartbeats 8000000 in
set_option maxRecDepth 100000 in
theorem impl_GetInt.calls (k:Nat) (a0:ByteArray) (a1:Int) (r1:Int) (r2:Int) (r3:Bool) (w:World) (h:impl_GetInt.f k a0 a1=some (r1,r2,r3)) :
  Calls Tryd.prog 62 #[.string a0,.int .i64 a1] w fun e w'=>e=.returned (.tuple #[.int .i64 r1,.int .i64 r2,.bool r3])∧Drawn0 w w':=by
 have H:(if a1<0 then (impl_GetInt.j0 k a0 a1 true) else (impl_GetInt.j0 k a0 a1 (decide ((wrap64 ((a0.size:Int)-a1))<8))))=some (r1,r2,r3):=h
 clear h;have HC3:=Ak H;clear H
 go_enter Tryd.func62,Tryd.ntmps62
 go_upto_region 1 with (fail)
 go_cut [17] (fun v17 wc=>∃ (kq:Nat) (x17_2:Bool),v17=.bool x17_2∧Aside0 (impl_GetInt.j0 kq a0 a1 x17_2=some (r1,r2,r3))∧Aside0 (kq≤k)∧Drawn0 w wc)
 case first =>
  have H:=HC3.out
  clear HC3
  by_cases c4:a1<0
  ·rw [if_pos c4] at H
   have c4b0:decide (a1<0)=true:=decide_eq_true c4
   clear c4
   (first|rw [c4b0]|(simp only [i64_w,i32_w];rw [c4b0])|skip)
   have H':=Ak H
   clear H
   go_wp2
   go_meet
   case rel=>exact ⟨_,(true),(by first|rfl|(simp;done)|(simp [*];done)),H',⟨by first|omega|exact Nat.le_refl _⟩,by repeat (first|exact Drawn0.refl _|apply Drawn0.step)⟩
  ·rw [if_neg c4] at H
   have c4b0:decide (a1<0)=false:=decide_eq_false c4
   clear c4
   (first|rw [c4b0]|(simp only [i64_w,i32_w];rw [c4b0])|skip)
   have H':=Ak H
   clear H
   go_wp2
   go_meet
   case rel=>exact ⟨_,(decide ((wrap64 ((a0.size:Int)-a1))<8)),(by first|rfl|(simp;done)|(simp [*];done)),H',⟨by first|omega|exact Nat.le_refl _⟩,by repeat (first|exact Drawn0.refl _|apply Drawn0.step)⟩
 case rest =>
  clear HC3;(try clear p2);(try clear c4);(try clear c4b0)
  obtain ⟨kq,x17_2,rfl,HA,HJ2,⟨mc2,rfl⟩⟩:=hcut
  cases kq with
  | zero=>exact absurd HA.out (by simp [impl_GetInt.j0])
  | succ kj2 =>
   have H:=HA.out
   clear HA
   simp only [impl_GetInt.j0] at H
   by_cases c5:x17_2=true
   ·subst c5
    have H1:(some (0,0,false))=some (r1,r2,r3):=by rw [if_pos rfl] at H;exact H
    clear H;have H:=H1;clear H1
    simp only [Option.some.injEq,Prod.mk.injEq] at H
    obtain ⟨rfl,rfl,rfl⟩:=H
    go_wp2
    go_ret3
    exact ⟨by first|rfl|(simp;done)|(simp [*];done),by repeat (first|exact Drawn0.refl _|apply Drawn0.step)⟩
   ·replace c5:=Bool.eq_false_iff.mpr c5
    subst c5
    have H1:(impl_GetInt.l0 kj2 a0 a1 0 7)=some (r1,r2,r3):=by rw [if_neg (show ¬ (false=true) by decide)] at H;exact H
    clear H;have H:=H1;clear H1
    have H':=Ak H
    clear H
    go_wp2
    go_loopg [7,8] kj2 (fun kq v7 v8 w'=>∃ (x7_2:Int) (x8_2:Int),v7=.int .u64 x7_2∧v8=.int .i64 x8_2∧Aside0 (impl_GetInt.l0 kq a0 a1 x7_2 x8_2=some (r1,r2,r3))∧Aside0 (kq≤kj2)∧Drawn0 w w')
    case atStart=>exact ⟨(0),(7),(by first|rfl|(simp;done)|(simp [*];done)),(by first|rfl|(simp;done)|(simp [*];done)),H',⟨Nat.le_refl _⟩,by repeat (first|exact Drawn0.refl _|apply Drawn0.step)⟩
    case round =>
     clear H';(try clear c2);(try clear p2);(try clear c4);(try clear c4b0);(try clear c5);(try clear p2)
     obtain ⟨x7_2,x8_2,rfl,rfl,HA,HK2,⟨m2,rfl⟩⟩:=hrel
     cases gk with
     | zero=>exact absurd HA.out (by simp [impl_GetInt.l0])
     | succ k2 =>
      have H:=HA.out
      clear HA
      simp only [impl_GetInt.l0] at H
      by_cases c6:x8_2 ≥ 0
      ·rw [if_pos c6] at H
       have c6b0:decide (0≤x8_2)=true:=decide_eq_true c6
       clear c6
       obtain ⟨ji7,hji7⟩:∃ j_:Int,(wrap64 (a1+x8_2))=j_:=⟨_,rfl⟩
       replace H:(if 0≤(ji7) then (if (ji7)<(a0.size:Int) then (impl_GetInt.l0 k2 a0 a1 (Go.bits .or .u64 (IntKind.u64.wrap (x7_2*256)) (IntKind.u64.wrap (bt a0 (ji7)))) (wrap64 (x8_2-1))) else (none)) else (none))=some (r1,r2,r3):=by first|(rw [hji7] at H;exact H)|(simp only [hji7] at H ⊢;exact H)
       have hji7w:(IntKind.i64.wrap (a1+x8_2))=ji7:=(i64_w _).trans hji7
       by_cases c8:0≤(ji7)
       ·rw [if_pos c8] at H
        have c8b0:decide (0≤(ji7))=true:=decide_eq_true c8
        clear c8
        by_cases c9:(ji7)<(a0.size:Int)
        ·rw [if_pos c9] at H
         have c9b0:decide ((ji7)<(a0.size:Int))=true:=decide_eq_true c9
         clear c9
         have H':=Ak H
         clear H
         have p10:0≤((ji7):Int):=of_decide_eq_true (by first|(with_reducible assumption)|assumption)
         have q10:(ji7)<(a0.size:Int):=of_decide_eq_true (by first|(with_reducible assumption)|assumption)
         have hx10:=bt_at a0 (ji7)
         replace p10:=eq_true p10
         replace q10:=eq_true q10
         go_wp2
         go_roundg k2
         case measure=>have:=HJ2.out;have:=HK2.out;omega
         case rel=>exact ⟨(Go.bits .or .u64 (IntKind.u64.wrap (x7_2*256)) (IntKind.u64.wrap (bt a0 (ji7)))),(wrap64 (x8_2-1)),(by first|rfl|(simp;done)|(simp only [← hji7] <;> (first|rfl|simp))|(simp [*];done)),(by first|rfl|(simp;done)|(simp [*];done)),H',⟨by have:=HJ2.out;have:=HK2.out;omega⟩,by repeat (first|exact Drawn0.refl _|apply Drawn0.step)⟩
        ·rw [if_neg c9] at H
         exact absurd H (by simp)
       ·rw [if_neg c8] at H
        exact absurd H (by simp)
      ·rw [if_neg c6] at H
       have c6b0:decide (0≤x8_2)=false:=decide_eq_false c6
       clear c6
       simp only [Option.some.injEq,Prod.mk.injEq] at H
       obtain ⟨rfl,rfl,rfl⟩:=H
       go_wp2
       go_ret3
       exact ⟨by first|rfl|(simp;done)|(simp [*];done),by repeat (first|exact Drawn0.refl _|apply Drawn0.step)⟩
-- NOT PRINTED: function 29 (impl_reader_value)
-- NOT PRINTED: function 30 (impl_Up)
-- NOT PRINTED: function 31 (impl_reader_up)
-- NOT PRINTED: function 33 (impl_some_int)
-- NOT PRINTED: function 34 (impl_reader_noneOr)
-- NOT PRINTED: function 35 (impl_reader_line)
-- NOT PRINTED: function 36 (impl_some_string)
def impl_Proto_bare.f (a0_0:Int) (a0_1:Bool) (a0_2:Int) (l0_3:List Int) (l0_4:List (S63)) (l0_5:List (S67)) (a0_6:Int) (a0_7:ByteArray) (l0_8:List Int) (l0_9:List ByteArray):Option (Bool):=if a0_7.toList=([]:List UInt8) then (if (l0_8.length:Int)=0 then (some ((l0_9.length:Int) == 0)) else (some false)) else (some false)
set_option maxHeartbeats 8000000 in
set_option maxRecDepth 100000 in
theorem impl_Proto_bare.calls (a0_0:Int) (a0_1:Bool) (a0_2:Int) (A0_3:Option Addr) (c0_3:Nat) (l0_3:List Int) (A0_4:Option Addr) (c0_4:Nat) (l0_4:List (S63)) (A0_5:Option Addr) (c0_5:Nat) (l0_5:List (S67)) (a0_6:Int) (a0_7:ByteArray) (A0_8:Option Addr) (c0_8:Nat) (l0_8:List Int) (A0_9:Option Addr) (c0_9:Nat) (l0_9:List ByteArray) (r:Bool) (w:World) (hr0_3:Kd.C (Kd.int .u32) w A0_3 l0_3.length l0_3) (hc0_3:l0_3.length≤c0_3) (hr0_4:Kd.C k63 w A0_4 l0_4.length l0_4) (hc0_4:l0_4.length≤c0_4) (hr0_5:Kd.C k67 w A0_5 l0_5.length l0_5) (hc0_5:l0_5.length≤c0_5) (hr0_8:Kd.C (Kd.int .i64) w A0_8 l0_8.length l0_8) (hc0_8:l0_8.length≤c0_8) (hr0_9:Kd.C Kd.string w A0_9 l0_9.length l0_9) (hc0_9:l0_9.length≤c0_9) (h:impl_Proto_bare.f a0_0 a0_1 a0_2 l0_3 l0_4 l0_5 a0_6 a0_7 l0_8 l0_9=some r) :
  Calls Tryd.prog 37 #[.agg #[.int .i64 a0_0,.bool a0_1,.int .i64 a0_2,.slice A0_3 l0_3.length c0_3,.slice A0_4 l0_4.length c0_4,.slice A0_5 l0_5.length c0_5,.int .i64 a0_6,.string a0_7,.slice A0_8 l0_8.length c0_8,.slice A0_9 l0_9.length c0_9]] w fun e w'=>e=.returned (.bool r)∧Below w.heap.size w w':=by
 have hu38:=Tryd.underlying38
 have HR0_3:=Ak hr0_3;have HC0_3:=Ak hc0_3;clear hr0_3 hc0_3;have HR0_4:=Ak hr0_4;have HC0_4:=Ak hc0_4;clear hr0_4 hc0_4;have HR0_5:=Ak hr0_5;have HC0_5:=Ak hc0_5;clear hr0_5 hc0_5;have HR0_8:=Ak hr0_8;have HC0_8:=Ak hc0_8;clear hr0_8 hc0_8;have HR0_9:=Ak hr0_9;have HC0_9:=Ak hc0_9;clear hr0_9 hc0_9
 have HB:=Ak (Below.refl w.heap.size w)
 have H:(if a0_7.toList=([]:List UInt8) then (if (l0_8.length:Int)=0 then (some ((l0_9.length:Int) == 0)) else (some false)) else (some false))=some r:=h
 clear h
 by_cases c2:a0_7.toList=([]:List UInt8)
 ·rw [if_pos c2] at H
  have c2b0:(a0_7.toList == ([]:List UInt8))=true:=beq_iff_eq.mpr c2
  have c2b1:(a0_7.toList != ([]:List UInt8))=false:=bne_eq_false_iff_eq.mpr c2
  clear c2
  by_cases c3:(l0_8.length:Int)=0
  ·rw [if_pos c3] at H
   have c3b0:((l0_8.length:Int) == 0)=true:=beq_iff_eq.mpr c3
   have c3b1:((l0_8.length:Int) != 0)=false:=bne_eq_false_iff_eq.mpr c3
   clear c3
   obtain rfl:=Option.some.inj H
   go_enter Tryd.func37,Tryd.ntmps37
   go_wp2_with (first|((with_reducible refine gate_dst (N:=1) rfl ?_);(try (refine gate_guard (by rfl) ?_;dsimp only));refine box_event ?hg (N:=1) ?hd (cs:=#[.int .i64 a0_0,.bool a0_1,.int .i64 a0_2,.slice A0_3 l0_3.length c0_3,.slice A0_4 l0_4.length c0_4,.slice A0_5 l0_5.length c0_5,.int .i64 a0_6,.string a0_7,.slice A0_8 l0_8.length c0_8,.slice A0_9 l0_9.length c0_9]) (t:=38) ?hr ?_;(case hd=>rfl);(case hg=>rfl);(case hr=>first|(go_simp;done)|(go_simp;rfl));intro gb291 hg w4 hbox hb;have n0_:=Ak (below_step (by repeat (first|(with_reducible first|exact HB.out|apply below_alloc|apply pw_below_drewN|apply below_drew1)|exact HB.out)) hb);have n1_:=Ak (hbox);have n2_:=Ak ((by rw [hg];exact (below_size (by repeat (first|(with_reducible first|exact HB.out|apply below_alloc|apply pw_below_drewN|apply below_drew1)|exact HB.out))):w.heap.size≤gb291));have n3_:=Ak ((by rw [hg];exact (below_size (by repeat (first|(with_reducible first|exact HB.out|apply below_alloc|apply pw_below_drewN|apply below_drew1)|exact HB.out))):w.heap.size≤gb291));clear HB;have HB:=n0_;have BK291:=n1_;have GW291:=n2_;have GE291:=n3_;clear n0_ n1_ n2_ n3_;clear hb hbox hg;obtain ⟨hcz5_0,hcz5_1,hcz5_2,hcz5_3,hcz5_4,hcz5_5,hcz5_6,hcz5_7,hcz5_8,hcz5_9,hfz5_0,hfz5_1,hfz5_2,hfz5_3,hfz5_4,hfz5_5,hfz5_6,hfz5_7,hfz5_8,hfz5_9⟩:=bk10 BK291.out))
   go_ret
   exact ⟨by first|rfl|(simp [errW_none,errW_some] <;> rfl)|(simp [*,errW_none,errW_some] <;> rfl),by repeat (first|(with_reducible first|exact HB.out|apply below_alloc|apply pw_below_drewN|apply below_drew1|refine below_set ?_ GE291.out)|exact HB.out)⟩
  ·rw [if_neg c3] at H
   have c3b0:((l0_8.length:Int) == 0)=false:=beq_eq_false_iff_ne.mpr c3
   have c3b1:((l0_8.length:Int) != 0)=true:=bne_iff_ne.mpr c3
   have c3b2:¬ (l0_8=[]):=fun h_=>c3 (by rw [h_];rfl)
   obtain rfl:=Option.some.inj H
   go_enter Tryd.func37,Tryd.ntmps37
   go_wp2_with (first|((with_reducible refine gate_dst (N:=1) rfl ?_);(try (refine gate_guard (by rfl) ?_;dsimp only));refine box_event ?hg (N:=1) ?hd (cs:=#[.int .i64 a0_0,.bool a0_1,.int .i64 a0_2,.slice A0_3 l0_3.length c0_3,.slice A0_4 l0_4.length c0_4,.slice A0_5 l0_5.length c0_5,.int .i64 a0_6,.string a0_7,.slice A0_8 l0_8.length c0_8,.slice A0_9 l0_9.length c0_9]) (t:=38) ?hr ?_;(case hd=>rfl);(case hg=>rfl);(case hr=>first|(go_simp;done)|(go_simp;rfl));intro gb291 hg w6 hbox hb;have n0_:=Ak (below_step (by repeat (first|(with_reducible first|exact HB.out|apply below_alloc|apply pw_below_drewN|apply below_drew1)|exact HB.out)) hb);have n1_:=Ak (hbox);have n2_:=Ak ((by rw [hg];exact (below_size (by repeat (first|(with_reducible first|exact HB.out|apply below_alloc|apply pw_below_drewN|apply below_drew1)|exact HB.out))):w.heap.size≤gb291));have n3_:=Ak ((by rw [hg];exact (below_size (by repeat (first|(with_reducible first|exact HB.out|apply below_alloc|apply pw_below_drewN|apply below_drew1)|exact HB.out))):w.heap.size≤gb291));clear HB;have HB:=n0_;have BK291:=n1_;have GW291:=n2_;have GE291:=n3_;clear n0_ n1_ n2_ n3_;clear hb hbox hg;obtain ⟨hcz7_0,hcz7_1,hcz7_2,hcz7_3,hcz7_4,hcz7_5,hcz7_6,hcz7_7,hcz7_8,hcz7_9,hfz7_0,hfz7_1,hfz7_2,hfz7_3,hfz7_4,hfz7_5,hfz7_6,hfz7_7,hfz7_8,hfz7_9⟩:=bk10 BK291.out))
   go_ret
   exact ⟨by first|rfl|(simp [errW_none,errW_some] <;> rfl)|(simp [*,errW_none,errW_some] <;> rfl),by repeat (first|(with_reducible first|exact HB.out|apply below_alloc|apply pw_below_drewN|apply below_drew1|refine below_set ?_ GE291.out)|exact HB.out)⟩
 ·rw [if_neg c2] at H
  have c2b0:(a0_7.toList == ([]:List UInt8))=false:=beq_eq_false_iff_ne.mpr c2
  have c2b1:(a0_7.toList != ([]:List UInt8))=true:=bne_iff_ne.mpr c2
  obtain rfl:=Option.some.inj H
  go_enter Tryd.func37,Tryd.ntmps37
  go_wp2_with (first|((with_reducible refine gate_dst (N:=1) rfl ?_);(try (refine gate_guard (by rfl) ?_;dsimp only));refine box_event ?hg (N:=1) ?hd (cs:=#[.int .i64 a0_0,.bool a0_1,.int .i64 a0_2,.slice A0_3 l0_3.length c0_3,.slice A0_4 l0_4.length c0_4,.slice A0_5 l0_5.length c0_5,.int .i64 a0_6,.string a0_7,.slice A0_8 l0_8.length c0_8,.slice A0_9 l0_9.length c0_9]) (t:=38) ?hr ?_;(case hd=>rfl);(case hg=>rfl);(case hr=>first|(go_simp;done)|(go_simp;rfl));intro gb291 hg w8 hbox hb;have n0_:=Ak (below_step (by repeat (first|(with_reducible first|exact HB.out|apply below_alloc|apply pw_below_drewN|apply below_drew1)|exact HB.out)) hb);have n1_:=Ak (hbox);have n2_:=Ak ((by rw [hg];exact (below_size (by repeat (first|(with_reducible first|exact HB.out|apply below_alloc|apply pw_below_drewN|apply below_drew1)|exact HB.out))):w.heap.size≤gb291));have n3_:=Ak ((by rw [hg];exact (below_size (by repeat (first|(with_reducible first|exact HB.out|apply below_alloc|apply pw_below_drewN|apply below_drew1)|exact HB.out))):w.heap.size≤gb291));clear HB;have HB:=n0_;have BK291:=n1_;have GW291:=n2_;have GE291:=n3_;clear n0_ n1_ n2_ n3_;clear hb hbox hg;obtain ⟨hcz9_0,hcz9_1,hcz9_2,hcz9_3,hcz9_4,hcz9_5,hcz9_6,hcz9_7,hcz9_8,hcz9_9,hfz9_0,hfz9_1,hfz9_2,hfz9_3,hfz9_4,hfz9_5,hfz9_6,hfz9_7,hfz9_8,hfz9_9⟩:=bk10 BK291.out))
  go_ret
  exact ⟨by first|rfl|(simp [errW_none,errW_some] <;> rfl)|(simp [*,errW_none,errW_some] <;> rfl),by repeat (first|(with_reducible first|exact HB.out|apply below_alloc|apply pw_below_drewN|apply below_drew1|refine below_set ?_ GE291.out)|exact HB.out)⟩
-- NOT PRINTED: function 12 (impl_reader_proto)
-- NOT PRINTED: function 38 (reflectlite_ValueOf)
-- NOT PRINTED: function 39 (reflectlite_Value_Type)
-- NOT PRINTED: function 40 (reflectlite_Value_IsNil)
-- NOT PRINTED: function 63 (reflectlite_TypeOf)
-- NOT PRINTED: function 64 (reflectlite_Value_Elem)
-- NOT PRINTED: function 65 (reflectlite_Value_Set)
-- NOT PRINTED: function 41 (errors_as)
-- NOT PRINTED: function 14 (errors_As)
-- NOT PRINTED: function 5 (impl_Load)
end Go.Proofs.YtiekodnojmkfaaaDoor.PFnExactLoad
