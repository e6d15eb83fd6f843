-- Printed by the kit's print or by this session's program, then cut and tightened by it.
import Derived.Test.YtiekodnojmkfaaaPFnEndsx0
import Derived.Test.YtiekodnojmkfaaaPFnEndsx4
namespace Go.Proofs.Ytiekodnojmkfaaa.PFnEnds
open Go.RowKit Go.Proofs.YtiekodnojmkfaaaW.PrintWords Go.Proofs.YtiekodnojmkfaaaW.PrintLast Go.Proofs.YtiekodnojmkfaaaW.PrintMore
attribute [local go_sem] max2_int min2_int max_two min_two max_three min_three max_four min_four   -- for this text's walks alone
set_option linter.unusedVariables false
set_option linter.unusedSimpArgs false
def impl_Proto_good.idx {α:Type} (z:α) (p:α→Option Bool):Nat→List α→Int→Option Int
 | 0,_,_=>none
 | k+1,l,i=>if i<(l.length:Int) then (if 0≤i then ((p (l.getD i.toNat z)).bind fun b=>(if b=true then (some i) else (impl_Proto_good.idx z p k l (wrap64 (i+1))))) else none) else (some (-1))
set_option maxRecDepth 100000 in
set_option maxHeartbeats 8000000 in
theorem impl_Proto_good.lit1 (a b:Int) (s:ByteArray) (r:Bool) (w:World) (h:impl_plain.f a b s=some r) :
  Calls Try.prog 59 #[.agg #[.int .i64 a,.int .i64 b,.string s]] w fun e w'=>e=.returned (.bool !r)∧Below w.heap.size w w':=by
 have hu85:=Try.underlying85
 have HB:=Ak (Below.refl w.heap.size w)
 have A2:=Ak h;clear h
 go_enter Try.func59,Try.ntmps59
 go_wp2_with (first|((with_reducible refine gate_dst (N:=1) rfl ?_);refine box_event ?hg (N:=1) ?hd (cs:=#[.int .i64 a,.int .i64 b,.string s]) (t:=85) ?hr ?_;(case hd=>rfl);(case hg=>rfl);(case hr=>first|(go_simp;done)|(go_simp;rfl));intro gb hg w3 hbox hb;have n0_:=Ak (below_step (by repeat (first|(with_reducible first|exact HB.out|apply below_alloc|apply pw_below_drewN|apply below_drew1)|exact HB.out)) hb);clear HB;have HB:=n0_;clear n0_;have hcz_0:w3.cell? ⟨gb,0,none⟩=some (.int .i64 a):=(blk_cell hbox 0).trans rfl;have hcz_1:w3.cell? ⟨gb,1,none⟩=some (.int .i64 b):=(blk_cell hbox 1).trans rfl;have hcz_2:w3.cell? ⟨gb,2,none⟩=some (.string s):=(blk_cell hbox 2).trans rfl;have hfz_0:=blk_frozen hbox 0;have hfz_1:=blk_frozen hbox 1;have hfz_2:=blk_frozen hbox 2;clear hb hbox hg)|((with_reducible refine gate_callee (f:=60) rfl ?_);refine goesL_ (some 4) rfl rfl Try.func60 (by kernel_rfl) rfl #[.agg #[.int .i64 a,.int .i64 b,.string s]] rfl (by (try simp only [List.map_toArray,List.map_cons,List.map_nil]);first|done|rfl) ?_;(with_reducible refine (impl_plain.calls a b s r _ A2.out).mono ?_);rintro e w4 ⟨rfl,hb⟩;refine ⟨_,rfl,?_⟩;have n0_:=Ak (below_step (by repeat (first|(with_reducible first|exact HB.out|apply below_alloc|apply pw_below_drewN|apply below_drew1)|exact HB.out)) hb);clear HB;have HB:=n0_;clear n0_;clear hb))
 go_ret
 exact ⟨by first|rfl|(simp;done),by repeat (first|(with_reducible first|exact HB.out|apply below_alloc|apply pw_below_drewN|apply below_drew1)|exact HB.out)⟩
set_option maxRecDepth 100000 in
set_option maxHeartbeats 8000000 in
theorem impl_Proto_good.idx1 (k:Nat) (A0:Option Addr) (c0:Nat) (l0:List S85) (r:Int) (w:World) (hr0:Kd.C k85 w A0 l0.length l0) (hc0:l0.length≤c0) (h:impl_Proto_good.idx z85 (fun v=>impl_plain.f v.f0 v.f1 v.f2 |>.map (!·)) k l0 0=some r) :
  Calls Try.prog 108 #[.slice A0 l0.length c0,.func (.func 59) #[] #[]] w fun e w'=>e=.returned (.int .i64 r)∧Below w.heap.size w w':=by
 have hu85:=Try.underlying85
 have HR0:=Ak hr0;have HC0:=Ak hc0;clear hr0 hc0
 have HB:=Ak (Below.refl w.heap.size w)
 have H':=Ak h
 clear h
 go_enter Try.func108,Try.ntmps108
 go_wp2
 go_loopg [8] k (fun kq v8 w'=>∃ (i:Int),v8=.int .i64 i∧Aside0 (impl_Proto_good.idx z85 (fun v=>impl_plain.f v.f0 v.f1 v.f2 |>.map (!·)) kq l0 i=some r)∧Aside0 (kq≤k)∧Aside0 (Below w.heap.size w w'))
 case atStart=>exact ⟨0,rfl,H',⟨Nat.le_refl _⟩,⟨by repeat (first|(with_reducible first|exact HB.out|apply below_alloc|apply pw_below_drewN|apply below_drew1)|exact HB.out)⟩⟩
 case round =>
  clear H'
  obtain ⟨x5_1,rfl,HA,HK1,HB⟩:=hrel
  cases gk with
  | zero=>exact absurd HA.out (by simp [impl_Proto_good.idx])
  | succ k1 =>
   have H:=HA.out
   clear HA
   simp only [impl_Proto_good.idx] at H
   by_cases c4:x5_1<(l0.length:Int)
   ·rw [if_pos c4] at H
    have c4b0:decide (x5_1<(l0.length:Int))=true:=decide_eq_true c4
    clear c4
    by_cases c5:0≤x5_1
    ·rw [if_pos c5] at H
     have c5b0:decide (0≤x5_1)=true:=decide_eq_true c5
     clear c5
     replace H:=Option.bind_eq_some_iff.mp H
     obtain ⟨tb,A50,H⟩:=H
     obtain ⟨t103,A60,rfl⟩:=Option.map_eq_some_iff.mp A50
     clear A50
     change impl_plain.f (rd_T85 l0 x5_1).f0 (rd_T85 l0 x5_1).f1 (rd_T85 l0 x5_1).f2=some t103 at A60
     have A6:=Ak A60;clear A60
     have p102:0≤(x5_1:Int):=of_decide_eq_true (by first|(with_reducible assumption)|assumption)
     have q102:x5_1<(l0.length:Int):=of_decide_eq_true (by first|(with_reducible assumption)|assumption)
     obtain ⟨ad102,e102,hx102_0,hx102_1,hx102_2⟩:=at_T85 HR0.out x5_1 p102 q102
     cases e102
     replace hx102_0:=(HB.out.cell (World.block_lt_of_cell? w _ hx102_0)).trans hx102_0
     replace hx102_1:=(HB.out.cell (World.block_lt_of_cell? w _ hx102_1)).trans hx102_1
     replace hx102_2:=(HB.out.cell (World.block_lt_of_cell? w _ hx102_2)).trans hx102_2
     replace p102:=eq_true p102
     replace q102:=eq_true q102
     have H':=Ak H
     clear H
     cases t103 <;>
     go_wp2_with (first|(go_at_call 59;(with_reducible refine (impl_Proto_good.lit1 ((rd_T85 l0 x5_1).f0) ((rd_T85 l0 x5_1).f1) ((rd_T85 l0 x5_1).f2) _ _ A6.out).mono ?_);rintro e w8 ⟨rfl,hb⟩;have n0_:=Ak (below_step (by repeat (first|(with_reducible first|exact HB.out|apply below_alloc|apply pw_below_drewN|apply below_drew1)|exact HB.out)) hb);clear HB;have HB:=n0_;clear n0_;(try clear hb)))
     ·obtain rfl:=Option.some.inj H'.out
      go_ret
      exact ⟨by first|rfl|(simp;done),by repeat (first|(with_reducible first|exact HB.out|apply below_alloc|apply pw_below_drewN|apply below_drew1)|exact HB.out)⟩
     ·go_roundg k1
      case measure=>have:=HK1.out;omega
      case rel=>exact ⟨(wrap64 (x5_1+1)),(by first|rfl|(simp;done)|(simp [*];done)),H',⟨by have:=HK1.out;omega⟩,⟨by repeat (first|(with_reducible first|exact HB.out|apply below_alloc|apply pw_below_drewN|apply below_drew1)|exact HB.out)⟩⟩
    ·rw [if_neg c5] at H
     exact absurd H (by simp)
   ·rw [if_neg c4] at H
    have c4b0:decide (x5_1<(l0.length:Int))=false:=decide_eq_false c4
    clear c4
    obtain rfl:=Option.some.inj H
    go_wp2
    go_ret
    exact ⟨by first|rfl|(simp;done),by repeat (first|(with_reducible first|exact HB.out|apply below_alloc|apply pw_below_drewN|apply below_drew1)|exact HB.out)⟩
set_option maxRecDepth 100000 in
set_option maxHeartbeats 8000000 in
theorem impl_Proto_good.lit2 (a:Bool) (b:Int) (r:Bool) (w:World) (h:impl_within.f b 0 16777215=some r) :
  Calls Try.prog 62 #[.agg #[.bool a,.int .i64 b]] w fun e w'=>e=.returned (.bool !r)∧Below w.heap.size w w':=by
 have hu89:=Try.underlying89
 have HB:=Ak (Below.refl w.heap.size w)
 have A2:=Ak h;clear h
 go_enter Try.func62,Try.ntmps62
 go_wp2_with (first|((with_reducible refine gate_dst (N:=1) rfl ?_);refine box_event ?hg (N:=1) ?hd (cs:=#[.bool a,.int .i64 b]) (t:=89) ?hr ?_;(case hd=>rfl);(case hg=>rfl);(case hr=>first|(go_simp;done)|(go_simp;rfl));intro gb hg w3 hbox hb;have n0_:=Ak (below_step (by repeat (first|(with_reducible first|exact HB.out|apply below_alloc|apply pw_below_drewN|apply below_drew1)|exact HB.out)) hb);clear HB;have HB:=n0_;clear n0_;have hcz_0:w3.cell? ⟨gb,0,none⟩=some (.bool a):=(blk_cell hbox 0).trans rfl;have hcz_1:w3.cell? ⟨gb,1,none⟩=some (.int .i64 b):=(blk_cell hbox 1).trans rfl;have hfz_0:=blk_frozen hbox 0;have hfz_1:=blk_frozen hbox 1;clear hb hbox hg)|(go_at_call 26;(with_reducible refine (impl_within.calls b 0 16777215 r _ A2.out).mono ?_);rintro e w4 ⟨rfl,⟨nd,rfl⟩⟩))
 go_ret
 exact ⟨by first|rfl|(simp;done),by repeat (first|(with_reducible first|exact HB.out|apply below_alloc|apply pw_below_drewN|apply below_drew1)|exact HB.out)⟩
set_option maxRecDepth 100000 in
set_option maxHeartbeats 8000000 in
theorem impl_Proto_good.idx2 (k:Nat) (A0:Option Addr) (c0:Nat) (l0:List S89) (r:Int) (w:World) (hr0:Kd.C k89 w A0 l0.length l0) (hc0:l0.length≤c0) (h:impl_Proto_good.idx z89 (fun v=>impl_within.f v.f1 0 16777215 |>.map (!·)) k l0 0=some r) :
  Calls Try.prog 109 #[.slice A0 l0.length c0,.func (.func 62) #[] #[]] w fun e w'=>e=.returned (.int .i64 r)∧Below w.heap.size w w':=by
 have hu89:=Try.underlying89
 have HR0:=Ak hr0;have HC0:=Ak hc0;clear hr0 hc0
 have HB:=Ak (Below.refl w.heap.size w)
 have H':=Ak h
 clear h
 go_enter Try.func109,Try.ntmps109
 go_wp2
 go_loopg [8] k (fun kq v8 w'=>∃ (i:Int),v8=.int .i64 i∧Aside0 (impl_Proto_good.idx z89 (fun v=>impl_within.f v.f1 0 16777215 |>.map (!·)) kq l0 i=some r)∧Aside0 (kq≤k)∧Aside0 (Below w.heap.size w w'))
 case atStart=>exact ⟨0,rfl,H',⟨Nat.le_refl _⟩,⟨by repeat (first|(with_reducible first|exact HB.out|apply below_alloc|apply pw_below_drewN|apply below_drew1)|exact HB.out)⟩⟩
 case round =>
  clear H'
  obtain ⟨x5_1,rfl,HA,HK1,HB⟩:=hrel
  cases gk with
  | zero=>exact absurd HA.out (by simp [impl_Proto_good.idx])
  | succ k1 =>
   have H:=HA.out
   clear HA
   simp only [impl_Proto_good.idx] at H
   by_cases c4:x5_1<(l0.length:Int)
   ·rw [if_pos c4] at H
    have c4b0:decide (x5_1<(l0.length:Int))=true:=decide_eq_true c4
    clear c4
    by_cases c5:0≤x5_1
    ·rw [if_pos c5] at H
     have c5b0:decide (0≤x5_1)=true:=decide_eq_true c5
     clear c5
     replace H:=Option.bind_eq_some_iff.mp H
     obtain ⟨tb,A50,H⟩:=H
     obtain ⟨t103,A60,rfl⟩:=Option.map_eq_some_iff.mp A50
     clear A50
     change impl_within.f (rd_T89 l0 x5_1).f1 0 16777215=some t103 at A60
     have A6:=Ak A60;clear A60
     have p102:0≤(x5_1:Int):=of_decide_eq_true (by first|(with_reducible assumption)|assumption)
     have q102:x5_1<(l0.length:Int):=of_decide_eq_true (by first|(with_reducible assumption)|assumption)
     obtain ⟨ad102,e102,hx102_0,hx102_1⟩:=at_T89 HR0.out x5_1 p102 q102
     cases e102
     replace hx102_0:=(HB.out.cell (World.block_lt_of_cell? w _ hx102_0)).trans hx102_0
     replace hx102_1:=(HB.out.cell (World.block_lt_of_cell? w _ hx102_1)).trans hx102_1
     replace p102:=eq_true p102
     replace q102:=eq_true q102
     have H':=Ak H
     clear H
     cases t103 <;>
     go_wp2_with (first|(go_at_call 62;(with_reducible refine (impl_Proto_good.lit2 ((rd_T89 l0 x5_1).f0) ((rd_T89 l0 x5_1).f1) _ _ A6.out).mono ?_);rintro e w8 ⟨rfl,hb⟩;have n0_:=Ak (below_step (by repeat (first|(with_reducible first|exact HB.out|apply below_alloc|apply pw_below_drewN|apply below_drew1)|exact HB.out)) hb);clear HB;have HB:=n0_;clear n0_;(try clear hb)))
     ·obtain rfl:=Option.some.inj H'.out
      go_ret
      exact ⟨by first|rfl|(simp;done),by repeat (first|(with_reducible first|exact HB.out|apply below_alloc|apply pw_below_drewN|apply below_drew1)|exact HB.out)⟩
     ·go_roundg k1
      case measure=>have:=HK1.out;omega
      case rel=>exact ⟨(wrap64 (x5_1+1)),(by first|rfl|(simp;done)|(simp [*];done)),H',⟨by have:=HK1.out;omega⟩,⟨by repeat (first|(with_reducible first|exact HB.out|apply below_alloc|apply pw_below_drewN|apply below_drew1)|exact HB.out)⟩⟩
    ·rw [if_neg c5] at H
     exact absurd H (by simp)
   ·rw [if_neg c4] at H
    have c4b0:decide (x5_1<(l0.length:Int))=false:=decide_eq_false c4
    clear c4
    obtain rfl:=Option.some.inj H
    go_wp2
    go_ret
    exact ⟨by first|rfl|(simp;done),by repeat (first|(with_reducible first|exact HB.out|apply below_alloc|apply pw_below_drewN|apply below_drew1)|exact HB.out)⟩
set_option maxRecDepth 100000 in
set_option maxHeartbeats 8000000 in
theorem impl_Proto_good.lit3 (b:Int) (r:Bool) (w:World) (h:impl_within.f b 0 16777215=some r) :
  Calls Try.prog 64 #[.int .i64 b] w fun e w'=>e=.returned (.bool !r)∧Below w.heap.size w w':=by
 have HB:=Ak (Below.refl w.heap.size w)
 have A2:=Ak h;clear h
 go_enter Try.func64,Try.ntmps64
 go_wp2_with (first|(go_at_call 26;(with_reducible refine (impl_within.calls b 0 16777215 r _ A2.out).mono ?_);rintro e w4 ⟨rfl,⟨nd,rfl⟩⟩))
 go_ret
 exact ⟨by first|rfl|(simp;done),by repeat (first|(with_reducible first|exact HB.out|apply below_alloc|apply pw_below_drewN|apply below_drew1)|exact HB.out)⟩
set_option maxRecDepth 100000 in
set_option maxHeartbeats 8000000 in
theorem impl_Proto_good.idx3 (k:Nat) (A0:Option Addr) (c0:Nat) (l0:List Int) (r:Int) (w:World) (hr0:Kd.C (Kd.int .i64) w A0 l0.length l0) (hc0:l0.length≤c0) (h:impl_Proto_good.idx 0 (fun v=>impl_within.f v 0 16777215 |>.map (!·)) k l0 0=some r) :
  Calls Try.prog 110 #[.slice A0 l0.length c0,.func (.func 64) #[] #[]] w fun e w'=>e=.returned (.int .i64 r)∧Below w.heap.size w w':=by
 have HR0:=Ak hr0;have HC0:=Ak hc0;clear hr0 hc0
 have HB:=Ak (Below.refl w.heap.size w)
 have H':=Ak h
 clear h
 go_enter Try.func110,Try.ntmps110
 go_wp2
 go_loopg [8] k (fun kq v8 w'=>∃ (i:Int),v8=.int .i64 i∧Aside0 (impl_Proto_good.idx 0 (fun v=>impl_within.f v 0 16777215 |>.map (!·)) kq l0 i=some r)∧Aside0 (kq≤k)∧Aside0 (Below w.heap.size w w'))
 case atStart=>exact ⟨0,rfl,H',⟨Nat.le_refl _⟩,⟨by repeat (first|(with_reducible first|exact HB.out|apply below_alloc|apply pw_below_drewN|apply below_drew1)|exact HB.out)⟩⟩
 case round =>
  clear H'
  obtain ⟨x5_1,rfl,HA,HK1,HB⟩:=hrel
  cases gk with
  | zero=>exact absurd HA.out (by simp [impl_Proto_good.idx])
  | succ k1 =>
   have H:=HA.out
   clear HA
   simp only [impl_Proto_good.idx] at H
   by_cases c4:x5_1<(l0.length:Int)
   ·rw [if_pos c4] at H
    have c4b0:decide (x5_1<(l0.length:Int))=true:=decide_eq_true c4
    clear c4
    by_cases c5:0≤x5_1
    ·rw [if_pos c5] at H
     have c5b0:decide (0≤x5_1)=true:=decide_eq_true c5
     clear c5
     replace H:=Option.bind_eq_some_iff.mp H
     obtain ⟨tb,A50,H⟩:=H
     obtain ⟨t103,A60,rfl⟩:=Option.map_eq_some_iff.mp A50
     clear A50
     change impl_within.f (rd l0 x5_1) 0 16777215=some t103 at A60
     have A6:=Ak A60;clear A60
     have p102:0≤(x5_1:Int):=of_decide_eq_true (by first|(with_reducible assumption)|assumption)
     have q102:x5_1<(l0.length:Int):=of_decide_eq_true (by first|(with_reducible assumption)|assumption)
     obtain ⟨ad102,e102,hx102_0⟩:=Kd.at_int HR0.out x5_1 p102 q102
     cases e102
     replace hx102_0:=(HB.out.cell (World.block_lt_of_cell? w _ hx102_0)).trans hx102_0
     replace p102:=eq_true p102
     replace q102:=eq_true q102
     have H':=Ak H
     clear H
     cases t103 <;>
     go_wp2_with (first|(go_at_call 64;(with_reducible refine (impl_Proto_good.lit3 (rd l0 x5_1) _ _ A6.out).mono ?_);rintro e w8 ⟨rfl,hb⟩;have n0_:=Ak (below_step (by repeat (first|(with_reducible first|exact HB.out|apply below_alloc|apply pw_below_drewN|apply below_drew1)|exact HB.out)) hb);clear HB;have HB:=n0_;clear n0_;(try clear hb)))
     ·obtain rfl:=Option.some.inj H'.out
      go_ret
      exact ⟨by first|rfl|(simp;done),by repeat (first|(with_reducible first|exact HB.out|apply below_alloc|apply pw_below_drewN|apply below_drew1)|exact HB.out)⟩
     ·go_roundg k1
      case measure=>have:=HK1.out;omega
      case rel=>exact ⟨(wrap64 (x5_1+1)),(by first|rfl|(simp;done)|(simp [*];done)),H',⟨by have:=HK1.out;omega⟩,⟨by repeat (first|(with_reducible first|exact HB.out|apply below_alloc|apply pw_below_drewN|apply below_drew1)|exact HB.out)⟩⟩
    ·rw [if_neg c5] at H
     exact absurd H (by simp)
   ·rw [if_neg c4] at H
    have c4b0:decide (x5_1<(l0.length:Int))=false:=decide_eq_false c4
    clear c4
    obtain rfl:=Option.some.inj H
    go_wp2
    go_ret
    exact ⟨by first|rfl|(simp;done),by repeat (first|(with_reducible first|exact HB.out|apply below_alloc|apply pw_below_drewN|apply below_drew1)|exact HB.out)⟩
def impl_Proto_good.short (s:ByteArray):Option Bool:=some (decide ((s.size:Int)≤1000))
set_option maxRecDepth 100000 in
set_option maxHeartbeats 8000000 in
theorem impl_Proto_good.lit4 (s:ByteArray) (r:Bool) (w:World) (h:impl_Proto_good.short s=some r) :
  Calls Try.prog 66 #[.string s] w fun e w'=>e=.returned (.bool !r)∧Below w.heap.size w w':=by
 have HB:=Ak (Below.refl w.heap.size w)
 have hr:(!r)=decide (1000<s.size):=by
  unfold impl_Proto_good.short at h
  obtain rfl:=Option.some.inj h
  by_cases hs:(s.size:Int)≤1000
  ·rw [decide_eq_true hs,decide_eq_false (by omega)];rfl
  ·rw [decide_eq_false hs,decide_eq_true (by omega)];rfl
 rw [hr]
 clear h hr
 go_enter Try.func66,Try.ntmps66
 go_wp2
 go_ret
 exact ⟨by first|rfl|(simp;done)|(simp;omega),by repeat (first|(with_reducible first|exact HB.out|apply below_alloc|apply pw_below_drewN|apply below_drew1)|exact HB.out)⟩
set_option maxRecDepth 100000 in
set_option maxHeartbeats 8000000 in
theorem impl_Proto_good.idx4 (k:Nat) (A0:Option Addr) (c0:Nat) (l0:List ByteArray) (r:Int) (w:World) (hr0:Kd.C Kd.string w A0 l0.length l0) (hc0:l0.length≤c0) (h:impl_Proto_good.idx ByteArray.empty (fun v=>impl_Proto_good.short v |>.map (!·)) k l0 0=some r) :
  Calls Try.prog 111 #[.slice A0 l0.length c0,.func (.func 66) #[] #[]] w fun e w'=>e=.returned (.int .i64 r)∧Below w.heap.size w w':=by
 have HR0:=Ak hr0;have HC0:=Ak hc0;clear hr0 hc0
 have HB:=Ak (Below.refl w.heap.size w)
 have H':=Ak h
 clear h
 go_enter Try.func111,Try.ntmps111
 go_wp2
 go_loopg [8] k (fun kq v8 w'=>∃ (i:Int),v8=.int .i64 i∧Aside0 (impl_Proto_good.idx ByteArray.empty (fun v=>impl_Proto_good.short v |>.map (!·)) kq l0 i=some r)∧Aside0 (kq≤k)∧Aside0 (Below w.heap.size w w'))
 case atStart=>exact ⟨0,rfl,H',⟨Nat.le_refl _⟩,⟨by repeat (first|(with_reducible first|exact HB.out|apply below_alloc|apply pw_below_drewN|apply below_drew1)|exact HB.out)⟩⟩
 case round =>
  clear H'
  obtain ⟨x5_1,rfl,HA,HK1,HB⟩:=hrel
  cases gk with
  | zero=>exact absurd HA.out (by simp [impl_Proto_good.idx])
  | succ k1 =>
   have H:=HA.out
   clear HA
   simp only [impl_Proto_good.idx] at H
   by_cases c4:x5_1<(l0.length:Int)
   ·rw [if_pos c4] at H
    have c4b0:decide (x5_1<(l0.length:Int))=true:=decide_eq_true c4
    clear c4
    by_cases c5:0≤x5_1
    ·rw [if_pos c5] at H
     have c5b0:decide (0≤x5_1)=true:=decide_eq_true c5
     clear c5
     replace H:=Option.bind_eq_some_iff.mp H
     obtain ⟨tb,A50,H⟩:=H
     obtain ⟨t103,A60,rfl⟩:=Option.map_eq_some_iff.mp A50
     clear A50
     change impl_Proto_good.short (rdOf ByteArray.empty l0 x5_1)=some t103 at A60
     have A6:=Ak A60;clear A60
     have p102:0≤(x5_1:Int):=of_decide_eq_true (by first|(with_reducible assumption)|assumption)
     have q102:x5_1<(l0.length:Int):=of_decide_eq_true (by first|(with_reducible assumption)|assumption)
     obtain ⟨ad102,e102,hx102_0⟩:=Kd.at_string HR0.out x5_1 p102 q102
     cases e102
     replace hx102_0:=(HB.out.cell (World.block_lt_of_cell? w _ hx102_0)).trans hx102_0
     replace p102:=eq_true p102
     replace q102:=eq_true q102
     have H':=Ak H
     clear H
     cases t103 <;>
     go_wp2_with (first|(go_at_call 66;(with_reducible refine (impl_Proto_good.lit4 (rdOf ByteArray.empty l0 x5_1) _ _ A6.out).mono ?_);rintro e w8 ⟨rfl,hb⟩;have n0_:=Ak (below_step (by repeat (first|(with_reducible first|exact HB.out|apply below_alloc|apply pw_below_drewN|apply below_drew1)|exact HB.out)) hb);clear HB;have HB:=n0_;clear n0_;(try clear hb)))
     ·obtain rfl:=Option.some.inj H'.out
      go_ret
      exact ⟨by first|rfl|(simp;done),by repeat (first|(with_reducible first|exact HB.out|apply below_alloc|apply pw_below_drewN|apply below_drew1)|exact HB.out)⟩
     ·go_roundg k1
      case measure=>have:=HK1.out;omega
      case rel=>exact ⟨(wrap64 (x5_1+1)),(by first|rfl|(simp;done)|(simp [*];done)),H',⟨by have:=HK1.out;omega⟩,⟨by repeat (first|(with_reducible first|exact HB.out|apply below_alloc|apply pw_below_drewN|apply below_drew1)|exact HB.out)⟩⟩
    ·rw [if_neg c5] at H
     exact absurd H (by simp)
   ·rw [if_neg c4] at H
    have c4b0:decide (x5_1<(l0.length:Int))=false:=decide_eq_false c4
    clear c4
    obtain rfl:=Option.some.inj H
    go_wp2
    go_ret
    exact ⟨by first|rfl|(simp;done),by repeat (first|(with_reducible first|exact HB.out|apply below_alloc|apply pw_below_drewN|apply below_drew1)|exact HB.out)⟩
set_option maxRecDepth 100000 in
set_option maxHeartbeats 8000000 in
theorem impl_Proto_good.has1 (k:Nat) (A0:Option Addr) (c0:Nat) (l0:List S85) (r:Int) (w:World) (hr0:Kd.C k85 w A0 l0.length l0) (hc0:l0.length≤c0) (h:impl_Proto_good.idx z85 (fun v=>impl_plain.f v.f0 v.f1 v.f2 |>.map (!·)) k l0 0=some r) :
  Calls Try.prog 58 #[.slice A0 l0.length c0,.func (.func 59) #[] #[]] w fun e w'=>e=.returned (.bool (decide (0≤r)))∧Below w.heap.size w w':=by
 have HB:=Ak (Below.refl w.heap.size w)
 have HX:=fun w hr=>Ak (impl_Proto_good.idx1 k A0 c0 l0 r w hr hc0 h)
 have HR0:=Ak hr0;clear hr0 hc0 h
 go_enter Try.func58,Try.ntmps58
 go_wp2_with (first|(go_at_call 108;(with_reducible refine (HX _ HR0.out).out.mono ?_);rintro e w8 ⟨rfl,hb⟩;have n0_:=Ak (below_step (by repeat (first|(with_reducible first|exact HB.out|apply below_alloc|apply pw_below_drewN|apply below_drew1)|exact HB.out)) hb);clear HB;have HB:=n0_;clear n0_;(try clear hb)))
 go_ret
 exact ⟨by first|rfl|(simp;done),by repeat (first|(with_reducible first|exact HB.out|apply below_alloc|apply pw_below_drewN|apply below_drew1)|exact HB.out)⟩
set_option maxRecDepth 100000 in
set_option maxHeartbeats 8000000 in
theorem impl_Proto_good.has2 (k:Nat) (A0:Option Addr) (c0:Nat) (l0:List S89) (r:Int) (w:World) (hr0:Kd.C k89 w A0 l0.length l0) (hc0:l0.length≤c0) (h:impl_Proto_good.idx z89 (fun v=>impl_within.f v.f1 0 16777215 |>.map (!·)) k l0 0=some r) :
  Calls Try.prog 61 #[.slice A0 l0.length c0,.func (.func 62) #[] #[]] w fun e w'=>e=.returned (.bool (decide (0≤r)))∧Below w.heap.size w w':=by
 have HB:=Ak (Below.refl w.heap.size w)
 have HX:=fun w hr=>Ak (impl_Proto_good.idx2 k A0 c0 l0 r w hr hc0 h)
 have HR0:=Ak hr0;clear hr0 hc0 h
 go_enter Try.func61,Try.ntmps61
 go_wp2_with (first|(go_at_call 109;(with_reducible refine (HX _ HR0.out).out.mono ?_);rintro e w8 ⟨rfl,hb⟩;have n0_:=Ak (below_step (by repeat (first|(with_reducible first|exact HB.out|apply below_alloc|apply pw_below_drewN|apply below_drew1)|exact HB.out)) hb);clear HB;have HB:=n0_;clear n0_;(try clear hb)))
 go_ret
 exact ⟨by first|rfl|(simp;done),by repeat (first|(with_reducible first|exact HB.out|apply below_alloc|apply pw_below_drewN|apply below_drew1)|exact HB.out)⟩
set_option maxRecDepth 100000 in
set_option maxHeartbeats 8000000 in
theorem impl_Proto_good.has3 (k:Nat) (A0:Option Addr) (c0:Nat) (l0:List Int) (r:Int) (w:World) (hr0:Kd.C (Kd.int .i64) w A0 l0.length l0) (hc0:l0.length≤c0) (h:impl_Proto_good.idx 0 (fun v=>impl_within.f v 0 16777215 |>.map (!·)) k l0 0=some r) :
  Calls Try.prog 63 #[.slice A0 l0.length c0,.func (.func 64) #[] #[]] w fun e w'=>e=.returned (.bool (decide (0≤r)))∧Below w.heap.size w w':=by
 have HB:=Ak (Below.refl w.heap.size w)
 have HX:=fun w hr=>Ak (impl_Proto_good.idx3 k A0 c0 l0 r w hr hc0 h)
 have HR0:=Ak hr0;clear hr0 hc0 h
 go_enter Try.func63,Try.ntmps63
 go_wp2_with (first|(go_at_call 110;(with_reducible refine (HX _ HR0.out).out.mono ?_);rintro e w8 ⟨rfl,hb⟩;have n0_:=Ak (below_step (by repeat (first|(with_reducible first|exact HB.out|apply below_alloc|apply pw_below_drewN|apply below_drew1)|exact HB.out)) hb);clear HB;have HB:=n0_;clear n0_;(try clear hb)))
 go_ret
 exact ⟨by first|rfl|(simp;done),by repeat (first|(with_reducible first|exact HB.out|apply below_alloc|apply pw_below_drewN|apply below_drew1)|exact HB.out)⟩
set_option maxRecDepth 100000 in
set_option maxHeartbeats 8000000 in
theorem impl_Proto_good.has4 (k:Nat) (A0:Option Addr) (c0:Nat) (l0:List ByteArray) (r:Int) (w:World) (hr0:Kd.C Kd.string w A0 l0.length l0) (hc0:l0.length≤c0) (h:impl_Proto_good.idx ByteArray.empty (fun v=>impl_Proto_good.short v |>.map (!·)) k l0 0=some r) :
  Calls Try.prog 65 #[.slice A0 l0.length c0,.func (.func 66) #[] #[]] w fun e w'=>e=.returned (.bool (decide (0≤r)))∧Below w.heap.size w w':=by
 have HB:=Ak (Below.refl w.heap.size w)
 have HX:=fun w hr=>Ak (impl_Proto_good.idx4 k A0 c0 l0 r w hr hc0 h)
 have HR0:=Ak hr0;clear hr0 hc0 h
 go_enter Try.func65,Try.ntmps65
 go_wp2_with (first|(go_at_call 111;(with_reducible refine (HX _ HR0.out).out.mono ?_);rintro e w8 ⟨rfl,hb⟩;have n0_:=Ak (below_step (by repeat (first|(with_reducible first|exact HB.out|apply below_alloc|apply pw_below_drewN|apply below_drew1)|exact HB.out)) hb);clear HB;have HB:=n0_;clear n0_;(try clear hb)))
 go_ret
 exact ⟨by first|rfl|(simp;done),by repeat (first|(with_reducible first|exact HB.out|apply below_alloc|apply pw_below_drewN|apply below_drew1)|exact HB.out)⟩
def impl_Proto_good.wi (x lo hi:Int):Bool:=decide (lo≤x) && decide (x≤hi)
theorem impl_Proto_good.wi_eq (x lo hi:Int):impl_within.f x lo hi=some (impl_Proto_good.wi x lo hi):=by unfold impl_within.f impl_Proto_good.wi;by_cases h:lo≤x <;> simp [h]
def impl_Proto_good.c1 (a0_0 a0_2:Int) (n3 n4 n5 n7:Nat):Bool:=!impl_Proto_good.wi a0_2 1 250 || (!impl_Proto_good.wi a0_0 0 a0_2 || (!impl_Proto_good.wi (n3:Int) 1 2000 || (decide (500<n4) || (decide (60<n5) || decide (1000<n7)))))
def impl_Proto_good.c2 (n3 n5 n8 n9:Nat) (a0_6:Int):Bool:=(decide (n8≠0) && decide (n8≠n3)) || ((decide (n9≠0) && decide (n9≠n5)) || decide (a0_6<0))
def impl_Proto_good.f (a0_0:Int) (a0_1:Bool) (a0_2:Int) (l0_3:List Int) (l0_4:List (S85)) (l0_5:List (S89)) (a0_6:Int) (a0_7:ByteArray) (l0_8:List Int) (l0_9:List ByteArray):Option Bool :=
 if impl_Proto_good.c1 a0_0 a0_2 l0_3.length l0_4.length l0_5.length a0_7.size=true then some false else if impl_Proto_good.c2 l0_3.length l0_5.length l0_8.length l0_9.length a0_6=true then some false else
 (impl_Proto_good.idx z85 (fun v=>impl_plain.f v.f0 v.f1 v.f2 |>.map (!·)) (l0_4.length+1) l0_4 0).bind fun r0=>if 0≤r0 then some false else (impl_Proto_good.idx z89 (fun v=>impl_within.f v.f1 0 16777215 |>.map (!·)) (l0_5.length+1) l0_5 0).bind fun r1=>if 0≤r1 then some false else (impl_Proto_good.idx 0 (fun v=>impl_within.f v 0 16777215 |>.map (!·)) (l0_8.length+1) l0_8 0).bind fun r2=>if 0≤r2 then some false else (impl_Proto_good.idx ByteArray.empty (fun v=>impl_Proto_good.short v |>.map (!·)) (l0_9.length+1) l0_9 0).bind fun r3=>if 0≤r3 then some false else some true
set_option maxRecDepth 100000 in
set_option maxHeartbeats 16000000 in
theorem impl_Proto_good.calls (a0_0:Int) (a0_1:Bool) (a0_2:Int) (A0_3:Option Addr) (c0_3:Nat) (l0_3:List Int) (A0_4:Option Addr) (c0_4:Nat) (l0_4:List (S85)) (A0_5:Option Addr) (c0_5:Nat) (l0_5:List (S89)) (a0_6:Int) (a0_7:ByteArray) (A0_8:Option Addr) (c0_8:Nat) (l0_8:List Int) (A0_9:Option Addr) (c0_9:Nat) (l0_9:List ByteArray) (r:Bool) (w:World) (hr0_3:Kd.C (Kd.int .u32) w A0_3 l0_3.length l0_3) (hc0_3:l0_3.length≤c0_3) (hr0_4:Kd.C k85 w A0_4 l0_4.length l0_4) (hc0_4:l0_4.length≤c0_4) (hr0_5:Kd.C k89 w A0_5 l0_5.length l0_5) (hc0_5:l0_5.length≤c0_5) (hr0_8:Kd.C (Kd.int .i64) w A0_8 l0_8.length l0_8) (hc0_8:l0_8.length≤c0_8) (hr0_9:Kd.C Kd.string w A0_9 l0_9.length l0_9) (hc0_9:l0_9.length≤c0_9) (h:impl_Proto_good.f a0_0 a0_1 a0_2 l0_3 l0_4 l0_5 a0_6 a0_7 l0_8 l0_9=some r) :
  Calls Try.prog 27 #[.agg #[.int .i64 a0_0,.bool a0_1,.int .i64 a0_2,.slice A0_3 l0_3.length c0_3,.slice A0_4 l0_4.length c0_4,.slice A0_5 l0_5.length c0_5,.int .i64 a0_6,.string a0_7,.slice A0_8 l0_8.length c0_8,.slice A0_9 l0_9.length c0_9]] w fun e w'=>e=.returned (.bool r)∧Below w.heap.size w w':=by
 have hu44:=Try.underlying44
 have hu85:=Try.underlying85
 have hu89:=Try.underlying89
 have HR0_3:=Ak hr0_3;have HC0_3:=Ak hc0_3;clear hr0_3 hc0_3;have HR0_4:=Ak hr0_4;have HC0_4:=Ak hc0_4;clear hr0_4 hc0_4;have HR0_5:=Ak hr0_5;have HC0_5:=Ak hc0_5;clear hr0_5 hc0_5;have HR0_8:=Ak hr0_8;have HC0_8:=Ak hc0_8;clear hr0_8 hc0_8;have HR0_9:=Ak hr0_9;have HC0_9:=Ak hc0_9;clear hr0_9 hc0_9
 have HB:=Ak (Below.refl w.heap.size w)
 have W1:=Ak (impl_Proto_good.wi_eq a0_2 1 250)
 have W2:=Ak (impl_Proto_good.wi_eq a0_0 0 a0_2)
 have W3:=Ak (impl_Proto_good.wi_eq (l0_3.length:Int) 1 2000)
 unfold impl_Proto_good.f at h
 obtain ⟨X1,hX1⟩:∃ x,impl_Proto_good.c1 a0_0 a0_2 l0_3.length l0_4.length l0_5.length a0_7.size=x:=⟨_,rfl⟩
 obtain ⟨X2,hX2⟩:∃ x,impl_Proto_good.c2 l0_3.length l0_5.length l0_8.length l0_9.length a0_6=x:=⟨_,rfl⟩
 rw [hX1,hX2] at h
 have HX1:=Ak hX1;have HX2:=Ak hX2;have H:=Ak h;clear hX1 hX2 h
 go_enter Try.func27,Try.ntmps27
 go_upto_region 1 with (first|((with_reducible refine gate_dst (N:=1) rfl ?_);(try (refine gate_guard (by rfl) ?_;dsimp only));refine box_event ?hg (N:=1) ?hd (cs:=#[.int .i64 a0_0,.bool a0_1,.int .i64 a0_2,.slice A0_3 l0_3.length c0_3,.slice A0_4 l0_4.length c0_4,.slice A0_5 l0_5.length c0_5,.int .i64 a0_6,.string a0_7,.slice A0_8 l0_8.length c0_8,.slice A0_9 l0_9.length c0_9]) (t:=44) ?hr ?_;(case hd=>rfl);(case hg=>rfl);(case hr=>first|(go_simp;done)|(go_simp;rfl));intro gb119 hg w3 hbox hb;have n0_:=Ak (below_step (by repeat (first|(with_reducible first|exact HB.out|apply below_alloc|apply pw_below_drewN|apply below_drew1)|exact HB.out)) hb);have n1_:=Ak (hbox);have n3_:=Ak ((by rw [hg];exact (below_size (by repeat (first|(with_reducible first|exact HB.out|apply below_alloc|apply pw_below_drewN|apply below_drew1)|exact HB.out)))):w.heap.size≤gb119);clear HB;have HB:=n0_;have BK119:=n1_;have GE119:=n3_;clear n0_ n1_ n3_;clear hb hbox hg))
 (try simp only [Act.put,List.setIfInBounds_toArray,List.set_cons_zero,List.set_cons_succ])
 go_cut [39] (fun v39 wc=>v39=.bool X1∧Aside0 (wc.heap[gb119]?=some (.cells #[.int .i64 a0_0,.bool a0_1,.int .i64 a0_2,.slice A0_3 l0_3.length c0_3,.slice A0_4 l0_4.length c0_4,.slice A0_5 l0_5.length c0_5,.int .i64 a0_6,.string a0_7,.slice A0_8 l0_8.length c0_8,.slice A0_9 l0_9.length c0_9] 44 (0,0)))∧Aside0 (Below w.heap.size w wc))
 case first =>
  clear HX2 H
  obtain ⟨hcz_0,hcz_1,hcz_2,hcz_3,hcz_4,hcz_5,hcz_6,hcz_7,hcz_8,hcz_9,hfz_0,hfz_1,hfz_2,hfz_3,hfz_4,hfz_5,hfz_6,hfz_7,hfz_8,hfz_9⟩:=bk10 BK119.out
  obtain ⟨b1,hb1⟩:∃ b,impl_Proto_good.wi a0_2 1 250=b:=⟨_,rfl⟩
  obtain ⟨b2,hb2⟩:∃ b,impl_Proto_good.wi a0_0 0 a0_2=b:=⟨_,rfl⟩
  obtain ⟨b3,hb3⟩:∃ b,impl_Proto_good.wi (l0_3.length:Int) 1 2000=b:=⟨_,rfl⟩
  have hX1:=HX1.out
  unfold impl_Proto_good.c1 at hX1
  rw [hb1,hb2,hb3] at hX1
  rw [hb1] at W1
  rw [hb2] at W2
  rw [hb3] at W3
  clear hb1 hb2 hb3 HX1
  replace HX1:=Ak hX1
  clear hX1
  cases b1
  ·go_wp2_with (first|(go_at_call 26;(with_reducible refine (impl_within.calls a0_2 1 250 _ _ W1.out).mono ?_);rintro e w4 ⟨rfl,⟨nd,rfl⟩⟩)|(go_at_call 26;(with_reducible refine (impl_within.calls a0_0 0 a0_2 _ _ W2.out).mono ?_);rintro e w4 ⟨rfl,⟨nd,rfl⟩⟩)|(go_at_call 26;(with_reducible refine (impl_within.calls (l0_3.length:Int) 1 2000 _ _ W3.out).mono ?_);rintro e w4 ⟨rfl,⟨nd,rfl⟩⟩))
   go_meet
   case rel=>exact ⟨by rw [← HX1.out];first|rfl|(simp;done)|(simp [*];done)|(simp;omega),⟨by (with_reducible repeat (first|refine blk_drewN ?_ _|refine blk_drew ?_|refine blk_alloc ?_ _));exact BK119.out⟩,⟨by repeat (first|(with_reducible first|exact HB.out|apply below_alloc|apply pw_below_drewN|apply below_drew1|refine below_set ?_ GE119.out)|exact HB.out)⟩⟩
  ·cases b2
   ·go_wp2_with (first|(go_at_call 26;(with_reducible refine (impl_within.calls a0_2 1 250 _ _ W1.out).mono ?_);rintro e w4 ⟨rfl,⟨nd,rfl⟩⟩)|(go_at_call 26;(with_reducible refine (impl_within.calls a0_0 0 a0_2 _ _ W2.out).mono ?_);rintro e w4 ⟨rfl,⟨nd,rfl⟩⟩)|(go_at_call 26;(with_reducible refine (impl_within.calls (l0_3.length:Int) 1 2000 _ _ W3.out).mono ?_);rintro e w4 ⟨rfl,⟨nd,rfl⟩⟩))
    go_meet
    case rel=>exact ⟨by rw [← HX1.out];first|rfl|(simp;done)|(simp [*];done)|(simp;omega),⟨by (with_reducible repeat (first|refine blk_drewN ?_ _|refine blk_drew ?_|refine blk_alloc ?_ _));exact BK119.out⟩,⟨by repeat (first|(with_reducible first|exact HB.out|apply below_alloc|apply pw_below_drewN|apply below_drew1|refine below_set ?_ GE119.out)|exact HB.out)⟩⟩
   ·cases b3
    ·go_wp2_with (first|(go_at_call 26;(with_reducible refine (impl_within.calls a0_2 1 250 _ _ W1.out).mono ?_);rintro e w4 ⟨rfl,⟨nd,rfl⟩⟩)|(go_at_call 26;(with_reducible refine (impl_within.calls a0_0 0 a0_2 _ _ W2.out).mono ?_);rintro e w4 ⟨rfl,⟨nd,rfl⟩⟩)|(go_at_call 26;(with_reducible refine (impl_within.calls (l0_3.length:Int) 1 2000 _ _ W3.out).mono ?_);rintro e w4 ⟨rfl,⟨nd,rfl⟩⟩))
     go_meet
     case rel=>exact ⟨by rw [← HX1.out];first|rfl|(simp;done)|(simp [*];done)|(simp;omega),⟨by (with_reducible repeat (first|refine blk_drewN ?_ _|refine blk_drew ?_|refine blk_alloc ?_ _));exact BK119.out⟩,⟨by repeat (first|(with_reducible first|exact HB.out|apply below_alloc|apply pw_below_drewN|apply below_drew1|refine below_set ?_ GE119.out)|exact HB.out)⟩⟩
    ·by_cases q3:500<l0_4.length
     ·have d3:=decide_eq_true q3
      have e3:=eq_true q3
      have f3:(500<(l0_4.length:Int))=True:=eq_true (by omega)
      clear q3
      go_wp2_with (first|(go_at_call 26;(with_reducible refine (impl_within.calls a0_2 1 250 _ _ W1.out).mono ?_);rintro e w4 ⟨rfl,⟨nd,rfl⟩⟩)|(go_at_call 26;(with_reducible refine (impl_within.calls a0_0 0 a0_2 _ _ W2.out).mono ?_);rintro e w4 ⟨rfl,⟨nd,rfl⟩⟩)|(go_at_call 26;(with_reducible refine (impl_within.calls (l0_3.length:Int) 1 2000 _ _ W3.out).mono ?_);rintro e w4 ⟨rfl,⟨nd,rfl⟩⟩))
      go_meet
      case rel=>exact ⟨by rw [← HX1.out];first|rfl|(simp;done)|(simp [*];done)|(simp;omega),⟨by (with_reducible repeat (first|refine blk_drewN ?_ _|refine blk_drew ?_|refine blk_alloc ?_ _));exact BK119.out⟩,⟨by repeat (first|(with_reducible first|exact HB.out|apply below_alloc|apply pw_below_drewN|apply below_drew1|refine below_set ?_ GE119.out)|exact HB.out)⟩⟩
     ·have d3:=decide_eq_false q3
      have e3:=eq_false q3
      have f3:(500<(l0_4.length:Int))=False:=eq_false (by omega)
      clear q3
      by_cases q4:60<l0_5.length
      ·have d4:=decide_eq_true q4
       have e4:=eq_true q4
       have f4:(60<(l0_5.length:Int))=True:=eq_true (by omega)
       clear q4
       go_wp2_with (first|(go_at_call 26;(with_reducible refine (impl_within.calls a0_2 1 250 _ _ W1.out).mono ?_);rintro e w4 ⟨rfl,⟨nd,rfl⟩⟩)|(go_at_call 26;(with_reducible refine (impl_within.calls a0_0 0 a0_2 _ _ W2.out).mono ?_);rintro e w4 ⟨rfl,⟨nd,rfl⟩⟩)|(go_at_call 26;(with_reducible refine (impl_within.calls (l0_3.length:Int) 1 2000 _ _ W3.out).mono ?_);rintro e w4 ⟨rfl,⟨nd,rfl⟩⟩))
       go_meet
       case rel=>exact ⟨by rw [← HX1.out];first|rfl|(simp;done)|(simp [*];done)|(simp;omega),⟨by (with_reducible repeat (first|refine blk_drewN ?_ _|refine blk_drew ?_|refine blk_alloc ?_ _));exact BK119.out⟩,⟨by repeat (first|(with_reducible first|exact HB.out|apply below_alloc|apply pw_below_drewN|apply below_drew1|refine below_set ?_ GE119.out)|exact HB.out)⟩⟩
      ·have d4:=decide_eq_false q4
       have e4:=eq_false q4
       have f4:(60<(l0_5.length:Int))=False:=eq_false (by omega)
       clear q4
       by_cases q5:1000<a0_7.size
       ·have d5:=decide_eq_true q5
        have e5:=eq_true q5
        have f5:(1000<(a0_7.size:Int))=True:=eq_true (by omega)
        clear q5
        go_wp2_with (first|(go_at_call 26;(with_reducible refine (impl_within.calls a0_2 1 250 _ _ W1.out).mono ?_);rintro e w4 ⟨rfl,⟨nd,rfl⟩⟩)|(go_at_call 26;(with_reducible refine (impl_within.calls a0_0 0 a0_2 _ _ W2.out).mono ?_);rintro e w4 ⟨rfl,⟨nd,rfl⟩⟩)|(go_at_call 26;(with_reducible refine (impl_within.calls (l0_3.length:Int) 1 2000 _ _ W3.out).mono ?_);rintro e w4 ⟨rfl,⟨nd,rfl⟩⟩))
        go_meet
        case rel=>exact ⟨by rw [← HX1.out];first|rfl|(simp;done)|(simp [*];done)|(simp;omega),⟨by (with_reducible repeat (first|refine blk_drewN ?_ _|refine blk_drew ?_|refine blk_alloc ?_ _));exact BK119.out⟩,⟨by repeat (first|(with_reducible first|exact HB.out|apply below_alloc|apply pw_below_drewN|apply below_drew1|refine below_set ?_ GE119.out)|exact HB.out)⟩⟩
       ·have d5:=decide_eq_false q5
        have e5:=eq_false q5
        have f5:(1000<(a0_7.size:Int))=False:=eq_false (by omega)
        clear q5
        go_wp2_with (first|(go_at_call 26;(with_reducible refine (impl_within.calls a0_2 1 250 _ _ W1.out).mono ?_);rintro e w4 ⟨rfl,⟨nd,rfl⟩⟩)|(go_at_call 26;(with_reducible refine (impl_within.calls a0_0 0 a0_2 _ _ W2.out).mono ?_);rintro e w4 ⟨rfl,⟨nd,rfl⟩⟩)|(go_at_call 26;(with_reducible refine (impl_within.calls (l0_3.length:Int) 1 2000 _ _ W3.out).mono ?_);rintro e w4 ⟨rfl,⟨nd,rfl⟩⟩))
        go_meet
        case rel=>exact ⟨by rw [← HX1.out];first|rfl|(simp;done)|(simp [*];done)|(simp;omega),⟨by (with_reducible repeat (first|refine blk_drewN ?_ _|refine blk_drew ?_|refine blk_alloc ?_ _));exact BK119.out⟩,⟨by repeat (first|(with_reducible first|exact HB.out|apply below_alloc|apply pw_below_drewN|apply below_drew1|refine below_set ?_ GE119.out)|exact HB.out)⟩⟩
 case rest =>
  clear HX1 W1 W2 W3
  obtain ⟨rfl,BK119,HB⟩:=hcut
  cases X1
  case true =>
   have h:=H.out
   rw [if_pos rfl] at h
   obtain rfl:=Option.some.inj h
   clear h
   go_wp2
   go_ret
   exact ⟨by first|rfl|(simp;done),by repeat (first|(with_reducible first|exact HB.out|apply below_alloc|apply pw_below_drewN|apply below_drew1|refine below_set ?_ GE119.out)|exact HB.out)⟩
  case false =>
   have h:=H.out
   rw [if_neg (by decide)] at h
   replace H:=Ak h
   clear h
   go_upto_region 3 with (fail)
   go_cut [72] (fun v72 wc=>v72=.bool X2∧Aside0 (wc.heap[gb119]?=some (.cells #[.int .i64 a0_0,.bool a0_1,.int .i64 a0_2,.slice A0_3 l0_3.length c0_3,.slice A0_4 l0_4.length c0_4,.slice A0_5 l0_5.length c0_5,.int .i64 a0_6,.string a0_7,.slice A0_8 l0_8.length c0_8,.slice A0_9 l0_9.length c0_9] 44 (0,0)))∧Aside0 (Below w.heap.size w wc))
   case first =>
    clear H
    obtain ⟨hcz_0,hcz_1,hcz_2,hcz_3,hcz_4,hcz_5,hcz_6,hcz_7,hcz_8,hcz_9,hfz_0,hfz_1,hfz_2,hfz_3,hfz_4,hfz_5,hfz_6,hfz_7,hfz_8,hfz_9⟩:=bk10 BK119.out
    have hX2:=HX2.out
    unfold impl_Proto_good.c2 at hX2
    replace HX2:=Ak hX2
    clear hX2
    by_cases q1:l0_8.length=0
    ·have ea1:(l0_8.length=0)=True:=eq_true q1
     have eb1:((l0_8.length:Int)=0)=True:=eq_true (by omega)
     have ec1:((l0_8.length:Int) == 0)=true:=beq_iff_eq.mpr (by omega)
     have ed1:((l0_8.length:Int) != 0)=false:=bne_eq_false_iff_eq.mpr (by omega)
     have eg1:decide (l0_8.length≠0)=false:=decide_eq_false (fun h=>h q1)
     have ef1:(l0_8=[])=True:=eq_true (List.eq_nil_of_length_eq_zero q1)
     clear q1
     by_cases q3:l0_9.length=0
     ·have ea3:(l0_9.length=0)=True:=eq_true q3
      have eb3:((l0_9.length:Int)=0)=True:=eq_true (by omega)
      have ec3:((l0_9.length:Int) == 0)=true:=beq_iff_eq.mpr (by omega)
      have ed3:((l0_9.length:Int) != 0)=false:=bne_eq_false_iff_eq.mpr (by omega)
      have eg3:decide (l0_9.length≠0)=false:=decide_eq_false (fun h=>h q3)
      have ef3:(l0_9=[])=True:=eq_true (List.eq_nil_of_length_eq_zero q3)
      clear q3
      by_cases q9:a0_6<0
      ·have d9:=decide_eq_true q9
       have e9:=eq_true q9
       clear q9
       go_wp2
       go_meet
       case rel=>exact ⟨by rw [← HX2.out];first|rfl|(simp;done)|(simp [*];done)|(simp;omega),⟨by (with_reducible repeat (first|refine blk_drewN ?_ _|refine blk_drew ?_|refine blk_alloc ?_ _));exact BK119.out⟩,⟨by repeat (first|(with_reducible first|exact HB.out|apply below_alloc|apply pw_below_drewN|apply below_drew1|refine below_set ?_ GE119.out)|exact HB.out)⟩⟩
      ·have d9:=decide_eq_false q9
       have e9:=eq_false q9
       clear q9
       go_wp2
       go_meet
       case rel=>exact ⟨by rw [← HX2.out];first|rfl|(simp;done)|(simp [*];done)|(simp;omega),⟨by (with_reducible repeat (first|refine blk_drewN ?_ _|refine blk_drew ?_|refine blk_alloc ?_ _));exact BK119.out⟩,⟨by repeat (first|(with_reducible first|exact HB.out|apply below_alloc|apply pw_below_drewN|apply below_drew1|refine below_set ?_ GE119.out)|exact HB.out)⟩⟩
     ·have ea3:(l0_9.length=0)=False:=eq_false q3
      have eb3:((l0_9.length:Int)=0)=False:=eq_false (by omega)
      have ec3:((l0_9.length:Int) == 0)=false:=beq_eq_false_iff_ne.mpr (by omega)
      have ed3:((l0_9.length:Int) != 0)=true:=bne_iff_ne.mpr (by omega)
      have eg3:decide (l0_9.length≠0)=true:=decide_eq_true q3
      have ef3:(l0_9=[])=False:=eq_false (fun h=>q3 (by rw [h];rfl))
      clear q3
      by_cases q4:l0_9.length=l0_5.length
      ·have ea4:(l0_9.length=l0_5.length)=True:=eq_true q4
       have eb4:((l0_9.length:Int)=(l0_5.length:Int))=True:=eq_true (by omega)
       have ec4:((l0_9.length:Int) == (l0_5.length:Int))=true:=beq_iff_eq.mpr (by omega)
       have ed4:((l0_9.length:Int) != (l0_5.length:Int))=false:=bne_eq_false_iff_eq.mpr (by omega)
       have eg4:decide (l0_9.length≠l0_5.length)=false:=decide_eq_false (fun h=>h q4)
       clear q4
       by_cases q9:a0_6<0
       ·have d9:=decide_eq_true q9
        have e9:=eq_true q9
        clear q9
        go_wp2
        go_meet
        case rel=>exact ⟨by rw [← HX2.out];first|rfl|(simp;done)|(simp [*];done)|(simp;omega),⟨by (with_reducible repeat (first|refine blk_drewN ?_ _|refine blk_drew ?_|refine blk_alloc ?_ _));exact BK119.out⟩,⟨by repeat (first|(with_reducible first|exact HB.out|apply below_alloc|apply pw_below_drewN|apply below_drew1|refine below_set ?_ GE119.out)|exact HB.out)⟩⟩
       ·have d9:=decide_eq_false q9
        have e9:=eq_false q9
        clear q9
        go_wp2
        go_meet
        case rel=>exact ⟨by rw [← HX2.out];first|rfl|(simp;done)|(simp [*];done)|(simp;omega),⟨by (with_reducible repeat (first|refine blk_drewN ?_ _|refine blk_drew ?_|refine blk_alloc ?_ _));exact BK119.out⟩,⟨by repeat (first|(with_reducible first|exact HB.out|apply below_alloc|apply pw_below_drewN|apply below_drew1|refine below_set ?_ GE119.out)|exact HB.out)⟩⟩
      ·have ea4:(l0_9.length=l0_5.length)=False:=eq_false q4
       have eb4:((l0_9.length:Int)=(l0_5.length:Int))=False:=eq_false (by omega)
       have ec4:((l0_9.length:Int) == (l0_5.length:Int))=false:=beq_eq_false_iff_ne.mpr (by omega)
       have ed4:((l0_9.length:Int) != (l0_5.length:Int))=true:=bne_iff_ne.mpr (by omega)
       have eg4:decide (l0_9.length≠l0_5.length)=true:=decide_eq_true q4
       clear q4
       go_wp2
       go_meet
       case rel=>exact ⟨by rw [← HX2.out];first|rfl|(simp;done)|(simp [*];done)|(simp;omega),⟨by (with_reducible repeat (first|refine blk_drewN ?_ _|refine blk_drew ?_|refine blk_alloc ?_ _));exact BK119.out⟩,⟨by repeat (first|(with_reducible first|exact HB.out|apply below_alloc|apply pw_below_drewN|apply below_drew1|refine below_set ?_ GE119.out)|exact HB.out)⟩⟩
    ·have ea1:(l0_8.length=0)=False:=eq_false q1
     have eb1:((l0_8.length:Int)=0)=False:=eq_false (by omega)
     have ec1:((l0_8.length:Int) == 0)=false:=beq_eq_false_iff_ne.mpr (by omega)
     have ed1:((l0_8.length:Int) != 0)=true:=bne_iff_ne.mpr (by omega)
     have eg1:decide (l0_8.length≠0)=true:=decide_eq_true q1
     have ef1:(l0_8=[])=False:=eq_false (fun h=>q1 (by rw [h];rfl))
     clear q1
     by_cases q2:l0_8.length=l0_3.length
     ·have ea2:(l0_8.length=l0_3.length)=True:=eq_true q2
      have eb2:((l0_8.length:Int)=(l0_3.length:Int))=True:=eq_true (by omega)
      have ec2:((l0_8.length:Int) == (l0_3.length:Int))=true:=beq_iff_eq.mpr (by omega)
      have ed2:((l0_8.length:Int) != (l0_3.length:Int))=false:=bne_eq_false_iff_eq.mpr (by omega)
      have eg2:decide (l0_8.length≠l0_3.length)=false:=decide_eq_false (fun h=>h q2)
      clear q2
      by_cases q3:l0_9.length=0
      ·have ea3:(l0_9.length=0)=True:=eq_true q3
       have eb3:((l0_9.length:Int)=0)=True:=eq_true (by omega)
       have ec3:((l0_9.length:Int) == 0)=true:=beq_iff_eq.mpr (by omega)
       have ed3:((l0_9.length:Int) != 0)=false:=bne_eq_false_iff_eq.mpr (by omega)
       have eg3:decide (l0_9.length≠0)=false:=decide_eq_false (fun h=>h q3)
       have ef3:(l0_9=[])=True:=eq_true (List.eq_nil_of_length_eq_zero q3)
       clear q3
       by_cases q9:a0_6<0
       ·have d9:=decide_eq_true q9
        have e9:=eq_true q9
        clear q9
        go_wp2
        go_meet
        case rel=>exact ⟨by rw [← HX2.out];first|rfl|(simp;done)|(simp [*];done)|(simp;omega),⟨by (with_reducible repeat (first|refine blk_drewN ?_ _|refine blk_drew ?_|refine blk_alloc ?_ _));exact BK119.out⟩,⟨by repeat (first|(with_reducible first|exact HB.out|apply below_alloc|apply pw_below_drewN|apply below_drew1|refine below_set ?_ GE119.out)|exact HB.out)⟩⟩
       ·have d9:=decide_eq_false q9
        have e9:=eq_false q9
        clear q9
        go_wp2
        go_meet
        case rel=>exact ⟨by rw [← HX2.out];first|rfl|(simp;done)|(simp [*];done)|(simp;omega),⟨by (with_reducible repeat (first|refine blk_drewN ?_ _|refine blk_drew ?_|refine blk_alloc ?_ _));exact BK119.out⟩,⟨by repeat (first|(with_reducible first|exact HB.out|apply below_alloc|apply pw_below_drewN|apply below_drew1|refine below_set ?_ GE119.out)|exact HB.out)⟩⟩
      ·have ea3:(l0_9.length=0)=False:=eq_false q3
       have eb3:((l0_9.length:Int)=0)=False:=eq_false (by omega)
       have ec3:((l0_9.length:Int) == 0)=false:=beq_eq_false_iff_ne.mpr (by omega)
       have ed3:((l0_9.length:Int) != 0)=true:=bne_iff_ne.mpr (by omega)
       have eg3:decide (l0_9.length≠0)=true:=decide_eq_true q3
       have ef3:(l0_9=[])=False:=eq_false (fun h=>q3 (by rw [h];rfl))
       clear q3
       by_cases q4:l0_9.length=l0_5.length
       ·have ea4:(l0_9.length=l0_5.length)=True:=eq_true q4
        have eb4:((l0_9.length:Int)=(l0_5.length:Int))=True:=eq_true (by omega)
        have ec4:((l0_9.length:Int) == (l0_5.length:Int))=true:=beq_iff_eq.mpr (by omega)
        have ed4:((l0_9.length:Int) != (l0_5.length:Int))=false:=bne_eq_false_iff_eq.mpr (by omega)
        have eg4:decide (l0_9.length≠l0_5.length)=false:=decide_eq_false (fun h=>h q4)
        clear q4
        by_cases q9:a0_6<0
        ·have d9:=decide_eq_true q9
         have e9:=eq_true q9
         clear q9
         go_wp2
         go_meet
         case rel=>exact ⟨by rw [← HX2.out];first|rfl|(simp;done)|(simp [*];done)|(simp;omega),⟨by (with_reducible repeat (first|refine blk_drewN ?_ _|refine blk_drew ?_|refine blk_alloc ?_ _));exact BK119.out⟩,⟨by repeat (first|(with_reducible first|exact HB.out|apply below_alloc|apply pw_below_drewN|apply below_drew1|refine below_set ?_ GE119.out)|exact HB.out)⟩⟩
        ·have d9:=decide_eq_false q9
         have e9:=eq_false q9
         clear q9
         go_wp2
         go_meet
         case rel=>exact ⟨by rw [← HX2.out];first|rfl|(simp;done)|(simp [*];done)|(simp;omega),⟨by (with_reducible repeat (first|refine blk_drewN ?_ _|refine blk_drew ?_|refine blk_alloc ?_ _));exact BK119.out⟩,⟨by repeat (first|(with_reducible first|exact HB.out|apply below_alloc|apply pw_below_drewN|apply below_drew1|refine below_set ?_ GE119.out)|exact HB.out)⟩⟩
       ·have ea4:(l0_9.length=l0_5.length)=False:=eq_false q4
        have eb4:((l0_9.length:Int)=(l0_5.length:Int))=False:=eq_false (by omega)
        have ec4:((l0_9.length:Int) == (l0_5.length:Int))=false:=beq_eq_false_iff_ne.mpr (by omega)
        have ed4:((l0_9.length:Int) != (l0_5.length:Int))=true:=bne_iff_ne.mpr (by omega)
        have eg4:decide (l0_9.length≠l0_5.length)=true:=decide_eq_true q4
        clear q4
        go_wp2
        go_meet
        case rel=>exact ⟨by rw [← HX2.out];first|rfl|(simp;done)|(simp [*];done)|(simp;omega),⟨by (with_reducible repeat (first|refine blk_drewN ?_ _|refine blk_drew ?_|refine blk_alloc ?_ _));exact BK119.out⟩,⟨by repeat (first|(with_reducible first|exact HB.out|apply below_alloc|apply pw_below_drewN|apply below_drew1|refine below_set ?_ GE119.out)|exact HB.out)⟩⟩
     ·have ea2:(l0_8.length=l0_3.length)=False:=eq_false q2
      have eb2:((l0_8.length:Int)=(l0_3.length:Int))=False:=eq_false (by omega)
      have ec2:((l0_8.length:Int) == (l0_3.length:Int))=false:=beq_eq_false_iff_ne.mpr (by omega)
      have ed2:((l0_8.length:Int) != (l0_3.length:Int))=true:=bne_iff_ne.mpr (by omega)
      have eg2:decide (l0_8.length≠l0_3.length)=true:=decide_eq_true q2
      clear q2
      go_wp2
      go_meet
      case rel=>exact ⟨by rw [← HX2.out];first|rfl|(simp;done)|(simp [*];done)|(simp;omega),⟨by (with_reducible repeat (first|refine blk_drewN ?_ _|refine blk_drew ?_|refine blk_alloc ?_ _));exact BK119.out⟩,⟨by repeat (first|(with_reducible first|exact HB.out|apply below_alloc|apply pw_below_drewN|apply below_drew1|refine below_set ?_ GE119.out)|exact HB.out)⟩⟩
   case rest =>
    clear HX2
    obtain ⟨rfl,BK119,HB⟩:=hcut
    cases X2
    case true =>
     have h:=H.out
     rw [if_pos rfl] at h
     obtain rfl:=Option.some.inj h
     clear h
     go_wp2
     go_ret
     exact ⟨by first|rfl|(simp;done),by repeat (first|(with_reducible first|exact HB.out|apply below_alloc|apply pw_below_drewN|apply below_drew1|refine below_set ?_ GE119.out)|exact HB.out)⟩
    case false =>
     have h:=H.out
     rw [if_neg (by decide)] at h
     clear H
     have hcz_4:wc.cell? ⟨gb119,4,none⟩=some (.slice A0_4 l0_4.length c0_4):=(blk_cell BK119.out 4).trans rfl
     have hfz_4:=blk_frozen BK119.out 4
     have hcz_5:wc.cell? ⟨gb119,5,none⟩=some (.slice A0_5 l0_5.length c0_5):=(blk_cell BK119.out 5).trans rfl
     have hfz_5:=blk_frozen BK119.out 5
     have hcz_8:wc.cell? ⟨gb119,8,none⟩=some (.slice A0_8 l0_8.length c0_8):=(blk_cell BK119.out 8).trans rfl
     have hfz_8:=blk_frozen BK119.out 8
     have hcz_9:wc.cell? ⟨gb119,9,none⟩=some (.slice A0_9 l0_9.length c0_9):=(blk_cell BK119.out 9).trans rfl
     have hfz_9:=blk_frozen BK119.out 9
     replace h:=Option.bind_eq_some_iff.mp h
     obtain ⟨r0,B00,h⟩:=h
     have B0:=Ak B00;clear B00
     by_cases q0:0≤r0
     ·rw [if_pos q0] at h
      have d0:=decide_eq_true q0
      clear q0
      obtain rfl:=Option.some.inj h
      clear h
      go_wp2_with (first|(go_at_call 58;(with_reducible refine (impl_Proto_good.has1 (l0_4.length+1) _ _ l0_4 r0 _ ?side0 HC0_4.out B0.out).mono ?_);(case side0=>repeat (first|exact (Kd.C_below HR0_4.out HB.out)|(with_reducible refine Kd.C_alloc ?_ _)|(with_reducible refine Kd.C_drewN ?_ _)|(with_reducible refine Kd.C_drew ?_)));rintro e w40 ⟨rfl,hb⟩;have n0_:=Ak (blk_below (g:=gb119) (by (with_reducible repeat (first|refine blk_drewN ?_ _|refine blk_drew ?_|refine blk_alloc ?_ _));exact BK119.out) hb);have n1_:=Ak (below_step (by repeat (first|(with_reducible first|exact HB.out|apply below_alloc|apply pw_below_drewN|apply below_drew1|refine below_set ?_ GE119.out)|exact HB.out)) hb);clear BK119;clear HB;have BK119:=n0_;have HB:=n1_;clear n0_ n1_;(try clear hb);(try clear hcz_4);(try clear hfz_4);(try clear hcz_5);(try clear hfz_5);(try clear hcz_8);(try clear hfz_8);(try clear hcz_9);(try clear hfz_9);have hcz_5:w40.cell? ⟨gb119,5,none⟩=some (.slice A0_5 l0_5.length c0_5):=(blk_cell BK119.out 5).trans rfl;have hfz_5:=blk_frozen BK119.out 5;have hcz_8:w40.cell? ⟨gb119,8,none⟩=some (.slice A0_8 l0_8.length c0_8):=(blk_cell BK119.out 8).trans rfl;have hfz_8:=blk_frozen BK119.out 8;have hcz_9:w40.cell? ⟨gb119,9,none⟩=some (.slice A0_9 l0_9.length c0_9):=(blk_cell BK119.out 9).trans rfl;have hfz_9:=blk_frozen BK119.out 9))
      go_ret
      exact ⟨by first|rfl|(simp;done)|(simp [*];done),by repeat (first|(with_reducible first|exact HB.out|apply below_alloc|apply pw_below_drewN|apply below_drew1|refine below_set ?_ GE119.out)|exact HB.out)⟩
     ·rw [if_neg q0] at h
      have d0:=decide_eq_false q0
      clear q0
      replace h:=Option.bind_eq_some_iff.mp h
      obtain ⟨r1,B10,h⟩:=h
      have B1:=Ak B10;clear B10
      by_cases q1:0≤r1
      ·rw [if_pos q1] at h
       have d1:=decide_eq_true q1
       clear q1
       obtain rfl:=Option.some.inj h
       clear h
       go_wp2_with (first|(go_at_call 58;(with_reducible refine (impl_Proto_good.has1 (l0_4.length+1) _ _ l0_4 r0 _ ?side0 HC0_4.out B0.out).mono ?_);(case side0=>repeat (first|exact (Kd.C_below HR0_4.out HB.out)|(with_reducible refine Kd.C_alloc ?_ _)|(with_reducible refine Kd.C_drewN ?_ _)|(with_reducible refine Kd.C_drew ?_)));rintro e w40 ⟨rfl,hb⟩;have n0_:=Ak (blk_below (g:=gb119) (by (with_reducible repeat (first|refine blk_drewN ?_ _|refine blk_drew ?_|refine blk_alloc ?_ _));exact BK119.out) hb);have n1_:=Ak (below_step (by repeat (first|(with_reducible first|exact HB.out|apply below_alloc|apply pw_below_drewN|apply below_drew1|refine below_set ?_ GE119.out)|exact HB.out)) hb);clear BK119;clear HB;have BK119:=n0_;have HB:=n1_;clear n0_ n1_;(try clear hb);(try clear hcz_4);(try clear hfz_4);(try clear hcz_5);(try clear hfz_5);(try clear hcz_8);(try clear hfz_8);(try clear hcz_9);(try clear hfz_9);have hcz_5:w40.cell? ⟨gb119,5,none⟩=some (.slice A0_5 l0_5.length c0_5):=(blk_cell BK119.out 5).trans rfl;have hfz_5:=blk_frozen BK119.out 5;have hcz_8:w40.cell? ⟨gb119,8,none⟩=some (.slice A0_8 l0_8.length c0_8):=(blk_cell BK119.out 8).trans rfl;have hfz_8:=blk_frozen BK119.out 8;have hcz_9:w40.cell? ⟨gb119,9,none⟩=some (.slice A0_9 l0_9.length c0_9):=(blk_cell BK119.out 9).trans rfl;have hfz_9:=blk_frozen BK119.out 9)|(go_at_call 61;(with_reducible refine (impl_Proto_good.has2 (l0_5.length+1) _ _ l0_5 r1 _ ?side1 HC0_5.out B1.out).mono ?_);(case side1=>repeat (first|exact (Kd.C_below HR0_5.out HB.out)|(with_reducible refine Kd.C_alloc ?_ _)|(with_reducible refine Kd.C_drewN ?_ _)|(with_reducible refine Kd.C_drew ?_)));rintro e w41 ⟨rfl,hb⟩;have n0_:=Ak (blk_below (g:=gb119) (by (with_reducible repeat (first|refine blk_drewN ?_ _|refine blk_drew ?_|refine blk_alloc ?_ _));exact BK119.out) hb);have n1_:=Ak (below_step (by repeat (first|(with_reducible first|exact HB.out|apply below_alloc|apply pw_below_drewN|apply below_drew1|refine below_set ?_ GE119.out)|exact HB.out)) hb);clear BK119;clear HB;have BK119:=n0_;have HB:=n1_;clear n0_ n1_;(try clear hb);(try clear hcz_5);(try clear hfz_5);(try clear hcz_8);(try clear hfz_8);(try clear hcz_9);(try clear hfz_9);have hcz_8:w41.cell? ⟨gb119,8,none⟩=some (.slice A0_8 l0_8.length c0_8):=(blk_cell BK119.out 8).trans rfl;have hfz_8:=blk_frozen BK119.out 8;have hcz_9:w41.cell? ⟨gb119,9,none⟩=some (.slice A0_9 l0_9.length c0_9):=(blk_cell BK119.out 9).trans rfl;have hfz_9:=blk_frozen BK119.out 9))
       go_ret
       exact ⟨by first|rfl|(simp;done)|(simp [*];done),by repeat (first|(with_reducible first|exact HB.out|apply below_alloc|apply pw_below_drewN|apply below_drew1|refine below_set ?_ GE119.out)|exact HB.out)⟩
      ·rw [if_neg q1] at h
       have d1:=decide_eq_false q1
       clear q1
       replace h:=Option.bind_eq_some_iff.mp h
       obtain ⟨r2,B20,h⟩:=h
       have B2:=Ak B20;clear B20
       by_cases q2:0≤r2
       ·rw [if_pos q2] at h
        have d2:=decide_eq_true q2
        clear q2
        obtain rfl:=Option.some.inj h
        clear h
        go_wp2_with (first|(go_at_call 58;(with_reducible refine (impl_Proto_good.has1 (l0_4.length+1) _ _ l0_4 r0 _ ?side0 HC0_4.out B0.out).mono ?_);(case side0=>repeat (first|exact (Kd.C_below HR0_4.out HB.out)|(with_reducible refine Kd.C_alloc ?_ _)|(with_reducible refine Kd.C_drewN ?_ _)|(with_reducible refine Kd.C_drew ?_)));rintro e w40 ⟨rfl,hb⟩;have n0_:=Ak (blk_below (g:=gb119) (by (with_reducible repeat (first|refine blk_drewN ?_ _|refine blk_drew ?_|refine blk_alloc ?_ _));exact BK119.out) hb);have n1_:=Ak (below_step (by repeat (first|(with_reducible first|exact HB.out|apply below_alloc|apply pw_below_drewN|apply below_drew1|refine below_set ?_ GE119.out)|exact HB.out)) hb);clear BK119;clear HB;have BK119:=n0_;have HB:=n1_;clear n0_ n1_;(try clear hb);(try clear hcz_4);(try clear hfz_4);(try clear hcz_5);(try clear hfz_5);(try clear hcz_8);(try clear hfz_8);(try clear hcz_9);(try clear hfz_9);have hcz_5:w40.cell? ⟨gb119,5,none⟩=some (.slice A0_5 l0_5.length c0_5):=(blk_cell BK119.out 5).trans rfl;have hfz_5:=blk_frozen BK119.out 5;have hcz_8:w40.cell? ⟨gb119,8,none⟩=some (.slice A0_8 l0_8.length c0_8):=(blk_cell BK119.out 8).trans rfl;have hfz_8:=blk_frozen BK119.out 8;have hcz_9:w40.cell? ⟨gb119,9,none⟩=some (.slice A0_9 l0_9.length c0_9):=(blk_cell BK119.out 9).trans rfl;have hfz_9:=blk_frozen BK119.out 9)|(go_at_call 61;(with_reducible refine (impl_Proto_good.has2 (l0_5.length+1) _ _ l0_5 r1 _ ?side1 HC0_5.out B1.out).mono ?_);(case side1=>repeat (first|exact (Kd.C_below HR0_5.out HB.out)|(with_reducible refine Kd.C_alloc ?_ _)|(with_reducible refine Kd.C_drewN ?_ _)|(with_reducible refine Kd.C_drew ?_)));rintro e w41 ⟨rfl,hb⟩;have n0_:=Ak (blk_below (g:=gb119) (by (with_reducible repeat (first|refine blk_drewN ?_ _|refine blk_drew ?_|refine blk_alloc ?_ _));exact BK119.out) hb);have n1_:=Ak (below_step (by repeat (first|(with_reducible first|exact HB.out|apply below_alloc|apply pw_below_drewN|apply below_drew1|refine below_set ?_ GE119.out)|exact HB.out)) hb);clear BK119;clear HB;have BK119:=n0_;have HB:=n1_;clear n0_ n1_;(try clear hb);(try clear hcz_5);(try clear hfz_5);(try clear hcz_8);(try clear hfz_8);(try clear hcz_9);(try clear hfz_9);have hcz_8:w41.cell? ⟨gb119,8,none⟩=some (.slice A0_8 l0_8.length c0_8):=(blk_cell BK119.out 8).trans rfl;have hfz_8:=blk_frozen BK119.out 8;have hcz_9:w41.cell? ⟨gb119,9,none⟩=some (.slice A0_9 l0_9.length c0_9):=(blk_cell BK119.out 9).trans rfl;have hfz_9:=blk_frozen BK119.out 9)|(go_at_call 63;(with_reducible refine (impl_Proto_good.has3 (l0_8.length+1) _ _ l0_8 r2 _ ?side2 HC0_8.out B2.out).mono ?_);(case side2=>repeat (first|exact (Kd.C_below HR0_8.out HB.out)|(with_reducible refine Kd.C_alloc ?_ _)|(with_reducible refine Kd.C_drewN ?_ _)|(with_reducible refine Kd.C_drew ?_)));rintro e w42 ⟨rfl,hb⟩;have n0_:=Ak (blk_below (g:=gb119) (by (with_reducible repeat (first|refine blk_drewN ?_ _|refine blk_drew ?_|refine blk_alloc ?_ _));exact BK119.out) hb);have n1_:=Ak (below_step (by repeat (first|(with_reducible first|exact HB.out|apply below_alloc|apply pw_below_drewN|apply below_drew1|refine below_set ?_ GE119.out)|exact HB.out)) hb);clear BK119;clear HB;have BK119:=n0_;have HB:=n1_;clear n0_ n1_;(try clear hb);(try clear hcz_8);(try clear hfz_8);(try clear hcz_9);(try clear hfz_9);have hcz_9:w42.cell? ⟨gb119,9,none⟩=some (.slice A0_9 l0_9.length c0_9):=(blk_cell BK119.out 9).trans rfl;have hfz_9:=blk_frozen BK119.out 9))
        go_ret
        exact ⟨by first|rfl|(simp;done)|(simp [*];done),by repeat (first|(with_reducible first|exact HB.out|apply below_alloc|apply pw_below_drewN|apply below_drew1|refine below_set ?_ GE119.out)|exact HB.out)⟩
       ·rw [if_neg q2] at h
        have d2:=decide_eq_false q2
        clear q2
        replace h:=Option.bind_eq_some_iff.mp h
        obtain ⟨r3,B30,h⟩:=h
        have B3:=Ak B30;clear B30
        by_cases q3:0≤r3
        ·rw [if_pos q3] at h
         have d3:=decide_eq_true q3
         clear q3
         obtain rfl:=Option.some.inj h
         clear h
         go_wp2_with (first|(go_at_call 58;(with_reducible refine (impl_Proto_good.has1 (l0_4.length+1) _ _ l0_4 r0 _ ?side0 HC0_4.out B0.out).mono ?_);(case side0=>repeat (first|exact (Kd.C_below HR0_4.out HB.out)|(with_reducible refine Kd.C_alloc ?_ _)|(with_reducible refine Kd.C_drewN ?_ _)|(with_reducible refine Kd.C_drew ?_)));rintro e w40 ⟨rfl,hb⟩;have n0_:=Ak (blk_below (g:=gb119) (by (with_reducible repeat (first|refine blk_drewN ?_ _|refine blk_drew ?_|refine blk_alloc ?_ _));exact BK119.out) hb);have n1_:=Ak (below_step (by repeat (first|(with_reducible first|exact HB.out|apply below_alloc|apply pw_below_drewN|apply below_drew1|refine below_set ?_ GE119.out)|exact HB.out)) hb);clear BK119;clear HB;have BK119:=n0_;have HB:=n1_;clear n0_ n1_;(try clear hb);(try clear hcz_4);(try clear hfz_4);(try clear hcz_5);(try clear hfz_5);(try clear hcz_8);(try clear hfz_8);(try clear hcz_9);(try clear hfz_9);have hcz_5:w40.cell? ⟨gb119,5,none⟩=some (.slice A0_5 l0_5.length c0_5):=(blk_cell BK119.out 5).trans rfl;have hfz_5:=blk_frozen BK119.out 5;have hcz_8:w40.cell? ⟨gb119,8,none⟩=some (.slice A0_8 l0_8.length c0_8):=(blk_cell BK119.out 8).trans rfl;have hfz_8:=blk_frozen BK119.out 8;have hcz_9:w40.cell? ⟨gb119,9,none⟩=some (.slice A0_9 l0_9.length c0_9):=(blk_cell BK119.out 9).trans rfl;have hfz_9:=blk_frozen BK119.out 9)|(go_at_call 61;(with_reducible refine (impl_Proto_good.has2 (l0_5.length+1) _ _ l0_5 r1 _ ?side1 HC0_5.out B1.out).mono ?_);(case side1=>repeat (first|exact (Kd.C_below HR0_5.out HB.out)|(with_reducible refine Kd.C_alloc ?_ _)|(with_reducible refine Kd.C_drewN ?_ _)|(with_reducible refine Kd.C_drew ?_)));rintro e w41 ⟨rfl,hb⟩;have n0_:=Ak (blk_below (g:=gb119) (by (with_reducible repeat (first|refine blk_drewN ?_ _|refine blk_drew ?_|refine blk_alloc ?_ _));exact BK119.out) hb);have n1_:=Ak (below_step (by repeat (first|(with_reducible first|exact HB.out|apply below_alloc|apply pw_below_drewN|apply below_drew1|refine below_set ?_ GE119.out)|exact HB.out)) hb);clear BK119;clear HB;have BK119:=n0_;have HB:=n1_;clear n0_ n1_;(try clear hb);(try clear hcz_5);(try clear hfz_5);(try clear hcz_8);(try clear hfz_8);(try clear hcz_9);(try clear hfz_9);have hcz_8:w41.cell? ⟨gb119,8,none⟩=some (.slice A0_8 l0_8.length c0_8):=(blk_cell BK119.out 8).trans rfl;have hfz_8:=blk_frozen BK119.out 8;have hcz_9:w41.cell? ⟨gb119,9,none⟩=some (.slice A0_9 l0_9.length c0_9):=(blk_cell BK119.out 9).trans rfl;have hfz_9:=blk_frozen BK119.out 9)|(go_at_call 63;(with_reducible refine (impl_Proto_good.has3 (l0_8.length+1) _ _ l0_8 r2 _ ?side2 HC0_8.out B2.out).mono ?_);(case side2=>repeat (first|exact (Kd.C_below HR0_8.out HB.out)|(with_reducible refine Kd.C_alloc ?_ _)|(with_reducible refine Kd.C_drewN ?_ _)|(with_reducible refine Kd.C_drew ?_)));rintro e w42 ⟨rfl,hb⟩;have n0_:=Ak (blk_below (g:=gb119) (by (with_reducible repeat (first|refine blk_drewN ?_ _|refine blk_drew ?_|refine blk_alloc ?_ _));exact BK119.out) hb);have n1_:=Ak (below_step (by repeat (first|(with_reducible first|exact HB.out|apply below_alloc|apply pw_below_drewN|apply below_drew1|refine below_set ?_ GE119.out)|exact HB.out)) hb);clear BK119;clear HB;have BK119:=n0_;have HB:=n1_;clear n0_ n1_;(try clear hb);(try clear hcz_8);(try clear hfz_8);(try clear hcz_9);(try clear hfz_9);have hcz_9:w42.cell? ⟨gb119,9,none⟩=some (.slice A0_9 l0_9.length c0_9):=(blk_cell BK119.out 9).trans rfl;have hfz_9:=blk_frozen BK119.out 9)|(go_at_call 65;(with_reducible refine (impl_Proto_good.has4 (l0_9.length+1) _ _ l0_9 r3 _ ?side3 HC0_9.out B3.out).mono ?_);(case side3=>repeat (first|exact (Kd.C_below HR0_9.out HB.out)|(with_reducible refine Kd.C_alloc ?_ _)|(with_reducible refine Kd.C_drewN ?_ _)|(with_reducible refine Kd.C_drew ?_)));rintro e w43 ⟨rfl,hb⟩;have n0_:=Ak (blk_below (g:=gb119) (by (with_reducible repeat (first|refine blk_drewN ?_ _|refine blk_drew ?_|refine blk_alloc ?_ _));exact BK119.out) hb);have n1_:=Ak (below_step (by repeat (first|(with_reducible first|exact HB.out|apply below_alloc|apply pw_below_drewN|apply below_drew1|refine below_set ?_ GE119.out)|exact HB.out)) hb);clear BK119;clear HB;have BK119:=n0_;have HB:=n1_;clear n0_ n1_;(try clear hb);(try clear hcz_9);(try clear hfz_9)))
         go_ret
         exact ⟨by first|rfl|(simp;done)|(simp [*];done),by repeat (first|(with_reducible first|exact HB.out|apply below_alloc|apply pw_below_drewN|apply below_drew1|refine below_set ?_ GE119.out)|exact HB.out)⟩
        ·rw [if_neg q3] at h
         have d3:=decide_eq_false q3
         clear q3
         obtain rfl:=Option.some.inj h
         clear h
         go_wp2_with (first|(go_at_call 58;(with_reducible refine (impl_Proto_good.has1 (l0_4.length+1) _ _ l0_4 r0 _ ?side0 HC0_4.out B0.out).mono ?_);(case side0=>repeat (first|exact (Kd.C_below HR0_4.out HB.out)|(with_reducible refine Kd.C_alloc ?_ _)|(with_reducible refine Kd.C_drewN ?_ _)|(with_reducible refine Kd.C_drew ?_)));rintro e w40 ⟨rfl,hb⟩;have n0_:=Ak (blk_below (g:=gb119) (by (with_reducible repeat (first|refine blk_drewN ?_ _|refine blk_drew ?_|refine blk_alloc ?_ _));exact BK119.out) hb);have n1_:=Ak (below_step (by repeat (first|(with_reducible first|exact HB.out|apply below_alloc|apply pw_below_drewN|apply below_drew1|refine below_set ?_ GE119.out)|exact HB.out)) hb);clear BK119;clear HB;have BK119:=n0_;have HB:=n1_;clear n0_ n1_;(try clear hb);(try clear hcz_4);(try clear hfz_4);(try clear hcz_5);(try clear hfz_5);(try clear hcz_8);(try clear hfz_8);(try clear hcz_9);(try clear hfz_9);have hcz_5:w40.cell? ⟨gb119,5,none⟩=some (.slice A0_5 l0_5.length c0_5):=(blk_cell BK119.out 5).trans rfl;have hfz_5:=blk_frozen BK119.out 5;have hcz_8:w40.cell? ⟨gb119,8,none⟩=some (.slice A0_8 l0_8.length c0_8):=(blk_cell BK119.out 8).trans rfl;have hfz_8:=blk_frozen BK119.out 8;have hcz_9:w40.cell? ⟨gb119,9,none⟩=some (.slice A0_9 l0_9.length c0_9):=(blk_cell BK119.out 9).trans rfl;have hfz_9:=blk_frozen BK119.out 9)|(go_at_call 61;(with_reducible refine (impl_Proto_good.has2 (l0_5.length+1) _ _ l0_5 r1 _ ?side1 HC0_5.out B1.out).mono ?_);(case side1=>repeat (first|exact (Kd.C_below HR0_5.out HB.out)|(with_reducible refine Kd.C_alloc ?_ _)|(with_reducible refine Kd.C_drewN ?_ _)|(with_reducible refine Kd.C_drew ?_)));rintro e w41 ⟨rfl,hb⟩;have n0_:=Ak (blk_below (g:=gb119) (by (with_reducible repeat (first|refine blk_drewN ?_ _|refine blk_drew ?_|refine blk_alloc ?_ _));exact BK119.out) hb);have n1_:=Ak (below_step (by repeat (first|(with_reducible first|exact HB.out|apply below_alloc|apply pw_below_drewN|apply below_drew1|refine below_set ?_ GE119.out)|exact HB.out)) hb);clear BK119;clear HB;have BK119:=n0_;have HB:=n1_;clear n0_ n1_;(try clear hb);(try clear hcz_5);(try clear hfz_5);(try clear hcz_8);(try clear hfz_8);(try clear hcz_9);(try clear hfz_9);have hcz_8:w41.cell? ⟨gb119,8,none⟩=some (.slice A0_8 l0_8.length c0_8):=(blk_cell BK119.out 8).trans rfl;have hfz_8:=blk_frozen BK119.out 8;have hcz_9:w41.cell? ⟨gb119,9,none⟩=some (.slice A0_9 l0_9.length c0_9):=(blk_cell BK119.out 9).trans rfl;have hfz_9:=blk_frozen BK119.out 9)|(go_at_call 63;(with_reducible refine (impl_Proto_good.has3 (l0_8.length+1) _ _ l0_8 r2 _ ?side2 HC0_8.out B2.out).mono ?_);(case side2=>repeat (first|exact (Kd.C_below HR0_8.out HB.out)|(with_reducible refine Kd.C_alloc ?_ _)|(with_reducible refine Kd.C_drewN ?_ _)|(with_reducible refine Kd.C_drew ?_)));rintro e w42 ⟨rfl,hb⟩;have n0_:=Ak (blk_below (g:=gb119) (by (with_reducible repeat (first|refine blk_drewN ?_ _|refine blk_drew ?_|refine blk_alloc ?_ _));exact BK119.out) hb);have n1_:=Ak (below_step (by repeat (first|(with_reducible first|exact HB.out|apply below_alloc|apply pw_below_drewN|apply below_drew1|refine below_set ?_ GE119.out)|exact HB.out)) hb);clear BK119;clear HB;have BK119:=n0_;have HB:=n1_;clear n0_ n1_;(try clear hb);(try clear hcz_8);(try clear hfz_8);(try clear hcz_9);(try clear hfz_9);have hcz_9:w42.cell? ⟨gb119,9,none⟩=some (.slice A0_9 l0_9.length c0_9):=(blk_cell BK119.out 9).trans rfl;have hfz_9:=blk_frozen BK119.out 9)|(go_at_call 65;(with_reducible refine (impl_Proto_good.has4 (l0_9.length+1) _ _ l0_9 r3 _ ?side3 HC0_9.out B3.out).mono ?_);(case side3=>repeat (first|exact (Kd.C_below HR0_9.out HB.out)|(with_reducible refine Kd.C_alloc ?_ _)|(with_reducible refine Kd.C_drewN ?_ _)|(with_reducible refine Kd.C_drew ?_)));rintro e w43 ⟨rfl,hb⟩;have n0_:=Ak (blk_below (g:=gb119) (by (with_reducible repeat (first|refine blk_drewN ?_ _|refine blk_drew ?_|refine blk_alloc ?_ _));exact BK119.out) hb);have n1_:=Ak (below_step (by repeat (first|(with_reducible first|exact HB.out|apply below_alloc|apply pw_below_drewN|apply below_drew1|refine below_set ?_ GE119.out)|exact HB.out)) hb);clear BK119;clear HB;have BK119:=n0_;have HB:=n1_;clear n0_ n1_;(try clear hb);(try clear hcz_9);(try clear hfz_9)))
         go_ret
         exact ⟨by first|rfl|(simp;done)|(simp [*];done),by repeat (first|(with_reducible first|exact HB.out|apply below_alloc|apply pw_below_drewN|apply below_drew1|refine below_set ?_ GE119.out)|exact HB.out)⟩
end Go.Proofs.Ytiekodnojmkfaaa.PFnEnds
