-- Printed by the kit's print or by this session's program, then cut and tightened by it.
import Derived.Test.YtiekodnojmkfaaaPFnEndsx0
import Derived.Test.YtiekodnojmkfaaaPFnEndsx4
import Derived.Test.YtiekodnojmkfaaaPFnEndsx5
namespace Go.Proofs.Ytiekodnojmkfaaa.PFnEnds
open Go.RowKit Go.Proofs.YtiekodnojmkfaaaW.PrintWords Go.Proofs.YtiekodnojmkfaaaW.PrintLast Go.Proofs.YtiekodnojmkfaaaW.PrintMore
attribute [local go_sem] max2_int min2_int max_two min_two max_three min_three max_four min_four   -- for this text's walks alone
set_option linter.unusedVariables false
set_option linter.unusedSimpArgs false
def impl_WellFormed.lp (g:Nat→List Int×List Int→Int×(List Int×List Int)):Nat→Nat→List Int×List Int→Int×(List Int×List Int)
 | 0,at_,s=>((at_:Int),s)
 | m+1,at_,s=>if (g at_ s).1<0 then (-1,(g at_ s).2) else impl_WellFormed.lp g m (g at_ s).1.toNat (g at_ s).2
def impl_WellFormed.wk (ks:List Int):Nat→Nat→List Int×List Int→Int×(List Int×List Int)
 | 0,_,s=>(-1,s)
 | f+1,i,s=>if ks.length≤i then (-1,s) else
   if (impl_WellFormed.lp (impl_WellFormed.wk ks f) (ks.getD i 0).toNat (i+1) (s.1.set i (63-(f:Int)),s.2)).1<0 then
    (-1,(impl_WellFormed.lp (impl_WellFormed.wk ks f) (ks.getD i 0).toNat (i+1) (s.1.set i (63-(f:Int)),s.2)).2)
   else ((impl_WellFormed.lp (impl_WellFormed.wk ks f) (ks.getD i 0).toNat (i+1) (s.1.set i (63-(f:Int)),s.2)).1,
    ((impl_WellFormed.lp (impl_WellFormed.wk ks f) (ks.getD i 0).toNat (i+1) (s.1.set i (63-(f:Int)),s.2)).2.1,
     (impl_WellFormed.lp (impl_WellFormed.wk ks f) (ks.getD i 0).toNat (i+1) (s.1.set i (63-(f:Int)),s.2)).2.2.set i
      (impl_WellFormed.lp (impl_WellFormed.wk ks f) (ks.getD i 0).toNat (i+1) (s.1.set i (63-(f:Int)),s.2)).1))
structure impl_WellFormed.TS (w W:World) (bc ba bw be ga ge:Nat) (Ap:Option Addr) (n cp ca ce:Nat) (s:List Int×List Int):Prop where
 hc:W.cell? ⟨bc,0,none⟩=some (.slice Ap n cp)
 ha:W.cell? ⟨ba,0,none⟩=some (.slice (some ⟨ga,0,none⟩) n ca)
 hw:W.cell? ⟨bw,0,none⟩=some (.func (.func 67) #[] #[.pointer (some ⟨bc,0,none⟩),.pointer (some ⟨ba,0,none⟩),.pointer (some ⟨bw,0,none⟩),.pointer (some ⟨be,0,none⟩)])
 he:W.cell? ⟨be,0,none⟩=some (.slice (some ⟨ge,0,none⟩) n ce)
 hB:∀ i,i<n→W.cell? ⟨ga,i,none⟩=some (.int .i64 (s.1.getD i 0))
 hE:∀ i,i<n→W.cell? ⟨ge,i,none⟩=some (.int .i64 (s.2.getD i 0))
 fB:∀ i,W.frozen? ⟨ga,i,none⟩=false
 fE:∀ i,W.frozen? ⟨ge,i,none⟩=false
 lB:s.1.length=n
 lE:s.2.length=n
 na:bc≠ga∧ba≠ga∧bw≠ga∧be≠ga∧ge≠ga∧bc≠ge∧ba≠ge∧bw≠ge∧be≠ge
 ga0:w.heap.size≤ga
 ge0:w.heap.size≤ge
 bel:Below w.heap.size w W
theorem impl_WellFormed.TS.setB {w W:World} {bc ba bw be ga ge:Nat} {Ap:Option Addr} {n cp ca ce:Nat} {s:List Int×List Int} (h:impl_WellFormed.TS w W bc ba bw be ga ge Ap n cp ca ce s) (i:Nat) (hi:i<n) (x:Int) :
  impl_WellFormed.TS w (W.setCell ⟨ga,i,none⟩ (.int .i64 x)) bc ba bw be ga ge Ap n cp ca ce (s.1.set i x,s.2):=by
 obtain ⟨n1,n2,n3,n4,n5,n6,n7,n8,n9⟩:=h.na
 have far:∀ b j,b≠ga→(W.setCell ⟨ga,i,none⟩ (.int .i64 x)).cell? ⟨b,j,none⟩=W.cell? ⟨b,j,none⟩:=fun b j hb=>World.cell?_setCell_other _ _ _ _ (fun e=>hb (by cases e;rfl))
 refine ⟨(far _ _ n1).trans h.hc,(far _ _ n2).trans h.ha,(far _ _ n3).trans h.hw,(far _ _ n4).trans h.he,fun j hj=>?_,fun j hj=>(far _ _ n5).trans (h.hE j hj),fun j=>by rw [World.frozen?_setCell];exact h.fB j,fun j=>by rw [World.frozen?_setCell];exact h.fE j,by simpa using h.lB,h.lE,h.na,h.ga0,h.ge0,h.bel.setCell (p:=⟨ga,i,none⟩) h.ga0 _⟩
 by_cases e:i=j
 ·subst e
  rw [World.cell?_setCell_same _ _ _ (h.hB i hi)]
  simp [List.getD,h.lB,hi]
 ·rw [World.cell?_setCell_other _ _ _ _ (fun q=>e (by cases q;rfl)),h.hB j hj]
  simp [List.getD,List.getElem?_set_ne e]
theorem impl_WellFormed.TS.setE {w W:World} {bc ba bw be ga ge:Nat} {Ap:Option Addr} {n cp ca ce:Nat} {s:List Int×List Int} (h:impl_WellFormed.TS w W bc ba bw be ga ge Ap n cp ca ce s) (i:Nat) (hi:i<n) (x:Int) :
  impl_WellFormed.TS w (W.setCell ⟨ge,i,none⟩ (.int .i64 x)) bc ba bw be ga ge Ap n cp ca ce (s.1,s.2.set i x):=by
 obtain ⟨n1,n2,n3,n4,n5,n6,n7,n8,n9⟩:=h.na
 have far:∀ b j,b≠ge→(W.setCell ⟨ge,i,none⟩ (.int .i64 x)).cell? ⟨b,j,none⟩=W.cell? ⟨b,j,none⟩:=fun b j hb=>World.cell?_setCell_other _ _ _ _ (fun e=>hb (by cases e;rfl))
 refine ⟨(far _ _ n6).trans h.hc,(far _ _ n7).trans h.ha,(far _ _ n8).trans h.hw,(far _ _ n9).trans h.he,fun j hj=>(far _ _ (Ne.symm n5)).trans (h.hB j hj),fun j hj=>?_,fun j=>by rw [World.frozen?_setCell];exact h.fB j,fun j=>by rw [World.frozen?_setCell];exact h.fE j,h.lB,by simpa using h.lE,h.na,h.ga0,h.ge0,h.bel.setCell (p:=⟨ge,i,none⟩) h.ge0 _⟩
 by_cases e:i=j
 ·subst e
  rw [World.cell?_setCell_same _ _ _ (h.hE i hi)]
  simp [List.getD,h.lE,hi]
 ·rw [World.cell?_setCell_other _ _ _ _ (fun q=>e (by cases q;rfl)),h.hE j hj]
  simp [List.getD,List.getElem?_set_ne e]
set_option maxRecDepth 100000 in
set_option maxHeartbeats 16000000 in
theorem impl_WellFormed.walk_calls (w:World) (Ap:Option Addr) (cp:Nat) (l:List S44) (hr:Kd.C k44 w Ap l.length l) (hn:l.length≤200) (hk:∀ p ∈ l,p.f6≤9223372036854775807) (bc ba bw be ga ge ca ce:Nat) :
  ∀ (f i:Nat) (W:World) (s:List Int×List Int),f≤64→impl_WellFormed.TS w W bc ba bw be ga ge Ap l.length cp ca ce s →
  Calls Try.prog 67 #[.int .i64 (i:Int),.int .i64 (64-(f:Int)),.pointer (some ⟨bc,0,none⟩),.pointer (some ⟨ba,0,none⟩),.pointer (some ⟨bw,0,none⟩),.pointer (some ⟨be,0,none⟩)] W fun e W' =>
   e=.returned (.int .i64 (impl_WellFormed.wk (l.map (·.f6)) f i s).1)∧impl_WellFormed.TS w W' bc ba bw be ga ge Ap l.length cp ca ce (impl_WellFormed.wk (l.map (·.f6)) f i s).2:=by
 intro f
 induction f with
 | zero =>
  intro i W s _ h
  have hc:=h.hc
  have H:=Ak h;clear h hr hk
  go_enter Try.func67,Try.ntmps67
  by_cases hi:l.length≤i
  ·have d1:decide ((l.length:Int)≤(i:Int))=true:=decide_eq_true (by omega)
   have d2:((l.length:Int)≤(i:Int))=True:=eq_true (by omega)
   have d3:(l.length≤i)=True:=eq_true hi
   go_wp2
   go_ret
   exact ⟨rfl,H.out⟩
  ·have d1:decide ((l.length:Int)≤(i:Int))=false:=decide_eq_false (by omega)
   have d2:((l.length:Int)≤(i:Int))=False:=eq_false (by omega)
   have d3:(l.length≤i)=False:=eq_false hi
   go_wp2
   go_ret
   exact ⟨rfl,H.out⟩
 | succ f ih =>
  intro i W s hf h
  obtain ⟨d,hd⟩:∃ d:Int,d=63-(f:Int):=⟨_,rfl⟩
  have e0:(64-((f+1:Nat):Int))=d:=by omega
  have e1:(64-(f:Int))=d+1:=by omega
  rw [e0]
  rw [e1] at ih
  have d0:0≤d:=by omega
  have d63:d<64:=by omega
  by_cases hi:l.length≤i
  ·have hc:=h.hc
   have hwk:impl_WellFormed.wk (l.map (·.f6)) (f+1) i s=(-1,s):=by simp [impl_WellFormed.wk,hi]
   rw [hwk]
   have H:=Ak h;clear h hr hk ih hwk
   have t1:decide ((l.length:Int)≤(i:Int))=true:=decide_eq_true (by omega)
   have t2:((l.length:Int)≤(i:Int))=True:=eq_true (by omega)
   have t3:(l.length≤i)=True:=eq_true hi
   go_enter Try.func67,Try.ntmps67
   go_wp2
   go_ret
   exact ⟨rfl,H.out⟩
  ·have hin:i<l.length:=by omega
   have h1:=h.setB i hin d
   obtain ⟨K,hK⟩:∃ K:Int,K=(rd_T44 l (i:Int)).f6:=⟨_,rfl⟩
   have hKb:K≤9223372036854775807:=by
    rw [hK]
    have:rd_T44 l (i:Int)=l[i]:=by simp [rd_T44,List.getD,hin]
    rw [this]
    exact hk _ (List.getElem_mem hin)
   have hKd:(l.map (·.f6)).getD i 0=K:=by rw [hK];simp [rd_T44,List.getD,hin]
   obtain ⟨R,hR⟩:∃ R,impl_WellFormed.lp (impl_WellFormed.wk (l.map (·.f6)) f) K.toNat (i+1) (s.1.set i d,s.2)=R:=⟨_,rfl⟩
   have hwk:impl_WellFormed.wk (l.map (·.f6)) (f+1) i s=if R.1<0 then (-1,R.2) else (R.1,(R.2.1,R.2.2.set i R.1)):=by
    rw [impl_WellFormed.wk,if_neg (by simpa using hin),hKd,← hd,hR]
   rw [hwk]
   clear hwk hKd
   obtain ⟨F,hF⟩:∃ F,(if R.1<0 then (-1,R.2) else (R.1,(R.2.1,R.2.2.set i R.1)))=F:=⟨_,rfl⟩
   rw [hF]
   have HFF:=Ak hF;clear hF
   obtain ⟨ad,eA,hx6⟩:∃ ad,Ap=some ad∧w.cell? ⟨(ad.add ((i:Int).toNat*10)).block,(ad.add ((i:Int).toNat*10)).off+6,none⟩=some (.int .i64 (rd_T44 l (i:Int)).f6):=by
    obtain ⟨ad,A3,c3,A4,c4,A5,c5,A8,c8,A9,c9,eA,_,_,_,_,_,_,hx6,_,_,_,_,_,_,_,_,_,_,_,_,_⟩:=at_T44 hr (i:Int) (by omega) (by omega)
    exact ⟨ad,eA,hx6⟩
   subst eA
   rw [← hK] at hx6
   have hx6':=(h1.bel.cell (World.block_lt_of_cell? w _ hx6)).trans hx6
   simp only [Int.toNat_natCast] at hx6'
   have IH:=Ak ih;have H1:=Ak h1;have HR:=Ak hR
   have ga1:=h.ha
   have gc1:=h.hc
   have gB1:=h.hB i hin
   have gf1:=h.fB i
   have gc2:=h1.hc
   have ga2:=h1.ha
   have gw2:=h1.hw
   have ge2:=h1.he
   clear h h1 hr hk ih hx6 hR hK hd e0 e1
   have t8:(64≤d)=False:=eq_false (by omega)
   have t1:decide ((l.length:Int)≤(i:Int))=false:=decide_eq_false (by omega)
   have t2:((l.length:Int)≤(i:Int))=False:=eq_false (by omega)
   have t3:(l.length≤i)=False:=eq_false hi
   have t4:decide (64≤d)=false:=decide_eq_false (by omega)
   have t5:((i:Int)<(l.length:Int))=True:=eq_true (by omega)
   have t6:(i<l.length)=True:=eq_true hin
   have t7:IntKind.i64.wrap ((i:Int)+1)=(i:Int)+1:=by rw [IntKind.wrap_i64];omega
   go_enter Try.func67,Try.ntmps67
   go_wp2
   go_loopg [9,31] K.toNat (fun kq v9 v31 W'=>∃ (a:Nat) (j:Int) (s':List Int×List Int),v9=.int .i64 (a:Int)∧v31=.int .i64 j∧Aside0 (kq=(K-j).toNat∧0≤j∧(j≤K∨j=0))∧Aside0 (impl_WellFormed.lp (impl_WellFormed.wk (l.map (·.f6)) f) kq a s'=R)∧Aside0 (impl_WellFormed.TS w W' bc ba bw be ga ge (some ad) l.length cp ca ce s'))
   case atStart=>exact ⟨i+1,0,(s.1.set i d,s.2),(by first|rfl|(simp;done)),rfl,⟨by omega,Int.le_refl _,.inr rfl⟩,HR,H1⟩
   case round =>
    obtain ⟨a,j,s',rfl,rfl,HJ,HL,HT⟩:=hrel
    have hgk:=HJ.out.1
    have hj0:=HJ.out.2.1
    have h:=HT.out
    have hl:=HL.out
    clear HL HR HJ H1 gc1 ga1 gB1 gf1 gc2 ga2 gw2 ge2 hx6'
    by_cases hj:j<K
    ·obtain ⟨m,rfl⟩:∃ m,gk=m+1:=⟨gk-1,by omega⟩
     simp only [impl_WellFormed.lp] at hl
     have hcall:=IH.out a wr s' (by omega) h
     obtain ⟨q,hq⟩:∃ q,impl_WellFormed.wk (l.map (·.f6)) f a s'=q:=⟨_,rfl⟩
     rw [hq] at hl hcall
     have gw:=h.hw
     have HC:=Ak hcall
     have HM:Aside0 (m=(K-(j+1)).toNat):=⟨by omega⟩
     have d1:decide (j<K)=true:=decide_eq_true hj
     have d2:(j<K)=True:=eq_true hj
     have d3:IntKind.i64.wrap (j+1)=j+1:=by rw [IntKind.wrap_i64];omega
     have d4:IntKind.i64.wrap (d+1)=d+1:=by rw [IntKind.wrap_i64];omega
     have HJ:Aside0 (0≤j+1∧(j+1≤K∨j+1=0)):=⟨by omega⟩
     clear hgk hj0 hcall HT h hq IH hj
     by_cases hq0:q.1<0
     ·rw [if_pos hq0] at hl
      have f1:decide (q.1<0)=true:=decide_eq_true hq0
      have f2:(q.1<0)=True:=eq_true hq0
      have HL:=Ak hl;clear hl
      go_wp2_with (first|(go_at_call 67;refine HC.out.mono ?_;rintro e w4 ⟨rfl,h4⟩;have H4:=Ak h4;clear h4))
      go_ret
      have hF:=HFF.out
      rw [← HL.out,if_pos (show (-1:Int)<0 by decide)] at hF
      rw [← hF]
      exact ⟨rfl,H4.out⟩
     ·rw [if_neg hq0] at hl
      have f1:decide (q.1<0)=false:=decide_eq_false hq0
      have f2:(q.1<0)=False:=eq_false hq0
      have HL:=Ak hl
      have HQ:Aside0 (q.1=(q.1.toNat:Int)):=⟨by omega⟩
      clear hl
      go_wp2_with (first|(go_at_call 67;refine HC.out.mono ?_;rintro e w4 ⟨rfl,h4⟩;have H4:=Ak h4;clear h4))
      go_roundg m
      case measure=>omega
      case rel=>exact ⟨q.1.toNat,j+1,q.2,by rw [← HQ.out],rfl,⟨HM.out,HJ.out⟩,HL,H4⟩
    ·obtain rfl:gk=0:=by omega
     simp only [impl_WellFormed.lp] at hl
     subst hl
     have d1:decide (j<K)=false:=decide_eq_false hj
     have d2:(j<K)=False:=eq_false hj
     have ge:=h.he
     have gE:=h.hE i hin
     have gF:=h.fE i
     have HF:=Ak (h.setE i hin (a:Int))
     have ha0:((a:Int)<0)=False:=eq_false (by omega)
     clear hgk hj0 HT h IH hj
     have hFF:=HFF.out
     rw [if_neg (show ¬ ((a:Int)<0) by omega)] at hFF
     clear HFF
     subst hFF
     go_wp2
     go_ret
     exact ⟨rfl,HF.out⟩
section
open Go.Shelf Go.Proofs.YtiekodnojmkfaaaRange
attribute [local go_sem] Oper.semAt_some
theorem impl_WellFormed.TS.drewN {w W:World} {bc ba bw be ga ge:Nat} {Ap:Option Addr} {n cp ca ce:Nat} {s:List Int×List Int} (h:impl_WellFormed.TS w W bc ba bw be ga ge Ap n cp ca ce s) (m:Nat):impl_WellFormed.TS w (W.drewN m) bc ba bw be ga ge Ap n cp ca ce s :=
 ⟨by simpa using h.hc,by simpa using h.ha,by simpa using h.hw,by simpa using h.he,fun i hi=>by simpa using h.hB i hi,fun i hi=>by simpa using h.hE i hi,fun i=>by simpa using h.fB i,fun i=>by simpa using h.fE i,h.lB,h.lE,h.na,h.ga0,h.ge0,pw_below_drewN h.bel m⟩
theorem impl_WellFormed.TS.drew {w W:World} {bc ba bw be ga ge:Nat} {Ap:Option Addr} {n cp ca ce:Nat} {s:List Int×List Int} (h:impl_WellFormed.TS w W bc ba bw be ga ge Ap n cp ca ce s):impl_WellFormed.TS w W.drew bc ba bw be ga ge Ap n cp ca ce s :=
 ⟨by simpa using h.hc,by simpa using h.ha,by simpa using h.hw,by simpa using h.he,fun i hi=>by simpa using h.hB i hi,fun i hi=>by simpa using h.hE i hi,fun i=>by simpa using h.fB i,fun i=>by simpa using h.fE i,h.lB,h.lE,h.na,h.ga0,h.ge0,below_drew1 h.bel⟩
def impl_WellFormed.all (s:List Int×List Int) (k:Nat):List (Int×Int×Int):=(List.range k).map fun (i:Nat)=>((i:Int),s.1.getD i 0,s.2.getD i 0)
theorem impl_WellFormed.all_succ (s:List Int×List Int) (k:Nat):impl_WellFormed.all s (k+1)=impl_WellFormed.all s k++[((k:Int),s.1.getD k 0,s.2.getD k 0)]:=by simp [impl_WellFormed.all,List.range_succ]
theorem impl_WellFormed.all_length (s:List Int×List Int) (k:Nat):(impl_WellFormed.all s k).length=k:=by simp [impl_WellFormed.all]
theorem impl_WellFormed.all_prefix (s:List Int×List Int) {k n:Nat} (h:k<n):impl_WellFormed.all s (k+1) <+: impl_WellFormed.all s n:=by
 unfold impl_WellFormed.all
 have e:List.range n=List.range (k+1)++(List.range (n-(k+1))).map (k+1+·):=by
  rw [← List.range_add,show k+1+(n-(k+1))=n by omega]
 rw [e,List.map_append]
 exact List.prefix_append _ _
def impl_WellFormed.fin (ks:List Int):Int×(List Int×List Int):=impl_WellFormed.wk ks 64 0 (List.replicate ks.length 0,List.replicate ks.length 0)
def impl_WellFormed.come (ks:List Int):List (Int×Int×Int):=if (impl_WellFormed.fin ks).1=(ks.length:Int) then impl_WellFormed.all (impl_WellFormed.fin ks).2 ks.length else []
def impl_WellFormed.enc3 (x:Int×Int×Int):Array Value:=#[.int .i64 x.1,.agg #[.int .i64 x.2.1,.int .i64 x.2.2]]
theorem impl_WellFormed.named {F:Fence} {n:Nat} {P:Program} {c:Code} {Q:Exit→Act→World→Prop} {a:Act} {w:World} (h:∀ W5,w=W5→c.wpIn F n P Q a W5):c.wpIn F n P Q a w:=h w rfl
structure impl_WellFormed.RS (W:World) (ba be ga ge n ca ce:Nat) (s:List Int×List Int):Prop where
 ha:W.cell? ⟨ba,0,none⟩=some (.slice (some ⟨ga,0,none⟩) n ca)
 he:W.cell? ⟨be,0,none⟩=some (.slice (some ⟨ge,0,none⟩) n ce)
 hB:∀ i,i<n→W.cell? ⟨ga,i,none⟩=some (.int .i64 (s.1.getD i 0))
 hE:∀ i,i<n→W.cell? ⟨ge,i,none⟩=some (.int .i64 (s.2.getD i 0))
def impl_WellFormed.Kp (B:Nat) (A C:World):Prop:=∀ (p:Addr) (u:Value),B≤p.block→A.cell? p=some u→C.cell? p=some u
theorem impl_WellFormed.RS.kp {W W':World} {B0 ba be ga ge n ca ce:Nat} {s:List Int×List Int} (h:impl_WellFormed.RS W ba be ga ge n ca ce s) (hk:impl_WellFormed.Kp B0 W.drew W') (h1:B0≤ba) (h2:B0≤be) (h3:B0≤ga) (h4:B0≤ge):impl_WellFormed.RS W' ba be ga ge n ca ce s :=
 ⟨hk _ _ h1 h.ha,hk _ _ h2 h.he,fun i hi=>hk _ _ h3 (h.hB i hi),fun i hi=>hk _ _ h4 (h.hE i hi)⟩
set_option maxRecDepth 100000 in
set_option maxHeartbeats 16000000 in
theorem impl_WellFormed.tree_calls (l:Nat) (B0:Nat) (Ap:Option Addr) (cp:Nat) (ps:List S44) (J Jx:List (Int×Int×Int)→World→Prop) (W:World) (hB0:B0≤W.heap.size) (hr:Kd.C k44 W Ap ps.length ps) (hn:ps.length≤200) (hk:∀ p ∈ ps,p.f6≤9223372036854775807) (n:Nat) (hn3:3≤n)
  (hJ:AbidesFrom W.heap.size J)
  (hY:∀ pre x W1,J pre W1→pre.length<ps.length→YieldAt Fence.wide (n-1) Try.prog l (impl_WellFormed.enc3 x) W1 fun e W' =>
   (e=.returned (.bool true)∧J (pre++[x]) W'∧impl_WellFormed.Kp B0 W1 W')∨(e=.returned (.bool false)∧Jx (pre++[x]) W'))
  (h0:J [] W) :
  CallsIn Fence.wide n Try.prog 28 #[.agg #[.slice Ap ps.length cp],.func (.yield l) #[] #[]] W fun e W'=>(∃ v,e=.returned v) ∧
   ((∃ xs,xs=impl_WellFormed.come (ps.map (·.f6))∧J xs W')∨(∃ pre,pre <+: impl_WellFormed.come (ps.map (·.f6))∧Jx pre W')):=by
 have hu29:=Try.underlying29
 have hmk:∀ W:World,(Instr.makeSlice 41 (.int .i64 (ps.length:Int)) (.int .i64 (ps.length:Int))).run Try.prog W=.ok (.slice (some ⟨W.heap.size,0,none⟩) ps.length ps.length) (W.alloc (.cells (madeCells #[.int .i64 0] ps.length) 3)):=print_make 41 3 .i64 8 Try.underlying41 (by kernel_rfl) (by decide) ps.length (by omega)
 have HR:=Ak hr;have HK:=Ak hk;have HJ:=Ak hJ;have HY:=Ak hY;have H0:=Ak h0;clear hr hk hJ hY h0
 refine callsIn_of_wp Try.func28 rfl trivial ?_ rfl
 simp only [Try.ntmps28,List.size_toArray,List.length_cons,List.length_nil,Nat.reduceAdd,Nat.reduceSub,Array.replicate_succ,Array.replicate_zero,List.push_toArray,List.append_toArray,List.nil_append,List.cons_append]
 gi_wp2
 refine impl_WellFormed.named fun W5 hW5=>?_
 have hT:impl_WellFormed.TS W W5 W.heap.size (W.heap.size+1+1+1+1) (W.heap.size+1+1+1+1+1) (W.heap.size+1+1) (W.heap.size+1+1+1) (W.heap.size+1) Ap ps.length cp ps.length ps.length (List.replicate ps.length 0,List.replicate ps.length 0):=by
  subst hW5
  have new:∀ (V:World) (o:Obj) (k:Nat),k=V.heap.size→(V.alloc o).heap[k]?=some o:=fun V o k e=>by rw [e];exact World.alloc_heap_new V o
  have old:∀ (V:World) (o x:Obj) (k:Nat),V.heap[k]?=some x→(V.alloc o).heap[k]?=some x:=fun V o x k h=>(Below.heap_alloc _ _ _ (Array.getElem?_eq_some_iff.1 h).1).trans h
  have zero:∀ i,i<ps.length→(madeCells #[.int .i64 0] ps.length)[i]?=some (.int .i64 ((List.replicate ps.length (0:Int)).getD i 0)):=by
   intro i hi
   rw [← Array.getElem?_toList,toList_madeCells_one]
   simp [List.getD,hi]
  refine ⟨(blk_cell (old _ _ _ _ (old _ _ _ _ (old _ _ _ _ (old _ _ _ _ (old _ _ _ _ (new _ _ _ rfl)))))) 0).trans rfl,(blk_cell (old _ _ _ _ (new _ _ _ (by simp))) 0).trans rfl,(blk_cell (new _ _ _ (by simp)) 0).trans rfl,(blk_cell (old _ _ _ _ (old _ _ _ _ (old _ _ _ _ (new _ _ _ (by simp))))) 0).trans rfl,
   fun i hi=>(blk_cell (old _ _ _ _ (old _ _ _ _ (new _ _ _ (by simp)))) i).trans (zero i hi),fun i hi=>(blk_cell (old _ _ _ _ (old _ _ _ _ (old _ _ _ _ (old _ _ _ _ (new _ _ _ (by simp)))))) i).trans (zero i hi),
   fun i=>blk_frozen (old _ _ _ _ (old _ _ _ _ (new _ _ _ (by simp)))) i,fun i=>blk_frozen (old _ _ _ _ (old _ _ _ _ (old _ _ _ _ (old _ _ _ _ (new _ _ _ (by simp)))))) i,by simp,by simp,by omega,by omega,by omega,?_⟩
  exact ((((((Below.refl W.heap.size W).alloc (Nat.le_refl _) _).alloc (by simp) _).alloc (by simp;omega) _).alloc (by simp;omega) _).alloc (by simp;omega) _).alloc (by simp;omega) _
 clear hW5
 have hw0:=impl_WellFormed.walk_calls W Ap cp ps HR.out hn HK.out W.heap.size (W.heap.size+1+1+1+1) (W.heap.size+1+1+1+1+1) (W.heap.size+1+1) (W.heap.size+1+1+1) (W.heap.size+1) ps.length ps.length 64 0
 have hw0:=fun V hV=>hw0 V (List.replicate ps.length 0,List.replicate ps.length 0) (Nat.le_refl _) hV
 obtain ⟨R,hR⟩:∃ R,impl_WellFormed.fin (ps.map (·.f6))=R:=⟨_,rfl⟩
 have hfin:impl_WellFormed.wk (ps.map (·.f6)) 64 0 (List.replicate ps.length 0,List.replicate ps.length 0)=R:=by rw [← hR,impl_WellFormed.fin,List.length_map]
 simp only [hfin] at hw0
 have HW:Aside0 (∀ V,impl_WellFormed.TS W V W.heap.size (W.heap.size+1+1+1+1) (W.heap.size+1+1+1+1+1) (W.heap.size+1+1) (W.heap.size+1+1+1) (W.heap.size+1) Ap ps.length cp ps.length ps.length (List.replicate ps.length 0,List.replicate ps.length 0)→Calls Try.prog 67 #[.int .i64 0,.int .i64 0,.pointer (some ⟨W.heap.size,0,none⟩),.pointer (some ⟨W.heap.size+1+1+1+1,0,none⟩),.pointer (some ⟨W.heap.size+1+1+1+1+1,0,none⟩),.pointer (some ⟨W.heap.size+1+1,0,none⟩)] V fun e W' =>
   e=.returned (.int .i64 R.1)∧impl_WellFormed.TS W W' W.heap.size (W.heap.size+1+1+1+1) (W.heap.size+1+1+1+1+1) (W.heap.size+1+1) (W.heap.size+1+1+1) (W.heap.size+1) Ap ps.length cp ps.length ps.length R.2):=⟨hw0⟩
 have hc5:=hT.hc
 have hw5:=hT.hw
 have HT:=Ak hT;clear hw0 hfin hT;have HRR:=Ak hR;clear hR
 have hmix:Try.prog.follows .mixedOrders=true:=by kernel_rfl
 gi_region_with_o ((refine ⟨trivial,fun _=>by omega,?_⟩;refine (callsIn_wide.2 (HW.out _ (by repeat (first|exact HT.out|apply impl_WellFormed.TS.drew|apply impl_WellFormed.TS.drewN)))).mono ?_;rintro e w6 ⟨rfl,h6⟩;have H6:=Ak h6;have hc6:=h6.hc;clear h6))
 all_goals (
  have h6:=H6.out
  have hR:=HRR.out
  have hJ:=HJ.out
  have hgrow:W.grownBy w6 none:=grown_of_below h6.bel none
  have hJ6:J [] w6:=hJ [] W w6 none H0.out hgrow (fun r e=>by cases e)
  have hJ6':=Ak hJ6
  clear hJ hgrow hJ6 HT HW H0
  by_cases hRn:R.1=(ps.length:Int)
  ·have d1:(R.1 == (ps.length:Int))=true:=beq_iff_eq.mpr hRn
   have d2:(R.1 != (ps.length:Int))=false:=bne_eq_false_iff_eq.mpr hRn
   have d3:(R.1=(ps.length:Int))=True:=eq_true hRn
   have HS:Aside0 (impl_WellFormed.RS w6 (W.heap.size+1+1+1+1) (W.heap.size+1+1) (W.heap.size+1+1+1) (W.heap.size+1) ps.length ps.length ps.length R.2):=⟨⟨h6.ha,h6.he,h6.hB,h6.hE⟩⟩
   have HCM:Aside0 (impl_WellFormed.come (ps.map (·.f6))=impl_WellFormed.all R.2 ps.length):=⟨by rw [impl_WellFormed.come,hR,List.length_map,if_pos hRn]⟩
   clear h6 hR H6 HR hc5 hw5 HRR
   gi_wp2
   clear d1 d2 d3 hRn hc6
   gi_loopw [26] (fun i wr=>∃ k:Nat,k≤ps.length∧i=.int .i64 k∧Aside0 (J (impl_WellFormed.all R.2 k) wr)∧Aside0 (impl_WellFormed.RS wr (W.heap.size+1+1+1+1) (W.heap.size+1+1) (W.heap.size+1+1+1) (W.heap.size+1) ps.length ps.length ps.length R.2)) (fun i _=>ps.length-(intOf i).toNat)
   case atStart=>exact ⟨0,Nat.zero_le _,rfl,⟨by simpa [impl_WellFormed.all] using hJ6'.out⟩,HS⟩
   case round =>
    obtain ⟨k,hk,rfl,HJs,HSr⟩:=hrel
    clear HS hJ6'
    by_cases hlt:k<ps.length
    ·have q1:=HSr.out.ha
     have q2:=HSr.out.he
     have q3:=HSr.out.hB k hlt
     have q4:=HSr.out.hE k hlt
     have t1:decide ((k:Int)<(ps.length:Int))=true:=decide_eq_true (by omega)
     have t2:((k:Int)<(ps.length:Int))=True:=eq_true (by omega)
     have t3:(k<ps.length)=True:=eq_true hlt
     have hJd:J (impl_WellFormed.all R.2 k) wr.drew:=HJ.out _ wr wr.drew none HJs.out (grown_of_below (below_drew1 (Below.refl _ _)) none) (fun r e=>by cases e)
     obtain ⟨fn,tmps,assign,body,hy,hround⟩:=HY.out _ ((k:Int),R.2.1.getD k 0,R.2.2.getD k 0) wr.drew hJd (by rw [impl_WellFormed.all_length];exact hlt)
     simp only [impl_WellFormed.enc3,List.getD_eq_getElem?_getD] at hy
     have HRD:=Ak hround;clear hround hJd
     gi_wp2
     gi_region_with_o ((refine ⟨fun _=>by omega,HRD.out.mono ?_⟩;rintro e W' hr;obtain ⟨b,rfl,hb⟩:∃ b,e=.returned (.bool b)∧Aside0 ((b=true∧J (impl_WellFormed.all R.2 k++[((k:Int),R.2.1.getD k 0,R.2.2.getD k 0)]) W'∧impl_WellFormed.Kp B0 wr.drew W')∨(b=false∧Jx (impl_WellFormed.all R.2 k++[((k:Int),R.2.1.getD k 0,R.2.2.getD k 0)]) W')):=(hr.elim (fun h=>⟨true,h.1,⟨.inl ⟨rfl,h.2⟩⟩⟩) (fun h=>⟨false,h.1,⟨.inr ⟨rfl,h.2⟩⟩⟩));clear hr))
     all_goals (
      cases b
      ·obtain ⟨_,hJx⟩:false=false∧Jx (impl_WellFormed.all R.2 k++[((k:Int),R.2.1.getD k 0,R.2.2.getD k 0)]) W':=hb.out.elim (fun h=>by cases h.1) (fun h=>h)
       have HJX:=Ak hJx;clear hb hJx
       gi_wp2
       refine bodyPost_ret (results_none rfl _ _ _) rfl ?_
       exact ⟨⟨_,rfl⟩,.inr ⟨_,by rw [HCM.out,← impl_WellFormed.all_succ];exact impl_WellFormed.all_prefix _ hlt,HJX.out⟩⟩
      ·obtain ⟨_,hJt,hKp⟩:true=true∧J (impl_WellFormed.all R.2 k++[((k:Int),R.2.1.getD k 0,R.2.2.getD k 0)]) W'∧impl_WellFormed.Kp B0 wr.drew W':=hb.out.elim (fun h=>h) (fun h=>by cases h.1)
       rw [← impl_WellFormed.all_succ] at hJt
       have HJT:=Ak hJt
       have HRS:=Ak (HSr.out.kp hKp (by omega) (by omega) (by omega) (by omega))
       have t4:IntKind.i64.wrap ((k:Int)+1)=(k:Int)+1:=by rw [IntKind.wrap_i64];omega
       clear hb hJt hKp
       gi_wp2
       go_roundw
       case rel=>exact ⟨k+1,by omega,by simp,HJT,HRS⟩
       case measure=>simp [intOf];omega)
    ·obtain rfl:k=ps.length:=by omega
     gi_wp2
     go_end0
     exact ⟨⟨_,rfl⟩,.inl ⟨_,HCM.out.symm,HJs.out⟩⟩
  ·have d1:(R.1 == (ps.length:Int))=false:=beq_eq_false_iff_ne.mpr hRn
   have d2:(R.1 != (ps.length:Int))=true:=bne_iff_ne.mpr hRn
   have d3:(R.1=(ps.length:Int))=False:=eq_false hRn
   have hcm:impl_WellFormed.come (ps.map (·.f6))=[]:=by rw [impl_WellFormed.come,hR,List.length_map,if_neg hRn]
   clear h6 hR
   gi_wp2
   refine bodyPost_ret (results_none rfl _ _ _) rfl ?_
   exact ⟨⟨_,rfl⟩,.inl ⟨[],hcm.symm,hJ6'.out⟩⟩)
def impl_WellFormed.goods:List S44→Option Bool
 | []=>some true
 | p::ps=>(impl_Proto_good.f p.f0 p.f1 p.f2 p.f3 p.f4 p.f5 p.f6 p.f7 p.f8 p.f9).bind fun b=>if b=true then impl_WellFormed.goods ps else some false
def impl_WellFormed.small (l:List S44):Bool:=l.all fun p=>decide (p.f6≤9223372036854775807)
def impl_WellFormed.f (l:List S44):Option Bool :=
 if l.length<1∨200<l.length then some false else
  if impl_WellFormed.small l=true then (impl_WellFormed.goods l).bind fun b=>if b=true then some (decide ((impl_WellFormed.come (l.map (·.f6))).length=l.length)) else some false else none
theorem impl_WellFormed.goods_drop (l:List S44) {k:Nat} (hk:k<l.length):impl_WellFormed.goods (l.drop k)=(impl_Proto_good.f (rd_T44 l (k:Int)).f0 (rd_T44 l (k:Int)).f1 (rd_T44 l (k:Int)).f2 (rd_T44 l (k:Int)).f3 (rd_T44 l (k:Int)).f4 (rd_T44 l (k:Int)).f5 (rd_T44 l (k:Int)).f6 (rd_T44 l (k:Int)).f7 (rd_T44 l (k:Int)).f8 (rd_T44 l (k:Int)).f9).bind fun b=>if b=true then impl_WellFormed.goods (l.drop (k+1)) else some false:=by
 have e:rd_T44 l (k:Int)=l[k]:=by simp [rd_T44,List.getD,hk]
 rw [e,List.drop_eq_getElem_cons hk]
 rfl
set_option maxRecDepth 100000 in
set_option maxHeartbeats 16000000 in
theorem impl_WellFormed.calls (A0_0:Option Addr) (c0_0:Nat) (l0_0:List (S44)) (r:Bool) (w:World) (hr0_0:Kd.C k44 w A0_0 l0_0.length l0_0) (hc0_0:l0_0.length≤c0_0) (h:impl_WellFormed.f l0_0=some r) :
  Calls Try.prog 11 #[.agg #[.slice A0_0 l0_0.length c0_0]] w fun e w'=>e=.returned (.bool r)∧Below w.heap.size w w':=by
 have hu29:=Try.underlying29
 have hu44:=Try.underlying44
 have hw1:impl_within.f (l0_0.length:Int) 1 200=some (decide (1≤l0_0.length∧l0_0.length≤200)):=by
  unfold impl_within.f
  by_cases h1:1≤l0_0.length
  ·rw [if_pos (by omega)]
   congr 1
   rw [decide_eq_decide]
   omega
  ·rw [if_neg (by omega)]
   congr 1
   symm
   exact decide_eq_false (by omega)
 refine (callsIn_wide (n:=6)).1 ?_
 by_cases hlen:1≤l0_0.length∧l0_0.length≤200
 ·have d1:decide (1≤l0_0.length∧l0_0.length≤200)=true:=decide_eq_true hlen
  rw [d1] at hw1
  have HW1:=Ak hw1;have HR:=Ak hr0_0;have HC:=Ak hc0_0;have HH:=Ak h;have HL:=Ak hlen;clear hw1 d1 hr0_0 hc0_0 h hlen
  obtain ⟨hsm,b,hb,hbr⟩:impl_WellFormed.small l0_0=true∧∃ b,impl_WellFormed.goods l0_0=some b∧(if b=true then some (decide ((impl_WellFormed.come (l0_0.map (·.f6))).length=l0_0.length)) else some false)=some r:=by
   have h:=HH.out
   rw [impl_WellFormed.f,if_neg (by have:=HL.out;omega)] at h
   by_cases hs:impl_WellFormed.small l0_0=true
   ·rw [if_pos hs] at h
    obtain ⟨b,hb,hbr⟩:=Option.bind_eq_some_iff.1 h
    exact ⟨hs,b,hb,hbr⟩
   ·rw [if_neg hs] at h
    cases h
  have HSM:=Ak hsm;have HG:=Ak hb;have HBR:=Ak hbr;clear HH hsm hb hbr
  refine callsIn_of_wp_marks Try.func11 rfl trivial ?_ rfl
  simp only [Try.ntmps11,List.size_toArray,List.length_cons,List.length_nil,Nat.reduceAdd,Nat.reduceSub,Array.replicate_succ,Array.replicate_zero,List.push_toArray,List.append_toArray,List.nil_append,List.cons_append]
  have HB0:Aside0 (Below w.heap.size w (w.alloc (.cells #[.slice A0_0 l0_0.length c0_0] 29))):=⟨(Below.refl _ w).alloc (Nat.le_refl _) _⟩
  have hc0:(w.alloc (.cells #[.slice A0_0 l0_0.length c0_0] 29)).cell? ⟨w.heap.size,0,none⟩=some (.slice A0_0 l0_0.length c0_0):=(blk_cell (World.alloc_heap_new w _) 0).trans rfl
  have HC0:=Ak hc0;clear hc0
  gi_wp2_with (refine ⟨trivial,?_⟩;gi_at_call 26;refine (callsIn_wide.2 (impl_within.calls _ _ _ _ _ HW1.out)).mono ?_;rintro e w1 ⟨rfl,hd⟩;have HB1:Aside0 (Below (w.heap.size+1) (w.alloc (.cells #[.slice A0_0 l0_0.length c0_0] 29)) w1):=⟨by have:=hd.below;simpa using this⟩;have hc1:w1.cell? ⟨w.heap.size,0,none⟩=some (.slice A0_0 l0_0.length c0_0):=(HB1.out.cell (p:=⟨w.heap.size,0,none⟩) (by simp)).trans HC0.out;clear hd)
  clear hc1
  gi_loopw [14] (fun i wr=>∃ k:Nat,k≤l0_0.length∧i=.int .i64 k∧Aside0 (impl_WellFormed.goods (l0_0.drop k)=some b)∧Aside0 (Below (w.heap.size+1) (w.alloc (.cells #[.slice A0_0 l0_0.length c0_0] 29)) wr)) (fun i _=>l0_0.length-(intOf i).toNat)
  case atStart=>exact ⟨0,Nat.zero_le _,rfl,by simpa using HG,HB1⟩
  case round =>
   obtain ⟨k,hk,rfl,HGk,HBk⟩:=hrel
   clear HG HB1
   by_cases hlt:k<l0_0.length
   ·have hg:=HGk.out
    rw [impl_WellFormed.goods_drop _ hlt] at hg
    obtain ⟨t,ht,hgt⟩:=Option.bind_eq_some_iff.1 hg
    clear hg HGk
    have HBw:Aside0 (Below w.heap.size w wr):=⟨HB0.out.trans (HBk.out.mono (by omega))⟩
    obtain ⟨ad,A3,c3,A4,c4,A5,c5,A8,c8,A9,c9,rfl,x0,x1,x2,x3,x4,x5,x6,x7,x8,x9,l3,g3,l4,g4,l5,g5,l8,g8,l9,g9⟩:=at_T44 (Kd.C_below HR.out HBw.out) (k:Int) (by omega) (by omega)
    simp only [Int.toNat_natCast] at x0 x1 x2 x3 x4 x5 x6 x7 x8 x9
    have t1:decide ((k:Int)<(l0_0.length:Int))=true:=decide_eq_true (by omega)
    have t2:((k:Int)<(l0_0.length:Int))=True:=eq_true (by omega)
    have t3:(k<l0_0.length)=True:=eq_true hlt
    have HT:=Ak ht;have HGT:=Ak hgt;have G3:=Ak g3;have G4:=Ak g4;have G5:=Ak g5;have G8:=Ak g8;have G9:=Ak g9;clear ht hgt g3 g4 g5 g8 g9
    obtain ⟨p,hp⟩:∃ p,rd_T44 l0_0 (k:Int)=p:=⟨_,rfl⟩
    rw [hp] at x0 x1 x2 x3 x4 x5 x6 x7 x8 x9 l3 l4 l5 l8 l9 HT G3 G4 G5 G8 G9
    clear hp
    cases t
    ·have hb:b=false:=by have h:=HGT.out;simp at h;exact h
     subst hb
     have hr:r=false:=by have h:=HBR.out;simp at h;exact h
     subst hr
     gi_wp2_with (refine ⟨trivial,?_⟩;gi_at_call 27;refine (callsIn_wide.2 (impl_Proto_good.calls _ _ _ _ _ _ _ _ _ _ _ _ _ _ _ _ _ _ _ _ false _ (Kd.C_below G3.out ((Below.refl _ _).alloc (Nat.le_refl _) _)) l3 (Kd.C_below G4.out ((Below.refl _ _).alloc (Nat.le_refl _) _)) l4 (Kd.C_below G5.out ((Below.refl _ _).alloc (Nat.le_refl _) _)) l5 (Kd.C_below G8.out ((Below.refl _ _).alloc (Nat.le_refl _) _)) l8 (Kd.C_below G9.out ((Below.refl _ _).alloc (Nat.le_refl _) _)) l9 HT.out)).mono ?_;rintro e w2 ⟨rfl,hd⟩;have HB2:Aside0 (Below w.heap.size w w2):=⟨(HBw.out.alloc (by have:=HBw.out.size;omega) _).trans (hd.mono (by have:=HBw.out.size;simp;omega))⟩;clear hd)
     exact ⟨_,results_tmp rfl _ _ _,rfl,HB2.out⟩
    ·have hg2:impl_WellFormed.goods (l0_0.drop (k+1))=some b:=by have h:=HGT.out;simpa using h
     have HG2:=Ak hg2
     have t4:IntKind.i64.wrap ((k:Int)+1)=(k:Int)+1:=by rw [IntKind.wrap_i64];have:=HL.out;omega
     clear hg2 HGT
     gi_wp2_with (refine ⟨trivial,?_⟩;gi_at_call 27;refine (callsIn_wide.2 (impl_Proto_good.calls _ _ _ _ _ _ _ _ _ _ _ _ _ _ _ _ _ _ _ _ true _ (Kd.C_below G3.out ((Below.refl _ _).alloc (Nat.le_refl _) _)) l3 (Kd.C_below G4.out ((Below.refl _ _).alloc (Nat.le_refl _) _)) l4 (Kd.C_below G5.out ((Below.refl _ _).alloc (Nat.le_refl _) _)) l5 (Kd.C_below G8.out ((Below.refl _ _).alloc (Nat.le_refl _) _)) l8 (Kd.C_below G9.out ((Below.refl _ _).alloc (Nat.le_refl _) _)) l9 HT.out)).mono ?_;rintro e w2 ⟨rfl,hd⟩;have HB2:Aside0 (Below (w.heap.size+1) (w.alloc (.cells #[.slice (some ad) l0_0.length c0_0] 29)) w2):=⟨(HBk.out.alloc (by have:=HBk.out.size;simp at this;omega) _).trans (hd.mono (by have:=HBk.out.size;simp at this ⊢;omega))⟩;clear hd)
     go_roundw
     case rel=>exact ⟨k+1,by omega,by simp,HG2,HB2⟩
     case measure=>simp [intOf];omega
   ·obtain rfl:k=l0_0.length:=by omega
    have hb:b=true:=by have h:=HGk.out;rw [List.drop_length] at h;exact (Option.some.inj h).symm
    subst hb
    have hr:r=decide ((impl_WellFormed.come (l0_0.map (·.f6))).length=l0_0.length):=by have h:=HBR.out;simp only [if_true,Option.some.injEq] at h;exact h.symm
    have HRR:=Ak hr
    have hc1:wr.cell? ⟨w.heap.size,0,none⟩=some (.slice A0_0 l0_0.length c0_0):=(HBk.out.cell (p:=⟨w.heap.size,0,none⟩) (by simp)).trans HC0.out
    have t1:decide ((l0_0.length:Int)<(l0_0.length:Int))=false:=decide_eq_false (by omega)
    have hc2:(wr.alloc (.cells #[.int .i64 0] 3)).cell? ⟨w.heap.size,0,none⟩=some (.slice A0_0 l0_0.length c0_0):=cell_kept hc1 (World.grownBy_alloc wr _ none) (fun r e=>by cases e)
    have HBn:Aside0 (Below (w.heap.size+1) (w.alloc (.cells #[.slice A0_0 l0_0.length c0_0] 29)) (wr.alloc (.cells #[.int .i64 0] 3))):=⟨HBk.out.alloc (by have:=HBk.out.size;simp at this;omega) _⟩
    have HN:Aside0 (w.heap.size+1≤wr.heap.size):=⟨by have:=HBk.out.size;simp at this;omega⟩
    clear HBR hr HGk
    gi_wp2
    refine range_bound (gf:=28) (bd:=#[.agg #[.slice A0_0 l0_0.length c0_0]]) (encs:=impl_WellFormed.enc3) (Kp:=impl_WellFormed.Kp (wr.heap.size+1)) (S:=fun xs=>xs=impl_WellFormed.come (l0_0.map (·.f6))) (Sp:=fun pre=>pre <+: impl_WellFormed.come (l0_0.map (·.f6))) (N:=l0_0.length) (w0:=wr.alloc (.cells #[.int .i64 0] 3)) rfl (by omega) rfl trivial (enters_of Try.func28 (by kernel_rfl) rfl)
     (fun l J Jx W hW hJ hJx hY h0=>impl_WellFormed.tree_calls l (wr.heap.size+1) A0_0 c0_0 l0_0 J Jx W (by have:=hW.size;simpa using this) (Kd.C_below HR.out ((HB0.out.trans (HBn.out.mono (by omega))).trans (hW.mono (by have:=HN.out;simp;omega)))) HL.out.2 (fun p hp=>by have h:=List.all_eq_true.1 HSM.out p hp;simpa using h) 5 (by omega) hJ hY h0)
     (fun h1 h2 p u hp hu=>h2 p u hp (h1 p u hp hu)) (fun W l o o' hl ho hc _ p u hp hu=>cell_kept hu (grownBy_putObj' W l o') (fun r e=>by cases e;exact ⟨o,ho,hc⟩)) (Below.refl _ _) (fun _=>rfl)
     (fun pre W=>Boxed W wr.heap.size 3 (.int .i64 (pre.length:Int))∧Below (w.heap.size+1) (w.alloc (.cells #[.slice A0_0 l0_0.length c0_0] 29)) W) (fun _ _ _=>False)
     (OwnFrom.and (Own.from (boxed_own wr.heap.size 3 (fun pre:List (Int×Int×Int)=>.int .i64 (pre.length:Int))) _) (ownFrom_below (by simp) (by have:=HN.out;simp;omega))) (fun _ _ _ _ _ hs _ _=>hs) ⟨Boxed.new wr 3 _,HBn.out⟩
     (fun x=>{ tmps:=#[.agg #[.slice A0_0 l0_0.length c0_0],.pointer (some ⟨w.heap.size,0,none⟩),u2,undef,u4,.pointer (some ⟨wr.heap.size,0,none⟩),.pointer (some ⟨w.heap.size,0,none⟩),.slice A0_0 l0_0.length c0_0,.int .i64 (l0_0.length:Int),.bool true,.bool false,.pointer (some ⟨w.heap.size,0,none⟩),.slice A0_0 l0_0.length c0_0,.int .i64 (l0_0.length:Int),.int .i64 (l0_0.length:Int),.bool false,u16,u17,u18,u19,u20,u21,.agg #[.slice A0_0 l0_0.length c0_0],.func (.func 28) #[.agg #[.slice A0_0 l0_0.length c0_0]] #[],.int .i64 x.1,.agg #[.int .i64 x.2.1,.int .i64 x.2.2],undef,undef,undef,undef,undef,undef,undef],defers:=[] }) ?assign ?body ?done ?stop
    case assign =>
     intro l x W K hK
     simp only [impl_WellFormed.enc3]
     gi_wp2
     exact hK
    case body =>
     rintro l pre x W ⟨hbx,hB⟩ hlen
     have hc:=hbx.cell
     have hf:=hbx.frozen
     have t4:IntKind.i64.wrap ((pre.length:Int)+1)=(pre.length:Int)+1:=by rw [IntKind.wrap_i64];have:=HL.out;omega
     gi_wp2
     exact ⟨KeepsOthers.setCell _ _ _,fun p u hp hu=>by rw [World.cell?_setCell_other _ _ _ _ (fun e=>by cases e;simp at hp;omega)];exact hu,by have h:=hbx.set (.int .i64 ((pre.length:Int)+1));simpa using h,hB.setCell (p:=⟨wr.heap.size,0,none⟩) HN.out _⟩
    case done =>
     rintro D xs W hD rfl ⟨hbx,hB⟩ hK
     have hc:=hbx.cell
     have hc3:W.cell? ⟨w.heap.size,0,none⟩=some (.slice A0_0 l0_0.length c0_0):=(hB.cell (p:=⟨w.heap.size,0,none⟩) (by simp)).trans HC0.out
     gi_wp2
     refine ⟨by simp,.inl ⟨_,_,rfl,run_takeDeferred hK,?_⟩⟩
     refine ⟨_,results_tmp rfl _ _ _,?_,(HB0.out.trans (hB.mono (by omega))).trans (belowK_b (w:=w) (Nat.le_refl _) W D _ _ (by have:=HN.out;simp at hD;omega) hK rfl rfl)⟩
     have e:(((impl_WellFormed.come (l0_0.map (·.f6))).length:Int) == (l0_0.length:Int))=r:=by rw [HRR.out,Bool.eq_iff_iff,beq_iff_eq,decide_eq_true_iff];omega
     show Ending.returned (.bool (((impl_WellFormed.come (l0_0.map (·.f6))).length:Int) == (l0_0.length:Int)))=_
     rw [e]
    case stop =>
     rintro D c pre W _ _ h _
     exact h.elim
 ·have d1:decide (1≤l0_0.length∧l0_0.length≤200)=false:=decide_eq_false hlen
  rw [d1] at hw1
  have hr:r=false:=by
   rw [impl_WellFormed.f,if_pos (by omega)] at h
   simpa using h.symm
  subst hr
  have HW1:=Ak hw1;clear hw1 d1 hr0_0 hc0_0 h hlen
  refine callsIn_of_wp_marks Try.func11 rfl trivial ?_ rfl
  simp only [Try.ntmps11,List.size_toArray,List.length_cons,List.length_nil,Nat.reduceAdd,Nat.reduceSub,Array.replicate_succ,Array.replicate_zero,List.push_toArray,List.append_toArray,List.nil_append,List.cons_append]
  have HB0:Aside0 (Below w.heap.size w (w.alloc (.cells #[.slice A0_0 l0_0.length c0_0] 29))):=⟨(Below.refl _ w).alloc (Nat.le_refl _) _⟩
  gi_wp2_with (refine ⟨trivial,?_⟩;gi_at_call 26;refine (callsIn_wide.2 (impl_within.calls _ _ _ _ _ HW1.out)).mono ?_;rintro e w1 ⟨rfl,hd⟩;have HB1:Aside0 (Below w.heap.size w w1):=⟨HB0.out.trans (hd.below.mono (by simp))⟩;clear hd)
  exact ⟨_,results_tmp rfl _ _ _,rfl,HB1.out⟩
end
section
open Go.Shelf Go.Proofs.YtiekodnojmkfaaaRange
attribute [local go_sem] Oper.semAt_some
def impl_End.pick (i:Int):List (Int×Int×Int)→Int
 | []=>-1
 | x::xs=>if x.1=i then x.2.2 else impl_End.pick i xs
def impl_End.f (l:List S44) (i:Int):Option Int:=(impl_WellFormed.f l).bind fun b=>if b=true then some (impl_End.pick i (impl_WellFormed.come (l.map (·.f6)))) else some (-1)
theorem impl_End.pick_none {i:Int}:∀ {xs:List (Int×Int×Int)},(∀ y ∈ xs,y.1≠i)→impl_End.pick i xs=-1
 | [],_=>rfl
 | x::xs,h=>by rw [impl_End.pick,if_neg (h x List.mem_cons_self)];exact impl_End.pick_none (fun y hy=>h y (List.mem_cons_of_mem _ hy))
theorem impl_End.pick_at {i:Int} {x:Int×Int×Int} {rest:List (Int×Int×Int)} (hx:x.1=i):∀ {pre:List (Int×Int×Int)},(∀ y ∈ pre,y.1≠i)→impl_End.pick i (pre++x::rest)=x.2.2
 | [],_=>by rw [List.nil_append,impl_End.pick,if_pos hx]
 | y::pre,h=>by rw [List.cons_append,impl_End.pick,if_neg (h y List.mem_cons_self)];exact impl_End.pick_at hx (fun z hz=>h z (List.mem_cons_of_mem _ hz))
theorem impl_End.true_of {l:List S44} (h:impl_WellFormed.f l=some true):l.length≤200∧impl_WellFormed.small l=true:=by
 unfold impl_WellFormed.f at h
 by_cases h1:l.length<1∨200<l.length
 ·rw [if_pos h1] at h;cases h
 ·rw [if_neg h1] at h
  by_cases hs:impl_WellFormed.small l=true
  ·exact ⟨by omega,hs⟩
  ·rw [if_neg hs] at h;cases h
theorem impl_End.result_int {P:Program} {fn:Func} {p:Tmp} {ty:TypeId} {k:IntKind} (h:fn.results=#[.cell p ty]) (tmps:Array Value) (w:World) (a:Addr) (v:Value) (hp:tmps.getD p undef=.pointer (some a)) (hu:P.underlying ty=some (.int k)) (hc:w.cell? a=some v):(results fn tmps).run P w=.ok v w:=by
 have hp':tmps[p]?.getD undef=.pointer (some a):=by simpa using hp
 have hagg:(isAgg ty).run P w=.ok false w:=by
  unfold isAgg
  simp [run_underlying hu]
 simp [results,h,hp',asAddr,loadVar,go_sem,hc,hagg]
def impl_End.found (w:World) (a1:Int) (mk:Nat→Int×Int×Int→Act) (s:List (Int×Int×Int)×(Int×Int×Int)×Act) (W:World):Prop :=
 ∃ g:Nat,s.2.2=mk g s.2.1∧W.heap[g]?=some (.cells #[.int .i64 s.2.1.2.1,.int .i64 s.2.1.2.2] 58 (0,0)) ∧
  ((∀ y ∈ s.1,y.1≠a1)∧Boxed W (w.heap.size+1) 3 (.int .i64 a1)∧Boxed W (w.heap.size+1+1) 3 (.int .i64 0))∧Below w.heap.size w W
theorem impl_End.ownInv (w:World) (a1:Int) (B:Nat) (hB:w.heap.size≤B):OwnFrom B (fun (pre:List (Int×Int×Int)) W=>((∀ y ∈ pre,y.1≠a1)∧Boxed W (w.heap.size+1) 3 (.int .i64 a1)∧Boxed W (w.heap.size+1+1) 3 (.int .i64 0))∧Below w.heap.size w W) :=
 OwnFrom.and (OwnFrom.and (ownFrom_pure _ _) (OwnFrom.and (Own.from (boxed_own _ _ (fun _=>_)) _) (Own.from (boxed_own _ _ (fun _=>_)) _))) (ownFrom_below (Nat.le_refl _) hB)
theorem impl_End.ownFound (w:World) (a1:Int) (mk:Nat→Int×Int×Int→Act) (B:Nat) (hB:w.heap.size≤B):OwnFrom B (impl_End.found w a1 mk):=by
 rintro s W W' row ⟨g,e,hg,hi⟩ hgr hr
 refine ⟨g,e,?_,impl_End.ownInv w a1 B hB s.1 W W' row hi hgr hr⟩
 rw [hgr.block g (Array.getElem?_eq_some_iff.1 hg).1 (fun er=>?_),hg]
 obtain ⟨_,o,ho,hc⟩:=hr g er.symm
 rw [hg] at ho
 cases ho
 cases hc
set_option maxRecDepth 100000 in
set_option maxHeartbeats 16000000 in
theorem impl_End.calls (A0_0:Option Addr) (c0_0:Nat) (l0_0:List (S44)) (a1:Int) (r:Int) (w:World) (hr0_0:Kd.C k44 w A0_0 l0_0.length l0_0) (hc0_0:l0_0.length≤c0_0) (h:impl_End.f l0_0 a1=some r) :
  Calls Try.prog 14 #[.agg #[.slice A0_0 l0_0.length c0_0],.int .i64 a1] w fun e w'=>e=.returned (.int .i64 r)∧Below w.heap.size w w':=by
 have hu29:=Try.underlying29
 have hu58:=Try.underlying58
 obtain ⟨b,hb,hbr⟩:=Option.bind_eq_some_iff.1 h
 have HW:=Ak hb;have HR:=Ak hr0_0;have HC:=Ak hc0_0;have HBR:=Ak hbr;clear h hb hbr hr0_0 hc0_0
 refine (callsIn_wide (n:=6)).1 ?_
 refine callsIn_of_wp_marks Try.func14 rfl trivial ?_ rfl
 simp only [Try.ntmps14,List.size_toArray,List.length_cons,List.length_nil,Nat.reduceAdd,Nat.reduceSub,Array.replicate_succ,Array.replicate_zero,List.push_toArray,List.append_toArray,List.nil_append,List.cons_append]
 obtain ⟨w0,hw0⟩:∃ w0,((w.alloc (.cells #[.slice A0_0 l0_0.length c0_0] 29)).alloc (.cells #[.int .i64 a1] 3)).alloc (.cells #[.int .i64 0] 3)=w0:=⟨_,rfl⟩
 have x0:Boxed w0 w.heap.size 29 (.slice A0_0 l0_0.length c0_0):=by rw [← hw0];exact ((Boxed.new w 29 _).alloc _).alloc _
 have x1:Boxed w0 (w.heap.size+1) 3 (.int .i64 a1):=by rw [← hw0];have h:=Boxed.new (w.alloc (.cells #[.slice A0_0 l0_0.length c0_0] 29)) 3 (.int .i64 a1);rw [World.size_alloc] at h;exact h.alloc _
 have x2:Boxed w0 (w.heap.size+1+1) 3 (.int .i64 0):=by rw [← hw0];have h:=Boxed.new ((w.alloc (.cells #[.slice A0_0 l0_0.length c0_0] 29)).alloc (.cells #[.int .i64 a1] 3)) 3 (.int .i64 0);rw [World.size_alloc,World.size_alloc] at h;exact h
 have hb0:Below w.heap.size w w0:=by rw [← hw0];exact (((Below.refl _ w).alloc (Nat.le_refl _) _).alloc (by simp) _).alloc (by simp;omega) _
 have hs0:w0.heap.size=w.heap.size+3:=by rw [← hw0];simp
 have HB0:=Ak hb0;have HS0:=Ak hs0;have X1:=Ak x1;have X2:=Ak x2;have X0:=Ak x0
 have hc0:=x0.cell
 have HE:=Ak hw0;clear hb0 hs0 x0 x1 x2
 cases b
 ·have hr:r=-1:=by have h:=HBR.out;simp at h;exact h.symm
  subst hr
  gi_wp2_with (refine ⟨trivial,?_⟩;gi_at_call 11;refine (callsIn_wide.2 (impl_WellFormed.calls _ _ _ _ _ (Kd.C_below HR.out HB0.out) HC.out HW.out)).mono ?_;rintro e w1 ⟨rfl,hd⟩;have HB1:Aside0 (Below w.heap.size w w1):=⟨HB0.out.trans (hd.mono (by have:=HS0.out;omega))⟩;have HS1:Aside0 (w.heap.size+3≤w1.heap.size):=⟨by have:=HS0.out;have:=hd.size;omega⟩;have y0:Boxed w1 w.heap.size 29 (.slice A0_0 l0_0.length c0_0):=(hd.block _ X0.out.lt).trans X0.out;have y1:Boxed w1 (w.heap.size+1) 3 (.int .i64 a1):=(hd.block _ X1.out.lt).trans X1.out;have y2:Boxed w1 (w.heap.size+1+1) 3 (.int .i64 0):=(hd.block _ X2.out.lt).trans X2.out;have Y0:=Ak y0;have Y1:=Ak y1;have Y2:=Ak y2;have z0:=y0.cell;have z2:=y2.cell;have f2:=y2.frozen;clear hd y0 y1 y2)
  refine ⟨_,impl_End.result_int rfl _ _ ⟨w.heap.size+1+1,0,none⟩ (.int .i64 (-1)) rfl Try.underlying3 (Y2.out.set (.int .i64 (-1))).cell,rfl,HB1.out.setCell (p:=⟨w.heap.size+1+1,0,none⟩) (by simp;omega) _⟩
 ·have hr:r=impl_End.pick a1 (impl_WellFormed.come (l0_0.map (·.f6))):=by have h:=HBR.out;simp only [if_true,Option.some.injEq] at h;exact h.symm
  have HRR:=Ak hr;clear hr
  gi_wp2_with (refine ⟨trivial,?_⟩;gi_at_call 11;refine (callsIn_wide.2 (impl_WellFormed.calls _ _ _ _ _ (Kd.C_below HR.out HB0.out) HC.out HW.out)).mono ?_;rintro e w1 ⟨rfl,hd⟩;have HB1:Aside0 (Below w.heap.size w w1):=⟨HB0.out.trans (hd.mono (by have:=HS0.out;omega))⟩;have HS1:Aside0 (w.heap.size+3≤w1.heap.size):=⟨by have:=HS0.out;have:=hd.size;omega⟩;have y0:Boxed w1 w.heap.size 29 (.slice A0_0 l0_0.length c0_0):=(hd.block _ X0.out.lt).trans X0.out;have y1:Boxed w1 (w.heap.size+1) 3 (.int .i64 a1):=(hd.block _ X1.out.lt).trans X1.out;have y2:Boxed w1 (w.heap.size+1+1) 3 (.int .i64 0):=(hd.block _ X2.out.lt).trans X2.out;have Y0:=Ak y0;have Y1:=Ak y1;have Y2:=Ak y2;have z0:=y0.cell;have z2:=y2.cell;have f2:=y2.frozen;clear hd y0 y1 y2)
  clear z0 z2 f2
  have hin:w.heap.size≤w1.heap.size:=by have:=HS1.out;omega
  have HT:=Ak (impl_End.true_of HW.out)
  refine range_made (gf:=28) (bd:=#[.agg #[.slice A0_0 l0_0.length c0_0]]) (encs:=impl_WellFormed.enc3) (Kp:=impl_WellFormed.Kp w1.heap.size) (S:=fun xs=>xs=impl_WellFormed.come (l0_0.map (·.f6))) (Sp:=fun pre=>pre <+: impl_WellFormed.come (l0_0.map (fun p:S44=>p.f6))) (N:=l0_0.length) (w0:=w1) rfl (by omega) rfl trivial (enters_of Try.func28 (by kernel_rfl) rfl)
   (fun l J Jx W hW hJ hJx hY h0=>impl_WellFormed.tree_calls l w1.heap.size A0_0 c0_0 l0_0 J Jx W hW.size (Kd.C_below HR.out (HB1.out.trans (hW.mono hin))) HT.out.1 (fun p hp=>by have h:=List.all_eq_true.1 HT.out.2 p hp;simpa using h) 5 (by omega) hJ hY h0)
   (fun h1 h2 p u hp hu=>h2 p u hp (h1 p u hp hu)) (fun W l o o' hl ho hc _ p u hp hu=>cell_kept hu (grownBy_putObj' W l o') (fun r e=>by cases e;exact ⟨o,ho,hc⟩)) (Below.refl _ _) (fun _=>rfl)
   (fun pre W=>((∀ y ∈ pre,y.1≠a1)∧Boxed W (w.heap.size+1) 3 (.int .i64 a1)∧Boxed W (w.heap.size+1+1) 3 (.int .i64 0))∧Below w.heap.size w W)
   (fun c pre W=>(c=.ret∧∃ pre0 x,pre=pre0++[x]∧(∀ y ∈ pre0,y.1≠a1)∧x.1=a1∧Boxed W (w.heap.size+1+1) 3 (.int .i64 x.2.2))∧Below w.heap.size w W)
   (impl_End.found w a1 (fun g x=>{ tmps:=#[.agg #[.slice A0_0 l0_0.length c0_0],.int .i64 a1,.pointer (some ⟨w.heap.size,0,none⟩),.pointer (some ⟨w.heap.size+1,0,none⟩),.pointer (some ⟨w.heap.size+1+1,0,none⟩),.int .i64 x.1,.pointer (some ⟨g,0,none⟩),.agg #[.slice A0_0 l0_0.length c0_0],.bool true,.bool false,.agg #[.slice A0_0 l0_0.length c0_0],.func (.func 28) #[.agg #[.slice A0_0 l0_0.length c0_0]] #[],.int .i64 x.1,.agg #[.int .i64 x.2.1,.int .i64 x.2.2],undef,undef,undef,undef,undef],defers:=[] }))
   (impl_End.ownInv w a1 _ hin) (impl_End.ownFound w a1 _ _ hin)
   (fun c=>OwnFrom.and (fun s W W' row hs hg hr=>by
    obtain ⟨e,pre0,x,e2,h1,h2,hx⟩:=hs
    exact ⟨e,pre0,x,e2,h1,h2,Own.from (boxed_own (β:=Unit) _ _ (fun _=>_)) _ () W W' row hx hg hr⟩) (ownFrom_below (Nat.le_refl _) hin))
   ⟨⟨by simp,Y1.out,Y2.out⟩,HB1.out⟩ ?assign ?body ?done ?stop
  case assign =>
   intro l pre x W K hI hlen hK
   simp only [impl_WellFormed.enc3]
   gi_wp2
   refine hK _ _ (KeepsOthers.alloc _ _) (fun p u _ hu=>cell_kept hu (World.grownBy_alloc _ _ none) (fun r e=>by cases e)) ⟨W.heap.size,rfl,World.alloc_heap_new W _,⟨hI.1.1,hI.1.2.1.alloc _,hI.1.2.2.alloc _⟩,hI.2.alloc hI.2.size _⟩
  case body =>
   rintro l pre x act W ⟨g,e,hg,⟨hne,b1,b2⟩,hB⟩ hlen
   dsimp only at e hg hne b1 b2 hB
   subst e
   have hc:=b1.cell
   have hc2:=b2.cell
   have hf2:=b2.frozen
   have hg1:W.cell? ⟨g,1,none⟩=some (.int .i64 x.2.2):=by simp [World.cell?,hg]
   by_cases hx:x.1=a1
   ·have t1:(x.1 == a1)=true:=beq_iff_eq.mpr hx
    have t2:(x.1=a1)=True:=eq_true hx
    have HX:=Ak hx;clear hx
    gi_wp2
    exact ⟨KeepsOthers.setCell _ _ _,⟨rfl,pre,x,rfl,hne,HX.out,b2.set _⟩,hB.setCell (p:=⟨w.heap.size+1+1,0,none⟩) (by simp;omega) _⟩
   ·have t1:(x.1 == a1)=false:=beq_eq_false_iff_ne.mpr hx
    have t2:(x.1=a1)=False:=eq_false hx
    have HX:=Ak hx;clear hx
    gi_wp2
    refine ⟨KeepsOthers.refl _,fun p u _ hu=>hu,⟨fun y hy=>?_,b1,b2⟩,hB⟩
    rcases List.mem_append.1 hy with hy|hy
    ·exact hne y hy
    ·rw [List.mem_singleton.1 hy];exact HX.out
  case done =>
   rintro D xs W hD rfl ⟨⟨hne,b1,b2⟩,hB⟩ hK
   have hc2:=b2.cell
   have hf2:=b2.frozen
   gi_wp2
   have hr:r=-1:=by rw [HRR.out];exact impl_End.pick_none hne
   subst hr
   have hK2:=(KeepsOthers.setCell W ⟨w.heap.size+1+1,0,none⟩ (.int .i64 (-1))).same _ _ hK rfl
   have b3:=b2.set (.int .i64 (-1))
   have hB3:=hB.setCell (p:=⟨w.heap.size+1+1,0,none⟩) (by simp;omega) (.int .i64 (-1))
   refine ⟨by simp,.inl ⟨_,_,rfl,run_takeDeferred hK2,?_⟩⟩
   exact ⟨_,impl_End.result_int rfl _ _ ⟨w.heap.size+1+1,0,none⟩ (.int .i64 (-1)) rfl Try.underlying3 (cell_kept b3.cell (grownBy_putObj' _ D _) (fun r e=>by cases e;exact ⟨_,hK2,rfl⟩)),rfl,hB3.trans (belowK_b (w:=w) (Nat.le_refl _) _ D _ _ (by omega) hK2 rfl rfl)⟩
  case stop =>
   rintro D c pre W hD hp ⟨⟨rfl,pre0,x,rfl,hne,hx,b2⟩,hB⟩ hK
   gi_wp2
   obtain ⟨rest,hrest⟩:=hp
   have hr:r=x.2.2:=by rw [HRR.out,← hrest,List.append_assoc];exact impl_End.pick_at hx hne
   subst hr
   refine ⟨by simp,.inl ⟨_,_,rfl,run_takeDeferred hK,?_⟩⟩
   exact ⟨_,impl_End.result_int rfl _ _ ⟨w.heap.size+1+1,0,none⟩ (.int .i64 x.2.2) rfl Try.underlying3 (cell_kept b2.cell (grownBy_putObj' _ D _) (fun r e=>by cases e;exact ⟨_,hK,rfl⟩)),rfl,hB.trans (belowK_b (w:=w) (Nat.le_refl _) _ D _ _ (by omega) hK rfl rfl)⟩
end
end Go.Proofs.Ytiekodnojmkfaaa.PFnEnds
