import Derived.Test.YtiekodnojmkfaaaGreatDoorPFnDumpx0
import Derived.Test.YtiekodnojmkfaaaGreatDoorPFnDumpx11
import Derived.Test.YtiekodnojmkfaaaGreatDoorPFnDumpx12
namespace Go.Proofs.YtiekodnojmkfaaaGreatDoor.yD
set_option maxHeartbeats 16000000
set_option maxRecDepth 100000
open Go.RowKit Go.Proofs.YtiekodnojmkfaaaGreatDoorW.zF Go.Proofs.YtiekodnojmkfaaaGreatDoorW.yC Go.Proofs.YtiekodnojmkfaaaGreatDoorW.yY
attribute [local go_sem] xM xO qG qH yZ xg xP xQ
set_option linter.unusedVariables false
set_option linter.unusedSimpArgs false
def zk.lp (g:Nat→List Int×List Int→Int×(List Int×List Int)):Nat→Nat→List Int×List Int→Int×(List Int×List Int)
 | 0,at_,s=>((at_:Int),s)
 | m+1,at_,s=>if (g at_ s).1<0 then (-1,(g at_ s).2) else zk.lp g m (g at_ s).1.toNat (g at_ s).2
def zk.wk (ks:List Int):Nat→Nat→List Int×List Int→Int×(List Int×List Int)
 | 0,_,s=>(-1,s)
 | f+1,i,s=>if ks.length≤i then (-1,s) else
   if (zk.lp (zk.wk ks f) (ks.getD i 0).toNat (i+1) (s.1.set i (63-(f:Int)),s.2)).1<0 then
    (-1,(zk.lp (zk.wk ks f) (ks.getD i 0).toNat (i+1) (s.1.set i (63-(f:Int)),s.2)).2)
   else ((zk.lp (zk.wk ks f) (ks.getD i 0).toNat (i+1) (s.1.set i (63-(f:Int)),s.2)).1,
    ((zk.lp (zk.wk ks f) (ks.getD i 0).toNat (i+1) (s.1.set i (63-(f:Int)),s.2)).2.1,
     (zk.lp (zk.wk ks f) (ks.getD i 0).toNat (i+1) (s.1.set i (63-(f:Int)),s.2)).2.2.set i
      (zk.lp (zk.wk ks f) (ks.getD i 0).toNat (i+1) (s.1.set i (63-(f:Int)),s.2)).1))
structure zk.TS (w W:World) (bc ba bw be ga ge:Nat) (Ap:Option Addr) (n cp ca ce:Nat) (s:List Int×List Int):Prop where
 hc:W.cell? ⟨bc,0,none⟩=some (.slice Ap n cp)
 ha:W.cell? ⟨ba,0,none⟩=some (.slice (some ⟨ga,0,none⟩) n ca)
 hw:W.cell? ⟨bw,0,none⟩=some (.func (.func 69) #[] #[.pointer (some ⟨bc,0,none⟩),.pointer (some ⟨ba,0,none⟩),.pointer (some ⟨bw,0,none⟩),.pointer (some ⟨be,0,none⟩)])
 he:W.cell? ⟨be,0,none⟩=some (.slice (some ⟨ge,0,none⟩) n ce)
 hB:∀ i,i<n→W.cell? ⟨ga,i,none⟩=some (.int .i64 (s.1.getD i 0))
 hE:∀ i,i<n→W.cell? ⟨ge,i,none⟩=some (.int .i64 (s.2.getD i 0))
 fB:∀ i,W.frozen? ⟨ga,i,none⟩=false
 fE:∀ i,W.frozen? ⟨ge,i,none⟩=false
 lB:s.1.length=n
 lE:s.2.length=n
 na:bc≠ga∧ba≠ga∧bw≠ga∧be≠ga∧ge≠ga∧bc≠ge∧ba≠ge∧bw≠ge∧be≠ge
 ga0:w.heap.size≤ga
 ge0:w.heap.size≤ge
 bel:Below w.heap.size w W
theorem zk.TS.setB {w W:World} {bc ba bw be ga ge:Nat} {Ap:Option Addr} {n cp ca ce:Nat} {s:List Int×List Int} (h:zk.TS w W bc ba bw be ga ge Ap n cp ca ce s) (i:Nat) (hi:i<n) (x:Int) :
  zk.TS w (W.setCell ⟨ga,i,none⟩ (.int .i64 x)) bc ba bw be ga ge Ap n cp ca ce (s.1.set i x,s.2):=by
 obtain ⟨n1,n2,n3,n4,n5,n6,n7,n8,n9⟩:=h.na
 have far:∀ b j,b≠ga→(W.setCell ⟨ga,i,none⟩ (.int .i64 x)).cell? ⟨b,j,none⟩=W.cell? ⟨b,j,none⟩:=fun b j hb=>World.cell?_setCell_other _ _ _ _ (fun e=>hb (by cases e;rfl))
 refine ⟨(far _ _ n1).trans h.hc,(far _ _ n2).trans h.ha,(far _ _ n3).trans h.hw,(far _ _ n4).trans h.he,fun j hj=>?_,fun j hj=>(far _ _ n5).trans (h.hE j hj),fun j=>by rw [World.frozen?_setCell];exact h.fB j,fun j=>by rw [World.frozen?_setCell];exact h.fE j,by simpa using h.lB,h.lE,h.na,h.ga0,h.ge0,h.bel.setCell (p:=⟨ga,i,none⟩) h.ga0 _⟩
 by_cases e:i=j
 ·subst e
  rw [World.cell?_setCell_same _ _ _ (h.hB i hi)]
  simp [List.getD,h.lB,hi]
 ·rw [World.cell?_setCell_other _ _ _ _ (fun q=>e (by cases q;rfl)),h.hB j hj]
  simp [List.getD,List.getElem?_set_ne e]
theorem zk.TS.setE {w W:World} {bc ba bw be ga ge:Nat} {Ap:Option Addr} {n cp ca ce:Nat} {s:List Int×List Int} (h:zk.TS w W bc ba bw be ga ge Ap n cp ca ce s) (i:Nat) (hi:i<n) (x:Int) :
  zk.TS w (W.setCell ⟨ge,i,none⟩ (.int .i64 x)) bc ba bw be ga ge Ap n cp ca ce (s.1,s.2.set i x):=by
 obtain ⟨n1,n2,n3,n4,n5,n6,n7,n8,n9⟩:=h.na
 have far:∀ b j,b≠ge→(W.setCell ⟨ge,i,none⟩ (.int .i64 x)).cell? ⟨b,j,none⟩=W.cell? ⟨b,j,none⟩:=fun b j hb=>World.cell?_setCell_other _ _ _ _ (fun e=>hb (by cases e;rfl))
 refine ⟨(far _ _ n6).trans h.hc,(far _ _ n7).trans h.ha,(far _ _ n8).trans h.hw,(far _ _ n9).trans h.he,fun j hj=>(far _ _ (Ne.symm n5)).trans (h.hB j hj),fun j hj=>?_,fun j=>by rw [World.frozen?_setCell];exact h.fB j,fun j=>by rw [World.frozen?_setCell];exact h.fE j,h.lB,by simpa using h.lE,h.na,h.ga0,h.ge0,h.bel.setCell (p:=⟨ge,i,none⟩) h.ge0 _⟩
 by_cases e:i=j
 ·subst e
  rw [World.cell?_setCell_same _ _ _ (h.hE i hi)]
  simp [List.getD,h.lE,hi]
 ·rw [World.cell?_setCell_other _ _ _ _ (fun q=>e (by cases q;rfl)),h.hE j hj]
  simp [List.getD,List.getElem?_set_ne e]
theorem zk.walk_calls (w:World) (Ap:Option Addr) (cp:Nat) (l:List S56) (hr:Kd.C k56 w Ap l.length l) (hn:l.length≤200) (hk:∀ p ∈ l,p.f6≤9223372036854775807) (bc ba bw be ga ge ca ce:Nat) :
  ∀ (f i:Nat) (W:World) (s:List Int×List Int),f≤64→zk.TS w W bc ba bw be ga ge Ap l.length cp ca ce s →
  Calls Tryz.prog 69 #[.int .i64 (i:Int),.int .i64 (64-(f:Int)),.pointer (some ⟨bc,0,none⟩),.pointer (some ⟨ba,0,none⟩),.pointer (some ⟨bw,0,none⟩),.pointer (some ⟨be,0,none⟩)] W fun e W' =>
   e=.returned (.int .i64 (zk.wk (l.map (·.f6)) f i s).1)∧zk.TS w W' bc ba bw be ga ge Ap l.length cp ca ce (zk.wk (l.map (·.f6)) f i s).2:=by
 intro f
 induction f with
 | zero =>
  intro i W s _ h
  have hc:=h.hc
  have H:=Ak h;clear h hr hk
  go_enter Tryz.func69,Tryz.ntmps69
  by_cases hi:l.length≤i
  ·have d1:decide ((l.length:Int)≤(i:Int))=true:=dt (by omega)
   have d2:((l.length:Int)≤(i:Int))=True:=eq_true (by omega)
   have d3:(l.length≤i)=True:=eq_true hi
   go_wp2
   go_ret
   exact ⟨rfl,H.out⟩
  ·have d1:decide ((l.length:Int)≤(i:Int))=false:=df (by omega)
   have d2:((l.length:Int)≤(i:Int))=False:=eq_false (by omega)
   have d3:(l.length≤i)=False:=eq_false hi
   go_wp2
   go_ret
   exact ⟨rfl,H.out⟩
 | succ f ih =>
  intro i W s hf h
  obtain ⟨d,hd⟩:∃ d:Int,d=63-(f:Int):=⟨_,rfl⟩
  have e0:(64-((f+1:Nat):Int))=d:=by omega
  have e1:(64-(f:Int))=d+1:=by omega
  rw [e0]
  rw [e1] at ih
  have d0:0≤d:=by omega
  have d63:d<64:=by omega
  by_cases hi:l.length≤i
  ·have hc:=h.hc
   have hwk:zk.wk (l.map (·.f6)) (f+1) i s=(-1,s):=by simp [zk.wk,hi]
   rw [hwk]
   have H:=Ak h;clear h hr hk ih hwk
   have t1:decide ((l.length:Int)≤(i:Int))=true:=dt (by omega)
   have t2:((l.length:Int)≤(i:Int))=True:=eq_true (by omega)
   have t3:(l.length≤i)=True:=eq_true hi
   go_enter Tryz.func69,Tryz.ntmps69
   go_wp2
   go_ret
   exact ⟨rfl,H.out⟩
  ·have hin:i<l.length:=by omega
   have h1:=h.setB i hin d
   obtain ⟨K,hK⟩:∃ K:Int,K=(zu l (i:Int)).f6:=⟨_,rfl⟩
   have hKb:K≤9223372036854775807:=by
    rw [hK]
    have:zu l (i:Int)=l[i]:=by simp [zu,List.getD,hin]
    rw [this]
    exact hk _ (List.getElem_mem hin)
   have hKd:(l.map (·.f6)).getD i 0=K:=by rw [hK];simp [zu,List.getD,hin]
   obtain ⟨R,hR⟩:∃ R,zk.lp (zk.wk (l.map (·.f6)) f) K.toNat (i+1) (s.1.set i d,s.2)=R:=⟨_,rfl⟩
   have hwk:zk.wk (l.map (·.f6)) (f+1) i s=if R.1<0 then (-1,R.2) else (R.1,(R.2.1,R.2.2.set i R.1)):=by
    rw [zk.wk,if_neg (by simpa using hin),hKd,← hd,hR]
   rw [hwk]
   clear hwk hKd
   obtain ⟨F,hF⟩:∃ F,(if R.1<0 then (-1,R.2) else (R.1,(R.2.1,R.2.2.set i R.1)))=F:=⟨_,rfl⟩
   rw [hF]
   have HFF:=Ak hF;clear hF
   obtain ⟨ad,eA,hx6⟩:∃ ad,Ap=some ad∧w.cell? ⟨(ad.add ((i:Int).toNat*10)).block,(ad.add ((i:Int).toNat*10)).off+6,none⟩=some (.int .i64 (zu l (i:Int)).f6):=by
    obtain ⟨ad,A3,c3,A4,c4,A5,c5,A8,c8,A9,c9,eA,_,_,_,_,_,_,hx6,_,_,_,_,_,_,_,_,_,_,_,_,_⟩:=Z5 hr (i:Int) (by omega) (by omega)
    exact ⟨ad,eA,hx6⟩
   subst eA
   rw [← hK] at hx6
   have hx6':=(h1.bel.cell (World.block_lt_of_cell? w _ hx6)).trans hx6
   simp only [Int.toNat_natCast] at hx6'
   have IH:=Ak ih;have H1:=Ak h1;have HR:=Ak hR
   have ga1:=h.ha
   have gc1:=h.hc
   have gB1:=h.hB i hin
   have gf1:=h.fB i
   have gc2:=h1.hc
   have ga2:=h1.ha
   have gw2:=h1.hw
   have ge2:=h1.he
   clear h h1 hr hk ih hx6 hR hK hd e0 e1
   have t8:(64≤d)=False:=eq_false (by omega)
   have t1:decide ((l.length:Int)≤(i:Int))=false:=df (by omega)
   have t2:((l.length:Int)≤(i:Int))=False:=eq_false (by omega)
   have t3:(l.length≤i)=False:=eq_false hi
   have t4:=dF (64≤d)
   have t5:((i:Int)<(l.length:Int))=True:=eq_true (by omega)
   have t6:(i<l.length)=True:=eq_true hin
   have t7:IntKind.i64.wrap ((i:Int)+1)=(i:Int)+1:=by rw [IntKind.wrap_i64];omega
   go_enter Tryz.func69,Tryz.ntmps69
   go_wp2
   go_loopg [9,31] K.toNat (fun kq v9 v31 W'=>∃ (a:Nat) (j:Int) (s':List Int×List Int),v9=.int .i64 (a:Int)∧v31=.int .i64 j∧zh (kq=(K-j).toNat∧0≤j∧(j≤K∨j=0))∧zh (zk.lp (zk.wk (l.map (·.f6)) f) kq a s'=R)∧zh (zk.TS w W' bc ba bw be ga ge (some ad) l.length cp ca ce s'))
   case atStart=>exact ⟨i+1,0,(s.1.set i d,s.2),(by first|rfl|(simp;done)),rfl,⟨by omega,Int.le_refl _,.inr rfl⟩,HR,H1⟩
   case round =>
    obtain ⟨a,j,s',rfl,rfl,HJ,HL,HT⟩:=hrel
    have hgk:=HJ.out.1
    have hj0:=HJ.out.2.1
    have h:=HT.out
    have hl:=HL.out
    clear HL HR HJ H1 gc1 ga1 gB1 gf1 gc2 ga2 gw2 ge2 hx6'
    by_cases hj:j<K
    ·obtain ⟨m,rfl⟩:∃ m,gk=m+1:=⟨gk-1,by omega⟩
     simp only [zk.lp] at hl
     have hcall:=IH.out a wr s' (by omega) h
     obtain ⟨q,hq⟩:∃ q,zk.wk (l.map (·.f6)) f a s'=q:=⟨_,rfl⟩
     rw [hq] at hl hcall
     have gw:=h.hw
     have HC:=Ak hcall
     have HM:zh (m=(K-(j+1)).toNat):=⟨by omega⟩
     have d1:=dt hj
     have d2:(j<K)=True:=eq_true hj
     have d3:IntKind.i64.wrap (j+1)=j+1:=by rw [IntKind.wrap_i64];omega
     have d4:IntKind.i64.wrap (d+1)=d+1:=by rw [IntKind.wrap_i64];omega
     have HJ:zh (0≤j+1∧(j+1≤K∨j+1=0)):=⟨by omega⟩
     clear hgk hj0 hcall HT h hq IH hj
     by_cases hq0:q.1<0
     ·rw [if_pos hq0] at hl
      have f1:=dt hq0
      have f2:(q.1<0)=True:=eq_true hq0
      have HL:=Ak hl;clear hl
      go_wp2_with (first|(go_at_call 69;refine HC.out.mono ?_;rintro e w4 ⟨rfl,h4⟩;have H4:=Ak h4;clear h4))
      go_ret
      have hF:=HFF.out
      rw [← HL.out,if_pos (show (-1:Int)<0 by decide)] at hF
      rw [← hF]
      exact ⟨rfl,H4.out⟩
     ·rw [if_neg hq0] at hl
      have f1:=df hq0
      have f2:(q.1<0)=False:=eq_false hq0
      have HL:=Ak hl
      have HQ:zh (q.1=(q.1.toNat:Int)):=⟨by omega⟩
      clear hl
      go_wp2_with (first|(go_at_call 69;refine HC.out.mono ?_;rintro e w4 ⟨rfl,h4⟩;have H4:=Ak h4;clear h4))
      go_roundg m
      case measure=>omega
      case rel=>exact ⟨q.1.toNat,j+1,q.2,by rw [← HQ.out],rfl,⟨HM.out,HJ.out⟩,HL,H4⟩
    ·obtain rfl:gk=0:=by omega
     simp only [zk.lp] at hl
     subst hl
     have d1:=df hj
     have d2:(j<K)=False:=eq_false hj
     have ge:=h.he
     have gE:=h.hE i hin
     have gF:=h.fE i
     have HF:=Ak (h.setE i hin (a:Int))
     have ha0:((a:Int)<0)=False:=eq_false (by omega)
     clear hgk hj0 HT h IH hj
     have hFF:=HFF.out
     rw [if_neg (show ¬ ((a:Int)<0) by omega)] at hFF
     clear HFF
     subst hFF
     go_wp2
     go_ret
     exact ⟨rfl,HF.out⟩
section
open Go.Shelf Go.Proofs.YtiekodnojmkfaaaGreatDoorRange
attribute [local go_sem] Oper.semAt_some
theorem zk.TS.drewN {w W:World} {bc ba bw be ga ge:Nat} {Ap:Option Addr} {n cp ca ce:Nat} {s:List Int×List Int} (h:zk.TS w W bc ba bw be ga ge Ap n cp ca ce s) (m:Nat):zk.TS w (W.drewN m) bc ba bw be ga ge Ap n cp ca ce s :=
 ⟨by simpa using h.hc,by simpa using h.ha,by simpa using h.hw,by simpa using h.he,fun i hi=>by simpa using h.hB i hi,fun i hi=>by simpa using h.hE i hi,fun i=>by simpa using h.fB i,fun i=>by simpa using h.fE i,h.lB,h.lE,h.na,h.ga0,h.ge0,zJ h.bel m⟩
theorem zk.TS.drew {w W:World} {bc ba bw be ga ge:Nat} {Ap:Option Addr} {n cp ca ce:Nat} {s:List Int×List Int} (h:zk.TS w W bc ba bw be ga ge Ap n cp ca ce s):zk.TS w W.drew bc ba bw be ga ge Ap n cp ca ce s :=
 ⟨by simpa using h.hc,by simpa using h.ha,by simpa using h.hw,by simpa using h.he,fun i hi=>by simpa using h.hB i hi,fun i hi=>by simpa using h.hE i hi,fun i=>by simpa using h.fB i,fun i=>by simpa using h.fE i,h.lB,h.lE,h.na,h.ga0,h.ge0,zO h.bel⟩
def zk.all (s:List Int×List Int) (k:Nat):List (Int×Int×Int):=(List.range k).map fun (i:Nat)=>((i:Int),s.1.getD i 0,s.2.getD i 0)
theorem zk.all_succ (s:List Int×List Int) (k:Nat):zk.all s (k+1)=zk.all s k++[((k:Int),s.1.getD k 0,s.2.getD k 0)]:=by simp [zk.all,List.range_succ]
theorem zk.all_length (s:List Int×List Int) (k:Nat):(zk.all s k).length=k:=by simp [zk.all]
theorem zk.all_prefix (s:List Int×List Int) {k n:Nat} (h:k<n):zk.all s (k+1) <+: zk.all s n:=by
 unfold zk.all
 have e:List.range n=List.range (k+1)++(List.range (n-(k+1))).map (k+1+·):=by
  rw [← List.range_add,show k+1+(n-(k+1))=n by omega]
 rw [e,List.map_append]
 exact List.prefix_append _ _
def zk.fin (ks:List Int):Int×(List Int×List Int):=zk.wk ks 64 0 (List.replicate ks.length 0,List.replicate ks.length 0)
def zk.come (ks:List Int):List (Int×Int×Int):=if (zk.fin ks).1=(ks.length:Int) then zk.all (zk.fin ks).2 ks.length else []
def zk.enc3 (x:Int×Int×Int):Array Value:=#[.int .i64 x.1,.agg #[.int .i64 x.2.1,.int .i64 x.2.2]]
theorem zk.named {F:Fence} {n:Nat} {P:Program} {c:Code} {Q:Exit→Act→World→Prop} {a:Act} {w:World} (h:∀ W5,w=W5→c.wpIn F n P Q a W5):c.wpIn F n P Q a w:=h w rfl
structure zk.RS (W:World) (ba be ga ge n ca ce:Nat) (s:List Int×List Int):Prop where
 ha:W.cell? ⟨ba,0,none⟩=some (.slice (some ⟨ga,0,none⟩) n ca)
 he:W.cell? ⟨be,0,none⟩=some (.slice (some ⟨ge,0,none⟩) n ce)
 hB:∀ i,i<n→W.cell? ⟨ga,i,none⟩=some (.int .i64 (s.1.getD i 0))
 hE:∀ i,i<n→W.cell? ⟨ge,i,none⟩=some (.int .i64 (s.2.getD i 0))
def zk.Kp (B:Nat) (A C:World):Prop:=∀ (p:Addr) (u:Value),B≤p.block→A.cell? p=some u→C.cell? p=some u
theorem zk.RS.kp {W W':World} {B0 ba be ga ge n ca ce:Nat} {s:List Int×List Int} (h:zk.RS W ba be ga ge n ca ce s) (hk:zk.Kp B0 W.drew W') (h1:B0≤ba) (h2:B0≤be) (h3:B0≤ga) (h4:B0≤ge):zk.RS W' ba be ga ge n ca ce s :=
 ⟨hk _ _ h1 h.ha,hk _ _ h2 h.he,fun i hi=>hk _ _ h3 (h.hB i hi),fun i hi=>hk _ _ h4 (h.hE i hi)⟩
theorem zk.tree_calls (l:Nat) (B0:Nat) (Ap:Option Addr) (cp:Nat) (ps:List S56) (J Jx:List (Int×Int×Int)→World→Prop) (W:World) (hB0:B0≤W.heap.size) (hr:Kd.C k56 W Ap ps.length ps) (hn:ps.length≤200) (hk:∀ p ∈ ps,p.f6≤9223372036854775807) (n:Nat) (hn3:3≤n)
  (hJ:AbidesFrom W.heap.size J)
  (hY:∀ pre x W1,J pre W1→pre.length<ps.length→YieldAt Fence.wide (n-1) Tryz.prog l (zk.enc3 x) W1 fun e W' =>
   (e=.returned (.bool true)∧J (pre++[x]) W'∧zk.Kp B0 W1 W')∨(e=.returned (.bool false)∧Jx (pre++[x]) W'))
  (h0:J [] W) :
  CallsIn Fence.wide n Tryz.prog 37 #[.agg #[.slice Ap ps.length cp],.func (.yield l) #[] #[]] W fun e W'=>(∃ v,e=.returned v) ∧
   ((∃ xs,xs=zk.come (ps.map (·.f6))∧J xs W')∨(∃ pre,pre <+: zk.come (ps.map (·.f6))∧Jx pre W')):=by
 have hu29:=Tryz.underlying25
 have hmk:∀ W:World,(Instr.makeSlice 53 (.int .i64 (ps.length:Int)) (.int .i64 (ps.length:Int))).run Tryz.prog W=.ok (.slice (some ⟨W.heap.size,0,none⟩) ps.length ps.length) (W.alloc (.cells (madeCells #[.int .i64 0] ps.length) 3)):=print_make 53 3 .i64 8 Tryz.underlying53 (by kernel_rfl) (by decide) ps.length (by omega)
 have HR:=Ak hr;have HK:=Ak hk;have HJ:=Ak hJ;have HY:=Ak hY;have H0:=Ak h0;clear hr hk hJ hY h0
 refine callsIn_of_wp Tryz.func37 rfl trivial ?_ rfl
 simp only [Tryz.ntmps37,List.size_toArray,List.length_cons,List.length_nil,Nat.reduceAdd,Nat.reduceSub,Array.replicate_succ,Array.replicate_zero,List.push_toArray,List.append_toArray,List.nil_append,List.cons_append]
 gi_wp2
 refine zk.named fun W5 hW5=>?_
 have hT:zk.TS W W5 W.heap.size (W.heap.size+1+1+1+1) (W.heap.size+1+1+1+1+1) (W.heap.size+1+1) (W.heap.size+1+1+1) (W.heap.size+1) Ap ps.length cp ps.length ps.length (List.replicate ps.length 0,List.replicate ps.length 0):=by
  subst hW5
  have new:∀ (V:World) (o:Obj) (k:Nat),k=V.heap.size→(V.alloc o).heap[k]?=some o:=fun V o k e=>by rw [e];exact World.alloc_heap_new V o
  have old:∀ (V:World) (o x:Obj) (k:Nat),V.heap[k]?=some x→(V.alloc o).heap[k]?=some x:=fun V o x k h=>(Below.heap_alloc _ _ _ (Array.getElem?_eq_some_iff.1 h).1).trans h
  have zero:∀ i,i<ps.length→(madeCells #[.int .i64 0] ps.length)[i]?=some (.int .i64 ((List.replicate ps.length (0:Int)).getD i 0)):=by
   intro i hi
   rw [← Array.getElem?_toList,toList_madeCells_one]
   simp [List.getD,hi]
  refine ⟨(zi (old _ _ _ _ (old _ _ _ _ (old _ _ _ _ (old _ _ _ _ (old _ _ _ _ (new _ _ _ rfl)))))) 0).trans rfl,(zi (old _ _ _ _ (new _ _ _ (by simp))) 0).trans rfl,(zi (new _ _ _ (by simp)) 0).trans rfl,(zi (old _ _ _ _ (old _ _ _ _ (old _ _ _ _ (new _ _ _ (by simp))))) 0).trans rfl,
   fun i hi=>(zi (old _ _ _ _ (old _ _ _ _ (new _ _ _ (by simp)))) i).trans (zero i hi),fun i hi=>(zi (old _ _ _ _ (old _ _ _ _ (old _ _ _ _ (old _ _ _ _ (new _ _ _ (by simp)))))) i).trans (zero i hi),
   fun i=>zn (old _ _ _ _ (old _ _ _ _ (new _ _ _ (by simp)))) i,fun i=>zn (old _ _ _ _ (old _ _ _ _ (old _ _ _ _ (old _ _ _ _ (new _ _ _ (by simp)))))) i,by simp,by simp,by omega,by omega,by omega,?_⟩
  exact ((((((Below.refl W.heap.size W).alloc (Nat.le_refl _) _).alloc (by simp) _).alloc (by simp;omega) _).alloc (by simp;omega) _).alloc (by simp;omega) _).alloc (by simp;omega) _
 clear hW5
 have hw0:=zk.walk_calls W Ap cp ps HR.out hn HK.out W.heap.size (W.heap.size+1+1+1+1) (W.heap.size+1+1+1+1+1) (W.heap.size+1+1) (W.heap.size+1+1+1) (W.heap.size+1) ps.length ps.length 64 0
 have hw0:=fun V hV=>hw0 V (List.replicate ps.length 0,List.replicate ps.length 0) (Nat.le_refl _) hV
 obtain ⟨R,hR⟩:∃ R,zk.fin (ps.map (·.f6))=R:=⟨_,rfl⟩
 have hfin:zk.wk (ps.map (·.f6)) 64 0 (List.replicate ps.length 0,List.replicate ps.length 0)=R:=by rw [← hR,zk.fin,List.length_map]
 simp only [hfin] at hw0
 have HW:zh (∀ V,zk.TS W V W.heap.size (W.heap.size+1+1+1+1) (W.heap.size+1+1+1+1+1) (W.heap.size+1+1) (W.heap.size+1+1+1) (W.heap.size+1) Ap ps.length cp ps.length ps.length (List.replicate ps.length 0,List.replicate ps.length 0)→Calls Tryz.prog 69 #[.int .i64 0,.int .i64 0,.pointer (some ⟨W.heap.size,0,none⟩),.pointer (some ⟨W.heap.size+1+1+1+1,0,none⟩),.pointer (some ⟨W.heap.size+1+1+1+1+1,0,none⟩),.pointer (some ⟨W.heap.size+1+1,0,none⟩)] V fun e W' =>
   e=.returned (.int .i64 R.1)∧zk.TS W W' W.heap.size (W.heap.size+1+1+1+1) (W.heap.size+1+1+1+1+1) (W.heap.size+1+1) (W.heap.size+1+1+1) (W.heap.size+1) Ap ps.length cp ps.length ps.length R.2):=⟨hw0⟩
 have hc5:=hT.hc
 have hw5:=hT.hw
 have HT:=Ak hT;clear hw0 hfin hT;have HRR:=Ak hR;clear hR
 have JG:Tryz.prog.follows .mixedOrders=true:=by kernel_rfl
 gi_region_with_o ((refine ⟨trivial,fun _=>by omega,?_⟩;refine (callsIn_wide.2 (HW.out _ (by repeat (first|exact HT.out|apply zk.TS.drew|apply zk.TS.drewN)))).mono ?_;rintro e w6 ⟨rfl,h6⟩;have H6:=Ak h6;have hc6:=h6.hc;clear h6))
 all_goals (
  have h6:=H6.out
  have hR:=HRR.out
  have hJ:=HJ.out
  have hgrow:W.grownBy w6 none:=Yg h6.bel none
  have hJ6:J [] w6:=hJ [] W w6 none H0.out hgrow (fun r e=>by cases e)
  have hJ6':=Ak hJ6
  clear hJ hgrow hJ6 HT HW H0
  by_cases hRn:R.1=(ps.length:Int)
  ·have d1:=bT hRn
   have d2:=nF hRn
   have d3:(R.1=(ps.length:Int))=True:=eq_true hRn
   have HS:zh (zk.RS w6 (W.heap.size+1+1+1+1) (W.heap.size+1+1) (W.heap.size+1+1+1) (W.heap.size+1) ps.length ps.length ps.length R.2):=⟨⟨h6.ha,h6.he,h6.hB,h6.hE⟩⟩
   have HCM:zh (zk.come (ps.map (·.f6))=zk.all R.2 ps.length):=⟨by rw [zk.come,hR,List.length_map,if_pos hRn]⟩
   clear h6 hR H6 HR hc5 hw5 HRR
   gi_wp2
   clear d1 d2 d3 hRn hc6
   gi_loopw [26] (fun i wr=>∃ k:Nat,k≤ps.length∧i=.int .i64 k∧zh (J (zk.all R.2 k) wr)∧zh (zk.RS wr (W.heap.size+1+1+1+1) (W.heap.size+1+1) (W.heap.size+1+1+1) (W.heap.size+1) ps.length ps.length ps.length R.2)) (fun i _=>ps.length-(intOf i).toNat)
   case atStart=>exact ⟨0,Nat.zero_le _,rfl,⟨by simpa [zk.all] using hJ6'.out⟩,HS⟩
   case round =>
    obtain ⟨k,hk,rfl,HJs,HSr⟩:=hrel
    clear HS hJ6'
    by_cases hlt:k<ps.length
    ·have q1:=HSr.out.ha
     have q2:=HSr.out.he
     have q3:=HSr.out.hB k hlt
     have q4:=HSr.out.hE k hlt
     have t1:decide ((k:Int)<(ps.length:Int))=true:=dt (by omega)
     have t2:((k:Int)<(ps.length:Int))=True:=eq_true (by omega)
     have t3:(k<ps.length)=True:=eq_true hlt
     have hJd:J (zk.all R.2 k) wr.drew:=HJ.out _ wr wr.drew none HJs.out (Yg (zO (Below.refl _ _)) none) (fun r e=>by cases e)
     obtain ⟨fn,tmps,assign,body,hy,hround⟩:=HY.out _ ((k:Int),R.2.1.getD k 0,R.2.2.getD k 0) wr.drew hJd (by rw [zk.all_length];exact hlt)
     simp only [zk.enc3,List.getD_eq_getElem?_getD] at hy
     have HRD:=Ak hround;clear hround hJd
     gi_wp2
     gi_region_with_o ((refine ⟨fun _=>by omega,HRD.out.mono ?_⟩;rintro e W' hr;obtain ⟨b,rfl,hb⟩:∃ b,e=.returned (.bool b)∧zh ((b=true∧J (zk.all R.2 k++[((k:Int),R.2.1.getD k 0,R.2.2.getD k 0)]) W'∧zk.Kp B0 wr.drew W')∨(b=false∧Jx (zk.all R.2 k++[((k:Int),R.2.1.getD k 0,R.2.2.getD k 0)]) W')):=(hr.elim (fun h=>⟨true,h.1,⟨.inl ⟨rfl,h.2⟩⟩⟩) (fun h=>⟨false,h.1,⟨.inr ⟨rfl,h.2⟩⟩⟩));clear hr))
     all_goals (
      cases b
      ·obtain ⟨_,hJx⟩:false=false∧Jx (zk.all R.2 k++[((k:Int),R.2.1.getD k 0,R.2.2.getD k 0)]) W':=hb.out.elim (fun h=>by cases h.1) (fun h=>h)
       have HJX:=Ak hJx;clear hb hJx
       gi_wp2
       refine bodyPost_ret (results_none rfl _ _ _) rfl ?_
       exact ⟨⟨_,rfl⟩,.inr ⟨_,by rw [HCM.out,← zk.all_succ];exact zk.all_prefix _ hlt,HJX.out⟩⟩
      ·obtain ⟨_,hJt,hKp⟩:true=true∧J (zk.all R.2 k++[((k:Int),R.2.1.getD k 0,R.2.2.getD k 0)]) W'∧zk.Kp B0 wr.drew W':=hb.out.elim (fun h=>h) (fun h=>by cases h.1)
       rw [← zk.all_succ] at hJt
       have HJT:=Ak hJt
       have HRS:=Ak (HSr.out.kp hKp (by omega) (by omega) (by omega) (by omega))
       have t4:IntKind.i64.wrap ((k:Int)+1)=(k:Int)+1:=by rw [IntKind.wrap_i64];omega
       clear hb hJt hKp
       gi_wp2
       go_roundw
       case rel=>exact ⟨k+1,by omega,by simp,HJT,HRS⟩
       case measure=>simp [intOf];omega)
    ·obtain rfl:k=ps.length:=by omega
     gi_wp2
     go_end0
     exact ⟨⟨_,rfl⟩,.inl ⟨_,HCM.out.symm,HJs.out⟩⟩
  ·have d1:=bF hRn
   have d2:=nT hRn
   have d3:(R.1=(ps.length:Int))=False:=eq_false hRn
   have hcm:zk.come (ps.map (·.f6))=[]:=by rw [zk.come,hR,List.length_map,if_neg hRn]
   clear h6 hR
   gi_wp2
   refine bodyPost_ret (results_none rfl _ _ _) rfl ?_
   exact ⟨⟨_,rfl⟩,.inl ⟨[],hcm.symm,hJ6'.out⟩⟩)
def zk.goods:List S56→Option Bool
 | []=>some true
 | p::ps=>(zo.f p.f0 p.f1 p.f2 p.f3 p.f4 p.f5 p.f6 p.f7 p.f8 p.f9).bind fun b=>if b=true then zk.goods ps else some false
def zk.small (l:List S56):Bool:=l.all fun p=>decide (p.f6≤9223372036854775807)
def zk.f (l:List S56):Option Bool :=
 if l.length<1∨200<l.length then some false else
  if zk.small l=true then (zk.goods l).bind fun b=>if b=true then some (decide ((zk.come (l.map (·.f6))).length=l.length)) else some false else none
theorem zk.goods_drop (l:List S56) {k:Nat} (hk:k<l.length):zk.goods (l.drop k)=(zo.f (zu l (k:Int)).f0 (zu l (k:Int)).f1 (zu l (k:Int)).f2 (zu l (k:Int)).f3 (zu l (k:Int)).f4 (zu l (k:Int)).f5 (zu l (k:Int)).f6 (zu l (k:Int)).f7 (zu l (k:Int)).f8 (zu l (k:Int)).f9).bind fun b=>if b=true then zk.goods (l.drop (k+1)) else some false:=by
 have e:zu l (k:Int)=l[k]:=by simp [zu,List.getD,hk]
 rw [e,List.drop_eq_getElem_cons hk]
 rfl
theorem zk.calls (ZX:Option Addr) (ZA:Nat) (zV:List (S56)) (r:Bool) (w:World) (Jg:Kd.C k56 w ZX zV.length zV) (Jy:zV.length≤ZA) (h:zk.f zV=some r) :
  Calls Tryz.prog 8 #[.agg #[.slice ZX zV.length ZA]] w fun e w'=>e=.returned (.bool r)∧Below w.heap.size w w':=by
 have hu29:=Tryz.underlying25
 have hu44:=Tryz.underlying56
 have hw1:zQ.f (zV.length:Int) 1 200=some (decide (1≤zV.length∧zV.length≤200)):=by
  unfold zQ.f
  by_cases h1:1≤zV.length
  ·rw [if_pos (by omega)]
   congr 1
   rw [decide_eq_decide]
   omega
  ·rw [if_neg (by omega)]
   congr 1
   symm
   exact df (by omega)
 refine (callsIn_wide (n:=6)).1 ?_
 by_cases hlen:1≤zV.length∧zV.length≤200
 ·have d1:=dt hlen
  rw [d1] at hw1
  have HW1:=Ak hw1;have HR:=Ak Jg;have HC:=Ak Jy;have HH:=Ak h;have HL:=Ak hlen;clear hw1 d1 Jg Jy h hlen
  obtain ⟨hsm,b,hb,hbr⟩:zk.small zV=true∧∃ b,zk.goods zV=some b∧(if b=true then some (decide ((zk.come (zV.map (·.f6))).length=zV.length)) else some false)=some r:=by
   have h:=HH.out
   rw [zk.f,if_neg (by have:=HL.out;omega)] at h
   by_cases hs:zk.small zV=true
   ·rw [if_pos hs] at h
    obtain ⟨b,hb,hbr⟩:=Option.bind_eq_some_iff.1 h
    exact ⟨hs,b,hb,hbr⟩
   ·rw [if_neg hs] at h
    cases h
  have HSM:=Ak hsm;have HG:=Ak hb;have HBR:=Ak hbr;clear HH hsm hb hbr
  refine callsIn_of_wp_marks Tryz.func8 rfl trivial ?_ rfl
  simp only [Tryz.ntmps8,List.size_toArray,List.length_cons,List.length_nil,Nat.reduceAdd,Nat.reduceSub,Array.replicate_succ,Array.replicate_zero,List.push_toArray,List.append_toArray,List.nil_append,List.cons_append]
  have HB0:zh (Below w.heap.size w (w.alloc (.cells #[.slice ZX zV.length ZA] 25))):=⟨(Below.refl _ w).alloc (Nat.le_refl _) _⟩
  have hc0:(w.alloc (.cells #[.slice ZX zV.length ZA] 25)).cell? ⟨w.heap.size,0,none⟩=some (.slice ZX zV.length ZA):=(zi (World.alloc_heap_new w _) 0).trans rfl
  have HC0:=Ak hc0;clear hc0
  gi_wp2_with (refine ⟨trivial,?_⟩;gi_at_call 35;refine (callsIn_wide.2 (zQ.calls _ _ _ _ _ HW1.out)).mono ?_;rintro e w1 ⟨rfl,hd⟩;have HB1:zh (Below (w.heap.size+1) (w.alloc (.cells #[.slice ZX zV.length ZA] 25)) w1):=⟨by have:=hd.below;simpa using this⟩;have hc1:w1.cell? ⟨w.heap.size,0,none⟩=some (.slice ZX zV.length ZA):=(HB1.out.cell (p:=⟨w.heap.size,0,none⟩) (by simp)).trans HC0.out;clear hd)
  clear hc1
  gi_loopw [14] (fun i wr=>∃ k:Nat,k≤zV.length∧i=.int .i64 k∧zh (zk.goods (zV.drop k)=some b)∧zh (Below (w.heap.size+1) (w.alloc (.cells #[.slice ZX zV.length ZA] 25)) wr)) (fun i _=>zV.length-(intOf i).toNat)
  case atStart=>exact ⟨0,Nat.zero_le _,rfl,by simpa using HG,HB1⟩
  case round =>
   obtain ⟨k,hk,rfl,HGk,HBk⟩:=hrel
   clear HG HB1
   by_cases hlt:k<zV.length
   ·have hg:=HGk.out
    rw [zk.goods_drop _ hlt] at hg
    obtain ⟨t,ht,hgt⟩:=Option.bind_eq_some_iff.1 hg
    clear hg HGk
    have HBw:zh (Below w.heap.size w wr):=⟨HB0.out.trans (HBk.out.mono (by omega))⟩
    obtain ⟨ad,A3,c3,A4,c4,A5,c5,A8,c8,A9,c9,rfl,x0,x1,x2,x3,x4,x5,x6,x7,x8,x9,l3,g3,l4,g4,l5,g5,l8,g8,l9,g9⟩:=Z5 (Kd.zY HR.out HBw.out) (k:Int) (by omega) (by omega)
    simp only [Int.toNat_natCast] at x0 x1 x2 x3 x4 x5 x6 x7 x8 x9
    have t1:decide ((k:Int)<(zV.length:Int))=true:=dt (by omega)
    have t2:((k:Int)<(zV.length:Int))=True:=eq_true (by omega)
    have t3:(k<zV.length)=True:=eq_true hlt
    have HT:=Ak ht;have HGT:=Ak hgt;have G3:=Ak g3;have G4:=Ak g4;have G5:=Ak g5;have G8:=Ak g8;have G9:=Ak g9;clear ht hgt g3 g4 g5 g8 g9
    obtain ⟨p,hp⟩:∃ p,zu zV (k:Int)=p:=⟨_,rfl⟩
    rw [hp] at x0 x1 x2 x3 x4 x5 x6 x7 x8 x9 l3 l4 l5 l8 l9 HT G3 G4 G5 G8 G9
    clear hp
    cases t
    ·have hb:b=false:=by have h:=HGT.out;simp at h;exact h
     subst hb
     have hr:r=false:=by have h:=HBR.out;simp at h;exact h
     subst hr
     gi_wp2_with (refine ⟨trivial,?_⟩;gi_at_call 36;refine (callsIn_wide.2 (zo.calls _ _ _ _ _ _ _ _ _ _ _ _ _ _ _ _ _ _ _ _ false _ (Kd.zY G3.out ((Below.refl _ _).alloc (Nat.le_refl _) _)) l3 (Kd.zY G4.out ((Below.refl _ _).alloc (Nat.le_refl _) _)) l4 (Kd.zY G5.out ((Below.refl _ _).alloc (Nat.le_refl _) _)) l5 (Kd.zY G8.out ((Below.refl _ _).alloc (Nat.le_refl _) _)) l8 (Kd.zY G9.out ((Below.refl _ _).alloc (Nat.le_refl _) _)) l9 HT.out)).mono ?_;rintro e w2 ⟨rfl,hd⟩;have HB2:zh (Below w.heap.size w w2):=⟨(HBw.out.alloc (by have:=HBw.out.size;omega) _).trans (hd.mono (by have:=HBw.out.size;simp;omega))⟩;clear hd)
     exact ⟨_,results_tmp rfl _ _ _,rfl,HB2.out⟩
    ·have hg2:zk.goods (zV.drop (k+1))=some b:=by have h:=HGT.out;simpa using h
     have HG2:=Ak hg2
     have t4:IntKind.i64.wrap ((k:Int)+1)=(k:Int)+1:=by rw [IntKind.wrap_i64];have:=HL.out;omega
     clear hg2 HGT
     gi_wp2_with (refine ⟨trivial,?_⟩;gi_at_call 36;refine (callsIn_wide.2 (zo.calls _ _ _ _ _ _ _ _ _ _ _ _ _ _ _ _ _ _ _ _ true _ (Kd.zY G3.out ((Below.refl _ _).alloc (Nat.le_refl _) _)) l3 (Kd.zY G4.out ((Below.refl _ _).alloc (Nat.le_refl _) _)) l4 (Kd.zY G5.out ((Below.refl _ _).alloc (Nat.le_refl _) _)) l5 (Kd.zY G8.out ((Below.refl _ _).alloc (Nat.le_refl _) _)) l8 (Kd.zY G9.out ((Below.refl _ _).alloc (Nat.le_refl _) _)) l9 HT.out)).mono ?_;rintro e w2 ⟨rfl,hd⟩;have HB2:zh (Below (w.heap.size+1) (w.alloc (.cells #[.slice (some ad) zV.length ZA] 25)) w2):=⟨(HBk.out.alloc (by have:=HBk.out.size;simp at this;omega) _).trans (hd.mono (by have:=HBk.out.size;simp at this ⊢;omega))⟩;clear hd)
     go_roundw
     case rel=>exact ⟨k+1,by omega,by simp,HG2,HB2⟩
     case measure=>simp [intOf];omega
   ·obtain rfl:k=zV.length:=by omega
    have hb:b=true:=by have h:=HGk.out;rw [List.drop_length] at h;exact (Option.some.inj h).symm
    subst hb
    have hr:r=decide ((zk.come (zV.map (·.f6))).length=zV.length):=by have h:=HBR.out;simp only [if_true,Option.some.injEq] at h;exact h.symm
    have HRR:=Ak hr
    have hc1:wr.cell? ⟨w.heap.size,0,none⟩=some (.slice ZX zV.length ZA):=(HBk.out.cell (p:=⟨w.heap.size,0,none⟩) (by simp)).trans HC0.out
    have t1:decide ((zV.length:Int)<(zV.length:Int))=false:=df (by omega)
    have hc2:(wr.alloc (.cells #[.int .i64 0] 3)).cell? ⟨w.heap.size,0,none⟩=some (.slice ZX zV.length ZA):=cell_kept hc1 (World.grownBy_alloc wr _ none) (fun r e=>by cases e)
    have HBn:zh (Below (w.heap.size+1) (w.alloc (.cells #[.slice ZX zV.length ZA] 25)) (wr.alloc (.cells #[.int .i64 0] 3))):=⟨HBk.out.alloc (by have:=HBk.out.size;simp at this;omega) _⟩
    have HN:zh (w.heap.size+1≤wr.heap.size):=⟨by have:=HBk.out.size;simp at this;omega⟩
    clear HBR hr HGk
    gi_wp2
    refine range_bound (gf:=37) (bd:=#[.agg #[.slice ZX zV.length ZA]]) (encs:=zk.enc3) (Kp:=zk.Kp (wr.heap.size+1)) (S:=fun xs=>xs=zk.come (zV.map (·.f6))) (Sp:=fun pre=>pre <+: zk.come (zV.map (·.f6))) (N:=zV.length) (w0:=wr.alloc (.cells #[.int .i64 0] 3)) rfl (by omega) rfl trivial (enters_of Tryz.func37 (by kernel_rfl) rfl)
     (fun l J Jx W hW hJ hJx hY h0=>zk.tree_calls l (wr.heap.size+1) ZX ZA zV J Jx W (by have:=hW.size;simpa using this) (Kd.zY HR.out ((HB0.out.trans (HBn.out.mono (by omega))).trans (hW.mono (by have:=HN.out;simp;omega)))) HL.out.2 (fun p hp=>by have h:=List.all_eq_true.1 HSM.out p hp;simpa using h) 5 (by omega) hJ hY h0)
     (fun h1 h2 p u hp hu=>h2 p u hp (h1 p u hp hu)) (fun W l o o' hl ho hc _ p u hp hu=>cell_kept hu (grownBy_putObj' W l o') (fun r e=>by cases e;exact ⟨o,ho,hc⟩)) (Below.refl _ _) (fun _=>rfl)
     (fun pre W=>Boxed W wr.heap.size 3 (.int .i64 (pre.length:Int))∧Below (w.heap.size+1) (w.alloc (.cells #[.slice ZX zV.length ZA] 25)) W) (fun _ _ _=>False)
     (OwnFrom.and (Own.from (boxed_own wr.heap.size 3 (fun pre:List (Int×Int×Int)=>.int .i64 (pre.length:Int))) _) (ownFrom_below (by simp) (by have:=HN.out;simp;omega))) (fun _ _ _ _ _ hs _ _=>hs) ⟨Boxed.new wr 3 _,HBn.out⟩
     (fun x=>{ tmps:=#[.agg #[.slice ZX zV.length ZA],.pointer (some ⟨w.heap.size,0,none⟩),u2,undef,u4,.pointer (some ⟨wr.heap.size,0,none⟩),.pointer (some ⟨w.heap.size,0,none⟩),.slice ZX zV.length ZA,.int .i64 (zV.length:Int),.bool true,.bool false,.pointer (some ⟨w.heap.size,0,none⟩),.slice ZX zV.length ZA,.int .i64 (zV.length:Int),.int .i64 (zV.length:Int),.bool false,u16,u17,u18,u19,u20,u21,.agg #[.slice ZX zV.length ZA],.func (.func 37) #[.agg #[.slice ZX zV.length ZA]] #[],.int .i64 x.1,.agg #[.int .i64 x.2.1,.int .i64 x.2.2],undef,undef,undef,undef,undef,undef,undef],defers:=[] }) ?assign ?body ?done ?stop
    case assign =>
     intro l x W K hK
     simp only [zk.enc3]
     gi_wp2
     exact hK
    case body =>
     rintro l pre x W ⟨hbx,hB⟩ hlen
     have hc:=hbx.cell
     have hf:=hbx.frozen
     have t4:IntKind.i64.wrap ((pre.length:Int)+1)=(pre.length:Int)+1:=by rw [IntKind.wrap_i64];have:=HL.out;omega
     gi_wp2
     exact ⟨KeepsOthers.setCell _ _ _,fun p u hp hu=>by rw [World.cell?_setCell_other _ _ _ _ (fun e=>by cases e;simp at hp;omega)];exact hu,by have h:=hbx.set (.int .i64 ((pre.length:Int)+1));simpa using h,hB.setCell (p:=⟨wr.heap.size,0,none⟩) HN.out _⟩
    case done =>
     rintro D xs W hD rfl ⟨hbx,hB⟩ hK
     have hc:=hbx.cell
     have hc3:W.cell? ⟨w.heap.size,0,none⟩=some (.slice ZX zV.length ZA):=(hB.cell (p:=⟨w.heap.size,0,none⟩) (by simp)).trans HC0.out
     gi_wp2
     refine ⟨by simp,.inl ⟨_,_,rfl,run_takeDeferred hK,?_⟩⟩
     refine ⟨_,results_tmp rfl _ _ _,?_,(HB0.out.trans (hB.mono (by omega))).trans (belowK_b (w:=w) (Nat.le_refl _) W D _ _ (by have:=HN.out;simp at hD;omega) hK rfl rfl)⟩
     have e:(((zk.come (zV.map (·.f6))).length:Int) == (zV.length:Int))=r:=by rw [HRR.out,Bool.eq_iff_iff,beq_iff_eq,decide_eq_true_iff];omega
     show Ending.returned (.bool (((zk.come (zV.map (·.f6))).length:Int) == (zV.length:Int)))=_
     rw [e]
    case stop =>
     rintro D c pre W _ _ h _
     exact h.elim
 ·have d1:=df hlen
  rw [d1] at hw1
  have hr:r=false:=by
   rw [zk.f,if_pos (by omega)] at h
   simpa using h.symm
  subst hr
  have HW1:=Ak hw1;clear hw1 d1 Jg Jy h hlen
  refine callsIn_of_wp_marks Tryz.func8 rfl trivial ?_ rfl
  simp only [Tryz.ntmps8,List.size_toArray,List.length_cons,List.length_nil,Nat.reduceAdd,Nat.reduceSub,Array.replicate_succ,Array.replicate_zero,List.push_toArray,List.append_toArray,List.nil_append,List.cons_append]
  have HB0:zh (Below w.heap.size w (w.alloc (.cells #[.slice ZX zV.length ZA] 25))):=⟨(Below.refl _ w).alloc (Nat.le_refl _) _⟩
  gi_wp2_with (refine ⟨trivial,?_⟩;gi_at_call 35;refine (callsIn_wide.2 (zQ.calls _ _ _ _ _ HW1.out)).mono ?_;rintro e w1 ⟨rfl,hd⟩;have HB1:zh (Below w.heap.size w w1):=⟨HB0.out.trans (hd.below.mono (by simp))⟩;clear hd)
  exact ⟨_,results_tmp rfl _ _ _,rfl,HB1.out⟩
end
mutual
def zy.j0:Nat→Int→Bool→Option (ByteArray)
 | 0,_,_=>none
 | k+1,x0,x9=>if x9=true then (some (⟨#[]⟩:ByteArray)) else (zy.l0 k x0 ([]:List Int))
def zy.l0:Nat→Int→List Int→Option (ByteArray)
 | 0,_,_=>none
 | k+1,x0,x3=>if x0 ≥ 128 then (if x3.length<140737488355328 then (zy.l0 k (x0 / 128) (x3++[Go.bits .or .u8 ((x0) % 256) 128])) else (none)) else (if x3.length<140737488355328 then (some (strOfNums (x3++[(x0) % 256]))) else (none))
end
def zy.f (k:Nat) (a0:Int):Option (ByteArray):=if a0<0 then (zy.j0 k a0 true) else (zy.j0 k a0 (decide (a0 > 16777215)))
theorem zy.calls (k:Nat) (a0:Int) (r:ByteArray) (w:World) (h:zy.f k a0=some r) :
  Calls Tryz.prog 56 #[.int .i64 a0] w fun e w'=>e=.returned (.string r)∧Below w.heap.size w w':=by
 have HB:=Ak (Below.refl w.heap.size w)
 have H:(if a0<0 then (zy.j0 k a0 true) else (zy.j0 k a0 (decide (a0 > 16777215))))=some r:=h
 clear h;have HC2:=Ak H;clear H
 go_enter Tryz.func56,Tryz.ntmps56
 go_upto_region 1 with (fail)
 go_cut [9] (fun v9 wc=>∃ (kq:Nat) (x9_1:Bool),v9=.bool x9_1∧zh (zy.j0 kq a0 x9_1=some r)∧zh (kq≤k)∧zh (Below w.heap.size w wc))
 case first =>
  have H:=HC2.out
  clear HC2
  by_cases c3:a0<0
  ·rw [if_pos c3] at H
   have JZ:=dt c3
   clear c3
   (first|rw [JZ]|(simp only [xJ,xU];rw [JZ])|skip)
   have H':=Ak H
   clear H
   go_wp2
   go_meet
   case rel=>exact ⟨_,(true),es,H',⟨eo⟩,⟨bl HB⟩⟩
  ·rw [if_neg c3] at H
   have JZ:=df c3
   clear c3
   (first|rw [JZ]|(simp only [xJ,xU];rw [JZ])|skip)
   have H':=Ak H
   clear H
   go_wp2
   go_meet
   case rel=>exact ⟨_,(decide (a0 > 16777215)),es,H',⟨eo⟩,⟨bl HB⟩⟩
 case rest =>
  clear HC2
  obtain ⟨kq,x9_1,rfl,HA,HJ1,HB⟩:=hcut
  cases kq with
  | zero=>exact absurd HA.out (by simp [zy.j0])
  | succ kj1 =>
   have H:=HA.out
   clear HA
   simp only [zy.j0] at H
   by_cases c4:x9_1=true
   ·subst c4
    have H1:(some (⟨#[]⟩:ByteArray))=some r:=by rw [if_pos rfl] at H;exact H
    clear H;have H:=H1;clear H1
    obtain rfl:=Option.some.inj H
    go_wp2
    go_ret
    exact ⟨ef,bl HB⟩
   ·replace c4:=Bool.eq_false_iff.mpr c4
    subst c4
    have H1:(zy.l0 kj1 a0 ([]:List Int))=some r:=by rw [if_neg (show ¬ (false=true) by decide)] at H;exact H
    clear H;have H:=H1;clear H1
    have H':=Ak H
    clear H
    go_wp2
    go_loopg [0,3] kj1 (fun kq v0 v3 w'=>∃ (x0_2:Int) (x3_2:List Int),v0=.int .i64 x0_2∧zh (zy.l0 kq x0_2 x3_2=some r)∧zh (kq≤kj1)∧zh (Kd.R (Kd.int .u8) 5 w' w.heap.size (fun _=>True) v3 x3_2)∧zh (Below w.heap.size w w'))
    case atStart=>exact ⟨(a0),(([]:List Int)),es,H',⟨Nat.le_refl _⟩,⟨by first|exact Kd.Qg _ _ _ _ _|exact Kd.N_nil _ _ _ _ _|exact Kd.Jz _ _ _ _ _|exact Kd.Q_nil _ _ _ _ _|exact Kd.S_nil _ _ _ _ _⟩,⟨bl HB⟩⟩
    case round =>
     clear H'
     obtain ⟨x0_2,x3_2,rfl,HA,HK2,HO_3,HB⟩:=hrel
     cases gk with
     | zero=>exact absurd HA.out (by simp [zy.l0])
     | succ k2 =>
      have H:=HA.out
      clear HA
      simp only [zy.l0] at H
      by_cases c5:x0_2 ≥ 128
      ·rw [if_pos c5] at H
       have Qk:=tG c5
       clear c5
       by_cases c6:x3_2.length<140737488355328
       ·rw [if_pos c6] at H
        have LMc6:=Ak c6;clear c6
        obtain ⟨y194,hy194⟩:∃ y_:List Int,y_=(x3_2++[Go.bits .or .u8 ((x0_2) % 256) 128]):=⟨_,rfl⟩
        replace H:(zy.l0 k2 (x0_2 / 128) y194)=some r:=by first|(rw [hy194];with_reducible exact H)|(have H2_:=(Option.bind_some _ _).symm.trans H;rw [hy194];with_reducible exact H2_)|(have H2_:=(Option.bind_some _ _).symm.trans H;with_reducible exact H2_)|with_reducible exact H|(rw [hy194];exact H)|exact H
        have Ny194:=Ak hy194;clear hy194
        have H':=Ak H
        clear H
        go_wp2_with (first|((with_reducible refine yt (b:=.append) (xs:=#[.tmp 14,.tmp 18]) rfl ?_);at_builtin;refine Kd.jA (Kd.int .u8) (w0:=w) w.heap.size rfl (.tmp 14) (.tmp 18) 22 5 (.int .u8 0) 1 rfl Tryz.underlying22 info5 rfl (by decide) (by omega) u3 x3_2 (Go.bits .or .u8 ((x0_2) % 256) 128) [.int .u8 (Go.bits .or .u8 ((x0_2) % 256) 128)] (fun _=>True) (fun _=>False) rfl rfl ?aP (fun _ hk=>hk.elim) ?aF ?aO ?aB ?aS ?aL ?_;(case aP=>exact rfl);(case aB=>exact (bl HB));(case aF=>exact (fun _ _=>trivial));(case aO=>exact (ro HO_3));(case aS=>exact (zH (bl HB)));(case aL=>have:=LMc6.out;omega);intro v195 w7 ho hb hg hat;rw [← Ny194.out] at ho;have HO196:=Ak (ho);replace HB:=Ak (hb);clear HO_3 ho hb hg hat))
        go_roundg k2
        case measure=>have:=HJ1.out;have:=HK2.out;omega
        case rel=>exact ⟨(x0_2 / 128),(y194),es,H',⟨by have:=HJ1.out;have:=HK2.out;omega⟩,⟨ro HO196⟩,⟨bl HB⟩⟩
       ·rw [if_neg c6] at H
        exact absurd H (by simp)
      ·rw [if_neg c5] at H
       have Qk:=fG c5
       clear c5
       by_cases c8:x3_2.length<140737488355328
       ·rw [if_pos c8] at H
        have LMc8:=Ak c8;clear c8
        obtain ⟨y197,hy197⟩:∃ y_:List Int,y_=(x3_2++[(x0_2) % 256]):=⟨_,rfl⟩
        replace H:(some (strOfNums y197))=some r:=by first|(rw [hy197];with_reducible exact H)|(have H2_:=(Option.bind_some _ _).symm.trans H;rw [hy197];with_reducible exact H2_)|(have H2_:=(Option.bind_some _ _).symm.trans H;with_reducible exact H2_)|with_reducible exact H|(rw [hy197];exact H)|exact H
        have Ny197:=Ak hy197;clear hy197
        obtain rfl:=Option.some.inj H
        go_wp2_with (first|((with_reducible refine yt (b:=.append) (xs:=#[.tmp 20,.tmp 23]) rfl ?_);at_builtin;refine Kd.jA (Kd.int .u8) (w0:=w) w.heap.size rfl (.tmp 20) (.tmp 23) 22 5 (.int .u8 0) 1 rfl Tryz.underlying22 info5 rfl (by decide) (by omega) u3 x3_2 ((x0_2) % 256) [.int .u8 ((x0_2) % 256)] (fun _=>True) (fun _=>False) rfl rfl ?aP (fun _ hk=>hk.elim) ?aF ?aO ?aB ?aS ?aL ?_;(case aP=>exact rfl);(case aB=>exact (bl HB));(case aF=>exact (fun _ _=>trivial));(case aO=>exact (ro HO_3));(case aS=>exact (zH (bl HB)));(case aL=>have:=LMc8.out;omega);intro v198 w9 ho hb hg hat;rw [← Ny197.out] at ho;have HO199:=Ak (ho);replace HB:=Ak (hb);clear HO_3 ho hb hg hat;have hcv10:=X5 (P:=Tryz.prog) Tryz.underlying22 Tryz.underlying5 Tryz.underlying9 (Kd.JH HO199.out)))
        go_ret
        exact ⟨ef,bl HB⟩
       ·rw [if_neg c8] at H
        exact absurd H (by simp)
def xk.f (yR:Int) (yX:Bool) (yN:Int) (xZ:List Int) (qc:List (S67)) (xu:List (S71)) (qX:Int) (qR:ByteArray) (xA:List Int) (yU:List ByteArray):Option (Bool):=if qR.toList=([]:List UInt8) then (if (xA.length:Int)=0 then (some ((yU.length:Int) == 0)) else (some false)) else (some false)
theorem xk.calls (yR:Int) (yX:Bool) (yN:Int) (Qr:Option Addr) (Qs:Nat) (xZ:List Int) (Ql:Option Addr) (Qm:Nat) (qc:List (S67)) (Xl:Option Addr) (Xm:Nat) (xu:List (S71)) (qX:Int) (qR:ByteArray) (Yn:Option Addr) (Yo:Nat) (xA:List Int) (Z8:Option Addr) (Z9:Nat) (yU:List ByteArray) (r:Bool) (w:World) (J7:Kd.C (Kd.int .u32) w Qr xZ.length xZ) (J8:xZ.length≤Qs) (J9:Kd.C k67 w Ql qc.length qc) (Ko:qc.length≤Qm) (Kq:Kd.C k71 w Xl xu.length xu) (Kr:xu.length≤Xm) (Kt:Kd.C (Kd.int .i64) w Yn xA.length xA) (Ku:xA.length≤Yo) (Kv:Kd.C Kd.string w Z8 yU.length yU) (Kw:yU.length≤Z9) (h:xk.f yR yX yN xZ qc xu qX qR xA yU=some r) :
  Calls Tryz.prog 28 #[.agg #[.int .i64 yR,.bool yX,.int .i64 yN,.slice Qr xZ.length Qs,.slice Ql qc.length Qm,.slice Xl xu.length Xm,.int .i64 qX,.string qR,.slice Yn xA.length Yo,.slice Z8 yU.length Z9]] w fun e w'=>e=.returned (.bool r)∧Below w.heap.size w w':=by
 have hu56:=Tryz.underlying56
 have HR0_3:=Ak J7;have HC0_3:=Ak J8;clear J7 J8;have Jf:=Ak J9;have Ky:=Ak Ko;clear J9 Ko;have Kz:=Ak Kq;have HC0_5:=Ak Kr;clear Kq Kr;have QS:=Ak Kt;have Jw:=Ak Ku;clear Kt Ku;have HR0_9:=Ak Kv;have HC0_9:=Ak Kw;clear Kv Kw
 have HB:=Ak (Below.refl w.heap.size w)
 have H:(if qR.toList=([]:List UInt8) then (if (xA.length:Int)=0 then (some ((yU.length:Int) == 0)) else (some false)) else (some false))=some r:=h
 clear h
 by_cases c2:qR.toList=([]:List UInt8)
 ·rw [if_pos c2] at H
  have c2b0:=bT c2
  have c2b1:=nF c2
  clear c2
  by_cases c3:(xA.length:Int)=0
  ·rw [if_pos c3] at H
   have JZ:=bT c3
   have c3b1:=nF c3
   clear c3
   obtain rfl:=Option.some.inj H
   go_enter Tryz.func28,Tryz.ntmps28
   go_wp2_with (first|((with_reducible refine zB (N:=1) rfl ?_);(try (refine yL (by rfl) ?_;dsimp only));refine zK ?hg (N:=1) ?hd (cs:=#[.int .i64 yR,.bool yX,.int .i64 yN,.slice Qr xZ.length Qs,.slice Ql qc.length Qm,.slice Xl xu.length Xm,.int .i64 qX,.string qR,.slice Yn xA.length Yo,.slice Z8 yU.length Z9]) (t:=56) ?hr ?_;(case hd=>rfl);(case hg=>rfl);(case hr=>first|(go_simp;done)|(go_simp;rfl));intro gb200 hg w4 hbox hb;have BK200:=Ak (hbox);have GW200:=gs HB hg;have GE200:=gs HB hg;replace HB:=BS HB hb;clear hb hbox hg;obtain ⟨hcz5_0,hcz5_1,hcz5_2,hcz5_3,hcz5_4,hcz5_5,hcz5_6,hcz5_7,hcz5_8,hcz5_9,hfz5_0,hfz5_1,hfz5_2,hfz5_3,hfz5_4,hfz5_5,hfz5_6,hfz5_7,hfz5_8,hfz5_9⟩:=jV BK200.out))
   go_ret
   exact ⟨ef,bl HB⟩
  ·rw [if_neg c3] at H
   have JZ:=bF c3
   have c3b1:=nT c3
   have c3b2:¬ (xA=[]):=fun h_=>c3 (by rw [h_];rfl)
   obtain rfl:=Option.some.inj H
   go_enter Tryz.func28,Tryz.ntmps28
   go_wp2_with (first|((with_reducible refine zB (N:=1) rfl ?_);(try (refine yL (by rfl) ?_;dsimp only));refine zK ?hg (N:=1) ?hd (cs:=#[.int .i64 yR,.bool yX,.int .i64 yN,.slice Qr xZ.length Qs,.slice Ql qc.length Qm,.slice Xl xu.length Xm,.int .i64 qX,.string qR,.slice Yn xA.length Yo,.slice Z8 yU.length Z9]) (t:=56) ?hr ?_;(case hd=>rfl);(case hg=>rfl);(case hr=>first|(go_simp;done)|(go_simp;rfl));intro gb200 hg w6 hbox hb;have BK200:=Ak (hbox);have GW200:=gs HB hg;have GE200:=gs HB hg;replace HB:=BS HB hb;clear hb hbox hg;obtain ⟨hcz7_0,hcz7_1,hcz7_2,hcz7_3,hcz7_4,hcz7_5,hcz7_6,hcz7_7,hcz7_8,hcz7_9,hfz7_0,hfz7_1,hfz7_2,hfz7_3,hfz7_4,hfz7_5,hfz7_6,hfz7_7,hfz7_8,hfz7_9⟩:=jV BK200.out))
   go_ret
   exact ⟨ef,bl HB⟩
 ·rw [if_neg c2] at H
  have c2b0:=bF c2
  have c2b1:=nT c2
  obtain rfl:=Option.some.inj H
  go_enter Tryz.func28,Tryz.ntmps28
  go_wp2_with (first|((with_reducible refine zB (N:=1) rfl ?_);(try (refine yL (by rfl) ?_;dsimp only));refine zK ?hg (N:=1) ?hd (cs:=#[.int .i64 yR,.bool yX,.int .i64 yN,.slice Qr xZ.length Qs,.slice Ql qc.length Qm,.slice Xl xu.length Xm,.int .i64 qX,.string qR,.slice Yn xA.length Yo,.slice Z8 yU.length Z9]) (t:=56) ?hr ?_;(case hd=>rfl);(case hg=>rfl);(case hr=>first|(go_simp;done)|(go_simp;rfl));intro gb200 hg w8 hbox hb;have BK200:=Ak (hbox);have GW200:=gs HB hg;have GE200:=gs HB hg;replace HB:=BS HB hb;clear hb hbox hg;obtain ⟨hcz9_0,hcz9_1,hcz9_2,hcz9_3,hcz9_4,hcz9_5,hcz9_6,hcz9_7,hcz9_8,hcz9_9,hfz9_0,hfz9_1,hfz9_2,hfz9_3,hfz9_4,hfz9_5,hfz9_6,hfz9_7,hfz9_8,hfz9_9⟩:=jV BK200.out))
  go_ret
  exact ⟨ef,bl HB⟩
def Zf.f (a0:Int):Option ByteArray :=
 some (strOfNums [IntKind.u64.wrap a0 % 256,IntKind.u64.wrap a0 / 256 % 256,IntKind.u64.wrap a0 / 65536 % 256,IntKind.u64.wrap a0 / 16777216 % 256,
  IntKind.u64.wrap a0 / 4294967296 % 256,IntKind.u64.wrap a0 / 1099511627776 % 256,IntKind.u64.wrap a0 / 281474976710656 % 256,IntKind.u64.wrap a0 / 72057594037927936 % 256])
theorem Zf.calls (a0:Int) (r:ByteArray) (w:World) (h:Zf.f a0=some r) :
  Calls Tryz.prog 57 #[.int .i64 a0] w fun e w'=>e=.returned (.string r)∧Below w.heap.size w w':=by
 obtain rfl:=Option.some.inj h
 clear h
 have hcv:∀ (W:World) (x0 x1 x2 x3 x4 x5 x6 x7:Int),(convert 22 9 (.slice (some { block:=W.heap.size,off:=0 }) 8 8)).run Tryz.prog
   (W.alloc (.cells #[.int .u8 x0,.int .u8 x1,.int .u8 x2,.int .u8 x3,.int .u8 x4,.int .u8 x5,.int .u8 x6,.int .u8 x7] 169)) =
   .ok (.string (strOfNums [x0,x1,x2,x3,x4,x5,x6,x7])) (W.alloc (.cells #[.int .u8 x0,.int .u8 x1,.int .u8 x2,.int .u8 x3,.int .u8 x4,.int .u8 x5,.int .u8 x6,.int .u8 x7] 169)):=by
  intro W x0 x1 x2 x3 x4 x5 x6 x7
  refine run_convert_bytes_arg _ 22 5 Tryz.underlying22 Tryz.underlying5 W.heap.size 0 8 8 [x0,x1,x2,x3,x4,x5,x6,x7] rfl (fun i hi=>?_) 9 Tryz.underlying9
  have hb:=cell_of_row (W.alloc (.cells #[.int .u8 x0,.int .u8 x1,.int .u8 x2,.int .u8 x3,.int .u8 x4,.int .u8 x5,.int .u8 x6,.int .u8 x7] 169)) W.heap.size (0+i) _ 169 (0,0) (heap_alloc_new W _)
  rw [hb,Nat.zero_add]
  match i,hi with
  | 0,_=>rfl
  | 1,_=>rfl
  | 2,_=>rfl
  | 3,_=>rfl
  | 4,_=>rfl
  | 5,_=>rfl
  | 6,_=>rfl
  | 7,_=>rfl
 go_enter Tryz.func57,Tryz.ntmps57
 go_wp2
 refine wp_loop_rounds 9 ?_
 repeat any_goals (rw [rounds_succ];go_wp2)
 go_ret
 exact ⟨rfl,zS (Below.refl _ _) _⟩
end Go.Proofs.YtiekodnojmkfaaaGreatDoor.yD
