import Derived.Test.YtiekodnojmkfaaaGreatDoorPFnDumpx0
import Derived.Test.YtiekodnojmkfaaaGreatDoorPFnDumpx13
import Derived.Test.YtiekodnojmkfaaaGreatDoorPFnDumpx17
import Derived.Test.YtiekodnojmkfaaaGreatDoorPFnDumpx18
namespace Go.Proofs.YtiekodnojmkfaaaGreatDoor.yD
set_option maxHeartbeats 32000000
set_option maxRecDepth 100000
open Go.RowKit Go.Proofs.YtiekodnojmkfaaaGreatDoorW.zF Go.Proofs.YtiekodnojmkfaaaGreatDoorW.yC Go.Proofs.YtiekodnojmkfaaaGreatDoorW.yY
attribute [local go_sem] xM xO qG qH yZ xg xP xQ
set_option linter.unusedVariables false
set_option linter.unusedSimpArgs false
theorem linfo3:(Tryz.prog.info? 3).map (fun i=>(i.zero,i.size,i.bytes))=some (some (.int .i64 0),1,8):=by kernel_rfl
theorem linfo9:(Tryz.prog.info? 9).map (fun i=>(i.zero,i.size,i.bytes))=some (some (.string ⟨#[]⟩),1,16):=by kernel_rfl
def erv (e:Int):Value:=if e=0 then .nilIface else .iface 88 (.agg #[.int .i64 e])
theorem erv0:erv 0=.nilIface:=rfl
theorem ervn {e:Int} (h:e≠0):erv e=.iface 88 (.agg #[.int .i64 e]):=if_neg h
def RD (b:Nat) (s:ByteArray) (a e:Int) (w:World):Prop:=w.heap[b]?=some (.cells #[.string s,.int .i64 a,erv e] 85 (0,0))
structure Fk (B b:Nat) (w w':World):Prop where
 bel:Below B w w'
 oth:∀ k,k≠b→k<w.heap.size→w'.heap[k]?=w.heap[k]?
theorem Fk.refl (B b:Nat) (w:World):Fk B b w w:=⟨Below.refl _ _,fun _ _ _=>rfl⟩
theorem Fk.size {B b:Nat} {w w':World} (h:Fk B b w w'):w.heap.size≤w'.heap.size:=h.bel.size
theorem Fk.trans {B b:Nat} {w w1 w2:World} (h:Fk B b w w1) (k:Fk B b w1 w2):Fk B b w w2:=⟨h.bel.trans k.bel,fun j hj hl=>(k.oth j hj (by have:=h.size;omega)).trans (h.oth j hj hl)⟩
theorem Fk.drew {B b:Nat} {w w1:World} (h:Fk B b w w1):Fk B b w w1.drew:=⟨zO h.bel,h.oth⟩
theorem Fk.drewN {B b:Nat} {w w1:World} (h:Fk B b w w1) (n:Nat):Fk B b w (w1.drewN n):=⟨zJ h.bel n,h.oth⟩
theorem Fk.below {B b:Nat} {w w':World} (hB:B≤w.heap.size) (h:Below w.heap.size w w'):Fk B b w w':=⟨h.mono hB,fun k _ hl=>h.block k hl⟩
theorem Fk.set {B b:Nat} {w w1:World} (h:Fk B b w w1) (hb:B≤b) (j:Nat) (v:Value):Fk B b w (w1.setCell ⟨b,j,none⟩ v):=⟨h.bel.setCell (p:=⟨b,j,none⟩) hb _,fun k hk hl=>(Below.heap_setCell w1 ⟨b,j,none⟩ v k hk).trans (h.oth k hk hl)⟩
theorem RD.drew {b:Nat} {s:ByteArray} {a e:Int} {w:World} (h:RD b s a e w):RD b s a e w.drew:=h
theorem RD.drewN {b:Nat} {s:ByteArray} {a e:Int} {w:World} (h:RD b s a e w) (n:Nat):RD b s a e (w.drewN n):=h
theorem RD.lt {b:Nat} {s:ByteArray} {a e:Int} {w:World} (h:RD b s a e w):b<w.heap.size:=yx h
theorem RD.below {b:Nat} {s:ByteArray} {a e:Int} {w w':World} (h:RD b s a e w) (hb:Below w.heap.size w w'):RD b s a e w':=(hb.block b h.lt).trans h
theorem RD.c0 {b:Nat} {s:ByteArray} {a e:Int} {w:World} (h:RD b s a e w):w.cell? ⟨b,0,none⟩=some (.string s):=(zi h 0).trans rfl
theorem RD.c1 {b:Nat} {s:ByteArray} {a e:Int} {w:World} (h:RD b s a e w):w.cell? ⟨b,1,none⟩=some (.int .i64 a):=(zi h 1).trans rfl
theorem RD.c2 {b:Nat} {s:ByteArray} {a e:Int} {w:World} (h:RD b s a e w):w.cell? ⟨b,2,none⟩=some (erv e):=(zi h 2).trans rfl
theorem RD.f {b:Nat} {s:ByteArray} {a e:Int} {w:World} (h:RD b s a e w) (j:Nat):w.frozen? ⟨b,j,none⟩=false:=zn h j
theorem RD.set1 {b:Nat} {s:ByteArray} {a e:Int} {w:World} (h:RD b s a e w) (a':Int):RD b s a' e (w.setCell ⟨b,1,none⟩ (.int .i64 a')):=(yO h 1 (.int .i64 a')).trans rfl
theorem RD.set2 {b:Nat} {s:ByteArray} {a e:Int} {w:World} (h:RD b s a e w) (e':Int) (he:e'≠0):RD b s a e' (w.setCell ⟨b,2,none⟩ (.iface 88 (.agg #[.int .i64 e']))):=(yO h 2 _).trans (by rw [ervn he];rfl)
theorem fail (B b:Nat) (s:ByteArray) (a e c:Int) (w:World) (h:RD b s a e w) (hB:B≤b) (hc:c≠0) :
  Calls Tryz.prog 40 #[.pointer (some ⟨b,0,none⟩),.int .i64 c] w fun r w'=>r=.returned (.tuple #[])∧RD b s a (if e=0 then c else e) w'∧Fk B b w w':=by
 have H:=Ak h;have HC:=Ak hc
 have h2:=h.c2
 have hf:=h.f 2
 clear h hc
 by_cases he:e=0
 ·subst he
  rw [erv0] at h2
  go_enter Tryz.func40,Tryz.ntmps40
  go_wp2
  go_end0
  exact ⟨rfl,H.out.set2 c HC.out,(Fk.refl B b w).set hB _ _⟩
 ·rw [ervn he] at h2
  rw [if_neg he]
  go_enter Tryz.func40,Tryz.ntmps40
  go_wp2
  go_end0
  exact ⟨rfl,H.out,Fk.refl B b w⟩
def xq (s:ByteArray) (m a e:Int):Int×Int×Int :=
 if e=0 then (if a=(s.size:Int) then (0,a,2) else if m<bt s a then (0,a+1,3) else (bt s a,a+1,0)) else (0,a,e)
theorem octet (B b:Nat) (s:ByteArray) (m a e v a' e':Int) (w:World) (h:RD b s a e w) (hB:B≤b) (ha:0≤a) (hs:a≤(s.size:Int)) (hz:s.size≤140737488351232) (hr:xq s m a e=(v,a',e')) :
  Calls Tryz.prog 113 #[.pointer (some ⟨b,0,none⟩),.int .u8 m] w fun r w'=>r=.returned (.int .u8 v)∧RD b s a' e' w'∧Fk B b w w':=by
 have H:=Ak h
 have h0:=h.c0
 have h1:=h.c1
 have h2:=h.c2
 have hf1:=h.f 1
 have JG:Tryz.prog.follows .mixedOrders=true:=by kernel_rfl
 clear h
 unfold xq at hr
 by_cases he:e=0
 ·subst he
  rw [erv0] at h2
  rw [if_pos rfl] at hr
  by_cases hq:a=(s.size:Int)
  ·subst hq
   rw [if_pos rfl] at hr
   cases hr
   clear ha hs
   go_enter Tryz.func113,Tryz.ntmps113
   go_wp2
   go_quiet ((fail))
   go_wp2_with (go_at_call 40;refine (fail B b s _ 0 2 _ (H.out.drewN _) hB (by decide)).mono ?_;rintro r w1 ⟨rfl,hh,hk⟩;have H1:=Ak hh;have K1:=Ak hk;have g2:=hh.c2;rw [if_pos rfl,ervn (by decide)] at g2;clear hh hk)
   go_ret
   exact ⟨rfl,H1.out,((Fk.refl B b w).drewN _).trans K1.out⟩
  ·rw [if_neg hq] at hr
   have q0:=bF hq
   have q1:a<(s.size:Int):=by omega
   have hbt:=ZC s a
   obtain ⟨x,hx⟩:∃ x,bt s a=x:=⟨_,rfl⟩
   have hxr:=ZE s a
   rw [hx] at hr hbt hxr
   have HX:=Ak hx;clear hx
   by_cases hm:m<x
   ·rw [if_pos hm] at hr
    have d0:=dt hm
    cases hr
    go_enter Tryz.func113,Tryz.ntmps113
    go_wp2
    go_quiet ((fail))
    go_wp2
    go_quiet ((fail))
    go_wp2_with (go_at_call 40;refine (fail B b s _ 0 3 _ ((H.out.drewN _).set1 _) hB (by decide)).mono ?_;rintro r w1 ⟨rfl,hh,hk⟩;have H1:=Ak hh;have K1:=Ak hk;clear hh hk)
    go_ret
    exact ⟨rfl,H1.out,(((Fk.refl B b w).drewN _).set hB _ _).trans K1.out⟩
   ·rw [if_neg hm] at hr
    have d0:=df hm
    cases hr
    go_enter Tryz.func113,Tryz.ntmps113
    go_wp2
    go_quiet ((fail))
    go_wp2
    go_quiet ((fail))
    go_wp2
    go_ret
    exact ⟨rfl,(H.out.drewN _).set1 _,((Fk.refl B b w).drewN _).set hB _ _⟩
 ·rw [ervn he] at h2
  rw [if_neg he] at hr
  cases hr
  clear ha hs
  go_enter Tryz.func113,Tryz.ntmps113
  go_wp2
  go_quiet ((fail))
  go_wp2
  go_ret
  exact ⟨rfl,H.out.drewN _,(Fk.refl B b w).drewN _⟩
theorem flag (B b:Nat) (s:ByteArray) (a e v a' e':Int) (w:World) (h:RD b s a e w) (hB:B≤b) (ha:0≤a) (hs:a≤(s.size:Int)) (hz:s.size≤140737488351232) (hr:xq s 1 a e=(v,a',e')) :
  Calls Tryz.prog 71 #[.pointer (some ⟨b,0,none⟩)] w fun r w'=>r=.returned (.bool (v == 1))∧RD b s a' e' w'∧Fk B b w w':=by
 have H:=Ak h;have HR:=Ak hr;clear h hr
 go_enter Tryz.func71,Tryz.ntmps71
 go_wp2_with (go_at_call 113;refine (octet B b s 1 a e v a' e' _ H.out hB ha hs hz HR.out).mono ?_;rintro r w1 ⟨rfl,hh,hk⟩;have H1:=Ak hh;have K1:=Ak hk;clear hh hk)
 go_ret
 exact ⟨rfl,H1.out,K1.out⟩
def jW (s:ByteArray) (n a e:Int):ByteArray×Int×Int :=
 if e=0 then (if (s.size:Int)-a<n then (⟨#[]⟩,a,2) else (s.extract a.toNat (a+n).toNat,a+n,0)) else (⟨#[]⟩,a,e)
theorem bytes (B b:Nat) (s:ByteArray) (n a e:Int) (v:ByteArray) (a' e':Int) (w:World) (h:RD b s a e w) (hB:B≤b) (hn:0≤n) (hn2:n≤16777215) (ha:0≤a) (hs:a≤(s.size:Int)) (hz:s.size≤140737488351232) (hr:jW s n a e=(v,a',e')) :
  Calls Tryz.prog 115 #[.pointer (some ⟨b,0,none⟩),.int .i64 n] w fun r w'=>r=.returned (.string v)∧RD b s a' e' w'∧Fk B b w w':=by
 have H:=Ak h
 have h0:=h.c0
 have h1:=h.c1
 have h2:=h.c2
 have hf1:=h.f 1
 have JG:Tryz.prog.follows .mixedOrders=true:=by kernel_rfl
 clear h
 unfold jW at hr
 have e1:IntKind.i64.wrap ((s.size:Int)-a)=(s.size:Int)-a:=by rw [IntKind.wrap_i64];omega
 have e2:IntKind.i64.wrap (a+n)=a+n:=by rw [IntKind.wrap_i64];omega
 have e3:IntKind.i64.wrap (a+n-n)=a:=by rw [IntKind.wrap_i64];omega
 by_cases he:e=0
 ·subst he
  rw [erv0] at h2
  rw [if_pos rfl] at hr
  by_cases hq:(s.size:Int)-a<n
  ·rw [if_pos hq] at hr
   cases hr
   have d0:=dt hq
   clear ha hs hn hn2
   go_enter Tryz.func115,Tryz.ntmps115
   go_wp2
   go_quiet ((fail))
   go_wp2_with (go_at_call 40;refine (fail B b s _ 0 2 _ (H.out.drewN _) hB (by decide)).mono ?_;rintro r w1 ⟨rfl,hh,hk⟩;have H1:=Ak hh;have K1:=Ak hk;have g2:=hh.c2;rw [if_pos rfl,ervn (by decide)] at g2;clear hh hk)
   go_ret
   exact ⟨rfl,H1.out,((Fk.refl B b w).drewN _).trans K1.out⟩
  ·rw [if_neg hq] at hr
   cases hr
   have d0:=df hq
   have q2:a+n≤(s.size:Int):=by omega
   have q3:a≤a+n:=by omega
   have q4:0≤a+n:=by omega
   go_enter Tryz.func115,Tryz.ntmps115
   go_wp2
   go_quiet ((fail))
   go_wp2
   go_quiet ((fail))
   go_wp2
   go_ret
   exact ⟨rfl,((H.out.drewN _).set1 _).drewN _,(((Fk.refl B b w).drewN _).set hB _ _).drewN _⟩
 ·rw [ervn he] at h2
  rw [if_neg he] at hr
  cases hr
  clear ha hs hn hn2
  go_enter Tryz.func115,Tryz.ntmps115
  go_wp2
  go_quiet ((fail))
  go_wp2
  go_ret
  exact ⟨rfl,H.out.drewN _,(Fk.refl B b w).drewN _⟩
def gv (s:ByteArray) (a:Int):Int×Int×Bool:=(zA.f 40 s a).getD (0,0,false)
def Xn (s:ByteArray):Prop:=∀ a:Int,0≤a→a≤(s.size:Int)→zA.f 40 s a=some (gv s a)∧((gv s a).2.2=true→0≤(gv s a).1∧(gv s a).1≤16777215∧a<(gv s a).2.1∧(gv s a).2.1≤(s.size:Int))
def stopAt (s:ByteArray):Nat→Nat→Nat
 | 0,i=>i
 | n+1,i=>if i<s.size∧128≤bt s (i:Int) then stopAt s n (i+1) else i
def stop (s:ByteArray) (i:Nat):Nat:=stopAt s (s.size-i) i
theorem stop_go {s:ByteArray} {i:Nat} (h:i<s.size) (hb:128≤bt s (i:Int)):stop s (i+1)=stop s i:=by
 obtain ⟨m,hm⟩:∃ m,s.size-i=m+1:=⟨s.size-i-1,by omega⟩
 unfold stop
 rw [hm,show s.size-(i+1)=m by omega,stopAt,if_pos ⟨h,hb⟩]
theorem stop_end {s:ByteArray} {i:Nat} (h:¬ (i<s.size∧128≤bt s (i:Int))):stop s i=i:=by
 unfold stop
 cases s.size-i with
 | zero=>rfl
 | succ m=>rw [stopAt,if_neg h]
def Vm (s:ByteArray) (a:Int):Int:=if stop s a.toNat=s.size∧((stop s a.toNat:Nat):Int)-a<4 then 2 else 3
def kD (s:ByteArray) (lo hi a e:Int):Int×Int×Int :=
 if e=0 then (if (gv s a).2.2=true then (if (gv s a).1<lo∨hi<(gv s a).1 then (0,(gv s a).2.1,4) else ((gv s a).1,(gv s a).2.1,0)) else (0,a,Vm s a)) else (0,a,e)
theorem decl_or {p q:Prop} [Decidable p] [Decidable q] (h:p∨q):(decide p=true)∨(decide p=false∧decide q=true):=by
 by_cases hp:p
 ·exact .inl (dt hp)
 ·exact .inr ⟨df hp,dt (h.resolve_left hp)⟩
theorem gv_quiet {P:Program} {f:FuncId} {args:Array Value} {w:World} {n:Nat} {v:Value} (h:Calls P f args (w.drewN n) fun e w'=>e=.returned v∧xX (w.drewN n) w'):Calls P f args (w.drewN n) fun e w''=>e=.returned v∧∃ m,w''=w.drewN m :=
 Calls.quiet_of (h.mono fun _ _ ⟨he,hd⟩=>⟨he,hd.out⟩)
theorem num (B b:Nat) (s:ByteArray) (lo hi a e v a' e':Int) (w:World) (h:RD b s a e w) (hB:B≤b) (hg:Xn s) (ha:0≤a) (hs:a≤(s.size:Int)) (hz:s.size≤140737488351232) (hr:kD s lo hi a e=(v,a',e')) :
  Calls Tryz.prog 72 #[.pointer (some ⟨b,0,none⟩),.int .i64 lo,.int .i64 hi] w fun r w'=>r=.returned (.int .i64 v)∧RD b s a' e' w'∧Fk B b w w':=by
 have H:=Ak h
 have h0:=h.c0
 have h1:=h.c1
 have h2:=h.c2
 have hf1:=h.f 1
 have JG:Tryz.prog.follows .mixedOrders=true:=by kernel_rfl
 clear h
 unfold kD at hr
 obtain ⟨hg1,hg2⟩:=hg a ha hs
 obtain ⟨n,nx,ok,hG⟩:∃ n nx ok,gv s a=(n,nx,ok):=⟨_,_,_,rfl⟩
 rw [hG] at hr hg1 hg2
 have HG:=Ak hg1;clear hg1 hG
 by_cases he:e=0
 ·subst he
  rw [erv0] at h2
  rw [if_pos rfl] at hr
  cases ok
  ·rw [if_neg (by simp)] at hr
   cases hr
   clear hg2
   obtain ⟨q,rfl⟩:∃ q:Nat,a=(q:Int):=⟨a.toNat,by omega⟩
   have hq:q≤s.size:=by omega
   clear ha hs
   go_enter Tryz.func72,Tryz.ntmps72
   go_wp2
   go_quiet ((go_at_call 114;exact gv_quiet (zA.calls _ _ _ _ _ _ _ HG.out)))
   go_wp2
   obtain ⟨E,hE⟩:∃ E,stop s q=E:=⟨_,rfl⟩
   have HE:=Ak hE
   have W1:=Ak ((Fk.refl B b w).drewN nq)
   have H1:=Ak (H.out.drewN nq)
   clear hE
   go_loop [10] (fun v10=>∃ j:Nat,j≤s.size∧q≤j∧v10=.int .i64 (j:Int)∧zh (stop s j=E)) (fun v10=>s.size-(intOf v10).toNat)
   case atStart=>exact ⟨q,hq,Nat.le_refl _,rfl,HE⟩
   case round =>
    obtain ⟨j,hj,hqj,rfl,HJ⟩:=hrel
    by_cases hin:j<s.size
    ·have hbt:=ZC s (j:Int)
     obtain ⟨x,hx⟩:∃ x,bt s (j:Int)=x:=⟨_,rfl⟩
     have HX:=Ak hx
     rw [hx] at hbt
     clear hx
     simp only [Int.toNat_natCast] at hbt
     by_cases hb:128≤x
     ·have HS:zh (stop s (j+1)=E):=⟨(stop_go hin (by rw [HX.out];exact hb)).trans HJ.out⟩
      go_wp2
      go_round
      case rel=>exact ⟨j+1,by omega,by omega,by go_num,HS⟩
      case measure=>simp [intOf];omega
     ·have hje:E=j:=HJ.out.symm.trans (stop_end (fun h=>hb (by have:=h.2;rw [HX.out] at this;exact this)))
      have hne:¬ ((j:Int)=(s.size:Int)):=by omega
      have d1:((j:Int) == (s.size:Int))=false:=bF hne
      have d2:=df hb
      have HV:zh (Vm s (q:Int)=3):=⟨by unfold Vm;rw [Int.toNat_natCast,HE.out,hje];exact if_neg (fun h=>by omega)⟩
      clear hje hne
      go_wp2_with (go_at_call 40;refine (fail B b s _ 0 3 _ H1.out hB (by decide)).mono ?_;rintro r w1 ⟨rfl,hh,hk⟩;have H2:=Ak hh;have K2:=Ak (W1.out.trans hk);clear hh hk)
      go_ret
      exact ⟨rfl,HV.out ▸ H2.out,K2.out⟩
    ·obtain rfl:j=s.size:=by omega
     have hje:E=s.size:=HJ.out.symm.trans (stop_end (fun h=>hin h.1))
     have d0:((s.size:Int) == (s.size:Int))=true:=by simp
     by_cases h4:(s.size:Int)-(q:Int)<4
     ·have HV:zh (Vm s (q:Int)=2):=⟨by unfold Vm;rw [Int.toNat_natCast,HE.out,hje];exact if_pos ⟨rfl,h4⟩⟩
      have d2:=dt h4
      have d3:IntKind.i64.wrap ((s.size:Int)-(q:Int))=(s.size:Int)-(q:Int):=by rw [IntKind.wrap_i64];omega
      clear hje
      go_wp2_with (go_at_call 40;refine (fail B b s _ 0 2 _ H1.out hB (by decide)).mono ?_;rintro r w1 ⟨rfl,hh,hk⟩;have H2:=Ak hh;have K2:=Ak (W1.out.trans hk);clear hh hk)
      go_ret
      exact ⟨rfl,HV.out ▸ H2.out,K2.out⟩
     ·have HV:zh (Vm s (q:Int)=3):=⟨by unfold Vm;rw [Int.toNat_natCast,HE.out,hje];exact if_neg (fun h=>h4 h.2)⟩
      have d2:=df h4
      have d3:IntKind.i64.wrap ((s.size:Int)-(q:Int))=(s.size:Int)-(q:Int):=by rw [IntKind.wrap_i64];omega
      clear hje
      go_wp2_with (go_at_call 40;refine (fail B b s _ 0 3 _ H1.out hB (by decide)).mono ?_;rintro r w1 ⟨rfl,hh,hk⟩;have H2:=Ak hh;have K2:=Ak (W1.out.trans hk);clear hh hk)
      go_ret
      exact ⟨rfl,HV.out ▸ H2.out,K2.out⟩
  ·rw [if_pos rfl] at hr
   have hg3:=hg2 rfl
   by_cases ho:n<lo∨hi<n
   ·rw [if_pos ho] at hr
    cases hr
    rcases decl_or ho with d0|⟨d0,d1⟩
    all_goals
     go_enter Tryz.func72,Tryz.ntmps72
     go_wp2
     go_quiet ((go_at_call 114;exact gv_quiet (zA.calls _ _ _ _ _ _ _ HG.out)))
     go_wp2_with (go_at_call 40;refine (fail B b s _ 0 4 _ ((H.out.drewN _).set1 _) hB (by decide)).mono ?_;rintro r w1 ⟨rfl,hh,hk⟩;have H1:=Ak hh;have K1:=Ak hk;clear hh hk)
     go_ret
     exact ⟨rfl,H1.out,(((Fk.refl B b w).drewN _).set hB _ _).trans K1.out⟩
   ·rw [if_neg ho] at hr
    cases hr
    have d0:=dF (n<lo)
    have d1:=dF (hi<n)
    go_enter Tryz.func72,Tryz.ntmps72
    go_wp2
    go_quiet ((go_at_call 114;exact gv_quiet (zA.calls _ _ _ _ _ _ _ HG.out)))
    go_wp2
    go_ret
    exact ⟨rfl,(H.out.drewN _).set1 _,((Fk.refl B b w).drewN _).set hB _ _⟩
 ·rw [ervn he] at h2
  rw [if_neg he] at hr
  cases hr
  clear hg2 ha hs
  go_enter Tryz.func72,Tryz.ntmps72
  go_wp2
  go_ret
  exact ⟨rfl,H.out,Fk.refl B b w⟩
theorem RD.far {b g:Nat} {s:ByteArray} {a e:Int} {w:World} (h:RD b s a e w) (hg:b≠g) (j:Nat) (v:Value):RD b s a e (w.setCell ⟨g,j,none⟩ v):=(Below.heap_setCell w ⟨g,j,none⟩ v b hg).trans h
theorem Fk.jX {B b g:Nat} {w w1:World} (h:Fk B b w w1) (hg:w.heap.size≤g) (hB:B≤w.heap.size) (j:Nat) (v:Value):Fk B b w (w1.setCell ⟨g,j,none⟩ v):=⟨h.bel.setCell (p:=⟨g,j,none⟩) (Nat.le_trans hB hg) _,fun k hk hl=>(Below.heap_setCell w1 ⟨g,j,none⟩ v k (show k≠g by omega)).trans (h.oth k hk hl)⟩
theorem vX {s:ByteArray} {m a e:Int} (ha:0≤a) (hs:a≤(s.size:Int)) (hm:0≤m):0≤(xq s m a e).1∧(xq s m a e).1≤m∧a≤(xq s m a e).2.1∧(xq s m a e).2.1≤(s.size:Int)∧(e≠0→(xq s m a e).2.2=e):=by
 unfold xq
 have hb:=ZE s a
 split
 ·split
  ·exact ⟨Int.le_refl _,hm,Int.le_refl _,hs,fun h=>absurd ‹_› h⟩
  ·split
   ·exact ⟨Int.le_refl _,hm,show a≤a+1 by omega,show a+1≤_ by omega,fun h=>absurd ‹_› h⟩
   ·exact ⟨hb.1,show bt s a≤m by omega,show a≤a+1 by omega,show a+1≤_ by omega,fun h=>absurd ‹_› h⟩
 ·exact ⟨Int.le_refl _,hm,Int.le_refl _,hs,fun _=>rfl⟩
theorem Zm {s:ByteArray} {n a e:Int} (hn:0≤n) (ha:0≤a) (hs:a≤(s.size:Int)):a≤(jW s n a e).2.1∧(jW s n a e).2.1≤(s.size:Int)∧(e≠0→(jW s n a e).2.2=e)∧((jW s n a e).2.2=0→(jW s n a e).1.size=n.toNat)∧(jW s n a e).1.size≤n.toNat:=by
 unfold jW
 split
 ·split
  ·exact ⟨Int.le_refl _,hs,fun h=>absurd ‹_› h,fun h=>absurd (show (2:Int)=0 from h) (by decide),Nat.zero_le _⟩
  ·have hz:(s.extract a.toNat (a+n).toNat).size=n.toNat:=by rw [ByteArray.size_extract];omega
   exact ⟨by show a≤a+n;omega,by show a+n≤_;omega,fun h=>absurd ‹_› h,fun _=>hz,Nat.le_of_eq hz⟩
 ·exact ⟨Int.le_refl _,hs,fun _=>rfl,fun h=>absurd h ‹_›,Nat.zero_le _⟩
theorem qL {s:ByteArray} {lo hi a e:Int} (hg:Xn s) (ha:0≤a) (hs:a≤(s.size:Int)) (hlo:0≤lo) (hh:0≤hi):0≤(kD s lo hi a e).1∧(kD s lo hi a e).1≤hi∧(kD s lo hi a e).1≤16777215∧a≤(kD s lo hi a e).2.1∧(kD s lo hi a e).2.1≤(s.size:Int)∧(e≠0→(kD s lo hi a e).2.2=e)∧((kD s lo hi a e).2.2=0→lo≤(kD s lo hi a e).1):=by
 have h:=(hg a ha hs).2
 unfold kD
 split
 ·split
  ·have h':=h ‹_›
   split
   ·exact ⟨Int.le_refl _,hh,by omega,Int.le_of_lt h'.2.2.1,h'.2.2.2,fun h=>absurd ‹_› h,fun h=>absurd (show (4:Int)=0 from h) (by decide)⟩
   ·exact ⟨h'.1,by show (gv s a).1≤hi;omega,h'.2.1,Int.le_of_lt h'.2.2.1,h'.2.2.2,fun h=>absurd ‹_› h,fun _=>by show lo≤(gv s a).1;omega⟩
  ·refine ⟨Int.le_refl _,hh,by omega,Int.le_refl _,hs,fun h=>absurd ‹_› h,fun h=>?_⟩
   have h:Vm s a=0:=h
   unfold Vm at h
   split at h
   ·exact absurd h (by decide)
   ·exact absurd h (by decide)
 ·exact ⟨Int.le_refl _,hh,by omega,Int.le_refl _,hs,fun _=>rfl,fun h=>absurd h ‹_›⟩
def vM (s:ByteArray) (a e:Int):ByteArray×Int×Int:=jW s (kD s 0 1000 a e).1 (kD s 0 1000 a e).2.1 (kD s 0 1000 a e).2.2
theorem vI {s:ByteArray} {a e:Int} (hg:Xn s) (ha:0≤a) (hs:a≤(s.size:Int)):a≤(vM s a e).2.1∧(vM s a e).2.1≤(s.size:Int)∧(e≠0→(vM s a e).2.2=e)∧(vM s a e).1.size≤1000:=by
 obtain ⟨h1,h2,_,h3,h4,h5,_⟩:=qL (e:=e) hg ha hs (Int.le_refl 0) (show (0:Int)≤1000 by decide)
 obtain ⟨k1,k2,k3,_,k4⟩:=Zm (e:=(kD s 0 1000 a e).2.2) h1 (Int.le_trans ha h3) h4
 refine ⟨Int.le_trans h3 k1,k2,fun he=>(k3 (by rw [h5 he];exact he)).trans (h5 he),?_⟩
 show (jW s (kD s 0 1000 a e).1 (kD s 0 1000 a e).2.1 (kD s 0 1000 a e).2.2).1.size≤1000
 omega
theorem text (B b:Nat) (s:ByteArray) (a e:Int) (v:ByteArray) (a' e':Int) (w:World) (h:RD b s a e w) (hB:B≤b) (hg:Xn s) (ha:0≤a) (hs:a≤(s.size:Int)) (hz:s.size≤140737488351232) (hr:vM s a e=(v,a',e')) :
  Calls Tryz.prog 79 #[.pointer (some ⟨b,0,none⟩)] w fun r w'=>r=.returned (.string v)∧RD b s a' e' w'∧Fk B b w w':=by
 obtain ⟨h1,h2,h6,h3,h4,_,_⟩:=qL (e:=e) hg ha hs (Int.le_refl 0) (show (0:Int)≤1000 by decide)
 unfold vM at hr
 obtain ⟨n,a1,e1,hn⟩:∃ n a1 e1,kD s 0 1000 a e=(n,a1,e1):=⟨_,_,_,rfl⟩
 rw [hn] at hr h1 h2 h3 h4 h6
 have H:=Ak h;have HR:=Ak hr;have HN:=Ak hn
 have ha1:0≤a1:=Int.le_trans ha h3
 clear h hr hn
 go_enter Tryz.func79,Tryz.ntmps79
 go_wp2_with (first|(go_at_call 72;refine (num B b s 0 1000 a e n a1 e1 _ H.out hB hg ha hs hz HN.out).mono ?_;rintro r w1 ⟨rfl,hh,hk⟩;have H1:=Ak hh;have K1:=Ak hk;clear hh hk)|(go_at_call 115;refine (bytes B b s n a1 e1 v a' e' _ H1.out hB h1 h6 ha1 h4 hz HR.out).mono ?_;rintro r w2 ⟨rfl,hh,hk⟩;have H2:=Ak hh;have K2:=Ak (K1.out.trans hk);clear hh hk))
 go_ret
 exact ⟨rfl,H2.out,K2.out⟩
theorem line (B b:Nat) (s:ByteArray) (a e:Int) (v:Int) (a' e':Int) (w:World) (h:RD b s a e w) (hB:B≤b) (hg:Xn s) (ha:0≤a) (hs:a≤(s.size:Int)) (hz:s.size≤140737488351232) (hr:kD s 0 16777215 a e=(v,a',e')) :
  Calls Tryz.prog 82 #[.pointer (some ⟨b,0,none⟩)] w fun r w'=>r=.returned (.int .i64 v)∧RD b s a' e' w'∧Fk B b w w':=by
 have H:=Ak h;have HR:=Ak hr;clear h hr
 go_enter Tryz.func82,Tryz.ntmps82
 go_wp2_with (go_at_call 72;refine (num B b s 0 16777215 a e v a' e' _ H.out hB hg ha hs hz HR.out).mono ?_;rintro r w1 ⟨rfl,hh,hk⟩;have H1:=Ak hh;have K1:=Ak hk;clear hh hk)
 go_ret
 exact ⟨rfl,H1.out,K1.out⟩
theorem pr3 {α β γ:Type} {a a':α} {b b':β} {c c':γ} (h:(a,b,c)=(a',b',c')):a=a'∧b=b'∧c=c':=by cases h;exact ⟨rfl,rfl,rfl⟩
def ZN (s:ByteArray) (n a e:Int):Int×Int×Int :=
 if (kD s 0 16777215 a e).1≠0∧(kD s 0 16777215 a e).1≠n then (0,(kD s 0 16777215 a e).2.1,if (kD s 0 16777215 a e).2.2=0 then 4 else (kD s 0 16777215 a e).2.2) else kD s 0 16777215 a e
theorem noneOr (B b:Nat) (s:ByteArray) (m a e:Int) (v:Int) (a' e':Int) (w:World) (h:RD b s a e w) (hB:B≤b) (hg:Xn s) (ha:0≤a) (hs:a≤(s.size:Int)) (hz:s.size≤140737488351232) (hr:ZN s m a e=(v,a',e')) :
  Calls Tryz.prog 81 #[.pointer (some ⟨b,0,none⟩),.int .i64 m] w fun r w'=>r=.returned (.int .i64 v)∧RD b s a' e' w'∧Fk B b w w':=by
 unfold ZN at hr
 obtain ⟨n,a1,e1,hn⟩:∃ n a1 e1,kD s 0 16777215 a e=(n,a1,e1):=⟨_,_,_,rfl⟩
 rw [hn] at hr
 have H:=Ak h;have HN:=Ak hn;clear h hn
 by_cases h0:n=0
 ·rw [if_neg (fun hc=>hc.1 h0)] at hr
  obtain ⟨rfl,rfl,rfl⟩:=pr3 hr
  have d0:=bT h0
  have d1:(n != 0)=false:=by rw [bne,d0];rfl
  clear h0
  go_enter Tryz.func81,Tryz.ntmps81
  go_wp2_with (go_at_call 72;refine (num B b s 0 16777215 a e n a1 e1 _ H.out hB hg ha hs hz HN.out).mono ?_;rintro r w1 ⟨rfl,hh,hk⟩;have H1:=Ak hh;have K1:=Ak hk;clear hh hk)
  go_ret
  exact ⟨rfl,H1.out,K1.out⟩
 ·have d0:=bF h0
  have d1:(n != 0)=true:=by rw [bne,d0];rfl
  by_cases hm:n=m
  ·rw [if_neg (fun hc=>hc.2 hm)] at hr
   obtain ⟨rfl,rfl,rfl⟩:=pr3 hr
   subst hm
   go_enter Tryz.func81,Tryz.ntmps81
   go_wp2_with (go_at_call 72;refine (num B b s 0 16777215 a e n a1 e1 _ H.out hB hg ha hs hz HN.out).mono ?_;rintro r w1 ⟨rfl,hh,hk⟩;have H1:=Ak hh;have K1:=Ak hk;clear hh hk)
   go_ret
   exact ⟨rfl,H1.out,K1.out⟩
  ·rw [if_pos ⟨h0,hm⟩] at hr
   obtain ⟨g1,g2,g3⟩:=pr3 hr
   subst g1
   subst g2
   have HE:=Ak g3;clear g3 hr
   have d2:=bF hm
   have d3:(n != m)=true:=by rw [bne,d2];rfl
   go_enter Tryz.func81,Tryz.ntmps81
   go_wp2_with (first|(go_at_call 72;refine (num B b s 0 16777215 a e n a1 e1 _ H.out hB hg ha hs hz HN.out).mono ?_;rintro r w1 ⟨rfl,hh,hk⟩;have H1:=Ak hh;have K1:=Ak hk;clear hh hk)|(go_at_call 40;refine (fail B b s a1 e1 4 _ H1.out hB (by decide)).mono ?_;rintro r w2 ⟨rfl,hh,hk⟩;have H2:=Ak hh;have K2:=Ak (K1.out.trans hk);clear hh hk))
   go_ret
   exact ⟨rfl,HE.out ▸ H2.out,K2.out⟩
def rUp (s:ByteArray) (a e:Int):Bool×Int×Int×Int :=
 ((xq s 1 a e).1 == 1,kD s 0 16777215 (xq s 1 a e).2.1 (xq s 1 a e).2.2)
theorem up (B b:Nat) (s:ByteArray) (a e:Int) (v1:Bool) (v2:Int) (a' e':Int) (w:World) (h:RD b s a e w) (hB:B≤b) (hBw:B≤w.heap.size) (hg:Xn s) (ha:0≤a) (hs:a≤(s.size:Int)) (hz:s.size≤140737488351232) (hr:rUp s a e=(v1,v2,a',e')) :
  Calls Tryz.prog 78 #[.pointer (some ⟨b,0,none⟩)] w fun r w'=>r=.returned (.agg #[.bool v1,.int .i64 v2])∧RD b s a' e' w'∧Fk B b w w':=by
 obtain ⟨h1,h2,h3,h4,_⟩:=vX (e:=e) ha hs (show (0:Int)≤1 by decide)
 unfold rUp at hr
 obtain ⟨n,a1,e1,hn⟩:∃ n a1 e1,xq s 1 a e=(n,a1,e1):=⟨_,_,_,rfl⟩
 rw [hn] at hr h1 h2 h3 h4
 obtain ⟨rfl,hr2⟩:=Prod.mk.inj hr
 have hu67:=Tryz.underlying71
 have hb0:Below w.heap.size w (w.alloc (.cells #[.bool false,.int .i64 0] 71 (0,0))):=zS (Below.refl _ _) _
 have H:=Ak (h.below hb0)
 have K:=Ak (Fk.below (b:=b) hBw hb0)
 have hlt:=h.lt
 have HR:=Ak hr2;have HN:=Ak hn
 have ha1:0≤a1:=Int.le_trans ha h3
 clear h hr hr2 hn hb0
 go_enter Tryz.func78,Tryz.ntmps78
 go_wp2_with (first|(go_at_call 71;(refine (flag B b s a e n a1 e1 _ H.out hB ha hs hz HN.out).mono ?_;rintro r w1 ⟨rfl,hh,hk⟩;have H1:=Ak hh;have K1:=Ak (K.out.trans hk);have Q1:=Ak ((hk.oth w.heap.size (by omega) (by simp)).trans (jK w _));clear hh hk))|(go_at_call 72;(refine (num B b s 0 16777215 a1 e1 v2 a' e' _ H1.out hB hg ha1 h4 hz HR.out).mono ?_;rintro r w2 ⟨rfl,hh,hk⟩;have H2:=Ak hh;have K2:=Ak (K1.out.trans hk);have q2:=(hk.oth w.heap.size (by omega) (yx Q1.out)).trans Q1.out;have Q2:=Ak q2;have c0:=zi q2 0;have c1:=zi q2 1;have f0:=zn q2 0;have f1:=zn q2 1;clear hh hk q2)))
 refine bodyPost_ret (results_cell_row (P:=Tryz.prog) rfl _ _ w.heap.size 71 #[.bool (n == 1),.int .i64 v2] (0,0) _ rfl ((yO (yO Q2.out 0 _) 1 _).trans rfl) hu67 rfl (by kernel_rfl)) rfl ?_
 exact ⟨rfl,(H2.out.far (by omega) _ _).far (by omega) _ _,(K2.out.jX (Nat.le_refl _) hBw _ _).jX (Nat.le_refl _) hBw _ _⟩
def gi (k:Nat) (t:ByteArray):Int:=((zU.f k t 0).getD (0,0,false)).1
theorem gi_eq {k:Nat} {t:ByteArray} {r:Int×Int×Bool} (h:zU.f k t 0=some r):gi k t=r.1:=by unfold gi;rw [h];rfl
def Ya (k:Nat) (s:ByteArray) (a e:Int):Int×Int×ByteArray×Int×Int :=
 if (xq s 4 a e).1=1 then (1,0,⟨#[]⟩,(xq s 4 a e).2) else if (xq s 4 a e).1=2 then (1,1,⟨#[]⟩,(xq s 4 a e).2)
 else if (xq s 4 a e).1=3 then (2,gi k (jW s 8 (xq s 4 a e).2.1 (xq s 4 a e).2.2).1,⟨#[]⟩,(jW s 8 (xq s 4 a e).2.1 (xq s 4 a e).2.2).2)
 else if (xq s 4 a e).1=4 then (3,0,vM s (xq s 4 a e).2.1 (xq s 4 a e).2.2) else (0,0,⟨#[]⟩,(xq s 4 a e).2)
theorem pr5 {α β γ δ ε:Type} {a a':α} {b b':β} {c c':γ} {d d':δ} {e e':ε} (h:(a,b,c,d,e)=(a',b',c',d',e')):a=a'∧b=b'∧c=c'∧d=d'∧e=e':=by cases h;exact ⟨rfl,rfl,rfl,rfl,rfl⟩
def GiOk:Prop:=∃ k,∀ s:ByteArray,s.size≤8→∃ r,zU.f k s 0=some r
theorem XK {B b:Nat} {s:ByteArray} {a' e':Int} {w w1:World} {v u0 u1 u2:Value} (hlt:b<w.heap.size) (hBw:B≤w.heap.size) (h:RD b s a' e' w1) (hk:Fk B b w w1) :
  Ending.returned v=.returned v∧RD b s a' e' (((w1.setCell ⟨w.heap.size,0,none⟩ u0).setCell ⟨w.heap.size,1,none⟩ u1).setCell ⟨w.heap.size,2,none⟩ u2)∧Fk B b w (((w1.setCell ⟨w.heap.size,0,none⟩ u0).setCell ⟨w.heap.size,1,none⟩ u1).setCell ⟨w.heap.size,2,none⟩ u2) :=
 ⟨rfl,((h.far (by omega) _ _).far (by omega) _ _).far (by omega) _ _,((hk.jX (Nat.le_refl _) hBw _ _).jX (Nat.le_refl _) hBw _ _).jX (Nat.le_refl _) hBw _ _⟩
theorem value (k:Nat) (hk8:∀ s:ByteArray,s.size≤8→∃ r,zU.f k s 0=some r) (B b:Nat) (s:ByteArray) (a e:Int) (v1 v2:Int) (v3:ByteArray) (a' e':Int) (w:World) (h:RD b s a e w) (hB:B≤b) (hBw:B≤w.heap.size) (hg:Xn s) (ha:0≤a) (hs:a≤(s.size:Int)) (hz:s.size≤140737488351232) (hr:Ya k s a e=(v1,v2,v3,a',e')) :
  Calls Tryz.prog 76 #[.pointer (some ⟨b,0,none⟩)] w fun r w'=>r=.returned (.agg #[.int .i64 v1,.int .i64 v2,.string v3])∧RD b s a' e' w'∧Fk B b w w':=by
 obtain ⟨h1,h2,h3,h4,_⟩:=vX (e:=e) ha hs (show (0:Int)≤4 by decide)
 unfold Ya at hr
 obtain ⟨n,a1,e1,hn⟩:∃ n a1 e1,xq s 4 a e=(n,a1,e1):=⟨_,_,_,rfl⟩
 rw [hn] at hr h1 h2 h3 h4
 dsimp only at hr h1 h2 h3 h4
 have hu63:=Tryz.underlying67
 have hb0:Below w.heap.size w (w.alloc (.cells #[.int .i64 0,.int .i64 0,.string ⟨#[]⟩] 67 (0,0))):=zS (Below.refl _ _) _
 have H:=Ak (h.below hb0)
 have K:=Ak (Fk.below (b:=b) hBw hb0)
 have hlt:=h.lt
 have HN:=Ak hn
 have ha1:0≤a1:=Int.le_trans ha h3
 clear h hn hb0
 by_cases n1:n=1
 ·subst n1
  rw [if_pos rfl] at hr
  obtain ⟨rfl,rfl,rfl,rfl,rfl⟩:=pr5 hr
  clear hr
  go_enter Tryz.func76,Tryz.ntmps76
  go_wp2_with (go_at_call 113;refine (octet B b s 4 a e 1 a1 e1 _ H.out hB ha hs hz HN.out).mono ?_;rintro r w1 ⟨rfl,hh,hk⟩;have H1:=Ak hh;have K1:=Ak (K.out.trans hk);have q1:=(hk.oth w.heap.size (by omega) (by simp)).trans (jK w _);have Q1:=Ak q1;have c0:=zi q1 0;have c1:=zi q1 1;have c2:=zi q1 2;have f0:=zn q1 0;have f1:=zn q1 1;have f2:=zn q1 2;clear hh hk q1)
  refine bodyPost_ret (results_cell_row (P:=Tryz.prog) rfl _ _ w.heap.size 67 #[.int .i64 1,.int .i64 0,.string ⟨#[]⟩] (0,0) _ rfl ((yO (yO (yO Q1.out 0 _) 1 _) 2 _).trans rfl) hu63 rfl (by kernel_rfl)) rfl ?_
  exact XK hlt hBw H1.out K1.out
 by_cases n2:n=2
 ·subst n2
  rw [if_neg (by decide),if_pos rfl] at hr
  obtain ⟨rfl,rfl,rfl,rfl,rfl⟩:=pr5 hr
  clear hr
  go_enter Tryz.func76,Tryz.ntmps76
  go_wp2_with (go_at_call 113;refine (octet B b s 4 a e 2 a1 e1 _ H.out hB ha hs hz HN.out).mono ?_;rintro r w1 ⟨rfl,hh,hk⟩;have H1:=Ak hh;have K1:=Ak (K.out.trans hk);have q1:=(hk.oth w.heap.size (by omega) (by simp)).trans (jK w _);have Q1:=Ak q1;have c0:=zi q1 0;have c1:=zi q1 1;have c2:=zi q1 2;have f0:=zn q1 0;have f1:=zn q1 1;have f2:=zn q1 2;clear hh hk q1)
  refine bodyPost_ret (results_cell_row (P:=Tryz.prog) rfl _ _ w.heap.size 67 #[.int .i64 1,.int .i64 1,.string ⟨#[]⟩] (0,0) _ rfl ((yO (yO (yO Q1.out 0 _) 1 _) 2 _).trans rfl) hu63 rfl (by kernel_rfl)) rfl ?_
  exact XK hlt hBw H1.out K1.out
 by_cases n3:n=3
 ·subst n3
  rw [if_neg (by decide),if_neg (by decide),if_pos rfl] at hr
  obtain ⟨hx1,hx2,_,_,hx5⟩:=Zm (e:=e1) (show (0:Int)≤8 by decide) ha1 h4
  obtain ⟨x,a2,e2,hx⟩:∃ x a2 e2,jW s 8 a1 e1=(x,a2,e2):=⟨_,_,_,rfl⟩
  rw [hx] at hr hx1 hx2 hx5
  obtain ⟨⟨y1,y2,y3⟩,hy⟩:=hk8 x hx5
  rw [gi_eq hy] at hr
  obtain ⟨rfl,rfl,rfl,rfl,rfl⟩:=pr5 hr
  have HX:=Ak hx;have HY:=Ak hy;clear hr hx hy hk8 hx5
  go_enter Tryz.func76,Tryz.ntmps76
  go_wp2_with (first|(go_at_call 113;refine (octet B b s 4 a e 3 a1 e1 _ H.out hB ha hs hz HN.out).mono ?_;rintro r w1 ⟨rfl,hh,hk⟩;have H1:=Ak hh;have K1:=Ak (K.out.trans hk);have q1:=(hk.oth w.heap.size (by omega) (by simp)).trans (jK w _);have Q1:=Ak q1;clear hh hk q1)|(go_at_call 115;refine (bytes B b s 8 a1 e1 x a2 e2 _ H1.out hB (by decide) (by decide) ha1 h4 hz HX.out).mono ?_;rintro r w2 ⟨rfl,hh,hk⟩;have H2:=Ak hh;have K2:=Ak (K1.out.trans hk);have q2:=(hk.oth w.heap.size (by omega) (yx Q1.out)).trans Q1.out;have Q2:=Ak q2;clear hh hk q2)|(go_at_call 116;refine (zU.calls k x 0 y1 y2 y3 _ HY.out).mono ?_;rintro r w3 ⟨rfl,hd⟩;have hd:=hd.below;have H3:=Ak (H2.out.below hd);have K3:=Ak (K2.out.trans (Fk.below (Nat.le_trans hBw K2.out.size) hd));have q3:=(hd.block w.heap.size (yx Q2.out)).trans Q2.out;have Q3:=Ak q3;have c0:=zi q3 0;have c1:=zi q3 1;have c2:=zi q3 2;have f0:=zn q3 0;have f1:=zn q3 1;have f2:=zn q3 2;clear hd q3))
  refine bodyPost_ret (results_cell_row (P:=Tryz.prog) rfl _ _ w.heap.size 67 #[.int .i64 2,.int .i64 y1,.string ⟨#[]⟩] (0,0) _ rfl ((yO (yO (yO Q3.out 0 _) 1 _) 2 _).trans rfl) hu63 rfl (by kernel_rfl)) rfl ?_
  exact XK hlt hBw H3.out K3.out
 by_cases n4:n=4
 ·subst n4
  rw [if_neg (by decide),if_neg (by decide),if_neg (by decide),if_pos rfl] at hr
  obtain ⟨g1,hr2⟩:=Prod.mk.inj hr
  obtain ⟨g2,hx⟩:=Prod.mk.inj hr2
  subst g1
  subst g2
  have HX:=Ak hx;clear hr hr2 hx hk8
  go_enter Tryz.func76,Tryz.ntmps76
  go_wp2_with (first|(go_at_call 113;refine (octet B b s 4 a e 4 a1 e1 _ H.out hB ha hs hz HN.out).mono ?_;rintro r w1 ⟨rfl,hh,hk⟩;have H1:=Ak hh;have K1:=Ak (K.out.trans hk);have q1:=(hk.oth w.heap.size (by omega) (by simp)).trans (jK w _);have Q1:=Ak q1;clear hh hk q1)|(go_at_call 79;refine (text B b s a1 e1 v3 a' e' _ H1.out hB hg ha1 h4 hz HX.out).mono ?_;rintro r w2 ⟨rfl,hh,hk⟩;have H2:=Ak hh;have K2:=Ak (K1.out.trans hk);have q2:=(hk.oth w.heap.size (by omega) (yx Q1.out)).trans Q1.out;have Q2:=Ak q2;have c0:=zi q2 0;have c1:=zi q2 1;have c2:=zi q2 2;have f0:=zn q2 0;have f1:=zn q2 1;have f2:=zn q2 2;clear hh hk q2))
  refine bodyPost_ret (results_cell_row (P:=Tryz.prog) rfl _ _ w.heap.size 67 #[.int .i64 3,.int .i64 0,.string v3] (0,0) _ rfl ((yO (yO (yO Q2.out 0 _) 1 _) 2 _).trans rfl) hu63 rfl (by kernel_rfl)) rfl ?_
  exact XK hlt hBw H2.out K2.out
 ·obtain rfl:n=0:=by omega
  rw [if_neg n1,if_neg n2,if_neg n3,if_neg n4] at hr
  obtain ⟨rfl,rfl,rfl,rfl,rfl⟩:=pr5 hr
  clear hr hk8
  go_enter Tryz.func76,Tryz.ntmps76
  go_wp2_with (go_at_call 113;refine (octet B b s 4 a e 0 a1 e1 _ H.out hB ha hs hz HN.out).mono ?_;rintro r w1 ⟨rfl,hh,hk⟩;have H1:=Ak hh;have K1:=Ak (K.out.trans hk);have q1:=(hk.oth w.heap.size (by omega) (by simp)).trans (jK w _);have Q1:=Ak q1;have c0:=zi q1 0;have c1:=zi q1 1;have c2:=zi q1 2;have f0:=zn q1 0;have f1:=zn q1 1;have f2:=zn q1 2;clear hh hk q1)
  refine bodyPost_ret (results_cell_row (P:=Tryz.prog) rfl _ _ w.heap.size 67 #[.int .i64 0,.int .i64 0,.string ⟨#[]⟩] (0,0) _ rfl ((yO (yO (yO Q1.out 0 _) 1 _) 2 _).trans rfl) hu63 rfl (by kernel_rfl)) rfl ?_
  exact XK hlt hBw H1.out K1.out
theorem u32_wraps (n:Int) (h₀:0≤n) (h₁:n<2 ^ 32):IntKind.u32.wrap n=n:=by rw [IntKind.wrap_u32];omega
theorem or_low (i:Nat) (x y:Int) (hx₀:0≤x) (hx:x % 2 ^ i=0) (hx₁:x<2 ^ 32) (hy₀:0≤y) (hy:y<2 ^ i) (hy₁:y<2 ^ 32):bits .or .u32 y x=y+x:=by
 have hc:bits .or .u32 y x=bits .or .u32 x y:=by unfold bits;simp only [BitVec.or_comm]
 rw [hc,bits_join .u32 32 (by decide) u32_wraps i x y hx₀ hx hx₁ hy₀ hy hy₁,Int.add_comm]
theorem or4 {y0 y1 y2 y3:Int} (h0:0≤y0∧y0≤255) (h1:0≤y1∧y1≤255) (h2:0≤y2∧y2≤255) (h3:0≤y3∧y3≤255) :
  bits .or .u32 (bits .or .u32 (bits .or .u32 y0 (y1*256)) (y2*65536)) (y3*16777216)=y0+y1*256+y2*65536+y3*16777216:=by
 rw [or_low 8 (y1*256) y0 (by omega) (by omega) (by omega) (by omega) (by omega) (by omega),or_low 16 (y2*65536) _ (by omega) (by omega) (by omega) (by omega) (by omega) (by omega),or_low 24 (y3*16777216) _ (by omega) (by omega) (by omega) (by omega) (by omega) (by omega)]
def le4 (x:ByteArray):Int:=bt x 0+bt x 1*256+bt x 2*65536+bt x 3*16777216
def Yh (s:ByteArray) (a e:Int):Int×Int×Int:=(if (jW s 4 a e).2.2=0 then le4 (jW s 4 a e).1 else 0,(jW s 4 a e).2)
theorem word (B b:Nat) (s:ByteArray) (a e:Int) (v:Int) (a' e':Int) (w:World) (h:RD b s a e w) (hB:B≤b) (ha:0≤a) (hs:a≤(s.size:Int)) (hz:s.size≤140737488351232) (hr:Yh s a e=(v,a',e')) :
  Calls Tryz.prog 74 #[.pointer (some ⟨b,0,none⟩)] w fun r w'=>r=.returned (.int .u32 v)∧RD b s a' e' w'∧Fk B b w w':=by
 obtain ⟨h1,h2,_,h3,_⟩:=Zm (e:=e) (show (0:Int)≤4 by decide) ha hs
 unfold Yh at hr
 obtain ⟨x,a1,e1,hn⟩:∃ x a1 e1,jW s 4 a e=(x,a1,e1):=⟨_,_,_,rfl⟩
 rw [hn] at hr h1 h2 h3
 dsimp only at hr h1 h2 h3
 obtain ⟨g1,g2,g3⟩:=pr3 hr
 subst g1
 subst g2
 subst g3
 have H:=Ak h;have HN:=Ak hn
 have JG:Tryz.prog.follows .mixedOrders=true:=by kernel_rfl
 clear h hn hr
 by_cases he:e1=0
 ·subst he
  rw [if_pos rfl]
  have hz4:=h3 rfl
  have hx:(4:Int).toNat=4:=rfl
  rw [hx] at hz4
  have b0:=ZC x 0
  have b1:=ZC x 1
  have b2:=ZC x 2
  have b3:=ZC x 3
  have r0:=ZE x 0
  have r1:=ZE x 1
  have r2:=ZE x 2
  have r3:=ZE x 3
  unfold le4
  obtain ⟨y0,hy0⟩:∃ y,bt x 0=y:=⟨_,rfl⟩
  obtain ⟨y1,hy1⟩:∃ y,bt x 1=y:=⟨_,rfl⟩
  obtain ⟨y2,hy2⟩:∃ y,bt x 2=y:=⟨_,rfl⟩
  obtain ⟨y3,hy3⟩:∃ y,bt x 3=y:=⟨_,rfl⟩
  rw [hy0] at b0 r0
  rw [hy1] at b1 r1
  rw [hy2] at b2 r2
  rw [hy3] at b3 r3
  rw [hy0,hy1,hy2,hy3]
  simp only [Int.toNat_zero,Int.reduceToNat] at b0 b1 b2 b3
  have l0:0<x.size:=by omega
  have l1:1<x.size:=by omega
  have l2:2<x.size:=by omega
  have l3:3<x.size:=by omega
  clear hy0 hy1 hy2 hy3 h3 hx h1 h2
  go_enter Tryz.func74,Tryz.ntmps74
  go_wp2_with (go_at_call 115;refine (bytes B b s 4 a e x a1 0 _ H.out hB (by decide) (by decide) ha hs hz HN.out).mono ?_;rintro r w1 ⟨rfl,hh,hk⟩;have H1:=Ak hh;have K1:=Ak hk;have g2:=hh.c2;rw [erv0] at g2;clear hh hk)
  go_quiet ((fail))
  go_wp2
  go_ret
  exact ⟨congrArg (fun z=>Ending.returned (Value.int .u32 z)) (or4 r0 r1 r2 r3),H1.out.drewN _,K1.out.drewN _⟩
 ·rw [if_neg he]
  clear h3
  go_enter Tryz.func74,Tryz.ntmps74
  go_wp2_with (go_at_call 115;refine (bytes B b s 4 a e x a1 e1 _ H.out hB (by decide) (by decide) ha hs hz HN.out).mono ?_;rintro r w1 ⟨rfl,hh,hk⟩;have H1:=Ak hh;have K1:=Ak hk;have g2:=hh.c2;rw [ervn he] at g2;clear hh hk)
  go_ret
  exact ⟨rfl,H1.out,K1.out⟩
def jm {α:Type} (F:Int→Int→α×Int×Int):Nat→Int→Int→List α×Int×Int
 | 0,a,e=>([],a,e)
 | n+1,a,e=>if e=0 then ((F a e).1::(jm F n (F a e).2.1 (F a e).2.2).1,(jm F n (F a e).2.1 (F a e).2.2).2) else ([],a,e)
theorem R_fk {α:Type} {d:Kd α} {q:Nat} {w w':World} {base B b:Nat} {ok:Nat→Prop} {v:Value} {xs:List α} (h:d.R q w base ok v xs) (hb:b<base) (hk:Fk B b w w'):d.R q w' base ok v xs :=
 Kd.qm (Kd.Zd (Kd.jv h) (fun k hk' hl=>hk.oth k (by have:=hk'.2.1;omega) hl)) (fun _ h=>h.1)
theorem Fk.thenB {B b:Nat} {w w1 w2:World} (h:Fk B b w w1) (hB:B≤w.heap.size) (hb:Below w.heap.size w1 w2):Fk B b w w2:=⟨h.bel.trans (hb.mono hB),fun k hk hl=>(hb.block k hl).trans (h.oth k hk hl)⟩
theorem RD.keep {b:Nat} {s:ByteArray} {a e:Int} {N:Nat} {w w':World} (h:RD b s a e w) (hN:b<N) (hb:Below N w w'):RD b s a e w':=(hb.block b hN).trans h
structure Zn {α:Type} (d:Kd α) (q:Nat) (F:Int→Int→α×Int×Int) (B b:Nat) (s:ByteArray) (w:World) (xs:List α) (a' e':Int) (m:Nat) (v:Value) (W:World) (ys:List α) (a e:Int):Prop where
 a0:0≤a
 a1:a≤(s.size:Int)
 rd:RD b s a e W
 fk:Fk B b w W
 row:d.R q W w.heap.size (fun _=>True) v ys
 tail:jm F m a e=((jm F m a e).1,a',e')
 all:ys++(jm F m a e).1=xs
 len:ys.length+m≤2000
theorem Zn.start {α:Type} {d:Kd α} {q:Nat} {F:Int→Int→α×Int×Int} {B b:Nat} {s:ByteArray} {w:World} {xs:List α} {a' e' a e:Int} {m:Nat} (ha:0≤a) (hs:a≤(s.size:Int)) (h:RD b s a e w) (hm:m≤2000) (hr:jm F m a e=(xs,a',e')) :
  Zn d q F B b s w xs a' e' m (.slice none 0 0) w [] a e:=⟨ha,hs,h,Fk.refl _ _ _,Kd.Qg _ _ _ _ _,by rw [hr],by rw [hr];rfl,by simpa using hm⟩
theorem Zn.step {α:Type} {d:Kd α} {q:Nat} {F:Int→Int→α×Int×Int} {B b:Nat} {s:ByteArray} {w:World} {xs:List α} {a' e' a:Int} {m:Nat} {v v':Value} {W W1 W2:World} {ys:List α} {x:α} {a1 e1:Int}
  (h:Zn d q F B b s w xs a' e' (m+1) v W ys a 0) (hB:B≤w.heap.size) (hF:F a 0=(x,a1,e1)) (h1:a≤a1) (h2:a1≤(s.size:Int)) (hr:RD b s a1 e1 W1) (hk:Fk B b W W1) (hx:d.R q W2 w.heap.size (fun _=>True) v' (ys++[x])) (hb:Below w.heap.size W1 W2) (hbl:b<w.heap.size) :
  Zn d q F B b s w xs a' e' m v' W2 (ys++[x]) a1 e1:=by
 have ht:=h.tail
 have hl:=h.all
 rw [jm,if_pos rfl,hF] at ht hl
 dsimp only at ht hl
 refine ⟨Int.le_trans h.a0 h1,h2,hr.keep hbl hb,(h.fk.trans hk).thenB hB hb,hx,?_,by rw [List.append_assoc];exact hl,by have:=h.len;simp;omega⟩
 have:=(Prod.mk.inj ht).2
 exact Prod.ext rfl this
theorem Zn.stop0 {α:Type} {d:Kd α} {q:Nat} {F:Int→Int→α×Int×Int} {B b:Nat} {s:ByteArray} {w:World} {xs:List α} {a' e' a e:Int} {v:Value} {W:World} {ys:List α} {m:Nat} (h:Zn d q F B b s w xs a' e' m v W ys a e) (hm:m=0∨e≠0):d.R q W w.heap.size (fun _=>True) v xs∧RD b s a' e' W∧Fk B b w W:=by
 have ht:=h.tail
 have hl:=h.all
 have e0:jm F m a e=([],a,e):=by
  cases m with
  | zero=>rfl
  | succ m=>rw [jm,if_neg (hm.resolve_left (by omega))]
 rw [e0] at ht hl
 obtain ⟨-,rfl,rfl⟩:=pr3 ht
 rw [List.append_nil] at hl
 subst hl
 exact ⟨h.row,h.rd,h.fk⟩
def rV (k:Nat) (s:ByteArray) (a e:Int):S67×Int×Int:=(⟨(Ya k s a e).1,(Ya k s a e).2.1,(Ya k s a e).2.2.1⟩,(Ya k s a e).2.2.2)
def rU (s:ByteArray) (a e:Int):S71×Int×Int:=(⟨(rUp s a e).1,(rUp s a e).2.1⟩,(rUp s a e).2.2)
theorem rV_eq {k:Nat} {s:ByteArray} {a e:Int} {x:S67} {a' e':Int} (h:rV k s a e=(x,a',e')):Ya k s a e=(x.f0,x.f1,x.f2,a',e'):=by
 have h1:=congrArg (fun p=>p.1) h
 have h2:=congrArg (fun p=>p.2) h
 dsimp only at h1 h2
 rw [← h1,← h2]
 rfl
theorem rU_eq {s:ByteArray} {a e:Int} {x:S71} {a' e':Int} (h:rU s a e=(x,a',e')):rUp s a e=(x.f0,x.f1,a',e'):=by
 have h1:=congrArg (fun p=>p.1) h
 have h2:=congrArg (fun p=>p.2) h
 dsimp only at h1 h2
 rw [← h1,← h2]
 rfl
theorem rV_ok {k:Nat} {s:ByteArray} {a e:Int} (hg:Xn s) (ha:0≤a) (hs:a≤(s.size:Int)):a≤(rV k s a e).2.1∧(rV k s a e).2.1≤(s.size:Int)∧(e≠0→(rV k s a e).2.2=e):=by
 obtain ⟨_,_,h3,h4,h5⟩:=vX (e:=e) ha hs (show (0:Int)≤4 by decide)
 obtain ⟨b1,b2,b3,_,_⟩:=Zm (n:=8) (e:=(xq s 4 a e).2.2) (by decide) (Int.le_trans ha h3) h4
 obtain ⟨t1,t2,t3,_⟩:=vI (e:=(xq s 4 a e).2.2) hg (Int.le_trans ha h3) h4
 unfold rV Ya
 dsimp only
 split
 ·exact ⟨h3,h4,h5⟩
 ·split
  ·exact ⟨h3,h4,h5⟩
  ·split
   ·exact ⟨Int.le_trans h3 b1,b2,fun he=>(b3 (by rw [h5 he];exact he)).trans (h5 he)⟩
   ·split
    ·exact ⟨Int.le_trans h3 t1,t2,fun he=>(t3 (by rw [h5 he];exact he)).trans (h5 he)⟩
    ·exact ⟨h3,h4,h5⟩
theorem rU_ok {s:ByteArray} {a e:Int} (hg:Xn s) (ha:0≤a) (hs:a≤(s.size:Int)):a≤(rU s a e).2.1∧(rU s a e).2.1≤(s.size:Int)∧(e≠0→(rU s a e).2.2=e):=by
 obtain ⟨_,_,h3,h4,h5⟩:=vX (e:=e) ha hs (show (0:Int)≤1 by decide)
 obtain ⟨_,_,_,n1,n2,n3,_⟩:=qL (e:=(xq s 1 a e).2.2) hg (Int.le_trans ha h3) h4 (Int.le_refl 0) (show (0:Int)≤16777215 by decide)
 exact ⟨Int.le_trans h3 n1,n2,fun he=>(n3 (by rw [h5 he];exact he)).trans (h5 he)⟩
theorem some26 (B b:Nat) (s:ByteArray) (m:Nat) (a e:Int) (xs:List Int) (a' e':Int) (w:World) (h:RD b s a e w) (hB:B≤b) (hBw:B≤w.heap.size) (hg:Xn s) (hm:m≤2000) (ha:0≤a) (hs:a≤(s.size:Int)) (hz:s.size≤140737488351232) (hr:jm (fun a e=>Yh s a e) m a e=(xs,a',e')) :
  Calls Tryz.prog 73 #[.pointer (some ⟨b,0,none⟩),.int .i64 (m:Int),.func (.func 74) #[.pointer (some ⟨b,0,none⟩)] #[]] w fun r w'=>∃ v,r=.returned v∧(Kd.int .u32).R 60 w' w.heap.size (fun _=>True) v xs∧RD b s a' e' w'∧Fk B b w w':=by
 have hbl:=h.lt
 have H0:=Ak (Zn.start (d:=(Kd.int .u32)) (q:=60) (B:=B) ha hs h hm hr)
 clear h hr ha hs hm
 go_enter Tryz.func73,Tryz.ntmps73
 go_wp2
 go_loopg [1,7] m (fun kq v1 v7 W'=>∃ (j:Nat) (ys:List Int) (a1 e1:Int),v1=.int .i64 (j:Int)∧zh (kq=j)∧zh (Zn (Kd.int .u32) 60 (fun a e=>Yh s a e) B b s w xs a' e' j v7 W' ys a1 e1))
 case atStart=>exact ⟨m,[],a,e,rfl,⟨rfl⟩,H0⟩
 case round =>
  obtain ⟨j,ys,a1,e1,rfl,HJ,HV⟩:=hrel
  clear H0
  have c2:=HV.out.rd.c2
  by_cases hj:0<j
  ·by_cases he:e1=0
   ·subst he
    rw [erv0] at c2
    obtain ⟨i,rfl⟩:∃ i,j=i+1:=⟨j-1,by omega⟩
    obtain ⟨gm,hgm⟩:∃ gm,gk=gm+1:=⟨gk-1,by have:=HJ.out;omega⟩
    have HGM:=Ak hgm
    have hok:=(show a1≤(Yh s a1 0).2.1∧(Yh s a1 0).2.1≤(s.size:Int) from (fun h=>⟨h.1,h.2.1⟩) (Zm (n:=4) (e:=0) (by decide) HV.out.a0 HV.out.a1))
    obtain ⟨x,a2,e2,hx⟩:∃ x a2 e2,(fun a e=>Yh s a e) a1 0=(x,a2,e2):=⟨_,_,_,rfl⟩
    have hx':=hx
    dsimp only at hx'
    have HX:=Ak hx
    have HOK:zh (a1≤a2∧a2≤(s.size:Int)):=⟨by have h:=hok;rw [hx'] at h;exact h⟩
    have HLN:zh (ys.length≤2000):=⟨by have:=HV.out.len;omega⟩
    have WW:zh (wrap64 (i:Int)=(i:Int)):=⟨by unfold wrap64;have:=HV.out.len;omega⟩
    have HX':=Ak hx'
    clear hgm hx hx' hok
    go_wp2_with (first|(go_at_call 74;refine (word B b s a1 0 x a2 e2 _ HV.out.rd hB HV.out.a0 HV.out.a1 hz HX'.out).mono ?_;rintro r w1 ⟨rfl,hh,hk⟩;have H1:=Ak hh;have K1:=Ak hk;clear hh hk)|(at_builtin;refine Kd.jA (Kd.int .u32) (w0:=w1) w.heap.size rfl (.tmp 19) (.tmp 22) 50 60 (.int .u32 0) 4 rfl Tryz.underlying50 info60 rfl (by decide) (by omega) _ ys x [.int .u32 x] (fun _=>True) (fun _=>False) rfl (by first|(go_simp;done)|(go_simp;rfl)|rfl) rfl (fun _ hk=>hk.elim) (fun _ _=>trivial) (R_fk HV.out.row hbl K1.out) (Below.refl _ _) (Nat.le_trans HV.out.fk.size K1.out.size) (by have:=HLN.out;omega) ?_;intro v3 w3 ho hb3 _ _;have HS:=Ak (HV.out.step hBw HX.out HOK.out.1 HOK.out.2 H1.out K1.out ho hb3 hbl);clear ho hb3))
    have hgk:=HGM.out
    subst hgk
    go_roundg gm
    case measure=>have:=HJ.out;omega
    case rel=>exact ⟨i,_,a2,e2,by rw [WW.out],⟨by have:=HJ.out;omega⟩,HS⟩
   ·rw [ervn he] at c2
    have HE:=Ak (HV.out.stop0 (.inr he))
    have t1:decide ((0:Int)<(j:Int))=true:=dt (by omega)
    clear HV he
    go_wp2
    go_ret
    exact ⟨_,rfl,HE.out⟩
  ·obtain rfl:j=0:=by omega
   have HE:=Ak (HV.out.stop0 (.inl rfl))
   clear HV hj c2
   go_wp2
   go_ret
   exact ⟨_,rfl,HE.out⟩
theorem some28 (kc:Nat) (hk8:∀ s:ByteArray,s.size≤8→∃ r,zU.f kc s 0=some r) (B b:Nat) (s:ByteArray) (m:Nat) (a e:Int) (xs:List S67) (a' e':Int) (w:World) (h:RD b s a e w) (hB:B≤b) (hBw:B≤w.heap.size) (hg:Xn s) (hm:m≤2000) (ha:0≤a) (hs:a≤(s.size:Int)) (hz:s.size≤140737488351232) (hr:jm (fun a e=>rV kc s a e) m a e=(xs,a',e')) :
  Calls Tryz.prog 75 #[.pointer (some ⟨b,0,none⟩),.int .i64 (m:Int),.func (.func 76) #[.pointer (some ⟨b,0,none⟩)] #[]] w fun r w'=>∃ v,r=.returned v∧k67.R 67 w' w.heap.size (fun _=>True) v xs∧RD b s a' e' w'∧Fk B b w w':=by
 have hu63:=Tryz.underlying67
 have hbl:=h.lt
 have H0:=Ak (Zn.start (d:=k67) (q:=67) (B:=B) ha hs h hm hr)
 clear h hr ha hs hm
 go_enter Tryz.func75,Tryz.ntmps75
 go_wp2
 go_loopg [1,7] m (fun kq v1 v7 W'=>∃ (j:Nat) (ys:List S67) (a1 e1:Int),v1=.int .i64 (j:Int)∧zh (kq=j)∧zh (Zn k67 67 (fun a e=>rV kc s a e) B b s w xs a' e' j v7 W' ys a1 e1))
 case atStart=>exact ⟨m,[],a,e,rfl,⟨rfl⟩,H0⟩
 case round =>
  obtain ⟨j,ys,a1,e1,rfl,HJ,HV⟩:=hrel
  clear H0
  have c2:=HV.out.rd.c2
  by_cases hj:0<j
  ·by_cases he:e1=0
   ·subst he
    rw [erv0] at c2
    obtain ⟨i,rfl⟩:∃ i,j=i+1:=⟨j-1,by omega⟩
    obtain ⟨gm,hgm⟩:∃ gm,gk=gm+1:=⟨gk-1,by have:=HJ.out;omega⟩
    have HGM:=Ak hgm
    have hok:=(show a1≤(rV kc s a1 0).2.1∧(rV kc s a1 0).2.1≤(s.size:Int) from (fun h=>⟨h.1,h.2.1⟩) (rV_ok (k:=kc) (e:=0) hg HV.out.a0 HV.out.a1))
    obtain ⟨x,a2,e2,hx⟩:∃ x a2 e2,(fun a e=>rV kc s a e) a1 0=(x,a2,e2):=⟨_,_,_,rfl⟩
    have hx':=hx
    dsimp only at hx'
    have HX:=Ak hx
    have HOK:zh (a1≤a2∧a2≤(s.size:Int)):=⟨by have h:=hok;rw [hx'] at h;exact h⟩
    have HLN:zh (ys.length≤2000):=⟨by have:=HV.out.len;omega⟩
    have WW:zh (wrap64 (i:Int)=(i:Int)):=⟨by unfold wrap64;have:=HV.out.len;omega⟩
    have HX':=Ak hx'
    clear hgm hx hx' hok
    go_wp2_with (first|(go_at_call 76;refine (value kc hk8 B b s a1 0 x.f0 x.f1 x.f2 a2 e2 _ HV.out.rd hB (Nat.le_trans hBw HV.out.fk.size) hg HV.out.a0 HV.out.a1 hz (rV_eq HX'.out)).mono ?_;rintro r w1 ⟨rfl,hh,hk⟩;have H1:=Ak hh;have K1:=Ak hk;clear hh hk)|(at_builtin;refine Kd.jA k67 (w0:=w1) w.heap.size rfl (.tmp 19) (.tmp 22) 51 67 (.agg #[(.int .i64 0),(.int .i64 0),(.string ⟨#[]⟩)]) 32 rfl Tryz.underlying51 info67 rfl (by decide) (by omega) _ ys x [.int .i64 x.f0,.int .i64 x.f1,.string x.f2] (fun _=>True) (fun _=>False) rfl (by first|(go_simp;done)|(go_simp;rfl)|rfl) (kS _ _ _ x) (fun _ hk=>hk.elim) (fun _ _=>trivial) (R_fk HV.out.row hbl K1.out) (Below.refl _ _) (Nat.le_trans HV.out.fk.size K1.out.size) (by have:=HLN.out;omega) ?_;intro v3 w3 ho hb3 _ _;have HS:=Ak (HV.out.step hBw HX.out HOK.out.1 HOK.out.2 H1.out K1.out ho hb3 hbl);clear ho hb3))
    have hgk:=HGM.out
    subst hgk
    go_roundg gm
    case measure=>have:=HJ.out;omega
    case rel=>exact ⟨i,_,a2,e2,by rw [WW.out],⟨by have:=HJ.out;omega⟩,HS⟩
   ·rw [ervn he] at c2
    have HE:=Ak (HV.out.stop0 (.inr he))
    have t1:decide ((0:Int)<(j:Int))=true:=dt (by omega)
    clear HV he
    go_wp2
    go_ret
    exact ⟨_,rfl,HE.out⟩
  ·obtain rfl:j=0:=by omega
   have HE:=Ak (HV.out.stop0 (.inl rfl))
   clear HV hj c2
   go_wp2
   go_ret
   exact ⟨_,rfl,HE.out⟩
theorem some30 (B b:Nat) (s:ByteArray) (m:Nat) (a e:Int) (xs:List S71) (a' e':Int) (w:World) (h:RD b s a e w) (hB:B≤b) (hBw:B≤w.heap.size) (hg:Xn s) (hm:m≤2000) (ha:0≤a) (hs:a≤(s.size:Int)) (hz:s.size≤140737488351232) (hr:jm (fun a e=>rU s a e) m a e=(xs,a',e')) :
  Calls Tryz.prog 77 #[.pointer (some ⟨b,0,none⟩),.int .i64 (m:Int),.func (.func 78) #[.pointer (some ⟨b,0,none⟩)] #[]] w fun r w'=>∃ v,r=.returned v∧k71.R 71 w' w.heap.size (fun _=>True) v xs∧RD b s a' e' w'∧Fk B b w w':=by
 have hu67:=Tryz.underlying71
 have hbl:=h.lt
 have H0:=Ak (Zn.start (d:=k71) (q:=71) (B:=B) ha hs h hm hr)
 clear h hr ha hs hm
 go_enter Tryz.func77,Tryz.ntmps77
 go_wp2
 go_loopg [1,7] m (fun kq v1 v7 W'=>∃ (j:Nat) (ys:List S71) (a1 e1:Int),v1=.int .i64 (j:Int)∧zh (kq=j)∧zh (Zn k71 71 (fun a e=>rU s a e) B b s w xs a' e' j v7 W' ys a1 e1))
 case atStart=>exact ⟨m,[],a,e,rfl,⟨rfl⟩,H0⟩
 case round =>
  obtain ⟨j,ys,a1,e1,rfl,HJ,HV⟩:=hrel
  clear H0
  have c2:=HV.out.rd.c2
  by_cases hj:0<j
  ·by_cases he:e1=0
   ·subst he
    rw [erv0] at c2
    obtain ⟨i,rfl⟩:∃ i,j=i+1:=⟨j-1,by omega⟩
    obtain ⟨gm,hgm⟩:∃ gm,gk=gm+1:=⟨gk-1,by have:=HJ.out;omega⟩
    have HGM:=Ak hgm
    have hok:=(show a1≤(rU s a1 0).2.1∧(rU s a1 0).2.1≤(s.size:Int) from (fun h=>⟨h.1,h.2.1⟩) (rU_ok (e:=0) hg HV.out.a0 HV.out.a1))
    obtain ⟨x,a2,e2,hx⟩:∃ x a2 e2,(fun a e=>rU s a e) a1 0=(x,a2,e2):=⟨_,_,_,rfl⟩
    have hx':=hx
    dsimp only at hx'
    have HX:=Ak hx
    have HOK:zh (a1≤a2∧a2≤(s.size:Int)):=⟨by have h:=hok;rw [hx'] at h;exact h⟩
    have HLN:zh (ys.length≤2000):=⟨by have:=HV.out.len;omega⟩
    have WW:zh (wrap64 (i:Int)=(i:Int)):=⟨by unfold wrap64;have:=HV.out.len;omega⟩
    have HX':=Ak hx'
    clear hgm hx hx' hok
    go_wp2_with (first|(go_at_call 78;refine (up B b s a1 0 x.f0 x.f1 a2 e2 _ HV.out.rd hB (Nat.le_trans hBw HV.out.fk.size) hg HV.out.a0 HV.out.a1 hz (rU_eq HX'.out)).mono ?_;rintro r w1 ⟨rfl,hh,hk⟩;have H1:=Ak hh;have K1:=Ak hk;clear hh hk)|(at_builtin;refine Kd.jA k71 (w0:=w1) w.heap.size rfl (.tmp 19) (.tmp 22) 52 71 (.agg #[(.bool false),(.int .i64 0)]) 16 rfl Tryz.underlying52 info71 rfl (by decide) (by omega) _ ys x [.bool x.f0,.int .i64 x.f1] (fun _=>True) (fun _=>False) rfl (by first|(go_simp;done)|(go_simp;rfl)|rfl) (Jd _ _ _ x) (fun _ hk=>hk.elim) (fun _ _=>trivial) (R_fk HV.out.row hbl K1.out) (Below.refl _ _) (Nat.le_trans HV.out.fk.size K1.out.size) (by have:=HLN.out;omega) ?_;intro v3 w3 ho hb3 _ _;have HS:=Ak (HV.out.step hBw HX.out HOK.out.1 HOK.out.2 H1.out K1.out ho hb3 hbl);clear ho hb3))
    have hgk:=HGM.out
    subst hgk
    go_roundg gm
    case measure=>have:=HJ.out;omega
    case rel=>exact ⟨i,_,a2,e2,by rw [WW.out],⟨by have:=HJ.out;omega⟩,HS⟩
   ·rw [ervn he] at c2
    have HE:=Ak (HV.out.stop0 (.inr he))
    have t1:decide ((0:Int)<(j:Int))=true:=dt (by omega)
    clear HV he
    go_wp2
    go_ret
    exact ⟨_,rfl,HE.out⟩
  ·obtain rfl:j=0:=by omega
   have HE:=Ak (HV.out.stop0 (.inl rfl))
   clear HV hj c2
   go_wp2
   go_ret
   exact ⟨_,rfl,HE.out⟩
theorem some33 (B b:Nat) (s:ByteArray) (m:Nat) (a e:Int) (xs:List Int) (a' e':Int) (w:World) (h:RD b s a e w) (hB:B≤b) (hBw:B≤w.heap.size) (hg:Xn s) (hm:m≤2000) (ha:0≤a) (hs:a≤(s.size:Int)) (hz:s.size≤140737488351232) (hr:jm (fun a e=>kD s 0 16777215 a e) m a e=(xs,a',e')) :
  Calls Tryz.prog 80 #[.pointer (some ⟨b,0,none⟩),.int .i64 (m:Int),.func (.func 82) #[.pointer (some ⟨b,0,none⟩)] #[]] w fun r w'=>∃ v,r=.returned v∧(Kd.int .i64).R 3 w' w.heap.size (fun _=>True) v xs∧RD b s a' e' w'∧Fk B b w w':=by
 have hbl:=h.lt
 have H0:=Ak (Zn.start (d:=(Kd.int .i64)) (q:=3) (B:=B) ha hs h hm hr)
 clear h hr ha hs hm
 go_enter Tryz.func80,Tryz.ntmps80
 go_wp2
 go_loopg [1,7] m (fun kq v1 v7 W'=>∃ (j:Nat) (ys:List Int) (a1 e1:Int),v1=.int .i64 (j:Int)∧zh (kq=j)∧zh (Zn (Kd.int .i64) 3 (fun a e=>kD s 0 16777215 a e) B b s w xs a' e' j v7 W' ys a1 e1))
 case atStart=>exact ⟨m,[],a,e,rfl,⟨rfl⟩,H0⟩
 case round =>
  obtain ⟨j,ys,a1,e1,rfl,HJ,HV⟩:=hrel
  clear H0
  have c2:=HV.out.rd.c2
  by_cases hj:0<j
  ·by_cases he:e1=0
   ·subst he
    rw [erv0] at c2
    obtain ⟨i,rfl⟩:∃ i,j=i+1:=⟨j-1,by omega⟩
    obtain ⟨gm,hgm⟩:∃ gm,gk=gm+1:=⟨gk-1,by have:=HJ.out;omega⟩
    have HGM:=Ak hgm
    have hok:=(show a1≤(kD s 0 16777215 a1 0).2.1∧(kD s 0 16777215 a1 0).2.1≤(s.size:Int) from (fun h=>⟨h.2.2.2.1,h.2.2.2.2.1⟩) (qL (e:=0) hg HV.out.a0 HV.out.a1 (Int.le_refl 0) (show (0:Int)≤16777215 by decide)))
    obtain ⟨x,a2,e2,hx⟩:∃ x a2 e2,(fun a e=>kD s 0 16777215 a e) a1 0=(x,a2,e2):=⟨_,_,_,rfl⟩
    have hx':=hx
    dsimp only at hx'
    have HX:=Ak hx
    have HOK:zh (a1≤a2∧a2≤(s.size:Int)):=⟨by have h:=hok;rw [hx'] at h;exact h⟩
    have HLN:zh (ys.length≤2000):=⟨by have:=HV.out.len;omega⟩
    have WW:zh (wrap64 (i:Int)=(i:Int)):=⟨by unfold wrap64;have:=HV.out.len;omega⟩
    have HX':=Ak hx'
    clear hgm hx hx' hok
    go_wp2_with (first|(go_at_call 82;refine (line B b s a1 0 x a2 e2 _ HV.out.rd hB hg HV.out.a0 HV.out.a1 hz HX'.out).mono ?_;rintro r w1 ⟨rfl,hh,hk⟩;have H1:=Ak hh;have K1:=Ak hk;clear hh hk)|(at_builtin;refine Kd.jA (Kd.int .i64) (w0:=w1) w.heap.size rfl (.tmp 19) (.tmp 22) 53 3 (.int .i64 0) 8 rfl Tryz.underlying53 linfo3 rfl (by decide) (by omega) _ ys x [.int .i64 x] (fun _=>True) (fun _=>False) rfl (by first|(go_simp;done)|(go_simp;rfl)|rfl) rfl (fun _ hk=>hk.elim) (fun _ _=>trivial) (R_fk HV.out.row hbl K1.out) (Below.refl _ _) (Nat.le_trans HV.out.fk.size K1.out.size) (by have:=HLN.out;omega) ?_;intro v3 w3 ho hb3 _ _;have HS:=Ak (HV.out.step hBw HX.out HOK.out.1 HOK.out.2 H1.out K1.out ho hb3 hbl);clear ho hb3))
    have hgk:=HGM.out
    subst hgk
    go_roundg gm
    case measure=>have:=HJ.out;omega
    case rel=>exact ⟨i,_,a2,e2,by rw [WW.out],⟨by have:=HJ.out;omega⟩,HS⟩
   ·rw [ervn he] at c2
    have HE:=Ak (HV.out.stop0 (.inr he))
    have t1:decide ((0:Int)<(j:Int))=true:=dt (by omega)
    clear HV he
    go_wp2
    go_ret
    exact ⟨_,rfl,HE.out⟩
  ·obtain rfl:j=0:=by omega
   have HE:=Ak (HV.out.stop0 (.inl rfl))
   clear HV hj c2
   go_wp2
   go_ret
   exact ⟨_,rfl,HE.out⟩
theorem some36 (B b:Nat) (s:ByteArray) (m:Nat) (a e:Int) (xs:List ByteArray) (a' e':Int) (w:World) (h:RD b s a e w) (hB:B≤b) (hBw:B≤w.heap.size) (hg:Xn s) (hm:m≤2000) (ha:0≤a) (hs:a≤(s.size:Int)) (hz:s.size≤140737488351232) (hr:jm (fun a e=>vM s a e) m a e=(xs,a',e')) :
  Calls Tryz.prog 83 #[.pointer (some ⟨b,0,none⟩),.int .i64 (m:Int),.func (.func 79) #[.pointer (some ⟨b,0,none⟩)] #[]] w fun r w'=>∃ v,r=.returned v∧Kd.string.R 9 w' w.heap.size (fun _=>True) v xs∧RD b s a' e' w'∧Fk B b w w':=by
 have hbl:=h.lt
 have H0:=Ak (Zn.start (d:=Kd.string) (q:=9) (B:=B) ha hs h hm hr)
 clear h hr ha hs hm
 go_enter Tryz.func83,Tryz.ntmps83
 go_wp2
 go_loopg [1,7] m (fun kq v1 v7 W'=>∃ (j:Nat) (ys:List ByteArray) (a1 e1:Int),v1=.int .i64 (j:Int)∧zh (kq=j)∧zh (Zn Kd.string 9 (fun a e=>vM s a e) B b s w xs a' e' j v7 W' ys a1 e1))
 case atStart=>exact ⟨m,[],a,e,rfl,⟨rfl⟩,H0⟩
 case round =>
  obtain ⟨j,ys,a1,e1,rfl,HJ,HV⟩:=hrel
  clear H0
  have c2:=HV.out.rd.c2
  by_cases hj:0<j
  ·by_cases he:e1=0
   ·subst he
    rw [erv0] at c2
    obtain ⟨i,rfl⟩:∃ i,j=i+1:=⟨j-1,by omega⟩
    obtain ⟨gm,hgm⟩:∃ gm,gk=gm+1:=⟨gk-1,by have:=HJ.out;omega⟩
    have HGM:=Ak hgm
    have hok:=(show a1≤(vM s a1 0).2.1∧(vM s a1 0).2.1≤(s.size:Int) from (fun h=>⟨h.1,h.2.1⟩) (vI (e:=0) hg HV.out.a0 HV.out.a1))
    obtain ⟨x,a2,e2,hx⟩:∃ x a2 e2,(fun a e=>vM s a e) a1 0=(x,a2,e2):=⟨_,_,_,rfl⟩
    have hx':=hx
    dsimp only at hx'
    have HX:=Ak hx
    have HOK:zh (a1≤a2∧a2≤(s.size:Int)):=⟨by have h:=hok;rw [hx'] at h;exact h⟩
    have HLN:zh (ys.length≤2000):=⟨by have:=HV.out.len;omega⟩
    have WW:zh (wrap64 (i:Int)=(i:Int)):=⟨by unfold wrap64;have:=HV.out.len;omega⟩
    have HX':=Ak hx'
    clear hgm hx hx' hok
    go_wp2_with (first|(go_at_call 79;refine (text B b s a1 0 x a2 e2 _ HV.out.rd hB hg HV.out.a0 HV.out.a1 hz HX'.out).mono ?_;rintro r w1 ⟨rfl,hh,hk⟩;have H1:=Ak hh;have K1:=Ak hk;clear hh hk)|(at_builtin;refine Kd.jA Kd.string (w0:=w1) w.heap.size rfl (.tmp 19) (.tmp 22) 54 9 (.string ⟨#[]⟩) 16 rfl Tryz.underlying54 linfo9 rfl (by decide) (by omega) _ ys x [.string x] (fun _=>True) (fun _=>False) rfl (by first|(go_simp;done)|(go_simp;rfl)|rfl) rfl (fun _ hk=>hk.elim) (fun _ _=>trivial) (R_fk HV.out.row hbl K1.out) (Below.refl _ _) (Nat.le_trans HV.out.fk.size K1.out.size) (by have:=HLN.out;omega) ?_;intro v3 w3 ho hb3 _ _;have HS:=Ak (HV.out.step hBw HX.out HOK.out.1 HOK.out.2 H1.out K1.out ho hb3 hbl);clear ho hb3))
    have hgk:=HGM.out
    subst hgk
    go_roundg gm
    case measure=>have:=HJ.out;omega
    case rel=>exact ⟨i,_,a2,e2,by rw [WW.out],⟨by have:=HJ.out;omega⟩,HS⟩
   ·rw [ervn he] at c2
    have HE:=Ak (HV.out.stop0 (.inr he))
    have t1:decide ((0:Int)<(j:Int))=true:=dt (by omega)
    clear HV he
    go_wp2
    go_ret
    exact ⟨_,rfl,HE.out⟩
  ·obtain rfl:j=0:=by omega
   have HE:=Ak (HV.out.stop0 (.inl rfl))
   clear HV hj c2
   go_wp2
   go_ret
   exact ⟨_,rfl,HE.out⟩
theorem zZ {α:Type} {d:Kd α} {q g j N:Nat} {w:World} {ok:Nat→Prop} {v u:Value} {xs:List α} (h:d.R q w N ok v xs) (hg:g<N):d.R q (w.setCell ⟨g,j,none⟩ u) N ok v xs :=
 Kd.qm (Kd.Zd (Kd.jv h) (fun k hk _=>Below.heap_setCell w ⟨g,j,none⟩ u k (show k≠g by have:=hk.2.1;omega))) (fun _ h=>h.1)
structure PAt (B b:Nat) (s:ByteArray) (w:World) (a e:Int) (f0:Int) (f1:Bool) (f2:Int) (l3:List Int) (l4:List S67) (l5:List S71) (f6:Int) (f7:ByteArray) (l8:List Int) (l9:List ByteArray) (v3 v4 v5 v8 v9:Value) (W:World):Prop where
 a0:0≤a
 a1:a≤(s.size:Int)
 hb:b<w.heap.size
 hB:B≤w.heap.size
 rd:RD b s a e W
 fk:Fk B b w W
 p4:W.heap[w.heap.size]?=some (.cells #[.int .i64 0,.bool false,.int .i64 0,.slice none 0 0,.slice none 0 0,.slice none 0 0,.int .i64 0,.string ⟨#[]⟩,.slice none 0 0,.slice none 0 0] 56 (0,0))
 p5:W.heap[w.heap.size+1]?=some (.cells #[.int .i64 f0,.bool f1,.int .i64 f2,v3,v4,v5,.int .i64 f6,.string f7,v8,v9] 56 (0,0))
 r3:(Kd.int .u32).R 60 W (w.heap.size+2) (fun _=>True) v3 l3
 r4:k67.R 67 W (w.heap.size+2) (fun _=>True) v4 l4
 r5:k71.R 71 W (w.heap.size+2) (fun _=>True) v5 l5
 r8:(Kd.int .i64).R 3 W (w.heap.size+2) (fun _=>True) v8 l8
 r9:Kd.string.R 9 W (w.heap.size+2) (fun _=>True) v9 l9
section
variable {B b:Nat} {s:ByteArray} {w:World} {a e:Int} {f0:Int} {f1:Bool} {f2:Int} {l3:List Int} {l4:List S67} {l5:List S71} {f6:Int} {f7:ByteArray} {l8:List Int} {l9:List ByteArray} {v3 v4 v5 v8 v9:Value} {W:World} (h:PAt B b s w a e f0 f1 f2 l3 l4 l5 f6 f7 l8 l9 v3 v4 v5 v8 v9 W)
include h
theorem PAt.call {W1:World} {a' e':Int} (h1:a≤a') (h2:a'≤(s.size:Int)) (hr:RD b s a' e' W1) (hk:Fk B b W W1):PAt B b s w a' e' f0 f1 f2 l3 l4 l5 f6 f7 l8 l9 v3 v4 v5 v8 v9 W1 :=
 ⟨Int.le_trans h.a0 h1,h2,h.hb,h.hB,hr,h.fk.trans hk,(hk.oth _ (by have:=h.hb;omega) (yx h.p4)).trans h.p4,(hk.oth _ (by have:=h.hb;omega) (yx h.p5)).trans h.p5,R_fk h.r3 (by have:=h.hb;omega) hk,R_fk h.r4 (by have:=h.hb;omega) hk,R_fk h.r5 (by have:=h.hb;omega) hk,R_fk h.r8 (by have:=h.hb;omega) hk,R_fk h.r9 (by have:=h.hb;omega) hk⟩
theorem PAt.below {W1:World} (hb:Below W.heap.size W W1):PAt B b s w a e f0 f1 f2 l3 l4 l5 f6 f7 l8 l9 v3 v4 v5 v8 v9 W1:=h.call (Int.le_refl _) h.a1 (h.rd.below hb) (Fk.below (Nat.le_trans h.hB h.fk.size) hb)
theorem PAt.c0:W.cell? ⟨w.heap.size+1,0,none⟩=some (.int .i64 f0):=(zi h.p5 0).trans rfl
theorem PAt.z0:W.cell? ⟨w.heap.size,0,none⟩=some (.int .i64 0):=(zi h.p4 0).trans rfl
theorem PAt.set0 (x:Int):PAt B b s w a e x f1 f2 l3 l4 l5 f6 f7 l8 l9 v3 v4 v5 v8 v9 (W.setCell ⟨w.heap.size+1,0,none⟩ (.int .i64 x)) :=
 ⟨h.a0,h.a1,h.hb,h.hB,h.rd.far (by have:=h.hb;omega) _ _,h.fk.jX (by omega) h.hB _ _,(Below.heap_setCell W ⟨w.heap.size+1,0,none⟩ _ w.heap.size (show w.heap.size≠w.heap.size+1 by omega)).trans h.p4,(yO h.p5 0 _).trans rfl,zZ h.r3 (by omega),zZ h.r4 (by omega),zZ h.r5 (by omega),zZ h.r8 (by omega),zZ h.r9 (by omega)⟩
theorem PAt.c1:W.cell? ⟨w.heap.size+1,1,none⟩=some (.bool f1):=(zi h.p5 1).trans rfl
theorem PAt.z1:W.cell? ⟨w.heap.size,1,none⟩=some (.bool false):=(zi h.p4 1).trans rfl
theorem PAt.set1 (x:Bool):PAt B b s w a e f0 x f2 l3 l4 l5 f6 f7 l8 l9 v3 v4 v5 v8 v9 (W.setCell ⟨w.heap.size+1,1,none⟩ (.bool x)) :=
 ⟨h.a0,h.a1,h.hb,h.hB,h.rd.far (by have:=h.hb;omega) _ _,h.fk.jX (by omega) h.hB _ _,(Below.heap_setCell W ⟨w.heap.size+1,1,none⟩ _ w.heap.size (show w.heap.size≠w.heap.size+1 by omega)).trans h.p4,(yO h.p5 1 _).trans rfl,zZ h.r3 (by omega),zZ h.r4 (by omega),zZ h.r5 (by omega),zZ h.r8 (by omega),zZ h.r9 (by omega)⟩
theorem PAt.c2:W.cell? ⟨w.heap.size+1,2,none⟩=some (.int .i64 f2):=(zi h.p5 2).trans rfl
theorem PAt.z2:W.cell? ⟨w.heap.size,2,none⟩=some (.int .i64 0):=(zi h.p4 2).trans rfl
theorem PAt.set2 (x:Int):PAt B b s w a e f0 f1 x l3 l4 l5 f6 f7 l8 l9 v3 v4 v5 v8 v9 (W.setCell ⟨w.heap.size+1,2,none⟩ (.int .i64 x)) :=
 ⟨h.a0,h.a1,h.hb,h.hB,h.rd.far (by have:=h.hb;omega) _ _,h.fk.jX (by omega) h.hB _ _,(Below.heap_setCell W ⟨w.heap.size+1,2,none⟩ _ w.heap.size (show w.heap.size≠w.heap.size+1 by omega)).trans h.p4,(yO h.p5 2 _).trans rfl,zZ h.r3 (by omega),zZ h.r4 (by omega),zZ h.r5 (by omega),zZ h.r8 (by omega),zZ h.r9 (by omega)⟩
theorem PAt.c3:W.cell? ⟨w.heap.size+1,3,none⟩=some (v3):=(zi h.p5 3).trans rfl
theorem PAt.z3:W.cell? ⟨w.heap.size,3,none⟩=some (.slice none 0 0):=(zi h.p4 3).trans rfl
theorem PAt.set3 (x:List Int) (u:Value) (hx:(Kd.int .u32).R 60 W (w.heap.size+2) (fun _=>True) u x):PAt B b s w a e f0 f1 f2 x l4 l5 f6 f7 l8 l9 u v4 v5 v8 v9 (W.setCell ⟨w.heap.size+1,3,none⟩ u) :=
 ⟨h.a0,h.a1,h.hb,h.hB,h.rd.far (by have:=h.hb;omega) _ _,h.fk.jX (by omega) h.hB _ _,(Below.heap_setCell W ⟨w.heap.size+1,3,none⟩ _ w.heap.size (show w.heap.size≠w.heap.size+1 by omega)).trans h.p4,(yO h.p5 3 _).trans rfl,zZ hx (by omega),zZ h.r4 (by omega),zZ h.r5 (by omega),zZ h.r8 (by omega),zZ h.r9 (by omega)⟩
theorem PAt.c4:W.cell? ⟨w.heap.size+1,4,none⟩=some (v4):=(zi h.p5 4).trans rfl
theorem PAt.z4:W.cell? ⟨w.heap.size,4,none⟩=some (.slice none 0 0):=(zi h.p4 4).trans rfl
theorem PAt.set4 (x:List S67) (u:Value) (hx:k67.R 67 W (w.heap.size+2) (fun _=>True) u x):PAt B b s w a e f0 f1 f2 l3 x l5 f6 f7 l8 l9 v3 u v5 v8 v9 (W.setCell ⟨w.heap.size+1,4,none⟩ u) :=
 ⟨h.a0,h.a1,h.hb,h.hB,h.rd.far (by have:=h.hb;omega) _ _,h.fk.jX (by omega) h.hB _ _,(Below.heap_setCell W ⟨w.heap.size+1,4,none⟩ _ w.heap.size (show w.heap.size≠w.heap.size+1 by omega)).trans h.p4,(yO h.p5 4 _).trans rfl,zZ h.r3 (by omega),zZ hx (by omega),zZ h.r5 (by omega),zZ h.r8 (by omega),zZ h.r9 (by omega)⟩
theorem PAt.c5:W.cell? ⟨w.heap.size+1,5,none⟩=some (v5):=(zi h.p5 5).trans rfl
theorem PAt.z5:W.cell? ⟨w.heap.size,5,none⟩=some (.slice none 0 0):=(zi h.p4 5).trans rfl
theorem PAt.set5 (x:List S71) (u:Value) (hx:k71.R 71 W (w.heap.size+2) (fun _=>True) u x):PAt B b s w a e f0 f1 f2 l3 l4 x f6 f7 l8 l9 v3 v4 u v8 v9 (W.setCell ⟨w.heap.size+1,5,none⟩ u) :=
 ⟨h.a0,h.a1,h.hb,h.hB,h.rd.far (by have:=h.hb;omega) _ _,h.fk.jX (by omega) h.hB _ _,(Below.heap_setCell W ⟨w.heap.size+1,5,none⟩ _ w.heap.size (show w.heap.size≠w.heap.size+1 by omega)).trans h.p4,(yO h.p5 5 _).trans rfl,zZ h.r3 (by omega),zZ h.r4 (by omega),zZ hx (by omega),zZ h.r8 (by omega),zZ h.r9 (by omega)⟩
theorem PAt.c6:W.cell? ⟨w.heap.size+1,6,none⟩=some (.int .i64 f6):=(zi h.p5 6).trans rfl
theorem PAt.z6:W.cell? ⟨w.heap.size,6,none⟩=some (.int .i64 0):=(zi h.p4 6).trans rfl
theorem PAt.set6 (x:Int):PAt B b s w a e f0 f1 f2 l3 l4 l5 x f7 l8 l9 v3 v4 v5 v8 v9 (W.setCell ⟨w.heap.size+1,6,none⟩ (.int .i64 x)) :=
 ⟨h.a0,h.a1,h.hb,h.hB,h.rd.far (by have:=h.hb;omega) _ _,h.fk.jX (by omega) h.hB _ _,(Below.heap_setCell W ⟨w.heap.size+1,6,none⟩ _ w.heap.size (show w.heap.size≠w.heap.size+1 by omega)).trans h.p4,(yO h.p5 6 _).trans rfl,zZ h.r3 (by omega),zZ h.r4 (by omega),zZ h.r5 (by omega),zZ h.r8 (by omega),zZ h.r9 (by omega)⟩
theorem PAt.c7:W.cell? ⟨w.heap.size+1,7,none⟩=some (.string f7):=(zi h.p5 7).trans rfl
theorem PAt.z7:W.cell? ⟨w.heap.size,7,none⟩=some (.string ⟨#[]⟩):=(zi h.p4 7).trans rfl
theorem PAt.set7 (x:ByteArray):PAt B b s w a e f0 f1 f2 l3 l4 l5 f6 x l8 l9 v3 v4 v5 v8 v9 (W.setCell ⟨w.heap.size+1,7,none⟩ (.string x)) :=
 ⟨h.a0,h.a1,h.hb,h.hB,h.rd.far (by have:=h.hb;omega) _ _,h.fk.jX (by omega) h.hB _ _,(Below.heap_setCell W ⟨w.heap.size+1,7,none⟩ _ w.heap.size (show w.heap.size≠w.heap.size+1 by omega)).trans h.p4,(yO h.p5 7 _).trans rfl,zZ h.r3 (by omega),zZ h.r4 (by omega),zZ h.r5 (by omega),zZ h.r8 (by omega),zZ h.r9 (by omega)⟩
theorem PAt.c8:W.cell? ⟨w.heap.size+1,8,none⟩=some (v8):=(zi h.p5 8).trans rfl
theorem PAt.z8:W.cell? ⟨w.heap.size,8,none⟩=some (.slice none 0 0):=(zi h.p4 8).trans rfl
theorem PAt.set8 (x:List Int) (u:Value) (hx:(Kd.int .i64).R 3 W (w.heap.size+2) (fun _=>True) u x):PAt B b s w a e f0 f1 f2 l3 l4 l5 f6 f7 x l9 v3 v4 v5 u v9 (W.setCell ⟨w.heap.size+1,8,none⟩ u) :=
 ⟨h.a0,h.a1,h.hb,h.hB,h.rd.far (by have:=h.hb;omega) _ _,h.fk.jX (by omega) h.hB _ _,(Below.heap_setCell W ⟨w.heap.size+1,8,none⟩ _ w.heap.size (show w.heap.size≠w.heap.size+1 by omega)).trans h.p4,(yO h.p5 8 _).trans rfl,zZ h.r3 (by omega),zZ h.r4 (by omega),zZ h.r5 (by omega),zZ hx (by omega),zZ h.r9 (by omega)⟩
theorem PAt.c9:W.cell? ⟨w.heap.size+1,9,none⟩=some (v9):=(zi h.p5 9).trans rfl
theorem PAt.z9:W.cell? ⟨w.heap.size,9,none⟩=some (.slice none 0 0):=(zi h.p4 9).trans rfl
theorem PAt.JI (x:List ByteArray) (u:Value) (hx:Kd.string.R 9 W (w.heap.size+2) (fun _=>True) u x):PAt B b s w a e f0 f1 f2 l3 l4 l5 f6 f7 l8 x v3 v4 v5 v8 u (W.setCell ⟨w.heap.size+1,9,none⟩ u) :=
 ⟨h.a0,h.a1,h.hb,h.hB,h.rd.far (by have:=h.hb;omega) _ _,h.fk.jX (by omega) h.hB _ _,(Below.heap_setCell W ⟨w.heap.size+1,9,none⟩ _ w.heap.size (show w.heap.size≠w.heap.size+1 by omega)).trans h.p4,(yO h.p5 9 _).trans rfl,zZ h.r3 (by omega),zZ h.r4 (by omega),zZ h.r5 (by omega),zZ h.r8 (by omega),zZ hx (by omega)⟩
theorem PAt.fz (j:Nat):W.frozen? ⟨w.heap.size+1,j,none⟩=false:=zn h.p5 j
theorem PAt.gz (j:Nat):W.frozen? ⟨w.heap.size,j,none⟩=false:=zn h.p4 j
end
theorem PAt.fin {B b:Nat} {s:ByteArray} {w:World} {a e:Int} {f0:Int} {f1:Bool} {f2:Int} {l3:List Int} {l4:List S67} {l5:List S71} {f6:Int} {f7:ByteArray} {l8:List Int} {l9:List ByteArray} {v3 v4 v5 v8 v9:Value} {W:World} (h:PAt B b s w a e f0 f1 f2 l3 l4 l5 f6 f7 l8 l9 v3 v4 v5 v8 v9 W):∃ W',W'=((((((((((W.setCell ⟨w.heap.size,0,none⟩ (.int .i64 f0)).setCell ⟨w.heap.size,1,none⟩ (.bool f1)).setCell ⟨w.heap.size,2,none⟩ (.int .i64 f2)).setCell ⟨w.heap.size,3,none⟩ v3).setCell ⟨w.heap.size,4,none⟩ v4).setCell ⟨w.heap.size,5,none⟩ v5).setCell ⟨w.heap.size,6,none⟩ (.int .i64 f6)).setCell ⟨w.heap.size,7,none⟩ (.string f7)).setCell ⟨w.heap.size,8,none⟩ v8).setCell ⟨w.heap.size,9,none⟩ v9)∧W'.heap[w.heap.size]?=some (.cells #[.int .i64 f0,.bool f1,.int .i64 f2,v3,v4,v5,.int .i64 f6,.string f7,v8,v9] 56 (0,0))∧RD b s a e W'∧Fk B b w W'∧(Kd.int .u32).R 60 W' w.heap.size (fun _=>True) v3 l3∧k67.R 67 W' w.heap.size (fun _=>True) v4 l4∧k71.R 71 W' w.heap.size (fun _=>True) v5 l5∧(Kd.int .i64).R 3 W' w.heap.size (fun _=>True) v8 l8∧Kd.string.R 9 W' w.heap.size (fun _=>True) v9 l9:=by
 have hn:b≠w.heap.size:=by have:=h.hb;omega
 have hs:w.heap.size<w.heap.size+1:=Nat.lt_succ_self _
 have hd0:=h.rd
 have hk0:=h.fk
 have p0:=h.p4
 have h30:=Kd.yH h.r3 (show w.heap.size+1≤w.heap.size+2 by omega)
 have h40:=Kd.yH h.r4 (show w.heap.size+1≤w.heap.size+2 by omega)
 have h50:=Kd.yH h.r5 (show w.heap.size+1≤w.heap.size+2 by omega)
 have h80:=Kd.yH h.r8 (show w.heap.size+1≤w.heap.size+2 by omega)
 have h90:=Kd.yH h.r9 (show w.heap.size+1≤w.heap.size+2 by omega)
 have hB:=h.hB
 clear h
 obtain ⟨W1,e0⟩:∃ X,X=W.setCell ⟨w.heap.size,0,none⟩ (.int .i64 f0):=⟨_,rfl⟩
 rw [← e0]
 have p1:W1.heap[w.heap.size]?=some (.cells #[.int .i64 f0,.bool false,.int .i64 0,.slice none 0 0,.slice none 0 0,.slice none 0 0,.int .i64 0,.string ⟨#[]⟩,.slice none 0 0,.slice none 0 0] 56 (0,0)):=by rw [e0];exact (yO p0 0 _).trans rfl
 have hd1:RD b s a e W1:=by rw [e0];exact hd0.far hn _ _
 have hk1:Fk B b w W1:=by rw [e0];exact hk0.jX (Nat.le_refl _) hB _ _
 have h31:(Kd.int .u32).R 60 W1 (w.heap.size+1) (fun _=>True) v3 l3:=by rw [e0];exact zZ h30 hs
 have h41:k67.R 67 W1 (w.heap.size+1) (fun _=>True) v4 l4:=by rw [e0];exact zZ h40 hs
 have h51:k71.R 71 W1 (w.heap.size+1) (fun _=>True) v5 l5:=by rw [e0];exact zZ h50 hs
 have h81:(Kd.int .i64).R 3 W1 (w.heap.size+1) (fun _=>True) v8 l8:=by rw [e0];exact zZ h80 hs
 have h91:Kd.string.R 9 W1 (w.heap.size+1) (fun _=>True) v9 l9:=by rw [e0];exact zZ h90 hs
 clear p0 hd0 hk0 h30 h40 h50 h80 h90 e0
 obtain ⟨W2,e1⟩:∃ X,X=W1.setCell ⟨w.heap.size,1,none⟩ (.bool f1):=⟨_,rfl⟩
 rw [← e1]
 have p2:W2.heap[w.heap.size]?=some (.cells #[.int .i64 f0,.bool f1,.int .i64 0,.slice none 0 0,.slice none 0 0,.slice none 0 0,.int .i64 0,.string ⟨#[]⟩,.slice none 0 0,.slice none 0 0] 56 (0,0)):=by rw [e1];exact (yO p1 1 _).trans rfl
 have hd2:RD b s a e W2:=by rw [e1];exact hd1.far hn _ _
 have hk2:Fk B b w W2:=by rw [e1];exact hk1.jX (Nat.le_refl _) hB _ _
 have h32:(Kd.int .u32).R 60 W2 (w.heap.size+1) (fun _=>True) v3 l3:=by rw [e1];exact zZ h31 hs
 have h42:k67.R 67 W2 (w.heap.size+1) (fun _=>True) v4 l4:=by rw [e1];exact zZ h41 hs
 have h52:k71.R 71 W2 (w.heap.size+1) (fun _=>True) v5 l5:=by rw [e1];exact zZ h51 hs
 have h82:(Kd.int .i64).R 3 W2 (w.heap.size+1) (fun _=>True) v8 l8:=by rw [e1];exact zZ h81 hs
 have h92:Kd.string.R 9 W2 (w.heap.size+1) (fun _=>True) v9 l9:=by rw [e1];exact zZ h91 hs
 clear p1 hd1 hk1 h31 h41 h51 h81 h91 e1
 obtain ⟨W3,e2⟩:∃ X,X=W2.setCell ⟨w.heap.size,2,none⟩ (.int .i64 f2):=⟨_,rfl⟩
 rw [← e2]
 have p3:W3.heap[w.heap.size]?=some (.cells #[.int .i64 f0,.bool f1,.int .i64 f2,.slice none 0 0,.slice none 0 0,.slice none 0 0,.int .i64 0,.string ⟨#[]⟩,.slice none 0 0,.slice none 0 0] 56 (0,0)):=by rw [e2];exact (yO p2 2 _).trans rfl
 have hd3:RD b s a e W3:=by rw [e2];exact hd2.far hn _ _
 have hk3:Fk B b w W3:=by rw [e2];exact hk2.jX (Nat.le_refl _) hB _ _
 have h33:(Kd.int .u32).R 60 W3 (w.heap.size+1) (fun _=>True) v3 l3:=by rw [e2];exact zZ h32 hs
 have h43:k67.R 67 W3 (w.heap.size+1) (fun _=>True) v4 l4:=by rw [e2];exact zZ h42 hs
 have h53:k71.R 71 W3 (w.heap.size+1) (fun _=>True) v5 l5:=by rw [e2];exact zZ h52 hs
 have h83:(Kd.int .i64).R 3 W3 (w.heap.size+1) (fun _=>True) v8 l8:=by rw [e2];exact zZ h82 hs
 have h93:Kd.string.R 9 W3 (w.heap.size+1) (fun _=>True) v9 l9:=by rw [e2];exact zZ h92 hs
 clear p2 hd2 hk2 h32 h42 h52 h82 h92 e2
 obtain ⟨W4,e3⟩:∃ X,X=W3.setCell ⟨w.heap.size,3,none⟩ v3:=⟨_,rfl⟩
 rw [← e3]
 have p4:W4.heap[w.heap.size]?=some (.cells #[.int .i64 f0,.bool f1,.int .i64 f2,v3,.slice none 0 0,.slice none 0 0,.int .i64 0,.string ⟨#[]⟩,.slice none 0 0,.slice none 0 0] 56 (0,0)):=by rw [e3];exact (yO p3 3 _).trans rfl
 have hd4:RD b s a e W4:=by rw [e3];exact hd3.far hn _ _
 have hk4:Fk B b w W4:=by rw [e3];exact hk3.jX (Nat.le_refl _) hB _ _
 have h34:(Kd.int .u32).R 60 W4 (w.heap.size+1) (fun _=>True) v3 l3:=by rw [e3];exact zZ h33 hs
 have h44:k67.R 67 W4 (w.heap.size+1) (fun _=>True) v4 l4:=by rw [e3];exact zZ h43 hs
 have h54:k71.R 71 W4 (w.heap.size+1) (fun _=>True) v5 l5:=by rw [e3];exact zZ h53 hs
 have h84:(Kd.int .i64).R 3 W4 (w.heap.size+1) (fun _=>True) v8 l8:=by rw [e3];exact zZ h83 hs
 have h94:Kd.string.R 9 W4 (w.heap.size+1) (fun _=>True) v9 l9:=by rw [e3];exact zZ h93 hs
 clear p3 hd3 hk3 h33 h43 h53 h83 h93 e3
 obtain ⟨W5,e4⟩:∃ X,X=W4.setCell ⟨w.heap.size,4,none⟩ v4:=⟨_,rfl⟩
 rw [← e4]
 have p5:W5.heap[w.heap.size]?=some (.cells #[.int .i64 f0,.bool f1,.int .i64 f2,v3,v4,.slice none 0 0,.int .i64 0,.string ⟨#[]⟩,.slice none 0 0,.slice none 0 0] 56 (0,0)):=by rw [e4];exact (yO p4 4 _).trans rfl
 have hd5:RD b s a e W5:=by rw [e4];exact hd4.far hn _ _
 have hk5:Fk B b w W5:=by rw [e4];exact hk4.jX (Nat.le_refl _) hB _ _
 have h35:(Kd.int .u32).R 60 W5 (w.heap.size+1) (fun _=>True) v3 l3:=by rw [e4];exact zZ h34 hs
 have h45:k67.R 67 W5 (w.heap.size+1) (fun _=>True) v4 l4:=by rw [e4];exact zZ h44 hs
 have h55:k71.R 71 W5 (w.heap.size+1) (fun _=>True) v5 l5:=by rw [e4];exact zZ h54 hs
 have h85:(Kd.int .i64).R 3 W5 (w.heap.size+1) (fun _=>True) v8 l8:=by rw [e4];exact zZ h84 hs
 have h95:Kd.string.R 9 W5 (w.heap.size+1) (fun _=>True) v9 l9:=by rw [e4];exact zZ h94 hs
 clear p4 hd4 hk4 h34 h44 h54 h84 h94 e4
 obtain ⟨W6,e5⟩:∃ X,X=W5.setCell ⟨w.heap.size,5,none⟩ v5:=⟨_,rfl⟩
 rw [← e5]
 have p6:W6.heap[w.heap.size]?=some (.cells #[.int .i64 f0,.bool f1,.int .i64 f2,v3,v4,v5,.int .i64 0,.string ⟨#[]⟩,.slice none 0 0,.slice none 0 0] 56 (0,0)):=by rw [e5];exact (yO p5 5 _).trans rfl
 have hd6:RD b s a e W6:=by rw [e5];exact hd5.far hn _ _
 have hk6:Fk B b w W6:=by rw [e5];exact hk5.jX (Nat.le_refl _) hB _ _
 have h36:(Kd.int .u32).R 60 W6 (w.heap.size+1) (fun _=>True) v3 l3:=by rw [e5];exact zZ h35 hs
 have h46:k67.R 67 W6 (w.heap.size+1) (fun _=>True) v4 l4:=by rw [e5];exact zZ h45 hs
 have h56:k71.R 71 W6 (w.heap.size+1) (fun _=>True) v5 l5:=by rw [e5];exact zZ h55 hs
 have h86:(Kd.int .i64).R 3 W6 (w.heap.size+1) (fun _=>True) v8 l8:=by rw [e5];exact zZ h85 hs
 have h96:Kd.string.R 9 W6 (w.heap.size+1) (fun _=>True) v9 l9:=by rw [e5];exact zZ h95 hs
 clear p5 hd5 hk5 h35 h45 h55 h85 h95 e5
 obtain ⟨W7,e6⟩:∃ X,X=W6.setCell ⟨w.heap.size,6,none⟩ (.int .i64 f6):=⟨_,rfl⟩
 rw [← e6]
 have p7:W7.heap[w.heap.size]?=some (.cells #[.int .i64 f0,.bool f1,.int .i64 f2,v3,v4,v5,.int .i64 f6,.string ⟨#[]⟩,.slice none 0 0,.slice none 0 0] 56 (0,0)):=by rw [e6];exact (yO p6 6 _).trans rfl
 have hd7:RD b s a e W7:=by rw [e6];exact hd6.far hn _ _
 have hk7:Fk B b w W7:=by rw [e6];exact hk6.jX (Nat.le_refl _) hB _ _
 have h37:(Kd.int .u32).R 60 W7 (w.heap.size+1) (fun _=>True) v3 l3:=by rw [e6];exact zZ h36 hs
 have h47:k67.R 67 W7 (w.heap.size+1) (fun _=>True) v4 l4:=by rw [e6];exact zZ h46 hs
 have h57:k71.R 71 W7 (w.heap.size+1) (fun _=>True) v5 l5:=by rw [e6];exact zZ h56 hs
 have h87:(Kd.int .i64).R 3 W7 (w.heap.size+1) (fun _=>True) v8 l8:=by rw [e6];exact zZ h86 hs
 have h97:Kd.string.R 9 W7 (w.heap.size+1) (fun _=>True) v9 l9:=by rw [e6];exact zZ h96 hs
 clear p6 hd6 hk6 h36 h46 h56 h86 h96 e6
 obtain ⟨W8,e7⟩:∃ X,X=W7.setCell ⟨w.heap.size,7,none⟩ (.string f7):=⟨_,rfl⟩
 rw [← e7]
 have p8:W8.heap[w.heap.size]?=some (.cells #[.int .i64 f0,.bool f1,.int .i64 f2,v3,v4,v5,.int .i64 f6,.string f7,.slice none 0 0,.slice none 0 0] 56 (0,0)):=by rw [e7];exact (yO p7 7 _).trans rfl
 have hd8:RD b s a e W8:=by rw [e7];exact hd7.far hn _ _
 have hk8:Fk B b w W8:=by rw [e7];exact hk7.jX (Nat.le_refl _) hB _ _
 have h38:(Kd.int .u32).R 60 W8 (w.heap.size+1) (fun _=>True) v3 l3:=by rw [e7];exact zZ h37 hs
 have h48:k67.R 67 W8 (w.heap.size+1) (fun _=>True) v4 l4:=by rw [e7];exact zZ h47 hs
 have h58:k71.R 71 W8 (w.heap.size+1) (fun _=>True) v5 l5:=by rw [e7];exact zZ h57 hs
 have h88:(Kd.int .i64).R 3 W8 (w.heap.size+1) (fun _=>True) v8 l8:=by rw [e7];exact zZ h87 hs
 have h98:Kd.string.R 9 W8 (w.heap.size+1) (fun _=>True) v9 l9:=by rw [e7];exact zZ h97 hs
 clear p7 hd7 hk7 h37 h47 h57 h87 h97 e7
 obtain ⟨W9,e8⟩:∃ X,X=W8.setCell ⟨w.heap.size,8,none⟩ v8:=⟨_,rfl⟩
 rw [← e8]
 have p9:W9.heap[w.heap.size]?=some (.cells #[.int .i64 f0,.bool f1,.int .i64 f2,v3,v4,v5,.int .i64 f6,.string f7,v8,.slice none 0 0] 56 (0,0)):=by rw [e8];exact (yO p8 8 _).trans rfl
 have hd9:RD b s a e W9:=by rw [e8];exact hd8.far hn _ _
 have hk9:Fk B b w W9:=by rw [e8];exact hk8.jX (Nat.le_refl _) hB _ _
 have h39:(Kd.int .u32).R 60 W9 (w.heap.size+1) (fun _=>True) v3 l3:=by rw [e8];exact zZ h38 hs
 have h49:k67.R 67 W9 (w.heap.size+1) (fun _=>True) v4 l4:=by rw [e8];exact zZ h48 hs
 have h59:k71.R 71 W9 (w.heap.size+1) (fun _=>True) v5 l5:=by rw [e8];exact zZ h58 hs
 have h89:(Kd.int .i64).R 3 W9 (w.heap.size+1) (fun _=>True) v8 l8:=by rw [e8];exact zZ h88 hs
 have h99:Kd.string.R 9 W9 (w.heap.size+1) (fun _=>True) v9 l9:=by rw [e8];exact zZ h98 hs
 clear p8 hd8 hk8 h38 h48 h58 h88 h98 e8
 obtain ⟨W10,e9⟩:∃ X,X=W9.setCell ⟨w.heap.size,9,none⟩ v9:=⟨_,rfl⟩
 rw [← e9]
 have p10:W10.heap[w.heap.size]?=some (.cells #[.int .i64 f0,.bool f1,.int .i64 f2,v3,v4,v5,.int .i64 f6,.string f7,v8,v9] 56 (0,0)):=by rw [e9];exact (yO p9 9 _).trans rfl
 have hd10:RD b s a e W10:=by rw [e9];exact hd9.far hn _ _
 have hk10:Fk B b w W10:=by rw [e9];exact hk9.jX (Nat.le_refl _) hB _ _
 have h310:(Kd.int .u32).R 60 W10 (w.heap.size+1) (fun _=>True) v3 l3:=by rw [e9];exact zZ h39 hs
 have h410:k67.R 67 W10 (w.heap.size+1) (fun _=>True) v4 l4:=by rw [e9];exact zZ h49 hs
 have h510:k71.R 71 W10 (w.heap.size+1) (fun _=>True) v5 l5:=by rw [e9];exact zZ h59 hs
 have h810:(Kd.int .i64).R 3 W10 (w.heap.size+1) (fun _=>True) v8 l8:=by rw [e9];exact zZ h89 hs
 have h910:Kd.string.R 9 W10 (w.heap.size+1) (fun _=>True) v9 l9:=by rw [e9];exact zZ h99 hs
 clear p9 hd9 hk9 h39 h49 h59 h89 h99 e9
 exact ⟨W10,rfl,p10,hd10,hk10,Kd.yH h310 (show w.heap.size≤w.heap.size+1 by omega),Kd.yH h410 (show w.heap.size≤w.heap.size+1 by omega),Kd.yH h510 (show w.heap.size≤w.heap.size+1 by omega),Kd.yH h810 (show w.heap.size≤w.heap.size+1 by omega),Kd.yH h910 (show w.heap.size≤w.heap.size+1 by omega)⟩
def Vo (x:ByteArray) (ls:List Int) (us:List ByteArray):Bool:=decide (x.toList=[]) && (decide (ls.length=0) && decide (us.length=0))
theorem bare_eq (f0:Int) (f1:Bool) (f2:Int) (l3:List Int) (l4:List S67) (l5:List S71) (f6:Int) (f7:ByteArray) (l8:List Int) (l9:List ByteArray):xk.f f0 f1 f2 l3 l4 l5 f6 f7 l8 l9=some (Vo f7 l8 l9):=by
 unfold xk.f Vo
 by_cases h1:f7.toList=[]
 ·rw [if_pos h1,dt h1]
  by_cases h2:l8.length=0
  ·rw [if_pos (by omega),dt h2]
   by_cases h3:l9.length=0
   ·simp [h3]
   ·have:((l9.length:Int) == 0)=false:=bF (by omega)
    rw [this,df h3];rfl
  ·rw [if_neg (by omega),df h2];rfl
 ·rw [if_neg h1,df h1];rfl
theorem kJ {α:Type} {F:Int→Int→α×Int×Int} {s:ByteArray} (hF:∀ a,0≤a→a≤(s.size:Int)→a≤(F a 0).2.1∧(F a 0).2.1≤(s.size:Int)):∀ (n:Nat) (a e:Int),0≤a→a≤(s.size:Int)→a≤(jm F n a e).2.1∧(jm F n a e).2.1≤(s.size:Int)∧(jm F n a e).1.length≤n∧(e≠0→(jm F n a e).2.2=e)
 | 0,a,e,_,hs=>⟨Int.le_refl _,hs,Nat.le_refl _,fun _=>rfl⟩
 | n+1,a,e,ha,hs=>by
  rw [jm]
  by_cases he:e=0
  ·rw [if_pos he]
   subst he
   obtain ⟨h1,h2⟩:=hF a ha hs
   obtain ⟨k1,k2,k3,_⟩:=kJ hF n (F a 0).2.1 (F a 0).2.2 (Int.le_trans ha h1) h2
   exact ⟨Int.le_trans h1 k1,k2,by simpa using k3,fun h=>absurd rfl h⟩
  ·rw [if_neg he]
   exact ⟨Int.le_refl _,hs,Nat.zero_le _,fun _=>rfl⟩
theorem X7 {s:ByteArray} {n a e:Int} (hg:Xn s) (ha:0≤a) (hs:a≤(s.size:Int)):((ZN s n a e).1=0∨(ZN s n a e).1=n)∧0≤(ZN s n a e).1∧a≤(ZN s n a e).2.1∧(ZN s n a e).2.1≤(s.size:Int)∧(e≠0→(ZN s n a e).2.2=e):=by
 obtain ⟨h1,h2,_,h3,h4,h5,_⟩:=qL (e:=e) hg ha hs (Int.le_refl 0) (show (0:Int)≤16777215 by decide)
 unfold ZN
 split
 ·exact ⟨.inl rfl,Int.le_refl _,h3,h4,fun he=>by show (if _ then _ else _)=e;rw [h5 he,if_neg he]⟩
 ·refine ⟨?_,h1,h3,h4,h5⟩
  by_cases h0:(kD s 0 16777215 a e).1=0
  ·exact .inl h0
  ·by_cases hn:(kD s 0 16777215 a e).1=n
   ·exact .inr hn
   ·exact absurd (And.intro h0 hn) ‹_›
def Yp (k:Nat) (s:ByteArray) (kids a e:Int):S56×Int×Int×Int :=
 let r1:=xq s 1 a e
 let r2:=kD s 0 250 r1.2.1 r1.2.2
 let r3:=kD s (max 1 r2.1) 250 r2.2.1 r2.2.2
 let r4:=kD s 1 2000 r3.2.1 r3.2.2
 let r5:=jm (fun a e=>Yh s a e) r4.1.toNat r4.2.1 r4.2.2
 let r6:=kD s 0 500 r5.2.1 r5.2.2
 let r7:=jm (fun a e=>rV k s a e) r6.1.toNat r6.2.1 r6.2.2
 let r8:=kD s 0 60 r7.2.1 r7.2.2
 let r9:=jm (fun a e=>rU s a e) r8.1.toNat r8.2.1 r8.2.2
 let r10:=kD s 0 kids r9.2.1 r9.2.2
 (⟨r2.1,r1.1 == 1,r3.1,r5.1,r7.1,r9.1,r10.1,⟨#[]⟩,[],[]⟩,xq s 1 r10.2.1 r10.2.2)
def XL (s:ByteArray) (p:S56) (a e:Int):S56×Int×Int :=
 let r1:=vM s a e
 let r2:=ZN s (p.f3.length:Int) r1.2.1 r1.2.2
 let r3:=jm (fun a e=>kD s 0 16777215 a e) r2.1.toNat r2.2.1 r2.2.2
 let r4:=ZN s (p.f5.length:Int) r3.2.1 r3.2.2
 let r5:=jm (fun a e=>vM s a e) r4.1.toNat r4.2.1 r4.2.2
 (⟨p.f0,p.f1,p.f2,p.f3,p.f4,p.f5,p.f6,r1.1,r3.1,r5.1⟩,r5.2.1,if Vo r1.1 r3.1 r5.1=true then (if r5.2.2=0 then 3 else r5.2.2) else r5.2.2)
def vF (k:Nat) (s:ByteArray) (kids a e:Int):S56×Int×Int :=
 if (Yp k s kids a e).2.1=1 then XL s (Yp k s kids a e).1 (Yp k s kids a e).2.2.1 (Yp k s kids a e).2.2.2 else ((Yp k s kids a e).1,(Yp k s kids a e).2.2)
structure HeadAt (k:Nat) (s:ByteArray) (kids a e:Int) (f0:Int) (f1:Bool) (f2:Int) (l3:List Int) (l4:List S67) (l5:List S71) (f6:Int) (v a11 e11 v1 a1 e1 a2 e2 a3 e3:Int) (n4:Nat) (a4 e4 a5 e5:Int) (n6:Nat) (a6 e6 a7 e7:Int) (n8:Nat) (a8 e8 a9 e9 a10 e10:Int):Prop where
 h1:xq s 1 a e=(v1,a1,e1)∧a≤a1∧a1≤(s.size:Int)
 g1:f1=(v1 == 1)
 h2:kD s 0 250 a1 e1=(f0,a2,e2)∧a1≤a2∧a2≤(s.size:Int)∧0≤f0∧f0≤250
 h3:kD s (max 1 f0) 250 a2 e2=(f2,a3,e3)∧a2≤a3∧a3≤(s.size:Int)
 h4:kD s 1 2000 a3 e3=((n4:Int),a4,e4)∧a3≤a4∧a4≤(s.size:Int)∧n4≤2000
 h5:jm (fun a e=>Yh s a e) n4 a4 e4=(l3,a5,e5)∧a4≤a5∧a5≤(s.size:Int)∧l3.length≤2000
 h6:kD s 0 500 a5 e5=((n6:Int),a6,e6)∧a5≤a6∧a6≤(s.size:Int)∧n6≤2000
 h7:jm (fun a e=>rV k s a e) n6 a6 e6=(l4,a7,e7)∧a6≤a7∧a7≤(s.size:Int)
 h8:kD s 0 60 a7 e7=((n8:Int),a8,e8)∧a7≤a8∧a8≤(s.size:Int)∧n8≤2000
 h9:jm (fun a e=>rU s a e) n8 a8 e8=(l5,a9,e9)∧a8≤a9∧a9≤(s.size:Int)∧l5.length≤2000
 h10:kD s 0 kids a9 e9=(f6,a10,e10)∧a9≤a10∧a10≤(s.size:Int)
 h11:xq s 1 a10 e10=(v,a11,e11)∧a10≤a11∧a11≤(s.size:Int)∧0≤v∧v≤1
theorem tri {α β γ:Type} (x:α×β×γ):∃ a b c,x=(a,b,c):=⟨x.1,x.2.1,x.2.2,rfl⟩
theorem word_ok {s:ByteArray}:∀ a,0≤a→a≤(s.size:Int)→a≤((fun a e=>Yh s a e) a 0).2.1∧((fun a e=>Yh s a e) a 0).2.1≤(s.size:Int):=fun a ha hs=>(fun h=>⟨h.1,h.2.1⟩) (Zm (n:=4) (e:=0) (by decide) ha hs)
theorem head_at {k:Nat} {s:ByteArray} {kids a e:Int} (hg:Xn s) (hk:0≤kids) (ha:0≤a) (hs:a≤(s.size:Int)) {p:S56} {v a11 e11:Int} (hr:Yp k s kids a e=(p,v,a11,e11)) :
  p.f7=⟨#[]⟩∧p.f8=[]∧p.f9=[]∧∃ v1 a1 e1 a2 e2 a3 e3 n4 a4 e4 a5 e5 n6 a6 e6 a7 e7 n8 a8 e8 a9 e9 a10 e10,HeadAt k s kids a e p.f0 p.f1 p.f2 p.f3 p.f4 p.f5 p.f6 v a11 e11 v1 a1 e1 a2 e2 a3 e3 n4 a4 e4 a5 e5 n6 a6 e6 a7 e7 n8 a8 e8 a9 e9 a10 e10:=by
 unfold Yp at hr
 dsimp only at hr
 obtain ⟨_,_,o3,o4,_⟩:=vX (m:=1) (e:=e) ha hs (by decide)
 obtain ⟨v1,a1,e1,h1⟩:=tri (xq s 1 a e)
 rw [h1] at hr o3 o4
 dsimp only at hr o3 o4
 have b1:0≤a1:=Int.le_trans ha o3
 obtain ⟨p1,p2,_,p3,p4,_⟩:=qL (lo:=0) (hi:=250) (e:=e1) hg b1 o4 (by decide) (by decide)
 obtain ⟨f0,a2,e2,h2⟩:=tri (kD s 0 250 a1 e1)
 rw [h2] at hr p1 p2 p3 p4
 dsimp only at hr p1 p2 p3 p4
 have b2:0≤a2:=Int.le_trans b1 p3
 obtain ⟨_,_,_,q3,q4,_⟩:=qL (lo:=max 1 f0) (hi:=250) (e:=e2) hg b2 p4 (by omega) (by decide)
 obtain ⟨f2,a3,e3,h3⟩:=tri (kD s (max 1 f0) 250 a2 e2)
 rw [h3] at hr q3 q4
 dsimp only at hr q3 q4
 have b3:0≤a3:=Int.le_trans b2 q3
 obtain ⟨r1,r2,_,r3,r4,_⟩:=qL (lo:=1) (hi:=2000) (e:=e3) hg b3 q4 (by decide) (by decide)
 obtain ⟨m4,a4,e4,h4⟩:=tri (kD s 1 2000 a3 e3)
 rw [h4] at hr r1 r2 r3 r4
 dsimp only at hr r1 r2 r3 r4
 obtain ⟨n4,rfl⟩:∃ n:Nat,m4=(n:Int):=⟨m4.toNat,by omega⟩
 rw [Int.toNat_natCast] at hr
 have b4:0≤a4:=Int.le_trans b3 r3
 obtain ⟨s1,s2,s3,_⟩:=kJ (word_ok (s:=s)) n4 a4 e4 b4 r4
 obtain ⟨l3,a5,e5,h5⟩:=tri (jm (fun a e=>Yh s a e) n4 a4 e4)
 rw [h5] at hr s1 s2 s3
 dsimp only at hr s1 s2 s3
 have b5:0≤a5:=Int.le_trans b4 s1
 obtain ⟨t1,t2,_,t3,t4,_⟩:=qL (lo:=0) (hi:=500) (e:=e5) hg b5 s2 (by decide) (by decide)
 obtain ⟨m6,a6,e6,h6⟩:=tri (kD s 0 500 a5 e5)
 rw [h6] at hr t1 t2 t3 t4
 dsimp only at hr t1 t2 t3 t4
 obtain ⟨n6,rfl⟩:∃ n:Nat,m6=(n:Int):=⟨m6.toNat,by omega⟩
 rw [Int.toNat_natCast] at hr
 have b6:0≤a6:=Int.le_trans b5 t3
 obtain ⟨u1,u2,_,_⟩:=kJ (F:=fun a e=>rV k s a e) (fun a ha hs=>(fun h=>⟨h.1,h.2.1⟩) (rV_ok (k:=k) (e:=0) hg ha hs)) n6 a6 e6 b6 t4
 obtain ⟨l4,a7,e7,h7⟩:=tri (jm (fun a e=>rV k s a e) n6 a6 e6)
 rw [h7] at hr u1 u2
 dsimp only at hr u1 u2
 have b7:0≤a7:=Int.le_trans b6 u1
 obtain ⟨w1,w2,_,w3,w4,_⟩:=qL (lo:=0) (hi:=60) (e:=e7) hg b7 u2 (by decide) (by decide)
 obtain ⟨m8,a8,e8,h8⟩:=tri (kD s 0 60 a7 e7)
 rw [h8] at hr w1 w2 w3 w4
 dsimp only at hr w1 w2 w3 w4
 obtain ⟨n8,rfl⟩:∃ n:Nat,m8=(n:Int):=⟨m8.toNat,by omega⟩
 rw [Int.toNat_natCast] at hr
 have b8:0≤a8:=Int.le_trans b7 w3
 obtain ⟨x1,x2,x3,_⟩:=kJ (F:=fun a e=>rU s a e) (fun a ha hs=>(fun h=>⟨h.1,h.2.1⟩) (rU_ok (e:=0) hg ha hs)) n8 a8 e8 b8 w4
 obtain ⟨l5,a9,e9,h9⟩:=tri (jm (fun a e=>rU s a e) n8 a8 e8)
 rw [h9] at hr x1 x2 x3
 dsimp only at hr x1 x2 x3
 have b9:0≤a9:=Int.le_trans b8 x1
 obtain ⟨_,_,_,y3,y4,_⟩:=qL (lo:=0) (hi:=kids) (e:=e9) hg b9 x2 (by decide) hk
 obtain ⟨f6,a10,e10,h10⟩:=tri (kD s 0 kids a9 e9)
 rw [h10] at hr y3 y4
 dsimp only at hr y3 y4
 have b10:0≤a10:=Int.le_trans b9 y3
 obtain ⟨z1,z2,z3,z4,_⟩:=vX (m:=1) (e:=e10) b10 y4 (by decide)
 obtain ⟨vv,a11',e11',h11⟩:=tri (xq s 1 a10 e10)
 rw [h11] at hr z1 z2 z3 z4
 dsimp only at hr z1 z2 z3 z4
 cases hr
 exact ⟨rfl,rfl,rfl,v1,a1,e1,a2,e2,a3,e3,n4,a4,e4,a5,e5,n6,a6,e6,a7,e7,n8,a8,e8,a9,e9,a10,e10,⟨⟨h1,o3,o4⟩,rfl,⟨h2,p3,p4,p1,p2⟩,⟨h3,q3,q4⟩,⟨h4,r3,r4,by omega⟩,⟨h5,s1,s2,Nat.le_trans s3 (by omega)⟩,⟨h6,t3,t4,by omega⟩,⟨h7,u1,u2⟩,⟨h8,w3,w4,by omega⟩,⟨h9,x1,x2,Nat.le_trans x3 (by omega)⟩,⟨h10,y3,y4⟩,⟨h11,z3,z4,z1,z2⟩⟩⟩
structure DebugAt (s:ByteArray) (l3:List Int) (l5:List S71) (a11 e11:Int) (f7:ByteArray) (l8:List Int) (l9:List ByteArray) (a12 e12:Int) (n13:Nat) (a13 e13 a14 e14:Int) (n15:Nat) (a15 e15 a16 e16:Int):Prop where
 d1:vM s a11 e11=(f7,a12,e12)∧a11≤a12∧a12≤(s.size:Int)
 d2:ZN s (l3.length:Int) a12 e12=((n13:Int),a13,e13)∧a12≤a13∧a13≤(s.size:Int)∧n13≤2000
 d3:jm (fun a e=>kD s 0 16777215 a e) n13 a13 e13=(l8,a14,e14)∧a13≤a14∧a14≤(s.size:Int)
 d4:ZN s (l5.length:Int) a14 e14=((n15:Int),a15,e15)∧a14≤a15∧a15≤(s.size:Int)∧n15≤2000
 d5:jm (fun a e=>vM s a e) n15 a15 e15=(l9,a16,e16)∧a15≤a16∧a16≤(s.size:Int)
theorem JJ {s:ByteArray} (hg:Xn s) {p q:S56} {a11 e11 a' e':Int} (ha:0≤a11) (hs:a11≤(s.size:Int)) (h3:p.f3.length≤2000) (h5:p.f5.length≤2000) (hr:XL s p a11 e11=(q,a',e')) :
  ∃ f7 l8 l9 a12 e12 n13 a13 e13 a14 e14 n15 a15 e15 e16,DebugAt s p.f3 p.f5 a11 e11 f7 l8 l9 a12 e12 n13 a13 e13 a14 e14 n15 a15 e15 a' e16∧q=⟨p.f0,p.f1,p.f2,p.f3,p.f4,p.f5,p.f6,f7,l8,l9⟩∧e'=if Vo f7 l8 l9=true then (if e16=0 then 3 else e16) else e16:=by
 unfold XL at hr
 dsimp only at hr
 obtain ⟨o1,o2,_,_⟩:=vI (e:=e11) hg ha hs
 obtain ⟨f7,a12,e12,h1⟩:=tri (vM s a11 e11)
 rw [h1] at hr o1 o2
 dsimp only at hr o1 o2
 have b1:0≤a12:=Int.le_trans ha o1
 obtain ⟨p0,p1,p2,p3,_⟩:=X7 (n:=(p.f3.length:Int)) (e:=e12) hg b1 o2
 obtain ⟨m13,a13,e13,h2⟩:=tri (ZN s (p.f3.length:Int) a12 e12)
 rw [h2] at hr p0 p1 p2 p3
 dsimp only at hr p0 p1 p2 p3
 obtain ⟨n13,rfl⟩:∃ n:Nat,m13=(n:Int):=⟨m13.toNat,by omega⟩
 rw [Int.toNat_natCast] at hr
 have b2:0≤a13:=Int.le_trans b1 p2
 obtain ⟨q1,q2,_,_⟩:=kJ (F:=fun a e=>kD s 0 16777215 a e) (fun a ha hs=>(fun h=>⟨h.2.2.2.1,h.2.2.2.2.1⟩) (qL (e:=0) hg ha hs (Int.le_refl 0) (show (0:Int)≤16777215 by decide))) n13 a13 e13 b2 p3
 obtain ⟨l8,a14,e14,h3'⟩:=tri (jm (fun a e=>kD s 0 16777215 a e) n13 a13 e13)
 rw [h3'] at hr q1 q2
 dsimp only at hr q1 q2
 have b3:0≤a14:=Int.le_trans b2 q1
 obtain ⟨r0,r1,r2,r3,_⟩:=X7 (n:=(p.f5.length:Int)) (e:=e14) hg b3 q2
 obtain ⟨m15,a15,e15,h4⟩:=tri (ZN s (p.f5.length:Int) a14 e14)
 rw [h4] at hr r0 r1 r2 r3
 dsimp only at hr r0 r1 r2 r3
 obtain ⟨n15,rfl⟩:∃ n:Nat,m15=(n:Int):=⟨m15.toNat,by omega⟩
 rw [Int.toNat_natCast] at hr
 have b4:0≤a15:=Int.le_trans b3 r2
 obtain ⟨s1,s2,_,_⟩:=kJ (F:=fun a e=>vM s a e) (fun a ha hs=>(fun h=>⟨h.1,h.2.1⟩) (vI (e:=0) hg ha hs)) n15 a15 e15 b4 r3
 obtain ⟨l9,a16,e16,h5'⟩:=tri (jm (fun a e=>vM s a e) n15 a15 e15)
 rw [h5'] at hr s1 s2
 dsimp only at hr s1 s2
 obtain ⟨g1,g2,g3⟩:=pr3 hr
 subst g2
 exact ⟨f7,l8,l9,a12,e12,n13,a13,e13,a14,e14,n15,a15,e15,e16,⟨⟨h1,o1,o2⟩,⟨h2,p2,p3,by omega⟩,⟨h3',q1,q2⟩,⟨h4,r2,r3,by omega⟩,⟨h5',s1,s2⟩⟩,g1.symm,g3.symm⟩
theorem proto_start {B b:Nat} {s:ByteArray} {a e:Int} {w:World} (h:RD b s a e w) (hBw:B≤w.heap.size) (ha:0≤a) (hs:a≤(s.size:Int)) :
  PAt B b s w a e 0 false 0 [] [] [] 0 ⟨#[]⟩ [] [] (.slice none 0 0) (.slice none 0 0) (.slice none 0 0) (.slice none 0 0) (.slice none 0 0) ((w.alloc (.cells #[.int .i64 0,.bool false,.int .i64 0,.slice none 0 0,.slice none 0 0,.slice none 0 0,.int .i64 0,.string ⟨#[]⟩,.slice none 0 0,.slice none 0 0] 56 (0,0))).alloc (.cells #[.int .i64 0,.bool false,.int .i64 0,.slice none 0 0,.slice none 0 0,.slice none 0 0,.int .i64 0,.string ⟨#[]⟩,.slice none 0 0,.slice none 0 0] 56 (0,0))):=by
 have h1:Below w.heap.size w (w.alloc (.cells #[.int .i64 0,.bool false,.int .i64 0,.slice none 0 0,.slice none 0 0,.slice none 0 0,.int .i64 0,.string ⟨#[]⟩,.slice none 0 0,.slice none 0 0] 56 (0,0))):=zS (Below.refl _ _) _
 have h2:=zS h1 (.cells #[.int .i64 0,.bool false,.int .i64 0,.slice none 0 0,.slice none 0 0,.slice none 0 0,.int .i64 0,.string ⟨#[]⟩,.slice none 0 0,.slice none 0 0] 56 (0,0))
 refine ⟨ha,hs,h.lt,hBw,h.below h2,Fk.below hBw h2,?_,?_,Kd.Qg _ _ _ _ _,Kd.Qg _ _ _ _ _,Kd.Qg _ _ _ _ _,Kd.Qg _ _ _ _ _,Kd.Qg _ _ _ _ _⟩
 ·exact zT (jK w _) _
 ·have:=jK (w.alloc (.cells #[.int .i64 0,.bool false,.int .i64 0,.slice none 0 0,.slice none 0 0,.slice none 0 0,.int .i64 0,.string ⟨#[]⟩,.slice none 0 0,.slice none 0 0] 56 (0,0))) (.cells #[.int .i64 0,.bool false,.int .i64 0,.slice none 0 0,.slice none 0 0,.slice none 0 0,.int .i64 0,.string ⟨#[]⟩,.slice none 0 0,.slice none 0 0] 56 (0,0))
  rwa [World.size_alloc] at this
theorem bare_of {bb:Bool} {f0:Int} {f1:Bool} {f2:Int} {l3:List Int} {l4:List S67} {l5:List S71} {f6:Int} {f7:ByteArray} {l8:List Int} {l9:List ByteArray} (h:Vo f7 l8 l9=bb):xk.f f0 f1 f2 l3 l4 l5 f6 f7 l8 l9=some bb:=(bare_eq ..).trans (congrArg some h)
def ProtoEnd (B b:Nat) (s:ByteArray) (w:World) (p:S56) (a' e':Int) (r:Ending) (w':World):Prop :=
 ∃ v3 v4 v5 v8 v9,r=.returned (.agg #[.int .i64 p.f0,.bool p.f1,.int .i64 p.f2,v3,v4,v5,.int .i64 p.f6,.string p.f7,v8,v9])∧(Kd.int .u32).R 60 w' w.heap.size (fun _=>True) v3 p.f3∧k67.R 67 w' w.heap.size (fun _=>True) v4 p.f4∧k71.R 71 w' w.heap.size (fun _=>True) v5 p.f5∧(Kd.int .i64).R 3 w' w.heap.size (fun _=>True) v8 p.f8∧Kd.string.R 9 w' w.heap.size (fun _=>True) v9 p.f9∧RD b s a' e' w'∧Fk B b w w'
theorem PAt.done {B b:Nat} {s:ByteArray} {w:World} {a e:Int} {f0:Int} {f1:Bool} {f2:Int} {l3:List Int} {l4:List S67} {l5:List S71} {f6:Int} {f7:ByteArray} {l8:List Int} {l9:List ByteArray} {v3 v4 v5 v8 v9:Value} {W:World} (h:PAt B b s w a e f0 f1 f2 l3 l4 l5 f6 f7 l8 l9 v3 v4 v5 v8 v9 W):∃ W',W'=((((((((((W.setCell ⟨w.heap.size,0,none⟩ (.int .i64 f0)).setCell ⟨w.heap.size,1,none⟩ (.bool f1)).setCell ⟨w.heap.size,2,none⟩ (.int .i64 f2)).setCell ⟨w.heap.size,3,none⟩ v3).setCell ⟨w.heap.size,4,none⟩ v4).setCell ⟨w.heap.size,5,none⟩ v5).setCell ⟨w.heap.size,6,none⟩ (.int .i64 f6)).setCell ⟨w.heap.size,7,none⟩ (.string f7)).setCell ⟨w.heap.size,8,none⟩ v8).setCell ⟨w.heap.size,9,none⟩ v9)∧W'.heap[w.heap.size]?=some (.cells #[.int .i64 f0,.bool f1,.int .i64 f2,v3,v4,v5,.int .i64 f6,.string f7,v8,v9] 56 (0,0))∧ProtoEnd B b s w ⟨f0,f1,f2,l3,l4,l5,f6,f7,l8,l9⟩ a e (.returned (.agg #[.int .i64 f0,.bool f1,.int .i64 f2,v3,v4,v5,.int .i64 f6,.string f7,v8,v9])) W':=by
 obtain ⟨W',hW,hh,hd,hk,h3,h4,h5,h8,h9⟩:=h.fin
 exact ⟨W',hW,hh,v3,v4,v5,v8,v9,rfl,h3,h4,h5,h8,h9,hd,hk⟩
theorem proto0 (k:Nat) (hk8:∀ s:ByteArray,s.size≤8→∃ r,zU.f k s 0=some r) (B b:Nat) (s:ByteArray) (kids a e:Int) (f0:Int) (f2:Int) (l3:List Int) (l4:List S67) (l5:List S71) (f6 v a11 e11 v1 a1 e1 a2 e2 a3 e3:Int) (n4:Nat) (a4 e4 a5 e5:Int) (n6:Nat) (a6 e6 a7 e7:Int) (n8:Nat) (a8 e8 a9 e9 a10 e10:Int) (w:World) (h:RD b s a e w) (hB:B≤b) (hBw:B≤w.heap.size) (hg:Xn s) (ha:0≤a) (hs:a≤(s.size:Int)) (hz:s.size≤140737488351232)
  (hA:HeadAt k s kids a e f0 (v1 == 1) f2 l3 l4 l5 f6 v a11 e11 v1 a1 e1 a2 e2 a3 e3 n4 a4 e4 a5 e5 n6 a6 e6 a7 e7 n8 a8 e8 a9 e9 a10 e10)
  (f7:ByteArray) (l8:List Int) (l9:List ByteArray) (a12 e12:Int) (n13:Nat) (a13 e13 a14 e14:Int) (n15:Nat) (a15 e15 a16 e16:Int) (bb:Bool)
  (p:S56) (a' e':Int) (hd:(v≠1∧⟨f0,v1 == 1,f2,l3,l4,l5,f6,⟨#[]⟩,[],[]⟩=p∧a11=a'∧e11=e') ∨
   (v=1∧DebugAt s l3 l5 a11 e11 f7 l8 l9 a12 e12 n13 a13 e13 a14 e14 n15 a15 e15 a16 e16∧Vo f7 l8 l9=bb∧⟨f0,v1 == 1,f2,l3,l4,l5,f6,f7,l8,l9⟩=p∧a16=a'∧e'=if bb=true then (if e16=0 then 3 else e16) else e16)) :
  Calls Tryz.prog 39 #[.pointer (some ⟨b,0,none⟩),.int .i64 kids] w (ProtoEnd B b s w p a' e'):=by
 have hu38:=Tryz.underlying56
 have P0:=Ak (proto_start h hBw ha hs)
 have HA:=Ak hA
 have hf0:=hA.h2.2.2.2
 have hlt:=h.lt
 obtain ⟨M,hM⟩:∃ M,(if 1<f0 then f0 else 1)=M:=⟨_,rfl⟩
 have HM:zh (max 1 f0=M):=⟨by rw [← hM];split <;> omega⟩
 have H3:=Ak (HM.out ▸ hA.h3)
 clear h hA ha hs
 rcases hd with ⟨hv,rfl,rfl,rfl⟩|⟨hv,da,hbb,rfl,rfl,he⟩
 ·have hv0:(v == 1)=false:=bF hv
  clear hv
  go_enter Tryz.func39,Tryz.ntmps39
  go_wp2_with (first|(go_at_call 71;refine (flag B b s a e v1 a1 e1 _ P0.out.rd hB P0.out.a0 P0.out.a1 hz HA.out.h1.1).mono ?_;rintro r w1 ⟨rfl,hh,hk⟩;have hp:=P0.out.call HA.out.h1.2.1 HA.out.h1.2.2 hh hk;have c1:=hp.c1;have d1:=hp.fz 1;have P1:=Ak (hp);clear hh hk hp;clear P0)|(go_at_call 72;refine (num B b s 0 250 a1 e1 f0 a2 e2 _ (P1.out.set1 (v1 == 1)).rd hB hg (P1.out.set1 (v1 == 1)).a0 (P1.out.set1 (v1 == 1)).a1 hz HA.out.h2.1).mono ?_;rintro r w2 ⟨rfl,hh,hk⟩;have hp:=(P1.out.set1 (v1 == 1)).call HA.out.h2.2.1 HA.out.h2.2.2.1 hh hk;have c0:=hp.c0;have d0:=hp.fz 0;have P2:=Ak hp;clear hh hk hp;clear P1)|(go_at_call 72;refine (num B b s M 250 a2 e2 f2 a3 e3 _ (P2.out.set0 f0).rd hB hg (P2.out.set0 f0).a0 (P2.out.set0 f0).a1 hz H3.out.1).mono ?_;rintro r w3 ⟨rfl,hh,hk⟩;have hp:=(P2.out.set0 f0).call H3.out.2.1 H3.out.2.2 hh hk;have c2:=hp.c2;have d2:=hp.fz 2;have P3:=Ak hp;clear hh hk hp;clear P2)|(go_at_call 72;refine (num B b s 1 2000 a3 e3 (n4:Int) a4 e4 _ (P3.out.set2 f2).rd hB hg (P3.out.set2 f2).a0 (P3.out.set2 f2).a1 hz HA.out.h4.1).mono ?_;rintro r w4 ⟨rfl,hh,hk⟩;have hp:=(P3.out.set2 f2).call HA.out.h4.2.1 HA.out.h4.2.2.1 hh hk;have P4:=Ak hp;clear hh hk hp;clear P3)|(go_at_call 73;refine (some26 B b s n4 a4 e4 l3 a5 e5 _ P4.out.rd hB (Nat.le_trans hBw P4.out.fk.size) hg HA.out.h4.2.2.2 P4.out.a0 P4.out.a1 hz HA.out.h5.1).mono ?_;rintro r w5 ⟨u,rfl,hu,hh,hk⟩;obtain ⟨A3,q3,rfl,hl3,hC3⟩:=Kd.kV hu;have hu':=Kd.yH hu (show w.heap.size+2≤_ from yx P4.out.p5);have hp:=P4.out.call HA.out.h5.2.1 HA.out.h5.2.2.1 hh hk;have U3:=Ak hu';have L3:=Ak hl3;have c3:=hp.c3;have d3:=hp.fz 3;have P5:=Ak hp;clear hh hk hp hu hu' hl3 hC3;clear P4)|(go_at_call 72;refine (num B b s 0 500 a5 e5 (n6:Int) a6 e6 _ (P5.out.set3 l3 _ U3.out).rd hB hg (P5.out.set3 l3 _ U3.out).a0 (P5.out.set3 l3 _ U3.out).a1 hz HA.out.h6.1).mono ?_;rintro r w6 ⟨rfl,hh,hk⟩;have hp:=(P5.out.set3 l3 _ U3.out).call HA.out.h6.2.1 HA.out.h6.2.2.1 hh hk;have P6:=Ak hp;clear hh hk hp;clear P5)|(go_at_call 75;refine (some28 k hk8 B b s n6 a6 e6 l4 a7 e7 _ P6.out.rd hB (Nat.le_trans hBw P6.out.fk.size) hg HA.out.h6.2.2.2 P6.out.a0 P6.out.a1 hz HA.out.h7.1).mono ?_;rintro r w7 ⟨u,rfl,hu,hh,hk⟩;obtain ⟨A4,q4,rfl,hl4,hC4⟩:=Kd.kV hu;have hu':=Kd.yH hu (show w.heap.size+2≤_ from yx P6.out.p5);have hp:=P6.out.call HA.out.h7.2.1 HA.out.h7.2.2 hh hk;have U4:=Ak hu';have L4:=Ak hl4;have c4:=hp.c4;have d4:=hp.fz 4;have P7:=Ak hp;clear hh hk hp hu hu' hl4 hC4;clear P6)|(go_at_call 72;refine (num B b s 0 60 a7 e7 (n8:Int) a8 e8 _ (P7.out.set4 l4 _ U4.out).rd hB hg (P7.out.set4 l4 _ U4.out).a0 (P7.out.set4 l4 _ U4.out).a1 hz HA.out.h8.1).mono ?_;rintro r w8 ⟨rfl,hh,hk⟩;have hp:=(P7.out.set4 l4 _ U4.out).call HA.out.h8.2.1 HA.out.h8.2.2.1 hh hk;have P8:=Ak hp;clear hh hk hp;clear P7)|(go_at_call 77;refine (some30 B b s n8 a8 e8 l5 a9 e9 _ P8.out.rd hB (Nat.le_trans hBw P8.out.fk.size) hg HA.out.h8.2.2.2 P8.out.a0 P8.out.a1 hz HA.out.h9.1).mono ?_;rintro r w9 ⟨u,rfl,hu,hh,hk⟩;obtain ⟨A5,q5,rfl,hl5,hC5⟩:=Kd.kV hu;have hu':=Kd.yH hu (show w.heap.size+2≤_ from yx P8.out.p5);have hp:=P8.out.call HA.out.h9.2.1 HA.out.h9.2.2.1 hh hk;have U5:=Ak hu';have L5:=Ak hl5;have c5:=hp.c5;have d5:=hp.fz 5;have P9:=Ak hp;clear hh hk hp hu hu' hl5 hC5;clear P8)|(go_at_call 72;refine (num B b s 0 kids a9 e9 f6 a10 e10 _ (P9.out.set5 l5 _ U5.out).rd hB hg (P9.out.set5 l5 _ U5.out).a0 (P9.out.set5 l5 _ U5.out).a1 hz HA.out.h10.1).mono ?_;rintro r w10 ⟨rfl,hh,hk⟩;have hp:=(P9.out.set5 l5 _ U5.out).call HA.out.h10.2.1 HA.out.h10.2.2 hh hk;have c6:=hp.c6;have d6:=hp.fz 6;have P10:=Ak hp;clear hh hk hp;clear P9)|(go_at_call 71;refine (flag B b s a10 e10 v a11 e11 _ (P10.out.set6 f6).rd hB (P10.out.set6 f6).a0 (P10.out.set6 f6).a1 hz HA.out.h11.1).mono ?_;rintro r w11 ⟨rfl,hh,hk⟩;have hp:=(P10.out.set6 f6).call HA.out.h11.2.1 HA.out.h11.2.2.1 hh hk;obtain ⟨c0,c1,c2,c3,c4,c5,c6,c7,c8,c9,d0,d1,d2,d3,d4,d5,d6,d7,d8,d9⟩:=jV hp.p5;obtain ⟨z0,z1,z2,z3,z4,z5,z6,z7,z8,z9,y0,y1,y2,y3,y4,y5,y6,y7,y8,y9⟩:=jV hp.p4;have P11:=Ak hp;clear hh hk hp;clear P10))
  obtain ⟨W',hW,hh,hend⟩:=P11.out.done
  rw [← hW]
  exact bodyPost_ret (results_cell_row (P:=Tryz.prog) rfl _ _ w.heap.size 56 _ (0,0) _ rfl hh hu38 rfl (by kernel_rfl)) rfl hend
 ·have hv0:(v == 1)=true:=by rw [hv];rfl
  have DA:=Ak da;have BB:=Ak hbb;clear da hbb hv
  cases bb
  ·obtain rfl:e16=e':=by rw [he];rfl
   clear he
   go_enter Tryz.func39,Tryz.ntmps39
   go_wp2_with (first|(go_at_call 71;refine (flag B b s a e v1 a1 e1 _ P0.out.rd hB P0.out.a0 P0.out.a1 hz HA.out.h1.1).mono ?_;rintro r w1 ⟨rfl,hh,hk⟩;have hp:=P0.out.call HA.out.h1.2.1 HA.out.h1.2.2 hh hk;have c1:=hp.c1;have d1:=hp.fz 1;have P1:=Ak (hp);clear hh hk hp;clear P0)|(go_at_call 72;refine (num B b s 0 250 a1 e1 f0 a2 e2 _ (P1.out.set1 (v1 == 1)).rd hB hg (P1.out.set1 (v1 == 1)).a0 (P1.out.set1 (v1 == 1)).a1 hz HA.out.h2.1).mono ?_;rintro r w2 ⟨rfl,hh,hk⟩;have hp:=(P1.out.set1 (v1 == 1)).call HA.out.h2.2.1 HA.out.h2.2.2.1 hh hk;have c0:=hp.c0;have d0:=hp.fz 0;have P2:=Ak hp;clear hh hk hp;clear P1)|(go_at_call 72;refine (num B b s M 250 a2 e2 f2 a3 e3 _ (P2.out.set0 f0).rd hB hg (P2.out.set0 f0).a0 (P2.out.set0 f0).a1 hz H3.out.1).mono ?_;rintro r w3 ⟨rfl,hh,hk⟩;have hp:=(P2.out.set0 f0).call H3.out.2.1 H3.out.2.2 hh hk;have c2:=hp.c2;have d2:=hp.fz 2;have P3:=Ak hp;clear hh hk hp;clear P2)|(go_at_call 72;refine (num B b s 1 2000 a3 e3 (n4:Int) a4 e4 _ (P3.out.set2 f2).rd hB hg (P3.out.set2 f2).a0 (P3.out.set2 f2).a1 hz HA.out.h4.1).mono ?_;rintro r w4 ⟨rfl,hh,hk⟩;have hp:=(P3.out.set2 f2).call HA.out.h4.2.1 HA.out.h4.2.2.1 hh hk;have P4:=Ak hp;clear hh hk hp;clear P3)|(go_at_call 73;refine (some26 B b s n4 a4 e4 l3 a5 e5 _ P4.out.rd hB (Nat.le_trans hBw P4.out.fk.size) hg HA.out.h4.2.2.2 P4.out.a0 P4.out.a1 hz HA.out.h5.1).mono ?_;rintro r w5 ⟨u,rfl,hu,hh,hk⟩;obtain ⟨A3,q3,rfl,hl3,hC3⟩:=Kd.kV hu;have hu':=Kd.yH hu (show w.heap.size+2≤_ from yx P4.out.p5);have hp:=P4.out.call HA.out.h5.2.1 HA.out.h5.2.2.1 hh hk;have U3:=Ak hu';have L3:=Ak hl3;have c3:=hp.c3;have d3:=hp.fz 3;have P5:=Ak hp;clear hh hk hp hu hu' hl3 hC3;clear P4)|(go_at_call 72;refine (num B b s 0 500 a5 e5 (n6:Int) a6 e6 _ (P5.out.set3 l3 _ U3.out).rd hB hg (P5.out.set3 l3 _ U3.out).a0 (P5.out.set3 l3 _ U3.out).a1 hz HA.out.h6.1).mono ?_;rintro r w6 ⟨rfl,hh,hk⟩;have hp:=(P5.out.set3 l3 _ U3.out).call HA.out.h6.2.1 HA.out.h6.2.2.1 hh hk;have P6:=Ak hp;clear hh hk hp;clear P5)|(go_at_call 75;refine (some28 k hk8 B b s n6 a6 e6 l4 a7 e7 _ P6.out.rd hB (Nat.le_trans hBw P6.out.fk.size) hg HA.out.h6.2.2.2 P6.out.a0 P6.out.a1 hz HA.out.h7.1).mono ?_;rintro r w7 ⟨u,rfl,hu,hh,hk⟩;obtain ⟨A4,q4,rfl,hl4,hC4⟩:=Kd.kV hu;have hu':=Kd.yH hu (show w.heap.size+2≤_ from yx P6.out.p5);have hp:=P6.out.call HA.out.h7.2.1 HA.out.h7.2.2 hh hk;have U4:=Ak hu';have L4:=Ak hl4;have c4:=hp.c4;have d4:=hp.fz 4;have P7:=Ak hp;clear hh hk hp hu hu' hl4 hC4;clear P6)|(go_at_call 72;refine (num B b s 0 60 a7 e7 (n8:Int) a8 e8 _ (P7.out.set4 l4 _ U4.out).rd hB hg (P7.out.set4 l4 _ U4.out).a0 (P7.out.set4 l4 _ U4.out).a1 hz HA.out.h8.1).mono ?_;rintro r w8 ⟨rfl,hh,hk⟩;have hp:=(P7.out.set4 l4 _ U4.out).call HA.out.h8.2.1 HA.out.h8.2.2.1 hh hk;have P8:=Ak hp;clear hh hk hp;clear P7)|(go_at_call 77;refine (some30 B b s n8 a8 e8 l5 a9 e9 _ P8.out.rd hB (Nat.le_trans hBw P8.out.fk.size) hg HA.out.h8.2.2.2 P8.out.a0 P8.out.a1 hz HA.out.h9.1).mono ?_;rintro r w9 ⟨u,rfl,hu,hh,hk⟩;obtain ⟨A5,q5,rfl,hl5,hC5⟩:=Kd.kV hu;have hu':=Kd.yH hu (show w.heap.size+2≤_ from yx P8.out.p5);have hp:=P8.out.call HA.out.h9.2.1 HA.out.h9.2.2.1 hh hk;have U5:=Ak hu';have L5:=Ak hl5;have c5:=hp.c5;have d5:=hp.fz 5;have P9:=Ak hp;clear hh hk hp hu hu' hl5 hC5;clear P8)|(go_at_call 72;refine (num B b s 0 kids a9 e9 f6 a10 e10 _ (P9.out.set5 l5 _ U5.out).rd hB hg (P9.out.set5 l5 _ U5.out).a0 (P9.out.set5 l5 _ U5.out).a1 hz HA.out.h10.1).mono ?_;rintro r w10 ⟨rfl,hh,hk⟩;have hp:=(P9.out.set5 l5 _ U5.out).call HA.out.h10.2.1 HA.out.h10.2.2 hh hk;have c6:=hp.c6;have d6:=hp.fz 6;have P10:=Ak hp;clear hh hk hp;clear P9)|(go_at_call 71;refine (flag B b s a10 e10 v a11 e11 _ (P10.out.set6 f6).rd hB (P10.out.set6 f6).a0 (P10.out.set6 f6).a1 hz HA.out.h11.1).mono ?_;rintro r w11 ⟨rfl,hh,hk⟩;have hp:=(P10.out.set6 f6).call HA.out.h11.2.1 HA.out.h11.2.2.1 hh hk;obtain ⟨c0,c1,c2,c3,c4,c5,c6,c7,c8,c9,d0,d1,d2,d3,d4,d5,d6,d7,d8,d9⟩:=jV hp.p5;obtain ⟨z0,z1,z2,z3,z4,z5,z6,z7,z8,z9,y0,y1,y2,y3,y4,y5,y6,y7,y8,y9⟩:=jV hp.p4;have P11:=Ak hp;clear hh hk hp;clear P10)|(go_at_call 79;refine (text B b s a11 e11 f7 a12 e12 _ P11.out.rd hB hg P11.out.a0 P11.out.a1 hz DA.out.d1.1).mono ?_;rintro r w12 ⟨rfl,hh,hk⟩;have hp:=P11.out.call DA.out.d1.2.1 DA.out.d1.2.2 hh hk;have c3:=hp.c3;have c7:=hp.c7;have d3:=hp.fz 3;have d7:=hp.fz 7;have P12:=Ak hp;clear hh hk hp;clear P11)|(go_at_call 81;refine (noneOr B b s (l3.length:Int) a12 e12 (n13:Int) a13 e13 _ (P12.out.set7 f7).rd hB hg (P12.out.set7 f7).a0 (P12.out.set7 f7).a1 hz DA.out.d2.1).mono ?_;rintro r w13 ⟨rfl,hh,hk⟩;have hp:=(P12.out.set7 f7).call DA.out.d2.2.1 DA.out.d2.2.2.1 hh hk;have P13:=Ak hp;clear hh hk hp;clear P12)|(go_at_call 80;refine (some33 B b s n13 a13 e13 l8 a14 e14 _ P13.out.rd hB (Nat.le_trans hBw P13.out.fk.size) hg DA.out.d2.2.2.2 P13.out.a0 P13.out.a1 hz DA.out.d3.1).mono ?_;rintro r w14 ⟨u,rfl,hu,hh,hk⟩;obtain ⟨A8,q8,rfl,hl8,hC8⟩:=Kd.kV hu;have hu':=Kd.yH hu (show w.heap.size+2≤_ from yx P13.out.p5);have hp:=P13.out.call DA.out.d3.2.1 DA.out.d3.2.2 hh hk;have U8:=Ak hu';have c5:=hp.c5;have c8:=hp.c8;have d5:=hp.fz 5;have d8:=hp.fz 8;have P14:=Ak hp;clear hh hk hp hu hu' hl8 hC8;clear P13)|(go_at_call 81;refine (noneOr B b s (l5.length:Int) a14 e14 (n15:Int) a15 e15 _ (P14.out.set8 l8 _ U8.out).rd hB hg (P14.out.set8 l8 _ U8.out).a0 (P14.out.set8 l8 _ U8.out).a1 hz DA.out.d4.1).mono ?_;rintro r w15 ⟨rfl,hh,hk⟩;have hp:=(P14.out.set8 l8 _ U8.out).call DA.out.d4.2.1 DA.out.d4.2.2.1 hh hk;have P15:=Ak hp;clear hh hk hp;clear P14)|(go_at_call 83;refine (some36 B b s n15 a15 e15 l9 a16 e16 _ P15.out.rd hB (Nat.le_trans hBw P15.out.fk.size) hg DA.out.d4.2.2.2 P15.out.a0 P15.out.a1 hz DA.out.d5.1).mono ?_;rintro r w16 ⟨u,rfl,hu,hh,hk⟩;obtain ⟨A9,q9,rfl,hl9,hC9⟩:=Kd.kV hu;have hu':=Kd.yH hu (show w.heap.size+2≤_ from yx P15.out.p5);have hp:=P15.out.call DA.out.d5.2.1 DA.out.d5.2.2 hh hk;have U9:=Ak hu';obtain ⟨c0,c1,c2,c3,c4,c5,c6,c7,c8,c9,d0,d1,d2,d3,d4,d5,d6,d7,d8,d9⟩:=jV hp.p5;have P16:=Ak hp;clear hh hk hp hu hu' hl9 hC9;clear P15)|(go_at_call 28;refine (xk.calls f0 (v1 == 1) f2 A3 q3 l3 A4 q4 l4 A5 q5 l5 f6 f7 A8 q8 l8 A9 q9 l9 _ _ (Kd.yB (P16.out.JI l9 _ U9.out).r3).2.2 (Kd.yB (P16.out.JI l9 _ U9.out).r3).2.1 (Kd.yB (P16.out.JI l9 _ U9.out).r4).2.2 (Kd.yB (P16.out.JI l9 _ U9.out).r4).2.1 (Kd.yB (P16.out.JI l9 _ U9.out).r5).2.2 (Kd.yB (P16.out.JI l9 _ U9.out).r5).2.1 (Kd.yB (P16.out.JI l9 _ U9.out).r8).2.2 (Kd.yB (P16.out.JI l9 _ U9.out).r8).2.1 (Kd.yB (P16.out.JI l9 _ U9.out).r9).2.2 (Kd.yB (P16.out.JI l9 _ U9.out).r9).2.1 (bare_of BB.out)).mono ?_;rintro r w17 ⟨rfl,hb⟩;have hp:=(P16.out.JI l9 _ U9.out).below hb;obtain ⟨c0,c1,c2,c3,c4,c5,c6,c7,c8,c9,d0,d1,d2,d3,d4,d5,d6,d7,d8,d9⟩:=jV hp.p5;obtain ⟨z0,z1,z2,z3,z4,z5,z6,z7,z8,z9,y0,y1,y2,y3,y4,y5,y6,y7,y8,y9⟩:=jV hp.p4;have P17:=Ak hp;clear hb hp;clear P16))
   obtain ⟨W',hW,hh,hend⟩:=P17.out.done
   rw [← hW]
   exact bodyPost_ret (results_cell_row (P:=Tryz.prog) rfl _ _ w.heap.size 56 _ (0,0) _ rfl hh hu38 rfl (by kernel_rfl)) rfl hend
  ·have HE:zh ((if e16=0 then 3 else e16)=e'):=⟨by rw [he];rfl⟩
   clear he
   go_enter Tryz.func39,Tryz.ntmps39
   go_wp2_with (first|(go_at_call 71;refine (flag B b s a e v1 a1 e1 _ P0.out.rd hB P0.out.a0 P0.out.a1 hz HA.out.h1.1).mono ?_;rintro r w1 ⟨rfl,hh,hk⟩;have hp:=P0.out.call HA.out.h1.2.1 HA.out.h1.2.2 hh hk;have c1:=hp.c1;have d1:=hp.fz 1;have P1:=Ak (hp);clear hh hk hp;clear P0)|(go_at_call 72;refine (num B b s 0 250 a1 e1 f0 a2 e2 _ (P1.out.set1 (v1 == 1)).rd hB hg (P1.out.set1 (v1 == 1)).a0 (P1.out.set1 (v1 == 1)).a1 hz HA.out.h2.1).mono ?_;rintro r w2 ⟨rfl,hh,hk⟩;have hp:=(P1.out.set1 (v1 == 1)).call HA.out.h2.2.1 HA.out.h2.2.2.1 hh hk;have c0:=hp.c0;have d0:=hp.fz 0;have P2:=Ak hp;clear hh hk hp;clear P1)|(go_at_call 72;refine (num B b s M 250 a2 e2 f2 a3 e3 _ (P2.out.set0 f0).rd hB hg (P2.out.set0 f0).a0 (P2.out.set0 f0).a1 hz H3.out.1).mono ?_;rintro r w3 ⟨rfl,hh,hk⟩;have hp:=(P2.out.set0 f0).call H3.out.2.1 H3.out.2.2 hh hk;have c2:=hp.c2;have d2:=hp.fz 2;have P3:=Ak hp;clear hh hk hp;clear P2)|(go_at_call 72;refine (num B b s 1 2000 a3 e3 (n4:Int) a4 e4 _ (P3.out.set2 f2).rd hB hg (P3.out.set2 f2).a0 (P3.out.set2 f2).a1 hz HA.out.h4.1).mono ?_;rintro r w4 ⟨rfl,hh,hk⟩;have hp:=(P3.out.set2 f2).call HA.out.h4.2.1 HA.out.h4.2.2.1 hh hk;have P4:=Ak hp;clear hh hk hp;clear P3)|(go_at_call 73;refine (some26 B b s n4 a4 e4 l3 a5 e5 _ P4.out.rd hB (Nat.le_trans hBw P4.out.fk.size) hg HA.out.h4.2.2.2 P4.out.a0 P4.out.a1 hz HA.out.h5.1).mono ?_;rintro r w5 ⟨u,rfl,hu,hh,hk⟩;obtain ⟨A3,q3,rfl,hl3,hC3⟩:=Kd.kV hu;have hu':=Kd.yH hu (show w.heap.size+2≤_ from yx P4.out.p5);have hp:=P4.out.call HA.out.h5.2.1 HA.out.h5.2.2.1 hh hk;have U3:=Ak hu';have L3:=Ak hl3;have c3:=hp.c3;have d3:=hp.fz 3;have P5:=Ak hp;clear hh hk hp hu hu' hl3 hC3;clear P4)|(go_at_call 72;refine (num B b s 0 500 a5 e5 (n6:Int) a6 e6 _ (P5.out.set3 l3 _ U3.out).rd hB hg (P5.out.set3 l3 _ U3.out).a0 (P5.out.set3 l3 _ U3.out).a1 hz HA.out.h6.1).mono ?_;rintro r w6 ⟨rfl,hh,hk⟩;have hp:=(P5.out.set3 l3 _ U3.out).call HA.out.h6.2.1 HA.out.h6.2.2.1 hh hk;have P6:=Ak hp;clear hh hk hp;clear P5)|(go_at_call 75;refine (some28 k hk8 B b s n6 a6 e6 l4 a7 e7 _ P6.out.rd hB (Nat.le_trans hBw P6.out.fk.size) hg HA.out.h6.2.2.2 P6.out.a0 P6.out.a1 hz HA.out.h7.1).mono ?_;rintro r w7 ⟨u,rfl,hu,hh,hk⟩;obtain ⟨A4,q4,rfl,hl4,hC4⟩:=Kd.kV hu;have hu':=Kd.yH hu (show w.heap.size+2≤_ from yx P6.out.p5);have hp:=P6.out.call HA.out.h7.2.1 HA.out.h7.2.2 hh hk;have U4:=Ak hu';have L4:=Ak hl4;have c4:=hp.c4;have d4:=hp.fz 4;have P7:=Ak hp;clear hh hk hp hu hu' hl4 hC4;clear P6)|(go_at_call 72;refine (num B b s 0 60 a7 e7 (n8:Int) a8 e8 _ (P7.out.set4 l4 _ U4.out).rd hB hg (P7.out.set4 l4 _ U4.out).a0 (P7.out.set4 l4 _ U4.out).a1 hz HA.out.h8.1).mono ?_;rintro r w8 ⟨rfl,hh,hk⟩;have hp:=(P7.out.set4 l4 _ U4.out).call HA.out.h8.2.1 HA.out.h8.2.2.1 hh hk;have P8:=Ak hp;clear hh hk hp;clear P7)|(go_at_call 77;refine (some30 B b s n8 a8 e8 l5 a9 e9 _ P8.out.rd hB (Nat.le_trans hBw P8.out.fk.size) hg HA.out.h8.2.2.2 P8.out.a0 P8.out.a1 hz HA.out.h9.1).mono ?_;rintro r w9 ⟨u,rfl,hu,hh,hk⟩;obtain ⟨A5,q5,rfl,hl5,hC5⟩:=Kd.kV hu;have hu':=Kd.yH hu (show w.heap.size+2≤_ from yx P8.out.p5);have hp:=P8.out.call HA.out.h9.2.1 HA.out.h9.2.2.1 hh hk;have U5:=Ak hu';have L5:=Ak hl5;have c5:=hp.c5;have d5:=hp.fz 5;have P9:=Ak hp;clear hh hk hp hu hu' hl5 hC5;clear P8)|(go_at_call 72;refine (num B b s 0 kids a9 e9 f6 a10 e10 _ (P9.out.set5 l5 _ U5.out).rd hB hg (P9.out.set5 l5 _ U5.out).a0 (P9.out.set5 l5 _ U5.out).a1 hz HA.out.h10.1).mono ?_;rintro r w10 ⟨rfl,hh,hk⟩;have hp:=(P9.out.set5 l5 _ U5.out).call HA.out.h10.2.1 HA.out.h10.2.2 hh hk;have c6:=hp.c6;have d6:=hp.fz 6;have P10:=Ak hp;clear hh hk hp;clear P9)|(go_at_call 71;refine (flag B b s a10 e10 v a11 e11 _ (P10.out.set6 f6).rd hB (P10.out.set6 f6).a0 (P10.out.set6 f6).a1 hz HA.out.h11.1).mono ?_;rintro r w11 ⟨rfl,hh,hk⟩;have hp:=(P10.out.set6 f6).call HA.out.h11.2.1 HA.out.h11.2.2.1 hh hk;obtain ⟨c0,c1,c2,c3,c4,c5,c6,c7,c8,c9,d0,d1,d2,d3,d4,d5,d6,d7,d8,d9⟩:=jV hp.p5;obtain ⟨z0,z1,z2,z3,z4,z5,z6,z7,z8,z9,y0,y1,y2,y3,y4,y5,y6,y7,y8,y9⟩:=jV hp.p4;have P11:=Ak hp;clear hh hk hp;clear P10)|(go_at_call 79;refine (text B b s a11 e11 f7 a12 e12 _ P11.out.rd hB hg P11.out.a0 P11.out.a1 hz DA.out.d1.1).mono ?_;rintro r w12 ⟨rfl,hh,hk⟩;have hp:=P11.out.call DA.out.d1.2.1 DA.out.d1.2.2 hh hk;have c3:=hp.c3;have c7:=hp.c7;have d3:=hp.fz 3;have d7:=hp.fz 7;have P12:=Ak hp;clear hh hk hp;clear P11)|(go_at_call 81;refine (noneOr B b s (l3.length:Int) a12 e12 (n13:Int) a13 e13 _ (P12.out.set7 f7).rd hB hg (P12.out.set7 f7).a0 (P12.out.set7 f7).a1 hz DA.out.d2.1).mono ?_;rintro r w13 ⟨rfl,hh,hk⟩;have hp:=(P12.out.set7 f7).call DA.out.d2.2.1 DA.out.d2.2.2.1 hh hk;have P13:=Ak hp;clear hh hk hp;clear P12)|(go_at_call 80;refine (some33 B b s n13 a13 e13 l8 a14 e14 _ P13.out.rd hB (Nat.le_trans hBw P13.out.fk.size) hg DA.out.d2.2.2.2 P13.out.a0 P13.out.a1 hz DA.out.d3.1).mono ?_;rintro r w14 ⟨u,rfl,hu,hh,hk⟩;obtain ⟨A8,q8,rfl,hl8,hC8⟩:=Kd.kV hu;have hu':=Kd.yH hu (show w.heap.size+2≤_ from yx P13.out.p5);have hp:=P13.out.call DA.out.d3.2.1 DA.out.d3.2.2 hh hk;have U8:=Ak hu';have c5:=hp.c5;have c8:=hp.c8;have d5:=hp.fz 5;have d8:=hp.fz 8;have P14:=Ak hp;clear hh hk hp hu hu' hl8 hC8;clear P13)|(go_at_call 81;refine (noneOr B b s (l5.length:Int) a14 e14 (n15:Int) a15 e15 _ (P14.out.set8 l8 _ U8.out).rd hB hg (P14.out.set8 l8 _ U8.out).a0 (P14.out.set8 l8 _ U8.out).a1 hz DA.out.d4.1).mono ?_;rintro r w15 ⟨rfl,hh,hk⟩;have hp:=(P14.out.set8 l8 _ U8.out).call DA.out.d4.2.1 DA.out.d4.2.2.1 hh hk;have P15:=Ak hp;clear hh hk hp;clear P14)|(go_at_call 83;refine (some36 B b s n15 a15 e15 l9 a16 e16 _ P15.out.rd hB (Nat.le_trans hBw P15.out.fk.size) hg DA.out.d4.2.2.2 P15.out.a0 P15.out.a1 hz DA.out.d5.1).mono ?_;rintro r w16 ⟨u,rfl,hu,hh,hk⟩;obtain ⟨A9,q9,rfl,hl9,hC9⟩:=Kd.kV hu;have hu':=Kd.yH hu (show w.heap.size+2≤_ from yx P15.out.p5);have hp:=P15.out.call DA.out.d5.2.1 DA.out.d5.2.2 hh hk;have U9:=Ak hu';obtain ⟨c0,c1,c2,c3,c4,c5,c6,c7,c8,c9,d0,d1,d2,d3,d4,d5,d6,d7,d8,d9⟩:=jV hp.p5;have P16:=Ak hp;clear hh hk hp hu hu' hl9 hC9;clear P15)|(go_at_call 28;refine (xk.calls f0 (v1 == 1) f2 A3 q3 l3 A4 q4 l4 A5 q5 l5 f6 f7 A8 q8 l8 A9 q9 l9 _ _ (Kd.yB (P16.out.JI l9 _ U9.out).r3).2.2 (Kd.yB (P16.out.JI l9 _ U9.out).r3).2.1 (Kd.yB (P16.out.JI l9 _ U9.out).r4).2.2 (Kd.yB (P16.out.JI l9 _ U9.out).r4).2.1 (Kd.yB (P16.out.JI l9 _ U9.out).r5).2.2 (Kd.yB (P16.out.JI l9 _ U9.out).r5).2.1 (Kd.yB (P16.out.JI l9 _ U9.out).r8).2.2 (Kd.yB (P16.out.JI l9 _ U9.out).r8).2.1 (Kd.yB (P16.out.JI l9 _ U9.out).r9).2.2 (Kd.yB (P16.out.JI l9 _ U9.out).r9).2.1 (bare_of BB.out)).mono ?_;rintro r w17 ⟨rfl,hb⟩;have hp:=(P16.out.JI l9 _ U9.out).below hb;obtain ⟨c0,c1,c2,c3,c4,c5,c6,c7,c8,c9,d0,d1,d2,d3,d4,d5,d6,d7,d8,d9⟩:=jV hp.p5;obtain ⟨z0,z1,z2,z3,z4,z5,z6,z7,z8,z9,y0,y1,y2,y3,y4,y5,y6,y7,y8,y9⟩:=jV hp.p4;have P17:=Ak hp;clear hb hp;clear P16)|(go_at_call 40;refine (fail B b s a16 e16 3 _ P17.out.rd hB (by decide)).mono ?_;rintro r w18 ⟨rfl,hh,hk⟩;have hp:=P17.out.call (Int.le_refl _) P17.out.a1 hh hk;obtain ⟨c0,c1,c2,c3,c4,c5,c6,c7,c8,c9,d0,d1,d2,d3,d4,d5,d6,d7,d8,d9⟩:=jV hp.p5;obtain ⟨z0,z1,z2,z3,z4,z5,z6,z7,z8,z9,y0,y1,y2,y3,y4,y5,y6,y7,y8,y9⟩:=jV hp.p4;have P18:=Ak hp;clear hh hk hp;clear P17))
   obtain ⟨W',hW,hh,hend⟩:=P18.out.done
   rw [HE.out] at hend
   rw [← hW]
   exact bodyPost_ret (results_cell_row (P:=Tryz.prog) rfl _ _ w.heap.size 56 _ (0,0) _ rfl hh hu38 rfl (by kernel_rfl)) rfl hend
def popN:Nat→List Int→List Int
 | 0,l=>l
 | n+1,l=>if 0<l.length∧rd l ((l.length:Int)-1)=0 then popN n (l.take (l.length-1)) else l
def JC (l:List Int):List Int:=popN l.length l
def upd (l:List Int):List Int:=if 0<(JC l).length then (JC l).set ((JC l).length-1) (rd (JC l) (((JC l).length:Int)-1)-1) else JC l
def kW (k:Nat) (s:ByteArray):Nat→Int→Int→List S56→Int→List Int→List S56×Int×Int
 | 0,a,e,ps,_,_=>(ps,a,e)
 | n+1,a,e,ps,wanted,op=>if (ps.length:Int)<wanted∧e=0 then
   kW k s n (vF k s (if 63≤op.length then 0 else 200-wanted) a e).2.1 (vF k s (if 63≤op.length then 0 else 200-wanted) a e).2.2 (ps++[(vF k s (if 63≤op.length then 0 else 200-wanted) a e).1]) (wanted+(vF k s (if 63≤op.length then 0 else 200-wanted) a e).1.f6) (upd (op++[(vF k s (if 63≤op.length then 0 else 200-wanted) a e).1.f6])) else (ps,a,e)
def rLoad (k:Nat) (s:ByteArray):List S56×Int :=
 if strings_HasPrefix.f s ⟨#[27,76,82,86,1,0]⟩=some true then
  (if (kW k s 200 6 0 [] 1 []).2.2=0 then (if (kW k s 200 6 0 [] 1 []).2.1<(s.size:Int) then ([],5) else ((kW k s 200 6 0 [] 1 []).1,0)) else ([],(kW k s 200 6 0 [] 1 []).2.2)) else ([],1)
theorem popN_len:∀ (n:Nat) (l:List Int),(popN n l).length≤l.length
 | 0,l=>Nat.le_refl _
 | n+1,l=>by
  rw [popN]
  split
  ·exact Nat.le_trans (popN_len n _) (by simp)
  ·exact Nat.le_refl _
theorem popN_mem:∀ (n:Nat) (l:List Int) (x:Int),x ∈ popN n l→x ∈ l
 | 0,l,x,h=>h
 | n+1,l,x,h=>by
  rw [popN] at h
  split at h
  ·exact List.mem_of_mem_take (popN_mem n _ x h)
  ·exact h
theorem popZ_step {l:List Int} (h:0<l.length) (hz:rd l ((l.length:Int)-1)=0):JC (l.take (l.length-1))=JC l:=by
 unfold JC
 obtain ⟨m,hm⟩:∃ m,l.length=m+1:=⟨l.length-1,by omega⟩
 rw [show (l.take (l.length-1)).length=m by simp;omega]
 conv=>rhs;rw [hm,popN,if_pos ⟨h,hz⟩]
theorem popZ_stop {l:List Int} (h:¬ (0<l.length∧rd l ((l.length:Int)-1)=0)):JC l=l:=by
 unfold JC
 cases hl:l.length with
 | zero=>rfl
 | succ m=>rw [popN,if_neg h]
theorem rd_mem {l:List Int} {i:Int} (h0:0≤i) (h1:i<l.length):rd l i ∈ l:=by
 have hi:i.toNat<l.length:=by omega
 have:rd l i=l[i.toNat]:=by simp [rd,List.getD,hi]
 rw [this]
 exact List.getElem_mem hi
def Small (l:List Int):Prop:=∀ x ∈ l,0≤x∧x≤200
theorem small_upd {l:List Int} (h:Small l):Small (upd l):=by
 have hz:Small (JC l):=fun x hx=>h x (popN_mem _ _ _ hx)
 unfold upd
 split
 ·intro x hx
  rcases List.mem_or_eq_of_mem_set hx with hx|rfl
  ·exact hz x hx
  ·have hm:=rd_mem (l:=JC l) (i:=((JC l).length:Int)-1) (by omega) (by omega)
   have hne:rd (JC l) (((JC l).length:Int)-1)≠0:=by
    intro h0
    have hs:∀ (n:Nat) (l:List Int),l.length≤n→0<(popN n l).length→rd (popN n l) (((popN n l).length:Int)-1)≠0:=by
     intro n
     induction n with
     | zero=>intro l hl hp;simp [popN] at hp;omega
     | succ n ih =>
      intro l hl
      rw [popN]
      split
      ·exact ih _ (by simp;omega)
      ·rename_i hc
       exact fun hp hz=>hc ⟨hp,hz⟩
    exact hs _ _ (Nat.le_refl _) ‹_› h0
   have:=hz _ hm
   omega
 ·exact hz
theorem upd_len (l:List Int):(upd l).length≤l.length:=by
 unfold upd
 split
 ·rw [List.length_set];exact popN_len _ _
 ·exact popN_len _ _
theorem Vp {t:Nat} {W:World} {base:Nat} {ok:Nat→Prop} {v:Value} {xs:List Int} (h:(Kd.int .i64).R t W base ok v xs):W.ownsRow base t 1 v xs.length (encs (Value.int .i64) xs):=by
 obtain ⟨_,inner,hown,hr⟩:=h
 have hi:inner=encs (Value.int .i64) xs:=by
  have hl:inner.length=xs.length:=by have:=hr.1;simpa [Kd.int,Kd.scalar] using this
  refine List.ext_getElem? fun j=>?_
  by_cases hj:j<xs.length
  ·have h1:=hr.2 j xs[j] (List.getElem?_eq_getElem hj)
   have h2:(inner.drop (j*1)).take 1=[Value.int .i64 xs[j]]:=h1
   rw [Nat.mul_one,List.drop_eq_getElem_cons (by omega),List.take_succ_cons,List.take_zero] at h2
   have h3:inner[j]'(by omega)=Value.int .i64 xs[j]:=by injection h2
   rw [List.getElem?_eq_getElem (by omega),h3]
   simp [encs,hj]
  ·rw [List.getElem?_eq_none (by omega),List.getElem?_eq_none (by simp [encs];omega)]
 rw [← hi]
 exact hown
theorem int_set {t:Nat} {W:World} {base:Nat} {ok:Nat→Prop} {g n cap:Nat} {xs:List Int} (h:(Kd.int .i64).R t W base ok (.slice (some ⟨g,0,none⟩) n cap) xs) (j:Nat) (x:Int):(Kd.int .i64).R t (W.setCell ⟨g,j,none⟩ (.int .i64 x)) base ok (.slice (some ⟨g,0,none⟩) n cap) (xs.set j x):=by
 obtain ⟨hn,_,_⟩:=Kd.yB h
 subst hn
 have h1:=((Vp h).stored j (.int .i64 x)).1
 refine Kd.R_of_own ?_ h.1
 rw [List.length_set]
 have e:encs (Value.int .i64) (xs.set j x)=(encs (Value.int .i64) xs).set j (.int .i64 x):=by simp [encs,List.map_set]
 rw [e]
 exact h1
structure LM (s:ByteArray) (w:World) (v5 v7:Value) (ps:List S56) (a e:Int) (op:List Int) (W:World):Prop where
 rd:RD (w.heap.size+1) s a e W
 bel:Below w.heap.size w W
 rb:W.heap[w.heap.size]?=some (.cells #[.slice none 0 0] 25 (0,0))
 cb:W.heap[w.heap.size+1+1]?=some (.cells #[v5] 25 (0,0))
 r5:Kd.S k56 56 W (w.heap.size+3) (fun k=>some k≠v7.ownBlock) v5 ps
 r7:(Kd.int .i64).R 3 W (w.heap.size+3) (fun _=>True) v7 op
theorem LM.below {s:ByteArray} {w W W1:World} {v5 v7:Value} {ps:List S56} {a e:Int} {op:List Int} (h:LM s w v5 v7 ps a e op W) (hb:Below W.heap.size W W1):LM s w v5 v7 ps a e op W1 :=
 ⟨h.rd.below hb,h.bel.trans (hb.mono h.bel.size),(hb.block _ (yx h.rb)).trans h.rb,(hb.block _ (yx h.cb)).trans h.cb,Kd.Qo h.r5 hb,Kd.vJ h.r7 hb⟩
theorem LM.take {s:ByteArray} {w W:World} {v5:Value} {A:Option Addr} {n q:Nat} {ps:List S56} {a e:Int} {op:List Int} (h:LM s w v5 (.slice A n q) ps a e op W) (m:Nat) (hm:m≤op.length):LM s w v5 (.slice A m q) ps a e (op.take m) W :=
 ⟨h.rd,h.bel,h.rb,h.cb,Kd.Z4 h.r5 (fun k hk=>by cases A <;> exact hk),Kd.R_take h.r7 hm⟩
theorem LM.dec {s:ByteArray} {w W:World} {v5:Value} {g n q:Nat} {ps:List S56} {a e:Int} {op:List Int} (h:LM s w v5 (.slice (some ⟨g,0,none⟩) n q) ps a e op W) (j:Nat) (x:Int):LM s w v5 (.slice (some ⟨g,0,none⟩) n q) ps a e (op.set j x) (W.setCell ⟨g,j,none⟩ (.int .i64 x)):=by
 have hg:w.heap.size+3≤g:=Kd.jT h.r7 g (by simp [Value.ownBlock])
 exact ⟨h.rd.far (by omega) _ _,h.bel.setCell (p:=⟨g,j,none⟩) (show w.heap.size≤g by omega) _,(Below.heap_setCell W ⟨g,j,none⟩ _ _ (show w.heap.size≠g by omega)).trans h.rb,(Below.heap_setCell W ⟨g,j,none⟩ _ _ (show w.heap.size+1+1≠g by omega)).trans h.cb,Kd.S_far h.r5 (fun k hk he=>hk (by subst he;simp [Value.ownBlock])) _,int_set h.r7 j x⟩
theorem LM.call {s:ByteArray} {w W W1:World} {v5 v7:Value} {ps:List S56} {a e a' e':Int} {op:List Int} (h:LM s w v5 v7 ps a e op W) (hr:RD (w.heap.size+1) s a' e' W1) (hk:Fk w.heap.size (w.heap.size+1) W W1) :
  RD (w.heap.size+1) s a' e' W1∧Below w.heap.size w W1∧W1.heap[w.heap.size]?=some (.cells #[.slice none 0 0] 25 (0,0))∧W1.heap[w.heap.size+1+1]?=some (.cells #[v5] 25 (0,0))∧Kd.S k56 56 W1 (w.heap.size+3) (fun k=>some k≠v7.ownBlock∧k<W.heap.size) v5 ps∧(Kd.int .i64).R 3 W1 (w.heap.size+3) (fun _=>True) v7 op :=
 ⟨hr,h.bel.trans hk.bel,(hk.oth _ (by omega) (yx h.rb)).trans h.rb,(hk.oth _ (by omega) (yx h.cb)).trans h.cb,
  Kd.Z4 (Kd.S_step (Kd.Qp h.r5) (fun k hk' hl=>hk.oth k (by have:=hk'.2.1;omega) hl)) (fun k hk=>⟨hk.1,hk.2.2.1⟩),
  R_fk h.r7 (by omega) hk⟩
theorem proto (k:Nat) (hk8:∀ s:ByteArray,s.size≤8→∃ r,zU.f k s 0=some r) (B b:Nat) (s:ByteArray) (kids a e:Int) (p:S56) (a' e':Int) (w:World) (h:RD b s a e w) (hB:B≤b) (hBw:B≤w.heap.size) (hg:Xn s) (ha:0≤a) (hs:a≤(s.size:Int)) (hz:s.size≤140737488351232) (hkd:0≤kids) (hr:vF k s kids a e=(p,a',e')) :
  Calls Tryz.prog 39 #[.pointer (some ⟨b,0,none⟩),.int .i64 kids] w (ProtoEnd B b s w p a' e'):=by
 unfold vF at hr
 obtain ⟨q,v,a11,e11,hq⟩:∃ q v a11 e11,Yp k s kids a e=(q,v,a11,e11):=⟨_,_,_,_,rfl⟩
 rw [hq] at hr
 dsimp only at hr
 obtain ⟨q7,q8,q9,v1,a1,e1,a2,e2,a3,e3,n4,a4,e4,a5,e5,n6,a6,e6,a7,e7,n8,a8,e8,a9,e9,a10,e10,hA⟩:=head_at hg hkd ha hs hq
 have hA':=hA
 rw [hA.g1] at hA'
 by_cases hv:v=1
 ·rw [if_pos hv] at hr
  obtain ⟨f7,l8,l9,a12,e12,n13,a13,e13,a14,e14,n15,a15,e15,e16,hD,hp,he⟩:=JJ hg (Int.le_trans ha (Int.le_trans (Int.le_trans (Int.le_trans (Int.le_trans (Int.le_trans (Int.le_trans (Int.le_trans (Int.le_trans (Int.le_trans (Int.le_trans hA.h1.2.1 hA.h2.2.1) hA.h3.2.1) hA.h4.2.1) hA.h5.2.1) hA.h6.2.1) hA.h7.2.1) hA.h8.2.1) hA.h9.2.1) hA.h10.2.1) hA.h11.2.1)) hA.h11.2.2.1 hA.h5.2.2.2 hA.h9.2.2.2 hr
  exact proto0 k hk8 B b s kids a e q.f0 q.f2 q.f3 q.f4 q.f5 q.f6 v a11 e11 v1 a1 e1 a2 e2 a3 e3 n4 a4 e4 a5 e5 n6 a6 e6 a7 e7 n8 a8 e8 a9 e9 a10 e10 w h hB hBw hg ha hs hz hA' f7 l8 l9 a12 e12 n13 a13 e13 a14 e14 n15 a15 e15 a' e16 _ p a' e' (.inr ⟨hv,hD,rfl,by rw [hp,hA.g1],rfl,he⟩)
 ·rw [if_neg hv] at hr
  obtain ⟨g1,g2,g3⟩:=pr3 hr
  exact proto0 k hk8 B b s kids a e q.f0 q.f2 q.f3 q.f4 q.f5 q.f6 v a11 e11 v1 a1 e1 a2 e2 a3 e3 n4 a4 e4 a5 e5 n6 a6 e6 a7 e7 n8 a8 e8 a9 e9 a10 e10 w h hB hBw hg ha hs hz hA' ⟨#[]⟩ [] [] 0 0 0 0 0 0 0 0 0 0 0 0 false p a' e' (.inl ⟨hv,by rw [← g1,← hA.g1,← q7,← q8,← q9],g2,g3⟩)
theorem LM.appended {s:ByteArray} {w W W1 w3:World} {v5 v5' v7:Value} {ps:List S56} {p:S56} {a e:Int} {op:List Int} {ok:Nat→Prop} {pb:Nat} {ob:Obj}
  (hc:RD (w.heap.size+1) s a e W1∧Below w.heap.size w W1∧W1.heap[w.heap.size]?=some (.cells #[.slice none 0 0] 25 (0,0))∧W1.heap[w.heap.size+1+1]?=some (.cells #[v5] 25 (0,0))∧Kd.S k56 56 W1 (w.heap.size+3) ok v5 ps∧(Kd.int .i64).R 3 W1 (w.heap.size+3) (fun _=>True) v7 op)
  (hb:Below W1.heap.size W1 W) (hg:W.grownBy w3 v5.ownBlock) (hS:Kd.S k56 56 w3 (w.heap.size+3) (fun k=>some k≠v7.ownBlock) v5' (ps++[p])) (hpb:W.heap[pb]?=some ob) (hpl:W1.heap.size≤pb) :
  LM s w v5' v7 (ps++[p]) a e op (w3.setCell ⟨w.heap.size+1+1,0,none⟩ v5')∧w3.cell? ⟨w.heap.size+1+1,0,none⟩=some v5∧w3.frozen? ⟨w.heap.size+1+1,0,none⟩=false∧w3.heap[pb]?=some ob:=by
 obtain ⟨h1,h2,h3,h4,h5,h6⟩:=hc
 have hlt:=Kd.S_lt h5
 have hba:=Kd.S_base h5
 have k1:∀ g t cs,W1.heap[g]?=some (.cells cs t (0,0))→g<w.heap.size+3→w3.heap[g]?=some (.cells cs t (0,0)):=fun g t cs hq hgl=>((hg.block g (by rw [show W.heap.size=W.heap.size from rfl];exact Nat.lt_of_lt_of_le (yx hq) hb.size) (fun he=>by have:=hba g he.symm;omega)).trans (hb.block g (yx hq))).trans hq
 have c3:=k1 _ _ _ h4 (by omega)
 refine ⟨⟨?_,?_,?_,?_,?_,?_⟩,(zi c3 0).trans rfl,zn c3 0,?_⟩
 ·exact RD.far (k1 _ _ _ h1 (by omega)) (by omega) _ _
 ·have hbel:Below w.heap.size W w3:=⟨hg.os,hg.tape,hg.output,hg.size,fun k hk=>hg.block k (by have:=h2.size;have:=hb.size;omega) (fun he=>by have:=hba k he.symm;omega)⟩
  exact ((h2.trans (hb.mono h2.size)).trans hbel).setCell (p:=⟨w.heap.size+1+1,0,none⟩) (show w.heap.size≤w.heap.size+1+1 by omega) _
 ·exact (Below.heap_setCell w3 ⟨w.heap.size+1+1,0,none⟩ _ _ (show w.heap.size≠w.heap.size+1+1 by omega)).trans (k1 _ _ _ h3 (by omega))
 ·exact (yO c3 0 _).trans rfl
 ·exact Kd.Z4 (Kd.S_step (Kd.Qp hS) (fun k hk _=>Below.heap_setCell w3 ⟨w.heap.size+1+1,0,none⟩ _ k (show k≠w.heap.size+1+1 by have:=hk.2.1;omega))) (fun k hk=>hk.1)
 ·refine zZ (Kd.R_grown2 (Kd.vJ h6 hb) rfl hg (fun k hk he=>?_)) (by omega)
  obtain ⟨cs,hcs⟩:=Kd.S_typed (Kd.Qo h5 hb) k hk
  exact Kd.R_ne (Kd.vJ h6 hb) hcs (by decide) he
 ·exact (hg.block pb (yx hpb) (fun he=>by have:=hlt pb he.symm;omega)).trans hpb
theorem LM.pushed {s:ByteArray} {w W w5:World} {v5 v7 v7':Value} {ps:List S56} {a e x:Int} {op:List Int} (h:LM s w v5 v7 ps a e op W) (hg:W.grownBy w5 v7.ownBlock) (hR:(Kd.int .i64).R 3 w5 (w.heap.size+3) (fun _=>True) v7' (op++[x])) (hat:v7'.ownBlock=v7.ownBlock∨∃ b,v7'.ownBlock=some b∧W.heap.size≤b) :
  LM s w v5 v7' ps a e (op++[x]) w5:=by
 have hba:=Kd.jT h.r7
 have k1:∀ g t cs,W.heap[g]?=some (.cells cs t (0,0))→g<w.heap.size+3→w5.heap[g]?=some (.cells cs t (0,0)):=fun g t cs hq hgl=>(hg.block g (yx hq) (fun he=>by have:=hba g he.symm;omega)).trans hq
 refine ⟨k1 _ _ _ h.rd (by omega),?_,k1 _ _ _ h.rb (by omega),k1 _ _ _ h.cb (by omega),?_,hR⟩
 ·exact h.bel.trans ⟨hg.os,hg.tape,hg.output,hg.size,fun k hk=>hg.block k (by have:=h.bel.size;omega) (fun he=>by have:=hba k he.symm;omega)⟩
 ·exact Kd.Z4 (Kd.S_after (ok:=fun _=>True) (Kd.Z4 h.r5 (fun k hk=>⟨trivial,hk⟩)) hg hat) (fun k hk=>hk.2)
structure LP (k:Nat) (s:ByteArray) (T:List S56×Int×Int) (n:Nat) (ps:List S56) (a e wanted:Int) (op:List Int):Prop where
 a0:0≤a
 a1:a≤(s.size:Int)
 w0:1≤wanted
 w1:wanted≤200
 l0:(ps.length:Int)≤wanted
 l1:200≤ps.length+n
 l2:op.length≤ps.length
 sm:Small op
 run:kW k s n a e ps wanted op=T
theorem rHead_kids {k:Nat} {s:ByteArray} {kids a e:Int} {p:S56} {v a' e':Int} (hg:Xn s) (ha:0≤a) (hs:a≤(s.size:Int)) (hk:0≤kids) (hr:Yp k s kids a e=(p,v,a',e')):0≤p.f6∧p.f6≤kids∧a≤a'∧a'≤(s.size:Int)∧p.f3.length≤2000∧p.f5.length≤2000:=by
 obtain ⟨q7,q8,q9,v1,a1,e1,a2,e2,a3,e3,n4,a4,e4,a5,e5,n6,a6,e6,a7,e7,n8,a8,e8,a9,e9,a10,e10,hA⟩:=head_at hg hk ha hs hr
 have h1:=Int.le_trans hA.h1.2.1 hA.h2.2.1
 have h2:=Int.le_trans h1 (Int.le_trans hA.h3.2.1 hA.h4.2.1)
 have h3:=Int.le_trans h2 (Int.le_trans hA.h5.2.1 hA.h6.2.1)
 have h4:=Int.le_trans h3 (Int.le_trans hA.h7.2.1 hA.h8.2.1)
 have h5:=Int.le_trans h4 hA.h9.2.1
 obtain ⟨n1,n2,_⟩:=qL (lo:=0) (hi:=kids) (e:=e9) hg (Int.le_trans ha h5) hA.h9.2.2.1 (Int.le_refl 0) hk
 rw [hA.h10.1] at n1 n2
 exact ⟨n1,n2,Int.le_trans h5 (Int.le_trans hA.h10.2.1 hA.h11.2.1),hA.h11.2.2.1,hA.h5.2.2.2,hA.h9.2.2.2⟩
theorem Qw {k:Nat} {s:ByteArray} {kids a e:Int} {p:S56} {a' e':Int} (hg:Xn s) (ha:0≤a) (hs:a≤(s.size:Int)) (hk:0≤kids) (hr:vF k s kids a e=(p,a',e')):0≤p.f6∧p.f6≤kids∧a≤a'∧a'≤(s.size:Int):=by
 unfold vF at hr
 obtain ⟨q,v,a11,e11,hq⟩:∃ q v a11 e11,Yp k s kids a e=(q,v,a11,e11):=⟨_,_,_,_,rfl⟩
 rw [hq] at hr
 dsimp only at hr
 obtain ⟨h1,h2,h3,h4,h5,h6⟩:=rHead_kids hg ha hs hk hq
 by_cases hv:v=1
 ·rw [if_pos hv] at hr
  obtain ⟨f7,l8,l9,a12,e12,n13,a13,e13,a14,e14,n15,a15,e15,e16,hD,hp,he⟩:=JJ hg (Int.le_trans ha h3) h4 h5 h6 hr
  subst hp
  exact ⟨h1,h2,Int.le_trans h3 (Int.le_trans (Int.le_trans hD.d1.2.1 (Int.le_trans hD.d2.2.1 hD.d3.2.1)) (Int.le_trans hD.d4.2.1 hD.d5.2.1)),hD.d5.2.2⟩
 ·rw [if_neg hv] at hr
  obtain ⟨g1,g2,g3⟩:=pr3 hr
  subst g1
  subst g2
  exact ⟨h1,h2,h3,h4⟩
theorem LP.next {k:Nat} {s:ByteArray} {T:List S56×Int×Int} {n:Nat} {ps:List S56} {a wanted:Int} {op:List Int} (hg:Xn s) (h:LP k s T (n+1) ps a 0 wanted op) (hw:(ps.length:Int)<wanted) {kids:Int} (hkd:(if 63≤op.length then 0 else 200-wanted)=kids) {p:S56} {a' e':Int} (hr:vF k s kids a 0=(p,a',e')) :
  LP k s T n (ps++[p]) a' e' (wanted+p.f6) (upd (op++[p.f6]))∧0≤p.f6∧p.f6≤200:=by
 have hw1:=h.w1
 have hk0:0≤kids:=by rw [← hkd];split <;> omega
 have hk1:kids≤200-wanted:=by rw [← hkd];split <;> omega
 obtain ⟨h1,h2,h3,h4⟩:=Qw hg h.a0 h.a1 hk0 hr
 have hrun:=h.run
 rw [kW,if_pos ⟨hw,rfl⟩,hkd,hr] at hrun
 have hsm:Small (op++[p.f6]):=fun x hx=>by
  rcases List.mem_append.1 hx with hx|hx
  ·exact h.sm x hx
  ·rw [List.mem_singleton.1 hx];have:=h.w0;omega
 refine ⟨⟨Int.le_trans h.a0 h3,h4,by have:=h.w0;omega,by omega,by rw [List.length_append];simp;omega,by have:=h.l1;rw [List.length_append];simp;omega,?_,small_upd hsm,hrun⟩,h1,by have:=h.w0;omega⟩
 have h5:=upd_len (op++[p.f6])
 have h6:=h.l2
 rw [List.length_append] at h5 ⊢
 simp at h5 ⊢
 omega
theorem LP.stop {k:Nat} {s:ByteArray} {T:List S56×Int×Int} {n:Nat} {ps:List S56} {a e wanted:Int} {op:List Int} (h:LP k s T n ps a e wanted op) (hw:¬ ((ps.length:Int)<wanted∧e=0)):T=(ps,a,e):=by
 have hrun:=h.run
 cases n with
 | zero=>exact hrun.symm
 | succ n=>rw [kW,if_neg hw] at hrun;exact hrun.symm
section
open Go.Extern.Stop Go.Stop Go.Extern
theorem as_nil (t:Value) (w:World) :
  Calls Tryz.prog 41 #[.nilIface,t] w fun e w'=>e=.returned (.bool false)∧w'=w:=by
 go_enter Tryz.func41,Tryz.ntmps41
 go_wp2
 go_ret
 exact ⟨rfl,rfl⟩
theorem As.valueOf27 (t:Addr) (w:World):(ReflectliteValue.unpack (.iface 90 (.pointer (some t)))).run Tryz.prog w
  = .ok (.agg #[.pointer (some ⟨1,90,none⟩),.pointer (some ⟨w.heap.size,0,none⟩),.int .u64 150]) (w.alloc (.cells #[.pointer (some t)] 90)):=by kernel_rfl
theorem As.type27 (a:Addr) (w:World):(ReflectliteValue.methodAny (ReflectliteValue.valueError "reflectlite.Value.Type" 0) (fun t _ _ _=>ReflectliteType.toType t) #[.agg #[.pointer (some ⟨1,90,none⟩),.pointer (some a),.int .u64 150]]).run Tryz.prog w
  = .ok (.iface 181 (.agg #[.pointer (some ⟨1,90,none⟩)])) w:=by kernel_rfl
theorem As.methodKind (h:Value) (w:World):(Go.method 324 181 (.agg #[h]) "Kind").run Tryz.prog w=.ok (142,h) w:=by kernel_rfl
theorem As.kind27 (w:World):((ReflectliteType.abiMethod fun t=>(fun a:Nat=>Value.int IntKind.u8 (a:Int)) <$> Rtype.kind t) #[.pointer (some ⟨1,90,none⟩)]).run Tryz.prog w=.ok (.int .u8 22) w:=by kernel_rfl
theorem As.kind25 (w:World):((ReflectliteType.abiMethod fun t=>(fun a:Nat=>Value.int IntKind.u8 (a:Int)) <$> Rtype.kind t) #[.pointer (some ⟨1,88,none⟩)]).run Tryz.prog w=.ok (.int .u8 25) w:=by kernel_rfl
theorem rlm (z:Sem Value) (f:TypeId→Addr→Nat→Nat→Sem Value) (v:Value) :
  ReflectliteValue.method z f #[v]=(do match ← ReflectliteValue.parts v with|none=>z|some (t,a,fl)=>f t a fl (fl % 32)):=rfl
theorem As.parts27 (a:Addr) (w:World):(ReflectliteValue.parts (.agg #[.pointer (some ⟨1,90,none⟩),.pointer (some a),.int .u64 150])).run Tryz.prog w=.ok (some (90,a,150)) w:=by kernel_rfl
theorem As.isNil27 (a p:Addr) (W:World) (ha:W.cell? a=some (.pointer (some p))) :
  (ReflectliteValue.method (ReflectliteValue.valueError "reflectlite.Value.IsNil" 0) ReflectliteValue.isNil #[.agg #[.pointer (some ⟨1,90,none⟩),.pointer (some a),.int .u64 150]]).run Tryz.prog W=.ok (.bool false) W:=by
 rw [rlm]
 simp only [Sem.run_bind,As.parts27,Result.andThen]
 simp [ReflectliteValue.isNil,loadVar,isAgg,underlying,Tryz.underlying90,ha,Result.andThen]
theorem As.methodElem (h:Value) (w:World):(Go.method 324 181 (.agg #[h]) "Elem").run Tryz.prog w=.ok (154,.agg #[h]) w:=by kernel_rfl
theorem As.methodImplements (h:Value) (w:World):(Go.method 324 181 (.agg #[h]) "Implements").run Tryz.prog w=.ok (155,.agg #[h]) w:=by kernel_rfl
theorem As.methodAssignableTo (h:Value) (w:World):(Go.method 324 181 (.agg #[h]) "AssignableTo").run Tryz.prog w=.ok (152,.agg #[h]) w:=by kernel_rfl
theorem As.elem27 (w:World):(ReflectliteType.method ReflectliteType.elem #[.agg #[.pointer (some ⟨1,90,none⟩)]]).run Tryz.prog w=.ok (.iface 181 (.agg #[.pointer (some ⟨1,88,none⟩)])) w:=by kernel_rfl
theorem As.implements25 (w:World):(ReflectliteType.relation "Implements" ReflectliteType.implements_ #[.agg #[.pointer (some ⟨1,88,none⟩)],.iface 181 (.agg #[.pointer (some ⟨1,47,none⟩)])]).run Tryz.prog w=.ok (.bool true) w:=by kernel_rfl
theorem As.typeOf25 (v:Value) (w:World):(ReflectliteType.typeOf #[.iface 88 v]).run Tryz.prog w=.ok (.iface 181 (.agg #[.pointer (some ⟨1,88,none⟩)])) w:=by kernel_rfl
theorem As.assignable25 (w:World):(ReflectliteType.relation "AssignableTo" ReflectliteType.assignableTo #[.agg #[.pointer (some ⟨1,88,none⟩)],.iface 181 (.agg #[.pointer (some ⟨1,88,none⟩)])]).run Tryz.prog w=.ok (.bool true) w:=by kernel_rfl
theorem As.valueOf25 (e:Int) (w:World):(ReflectliteValue.unpack (.iface 88 (.agg #[.int .i64 e]))).run Tryz.prog w
  = .ok (.agg #[.pointer (some ⟨1,88,none⟩),.pointer (some ⟨w.heap.size,0,none⟩),.int .u64 153]) (w.alloc (.cells #[.int .i64 e] 88)):=by kernel_rfl
theorem As.elemOf27 (w:World):(Rtype.elem? 90).run Tryz.prog w=.ok (some 88) w:=by kernel_rfl
theorem As.mk25 (p:Addr) (w:World):(ReflectliteValue.mk 88 p ReflectliteValue.flagAddr).run Tryz.prog w=.ok (.agg #[.pointer (some ⟨1,88,none⟩),.pointer (some p),.int .u64 409]) w:=by kernel_rfl
theorem As.elemV27 (a p:Addr) (W:World) (ha:W.cell? a=some (.pointer (some p))) :
  (ReflectliteValue.method (ReflectliteValue.valueError "reflectlite.Value.Elem" 0) ReflectliteValue.elem #[.agg #[.pointer (some ⟨1,90,none⟩),.pointer (some a),.int .u64 150]]).run Tryz.prog W
   = .ok (.agg #[.pointer (some ⟨1,88,none⟩),.pointer (some p),.int .u64 409]) W:=by
 rw [rlm]
 simp only [Sem.run_bind,As.parts27,Result.andThen]
 simp [ReflectliteValue.elem,loadVar,isAgg,underlying,Tryz.underlying90,ha,Result.andThen,As.elemOf27,As.mk25]
theorem rls (v x:Value):ReflectliteValue.set #[v,x]=(do
  let (some (dst,a,fl),some (src,b,_)):=(← ReflectliteValue.parts v,← ReflectliteValue.parts x)
   | unsupported (.noEntry "extern/(internal/reflectlite.Value).Set.zeroValue")
  if fl / ReflectliteValue.flagAddr % 2 == 0 then unsupported (.noEntry "extern/(internal/reflectlite.Value).Set.unaddressable")
  let val ← loadVar src b
  if ← Rtype.directlyAssignable dst src then storeVar dst a val
  else if ← Rtype.implements dst src then
   if (← Rtype.kind src) == 20 then
    match val with
    | .nilIface=>unsupported (.noEntry "extern/reflectlite: a nil value of one interface type handed on as a value of another")
    | _=>storeVar dst a val
   else storeVar dst a (.iface src val)
  else panicString ("reflectlite.Set: value of type "++(← Rtype.spelt src)++" is not assignable to type "++(← Rtype.spelt dst))
  pure (.tuple #[])):=rfl
theorem As.parts25a (a:Addr) (w:World):(ReflectliteValue.parts (.agg #[.pointer (some ⟨1,88,none⟩),.pointer (some a),.int .u64 409])).run Tryz.prog w=.ok (some (88,a,409)) w:=by kernel_rfl
theorem As.parts25 (a:Addr) (w:World):(ReflectliteValue.parts (.agg #[.pointer (some ⟨1,88,none⟩),.pointer (some a),.int .u64 153])).run Tryz.prog w=.ok (some (88,a,153)) w:=by kernel_rfl
theorem As.direct25 (w:World):(Rtype.directlyAssignable 88 88).run Tryz.prog w=.ok true w:=by kernel_rfl
theorem As.size25 (w:World):(sizeOf 88).run Tryz.prog w=.ok 1 w:=by kernel_rfl
theorem As.load25 (b:Addr) (e:Int) (W:World) (hb:W.cell? b=some (.int .i64 e)):(loadVar 88 b).run Tryz.prog W=.ok (.agg #[.int .i64 e]) W:=by
 simp [loadVar,isAgg,underlying,Tryz.underlying88,Result.andThen,As.size25,loadCells,loadCellsFrom,Addr.add,hb]
theorem As.store25 (ta:Addr) (e:Int) (old:Value) (W:World) (ht:W.cell? ta=some old) (hf:W.frozen? ta=false):(storeVar 88 ta (.agg #[.int .i64 e])).run Tryz.prog W=.ok () (W.setCell ta (.int .i64 e)):=by
 simp [storeVar,Value.cells,As.size25,storeCells,Addr.add,Result.andThen]
 rw [run_store Tryz.prog W ta _ _ (by rfl)]
 simp [ht,hf]
theorem As.set25 (ta b:Addr) (e:Int) (old:Value) (W:World) (hb:W.cell? b=some (.int .i64 e)) (ht:W.cell? ta=some old) (hf:W.frozen? ta=false) :
  (ReflectliteValue.set #[.agg #[.pointer (some ⟨1,88,none⟩),.pointer (some ta),.int .u64 409],.agg #[.pointer (some ⟨1,88,none⟩),.pointer (some b),.int .u64 153]]).run Tryz.prog W
   = .ok (.tuple #[]) (W.setCell ta (.int .i64 e)):=by
 rw [rls]
 simp only [Sem.run_bind,As.parts25a,As.parts25,Result.andThen]
 simp [ReflectliteValue.flagAddr,As.load25 b e W hb,Result.andThen,As.direct25,As.store25 ta e old W ht hf]
theorem as_hit (e:Int) (t:Addr) (old:Value) (w:World) (hg:w.cell? ⟨0,0,none⟩=some (.iface 181 (.agg #[.pointer (some ⟨1,47,none⟩)]))) (ht0:w.cell? t=some old) (hf0:w.frozen? t=false) :
  Calls Tryz.prog 41 #[.iface 88 (.agg #[.int .i64 e]),.iface 90 (.pointer (some t))] w fun ev w'=>ev=.returned (.bool true)∧w'=((((w.alloc (.cells #[.pointer (some t)] 90)).alloc (.cells #[.pointer (some ⟨1,90,none⟩),.pointer (some ⟨w.heap.size,0,none⟩),.int .u64 150] 137)).alloc (.cells #[.pointer (some ⟨1,90,none⟩),.pointer (some ⟨w.heap.size,0,none⟩),.int .u64 150] 137)).alloc (.cells #[.int .i64 e] 88)).setCell t (.int .i64 e):=by
 have h6:=@run_callFunc_extern Tryz.prog 84 _ (fun args=>ReflectliteValue.unpack (args.getD 0 (.tuple #[]))) Tryz.func84 (by kernel_rfl) (by kernel_rfl) (by kernel_rfl) (by kernel_rfl)
 have h7:=@run_callFunc_extern Tryz.prog 85 _ (ReflectliteValue.methodAny (ReflectliteValue.valueError "reflectlite.Value.Type" 0) (fun t _ _ _=>ReflectliteType.toType t)) Tryz.func85 (by kernel_rfl) (by kernel_rfl) (by kernel_rfl) (by kernel_rfl)
 have h8:=@run_callFunc_extern Tryz.prog 86 _ (ReflectliteValue.method (ReflectliteValue.valueError "reflectlite.Value.IsNil" 0) ReflectliteValue.isNil) Tryz.func86 (by kernel_rfl) (by kernel_rfl) (by kernel_rfl) (by kernel_rfl)
 have h27:=@run_callFunc_extern Tryz.prog 142 _ (ReflectliteType.abiMethod fun t=>do pure (.int .u8 (← Rtype.kind t))) Tryz.func142 (by kernel_rfl) (by kernel_rfl) (by kernel_rfl) (by kernel_rfl)
 have h37:=@run_callFunc_extern Tryz.prog 154 _ (ReflectliteType.method ReflectliteType.elem) Tryz.func154 (by kernel_rfl) (by kernel_rfl) (by kernel_rfl) (by kernel_rfl)
 have h38:=@run_callFunc_extern Tryz.prog 155 _ (ReflectliteType.relation "Implements" ReflectliteType.implements_) Tryz.func155 (by kernel_rfl) (by kernel_rfl) (by kernel_rfl) (by kernel_rfl)
 have h10:=@run_callFunc_extern Tryz.prog 117 _ ReflectliteType.typeOf Tryz.func117 (by kernel_rfl) (by kernel_rfl) (by kernel_rfl) (by kernel_rfl)
 have h35:=@run_callFunc_extern Tryz.prog 152 _ (ReflectliteType.relation "AssignableTo" ReflectliteType.assignableTo) Tryz.func152 (by kernel_rfl) (by kernel_rfl) (by kernel_rfl) (by kernel_rfl)
 have h11:=@run_callFunc_extern Tryz.prog 118 _ (ReflectliteValue.method (ReflectliteValue.valueError "reflectlite.Value.Elem" 0) ReflectliteValue.elem) Tryz.func118 (by kernel_rfl) (by kernel_rfl) (by kernel_rfl) (by kernel_rfl)
 have h12:=@run_callFunc_extern Tryz.prog 119 _ ReflectliteValue.set Tryz.func119 (by kernel_rfl) (by kernel_rfl) (by kernel_rfl) (by kernel_rfl)
 have tO:=As.typeOf25
 have mA:=As.methodAssignableTo
 have a25:=As.assignable25
 have v25:=As.valueOf25
 have f6:=As.valueOf27
 have f7:=As.type27
 have mK:=As.methodKind
 have mE:=As.methodElem
 have mI:=As.methodImplements
 have k27:=As.kind27
 have k25:=As.kind25
 have e27:=As.elem27
 have i25:=As.implements25
 have n8:=As.isNil27 ⟨w.heap.size,0,none⟩ t ((w.alloc (.cells #[.pointer (some t)] 90)).alloc (.cells #[.pointer (some ⟨1,90,none⟩),.pointer (some ⟨w.heap.size,0,none⟩),.int .u64 150] 137)) (by simp)
 have hlt:0<w.heap.size:=by
  rcases Nat.eq_zero_or_pos w.heap.size with h0|h
  ·simp [World.cell?,h0] at hg
  ·exact h
 have hg2:((w.alloc (.cells #[.pointer (some t)] 90)).alloc (.cells #[.pointer (some ⟨1,90,none⟩),.pointer (some ⟨w.heap.size,0,none⟩),.int .u64 150] 137)).cell? ⟨0,0,none⟩=some (.iface 181 (.agg #[.pointer (some ⟨1,47,none⟩)])):=by
  rw [World.cell?_alloc_lt _ _ ⟨0,0,none⟩ (by simp),World.cell?_alloc_lt _ _ ⟨0,0,none⟩ hlt];exact hg
 have htl:t.block<w.heap.size:=by
  rcases Nat.lt_or_ge t.block w.heap.size with h|h
  ·exact h
  ·simp [World.cell?,Array.getElem?_eq_none h] at ht0
 have el:=As.elemV27 ⟨w.heap.size,0,none⟩ t (((w.alloc (.cells #[.pointer (some t)] 90)).alloc (.cells #[.pointer (some ⟨1,90,none⟩),.pointer (some ⟨w.heap.size,0,none⟩),.int .u64 150] 137)).alloc (.cells #[.pointer (some ⟨1,90,none⟩),.pointer (some ⟨w.heap.size,0,none⟩),.int .u64 150] 137)) (by rw [World.cell?_alloc_lt _ _ ⟨w.heap.size,0,none⟩ (by simp;omega)];simp)
 have st:=As.set25 t ⟨w.heap.size+1+1+1,0,none⟩ e old ((((w.alloc (.cells #[.pointer (some t)] 90)).alloc (.cells #[.pointer (some ⟨1,90,none⟩),.pointer (some ⟨w.heap.size,0,none⟩),.int .u64 150] 137)).alloc (.cells #[.pointer (some ⟨1,90,none⟩),.pointer (some ⟨w.heap.size,0,none⟩),.int .u64 150] 137)).alloc (.cells #[.int .i64 e] 88))
  (by rw [World.cell?_alloc_at _ _ _ _ (by simp)];rfl)
  (by rw [World.cell?_alloc_lt _ _ t (by simp;omega),World.cell?_alloc_lt _ _ t (by simp;omega),World.cell?_alloc_lt _ _ t (by simp;omega),World.cell?_alloc_lt _ _ t htl];exact ht0)
  (by rw [World.frozen?_alloc_old _ _ t (by simp;omega),World.frozen?_alloc_old _ _ t (by simp;omega),World.frozen?_alloc_old _ _ t (by simp;omega),World.frozen?_alloc_old _ _ t (Nat.ne_of_lt htl)];exact hf0)
 go_enter Tryz.func41,Tryz.ntmps41
 go_wp2
 refine wp_loop_rounds 1 ?_
 rw [rounds_succ]
 go_wp2
 go_ret
 exact ⟨rfl,rfl⟩
end
theorem yF {w:World} (o:Obj):Below w.heap.size w (w.alloc o):=(Below.refl _ _).alloc (Nat.le_refl _) _
theorem LM.size3 {s:ByteArray} {w W:World} {v5 v7:Value} {ps:List S56} {a e:Int} {op:List Int} (h:LM s w v5 v7 ps a e op W):w.heap.size+3≤W.heap.size:=yx h.cb
theorem row_up {α:Type} {d:Kd α} {q N base:Nat} {w wr w1:World} {o:Obj} {v:Value} {xs:List α} (h:d.R q w1 N (fun _=>True) v xs) (_:Below w.heap.size w wr) (hN:base≤N):d.R q (w1.alloc o) base (fun k=>N≤k) v xs :=
 Kd.yH (Kd.Vq (Kd.qm (Kd.jv h) (fun k hk=>hk.2.1)) o) hN
theorem glob_at {w W:World} {v:Value} (h:Below w.heap.size w W) (hv:w.cell? ⟨0,0,none⟩=some v):W.cell? ⟨0,0,none⟩=some v:=(h.cell (World.block_lt_of_cell? w _ hv)).trans hv
theorem glob_new {W:World} {v:Value} (hv:W.cell? ⟨0,0,none⟩=some v) (o:Obj):(W.alloc o).cell? ⟨0,0,none⟩=some v:=((yF o).cell (World.block_lt_of_cell? W _ hv)).trans hv
theorem fail5 {b:Nat} {s:ByteArray} {a:Int} {w:World} (h:RD b s a (if (0:Int)=0 then 5 else 0) w):w.cell? ⟨b,2,none⟩=some (.iface 88 (.agg #[.int .i64 5])):=h.c2
theorem as_hit2 (e:Int) (W:World) (hg:W.cell? ⟨0,0,none⟩=some (.iface 181 (.agg #[.pointer (some ⟨1,47,none⟩)]))) :
  Calls Tryz.prog 41 #[.iface 88 (.agg #[.int .i64 e]),.iface 90 (.pointer (some ⟨W.heap.size,0,none⟩))] (W.alloc (.cells #[.int .i64 0] 88 (0,0))) fun ev w'=>ev=.returned (.bool true)∧Below W.heap.size W w'∧w'.heap[W.heap.size]?=some (.cells #[.int .i64 e] 88 (0,0)):=by
 refine (as_hit e ⟨W.heap.size,0,none⟩ (.int .i64 0) _ (glob_new hg _) ((zi (jK W _) 0).trans rfl) (zn (jK W _) 0)).mono ?_
 rintro ev w' ⟨rfl,rfl⟩
 exact ⟨rfl,(zS (zS (zS (zS (zS (Below.refl _ _) _) _) _) _) _).setCell (p:=⟨W.heap.size,0,none⟩) (Nat.le_refl _) _,(yO (zT (zT (zT (zT (jK W _) _) _) _) _) 0 _).trans rfl⟩
theorem load_start {s:ByteArray} {w:World} (n:Nat):LM s w (.slice none 0 0) (.slice none 0 0) [] 6 0 [] ((((w.alloc (.cells #[.slice none 0 0] 25 (0,0))).drewN n).alloc (.cells #[.string s,.int .i64 6,.nilIface] 85 (0,0))).alloc (.cells #[.slice none 0 0] 25 (0,0))):=by
 have h1:Below w.heap.size w (w.alloc (.cells #[.slice none 0 0] 25 (0,0))):=zS (Below.refl _ _) _
 have h2:=zS (zJ h1 n) (.cells #[.string s,.int .i64 6,.nilIface] 85 (0,0))
 have h3:=zS h2 (.cells #[.slice none 0 0] 25 (0,0))
 have b1:((w.alloc (.cells #[.slice none 0 0] 25 (0,0))).drewN n).heap[w.heap.size]?=some (.cells #[.slice none 0 0] 25 (0,0)):=qJ (jK w _) n
 have b2:=jK ((w.alloc (.cells #[.slice none 0 0] 25 (0,0))).drewN n) (.cells #[.string s,.int .i64 6,.nilIface] 85 (0,0))
 have b3:=jK (((w.alloc (.cells #[.slice none 0 0] 25 (0,0))).drewN n).alloc (.cells #[.string s,.int .i64 6,.nilIface] 85 (0,0))) (.cells #[.slice none 0 0] 25 (0,0))
 rw [World.heap_drewN,World.size_alloc] at b2
 rw [World.size_alloc,World.heap_drewN,World.size_alloc] at b3
 exact ⟨zT b2 _,h3,zT (zT b1 _) _,b3,Kd.S_nil _ _ _ _ _,Kd.Qg _ _ _ _ _⟩
theorem load0 (k:Nat) (hk8:∀ s:ByteArray,s.size≤8→∃ r,zU.f k s 0=some r) (s:ByteArray) (w:World) (hg:Xn s) (hz:s.size≤140737488351232) (pf:Bool) (hp:strings_HasPrefix.f s ⟨#[27,76,82,86,1,0]⟩=some pf) (h6:pf=true→6≤s.size)
  (hgl:w.cell? ⟨0,0,none⟩=some (.iface 181 (.agg #[.pointer (some ⟨1,47,none⟩)]))) (r1:List S56) (r2:Int) (hr:rLoad k s=(r1,r2)) :
  Calls Tryz.prog 9 #[.string s] w fun e w'=>∃ v0,e=.returned (.tuple #[.agg #[v0],.int .i64 r2])∧Kd.S k56 56 w' w.heap.size (fun _=>True) v0 r1∧Below w.heap.size w w':=by
 have hu24:=Tryz.underlying25
 have JG:Tryz.prog.follows .mixedOrders=true:=by kernel_rfl
 have HP:=Ak hp
 unfold rLoad at hr
 rw [hp] at hr
 have BK:=Ak (jK w (.cells #[.slice none 0 0] 25 (0,0)))
 have HB:=Ak (zS (Below.refl w.heap.size w) (.cells #[.slice none 0 0] 25 (0,0)))
 clear hp
 cases pf
 ·rw [if_neg (by simp)] at hr
  cases hr
  go_enter Tryz.func9,Tryz.ntmps9
  go_wp2_with (go_at_call 38;refine (strings_HasPrefix.calls _ _ false _ HP.out).mono ?_;rintro r w1 ⟨rfl,⟨nd,rfl⟩⟩)
  refine bodyPost_ret (Yq rfl _ _ w.heap.size 25 #[.slice none 0 0] (0,0) _ rfl ((yO (qJ BK.out nd) 0 _).trans rfl) hu24 rfl (by kernel_rfl)) rfl ?_
  exact ⟨_,rfl,Kd.S_nil _ _ _ _ _,(zJ HB.out nd).setCell (p:=⟨w.heap.size,0,none⟩) (Nat.le_refl _) _⟩
 ·rw [if_pos rfl] at hr
  have h6:=h6 rfl
  obtain ⟨T,hT⟩:∃ T,kW k s 200 6 0 [] 1 []=T:=⟨_,rfl⟩
  rw [hT] at hr
  have HR:=Ak hr
  have P0:zh (LP k s T 200 [] 6 0 1 []):=⟨⟨by decide,by omega,by decide,by decide,by decide,by decide,by decide,fun x hx=>by simp at hx,hT⟩⟩
  clear hr hT h6
  go_enter Tryz.func9,Tryz.ntmps9
  go_wp2_with (go_at_call 38;refine (strings_HasPrefix.calls _ _ true _ HP.out).mono ?_;rintro r w1 ⟨rfl,⟨nd,rfl⟩⟩;have L0:=Ak (load_start (s:=s) (w:=w) nd))
  clear BK HB HP
  go_loopg [6,7] 200 (fun kq v6 v7 W'=>∃ (n:Nat) (v5:Value) (ps:List S56) (a e wanted:Int) (op:List Int),v6=.int .i64 wanted∧zh (kq=n)∧zh (LM s w v5 v7 ps a e op W')∧zh (LP k s T n ps a e wanted op))
  case atStart=>exact ⟨200,_,[],6,0,1,[],rfl,⟨rfl⟩,L0,P0⟩
  case round =>
   obtain ⟨n,v5,ps,a,e,wanted,op,rfl,HJ,HM,HL⟩:=hrel
   clear L0 P0
   obtain ⟨A5,q5,rfl⟩:=Kd.Zx HM.out.r5
   obtain ⟨A7,q7,rfl⟩:=Kd.yA HM.out.r7
   have cc:wr.cell? ⟨w.heap.size+1+1,0,none⟩=some (.slice A5 ps.length q5):=(zi HM.out.cb 0).trans rfl
   have ec:=HM.out.rd.c2
   by_cases he:e=0
   ·subst he
    rw [erv0] at ec
    by_cases hw:(ps.length:Int)<wanted
    ·have d0:=dt hw
     obtain ⟨n,rfl⟩:∃ m,n=m+1:=⟨n-1,by have h1:=HL.out.l1;have h2:=HL.out.w1;omega⟩
     have hw0:=HL.out.w0
     have hw1:=HL.out.w1
     have HL2:zh (ps.length≤200∧op.length≤200):=⟨by have:=HL.out.l0;have:=HL.out.l2;omega,by have:=HL.out.l0;have:=HL.out.l2;omega⟩
     obtain ⟨kids,hkd⟩:∃ kd,(if 63≤op.length then 0 else 200-wanted)=kd:=⟨_,rfl⟩
     obtain ⟨p,a',e',hpr⟩:=tri (vF k s kids a 0)
     obtain ⟨hL,hk0,hk1⟩:=HL.out.next hg hw hkd hpr
     have hkd0:0≤kids:=by rw [← hkd];split <;> omega
     have HL':=Ak hL
     have HPR:=Ak hpr
     have lt3:w.heap.size+3≤wr.heap.size:=yx HM.out.cb
     clear hL hpr
     have hgk:∃ gm,gk=gm+1:=⟨gk-1,by have:=HJ.out;omega⟩
     obtain ⟨gm,hgm⟩:=hgk
     have HGM:=Ak hgm;clear hgm
     have hc:∃ c:Bool,decide ((63:Int)≤(op.length:Int))=c∧decide (63≤op.length)=c∧((c=true∧kids=0)∨(c=false∧IntKind.i64.wrap (200-wanted)=kids)):=by
      by_cases h63:63≤op.length
      ·rw [if_pos h63] at hkd
       exact ⟨true,dt (by omega),dt h63,.inl ⟨rfl,hkd.symm⟩⟩
      ·rw [if_neg h63] at hkd
       exact ⟨false,df (by omega),df h63,.inr ⟨rfl,by rw [IntKind.wrap_i64];omega⟩⟩
     clear hw hkd
     obtain ⟨c,d1,d2,⟨rfl,rfl⟩|⟨rfl,wk⟩⟩:=hc
     all_goals
      go_wp2_with (first|(go_at_call 39;refine (proto k hk8 w.heap.size (w.heap.size+1) s _ a 0 p a' e' _ HM.out.rd (Nat.le_succ _) HM.out.bel.size hg HL.out.a0 HL.out.a1 hz hkd0 HPR.out).mono ?_;rintro r w1 ⟨u3,u4,u5,u8,u9,rfl,g3,g4,g5,g8,g9,hrd,hfk⟩;obtain ⟨B3,m3,rfl⟩:=Kd.yA g3;obtain ⟨B4,m4,rfl⟩:=Kd.yA g4;obtain ⟨B5,m5,rfl⟩:=Kd.yA g5;obtain ⟨B8,m8,rfl⟩:=Kd.yA g8;obtain ⟨B9,m9,rfl⟩:=Kd.yA g9;have MC:=Ak (HM.out.call hrd hfk);have G3:=Ak g3;have G4:=Ak g4;have G5:=Ak g5;have G8:=Ak g8;have G9:=Ak g9;have FK:=Ak hfk;have cc1:w1.cell? ⟨w.heap.size+1+1,0,none⟩=some (.slice A5 ps.length q5):=(zi MC.out.2.2.2.1 0).trans rfl;have lt1:w.heap.size+1+1<w1.heap.size:=yx MC.out.2.2.2.1;clear g3 g4 g5 g8 g9 hrd hfk)|(at_builtin;refine Kd.S_append k56 (w0:=_) (w.heap.size+3) rfl (.tmp 39) (.tmp 41) 23 56 (.agg #[(.int .i64 0),(.bool false),(.int .i64 0),(.slice none 0 0),(.slice none 0 0),(.slice none 0 0),(.int .i64 0),(.string ⟨#[]⟩),(.slice none 0 0),(.slice none 0 0)]) 168 rfl Tryz.underlying23 info56 rfl (by decide) (by decide) (.slice A5 ps.length q5) ps p [.int .i64 p.f0,.bool p.f1,.int .i64 p.f2,.slice B3 p.f3.length m3,.slice B4 p.f4.length m4,.slice B5 p.f5.length m5,.int .i64 p.f6,.string p.f7,.slice B8 p.f8.length m8,.slice B9 p.f9.length m9] (fun k_=>some k_≠(Value.slice A7 op.length q7).ownBlock) (fun k_=>wr.heap.size≤k_) rfl (by first|(go_simp;done)|(go_simp;rfl)|rfl) ?aP ?aK ?aF ?aO (Below.refl _ _) ?aS ?aL ?_;(case aP=>exact k56_mkM _ _ _ p (row_up G3.out HM.out.bel lt3) (row_up G4.out HM.out.bel lt3) (row_up G5.out HM.out.bel lt3) (row_up G8.out HM.out.bel lt3) (row_up G9.out HM.out.bel lt3));(case aK=>exact fun k_ hk=>⟨fun he=>by have:=Kd.Zv HM.out.r7 k_ he.symm;omega,fun he=>by have:=Kd.S_lt HM.out.r5 k_ he.symm;omega⟩);(case aF=>exact fun k_ hk he=>by have h1:=Kd.Zv HM.out.r7 k_ he.symm;have h2:=FK.out.size;rw [World.size_alloc] at hk;omega);(case aO=>exact Kd.Z4 (Kd.S_alloc MC.out.2.2.2.2.1 _) (fun k_ hk=>⟨hk.1,by have:=hk.2;omega⟩));(case aS=>rw [World.size_alloc];omega);(case aL=>have:=HL2.out;omega);intro v5' w3 hS _ hg3 _;obtain ⟨A5',q5',rfl⟩:=Kd.Zx hS;obtain ⟨LA,c3,f3,p3⟩:=LM.appended MC.out (yF _) hg3 hS (jK w1 _) (Nat.le_refl _);rw [show (ps++[p]).length=ps.length+1 by simp] at LA;have LA':=Ak LA;have k3:w3.cell? ⟨w1.heap.size,6,none⟩=some (.int .i64 p.f6):=(zi p3 6).trans rfl;clear LA p3 hS hg3)|((with_reducible refine yt (b:=.append) (xs:=#[.tmp 48,.tmp 51]) rfl ?_);at_builtin;refine Kd.jA (Kd.int .i64) (w0:=_) (w.heap.size+3) rfl (.tmp 48) (.tmp 51) 53 3 (.int .i64 0) 8 rfl Tryz.underlying53 linfo3 rfl (by decide) (by decide) (.slice A7 op.length q7) op p.f6 [.int .i64 p.f6] (fun _=>True) (fun _=>False) rfl (by first|(go_simp;done)|(go_simp;rfl)|rfl) rfl (fun _ hk=>hk.elim) (fun _ _=>trivial) LA'.out.r7 (Below.refl _ _) ?bS ?bL ?_;(case bS=>exact LA'.out.size3);(case bL=>have:=HL2.out;omega);intro v7' w5 hR _ hg5 hat5;obtain ⟨A7',q7',rfl⟩:=Kd.yA hR;have lb:=LA'.out.pushed hg5 hR hat5;have LB:=Ak lb;clear hR hg5 hat5))
      go_loopg [7] (op.length+1) (fun kq v7 W'=>∃ (o2:List Int) (A:Option Addr) (q:Nat),v7=.slice A o2.length q∧zh (kq=o2.length)∧zh (LM s w (.slice A5' (ps.length+1) q5') (.slice A o2.length q) (ps++[p]) a' e' o2 W'∧JC o2=JC (op++[p.f6])∧o2.length≤op.length+1))
      case atStart=>exact ⟨op++[p.f6],A7',q7',by simp,⟨by simp⟩,⟨LB.out,rfl,by simp⟩⟩
      case round =>
       obtain ⟨o2,A,q,rfl,HJ2,HV⟩:=hrel
       clear LB
       by_cases hl:0<o2.length
       ·obtain ⟨g,q',hA,hgb,_,_⟩:=Kd.R_form HV.out.1.r7 hl
        injection hA with hA _ hq
        subst hA
        subst hq
        obtain ⟨m,hm⟩:∃ m,o2.length=m+1:=⟨o2.length-1,by omega⟩
        obtain ⟨x,hx⟩:∃ x,rd o2 (m:Int)=x:=⟨_,rfl⟩
        have cx:wr.cell? ⟨g,m,none⟩=some (.int .i64 x):=by
         rw [(Vp HV.out.1.r7).cellAt m (by omega),← hx]
         simp [encs,rd,List.getD,show m<o2.length by omega]
        have fx:wr.frozen? ⟨g,m,none⟩=false:=(Vp HV.out.1.r7).frozenAt m
        have HX:=Ak hx;have HMM:=Ak hm
        have m2:m≤200:=by have:=HV.out.2.2;have:=HL2.out;omega
        have i1:IntKind.i64.wrap (((m+1:Nat):Int)-1)=(m:Int):=by rw [IntKind.wrap_i64];omega
        have hcq:=(Kd.yB HV.out.1.r7).2.1
        have q0:m≤q:=by omega
        have q1:(m:Int)≤(q:Int):=by omega
        obtain ⟨g2,hg2⟩:∃ g2,gk=g2+1:=⟨gk-1,by have:=HJ2.out;omega⟩
        have HG2:=Ak hg2
        rw [hm]
        clear hm hx hl hcq hg2 LA'
        by_cases hx0:x=0
        ·subst hx0
         go_wp2
         have hg2:=HG2.out
         subst hg2
         go_roundg g2
         case measure=>have:=HJ2.out;have:=HMM.out;omega
         case rel=>exact ⟨o2.take m,_,_,by rw [List.length_take,Nat.min_eq_left (by have:=HMM.out;omega)],⟨by rw [List.length_take];have:=HMM.out;have:=HJ2.out;omega⟩,⟨by
          have h:=HV.out.1.take m (by have:=HMM.out;omega)
          rwa [show (o2.take m).length=m by rw [List.length_take];have:=HMM.out;omega],by
          rw [← HV.out.2.1,← popZ_step (l:=o2) (by have:=HMM.out;omega) (by rw [HMM.out];rw [show ((m+1:Nat):Int)-1=(m:Int) by omega];exact HX.out),HMM.out];rfl,by rw [List.length_take];have:=HV.out.2.2;omega⟩⟩
        ·have e0:=bF hx0
         have hst:JC o2=o2:=popZ_stop (fun h=>hx0 (by rw [← HX.out];have h2:=h.2;rw [HMM.out,show ((m+1:Nat):Int)-1=(m:Int) by omega] at h2;exact h2))
         have hup:upd (op++[p.f6])=o2.set m (x-1):=by
          unfold upd
          rw [← HV.out.2.1,hst,if_pos (by have:=HMM.out;omega),HMM.out,show ((m+1:Nat):Int)-1=(m:Int) by omega,HX.out]
          rfl
         have hxr:0≤x-1∧x-1≤200:=by
          have h:=HL'.out.sm (x-1) (by rw [hup];exact List.mem_set (show m<o2.length by have:=HMM.out;omega) _)
          exact h
         have HUP:=Ak hup;clear hst hup HX
         go_wp2
         have hgm:=HGM.out
         subst hgm
         go_roundg gm
         case measure=>have:=HJ.out;omega
         case rel=>exact ⟨n,_,ps++[p],a',e',wanted+p.f6,upd (op++[p.f6]),rfl,⟨by have:=HJ.out;omega⟩,⟨by
          rw [HUP.out]
          have h:=HV.out.1.dec m (x-1)
          rwa [HMM.out] at h⟩,HL'⟩
       ·obtain rfl:o2=[]:=List.eq_nil_of_length_eq_zero (by omega)
        have hup:upd (op++[p.f6])=[]:=by
         have h:=HV.out.2.1
         unfold upd
         rw [← h,show JC ([]:List Int)=[] from rfl]
         rfl
        have HUP:=Ak hup;clear hup hl LA'
        go_wp2
        have hgm:=HGM.out
        subst hgm
        go_roundg gm
        case measure=>have:=HJ.out;omega
        case rel=>exact ⟨n,_,ps++[p],a',e',wanted+p.f6,upd (op++[p.f6]),rfl,⟨by have:=HJ.out;omega⟩,⟨by
         rw [HUP.out]
         exact HV.out.1⟩,HL'⟩
    ·obtain rfl:=HL.out.stop (fun h=>hw h.1)
     have d0:=df hw
     have h1c:=HM.out.rd.c1
     have h0c:=HM.out.rd.c0
     have ltr:w.heap.size+1+1<wr.heap.size:=yx HM.out.cb
     have ltb:w.heap.size+1<wr.heap.size:=HM.out.rd.lt
     have lta:w.heap.size<wr.heap.size:=yx HM.out.rb
     have HGL:=Ak (glob_at HM.out.bel hgl)
     by_cases ha:a<(s.size:Int)
     ·have d1:=dt ha
      have HR2:zh (r1=[]∧r2=5):=⟨by have h:=HR.out;rw [if_pos rfl,if_pos ha] at h;cases h;exact ⟨rfl,rfl⟩⟩
      clear HR ha hw
      go_wp2_with (first|(go_at_call 40;refine (fail w.heap.size (w.heap.size+1) s a 0 5 _ HM.out.rd (Nat.le_succ _) (by decide)).mono ?_;rintro r w8 ⟨rfl,hh,hk⟩;have MC:=Ak (HM.out.call hh hk);have ec8:w8.cell? ⟨w.heap.size+1,2,none⟩=some (.iface 88 (.agg #[.int .i64 5])):=fail5 hh;have lt8:w.heap.size+1<w8.heap.size:=hh.lt;have lt8a:w.heap.size<w8.heap.size:=Nat.lt_of_succ_lt lt8;have HGL8:=Ak (glob_at MC.out.2.1 hgl);clear hh hk)|(go_at_call 41;refine (as_hit2 5 w8 HGL8.out).mono ?_;rintro r w9 ⟨rfl,hb9,hf9⟩;have B9:=Ak hb9;have R9:=Ak ((hb9.block _ lt8a).trans MC.out.2.2.1);have cf:=(zi hf9 0).trans rfl;have cr:=(zi R9.out 0).trans rfl;have fr:=zn R9.out 0;clear hb9 hf9))
      go_region_with_o (fail)
      all_goals
       go_wp2
       refine bodyPost_ret (Yq rfl _ _ w.heap.size 25 #[.slice none 0 0] (0,0) _ rfl ((yO R9.out 0 _).trans rfl) hu24 rfl (by kernel_rfl)) rfl ?_
       obtain ⟨rfl,rfl⟩:=HR2.out
       exact ⟨_,rfl,Kd.S_nil _ _ _ _ _,by repeat (with_reducible first|exact (MC.out.2.1.trans (B9.out.mono MC.out.2.1.size)).setCell (p:=⟨w.heap.size,0,none⟩) (Nat.le_refl _) _|apply zJ|apply zO)⟩
     ·have d1:=df ha
      have HR2:zh (r1=ps∧r2=0):=⟨by have h:=HR.out;rw [if_pos rfl,if_neg ha] at h;cases h;exact ⟨rfl,rfl⟩⟩
      have cr:=(zi HM.out.rb 0).trans rfl
      have fr:=zn HM.out.rb 0
      clear HR ha hw
      go_wp2_with (go_at_call 41;refine (as_nil _ _).mono ?_;rintro r w9 ⟨rfl,rfl⟩)
      refine bodyPost_ret (Yq rfl _ _ w.heap.size 25 #[.slice A5 ps.length q5] (0,0) _ rfl (zT ((yO HM.out.rb 0 _).trans rfl) _) hu24 rfl (by kernel_rfl)) rfl ?_
      obtain ⟨rfl,rfl⟩:=HR2.out
      exact ⟨_,rfl,Kd.S_alloc (Kd.S_lower (Kd.Z4 (Kd.S_step (Kd.Qp HM.out.r5) (fun k hk _=>Below.heap_setCell wr ⟨w.heap.size,0,none⟩ _ k (show k≠w.heap.size by have:=hk.2.1;omega))) (fun _ _=>trivial)) (by omega)) _,zS (HM.out.bel.setCell (p:=⟨w.heap.size,0,none⟩) (Nat.le_refl _) _) _⟩
   ·obtain rfl:=HL.out.stop (fun h=>he h.2)
    rw [ervn he] at ec
    have HGL:=Ak (glob_at HM.out.bel hgl)
    have HR2:zh (r1=[]∧r2=e):=⟨by have h:=HR.out;rw [if_neg he] at h;cases h;exact ⟨rfl,rfl⟩⟩
    have ltr:w.heap.size+1+1<wr.heap.size:=yx HM.out.cb
    have ltb:w.heap.size+1<wr.heap.size:=HM.out.rd.lt
    have lta:w.heap.size<wr.heap.size:=yx HM.out.rb
    clear HR he
    cases d0:decide ((ps.length:Int)<wanted)
    all_goals
     go_wp2_with (go_at_call 41;refine (as_hit2 e wr HGL.out).mono ?_;rintro r w9 ⟨rfl,hb9,hf9⟩;have B9:=Ak hb9;have R9:=Ak ((hb9.block _ lta).trans HM.out.rb);have cf:=(zi hf9 0).trans rfl;have cr:=(zi R9.out 0).trans rfl;have fr:=zn R9.out 0;clear hb9 hf9)
     go_region_with_o (fail)
     all_goals
      go_wp2
      refine bodyPost_ret (Yq rfl _ _ w.heap.size 25 #[.slice none 0 0] (0,0) _ rfl ((yO R9.out 0 _).trans rfl) hu24 rfl (by kernel_rfl)) rfl ?_
      obtain ⟨rfl,rfl⟩:=HR2.out
      exact ⟨_,rfl,Kd.S_nil _ _ _ _ _,by repeat (with_reducible first|exact (HM.out.bel.trans (B9.out.mono HM.out.bel.size)).setCell (p:=⟨w.heap.size,0,none⟩) (Nat.le_refl _) _|apply zJ|apply zO)⟩
def LdOk (s:ByteArray):Prop:=Xn s∧s.size≤140737488351232∧(∀ s:ByteArray,s.size≤8→∃ r,zU.f 100 s 0=some r)∧∃ pf,strings_HasPrefix.f s ⟨#[27,76,82,86,1,0]⟩=some pf∧(pf=true→6≤s.size)
open Classical in
noncomputable def xY.f (s:ByteArray):Option (List S56×Int):=if LdOk s then some (rLoad 100 s) else none
theorem xY.calls (s:ByteArray) (r1:List S56) (r2:Int) (w:World) (h:xY.f s=some (r1,r2)) (hG:Glob w) :
  Calls Tryz.prog 9 #[.string s] w fun e w'=>∃ v0_:Value,e=.returned (.tuple #[.agg #[v0_],.int .i64 r2])∧Kd.S k56 56 w' w.heap.size (fun _=>True) v0_ r1∧Below w.heap.size w w':=by
 unfold xY.f at h
 split at h
 case isFalse=>cases h
 case isTrue hok =>
  obtain ⟨h1,h2,h3,pf,h4,h5⟩:=hok
  exact load0 100 h3 s w h1 h2 pf h4 h5 hG.g0 r1 r2 (Option.some.inj h)
end Go.Proofs.YtiekodnojmkfaaaGreatDoor.yD
