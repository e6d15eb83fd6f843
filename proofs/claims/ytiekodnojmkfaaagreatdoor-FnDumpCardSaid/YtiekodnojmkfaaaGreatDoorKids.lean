import Derived.Tactics2
import Derived.Deep.DeepCutAuto
import Derived.Deep.CutBlock
import Derived.Shelf.RegionOpenPlain
import Derived.Shelf.Abstract
import Derived.Shelf.RegionOpen
import Derived.WalkKit
import Derived.OwnWalkIn
import Derived.TacticsInMore
import Derived.LoopNIn
import Derived.LoopIn
import Derived.Laws.EntriesVeiled
import Derived.LoopN
import Derived.WalkLawsBesides
import Derived.Test.YtiekodnojmkfaaaGreatDoorPFnDumpx0
import Derived.Test.YtiekodnojmkfaaaGreatDoorPFnDumpx7
import Derived.Test.YtiekodnojmkfaaaGreatDoorWApart
import Derived.Test.YtiekodnojmkfaaaGreatDoorWKept
import Derived.Test.YtiekodnojmkfaaaGreatDoorPFnDumpx4
import Derived.Test.YtiekodnojmkfaaaGreatDoorPFnDumpx8
namespace Go.Proofs.YtiekodnojmkfaaaGreatDoor.yD
set_option maxHeartbeats 32000000
set_option maxRecDepth 100000
open Go.RowKit Go.Proofs.YtiekodnojmkfaaaGreatDoorW.zF Go.Proofs.YtiekodnojmkfaaaGreatDoorW.yC Go.Proofs.YtiekodnojmkfaaaGreatDoorW.yY
attribute [local go_sem] xM xO qG qH yZ xg xP xQ
set_option linter.unusedVariables false
set_option linter.unusedSimpArgs false
theorem R_other {α β:Type} {d:Kd α} {d':Kd β} {e e':Nat} {W w1:World} {base:Nat} {oki oku:Nat→Prop} {v u:Value} {xs:List α} {ys:List β} (hE:d.E=[]) (h:d.R e W base oki v xs) (h':d'.R e' W base oku u ys) (hne:e≠e') (hk:Kept W w1 (fun k=>some k=u.ownBlock)):d.R e w1 base oki v xs :=
 Kd.qm (Kd.Zd (Kd.R_tight hE h) (fun k hk0 hlt=>hk.2 k hlt (fun he=>by
  obtain ⟨c1,h1⟩:=Kd.Zw h k hk0.symm
  obtain ⟨c2,h2⟩:=Kd.Zw h' k he.symm
  rw [h1] at h2
  injection h2 with h2
  injection h2 with _ h2
  exact hne h2))) (fun k hk0=>h.1 k hk0.symm)
theorem R_again {α:Type} {d:Kd α} {e:Nat} {W w1:World} {base:Nat} {oki oku:Nat→Prop} {v:Value} {xs ys:List α} (hE:d.E=[]) (h:d.R e W base oki v xs) (h':d.R e w1 base oku v ys):d.R e w1 base oki v ys :=
 Kd.qm (Kd.R_tight hE h') (fun k hk0=>h.1 k hk0.symm)
structure El (w0 w:World) (P0:Nat→Prop) (W:World) (g n cap:Nat) (xs:List S56) (m:Nat) (x:S56) (oki:Nat→Prop) (v3 v4 v5 v8 v9:Value):Prop where
 hH:Kd.H k56 56 W w0.heap.size P0 (.slice (some ⟨g,0,none⟩) n cap) xs (m:Int) oki [.int .i64 x.f0,.bool x.f1,.int .i64 x.f2,v3,v4,v5,.int .i64 x.f6,.string x.f7,v8,v9]
 lt:m<n
 base:w0.heap.size≤g
 own:P0 g
 far:∀ k,oki k→k≠g
 h3:Kd.R (Kd.int .u32) 60 W w0.heap.size oki v3 x.f3
 h4:Kd.R k67 67 W w0.heap.size oki v4 x.f4
 h5:Kd.R k71 71 W w0.heap.size oki v5 x.f5
 h8:Kd.R (Kd.int .i64) 3 W w0.heap.size oki v8 x.f8
 h9:Kd.R Kd.string 9 W w0.heap.size oki v9 x.f9
 hB:Below w0.heap.size w0 W
 hK:Kept w W P0
section
variable {w0 w W w1:World} {P0:Nat→Prop} {g n cap:Nat} {xs:List S56} {m:Nat} {x:S56} {oki:Nat→Prop} {v3 v4 v5 v8 v9:Value}
theorem El_open (h:Kd.S k56 56 W w0.heap.size P0 (.slice (some ⟨g,0,none⟩) n cap) xs) (hm:m<n) (hx:xs[m]?=some x) (hB:Below w0.heap.size w0 W) (hK:Kept w W P0):∃ oki v3 v4 v5 v8 v9,El w0 w P0 W g n cap xs m x oki v3 v4 v5 v8 v9:=by
 obtain ⟨oki,c,hcl,hM,hcc,hfr,hok,hH⟩:=Kd.S_elem h z56 (m:Int) (by omega) (by omega)
 have hg:(Value.slice (some ⟨g,0,none⟩) n cap).ownBlock=some g:=rfl
 have hx':xs.getD (m:Int).toNat z56=x:=by rw [List.getD_eq_getElem?_getD,Int.toNat_natCast,hx];rfl
 rw [hx'] at hM
 obtain ⟨v3,v4,v5,v8,v9,rfl,h3,h4,h5,h8,h9⟩:=k56_openM hM
 exact ⟨oki,v3,v4,v5,v8,v9,hH,hm,Kd.S_base h g hg,(Kd.S_R h).1 g hg,fun k hk=>(hok k hk).2,h3,h4,h5,h8,h9,hB,hK⟩
theorem El_close (h:El w0 w P0 W g n cap xs m x oki v3 v4 v5 v8 v9):Kd.S k56 56 W w0.heap.size P0 (.slice (some ⟨g,0,none⟩) n cap) (xs.set m x) :=
 Kd.H_back h.hH (k56_mkM W _ oki x h.h3 h.h4 h.h5 h.h8 h.h9) (fun _ hk=>hk)
theorem El_cells (h:El w0 w P0 W g n cap xs m x oki v3 v4 v5 v8 v9):W.cell? ⟨g,m*10,none⟩=some (.int .i64 x.f0)∧W.cell? ⟨g,m*10+1,none⟩=some (.bool x.f1)∧W.cell? ⟨g,m*10+2,none⟩=some (.int .i64 x.f2)∧W.cell? ⟨g,m*10+3,none⟩=some v3∧W.cell? ⟨g,m*10+4,none⟩=some v4∧W.cell? ⟨g,m*10+5,none⟩=some v5∧W.cell? ⟨g,m*10+6,none⟩=some (.int .i64 x.f6)∧W.cell? ⟨g,m*10+7,none⟩=some (.string x.f7)∧W.cell? ⟨g,m*10+8,none⟩=some v8∧W.cell? ⟨g,m*10+9,none⟩=some v9∧W.frozen? ⟨g,m*10,none⟩=false∧W.frozen? ⟨g,m*10+1,none⟩=false∧W.frozen? ⟨g,m*10+2,none⟩=false∧W.frozen? ⟨g,m*10+3,none⟩=false∧W.frozen? ⟨g,m*10+4,none⟩=false∧W.frozen? ⟨g,m*10+5,none⟩=false∧W.frozen? ⟨g,m*10+6,none⟩=false∧W.frozen? ⟨g,m*10+7,none⟩=false∧W.frozen? ⟨g,m*10+8,none⟩=false∧W.frozen? ⟨g,m*10+9,none⟩=false:=by
 obtain ⟨rows,_,hraw,_,_,hcc,_⟩:=Kd.H_raw h.hH (by omega) (by have:=h.lt;omega)
 obtain ⟨_,_,_,_,hfr⟩:=Kd.JQ hraw [] (m:Int) (by omega) (by have:=h.lt;omega)
 exact ⟨hcc 0 _ rfl,hcc 1 _ rfl,hcc 2 _ rfl,hcc 3 _ rfl,hcc 4 _ rfl,hcc 5 _ rfl,hcc 6 _ rfl,hcc 7 _ rfl,hcc 8 _ rfl,hcc 9 _ rfl,hfr 0,hfr 1,hfr 2,hfr 3,hfr 4,hfr 5,hfr 6,hfr 7,hfr 8,hfr 9⟩
theorem El_row5 (h:El w0 w P0 W g n cap xs m x oki v3 v4 v5 v8 v9) {oku:Nat→Prop} {l:List S71} (hr:Kd.R k71 71 w1 w0.heap.size oku v5 l) (hb:Below w0.heap.size w0 w1) (hk:Kept W w1 (fun k=>some k=v5.ownBlock)):El w0 w P0 w1 g n cap xs m (⟨x.f0,x.f1,x.f2,x.f3,x.f4,l,x.f6,x.f7,x.f8,x.f9⟩:S56) oki v3 v4 v5 v8 v9 :=
 ⟨Kd.H_step h.hH (fun k _ hn hlt=>hk.2 k hlt (fun he=>hn (h.h5.1 k he.symm))),h.lt,h.base,h.own,h.far,R_other rfl h.h3 h.h5 (by decide) hk,R_other rfl h.h4 h.h5 (by decide) hk,R_again rfl h.h5 hr,R_other rfl h.h8 h.h5 (by decide) hk,R_other rfl h.h9 h.h5 (by decide) hk,hb,Kept.then_ h.hK hk (fun k he=>.inl (h.hH.1 k (h.h5.1 k he.symm)))⟩
end
abbrev JR:=Nat→List Int→Int→Int→Int→Option (List S56×Int)
def TreeCalls (T:JR):Prop:=∀ (k:Nat) (A0:Option Addr) (c0:Nat) (l0:List Int) (a1 a2 a3:Int) (r1:List S56) (r2:Int) (w:World),Kd.C (Kd.int .u8) w A0 l0.length l0→l0.length≤c0→T k l0 a1 a2 a3=some (r1,r2) →
 Calls Tryz.prog 50 #[.slice A0 l0.length c0,.int .i64 a1,.int .i64 a2,.int .i64 a3] w fun e w'=>∃ v0_:Value,e=.returned (.tuple #[v0_,.int .i64 r2])∧Kd.S k56 56 w' w.heap.size (fun _=>True) v0_ r1∧Below w.heap.size w w'
def setUp (m:Int):List S56→Option (List S56)
 | []=>none
 | x::t=>match x.f5 with
  | []=>none
  | _::us=>some ((⟨x.f0,x.f1,x.f2,x.f3,x.f4,⟨false,m⟩::us,x.f6,x.f7,x.f8,x.f9⟩:S56)::t)
def Xv (T:JR) (k:Nat) (code:List Int) (level:Int) (nu:Nat):Nat→Nat→Int→List S56→Option (List S56×Int)
 | 0,_,p,out=>some (out,p)
 | n+1,i,p,out=>(zx.f k code p 3).bind fun t=>(T k code t.2 (level+1) t.1).bind fun s=>(if 0<nu∧0<t.1∧i=0 then setUp ((nu:Int)-1) s.1 else some s.1).bind fun sub=>if 0<sub.length∧out.length+sub.length≤100000 then Xv T k code level nu n (i+1) s.2 (out++sub) else none
def kidsF (T:JR) (k:Nat) (code:List Int) (p level f0:Int) (f1:Bool) (f2:Int) (l3:List Int) (l4:List S67) (l5:List S71) (f6:Int) (_:ByteArray) (_:List Int) (_:List ByteArray):Option (List S56×Int) :=
 if 0≤level∧level≤100∧0≤f6∧f6≤100∧l3.length≤100000∧l5.length≤100000 then
  (zx.f k code p 8).bind fun t=>if 0≤t.1∧t.1≤7 then
   Xv T k code level l5.length f6.toNat 0 t.2 [(⟨f0,f1,f2,l3,l4,l5,f6,if t.1<3 then strOfNums [102]++strOfNums [97+t.1] else ⟨#[]⟩,if t.1=2 then (List.range l3.length).map (fun i:Nat=>(i:Int)*37) else [],if t.1=2 then List.replicate l5.length (strOfNums [117]) else []⟩:S56)] else none
 else none
theorem kidsL_mono (T:JR) (hT:∀ a0 a1 a2 a3 k,LeO (T k a0 a1 a2 a3) (T (k+1) a0 a1 a2 a3)) (k:Nat) (code:List Int) (level:Int) (nu:Nat):∀ (n i:Nat) (p:Int) (out:List S56),LeO (Xv T k code level nu n i p out) (Xv T (k+1) code level nu n i p out)
 | 0,_,_,_=>LeO.refl _
 | n+1,i,p,out=>by
  rw [Xv,Xv]
  refine LeO.bind (zx.mono _ _ _ _) (fun t=>LeO.bind (hT _ _ _ _ _) (fun s=>LeO.bind (LeO.refl _) (fun sub=>LeO.ite ?_ (LeO.refl _))))
  exact kidsL_mono T hT k code level nu n (i+1) s.2 (out++sub)
theorem kidsF_mono (T:JR) (hT:∀ a0 a1 a2 a3 k,LeO (T k a0 a1 a2 a3) (T (k+1) a0 a1 a2 a3)) (a0:List Int) (a1 a2 a3:Int) (a4:Bool) (a5:Int) (a6:List Int) (a7:List S67) (a8:List S71) (a9:Int) (a10:ByteArray) (a11:List Int) (a12:List ByteArray) (k:Nat):LeO (kidsF T k a0 a1 a2 a3 a4 a5 a6 a7 a8 a9 a10 a11 a12) (kidsF T (k+1) a0 a1 a2 a3 a4 a5 a6 a7 a8 a9 a10 a11 a12):=by
 unfold kidsF
 exact LeO.ite (LeO.bind (zx.mono _ _ _ _) (fun t=>LeO.ite (kidsL_mono T hT k _ _ _ _ _ _ _) (LeO.refl _))) (LeO.refl _)
theorem sub_set {w0 W:World} {A:Option Addr} {n c:Nat} {sub sub':List S56} {m:Int} (h:Kd.S k56 56 W w0.heap.size (fun _=>True) (.slice A n c) sub) (hB:Below w0.heap.size w0 W) (hs:setUp m sub=some sub') :
  ∃ g gu nu cu u0 u1,A=some ⟨g,0,none⟩∧0<n∧W.cell? ⟨g,5,none⟩=some (.slice (some ⟨gu,0,none⟩) nu cu)∧0<nu∧W.cell? ⟨gu,0,none⟩=some (.bool u0)∧W.cell? ⟨gu,1,none⟩=some (.int .i64 u1)∧W.frozen? ⟨gu,0,none⟩=false∧W.frozen? ⟨gu,1,none⟩=false∧w0.heap.size≤gu ∧
   Kd.S k56 56 ((W.setCell ⟨gu,0,none⟩ (.bool false)).setCell ⟨gu,1,none⟩ (.int .i64 m)) w0.heap.size (fun _=>True) (.slice A n c) sub'∧sub'.length=sub.length:=by
 obtain ⟨x,t,hxt⟩:∃ x t,sub=x::t:=by
  cases sub with
  | nil=>simp [setUp] at hs
  | cons x t=>exact ⟨x,t,rfl⟩
 subst hxt
 obtain ⟨u,us,hu⟩:∃ u us,x.f5=u::us:=by
  cases hx:x.f5 with
  | nil=>simp [setUp,hx] at hs
  | cons u us=>exact ⟨u,us,rfl⟩
 have hs':sub'=(⟨x.f0,x.f1,x.f2,x.f3,x.f4,⟨false,m⟩::us,x.f6,x.f7,x.f8,x.f9⟩:S56)::t:=by
  simp only [setUp,hu] at hs
  exact (Option.some.inj hs).symm
 subst hs'
 obtain ⟨g,cap,hv,hgb,hgl,_⟩:=Kd.R_form (Kd.S_R h) (by simp)
 injection hv with hA hn hc
 subst hA
 subst hn
 subst hc
 obtain ⟨oki,v3,v4,v5,v8,v9,E⟩:=El_open (w:=w0) (m:=0) (x:=x) h (by simp) rfl hB (Kept.of_below hB _)
 obtain ⟨_,_,_,_,_,c5,_⟩:=El_cells E
 obtain ⟨gu,cu,hv5,hub,hul,_⟩:=Kd.R_form E.h5 (by rw [hu];simp)
 subst hv5
 have hlen:0<x.f5.length:=by rw [hu];simp
 obtain ⟨cs,hcl,hM,hcc,hfr⟩:=Kd.JQ E.h5 z71 0 (by omega) (by omega)
 have hcs:=k71_openM hM
 have hseg:=Kd.R_seg E.h5 0 (by omega) (by omega) (c:=cs) (seg:=[.bool false,.int .i64 m]) (j:=0) (x':=(⟨false,m⟩:S71)) hcl hcc (by show 0+2≤2;decide) (okp:=fun _=>False) (by rw [hcs];exact Jd _ _ _ (⟨false,m⟩:S71)) (fun _ hk=>hk.elim)
 have hst:x.f5.set (0:Int).toNat (⟨false,m⟩:S71)=⟨false,m⟩::us:=by rw [hu];rfl
 rw [hst] at hseg
 have hW:W.setCells gu ((0:Int).toNat*k71.sz+0) [.bool false,.int .i64 m]=(W.setCell ⟨gu,0,none⟩ (.bool false)).setCell ⟨gu,1,none⟩ (.int .i64 m):=rfl
 rw [hW] at hseg
 obtain ⟨hR,hg⟩:=hseg
 have hb1:Below w0.heap.size w0 ((W.setCell ⟨gu,0,none⟩ (.bool false)).setCell ⟨gu,1,none⟩ (.int .i64 m)):=yT (yT hB hub) hub
 have E2:=El_row5 E hR hb1 ⟨hg.size,fun i hi hn=>hg.block i hi (fun he=>hn he)⟩
 have hcl0:=hcc 0 (.bool (x.f5.getD (0:Int).toNat z71).f0) (by rw [hcs];rfl)
 have hcl1:=hcc 1 (.int .i64 (x.f5.getD (0:Int).toNat z71).f1) (by rw [hcs];rfl)
 refine ⟨g,gu,x.f5.length,cu,_,_,rfl,by simp,c5,hlen,hcl0,hcl1,hfr 0,hfr 1,hub,?_,by simp⟩
 have:=El_close E2
 exact this
structure KO (b0:Nat) (w:World) (bx:List Value) (vo:Value) (out:List S56) (W:World):Prop where
 bel:Below w.heap.size w W
 hb:b0≤w.heap.size
 box:W.heap[w.heap.size]?=some (.cells bx.toArray 56 (0,0))
 ro:Kd.S k56 56 W b0 (fun k=>k≠w.heap.size) vo out
 ow:∀ k,vo.ownBlock=some k→w.heap.size<k
theorem KO.size1 {b0:Nat} {w W:World} {bx:List Value} {vo:Value} {out:List S56} (h:KO b0 w bx vo out W):w.heap.size+1≤W.heap.size:=yx h.box
theorem KO.below {b0:Nat} {w W W1:World} {bx:List Value} {vo:Value} {out:List S56} (h:KO b0 w bx vo out W) (hb:Below W.heap.size W W1):KO b0 w bx vo out W1 :=
 ⟨h.bel.trans (hb.mono h.bel.size),h.hb,(hb.block _ (yx h.box)).trans h.box,Kd.Qo h.ro hb,h.ow⟩
structure Mv (b0:Nat) (w:World) (bx:List Value) (N N2:Nat) (f:Nat→Nat) (gs cs:Nat) (vo:Value) (out sub:List S56) (j:Nat) (W:World):Prop where
 bel:Below w.heap.size w W
 hb:b0≤w.heap.size
 box:W.heap[w.heap.size]?=some (.cells bx.toArray 56 (0,0))
 hN:w.heap.size<N
 hN2:N≤N2
 sz:N2≤W.heap.size
 gsN:N≤gs∧gs<N2
 ro:Kd.S k56 56 W b0 (fun k=>k≠w.heap.size∧(k<N∨N2≤k∨(k≠gs∧f k<j))) vo (out++sub.take j)
 ow:∀ k,vo.ownBlock=some k→w.heap.size<k∧(k<N∨N2≤k)
 rs:(Kd.tag f k56).R 56 W N (fun k=>k<N2) (.slice (some ⟨gs,0,none⟩) sub.length cs) sub.zipIdx
theorem Mv.start {b0:Nat} {w W0 W:World} {bx:List Value} {vo:Value} {out sub:List S56} {A:Option Addr} {n c:Nat} (h:KO b0 w bx vo out W0) (hb:Below W0.heap.size W0 W) (hs:Kd.S k56 56 W W0.heap.size (fun _=>True) (.slice A n c) sub) (hl:0<sub.length) :
  ∃ f gs cs,A=some ⟨gs,0,none⟩∧n=sub.length∧c=cs∧Mv b0 w bx W0.heap.size W.heap.size f gs cs vo out sub 0 W:=by
 obtain ⟨gs,cap,hv,hgb,hgl,_⟩:=Kd.R_form (Kd.S_R hs) hl
 injection hv with hA hn hc
 subst hA
 subst hn
 subst hc
 obtain ⟨f,hR⟩:=hs
 have h1:=h.size1
 have hlt:=Kd.S_lt h.ro
 refine ⟨f,gs,c,rfl,rfl,rfl,⟨h.bel.trans (hb.mono h.bel.size),h.hb,(hb.block _ (yx h.box)).trans h.box,by omega,hb.size,Nat.le_refl _,⟨hgb,hgl⟩,?_,fun k hk=>⟨h.ow k hk,.inl (hlt k hk)⟩,Kd.qm (Kd.jv hR) (fun k hk=>hk.2.2.1)⟩⟩
 rw [List.take_zero,List.append_nil]
 exact Kd.Z4 (Kd.Qo (Kd.Qp h.ro) hb) (fun k hk=>⟨hk.1,.inl hk.2.2.1⟩)
theorem Mv.elem {b0:Nat} {w W:World} {bx:List Value} {N N2:Nat} {f:Nat→Nat} {gs cs:Nat} {vo:Value} {out sub:List S56} {j:Nat} {x:S56} (h:Mv b0 w bx N N2 f gs cs vo out sub j W) (hx:sub[j]?=some x) :
  ∃ v3 v4 v5 v8 v9,k56.M W b0 (fun k=>N≤k∧k<N2∧k≠gs∧f k=j) x [.int .i64 x.f0,.bool x.f1,.int .i64 x.f2,v3,v4,v5,.int .i64 x.f6,.string x.f7,v8,v9] ∧
   W.cell? ⟨gs,j*10,none⟩=some (.int .i64 x.f0)∧W.cell? ⟨gs,j*10+1,none⟩=some (.bool x.f1)∧W.cell? ⟨gs,j*10+2,none⟩=some (.int .i64 x.f2)∧W.cell? ⟨gs,j*10+3,none⟩=some v3∧W.cell? ⟨gs,j*10+4,none⟩=some v4∧W.cell? ⟨gs,j*10+5,none⟩=some v5∧W.cell? ⟨gs,j*10+6,none⟩=some (.int .i64 x.f6)∧W.cell? ⟨gs,j*10+7,none⟩=some (.string x.f7)∧W.cell? ⟨gs,j*10+8,none⟩=some v8∧W.cell? ⟨gs,j*10+9,none⟩=some v9:=by
 have hjl:j<sub.length:=by
  rcases Nat.lt_or_ge j sub.length with h1|h1
  ·exact h1
  ·rw [List.getElem?_eq_none h1] at hx;cases hx
 obtain ⟨c,hcl,hM,hcc,_⟩:=Kd.JQ h.rs (z56,0) (j:Int) (by omega) (by omega)
 have he:sub.zipIdx.getD (j:Int).toNat (z56,0)=(x,j):=by
  rw [Int.toNat_natCast,List.getD_eq_getElem?_getD,Kd.QK hx]
  rfl
 rw [he] at hM
 have hM2:k56.M W N (fun k=>(k<N2∧k≠gs)∧f k=j) x c:=hM
 have hM3:=k56.xB (fun k hk=>(⟨hk.2.1,hk.1.1.1,hk.1.1.2,hk.1.2⟩:N≤k∧k<N2∧k≠gs∧f k=j)) (k56.qh hM2)
 have hM4:=k56.qK (Nat.le_trans h.hb (Nat.le_of_lt h.hN)) hM3
 obtain ⟨v3,v4,v5,v8,v9,hc,_⟩:=k56_openM hM4
 subst hc
 have q:∀ i u,([.int .i64 x.f0,.bool x.f1,.int .i64 x.f2,v3,v4,v5,.int .i64 x.f6,.string x.f7,v8,v9]:List Value)[i]?=some u→W.cell? ⟨gs,j*10+i,none⟩=some u:=fun i u hu=>by
  have:=hcc i u hu
  rwa [Int.toNat_natCast] at this
 exact ⟨v3,v4,v5,v8,v9,hM4,q 0 _ rfl,q 1 _ rfl,q 2 _ rfl,q 3 _ rfl,q 4 _ rfl,q 5 _ rfl,q 6 _ rfl,q 7 _ rfl,q 8 _ rfl,q 9 _ rfl⟩
theorem Mv.next {b0:Nat} {w W w3:World} {bx:List Value} {N N2:Nat} {f:Nat→Nat} {gs cs:Nat} {vo vo':Value} {out sub:List S56} {j:Nat} {x:S56} (h:Mv b0 w bx N N2 f gs cs vo out sub j W) (hx:sub[j]?=some x) (hg:W.grownBy w3 vo.ownBlock) (hat:vo'.ownBlock=vo.ownBlock∨∃ b,vo'.ownBlock=some b∧W.heap.size≤b)
  (hS:Kd.S k56 56 w3 b0 (fun k=>k≠w.heap.size∧(k<N∨N2≤k∨(k≠gs∧f k<j+1))) vo' (out++sub.take j++[x])):Mv b0 w bx N N2 f gs cs vo' out sub (j+1) w3:=by
 have hsz:=h.sz
 have hN:=h.hN
 have hN2:=h.hN2
 refine ⟨h.bel.trans ⟨hg.os,hg.tape,hg.output,hg.size,fun k hk=>hg.block k (by have:=h.bel.size;omega) (fun he=>by have:=(h.ow k he.symm).1;omega)⟩,h.hb,(hg.block _ (yx h.box) (fun he=>by have:=(h.ow _ he.symm).1;omega)).trans h.box,hN,hN2,Nat.le_trans hsz hg.size,h.gsN,?_,fun k hk=>?_,?_⟩
 ·have e:out++sub.take (j+1)=out++sub.take j++[x]:=by
   rw [List.append_assoc]
   congr 1
   rw [List.take_add_one,hx]
   rfl
  rw [e]
  exact hS
 ·rcases hat with ha|⟨b,hb1,hb2⟩
  ·exact h.ow k (by rw [← ha];exact hk)
  ·rw [hk] at hb1
   cases hb1
   exact ⟨by omega,.inr (by omega)⟩
 ·exact Kd.qm (Kd.Zd (Kd.jv h.rs) (fun k hk hlt=>hg.block k hlt (fun he=>by have h1:=(h.ow k he.symm).2;have h2:=hk.2.1;have h3:=hk.1;omega))) (fun k hk=>hk.1)
theorem Mv.done {b0:Nat} {w W:World} {bx:List Value} {N N2:Nat} {f:Nat→Nat} {gs cs:Nat} {vo:Value} {out sub:List S56} {j:Nat} (h:Mv b0 w bx N N2 f gs cs vo out sub j W) (hj:sub.length≤j):KO b0 w bx vo (out++sub) W:=by
 refine ⟨h.bel,h.hb,h.box,?_,fun k hk=>(h.ow k hk).1⟩
 have:=h.ro
 rw [List.take_of_length_le hj] at this
 exact Kd.Z4 this (fun k hk=>hk.1)
theorem R_farN {α:Type} {d:Kd α} {q g j N:Nat} {w:World} {ok:Nat→Prop} {v u:Value} {xs:List α} (h:d.R q w N ok v xs) (hg:g<N):d.R q (w.setCell ⟨g,j,none⟩ u) N ok v xs :=
 Kd.qm (Kd.Zd (Kd.jv h) (fun k hk _=>Below.heap_setCell w ⟨g,j,none⟩ u k (show k≠g by have:=hk.2.1;omega))) (fun _ h=>h.1)
theorem Zv {α:Type} {d:Kd α} {q g j N:Nat} {w:World} {v u:Value} {xs:List α} (h:d.R q w N (fun k=>k<g) v xs):d.R q (w.setCell ⟨g,j,none⟩ u) N (fun k=>k<g) v xs :=
 Kd.Zd h (fun k hk _=>Below.heap_setCell w ⟨g,j,none⟩ u k (show k≠g by omega))
structure KAt (b0:Nat) (w:World) (f0:Int) (f1:Bool) (f2 f6:Int) (l3:List Int) (l4:List S67) (l5:List S71) (v3 v4 v5:Value) (f7:ByteArray) (l8:List Int) (l9:List ByteArray) (v8 v9:Value) (W:World):Prop where
 bel:Below w.heap.size w W
 hb:b0≤w.heap.size
 box:W.heap[w.heap.size]?=some (.cells #[.int .i64 f0,.bool f1,.int .i64 f2,v3,v4,v5,.int .i64 f6,.string f7,v8,v9] 56 (0,0))
 r3:Kd.R (Kd.int .u32) 60 W b0 (fun k=>k<w.heap.size) v3 l3
 r4:Kd.R k67 67 W b0 (fun k=>k<w.heap.size) v4 l4
 r5:Kd.R k71 71 W b0 (fun k=>k<w.heap.size) v5 l5
 r8:(Kd.int .i64).R 3 W (w.heap.size+1) (fun _=>True) v8 l8
 r9:Kd.string.R 9 W (w.heap.size+1) (fun _=>True) v9 l9
section
variable {b0:Nat} {w W W1 w3:World} {f0:Int} {f1:Bool} {f2 f6:Int} {l3:List Int} {l4:List S67} {l5:List S71} {v3 v4 v5 v8 v9 v':Value} {f7:ByteArray} {l8:List Int} {l9:List ByteArray}
theorem KAt.start (hb:b0≤w.heap.size) (h3:Kd.R (Kd.int .u32) 60 w b0 (fun _=>True) v3 l3) (h4:Kd.R k67 67 w b0 (fun _=>True) v4 l4) (h5:Kd.R k71 71 w b0 (fun _=>True) v5 l5) :
  KAt b0 w f0 f1 f2 f6 l3 l4 l5 v3 v4 v5 f7 [] [] (.slice none 0 0) (.slice none 0 0) (w.alloc (.cells #[.int .i64 f0,.bool f1,.int .i64 f2,v3,v4,v5,.int .i64 f6,.string f7,.slice none 0 0,.slice none 0 0] 56 (0,0))):=by
 have hB:=zS (Below.refl w.heap.size w) (.cells #[.int .i64 f0,.bool f1,.int .i64 f2,v3,v4,v5,.int .i64 f6,.string f7,.slice none 0 0,.slice none 0 0] 56 (0,0))
 exact ⟨hB,hb,jK w _,Kd.qm (Kd.vJ (Kd.jv h3) hB) (fun k hk=>hk.2.2.1),Kd.qm (Kd.vJ (Kd.jv h4) hB) (fun k hk=>hk.2.2.1),Kd.qm (Kd.vJ (Kd.jv h5) hB) (fun k hk=>hk.2.2.1),Kd.Qg _ _ _ _ _,Kd.Qg _ _ _ _ _⟩
theorem KAt.size1 (h:KAt b0 w f0 f1 f2 f6 l3 l4 l5 v3 v4 v5 f7 l8 l9 v8 v9 W):w.heap.size+1≤W.heap.size:=yx h.box
theorem KAt.below (h:KAt b0 w f0 f1 f2 f6 l3 l4 l5 v3 v4 v5 f7 l8 l9 v8 v9 W) (hb:Below W.heap.size W W1):KAt b0 w f0 f1 f2 f6 l3 l4 l5 v3 v4 v5 f7 l8 l9 v8 v9 W1 :=
 ⟨h.bel.trans (hb.mono h.bel.size),h.hb,(hb.block _ (yx h.box)).trans h.box,Kd.vJ h.r3 hb,Kd.vJ h.r4 hb,Kd.vJ h.r5 hb,Kd.vJ h.r8 hb,Kd.vJ h.r9 hb⟩
theorem KAt.cells (h:KAt b0 w f0 f1 f2 f6 l3 l4 l5 v3 v4 v5 f7 l8 l9 v8 v9 W):W.cell? ⟨w.heap.size,0,none⟩=some (.int .i64 f0)∧W.cell? ⟨w.heap.size,1,none⟩=some (.bool f1)∧W.cell? ⟨w.heap.size,2,none⟩=some (.int .i64 f2)∧W.cell? ⟨w.heap.size,3,none⟩=some v3∧W.cell? ⟨w.heap.size,4,none⟩=some v4∧W.cell? ⟨w.heap.size,5,none⟩=some v5∧W.cell? ⟨w.heap.size,6,none⟩=some (.int .i64 f6)∧W.cell? ⟨w.heap.size,7,none⟩=some (.string f7)∧W.cell? ⟨w.heap.size,8,none⟩=some v8∧W.cell? ⟨w.heap.size,9,none⟩=some v9∧W.frozen? ⟨w.heap.size,7,none⟩=false∧W.frozen? ⟨w.heap.size,8,none⟩=false∧W.frozen? ⟨w.heap.size,9,none⟩=false :=
 ⟨(zi h.box 0).trans rfl,(zi h.box 1).trans rfl,(zi h.box 2).trans rfl,(zi h.box 3).trans rfl,(zi h.box 4).trans rfl,(zi h.box 5).trans rfl,(zi h.box 6).trans rfl,(zi h.box 7).trans rfl,(zi h.box 8).trans rfl,(zi h.box 9).trans rfl,zn h.box 7,zn h.box 8,zn h.box 9⟩
theorem KAt.set7 (h:KAt b0 w f0 f1 f2 f6 l3 l4 l5 v3 v4 v5 f7 l8 l9 v8 v9 W) (x:ByteArray):KAt b0 w f0 f1 f2 f6 l3 l4 l5 v3 v4 v5 x l8 l9 v8 v9 (W.setCell ⟨w.heap.size,7,none⟩ (.string x)) :=
 ⟨h.bel.setCell (p:=⟨w.heap.size,7,none⟩) (Nat.le_refl _) _,h.hb,(yO h.box 7 _).trans rfl,Zv h.r3,Zv h.r4,Zv h.r5,R_farN h.r8 (by omega),R_farN h.r9 (by omega)⟩
theorem KAt.app8 {x:Int} (h:KAt b0 w f0 f1 f2 f6 l3 l4 l5 v3 v4 v5 f7 l8 l9 v8 v9 W) (hg:W.grownBy w3 v8.ownBlock) (hR:(Kd.int .i64).R 3 w3 (w.heap.size+1) (fun _=>True) v' (l8++[x])) :
  KAt b0 w f0 f1 f2 f6 l3 l4 l5 v3 v4 v5 f7 (l8++[x]) l9 v' v9 (w3.setCell ⟨w.heap.size,8,none⟩ v')∧w3.cell? ⟨w.heap.size,8,none⟩=some v8∧w3.frozen? ⟨w.heap.size,8,none⟩=false:=by
 have hba:=Kd.jT h.r8
 have c3:w3.heap[w.heap.size]?=_:=(hg.block _ (yx h.box) (fun he=>by have:=hba _ he.symm;omega)).trans h.box
 have hbel:Below w.heap.size w w3:=h.bel.trans ⟨hg.os,hg.tape,hg.output,hg.size,fun k hk=>hg.block k (by have:=h.bel.size;omega) (fun he=>by have:=hba k he.symm;omega)⟩
 have hs:∀ k,k<w.heap.size→k<W.heap.size→w3.heap[k]?=W.heap[k]?:=fun k hk hl=>hg.block k hl (fun he=>by have:=hba k he.symm;omega)
 have hO:Kd.string.R 9 w3 (w.heap.size+1) (fun _=>True) v9 l9:=Kd.R_grown2 h.r9 rfl hg (fun k hk he=>by
  obtain ⟨cs,hcs⟩:=Kd.Zw h.r8 k hk
  exact Kd.R_ne h.r9 hcs (by decide) he)
 exact ⟨⟨hbel.setCell (p:=⟨w.heap.size,8,none⟩) (Nat.le_refl _) _,h.hb,(yO c3 8 _).trans rfl,Zv (Kd.Zd h.r3 hs),Zv (Kd.Zd h.r4 hs),Zv (Kd.Zd h.r5 hs),R_farN hR (by omega),R_farN hO (by omega)⟩,(zi c3 8).trans rfl,zn c3 8⟩
theorem KAt.app9 {x:ByteArray} (h:KAt b0 w f0 f1 f2 f6 l3 l4 l5 v3 v4 v5 f7 l8 l9 v8 v9 W) (hg:W.grownBy w3 v9.ownBlock) (hR:Kd.string.R 9 w3 (w.heap.size+1) (fun _=>True) v' (l9++[x])) :
  KAt b0 w f0 f1 f2 f6 l3 l4 l5 v3 v4 v5 f7 l8 (l9++[x]) v8 v' (w3.setCell ⟨w.heap.size,9,none⟩ v')∧w3.cell? ⟨w.heap.size,9,none⟩=some v9∧w3.frozen? ⟨w.heap.size,9,none⟩=false:=by
 have hba:=Kd.jT h.r9
 have c3:w3.heap[w.heap.size]?=_:=(hg.block _ (yx h.box) (fun he=>by have:=hba _ he.symm;omega)).trans h.box
 have hbel:Below w.heap.size w w3:=h.bel.trans ⟨hg.os,hg.tape,hg.output,hg.size,fun k hk=>hg.block k (by have:=h.bel.size;omega) (fun he=>by have:=hba k he.symm;omega)⟩
 have hs:∀ k,k<w.heap.size→k<W.heap.size→w3.heap[k]?=W.heap[k]?:=fun k hk hl=>hg.block k hl (fun he=>by have:=hba k he.symm;omega)
 have hO:(Kd.int .i64).R 3 w3 (w.heap.size+1) (fun _=>True) v8 l8:=Kd.R_grown2 h.r8 rfl hg (fun k hk he=>by
  obtain ⟨cs,hcs⟩:=Kd.Zw h.r9 k hk
  exact Kd.R_ne h.r8 hcs (by decide) he)
 exact ⟨⟨hbel.setCell (p:=⟨w.heap.size,9,none⟩) (Nat.le_refl _) _,h.hb,(yO c3 9 _).trans rfl,Zv (Kd.Zd h.r3 hs),Zv (Kd.Zd h.r4 hs),Zv (Kd.Zd h.r5 hs),R_farN hO (by omega),R_farN hR (by omega)⟩,(zi c3 9).trans rfl,zn c3 9⟩
theorem KAt.M (h:KAt b0 w f0 f1 f2 f6 l3 l4 l5 v3 v4 v5 f7 l8 l9 v8 v9 W):k56.M W b0 (fun k=>k≠w.heap.size∧k<W.heap.size) (⟨f0,f1,f2,l3,l4,l5,f6,f7,l8,l9⟩:S56) [.int .i64 f0,.bool f1,.int .i64 f2,v3,v4,v5,.int .i64 f6,.string f7,v8,v9]:=by
 have hs:=h.size1
 have hb:=h.hb
 have q8:(Kd.int .i64).R 3 W (w.heap.size+1) (fun k=>k≠w.heap.size∧k<W.heap.size) v8 l8:=Kd.qm (Kd.jv h.r8) (fun k hk=>⟨by have:=hk.2.1;omega,hk.2.2.1⟩)
 have q9:Kd.string.R 9 W (w.heap.size+1) (fun k=>k≠w.heap.size∧k<W.heap.size) v9 l9:=Kd.qm (Kd.jv h.r9) (fun k hk=>⟨by have:=hk.2.1;omega,hk.2.2.1⟩)
 exact k56_mkM W b0 _ (⟨f0,f1,f2,l3,l4,l5,f6,f7,l8,l9⟩:S56) (Kd.qm h.r3 (fun k hk=>⟨by omega,by omega⟩)) (Kd.qm h.r4 (fun k hk=>⟨by omega,by omega⟩)) (Kd.qm h.r5 (fun k hk=>⟨by omega,by omega⟩)) (Kd.yH q8 (by omega)) (Kd.yH q9 (by omega))
theorem KAt.row {vo:Value} {out:List S56} (h:KAt b0 w f0 f1 f2 f6 l3 l4 l5 v3 v4 v5 f7 l8 l9 v8 v9 W) (hS:Kd.S k56 56 w3 b0 (fun k=>k≠w.heap.size) vo out) (hg:W.grownBy w3 none) (ho:∃ b,vo.ownBlock=some b∧W.heap.size≤b):KO b0 w [.int .i64 f0,.bool f1,.int .i64 f2,v3,v4,v5,.int .i64 f6,.string f7,v8,v9] vo out w3:=by
 have hs:=h.size1
 refine ⟨h.bel.trans ⟨hg.os,hg.tape,hg.output,hg.size,fun k hk=>hg.block k (by omega) (by simp)⟩,h.hb,(hg.block _ (by omega) (by simp)).trans h.box,hS,fun k hk=>?_⟩
 obtain ⟨b,h1,h2⟩:=ho
 rw [hk] at h1
 cases h1
 omega
end
theorem kinfo3:(Tryz.prog.info? 3).map (fun i=>(i.zero,i.size,i.bytes))=some (some (.int .i64 0),1,8):=by kernel_rfl
theorem kinfo9:(Tryz.prog.info? 9).map (fun i=>(i.zero,i.size,i.bytes))=some (some (.string ⟨#[]⟩),1,16):=by kernel_rfl
def ZI (t:Int) (n:Nat):List Int:=if t=2 then (List.range n).map (fun i:Nat=>(i:Int)*37) else []
def Ym (t:Int) (n:Nat):List ByteArray:=if t=2 then List.replicate n (strOfNums [117]) else []
def QL (t:Int):ByteArray:=if t<3 then strOfNums [102]++strOfNums [97+t] else ⟨#[]⟩
theorem kidsF_open {T:JR} {k:Nat} {code:List Int} {p level f0:Int} {f1:Bool} {f2:Int} {l3:List Int} {l4:List S67} {l5:List S71} {f6:Int} {s:ByteArray} {a:List Int} {b:List ByteArray} {r1:List S56} {r2:Int} (h:kidsF T k code p level f0 f1 f2 l3 l4 l5 f6 s a b=some (r1,r2)) :
  (0≤level∧level≤100∧0≤f6∧f6≤100∧l3.length≤100000∧l5.length≤100000)∧∃ t p',zx.f k code p 8=some (t,p')∧0≤t∧t≤7∧Xv T k code level l5.length f6.toNat 0 p' [(⟨f0,f1,f2,l3,l4,l5,f6,QL t,ZI t l3.length,Ym t l5.length⟩:S56)]=some (r1,r2):=by
 unfold kidsF at h
 split at h
 case isFalse=>cases h
 case isTrue hg =>
  refine ⟨hg,?_⟩
  obtain ⟨⟨t,p'⟩,h1,h2⟩:=Option.bind_eq_some_iff.1 h
  dsimp only at h2
  split at h2
  case isFalse=>cases h2
  case isTrue ht=>exact ⟨t,p',h1,ht.1,ht.2,h2⟩
theorem kidsL_open {T:JR} {k:Nat} {code:List Int} {level:Int} {nu n i:Nat} {p:Int} {out r1:List S56} {r2:Int} (h:Xv T k code level nu (n+1) i p out=some (r1,r2)) :
  ∃ u p1 s1 p2 sub,zx.f k code p 3=some (u,p1)∧T k code p1 (level+1) u=some (s1,p2)∧(if 0<nu∧0<u∧i=0 then setUp ((nu:Int)-1) s1 else some s1)=some sub∧0<sub.length∧out.length+sub.length≤100000∧Xv T k code level nu n (i+1) p2 (out++sub)=some (r1,r2):=by
 rw [Xv] at h
 obtain ⟨⟨u,p1⟩,h1,h2⟩:=Option.bind_eq_some_iff.1 h
 obtain ⟨⟨s1,p2⟩,h3,h4⟩:=Option.bind_eq_some_iff.1 h2
 obtain ⟨sub,h5,h6⟩:=Option.bind_eq_some_iff.1 h4
 dsimp only at h3 h5 h6
 split at h6
 case isFalse=>cases h6
 case isTrue hg=>exact ⟨u,p1,s1,p2,sub,h1,h3,h5,hg.1,hg.2,h6⟩
theorem Mv.app {b0:Nat} {w W:World} {bx:List Value} {N N2:Nat} {f:Nat→Nat} {gs cs:Nat} {vo:Value} {out sub:List S56} {j:Nat} (h:Mv b0 w bx N N2 f gs cs vo out sub j W) :
  (∀ k,(N≤k∧k<N2∧k≠gs∧f k=j)→(k≠w.heap.size∧(k<N∨N2≤k∨(k≠gs∧f k<j+1)))∧some k≠vo.ownBlock)∧(∀ k,W.heap.size≤k→(k≠w.heap.size∧(k<N∨N2≤k∨(k≠gs∧f k<j+1)))) ∧
   Kd.S k56 56 W b0 (fun k=>(k≠w.heap.size∧(k<N∨N2≤k∨(k≠gs∧f k<j+1)))∧¬ (N≤k∧k<N2∧k≠gs∧f k=j)) vo (out++sub.take j)∧b0≤W.heap.size:=by
 have h1:=h.hN
 have h2:=h.hN2
 have h3:=h.sz
 have h4:=h.hb
 refine ⟨fun k hk=>⟨⟨by omega,.inr (.inr ⟨hk.2.2.1,by omega⟩)⟩,fun he=>by have:=(h.ow k he.symm).2;omega⟩,fun k hk=>⟨by omega,.inr (.inl (by omega))⟩,Kd.Z4 h.ro (fun k hk=>⟨⟨hk.1,hk.2.elim .inl (fun q=>.inr (q.elim .inl (fun q=>.inr ⟨q.1,by have:=q.2;omega⟩)))⟩,fun hn=>by have:=hk.2;omega⟩),by omega⟩
theorem Mv.len {b0:Nat} {w W:World} {bx:List Value} {N N2:Nat} {f:Nat→Nat} {gs cs:Nat} {vo:Value} {out sub:List S56} {j:Nat} (_:Mv b0 w bx N N2 f gs cs vo out sub j W) (hj:j≤sub.length):(out++sub.take j).length=out.length+j:=by
 rw [List.length_append,List.length_take,Nat.min_eq_left hj]
theorem KAt.okj {b0:Nat} {w W:World} {f0:Int} {f1:Bool} {f2 f6:Int} {l3:List Int} {l4:List S67} {l5:List S71} {v3 v4 v5 v8 v9:Value} {f7:ByteArray} {l8:List Int} {l9:List ByteArray} (h:KAt b0 w f0 f1 f2 f6 l3 l4 l5 v3 v4 v5 f7 l8 l9 v8 v9 W) :
  ∃ okj:Nat→Nat→Prop,(∀ j x,([(⟨f0,f1,f2,l3,l4,l5,f6,f7,l8,l9⟩:S56)]:List S56)[j]?=some x→k56.M W b0 (okj j) x ((([.int .i64 f0,.bool f1,.int .i64 f2,v3,v4,v5,.int .i64 f6,.string f7,v8,v9]:List Value).drop (j*k56.sz)).take k56.sz))∧(∀ i j k,okj i k→okj j k→i=j)∧(∀ j k,okj j k→k≠w.heap.size)∧W.heap.size≠w.heap.size∧b0≤W.heap.size:=by
 have h1:=h.size1
 have h2:=h.hb
 refine ⟨fun i k=>i=0∧k≠w.heap.size∧k<W.heap.size,fun j x hx=>?_,fun i j k h1 h2=>by rw [h1.1,h2.1],fun j k hk=>hk.2.1,by omega,by omega⟩
 cases j with
 | zero =>
  obtain rfl:=Option.some.inj hx
  exact k56.xB (fun k hk=>⟨rfl,hk⟩) h.M
 | succ j=>simp at hx
theorem KO.cells {b0:Nat} {w W:World} {f0:Int} {f1:Bool} {f2 f6:Int} {v3 v4 v5 v8 v9 vo:Value} {f7:ByteArray} {out:List S56} (h:KO b0 w [.int .i64 f0,.bool f1,.int .i64 f2,v3,v4,v5,.int .i64 f6,.string f7,v8,v9] vo out W):W.cell? ⟨w.heap.size,5,none⟩=some v5∧W.cell? ⟨w.heap.size,6,none⟩=some (.int .i64 f6) :=
 ⟨(zi h.box 5).trans rfl,(zi h.box 6).trans rfl⟩
theorem l4Kids_calls (T:JR) (hT:TreeCalls T) (k:Nat) (A0:Option Addr) (c0:Nat) (l0:List Int) (a1 a2 f0:Int) (f1:Bool) (f2:Int) (A3:Option Addr) (q3:Nat) (l3:List Int) (A4:Option Addr) (q4:Nat) (l4:List S67) (A5:Option Addr) (q5:Nat) (l5:List S71) (f6:Int) (r1:List S56) (r2:Int) (b0:Nat) (w:World)
  (hr0:Kd.C (Kd.int .u8) w A0 l0.length l0) (hc0:l0.length≤c0) (hb:b0≤w.heap.size) (h3:Kd.R (Kd.int .u32) 60 w b0 (fun _=>True) (.slice A3 l3.length q3) l3) (h4:Kd.R k67 67 w b0 (fun _=>True) (.slice A4 l4.length q4) l4) (h5:Kd.R k71 71 w b0 (fun _=>True) (.slice A5 l5.length q5) l5) (h:kidsF T k l0 a1 a2 f0 f1 f2 l3 l4 l5 f6 ⟨#[]⟩ [] []=some (r1,r2)) :
  Calls Tryz.prog 106 #[.slice A0 l0.length c0,.int .i64 a1,.int .i64 a2,.agg #[.int .i64 f0,.bool f1,.int .i64 f2,.slice A3 l3.length q3,.slice A4 l4.length q4,.slice A5 l5.length q5,.int .i64 f6,.string ⟨#[]⟩,.slice none 0 0,.slice none 0 0]] w fun e w' =>
   ∃ v0_:Value,e=.returned (.tuple #[v0_,.int .i64 r2])∧Kd.S k56 56 w' b0 (fun _=>True) v0_ r1∧Below w.heap.size w w':=by
 have JG:Tryz.prog.follows .mixedOrders=true:=by kernel_rfl
 obtain ⟨⟨v0,v1,g0,g1,n3,n5⟩,t,p',ht,t0,t7,hk⟩:=kidsF_open h
 clear h
 have HT:=zh.mk ht
 have HK:=zh.mk hk
 have HR:=zh.mk hr0
 have HC:=zh.mk hc0
 have HS:=zh.mk hT
 have D0:=zh.mk (KAt.start (f0:=f0) (f1:=f1) (f2:=f2) (f6:=f6) (f7:=⟨#[]⟩) hb h3 h4 h5)
 clear ht hk hr0 hc0 hb h3 h4 h5 hT
 go_enter Tryz.func106,Tryz.ntmps106
 go_upto_if 26 with (go_at_call 14;refine (zx.calls k _ _ l0 a1 8 t p' _ (Kd.zY HR.out D0.out.bel) HC.out HT.out).mono ?_;rintro r w1 ⟨rfl,hb⟩;have hd:=D0.out.below hb.below;obtain ⟨y0,y1,y2,y3,y4,y5,y6,y7,y8,y9,z7,z8,z9⟩:=hd.cells;have D1:=zh.mk hd;clear hd hb D0)
 clear y0 y1 y2 y3 y4 y5 y6 y7 y8 y9 z7 z8 z9
 go_cut [] (fun wx=>zh (KAt b0 w f0 f1 f2 f6 l3 l4 l5 (.slice A3 l3.length q3) (.slice A4 l4.length q4) (.slice A5 l5.length q5) (QL t) [] [] (.slice none 0 0) (.slice none 0 0) wx))
 case first =>
  obtain ⟨y0,y1,y2,y3,y4,y5,y6,y7,y8,y9,z7,z8,z9⟩:=D1.out.cells
  by_cases c:t<3
  ·have d0:=dt c
   have e97:zh (ZJ.f (97+t)=some (strOfNums [97+t])):=⟨by unfold ZJ.f;rw [show (97+t) % 256=97+t by omega]⟩
   have w97:zh (IntKind.i64.wrap (97+t)=97+t):=⟨by rw [IntKind.wrap_i64];omega⟩
   have et:zh (QL t=⟨#[102]⟩++strOfNums [97+t]):=⟨by unfold QL;rw [if_pos c];rfl⟩
   go_wp2_with (go_at_call 45;refine (ZJ.calls (97+t) _ _ e97.out).mono ?_;rintro r w2 ⟨rfl,hb⟩;have hd:=D1.out.below hb;clear y0 y1 y2 y3 y4 y5 y6 y7 y8 y9 z7 z8 z9;obtain ⟨y0,y1,y2,y3,y4,y5,y6,y7,y8,y9,z7,z8,z9⟩:=hd.cells;have D2:=zh.mk hd;clear hd hb)
   go_meet
   rw [et.out]
   exact ⟨D2.out.set7 _⟩
  ·have d0:=df c
   have et:zh (QL t=⟨#[]⟩):=⟨by unfold QL;rw [if_neg c]⟩
   go_wp2
   go_meet
   rw [et.out]
   exact D1
 case rest =>
 have D2:=hcut
 clear D1 hcut
 obtain ⟨Bt,hBt⟩:∃ B,(t == 2)=B:=⟨_,rfl⟩
 have HBt:=zh.mk hBt
 go_upto_if 33 with (fail)
 clear hBt
 go_cut [] (fun wx=>∃ A8 q8 A9 q9,zh (KAt b0 w f0 f1 f2 f6 l3 l4 l5 (.slice A3 l3.length q3) (.slice A4 l4.length q4) (.slice A5 l5.length q5) (QL t) (ZI t l3.length) (Ym t l5.length) (.slice A8 (ZI t l3.length).length q8) (.slice A9 (Ym t l5.length).length q9) wx))
 case first =>
  cases Bt
  ·have c:¬ t=2:=beq_eq_false_iff_ne.mp HBt.out
   go_wp2
   go_meet
   refine ⟨none,0,none,0,?_⟩
   have e1:ZI t l3.length=[]:=by unfold ZI;rw [if_neg c]
   have e2:Ym t l5.length=[]:=by unfold Ym;rw [if_neg c]
   rw [e1,e2]
   exact D2
  ·have c:t=2:=eq_of_beq HBt.out
   have eL:zh (ZI t l3.length=(List.range l3.length).map (fun i:Nat=>(i:Int)*37)):=⟨by unfold ZI;rw [if_pos c]⟩
   have eN:zh (Ym t l5.length=List.replicate l5.length (strOfNums [117])):=⟨by unfold Ym;rw [if_pos c]⟩
   clear c
   go_wp2
   go_loopg [12] l3.length (fun kq vi W'=>∃ (j:Nat) (A8:Option Addr) (q8:Nat),vi=.int .i64 (j:Int)∧zh (kq=l3.length-j)∧zh (j≤l3.length)∧zh (KAt b0 w f0 f1 f2 f6 l3 l4 l5 (.slice A3 l3.length q3) (.slice A4 l4.length q4) (.slice A5 l5.length q5) (QL t) ((List.range j).map (fun i:Nat=>(i:Int)*37)) [] (.slice A8 j q8) (.slice none 0 0) W'))
   case atStart=>exact ⟨0,none,0,rfl,⟨rfl⟩,⟨Nat.zero_le _⟩,D2⟩
   case round =>
    obtain ⟨j,A8,q8,rfl,HJ,HL,HD⟩:=hrel
    obtain ⟨y0,y1,y2,y3,y4,y5,y6,y7,y8,y9,z7,z8,z9⟩:=HD.out.cells
    by_cases hj:j<l3.length
    ·have d1:decide ((j:Int)<(l3.length:Int))=true:=dt (by omega)
     obtain ⟨gm,hgm⟩:∃ gm,gk=gm+1:=⟨gk-1,by have:=HJ.out;omega⟩
     have HGM:=zh.mk hgm
     clear hgm
     have WX:zh (IntKind.i64.wrap ((j:Int)*37)=(j:Int)*37):=⟨by rw [IntKind.wrap_i64];omega⟩
     have WW:zh (IntKind.i64.wrap ((j:Int)+1)=((j+1:Nat):Int)):=⟨by rw [IntKind.wrap_i64];omega⟩
     have EJ:zh ((List.range (j+1)).map (fun i:Nat=>(i:Int)*37)=(List.range j).map (fun i:Nat=>(i:Int)*37)++[(j:Int)*37]):=⟨by rw [List.range_succ,List.map_append];rfl⟩
     have EN:zh (((List.range j).map (fun i:Nat=>(i:Int)*37)).length=j):=⟨by simp⟩
     go_wp2_with (at_builtin;refine Kd.jA (Kd.int .i64) (w0:=_) (w.heap.size+1) rfl (.tmp 42) (.tmp 45) 53 3 (.int .i64 0) 8 rfl Tryz.underlying53 kinfo3 rfl (by decide) (by decide) (.slice A8 j q8) ((List.range j).map (fun i:Nat=>(i:Int)*37)) ((j:Int)*37) [.int .i64 ((j:Int)*37)] (fun _=>True) (fun _=>False) rfl (by first|(go_simp;done)|(go_simp;rfl)|rfl) rfl (fun _ hk=>hk.elim) (fun _ _=>trivial) HD.out.r8 (Below.refl _ _) ?bS ?bL ?_;(case bS=>exact HD.out.size1);(case bL=>rw [EN.out];omega);intro v' w5 hR _ hg5 _;obtain ⟨A8',q8',rfl⟩:=Kd.yA hR;obtain ⟨hd,cz,fz⟩:=HD.out.app8 hg5 hR;rw [← EJ.out,show ((List.range (j+1)).map (fun i:Nat=>(i:Int)*37)).length=j+1 by simp] at hd;rw [← EJ.out,show ((List.range (j+1)).map (fun i:Nat=>(i:Int)*37)).length=j+1 by simp];have DY:=zh.mk hd;clear hR hg5 hd)
     have hgk:=HGM.out
     subst hgk
     go_roundg gm
     case measure=>have:=HJ.out;omega
     case rel=>exact ⟨j+1,_,_,by first|rfl|(simp;done)|(rw [WW.out]),⟨by have:=HJ.out;omega⟩,⟨by omega⟩,DY⟩
    ·have d1:decide ((j:Int)<(l3.length:Int))=false:=df (by omega)
     obtain rfl:j=l3.length:=by have:=HL.out;omega
     have D3:=HD
     rw [← eL.out] at D3
     clear HD HJ HL D2 eL
     clear y0 y1 y2 y3 y4 y5 y6 y7 y8 y9 z7 z8 z9
     obtain ⟨y0,y1,y2,y3,y4,y5,y6,y7,y8,y9,z7,z8,z9⟩:=D3.out.cells
     go_wp2
     clear y0 y1 y2 y3 y4 y5 y6 y7 y8 y9 z7 z8 z9
     go_loopg [13] l5.length (fun kq vi W'=>∃ (i:Nat) (A9:Option Addr) (q9:Nat),vi=.int .i64 (i:Int)∧zh (kq=l5.length-i)∧zh (i≤l5.length)∧zh (KAt b0 w f0 f1 f2 f6 l3 l4 l5 (.slice A3 l3.length q3) (.slice A4 l4.length q4) (.slice A5 l5.length q5) (QL t) (ZI t l3.length) (List.replicate i (strOfNums [117])) (.slice A8 l3.length q8) (.slice A9 i q9) W'))
     case atStart=>exact ⟨0,none,0,rfl,⟨rfl⟩,⟨Nat.zero_le _⟩,D3⟩
     case round =>
      obtain ⟨i,A9,q9,rfl,HJ,HL,HD⟩:=hrel
      obtain ⟨y0,y1,y2,y3,y4,y5,y6,y7,y8,y9,z7,z8,z9⟩:=HD.out.cells
      by_cases hi:i<l5.length
      ·have d2:decide ((i:Int)<(l5.length:Int))=true:=dt (by omega)
       obtain ⟨gm,hgm⟩:∃ gm,gk=gm+1:=⟨gk-1,by have:=HJ.out;omega⟩
       have HGM:=zh.mk hgm
       clear hgm
       have WW:zh (IntKind.i64.wrap ((i:Int)+1)=((i+1:Nat):Int)):=⟨by rw [IntKind.wrap_i64];omega⟩
       have EJ:zh (List.replicate (i+1) (strOfNums [117])=List.replicate i (strOfNums [117])++[strOfNums [117]]):=⟨List.replicate_succ'⟩
       have EN:zh ((List.replicate i (strOfNums [117])).length=i):=⟨by simp⟩
       go_wp2_with (at_builtin;refine Kd.jA Kd.string (w0:=_) (w.heap.size+1) rfl (.tmp 56) (.tmp 57) 54 9 (.string ⟨#[]⟩) 16 rfl Tryz.underlying54 kinfo9 rfl (by decide) (by decide) (.slice A9 i q9) (List.replicate i (strOfNums [117])) (strOfNums [117]) [.string (strOfNums [117])] (fun _=>True) (fun _=>False) rfl (by first|(go_simp;done)|(go_simp;rfl)|rfl) rfl (fun _ hk=>hk.elim) (fun _ _=>trivial) HD.out.r9 (Below.refl _ _) ?bS ?bL ?_;(case bS=>exact HD.out.size1);(case bL=>rw [EN.out];omega);intro v' w5 hR _ hg5 _;obtain ⟨A9',q9',rfl⟩:=Kd.yA hR;obtain ⟨hd,cz,fz⟩:=HD.out.app9 hg5 hR;rw [← EJ.out,show (List.replicate (i+1) (strOfNums [117])).length=i+1 by simp] at hd;rw [← EJ.out,show (List.replicate (i+1) (strOfNums [117])).length=i+1 by simp];have DY:=zh.mk hd;clear hR hg5 hd)
       have hgk:=HGM.out
       subst hgk
       go_roundg gm
       case measure=>have:=HJ.out;omega
       case rel=>exact ⟨i+1,_,_,by first|rfl|(simp;done)|(rw [WW.out]),⟨by have:=HJ.out;omega⟩,⟨by omega⟩,DY⟩
      ·have d2:decide ((i:Int)<(l5.length:Int))=false:=df (by omega)
       obtain rfl:i=l5.length:=by have:=HL.out;omega
       have D4:=HD
       rw [← eN.out] at D4
       clear HJ HL D3
       go_wp2
       go_meet
       have e1:(ZI t l3.length).length=l3.length:=by unfold ZI;rw [if_pos (eq_of_beq HBt.out)];simp
       have e2:(Ym t l5.length).length=l5.length:=by rw [eN.out];simp
       exact ⟨A8,q8,A9,q9,by rw [e1,e2];exact D4⟩
 case rest =>
 obtain ⟨A8,q8,A9,q9,D4⟩:=hcut
 clear D2 HBt
 obtain ⟨y0,y1,y2,y3,y4,y5,y6,y7,y8,y9,z7,z8,z9⟩:=D4.out.cells
 obtain ⟨okj,j1,j2,j3,j4,j5⟩:=D4.out.okj
 have J1:=zh.mk j1
 have J2:=zh.mk j2
 have J3:=zh.mk j3
 have J4:=zh.mk j4
 have J5:=zh.mk j5
 clear j1 j2 j3 j4 j5
 have N3:=zh.mk n3
 have N5:=zh.mk n5
 go_wp2_with ((with_reducible refine zB (N:=61) rfl ?_);refine Kd.S_lits k56 b0 56 ?hg (N:=61) ?hd (xs:=[(⟨f0,f1,f2,l3,l4,l5,f6,QL t,ZI t l3.length,Ym t l5.length⟩:S56)]) (inner:=[.int .i64 f0,.bool f1,.int .i64 f2,.slice A3 l3.length q3,.slice A4 l4.length q4,.slice A5 l5.length q5,.int .i64 f6,.string (QL t),.slice A8 (ZI t l3.length).length q8,.slice A9 (Ym t l5.length).length q9]) (ok:=fun k=>k≠w.heap.size) okj ?hr rfl J1.out J2.out J3.out J4.out (Below.refl _ _) J5.out (by simp) ?_;(case hd=>rfl);(case hg=>rfl);(case hr=>first|(go_simp;done)|(go_simp;rfl));intro vo w5 hS _ hg5 hn;obtain ⟨Ao,qo,rfl⟩:=Kd.Zx hS;have K0:=zh.mk (D4.out.row hS hg5 hn);clear hS hg5 hn)
 clear y0 y1 y2 y3 y4 y5 y6 y7 y8 y9 z7 z8 z9
 clear D4 J1 J2 J3 J4 J5
 go_loopg [1,14,15] f6.toNat (fun kq v1 v14 v15 W'=>∃ (i:Nat) (p:Int) (A:Option Addr) (q:Nat) (out:List S56),v1=.int .i64 p∧v14=.slice A out.length q∧v15=.int .i64 (i:Int)∧zh (kq=f6.toNat-i)∧zh (i≤f6.toNat∧out.length≤100000)∧zh (KO b0 w [.int .i64 f0,.bool f1,.int .i64 f2,.slice A3 l3.length q3,.slice A4 l4.length q4,.slice A5 l5.length q5,.int .i64 f6,.string (QL t),.slice A8 (ZI t l3.length).length q8,.slice A9 (Ym t l5.length).length q9] (.slice A out.length q) out W')∧zh (Xv T k l0 a2 l5.length (f6.toNat-i) i p out=some (r1,r2)))
 case atStart=>exact ⟨0,p',Ao,qo,[(⟨f0,f1,f2,l3,l4,l5,f6,QL t,ZI t l3.length,Ym t l5.length⟩:S56)],rfl,rfl,rfl,⟨rfl⟩,⟨Nat.zero_le _,by simp⟩,K0,HK⟩
 case round =>
  obtain ⟨i,p,A,q,out,rfl,rfl,rfl,HJ,HL,HD,HF⟩:=hrel
  clear K0
  obtain ⟨y5,y6⟩:=HD.out.cells
  by_cases hi:(i:Int)<f6
  ·have d0:=dt hi
   obtain ⟨gm,hgm⟩:∃ gm,gk=gm+1:=⟨gk-1,by have:=HJ.out;omega⟩
   have HGM:=zh.mk hgm
   clear hgm
   have hf:=HF.out
   rw [show f6.toNat-i=(f6.toNat-(i+1))+1 by omega] at hf
   obtain ⟨u,p1,s1,p2,sub,e1,e2,e3,e4,e5,e6⟩:=kidsL_open hf
   clear hf HF
   have E1:=zh.mk e1
   have E2:=zh.mk e2
   have E3:=zh.mk e3
   have E5:=zh.mk e5
   have E6:=zh.mk e6
   clear e1 e2 e3 e5 e6
   have WL:zh (IntKind.i64.wrap (a2+1)=a2+1):=⟨by rw [IntKind.wrap_i64];omega⟩
   go_upto_region 21 with (first|(go_at_call 14;refine (zx.calls k _ _ l0 p 3 u p1 _ (Kd.zY HR.out HD.out.bel) HC.out E1.out).mono ?_;rintro r w6 ⟨rfl,hb⟩;have hd:=HD.out.below hb.below;clear y5 y6;obtain ⟨y5,y6⟩:=hd.cells;have D6:=zh.mk hd;clear hd hb)|(go_at_call 50;refine (HS.out k _ _ l0 p1 (a2+1) u s1 p2 _ (Kd.zY HR.out D6.out.bel) HC.out E2.out).mono ?_;rintro r w7 ⟨v0_,rfl,hs,hb⟩;have hd:=D6.out.below hb;clear y5 y6;obtain ⟨y5,y6⟩:=hd.cells;obtain ⟨Ag,qg,rfl⟩:=Kd.Zx hs;have S7:=zh.mk hs;have B7:=zh.mk hb;clear hd hb hs))
   obtain ⟨Bc,hBc⟩:∃ B,decide (0<l5.length∧0<u∧i=0)=B:=⟨_,rfl⟩
   have HBC:=zh.mk hBc
   clear hBc
   go_cut [95] (fun sb wx=>sb=.bool Bc∧zh (Below w6.heap.size w6 wx)∧zh (Kd.S k56 56 wx w6.heap.size (fun _=>True) (.slice Ag s1.length qg) s1))
   case first =>
    by_cases n0:0<l5.length
    ·have d1:decide ((0:Int)<(l5.length:Int))=true:=dt (by omega)
     by_cases n1:0<u
     ·have d2:decide ((0:Int)<u)=true:=dt n1
      by_cases n2:i=0
      ·have d3:((i:Int) == 0)=true:=by rw [n2];rfl
       have dd:Bc=true:=by rw [← HBC.out];exact decide_eq_true ⟨n0,n1,n2⟩
       clear n2
       go_wp2
       go_meet
       exact ⟨by rw [dd],B7,S7⟩
      ·have d3:((i:Int) == 0)=false:=bF (by omega)
       have dd:Bc=false:=by rw [← HBC.out];exact df (fun h=>n2 h.2.2)
       go_wp2
       go_meet
       exact ⟨by rw [dd],B7,S7⟩
     ·have d2:decide ((0:Int)<u)=false:=df n1
      have dd:Bc=false:=by rw [← HBC.out];exact df (fun h=>n1 h.2.1)
      go_wp2
      go_meet
      exact ⟨by rw [dd],B7,S7⟩
    ·have d1:decide ((0:Int)<(l5.length:Int))=false:=df (by omega)
     have dd:Bc=false:=by rw [← HBC.out];exact df (fun h=>n0 h.1)
     go_wp2
     go_meet
     exact ⟨by rw [dd],B7,S7⟩
   case rest =>
   obtain ⟨rfl,B8,S8⟩:=hcut
   clear B7 S7
   go_upto_if 95 with (fail)
   go_cut [] (fun wx=>zh (Below w6.heap.size w6 wx)∧zh (Kd.S k56 56 wx w6.heap.size (fun _=>True) (.slice Ag s1.length qg) sub)∧zh (sub.length=s1.length))
   case first =>
    cases Bc
    ·have e:s1=sub:=by
      have:=E3.out
      rw [if_neg (of_decide_eq_false HBC.out)] at this
      exact Option.some.inj this
     have E:=zh.mk e
     clear e
     go_wp2
     go_meet
     rw [← E.out]
     exact ⟨B8,S8,⟨rfl⟩⟩
    ·have e:setUp ((l5.length:Int)-1) s1=some sub:=by
      have:=E3.out
      rwa [if_pos (of_decide_eq_true HBC.out)] at this
     obtain ⟨g,gu,nu,cu,u0,u1,rfl,g1,c5,g2,x0,x1,z0,z1,g3,s9,hl⟩:=sub_set S8.out B8.out e
     have S9:=zh.mk s9
     have GU:=zh.mk g3
     obtain ⟨y5,y6⟩:=(D6.out.below B8.out).cells
     clear e s9
     have i1:(0:Int)<(s1.length:Int):=by omega
     have i2:(0:Int)<(nu:Int):=by omega
     have WN:zh (IntKind.i64.wrap ((l5.length:Int)-1)=(l5.length:Int)-1):=⟨by rw [IntKind.wrap_i64];omega⟩
     go_wp2
     go_region_with_o (fail)
     all_goals
      go_wp2
      go_meet
      exact ⟨⟨by repeat (first|exact B8.out|apply zO|refine yT ?_ GU.out)⟩,⟨by rw [WN.out];first|exact S9.out|exact Kd.S_drew S9.out⟩,⟨hl⟩⟩
   case rest =>
   obtain ⟨B9,S9,HLs⟩:=hcut
   clear B8 S8 HD
   obtain ⟨f,gs,cs,rfl,hsl,rfl,hm⟩:=Mv.start D6.out B9.out S9.out e4
   clear hsl
   have M0:=zh.mk hm
   clear hm S9
   have E4:=zh.mk e4
   clear e4
   go_wp2
   go_loopg [14,18] sub.length (fun kq v14 v18 W'=>∃ (j:Nat) (A:Option Addr) (q:Nat),v14=.slice A (out.length+j) q∧v18=.int .i64 (j:Int)∧zh (kq=sub.length-j)∧zh (j≤sub.length)∧zh (∃ N N2,Mv b0 w [.int .i64 f0,.bool f1,.int .i64 f2,.slice A3 l3.length q3,.slice A4 l4.length q4,.slice A5 l5.length q5,.int .i64 f6,.string (QL t),.slice A8 (ZI t l3.length).length q8,.slice A9 (Ym t l5.length).length q9] N N2 f gs qg (.slice A (out.length+j) q) out sub j W'))
   case atStart=>exact ⟨0,A,q,rfl,rfl,⟨rfl⟩,⟨Nat.zero_le _⟩,⟨_,_,M0.out⟩⟩
   case round =>
    obtain ⟨j,B,b,rfl,rfl,HJ4,HL4,HM⟩:=hrel
    obtain ⟨N,N2,hm⟩:=HM.out
    have M1:=zh.mk hm
    clear hm HM M0
    have b5:=E5.out
    by_cases hj:j<sub.length
    ·obtain ⟨gm4,hgm⟩:∃ gm,gk=gm+1:=⟨gk-1,by have:=HJ4.out;omega⟩
     have HGM4:=zh.mk hgm
     clear hgm
     obtain ⟨x,hx⟩:∃ x,sub[j]?=some x:=⟨sub[j],List.getElem?_eq_getElem hj⟩
     obtain ⟨v3,v4,v5,v8,v9,hMx,k0,k1,k2,k3,k4,k5,k6,k7,k8,k9⟩:=M1.out.elem hx
     obtain ⟨m1,m2,m3,m4⟩:=M1.out.app
     have HMx:=zh.mk hMx
     have HX:=zh.mk hx
     have P1:=zh.mk m1
     have P2:=zh.mk m2
     have P3:=zh.mk m3
     have P4:=zh.mk m4
     have PL:=zh.mk (M1.out.len (Nat.le_of_lt hj))
     clear hMx hx m1 m2 m3 m4
     have d2:decide ((j:Int)<(s1.length:Int))=true:=dt (by have:=HLs.out;omega)
     have i1:(j:Int)<(s1.length:Int):=by have:=HLs.out;omega
     have WW:zh (IntKind.i64.wrap ((j:Int)+1)=((j+1:Nat):Int)):=⟨by rw [IntKind.wrap_i64];have:=E5.out;omega⟩
     go_wp2_with (at_builtin;refine Kd.S_append k56 (w0:=_) b0 rfl (.tmp 112) (.tmp 117) 23 56 (.agg #[(.int .i64 0),(.bool false),(.int .i64 0),(.slice none 0 0),(.slice none 0 0),(.slice none 0 0),(.int .i64 0),(.string ⟨#[]⟩),(.slice none 0 0),(.slice none 0 0)]) 168 rfl Tryz.underlying23 info56 rfl (by decide) (by decide) (.slice B (out.length+j) b) (out++sub.take j) x [.int .i64 x.f0,.bool x.f1,.int .i64 x.f2,v3,v4,v5,.int .i64 x.f6,.string x.f7,v8,v9] (fun k=>k≠w.heap.size∧(k<N∨N2≤k∨(k≠gs∧f k<j+1))) (fun k=>N≤k∧k<N2∧k≠gs∧f k=j) rfl (by first|(go_simp;done)|(go_simp;rfl)|rfl) HMx.out P1.out P2.out P3.out (Below.refl _ _) P4.out ?bL ?_;(case bL=>rw [PL.out];have:=E5.out;omega);intro v' w10 hS _ hg5 hat;obtain ⟨B',b',rfl⟩:=Kd.Zx hS;have M2:=zh.mk (M1.out.next HX.out hg5 hat hS);rw [show (out++sub.take j++[x]).length=out.length+(j+1) by rw [List.length_append,PL.out];rfl] at M2;rw [show (out++sub.take j++[x]).length=out.length+(j+1) by rw [List.length_append,PL.out];rfl];clear hS hg5 hat)
     have hgk:=HGM4.out
     subst hgk
     go_roundg gm4
     case measure=>have:=HJ4.out;omega
     case rel=>exact ⟨j+1,_,_,rfl,by first|rfl|(simp;done)|(rw [WW.out])|(rw [show wrap64 ((j:Int)+1)=((j+1:Nat):Int) by unfold wrap64;omega]),⟨by have:=HJ4.out;omega⟩,⟨by omega⟩,⟨N,N2,M2.out⟩⟩
    ·have d2:decide ((j:Int)<(s1.length:Int))=false:=df (by have:=HLs.out;omega)
     have D9:=zh.mk (M1.out.done (by omega))
     have JL:zh (j=sub.length):=⟨by have:=HL4.out;omega⟩
     have hn:¬ (j:Int)<(s1.length:Int):=by have:=HLs.out;omega
     clear hj
     have WW:zh (IntKind.i64.wrap ((i:Int)+1)=((i+1:Nat):Int)):=⟨by rw [IntKind.wrap_i64];omega⟩
     go_wp2
     have hgk:=HGM.out
     subst hgk
     go_roundg gm
     case measure=>have:=HJ.out;omega
     case rel=>exact ⟨i+1,p2,_,_,out++sub,rfl,by rw [List.length_append,JL.out],by first|rfl|(simp;done)|(rw [WW.out]),⟨by have:=HJ.out;omega⟩,⟨by have:=HL.out;omega,by rw [List.length_append];exact E5.out⟩,⟨by have h9:=D9.out;rw [List.length_append];rw [JL.out] at h9;exact h9⟩,E6⟩
  ·have d0:=df hi
   obtain rfl:i=f6.toNat:=by have:=HL.out.1;omega
   have hf:=HF.out
   rw [Nat.sub_self,Xv] at hf
   obtain ⟨rfl,rfl⟩:=Prod.mk.inj (Option.some.inj hf)
   clear hf HF
   go_wp2
   go_ret2
   exact ⟨_,rfl,Kd.Z4 HD.out.ro (fun _ _=>trivial),HD.out.bel⟩
def kids0:QM where
 f:=fun _ _ _ _ _ _ _ _ _ _ _ _ _ _=>none
 mono:=fun _ _ _ _ _ _ _ _ _ _ _ _ _ _=>LeO.none _
 calls:=by intros;rename_i h;cases h
def kidsStep (K:QM):QM where
 f:=kidsF (@zl.f ⟨K⟩)
 mono:=kidsF_mono _ (@zl.mono ⟨K⟩)
 calls:=l4Kids_calls _ (@zl.calls ⟨K⟩)
def kidsN:Nat→QM
 | 0=>kids0
 | n+1=>kidsStep (kidsN n)
instance:Inhabited QM:=⟨kidsN 3⟩
end Go.Proofs.YtiekodnojmkfaaaGreatDoor.yD
