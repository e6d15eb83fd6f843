import Derived.Test.YtiekodnojmkfaaaGreatDoorPFnDumpx0
import Derived.Test.YtiekodnojmkfaaaGreatDoorPFnDumpx4
import Derived.Test.YtiekodnojmkfaaaGreatDoorPFnDumpx9
namespace Go.Proofs.YtiekodnojmkfaaaGreatDoor.yD
open Go.RowKit Go.Proofs.YtiekodnojmkfaaaGreatDoorW.zF Go.Proofs.YtiekodnojmkfaaaGreatDoorW.yC Go.Proofs.YtiekodnojmkfaaaGreatDoorW.yY
attribute [local go_sem] xM xO qG qH yZ xg xP xQ
set_option linter.unusedVariables false
set_option linter.unusedSimpArgs false
def ku (n:Int):S56:=⟨0,false,1,[wI 23 0 0 0],[],[],n,⟨#[]⟩,[],[]⟩
def spOk (P:Nat→Prop) (w:World) (g6 g10 g11 g12:Nat) (k:Nat):Prop:=((P k∧k<w.heap.size)∨w.heap.size≤k)∧k≠g6∧k≠g10∧k≠g11∧k≠g12
def cells44 (x:S56) (v3 v4 v5 v8 v9:Value):List Value:=[.int .i64 x.f0,.bool x.f1,.int .i64 x.f2,v3,v4,v5,.int .i64 x.f6,.string x.f7,v8,v9]
structure Rows (W:World) (ok:Nat→Prop) (x:S56) (v3 v4 v5 v8 v9:Value):Prop where
 r3:Kd.V (Kd.int .u32) 60 W 0 ok v3 x.f3
 r4:Kd.V k67 67 W 0 ok v4 x.f4
 r5:Kd.V k71 71 W 0 ok v5 x.f5
 r8:Kd.V (Kd.int .i64) 3 W 0 ok v8 x.f8
 r9:Kd.V Kd.string 9 W 0 ok v9 x.f9
section
variable {P:Nat→Prop} {w W W1 w3:World} {g6 g10 g11 g12:Nat} {v v':Value} {l:List S56} {q x x':S56} {v3 v4 v5 v8 v9 u u3:Value} {ok ok':Nat→Prop} {n:Int}
theorem Rows.FK (h:Rows W ok x v3 v4 v5 v8 v9):Kd.FK k56 W ok x (cells44 x v3 v4 v5 v8 v9):=by
 obtain ⟨⟨A3,c3,rfl,l3,f3⟩,⟨A4,c4,rfl,l4,f4⟩,⟨A5,c5,rfl,l5,f5⟩,⟨A8,c8,rfl,l8,f8⟩,⟨A9,c9,rfl,l9,f9⟩⟩:=h
 exact k56_mkF W ok x l3 f3 l4 f4 l5 f5 l8 f8 l9 f9
theorem Rows.of_FK {c:List Value} (h:Kd.FK k56 W ok x c):∃ v3 v4 v5 v8 v9,c=cells44 x v3 v4 v5 v8 v9∧Rows W ok x v3 v4 v5 v8 v9:=by
 obtain ⟨A3,c3,A4,c4,A5,c5,A8,c8,A9,c9,rfl,l3,f3,l4,f4,l5,f5,l8,f8,l9,f9⟩:=k56_openF h
 exact ⟨_,_,_,_,_,rfl,⟨Kd.V_mk l3 f3,Kd.V_mk l4 f4,Kd.V_mk l5 f5,Kd.V_mk l8 f8,Kd.V_mk l9 f9⟩⟩
theorem Rows.step (h:Rows W ok x v3 v4 v5 v8 v9) (hm:∀ k,ok k→k<W.heap.size→W1.heap[k]?=W.heap[k]?):Rows W1 ok x v3 v4 v5 v8 v9 :=
 ⟨Kd.XY h.r3 hm,Kd.XY h.r4 hm,Kd.XY h.r5 hm,Kd.XY h.r8 hm,Kd.XY h.r9 hm⟩
theorem Rows.mono (h:Rows W ok x v3 v4 v5 v8 v9) (hok:∀ k,ok k→ok' k):Rows W ok' x v3 v4 v5 v8 v9 :=
 ⟨Kd.jo h.r3 hok,Kd.jo h.r4 hok,Kd.jo h.r5 hok,Kd.jo h.r8 hok,Kd.jo h.r9 hok⟩
theorem Xj {α:Type} {d:Kd α} {e b b':Nat} {xs:List α} (h:d.R e W b ok v xs) (hok:∀ k,ok k→ok' k):Kd.V d e W b' ok' v xs:=by
 obtain ⟨A,c,rfl⟩:=Kd.yA h
 have h2:=Kd.yB h
 exact ⟨A,c,rfl,h2.2.1,Kd.F_mono (Kd.R_F h) hok⟩
structure vw (P:Nat→Prop) (w:World) (g6 g10 g11 g12:Nat) (v:Value) (l:List S56) (q:S56) (v3 v4 v5 v8 v9:Value) (n:Int) (u3:Value) (W:World):Prop where
 bel:Below w.heap.size w W
 o0:w.heap.size≤g6
 o1:g6<g10
 o2:g10<g11
 o3:g11<g12
 b6:W.heap[g6]?=some (.cells #[.slice none 0 0] 25 (0,0))
 b10:W.heap[g10]?=some (.cells #[v] 25 (0,0))
 b11:W.heap[g11]?=some (.cells #[.int .i64 q.f0,.bool q.f1,.int .i64 q.f2,v3,v4,v5,.int .i64 q.f6,.string q.f7,v8,v9] 56 (0,0))
 b12:W.heap[g12]?=some (.cells #[.int .i64 0,.bool false,.int .i64 1,u3,.slice none 0 0,.slice none 0 0,.int .i64 n,.string ⟨#[]⟩,.slice none 0 0,.slice none 0 0] 56 (0,0))
 row:Kd.N k56 56 W w.heap.size (spOk P w g6 g10 g11 g12) v l
 qr:Rows W (fun k=>spOk P w g6 g10 g11 g12 k∧some k≠v.ownBlock) q v3 v4 v5 v8 v9
 lr:Kd.V (Kd.int .u32) 60 W 0 (fun k=>spOk P w g6 g10 g11 g12 k∧some k≠v.ownBlock) u3 [wI 23 0 0 0]
theorem vw.below (h:vw P w g6 g10 g11 g12 v l q v3 v4 v5 v8 v9 n u3 W) (hb:Below W.heap.size W W1):vw P w g6 g10 g11 g12 v l q v3 v4 v5 v8 v9 n u3 W1 :=
 ⟨zI h.bel hb,h.o0,h.o1,h.o2,h.o3,yc h.b6 hb,yc h.b10 hb,yc h.b11 hb,yc h.b12 hb,Kd.ZK h.row hb,h.qr.step (fun k _ hk=>hb.block k hk),Kd.jO h.lr hb⟩
theorem vw.refl (_:vw P w g6 g10 g11 g12 v l q v3 v4 v5 v8 v9 n u3 W):Below W.heap.size W W:=Below.refl _ _
theorem vw.cells (h:vw P w g6 g10 g11 g12 v l q v3 v4 v5 v8 v9 n u3 W):W.cell? ⟨g11,0,none⟩=some (.int .i64 q.f0)∧W.cell? ⟨g11,1,none⟩=some (.bool q.f1)∧W.cell? ⟨g11,2,none⟩=some (.int .i64 q.f2)∧W.cell? ⟨g11,3,none⟩=some v3∧W.cell? ⟨g11,4,none⟩=some v4∧W.cell? ⟨g11,5,none⟩=some v5∧W.cell? ⟨g11,6,none⟩=some (.int .i64 q.f6)∧W.cell? ⟨g11,7,none⟩=some (.string q.f7)∧W.cell? ⟨g11,8,none⟩=some v8∧W.cell? ⟨g11,9,none⟩=some v9∧W.frozen? ⟨g11,0,none⟩=false∧W.frozen? ⟨g11,2,none⟩=false∧W.frozen? ⟨g11,3,none⟩=false∧W.frozen? ⟨g11,4,none⟩=false∧W.frozen? ⟨g11,5,none⟩=false∧W.frozen? ⟨g11,6,none⟩=false∧W.frozen? ⟨g11,7,none⟩=false∧W.frozen? ⟨g11,8,none⟩=false∧W.frozen? ⟨g11,9,none⟩=false :=
 ⟨(zi h.b11 0).trans rfl,(zi h.b11 1).trans rfl,(zi h.b11 2).trans rfl,(zi h.b11 3).trans rfl,(zi h.b11 4).trans rfl,(zi h.b11 5).trans rfl,(zi h.b11 6).trans rfl,(zi h.b11 7).trans rfl,(zi h.b11 8).trans rfl,(zi h.b11 9).trans rfl,zn h.b11 0,zn h.b11 2,zn h.b11 3,zn h.b11 4,zn h.b11 5,zn h.b11 6,zn h.b11 7,zn h.b11 8,zn h.b11 9⟩
theorem vw.put (h:vw P w g6 g10 g11 g12 v l q v3 v4 v5 v8 v9 n u3 W) (j:Nat) {v3' v4' v5' v8' v9':Value} (hc:(#[.int .i64 q.f0,.bool q.f1,.int .i64 q.f2,v3,v4,v5,.int .i64 q.f6,.string q.f7,v8,v9]:Array Value).setIfInBounds j u=#[.int .i64 x.f0,.bool x.f1,.int .i64 x.f2,v3',v4',v5',.int .i64 x.f6,.string x.f7,v8',v9'])
  (hr:Rows W (fun k=>spOk P w g6 g10 g11 g12 k∧some k≠v.ownBlock) x v3' v4' v5' v8' v9'):vw P w g6 g10 g11 g12 v l x v3' v4' v5' v8' v9' n u3 (W.setCell ⟨g11,j,none⟩ u):=by
 have o0:=h.o0
 have o1:=h.o1
 have o2:=h.o2
 have o3:=h.o3
 have hf:∀ k,k≠g11→(W.setCell ⟨g11,j,none⟩ u).heap[k]?=W.heap[k]?:=fun k hk=>Below.heap_setCell W ⟨g11,j,none⟩ u k hk
 exact ⟨yT h.bel (by omega),o0,o1,o2,o3,(hf _ (by omega)).trans h.b6,(hf _ (by omega)).trans h.b10,xK h.b11 j u hc,(hf _ (by omega)).trans h.b12,Kd.Qn h.row (fun k hk _=>hf k hk.2.2.2.1),hr.step (fun k hk _=>hf k hk.1.2.2.2.1),Kd.XY h.lr (fun k hk _=>hf k hk.1.2.2.2.1)⟩
theorem vw.own (h:vw P w g6 g10 g11 g12 v l q v3 v4 v5 v8 v9 n u3 W):∀ k,W.heap.size≤k→spOk P w g6 g10 g11 g12 k∧some k≠v.ownBlock:=by
 intro k hk
 have h0:=h.o0
 have h1:=h.o1
 have h2:=h.o2
 have h3:=h.o3
 have h4:=yx h.b12
 exact ⟨⟨.inr (by have:=h.bel.size;omega),by omega,by omega,by omega,by omega⟩,fun he=>by have:=Kd.N_lt h.row k he.symm;omega⟩
theorem Rows.set3 {a:List Int} (h:Rows W ok x v3 v4 v5 v8 v9) (hv:Kd.V (Kd.int .u32) 60 W 0 ok v' a):Rows W ok (⟨x.f0,x.f1,x.f2,a,x.f4,x.f5,x.f6,x.f7,x.f8,x.f9⟩:S56) v' v4 v5 v8 v9:=⟨hv,h.r4,h.r5,h.r8,h.r9⟩
theorem Rows.set4 {a:List S67} (h:Rows W ok x v3 v4 v5 v8 v9) (hv:Kd.V k67 67 W 0 ok v' a):Rows W ok (⟨x.f0,x.f1,x.f2,x.f3,a,x.f5,x.f6,x.f7,x.f8,x.f9⟩:S56) v3 v' v5 v8 v9:=⟨h.r3,hv,h.r5,h.r8,h.r9⟩
theorem Rows.set5 {a:List S71} (h:Rows W ok x v3 v4 v5 v8 v9) (hv:Kd.V k71 71 W 0 ok v' a):Rows W ok (⟨x.f0,x.f1,x.f2,x.f3,x.f4,a,x.f6,x.f7,x.f8,x.f9⟩:S56) v3 v4 v' v8 v9:=⟨h.r3,h.r4,hv,h.r8,h.r9⟩
theorem Rows.set8 {a:List Int} (h:Rows W ok x v3 v4 v5 v8 v9) (hv:Kd.V (Kd.int .i64) 3 W 0 ok v' a):Rows W ok (⟨x.f0,x.f1,x.f2,x.f3,x.f4,x.f5,x.f6,x.f7,a,x.f9⟩:S56) v3 v4 v5 v' v9:=⟨h.r3,h.r4,h.r5,hv,h.r9⟩
theorem Rows.JI {a:List ByteArray} (h:Rows W ok x v3 v4 v5 v8 v9) (hv:Kd.V Kd.string 9 W 0 ok v' a):Rows W ok (⟨x.f0,x.f1,x.f2,x.f3,x.f4,x.f5,x.f6,x.f7,x.f8,a⟩:S56) v3 v4 v5 v8 v':=⟨h.r3,h.r4,h.r5,h.r8,hv⟩
end
structure Sp0 (P:Nat→Prop) (w:World) (g6 g10:Nat) (v:Value) (l:List S56) (W:World):Prop where
 bel:Below w.heap.size w W
 o0:w.heap.size≤g6
 o1:g6<g10
 b6:W.heap[g6]?=some (.cells #[.slice none 0 0] 25 (0,0))
 b10:W.heap[g10]?=some (.cells #[v] 25 (0,0))
 row:Kd.N k56 56 W w.heap.size (fun k=>((P k∧k<w.heap.size)∨w.heap.size≤k)∧k≠g6∧k≠g10) v l
structure Sp1 (P:Nat→Prop) (w:World) (g6 g10 g11:Nat) (v:Value) (l:List S56) (q:S56) (v3 v4 v5 v8 v9:Value) (W:World):Prop where
 bel:Below w.heap.size w W
 o0:w.heap.size≤g6
 o1:g6<g10
 o2:g10<g11
 b6:W.heap[g6]?=some (.cells #[.slice none 0 0] 25 (0,0))
 b10:W.heap[g10]?=some (.cells #[v] 25 (0,0))
 b11:W.heap[g11]?=some (.cells #[.int .i64 q.f0,.bool q.f1,.int .i64 q.f2,v3,v4,v5,.int .i64 q.f6,.string q.f7,v8,v9] 56 (0,0))
 row:Kd.N k56 56 W w.heap.size (fun k=>((P k∧k<w.heap.size)∨w.heap.size≤k)∧k≠g6∧k≠g10∧k≠g11) v l
 qr:Rows W (fun k=>(((P k∧k<w.heap.size)∨w.heap.size≤k)∧k≠g6∧k≠g10∧k≠g11)∧some k≠v.ownBlock) q v3 v4 v5 v8 v9
def put10 (W:World) (g:Nat) (c0 c1 c2 c3 c4 c5 c6 c7 c8 c9:Value):World:=(((((((((W.setCell ⟨g,0,none⟩ c0).setCell ⟨g,1,none⟩ c1).setCell ⟨g,2,none⟩ c2).setCell ⟨g,3,none⟩ c3).setCell ⟨g,4,none⟩ c4).setCell ⟨g,5,none⟩ c5).setCell ⟨g,6,none⟩ c6).setCell ⟨g,7,none⟩ c7).setCell ⟨g,8,none⟩ c8).setCell ⟨g,9,none⟩ c9
theorem put10_at {W:World} {g t:Nat} {a0 a1 a2 a3 a4 a5 a6 a7 a8 a9 c0 c1 c2 c3 c4 c5 c6 c7 c8 c9:Value} (h:W.heap[g]?=some (.cells #[a0,a1,a2,a3,a4,a5,a6,a7,a8,a9] t (0,0))):(put10 W g c0 c1 c2 c3 c4 c5 c6 c7 c8 c9).heap[g]?=some (.cells #[c0,c1,c2,c3,c4,c5,c6,c7,c8,c9] t (0,0)):=by
 have h0:=xK h 0 c0 (cs':=#[c0,a1,a2,a3,a4,a5,a6,a7,a8,a9]) rfl
 have h1:=xK h0 1 c1 (cs':=#[c0,c1,a2,a3,a4,a5,a6,a7,a8,a9]) rfl
 have h2:=xK h1 2 c2 (cs':=#[c0,c1,c2,a3,a4,a5,a6,a7,a8,a9]) rfl
 have h3:=xK h2 3 c3 (cs':=#[c0,c1,c2,c3,a4,a5,a6,a7,a8,a9]) rfl
 have h4:=xK h3 4 c4 (cs':=#[c0,c1,c2,c3,c4,a5,a6,a7,a8,a9]) rfl
 have h5:=xK h4 5 c5 (cs':=#[c0,c1,c2,c3,c4,c5,a6,a7,a8,a9]) rfl
 have h6:=xK h5 6 c6 (cs':=#[c0,c1,c2,c3,c4,c5,c6,a7,a8,a9]) rfl
 have h7:=xK h6 7 c7 (cs':=#[c0,c1,c2,c3,c4,c5,c6,c7,a8,a9]) rfl
 have h8:=xK h7 8 c8 (cs':=#[c0,c1,c2,c3,c4,c5,c6,c7,c8,a9]) rfl
 have h9:=xK h8 9 c9 (cs':=#[c0,c1,c2,c3,c4,c5,c6,c7,c8,c9]) rfl
 exact h9
theorem put10_far {W:World} {g k:Nat} {c0 c1 c2 c3 c4 c5 c6 c7 c8 c9:Value} (hk:k≠g):(put10 W g c0 c1 c2 c3 c4 c5 c6 c7 c8 c9).heap[k]?=W.heap[k]?:=by
 unfold put10
 rw [Below.heap_setCell _ _ _ _ hk,Below.heap_setCell _ _ _ _ hk,Below.heap_setCell _ _ _ _ hk,Below.heap_setCell _ _ _ _ hk,Below.heap_setCell _ _ _ _ hk,Below.heap_setCell _ _ _ _ hk,Below.heap_setCell _ _ _ _ hk,Below.heap_setCell _ _ _ _ hk,Below.heap_setCell _ _ _ _ hk,Below.heap_setCell _ _ _ _ hk]
theorem QH {w W:World} {g:Nat} {c0 c1 c2 c3 c4 c5 c6 c7 c8 c9:Value} (h:Below w.heap.size w W) (hg:w.heap.size≤g):Below w.heap.size w (put10 W g c0 c1 c2 c3 c4 c5 c6 c7 c8 c9) :=
 yT (yT (yT (yT (yT (yT (yT (yT (yT (yT h hg) hg) hg) hg) hg) hg) hg) hg) hg) hg
section
variable {P:Nat→Prop} {w W W1 W2:World} {g6 g10 g11 g12 t:Nat} {v:Value} {l:List S56} {q:S56} {v3 v4 v5 v8 v9 u3:Value}
theorem Sp0.start {W0:World} (hB:Below w.heap.size w W0) (ho0:w.heap.size≤g6) (h6:W0.heap[g6]?=some (.cells #[.slice none 0 0] 25 (0,0))) (hb:Below W0.heap.size W0 W) (hN:Kd.N k56 56 W W0.heap.size (fun k=>((P k∧k<w.heap.size)∨W0.heap.size≤k)) v l) (hb1:Below W.heap.size W W1) (hg:g10=W.heap.size) (h10:W1.heap[g10]?=some (.cells #[.slice none 0 0] 25 (0,0))) :
  Sp0 P w g6 g10 v l (W1.setCell ⟨g10,0,none⟩ v):=by
 have s0:=hB.size
 have s1:=hb.size
 have s6:=yx h6
 have hf:∀ k,k≠g10→(W1.setCell ⟨g10,0,none⟩ v).heap[k]?=W1.heap[k]?:=fun k hk=>Below.heap_setCell W1 ⟨g10,0,none⟩ v k hk
 refine ⟨yT (zI (zI hB hb) hb1) (by omega),ho0,by omega,(hf _ (by omega)).trans (yc (yc h6 hb) hb1),xK h10 0 v rfl,?_⟩
 have h1:=Kd.ZK (Kd.Jo (Kd.JW hN s0)) hb1
 exact Kd.Qn (Kd.Zl h1 (fun k hk=>⟨hk.1.elim .inl (fun h=>.inr (by omega)),by rcases hk.1 with h|h <;> omega,by have:=hk.2;omega⟩)) (fun k hk _=>hf k hk.2.2)
theorem Sp0.refl (_:Sp0 P w g6 g10 v l W):Below W.heap.size W W:=Below.refl _ _
theorem Sp1.start (h:Sp0 P w g6 g10 v l W) (hb1:Below W.heap.size W W1) (hg:g11=W.heap.size) {a0 a1 a2 a3 a4 a5 a6 a7 a8 a9:Value} (h11:W1.heap[g11]?=some (.cells #[a0,a1,a2,a3,a4,a5,a6,a7,a8,a9] 56 (0,0)))
  (hr:Rows W (fun k=>((((P k∧k<w.heap.size)∨w.heap.size≤k)∧k≠g6∧k≠g10)∧some k≠v.ownBlock)∧k<W.heap.size) q v3 v4 v5 v8 v9) :
  Sp1 P w g6 g10 g11 v l q v3 v4 v5 v8 v9 (put10 W1 g11 (.int .i64 q.f0) (.bool q.f1) (.int .i64 q.f2) v3 v4 v5 (.int .i64 q.f6) (.string q.f7) v8 v9):=by
 have s0:=h.bel.size
 have l10:=yx h.b10
 have o0:=h.o0
 have o1:=h.o1
 have hf:∀ k,k≠g11→(put10 W1 g11 (.int .i64 q.f0) (.bool q.f1) (.int .i64 q.f2) v3 v4 v5 (.int .i64 q.f6) (.string q.f7) v8 v9).heap[k]?=W1.heap[k]?:=fun k hk=>put10_far hk
 refine ⟨QH (zI h.bel hb1) (by omega),h.o0,h.o1,by omega,(hf _ (by omega)).trans (yc h.b6 hb1),(hf _ (by omega)).trans (yc h.b10 hb1),put10_at h11,?_,?_⟩
 ·exact Kd.Qn (Kd.Zl (Kd.ZK (Kd.Jo h.row) hb1) (fun k hk=>⟨hk.1.1,hk.1.2.1,hk.1.2.2,by have:=hk.2;omega⟩)) (fun k hk _=>hf k hk.2.2.2)
 ·exact ((hr.step (fun k _ hk=>hb1.block k hk)).mono (fun k hk=>⟨⟨hk.1.1.1,hk.1.1.2.1,hk.1.1.2.2,by have:=hk.2;omega⟩,hk.1.2⟩)).step (fun k hk _=>hf k hk.1.2.2.2)
theorem Sp1.refl (_:Sp1 P w g6 g10 g11 v l q v3 v4 v5 v8 v9 W):Below W.heap.size W W:=Below.refl _ _
theorem vw.start (h:Sp1 P w g6 g10 g11 v l q v3 v4 v5 v8 v9 W) (hb1:Below W.heap.size W W1) (hu:(Kd.int .u32).R 60 W1 W.heap.size (fun _=>True) u3 [wI 23 0 0 0]) (hb2:Below W1.heap.size W1 W2) (hg:g12=W1.heap.size) {a0 a1 a2 a3 a4 a5 a6 a7 a8 a9:Value} (h12:W2.heap[g12]?=some (.cells #[a0,a1,a2,a3,a4,a5,a6,a7,a8,a9] 56 (0,0))) :
  vw P w g6 g10 g11 g12 v l q v3 v4 v5 v8 v9 0 u3 (put10 W2 g12 (.int .i64 0) (.bool false) (.int .i64 1) u3 (.slice none 0 0) (.slice none 0 0) (.int .i64 0) (.string ⟨#[]⟩) (.slice none 0 0) (.slice none 0 0)):=by
 have s0:=h.bel.size
 have s1:=hb1.size
 have l11:=yx h.b11
 have o0:=h.o0
 have o1:=h.o1
 have o2:=h.o2
 have lt:=Kd.N_lt h.row
 have hb:=zI hb1 hb2
 have hf:∀ k,k≠g12→(put10 W2 g12 (.int .i64 0) (.bool false) (.int .i64 1) u3 (.slice none 0 0) (.slice none 0 0) (.int .i64 0) (.string ⟨#[]⟩) (.slice none 0 0) (.slice none 0 0)).heap[k]?=W2.heap[k]?:=fun k hk=>put10_far hk
 refine ⟨QH (zI h.bel hb) (by omega),h.o0,h.o1,h.o2,by omega,(hf _ (by omega)).trans (yc h.b6 hb),(hf _ (by omega)).trans (yc h.b10 hb),(hf _ (by omega)).trans (yc h.b11 hb),put10_at h12,?_,?_,?_⟩
 ·exact Kd.Qn (Kd.Zl (Kd.ZK (Kd.Jo h.row) hb) (fun k hk=>⟨hk.1.1,hk.1.2.1,hk.1.2.2.1,hk.1.2.2.2,by have:=hk.2;omega⟩)) (fun k hk _=>hf k hk.2.2.2.2)
 ·refine Rows.step (W:=W2) (Rows.mono (ok:=fun k=>((((P k∧k<w.heap.size)∨w.heap.size≤k)∧k≠g6∧k≠g10∧k≠g11)∧some k≠v.ownBlock)∧k<W.heap.size) ?_ (fun k hk=>⟨⟨hk.1.1.1,hk.1.1.2.1,hk.1.1.2.2.1,hk.1.1.2.2.2,by have:=hk.2;omega⟩,hk.1.2⟩)) (fun k hk _=>hf k hk.1.2.2.2.2)
  exact Rows.step (W:=W) ⟨Kd.ZW h.qr.r3,Kd.ZW h.qr.r4,Kd.ZW h.qr.r5,Kd.ZW h.qr.r8,Kd.ZW h.qr.r9⟩ (fun k _ hk=>hb.block k hk)
 ·refine Kd.XY (W:=W2) (Kd.jO (Xj (b':=0) (Kd.jv hu) (ok':=fun k=>spOk P w g6 g10 g11 g12 k∧some k≠v.ownBlock) (fun k hk=>?_)) hb2) (fun k hk _=>hf k hk.1.2.2.2.2)
  have h1:=hk.2.1
  have h2:=hk.2.2.1
  exact ⟨⟨.inr (by omega),by omega,by omega,by omega,by omega⟩,fun he=>by have:=lt k he.symm;omega⟩
end
section
variable {P:Nat→Prop} {w W:World} {g6 g10 g11 g12:Nat} {v v':Value} {l:List S56} {q:S56} {v3 v4 v5 v8 v9 u3:Value} {n:Int}
theorem vw.put0 (h:vw P w g6 g10 g11 g12 v l q v3 v4 v5 v8 v9 n u3 W) (a:Int):vw P w g6 g10 g11 g12 v l (⟨a,q.f1,q.f2,q.f3,q.f4,q.f5,q.f6,q.f7,q.f8,q.f9⟩:S56) v3 v4 v5 v8 v9 n u3 (W.setCell ⟨g11,0,none⟩ (.int .i64 a)):=vw.put (x:=(⟨a,q.f1,q.f2,q.f3,q.f4,q.f5,q.f6,q.f7,q.f8,q.f9⟩:S56)) h 0 rfl ⟨h.qr.r3,h.qr.r4,h.qr.r5,h.qr.r8,h.qr.r9⟩
theorem vw.put2 (h:vw P w g6 g10 g11 g12 v l q v3 v4 v5 v8 v9 n u3 W) (a:Int):vw P w g6 g10 g11 g12 v l (⟨q.f0,q.f1,a,q.f3,q.f4,q.f5,q.f6,q.f7,q.f8,q.f9⟩:S56) v3 v4 v5 v8 v9 n u3 (W.setCell ⟨g11,2,none⟩ (.int .i64 a)):=vw.put (x:=(⟨q.f0,q.f1,a,q.f3,q.f4,q.f5,q.f6,q.f7,q.f8,q.f9⟩:S56)) h 2 rfl ⟨h.qr.r3,h.qr.r4,h.qr.r5,h.qr.r8,h.qr.r9⟩
theorem vw.put6 (h:vw P w g6 g10 g11 g12 v l q v3 v4 v5 v8 v9 n u3 W) (a:Int):vw P w g6 g10 g11 g12 v l (⟨q.f0,q.f1,q.f2,q.f3,q.f4,q.f5,a,q.f7,q.f8,q.f9⟩:S56) v3 v4 v5 v8 v9 n u3 (W.setCell ⟨g11,6,none⟩ (.int .i64 a)):=vw.put (x:=(⟨q.f0,q.f1,q.f2,q.f3,q.f4,q.f5,a,q.f7,q.f8,q.f9⟩:S56)) h 6 rfl ⟨h.qr.r3,h.qr.r4,h.qr.r5,h.qr.r8,h.qr.r9⟩
theorem vw.put7 (h:vw P w g6 g10 g11 g12 v l q v3 v4 v5 v8 v9 n u3 W) (a:ByteArray):vw P w g6 g10 g11 g12 v l (⟨q.f0,q.f1,q.f2,q.f3,q.f4,q.f5,q.f6,a,q.f8,q.f9⟩:S56) v3 v4 v5 v8 v9 n u3 (W.setCell ⟨g11,7,none⟩ (.string a)):=vw.put (x:=(⟨q.f0,q.f1,q.f2,q.f3,q.f4,q.f5,q.f6,a,q.f8,q.f9⟩:S56)) h 7 rfl ⟨h.qr.r3,h.qr.r4,h.qr.r5,h.qr.r8,h.qr.r9⟩
theorem vw.put3 (h:vw P w g6 g10 g11 g12 v l q v3 v4 v5 v8 v9 n u3 W) {a:List Int} (hv:Kd.V (Kd.int .u32) 60 W 0 (fun k=>spOk P w g6 g10 g11 g12 k∧some k≠v.ownBlock) v' a):vw P w g6 g10 g11 g12 v l (⟨q.f0,q.f1,q.f2,a,q.f4,q.f5,q.f6,q.f7,q.f8,q.f9⟩:S56) v' v4 v5 v8 v9 n u3 (W.setCell ⟨g11,3,none⟩ v'):=vw.put (x:=(⟨q.f0,q.f1,q.f2,a,q.f4,q.f5,q.f6,q.f7,q.f8,q.f9⟩:S56)) h 3 rfl (Rows.set3 h.qr hv)
theorem vw.put4 (h:vw P w g6 g10 g11 g12 v l q v3 v4 v5 v8 v9 n u3 W) {a:List S67} (hv:Kd.V k67 67 W 0 (fun k=>spOk P w g6 g10 g11 g12 k∧some k≠v.ownBlock) v' a):vw P w g6 g10 g11 g12 v l (⟨q.f0,q.f1,q.f2,q.f3,a,q.f5,q.f6,q.f7,q.f8,q.f9⟩:S56) v3 v' v5 v8 v9 n u3 (W.setCell ⟨g11,4,none⟩ v'):=vw.put (x:=(⟨q.f0,q.f1,q.f2,q.f3,a,q.f5,q.f6,q.f7,q.f8,q.f9⟩:S56)) h 4 rfl (Rows.set4 h.qr hv)
theorem vw.put5 (h:vw P w g6 g10 g11 g12 v l q v3 v4 v5 v8 v9 n u3 W) {a:List S71} (hv:Kd.V k71 71 W 0 (fun k=>spOk P w g6 g10 g11 g12 k∧some k≠v.ownBlock) v' a):vw P w g6 g10 g11 g12 v l (⟨q.f0,q.f1,q.f2,q.f3,q.f4,a,q.f6,q.f7,q.f8,q.f9⟩:S56) v3 v4 v' v8 v9 n u3 (W.setCell ⟨g11,5,none⟩ v'):=vw.put (x:=(⟨q.f0,q.f1,q.f2,q.f3,q.f4,a,q.f6,q.f7,q.f8,q.f9⟩:S56)) h 5 rfl (Rows.set5 h.qr hv)
theorem vw.put8 (h:vw P w g6 g10 g11 g12 v l q v3 v4 v5 v8 v9 n u3 W) {a:List Int} (hv:Kd.V (Kd.int .i64) 3 W 0 (fun k=>spOk P w g6 g10 g11 g12 k∧some k≠v.ownBlock) v' a):vw P w g6 g10 g11 g12 v l (⟨q.f0,q.f1,q.f2,q.f3,q.f4,q.f5,q.f6,q.f7,a,q.f9⟩:S56) v3 v4 v5 v' v9 n u3 (W.setCell ⟨g11,8,none⟩ v'):=vw.put (x:=(⟨q.f0,q.f1,q.f2,q.f3,q.f4,q.f5,q.f6,q.f7,a,q.f9⟩:S56)) h 8 rfl (Rows.set8 h.qr hv)
theorem vw.put9 (h:vw P w g6 g10 g11 g12 v l q v3 v4 v5 v8 v9 n u3 W) {a:List ByteArray} (hv:Kd.V Kd.string 9 W 0 (fun k=>spOk P w g6 g10 g11 g12 k∧some k≠v.ownBlock) v' a):vw P w g6 g10 g11 g12 v l (⟨q.f0,q.f1,q.f2,q.f3,q.f4,q.f5,q.f6,q.f7,q.f8,a⟩:S56) v3 v4 v5 v8 v' n u3 (W.setCell ⟨g11,9,none⟩ v'):=vw.put (x:=(⟨q.f0,q.f1,q.f2,q.f3,q.f4,q.f5,q.f6,q.f7,q.f8,a⟩:S56)) h 9 rfl (Rows.JI h.qr hv)
end
theorem setCell_swap (W:World) {g h:Nat} (hne:g≠h) (i j:Nat) (u v:Value):(W.setCell ⟨g,i,none⟩ u).setCell ⟨h,j,none⟩ v=(W.setCell ⟨h,j,none⟩ v).setCell ⟨g,i,none⟩ u:=by
 unfold World.setCell
 simp only
 congr 1
 apply Array.ext
 ·simp
 ·intro k h1 h2
  simp only [Array.getElem_modify]
  by_cases a:g=k
  ·subst a
   simp [show ¬ h=g from fun e=>hne e.symm]
  ·by_cases b:h=k
   ·subst b
    simp [a]
   ·simp [a,b]
section
variable {P:Nat→Prop} {w W0 W:World} {g6 g10 g11 g12 gq m cap:Nat} {v:Value} {l:List S56} {q:S56} {v3 v4 v5 v8 v9 u3:Value} {n:Int}
theorem vw.put13 (D:vw P w g6 g10 g11 g12 v l q v3 v4 v5 v8 v9 n u3 W0) (HB:Below W0.heap.size W0 W) {xs:List Int} (hR:(Kd.int .i64).R 3 W W0.heap.size (fun k=>W0.heap.size≤k) (.slice (some ⟨gq,0,none⟩) m cap) xs) (h0:0<m) (u:Int) :
  vw P w g6 g10 g11 g12 v l (⟨q.f0,q.f1,q.f2,q.f3,q.f4,q.f5,q.f6,q.f7,xs.set 0 u,q.f9⟩:S56) v3 v4 v5 (.slice (some ⟨gq,0,none⟩) m cap) v9 n u3 ((W.setCell ⟨g11,8,none⟩ (.slice (some ⟨gq,0,none⟩) m cap)).setCell ⟨gq,0,none⟩ (.int .i64 u)):=by
 have hg:W0.heap.size≤gq:=hR.1 gq (by simp [Value.ownBlock])
 have l11:=yx D.b11
 rw [setCell_swap W (show g11≠gq by omega)]
 obtain ⟨c,hcl,_,hcc,_⟩:=Kd.JQ hR 0 (0:Int) (by omega) (by omega)
 have h2:=(Kd.R_seg hR (0:Int) (by omega) (by omega) (c:=c) (seg:=[.int .i64 u]) (j:=0) (x':=u) (okp:=fun _=>False) hcl hcc (by show 0+1≤1;omega) (by
  have hc1:c.length=1:=hcl
  rw [List.drop_of_length_le (by rw [hc1];show 1≤0+1;omega)]
  rfl) (fun _ hk=>hk.elim)).1
 have hB:Below W0.heap.size W0 (W.setCell ⟨gq,0,none⟩ (.int .i64 u)):=yT HB hg
 exact (D.below hB).put8 (Xj (b':=0) h2 (fun k hk=>D.own k hk))
end
section
variable {ops:Array Oper} {rest:List Oper} {o:Oper} {act:Act} {Q:Exit→Act→World→Prop} {P:Nat→Prop} {w W:World} {g g6 g10 g11 g12 cap:Nat} {l:List S56} {q:S56} {v3 v4 v5 v8 v9 u3:Value} {n:Int} {p x:Operand}
theorem jC (D:vw P w g6 g10 g11 g12 (.slice (some ⟨g,0,none⟩) l.length cap) l q v3 v4 v5 v8 v9 n u3 W) (bn:Nat) (hb:bn<l.length) (hN:o.dst=none) (hgd:o.guard=none) (ho:o.op=.store 56 p x) (haddr:act.eval p=.pointer (some ⟨g,bn*10,none⟩)) (hx:act.eval x=.agg #[.int .i64 q.f0,.bool q.f1,.int .i64 q.f2,v3,v4,v5,.int .i64 q.f6,.string q.f7,v8,v9])
  (h:∀ w1,Kd.N k56 56 w1 w.heap.size (spOk P w g6 g10 g11 g12) (.slice (some ⟨g,0,none⟩) l.length cap) (l.set bn q)→Below w.heap.size w w1→w1.heap[g6]?=some (.cells #[.slice none 0 0] 25 (0,0))→w1.heap[g10]?=some (.cells #[.slice (some ⟨g,0,none⟩) l.length cap] 25 (0,0))→wpList Tryz.prog ops Q rest act w1):wpList Tryz.prog ops Q (o::rest) act W:=by
 have hq:=D.qr.FK
 obtain ⟨c,hcl,_,hcc,_⟩:=Kd.N_elem D.row z56 (bn:Int) (by omega) (by omega)
 have hcl10:c.length=10:=hcl
 have hown:=D.row.1 g (by simp [Value.ownBlock])
 refine Kd.N_store k56 (w0:=w) w.heap.size hN hgd 56 p x ho 56 (bn:Int) 0 l q (.agg #[.int .i64 q.f0,.bool q.f1,.int .i64 q.f2,v3,v4,v5,.int .i64 q.f6,.string q.f7,v8,v9]) (cells44 q v3 v4 v5 v8 v9) c (spOk P w g6 g10 g11 g12) (fun k=>spOk P w g6 g10 g11 g12 k∧some k≠(Value.slice (some ⟨g,0,none⟩) l.length cap).ownBlock) haddr (by rw [Int.toNat_natCast];rfl) hx rfl (by kernel_rfl) (k56.kF (Kd.JU hq)) D.row (by omega) (by omega) hcl hcc (by show 0+10≤10;omega) (by
   have e:c.take 0++cells44 q v3 v4 v5 v8 v9++c.drop (0+(cells44 q v3 v4 v5 v8 v9).length)=cells44 q v3 v4 v5 v8 v9:=by
    rw [List.drop_of_length_le (by rw [hcl10];show 10≤0+10;omega)]
    simp
   rw [e]
   exact hq) (fun k hk=>⟨hk.1,fun he=>hk.2 (by rw [he];simp [Value.ownBlock])⟩) D.bel (fun w1 hr hB hg=>?_)
 rw [Int.toNat_natCast] at hr
 exact h w1 hr hB (qU D.b6 hg (fun he=>hown.2.1 (by injection he with he;exact he.symm))) (qU D.b10 hg (fun he=>hown.2.2.1 (by injection he with he;exact he.symm)))
theorem vU {v:Value} {r:List S56} {ok:Nat→Prop} (hN:Kd.N k56 56 W w.heap.size ok v r) (hok:∀ k,ok k→((P k∧k<w.heap.size)∨w.heap.size≤k)∧k≠g6) (hB:Below w.heap.size w W) (h0:w.heap.size≤g6) (u:Value) :
  Kd.N k56 56 (W.setCell ⟨g6,0,none⟩ u) w.heap.size (fun k=>P k∨w.heap.size≤k) v r∧Below w.heap.size w (W.setCell ⟨g6,0,none⟩ u) :=
 ⟨Kd.Zl (Kd.N_far (p:=⟨g6,0,none⟩) hN (fun k hk=>(hok k hk).2) u) (fun k hk=>(hok k hk).1.elim (fun h=>.inl h.1) .inr),yT hB h0⟩
end
section
variable {P:Nat→Prop} {w W W1:World} {g6 g10 g11 g12 g13:Nat} {v v1:Value} {l r:List S56} {q:S56} {v3 v4 v5 v8 v9 u3:Value} {n m:Int}
theorem zaP {ok:Nat→Prop} (h:Kd.V (Kd.int .u32) 60 W 0 ok u3 [wI 23 0 0 0]) (n:Int):Kd.FK k56 W ok (ku n) [.int .i64 0,.bool false,.int .i64 1,u3,.slice none 0 0,.slice none 0 0,.int .i64 n,.string ⟨#[]⟩,.slice none 0 0,.slice none 0 0] :=
 (⟨h,Kd.Jz _ _ _ _ _,Kd.Jz _ _ _ _ _,Kd.Jz _ _ _ _ _,Kd.Jz _ _ _ _ _⟩:Rows W ok (ku n) u3 (.slice none 0 0) (.slice none 0 0) (.slice none 0 0) (.slice none 0 0)).FK
theorem YD {cs:Nat} (h:W.heap[g12]?=some (.cells #[.int .i64 0,.bool false,.int .i64 1,u3,.slice none 0 0,.slice none 0 0,.int .i64 n,.string ⟨#[]⟩,.slice none 0 0,.slice none 0 0] cs (0,0))):W.cell? ⟨g12,0,none⟩=some (.int .i64 0)∧W.cell? ⟨g12,1,none⟩=some (.bool false)∧W.cell? ⟨g12,2,none⟩=some (.int .i64 1)∧W.cell? ⟨g12,3,none⟩=some u3∧W.cell? ⟨g12,4,none⟩=some (.slice none 0 0)∧W.cell? ⟨g12,5,none⟩=some (.slice none 0 0)∧W.cell? ⟨g12,6,none⟩=some (.int .i64 n)∧W.cell? ⟨g12,7,none⟩=some (.string ⟨#[]⟩)∧W.cell? ⟨g12,8,none⟩=some (.slice none 0 0)∧W.cell? ⟨g12,9,none⟩=some (.slice none 0 0)∧W.frozen? ⟨g12,6,none⟩=false :=
 ⟨(zi h 0).trans rfl,(zi h 1).trans rfl,(zi h 2).trans rfl,(zi h 3).trans rfl,(zi h 4).trans rfl,(zi h 5).trans rfl,(zi h 6).trans rfl,(zi h 7).trans rfl,(zi h 8).trans rfl,(zi h 9).trans rfl,zn h 6⟩
theorem vw.app (D:vw P w g6 g10 g11 g12 v l q v3 v4 v5 v8 v9 n u3 W) (hN:Kd.N k56 56 W1 w.heap.size (spOk P w g6 g10 g11 g12) v1 r) (hB:Below w.heap.size w W1) (hg:W.grownBy W1 v.ownBlock) :
  Kd.N k56 56 (W1.setCell ⟨g10,0,none⟩ v1) w.heap.size (spOk P w g6 g10 g11 g12) v1 r∧Below w.heap.size w (W1.setCell ⟨g10,0,none⟩ v1)∧(W1.setCell ⟨g10,0,none⟩ v1).heap[g6]?=some (.cells #[.slice none 0 0] 25 (0,0))∧W1.heap[g10]?=some (.cells #[v] 25 (0,0))∧W1.heap[g6]?=some (.cells #[.slice none 0 0] 25 (0,0)):=by
 have h0:=D.o0
 have h1:=D.o1
 have h6:=qU D.b6 hg (fun he=>(D.row.1 g6 he.symm).2.1 rfl)
 exact ⟨Kd.N_far (p:=⟨g10,0,none⟩) hN (fun k hk=>hk.2.2.1) v1,yT hB (by omega),Qq h6 (p:=⟨g10,0,none⟩) (show g6≠g10 by omega) v1,qU D.b10 hg (fun he=>(D.row.1 g10 he.symm).2.2.1 rfl),h6⟩
def chOk (P:Nat→Prop) (w:World) (g6 g12 g13:Nat) (k:Nat):Prop:=((P k∧k<w.heap.size)∨w.heap.size≤k)∧k≠g6∧k≠g12∧k≠g13
structure Ch (P:Nat→Prop) (w:World) (g6 g12 g13:Nat) (v:Value) (r:List S56) (n:Int) (u3:Value) (W:World):Prop where
 bel:Below w.heap.size w W
 o0:w.heap.size≤g6
 o1:g6<g12
 o2:g12<g13
 b6:W.heap[g6]?=some (.cells #[.slice none 0 0] 25 (0,0))
 b12:W.heap[g12]?=some (.cells #[.int .i64 0,.bool false,.int .i64 1,u3,.slice none 0 0,.slice none 0 0,.int .i64 n,.string ⟨#[]⟩,.slice none 0 0,.slice none 0 0] 56 (0,0))
 b13:W.heap[g13]?=some (.cells #[v] 25 (0,0))
 row:Kd.N k56 56 W w.heap.size (chOk P w g6 g12 g13) v r
 lr:Kd.V (Kd.int .u32) 60 W 0 (fun k=>chOk P w g6 g12 g13 k∧some k≠v.ownBlock) u3 [wI 23 0 0 0]
theorem Ch.own (h:Ch P w g6 g12 g13 v r n u3 W):∀ k,W.heap.size≤k→chOk P w g6 g12 g13 k:=by
 intro k hk
 have h0:=h.o0
 have h1:=h.o1
 have h2:=h.o2
 have h3:=yx h.b13
 exact ⟨.inr (by omega),by omega,by omega,by omega⟩
theorem Ch.setn (h:Ch P w g6 g12 g13 v r n u3 W) (m:Int):Ch P w g6 g12 g13 v r m u3 (W.setCell ⟨g12,6,none⟩ (.int .i64 m)):=by
 have h0:=h.o0
 have h1:=h.o1
 have h2:=h.o2
 have hf:∀ k,k≠g12→(W.setCell ⟨g12,6,none⟩ (.int .i64 m)).heap[k]?=W.heap[k]?:=fun k hk=>Below.heap_setCell W ⟨g12,6,none⟩ _ k hk
 exact ⟨yT h.bel (by omega),h0,h1,h2,(hf _ (by omega)).trans h.b6,(yO h.b12 6 _).trans rfl,(hf _ (by omega)).trans h.b13,Kd.Qn h.row (fun k hk _=>hf k hk.2.2.1),Kd.XY h.lr (fun k hk _=>hf k hk.1.2.2.1)⟩
theorem Ch.app (h:Ch P w g6 g12 g13 v r n u3 W) {r1:List S56} (hN:Kd.N k56 56 W1 w.heap.size (chOk P w g6 g12 g13) v1 r1) (hB:Below w.heap.size w W1) (hg:W.grownBy W1 v.ownBlock) (hat:v1.ownBlock=v.ownBlock∨∃ b,v1.ownBlock=some b∧W.heap.size≤b) :
  Ch P w g6 g12 g13 v1 r1 n u3 (W1.setCell ⟨g13,0,none⟩ v1)∧W1.heap[g13]?=some (.cells #[v] 25 (0,0)):=by
 have h0:=h.o0
 have h1:=h.o1
 have h2:=h.o2
 have hf:∀ k,k≠g13→(W1.setCell ⟨g13,0,none⟩ v1).heap[k]?=W1.heap[k]?:=fun k hk=>Below.heap_setCell W1 ⟨g13,0,none⟩ v1 k hk
 have h13:=qU h.b13 hg (fun he=>(h.row.1 g13 he.symm).2.2.2 rfl)
 exact ⟨⟨yT hB (by omega),h0,h1,h2,(hf _ (by omega)).trans (qU h.b6 hg (fun he=>(h.row.1 g6 he.symm).2.1 rfl)),(hf _ (by omega)).trans (qU h.b12 hg (fun he=>(h.row.1 g12 he.symm).2.2.1 rfl)),xK h13 0 v1 rfl,Kd.Qn hN (fun k hk _=>hf k hk.2.2.2),Kd.XY (Kd.V_after h.lr hg hat) (fun k hk _=>hf k hk.1.2.2.2)⟩,h13⟩
theorem Ch.start (D:vw P w g6 g10 g11 g12 v l q v3 v4 v5 v8 v9 n u3 W) (hb:Below W.heap.size W W1) (hg:g13=W.heap.size) (h13:W1.heap[g13]?=some (.cells #[.slice none 0 0] 25 (0,0))):Ch P w g6 g12 g13 (.slice none 0 0) [] n u3 (W1.setCell ⟨g13,0,none⟩ (.slice none 0 0)):=by
 have h0:=D.o0
 have h1:=D.o1
 have h2:=D.o2
 have h3:=D.o3
 have s0:=D.bel.size
 have l12:=yx D.b12
 have hf:∀ k,k≠g13→(W1.setCell ⟨g13,0,none⟩ (.slice none 0 0)).heap[k]?=W1.heap[k]?:=fun k hk=>Below.heap_setCell W1 ⟨g13,0,none⟩ _ k hk
 refine ⟨yT (zI D.bel hb) (by omega),h0,by omega,by omega,(hf _ (by omega)).trans (yc D.b6 hb),(hf _ (by omega)).trans (yc D.b12 hb),xK h13 0 _ rfl,Kd.N_nil _ _ _ _ _,?_⟩
 exact Kd.XY (Kd.jo (Kd.jO (Kd.ZW D.lr) hb) (fun k hk=>⟨⟨hk.1.1.1,hk.1.1.2.1,hk.1.1.2.2.2.2,by have:=hk.2;omega⟩,by simp [Value.ownBlock]⟩)) (fun k hk _=>hf k hk.1.2.2.2)
end
theorem Ch.start2 {P:Nat→Prop} {w W W1 W2:World} {g6 g10 g11 g12 g13:Nat} {v v1:Value} {l r:List S56} {q:S56} {v3 v4 v5 v8 v9 u3:Value} {n:Int} (D:vw P w g6 g10 g11 g12 v l q v3 v4 v5 v8 v9 n u3 W) (hB:Below W.heap.size W W1) (hN:Kd.N k56 56 W1 W.heap.size (fun k=>W.heap.size≤k∨(spOk P w g6 g10 g11 g12 k∧k<W.heap.size)) v1 r) (hb:Below W1.heap.size W1 W2) (hg:g13=W1.heap.size) (h13:W2.heap[g13]?=some (.cells #[.slice none 0 0] 25 (0,0))):Ch P w g6 g12 g13 v1 r n u3 (W2.setCell ⟨g13,0,none⟩ v1):=by
 have h0:=D.o0
 have h1:=D.o1
 have h2:=D.o2
 have h3:=D.o3
 have s0:=D.bel.size
 have s1:=hB.size
 have l12:=yx D.b12
 have hf:∀ k,k≠g13→(W2.setCell ⟨g13,0,none⟩ v1).heap[k]?=W2.heap[k]?:=fun k hk=>Below.heap_setCell W2 ⟨g13,0,none⟩ _ k hk
 refine ⟨yT (zI (zI D.bel hB) hb) (by omega),h0,by omega,by omega,(hf _ (by omega)).trans (yc (yc D.b6 hB) hb),(hf _ (by omega)).trans (yc (yc D.b12 hB) hb),xK h13 0 _ rfl,?_,?_⟩
 ·refine Kd.Qn (w:=W2) (Kd.Zl (Kd.ZK (Kd.Jo (Kd.JW hN s0)) hb) (fun k hk=>?_)) (fun k hk _=>hf k hk.2.2.2)
  rcases hk.1 with h|h
  ·exact ⟨.inr (by omega),by omega,by omega,by have:=hk.2;omega⟩
  ·exact ⟨h.1.1,h.1.2.1,h.1.2.2.2.2,by have:=hk.2;omega⟩
 ·exact Kd.XY (Kd.jo (Kd.jO (Kd.jO (Kd.ZW D.lr) hB) hb) (fun k hk=>⟨⟨hk.1.1.1,hk.1.1.2.1,hk.1.1.2.2.2.2,by have:=hk.2;omega⟩,fun he=>by have:=Kd.N_base hN k he.symm;have:=hk.2;omega⟩)) (fun k hk _=>hf k hk.1.2.2.2)
def chL (N i:Nat):List S56:=if i<N then List.replicate i (ku 1) else List.replicate (N-1) (ku 1)++[ku 0]
theorem chL_zero {N:Nat} (h:0<N):chL N 0=[]:=by unfold chL;rw [if_pos h];rfl
theorem chL_lt {N i:Nat} (h:i+1<N):chL N (i+1)=chL N i++[ku 1]:=by
 unfold chL
 rw [if_pos h,if_pos (by omega),List.replicate_succ']
theorem chL_eq {N i:Nat} (h:i+1=N):chL N (i+1)=chL N i++[ku 0]:=by
 subst h
 unfold chL
 rw [if_neg (by omega),if_pos (by omega)]
 rfl
theorem chL_len {N i:Nat}:(chL N i).length≤N+i+1:=by
 unfold chL
 split <;> simp <;> omega
def spQ (a x:Int) (q:S56):S56 :=
 if a=0 then ⟨wrap64 (q.f2+x),q.f1,q.f2,q.f3,q.f4,q.f5,q.f6,q.f7,q.f8,q.f9⟩
 else if a=1 then ⟨q.f0,q.f1,wrap64 (251*x),q.f3,q.f4,q.f5,q.f6,q.f7,q.f8,q.f9⟩
 else if a=2 then ⟨q.f0,q.f1,q.f2,q.f3,q.f4,q.f5,wrap64 (wrap64 (q.f6+1)-wrap64 (2*x)),q.f7,q.f8,q.f9⟩
 else if a=3 then ⟨q.f0,q.f1,q.f2,[],q.f4,q.f5,q.f6,q.f7,q.f8,q.f9⟩
 else if a=4 then ⟨q.f0,q.f1,q.f2,List.replicate (2000+x).toNat 0,q.f4,q.f5,q.f6,q.f7,[],q.f9⟩
 else if a=5 then ⟨q.f0,q.f1,q.f2,q.f3,[(⟨3,wrap64 (1-x),qV (strOfNums [116]) (1000*x+x).toNat⟩:S67)]++q.f4,q.f5,q.f6,q.f7,q.f8,q.f9⟩
 else if a=6 then ⟨q.f0,q.f1,q.f2,q.f3,[(⟨wrap64 (4+x),0,⟨#[]⟩⟩:S67)]++q.f4,q.f5,q.f6,q.f7,q.f8,q.f9⟩
 else if a=7 then ⟨q.f0,q.f1,q.f2,q.f3,[(⟨1,2,⟨#[]⟩⟩:S67)]++q.f4,q.f5,q.f6,q.f7,q.f8,q.f9⟩
 else if a=8 then ⟨q.f0,q.f1,q.f2,q.f3,List.replicate (500+x).toNat (⟨0,0,⟨#[]⟩⟩:S67),q.f5,q.f6,q.f7,q.f8,q.f9⟩
 else if a=9 then ⟨q.f0,q.f1,q.f2,q.f3,q.f4,List.replicate (60+x).toNat (⟨false,0⟩:S71),q.f6,q.f7,q.f8,[]⟩
 else if a=10 then ⟨q.f0,q.f1,q.f2,q.f3,q.f4,[(⟨false,wrap64 (16777215+x)⟩:S71)]++q.f5,q.f6,q.f7,q.f8,[]⟩
 else if a=11 then ⟨q.f0,q.f1,q.f2,q.f3,q.f4,q.f5,q.f6,qV (strOfNums [110]) (1000+x).toNat,q.f8,q.f9⟩
 else if a=12 then ⟨q.f0,q.f1,q.f2,q.f3,q.f4,q.f5,q.f6,q.f7,[(5:Int)]++q.f8,q.f9⟩
 else if a=13 then ⟨q.f0,q.f1,q.f2,q.f3,q.f4,q.f5,q.f6,q.f7,(List.replicate q.f3.length (0:Int)).set 0 (wrap64 (16777215+x)),q.f9⟩
 else if a=14 then ⟨q.f0,q.f1,q.f2,q.f3,q.f4,q.f5,q.f6,q.f7,q.f8,[strOfNums [117]]++q.f9⟩
 else if a=15 then ⟨q.f0,q.f1,q.f2,q.f3,[(⟨0,x,⟨#[]⟩⟩:S67)]++q.f4,q.f5,q.f6,q.f7,q.f8,q.f9⟩
 else q
def spK (k:Int) (a x:Int) (q:S56):S56:=if a<k then spQ a x q else q
def inS (a at_ x:Int) (l:List S56):Prop:=0≤a∧a≤19∧0≤at_∧at_<(l.length:Int)∧0≤x∧x≤1∧l.length≤100000∧0<(zu l at_).f3.length∧(zu l at_).f3.length≤100000∧(zu l at_).f4.length≤100000∧(zu l at_).f5.length≤100000∧(zu l at_).f8.length≤100000∧(zu l at_).f9.length≤100000
instance (a at_ x:Int) (l:List S56):Decidable (inS a at_ x l):=by unfold inS;infer_instance
def jg (a at_ x:Int) (l:List S56):List S56 :=
 if a<16 then l.set at_.toNat (spQ a x (zu l at_))
 else if a=16 then []
 else if a=17 then List.replicate (63+x).toNat (ku 1)++[ku 0]
 else if a=18 then ku (199+x)::List.replicate (199+x).toNat (ku 0)
 else l++[ku 0]
def yE.f (k:Nat) (l0:List Int) (a1:Int) (l2_0:List S56):Option (List S56) :=
 (zx.f k l0 a1 20).bind fun ta=>(zx.f k l0 ta.2 (l2_0.length:Int)).bind fun tb=>(zx.f k l0 tb.2 2).bind fun tx=>(yG.f k l2_0).bind fun l =>
  if inS ta.1 tb.1 tx.1 l then some (jg ta.1 tb.1 tx.1 l) else none
theorem Z7 {k:Nat} {l0:List Int} {a1:Int} {l2 r:List S56} (h:yE.f k l0 a1 l2=some r) :
  ∃ a p1 b p2 x p3 l,zx.f k l0 a1 20=some (a,p1)∧zx.f k l0 p1 (l2.length:Int)=some (b,p2)∧zx.f k l0 p2 2=some (x,p3)∧yG.f k l2=some l∧inS a b x l∧r=jg a b x l:=by
 unfold yE.f at h
 obtain ⟨⟨a,p1⟩,h1,h⟩:=Option.bind_eq_some_iff.1 h
 obtain ⟨⟨b,p2⟩,h2,h⟩:=Option.bind_eq_some_iff.1 h
 obtain ⟨⟨x,p3⟩,h3,h⟩:=Option.bind_eq_some_iff.1 h
 obtain ⟨l,h4,h⟩:=Option.bind_eq_some_iff.1 h
 dsimp only at h2 h3 h4 h
 split at h
 case isFalse=>cases h
 case isTrue hg=>exact ⟨a,p1,b,p2,x,p3,l,h1,h2,h3,h4,hg,(Option.some.inj h).symm⟩
def yE.T20:Bool×List (List Nat×List Nat):=(true,[([],[]),([0],[0]),([],[]),([2],[2]),([],[]),([3,4],[3,4]),([5],[5]),([1,6],[1,6]),([7],[7]),([],[]),([9],[9]),([8,10,6],[8,10]),([0,1,2,3,4,5,6,7,8,9,10,11],[]),([12,11,11,0,1,2,3,4,5,6,7,8,9,10,11],[11,12])])
def yE.B20:List Nat:=[0,1,0,4,0,28,60,127,255,0,512,2047,4095,8191]
theorem yE.tab20:Qh .any (opsOf Tryz.f16 20)=yE.T20:=by kernel_rfl
theorem yE.bits20:vN yE.T20.2 yE.B20=true:=by kernel_rfl
end Go.Proofs.YtiekodnojmkfaaaGreatDoor.yD
