import Derived.RangeFuncNested
import Derived.RangeFuncBound
import Derived.RangeFuncCalls
import Derived.RangeFuncLeaves
import Derived.RangeFuncFrom
namespace Go.Proofs.YtiekodnojmkfaaaGreatDoorRange
open Go.RowKit
def SeqB {α:Type} (F:Fence) (n:Nat) (P:Program) (g:Nat) (bd:Array Value) (encs:α→Array Value) (Kp:World→World→Prop) (S Sp:List α→Prop) (N:Nat) (w:World):Prop :=
 ∀ (l:Nat) (J Jx:List α→World→Prop) (W:World),Below w.heap.size w W→AbidesFrom W.heap.size J→AbidesFrom W.heap.size Jx →
  (∀ pre x W1,J pre W1→pre.length<N→YieldAt F (n-1) P l (encs x) W1 fun e W' =>
   (e=.returned (.bool true)∧J (pre++[x]) W'∧Kp W1 W')∨(e=.returned (.bool false)∧Jx (pre++[x]) W')) →
  J [] W→CallsIn F n P g (bd++#[.func (.yield l) #[] #[]]) W fun e W'=>(∃ v,e=.returned v)∧((∃ xs,S xs∧J xs W')∨(∃ pre,Sp pre∧Jx pre W'))
variable {F:Fence} {n:Nat} {P:Program}
def rcd (fn:FuncId) (a:Act) (ps:Array Tmp) (assign body:Code) (w:World) (st:LoopState) (pe:Option Code):Loop :=
 { state:=st,pending:=pe,fn,tmps:=a.tmps,params:=ps,assign,body,defers:=w.heap.size }
theorem range_bound {α:Type} {g:Operand} {ps:Array Tmp} {assign body:Code} {Q:Exit→Act→World→Prop} {a:Act} {w:World}
  (hro:F.round=none) (h1:1≤n) {gf:Nat} {bd:Array Value} (hg:a.eval g=.func (.func gf) bd #[]) (hFg:F.fn gf) (eg:∀ args w,(callFunc gf args).run P w=.ok (.enter gf args) w)
  {encs:α→Array Value} {Kp:World→World→Prop} {S Sp:List α→Prop} {N:Nat} {w0:World} (hseq:SeqB F (n-1) P gf bd encs Kp S Sp N w0)
  (hKt:∀ {A B C:World},Kp A B→Kp B C→Kp A C) (hKb:∀ (W:World) (l:Nat) (o o':Obj),w.heap.size≤l→W.heap[l]?=some o→o.isCells=false→o.isWalk=false→Kp W (W.putObj l o'))
  (hb0:Below w0.heap.size w0 w) (hps:∀ x,(encs x).size=ps.size)
  (I:List α→World→Prop) (Ix:Code→List α→World→Prop) (hI:OwnFrom w.heap.size I) (hIx:∀ c,OwnFrom w.heap.size (Ix c)) (h0:I [] w) (a₁:α→Act)
  (hassign:∀ (l:Nat) (x:α) (W:World) (K:Act→World→Prop),K (a₁ x) W →
   assign.wpIn (F.inRound l) (n-1-1) P (Exit.then K (fun _ _ _=>False)) { tmps:=(ps.zip (encs x)).foldl (fun t (p,v)=>t.setIfInBounds p v) a.tmps,defers:=[] } W)
  (hbody:∀ (l:Nat) (pre:List α) (x:α) (W:World),I pre W→pre.length<N→body.wpIn (F.inRound l) (n-1-1) P (ownPostK Kp I Ix (pre++[x]) W) (a₁ x) W)
  (hdone:∀ (D:Nat) (xs:List α) (W:World),w.heap.size≤D→S xs→I xs W→W.heap[D]?=some (.deferred (some []))→Q .normal { a with defers:={ target:=.collected D,args:=#[] }::a.defers } W)
  (hstop:∀ (D:Nat) (c:Code) (pre:List α) (W:World),w.heap.size≤D→Sp pre→Ix c pre W→W.heap[D]?=some (.deferred (some []))→c.wpIn F n P Q { a with defers:={ target:=.collected D,args:=#[] }::a.defers } W) :
  (Code.rangeFunc g ps assign body).wpIn F n P Q a w:=by
 refine wpIn_rangeFunc fun fn hfn=>?_
 rw [hro]
 let B:=w.heap.size
 let rc:=rcd fn a ps assign body w
 let W1:=(w.alloc (.deferred (some []))).alloc (.loop (rc .ready none))
 have hs1:W1.heap.size=B+2:=by simp [W1,B]
 have hL1:W1.heap[B+1]?=some (.loop (rc .ready none)):=by
  have:=World.alloc_heap_new (w.alloc (.deferred (some []))) (.loop (rc .ready none))
  rwa [World.size_alloc] at this
 have hK1:W1.heap[B]?=some (.deferred (some [])):=(Below.heap_alloc _ _ _ (by simp [B])).trans (World.alloc_heap_new w _)
 have hI1:I [] W1:=hI.alloc _ (hI.alloc _ h0)
 have hb1:Below w0.heap.size w0 W1:=hb0.trans ((((Below.refl _ w).alloc (Nat.le_refl _) _).alloc (by simp) _).mono hb0.size)
 -- what stands in the two blocks of the loop
 let Two:=fun (st:LoopState) (pe:Option Code) (W:World)=>W.heap[B+1]?=some (.loop (rc st pe))∧W.heap[B]?=some (.deferred (some []))
 have two_keeps:∀ {st pe} {A C:World} {row:Option Nat},Two st pe A→A.grownBy C row→(∀ r,row=some r→W1.heap.size≤r∧∃ o:Obj,A.heap[r]?=some o∧o.isWalk=true)→Two st pe C:=by
  intro st pe A C row h hgr hr
  exact ⟨(grownBy_keeps hgr (fun r e=>(hr r e).2) h.1 rfl).trans h.1,(grownBy_keeps hgr (fun r e=>(hr r e).2) h.2 rfl).trans h.2⟩
 have rows:∀ {A:World} {row:Option Nat},(∀ r,row=some r→W1.heap.size≤r∧∃ o:Obj,A.heap[r]?=some o∧o.isWalk=true)→∀ r,row=some r→w.heap.size≤r∧∃ o:Obj,A.heap[r]?=some o∧o.isCells=false:=by
  intro A row hr r e
  obtain ⟨hB,o,ho,hw⟩:=hr r e
  exact ⟨by rw [hs1] at hB;omega,o,ho,Obj.not_cells_of_walk hw⟩
 -- a turn of the loop's own record
 have turn:∀ {st pe st' pe'} {W:World},Two st pe W→Two st' pe' (W.putObj (B+1) (.loop (rc st' pe'))):=by
  intro st pe st' pe' W h
  exact ⟨World.putObj_heap_same (Array.getElem?_eq_some_iff.1 h.1).1,(World.putObj_heap_other (by omega)).trans h.2⟩
 refine ⟨B+1,[{ target:=.collected B,args:=#[] }],W1,{ target:=.fn (.func gf) #[],args:=bd++#[.func (.yield (B+1)) #[] #[]] },W1,gf,
  bd++#[.func (.yield (B+1)) #[] #[]],W1,run_enterLoop_outer _ _ _ _ _,?_,?_,?_,fun _=>h1,?_⟩
 ·simp only [resolve,hg]
  simp [go_sem]
 ·intro f' hf'
  simp [Target.leads] at hf'
  subst hf'
  exact hFg
 ·simp [invoke,go_sem,eg]
 refine (hseq (B+1) (fun pre W=>I pre W∧Two .ready none W) (fun pre W=>∃ c,Ix c pre W∧Two .done (some c) W) W1 hb1 ?_ ?_ ?_ ⟨hI1,hL1,hK1⟩).mono ?_
 ·exact fun s A C row hs hgr hr=>⟨hI s A C row hs.1 hgr (rows hr),two_keeps hs.2 hgr hr⟩
 ·rintro s A C row ⟨c,hc,ht⟩ hgr hr
  exact ⟨c,hIx c s A C row hc hgr (rows hr),two_keeps ht hgr hr⟩
 ·rintro pre x W ⟨hi,ht⟩ hlen
  refine ⟨fn,_,assign,body,run_yield (P:=P) (args:=encs x) ht.1 (hps x),roundIn_of_wpIn hfn (hassign _ x W _ ⟨_,run_beginRound ht.1 rfl,?_⟩)⟩
  have tb:Two .busy none (W.putObj (B+1) (.loop (rc .busy none))):=turn ht
  have kb:Kp W (W.putObj (B+1) (.loop (rc .busy none))):=hKb _ _ _ _ (by omega) ht.1 rfl rfl
  refine wpIn_mono (hbody _ pre x _ (hI.putObj _ hi (by omega) ht.1 rfl) hlen) ?_
  have keep:∀ W3,KeepsOthers (W.putObj (B+1) (.loop (rc .busy none))) W3→Two .busy none W3:=fun W3 hk=>⟨hk.same _ _ tb.1 rfl,hk.same _ _ tb.2 rfl⟩
  have leave:∀ (c:Code) (W3:World),KeepsOthers (W.putObj (B+1) (.loop (rc .busy none))) W3→Ix c (pre++[x]) W3 →
    ∃ v W4,(Instr.endRound (B+1) (some c)).run P W3=.ok v W4∧v=.bool false∧∃ c,Ix c (pre++[x]) W4∧Two .done (some c) W4:=fun c W3 hk hx =>
   ⟨_,_,run_endRound (some c) (keep W3 hk).1,rfl,c,(hIx c).putObj _ hx (by omega) (keep W3 hk).1 rfl,turn (keep W3 hk)⟩
  rintro e a3 W3 hp
  cases e with
  | normal =>
   obtain ⟨hk3,hkp3,hi3⟩:=hp
   have t3:=keep W3 hk3
   exact ⟨_,_,run_endRound none t3.1,.inl ⟨rfl,⟨hI.putObj _ hi3 (by omega) t3.1 rfl,turn t3⟩,hKt (hKt kb hkp3) (hKb _ _ _ _ (by omega) t3.1 rfl rfl)⟩⟩
  | ret=>obtain ⟨v,W4,hr,rfl,hx⟩:=leave .ret W3 hp.1 hp.2;exact ⟨_,_,hr,.inr ⟨rfl,hx⟩⟩
  | exit id=>obtain ⟨v,W4,hr,rfl,hx⟩:=leave (.exit id) W3 hp.1 hp.2;exact ⟨_,_,hr,.inr ⟨rfl,hx⟩⟩
  | goto t=>obtain ⟨v,W4,hr,rfl,hx⟩:=leave (.goto t) W3 hp.1 hp.2;exact ⟨_,_,hr,.inr ⟨rfl,hx⟩⟩
  | panic ch=>exact hp.elim
  | outgrown=>exact hp.elim
 ·rintro e W2 ⟨⟨v,rfl⟩,(⟨xs,hS,hi,ht⟩|⟨pre,hSp,c,hx,ht⟩)⟩
  ·exact ⟨none,_,run_endLoop ht.1 (by simp [rc,rcd]),hdone _ xs _ (Nat.le_refl _) hS (hI.putObj _ hi (by omega) ht.1 rfl) ((World.putObj_heap_other (by omega)).trans ht.2)⟩
  ·exact ⟨some c,_,run_endLoop ht.1 (by simp [rc,rcd]),hstop _ c pre _ (Nat.le_refl _) hSp ((hIx c).putObj _ hx (by omega) ht.1 rfl) ((World.putObj_heap_other (by omega)).trans ht.2)⟩
end Go.Proofs.YtiekodnojmkfaaaGreatDoorRange
