/- The marks of a law on a chunk of its own (laws.markProtoS, laws.markChunk), and the law FnExactStrip walked on its straight ways. -/
import Derived.Test.YtiekodnojmkfaaaPFnExactStripx1
import Derived.Test.YtiekodnojmkfaaaPFnExactStripx2
import Derived.Test.YtiekodnojmkfaaaPFnExactStripx3
import Derived.Test.YtiekodnojmkfaaaPFnExactStripx4
import Derived.Test.YtiekodnojmkfaaaPFnExactStripx5
import Derived.Test.YtiekodnojmkfaaaPFnExactStripx6
import Derived.Test.YtiekodnojmkfaaaPFnExactStripx7
import Derived.Test.YtiekodnojmkfaaaPFnExactStripx8
import Derived.Test.YtiekodnojmkfaaaPFnExactStripx9
import Derived.Test.YtiekodnojmkfaaaPFnExactStripx10
import Derived.Test.YtiekodnojmkfaaaPFnExactStripx11
import Derived.Test.YtiekodnojmkfaaaPFnExactStripx12
import Derived.Test.YtiekodnojmkfaaaPFnExactStripx13
import Derived.Test.YtiekodnojmkfaaaPFnExactStripx14
import Derived.Test.YtiekodnojmkfaaaPFnExactStripx15
import Derived.Test.YtiekodnojmkfaaaWApart
import Derived.Test.YtiekodnojmkfaaaWKept
namespace Go.Proofs.Ytiekodnojmkfaaa.PFnExactStrip
open Go.RowKit Go.Proofs.YtiekodnojmkfaaaW.PrintWords Go.Proofs.YtiekodnojmkfaaaW.PrintLast Go.Proofs.YtiekodnojmkfaaaW.PrintMore
attribute [local go_sem] max2_int min2_int max_two min_two max_three min_three max_four min_four
set_option linter.unusedVariables false
set_option linter.unusedSimpArgs false

/-! An element that is lent for a round of marks: its cells, its five rows, and the row of prototypes without it. -/
theorem R_other {α β:Type} {d:Kd α} {d':Kd β} {e e':Nat} {W w1:World} {base:Nat} {oki oku:Nat→Prop} {v u:Value} {xs:List α} {ys:List β} (hE:d.E=[]) (h:d.R e W base oki v xs) (h':d'.R e' W base oku u ys) (hne:e≠e') (hk:Kept W w1 (fun k=>some k=u.ownBlock)):d.R e w1 base oki v xs :=
 Kd.R_mono (Kd.R_step (Kd.R_tight hE h) (fun k hk0 hlt=>hk.2 k hlt (fun he=>by
  obtain ⟨c1,h1⟩:=Kd.R_typed h k hk0.symm
  obtain ⟨c2,h2⟩:=Kd.R_typed h' k he.symm
  rw [h1] at h2
  injection h2 with h2
  injection h2 with _ h2
  exact hne h2))) (fun k hk0=>h.1 k hk0.symm)
theorem R_again {α:Type} {d:Kd α} {e:Nat} {W w1:World} {base:Nat} {oki oku:Nat→Prop} {v:Value} {xs ys:List α} (hE:d.E=[]) (h:d.R e W base oki v xs) (h':d.R e w1 base oku v ys):d.R e w1 base oki v ys :=
 Kd.R_mono (Kd.R_tight hE h') (fun k hk0=>h.1 k hk0.symm)
structure El (w0 w:World) (P0:Nat→Prop) (W:World) (g n cap:Nat) (xs:List S44) (m:Nat) (x:S44) (oki:Nat→Prop) (v3 v4 v5 v8 v9:Value):Prop where
 hH:Kd.H k44 44 W w0.heap.size P0 (.slice (some ⟨g,0,none⟩) n cap) xs (m:Int) oki [.int .i64 x.f0,.bool x.f1,.int .i64 x.f2,v3,v4,v5,.int .i64 x.f6,.string x.f7,v8,v9]
 lt:m<n
 base:w0.heap.size≤g
 own:P0 g
 far:∀ k,oki k→k≠g
 h3:Kd.R (Kd.int .u32) 78 W w0.heap.size oki v3 x.f3
 h4:Kd.R k85 85 W w0.heap.size oki v4 x.f4
 h5:Kd.R k89 89 W w0.heap.size oki v5 x.f5
 h8:Kd.R (Kd.int .i64) 3 W w0.heap.size oki v8 x.f8
 h9:Kd.R Kd.string 9 W w0.heap.size oki v9 x.f9
 hB:Below w0.heap.size w0 W
 hK:Kept w W P0
section
variable {w0 w W w1:World} {P0:Nat→Prop} {g n cap:Nat} {xs:List S44} {m:Nat} {x:S44} {oki:Nat→Prop} {v3 v4 v5 v8 v9:Value}
theorem El_open (h:Kd.S k44 44 W w0.heap.size P0 (.slice (some ⟨g,0,none⟩) n cap) xs) (hm:m<n) (hx:xs[m]?=some x) (hB:Below w0.heap.size w0 W) (hK:Kept w W P0):∃ oki v3 v4 v5 v8 v9,El w0 w P0 W g n cap xs m x oki v3 v4 v5 v8 v9:=by
 obtain ⟨oki,c,hcl,hM,hcc,hfr,hok,hH⟩:=Kd.S_elem h z44 (m:Int) (by omega) (by omega)
 have hg:(Value.slice (some ⟨g,0,none⟩) n cap).ownBlock=some g:=rfl
 have hx':xs.getD (m:Int).toNat z44=x:=by rw [List.getD_eq_getElem?_getD,Int.toNat_natCast,hx];rfl
 rw [hx'] at hM
 obtain ⟨v3,v4,v5,v8,v9,rfl,h3,h4,h5,h8,h9⟩:=k44_openM hM
 exact ⟨oki,v3,v4,v5,v8,v9,hH,hm,Kd.S_base h g hg,(Kd.S_R h).1 g hg,fun k hk=>(hok k hk).2,h3,h4,h5,h8,h9,hB,hK⟩
theorem El_close (h:El w0 w P0 W g n cap xs m x oki v3 v4 v5 v8 v9):Kd.S k44 44 W w0.heap.size P0 (.slice (some ⟨g,0,none⟩) n cap) (xs.set m x) :=
 Kd.H_back h.hH (k44_mkM W _ oki x h.h3 h.h4 h.h5 h.h8 h.h9) (fun _ hk=>hk)
theorem El_cells (h:El w0 w P0 W g n cap xs m x oki v3 v4 v5 v8 v9):W.cell? ⟨g,m*10,none⟩=some (.int .i64 x.f0)∧W.cell? ⟨g,m*10+1,none⟩=some (.bool x.f1)∧W.cell? ⟨g,m*10+2,none⟩=some (.int .i64 x.f2)∧W.cell? ⟨g,m*10+3,none⟩=some v3∧W.cell? ⟨g,m*10+4,none⟩=some v4∧W.cell? ⟨g,m*10+5,none⟩=some v5∧W.cell? ⟨g,m*10+6,none⟩=some (.int .i64 x.f6)∧W.cell? ⟨g,m*10+7,none⟩=some (.string x.f7)∧W.cell? ⟨g,m*10+8,none⟩=some v8∧W.cell? ⟨g,m*10+9,none⟩=some v9∧W.frozen? ⟨g,m*10,none⟩=false∧W.frozen? ⟨g,m*10+1,none⟩=false∧W.frozen? ⟨g,m*10+2,none⟩=false∧W.frozen? ⟨g,m*10+3,none⟩=false∧W.frozen? ⟨g,m*10+4,none⟩=false∧W.frozen? ⟨g,m*10+5,none⟩=false∧W.frozen? ⟨g,m*10+6,none⟩=false∧W.frozen? ⟨g,m*10+7,none⟩=false∧W.frozen? ⟨g,m*10+8,none⟩=false∧W.frozen? ⟨g,m*10+9,none⟩=false:=by
 obtain ⟨rows,_,hraw,_,_,hcc,_⟩:=Kd.H_raw h.hH (by omega) (by have:=h.lt;omega)
 obtain ⟨_,_,_,_,hfr⟩:=Kd.R_elem hraw [] (m:Int) (by omega) (by have:=h.lt;omega)
 exact ⟨hcc 0 _ rfl,hcc 1 _ rfl,hcc 2 _ rfl,hcc 3 _ rfl,hcc 4 _ rfl,hcc 5 _ rfl,hcc 6 _ rfl,hcc 7 _ rfl,hcc 8 _ rfl,hcc 9 _ rfl,hfr 0,hfr 1,hfr 2,hfr 3,hfr 4,hfr 5,hfr 6,hfr 7,hfr 8,hfr 9⟩
theorem El_below (h:El w0 w P0 W g n cap xs m x oki v3 v4 v5 v8 v9) (hb:Below W.heap.size W w1):El w0 w P0 w1 g n cap xs m x oki v3 v4 v5 v8 v9 :=
 ⟨Kd.H_below h.hH hb,h.lt,h.base,h.own,h.far,Kd.R_below h.h3 hb,Kd.R_below h.h4 hb,Kd.R_below h.h5 hb,Kd.R_below h.h8 hb,Kd.R_below h.h9 hb,below_step h.hB hb,Kept.below h.hK hb⟩
theorem El_set0 (h:El w0 w P0 W g n cap xs m x oki v3 v4 v5 v8 v9) (a:Int):El w0 w P0 (W.setCell ⟨g,m*10,none⟩ (.int .i64 a)) g n cap xs m (⟨a,x.f1,x.f2,x.f3,x.f4,x.f5,x.f6,x.f7,x.f8,x.f9⟩:S44) oki v3 v4 v5 v8 v9:=by
 have hH:=(Kd.H_seg h.hH (by omega) (by have:=h.lt;omega) (seg:=[.int .i64 a]) (j:=0) (by show 1≤10;decide) (by intro q hq;rw [List.mem_singleton] at hq;rw [hq];rfl)).1
 have hf:∀ k,oki k→k<W.heap.size→(W.setCell ⟨g,m*10,none⟩ (.int .i64 a)).heap[k]?=W.heap[k]?:=fun k hk _=>Below.heap_setCell W _ _ k (h.far k hk)
 exact ⟨hH,h.lt,h.base,h.own,h.far,Kd.R_step h.h3 hf,Kd.R_step h.h4 hf,Kd.R_step h.h5 hf,Kd.R_step h.h8 hf,Kd.R_step h.h9 hf,below_set h.hB h.base,Kept.setCell h.hK (.inl h.own) _⟩
theorem El_set1 (h:El w0 w P0 W g n cap xs m x oki v3 v4 v5 v8 v9) (a:Bool):El w0 w P0 (W.setCell ⟨g,m*10+1,none⟩ (.bool a)) g n cap xs m (⟨x.f0,a,x.f2,x.f3,x.f4,x.f5,x.f6,x.f7,x.f8,x.f9⟩:S44) oki v3 v4 v5 v8 v9:=by
 have hH:=(Kd.H_seg h.hH (by omega) (by have:=h.lt;omega) (seg:=[.bool a]) (j:=1) (by show 2≤10;decide) (by intro q hq;rw [List.mem_singleton] at hq;rw [hq];rfl)).1
 have hf:∀ k,oki k→k<W.heap.size→(W.setCell ⟨g,m*10+1,none⟩ (.bool a)).heap[k]?=W.heap[k]?:=fun k hk _=>Below.heap_setCell W _ _ k (h.far k hk)
 exact ⟨hH,h.lt,h.base,h.own,h.far,Kd.R_step h.h3 hf,Kd.R_step h.h4 hf,Kd.R_step h.h5 hf,Kd.R_step h.h8 hf,Kd.R_step h.h9 hf,below_set h.hB h.base,Kept.setCell h.hK (.inl h.own) _⟩
theorem El_set2 (h:El w0 w P0 W g n cap xs m x oki v3 v4 v5 v8 v9) (a:Int):El w0 w P0 (W.setCell ⟨g,m*10+2,none⟩ (.int .i64 a)) g n cap xs m (⟨x.f0,x.f1,a,x.f3,x.f4,x.f5,x.f6,x.f7,x.f8,x.f9⟩:S44) oki v3 v4 v5 v8 v9:=by
 have hH:=(Kd.H_seg h.hH (by omega) (by have:=h.lt;omega) (seg:=[.int .i64 a]) (j:=2) (by show 3≤10;decide) (by intro q hq;rw [List.mem_singleton] at hq;rw [hq];rfl)).1
 have hf:∀ k,oki k→k<W.heap.size→(W.setCell ⟨g,m*10+2,none⟩ (.int .i64 a)).heap[k]?=W.heap[k]?:=fun k hk _=>Below.heap_setCell W _ _ k (h.far k hk)
 exact ⟨hH,h.lt,h.base,h.own,h.far,Kd.R_step h.h3 hf,Kd.R_step h.h4 hf,Kd.R_step h.h5 hf,Kd.R_step h.h8 hf,Kd.R_step h.h9 hf,below_set h.hB h.base,Kept.setCell h.hK (.inl h.own) _⟩
theorem El_set6 (h:El w0 w P0 W g n cap xs m x oki v3 v4 v5 v8 v9) (a:Int):El w0 w P0 (W.setCell ⟨g,m*10+6,none⟩ (.int .i64 a)) g n cap xs m (⟨x.f0,x.f1,x.f2,x.f3,x.f4,x.f5,a,x.f7,x.f8,x.f9⟩:S44) oki v3 v4 v5 v8 v9:=by
 have hH:=(Kd.H_seg h.hH (by omega) (by have:=h.lt;omega) (seg:=[.int .i64 a]) (j:=6) (by show 7≤10;decide) (by intro q hq;rw [List.mem_singleton] at hq;rw [hq];rfl)).1
 have hf:∀ k,oki k→k<W.heap.size→(W.setCell ⟨g,m*10+6,none⟩ (.int .i64 a)).heap[k]?=W.heap[k]?:=fun k hk _=>Below.heap_setCell W _ _ k (h.far k hk)
 exact ⟨hH,h.lt,h.base,h.own,h.far,Kd.R_step h.h3 hf,Kd.R_step h.h4 hf,Kd.R_step h.h5 hf,Kd.R_step h.h8 hf,Kd.R_step h.h9 hf,below_set h.hB h.base,Kept.setCell h.hK (.inl h.own) _⟩
theorem El_set7 (h:El w0 w P0 W g n cap xs m x oki v3 v4 v5 v8 v9) (a:ByteArray):El w0 w P0 (W.setCell ⟨g,m*10+7,none⟩ (.string a)) g n cap xs m (⟨x.f0,x.f1,x.f2,x.f3,x.f4,x.f5,x.f6,a,x.f8,x.f9⟩:S44) oki v3 v4 v5 v8 v9:=by
 have hH:=(Kd.H_seg h.hH (by omega) (by have:=h.lt;omega) (seg:=[.string a]) (j:=7) (by show 8≤10;decide) (by intro q hq;rw [List.mem_singleton] at hq;rw [hq];rfl)).1
 have hf:∀ k,oki k→k<W.heap.size→(W.setCell ⟨g,m*10+7,none⟩ (.string a)).heap[k]?=W.heap[k]?:=fun k hk _=>Below.heap_setCell W _ _ k (h.far k hk)
 exact ⟨hH,h.lt,h.base,h.own,h.far,Kd.R_step h.h3 hf,Kd.R_step h.h4 hf,Kd.R_step h.h5 hf,Kd.R_step h.h8 hf,Kd.R_step h.h9 hf,below_set h.hB h.base,Kept.setCell h.hK (.inl h.own) _⟩
theorem El_row3 (h:El w0 w P0 W g n cap xs m x oki v3 v4 v5 v8 v9) {oku:Nat→Prop} {l:List Int} (hr:Kd.R (Kd.int .u32) 78 w1 w0.heap.size oku v3 l) (hb:Below w0.heap.size w0 w1) (hk:Kept W w1 (fun k=>some k=v3.ownBlock)):El w0 w P0 w1 g n cap xs m (⟨x.f0,x.f1,x.f2,l,x.f4,x.f5,x.f6,x.f7,x.f8,x.f9⟩:S44) oki v3 v4 v5 v8 v9 :=
 ⟨Kd.H_step h.hH (fun k _ hn hlt=>hk.2 k hlt (fun he=>hn (h.h3.1 k he.symm))),h.lt,h.base,h.own,h.far,R_again rfl h.h3 hr,R_other rfl h.h4 h.h3 (by decide) hk,R_other rfl h.h5 h.h3 (by decide) hk,R_other rfl h.h8 h.h3 (by decide) hk,R_other rfl h.h9 h.h3 (by decide) hk,hb,Kept.then_ h.hK hk (fun k he=>.inl (h.hH.1 k (h.h3.1 k he.symm)))⟩
theorem El_row4 (h:El w0 w P0 W g n cap xs m x oki v3 v4 v5 v8 v9) {oku:Nat→Prop} {l:List S85} (hr:Kd.R k85 85 w1 w0.heap.size oku v4 l) (hb:Below w0.heap.size w0 w1) (hk:Kept W w1 (fun k=>some k=v4.ownBlock)):El w0 w P0 w1 g n cap xs m (⟨x.f0,x.f1,x.f2,x.f3,l,x.f5,x.f6,x.f7,x.f8,x.f9⟩:S44) oki v3 v4 v5 v8 v9 :=
 ⟨Kd.H_step h.hH (fun k _ hn hlt=>hk.2 k hlt (fun he=>hn (h.h4.1 k he.symm))),h.lt,h.base,h.own,h.far,R_other rfl h.h3 h.h4 (by decide) hk,R_again rfl h.h4 hr,R_other rfl h.h5 h.h4 (by decide) hk,R_other rfl h.h8 h.h4 (by decide) hk,R_other rfl h.h9 h.h4 (by decide) hk,hb,Kept.then_ h.hK hk (fun k he=>.inl (h.hH.1 k (h.h4.1 k he.symm)))⟩
theorem El_row5 (h:El w0 w P0 W g n cap xs m x oki v3 v4 v5 v8 v9) {oku:Nat→Prop} {l:List S89} (hr:Kd.R k89 89 w1 w0.heap.size oku v5 l) (hb:Below w0.heap.size w0 w1) (hk:Kept W w1 (fun k=>some k=v5.ownBlock)):El w0 w P0 w1 g n cap xs m (⟨x.f0,x.f1,x.f2,x.f3,x.f4,l,x.f6,x.f7,x.f8,x.f9⟩:S44) oki v3 v4 v5 v8 v9 :=
 ⟨Kd.H_step h.hH (fun k _ hn hlt=>hk.2 k hlt (fun he=>hn (h.h5.1 k he.symm))),h.lt,h.base,h.own,h.far,R_other rfl h.h3 h.h5 (by decide) hk,R_other rfl h.h4 h.h5 (by decide) hk,R_again rfl h.h5 hr,R_other rfl h.h8 h.h5 (by decide) hk,R_other rfl h.h9 h.h5 (by decide) hk,hb,Kept.then_ h.hK hk (fun k he=>.inl (h.hH.1 k (h.h5.1 k he.symm)))⟩
theorem El_row8 (h:El w0 w P0 W g n cap xs m x oki v3 v4 v5 v8 v9) {oku:Nat→Prop} {l:List Int} (hr:Kd.R (Kd.int .i64) 3 w1 w0.heap.size oku v8 l) (hb:Below w0.heap.size w0 w1) (hk:Kept W w1 (fun k=>some k=v8.ownBlock)):El w0 w P0 w1 g n cap xs m (⟨x.f0,x.f1,x.f2,x.f3,x.f4,x.f5,x.f6,x.f7,l,x.f9⟩:S44) oki v3 v4 v5 v8 v9 :=
 ⟨Kd.H_step h.hH (fun k _ hn hlt=>hk.2 k hlt (fun he=>hn (h.h8.1 k he.symm))),h.lt,h.base,h.own,h.far,R_other rfl h.h3 h.h8 (by decide) hk,R_other rfl h.h4 h.h8 (by decide) hk,R_other rfl h.h5 h.h8 (by decide) hk,R_again rfl h.h8 hr,R_other rfl h.h9 h.h8 (by decide) hk,hb,Kept.then_ h.hK hk (fun k he=>.inl (h.hH.1 k (h.h8.1 k he.symm)))⟩
theorem El_row9 (h:El w0 w P0 W g n cap xs m x oki v3 v4 v5 v8 v9) {oku:Nat→Prop} {l:List ByteArray} (hr:Kd.R Kd.string 9 w1 w0.heap.size oku v9 l) (hb:Below w0.heap.size w0 w1) (hk:Kept W w1 (fun k=>some k=v9.ownBlock)):El w0 w P0 w1 g n cap xs m (⟨x.f0,x.f1,x.f2,x.f3,x.f4,x.f5,x.f6,x.f7,x.f8,l⟩:S44) oki v3 v4 v5 v8 v9 :=
 ⟨Kd.H_step h.hH (fun k _ hn hlt=>hk.2 k hlt (fun he=>hn (h.h9.1 k he.symm))),h.lt,h.base,h.own,h.far,R_other rfl h.h3 h.h9 (by decide) hk,R_other rfl h.h4 h.h9 (by decide) hk,R_other rfl h.h5 h.h9 (by decide) hk,R_other rfl h.h8 h.h9 (by decide) hk,R_again rfl h.h9 hr,hb,Kept.then_ h.hK hk (fun k he=>.inl (h.hH.1 k (h.h9.1 k he.symm)))⟩
end

/-- What the marks make of one prototype. -/
def markProto (k:Nat) (x:S44) (a:Int):Option (Int×S44) :=
 (laws_markUint32S.f k x.f3 (wrap64 (wrap64 (wrap64 (a+1)+1)+1))).bind fun p3 =>
 (laws_markValueS.f k x.f4 p3.1).bind fun p4 =>
 (laws_markUpS.f k x.f5 p4.1).bind fun p5 =>
 (laws_markText.f k (wrap64 (p5.1+1))).bind fun t7 =>
 (laws_markIntS.f k x.f8 (wrap64 (wrap64 (p5.1+1)+1))).bind fun p8 =>
 (laws_markStringS.f k x.f9 p8.1).bind fun p9 =>
 some (p9.1,(⟨a,decide (Int.tmod (wrap64 (a+1)) 3=0),wrap64 (wrap64 (a+1)+1),p3.2,p4.2,p5.2,p5.1,t7,p8.2,p9.2⟩:S44))
/-- And of a row of them. -/
def laws_markProtoS.f (k:Nat):List S44→Int→Option (Int×List S44)
 | [],a=>some (a,[])
 | x::t,a=>(markProto k x a).bind fun p=>(laws_markProtoS.f k t p.1).bind fun q=>some (q.1,p.2::q.2)
theorem markProto_some {k:Nat} {x:S44} {a r:Int} {y:S44} (h:markProto k x a=some (r,y)):∃ b3 l3 b4 l4 b5 l5 t7 b8 l8 l9,
  laws_markUint32S.f k x.f3 (wrap64 (wrap64 (wrap64 (a+1)+1)+1))=some (b3,l3)∧laws_markValueS.f k x.f4 b3=some (b4,l4)∧laws_markUpS.f k x.f5 b4=some (b5,l5)∧laws_markText.f k (wrap64 (b5+1))=some t7 ∧
  laws_markIntS.f k x.f8 (wrap64 (wrap64 (b5+1)+1))=some (b8,l8)∧laws_markStringS.f k x.f9 b8=some (r,l9) ∧
  y=(⟨a,decide (Int.tmod (wrap64 (a+1)) 3=0),wrap64 (wrap64 (a+1)+1),l3,l4,l5,b5,t7,l8,l9⟩:S44):=by
 unfold markProto at h
 obtain ⟨⟨b3,l3⟩,h3,h⟩:=Option.bind_eq_some_iff.mp h
 obtain ⟨⟨b4,l4⟩,h4,h⟩:=Option.bind_eq_some_iff.mp h
 obtain ⟨⟨b5,l5⟩,h5,h⟩:=Option.bind_eq_some_iff.mp h
 obtain ⟨t7,h7,h⟩:=Option.bind_eq_some_iff.mp h
 obtain ⟨⟨b8,l8⟩,h8,h⟩:=Option.bind_eq_some_iff.mp h
 obtain ⟨⟨b9,l9⟩,h9,h⟩:=Option.bind_eq_some_iff.mp h
 simp only [Option.some.injEq,Prod.mk.injEq] at h
 obtain ⟨rfl,rfl⟩:=h
 exact ⟨b3,l3,b4,l4,b5,l5,t7,b8,l8,l9,h3,h4,h5,h7,h8,h9,rfl⟩
theorem markL_cons {k:Nat} {x:S44} {t:List S44} {a r1:Int} {r2:List S44} (h:laws_markProtoS.f k (x::t) a=some (r1,r2)):∃ b y t',markProto k x a=some (b,y)∧laws_markProtoS.f k t b=some (r1,t')∧r2=y::t':=by
 unfold laws_markProtoS.f at h
 obtain ⟨⟨b,y⟩,h1,h⟩:=Option.bind_eq_some_iff.mp h
 obtain ⟨⟨c,t'⟩,h2,h⟩:=Option.bind_eq_some_iff.mp h
 simp only [Option.some.injEq,Prod.mk.injEq] at h
 obtain ⟨rfl,rfl⟩:=h
 exact ⟨b,y,t',h1,h2,rfl⟩
theorem set_done {done t:List S44} {x y:S44}:(done++x::t).set done.length y=(done++[y])++t:=by simp
theorem wrap_small {n:Nat} (h:n≤9223372036854775806):wrap64 ((n:Int)+1)=((n+1:Nat):Int):=by
 unfold wrap64;omega

set_option maxHeartbeats 8000000 in
set_option maxRecDepth 100000 in
theorem laws_markProtoS.calls (k:Nat) (P0_:Nat→Prop) (u9000_:Value) (l0:List (S44)) (a1:Int) (r1:Int) (r2:List (S44)) (w0 w:World) (hB:Below w0.heap.size w0 w) (ho0:Kd.S k44 44 w w0.heap.size P0_ u9000_ l0) (h:laws_markProtoS.f k l0 a1=some (r1,r2)) :
  Calls Try.prog 52 #[u9000_,.int .i64 a1] w fun e w'=>e=.returned (.int .i64 r1)∧Kd.S k44 44 w' w0.heap.size P0_ u9000_ r2∧Below w0.heap.size w0 w'∧Kept w w' P0_:=by
 obtain ⟨A,cp,rfl⟩:=Kd.S_slice ho0
 have hl:=(Kd.S_reads' ho0).2.2.2.1
 have HL:=Aside0.mk hl
 have HO:=Aside0.mk ho0
 have HK:=Aside0.mk (Kept.refl w P0_)
 have HB:=Aside0.mk hB
 have HM:=Aside0.mk h
 clear hB ho0 h hl
 have hu44:=Try.underlying44
 go_enter Try.func52,Try.ntmps52
 go_wp2
 go_loopg [1,5] l0.length (fun kq q1 q5 w'=>∃ (done rest rest':List S44) (a:Int),q1=.int .i64 a∧q5=.int .i64 (done.length:Int)∧Aside0 (kq=rest.length)∧Aside0 ((done++rest).length=l0.length)∧Aside0 (laws_markProtoS.f k rest a=some (r1,rest'))∧Aside0 (r2=done++rest')∧Aside0 (Kd.S k44 44 w' w0.heap.size P0_ (.slice A l0.length cp) (done++rest))∧Aside0 (Kept w w' P0_)∧Aside0 (Below w0.heap.size w0 w'))
 case atStart=>exact ⟨[],l0,r2,a1,rfl,rfl,⟨rfl⟩,⟨rfl⟩,HM,⟨rfl⟩,HO,HK,HB⟩
 case round =>
  clear HM HO HK HB
  obtain ⟨done,rest,rest',a,rfl,rfl,HQ,HN,HM,HR,HO,HK,HB⟩:=hrel
  rcases rest with _|⟨x,t⟩
  ·have hd:done.length=l0.length:=by have:=HN.out;simpa using this
   have hc:decide ((done.length:Int)<(l0.length:Int))=false:=decide_eq_false (by omega)
   have hc2:((done.length:Int)<(l0.length:Int))=False:=eq_false (by omega)
   have hc3:(done.length<l0.length)=False:=eq_false (by omega)
   clear hd
   obtain ⟨e1,e2⟩:a=r1∧rest'=[]:=by
    have:=HM.out
    simp only [laws_markProtoS.f,Option.some.injEq,Prod.mk.injEq] at this
    exact ⟨this.1,this.2.symm⟩
   subst e1
   have HO':Kd.S k44 44 wr w0.heap.size P0_ (.slice A l0.length cp) r2:=by
    rw [HR.out,e2];exact HO.out
   have HO:=Aside0.mk HO'
   clear HO' e2
   go_wp2
   go_ret
   exact ⟨by first|rfl|(simp;done),HO.out,HB.out,HK.out⟩
  ·obtain ⟨b,y,t',hM1,hM2,hM3⟩:=markL_cons HM.out
   obtain ⟨b3,l3,b4,l4,b5,l5,t7,b8,l8,l9,m3,m4,m5,m7,m8,m9,hy⟩:=markProto_some hM1
   have HN':=HN.out
   rw [List.length_append,List.length_cons] at HN'
   obtain ⟨m,hm⟩:∃ m,m=done.length:=⟨_,rfl⟩
   obtain ⟨g,cap,eo,gb,gl,gc⟩:=Kd.S_form HO.out (by rw [List.length_append,List.length_cons];omega)
   injection eo with ea en ec
   subst ea
   have HS:Kd.S k44 44 wr w0.heap.size P0_ (.slice (some ⟨g,0,none⟩) l0.length cp) (done++x::t):=HO.out
   obtain ⟨oki,v3,v4,v5,v8,v9,hE⟩:=El_open (m:=m) (x:=x) HS (by omega) (by rw [hm,List.getElem?_append_right (Nat.le_refl _),Nat.sub_self];rfl) HB.out HK.out
   have HE:=Aside0.mk hE
   obtain ⟨hx0,hx1,hx2,hx3,hx4,hx5,hx6,hx7,hx8,hx9,hf0,hf1,hf2,hf3,hf4,hf5,hf6,hf7,hf8,hf9⟩:=El_cells HE.out
   have hc:decide ((done.length:Int)<(l0.length:Int))=true:=decide_eq_true (by omega)
   have hc2:((done.length:Int)<(l0.length:Int))=True:=eq_true (by omega)
   have hc3:(done.length<l0.length)=True:=eq_true (by omega)
   have M3:=Aside0.mk m3
   have M4:=Aside0.mk m4
   have M5:=Aside0.mk m5
   have M7:=Aside0.mk m7
   have M8:=Aside0.mk m8
   have M9:=Aside0.mk m9
   have HY:=Aside0.mk hy
   have HM2:=Aside0.mk hM2
   have HM3:=Aside0.mk hM3
   have HNm:=Aside0.mk hm
   clear hM1 hM2 hM3 m3 m4 m5 m7 m8 m9 hy hE HO HB HK HS HM en ec gc gb gl
   rw [← hm] at hc hc2 hc3 ⊢
   have h0m:(0≤(m:Int))=True:=eq_true (by omega)
   clear HN' hm
   go_wp2_with (first|((with_reducible refine gate_store (t:=3) (p:=16) rfl ?_);refine store_event (t:=3) (p:=16) (v:=?vo_wq1) (w1:=(wr.setCell ⟨g,m*10,none⟩ (.int .i64 a))) ?hg ?ho ?hn ?hr ?_;(case ho=>rfl);(case hg=>rfl);(case hn=>rfl);(case hr=>first|(go_simp;done)|(go_simp;rfl));intro wq1 hw;have n0_:=Aside0.mk (show El w0 w P0_ wq1 g _ _ _ m _ _ _ _ _ _ _ from hw ▸ El_set0 HE.out a);clear hw;clear HE hx0 hx1 hx2 hx3 hx4 hx5 hx6 hx7 hx8 hx9 hf0 hf1 hf2 hf3 hf4 hf5 hf6 hf7 hf8 hf9;have HE:=n0_;clear n0_;obtain ⟨hx0,hx1,hx2,hx3,hx4,hx5,hx6,hx7,hx8,hx9,hf0,hf1,hf2,hf3,hf4,hf5,hf6,hf7,hf8,hf9⟩:=El_cells HE.out)|((with_reducible refine gate_store (t:=4) (p:=25) rfl ?_);refine store_event (t:=4) (p:=25) (v:=?vo_wq2) (w1:=(wq1.setCell ⟨g,m*10+1,none⟩ (.bool (decide (Int.tmod (wrap64 (a+1)) 3=0))))) ?hg ?ho ?hn ?hr ?_;(case ho=>rfl);(case hg=>rfl);(case hn=>rfl);(case hr=>first|(go_simp;done)|(go_simp;rfl));intro wq2 hw;have n0_:=Aside0.mk (show El w0 w P0_ wq2 g _ _ _ m _ _ _ _ _ _ _ from hw ▸ El_set1 HE.out (decide (Int.tmod (wrap64 (a+1)) 3=0)));clear hw;clear HE hx0 hx1 hx2 hx3 hx4 hx5 hx6 hx7 hx8 hx9 hf0 hf1 hf2 hf3 hf4 hf5 hf6 hf7 hf8 hf9;have HE:=n0_;clear n0_;obtain ⟨hx0,hx1,hx2,hx3,hx4,hx5,hx6,hx7,hx8,hx9,hf0,hf1,hf2,hf3,hf4,hf5,hf6,hf7,hf8,hf9⟩:=El_cells HE.out)|((with_reducible refine gate_store (t:=3) (p:=32) rfl ?_);refine store_event (t:=3) (p:=32) (v:=?vo_wq3) (w1:=(wq2.setCell ⟨g,m*10+2,none⟩ (.int .i64 (wrap64 (wrap64 (a+1)+1))))) ?hg ?ho ?hn ?hr ?_;(case ho=>rfl);(case hg=>rfl);(case hn=>rfl);(case hr=>first|(go_simp;done)|(go_simp;rfl));intro wq3 hw;have n0_:=Aside0.mk (show El w0 w P0_ wq3 g _ _ _ m _ _ _ _ _ _ _ from hw ▸ El_set2 HE.out (wrap64 (wrap64 (a+1)+1)));clear hw;clear HE hx0 hx1 hx2 hx3 hx4 hx5 hx6 hx7 hx8 hx9 hf0 hf1 hf2 hf3 hf4 hf5 hf6 hf7 hf8 hf9;have HE:=n0_;clear n0_;obtain ⟨hx0,hx1,hx2,hx3,hx4,hx5,hx6,hx7,hx8,hx9,hf0,hf1,hf2,hf3,hf4,hf5,hf6,hf7,hf8,hf9⟩:=El_cells HE.out)|((with_reducible refine gate_callee (f:=87) rfl ?_);refine goesL_ (some 41) rfl rfl Try.func87 (by kernel_rfl) rfl #[v3,.int .i64 (wrap64 (wrap64 (wrap64 (a+1)+1)+1))] rfl (by (try simp only [List.map_toArray,List.map_cons,List.map_nil]);first|done|rfl|(simp only [List.length_drop,List.length_take];rfl)) ?_;(with_reducible refine (laws_markUint32S.calls k (fun k_=>some k_=v3.ownBlock) v3 _ (wrap64 (wrap64 (wrap64 (a+1)+1)+1)) _ _ w0 _ HE.out.hB (Kd.R_tight rfl HE.out.h3) M3.out).mono ?_);rintro e wq4 ⟨rfl,ho_,hb,hk⟩;refine ⟨_,rfl,?_⟩;have n0_:=Aside0.mk (show El w0 w P0_ wq4 g _ _ _ m _ _ _ _ _ _ _ from El_row3 HE.out ho_ hb hk);clear ho_ hb hk;clear HE hx0 hx1 hx2 hx3 hx4 hx5 hx6 hx7 hx8 hx9 hf0 hf1 hf2 hf3 hf4 hf5 hf6 hf7 hf8 hf9;have HE:=n0_;clear n0_;obtain ⟨hx0,hx1,hx2,hx3,hx4,hx5,hx6,hx7,hx8,hx9,hf0,hf1,hf2,hf3,hf4,hf5,hf6,hf7,hf8,hf9⟩:=El_cells HE.out)|((with_reducible refine gate_callee (f:=88) rfl ?_);refine goesL_ (some 48) rfl rfl Try.func88 (by kernel_rfl) rfl #[v4,.int .i64 (b3)] rfl (by (try simp only [List.map_toArray,List.map_cons,List.map_nil]);first|done|rfl|(simp only [List.length_drop,List.length_take];rfl)) ?_;(with_reducible refine (laws_markValueS.calls k (fun k_=>some k_=v4.ownBlock) v4 _ (b3) _ _ w0 _ HE.out.hB (Kd.R_tight rfl HE.out.h4) M4.out).mono ?_);rintro e wq5 ⟨rfl,ho_,hb,hk⟩;refine ⟨_,rfl,?_⟩;have n0_:=Aside0.mk (show El w0 w P0_ wq5 g _ _ _ m _ _ _ _ _ _ _ from El_row4 HE.out ho_ hb hk);clear ho_ hb hk;clear HE hx0 hx1 hx2 hx3 hx4 hx5 hx6 hx7 hx8 hx9 hf0 hf1 hf2 hf3 hf4 hf5 hf6 hf7 hf8 hf9;have HE:=n0_;clear n0_;obtain ⟨hx0,hx1,hx2,hx3,hx4,hx5,hx6,hx7,hx8,hx9,hf0,hf1,hf2,hf3,hf4,hf5,hf6,hf7,hf8,hf9⟩:=El_cells HE.out)|((with_reducible refine gate_callee (f:=89) rfl ?_);refine goesL_ (some 55) rfl rfl Try.func89 (by kernel_rfl) rfl #[v5,.int .i64 (b4)] rfl (by (try simp only [List.map_toArray,List.map_cons,List.map_nil]);first|done|rfl|(simp only [List.length_drop,List.length_take];rfl)) ?_;(with_reducible refine (laws_markUpS.calls k (fun k_=>some k_=v5.ownBlock) v5 _ (b4) _ _ w0 _ HE.out.hB (Kd.R_tight rfl HE.out.h5) M5.out).mono ?_);rintro e wq6 ⟨rfl,ho_,hb,hk⟩;refine ⟨_,rfl,?_⟩;have n0_:=Aside0.mk (show El w0 w P0_ wq6 g _ _ _ m _ _ _ _ _ _ _ from El_row5 HE.out ho_ hb hk);clear ho_ hb hk;clear HE hx0 hx1 hx2 hx3 hx4 hx5 hx6 hx7 hx8 hx9 hf0 hf1 hf2 hf3 hf4 hf5 hf6 hf7 hf8 hf9;have HE:=n0_;clear n0_;obtain ⟨hx0,hx1,hx2,hx3,hx4,hx5,hx6,hx7,hx8,hx9,hf0,hf1,hf2,hf3,hf4,hf5,hf6,hf7,hf8,hf9⟩:=El_cells HE.out)|((with_reducible refine gate_store (t:=3) (p:=60) rfl ?_);refine store_event (t:=3) (p:=60) (v:=?vo_wq7) (w1:=(wq6.setCell ⟨g,m*10+6,none⟩ (.int .i64 b5))) ?hg ?ho ?hn ?hr ?_;(case ho=>rfl);(case hg=>rfl);(case hn=>rfl);(case hr=>first|(go_simp;done)|(go_simp;rfl));intro wq7 hw;have n0_:=Aside0.mk (show El w0 w P0_ wq7 g _ _ _ m _ _ _ _ _ _ _ from hw ▸ El_set6 HE.out b5);clear hw;clear HE hx0 hx1 hx2 hx3 hx4 hx5 hx6 hx7 hx8 hx9 hf0 hf1 hf2 hf3 hf4 hf5 hf6 hf7 hf8 hf9;have HE:=n0_;clear n0_;obtain ⟨hx0,hx1,hx2,hx3,hx4,hx5,hx6,hx7,hx8,hx9,hf0,hf1,hf2,hf3,hf4,hf5,hf6,hf7,hf8,hf9⟩:=El_cells HE.out)|((with_reducible refine gate_callee (f:=90) rfl ?_);refine goesL_ (some 66) rfl rfl Try.func90 (by kernel_rfl) rfl #[.int .i64 (wrap64 (b5+1))] rfl (by (try simp only [List.map_toArray,List.map_cons,List.map_nil]);first|done|rfl) ?_;(with_reducible refine (laws_markText.calls k (wrap64 (b5+1)) t7 _ M7.out).mono ?_);rintro e wq8 ⟨rfl,hb⟩;refine ⟨_,rfl,?_⟩;have n0_:=Aside0.mk (show El w0 w P0_ wq8 g _ _ _ m _ _ _ _ _ _ _ from El_below HE.out hb);clear hb;clear HE hx0 hx1 hx2 hx3 hx4 hx5 hx6 hx7 hx8 hx9 hf0 hf1 hf2 hf3 hf4 hf5 hf6 hf7 hf8 hf9;have HE:=n0_;clear n0_;obtain ⟨hx0,hx1,hx2,hx3,hx4,hx5,hx6,hx7,hx8,hx9,hf0,hf1,hf2,hf3,hf4,hf5,hf6,hf7,hf8,hf9⟩:=El_cells HE.out)|((with_reducible refine gate_store (t:=9) (p:=68) rfl ?_);refine store_event (t:=9) (p:=68) (v:=?vo_wq9) (w1:=(wq8.setCell ⟨g,m*10+7,none⟩ (.string t7))) ?hg ?ho ?hn ?hr ?_;(case ho=>rfl);(case hg=>rfl);(case hn=>rfl);(case hr=>first|(go_simp;done)|(go_simp;rfl));intro wq9 hw;have n0_:=Aside0.mk (show El w0 w P0_ wq9 g _ _ _ m _ _ _ _ _ _ _ from hw ▸ El_set7 HE.out t7);clear hw;clear HE hx0 hx1 hx2 hx3 hx4 hx5 hx6 hx7 hx8 hx9 hf0 hf1 hf2 hf3 hf4 hf5 hf6 hf7 hf8 hf9;have HE:=n0_;clear n0_;obtain ⟨hx0,hx1,hx2,hx3,hx4,hx5,hx6,hx7,hx8,hx9,hf0,hf1,hf2,hf3,hf4,hf5,hf6,hf7,hf8,hf9⟩:=El_cells HE.out)|((with_reducible refine gate_callee (f:=91) rfl ?_);refine goesL_ (some 77) rfl rfl Try.func91 (by kernel_rfl) rfl #[v8,.int .i64 (wrap64 (wrap64 (b5+1)+1))] rfl (by (try simp only [List.map_toArray,List.map_cons,List.map_nil]);first|done|rfl|(simp only [List.length_drop,List.length_take];rfl)) ?_;(with_reducible refine (laws_markIntS.calls k (fun k_=>some k_=v8.ownBlock) v8 _ (wrap64 (wrap64 (b5+1)+1)) _ _ w0 _ HE.out.hB (Kd.R_tight rfl HE.out.h8) M8.out).mono ?_);rintro e wq10 ⟨rfl,ho_,hb,hk⟩;refine ⟨_,rfl,?_⟩;have n0_:=Aside0.mk (show El w0 w P0_ wq10 g _ _ _ m _ _ _ _ _ _ _ from El_row8 HE.out ho_ hb hk);clear ho_ hb hk;clear HE hx0 hx1 hx2 hx3 hx4 hx5 hx6 hx7 hx8 hx9 hf0 hf1 hf2 hf3 hf4 hf5 hf6 hf7 hf8 hf9;have HE:=n0_;clear n0_;obtain ⟨hx0,hx1,hx2,hx3,hx4,hx5,hx6,hx7,hx8,hx9,hf0,hf1,hf2,hf3,hf4,hf5,hf6,hf7,hf8,hf9⟩:=El_cells HE.out)|((with_reducible refine gate_callee (f:=92) rfl ?_);refine goesL_ (some 84) rfl rfl Try.func92 (by kernel_rfl) rfl #[v9,.int .i64 (b8)] rfl (by (try simp only [List.map_toArray,List.map_cons,List.map_nil]);first|done|rfl|(simp only [List.length_drop,List.length_take];rfl)) ?_;(with_reducible refine (laws_markStringS.calls k (fun k_=>some k_=v9.ownBlock) v9 _ (b8) _ _ w0 _ HE.out.hB (Kd.R_tight rfl HE.out.h9) M9.out).mono ?_);rintro e wq11 ⟨rfl,ho_,hb,hk⟩;refine ⟨_,rfl,?_⟩;have n0_:=Aside0.mk (show El w0 w P0_ wq11 g _ _ _ m _ _ _ _ _ _ _ from El_row9 HE.out ho_ hb hk);clear ho_ hb hk;clear HE hx0 hx1 hx2 hx3 hx4 hx5 hx6 hx7 hx8 hx9 hf0 hf1 hf2 hf3 hf4 hf5 hf6 hf7 hf8 hf9;have HE:=n0_;clear n0_;obtain ⟨hx0,hx1,hx2,hx3,hx4,hx5,hx6,hx7,hx8,hx9,hf0,hf1,hf2,hf3,hf4,hf5,hf6,hf7,hf8,hf9⟩:=El_cells HE.out))
   go_roundg t.length
   case measure=>have:=HQ.out;simp only [List.length_cons] at this;omega
   case rel=>exact ⟨done++[y],t,t',b,rfl,by have h1:=HL.out;have h2:=HN.out;simp only [List.length_append,List.length_cons] at h2;first|(rw [List.length_append,List.length_singleton,← HNm.out,← wrap_small (n:=m) (by have:=HNm.out;omega)];done)|(rw [List.length_append,List.length_singleton,← HNm.out,← wrap_small (n:=m) (by have:=HNm.out;omega)];rfl),⟨rfl⟩,⟨by have:=HN.out;simp at this ⊢;omega⟩,HM2,⟨by rw [HR.out,HM3.out];simp⟩,⟨by have:=El_close HE.out;rw [HNm.out,set_done] at this;rw [HY.out];exact this⟩,⟨HE.out.hK⟩,⟨HE.out.hB⟩⟩

set_option maxHeartbeats 1000000 in
theorem laws_markChunk.calls (k:Nat) (P0_:Nat→Prop) (u:Value) (l0:List (S44)) (a1:Int) (r1:Int) (r2:List (S44)) (w0 w:World) (hB:Below w0.heap.size w0 w) (ho0:Kd.S k44 44 w w0.heap.size P0_ u l0) (h:laws_markProtoS.f k l0 a1=some (r1,r2)) :
  Calls Try.prog 20 #[.agg #[u],.int .i64 a1] w fun e w'=>e=.returned (.int .i64 r1)∧Kd.S k44 44 w' w0.heap.size P0_ u r2∧Below w0.heap.size w0 w'∧Kept w w' P0_:=by
 have hu29:=Try.underlying29
 obtain ⟨A,c,rfl⟩:=Kd.S_slice ho0
 have HO:=Aside0.mk ho0
 have HB:=Aside0.mk hB
 have HM:=Aside0.mk h
 have HK:=Aside0.mk (Kept.refl w P0_)
 clear ho0 hB h
 go_enter Try.func20,Try.ntmps20
 go_wp2_with (first
  | ((with_reducible refine gate_dst (N:=2) rfl ?_);refine box_event ?hg (N:=2) ?hd (cs:=#[.slice A l0.length c]) (t:=29) ?hr ?_;(case hd=>rfl);(case hg=>rfl);(case hr=>first|(go_simp;done)|(go_simp;rfl));intro gb hg w1 hbox hb;have n0_:=Aside0.mk (Kd.S_below HO.out hb);have n1_:=Aside0.mk (below_step HB.out hb);have n2_:=Aside0.mk (Kept.below HK.out hb);clear HO HB HK;have HO:=n0_;have HB:=n1_;have HK:=n2_;clear n0_ n1_ n2_;have hcz:w1.cell? ⟨gb,0,none⟩=some (.slice A l0.length c):=(blk_cell hbox 0).trans rfl;clear hb hbox hg)
  | ((with_reducible refine gate_callee (f:=52) rfl ?_);refine goesL_ (some 8) rfl rfl Try.func52 (by kernel_rfl) rfl #[.slice A l0.length c,.int .i64 a1] rfl (by (try simp only [List.map_toArray,List.map_cons,List.map_nil]);first|done|rfl|(simp only [List.length_drop,List.length_take];rfl)) ?_;(with_reducible refine (laws_markProtoS.calls k P0_ _ l0 a1 r1 r2 w0 _ HB.out HO.out HM.out).mono ?_);rintro e w2 ⟨rfl,ho_,hb,hk⟩;refine ⟨_,rfl,?_⟩;have n0_:=Aside0.mk ho_;have n1_:=Aside0.mk hb;have n2_:=Aside0.mk (Kept.then_ HK.out hk (fun _ h=>.inl h));clear HO HB HK;have HO:=n0_;have HB:=n1_;have HK:=n2_;clear n0_ n1_ n2_ ho_ hb hk hcz))
 go_ret
 exact ⟨by first|rfl|(simp;done),HO.out,HB.out,HK.out⟩
/-- A variable that holds a chunk of the law's own: its box, its prototypes; o: their blocks. -/
structure Held (w W:World) (g:Nat) (v:Value) (o:Nat→Prop) (l:List S44):Prop where
 box:W.heap[g]?=some (.cells #[v] 29 (0,0))
 row:Kd.S k44 44 W w.heap.size o v l
 lt:∀ k,o k→k<W.heap.size
section
variable {w W W0 W1 W2:World} {g g':Nat} {v u z:Value} {o oX:Nat→Prop} {l l':List S44}
theorem Held.below (h:Held w W g v o l) (hb:Below W.heap.size W W1):Held w W1 g v o l :=
 ⟨(hb.block g (blk_lt h.box)).trans h.box,Kd.S_below h.row hb,fun k hk=>Nat.lt_of_lt_of_le (h.lt k hk) hb.size⟩
theorem Held.kept (h:Held w W g v o l) (hk:Kept W W1 oX) (hd:∀ k,o k→¬ oX k) (hg:¬ oX g):Held w W1 g v o l :=
 ⟨(hk.2 g (blk_lt h.box) hg).trans h.box,Kd.S_step h.row (fun k ho hlt=>hk.2 k hlt (hd k ho)),fun k ho=>Nat.lt_of_lt_of_le (h.lt k ho) hk.1⟩
theorem Held.marked (h:Held w W g v o l) (hk:Kept W W1 o) (hg:¬ o g) (hs:Kd.S k44 44 W1 w.heap.size o v l'):Held w W1 g v o l' :=
 ⟨(hk.2 g (blk_lt h.box) hg).trans h.box,hs,fun k ho=>Nat.lt_of_lt_of_le (h.lt k ho) hk.1⟩
theorem Held.made (h:Held w W1 g' v o l) (hg:g=W1.heap.size) (hb:Below W1.heap.size W1 W2):Held w (W2.setCell ⟨g,0,none⟩ u) g' v o l:=by
 have h1:=blk_lt h.box
 refine ⟨(Below.heap_setCell W2 _ u g' (by show g'≠g;omega)).trans ((hb.block g' h1).trans h.box),?_,fun k hk=>?_⟩
 ·exact Kd.S_step h.row (fun k ho hlt=>(Below.heap_setCell W2 _ u k (by show k≠g;omega)).trans (hb.block k hlt))
 ·have:=h.lt k hk
  have h2:=hb.size
  have h3:(W2.setCell ⟨g,0,none⟩ u).heap.size=W2.heap.size:=by simp
  omega
theorem Held.new (h0:w.heap.size≤W0.heap.size) (ho:Kd.S k44 44 W1 W0.heap.size (fun _=>True) v l) (hb1:Below W0.heap.size W0 W1) (hg:g=W1.heap.size) (hbox:W2.heap[g]?=some (.cells #[z] 29 (0,0))) (hb2:Below W1.heap.size W1 W2) :
  ∃ o,Held w (W2.setCell ⟨g,0,none⟩ v) g v o l∧∀ k,o k→W0.heap.size≤k∧k<g:=by
 have hS:Kd.S k44 44 W1 W0.heap.size (fun k=>W0.heap.size≤k∧k<g) v l:=Kd.S_mono (Kd.S_bound ho) (fun k hk=>⟨hk.2.1,by rw [hg];exact hk.2.2.1⟩)
 have hgl:=blk_lt hbox
 refine ⟨fun k=>W0.heap.size≤k∧k<g,⟨?_,?_,fun k hk=>?_⟩,fun k hk=>hk⟩
 ·exact blk_put (cs:=#[z]) hbox 0 v rfl
 ·exact Kd.S_lower (Kd.S_step hS (fun k hk hlt=>(Below.heap_setCell W2 _ v k (by show k≠g;omega)).trans (hb2.block k hlt))) h0
 ·have h3:(W2.setCell ⟨g,0,none⟩ v).heap.size=W2.heap.size:=by simp
  omega
theorem heap_made (h:W1.heap[g']?=some (.cells #[z] 24 (0,0))) (hg:g=W1.heap.size) (hb:Below W1.heap.size W1 W2):(W2.setCell ⟨g,0,none⟩ u).heap[g']?=some (.cells #[z] 24 (0,0)):=by
 have h1:=blk_lt h
 exact (Below.heap_setCell W2 _ u g' (by show g'≠g;omega)).trans ((hb.block g' h1).trans h)
theorem below_made (h:Below w.heap.size w W1) (hg:g=W1.heap.size) (hb:Below W1.heap.size W1 W2):Below w.heap.size w (W2.setCell ⟨g,0,none⟩ u) :=
 below_set (below_step h hb) (by have:=h.size;omega)
end

set_option maxHeartbeats 8000000 in
set_option maxRecDepth 100000 in
theorem laws_FnExactStrip.neg (k:Nat) (A:Option Addr) (c:Nat) (l0:List (S101)) (t:Int) (w:World) (hr:Kd.C k101 w A l0.length l0) (hc:l0.length≤c) (f0:laws_szChunk.f k l0 1048576=some t) (ht:t<0) :
  Calls Try.prog 7 #[.agg #[.slice A l0.length c]] w fun e w'=>e=.returned (.bool true)∧Below w.heap.size w w':=by
 have hu24:=Try.underlying24
 have hu29:=Try.underlying29
 have HR:=Aside0.mk hr
 have HC:=Aside0.mk hc
 have HB:=Aside0.mk (Below.refl w.heap.size w)
 have F0:=Aside0.mk f0
 clear hr hc f0
 have c0:decide (t<0)=true:=decide_eq_true ht
 have c1:(t<0)=True:=eq_true ht
 clear ht
 go_enter Try.func7,Try.ntmps7
 go_wp2_with (first
  | ((with_reducible refine gate_dst (N:=1) rfl ?_);refine box_event ?hg (N:=1) ?hd (cs:=#[.slice A l0.length c]) (t:=24) ?hr ?_;(case hd=>rfl);(case hg=>rfl);(case hr=>first|(go_simp;done)|(go_simp;rfl));intro gA hg wx1 hbox hb;have n0_:=Aside0.mk (below_step HB.out hb);clear HB;have HB:=n0_;clear n0_;have n0_:=Aside0.mk (hbox);have HA:=n0_;clear n0_;clear hg hb hbox;have hcA:wx1.cell? ⟨gA,0,none⟩=some (.slice A l0.length c):=(blk_cell HA.out 0).trans rfl)
  | ((with_reducible refine gate_callee (f:=8) rfl ?_);refine goesL_ (some 13) rfl rfl Try.func8 (by kernel_rfl) rfl #[.agg #[.slice A l0.length c],.int .i64 1048576] rfl (by (try simp only [List.map_toArray,List.map_cons,List.map_nil]);first|done|rfl|(simp only [List.length_drop,List.length_take];rfl)) ?_;(with_reducible refine (laws_szChunk.calls k _ _ l0 1048576 t _ (Kd.C_below HR.out HB.out) HC.out F0.out).mono ?_);rintro e wx2 ⟨rfl,hb⟩;refine ⟨_,rfl,?_⟩;clear hcA;have n0_:=Aside0.mk (below_step HB.out hb);have n1_:=Aside0.mk (blk_below HA.out hb);clear HB HA;have HB:=n0_;have HA:=n1_;clear n0_ n1_;clear hb;have hcA:wx2.cell? ⟨gA,0,none⟩=some (.slice A l0.length c):=(blk_cell HA.out 0).trans rfl))
 go_ret
 exact ⟨by first|rfl|(simp;done),HB.out⟩

set_option maxHeartbeats 8000000 in
set_option maxRecDepth 100000 in
theorem laws_FnExactStrip.pos (k:Nat) (A:Option Addr) (c:Nat) (l0:List (S101)) (t:Int) (L R L' R':List S44) (a b:Int) (w:World) (hr:Kd.C k101 w A l0.length l0) (hc:l0.length≤c) (f0:laws_szChunk.f k l0 1048576=some t) (ht:¬ t<0) (f1:laws_toChunk.f k l0=some L) (f2:spec_Strip.f k L=some R) (f3:impl_Strip.f k L=some R) (f4:laws_eqChunk.f k R R=some true) (f5:laws_eqChunk.f k L L=some true) (f6:laws_markProtoS.f k L 1=some (a,L')) (ha:¬ a<0) (f7:laws_markProtoS.f k R 1=some (b,R')) (f8:laws_heldChunk.f k R' 1=some b) (hb:¬ b<0) (hL:L'.length=L.length) (hR:R'.length=R.length) :
  Calls Try.prog 7 #[.agg #[.slice A l0.length c]] w fun e w'=>e=.returned (.bool true)∧Below w.heap.size w w':=by
 have hu24:=Try.underlying24
 have hu29:=Try.underlying29
 have HR:=Aside0.mk hr
 have HC:=Aside0.mk hc
 have HB:=Aside0.mk (Below.refl w.heap.size w)
 have F0:=Aside0.mk f0
 clear hr hc f0
 have F1:=Aside0.mk f1
 clear f1
 have F2:=Aside0.mk f2
 clear f2
 have F3:=Aside0.mk f3
 clear f3
 have F4:=Aside0.mk f4
 clear f4
 have F5:=Aside0.mk f5
 clear f5
 have F6:=Aside0.mk f6
 clear f6
 have F7:=Aside0.mk f7
 clear f7
 have F8:=Aside0.mk f8
 clear f8
 have ct0:decide (t<0)=false:=decide_eq_false ht
 have ct1:(t<0)=False:=eq_false ht
 clear ht
 have ca0:decide (a<0)=false:=decide_eq_false ha
 have ca1:(a<0)=False:=eq_false ha
 clear ha
 have cb0:decide (b<0)=false:=decide_eq_false hb
 have cb1:(b<0)=False:=eq_false hb
 clear hb
 have HLn:=Aside0.mk hL
 have HRn:=Aside0.mk hR
 clear hL hR
 go_enter Try.func7,Try.ntmps7
 go_wp2_with (first
  | ((with_reducible refine gate_dst (N:=1) rfl ?_);refine box_event ?hg (N:=1) ?hd (cs:=#[.slice A l0.length c]) (t:=24) ?hr ?_;(case hd=>rfl);(case hg=>rfl);(case hr=>first|(go_simp;done)|(go_simp;rfl));intro gA hg wx1 hbox hb;have n0_:=Aside0.mk (below_step HB.out hb);clear HB;have HB:=n0_;clear n0_;have n0_:=Aside0.mk (hbox);have HA:=n0_;clear n0_;clear hg hb hbox;have hcA:wx1.cell? ⟨gA,0,none⟩=some (.slice A l0.length c):=(blk_cell HA.out 0).trans rfl)
  | ((with_reducible refine gate_callee (f:=8) rfl ?_);refine goesL_ (some 13) rfl rfl Try.func8 (by kernel_rfl) rfl #[.agg #[.slice A l0.length c],.int .i64 1048576] rfl (by (try simp only [List.map_toArray,List.map_cons,List.map_nil]);first|done|rfl|(simp only [List.length_drop,List.length_take];rfl)) ?_;(with_reducible refine (laws_szChunk.calls k _ _ l0 1048576 t _ (Kd.C_below HR.out HB.out) HC.out F0.out).mono ?_);rintro e wx2 ⟨rfl,hb⟩;refine ⟨_,rfl,?_⟩;clear hcA;have n0_:=Aside0.mk (below_step HB.out hb);have n1_:=Aside0.mk (blk_below HA.out hb);clear HB HA;have HB:=n0_;have HA:=n1_;clear n0_ n1_;clear hb;have hcA:wx2.cell? ⟨gA,0,none⟩=some (.slice A l0.length c):=(blk_cell HA.out 0).trans rfl)
  | ((with_reducible refine gate_callee (f:=10) rfl ?_);refine goesL_ (some 17) rfl rfl Try.func10 (by kernel_rfl) rfl #[.agg #[.slice A l0.length c]] rfl (by (try simp only [List.map_toArray,List.map_cons,List.map_nil]);first|done|rfl|(simp only [List.length_drop,List.length_take];rfl)) ?_;(with_reducible refine (laws_toChunk.calls k _ _ l0 L _ (Kd.C_below HR.out HB.out) HC.out F1.out).mono ?_);rintro e wx3 ⟨v_,rfl,ho_,hb⟩;refine ⟨_,rfl,?_⟩;obtain ⟨At,ct,rfl⟩:=Kd.S_slice ho_;clear hcA;have T1b:=Aside0.mk (And.intro HB.out.size hb);have T1l:=Aside0.mk (And.intro (blk_lt HA.out) trivial);have n0_:=Aside0.mk (below_step HB.out hb);have n1_:=Aside0.mk (blk_below HA.out hb);clear HB HA;have HB:=n0_;have HA:=n1_;clear n0_ n1_;have T1:=Aside0.mk ho_;clear ho_ hb;have hcA:wx3.cell? ⟨gA,0,none⟩=some (.slice A l0.length c):=(blk_cell HA.out 0).trans rfl)
  | ((with_reducible refine gate_callee (f:=18) rfl ?_);refine goesL_ (some 18) rfl rfl Try.func18 (by kernel_rfl) rfl #[.agg #[.slice At L.length ct]] rfl (by (try simp only [List.map_toArray,List.map_cons,List.map_nil]);first|done|rfl|(simp only [List.length_drop,List.length_take];rfl)) ?_;(with_reducible refine (spec_Strip.calls k _ _ L R _ (Kd.S_reads' T1.out).2.2 (Kd.S_reads' T1.out).2.1 F2.out).mono ?_);rintro e wx4 ⟨v_,rfl,ho_,hb⟩;refine ⟨_,rfl,?_⟩;obtain ⟨Aw,cw,rfl⟩:=Kd.S_slice ho_;clear hcA;have T2b:=Aside0.mk (And.intro HB.out.size hb);have T2l:=Aside0.mk (And.intro (blk_lt HA.out) trivial);have n0_:=Aside0.mk (below_step HB.out hb);have n1_:=Aside0.mk (blk_below HA.out hb);have n2_:=Aside0.mk (Kd.S_below T1.out hb);clear HB HA T1;have HB:=n0_;have HA:=n1_;have T1:=n2_;clear n0_ n1_ n2_;have T2:=Aside0.mk ho_;clear ho_ hb;have hcA:wx4.cell? ⟨gA,0,none⟩=some (.slice A l0.length c):=(blk_cell HA.out 0).trans rfl)
  | ((with_reducible refine gate_dst (N:=4) rfl ?_);refine box_event ?hg (N:=4) ?hd (cs:=#[.slice none 0 0]) (t:=29) ?hr ?_;(case hd=>rfl);(case hg=>rfl);(case hr=>first|(go_simp;done)|(go_simp;rfl));intro gW hg_ wx5 hbox_ hb_;clear hcA;have hz_:wx5.cell? ⟨gW,0,none⟩=some (.slice none 0 0):=(blk_cell hbox_ 0).trans rfl;have hy_:=blk_frozen hbox_ 0;have hcA:wx5.cell? ⟨gA,0,none⟩=some (.slice A l0.length c):=(blk_cell (blk_below HA.out hb_) 0).trans rfl;have QW:=Aside0.mk (show gA<gW∧gA<gW from ⟨by have:=blk_lt HA.out;omega,by have:=blk_lt HA.out;omega⟩);obtain ⟨oW,hO_,hr_⟩:=Held.new (w:=w) T2b.out.1 T2.out T2b.out.2 hg_ hbox_ hb_;have RW:=Aside0.mk (show ∀ k,oW k→gA<k∧k<gW from fun k hk=>⟨Nat.lt_of_lt_of_le T2l.out.1 (hr_ k hk).1,(hr_ k hk).2⟩);have n0_:=Aside0.mk (show Below w.heap.size w (wx5.setCell ⟨gW,0,none⟩ (.slice Aw R.length cw)) from below_made HB.out hg_ hb_);have n1_:=Aside0.mk (show (wx5.setCell ⟨gW,0,none⟩ (.slice Aw R.length cw)).heap[gA]?=some (.cells #[.slice A l0.length c] 24 (0,0)) from heap_made HA.out hg_ hb_);clear HB HA;have HB:=n0_;have HA:=n1_;clear n0_ n1_;have HW:=Aside0.mk hO_;clear hO_ hr_ hg_ hbox_ hb_ T2 T2b T2l;have hne1_:gA≠gW:=Nat.ne_of_lt QW.out.1;have hne2_:gW≠gA:=Nat.ne_of_gt QW.out.1)
  | ((with_reducible refine gate_callee (f:=10) rfl ?_);refine goesL_ (some 20) rfl rfl Try.func10 (by kernel_rfl) rfl #[.agg #[.slice A l0.length c]] rfl (by (try simp only [List.map_toArray,List.map_cons,List.map_nil]);first|done|rfl|(simp only [List.length_drop,List.length_take];rfl)) ?_;(with_reducible refine (laws_toChunk.calls k _ _ l0 L _ (Kd.C_below HR.out HB.out) HC.out F1.out).mono ?_);rintro e wx6 ⟨v_,rfl,ho_,hb⟩;refine ⟨_,rfl,?_⟩;obtain ⟨Ax,cx,rfl⟩:=Kd.S_slice ho_;clear hz_ hy_ hcA hne1_ hne2_;have T3b:=Aside0.mk (And.intro HB.out.size hb);have T3l:=Aside0.mk (And.intro (blk_lt HA.out) (And.intro (blk_lt HW.out.box) trivial));have n0_:=Aside0.mk (below_step HB.out hb);have n1_:=Aside0.mk (blk_below HA.out hb);have n2_:=Aside0.mk (Held.below HW.out hb);clear HB HA HW;have HB:=n0_;have HA:=n1_;have HW:=n2_;clear n0_ n1_ n2_;have T3:=Aside0.mk ho_;clear ho_ hb;have hcA:wx6.cell? ⟨gA,0,none⟩=some (.slice A l0.length c):=(blk_cell HA.out 0).trans rfl;have hcW:wx6.cell? ⟨gW,0,none⟩=some (.slice Aw R.length cw):=(blk_cell HW.out.box 0).trans rfl)
  | ((with_reducible refine gate_dst (N:=5) rfl ?_);refine box_event ?hg (N:=5) ?hd (cs:=#[.slice none 0 0]) (t:=29) ?hr ?_;(case hd=>rfl);(case hg=>rfl);(case hr=>first|(go_simp;done)|(go_simp;rfl));intro gX hg_ wx7 hbox_ hb_;clear hcA hcW;have hz_:wx7.cell? ⟨gX,0,none⟩=some (.slice none 0 0):=(blk_cell hbox_ 0).trans rfl;have hy_:=blk_frozen hbox_ 0;have hcA:wx7.cell? ⟨gA,0,none⟩=some (.slice A l0.length c):=(blk_cell (blk_below HA.out hb_) 0).trans rfl;have hcW:wx7.cell? ⟨gW,0,none⟩=some (.slice Aw R.length cw):=(blk_cell (blk_below HW.out.box hb_) 0).trans rfl;have QX:=Aside0.mk (show gA<gX∧gA<gX∧gW<gX from ⟨by have:=blk_lt HA.out;omega,by have:=blk_lt HA.out;omega,by have:=blk_lt HW.out.box;omega⟩);obtain ⟨oX,hO_,hr_⟩:=Held.new (w:=w) T3b.out.1 T3.out T3b.out.2 hg_ hbox_ hb_;have RX:=Aside0.mk (show ∀ k,oX k→gA<k∧gW<k∧k<gX from fun k hk=>⟨Nat.lt_of_lt_of_le T3l.out.1 (hr_ k hk).1,Nat.lt_of_lt_of_le T3l.out.2.1 (hr_ k hk).1,(hr_ k hk).2⟩);have n0_:=Aside0.mk (show Below w.heap.size w (wx7.setCell ⟨gX,0,none⟩ (.slice Ax L.length cx)) from below_made HB.out hg_ hb_);have n1_:=Aside0.mk (show (wx7.setCell ⟨gX,0,none⟩ (.slice Ax L.length cx)).heap[gA]?=some (.cells #[.slice A l0.length c] 24 (0,0)) from heap_made HA.out hg_ hb_);have n2_:=Aside0.mk (show Held w (wx7.setCell ⟨gX,0,none⟩ (.slice Ax L.length cx)) gW (.slice Aw R.length cw) oW R from Held.made HW.out hg_ hb_);clear HB HA HW;have HB:=n0_;have HA:=n1_;have HW:=n2_;clear n0_ n1_ n2_;have HX:=Aside0.mk hO_;clear hO_ hr_ hg_ hbox_ hb_ T3 T3b T3l;have hne1_:gA≠gX:=Nat.ne_of_lt QX.out.1;have hne2_:gX≠gA:=Nat.ne_of_gt QX.out.1;have hneW:gW≠gX:=Nat.ne_of_lt (QX.out.2.2);have hnfW:gX≠gW:=Nat.ne_of_gt (QX.out.2.2))
  | ((with_reducible refine gate_callee (f:=19) rfl ?_);refine goesL_ (some 22) rfl rfl Try.func19 (by kernel_rfl) rfl #[.agg #[.slice Ax L.length cx]] rfl (by (try simp only [List.map_toArray,List.map_cons,List.map_nil]);first|done|rfl|(simp only [List.length_drop,List.length_take];rfl)) ?_;(with_reducible refine (impl_Strip.calls k _ _ L R _ (Kd.S_reads' HX.out.row).2.2 (Kd.S_reads' HX.out.row).2.1 F3.out).mono ?_);rintro e wx8 ⟨v_,rfl,ho_,hb⟩;refine ⟨_,rfl,?_⟩;obtain ⟨Ag,cg,rfl⟩:=Kd.S_slice ho_;clear hz_ hy_ hcA hcW hne1_ hne2_ hneW hnfW;have T4b:=Aside0.mk (And.intro HB.out.size hb);have T4l:=Aside0.mk (And.intro (blk_lt HA.out) (And.intro (blk_lt HW.out.box) (And.intro (blk_lt HX.out.box) trivial)));have n0_:=Aside0.mk (below_step HB.out hb);have n1_:=Aside0.mk (blk_below HA.out hb);have n2_:=Aside0.mk (Held.below HW.out hb);have n3_:=Aside0.mk (Held.below HX.out hb);clear HB HA HW HX;have HB:=n0_;have HA:=n1_;have HW:=n2_;have HX:=n3_;clear n0_ n1_ n2_ n3_;have T4:=Aside0.mk ho_;clear ho_ hb;have hcA:wx8.cell? ⟨gA,0,none⟩=some (.slice A l0.length c):=(blk_cell HA.out 0).trans rfl;have hcW:wx8.cell? ⟨gW,0,none⟩=some (.slice Aw R.length cw):=(blk_cell HW.out.box 0).trans rfl;have hcX:wx8.cell? ⟨gX,0,none⟩=some (.slice Ax L.length cx):=(blk_cell HX.out.box 0).trans rfl)
  | ((with_reducible refine gate_dst (N:=6) rfl ?_);refine box_event ?hg (N:=6) ?hd (cs:=#[.slice none 0 0]) (t:=29) ?hr ?_;(case hd=>rfl);(case hg=>rfl);(case hr=>first|(go_simp;done)|(go_simp;rfl));intro gG hg_ wx9 hbox_ hb_;clear hcA hcW hcX;have hz_:wx9.cell? ⟨gG,0,none⟩=some (.slice none 0 0):=(blk_cell hbox_ 0).trans rfl;have hy_:=blk_frozen hbox_ 0;have hcA:wx9.cell? ⟨gA,0,none⟩=some (.slice A l0.length c):=(blk_cell (blk_below HA.out hb_) 0).trans rfl;have hcW:wx9.cell? ⟨gW,0,none⟩=some (.slice Aw R.length cw):=(blk_cell (blk_below HW.out.box hb_) 0).trans rfl;have hcX:wx9.cell? ⟨gX,0,none⟩=some (.slice Ax L.length cx):=(blk_cell (blk_below HX.out.box hb_) 0).trans rfl;have QG:=Aside0.mk (show gA<gG∧gA<gG∧gW<gG∧gX<gG from ⟨by have:=blk_lt HA.out;omega,by have:=blk_lt HA.out;omega,by have:=blk_lt HW.out.box;omega,by have:=blk_lt HX.out.box;omega⟩);obtain ⟨oG,hO_,hr_⟩:=Held.new (w:=w) T4b.out.1 T4.out T4b.out.2 hg_ hbox_ hb_;have RG:=Aside0.mk (show ∀ k,oG k→gA<k∧gW<k∧gX<k∧k<gG from fun k hk=>⟨Nat.lt_of_lt_of_le T4l.out.1 (hr_ k hk).1,Nat.lt_of_lt_of_le T4l.out.2.1 (hr_ k hk).1,Nat.lt_of_lt_of_le T4l.out.2.2.1 (hr_ k hk).1,(hr_ k hk).2⟩);have n0_:=Aside0.mk (show Below w.heap.size w (wx9.setCell ⟨gG,0,none⟩ (.slice Ag R.length cg)) from below_made HB.out hg_ hb_);have n1_:=Aside0.mk (show (wx9.setCell ⟨gG,0,none⟩ (.slice Ag R.length cg)).heap[gA]?=some (.cells #[.slice A l0.length c] 24 (0,0)) from heap_made HA.out hg_ hb_);have n2_:=Aside0.mk (show Held w (wx9.setCell ⟨gG,0,none⟩ (.slice Ag R.length cg)) gW (.slice Aw R.length cw) oW R from Held.made HW.out hg_ hb_);have n3_:=Aside0.mk (show Held w (wx9.setCell ⟨gG,0,none⟩ (.slice Ag R.length cg)) gX (.slice Ax L.length cx) oX L from Held.made HX.out hg_ hb_);clear HB HA HW HX;have HB:=n0_;have HA:=n1_;have HW:=n2_;have HX:=n3_;clear n0_ n1_ n2_ n3_;have HG:=Aside0.mk hO_;clear hO_ hr_ hg_ hbox_ hb_ T4 T4b T4l;have hne1_:gA≠gG:=Nat.ne_of_lt QG.out.1;have hne2_:gG≠gA:=Nat.ne_of_gt QG.out.1;have hneW:gW≠gG:=Nat.ne_of_lt (QG.out.2.2.1);have hnfW:gG≠gW:=Nat.ne_of_gt (QG.out.2.2.1);have hneX:gX≠gG:=Nat.ne_of_lt (QG.out.2.2.2);have hnfX:gG≠gX:=Nat.ne_of_gt (QG.out.2.2.2))
  | ((with_reducible refine gate_callee (f:=12) rfl ?_);refine goesL_ (some 25) rfl rfl Try.func12 (by kernel_rfl) rfl #[.agg #[.slice Ag R.length cg],.agg #[.slice Aw R.length cw]] rfl (by (try simp only [List.map_toArray,List.map_cons,List.map_nil]);first|done|rfl|(simp only [List.length_drop,List.length_take];rfl)) ?_;(with_reducible refine (laws_eqChunk.calls k _ _ R _ _ R true _ (Kd.S_reads' HG.out.row).2.2 (Kd.S_reads' HG.out.row).2.1 (Kd.S_reads' HW.out.row).2.2 (Kd.S_reads' HW.out.row).2.1 F4.out rfl).mono ?_);rintro e wx10 ⟨rfl,hb⟩;refine ⟨_,rfl,?_⟩;clear hz_ hy_ hcA hcW hcX hne1_ hne2_ hneW hnfW hneX hnfX;have n0_:=Aside0.mk (below_step HB.out hb);have n1_:=Aside0.mk (blk_below HA.out hb);have n2_:=Aside0.mk (Held.below HW.out hb);have n3_:=Aside0.mk (Held.below HX.out hb);have n4_:=Aside0.mk (Held.below HG.out hb);clear HB HA HW HX HG;have HB:=n0_;have HA:=n1_;have HW:=n2_;have HX:=n3_;have HG:=n4_;clear n0_ n1_ n2_ n3_ n4_;clear hb;have hcA:wx10.cell? ⟨gA,0,none⟩=some (.slice A l0.length c):=(blk_cell HA.out 0).trans rfl;have hcW:wx10.cell? ⟨gW,0,none⟩=some (.slice Aw R.length cw):=(blk_cell HW.out.box 0).trans rfl;have hcX:wx10.cell? ⟨gX,0,none⟩=some (.slice Ax L.length cx):=(blk_cell HX.out.box 0).trans rfl;have hcG:wx10.cell? ⟨gG,0,none⟩=some (.slice Ag R.length cg):=(blk_cell HG.out.box 0).trans rfl))
 have n0_:=Aside0.mk (below_drew1 HB.out)
 have n1_:=Aside0.mk (blk_drew HA.out)
 have n2_:=Aside0.mk (Held.below HW.out (below_drew1 (Below.refl _ _)))
 have n3_:=Aside0.mk (Held.below HX.out (below_drew1 (Below.refl _ _)))
 have n4_:=Aside0.mk (Held.below HG.out (below_drew1 (Below.refl _ _)))
 clear HB HA HW HX HG
 have HB:=n0_
 have HA:=n1_
 have HW:=n2_
 have HX:=n3_
 have HG:=n4_
 clear n0_ n1_ n2_ n3_ n4_
 clear hcA hcW hcX hcG
 refine start_ (n:=5) (S:=fun w'=>w'.cell? ⟨gX,0,none⟩=some (.slice Ax L.length cx)∧w'.cell? ⟨gA,0,none⟩=some (.slice A l0.length c)) (ds:=[]) #[false,false,false,false,false] (by kernel_rfl) rfl rfl ⟨(blk_cell HX.out.box 0).trans rfl,(blk_cell HA.out 0).trans rfl⟩ (fun hHeld=>?_)
 generalize wx10.drew=wd at HB HA HW HX HG hHeld ⊢
 refine take_ (i:=0) (N:=some 27) (v:=?_) (a':=?_) #[true,false,false,false,false] rfl rfl (by kernel_rfl) (fun _ _ _ h=>h) (Or.inl ⟨by rfl,?_⟩) hHeld ?_ ?_
 rotate_left
 ·rintro w' ⟨s0,s1⟩
  go_simp
  with_reducible rfl
 rotate_left
 ·simp only [Act.put,List.setIfInBounds_toArray,List.set_cons_zero,List.set_cons_succ,i64_w,i32_w]
  rfl
 refine take_ (i:=1) (N:=some 28) (v:=?_) (a':=?_) #[true,true,false,false,false] rfl rfl (by kernel_rfl) (fun _ _ _ h=>h) (Or.inl ⟨by rfl,?_⟩) hHeld ?_ ?_
 rotate_left
 ·rintro w' ⟨s0,s1⟩
  go_simp
  with_reducible rfl
 rotate_left
 ·simp only [Act.put,List.setIfInBounds_toArray,List.set_cons_zero,List.set_cons_succ,i64_w,i32_w]
  rfl
 refine one_ (i:=2) (N:=some 29) #[true,true,true,false,false] rfl rfl (by kernel_rfl) (by decide) (fun K hK=>?_)
 refine goes_ Try.func10 (by kernel_rfl) rfl #[.agg #[.slice A l0.length c]] (by rfl) rfl rfl (by (try simp only [List.map_toArray,List.map_cons,List.map_nil]);first|done|rfl|(simp only [List.length_drop,List.length_take];rfl)) ?_
 with_reducible refine (laws_toChunk.calls k _ _ l0 L _ (Kd.C_below HR.out HB.out) HC.out F1.out).mono ?_
 rintro e we1 ⟨v_,rfl,ho_,hb⟩
 refine ⟨_,rfl,?_⟩
 obtain ⟨Ay,cy,rfl⟩:=Kd.S_slice ho_
 have T5:=Aside0.mk ho_
 have n0_:=Aside0.mk (below_step HB.out hb)
 have n1_:=Aside0.mk (blk_below HA.out hb)
 have n2_:=Aside0.mk (Held.below HW.out hb)
 have n3_:=Aside0.mk (Held.below HX.out hb)
 have n4_:=Aside0.mk (Held.below HG.out hb)
 clear HB HA HW HX HG
 have HB:=n0_
 have HA:=n1_
 have HW:=n2_
 have HX:=n3_
 have HG:=n4_
 clear n0_ n1_ n2_ n3_ n4_
 refine hK.out _ _ ⟨(blk_cell HX.out.box 0).trans rfl,(blk_cell HA.out 0).trans rfl⟩ (fun hHeld=>?_)
 clear hK K
 refine norm_ (a':=?_) ?_ ?_
 rotate_left
 ·show Act.put _ (some 29) _=_
  simp only [Act.put,List.setIfInBounds_toArray,List.set_cons_zero,List.set_cons_succ,i64_w,i32_w]
  rfl
 clear ho_ hb
 refine one_ (i:=3) (N:=some 30) #[true,true,true,true,false] rfl rfl (by kernel_rfl) (by decide) (fun K hK=>?_)
 refine goes_ Try.func12 (by kernel_rfl) rfl #[.agg #[.slice Ax L.length cx],.agg #[.slice Ay L.length cy]] (by rfl) rfl rfl (by (try simp only [List.map_toArray,List.map_cons,List.map_nil]);first|done|rfl|(simp only [List.length_drop,List.length_take];rfl)) ?_
 with_reducible refine (laws_eqChunk.calls k _ _ L _ _ L true _ (Kd.S_reads' HX.out.row).2.2 (Kd.S_reads' HX.out.row).2.1 (Kd.S_reads' T5.out).2.2 (Kd.S_reads' T5.out).2.1 F5.out rfl).mono ?_
 rintro e we2 ⟨rfl,hb⟩
 refine ⟨_,rfl,?_⟩
 have n0_:=Aside0.mk (below_step HB.out hb)
 have n1_:=Aside0.mk (blk_below HA.out hb)
 have n2_:=Aside0.mk (Held.below HW.out hb)
 have n3_:=Aside0.mk (Held.below HX.out hb)
 have n4_:=Aside0.mk (Held.below HG.out hb)
 clear HB HA HW HX HG
 have HB:=n0_
 have HA:=n1_
 have HW:=n2_
 have HX:=n3_
 have HG:=n4_
 clear n0_ n1_ n2_ n3_ n4_
 refine hK.out _ _ ⟨(blk_cell HX.out.box 0).trans rfl,(blk_cell HA.out 0).trans rfl⟩ (fun hHeld=>?_)
 clear hK K
 refine norm_ (a':=?_) ?_ ?_
 rotate_left
 ·show Act.put _ (some 30) _=_
  simp only [Act.put,List.setIfInBounds_toArray,List.set_cons_zero,List.set_cons_succ,i64_w,i32_w]
  rfl
 clear hb
 refine pure_ (i:=4) (N:=some 31) (v:=?_) (a':=?_) #[true,true,true,true,true] rfl rfl (by kernel_rfl) (fun _ _ _ h=>h) (Or.inl ⟨by rfl,?_⟩) ?_ ?_
 rotate_left
 ·intro w'
  go_simp
  with_reducible rfl
 rotate_left
 ·simp only [Act.put,List.setIfInBounds_toArray,List.set_cons_zero,List.set_cons_succ,i64_w,i32_w]
  rfl
 refine done_ (by kernel_rfl) ?_
 have D:=Aside0.mk (show (∀ k,oX k→k≠gA∧k≠gW∧k≠gX∧k≠gG∧¬ oW k∧¬ oG k)∧(∀ k,oG k→k≠gA∧k≠gW∧k≠gX∧k≠gG∧¬ oW k∧¬ oX k) from ⟨fun k hk=>⟨Nat.ne_of_gt (RX.out k hk).1,Nat.ne_of_gt (RX.out k hk).2.1,Nat.ne_of_lt (RX.out k hk).2.2,Nat.ne_of_lt (Nat.lt_trans (RX.out k hk).2.2 QG.out.2.2.2),fun h=>Nat.lt_asymm (RX.out k hk).2.1 (RW.out k h).2,fun h=>Nat.lt_asymm (RX.out k hk).2.2 (RG.out k h).2.2.1⟩,fun k hk=>⟨Nat.ne_of_gt (RG.out k hk).1,Nat.ne_of_gt (RG.out k hk).2.1,Nat.ne_of_gt (RG.out k hk).2.2.1,Nat.ne_of_lt (RG.out k hk).2.2.2,fun h=>Nat.lt_asymm (RG.out k hk).2.1 (RW.out k h).2,fun h=>Nat.lt_asymm (RG.out k hk).2.2.1 (RX.out k h).2.2⟩⟩)
 have hcA:we2.cell? ⟨gA,0,none⟩=some (.slice A l0.length c):=(blk_cell HA.out 0).trans rfl
 have hcW:we2.cell? ⟨gW,0,none⟩=some (.slice Aw R.length cw):=(blk_cell HW.out.box 0).trans rfl
 have hcX:we2.cell? ⟨gX,0,none⟩=some (.slice Ax L.length cx):=(blk_cell HX.out.box 0).trans rfl
 have hcG:we2.cell? ⟨gG,0,none⟩=some (.slice Ag R.length cg):=(blk_cell HG.out.box 0).trans rfl
 go_wp2_with (first
  | ((with_reducible refine gate_callee (f:=20) rfl ?_);refine goesL_ (some 34) rfl rfl Try.func20 (by kernel_rfl) rfl #[.agg #[.slice Ax L.length cx],.int .i64 1] rfl (by (try simp only [List.map_toArray,List.map_cons,List.map_nil]);first|done|rfl|(simp only [List.length_drop,List.length_take];rfl)) ?_;(with_reducible refine (laws_markChunk.calls k oX _ L 1 a L' w _ HB.out HX.out.row F6.out).mono ?_);rintro e wx12 ⟨rfl,ho_,hb,hk⟩;refine ⟨_,rfl,?_⟩;clear hcA hcW hcX hcG;have n0_:=Aside0.mk (hb);have n1_:=Aside0.mk ((hk.2 gA (blk_lt HA.out) (fun h=>(D.out.1 _ h).1 rfl)).trans HA.out);have n2_:=Aside0.mk (Held.kept HW.out hk (fun k h hx=>(D.out.1 k hx).2.2.2.2.1 h) (fun h=>(D.out.1 _ h).2.1 rfl));have n3_:=Aside0.mk (Held.kept HG.out hk (fun k h hx=>(D.out.1 k hx).2.2.2.2.2 h) (fun h=>(D.out.1 _ h).2.2.2.1 rfl));have n4_:=Aside0.mk (Held.marked HX.out hk (fun h=>(D.out.1 _ h).2.2.1 rfl) ho_);clear HB HA HW HG HX;have HB:=n0_;have HA:=n1_;have HW:=n2_;have HG:=n3_;have HX:=n4_;clear n0_ n1_ n2_ n3_ n4_;clear ho_ hb hk;have hcA:wx12.cell? ⟨gA,0,none⟩=some (.slice A l0.length c):=(blk_cell HA.out 0).trans rfl;have hcW:wx12.cell? ⟨gW,0,none⟩=some (.slice Aw R.length cw):=(blk_cell HW.out.box 0).trans rfl;have hcX:wx12.cell? ⟨gX,0,none⟩=some (.slice Ax L.length cx):=(blk_cell HX.out.box 0).trans rfl;have hcG:wx12.cell? ⟨gG,0,none⟩=some (.slice Ag R.length cg):=(blk_cell HG.out.box 0).trans rfl)
  | ((with_reducible refine gate_callee (f:=12) rfl ?_);(try (refine gate_guard (by rfl) ?_;dsimp only));refine goesL_ (some 40) rfl rfl Try.func12 (by kernel_rfl) rfl #[.agg #[.slice Ag R.length cg],.agg #[.slice Aw R.length cw]] rfl (by (try simp only [List.map_toArray,List.map_cons,List.map_nil]);first|done|rfl|(simp only [List.length_drop,List.length_take];rfl)) ?_;(with_reducible refine (laws_eqChunk.calls k _ _ R _ _ R true _ (Kd.S_reads' HG.out.row).2.2 (Kd.S_reads' HG.out.row).2.1 (Kd.S_reads' HW.out.row).2.2 (Kd.S_reads' HW.out.row).2.1 F4.out rfl).mono ?_);rintro e wx13 ⟨rfl,hb⟩;refine ⟨_,rfl,?_⟩;clear hcA hcW hcX hcG;have n0_:=Aside0.mk (below_step HB.out hb);have n1_:=Aside0.mk (blk_below HA.out hb);have n2_:=Aside0.mk (Held.below HW.out hb);have n3_:=Aside0.mk (Held.below HX.out hb);have n4_:=Aside0.mk (Held.below HG.out hb);clear HB HA HW HX HG;have HB:=n0_;have HA:=n1_;have HW:=n2_;have HX:=n3_;have HG:=n4_;clear n0_ n1_ n2_ n3_ n4_;clear hb;have hcA:wx13.cell? ⟨gA,0,none⟩=some (.slice A l0.length c):=(blk_cell HA.out 0).trans rfl;have hcW:wx13.cell? ⟨gW,0,none⟩=some (.slice Aw R.length cw):=(blk_cell HW.out.box 0).trans rfl;have hcX:wx13.cell? ⟨gX,0,none⟩=some (.slice Ax L.length cx):=(blk_cell HX.out.box 0).trans rfl;have hcG:wx13.cell? ⟨gG,0,none⟩=some (.slice Ag R.length cg):=(blk_cell HG.out.box 0).trans rfl)
  | ((with_reducible refine gate_callee (f:=20) rfl ?_);refine goesL_ (some 45) rfl rfl Try.func20 (by kernel_rfl) rfl #[.agg #[.slice Ag R.length cg],.int .i64 1] rfl (by (try simp only [List.map_toArray,List.map_cons,List.map_nil]);first|done|rfl|(simp only [List.length_drop,List.length_take];rfl)) ?_;(with_reducible refine (laws_markChunk.calls k oG _ R 1 b R' w _ HB.out HG.out.row F7.out).mono ?_);rintro e wx14 ⟨rfl,ho_,hb,hk⟩;refine ⟨_,rfl,?_⟩;clear hcA hcW hcX hcG;have n0_:=Aside0.mk (hb);have n1_:=Aside0.mk ((hk.2 gA (blk_lt HA.out) (fun h=>(D.out.2 _ h).1 rfl)).trans HA.out);have n2_:=Aside0.mk (Held.kept HW.out hk (fun k h hx=>(D.out.2 k hx).2.2.2.2.1 h) (fun h=>(D.out.2 _ h).2.1 rfl));have n3_:=Aside0.mk (Held.kept HX.out hk (fun k h hx=>(D.out.2 k hx).2.2.2.2.2 h) (fun h=>(D.out.2 _ h).2.2.1 rfl));have n4_:=Aside0.mk (Held.marked HG.out hk (fun h=>(D.out.2 _ h).2.2.2.1 rfl) ho_);clear HB HA HW HX HG;have HB:=n0_;have HA:=n1_;have HW:=n2_;have HX:=n3_;have HG:=n4_;clear n0_ n1_ n2_ n3_ n4_;clear ho_ hb hk;have hcA:wx14.cell? ⟨gA,0,none⟩=some (.slice A l0.length c):=(blk_cell HA.out 0).trans rfl;have hcW:wx14.cell? ⟨gW,0,none⟩=some (.slice Aw R.length cw):=(blk_cell HW.out.box 0).trans rfl;have hcX:wx14.cell? ⟨gX,0,none⟩=some (.slice Ax L.length cx):=(blk_cell HX.out.box 0).trans rfl;have hcG:wx14.cell? ⟨gG,0,none⟩=some (.slice Ag R.length cg):=(blk_cell HG.out.box 0).trans rfl)
  | ((with_reducible refine gate_callee (f:=21) rfl ?_);refine goesL_ (some 48) rfl rfl Try.func21 (by kernel_rfl) rfl #[.agg #[.slice Ag R.length cg],.int .i64 1] rfl (by (try simp only [List.map_toArray,List.map_cons,List.map_nil]);first|done|rfl|(simp only [List.length_drop,List.length_take];rfl)) ?_;(with_reducible refine (HRn.out ▸ laws_heldChunk.calls k _ _ R' 1 b _ (Kd.S_reads' HG.out.row).2.2 (by rw [HRn.out];exact (Kd.S_reads' HG.out.row).2.1) F8.out (by have:=of_decide_eq_false cb0;omega)).mono ?_);rintro e wx15 ⟨rfl,hb⟩;refine ⟨_,rfl,?_⟩;clear hcA hcW hcX hcG;have n0_:=Aside0.mk (below_step HB.out hb);have n1_:=Aside0.mk (blk_below HA.out hb);have n2_:=Aside0.mk (Held.below HW.out hb);have n3_:=Aside0.mk (Held.below HX.out hb);have n4_:=Aside0.mk (Held.below HG.out hb);clear HB HA HW HX HG;have HB:=n0_;have HA:=n1_;have HW:=n2_;have HX:=n3_;have HG:=n4_;clear n0_ n1_ n2_ n3_ n4_;clear hb;have hcA:wx15.cell? ⟨gA,0,none⟩=some (.slice A l0.length c):=(blk_cell HA.out 0).trans rfl;have hcW:wx15.cell? ⟨gW,0,none⟩=some (.slice Aw R.length cw):=(blk_cell HW.out.box 0).trans rfl;have hcX:wx15.cell? ⟨gX,0,none⟩=some (.slice Ax L.length cx):=(blk_cell HX.out.box 0).trans rfl;have hcG:wx15.cell? ⟨gG,0,none⟩=some (.slice Ag R.length cg):=(blk_cell HG.out.box 0).trans rfl)
  | ((with_reducible refine gate_callee (f:=10) rfl ?_);refine goesL_ (some 55) rfl rfl Try.func10 (by kernel_rfl) rfl #[.agg #[.slice A l0.length c]] rfl (by (try simp only [List.map_toArray,List.map_cons,List.map_nil]);first|done|rfl|(simp only [List.length_drop,List.length_take];rfl)) ?_;(with_reducible refine (laws_toChunk.calls k _ _ l0 L _ (Kd.C_below HR.out HB.out) HC.out F1.out).mono ?_);rintro e wx16 ⟨v_,rfl,ho_,hb⟩;refine ⟨_,rfl,?_⟩;obtain ⟨Az,cz,rfl⟩:=Kd.S_slice ho_;clear hcA hcW hcX hcG;have T6b:=Aside0.mk (And.intro HB.out.size hb);have T6l:=Aside0.mk (And.intro (blk_lt HA.out) (And.intro (blk_lt HW.out.box) (And.intro (blk_lt HX.out.box) trivial)));have n0_:=Aside0.mk (below_step HB.out hb);have n1_:=Aside0.mk (blk_below HA.out hb);have n2_:=Aside0.mk (Held.below HW.out hb);have n3_:=Aside0.mk (Held.below HX.out hb);have n4_:=Aside0.mk (Held.below HG.out hb);clear HB HA HW HX HG;have HB:=n0_;have HA:=n1_;have HW:=n2_;have HX:=n3_;have HG:=n4_;clear n0_ n1_ n2_ n3_ n4_;have T6:=Aside0.mk ho_;clear ho_ hb;have hcA:wx16.cell? ⟨gA,0,none⟩=some (.slice A l0.length c):=(blk_cell HA.out 0).trans rfl;have hcW:wx16.cell? ⟨gW,0,none⟩=some (.slice Aw R.length cw):=(blk_cell HW.out.box 0).trans rfl;have hcX:wx16.cell? ⟨gX,0,none⟩=some (.slice Ax L.length cx):=(blk_cell HX.out.box 0).trans rfl;have hcG:wx16.cell? ⟨gG,0,none⟩=some (.slice Ag R.length cg):=(blk_cell HG.out.box 0).trans rfl)
  | ((with_reducible refine gate_callee (f:=19) rfl ?_);refine goesL_ (some 56) rfl rfl Try.func19 (by kernel_rfl) rfl #[.agg #[.slice Az L.length cz]] rfl (by (try simp only [List.map_toArray,List.map_cons,List.map_nil]);first|done|rfl|(simp only [List.length_drop,List.length_take];rfl)) ?_;(with_reducible refine (impl_Strip.calls k _ _ L R _ (Kd.S_reads' T6.out).2.2 (Kd.S_reads' T6.out).2.1 F3.out).mono ?_);rintro e wx17 ⟨v_,rfl,ho_,hb⟩;refine ⟨_,rfl,?_⟩;obtain ⟨Ah,ch,rfl⟩:=Kd.S_slice ho_;clear hcA hcW hcX hcG;have T7b:=Aside0.mk (And.intro HB.out.size hb);have T7l:=Aside0.mk (And.intro (blk_lt HA.out) (And.intro (blk_lt HW.out.box) (And.intro (blk_lt HX.out.box) trivial)));have n0_:=Aside0.mk (below_step HB.out hb);have n1_:=Aside0.mk (blk_below HA.out hb);have n2_:=Aside0.mk (Held.below HW.out hb);have n3_:=Aside0.mk (Held.below HX.out hb);have n4_:=Aside0.mk (Held.below HG.out hb);have n5_:=Aside0.mk (Kd.S_below T6.out hb);clear HB HA HW HX HG T6;have HB:=n0_;have HA:=n1_;have HW:=n2_;have HX:=n3_;have HG:=n4_;have T6:=n5_;clear n0_ n1_ n2_ n3_ n4_ n5_;have T7:=Aside0.mk ho_;clear ho_ hb;have hcA:wx17.cell? ⟨gA,0,none⟩=some (.slice A l0.length c):=(blk_cell HA.out 0).trans rfl;have hcW:wx17.cell? ⟨gW,0,none⟩=some (.slice Aw R.length cw):=(blk_cell HW.out.box 0).trans rfl;have hcX:wx17.cell? ⟨gX,0,none⟩=some (.slice Ax L.length cx):=(blk_cell HX.out.box 0).trans rfl;have hcG:wx17.cell? ⟨gG,0,none⟩=some (.slice Ag R.length cg):=(blk_cell HG.out.box 0).trans rfl)
  | ((with_reducible refine gate_dst (N:=10) rfl ?_);refine box_event ?hg (N:=10) ?hd (cs:=#[.slice none 0 0]) (t:=29) ?hr ?_;(case hd=>rfl);(case hg=>rfl);(case hr=>first|(go_simp;done)|(go_simp;rfl));intro gH hg_ wx18 hbox_ hb_;clear hcA hcW hcX hcG;have hz_:wx18.cell? ⟨gH,0,none⟩=some (.slice none 0 0):=(blk_cell hbox_ 0).trans rfl;have hy_:=blk_frozen hbox_ 0;have hcA:wx18.cell? ⟨gA,0,none⟩=some (.slice A l0.length c):=(blk_cell (blk_below HA.out hb_) 0).trans rfl;have hcW:wx18.cell? ⟨gW,0,none⟩=some (.slice Aw R.length cw):=(blk_cell (blk_below HW.out.box hb_) 0).trans rfl;have hcX:wx18.cell? ⟨gX,0,none⟩=some (.slice Ax L.length cx):=(blk_cell (blk_below HX.out.box hb_) 0).trans rfl;have hcG:wx18.cell? ⟨gG,0,none⟩=some (.slice Ag R.length cg):=(blk_cell (blk_below HG.out.box hb_) 0).trans rfl;have QH:=Aside0.mk (show gA<gH∧gA<gH∧gW<gH∧gX<gH∧gG<gH from ⟨by have:=blk_lt HA.out;omega,by have:=blk_lt HA.out;omega,by have:=blk_lt HW.out.box;omega,by have:=blk_lt HX.out.box;omega,by have:=blk_lt HG.out.box;omega⟩);obtain ⟨oH,hO_,hr_⟩:=Held.new (w:=w) T7b.out.1 T7.out T7b.out.2 hg_ hbox_ hb_;have RH:=Aside0.mk (show ∀ k,oH k→gA<k∧gW<k∧gX<k∧k<gH from fun k hk=>⟨Nat.lt_of_lt_of_le T7l.out.1 (hr_ k hk).1,Nat.lt_of_lt_of_le T7l.out.2.1 (hr_ k hk).1,Nat.lt_of_lt_of_le T7l.out.2.2.1 (hr_ k hk).1,(hr_ k hk).2⟩);have n0_:=Aside0.mk (show Below w.heap.size w (wx18.setCell ⟨gH,0,none⟩ (.slice Ah R.length ch)) from below_made HB.out hg_ hb_);have n1_:=Aside0.mk (show (wx18.setCell ⟨gH,0,none⟩ (.slice Ah R.length ch)).heap[gA]?=some (.cells #[.slice A l0.length c] 24 (0,0)) from heap_made HA.out hg_ hb_);have n2_:=Aside0.mk (show Held w (wx18.setCell ⟨gH,0,none⟩ (.slice Ah R.length ch)) gW (.slice Aw R.length cw) oW R from Held.made HW.out hg_ hb_);have n3_:=Aside0.mk (show Held w (wx18.setCell ⟨gH,0,none⟩ (.slice Ah R.length ch)) gX (.slice Ax L.length cx) oX L' from Held.made HX.out hg_ hb_);have n4_:=Aside0.mk (show Held w (wx18.setCell ⟨gH,0,none⟩ (.slice Ah R.length ch)) gG (.slice Ag R.length cg) oG R' from Held.made HG.out hg_ hb_);clear HB HA HW HX HG;have HB:=n0_;have HA:=n1_;have HW:=n2_;have HX:=n3_;have HG:=n4_;clear n0_ n1_ n2_ n3_ n4_;have HH:=Aside0.mk hO_;clear hO_ hr_ hg_ hbox_ hb_ T7 T7b T7l;have hne1_:gA≠gH:=Nat.ne_of_lt QH.out.1;have hne2_:gH≠gA:=Nat.ne_of_gt QH.out.1;have hneW:gW≠gH:=Nat.ne_of_lt (QH.out.2.2.1);have hnfW:gH≠gW:=Nat.ne_of_gt (QH.out.2.2.1);have hneX:gX≠gH:=Nat.ne_of_lt (QH.out.2.2.2.1);have hnfX:gH≠gX:=Nat.ne_of_gt (QH.out.2.2.2.1);have hneG:gG≠gH:=Nat.ne_of_lt (QH.out.2.2.2.2);have hnfG:gH≠gG:=Nat.ne_of_gt (QH.out.2.2.2.2))
  | ((with_reducible refine gate_callee (f:=12) rfl ?_);refine goesL_ (some 59) rfl rfl Try.func12 (by kernel_rfl) rfl #[.agg #[.slice Ah R.length ch],.agg #[.slice Aw R.length cw]] rfl (by (try simp only [List.map_toArray,List.map_cons,List.map_nil]);first|done|rfl|(simp only [List.length_drop,List.length_take];rfl)) ?_;(with_reducible refine (laws_eqChunk.calls k _ _ R _ _ R true _ (Kd.S_reads' HH.out.row).2.2 (Kd.S_reads' HH.out.row).2.1 (Kd.S_reads' HW.out.row).2.2 (Kd.S_reads' HW.out.row).2.1 F4.out rfl).mono ?_);rintro e wx19 ⟨rfl,hb⟩;refine ⟨_,rfl,?_⟩;clear hz_ hy_ hcA hcW hcX hcG hne1_ hne2_ hneW hnfW hneX hnfX hneG hnfG;have n0_:=Aside0.mk (below_step HB.out hb);have n1_:=Aside0.mk (blk_below HA.out hb);have n2_:=Aside0.mk (Held.below HW.out hb);have n3_:=Aside0.mk (Held.below HX.out hb);have n4_:=Aside0.mk (Held.below HG.out hb);have n5_:=Aside0.mk (Held.below HH.out hb);clear HB HA HW HX HG HH;have HB:=n0_;have HA:=n1_;have HW:=n2_;have HX:=n3_;have HG:=n4_;have HH:=n5_;clear n0_ n1_ n2_ n3_ n4_ n5_;clear hb;have hcA:wx19.cell? ⟨gA,0,none⟩=some (.slice A l0.length c):=(blk_cell HA.out 0).trans rfl;have hcW:wx19.cell? ⟨gW,0,none⟩=some (.slice Aw R.length cw):=(blk_cell HW.out.box 0).trans rfl;have hcX:wx19.cell? ⟨gX,0,none⟩=some (.slice Ax L.length cx):=(blk_cell HX.out.box 0).trans rfl;have hcG:wx19.cell? ⟨gG,0,none⟩=some (.slice Ag R.length cg):=(blk_cell HG.out.box 0).trans rfl;have hcH:wx19.cell? ⟨gH,0,none⟩=some (.slice Ah R.length ch):=(blk_cell HH.out.box 0).trans rfl))
 go_ret
 exact ⟨by first|rfl|(simp;done),HB.out⟩
end Go.Proofs.Ytiekodnojmkfaaa.PFnExactStrip
