import Derived.Test.YtiekodnojmkfaaaGreatDoorPFnDumpx0
import Derived.Test.YtiekodnojmkfaaaGreatDoorPFnDumpx13
namespace Go.Proofs.YtiekodnojmkfaaaGreatDoor.yD
set_option maxHeartbeats 16000000
set_option maxRecDepth 100000
open Go.RowKit Go.Proofs.YtiekodnojmkfaaaGreatDoorW.zF Go.Proofs.YtiekodnojmkfaaaGreatDoorW.yC Go.Proofs.YtiekodnojmkfaaaGreatDoorW.yY
attribute [local go_sem] xM xO qG qH yZ xg xP xQ
set_option linter.unusedVariables false
set_option linter.unusedSimpArgs false
def zf.Bd (B b:Nat) (l:List UInt8) (w:World):Prop:=Lib.IsBuilder 45 5 B b (Lib.byteCells l) w
structure zf.Kp (B b:Nat) (w w':World):Prop where
 bel:Below B w w'
 oth:Lib.OthersKept 5 (some b) w w'
theorem zf.Kp.refl (B b:Nat) (w:World):zf.Kp B b w w:=⟨Below.refl _ _,Lib.OthersKept.refl _ _ _⟩
theorem zf.Kp.trans {B b:Nat} {w w1 w2:World} (h:zf.Kp B b w w1) (k:zf.Kp B b w1 w2):zf.Kp B b w w2:=⟨h.bel.trans k.bel,h.oth.trans k.oth⟩
theorem zf.Kp.drew {B b:Nat} {w w1:World} (h:zf.Kp B b w w1):zf.Kp B b w w1.drew:=⟨zO h.bel,h.oth⟩
theorem zf.Kp.drewN {B b:Nat} {w w1:World} (h:zf.Kp B b w w1) (n:Nat):zf.Kp B b w (w1.drewN n):=⟨zJ h.bel n,h.oth⟩
theorem zf.Bd.drew {B b:Nat} {l:List UInt8} {w:World} (h:zf.Bd B b l w):zf.Bd B b l w.drew:=h
theorem zf.Bd.drewN {B b:Nat} {l:List UInt8} {w:World} (h:zf.Bd B b l w) (n:Nat):zf.Bd B b l (w.drewN n):=h
theorem zf.bd_at {B b:Nat} {l:List UInt8} {w:World} (h:zf.Bd B b l w):∃ p,Lib.BuilderAt 45 5 B b p (Lib.byteCells l) w:=by
 rcases h with h|h
 ·exact ⟨_,h⟩
 ·exact ⟨_,h⟩
theorem zf.copyCheck' (B b:Nat) (l:List UInt8) (w:World) (h:zf.Bd B b l w) :
  Calls Tryz.prog 54 #[.pointer (some ⟨b,0,none⟩)] w fun e w'=>e=.returned (.tuple #[])∧Lib.BuilderAt 45 5 B b (.pointer (some ⟨b,0,none⟩)) (Lib.byteCells l) w'∧zf.Kp B b w w'∧∀ p:Addr,p.block≠b→w'.cell? p=w.cell? p:=by
 have hsz:(Tryz.prog.info? 43).map (·.size)=some 2:=by kernel_rfl
 obtain ⟨j,hj,hjs⟩:=Option.map_eq_some_iff.1 hsz
 rcases h with h|h
 ·have hc:=h.cell0
  have hsh:=h.shape
  have hf:=h.frozen0
  have H:=Ak h;clear h
  go_enter Tryz.func54,Tryz.ntmps54
  go_wp2
  rw [Lib.run_to_unsafe w ⟨b,0,none⟩ Tryz.underlying41 Tryz.underlying134 hj (by rw [hjs];decide) hsh (Nat.zero_lt_succ 1)]
  simp only [Result.andThen]
  rw [Oper.upon_value]
  go_wp2
  rw [run_callFunc_extern Tryz.func108 (by kernel_rfl) (by kernel_rfl) (by kernel_rfl) (e:=Extern.AbiNoEscape.same) (by kernel_rfl)]
  rw [Lib.run_noEscape]
  simp only [Result.andThen]
  rw [Oper.upon_value]
  go_wp2
  rw [Lib.run_from_unsafe w ⟨b,0,none⟩ Tryz.underlying134 Tryz.underlying41 hj hsh (by kernel_rfl)]
  simp only [Result.andThen]
  rw [Oper.upon_value]
  go_wp2
  go_end0
  exact ⟨rfl,H.out.used _,⟨(Below.refl B w).setCell (p:=⟨b,0,none⟩) H.out.1 _,(Lib.OthersKept.refl _ _ w).setCell ⟨b,0,none⟩ rfl _⟩,fun p hp=>World.cell?_setCell_other _ _ _ _ (fun e=>hp (by subst e;rfl))⟩
 ·have hc:=h.cell0
  have H:=Ak h;clear h
  go_enter Tryz.func54,Tryz.ntmps54
  go_wp2
  rw [Lib.run_neq_ptr_same w _ Tryz.underlying41 hj]
  go_wp2
  go_end0
  exact ⟨rfl,H.out,zf.Kp.refl _ _ _,fun _ _=>rfl⟩
theorem zf.copyCheck (B b:Nat) (l:List UInt8) (w:World) (h:zf.Bd B b l w) :
  Calls Tryz.prog 54 #[.pointer (some ⟨b,0,none⟩)] w fun e w'=>e=.returned (.tuple #[])∧Lib.BuilderAt 45 5 B b (.pointer (some ⟨b,0,none⟩)) (Lib.byteCells l) w'∧zf.Kp B b w w' :=
 (zf.copyCheck' B b l w h).mono fun _ _ h=>⟨h.1,h.2.1,h.2.2.1⟩
theorem zf.jl (l:List UInt8):(Lib.byteCells l).length=l.length:=by simp [Lib.byteCells]
theorem zf.byteCells_str (l:List UInt8) (s:ByteArray):Lib.byteCells l++Lib.strCells s=Lib.byteCells (l++s.data.toList):=by simp [Lib.byteCells,Lib.strCells]
theorem zf.QV (l m:List UInt8):Lib.byteCells l++Lib.byteCells m=Lib.byteCells (l++m):=by simp [Lib.byteCells]
theorem zf.appended {B b:Nat} {v v':Value} {n m:Nat} {xs ys:List Value} {w0 w1 w2:World} (hbk:w1.heap[b]?=some (.cells #[.pointer (some ⟨b,0,none⟩),v] 45 (0,0))) (hB:B≤b) (hne:v.ownBlock≠some b) (hown:w1.ownsRow B 5 1 v n xs) (hown':w2.ownsRow B 5 1 v' m ys) (hg:w1.grownBy w2 v.ownBlock) (hk:zf.Kp B b w0 w1) (hBw:B≤w1.heap.size) :
  (∃ ao k cap,v'=.slice ao k cap)∧w2.cell? ⟨b,0,none⟩=some (.pointer (some ⟨b,0,none⟩))∧w2.cell? ⟨b,1,none⟩=some v∧w2.frozen? ⟨b,1,none⟩=false∧w2.heap[b]?=some (.cells #[.pointer (some ⟨b,0,none⟩),v] 45 (0,0))∧zf.Kp B b w0 (w2.setCell ⟨b,1,none⟩ v'):=by
 have hlt:b<w1.heap.size:=(Array.getElem?_eq_some_iff.1 hbk).1
 have hb2:w2.heap[b]?=some (.cells #[.pointer (some ⟨b,0,none⟩),v] 45 (0,0)):=by
  rw [hg.block b hlt (fun e=>hne e.symm)]
  exact hbk
 refine ⟨?_,by rw [Lib.cell_of_heap hb2];rfl,by rw [Lib.cell_of_heap hb2];rfl,Lib.frozen_of_heap hb2 1,hb2,(hk.bel.grown hg hBw (fun k hk=>(hown.lt k hk).1)).setCell (p:=⟨b,1,none⟩) hB _,(hk.oth.grown hg fun g hgg=>?_).setCell ⟨b,1,none⟩ rfl _⟩
 ·rcases hown'.2 with ⟨hv,_⟩|⟨g,cap,cur,hv,_⟩
  ·exact ⟨_,_,_,hv⟩
  ·exact ⟨_,_,_,hv⟩
 ·obtain ⟨cells,hc⟩:=Xz hown g hgg
  exact ⟨cells,(0,0),hc⟩
theorem zf.writeString (B b:Nat) (l:List UInt8) (s:ByteArray) (w:World) (h:zf.Bd B b l w) (hlen:l.length+s.size≤140737488355328) (hBw:B≤w.heap.size) :
  Calls Tryz.prog 17 #[.pointer (some ⟨b,0,none⟩),.string s] w fun e w'=>e=.returned (.tuple #[.int .i64 s.size,.nilIface])∧zf.Bd B b (l++s.data.toList) w'∧zf.Kp B b w w':=by
 obtain ⟨i0,hi,hz0,hz1,hz2⟩:=info_parts (show (Tryz.prog.info? 5).map (fun i=>(i.zero,i.size,i.bytes))=some (some (.int .u8 0),1,1) by kernel_rfl)
 go_enter Tryz.func17,Tryz.ntmps17
 go_wp2_with (go_at_call 54;refine (zf.copyCheck B b l _ h).mono ?_)
 rintro e w1 ⟨rfl,h1,hk1⟩
 obtain ⟨hB,v,hbk,hown,hne⟩:=h1
 rw [zf.jl] at hown
 have c0:w1.cell? ⟨b,0,none⟩=some (.pointer (some ⟨b,0,none⟩)):=by rw [Lib.cell_of_heap hbk];rfl
 have c1:w1.cell? ⟨b,1,none⟩=some v:=by rw [Lib.cell_of_heap hbk];rfl
 have hBw1:B≤w1.heap.size:=by have:=hk1.bel.size;omega
 go_wp2_with (at_builtin;refine Lib.wpList_append_own_string _ rfl _ _ 22 9 rfl B 5 i0 Tryz.underlying22 Tryz.underlying9 hi hz0 hz1 hz2 _ _ _ rfl hown s rfl (by unfold maxLen;omega) hlen hBw1 ?_)
 intro v' w2 hown' hgrow _
 obtain ⟨⟨ao,n',cap,rfl⟩,d0,d1,f1,hb2,hk2⟩:=zf.appended hbk hB hne hown hown' hgrow hk1 hBw1
 clear c0 c1
 go_wp2
 go_ret2
 exact ⟨rfl,.inr (by rw [← zf.byteCells_str];exact Lib.BuilderAt.put (T:=45) (e:=5) hB hb2 (bs':=Lib.byteCells l++Lib.strCells s) (by simpa [zf.jl,Lib.strCells_length] using hown') (by decide)),hk2⟩
theorem zf.writeByte (B b:Nat) (l:List UInt8) (c:UInt8) (w:World) (h:zf.Bd B b l w) (hlen:l.length+1≤140737488355328) (hBw:B≤w.heap.size) :
  Calls Tryz.prog 55 #[.pointer (some ⟨b,0,none⟩),.int .u8 c.toNat] w fun e w'=>e=.returned .nilIface∧zf.Bd B b (l++[c]) w'∧zf.Kp B b w w':=by
 obtain ⟨i0,hi,hz0,hz1,hz2⟩:=info_parts (show (Tryz.prog.info? 5).map (fun i=>(i.zero,i.size,i.bytes))=some (some (.int .u8 0),1,1) by kernel_rfl)
 go_enter Tryz.func55,Tryz.ntmps55
 go_wp2_with (go_at_call 54;refine (zf.copyCheck B b l _ h).mono ?_)
 rintro e w1 ⟨rfl,h1,hk1⟩
 obtain ⟨hB,v,hbk,hown,hne⟩:=h1
 rw [zf.jl] at hown
 have c0:w1.cell? ⟨b,0,none⟩=some (.pointer (some ⟨b,0,none⟩)):=by rw [Lib.cell_of_heap hbk];rfl
 have c1:w1.cell? ⟨b,1,none⟩=some v:=by rw [Lib.cell_of_heap hbk];rfl
 have hBw1:B≤w1.heap.size:=by have:=hk1.bel.size;omega
 have hlt:b<w1.heap.size:=(Array.getElem?_eq_some_iff.1 hbk).1
 go_wp2_with (at_builtin;refine wpList_append_own _ rfl _ _ 22 rfl B 5 i0 (.int .u8 0) 1 1 Tryz.underlying22 hi hz0 hz1 hz2 rfl (by decide) _ _ _ rfl (hown.alloc _) ⟨w1.heap.size,0,none⟩ 1 1 [.int .u8 c.toNat] rfl rfl ?c1 ?c2 (by unfold maxLen;omega) (by omega) (by simp;omega) ?_)
 case c1 =>
  intro j u hj
  match j,hj with
  | 0,hj=>simp at hj;subst hj;simp [Addr.add]
 case c2=>intro u hu;simp at hu;subst hu;rfl
 intro v' w2 hown' hgrow _
 obtain ⟨⟨ao,n',cap,rfl⟩,d0,d1,f1,hb2,hk2⟩:=zf.appended (w1:=w1.alloc _) ((Lib.alloc_old w1 _ b hlt).trans hbk) hB hne (hown.alloc _) hown' hgrow (w0:=w) ⟨hk1.bel.alloc hBw1 _,hk1.oth.alloc _⟩ (by simp;omega)
 clear c0 c1
 go_wp2
 go_ret
 exact ⟨rfl,.inr (by rw [← zf.QV];exact Lib.BuilderAt.put (T:=45) (e:=5) hB hb2 (bs':=Lib.byteCells l++Lib.byteCells [c]) (by simpa [zf.jl,Lib.byteCells] using hown') (by decide)),hk2⟩
theorem zf.writeBytes (B b:Nat) (l m:List UInt8) (a:Addr) (c:Nat) (w:World) (h:zf.Bd B b l w) (hm:∀ j u,(Lib.byteCells m)[j]?=some u→w.cell? (a.add j)=some u) (hab:a.block≠b) (hlen:l.length+m.length≤140737488355328) (hBw:B≤w.heap.size) :
  Calls Tryz.prog 23 #[.pointer (some ⟨b,0,none⟩),.slice (some a) m.length c] w fun e w'=>(∃ v,e=.returned v)∧zf.Bd B b (l++m) w'∧zf.Kp B b w w':=by
 obtain ⟨i0,hi,hz0,hz1,hz2⟩:=info_parts (show (Tryz.prog.info? 5).map (fun i=>(i.zero,i.size,i.bytes))=some (some (.int .u8 0),1,1) by kernel_rfl)
 have A1:=Ak hm;clear hm
 go_enter Tryz.func23,Tryz.ntmps23
 go_wp2_with (go_at_call 54;refine (zf.copyCheck' B b l _ h).mono ?_)
 rintro e w1 ⟨rfl,h1,hk1,hs1⟩
 obtain ⟨hB,v,hbk,hown,hne⟩:=h1
 rw [zf.jl] at hown
 have c0:w1.cell? ⟨b,0,none⟩=some (.pointer (some ⟨b,0,none⟩)):=by rw [Lib.cell_of_heap hbk];rfl
 have c1:w1.cell? ⟨b,1,none⟩=some v:=by rw [Lib.cell_of_heap hbk];rfl
 have hBw1:B≤w1.heap.size:=by have:=hk1.bel.size;omega
 have hlt:b<w1.heap.size:=(Array.getElem?_eq_some_iff.1 hbk).1
 go_wp2_with (at_builtin;refine wpList_append_own _ rfl _ _ 22 rfl B 5 i0 (.int .u8 0) 1 1 Tryz.underlying22 hi hz0 hz1 hz2 rfl (by decide) _ _ _ rfl hown a m.length c (Lib.byteCells m) rfl (by rw [zf.jl];omega) ?c1 ?c2 (by unfold maxLen;omega) (by omega) hBw1 ?_)
 case c1=>exact fun j u hj=>(hs1 _ (by simp [Addr.add];split <;> simp [hab])).trans (A1.out j u hj)
 case c2=>intro u hu;simp [Lib.byteCells] at hu;obtain ⟨x,_,rfl⟩:=hu;rfl
 intro v' w2 hown' hgrow _
 obtain ⟨⟨ao,n',cap,rfl⟩,d0,d1,f1,hb2,hk2⟩:=zf.appended hbk hB hne hown hown' hgrow hk1 hBw1
 clear c0 c1
 go_wp2
 go_ret2
 exact ⟨⟨_,rfl⟩,.inr (by rw [← zf.QV];exact Lib.BuilderAt.put (T:=45) (e:=5) hB hb2 (bs':=Lib.byteCells l++Lib.byteCells m) (by simpa [zf.jl] using hown') (by decide)),hk2⟩
theorem zf.Bd.below {B b:Nat} {l:List UInt8} {w w':World} (h:zf.Bd B b l w) (hb:Below w.heap.size w w'):zf.Bd B b l w':=by
 have key:∀ p,Lib.BuilderAt 45 5 B b p (Lib.byteCells l) w→Lib.BuilderAt 45 5 B b p (Lib.byteCells l) w':=by
  rintro p ⟨hB,v,hbk,hown,hne⟩
  exact ⟨hB,v,(hb.block b (Array.getElem?_eq_some_iff.1 hbk).1).trans hbk,own_move hown (fun k hk=>hb.block k (own_lt hown k hk)),hne⟩
 rcases h with h|h
 ·exact .inl (key _ h)
 ·exact .inr (key _ h)
theorem zf.Kp.below {B b:Nat} {w w':World} (hBw:B≤w.heap.size) (hb:Below w.heap.size w w'):zf.Kp B b w w':=⟨hb.mono hBw,fun k o hk _ _=>(hb.block k (Array.getElem?_eq_some_iff.1 hk).1).trans hk⟩
theorem zf.Kp.size {B b:Nat} {w w':World} (h:zf.Kp B b w w'):w.heap.size≤w'.heap.size:=h.bel.size
def zf.fb (f:Bool):UInt8:=if f=true then 1 else 0
theorem zf.flag (B b:Nat) (l:List UInt8) (f:Bool) (w:World) (h:zf.Bd B b l w) (hlen:l.length+1≤140737488355328) (hBw:B≤w.heap.size) :
  Calls Tryz.prog 18 #[.pointer (some ⟨b,0,none⟩),.bool f] w fun e w'=>e=.returned (.tuple #[])∧zf.Bd B b (l++[zf.fb f]) w'∧zf.Kp B b w w':=by
 have H:=Ak h;clear h
 go_enter Tryz.func18,Tryz.ntmps18
 cases f
 ·go_wp2_with (go_at_call 55;refine (zf.writeByte B b l 0 _ H.out hlen hBw).mono ?_;rintro e w1 ⟨rfl,h1,k1⟩)
  go_end0
  exact ⟨rfl,h1,k1⟩
 ·go_wp2_with (go_at_call 55;refine (zf.writeByte B b l 1 _ H.out hlen hBw).mono ?_;rintro e w1 ⟨rfl,h1,k1⟩)
  go_end0
  exact ⟨rfl,h1,k1⟩
theorem zf.num (B b:Nat) (l:List UInt8) (n:Int) (k:Nat) (s:ByteArray) (w:World) (h:zf.Bd B b l w) (hs:zy.f k n=some s) (hlen:l.length+s.size≤140737488355328) (hBw:B≤w.heap.size) :
  Calls Tryz.prog 19 #[.pointer (some ⟨b,0,none⟩),.int .i64 n] w fun e w'=>e=.returned (.tuple #[])∧zf.Bd B b (l++s.data.toList) w'∧zf.Kp B b w w':=by
 have H:=Ak h
 have HK:=Ak (zf.Kp.refl B b w)
 have JG:Tryz.prog.follows .mixedOrders=true:=by kernel_rfl
 clear h
 go_enter Tryz.func19,Tryz.ntmps19
 go_wp2
 go_region_with_o (first|(go_at_call 56;refine (zy.calls k n s _ hs).mono ?_;rintro e w1 ⟨rfl,hb1⟩;have hb2:Below w.heap.size w w1:=Below.trans (by repeat (with_reducible first|exact Below.refl _ _|apply zJ|apply zO)) hb1;have H1:zh (zf.Bd B b l w1∧zf.Kp B b w w1):=⟨H.out.below hb2,zf.Kp.below hBw hb2⟩;clear hb1 hb2)|(go_at_call 17;refine (zf.writeString B b l s _ H1.out.1 hlen (by have:=H1.out.2.size;omega)).mono ?_;rintro e w2 ⟨rfl,h2,k2⟩;have H2:zh (zf.Bd B b (l++s.data.toList) w2∧zf.Kp B b w w2):=⟨h2,H1.out.2.trans k2⟩;clear h2 k2))
 all_goals (go_end0;exact ⟨rfl,H2.out⟩)
theorem zf.text (B b:Nat) (l:List UInt8) (x:ByteArray) (k:Nat) (s:ByteArray) (w:World) (h:zf.Bd B b l w) (hs:zy.f k (x.size:Int)=some s) (hlen:l.length+(s.size+x.size)≤140737488355328) (hBw:B≤w.heap.size) :
  Calls Tryz.prog 29 #[.pointer (some ⟨b,0,none⟩),.string x] w fun e w'=>e=.returned (.tuple #[])∧zf.Bd B b (l++(s.data.toList++x.data.toList)) w'∧zf.Kp B b w w':=by
 have H:=Ak h;clear h
 go_enter Tryz.func29,Tryz.ntmps29
 go_wp2_with (first|(go_at_call 19;refine (zf.num B b l _ k s _ H.out hs (by omega) hBw).mono ?_;rintro e w1 ⟨rfl,h1,k1⟩;have H1:=Ak h1;have K1:=Ak k1;clear h1 k1)|(go_at_call 17;refine (zf.writeString B b _ x _ H1.out (by rw [List.length_append];have:s.data.toList.length=s.size:=Array.length_toList;omega) (by have:=K1.out.size;omega)).mono ?_;rintro e w2 ⟨rfl,h2,k2⟩;have H2:=Ak h2;have K2:=Ak k2;clear h2 k2))
 go_end0
 exact ⟨rfl,by rw [← List.append_assoc];exact H2.out,K1.out.trans K2.out⟩
theorem zf.writeByte' (B b:Nat) (l:List UInt8) (c:UInt8) (x:Int) (hx:x=c.toNat) (w:World) (h:zf.Bd B b l w) (hlen:l.length+1≤140737488355328) (hBw:B≤w.heap.size) :
  Calls Tryz.prog 55 #[.pointer (some ⟨b,0,none⟩),.int .u8 x] w fun e w'=>e=.returned .nilIface∧zf.Bd B b (l++[c]) w'∧zf.Kp B b w w':=by
 subst hx
 exact zf.writeByte B b l c w h hlen hBw
def zf.vW (k:Nat) (a0 a1:Int) (a2:ByteArray):Option (List UInt8) :=
 if a0=0 then some [0] else if a0=1 then some [UInt8.ofNat (wrap64 (1+a1) % 256).toNat] else if a0=2 then (Zf.f a1).map fun s=>3::s.data.toList
 else if a0=3 then (zy.f k (a2.size:Int)).map fun t=>4::(t.data.toList++a2.data.toList) else some []
theorem zf.yF {w:World} (o:Obj):Below w.heap.size w (w.alloc o):=(Below.refl _ _).alloc (Nat.le_refl _) _
theorem zf.Bd.lt {B b:Nat} {l:List UInt8} {w:World} (h:zf.Bd B b l w):b<w.heap.size:=by
 obtain ⟨p,h⟩:=zf.bd_at h
 exact h.lt
theorem zf.kept_new {B b:Nat} {w w1:World} {c:Array Value} {t:TypeId} {fr:Nat×Nat} (h:zf.Kp B b (w.alloc (.cells c t fr)) w1) (hlt:b<w.heap.size) (ht:t≠5):w1.heap[w.heap.size]?=some (.cells c t fr) :=
 h.oth _ _ (World.alloc_heap_new w _) (fun e=>by have:=Option.some.inj e;omega) (fun c fz e=>by injection e with _ e _;exact ht e)
theorem zf.value0 (B b:Nat) (l:List UInt8) (a1:Int) (a2:ByteArray) (k:Nat) (m:List UInt8) (w:World) (h:zf.Bd B b l w) (hm:zf.vW k 0 a1 a2=some m) (hlen:l.length+m.length≤140737488355328) (hBw:B≤w.heap.size) :
  Calls Tryz.prog 25 #[.pointer (some ⟨b,0,none⟩),.agg #[.int .i64 0,.int .i64 a1,.string a2]] w fun e w'=>e=.returned (.tuple #[])∧zf.Bd B b (l++m) w'∧zf.Kp B b w w':=by
 have hu85:=Tryz.underlying67
 have JG:Tryz.prog.follows .mixedOrders=true:=by kernel_rfl
 have hb0:=zf.yF (w:=w) (.cells #[.int .i64 0,.int .i64 a1,.string a2] 67)
 have H:=Ak (h.below hb0)
 have K0:=Ak (zf.Kp.below (b:=b) hBw hb0)
 have S0:zh (B≤(w.alloc (.cells #[.int .i64 0,.int .i64 a1,.string a2] 67)).heap.size):=⟨by simp;omega⟩
 have hblt:=h.lt
 clear h hb0
 go_enter Tryz.func25,Tryz.ntmps25
 unfold zf.vW at hm
 rw [if_pos rfl] at hm
 obtain rfl:=Option.some.inj hm
 have hlen1:l.length+1≤140737488355328:=by rw [List.length_singleton] at hlen;exact hlen
 clear hm hlen
 go_wp2_with (go_at_call 55;refine (zf.writeByte B b l 0 _ H.out hlen1 S0.out).mono ?_;rintro e w1 ⟨rfl,h1,k1⟩)
 go_end0
 exact ⟨rfl,h1,K0.out.trans k1⟩
theorem zf.value1 (B b:Nat) (l:List UInt8) (a1:Int) (a2:ByteArray) (k:Nat) (m:List UInt8) (w:World) (h:zf.Bd B b l w) (hm:zf.vW k 1 a1 a2=some m) (hlen:l.length+m.length≤140737488355328) (hBw:B≤w.heap.size) :
  Calls Tryz.prog 25 #[.pointer (some ⟨b,0,none⟩),.agg #[.int .i64 1,.int .i64 a1,.string a2]] w fun e w'=>e=.returned (.tuple #[])∧zf.Bd B b (l++m) w'∧zf.Kp B b w w':=by
 have hu85:=Tryz.underlying67
 have JG:Tryz.prog.follows .mixedOrders=true:=by kernel_rfl
 have hb0:=zf.yF (w:=w) (.cells #[.int .i64 1,.int .i64 a1,.string a2] 67)
 have H:=Ak (h.below hb0)
 have K0:=Ak (zf.Kp.below (b:=b) hBw hb0)
 have S0:zh (B≤(w.alloc (.cells #[.int .i64 1,.int .i64 a1,.string a2] 67)).heap.size):=⟨by simp;omega⟩
 have hblt:=h.lt
 clear h hb0
 go_enter Tryz.func25,Tryz.ntmps25
 unfold zf.vW at hm
 rw [if_neg (by decide),if_pos rfl] at hm
 obtain rfl:=Option.some.inj hm
 clear hm
 have hlen1:l.length+1≤140737488355328:=by rw [List.length_singleton] at hlen;exact hlen
 clear hlen
 have hx1:IntKind.u8.wrap (IntKind.i64.wrap (1+a1))=((UInt8.ofNat (wrap64 (1+a1) % 256).toNat).toNat:Int):=by
  rw [IntKind.wrap_u8,IntKind.wrap_i64]
  have:=UInt8.toNat_ofNat' (n:=(wrap64 (1+a1) % 256).toNat)
  rw [this]
  unfold wrap64
  omega
 have HX1:=Ak hx1;clear hx1
 go_wp2
 go_region_with_o (go_at_call 55;refine (zf.writeByte' B b l _ _ HX1.out _ ?hb hlen1 ?hs).mono ?_;(case hb=>repeat (with_reducible first|exact H.out|apply zf.Bd.drewN|apply zf.Bd.drew));(case hs=>exact S0.out);rintro e w1 ⟨rfl,h1,k1⟩;have H1:=Ak h1;have K1:zh (zf.Kp B b w w1):=⟨K0.out.trans (zf.Kp.trans (by repeat (with_reducible first|exact zf.Kp.refl _ _ _|apply zf.Kp.drewN|apply zf.Kp.drew)) k1)⟩;clear h1 k1)
 all_goals (go_end0;exact ⟨rfl,H1.out,K1.out⟩)
theorem zf.value2 (B b:Nat) (l:List UInt8) (a1:Int) (a2:ByteArray) (k:Nat) (m:List UInt8) (w:World) (h:zf.Bd B b l w) (hm:zf.vW k 2 a1 a2=some m) (hlen:l.length+m.length≤140737488355328) (hBw:B≤w.heap.size) :
  Calls Tryz.prog 25 #[.pointer (some ⟨b,0,none⟩),.agg #[.int .i64 2,.int .i64 a1,.string a2]] w fun e w'=>e=.returned (.tuple #[])∧zf.Bd B b (l++m) w'∧zf.Kp B b w w':=by
 have hu85:=Tryz.underlying67
 have JG:Tryz.prog.follows .mixedOrders=true:=by kernel_rfl
 have hb0:=zf.yF (w:=w) (.cells #[.int .i64 2,.int .i64 a1,.string a2] 67)
 have H:=Ak (h.below hb0)
 have K0:=Ak (zf.Kp.below (b:=b) hBw hb0)
 have S0:zh (B≤(w.alloc (.cells #[.int .i64 2,.int .i64 a1,.string a2] 67)).heap.size):=⟨by simp;omega⟩
 have hblt:=h.lt
 clear h hb0
 go_enter Tryz.func25,Tryz.ntmps25
 unfold zf.vW at hm
 rw [if_neg (by decide),if_neg (by decide),if_pos rfl] at hm
 obtain ⟨s,hs,rfl⟩:=Option.map_eq_some_iff.1 hm
 have hl:s.data.toList.length=s.size:=Array.length_toList
 have HL:zh (l.length+1+s.size≤140737488355328):=⟨by rw [List.length_cons] at hlen;omega⟩
 clear hm hlen hl
 go_wp2_with (go_at_call 55;refine (zf.writeByte B b l 3 _ H.out (by have:=HL.out;omega) S0.out).mono ?_;rintro e w1 ⟨rfl,h1,k1⟩;have q1:w1.cell? ⟨w.heap.size,1,none⟩=some (.int .i64 a1):=(Lib.cell_of_heap (zf.kept_new k1 hblt (by decide)) 1).trans rfl;have H1:zh (zf.Bd B b (l++[3]) w1):=⟨h1⟩;have K1:zh (zf.Kp B b w w1):=⟨K0.out.trans k1⟩;clear h1 k1)
 go_region_with_o (first|(go_at_call 57;refine (Zf.calls a1 s _ hs).mono ?_;rintro e w2 ⟨rfl,hb2⟩;have hb3:Below w1.heap.size w1 w2:=Below.trans (by repeat (with_reducible first|exact Below.refl _ _|apply zJ|apply zO)) hb2;have H2:zh (zf.Bd B b (l++[3]) w2∧zf.Kp B b w w2):=⟨H1.out.below hb3,K1.out.trans (zf.Kp.below (by have:=K1.out.size;omega) hb3)⟩;clear hb2 hb3)|(go_at_call 17;refine (zf.writeString B b _ s _ H2.out.1 (by have:=HL.out;simp;omega) (by have:=H2.out.2.size;omega)).mono ?_;rintro e w3 ⟨rfl,h3,k3⟩;have H3:=Ak h3;have K3:=Ak (H2.out.2.trans k3);clear h3 k3))
 all_goals (go_end0;exact ⟨rfl,by have:=H3.out;rw [List.append_assoc] at this;exact this,K3.out⟩)
theorem zf.value3 (B b:Nat) (l:List UInt8) (a1:Int) (a2:ByteArray) (k:Nat) (m:List UInt8) (w:World) (h:zf.Bd B b l w) (hm:zf.vW k 3 a1 a2=some m) (hlen:l.length+m.length≤140737488355328) (hBw:B≤w.heap.size) :
  Calls Tryz.prog 25 #[.pointer (some ⟨b,0,none⟩),.agg #[.int .i64 3,.int .i64 a1,.string a2]] w fun e w'=>e=.returned (.tuple #[])∧zf.Bd B b (l++m) w'∧zf.Kp B b w w':=by
 have hu85:=Tryz.underlying67
 have JG:Tryz.prog.follows .mixedOrders=true:=by kernel_rfl
 have hb0:=zf.yF (w:=w) (.cells #[.int .i64 3,.int .i64 a1,.string a2] 67)
 have H:=Ak (h.below hb0)
 have K0:=Ak (zf.Kp.below (b:=b) hBw hb0)
 have S0:zh (B≤(w.alloc (.cells #[.int .i64 3,.int .i64 a1,.string a2] 67)).heap.size):=⟨by simp;omega⟩
 have hblt:=h.lt
 clear h hb0
 go_enter Tryz.func25,Tryz.ntmps25
 unfold zf.vW at hm
 rw [if_neg (by decide),if_neg (by decide),if_neg (by decide),if_pos rfl] at hm
 obtain ⟨s,hs,rfl⟩:=Option.map_eq_some_iff.1 hm
 have hl:s.data.toList.length=s.size:=Array.length_toList
 have hl2:a2.data.toList.length=a2.size:=Array.length_toList
 have HL:zh (l.length+1+(s.size+a2.size)≤140737488355328):=⟨by rw [List.length_cons,List.length_append] at hlen;omega⟩
 clear hm hlen hl hl2
 go_wp2_with (first|(go_at_call 55;refine (zf.writeByte B b l 4 _ H.out (by have:=HL.out;omega) S0.out).mono ?_;rintro e w1 ⟨rfl,h1,k1⟩;have q1:w1.cell? ⟨w.heap.size,2,none⟩=some (.string a2):=(Lib.cell_of_heap (zf.kept_new k1 hblt (by decide)) 2).trans rfl;have H1:zh (zf.Bd B b (l++[4]) w1):=⟨h1⟩;have K1:zh (zf.Kp B b w w1):=⟨K0.out.trans k1⟩;clear h1 k1)|(go_at_call 29;refine (zf.text B b _ a2 k s _ H1.out hs (by have:=HL.out;simp;omega) (by have:=K1.out.size;omega)).mono ?_;rintro e w2 ⟨rfl,h2,k2⟩;have H2:=Ak h2;have K2:=Ak (K1.out.trans k2);clear h2 k2))
 go_end0
 exact ⟨rfl,by have:=H2.out;rw [List.append_assoc] at this;exact this,K2.out⟩
theorem zf.value4 (B b:Nat) (l:List UInt8) (a0 a1:Int) (a2:ByteArray) (k:Nat) (m:List UInt8) (w:World) (h:zf.Bd B b l w) (h0:a0≠0) (h1:a0≠1) (h2:a0≠2) (h3:a0≠3) (hm:zf.vW k a0 a1 a2=some m) (hlen:l.length+m.length≤140737488355328) (hBw:B≤w.heap.size) :
  Calls Tryz.prog 25 #[.pointer (some ⟨b,0,none⟩),.agg #[.int .i64 a0,.int .i64 a1,.string a2]] w fun e w'=>e=.returned (.tuple #[])∧zf.Bd B b (l++m) w'∧zf.Kp B b w w':=by
 have hu85:=Tryz.underlying67
 have JG:Tryz.prog.follows .mixedOrders=true:=by kernel_rfl
 have hb0:=zf.yF (w:=w) (.cells #[.int .i64 a0,.int .i64 a1,.string a2] 67)
 have H:=Ak (h.below hb0)
 have K0:=Ak (zf.Kp.below (b:=b) hBw hb0)
 have S0:zh (B≤(w.alloc (.cells #[.int .i64 a0,.int .i64 a1,.string a2] 67)).heap.size):=⟨by simp;omega⟩
 have hblt:=h.lt
 clear h hb0
 go_enter Tryz.func25,Tryz.ntmps25
 unfold zf.vW at hm
 rw [if_neg h0,if_neg h1,if_neg h2,if_neg h3] at hm
 obtain rfl:=Option.some.inj hm
 have e0:(a0 == 0)=false:=bF h0
 have e1:(a0 == 1)=false:=bF h1
 have e2:(a0 == 2)=false:=bF h2
 have e3:(a0 == 3)=false:=bF h3
 clear hm
 go_wp2
 go_end0
 exact ⟨rfl,by rw [List.append_nil];exact H.out,K0.out⟩
theorem zf.value (B b:Nat) (l:List UInt8) (a0 a1:Int) (a2:ByteArray) (k:Nat) (m:List UInt8) (w:World) (h:zf.Bd B b l w) (hm:zf.vW k a0 a1 a2=some m) (hlen:l.length+m.length≤140737488355328) (hBw:B≤w.heap.size) :
  Calls Tryz.prog 25 #[.pointer (some ⟨b,0,none⟩),.agg #[.int .i64 a0,.int .i64 a1,.string a2]] w fun e w'=>e=.returned (.tuple #[])∧zf.Bd B b (l++m) w'∧zf.Kp B b w w':=by
 by_cases h0:a0=0
 ·subst h0;exact zf.value0 B b l a1 a2 k m w h hm hlen hBw
 ·by_cases h1:a0=1
  ·subst h1;exact zf.value1 B b l a1 a2 k m w h hm hlen hBw
  ·by_cases h2:a0=2
   ·subst h2;exact zf.value2 B b l a1 a2 k m w h hm hlen hBw
   ·by_cases h3:a0=3
    ·subst h3;exact zf.value3 B b l a1 a2 k m w h hm hlen hBw
    ·exact zf.value4 B b l a0 a1 a2 k m w h h0 h1 h2 h3 hm hlen hBw
theorem zf.word (x:Int) (w:World) (h0:0≤x) (h1:x≤4294967295) :
  Calls Tryz.prog 22 #[.int .u32 x] w fun e w'=>e=.returned (.agg #[.int .u8 (x % 256),.int .u8 (x / 256 % 256),.int .u8 (x / 65536 % 256),.int .u8 (x / 16777216 % 256)])∧Below w.heap.size w w':=by
 have hu79:=Tryz.underlying61
 go_enter Tryz.func22,Tryz.ntmps22
 have e4:x / 16777216=x / 16777216 % 256:=by omega
 have E4:=Ak e4;clear e4
 go_wp2
 refine bodyPost_ret (results_cell_row (P:=Tryz.prog) rfl _ _ w.heap.size 61 #[.int .u8 (x % 256),.int .u8 (x / 256 % 256),.int .u8 (x / 65536 % 256),.int .u8 (x / 16777216)] (0,0) _ rfl (World.alloc_heap_new w _) hu79 rfl (by kernel_rfl)) rfl ?_
 exact ⟨by rw [← E4.out],zf.yF _⟩
def zf.vS (x:Int):List UInt8:=[UInt8.ofNat (x % 256).toNat,UInt8.ofNat (x / 256 % 256).toNat,UInt8.ofNat (x / 65536 % 256).toNat,UInt8.ofNat (x / 16777216 % 256).toNat]
theorem zf.byte_of (y:Int):(((UInt8.ofNat (y % 256).toNat).toNat:Nat):Int)=y % 256:=by
 rw [UInt8.toNat_ofNat']
 omega
theorem zf.wbytes_cells (x:Int):Lib.byteCells (zf.vS x)=[.int .u8 (x % 256),.int .u8 (x / 256 % 256),.int .u8 (x / 65536 % 256),.int .u8 (x / 16777216 % 256)]:=by
 simp only [zf.vS,Lib.byteCells,List.map_cons,List.map_nil,zf.byte_of]
theorem zf.writeBytes' (B b:Nat) (l m:List UInt8) (n:Nat) (hn:m.length=n) (a:Addr) (c:Nat) (w:World) (h:zf.Bd B b l w) (hm:∀ j u,(Lib.byteCells m)[j]?=some u→w.cell? (a.add j)=some u) (hab:a.block≠b) (hlen:l.length+n≤140737488355328) (hBw:B≤w.heap.size) :
  Calls Tryz.prog 23 #[.pointer (some ⟨b,0,none⟩),.slice (some a) n c] w fun e w'=>(∃ v,e=.returned v)∧zf.Bd B b (l++m) w'∧zf.Kp B b w w':=by
 subst hn
 exact zf.writeBytes B b l m a c w h hm hab hlen hBw
theorem zf.dump1 (B b c:Nat) (l:List UInt8) (x:Int) (w:World) (h:zf.Bd B b l w) (hc:w.heap[c]?=some (.cells #[.pointer (some ⟨b,0,none⟩)] 40 (0,0))) (h0:0≤x) (h1:x≤4294967295) (hlen:l.length+4≤140737488355328) (hBw:B≤w.heap.size) :
  Calls Tryz.prog 21 #[.int .u32 x,.pointer (some ⟨c,0,none⟩)] w fun e w'=>e=.returned (.tuple #[])∧zf.Bd B b (l++zf.vS x) w'∧zf.Kp B b w w':=by
 have hu79:=Tryz.underlying61
 have JG:Tryz.prog.follows .mixedOrders=true:=by kernel_rfl
 have H:=Ak h;have HC:=Ak hc;clear h hc
 go_enter Tryz.func21,Tryz.ntmps21
 go_wp2_with (go_at_call 22;refine (zf.word x _ h0 h1).mono ?_;rintro e w1 ⟨rfl,hb1⟩;have HB1:=Ak hb1;clear hb1)
 have hb2:Below w.heap.size w (w1.alloc (.cells #[.int .u8 (x % 256),.int .u8 (x / 256 % 256),.int .u8 (x / 65536 % 256),.int .u8 (x / 16777216 % 256)] 61)):=HB1.out.alloc HB1.out.size _
 obtain ⟨w2,hw2⟩:∃ w2,w1.alloc (.cells #[.int .u8 (x % 256),.int .u8 (x / 256 % 256),.int .u8 (x / 65536 % 256),.int .u8 (x / 16777216 % 256)] 61)=w2:=⟨_,rfl⟩
 have hg:w2.heap[w1.heap.size]?=some (.cells #[.int .u8 (x % 256),.int .u8 (x / 256 % 256),.int .u8 (x / 65536 % 256),.int .u8 (x / 16777216 % 256)] 61 (0,0)):=by rw [← hw2];exact World.alloc_heap_new w1 _
 rw [hw2] at hb2 ⊢
 have q1:w2.cell? ⟨c,0,none⟩=some (.pointer (some ⟨b,0,none⟩)):=(Lib.cell_of_heap ((hb2.block c (Array.getElem?_eq_some_iff.1 HC.out).1).trans HC.out) 0).trans rfl
 have hne:w1.heap.size≠b:=by have:=H.out.lt;have:=HB1.out.size;omega
 have H2:=Ak (H.out.below hb2)
 have K2:=Ak (zf.Kp.below (b:=b) hBw hb2)
 have HS:zh (B≤w2.heap.size):=⟨by have:=hb2.size;omega⟩
 have HG:zh (∀ j u,(Lib.byteCells (zf.vS x))[j]?=some u→w2.cell? ((⟨w1.heap.size,0,none⟩:Addr).add j)=some u):=⟨fun j u hj=>by
  rw [zf.wbytes_cells] at hj
  rw [add_plain];(try rw [Nat.zero_add]);rw [Lib.cell_of_heap hg]
  rw [← hj]
  exact List.getElem?_toArray ..⟩
 clear hw2 hb2 HB1
 go_region_with_o (go_at_call 23;refine (zf.writeBytes' B b l (zf.vS x) 4 rfl ⟨w1.heap.size,0,none⟩ 4 _ ?hb ?hm hne hlen ?hs).mono ?_;(case hb=>exact H2.out);(case hm=>exact HG.out);(case hs=>exact HS.out);rintro e w3 ⟨⟨v,rfl⟩,h3,k3⟩;have H3:=Ak h3;have K3:zh (zf.Kp B b w w3):=⟨K2.out.trans (zf.Kp.trans (by repeat (with_reducible first|exact zf.Kp.refl _ _ _|apply zf.Kp.drewN|apply zf.Kp.drew)) k3)⟩;clear h3 k3)
 all_goals (go_end0;exact ⟨rfl,H3.out,K3.out⟩)
theorem zf.bit_len (f:Bool):[zf.fb f].length=1:=rfl
theorem zf.dump2 (B b c:Nat) (l:List UInt8) (f:Bool) (n:Int) (k:Nat) (s:ByteArray) (w:World) (h:zf.Bd B b l w) (hc:w.heap[c]?=some (.cells #[.pointer (some ⟨b,0,none⟩)] 40 (0,0))) (hcb:c≠b) (hs:zy.f k n=some s) (hlen:l.length+(1+s.size)≤140737488355328) (hBw:B≤w.heap.size) :
  Calls Tryz.prog 27 #[.agg #[.bool f,.int .i64 n],.pointer (some ⟨c,0,none⟩)] w fun e w'=>e=.returned (.tuple #[])∧zf.Bd B b (l++(zf.fb f::s.data.toList)) w'∧zf.Kp B b w w':=by
 have hu89:=Tryz.underlying71
 have hb0:=zf.yF (w:=w) (.cells #[.bool f,.int .i64 n] 71)
 have H:=Ak (h.below hb0)
 have K0:=Ak (zf.Kp.below (b:=b) hBw hb0)
 have S0:zh (B≤(w.alloc (.cells #[.bool f,.int .i64 n] 71)).heap.size):=⟨by simp;omega⟩
 have hblt:=h.lt
 have hclt:c<w.heap.size:=(Array.getElem?_eq_some_iff.1 hc).1
 have HC:zh ((w.alloc (.cells #[.bool f,.int .i64 n] 71)).heap[c]?=some (.cells #[.pointer (some ⟨b,0,none⟩)] 40 (0,0))):=⟨(hb0.block c hclt).trans hc⟩
 have q0:=(Lib.cell_of_heap HC.out 0).trans rfl
 have HL:zh (l.length+(1+s.size)≤140737488355328):=⟨hlen⟩
 have HSS:=Ak hs;clear h hb0 hc hlen hs
 go_enter Tryz.func27,Tryz.ntmps27
 go_wp2_with (first|(go_at_call 18;refine (zf.flag B b l f _ H.out (by have:=HL.out;omega) S0.out).mono ?_;rintro e w1 ⟨rfl,h1,k1⟩;have q1:w1.cell? ⟨w.heap.size,1,none⟩=some (.int .i64 n):=(Lib.cell_of_heap (zf.kept_new k1 hblt (by decide)) 1).trans rfl;have q2:w1.cell? ⟨c,0,none⟩=some (.pointer (some ⟨b,0,none⟩)):=(Lib.cell_of_heap (k1.oth c _ HC.out (fun e=>hcb (Option.some.inj e)) (fun _ _ e=>by cases e)) 0).trans rfl;have H1:=Ak h1;have K1:=Ak (K0.out.trans k1);clear h1 k1)|(go_at_call 19;refine (zf.num B b _ n k s _ H1.out HSS.out (by rw [List.length_append,zf.bit_len];have:=HL.out;omega) (by have:=K1.out.size;omega)).mono ?_;rintro e w2 ⟨rfl,h2,k2⟩;have H2:=Ak h2;have K2:=Ak (K1.out.trans k2);clear h2 k2))
 go_end0
 exact ⟨rfl,by have:=H2.out;rw [List.append_assoc] at this;exact this,K2.out⟩
theorem zf.str (B b:Nat) (l:List UInt8) (w:World) (h:zf.Bd B b l w) (h0:l≠[]) :
  Calls Tryz.prog 32 #[.pointer (some ⟨b,0,none⟩)] w fun e w'=>e=.returned (.string ⟨l.toArray⟩)∧Below B w w':=by
 obtain ⟨p,hB,v,hbk,hown,hne⟩:=zf.bd_at h
 have hl0:l.length≠0:=by simpa using h0
 rw [zf.jl] at hown
 obtain ⟨g,cap,cur,rfl,hbg,hg,hnc,hcm,hcs,htake⟩:∃ g cap cur,v=.slice (some ⟨g,0,none⟩) l.length cap∧B≤g∧w.heap[g]?=some (.cells cur 5 (0,0))∧l.length≤cap∧cap≤maxLen∧cur.size=cap*1∧cur.toList.take (l.length*1)=Lib.byteCells l:=by
  rcases hown.2 with ⟨_,hz⟩|⟨g,cap,cur,hv,r⟩
  ·exact absurd hz hl0
  ·exact ⟨g,cap,cur,hv,r⟩
 have c1:w.drew.cell? ⟨b,1,none⟩=some (.slice (some ⟨g,0,none⟩) l.length cap):=by
  have:w.drew.heap[b]?=some (.cells #[p,.slice (some ⟨g,0,none⟩) l.length cap] 45 (0,0)):=hbk
  rw [Lib.cell_of_heap this];rfl
 have hSD:(Builtin.unsafeSliceData_ #[22] 111 #[.slice (some ⟨g,0,none⟩) l.length cap]).run Tryz.prog w.drew=.ok (.pointer (some ⟨g,0,none⟩)) w.drew :=
  Lib.run_unsafeSliceData_row _ _ _ _ _ _ (by omega)
 have hUS:(Builtin.unsafeString_ #[111,3] 9 #[.pointer (some ⟨g,0,none⟩),.int .i64 l.length]).run Tryz.prog w.drew=.ok (.string ⟨l.toArray⟩) (w.drew.freeze ⟨g,0,none⟩ l.length):=by
  refine Lib.run_unsafeString_row w.drew 111 3 9 5 Tryz.underlying111 (by kernel_rfl) g cur.size (by have hg':w.drew.heap[g]?=some (.cells cur 5 (0,0)):=hg;simp [World.shape?,hg']) l h0 (by omega) (by unfold maxLen at hcm;omega) ?_
  intro j x hx
  have:=hown.cells (g:=g) rfl j (.int .u8 x.toNat) (by simp [Lib.byteCells,hx])
  exact this
 have JG:Tryz.prog.follows .mixedOrders=true:=by kernel_rfl
 go_enter Tryz.func32,Tryz.ntmps32
 go_wp2
 go_region_o
 all_goals (go_wp2;go_ret;exact ⟨rfl,Lib.below_freeze (Below.drew (Below.refl B w)) (p:=⟨g,0,none⟩) hbg _⟩)
def zf.QW {α:Type} (g:α→Option (List UInt8)):List α→Option (List UInt8)
 | []=>some []
 | x::xs=>(g x).bind fun a=>(zf.QW g xs).bind fun r=>some (a++r)
theorem zf.ZM {α:Type} {g:α→Option (List UInt8)} {xs:List α} {j:Nat} (hj:j<xs.length) {r:List UInt8} (h:zf.QW g (xs.drop j)=some r):∃ a r',g xs[j]=some a∧zf.QW g (xs.drop (j+1))=some r'∧r=a++r':=by
 rw [List.drop_eq_getElem_cons hj,zf.QW] at h
 obtain ⟨a,ha,h⟩:=Option.bind_eq_some_iff.1 h
 obtain ⟨r',hr,h⟩:=Option.bind_eq_some_iff.1 h
 exact ⟨a,r',ha,hr,(Option.some.inj h).symm⟩
theorem zf.listed38 (B b c:Nat) (l:List UInt8) (xs:List Int) (A:Option Addr) (cp:Nat) (k:Nat) (s:ByteArray) (m:List UInt8) (w0 w:World) (h:zf.Bd B b l w) (hB:w0.heap.size=B) (hbel:Below B w0 w) (hr:Kd.C (Kd.int .u32) w0 A xs.length xs) (hc:w.heap[c]?=some (.cells #[.pointer (some ⟨b,0,none⟩)] 40 (0,0))) (hcb:c≠b) (hs:zy.f k (xs.length:Int)=some s) (hm:zf.QW (fun x=>some (zf.vS x)) xs=some m) (hx01:∀ x ∈ xs,0≤x∧x≤4294967295) (hlen:l.length+(s.size+m.length)≤140737488355328) (hBw:B≤w.heap.size) :
  Calls Tryz.prog 20 #[.pointer (some ⟨b,0,none⟩),.slice A xs.length cp,.func (.func 21) #[] #[.pointer (some ⟨c,0,none⟩)]] w fun e w'=>e=.returned (.tuple #[])∧zf.Bd B b (l++(s.data.toList++m)) w'∧zf.Kp B b w w':=by
 have JG:Tryz.prog.follows .mixedOrders=true:=by kernel_rfl
 have hsl:s.data.toList.length=s.size:=Array.length_toList
 have hxl:xs.length≤9223372036854775807:=hr.2.1
 have H:=Ak h;have HR:=Ak hr;have HB:=Ak hbel;have HS:=Ak hs;have HM:=Ak hm
 have HL:zh (l.length+(s.data.toList.length+m.length)≤140737488355328):=⟨by omega⟩
 have HN:zh (l.length+s.size≤140737488355328):=⟨by omega⟩
 have HX:=Ak hxl
 obtain ⟨T,hT⟩:∃ T,l++(s.data.toList++m)=T:=⟨_,rfl⟩
 have HTL:zh (T.length≤140737488355328):=⟨by rw [← hT,List.length_append,List.length_append];omega⟩
 have HT:=Ak hT
 rw [hT]
 have HCC:=Ak hc;clear h hr hbel hs hm hlen hsl hxl hT hc
 subst hB
 go_enter Tryz.func20,Tryz.ntmps20
 go_wp2_with (go_at_call 19;refine (zf.num _ b l _ k s _ H.out HS.out HN.out hBw).mono ?_;rintro e w1 ⟨rfl,h1,k1⟩;have H1:=Ak h1;have K1:=Ak k1;clear h1 k1)
 go_loopg [14] xs.length (fun kq v14 W'=>∃ (j:Nat) (l' r:List UInt8),v14=.int .i64 (j:Int)∧zh (kq=xs.length-j∧j≤xs.length)∧zh (zf.Bd w0.heap.size b l' W'∧zf.QW (fun x=>some (zf.vS x)) (xs.drop j)=some r∧l'++r=T∧zf.Kp w0.heap.size b w W'))
 case atStart=>exact ⟨0,l++s.data.toList,m,rfl,⟨by omega⟩,⟨H1.out,by simpa using HM.out,by rw [List.append_assoc];exact HT.out,K1.out⟩⟩
 case round =>
  obtain ⟨j,l',r,rfl,HJ,HV⟩:=hrel
  clear H1 K1
  by_cases hj:j<xs.length
  ·obtain ⟨a,r',ha,hr',rfl⟩:=zf.ZM hj HV.out.2.1
   have bel:Below w0.heap.size w0 wr:=HB.out.trans HV.out.2.2.2.bel
   obtain ⟨ad,cc,rfl,_,hK,hcell⟩:=Kd.C_get (Kd.zY HR.out bel) (0:Int) (j:Int) (by omega) (by omega)
   have hK2:cc=[.int .u32 xs[j]]:=by have e:xs.getD (j:Int).toNat (0:Int)=xs[j]:=(by simp [List.getD,hj]);rw [e] at hK;exact hK
   subst hK2
   have q1:wr.cell? (ad.add j)=some (.int .u32 xs[j]):=by have:=hcell 0 _ rfl;simpa [Kd.int,Kd.scalar] using this
   obtain ⟨x,hx⟩:∃ x,xs[j]=x:=⟨_,rfl⟩
   have HXX:=Ak hx
   rw [hx] at q1 ha
   clear hcell hK hx;have HA:=Ak ha
   have HR':=Ak hr'
   have t1:decide ((j:Int)<(xs.length:Int))=true:=dt (by omega)
   have t2:((j:Int)<(xs.length:Int))=True:=eq_true (by omega)
   have t3:(j<xs.length)=True:=eq_true hj
   have t4:IntKind.i64.wrap ((j:Int)+1)=(j:Int)+1:=by rw [IntKind.wrap_i64];have:=HX.out;omega
   have HLL:zh (l'.length+a.length≤140737488355328):=⟨by have h1:=HV.out.2.2.1;have h2:=HTL.out;rw [← h1,List.length_append,List.length_append] at h2;omega⟩
   have HBW:zh (w0.heap.size≤wr.heap.size):=⟨bel.size⟩
   obtain ⟨gm,hgm⟩:∃ gm,gk=gm+1:=⟨gk-1,by have:=HJ.out;omega⟩
   have HGM:=Ak hgm
   have hxr:=hx01 x (by rw [← HXX.out];exact List.getElem_mem hj)
   obtain rfl:a=zf.vS x:=(Option.some.inj HA.out).symm
   have HL4:zh (l'.length+4≤140737488355328):=⟨by have:=HLL.out;rw [show (zf.vS x).length=4 from rfl] at this;exact this⟩
   have hcx:=(HV.out.2.2.2.oth c _ HCC.out (fun e=>hcb (Option.some.inj e)) (fun _ _ e=>by cases e))
   have HCX:=Ak hcx;clear hcx;clear ha hr' bel hgm
   go_wp2_with (go_at_call 21;refine (zf.dump1 _ b c l' x _ HV.out.1 HCX.out hxr.1 hxr.2 HL4.out HBW.out).mono ?_;rintro e w2 ⟨rfl,h2,k2⟩;have H2:=Ak h2;have K2:=Ak (HV.out.2.2.2.trans k2);clear h2 k2)
   have hgk:=HGM.out
   subst hgk
   go_roundg gm
   case measure=>have:=HJ.out;omega
   case rel=>exact ⟨j+1,_,r',by simp,⟨by have:=HJ.out;omega⟩,⟨H2.out,HR'.out,by rw [List.append_assoc];exact HV.out.2.2.1,K2.out⟩⟩
  ·have hje:j=xs.length:=by have:=HJ.out;omega
   subst hje
   have t1:decide ((xs.length:Int)<(xs.length:Int))=false:=df (by omega)
   have hv:=HV.out
   obtain ⟨h1,h2,h3,h4⟩:=hv
   rw [List.drop_length] at h2
   obtain rfl:=Option.some.inj h2
   rw [List.append_nil] at h3
   subst h3
   have H5:=Ak h1;have K5:=Ak h4;clear h1 h2 h4 HV HT HTL
   go_wp2
   go_end0
   exact ⟨rfl,H5.out,K5.out⟩
theorem zf.listed42 (B b:Nat) (l:List UInt8) (xs:List S67) (A:Option Addr) (cp:Nat) (k:Nat) (s:ByteArray) (m:List UInt8) (w0 w:World) (h:zf.Bd B b l w) (hB:w0.heap.size=B) (hbel:Below B w0 w) (hr:Kd.C k67 w0 A xs.length xs) (hs:zy.f k (xs.length:Int)=some s) (hm:zf.QW (fun x:S67=>zf.vW k x.f0 x.f1 x.f2) xs=some m) (hlen:l.length+(s.size+m.length)≤140737488355328) (hBw:B≤w.heap.size) :
  Calls Tryz.prog 24 #[.pointer (some ⟨b,0,none⟩),.slice A xs.length cp,.func (.func 25) #[.pointer (some ⟨b,0,none⟩)] #[]] w fun e w'=>e=.returned (.tuple #[])∧zf.Bd B b (l++(s.data.toList++m)) w'∧zf.Kp B b w w':=by
 have hu85:=Tryz.underlying67
 have JG:Tryz.prog.follows .mixedOrders=true:=by kernel_rfl
 have hsl:s.data.toList.length=s.size:=Array.length_toList
 have hxl:xs.length≤9223372036854775807:=hr.2.1
 have H:=Ak h;have HR:=Ak hr;have HB:=Ak hbel;have HS:=Ak hs;have HM:=Ak hm
 have HL:zh (l.length+(s.data.toList.length+m.length)≤140737488355328):=⟨by omega⟩
 have HN:zh (l.length+s.size≤140737488355328):=⟨by omega⟩
 have HX:=Ak hxl
 obtain ⟨T,hT⟩:∃ T,l++(s.data.toList++m)=T:=⟨_,rfl⟩
 have HTL:zh (T.length≤140737488355328):=⟨by rw [← hT,List.length_append,List.length_append];omega⟩
 have HT:=Ak hT
 rw [hT]
 clear h hr hbel hs hm hlen hsl hxl hT
 subst hB
 go_enter Tryz.func24,Tryz.ntmps24
 go_wp2_with (go_at_call 19;refine (zf.num _ b l _ k s _ H.out HS.out HN.out hBw).mono ?_;rintro e w1 ⟨rfl,h1,k1⟩;have H1:=Ak h1;have K1:=Ak k1;clear h1 k1)
 go_loopg [14] xs.length (fun kq v14 W'=>∃ (j:Nat) (l' r:List UInt8),v14=.int .i64 (j:Int)∧zh (kq=xs.length-j∧j≤xs.length)∧zh (zf.Bd w0.heap.size b l' W'∧zf.QW (fun x:S67=>zf.vW k x.f0 x.f1 x.f2) (xs.drop j)=some r∧l'++r=T∧zf.Kp w0.heap.size b w W'))
 case atStart=>exact ⟨0,l++s.data.toList,m,rfl,⟨by omega⟩,⟨H1.out,by simpa using HM.out,by rw [List.append_assoc];exact HT.out,K1.out⟩⟩
 case round =>
  obtain ⟨j,l',r,rfl,HJ,HV⟩:=hrel
  clear H1 K1
  by_cases hj:j<xs.length
  ·obtain ⟨a,r',ha,hr',rfl⟩:=zf.ZM hj HV.out.2.1
   have bel:Below w0.heap.size w0 wr:=HB.out.trans HV.out.2.2.2.bel
   obtain ⟨ad,rfl,q0,q1,q2⟩:=Js (Kd.zY HR.out bel) (j:Int) (by omega) (by omega)
   simp only [Int.toNat_natCast] at q0 q1 q2
   have e:xH xs (j:Int)=xs[j]:=by simp [xH,List.getD,hj]
   rw [e] at q0 q1 q2
   obtain ⟨x,hx⟩:∃ x,xs[j]=x:=⟨_,rfl⟩
   have HXX:=Ak hx
   rw [hx] at q0 q1 q2 ha
   clear e hx;have HA:=Ak ha
   have HR':=Ak hr'
   have t1:decide ((j:Int)<(xs.length:Int))=true:=dt (by omega)
   have t2:((j:Int)<(xs.length:Int))=True:=eq_true (by omega)
   have t3:(j<xs.length)=True:=eq_true hj
   have t4:IntKind.i64.wrap ((j:Int)+1)=(j:Int)+1:=by rw [IntKind.wrap_i64];have:=HX.out;omega
   have HLL:zh (l'.length+a.length≤140737488355328):=⟨by have h1:=HV.out.2.2.1;have h2:=HTL.out;rw [← h1,List.length_append,List.length_append] at h2;omega⟩
   have HBW:zh (w0.heap.size≤wr.heap.size):=⟨bel.size⟩
   obtain ⟨gm,hgm⟩:∃ gm,gk=gm+1:=⟨gk-1,by have:=HJ.out;omega⟩
   have HGM:=Ak hgm;clear ha hr' bel hgm
   go_wp2_with (go_at_call 25;refine (zf.value _ b l' x.f0 x.f1 x.f2 k a _ (HV.out.1.below (zf.yF _)) HA.out HLL.out (by have:=HBW.out;simp;omega)).mono ?_;rintro e w2 ⟨rfl,h2,k2⟩;have H2:=Ak h2;have K2:=Ak ((HV.out.2.2.2.trans (zf.Kp.below HBW.out (zf.yF _))).trans k2);clear h2 k2)
   have hgk:=HGM.out
   subst hgk
   go_roundg gm
   case measure=>have:=HJ.out;omega
   case rel=>exact ⟨j+1,_,r',by simp,⟨by have:=HJ.out;omega⟩,⟨H2.out,HR'.out,by rw [List.append_assoc];exact HV.out.2.2.1,K2.out⟩⟩
  ·have hje:j=xs.length:=by have:=HJ.out;omega
   subst hje
   have t1:decide ((xs.length:Int)<(xs.length:Int))=false:=df (by omega)
   have hv:=HV.out
   obtain ⟨h1,h2,h3,h4⟩:=hv
   rw [List.drop_length] at h2
   obtain rfl:=Option.some.inj h2
   rw [List.append_nil] at h3
   subst h3
   have H5:=Ak h1;have K5:=Ak h4;clear h1 h2 h4 HV HT HTL
   go_wp2
   go_end0
   exact ⟨rfl,H5.out,K5.out⟩
theorem zf.listed44 (B b c:Nat) (l:List UInt8) (xs:List S71) (A:Option Addr) (cp:Nat) (k:Nat) (s:ByteArray) (m:List UInt8) (w0 w:World) (h:zf.Bd B b l w) (hB:w0.heap.size=B) (hbel:Below B w0 w) (hr:Kd.C k71 w0 A xs.length xs) (hc:w.heap[c]?=some (.cells #[.pointer (some ⟨b,0,none⟩)] 40 (0,0))) (hcb:c≠b) (hs:zy.f k (xs.length:Int)=some s) (hm:zf.QW (fun x:S71=>(zy.f k x.f1).map fun t=>zf.fb x.f0::t.data.toList) xs=some m) (hlen:l.length+(s.size+m.length)≤140737488355328) (hBw:B≤w.heap.size) :
  Calls Tryz.prog 26 #[.pointer (some ⟨b,0,none⟩),.slice A xs.length cp,.func (.func 27) #[] #[.pointer (some ⟨c,0,none⟩)]] w fun e w'=>e=.returned (.tuple #[])∧zf.Bd B b (l++(s.data.toList++m)) w'∧zf.Kp B b w w':=by
 have hu89:=Tryz.underlying71
 have JG:Tryz.prog.follows .mixedOrders=true:=by kernel_rfl
 have hsl:s.data.toList.length=s.size:=Array.length_toList
 have hxl:xs.length≤9223372036854775807:=hr.2.1
 have H:=Ak h;have HR:=Ak hr;have HB:=Ak hbel;have HS:=Ak hs;have HM:=Ak hm
 have HL:zh (l.length+(s.data.toList.length+m.length)≤140737488355328):=⟨by omega⟩
 have HN:zh (l.length+s.size≤140737488355328):=⟨by omega⟩
 have HX:=Ak hxl
 obtain ⟨T,hT⟩:∃ T,l++(s.data.toList++m)=T:=⟨_,rfl⟩
 have HTL:zh (T.length≤140737488355328):=⟨by rw [← hT,List.length_append,List.length_append];omega⟩
 have HT:=Ak hT
 rw [hT]
 have HCC:=Ak hc;clear h hr hbel hs hm hlen hsl hxl hT hc
 subst hB
 go_enter Tryz.func26,Tryz.ntmps26
 go_wp2_with (go_at_call 19;refine (zf.num _ b l _ k s _ H.out HS.out HN.out hBw).mono ?_;rintro e w1 ⟨rfl,h1,k1⟩;have H1:=Ak h1;have K1:=Ak k1;clear h1 k1)
 go_loopg [14] xs.length (fun kq v14 W'=>∃ (j:Nat) (l' r:List UInt8),v14=.int .i64 (j:Int)∧zh (kq=xs.length-j∧j≤xs.length)∧zh (zf.Bd w0.heap.size b l' W'∧zf.QW (fun x:S71=>(zy.f k x.f1).map fun t=>zf.fb x.f0::t.data.toList) (xs.drop j)=some r∧l'++r=T∧zf.Kp w0.heap.size b w W'))
 case atStart=>exact ⟨0,l++s.data.toList,m,rfl,⟨by omega⟩,⟨H1.out,by simpa using HM.out,by rw [List.append_assoc];exact HT.out,K1.out⟩⟩
 case round =>
  obtain ⟨j,l',r,rfl,HJ,HV⟩:=hrel
  clear H1 K1
  by_cases hj:j<xs.length
  ·obtain ⟨a,r',ha,hr',rfl⟩:=zf.ZM hj HV.out.2.1
   have bel:Below w0.heap.size w0 wr:=HB.out.trans HV.out.2.2.2.bel
   obtain ⟨ad,rfl,q0,q1⟩:=Jt (Kd.zY HR.out bel) (j:Int) (by omega) (by omega)
   simp only [Int.toNat_natCast] at q0 q1
   have e:jh xs (j:Int)=xs[j]:=by simp [jh,List.getD,hj]
   rw [e] at q0 q1
   obtain ⟨x,hx⟩:∃ x,xs[j]=x:=⟨_,rfl⟩
   have HXX:=Ak hx
   rw [hx] at q0 q1 ha
   clear e hx;have HA:=Ak ha
   have HR':=Ak hr'
   have t1:decide ((j:Int)<(xs.length:Int))=true:=dt (by omega)
   have t2:((j:Int)<(xs.length:Int))=True:=eq_true (by omega)
   have t3:(j<xs.length)=True:=eq_true hj
   have t4:IntKind.i64.wrap ((j:Int)+1)=(j:Int)+1:=by rw [IntKind.wrap_i64];have:=HX.out;omega
   have HLL:zh (l'.length+a.length≤140737488355328):=⟨by have h1:=HV.out.2.2.1;have h2:=HTL.out;rw [← h1,List.length_append,List.length_append] at h2;omega⟩
   have HBW:zh (w0.heap.size≤wr.heap.size):=⟨bel.size⟩
   obtain ⟨gm,hgm⟩:∃ gm,gk=gm+1:=⟨gk-1,by have:=HJ.out;omega⟩
   have HGM:=Ak hgm
   obtain ⟨t,ht,hta⟩:=Option.map_eq_some_iff.1 HA.out
   subst hta
   have HTT:=Ak ht
   have HL4:zh (l'.length+(1+t.size)≤140737488355328):=⟨by have:=HLL.out;rw [List.length_cons,show t.data.toList.length=t.size from Array.length_toList] at this;omega⟩
   have hcx:=(HV.out.2.2.2.oth c _ HCC.out (fun e=>hcb (Option.some.inj e)) (fun _ _ e=>by cases e))
   have HCX:=Ak (And.intro (Array.getElem?_eq_some_iff.1 hcx).1 hcx)
   clear hcx ht;clear ha hr' bel hgm
   go_wp2_with (go_at_call 27;refine (zf.dump2 _ b c l' x.f0 x.f1 k t _ (HV.out.1.below (zf.yF _)) (((zf.yF _).block c HCX.out.1).trans HCX.out.2) hcb HTT.out HL4.out (by have:=HBW.out;simp;omega)).mono ?_;rintro e w2 ⟨rfl,h2,k2⟩;have H2:=Ak h2;have K2:=Ak ((HV.out.2.2.2.trans (zf.Kp.below HBW.out (zf.yF _))).trans k2);clear h2 k2)
   have hgk:=HGM.out
   subst hgk
   go_roundg gm
   case measure=>have:=HJ.out;omega
   case rel=>exact ⟨j+1,_,r',by simp,⟨by have:=HJ.out;omega⟩,⟨H2.out,HR'.out,by rw [List.append_assoc];exact HV.out.2.2.1,K2.out⟩⟩
  ·have hje:j=xs.length:=by have:=HJ.out;omega
   subst hje
   have t1:decide ((xs.length:Int)<(xs.length:Int))=false:=df (by omega)
   have hv:=HV.out
   obtain ⟨h1,h2,h3,h4⟩:=hv
   rw [List.drop_length] at h2
   obtain rfl:=Option.some.inj h2
   rw [List.append_nil] at h3
   subst h3
   have H5:=Ak h1;have K5:=Ak h4;clear h1 h2 h4 HV HT HTL
   go_wp2
   go_end0
   exact ⟨rfl,H5.out,K5.out⟩
theorem zf.listed48 (B b:Nat) (l:List UInt8) (xs:List Int) (A:Option Addr) (cp:Nat) (k:Nat) (s:ByteArray) (m:List UInt8) (w0 w:World) (h:zf.Bd B b l w) (hB:w0.heap.size=B) (hbel:Below B w0 w) (hr:Kd.C (Kd.int .i64) w0 A xs.length xs) (hs:zy.f k (xs.length:Int)=some s) (hm:zf.QW (fun x:Int=>(zy.f k x).map fun t=>t.data.toList) xs=some m) (hlen:l.length+(s.size+m.length)≤140737488355328) (hBw:B≤w.heap.size) :
  Calls Tryz.prog 30 #[.pointer (some ⟨b,0,none⟩),.slice A xs.length cp,.func (.func 19) #[.pointer (some ⟨b,0,none⟩)] #[]] w fun e w'=>e=.returned (.tuple #[])∧zf.Bd B b (l++(s.data.toList++m)) w'∧zf.Kp B b w w':=by
 have JG:Tryz.prog.follows .mixedOrders=true:=by kernel_rfl
 have hsl:s.data.toList.length=s.size:=Array.length_toList
 have hxl:xs.length≤9223372036854775807:=hr.2.1
 have H:=Ak h;have HR:=Ak hr;have HB:=Ak hbel;have HS:=Ak hs;have HM:=Ak hm
 have HL:zh (l.length+(s.data.toList.length+m.length)≤140737488355328):=⟨by omega⟩
 have HN:zh (l.length+s.size≤140737488355328):=⟨by omega⟩
 have HX:=Ak hxl
 obtain ⟨T,hT⟩:∃ T,l++(s.data.toList++m)=T:=⟨_,rfl⟩
 have HTL:zh (T.length≤140737488355328):=⟨by rw [← hT,List.length_append,List.length_append];omega⟩
 have HT:=Ak hT
 rw [hT]
 clear h hr hbel hs hm hlen hsl hxl hT
 subst hB
 go_enter Tryz.func30,Tryz.ntmps30
 go_wp2_with (go_at_call 19;refine (zf.num _ b l _ k s _ H.out HS.out HN.out hBw).mono ?_;rintro e w1 ⟨rfl,h1,k1⟩;have H1:=Ak h1;have K1:=Ak k1;clear h1 k1)
 go_loopg [14] xs.length (fun kq v14 W'=>∃ (j:Nat) (l' r:List UInt8),v14=.int .i64 (j:Int)∧zh (kq=xs.length-j∧j≤xs.length)∧zh (zf.Bd w0.heap.size b l' W'∧zf.QW (fun x:Int=>(zy.f k x).map fun t=>t.data.toList) (xs.drop j)=some r∧l'++r=T∧zf.Kp w0.heap.size b w W'))
 case atStart=>exact ⟨0,l++s.data.toList,m,rfl,⟨by omega⟩,⟨H1.out,by simpa using HM.out,by rw [List.append_assoc];exact HT.out,K1.out⟩⟩
 case round =>
  obtain ⟨j,l',r,rfl,HJ,HV⟩:=hrel
  clear H1 K1
  by_cases hj:j<xs.length
  ·obtain ⟨a,r',ha,hr',rfl⟩:=zf.ZM hj HV.out.2.1
   have bel:Below w0.heap.size w0 wr:=HB.out.trans HV.out.2.2.2.bel
   obtain ⟨ad,cc,rfl,_,hK,hcell⟩:=Kd.C_get (Kd.zY HR.out bel) (0:Int) (j:Int) (by omega) (by omega)
   have hK2:cc=[.int .i64 xs[j]]:=by have e:xs.getD (j:Int).toNat (0:Int)=xs[j]:=(by simp [List.getD,hj]);rw [e] at hK;exact hK
   subst hK2
   have q1:wr.cell? (ad.add j)=some (.int .i64 xs[j]):=by have:=hcell 0 _ rfl;simpa [Kd.int,Kd.scalar] using this
   obtain ⟨x,hx⟩:∃ x,xs[j]=x:=⟨_,rfl⟩
   have HXX:=Ak hx
   rw [hx] at q1 ha
   clear hcell hK hx;have HA:=Ak ha
   have HR':=Ak hr'
   have t1:decide ((j:Int)<(xs.length:Int))=true:=dt (by omega)
   have t2:((j:Int)<(xs.length:Int))=True:=eq_true (by omega)
   have t3:(j<xs.length)=True:=eq_true hj
   have t4:IntKind.i64.wrap ((j:Int)+1)=(j:Int)+1:=by rw [IntKind.wrap_i64];have:=HX.out;omega
   have HLL:zh (l'.length+a.length≤140737488355328):=⟨by have h1:=HV.out.2.2.1;have h2:=HTL.out;rw [← h1,List.length_append,List.length_append] at h2;omega⟩
   have HBW:zh (w0.heap.size≤wr.heap.size):=⟨bel.size⟩
   obtain ⟨gm,hgm⟩:∃ gm,gk=gm+1:=⟨gk-1,by have:=HJ.out;omega⟩
   have HGM:=Ak hgm
   obtain ⟨t,ht,hta⟩:=Option.map_eq_some_iff.1 HA.out
   subst hta
   have HTT:=Ak ht
   have HL4:zh (l'.length+t.size≤140737488355328):=⟨by have:=HLL.out;rw [show t.data.toList.length=t.size from Array.length_toList] at this;exact this⟩
   clear ht;clear ha hr' bel hgm
   go_wp2_with (go_at_call 19;refine (zf.num _ b l' x k t _ HV.out.1 HTT.out HL4.out HBW.out).mono ?_;rintro e w2 ⟨rfl,h2,k2⟩;have H2:=Ak h2;have K2:=Ak (HV.out.2.2.2.trans k2);clear h2 k2)
   have hgk:=HGM.out
   subst hgk
   go_roundg gm
   case measure=>have:=HJ.out;omega
   case rel=>exact ⟨j+1,_,r',by simp,⟨by have:=HJ.out;omega⟩,⟨H2.out,HR'.out,by rw [List.append_assoc];exact HV.out.2.2.1,K2.out⟩⟩
  ·have hje:j=xs.length:=by have:=HJ.out;omega
   subst hje
   have t1:decide ((xs.length:Int)<(xs.length:Int))=false:=df (by omega)
   have hv:=HV.out
   obtain ⟨h1,h2,h3,h4⟩:=hv
   rw [List.drop_length] at h2
   obtain rfl:=Option.some.inj h2
   rw [List.append_nil] at h3
   subst h3
   have H5:=Ak h1;have K5:=Ak h4;clear h1 h2 h4 HV HT HTL
   go_wp2
   go_end0
   exact ⟨rfl,H5.out,K5.out⟩
theorem zf.listed49 (B b:Nat) (l:List UInt8) (xs:List ByteArray) (A:Option Addr) (cp:Nat) (k:Nat) (s:ByteArray) (m:List UInt8) (w0 w:World) (h:zf.Bd B b l w) (hB:w0.heap.size=B) (hbel:Below B w0 w) (hr:Kd.C Kd.string w0 A xs.length xs) (hs:zy.f k (xs.length:Int)=some s) (hm:zf.QW (fun x:ByteArray=>(zy.f k (x.size:Int)).map fun t=>t.data.toList++x.data.toList) xs=some m) (hlen:l.length+(s.size+m.length)≤140737488355328) (hBw:B≤w.heap.size) :
  Calls Tryz.prog 31 #[.pointer (some ⟨b,0,none⟩),.slice A xs.length cp,.func (.func 29) #[.pointer (some ⟨b,0,none⟩)] #[]] w fun e w'=>e=.returned (.tuple #[])∧zf.Bd B b (l++(s.data.toList++m)) w'∧zf.Kp B b w w':=by
 have JG:Tryz.prog.follows .mixedOrders=true:=by kernel_rfl
 have hsl:s.data.toList.length=s.size:=Array.length_toList
 have hxl:xs.length≤9223372036854775807:=hr.2.1
 have H:=Ak h;have HR:=Ak hr;have HB:=Ak hbel;have HS:=Ak hs;have HM:=Ak hm
 have HL:zh (l.length+(s.data.toList.length+m.length)≤140737488355328):=⟨by omega⟩
 have HN:zh (l.length+s.size≤140737488355328):=⟨by omega⟩
 have HX:=Ak hxl
 obtain ⟨T,hT⟩:∃ T,l++(s.data.toList++m)=T:=⟨_,rfl⟩
 have HTL:zh (T.length≤140737488355328):=⟨by rw [← hT,List.length_append,List.length_append];omega⟩
 have HT:=Ak hT
 rw [hT]
 clear h hr hbel hs hm hlen hsl hxl hT
 subst hB
 go_enter Tryz.func31,Tryz.ntmps31
 go_wp2_with (go_at_call 19;refine (zf.num _ b l _ k s _ H.out HS.out HN.out hBw).mono ?_;rintro e w1 ⟨rfl,h1,k1⟩;have H1:=Ak h1;have K1:=Ak k1;clear h1 k1)
 go_loopg [14] xs.length (fun kq v14 W'=>∃ (j:Nat) (l' r:List UInt8),v14=.int .i64 (j:Int)∧zh (kq=xs.length-j∧j≤xs.length)∧zh (zf.Bd w0.heap.size b l' W'∧zf.QW (fun x:ByteArray=>(zy.f k (x.size:Int)).map fun t=>t.data.toList++x.data.toList) (xs.drop j)=some r∧l'++r=T∧zf.Kp w0.heap.size b w W'))
 case atStart=>exact ⟨0,l++s.data.toList,m,rfl,⟨by omega⟩,⟨H1.out,by simpa using HM.out,by rw [List.append_assoc];exact HT.out,K1.out⟩⟩
 case round =>
  obtain ⟨j,l',r,rfl,HJ,HV⟩:=hrel
  clear H1 K1
  by_cases hj:j<xs.length
  ·obtain ⟨a,r',ha,hr',rfl⟩:=zf.ZM hj HV.out.2.1
   have bel:Below w0.heap.size w0 wr:=HB.out.trans HV.out.2.2.2.bel
   obtain ⟨ad,cc,rfl,_,hK,hcell⟩:=Kd.C_get (Kd.zY HR.out bel) ByteArray.empty (j:Int) (by omega) (by omega)
   have hK2:cc=[.string xs[j]]:=by have e:xs.getD (j:Int).toNat ByteArray.empty=xs[j]:=(by simp [List.getD,hj]);rw [e] at hK;exact hK
   subst hK2
   have q1:wr.cell? (ad.add j)=some (.string xs[j]):=by have:=hcell 0 _ rfl;simpa [Kd.string,Kd.scalar] using this
   obtain ⟨x,hx⟩:∃ x,xs[j]=x:=⟨_,rfl⟩
   have HXX:=Ak hx
   rw [hx] at q1 ha
   clear hcell hK hx;have HA:=Ak ha
   have HR':=Ak hr'
   have t1:decide ((j:Int)<(xs.length:Int))=true:=dt (by omega)
   have t2:((j:Int)<(xs.length:Int))=True:=eq_true (by omega)
   have t3:(j<xs.length)=True:=eq_true hj
   have t4:IntKind.i64.wrap ((j:Int)+1)=(j:Int)+1:=by rw [IntKind.wrap_i64];have:=HX.out;omega
   have HLL:zh (l'.length+a.length≤140737488355328):=⟨by have h1:=HV.out.2.2.1;have h2:=HTL.out;rw [← h1,List.length_append,List.length_append] at h2;omega⟩
   have HBW:zh (w0.heap.size≤wr.heap.size):=⟨bel.size⟩
   obtain ⟨gm,hgm⟩:∃ gm,gk=gm+1:=⟨gk-1,by have:=HJ.out;omega⟩
   have HGM:=Ak hgm
   obtain ⟨t,ht,hta⟩:=Option.map_eq_some_iff.1 HA.out
   subst hta
   have HTT:=Ak ht
   have HL4:zh (l'.length+(t.size+x.size)≤140737488355328):=⟨by have:=HLL.out;rw [List.length_append,show t.data.toList.length=t.size from Array.length_toList,show x.data.toList.length=x.size from Array.length_toList] at this;exact this⟩
   clear ht;clear ha hr' bel hgm
   go_wp2_with (go_at_call 29;refine (zf.text _ b l' x k t _ HV.out.1 HTT.out HL4.out HBW.out).mono ?_;rintro e w2 ⟨rfl,h2,k2⟩;have H2:=Ak h2;have K2:=Ak (HV.out.2.2.2.trans k2);clear h2 k2)
   have hgk:=HGM.out
   subst hgk
   go_roundg gm
   case measure=>have:=HJ.out;omega
   case rel=>exact ⟨j+1,_,r',by simp,⟨by have:=HJ.out;omega⟩,⟨H2.out,HR'.out,by rw [List.append_assoc];exact HV.out.2.2.1,K2.out⟩⟩
  ·have hje:j=xs.length:=by have:=HJ.out;omega
   subst hje
   have t1:decide ((xs.length:Int)<(xs.length:Int))=false:=df (by omega)
   have hv:=HV.out
   obtain ⟨h1,h2,h3,h4⟩:=hv
   rw [List.drop_length] at h2
   obtain rfl:=Option.some.inj h2
   rw [List.append_nil] at h3
   subst h3
   have H5:=Ak h1;have K5:=Ak h4;clear h1 h2 h4 HV HT HTL
   go_wp2
   go_end0
   exact ⟨rfl,H5.out,K5.out⟩
def zf.hdr:List UInt8:=[27,76,82,86,1,0]
def zf.wordsB:List Int→Option (List UInt8):=zf.QW (fun x=>some (zf.vS x))
def zf.constsB:List S67→Option (List UInt8):=zf.QW (fun x:S67=>zf.vW 10 x.f0 x.f1 x.f2)
def zf.upsB:List S71→Option (List UInt8):=zf.QW (fun x:S71=>(zy.f 10 x.f1).map fun t=>zf.fb x.f0::t.data.toList)
def zf.numsB:List Int→Option (List UInt8):=zf.QW (fun x:Int=>(zy.f 10 x).map fun t=>t.data.toList)
def zf.textsB:List ByteArray→Option (List UInt8):=zf.QW (fun x:ByteArray=>(zy.f 10 (x.size:Int)).map fun t=>t.data.toList++x.data.toList)
structure zf.Parts (p:S56) where
 s0:ByteArray
 s2:ByteArray
 n3:ByteArray
 b3:List UInt8
 n4:ByteArray
 b4:List UInt8
 n5:ByteArray
 b5:List UInt8
 s6:ByteArray
 br:Bool
 n7:ByteArray
 n8:ByteArray
 b8:List UInt8
 n9:ByteArray
 b9:List UInt8
def zf.head (p:S56) (q:zf.Parts p):List UInt8:=[zf.fb p.f1]++(q.s0.data.toList++(q.s2.data.toList++((q.n3.data.toList++q.b3)++((q.n4.data.toList++q.b4)++((q.n5.data.toList++q.b5)++q.s6.data.toList)))))
def zf.tail (p:S56) (q:zf.Parts p):List UInt8:=(q.n7.data.toList++p.f7.data.toList)++((q.n8.data.toList++q.b8)++(q.n9.data.toList++q.b9))
def zf.whole (p:S56) (q:zf.Parts p):List UInt8:=zf.head p q++([zf.fb (!q.br)]++(if q.br=true then [] else zf.tail p q))
structure zf.Made (p:S56) (q:zf.Parts p):Prop where
 h0:zy.f 10 p.f0=some q.s0
 h2:zy.f 10 p.f2=some q.s2
 h3:zy.f 10 (p.f3.length:Int)=some q.n3
 g3:zf.wordsB p.f3=some q.b3
 r3:∀ x ∈ p.f3,0≤x∧x≤4294967295
 h4:zy.f 10 (p.f4.length:Int)=some q.n4
 g4:zf.constsB p.f4=some q.b4
 h5:zy.f 10 (p.f5.length:Int)=some q.n5
 g5:zf.upsB p.f5=some q.b5
 h6:zy.f 10 p.f6=some q.s6
 hb:xk.f p.f0 p.f1 p.f2 p.f3 p.f4 p.f5 p.f6 p.f7 p.f8 p.f9=some q.br
 h7:zy.f 10 (p.f7.size:Int)=some q.n7
 h8:zy.f 10 (p.f8.length:Int)=some q.n8
 g8:zf.numsB p.f8=some q.b8
 h9:zy.f 10 (p.f9.length:Int)=some q.n9
 g9:zf.textsB p.f9=some q.b9
def zf.pb (p:S56):Option (List UInt8) :=
 if (p.f3.all fun x=>decide (0≤x) && decide (x≤4294967295))=true then
  (zy.f 10 p.f0).bind fun s0=>(zy.f 10 p.f2).bind fun s2=>(zy.f 10 (p.f3.length:Int)).bind fun n3=>(zf.wordsB p.f3).bind fun b3 =>
  (zy.f 10 (p.f4.length:Int)).bind fun n4=>(zf.constsB p.f4).bind fun b4=>(zy.f 10 (p.f5.length:Int)).bind fun n5=>(zf.upsB p.f5).bind fun b5=>(zy.f 10 p.f6).bind fun s6 =>
  (xk.f p.f0 p.f1 p.f2 p.f3 p.f4 p.f5 p.f6 p.f7 p.f8 p.f9).bind fun br=>(zy.f 10 (p.f7.size:Int)).bind fun n7=>(zy.f 10 (p.f8.length:Int)).bind fun n8=>(zf.numsB p.f8).bind fun b8 =>
  (zy.f 10 (p.f9.length:Int)).bind fun n9=>(zf.textsB p.f9).bind fun b9=>some (zf.whole p ⟨s0,s2,n3,b3,n4,b4,n5,b5,s6,br,n7,n8,b8,n9,b9⟩)
 else none
theorem zf.pb_made {p:S56} {a:List UInt8} (h:zf.pb p=some a):∃ q:zf.Parts p,zf.Made p q∧a=zf.whole p q:=by
 unfold zf.pb at h
 by_cases hr:(p.f3.all fun x=>decide (0≤x) && decide (x≤4294967295))=true
 ·rw [if_pos hr] at h
  obtain ⟨s0,h0,h⟩:=Option.bind_eq_some_iff.1 h
  obtain ⟨s2,h2,h⟩:=Option.bind_eq_some_iff.1 h
  obtain ⟨n3,h3,h⟩:=Option.bind_eq_some_iff.1 h
  obtain ⟨b3,g3,h⟩:=Option.bind_eq_some_iff.1 h
  obtain ⟨n4,h4,h⟩:=Option.bind_eq_some_iff.1 h
  obtain ⟨b4,g4,h⟩:=Option.bind_eq_some_iff.1 h
  obtain ⟨n5,h5,h⟩:=Option.bind_eq_some_iff.1 h
  obtain ⟨b5,g5,h⟩:=Option.bind_eq_some_iff.1 h
  obtain ⟨s6,h6,h⟩:=Option.bind_eq_some_iff.1 h
  obtain ⟨br,hb,h⟩:=Option.bind_eq_some_iff.1 h
  obtain ⟨n7,h7,h⟩:=Option.bind_eq_some_iff.1 h
  obtain ⟨n8,h8,h⟩:=Option.bind_eq_some_iff.1 h
  obtain ⟨b8,g8,h⟩:=Option.bind_eq_some_iff.1 h
  obtain ⟨n9,h9,h⟩:=Option.bind_eq_some_iff.1 h
  obtain ⟨b9,g9,h⟩:=Option.bind_eq_some_iff.1 h
  refine ⟨⟨s0,s2,n3,b3,n4,b4,n5,b5,s6,br,n7,n8,b8,n9,b9⟩,⟨h0,h2,h3,g3,fun x hx=>?_,h4,g4,h5,g5,h6,hb,h7,h8,g8,h9,g9⟩,(Option.some.inj h).symm⟩
  have:=List.all_eq_true.1 hr x hx
  simpa using this
 ·rw [if_neg hr] at h
  cases h
def zf.f (l:List S56):Option (ByteArray×Bool):=(zk.f l).bind fun b=>if b=true then (zf.QW zf.pb l).bind fun m=>if m.length≤140737488000000 then some (⟨(zf.hdr++m).toArray⟩,true) else none else some (⟨#[]⟩,false)
theorem zf.reads {B b g c:Nat} {W0 W:World} {A3 A4 A5 A8 A9:Option Addr} {c3 c4 c5 c8 c9:Nat} {p:S56} (hk:zf.Kp B b W0 W) (hg:W0.heap[g]?=some (.cells #[.int .i64 p.f0,.bool p.f1,.int .i64 p.f2,.slice A3 p.f3.length c3,.slice A4 p.f4.length c4,.slice A5 p.f5.length c5,.int .i64 p.f6,.string p.f7,.slice A8 p.f8.length c8,.slice A9 p.f9.length c9] 56 (0,0))) (hc:W0.heap[c]?=some (.cells #[.pointer (some ⟨b,0,none⟩)] 40 (0,0))) (hgb:g≠b) (hcb:c≠b) :
  W.cell? ⟨g,0,none⟩=some (.int .i64 p.f0)∧W.cell? ⟨g,1,none⟩=some (.bool p.f1)∧W.cell? ⟨g,2,none⟩=some (.int .i64 p.f2)∧W.cell? ⟨g,3,none⟩=some (.slice A3 p.f3.length c3)∧W.cell? ⟨g,4,none⟩=some (.slice A4 p.f4.length c4)∧W.cell? ⟨g,5,none⟩=some (.slice A5 p.f5.length c5)∧W.cell? ⟨g,6,none⟩=some (.int .i64 p.f6)∧W.cell? ⟨g,7,none⟩=some (.string p.f7)∧W.cell? ⟨g,8,none⟩=some (.slice A8 p.f8.length c8)∧W.cell? ⟨g,9,none⟩=some (.slice A9 p.f9.length c9)∧W.cell? ⟨c,0,none⟩=some (.pointer (some ⟨b,0,none⟩))∧W.heap[c]?=some (.cells #[.pointer (some ⟨b,0,none⟩)] 40 (0,0)):=by
 have hg':=hk.oth g _ hg (fun e=>hgb (Option.some.inj e)) (fun _ _ e=>by cases e)
 have hc':=hk.oth c _ hc (fun e=>hcb (Option.some.inj e)) (fun _ _ e=>by cases e)
 refine ⟨?_,?_,?_,?_,?_,?_,?_,?_,?_,?_,?_,hc'⟩
 all_goals first|(rw [Lib.cell_of_heap hg'];rfl)|(rw [Lib.cell_of_heap hc'];rfl)
theorem zf.vH (s:ByteArray):s.data.toList.length=s.size:=Array.length_toList
theorem zf.fresh {w w1:World} (h:Below w.heap.size w w1):zf.Bd w.heap.size w1.heap.size [] ((w1.alloc (.cells #[.pointer none,.slice none 0 0] 45)).alloc (.cells #[.pointer (some ⟨w1.heap.size,0,none⟩)] 40)):=by
 have h1:=World.alloc_heap_new w1 (.cells #[.pointer none,.slice none 0 0] 45)
 refine zf.Bd.below (w:=w1.alloc (.cells #[.pointer none,.slice none 0 0] 45)) (.inl ⟨h.size,.slice none 0 0,h1,?_,by simp [Value.ownBlock]⟩) (zf.yF _)
 exact World.ownsRow_nil _ _ _ _
theorem zf.start_chunk {w0 w1 w3:World} {B n:Nat} {v:Value} (hx:w0.heap[n]?=some (.cells #[v] 25 (0,0))) (hs:w0.heap.size=n+1) (hd:Below w0.heap.size w0 w1) (hk:zf.Kp B w1.heap.size ((w1.alloc (.cells #[.pointer none,.slice none 0 0] 45)).alloc (.cells #[.pointer (some ⟨w1.heap.size,0,none⟩)] 40)) w3):w3.cell? ⟨n,0,none⟩=some v:=by
 have h1:=(hd.block n (by omega)).trans hx
 have hlt:n<w1.heap.size:=(Array.getElem?_eq_some_iff.1 h1).1
 have h2:=(zf.yF (w:=w1.alloc (.cells #[.pointer none,.slice none 0 0] 45)) (.cells #[.pointer (some ⟨w1.heap.size,0,none⟩)] 40)).block n (by simp;omega)
 have h3:=(zf.yF (w:=w1) (.cells #[.pointer none,.slice none 0 0] 45)).block n hlt
 have h4:=hk.oth n _ ((h2.trans h3).trans h1) (fun e=>by have:=Option.some.inj e;omega) (fun _ _ e=>by cases e)
 exact (Lib.cell_of_heap h4 0).trans rfl
theorem zf.start_var {w1 w3:World} {B:Nat} (hk:zf.Kp B w1.heap.size ((w1.alloc (.cells #[.pointer none,.slice none 0 0] 45)).alloc (.cells #[.pointer (some ⟨w1.heap.size,0,none⟩)] 40)) w3):w3.heap[w1.heap.size+1]?=some (.cells #[.pointer (some ⟨w1.heap.size,0,none⟩)] 40 (0,0)):=by
 have h:=World.alloc_heap_new (w1.alloc (.cells #[.pointer none,.slice none 0 0] 45)) (.cells #[.pointer (some ⟨w1.heap.size,0,none⟩)] 40)
 rw [World.size_alloc] at h
 exact hk.oth _ _ h (fun e=>by have:=Option.some.inj e;omega) (fun _ _ e=>by cases e)
theorem zf.after_header {w0 w1 w3:World} {B n:Nat} {v:Value} (hx:w0.heap[n]?=some (.cells #[v] 25 (0,0))) (hs:w0.heap.size=n+1) (hd:Below w0.heap.size w0 w1) (hk:zf.Kp B w1.heap.size ((w1.alloc (.cells #[.pointer none,.slice none 0 0] 45)).alloc (.cells #[.pointer (some ⟨w1.heap.size,0,none⟩)] 40)) w3):w3.cell? ⟨n,0,none⟩=some v∧w3.cell? ⟨w1.heap.size+1,0,none⟩=some (.pointer (some ⟨w1.heap.size,0,none⟩)) :=
 ⟨zf.start_chunk hx hs hd hk,(Lib.cell_of_heap (zf.start_var hk) 0).trans rfl⟩
theorem zf.header {w w1:World} (h:Below w.heap.size w w1):Calls Tryz.prog 17 #[.pointer (some ⟨w1.heap.size,0,none⟩),.string ⟨#[27,76,82,86,1,0]⟩] ((w1.alloc (.cells #[.pointer none,.slice none 0 0] 45)).alloc (.cells #[.pointer (some ⟨w1.heap.size,0,none⟩)] 40)) fun e w'=>e=.returned (.tuple #[.int .i64 (6:Nat),.nilIface])∧zf.Bd w.heap.size w1.heap.size zf.hdr w'∧zf.Kp w.heap.size w1.heap.size ((w1.alloc (.cells #[.pointer none,.slice none 0 0] 45)).alloc (.cells #[.pointer (some ⟨w1.heap.size,0,none⟩)] 40)) w':=by
 have hs:w.heap.size≤((w1.alloc (.cells #[.pointer none,.slice none 0 0] 45)).alloc (.cells #[.pointer (some ⟨w1.heap.size,0,none⟩)] 40)).heap.size:=by have:=h.size;simp;omega
 exact zf.writeString w.heap.size w1.heap.size [] ⟨#[27,76,82,86,1,0]⟩ _ (zf.fresh h) (show 0+6≤140737488355328 by decide) hs
theorem zf.calls (ZX:Option Addr) (ZA:Nat) (zV:List (S56)) (r1:ByteArray) (r2:Bool) (w:World) (Jg:Kd.C k56 w ZX zV.length zV) (Jy:zV.length≤ZA) (h:zf.f zV=some (r1,r2)) :
  Calls Tryz.prog 6 #[.agg #[.slice ZX zV.length ZA]] w fun e w'=>e=.returned (.tuple #[.string r1,.bool r2])∧Below w.heap.size w w':=by
 have hu29:=Tryz.underlying25
 have hu44:=Tryz.underlying56
 have hu70:=Tryz.underlying45
 have JG:Tryz.prog.follows .mixedOrders=true:=by kernel_rfl
 obtain ⟨b0,hb0,hbr⟩:=Option.bind_eq_some_iff.1 h
 have hxl:zV.length≤9223372036854775807:=Jg.2.1
 have HW:=Ak hb0;have HR:=Ak Jg;have HC:=Ak Jy;have HBR:=Ak hbr;have HX:=Ak hxl;clear h hb0 hbr Jg Jy hxl
 obtain ⟨w0,hw0⟩:∃ w0,w.alloc (.cells #[.slice ZX zV.length ZA] 25)=w0:=⟨_,rfl⟩
 have hx0:w0.heap[w.heap.size]?=some (.cells #[.slice ZX zV.length ZA] 25 (0,0)):=by rw [← hw0];exact World.alloc_heap_new w _
 have hbw0:Below w.heap.size w w0:=by rw [← hw0];exact zf.yF _
 have hs0:w0.heap.size=w.heap.size+1:=by rw [← hw0];simp
 have HB0:=Ak hbw0;have HX0:=Ak hx0;have HS0:=Ak hs0
 have y0:w0.cell? ⟨w.heap.size,0,none⟩=some (.slice ZX zV.length ZA):=(Lib.cell_of_heap hx0 0).trans rfl
 clear hbw0 hx0 hs0
 go_enter Tryz.func6,Tryz.ntmps6
 cases b0
 ·obtain ⟨rfl,rfl⟩:r1=⟨#[]⟩∧r2=false:=by have h:=HBR.out;rw [if_neg (by decide)] at h;cases h;exact ⟨rfl,rfl⟩
  go_wp2_with (go_at_call 8;refine (zk.calls _ _ _ _ _ (Kd.zY HR.out HB0.out) HC.out HW.out).mono ?_;rintro e w1 ⟨rfl,hd⟩;have HD:zh (Below w.heap.size w w1):=⟨HB0.out.trans (hd.mono (by have:=HS0.out;omega))⟩;clear hd)
  go_ret2
  exact ⟨rfl,HD.out⟩
 ·obtain ⟨m,hm,hlen,rfl,rfl⟩:∃ m,zf.QW zf.pb zV=some m∧m.length≤140737488000000∧r1=⟨(zf.hdr++m).toArray⟩∧r2=true:=by
   have h:=HBR.out
   rw [if_pos rfl] at h
   obtain ⟨m,hm,h⟩:=Option.bind_eq_some_iff.1 h
   by_cases hl:m.length≤140737488000000
   ·rw [if_pos hl] at h;cases h;exact ⟨m,hm,hl,rfl,rfl⟩
   ·rw [if_neg hl] at h;cases h
  have HM:=Ak hm;have HL:=Ak hlen;clear HBR hm hlen
  go_wp2_with (first|(go_at_call 8;refine (zk.calls _ _ _ _ _ (Kd.zY HR.out HB0.out) HC.out HW.out).mono ?_;rintro e w1 ⟨rfl,hd⟩;have HD:zh (Below w.heap.size w w1∧Below w0.heap.size w0 w1):=⟨HB0.out.trans (hd.mono (by have:=HS0.out;omega)),hd⟩;clear hd)|(go_at_call 17;refine (zf.header HD.out.1).mono ?_;rintro e w3 ⟨rfl,h3,k3⟩;have H3:=Ak h3;have K3:=Ak k3;clear h3 k3;obtain ⟨u0,u1⟩:=zf.after_header HX0.out HS0.out HD.out.2 K3.out))
  obtain ⟨b,hb⟩:∃ b,w1.heap.size=b:=⟨_,rfl⟩
  obtain ⟨W2,hW2⟩:∃ W2,((w1.alloc (.cells #[.pointer none,.slice none 0 0] 45)).alloc (.cells #[.pointer (some ⟨w1.heap.size,0,none⟩)] 40))=W2:=⟨_,rfl⟩
  have hcw:W2.heap[b+1]?=some (.cells #[.pointer (some ⟨b,0,none⟩)] 40 (0,0)):=by
   have h:=World.alloc_heap_new (w1.alloc (.cells #[.pointer none,.slice none 0 0] 45)) (.cells #[.pointer (some ⟨w1.heap.size,0,none⟩)] 40)
   rw [World.size_alloc,hW2,hb] at h
   exact h
  have hbel2:Below w.heap.size w W2:=by
   rw [← hW2]
   exact (HD.out.1.alloc HD.out.1.size _).alloc (by have:=HD.out.1.size;simp;omega) _
  have hS2:b<W2.heap.size:=by rw [← hW2,← hb];simp;omega
  have hS1:w.heap.size≤b:=by rw [← hb];exact HD.out.1.size
  have H3':=H3.out
  have K3':=K3.out
  rw [hW2] at K3'
  simp only [hb] at *
  have H4:=Ak H3'
  have K4:=Ak K3'
  have HCW:=Ak hcw;have HB2:=Ak hbel2;have HS2:=Ak hS2;have HS1:=Ak hS1;clear H3' K3' H3 K3 hcw hbel2 hS2 hS1 hW2
  go_loopg [19] zV.length (fun kq v19 W'=>∃ (j:Nat) (l' r:List UInt8),v19=.int .i64 (j:Int)∧zh (kq=zV.length-j∧j≤zV.length)∧zh (zf.Bd w.heap.size b l' W'∧zf.QW zf.pb (zV.drop j)=some r∧l'++r=zf.hdr++m∧zf.Kp w.heap.size b W2 W'))
  case atStart=>exact ⟨0,zf.hdr,m,rfl,⟨by omega⟩,⟨H4.out,by simpa using HM.out,rfl,K4.out⟩⟩
  case round =>
   obtain ⟨j,l',r,rfl,HJ,HV⟩:=hrel
   clear H4 K4 u0 u1
   by_cases hj:j<zV.length
   ·obtain ⟨a,r',ha,hr',rfl⟩:=zf.ZM hj HV.out.2.1
    obtain ⟨p,hp⟩:∃ p,zV[j]=p:=⟨_,rfl⟩
    rw [hp] at ha
    obtain ⟨q,hq,rfl⟩:=zf.pb_made ha
    have bel:Below w.heap.size w wr:=HB2.out.trans HV.out.2.2.2.bel
    obtain ⟨ad,A3,c3,A4,c4,A5,c5,A8,c8,A9,c9,rfl,x0,x1,x2,x3,x4,x5,x6,x7,x8,x9,l3,g3,l4,g4,l5,g5,l8,g8,l9,g9⟩:=Z5 HR.out (j:Int) (by omega) (by omega)
    have e:zu zV (j:Int)=p:=by rw [← hp];simp [zu,List.getD,hj]
    simp only [Int.toNat_natCast] at x0 x1 x2 x3 x4 x5 x6 x7 x8 x9
    rw [e] at x0 x1 x2 x3 x4 x5 x6 x7 x8 x9 l3 g3 l4 g4 l5 g5 l8 g8 l9 g9
    have HLT:zh (l'.length+(zf.whole p q).length≤140737488000006):=⟨by
     have h1:=congrArg List.length HV.out.2.2.1
     have h2:=HL.out
     rw [List.length_append,List.length_append,List.length_append] at h1
     have h3:zf.hdr.length=6:=rfl
     omega⟩
    have HQ:=Ak hq
    have HR':=Ak hr'
    have G3:=Ak g3;have G4:=Ak g4;have G5:=Ak g5;have G8:=Ak g8;have G9:=Ak g9;have L3:=Ak l3;have L4:=Ak l4;have L5:=Ak l5;have L8:=Ak l8;have L9:=Ak l9;have BEL:=Ak bel
    have HSW:zh (w.heap.size≤wr.heap.size∧b+1<wr.heap.size):=⟨bel.size,by have h1:=HV.out.2.2.2.size;have h2:=(Array.getElem?_eq_some_iff.1 HCW.out).1;omega⟩
    have u1:wr.cell? ⟨b+1,0,none⟩=some (.pointer (some ⟨b,0,none⟩)):=(Lib.cell_of_heap (HV.out.2.2.2.oth (b+1) _ HCW.out (fun e=>by have:=Option.some.inj e;omega) (fun _ _ e=>by cases e)) 0).trans rfl
    have t1:decide ((j:Int)<(zV.length:Int))=true:=dt (by omega)
    have t2:((j:Int)<(zV.length:Int))=True:=eq_true (by omega)
    have t3:(j<zV.length)=True:=eq_true hj
    have t4:IntKind.i64.wrap ((j:Int)+1)=(j:Int)+1:=by rw [IntKind.wrap_i64];have:=HX.out;omega
    have z0:=(bel.cell (World.block_lt_of_cell? w _ x0)).trans x0
    have z1:=(bel.cell (World.block_lt_of_cell? w _ x1)).trans x1
    have z2:=(bel.cell (World.block_lt_of_cell? w _ x2)).trans x2
    have z3:=(bel.cell (World.block_lt_of_cell? w _ x3)).trans x3
    have z4:=(bel.cell (World.block_lt_of_cell? w _ x4)).trans x4
    have z5:=(bel.cell (World.block_lt_of_cell? w _ x5)).trans x5
    have z6:=(bel.cell (World.block_lt_of_cell? w _ x6)).trans x6
    have z7:=(bel.cell (World.block_lt_of_cell? w _ x7)).trans x7
    have z8:=(bel.cell (World.block_lt_of_cell? w _ x8)).trans x8
    have z9:=(bel.cell (World.block_lt_of_cell? w _ x9)).trans x9
    clear x0 x1 x2 x3 x4 x5 x6 x7 x8 x9
    obtain ⟨gm,hgm⟩:∃ gm,gk=gm+1:=⟨gk-1,by have:=HJ.out;omega⟩
    have HGM:=Ak hgm
    have HG:zh ((wr.alloc (.cells #[.int .i64 p.f0,.bool p.f1,.int .i64 p.f2,.slice A3 p.f3.length c3,.slice A4 p.f4.length c4,.slice A5 p.f5.length c5,.int .i64 p.f6,.string p.f7,.slice A8 p.f8.length c8,.slice A9 p.f9.length c9] 56)).heap[wr.heap.size]?=some (.cells #[.int .i64 p.f0,.bool p.f1,.int .i64 p.f2,.slice A3 p.f3.length c3,.slice A4 p.f4.length c4,.slice A5 p.f5.length c5,.int .i64 p.f6,.string p.f7,.slice A8 p.f8.length c8,.slice A9 p.f9.length c9] 56 (0,0))):=⟨World.alloc_heap_new wr _⟩
    have hcg:=(zf.yF (w:=wr) (.cells #[.int .i64 p.f0,.bool p.f1,.int .i64 p.f2,.slice A3 p.f3.length c3,.slice A4 p.f4.length c4,.slice A5 p.f5.length c5,.int .i64 p.f6,.string p.f7,.slice A8 p.f8.length c8,.slice A9 p.f9.length c9] 56)).block (b+1) HSW.out.2
    have HCG:zh ((wr.alloc (.cells #[.int .i64 p.f0,.bool p.f1,.int .i64 p.f2,.slice A3 p.f3.length c3,.slice A4 p.f4.length c4,.slice A5 p.f5.length c5,.int .i64 p.f6,.string p.f7,.slice A8 p.f8.length c8,.slice A9 p.f9.length c9] 56)).heap[b+1]?=some (.cells #[.pointer (some ⟨b,0,none⟩)] 40 (0,0))):=⟨hcg.trans (HV.out.2.2.2.oth (b+1) _ HCW.out (fun e=>by have:=Option.some.inj e;omega) (fun _ _ e=>by cases e))⟩
    have H0:zh (zf.Bd w.heap.size b l' (wr.alloc (.cells #[.int .i64 p.f0,.bool p.f1,.int .i64 p.f2,.slice A3 p.f3.length c3,.slice A4 p.f4.length c4,.slice A5 p.f5.length c5,.int .i64 p.f6,.string p.f7,.slice A8 p.f8.length c8,.slice A9 p.f9.length c9] 56))):=⟨HV.out.1.below (zf.yF _)⟩
    have K0:zh (zf.Kp w.heap.size b (wr.alloc (.cells #[.int .i64 p.f0,.bool p.f1,.int .i64 p.f2,.slice A3 p.f3.length c3,.slice A4 p.f4.length c4,.slice A5 p.f5.length c5,.int .i64 p.f6,.string p.f7,.slice A8 p.f8.length c8,.slice A9 p.f9.length c9] 56)) (wr.alloc (.cells #[.int .i64 p.f0,.bool p.f1,.int .i64 p.f2,.slice A3 p.f3.length c3,.slice A4 p.f4.length c4,.slice A5 p.f5.length c5,.int .i64 p.f6,.string p.f7,.slice A8 p.f8.length c8,.slice A9 p.f9.length c9] 56))):=⟨zf.Kp.refl _ _ _⟩
    have BG:zh (Below w.heap.size w (wr.alloc (.cells #[.int .i64 p.f0,.bool p.f1,.int .i64 p.f2,.slice A3 p.f3.length c3,.slice A4 p.f4.length c4,.slice A5 p.f5.length c5,.int .i64 p.f6,.string p.f7,.slice A8 p.f8.length c8,.slice A9 p.f9.length c9] 56))):=⟨bel.alloc bel.size _⟩
    have SG:zh (w.heap.size≤(wr.alloc (.cells #[.int .i64 p.f0,.bool p.f1,.int .i64 p.f2,.slice A3 p.f3.length c3,.slice A4 p.f4.length c4,.slice A5 p.f5.length c5,.int .i64 p.f6,.string p.f7,.slice A8 p.f8.length c8,.slice A9 p.f9.length c9] 56)).heap.size):=⟨BG.out.size⟩
    have SGW:zh (w.heap.size≤wr.heap.size):=⟨HSW.out.1⟩
    have hgb:wr.heap.size≠b:=by have:=HSW.out.2;omega
    have hcb:b+1≠b:=by omega
    clear e ha hq hr' g3 g4 g5 g8 g9 l3 l4 l5 l8 l9 bel hgm hcg
    obtain ⟨p0,p1,p2,p3,p4,p5,p6,p7,p8,p9,pc,pch⟩:=zf.reads K0.out HG.out HCG.out hgb hcb
    clear pch
    obtain ⟨br,hbr⟩:∃ br,q.br=br:=⟨_,rfl⟩
    have HBR2:zh (xk.f p.f0 p.f1 p.f2 p.f3 p.f4 p.f5 p.f6 p.f7 p.f8 p.f9=some br):=⟨by rw [← hbr];exact HQ.out.hb⟩
    have HLT2:zh (l'.length+(1+q.s0.size+q.s2.size+(q.n3.size+q.b3.length)+(q.n4.size+q.b4.length)+(q.n5.size+q.b5.length)+q.s6.size+1+(if br=true then 0 else (q.n7.size+p.f7.size)+(q.n8.size+q.b8.length)+(q.n9.size+q.b9.length)))≤140737488000006):=⟨by
     have h:=HLT.out
     rw [zf.whole,zf.head,zf.tail,hbr] at h
     cases br <;> simp only [List.length_append,List.length_cons,List.length_nil,zf.vH,if_true,if_false,Bool.false_eq_true] at h ⊢ <;> omega⟩
    have HBQ:=Ak hbr;clear hbr
    go_wp2_with (first|(go_at_call 18;refine (zf.flag w.heap.size b l' p.f1 _ H0.out (by have:=HLT2.out;(try simp only [List.length_append,List.length_cons,List.length_nil,zf.vH]);omega) SG.out).mono ?_;rintro e w11 ⟨rfl,h,k⟩;clear z0 z1 z2 z3 z4 z5 z6 z7 z8 z9 u1 t1 t2 t3;have H1:=Ak h;have K1:=Ak (K0.out.trans k);clear h k p0 p1 p2 p3 p4 p5 p6 p7 p8 p9 pc;obtain ⟨p0,p1,p2,p3,p4,p5,p6,p7,p8,p9,pc,pch⟩:=zf.reads K1.out HG.out HCG.out hgb hcb;clear pch)|(go_at_call 19;refine (zf.num w.heap.size b _ p.f0 10 q.s0 _ H1.out HQ.out.h0 (by have:=HLT2.out;(try simp only [List.length_append,List.length_cons,List.length_nil,zf.vH]);omega) (by have:=SG.out;have:=K1.out.size;omega)).mono ?_;rintro e w12 ⟨rfl,h,k⟩;have H2:=Ak h;have K2:=Ak (K1.out.trans k);clear h k p0 p1 p2 p3 p4 p5 p6 p7 p8 p9 pc;obtain ⟨p0,p1,p2,p3,p4,p5,p6,p7,p8,p9,pc,pch⟩:=zf.reads K2.out HG.out HCG.out hgb hcb;clear pch)|(go_at_call 19;refine (zf.num w.heap.size b _ p.f2 10 q.s2 _ H2.out HQ.out.h2 (by have:=HLT2.out;(try simp only [List.length_append,List.length_cons,List.length_nil,zf.vH]);omega) (by have:=SG.out;have:=K2.out.size;omega)).mono ?_;rintro e w13 ⟨rfl,h,k⟩;have H3:=Ak h;have K3:=Ak (K2.out.trans k);clear h k p0 p1 p2 p3 p4 p5 p6 p7 p8 p9 pc;obtain ⟨p0,p1,p2,p3,p4,p5,p6,p7,p8,p9,pc,pch⟩:=zf.reads K3.out HG.out HCG.out hgb hcb;clear pch)|(go_at_call 20;refine (zf.listed38 w.heap.size b (b+1) _ p.f3 A3 c3 10 q.n3 q.b3 w _ H3.out rfl (BG.out.trans K3.out.bel) G3.out (zf.reads K3.out HG.out HCG.out hgb hcb).2.2.2.2.2.2.2.2.2.2.2 hcb HQ.out.h3 HQ.out.g3 HQ.out.r3 (by have:=HLT2.out;(try simp only [List.length_append,List.length_cons,List.length_nil,zf.vH]);omega) (by have:=SG.out;have:=K3.out.size;omega)).mono ?_;rintro e w14 ⟨rfl,h,k⟩;have H4:=Ak h;have K4:=Ak (K3.out.trans k);clear h k p0 p1 p2 p3 p4 p5 p6 p7 p8 p9 pc;obtain ⟨p0,p1,p2,p3,p4,p5,p6,p7,p8,p9,pc,pch⟩:=zf.reads K4.out HG.out HCG.out hgb hcb;clear pch)|(go_at_call 24;refine (zf.listed42 w.heap.size b _ p.f4 A4 c4 10 q.n4 q.b4 w _ H4.out rfl (BG.out.trans K4.out.bel) G4.out HQ.out.h4 HQ.out.g4 (by have:=HLT2.out;(try simp only [List.length_append,List.length_cons,List.length_nil,zf.vH]);omega) (by have:=SG.out;have:=K4.out.size;omega)).mono ?_;rintro e w15 ⟨rfl,h,k⟩;have H5:=Ak h;have K5:=Ak (K4.out.trans k);clear h k p0 p1 p2 p3 p4 p5 p6 p7 p8 p9 pc;obtain ⟨p0,p1,p2,p3,p4,p5,p6,p7,p8,p9,pc,pch⟩:=zf.reads K5.out HG.out HCG.out hgb hcb;clear pch)|(go_at_call 26;refine (zf.listed44 w.heap.size b (b+1) _ p.f5 A5 c5 10 q.n5 q.b5 w _ H5.out rfl (BG.out.trans K5.out.bel) G5.out (zf.reads K5.out HG.out HCG.out hgb hcb).2.2.2.2.2.2.2.2.2.2.2 hcb HQ.out.h5 HQ.out.g5 (by have:=HLT2.out;(try simp only [List.length_append,List.length_cons,List.length_nil,zf.vH]);omega) (by have:=SG.out;have:=K5.out.size;omega)).mono ?_;rintro e w16 ⟨rfl,h,k⟩;have H6:=Ak h;have K6:=Ak (K5.out.trans k);clear h k p0 p1 p2 p3 p4 p5 p6 p7 p8 p9 pc;obtain ⟨p0,p1,p2,p3,p4,p5,p6,p7,p8,p9,pc,pch⟩:=zf.reads K6.out HG.out HCG.out hgb hcb;clear pch)|(go_at_call 19;refine (zf.num w.heap.size b _ p.f6 10 q.s6 _ H6.out HQ.out.h6 (by have:=HLT2.out;(try simp only [List.length_append,List.length_cons,List.length_nil,zf.vH]);omega) (by have:=SG.out;have:=K6.out.size;omega)).mono ?_;rintro e w17 ⟨rfl,h,k⟩;have H7:=Ak h;have K7:=Ak (K6.out.trans k);clear h k p0 p1 p2 p3 p4 p5 p6 p7 p8 p9 pc;obtain ⟨p0,p1,p2,p3,p4,p5,p6,p7,p8,p9,pc,pch⟩:=zf.reads K7.out HG.out HCG.out hgb hcb;clear pch))
    go_region_with_o (first|(go_at_call 28;have BX:=(BG.out.trans K7.out.bel);refine (xk.calls _ _ _ _ _ _ _ _ _ _ _ _ _ _ _ _ _ _ _ _ _ _ ?c3 L3.out ?c4 L4.out ?c5 L5.out ?c8 L8.out ?c9 L9.out HBR2.out).mono ?_;(case c3=>exact Kd.zY G3.out (by repeat (with_reducible first|exact BX|apply zJ|apply zO)));(case c4=>exact Kd.zY G4.out (by repeat (with_reducible first|exact BX|apply zJ|apply zO)));(case c5=>exact Kd.zY G5.out (by repeat (with_reducible first|exact BX|apply zJ|apply zO)));(case c8=>exact Kd.zY G8.out (by repeat (with_reducible first|exact BX|apply zJ|apply zO)));(case c9=>exact Kd.zY G9.out (by repeat (with_reducible first|exact BX|apply zJ|apply zO)));rintro e w18 ⟨rfl,hb⟩;have hb3:Below w17.heap.size w17 w18:=Below.trans (by repeat (with_reducible first|exact Below.refl _ _|apply zJ|apply zO)) hb;have h:=H7.out.below hb3;have k:=zf.Kp.below (B:=w.heap.size) (b:=b) (by have:=SG.out;have:=K7.out.size;omega) hb3;clear hb hb3 BX;have H8:=Ak h;have K8:=Ak (K7.out.trans k);clear h k p0 p1 p2 p3 p4 p5 p6 p7 p8 p9 pc;obtain ⟨p0,p1,p2,p3,p4,p5,p6,p7,p8,p9,pc,pch⟩:=zf.reads K8.out HG.out HCG.out hgb hcb;clear pch)|(go_at_call 18;refine (zf.flag w.heap.size b _ (!br) _ H8.out (by have:=HLT2.out;(try simp only [List.length_append,List.length_cons,List.length_nil,zf.vH]);omega) (by have:=SG.out;have:=K8.out.size;omega)).mono ?_;rintro e w19 ⟨rfl,h,k⟩;have H9:=Ak h;have K9:=Ak (K8.out.trans k);clear h k p0 p1 p2 p3 p4 p5 p6 p7 p8 p9 pc;obtain ⟨p0,p1,p2,p3,p4,p5,p6,p7,p8,p9,pc,pch⟩:=zf.reads K9.out HG.out HCG.out hgb hcb;clear pch))
    all_goals (
     cases br
     ·have HLT3:=HLT2.out
      rw [if_neg (by decide)] at HLT3
      have HLT2:=Ak HLT3;clear HLT3
      go_wp2_with (first|(go_at_call 28;have BX:=(BG.out.trans K9.out.bel);refine (xk.calls _ _ _ _ _ _ _ _ _ _ _ _ _ _ _ _ _ _ _ _ _ _ ?c3 L3.out ?c4 L4.out ?c5 L5.out ?c8 L8.out ?c9 L9.out HBR2.out).mono ?_;(case c3=>exact Kd.zY G3.out (by repeat (with_reducible first|exact BX|apply zJ|apply zO)));(case c4=>exact Kd.zY G4.out (by repeat (with_reducible first|exact BX|apply zJ|apply zO)));(case c5=>exact Kd.zY G5.out (by repeat (with_reducible first|exact BX|apply zJ|apply zO)));(case c8=>exact Kd.zY G8.out (by repeat (with_reducible first|exact BX|apply zJ|apply zO)));(case c9=>exact Kd.zY G9.out (by repeat (with_reducible first|exact BX|apply zJ|apply zO)));rintro e w20 ⟨rfl,hb⟩;have hb3:Below w19.heap.size w19 w20:=Below.trans (by repeat (with_reducible first|exact Below.refl _ _|apply zJ|apply zO)) hb;have h:=H9.out.below hb3;have k:=zf.Kp.below (B:=w.heap.size) (b:=b) (by have:=SG.out;have:=K9.out.size;omega) hb3;clear hb hb3 BX;have H10:=Ak h;have K10:=Ak (K9.out.trans k);clear h k p0 p1 p2 p3 p4 p5 p6 p7 p8 p9 pc;obtain ⟨p0,p1,p2,p3,p4,p5,p6,p7,p8,p9,pc,pch⟩:=zf.reads K10.out HG.out HCG.out hgb hcb;clear pch)|(go_at_call 29;refine (zf.text w.heap.size b _ p.f7 10 q.n7 _ H10.out HQ.out.h7 (by have:=HLT2.out;(try simp only [List.length_append,List.length_cons,List.length_nil,zf.vH]);omega) (by have:=SG.out;have:=K10.out.size;omega)).mono ?_;rintro e w21 ⟨rfl,h,k⟩;have H11:=Ak h;have K11:=Ak (K10.out.trans k);clear h k p0 p1 p2 p3 p4 p5 p6 p7 p8 p9 pc;obtain ⟨p0,p1,p2,p3,p4,p5,p6,p7,p8,p9,pc,pch⟩:=zf.reads K11.out HG.out HCG.out hgb hcb;clear pch)|(go_at_call 30;refine (zf.listed48 w.heap.size b _ p.f8 A8 c8 10 q.n8 q.b8 w _ H11.out rfl (BG.out.trans K11.out.bel) G8.out HQ.out.h8 HQ.out.g8 (by have:=HLT2.out;(try simp only [List.length_append,List.length_cons,List.length_nil,zf.vH]);omega) (by have:=SG.out;have:=K11.out.size;omega)).mono ?_;rintro e w22 ⟨rfl,h,k⟩;have H12:=Ak h;have K12:=Ak (K11.out.trans k);clear h k p0 p1 p2 p3 p4 p5 p6 p7 p8 p9 pc;obtain ⟨p0,p1,p2,p3,p4,p5,p6,p7,p8,p9,pc,pch⟩:=zf.reads K12.out HG.out HCG.out hgb hcb;clear pch)|(go_at_call 31;refine (zf.listed49 w.heap.size b _ p.f9 A9 c9 10 q.n9 q.b9 w _ H12.out rfl (BG.out.trans K12.out.bel) G9.out HQ.out.h9 HQ.out.g9 (by have:=HLT2.out;(try simp only [List.length_append,List.length_cons,List.length_nil,zf.vH]);omega) (by have:=SG.out;have:=K12.out.size;omega)).mono ?_;rintro e w23 ⟨rfl,h,k⟩;have H13:=Ak h;have K13:=Ak (K12.out.trans k);clear h k p0 p1 p2 p3 p4 p5 p6 p7 p8 p9 pc;obtain ⟨p0,p1,p2,p3,p4,p5,p6,p7,p8,p9,pc,pch⟩:=zf.reads K13.out HG.out HCG.out hgb hcb;clear pch))
      have hgk:=HGM.out
      subst hgk
      go_roundg gm
      case measure=>have:=HJ.out;omega
      case rel=>exact ⟨j+1,_,r',by simp,⟨by have:=HJ.out;omega⟩,⟨H13.out,HR'.out,by have:=HV.out.2.2.1;rw [zf.whole,zf.head,zf.tail,HBQ.out,if_neg (by decide)] at this;simpa only [List.append_assoc] using this,(HV.out.2.2.2.trans (zf.Kp.below SGW.out (zf.yF _))).trans K13.out⟩⟩
     ·go_wp2_with (go_at_call 28;have BX:=(BG.out.trans K9.out.bel);refine (xk.calls _ _ _ _ _ _ _ _ _ _ _ _ _ _ _ _ _ _ _ _ _ _ ?c3 L3.out ?c4 L4.out ?c5 L5.out ?c8 L8.out ?c9 L9.out HBR2.out).mono ?_;(case c3=>exact Kd.zY G3.out (by repeat (with_reducible first|exact BX|apply zJ|apply zO)));(case c4=>exact Kd.zY G4.out (by repeat (with_reducible first|exact BX|apply zJ|apply zO)));(case c5=>exact Kd.zY G5.out (by repeat (with_reducible first|exact BX|apply zJ|apply zO)));(case c8=>exact Kd.zY G8.out (by repeat (with_reducible first|exact BX|apply zJ|apply zO)));(case c9=>exact Kd.zY G9.out (by repeat (with_reducible first|exact BX|apply zJ|apply zO)));rintro e w20 ⟨rfl,hb⟩;have hb3:Below w19.heap.size w19 w20:=Below.trans (by repeat (with_reducible first|exact Below.refl _ _|apply zJ|apply zO)) hb;have h:=H9.out.below hb3;have k:=zf.Kp.below (B:=w.heap.size) (b:=b) (by have:=SG.out;have:=K9.out.size;omega) hb3;clear hb hb3 BX;have H10:=Ak h;have K10:=Ak (K9.out.trans k);clear h k p0 p1 p2 p3 p4 p5 p6 p7 p8 p9 pc;obtain ⟨p0,p1,p2,p3,p4,p5,p6,p7,p8,p9,pc,pch⟩:=zf.reads K10.out HG.out HCG.out hgb hcb;clear pch)
      have hgk:=HGM.out
      subst hgk
      go_roundg gm
      case measure=>have:=HJ.out;omega
      case rel=>exact ⟨j+1,_,r',by simp,⟨by have:=HJ.out;omega⟩,⟨H10.out,HR'.out,by have:=HV.out.2.2.1;rw [zf.whole,zf.head,HBQ.out,if_pos rfl] at this;simpa only [List.append_assoc,List.append_nil] using this,(HV.out.2.2.2.trans (zf.Kp.below SGW.out (zf.yF _))).trans K10.out⟩⟩)
   ·have hje:j=zV.length:=by have:=HJ.out;omega
    subst hje
    have hv:=HV.out
    obtain ⟨h1,h2,h3,h4⟩:=hv
    rw [List.drop_length] at h2
    obtain rfl:=Option.some.inj h2
    rw [List.append_nil] at h3
    subst h3
    have u1:wr.cell? ⟨b+1,0,none⟩=some (.pointer (some ⟨b,0,none⟩)):=(Lib.cell_of_heap (h4.oth (b+1) _ HCW.out (fun e=>by have:=Option.some.inj e;omega) (fun _ _ e=>by cases e)) 0).trans rfl
    have t1:decide ((zV.length:Int)<(zV.length:Int))=false:=df (by omega)
    have H5:=Ak h1
    have K5:=Ak (HB2.out.trans h4.bel)
    clear h1 h2 h4 HV
    go_wp2_with (go_at_call 32;refine (zf.str w.heap.size b _ _ H5.out (by simp [zf.hdr])).mono ?_;rintro e w9 ⟨rfl,h9⟩;have H9:=Ak h9;clear h9)
    go_ret2
    exact ⟨rfl,K5.out.trans H9.out⟩
end Go.Proofs.YtiekodnojmkfaaaGreatDoor.yD
