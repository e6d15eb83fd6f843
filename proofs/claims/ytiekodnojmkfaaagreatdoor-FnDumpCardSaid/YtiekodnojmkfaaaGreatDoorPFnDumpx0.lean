import Derived.Test.YtiekodnojmkfaaaGreatDoorTight
import Derived.Test.YtiekodnojmkfaaaGreatDoorProg
import Derived.Below
import Derived.Deep.Draws
import Derived.Deep.AppendLies
import Derived.Maps.AppendAt
import Derived.OwnWalk
import Derived.Laws.BytesArg
import Derived.Laws.MakeOwn
import Derived.Laws.OwnMore
import Derived.Deep.OwnRows
import Derived.Tactics
import Derived.Lib.ConvBytes
import Derived.Laws.Slices
import Derived.WalkKit
import Derived.KernelRfl
import Derived.RowKit3
import Derived.Deep.LoopGhost
import Derived.Deep.QuietTactic
import Derived.BigQuiet
import Derived.WideLaws
import Derived.Deep.DeepCutAuto
import Derived.Deep.CutBlock
import Derived.Deep.RegionHeld3
import Derived.Laws.Rows
import Derived.Lib.AppendStr
import Derived.ArgAppend
import Derived.Laws.IdiomCopy
import Derived.OrdersHeld
import Derived.Laws.BitsLemmas
import Derived.RowKit
import Derived.Test.YtiekodnojmkfaaaGreatDoorRange
import Derived.Shelf.Abstract
import Derived.Shelf.RegionOpen
import Derived.WalkKit
import Derived.OwnWalkIn
import Derived.TacticsInMore
import Derived.LoopNIn
import Derived.LoopIn
import Derived.Laws.EntriesVeiled
import Derived.RangeFuncBox
import Derived.RangeFuncNested
import Derived.LoopN
import Derived.WalkLawsBesides
import Derived.Handy
import Derived.Lib.Builder
import Derived.Lib.OthersKept
import Derived.Shelf.Strings.Builder1
import Derived.LaidEql
import Derived.Stop.Asserts
import Derived.RowKitTokens
import Derived.Test.YtiekodnojmkfaaaGreatDoorWWords
import Derived.Test.YtiekodnojmkfaaaGreatDoorWLast
import Derived.Test.YtiekodnojmkfaaaGreatDoorWTab
import Derived.Test.YtiekodnojmkfaaaGreatDoorWQPut
import Derived.Test.YtiekodnojmkfaaaGreatDoorWApart
import Derived.Test.YtiekodnojmkfaaaGreatDoorWArr
import Derived.Test.YtiekodnojmkfaaaGreatDoorWZeros
import Derived.Test.YtiekodnojmkfaaaGreatDoorWFoot
import Derived.Test.YtiekodnojmkfaaaGreatDoorWKept
import Derived.Test.YtiekodnojmkfaaaGreatDoorWShare
import Derived.Test.YtiekodnojmkfaaaGreatDoorWN
import Derived.Test.YtiekodnojmkfaaaGreatDoorWEqStruct
import Derived.Test.YtiekodnojmkfaaaGreatDoorWRepsOne
import Derived.Test.YtiekodnojmkfaaaGreatDoorWInv
import Derived.Test.YtiekodnojmkfaaaGreatDoorWGuard
import Derived.Test.YtiekodnojmkfaaaGreatDoorWNEv
import Derived.Test.YtiekodnojmkfaaaGreatDoorWMore
namespace Go.Proofs.YtiekodnojmkfaaaGreatDoor.yD
open Go.RowKit Go.Proofs.YtiekodnojmkfaaaGreatDoorW.zF Go.Proofs.YtiekodnojmkfaaaGreatDoorW.yC Go.Proofs.YtiekodnojmkfaaaGreatDoorW.yY
attribute [local go_sem] xM xO qG qH yZ xg xP xQ
set_option linter.unusedVariables false
set_option linter.unusedSimpArgs false
structure Glob (w:World):Prop where
 g0:w.cell? ⟨0,0,none⟩=some (.iface 181 (.agg #[.pointer (some ⟨1,47,none⟩)]))
theorem Glob.below {w w1:World} (h:Glob w) (hb:Below w.heap.size w w1):Glob w1:=⟨ZB hb h.g0⟩
def errW:Option Int→Value
 | none=>.nilIface
 | some c=>.iface 0 (.int .i64 c)
theorem errW_none:errW none=.nilIface:=rfl
theorem errW_some (c:Int):errW (some c)=.iface 0 (.int .i64 c):=rfl
theorem info5:(Tryz.prog.info? 5).map (fun i=>(i.zero,i.size,i.bytes))=some (some (.int .u8 0),1,1):=by kernel_rfl
theorem info56:(Tryz.prog.info? 56).map (fun i=>(i.zero,i.size,i.bytes))=some (some (.agg #[(.int .i64 0),(.bool false),(.int .i64 0),(.slice none 0 0),(.slice none 0 0),(.slice none 0 0),(.int .i64 0),(.string ⟨#[]⟩),(.slice none 0 0),(.slice none 0 0)]),10,168):=by kernel_rfl
theorem info60:(Tryz.prog.info? 60).map (fun i=>(i.zero,i.size,i.bytes))=some (some (.int .u32 0),1,4):=by kernel_rfl
theorem info67:(Tryz.prog.info? 67).map (fun i=>(i.zero,i.size,i.bytes))=some (some (.agg #[(.int .i64 0),(.int .i64 0),(.string ⟨#[]⟩)]),3,32):=by kernel_rfl
theorem info71:(Tryz.prog.info? 71).map (fun i=>(i.zero,i.size,i.bytes))=some (some (.agg #[(.bool false),(.int .i64 0)]),2,16):=by kernel_rfl
def rd_L4 (xs:List (List Int)) (i:Int):(List Int):=xs.getD i.toNat ([]:List Int)
structure S67 where
 f0:Int
 f1:Int
 f2:ByteArray
def z67:S67:=⟨(0:Int),(0:Int),(⟨#[]⟩:ByteArray)⟩
def k67:Kd S67:=Kd.iso (Kd.pair (Kd.int .i64) (Kd.pair (Kd.int .i64) Kd.string)) (fun x:S67=>(x.f0,x.f1,x.f2))
theorem QN {w:World} {x:S67} {cs:List Value} (h:k67.K w x cs):cs=[.int .i64 x.f0,.int .i64 x.f1,.string x.f2]:=by
 obtain ⟨_,_,rfl,rfl,⟨_,_,rfl,rfl,rfl⟩⟩:=h
 exact rfl
theorem kS (w:World) (base:Nat) (ok:Nat→Prop) (x:S67) :k67.M w base ok x [.int .i64 x.f0,.int .i64 x.f1,.string x.f2]:=⟨[.int .i64 x.f0],[.int .i64 x.f1,.string x.f2],rfl,rfl,⟨[.int .i64 x.f1],[.string x.f2],rfl,rfl,rfl⟩⟩
def xH (xs:List S67) (i:Int):S67:=xs.getD i.toNat z67
theorem Js {w:World} {A:Option Addr} {n:Nat} {xs:List S67} (h:Kd.C k67 w A n xs) (i:Int) (h0:0≤i) (h1:i<n):∃ ad ,A=some ad∧w.cell? (ad.add (i.toNat*3))=some (.int .i64 (xH xs i).f0)∧w.cell? ⟨(ad.add (i.toNat*3)).block,(ad.add (i.toNat*3)).off+1,none⟩=some (.int .i64 (xH xs i).f1)∧w.cell? ⟨(ad.add (i.toNat*3)).block,(ad.add (i.toNat*3)).off+2,none⟩=some (.string (xH xs i).f2):=by
 obtain ⟨ad,c,e,_,hK,hc0⟩:=Kd.C_get h z67 i h0 h1
 have hc:∀ j u,c[j]?=some u→w.cell? (ad.add (i.toNat*3+j))=some u:=hc0
 obtain rfl:=QN hK
 exact ⟨ad,e,hc 0 _ rfl,by rw [← qN _ _ 1 (by omega)];exact hc 1 _ rfl,by rw [← qN _ _ 2 (by omega)];exact hc 2 _ rfl⟩
def rd_L7 (xs:List (List S67)) (i:Int):(List S67):=xs.getD i.toNat ([]:List S67)
structure S71 where
 f0:Bool
 f1:Int
def z71:S71:=⟨false,(0:Int)⟩
def k71:Kd S71:=Kd.iso (Kd.pair Kd.bool (Kd.int .i64)) (fun x:S71=>(x.f0,x.f1))
theorem k71_open {w:World} {x:S71} {cs:List Value} (h:k71.K w x cs):cs=[.bool x.f0,.int .i64 x.f1]:=by
 obtain ⟨_,_,rfl,rfl,rfl⟩:=h
 exact rfl
theorem k71_openM {w:World} {base:Nat} {ok:Nat→Prop} {x:S71} {cs:List Value} (h:k71.M w base ok x cs):cs=[.bool x.f0,.int .i64 x.f1]:=by
 obtain ⟨_,_,rfl,rfl,rfl⟩:=h
 exact rfl
theorem Jd (w:World) (base:Nat) (ok:Nat→Prop) (x:S71) :k71.M w base ok x [.bool x.f0,.int .i64 x.f1]:=⟨[.bool x.f0],[.int .i64 x.f1],rfl,rfl,rfl⟩
def jh (xs:List S71) (i:Int):S71:=xs.getD i.toNat z71
theorem Jt {w:World} {A:Option Addr} {n:Nat} {xs:List S71} (h:Kd.C k71 w A n xs) (i:Int) (h0:0≤i) (h1:i<n):∃ ad ,A=some ad∧w.cell? (ad.add (i.toNat*2))=some (.bool (jh xs i).f0)∧w.cell? ⟨(ad.add (i.toNat*2)).block,(ad.add (i.toNat*2)).off+1,none⟩=some (.int .i64 (jh xs i).f1):=by
 obtain ⟨ad,c,e,_,hK,hc0⟩:=Kd.C_get h z71 i h0 h1
 have hc:∀ j u,c[j]?=some u→w.cell? (ad.add (i.toNat*2+j))=some u:=hc0
 obtain rfl:=k71_open hK
 exact ⟨ad,e,hc 0 _ rfl,by rw [← qN _ _ 1 (by omega)];exact hc 1 _ rfl⟩
def rd_L9 (xs:List (List S71)) (i:Int):(List S71):=xs.getD i.toNat ([]:List S71)
def rd_L10 (xs:List (List Int)) (i:Int):(List Int):=xs.getD i.toNat ([]:List Int)
def rd_L11 (xs:List (List ByteArray)) (i:Int):(List ByteArray):=xs.getD i.toNat ([]:List ByteArray)
structure S56 where
 f0:Int
 f1:Bool
 f2:Int
 f3:(List Int)
 f4:(List S67)
 f5:(List S71)
 f6:Int
 f7:ByteArray
 f8:(List Int)
 f9:(List ByteArray)
def z56:S56:=⟨(0:Int),false,(0:Int),([]:List Int),([]:List S67),([]:List S71),(0:Int),(⟨#[]⟩:ByteArray),([]:List Int),([]:List ByteArray)⟩
def k56:Kd S56:=Kd.iso (Kd.pair (Kd.int .i64) (Kd.pair Kd.bool (Kd.pair (Kd.int .i64) (Kd.pair (Kd.slice 60 (Kd.int .u32)) (Kd.pair (Kd.slice 67 k67) (Kd.pair (Kd.slice 71 k71) (Kd.pair (Kd.int .i64) (Kd.pair Kd.string (Kd.pair (Kd.slice 3 (Kd.int .i64)) (Kd.slice 9 Kd.string)))))))))) (fun x:S56=>(x.f0,x.f1,x.f2,x.f3,x.f4,x.f5,x.f6,x.f7,x.f8,x.f9))
theorem YF {w:World} {x:S56} {cs:List Value} (h:k56.K w x cs):∃ A3 c3 A4 c4 A5 c5 A8 c8 A9 c9,cs=[.int .i64 x.f0,.bool x.f1,.int .i64 x.f2,.slice A3 x.f3.length c3,.slice A4 x.f4.length c4,.slice A5 x.f5.length c5,.int .i64 x.f6,.string x.f7,.slice A8 x.f8.length c8,.slice A9 x.f9.length c9]∧x.f3.length≤c3∧(Kd.int .u32).C w A3 x.f3.length x.f3∧x.f4.length≤c4∧k67.C w A4 x.f4.length x.f4∧x.f5.length≤c5∧k71.C w A5 x.f5.length x.f5∧x.f8.length≤c8∧(Kd.int .i64).C w A8 x.f8.length x.f8∧x.f9.length≤c9∧Kd.string.C w A9 x.f9.length x.f9:=by
 obtain ⟨_,_,rfl,rfl,⟨_,_,rfl,rfl,⟨_,_,rfl,rfl,⟨_,_,rfl,⟨A3,c3,rfl,l3,g3⟩,⟨_,_,rfl,⟨A4,c4,rfl,l4,g4⟩,⟨_,_,rfl,⟨A5,c5,rfl,l5,g5⟩,⟨_,_,rfl,rfl,⟨_,_,rfl,rfl,⟨_,_,rfl,⟨A8,c8,rfl,l8,g8⟩,⟨A9,c9,rfl,l9,g9⟩⟩⟩⟩⟩⟩⟩⟩⟩⟩:=h
 exact ⟨A3,c3,A4,c4,A5,c5,A8,c8,A9,c9,rfl,l3,g3,l4,g4,l5,g5,l8,g8,l9,g9⟩
theorem k56_openM {w:World} {base:Nat} {ok:Nat→Prop} {x:S56} {cs:List Value} (h:k56.M w base ok x cs):∃ v3 v4 v5 v8 v9,cs=[.int .i64 x.f0,.bool x.f1,.int .i64 x.f2,v3,v4,v5,.int .i64 x.f6,.string x.f7,v8,v9]∧(Kd.int .u32).R 60 w base ok v3 x.f3∧k67.R 67 w base ok v4 x.f4∧k71.R 71 w base ok v5 x.f5∧(Kd.int .i64).R 3 w base ok v8 x.f8∧Kd.string.R 9 w base ok v9 x.f9:=by
 obtain ⟨_,_,rfl,rfl,⟨_,_,rfl,rfl,⟨_,_,rfl,rfl,⟨_,_,rfl,⟨v3,rfl,g3⟩,⟨_,_,rfl,⟨v4,rfl,g4⟩,⟨_,_,rfl,⟨v5,rfl,g5⟩,⟨_,_,rfl,rfl,⟨_,_,rfl,rfl,⟨_,_,rfl,⟨v8,rfl,g8⟩,⟨v9,rfl,g9⟩⟩⟩⟩⟩⟩⟩⟩⟩⟩:=h
 exact ⟨v3,v4,v5,v8,v9,rfl,g3,g4,g5,g8,g9⟩
theorem k56_mk (w:World) (x:S56) {A3:Option Addr} {c3:Nat} (l3:x.f3.length≤c3) (g3:(Kd.int .u32).C w A3 x.f3.length x.f3) {A4:Option Addr} {c4:Nat} (l4:x.f4.length≤c4) (g4:k67.C w A4 x.f4.length x.f4) {A5:Option Addr} {c5:Nat} (l5:x.f5.length≤c5) (g5:k71.C w A5 x.f5.length x.f5) {A8:Option Addr} {c8:Nat} (l8:x.f8.length≤c8) (g8:(Kd.int .i64).C w A8 x.f8.length x.f8) {A9:Option Addr} {c9:Nat} (l9:x.f9.length≤c9) (g9:Kd.string.C w A9 x.f9.length x.f9):k56.K w x [.int .i64 x.f0,.bool x.f1,.int .i64 x.f2,.slice A3 x.f3.length c3,.slice A4 x.f4.length c4,.slice A5 x.f5.length c5,.int .i64 x.f6,.string x.f7,.slice A8 x.f8.length c8,.slice A9 x.f9.length c9]:=⟨[.int .i64 x.f0],[.bool x.f1,.int .i64 x.f2,.slice A3 x.f3.length c3,.slice A4 x.f4.length c4,.slice A5 x.f5.length c5,.int .i64 x.f6,.string x.f7,.slice A8 x.f8.length c8,.slice A9 x.f9.length c9],rfl,rfl,⟨[.bool x.f1],[.int .i64 x.f2,.slice A3 x.f3.length c3,.slice A4 x.f4.length c4,.slice A5 x.f5.length c5,.int .i64 x.f6,.string x.f7,.slice A8 x.f8.length c8,.slice A9 x.f9.length c9],rfl,rfl,⟨[.int .i64 x.f2],[.slice A3 x.f3.length c3,.slice A4 x.f4.length c4,.slice A5 x.f5.length c5,.int .i64 x.f6,.string x.f7,.slice A8 x.f8.length c8,.slice A9 x.f9.length c9],rfl,rfl,⟨[.slice A3 x.f3.length c3],[.slice A4 x.f4.length c4,.slice A5 x.f5.length c5,.int .i64 x.f6,.string x.f7,.slice A8 x.f8.length c8,.slice A9 x.f9.length c9],rfl,⟨A3,c3,rfl,l3,g3⟩,⟨[.slice A4 x.f4.length c4],[.slice A5 x.f5.length c5,.int .i64 x.f6,.string x.f7,.slice A8 x.f8.length c8,.slice A9 x.f9.length c9],rfl,⟨A4,c4,rfl,l4,g4⟩,⟨[.slice A5 x.f5.length c5],[.int .i64 x.f6,.string x.f7,.slice A8 x.f8.length c8,.slice A9 x.f9.length c9],rfl,⟨A5,c5,rfl,l5,g5⟩,⟨[.int .i64 x.f6],[.string x.f7,.slice A8 x.f8.length c8,.slice A9 x.f9.length c9],rfl,rfl,⟨[.string x.f7],[.slice A8 x.f8.length c8,.slice A9 x.f9.length c9],rfl,rfl,⟨[.slice A8 x.f8.length c8],[.slice A9 x.f9.length c9],rfl,⟨A8,c8,rfl,l8,g8⟩,⟨A9,c9,rfl,l9,g9⟩⟩⟩⟩⟩⟩⟩⟩⟩⟩
theorem k56_mkM (w:World) (base:Nat) (ok:Nat→Prop) (x:S56) {v3:Value} (g3:(Kd.int .u32).R 60 w base ok v3 x.f3) {v4:Value} (g4:k67.R 67 w base ok v4 x.f4) {v5:Value} (g5:k71.R 71 w base ok v5 x.f5) {v8:Value} (g8:(Kd.int .i64).R 3 w base ok v8 x.f8) {v9:Value} (g9:Kd.string.R 9 w base ok v9 x.f9):k56.M w base ok x [.int .i64 x.f0,.bool x.f1,.int .i64 x.f2,v3,v4,v5,.int .i64 x.f6,.string x.f7,v8,v9]:=⟨[.int .i64 x.f0],[.bool x.f1,.int .i64 x.f2,v3,v4,v5,.int .i64 x.f6,.string x.f7,v8,v9],rfl,rfl,⟨[.bool x.f1],[.int .i64 x.f2,v3,v4,v5,.int .i64 x.f6,.string x.f7,v8,v9],rfl,rfl,⟨[.int .i64 x.f2],[v3,v4,v5,.int .i64 x.f6,.string x.f7,v8,v9],rfl,rfl,⟨[v3],[v4,v5,.int .i64 x.f6,.string x.f7,v8,v9],rfl,⟨v3,rfl,g3⟩,⟨[v4],[v5,.int .i64 x.f6,.string x.f7,v8,v9],rfl,⟨v4,rfl,g4⟩,⟨[v5],[.int .i64 x.f6,.string x.f7,v8,v9],rfl,⟨v5,rfl,g5⟩,⟨[.int .i64 x.f6],[.string x.f7,v8,v9],rfl,rfl,⟨[.string x.f7],[v8,v9],rfl,rfl,⟨[v8],[v9],rfl,⟨v8,rfl,g8⟩,⟨v9,rfl,g9⟩⟩⟩⟩⟩⟩⟩⟩⟩⟩
theorem k56_openF {W:World} {ok:Nat→Prop} {x:S56} {cs:List Value} (h:Kd.FK k56 W ok x cs):∃ A3 c3 A4 c4 A5 c5 A8 c8 A9 c9,cs=[.int .i64 x.f0,.bool x.f1,.int .i64 x.f2,.slice A3 x.f3.length c3,.slice A4 x.f4.length c4,.slice A5 x.f5.length c5,.int .i64 x.f6,.string x.f7,.slice A8 x.f8.length c8,.slice A9 x.f9.length c9]∧x.f3.length≤c3∧Kd.F (Kd.int .u32) W ok A3 x.f3.length x.f3∧x.f4.length≤c4∧Kd.F k67 W ok A4 x.f4.length x.f4∧x.f5.length≤c5∧Kd.F k71 W ok A5 x.f5.length x.f5∧x.f8.length≤c8∧Kd.F (Kd.int .i64) W ok A8 x.f8.length x.f8∧x.f9.length≤c9∧Kd.F Kd.string W ok A9 x.f9.length x.f9:=by
 obtain ⟨A3,c3,A4,c4,A5,c5,A8,c8,A9,c9,rfl,l3,_,l4,_,l5,_,l8,_,l9,_⟩:=YF (Kd.JU h)
 exact ⟨A3,c3,A4,c4,A5,c5,A8,c8,A9,c9,rfl,l3,(fun W' hW=>by obtain ⟨A3_,c3_,A4_,c4_,A5_,c5_,A8_,c8_,A9_,c9_,he,l3_,g3_,l4_,g4_,l5_,g5_,l8_,g8_,l9_,g9_⟩:=YF (h W' hW);injection (Option.some.inj (show some (Value.slice A3 x.f3.length c3)=some (Value.slice A3_ x.f3.length c3_) from congrArg (fun l=>l[3]?) he)) with ha_ _ _;rw [ha_];exact g3_),l4,(fun W' hW=>by obtain ⟨A3_,c3_,A4_,c4_,A5_,c5_,A8_,c8_,A9_,c9_,he,l3_,g3_,l4_,g4_,l5_,g5_,l8_,g8_,l9_,g9_⟩:=YF (h W' hW);injection (Option.some.inj (show some (Value.slice A4 x.f4.length c4)=some (Value.slice A4_ x.f4.length c4_) from congrArg (fun l=>l[4]?) he)) with ha_ _ _;rw [ha_];exact g4_),l5,(fun W' hW=>by obtain ⟨A3_,c3_,A4_,c4_,A5_,c5_,A8_,c8_,A9_,c9_,he,l3_,g3_,l4_,g4_,l5_,g5_,l8_,g8_,l9_,g9_⟩:=YF (h W' hW);injection (Option.some.inj (show some (Value.slice A5 x.f5.length c5)=some (Value.slice A5_ x.f5.length c5_) from congrArg (fun l=>l[5]?) he)) with ha_ _ _;rw [ha_];exact g5_),l8,(fun W' hW=>by obtain ⟨A3_,c3_,A4_,c4_,A5_,c5_,A8_,c8_,A9_,c9_,he,l3_,g3_,l4_,g4_,l5_,g5_,l8_,g8_,l9_,g9_⟩:=YF (h W' hW);injection (Option.some.inj (show some (Value.slice A8 x.f8.length c8)=some (Value.slice A8_ x.f8.length c8_) from congrArg (fun l=>l[8]?) he)) with ha_ _ _;rw [ha_];exact g8_),l9,(fun W' hW=>by obtain ⟨A3_,c3_,A4_,c4_,A5_,c5_,A8_,c8_,A9_,c9_,he,l3_,g3_,l4_,g4_,l5_,g5_,l8_,g8_,l9_,g9_⟩:=YF (h W' hW);injection (Option.some.inj (show some (Value.slice A9 x.f9.length c9)=some (Value.slice A9_ x.f9.length c9_) from congrArg (fun l=>l[9]?) he)) with ha_ _ _;rw [ha_];exact g9_)⟩
theorem k56_mkF (W:World) (ok:Nat→Prop) (x:S56) {A3:Option Addr} {c3:Nat} (l3:x.f3.length≤c3) (g3:Kd.F (Kd.int .u32) W ok A3 x.f3.length x.f3) {A4:Option Addr} {c4:Nat} (l4:x.f4.length≤c4) (g4:Kd.F k67 W ok A4 x.f4.length x.f4) {A5:Option Addr} {c5:Nat} (l5:x.f5.length≤c5) (g5:Kd.F k71 W ok A5 x.f5.length x.f5) {A8:Option Addr} {c8:Nat} (l8:x.f8.length≤c8) (g8:Kd.F (Kd.int .i64) W ok A8 x.f8.length x.f8) {A9:Option Addr} {c9:Nat} (l9:x.f9.length≤c9) (g9:Kd.F Kd.string W ok A9 x.f9.length x.f9):Kd.FK k56 W ok x [.int .i64 x.f0,.bool x.f1,.int .i64 x.f2,.slice A3 x.f3.length c3,.slice A4 x.f4.length c4,.slice A5 x.f5.length c5,.int .i64 x.f6,.string x.f7,.slice A8 x.f8.length c8,.slice A9 x.f9.length c9]:=fun W2 hW=>k56_mk W2 x l3 (g3 W2 hW) l4 (g4 W2 hW) l5 (g5 W2 hW) l8 (g8 W2 hW) l9 (g9 W2 hW)
def zu (xs:List S56) (i:Int):S56:=xs.getD i.toNat z56
theorem Z5 {w:World} {A:Option Addr} {n:Nat} {xs:List S56} (h:Kd.C k56 w A n xs) (i:Int) (h0:0≤i) (h1:i<n):∃ ad A3 c3 A4 c4 A5 c5 A8 c8 A9 c9,A=some ad∧w.cell? (ad.add (i.toNat*10))=some (.int .i64 (zu xs i).f0)∧w.cell? ⟨(ad.add (i.toNat*10)).block,(ad.add (i.toNat*10)).off+1,none⟩=some (.bool (zu xs i).f1)∧w.cell? ⟨(ad.add (i.toNat*10)).block,(ad.add (i.toNat*10)).off+2,none⟩=some (.int .i64 (zu xs i).f2)∧w.cell? ⟨(ad.add (i.toNat*10)).block,(ad.add (i.toNat*10)).off+3,none⟩=some (.slice A3 (zu xs i).f3.length c3)∧w.cell? ⟨(ad.add (i.toNat*10)).block,(ad.add (i.toNat*10)).off+4,none⟩=some (.slice A4 (zu xs i).f4.length c4)∧w.cell? ⟨(ad.add (i.toNat*10)).block,(ad.add (i.toNat*10)).off+5,none⟩=some (.slice A5 (zu xs i).f5.length c5)∧w.cell? ⟨(ad.add (i.toNat*10)).block,(ad.add (i.toNat*10)).off+6,none⟩=some (.int .i64 (zu xs i).f6)∧w.cell? ⟨(ad.add (i.toNat*10)).block,(ad.add (i.toNat*10)).off+7,none⟩=some (.string (zu xs i).f7)∧w.cell? ⟨(ad.add (i.toNat*10)).block,(ad.add (i.toNat*10)).off+8,none⟩=some (.slice A8 (zu xs i).f8.length c8)∧w.cell? ⟨(ad.add (i.toNat*10)).block,(ad.add (i.toNat*10)).off+9,none⟩=some (.slice A9 (zu xs i).f9.length c9)∧(zu xs i).f3.length≤c3∧(Kd.int .u32).C w A3 (zu xs i).f3.length (zu xs i).f3∧(zu xs i).f4.length≤c4∧k67.C w A4 (zu xs i).f4.length (zu xs i).f4∧(zu xs i).f5.length≤c5∧k71.C w A5 (zu xs i).f5.length (zu xs i).f5∧(zu xs i).f8.length≤c8∧(Kd.int .i64).C w A8 (zu xs i).f8.length (zu xs i).f8∧(zu xs i).f9.length≤c9∧Kd.string.C w A9 (zu xs i).f9.length (zu xs i).f9:=by
 obtain ⟨ad,c,e,_,hK,hc0⟩:=Kd.C_get h z56 i h0 h1
 have hc:∀ j u,c[j]?=some u→w.cell? (ad.add (i.toNat*10+j))=some u:=hc0
 obtain ⟨A3,c3,A4,c4,A5,c5,A8,c8,A9,c9,rfl,l3,g3,l4,g4,l5,g5,l8,g8,l9,g9⟩:=YF hK
 exact ⟨ad,A3,c3,A4,c4,A5,c5,A8,c8,A9,c9,e,hc 0 _ rfl,by rw [← qN _ _ 1 (by omega)];exact hc 1 _ rfl,by rw [← qN _ _ 2 (by omega)];exact hc 2 _ rfl,by rw [← qN _ _ 3 (by omega)];exact hc 3 _ rfl,by rw [← qN _ _ 4 (by omega)];exact hc 4 _ rfl,by rw [← qN _ _ 5 (by omega)];exact hc 5 _ rfl,by rw [← qN _ _ 6 (by omega)];exact hc 6 _ rfl,by rw [← qN _ _ 7 (by omega)];exact hc 7 _ rfl,by rw [← qN _ _ 8 (by omega)];exact hc 8 _ rfl,by rw [← qN _ _ 9 (by omega)];exact hc 9 _ rfl,l3,g3,l4,g4,l5,g5,l8,g8,l9,g9⟩
end Go.Proofs.YtiekodnojmkfaaaGreatDoor.yD
