-- Printed by the kit's print or by this session's program, then cut and tightened by it.
import Derived.Test.YtiekodnojmkfaaaDoorTight
import Derived.Test.YtiekodnojmkfaaaDoorProg
import Derived.Below
import Derived.Deep.Draws
import Derived.Deep.AppendLies
import Derived.Maps.AppendAt
import Derived.OwnWalk
import Derived.Laws.BytesArg
import Derived.Laws.MakeOwn
import Derived.Laws.OwnMore
import Derived.Deep.OwnRows
import Derived.Tactics
import Derived.Lib.ConvBytes
import Derived.Laws.Slices
import Derived.WalkKit
import Derived.KernelRfl
import Derived.RowKit3
import Derived.Deep.LoopGhost
import Derived.Deep.QuietTactic
import Derived.BigQuiet
import Derived.WideLaws
import Derived.Deep.DeepCutAuto
import Derived.Deep.CutBlock
import Derived.Deep.RegionHeld3
import Derived.Laws.Rows
import Derived.Lib.AppendStr
import Derived.ArgAppend
import Derived.Laws.IdiomCopy
import Derived.OrdersHeld
import Derived.Laws.BitsLemmas
import Derived.RowKit
import Derived.Test.YtiekodnojmkfaaaDoorWWords
import Derived.Test.YtiekodnojmkfaaaDoorWLast
import Derived.Test.YtiekodnojmkfaaaDoorWTab
import Derived.Test.YtiekodnojmkfaaaDoorWFour
import Derived.Test.YtiekodnojmkfaaaDoorWQPut
import Derived.Test.YtiekodnojmkfaaaDoorWApart
import Derived.Test.YtiekodnojmkfaaaDoorWArr
import Derived.Test.YtiekodnojmkfaaaDoorWZeros
import Derived.Test.YtiekodnojmkfaaaDoorWFoot
import Derived.Test.YtiekodnojmkfaaaDoorWKept
import Derived.Test.YtiekodnojmkfaaaDoorWShare
import Derived.Test.YtiekodnojmkfaaaDoorWN
import Derived.Test.YtiekodnojmkfaaaDoorWFootNe
import Derived.Test.YtiekodnojmkfaaaDoorWAt
import Derived.Test.YtiekodnojmkfaaaDoorWEqStruct
import Derived.Test.YtiekodnojmkfaaaDoorWRepsOne
import Derived.Test.YtiekodnojmkfaaaDoorWInv
import Derived.Test.YtiekodnojmkfaaaDoorWInvWords
import Derived.Test.YtiekodnojmkfaaaDoorWGuard
import Derived.Test.YtiekodnojmkfaaaDoorWNEv
import Derived.Test.YtiekodnojmkfaaaDoorWMore
namespace Go.Proofs.YtiekodnojmkfaaaDoor.PFnExactLoad
open Go.RowKit Go.Proofs.YtiekodnojmkfaaaDoorW.PrintWords Go.Proofs.YtiekodnojmkfaaaDoorW.PrintLast Go.Proofs.YtiekodnojmkfaaaDoorW.PrintMore
attribute [local go_sem] max2_int min2_int max_two min_two max_three min_three max_four min_four   -- for this text's walks alone
set_option linter.unusedVariables false
set_option linter.unusedSimpArgs false
def errW:Option Int→Value
 | none=>.nilIface
 | some c=>.iface 0 (.int .i64 c)
theorem errW_none:errW none=.nilIface:=rfl
theorem errW_some (c:Int):errW (some c)=.iface 0 (.int .i64 c):=rfl
theorem info3:(Tryd.prog.info? 3).map (fun i=>(i.zero,i.size,i.bytes))=some (some (.int .i64 0),1,8):=by kernel_rfl
theorem info9:(Tryd.prog.info? 9).map (fun i=>(i.zero,i.size,i.bytes))=some (some (.string ⟨#[]⟩),1,16):=by kernel_rfl
-- the values' own types
structure S63 where
 f0:Int
 f1:Int
 f2:ByteArray
def z63:S63:=⟨(0:Int),(0:Int),(⟨#[]⟩:ByteArray)⟩
def k63:Kd S63:=Kd.iso (Kd.pair (Kd.int .i64) (Kd.pair (Kd.int .i64) Kd.string)) (fun x:S63=>(x.f0,x.f1,x.f2))
theorem k63_open {w:World} {x:S63} {cs:List Value} (h:k63.K w x cs):cs=[.int .i64 x.f0,.int .i64 x.f1,.string x.f2]:=by
 obtain ⟨_,_,rfl,rfl,⟨_,_,rfl,rfl,rfl⟩⟩:=h
 exact rfl
theorem k63_openM {w:World} {base:Nat} {ok:Nat→Prop} {x:S63} {cs:List Value} (h:k63.M w base ok x cs):cs=[.int .i64 x.f0,.int .i64 x.f1,.string x.f2]:=by
 obtain ⟨_,_,rfl,rfl,⟨_,_,rfl,rfl,rfl⟩⟩:=h
 exact rfl
theorem k63_mkM (w:World) (base:Nat) (ok:Nat→Prop) (x:S63) :k63.M w base ok x [.int .i64 x.f0,.int .i64 x.f1,.string x.f2]:=⟨[.int .i64 x.f0],[.int .i64 x.f1,.string x.f2],rfl,rfl,⟨[.int .i64 x.f1],[.string x.f2],rfl,rfl,rfl⟩⟩
def rd_T63 (xs:List S63) (i:Int):S63:=xs.getD i.toNat z63
theorem at_T63 {w:World} {A:Option Addr} {n:Nat} {xs:List S63} (h:Kd.C k63 w A n xs) (i:Int) (h0:0≤i) (h1:i<n):∃ ad ,A=some ad∧w.cell? (ad.add (i.toNat*3))=some (.int .i64 (rd_T63 xs i).f0)∧w.cell? ⟨(ad.add (i.toNat*3)).block,(ad.add (i.toNat*3)).off+1,none⟩=some (.int .i64 (rd_T63 xs i).f1)∧w.cell? ⟨(ad.add (i.toNat*3)).block,(ad.add (i.toNat*3)).off+2,none⟩=some (.string (rd_T63 xs i).f2):=by
 obtain ⟨ad,c,e,_,hK,hc0⟩:=Kd.C_get h z63 i h0 h1
 have hc:∀ j u,c[j]?=some u→w.cell? (ad.add (i.toNat*3+j))=some u:=hc0
 obtain rfl:=k63_open hK
 exact ⟨ad,e,hc 0 _ rfl,by rw [← add_field _ _ 1 (by omega)];exact hc 1 _ rfl,by rw [← add_field _ _ 2 (by omega)];exact hc 2 _ rfl⟩
structure S67 where
 f0:Bool
 f1:Int
def z67:S67:=⟨false,(0:Int)⟩
def k67:Kd S67:=Kd.iso (Kd.pair Kd.bool (Kd.int .i64)) (fun x:S67=>(x.f0,x.f1))
theorem k67_open {w:World} {x:S67} {cs:List Value} (h:k67.K w x cs):cs=[.bool x.f0,.int .i64 x.f1]:=by
 obtain ⟨_,_,rfl,rfl,rfl⟩:=h
 exact rfl
theorem k67_openM {w:World} {base:Nat} {ok:Nat→Prop} {x:S67} {cs:List Value} (h:k67.M w base ok x cs):cs=[.bool x.f0,.int .i64 x.f1]:=by
 obtain ⟨_,_,rfl,rfl,rfl⟩:=h
 exact rfl
theorem k67_mkM (w:World) (base:Nat) (ok:Nat→Prop) (x:S67) :k67.M w base ok x [.bool x.f0,.int .i64 x.f1]:=⟨[.bool x.f0],[.int .i64 x.f1],rfl,rfl,rfl⟩
def rd_T67 (xs:List S67) (i:Int):S67:=xs.getD i.toNat z67
theorem at_T67 {w:World} {A:Option Addr} {n:Nat} {xs:List S67} (h:Kd.C k67 w A n xs) (i:Int) (h0:0≤i) (h1:i<n):∃ ad ,A=some ad∧w.cell? (ad.add (i.toNat*2))=some (.bool (rd_T67 xs i).f0)∧w.cell? ⟨(ad.add (i.toNat*2)).block,(ad.add (i.toNat*2)).off+1,none⟩=some (.int .i64 (rd_T67 xs i).f1):=by
 obtain ⟨ad,c,e,_,hK,hc0⟩:=Kd.C_get h z67 i h0 h1
 have hc:∀ j u,c[j]?=some u→w.cell? (ad.add (i.toNat*2+j))=some u:=hc0
 obtain rfl:=k67_open hK
 exact ⟨ad,e,hc 0 _ rfl,by rw [← add_field _ _ 1 (by omega)];exact hc 1 _ rfl⟩
def rd_L7 (xs:List (List Int)) (i:Int):(List Int):=xs.getD i.toNat ([]:List Int)
def rd_L8 (xs:List (List S63)) (i:Int):(List S63):=xs.getD i.toNat ([]:List S63)
def rd_L9 (xs:List (List S67)) (i:Int):(List S67):=xs.getD i.toNat ([]:List S67)
def rd_L10 (xs:List (List Int)) (i:Int):(List Int):=xs.getD i.toNat ([]:List Int)
def rd_L11 (xs:List (List ByteArray)) (i:Int):(List ByteArray):=xs.getD i.toNat ([]:List ByteArray)
structure S38 where
 f0:Int
 f1:Bool
 f2:Int
 f3:(List Int)
 f4:(List S63)
 f5:(List S67)
 f6:Int
 f7:ByteArray
 f8:(List Int)
 f9:(List ByteArray)
def z38:S38:=⟨(0:Int),false,(0:Int),([]:List Int),([]:List S63),([]:List S67),(0:Int),(⟨#[]⟩:ByteArray),([]:List Int),([]:List ByteArray)⟩
def k38:Kd S38:=Kd.iso (Kd.pair (Kd.int .i64) (Kd.pair Kd.bool (Kd.pair (Kd.int .i64) (Kd.pair (Kd.slice 61 (Kd.int .u32)) (Kd.pair (Kd.slice 63 k63) (Kd.pair (Kd.slice 67 k67) (Kd.pair (Kd.int .i64) (Kd.pair Kd.string (Kd.pair (Kd.slice 3 (Kd.int .i64)) (Kd.slice 9 Kd.string)))))))))) (fun x:S38=>(x.f0,x.f1,x.f2,x.f3,x.f4,x.f5,x.f6,x.f7,x.f8,x.f9))
theorem k38_open {w:World} {x:S38} {cs:List Value} (h:k38.K w x cs):∃ A3 c3 A4 c4 A5 c5 A8 c8 A9 c9,cs=[.int .i64 x.f0,.bool x.f1,.int .i64 x.f2,.slice A3 x.f3.length c3,.slice A4 x.f4.length c4,.slice A5 x.f5.length c5,.int .i64 x.f6,.string x.f7,.slice A8 x.f8.length c8,.slice A9 x.f9.length c9]∧x.f3.length≤c3∧(Kd.int .u32).C w A3 x.f3.length x.f3∧x.f4.length≤c4∧k63.C w A4 x.f4.length x.f4∧x.f5.length≤c5∧k67.C w A5 x.f5.length x.f5∧x.f8.length≤c8∧(Kd.int .i64).C w A8 x.f8.length x.f8∧x.f9.length≤c9∧Kd.string.C w A9 x.f9.length x.f9:=by
 obtain ⟨_,_,rfl,rfl,⟨_,_,rfl,rfl,⟨_,_,rfl,rfl,⟨_,_,rfl,⟨A3,c3,rfl,l3,g3⟩,⟨_,_,rfl,⟨A4,c4,rfl,l4,g4⟩,⟨_,_,rfl,⟨A5,c5,rfl,l5,g5⟩,⟨_,_,rfl,rfl,⟨_,_,rfl,rfl,⟨_,_,rfl,⟨A8,c8,rfl,l8,g8⟩,⟨A9,c9,rfl,l9,g9⟩⟩⟩⟩⟩⟩⟩⟩⟩⟩:=h
 exact ⟨A3,c3,A4,c4,A5,c5,A8,c8,A9,c9,rfl,l3,g3,l4,g4,l5,g5,l8,g8,l9,g9⟩
theorem k38_openM {w:World} {base:Nat} {ok:Nat→Prop} {x:S38} {cs:List Value} (h:k38.M w base ok x cs):∃ v3 v4 v5 v8 v9,cs=[.int .i64 x.f0,.bool x.f1,.int .i64 x.f2,v3,v4,v5,.int .i64 x.f6,.string x.f7,v8,v9]∧(Kd.int .u32).R 61 w base ok v3 x.f3∧k63.R 63 w base ok v4 x.f4∧k67.R 67 w base ok v5 x.f5∧(Kd.int .i64).R 3 w base ok v8 x.f8∧Kd.string.R 9 w base ok v9 x.f9:=by
 obtain ⟨_,_,rfl,rfl,⟨_,_,rfl,rfl,⟨_,_,rfl,rfl,⟨_,_,rfl,⟨v3,rfl,g3⟩,⟨_,_,rfl,⟨v4,rfl,g4⟩,⟨_,_,rfl,⟨v5,rfl,g5⟩,⟨_,_,rfl,rfl,⟨_,_,rfl,rfl,⟨_,_,rfl,⟨v8,rfl,g8⟩,⟨v9,rfl,g9⟩⟩⟩⟩⟩⟩⟩⟩⟩⟩:=h
 exact ⟨v3,v4,v5,v8,v9,rfl,g3,g4,g5,g8,g9⟩
theorem k38_mkM (w:World) (base:Nat) (ok:Nat→Prop) (x:S38) {v3:Value} (g3:(Kd.int .u32).R 61 w base ok v3 x.f3) {v4:Value} (g4:k63.R 63 w base ok v4 x.f4) {v5:Value} (g5:k67.R 67 w base ok v5 x.f5) {v8:Value} (g8:(Kd.int .i64).R 3 w base ok v8 x.f8) {v9:Value} (g9:Kd.string.R 9 w base ok v9 x.f9):k38.M w base ok x [.int .i64 x.f0,.bool x.f1,.int .i64 x.f2,v3,v4,v5,.int .i64 x.f6,.string x.f7,v8,v9]:=⟨[.int .i64 x.f0],[.bool x.f1,.int .i64 x.f2,v3,v4,v5,.int .i64 x.f6,.string x.f7,v8,v9],rfl,rfl,⟨[.bool x.f1],[.int .i64 x.f2,v3,v4,v5,.int .i64 x.f6,.string x.f7,v8,v9],rfl,rfl,⟨[.int .i64 x.f2],[v3,v4,v5,.int .i64 x.f6,.string x.f7,v8,v9],rfl,rfl,⟨[v3],[v4,v5,.int .i64 x.f6,.string x.f7,v8,v9],rfl,⟨v3,rfl,g3⟩,⟨[v4],[v5,.int .i64 x.f6,.string x.f7,v8,v9],rfl,⟨v4,rfl,g4⟩,⟨[v5],[.int .i64 x.f6,.string x.f7,v8,v9],rfl,⟨v5,rfl,g5⟩,⟨[.int .i64 x.f6],[.string x.f7,v8,v9],rfl,rfl,⟨[.string x.f7],[v8,v9],rfl,rfl,⟨[v8],[v9],rfl,⟨v8,rfl,g8⟩,⟨v9,rfl,g9⟩⟩⟩⟩⟩⟩⟩⟩⟩⟩
def rd_T38 (xs:List S38) (i:Int):S38:=xs.getD i.toNat z38
theorem at_T38 {w:World} {A:Option Addr} {n:Nat} {xs:List S38} (h:Kd.C k38 w A n xs) (i:Int) (h0:0≤i) (h1:i<n):∃ ad A3 c3 A4 c4 A5 c5 A8 c8 A9 c9,A=some ad∧w.cell? (ad.add (i.toNat*10))=some (.int .i64 (rd_T38 xs i).f0)∧w.cell? ⟨(ad.add (i.toNat*10)).block,(ad.add (i.toNat*10)).off+1,none⟩=some (.bool (rd_T38 xs i).f1)∧w.cell? ⟨(ad.add (i.toNat*10)).block,(ad.add (i.toNat*10)).off+2,none⟩=some (.int .i64 (rd_T38 xs i).f2)∧w.cell? ⟨(ad.add (i.toNat*10)).block,(ad.add (i.toNat*10)).off+3,none⟩=some (.slice A3 (rd_T38 xs i).f3.length c3)∧w.cell? ⟨(ad.add (i.toNat*10)).block,(ad.add (i.toNat*10)).off+4,none⟩=some (.slice A4 (rd_T38 xs i).f4.length c4)∧w.cell? ⟨(ad.add (i.toNat*10)).block,(ad.add (i.toNat*10)).off+5,none⟩=some (.slice A5 (rd_T38 xs i).f5.length c5)∧w.cell? ⟨(ad.add (i.toNat*10)).block,(ad.add (i.toNat*10)).off+6,none⟩=some (.int .i64 (rd_T38 xs i).f6)∧w.cell? ⟨(ad.add (i.toNat*10)).block,(ad.add (i.toNat*10)).off+7,none⟩=some (.string (rd_T38 xs i).f7)∧w.cell? ⟨(ad.add (i.toNat*10)).block,(ad.add (i.toNat*10)).off+8,none⟩=some (.slice A8 (rd_T38 xs i).f8.length c8)∧w.cell? ⟨(ad.add (i.toNat*10)).block,(ad.add (i.toNat*10)).off+9,none⟩=some (.slice A9 (rd_T38 xs i).f9.length c9)∧(rd_T38 xs i).f3.length≤c3∧(Kd.int .u32).C w A3 (rd_T38 xs i).f3.length (rd_T38 xs i).f3∧(rd_T38 xs i).f4.length≤c4∧k63.C w A4 (rd_T38 xs i).f4.length (rd_T38 xs i).f4∧(rd_T38 xs i).f5.length≤c5∧k67.C w A5 (rd_T38 xs i).f5.length (rd_T38 xs i).f5∧(rd_T38 xs i).f8.length≤c8∧(Kd.int .i64).C w A8 (rd_T38 xs i).f8.length (rd_T38 xs i).f8∧(rd_T38 xs i).f9.length≤c9∧Kd.string.C w A9 (rd_T38 xs i).f9.length (rd_T38 xs i).f9:=by
 obtain ⟨ad,c,e,_,hK,hc0⟩:=Kd.C_get h z38 i h0 h1
 have hc:∀ j u,c[j]?=some u→w.cell? (ad.add (i.toNat*10+j))=some u:=hc0
 obtain ⟨A3,c3,A4,c4,A5,c5,A8,c8,A9,c9,rfl,l3,g3,l4,g4,l5,g5,l8,g8,l9,g9⟩:=k38_open hK
 exact ⟨ad,A3,c3,A4,c4,A5,c5,A8,c8,A9,c9,e,hc 0 _ rfl,by rw [← add_field _ _ 1 (by omega)];exact hc 1 _ rfl,by rw [← add_field _ _ 2 (by omega)];exact hc 2 _ rfl,by rw [← add_field _ _ 3 (by omega)];exact hc 3 _ rfl,by rw [← add_field _ _ 4 (by omega)];exact hc 4 _ rfl,by rw [← add_field _ _ 5 (by omega)];exact hc 5 _ rfl,by rw [← add_field _ _ 6 (by omega)];exact hc 6 _ rfl,by rw [← add_field _ _ 7 (by omega)];exact hc 7 _ rfl,by rw [← add_field _ _ 8 (by omega)];exact hc 8 _ rfl,by rw [← add_field _ _ 9 (by omega)];exact hc 9 _ rfl,l3,g3,l4,g4,l5,g5,l8,g8,l9,g9⟩
end Go.Proofs.YtiekodnojmkfaaaDoor.PFnExactLoad
