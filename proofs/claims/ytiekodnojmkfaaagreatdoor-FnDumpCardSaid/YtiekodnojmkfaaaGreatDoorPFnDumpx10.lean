import Derived.Test.YtiekodnojmkfaaaGreatDoorSpoilw0
import Derived.Test.YtiekodnojmkfaaaGreatDoorSpoilw1
import Derived.Test.YtiekodnojmkfaaaGreatDoorSpoilw2
namespace Go.Proofs.YtiekodnojmkfaaaGreatDoor.yD
open Go.RowKit Go.Proofs.YtiekodnojmkfaaaGreatDoorW.zF Go.Proofs.YtiekodnojmkfaaaGreatDoorW.yC Go.Proofs.YtiekodnojmkfaaaGreatDoorW.yY
attribute [local go_sem] xM xO qG qH yZ xg xP xQ
set_option linter.unusedVariables false
set_option linter.unusedSimpArgs false
theorem l2Spoil_walk (k:Nat) (A0:Option Addr) (c0:Nat) (l0:List Int) (a1:Int) (P:Nat→Prop) (A2:Option Addr) (c2:Nat) (l2:List S56) (r:List S56) (w:World) (hr0:Kd.C (Kd.int .u8) w A0 l0.length l0) (hc0:l0.length≤c0) (hs:Kd.V k56 56 w w.heap.size P (.slice A2 l2.length c2) l2) (h:yE.f k l0 a1 l2=some r) :
  Calls Tryz.prog 16 #[.slice A0 l0.length c0,.int .i64 a1,.agg #[.slice A2 l2.length c2]] w fun e w'=>∃ v0_:Value,e=.returned (.agg #[v0_])∧Kd.N k56 56 w' w.heap.size (fun k_=>(P k_∨w.heap.size≤k_)) v0_ r∧Below w.heap.size w w':=by
 obtain ⟨a,p1,b,p2,x,p3,l,e1,e2,e3,e4,hin,_⟩:=Z7 h
 have h0:=hin.1
 have h1:=hin.2.1
 by_cases hlt0:a<7
 ·exact l2Spoil_w0 k A0 c0 l0 a1 P A2 c2 l2 r w hr0 hc0 hs h (fun a' p' he=>by rw [e1] at he;injection he with he;injection he with he _;subst he;omega)
 by_cases hlt1:a<14
 ·exact l2Spoil_w1 k A0 c0 l0 a1 P A2 c2 l2 r w hr0 hc0 hs h (fun a' p' he=>by rw [e1] at he;injection he with he;injection he with he _;subst he;omega)
 exact l2Spoil_w2 k A0 c0 l0 a1 P A2 c2 l2 r w hr0 hc0 hs h (fun a' p' he=>by rw [e1] at he;injection he with he;injection he with he _;subst he;omega)
theorem yE.calls (k:Nat) (A0:Option Addr) (c0:Nat) (l0:List Int) (a1:Int) (P2_0_:Nat→Prop) (A2_0:Option Addr) (c2_0:Nat) (l2_0:List (S56)) (r:List (S56)) (w:World) (hr0:Kd.C (Kd.int .u8) w A0 l0.length l0) (hc0:l0.length≤c0) (hs2_0:Kd.V k56 56 w w.heap.size (fun k_=>P2_0_ k_) (.slice A2_0 l2_0.length c2_0) l2_0) (h:yE.f k l0 a1 l2_0=some r) :
  Calls Tryz.prog 16 #[.slice A0 l0.length c0,.int .i64 a1,.agg #[.slice A2_0 l2_0.length c2_0]] w fun e w'=>∃ v0_:Value,e=.returned (.agg #[v0_])∧Kd.N k56 56 w' w.heap.size (fun k_=>(P2_0_ k_∨w.heap.size≤k_)) v0_ r∧Below w.heap.size w w':=by
 exact l2Spoil_walk k A0 c0 l0 a1 P2_0_ A2_0 c2_0 l2_0 r w hr0 hc0 hs2_0 h
end Go.Proofs.YtiekodnojmkfaaaGreatDoor.yD
