-- Printed by the kit's print or by this session's program, then cut and tightened by it.
import Derived.Test.YtiekodnojmkfaaaSpoilw0
import Derived.Test.YtiekodnojmkfaaaSpoilw1
import Derived.Test.YtiekodnojmkfaaaSpoilw2
namespace Go.Proofs.Ytiekodnojmkfaaa.PFnEnds
open Go.RowKit Go.Proofs.YtiekodnojmkfaaaW.PrintWords Go.Proofs.YtiekodnojmkfaaaW.PrintLast Go.Proofs.YtiekodnojmkfaaaW.PrintMore
attribute [local go_sem] max2_int min2_int max_two min_two max_three min_three max_four min_four   -- for this text's walks alone
set_option linter.unusedVariables false
set_option linter.unusedSimpArgs false
theorem l2Spoil_walk (k:Nat) (A0:Option Addr) (c0:Nat) (l0:List Int) (a1:Int) (P:Nat→Prop) (A2:Option Addr) (c2:Nat) (l2:List S44) (r:List S44) (w:World) (hr0:Kd.C (Kd.int .u8) w A0 l0.length l0) (hc0:l0.length≤c0) (hs:Kd.V k44 44 w w.heap.size P (.slice A2 l2.length c2) l2) (h:spec_l2Spoil.f k l0 a1 l2=some r) :
  Calls Try.prog 32 #[.slice A0 l0.length c0,.int .i64 a1,.agg #[.slice A2 l2.length c2]] w fun e w'=>∃ v0_:Value,e=.returned (.agg #[v0_])∧Kd.N k44 44 w' w.heap.size (fun k_=>(P k_∨w.heap.size≤k_)) v0_ r∧Below w.heap.size w w':=by
 obtain ⟨a,p1,b,p2,x,p3,l,e1,e2,e3,e4,hin,_⟩:=l2Spoil_open h
 have h0:=hin.1
 have h1:=hin.2.1
 by_cases hlt0:a<7
 ·exact l2Spoil_w0 k A0 c0 l0 a1 P A2 c2 l2 r w hr0 hc0 hs h (fun a' p' he=>by rw [e1] at he;injection he with he;injection he with he _;subst he;omega)
 by_cases hlt1:a<14
 ·exact l2Spoil_w1 k A0 c0 l0 a1 P A2 c2 l2 r w hr0 hc0 hs h (fun a' p' he=>by rw [e1] at he;injection he with he;injection he with he _;subst he;omega)
 exact l2Spoil_w2 k A0 c0 l0 a1 P A2 c2 l2 r w hr0 hc0 hs h (fun a' p' he=>by rw [e1] at he;injection he with he;injection he with he _;subst he;omega)
theorem spec_l2Spoil.calls (k:Nat) (A0:Option Addr) (c0:Nat) (l0:List Int) (a1:Int) (P2_0_:Nat→Prop) (A2_0:Option Addr) (c2_0:Nat) (l2_0:List (S44)) (r:List (S44)) (w:World) (hr0:Kd.C (Kd.int .u8) w A0 l0.length l0) (hc0:l0.length≤c0) (hs2_0:Kd.V k44 44 w w.heap.size (fun k_=>P2_0_ k_) (.slice A2_0 l2_0.length c2_0) l2_0) (h:spec_l2Spoil.f k l0 a1 l2_0=some r) :
  Calls Try.prog 32 #[.slice A0 l0.length c0,.int .i64 a1,.agg #[.slice A2_0 l2_0.length c2_0]] w fun e w'=>∃ v0_:Value,e=.returned (.agg #[v0_])∧Kd.N k44 44 w' w.heap.size (fun k_=>(P2_0_ k_∨w.heap.size≤k_)) v0_ r∧Below w.heap.size w w':=by
 exact l2Spoil_walk k A0 c0 l0 a1 P2_0_ A2_0 c2_0 l2_0 r w hr0 hc0 hs2_0 h
end Go.Proofs.Ytiekodnojmkfaaa.PFnEnds
