/-
  No cell of these rows narrows 'for every input' (looked for: loops, veiled, ifaces, maps, wideKeys, modest, calm, conditions, laid).
  DERIVED. THE GIVEN ROWS OF THIS SEAT. 6 by the template 'for every input the law returns true; each argument reads behind the call as it read before'; 0 by the template 'total and deterministic' (their statements: YtnjchhkpomakoaaTotals.lean).
  GIVEN WITH THE SEED: the statements are not yours to turn. If you find one false, say at which input.
  Laid BY PROGRAM, IN A SANDBOX (cutbox-rows.mjs): the forced cells as the released guide's own fill.sh prints them over the translation b1d2e051b3ae87f2… (all of the seat's roots in one cut). By AI agents, Wed Nov 11 2026. No macro, syntax, notation, axiom, sorry.
-/
import Derived.Test.YtnjchhkpomakoaaChecked
import GoSem.Claim
import GoSem.ClaimJoined
import GoSem.ClaimMapViews
import Derived.JoinedTies
import Derived.KernelRfl
namespace Go.Proofs.Ytnjchhkpomakoaa
/- THE CELL 'sum', in the pinned program and in every row, IS THE sha256 OF THE DUMP (.gsa) THAT YtnjchhkpomakoaaProg.lean LOADS. Nothing in Lean hashes anything: it is a label: what it is worth is what the hold of that sum in a sandbox is worth. -/
noncomputable def Try.pinned : Pinned := { name := "ytnjchhkpomakoaa", sum := "b1d2e051b3ae87f23a2872898e5d38de9453d3d761659951c5145fb7baf44ca8", checked := Try.checked }
namespace Rows
def none {H : Type} : Left H := { results := [], args := [] }

/-- 'laws.FnExactConstants': WHATEVER THE INPUT: true; the input reads as it did. -/
def fnExactConstantsSpec : ChangeSpec := { name := "fnExactConstants", fn := fun _ => fun
  | [] => { results := [.lit (.bool true)], args := [] }
  | _ => none }
def fnExactConstantsRow : OpenClaim := { program := "ytnjchhkpomakoaa", sum := "b1d2e051b3ae87f23a2872898e5d38de9453d3d761659951c5145fb7baf44ca8", func := "loop.example/s02979/laws.FnExactConstants", spec := "fnExactConstants", apart := false }
def FnExactConstantsSaid : Prop := fnExactConstantsRow.holds Try.pinned (OpenSpec.ofChange fnExactConstantsSpec)

/-- ITS FALSE NEIGHBOUR: 'it returns false'. Refute it at one input. -/
def fnExactConstantsWrong : ChangeSpec := { name := "fnExactConstants", fn := fun _ => fun
  | [] => { results := [.lit (.bool false)], args := [] }
  | _ => none }
def FnExactConstantsWrongFalsely : Prop := fnExactConstantsRow.holds Try.pinned (OpenSpec.ofChange fnExactConstantsWrong)

/-- 'laws.FnExactPutInt': WHATEVER THE INPUT: true; the input reads as it did. -/
def fnExactPutIntSpec : ChangeSpec := { name := "fnExactPutInt", fn := fun _ => fun
  | [d] => { results := [.lit (.bool true)], args := [d] }
  | _ => none }
def fnExactPutIntRow : OpenClaim := { program := "ytnjchhkpomakoaa", sum := "b1d2e051b3ae87f23a2872898e5d38de9453d3d761659951c5145fb7baf44ca8", func := "loop.example/s02979/laws.FnExactPutInt", spec := "fnExactPutInt", apart := false }
def FnExactPutIntSaid : Prop := fnExactPutIntRow.holds Try.pinned (OpenSpec.ofChange fnExactPutIntSpec)

/-- ITS FALSE NEIGHBOUR: 'it returns false'. Refute it at one input. -/
def fnExactPutIntWrong : ChangeSpec := { name := "fnExactPutInt", fn := fun _ => fun
  | [d] => { results := [.lit (.bool false)], args := [d] }
  | _ => none }
def FnExactPutIntWrongFalsely : Prop := fnExactPutIntRow.holds Try.pinned (OpenSpec.ofChange fnExactPutIntWrong)

/-- 'laws.FnExactGetInt': WHATEVER THE INPUT: true; the input reads as it did. -/
def fnExactGetIntSpec : ChangeSpec := { name := "fnExactGetInt", fn := fun _ => fun
  | [d1, d2] => { results := [.lit (.bool true)], args := [d1, d2] }
  | _ => none }
def fnExactGetIntRow : OpenClaim := { program := "ytnjchhkpomakoaa", sum := "b1d2e051b3ae87f23a2872898e5d38de9453d3d761659951c5145fb7baf44ca8", func := "loop.example/s02979/laws.FnExactGetInt", spec := "fnExactGetInt", apart := false }
def FnExactGetIntSaid : Prop := fnExactGetIntRow.holds Try.pinned (OpenSpec.ofChange fnExactGetIntSpec)

/-- ITS FALSE NEIGHBOUR: 'it returns false'. Refute it at one input. -/
def fnExactGetIntWrong : ChangeSpec := { name := "fnExactGetInt", fn := fun _ => fun
  | [d1, d2] => { results := [.lit (.bool false)], args := [d1, d2] }
  | _ => none }
def FnExactGetIntWrongFalsely : Prop := fnExactGetIntRow.holds Try.pinned (OpenSpec.ofChange fnExactGetIntWrong)

/-- 'laws.FnExactPutVarint': WHATEVER THE INPUT: true; the input reads as it did. -/
def fnExactPutVarintSpec : ChangeSpec := { name := "fnExactPutVarint", fn := fun _ => fun
  | [d] => { results := [.lit (.bool true)], args := [d] }
  | _ => none }
def fnExactPutVarintRow : OpenClaim := { program := "ytnjchhkpomakoaa", sum := "b1d2e051b3ae87f23a2872898e5d38de9453d3d761659951c5145fb7baf44ca8", func := "loop.example/s02979/laws.FnExactPutVarint", spec := "fnExactPutVarint", recurses := true, apart := false }
def FnExactPutVarintSaid : Prop := fnExactPutVarintRow.holds Try.pinned (OpenSpec.ofChange fnExactPutVarintSpec)

/-- ITS FALSE NEIGHBOUR: 'it returns false'. Refute it at one input. -/
def fnExactPutVarintWrong : ChangeSpec := { name := "fnExactPutVarint", fn := fun _ => fun
  | [d] => { results := [.lit (.bool false)], args := [d] }
  | _ => none }
def FnExactPutVarintWrongFalsely : Prop := fnExactPutVarintRow.holds Try.pinned (OpenSpec.ofChange fnExactPutVarintWrong)

/-- 'laws.FnExactWide': WHATEVER THE INPUT: true; the input reads as it did. -/
def fnExactWideSpec : ChangeSpec := { name := "fnExactWide", fn := fun _ => fun
  | [d1, d2, d3] => { results := [.lit (.bool true)], args := [d1, d2, d3] }
  | _ => none }
def fnExactWideRow : OpenClaim := { program := "ytnjchhkpomakoaa", sum := "b1d2e051b3ae87f23a2872898e5d38de9453d3d761659951c5145fb7baf44ca8", func := "loop.example/s02979/laws.FnExactWide", spec := "fnExactWide", apart := false }
def FnExactWideSaid : Prop := fnExactWideRow.holds Try.pinned (OpenSpec.ofChange fnExactWideSpec)

/-- ITS FALSE NEIGHBOUR: 'it returns false'. Refute it at one input. -/
def fnExactWideWrong : ChangeSpec := { name := "fnExactWide", fn := fun _ => fun
  | [d1, d2, d3] => { results := [.lit (.bool false)], args := [d1, d2, d3] }
  | _ => none }
def FnExactWideWrongFalsely : Prop := fnExactWideRow.holds Try.pinned (OpenSpec.ofChange fnExactWideWrong)

/-- 'laws.FnExactGetVarint': WHATEVER THE INPUT: true; the input reads as it did. -/
def fnExactGetVarintSpec : ChangeSpec := { name := "fnExactGetVarint", fn := fun _ => fun
  | [d1, d2] => { results := [.lit (.bool true)], args := [d1, d2] }
  | _ => none }
def fnExactGetVarintRow : OpenClaim := { program := "ytnjchhkpomakoaa", sum := "b1d2e051b3ae87f23a2872898e5d38de9453d3d761659951c5145fb7baf44ca8", func := "loop.example/s02979/laws.FnExactGetVarint", spec := "fnExactGetVarint", recurses := true, apart := false }
def FnExactGetVarintSaid : Prop := fnExactGetVarintRow.holds Try.pinned (OpenSpec.ofChange fnExactGetVarintSpec)

/-- ITS FALSE NEIGHBOUR: 'it returns false'. Refute it at one input. -/
def fnExactGetVarintWrong : ChangeSpec := { name := "fnExactGetVarint", fn := fun _ => fun
  | [d1, d2] => { results := [.lit (.bool false)], args := [d1, d2] }
  | _ => none }
def FnExactGetVarintWrongFalsely : Prop := fnExactGetVarintRow.holds Try.pinned (OpenSpec.ofChange fnExactGetVarintWrong)

/- THE SECOND FORM. 'bulk': how many values and letters a reading holds, each counted each time it is reached (what is shared counts as often as it is met; a slice's spare places count too). A statement '..UptoSaid' is the law's where the arguments, and the package variables that the reading takes, are together of bulk at most 1048576: NARROWER than '..Said'. Prove '..Said' where nothing that the law and all that it calls make is longer than what came in: it says more and counts as full. Else prove '..UptoSaid'. A law counts once. -/
mutual
def uptoBulk {H : Type} : DataW H → Nat
  | .lit (.string bytes) => bytes.length + 1
  | .lit _ => 1
  | .nil => 1
  | .ptr d => uptoBulk d + 1
  | .slice elems spare => uptoBulkAll elems + uptoBulkAll spare + 1
  | .agg parts => uptoBulkAll parts + 1
  | .iface _ d => uptoBulk d + 1
  | .map entries => uptoBulkEntries entries + 1
  | .held _ => 1
def uptoBulkAll {H : Type} : List (DataW H) → Nat
  | [] => 0
  | d :: r => uptoBulk d + uptoBulkAll r
def uptoBulkEntries {H : Type} : List (Lit × DataW H) → Nat
  | [] => 0
  | x :: r => uptoBulkEntry x + uptoBulkEntries r
def uptoBulkEntry {H : Type} : Lit × DataW H → Nat
  | (.string bytes, d) => bytes.length + uptoBulk d + 1
  | (_, d) => uptoBulk d + 1
 end
def uptoSmall : (H : Type) → List (DataW H) → Bool := fun _ ds => decide (uptoBulkAll ds ≤ 1048576)
def OpenSpec.upto (s : _root_.Go.ChangeSpec) : _root_.Go.OpenSpec := { _root_.Go.OpenSpec.ofChange s with cond := some uptoSmall }

/-- 'laws.FnExactConstants', WHERE WHAT IT READS IS OF BULK AT MOST 1048576: true; the input reads as it did. -/
def fnExactConstantsUptoRow : OpenClaim := { program := "ytnjchhkpomakoaa", sum := "b1d2e051b3ae87f23a2872898e5d38de9453d3d761659951c5145fb7baf44ca8", func := "loop.example/s02979/laws.FnExactConstants", spec := "fnExactConstants", apart := false, narrowed := true }
def FnExactConstantsUptoSaid : Prop := fnExactConstantsUptoRow.holds Try.pinned (OpenSpec.upto fnExactConstantsSpec)

/-- 'laws.FnExactPutInt', WHERE WHAT IT READS IS OF BULK AT MOST 1048576: true; the input reads as it did. -/
def fnExactPutIntUptoRow : OpenClaim := { program := "ytnjchhkpomakoaa", sum := "b1d2e051b3ae87f23a2872898e5d38de9453d3d761659951c5145fb7baf44ca8", func := "loop.example/s02979/laws.FnExactPutInt", spec := "fnExactPutInt", apart := false, narrowed := true }
def FnExactPutIntUptoSaid : Prop := fnExactPutIntUptoRow.holds Try.pinned (OpenSpec.upto fnExactPutIntSpec)

/-- 'laws.FnExactGetInt', WHERE WHAT IT READS IS OF BULK AT MOST 1048576: true; the input reads as it did. -/
def fnExactGetIntUptoRow : OpenClaim := { program := "ytnjchhkpomakoaa", sum := "b1d2e051b3ae87f23a2872898e5d38de9453d3d761659951c5145fb7baf44ca8", func := "loop.example/s02979/laws.FnExactGetInt", spec := "fnExactGetInt", apart := false, narrowed := true }
def FnExactGetIntUptoSaid : Prop := fnExactGetIntUptoRow.holds Try.pinned (OpenSpec.upto fnExactGetIntSpec)

/-- 'laws.FnExactPutVarint', WHERE WHAT IT READS IS OF BULK AT MOST 1048576: true; the input reads as it did. -/
def fnExactPutVarintUptoRow : OpenClaim := { program := "ytnjchhkpomakoaa", sum := "b1d2e051b3ae87f23a2872898e5d38de9453d3d761659951c5145fb7baf44ca8", func := "loop.example/s02979/laws.FnExactPutVarint", spec := "fnExactPutVarint", recurses := true, apart := false, narrowed := true }
def FnExactPutVarintUptoSaid : Prop := fnExactPutVarintUptoRow.holds Try.pinned (OpenSpec.upto fnExactPutVarintSpec)

/-- 'laws.FnExactWide', WHERE WHAT IT READS IS OF BULK AT MOST 1048576: true; the input reads as it did. -/
def fnExactWideUptoRow : OpenClaim := { program := "ytnjchhkpomakoaa", sum := "b1d2e051b3ae87f23a2872898e5d38de9453d3d761659951c5145fb7baf44ca8", func := "loop.example/s02979/laws.FnExactWide", spec := "fnExactWide", apart := false, narrowed := true }
def FnExactWideUptoSaid : Prop := fnExactWideUptoRow.holds Try.pinned (OpenSpec.upto fnExactWideSpec)

/-- 'laws.FnExactGetVarint', WHERE WHAT IT READS IS OF BULK AT MOST 1048576: true; the input reads as it did. -/
def fnExactGetVarintUptoRow : OpenClaim := { program := "ytnjchhkpomakoaa", sum := "b1d2e051b3ae87f23a2872898e5d38de9453d3d761659951c5145fb7baf44ca8", func := "loop.example/s02979/laws.FnExactGetVarint", spec := "fnExactGetVarint", recurses := true, apart := false, narrowed := true }
def FnExactGetVarintUptoSaid : Prop := fnExactGetVarintUptoRow.holds Try.pinned (OpenSpec.upto fnExactGetVarintSpec)

end Rows
end Go.Proofs.Ytnjchhkpomakoaa
