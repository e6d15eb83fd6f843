/-
  No cell of these rows narrows 'for every input' (looked for: loops, veiled, ifaces, maps, wideKeys, modest, calm, conditions, laid).
  DERIVED. THE GIVEN ROWS OF THIS SEAT. 5 by the template 'for every input the law returns true; each argument reads behind the call as it read before'; 0 by the template 'total and deterministic' (their statements: YtiekodnojmkfaaaTotals.lean).
  GIVEN WITH THE SEED: the statements are not yours to turn. If you find one false, say at which input.
  Laid BY PROGRAM, IN A SANDBOX (cutbox-rows.mjs): the forced cells as the released guide's own fill.sh prints them over the translation 65839336fc89b2ff… (all of the seat's roots in one cut). By AI agents, Wed Nov 11 2026. No macro, syntax, notation, axiom, sorry.
-/
import Derived.Test.YtiekodnojmkfaaaChecked
import GoSem.Claim
import GoSem.ClaimJoined
import GoSem.ClaimMapViews
import Derived.JoinedTies
import Derived.KernelRfl
namespace Go.Proofs.Ytiekodnojmkfaaa
/- THE CELL 'sum', in the pinned program and in every row, IS THE sha256 OF THE DUMP (.gsa) THAT YtiekodnojmkfaaaProg.lean LOADS. Nothing in Lean hashes anything: it is a label: what it is worth is what the hold of that sum in a sandbox is worth. -/
noncomputable def Try.pinned : Pinned := { name := "ytiekodnojmkfaaa", sum := "65839336fc89b2ffb1f2daae7f14d82cb2832d811051a4909440121c62b25e2b", checked := Try.checked }
namespace Rows
def none {H : Type} : Left H := { results := [], args := [] }

/-- 'laws.FnExactWellFormed': WHATEVER THE INPUT: true; the input reads as it did. -/
def fnExactWellFormedSpec : ChangeSpec := { name := "fnExactWellFormed", fn := fun _ => fun
  | [d] => { results := [.lit (.bool true)], args := [d] }
  | _ => none }
def fnExactWellFormedRow : OpenClaim := { program := "ytiekodnojmkfaaa", sum := "65839336fc89b2ffb1f2daae7f14d82cb2832d811051a4909440121c62b25e2b", func := "loop.example/s02979/laws.FnExactWellFormed", spec := "fnExactWellFormed", unfollowed := true, recurses := true, apart := false }
def FnExactWellFormedSaid : Prop := fnExactWellFormedRow.holds Try.pinned (OpenSpec.ofChange fnExactWellFormedSpec)

/-- ITS FALSE NEIGHBOUR: 'it returns false'. Refute it at one input. -/
def fnExactWellFormedWrong : ChangeSpec := { name := "fnExactWellFormed", fn := fun _ => fun
  | [d] => { results := [.lit (.bool false)], args := [d] }
  | _ => none }
def FnExactWellFormedWrongFalsely : Prop := fnExactWellFormedRow.holds Try.pinned (OpenSpec.ofChange fnExactWellFormedWrong)

/-- 'laws.FnExactEnd': WHATEVER THE INPUT: true; the input reads as it did. -/
def fnExactEndSpec : ChangeSpec := { name := "fnExactEnd", fn := fun _ => fun
  | [d1, d2] => { results := [.lit (.bool true)], args := [d1, d2] }
  | _ => none }
def fnExactEndRow : OpenClaim := { program := "ytiekodnojmkfaaa", sum := "65839336fc89b2ffb1f2daae7f14d82cb2832d811051a4909440121c62b25e2b", func := "loop.example/s02979/laws.FnExactEnd", spec := "fnExactEnd", unfollowed := true, recurses := true, apart := false }
def FnExactEndSaid : Prop := fnExactEndRow.holds Try.pinned (OpenSpec.ofChange fnExactEndSpec)

/-- ITS FALSE NEIGHBOUR: 'it returns false'. Refute it at one input. -/
def fnExactEndWrong : ChangeSpec := { name := "fnExactEnd", fn := fun _ => fun
  | [d1, d2] => { results := [.lit (.bool false)], args := [d1, d2] }
  | _ => none }
def FnExactEndWrongFalsely : Prop := fnExactEndRow.holds Try.pinned (OpenSpec.ofChange fnExactEndWrong)

/-- 'laws.FnEnds': WHATEVER THE INPUT: true; the input reads as it did. -/
def fnEndsSpec : ChangeSpec := { name := "fnEnds", fn := fun _ => fun
  | [d] => { results := [.lit (.bool true)], args := [d] }
  | _ => none }
def fnEndsRow : OpenClaim := { program := "ytiekodnojmkfaaa", sum := "65839336fc89b2ffb1f2daae7f14d82cb2832d811051a4909440121c62b25e2b", func := "loop.example/s02979/laws.FnEnds", spec := "fnEnds", unfollowed := true, recurses := true, apart := false }
def FnEndsSaid : Prop := fnEndsRow.holds Try.pinned (OpenSpec.ofChange fnEndsSpec)

/-- ITS FALSE NEIGHBOUR: 'it returns false'. Refute it at one input. -/
def fnEndsWrong : ChangeSpec := { name := "fnEnds", fn := fun _ => fun
  | [d] => { results := [.lit (.bool false)], args := [d] }
  | _ => none }
def FnEndsWrongFalsely : Prop := fnEndsRow.holds Try.pinned (OpenSpec.ofChange fnEndsWrong)

/-- 'laws.FnExactDump': WHATEVER THE INPUT: true; the input reads as it did. -/
def fnExactDumpSpec : ChangeSpec := { name := "fnExactDump", fn := fun _ => fun
  | [d] => { results := [.lit (.bool true)], args := [d] }
  | _ => none }
def fnExactDumpRow : OpenClaim := { program := "ytiekodnojmkfaaa", sum := "65839336fc89b2ffb1f2daae7f14d82cb2832d811051a4909440121c62b25e2b", func := "loop.example/s02979/laws.FnExactDump", spec := "fnExactDump", inPlace := ["internal/abi.NoEscape"], unfollowed := true, recurses := true, apart := false }
def FnExactDumpSaid : Prop := fnExactDumpRow.holds Try.pinned (OpenSpec.ofChange fnExactDumpSpec)

/-- ITS FALSE NEIGHBOUR: 'it returns false'. Refute it at one input. -/
def fnExactDumpWrong : ChangeSpec := { name := "fnExactDump", fn := fun _ => fun
  | [d] => { results := [.lit (.bool false)], args := [d] }
  | _ => none }
def FnExactDumpWrongFalsely : Prop := fnExactDumpRow.holds Try.pinned (OpenSpec.ofChange fnExactDumpWrong)

/-- 'laws.FnExactStrip': WHATEVER THE INPUT: true; the input reads as it did. -/
def fnExactStripSpec : ChangeSpec := { name := "fnExactStrip", fn := fun _ => fun
  | [d] => { results := [.lit (.bool true)], args := [d] }
  | _ => none }
def fnExactStripRow : OpenClaim := { program := "ytiekodnojmkfaaa", sum := "65839336fc89b2ffb1f2daae7f14d82cb2832d811051a4909440121c62b25e2b", func := "loop.example/s02979/laws.FnExactStrip", spec := "fnExactStrip", unfollowed := true, recurses := true, apart := false }
def FnExactStripSaid : Prop := fnExactStripRow.holds Try.pinned (OpenSpec.ofChange fnExactStripSpec)

/-- ITS FALSE NEIGHBOUR: 'it returns false'. Refute it at one input. -/
def fnExactStripWrong : ChangeSpec := { name := "fnExactStrip", fn := fun _ => fun
  | [d] => { results := [.lit (.bool false)], args := [d] }
  | _ => none }
def FnExactStripWrongFalsely : Prop := fnExactStripRow.holds Try.pinned (OpenSpec.ofChange fnExactStripWrong)

/- THE SECOND FORM. 'bulk': how many values and letters a reading holds, each counted each time it is reached (what is shared counts as often as it is met; a slice's spare places count too). A statement '..UptoSaid' is the law's where the arguments, and the package variables that the reading takes, are together of bulk at most 1048576: NARROWER than '..Said'. Prove '..Said' where nothing that the law and all that it calls make is longer than what came in: it says more and counts as full. Else prove '..UptoSaid'. A law counts once. -/
mutual
def uptoBulk {H : Type} : DataW H → Nat
  | .lit (.string bytes) => bytes.length + 1
  | .lit _ => 1
  | .nil => 1
  | .ptr d => uptoBulk d + 1
  | .slice elems spare => uptoBulkAll elems + uptoBulkAll spare + 1
  | .agg parts => uptoBulkAll parts + 1
  | .iface _ d => uptoBulk d + 1
  | .map entries => uptoBulkEntries entries + 1
  | .held _ => 1
def uptoBulkAll {H : Type} : List (DataW H) → Nat
  | [] => 0
  | d :: r => uptoBulk d + uptoBulkAll r
def uptoBulkEntries {H : Type} : List (Lit × DataW H) → Nat
  | [] => 0
  | x :: r => uptoBulkEntry x + uptoBulkEntries r
def uptoBulkEntry {H : Type} : Lit × DataW H → Nat
  | (.string bytes, d) => bytes.length + uptoBulk d + 1
  | (_, d) => uptoBulk d + 1
 end
def uptoSmall : (H : Type) → List (DataW H) → Bool := fun _ ds => decide (uptoBulkAll ds ≤ 1048576)
def OpenSpec.upto (s : _root_.Go.ChangeSpec) : _root_.Go.OpenSpec := { _root_.Go.OpenSpec.ofChange s with cond := some uptoSmall }

/-- 'laws.FnExactWellFormed', WHERE WHAT IT READS IS OF BULK AT MOST 1048576: true; the input reads as it did. -/
def fnExactWellFormedUptoRow : OpenClaim := { program := "ytiekodnojmkfaaa", sum := "65839336fc89b2ffb1f2daae7f14d82cb2832d811051a4909440121c62b25e2b", func := "loop.example/s02979/laws.FnExactWellFormed", spec := "fnExactWellFormed", unfollowed := true, recurses := true, apart := false, narrowed := true }
def FnExactWellFormedUptoSaid : Prop := fnExactWellFormedUptoRow.holds Try.pinned (OpenSpec.upto fnExactWellFormedSpec)

/-- 'laws.FnExactEnd', WHERE WHAT IT READS IS OF BULK AT MOST 1048576: true; the input reads as it did. -/
def fnExactEndUptoRow : OpenClaim := { program := "ytiekodnojmkfaaa", sum := "65839336fc89b2ffb1f2daae7f14d82cb2832d811051a4909440121c62b25e2b", func := "loop.example/s02979/laws.FnExactEnd", spec := "fnExactEnd", unfollowed := true, recurses := true, apart := false, narrowed := true }
def FnExactEndUptoSaid : Prop := fnExactEndUptoRow.holds Try.pinned (OpenSpec.upto fnExactEndSpec)

/-- 'laws.FnEnds', WHERE WHAT IT READS IS OF BULK AT MOST 1048576: true; the input reads as it did. -/
def fnEndsUptoRow : OpenClaim := { program := "ytiekodnojmkfaaa", sum := "65839336fc89b2ffb1f2daae7f14d82cb2832d811051a4909440121c62b25e2b", func := "loop.example/s02979/laws.FnEnds", spec := "fnEnds", unfollowed := true, recurses := true, apart := false, narrowed := true }
def FnEndsUptoSaid : Prop := fnEndsUptoRow.holds Try.pinned (OpenSpec.upto fnEndsSpec)

/-- 'laws.FnExactDump', WHERE WHAT IT READS IS OF BULK AT MOST 1048576: true; the input reads as it did. -/
def fnExactDumpUptoRow : OpenClaim := { program := "ytiekodnojmkfaaa", sum := "65839336fc89b2ffb1f2daae7f14d82cb2832d811051a4909440121c62b25e2b", func := "loop.example/s02979/laws.FnExactDump", spec := "fnExactDump", inPlace := ["internal/abi.NoEscape"], unfollowed := true, recurses := true, apart := false, narrowed := true }
def FnExactDumpUptoSaid : Prop := fnExactDumpUptoRow.holds Try.pinned (OpenSpec.upto fnExactDumpSpec)

/-- 'laws.FnExactStrip', WHERE WHAT IT READS IS OF BULK AT MOST 1048576: true; the input reads as it did. -/
def fnExactStripUptoRow : OpenClaim := { program := "ytiekodnojmkfaaa", sum := "65839336fc89b2ffb1f2daae7f14d82cb2832d811051a4909440121c62b25e2b", func := "loop.example/s02979/laws.FnExactStrip", spec := "fnExactStrip", unfollowed := true, recurses := true, apart := false, narrowed := true }
def FnExactStripUptoSaid : Prop := fnExactStripUptoRow.holds Try.pinned (OpenSpec.upto fnExactStripSpec)

end Rows
end Go.Proofs.Ytiekodnojmkfaaa
