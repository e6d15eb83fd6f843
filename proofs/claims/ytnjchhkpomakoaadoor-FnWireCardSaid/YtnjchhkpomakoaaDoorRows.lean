/-
  NARROWER THAN 'FOR EVERY INPUT', by the rows' own cells (each row's printed sentence says how): FnExactOpName: laid · FnExactOpCode: laid · FnExactUnpack: laid · FnExactPack: laid · FnWire: laid · FnExactShow: laid.
  DERIVED. THE GIVEN ROWS OF THIS SEAT. 6 by the template 'for every input the law returns true; each argument reads behind the call as it read before'; 0 by the template 'total and deterministic' (their statements: YtnjchhkpomakoaaDoorTotals.lean).
  GIVEN WITH THE SEED: the statements are not yours to turn. If you find one false, say at which input.
  Laid BY PROGRAM, IN A SANDBOX (cutbox-rows.mjs): the forced cells as the released guide's own fill.sh prints them over the translation b631d1676e6e51ff… (all of the seat's roots in one cut). By AI agents, Wed Nov 11 2026. No macro, syntax, notation, axiom, sorry.
-/
import Derived.Test.YtnjchhkpomakoaaDoorChecked
import GoSem.Claim
import GoSem.ClaimJoined
import GoSem.ClaimMapViews
import Derived.JoinedTies
import Derived.KernelRfl
namespace Go.Proofs.YtnjchhkpomakoaaDoor
/- THE CELL 'sum', in the pinned program and in every row, IS THE sha256 OF THE DUMP (.gsa) THAT YtnjchhkpomakoaaDoorProg.lean LOADS. Nothing in Lean hashes anything: it is a label: what it is worth is what the hold of that sum in a sandbox is worth. -/
noncomputable def Tryd.pinned : Pinned := { name := "ytnjchhkpomakoaadoor", sum := "b631d1676e6e51ff6a6339509c6e977c437ee8aa54f372cdfdf5d4abee05ff92", checked := Tryd.checked }
namespace Rows
def none {H : Type} : Left H := { results := [], args := [] }

/- WHAT THE LISTED PACKAGE-LEVEL VARIABLES READ AS WHEN THE CALL BEGINS. Each datum BY PROGRAM (the guide's laid-datum.mjs) off the statement by which the dump's own 'gosem.cut.vars' lays the variable. In a bare row this is a premise. The card (YtnjchhkpomakoaaDoorCards.lean) ties it to the program's text. -/
def laid_loop_example_s02979_impl_opNames {H : Type} : DataW H := .agg [.lit (.string [109, 111, 118, 101]), .lit (.string [108, 111, 97, 100, 107]), .lit (.string [108, 111, 97, 100, 110, 105, 108]), .lit (.string [108, 111, 97, 100, 98, 111, 111, 108]), .lit (.string [103, 101, 116, 117, 112]), .lit (.string [115, 101, 116, 117, 112]), .lit (.string [110, 101, 119, 116, 97, 98, 108, 101]), .lit (.string [103, 101, 116, 116, 97, 98, 108, 101]), .lit (.string [115, 101, 116, 116, 97, 98, 108, 101]), .lit (.string [97, 100, 100]), .lit (.string [115, 117, 98]), .lit (.string [109, 117, 108]), .lit (.string [100, 105, 118]), .lit (.string [109, 111, 100]), .lit (.string [99, 111, 110, 99, 97, 116]), .lit (.string [110, 111, 116]), .lit (.string [110, 101, 103]), .lit (.string [108, 101, 110]), .lit (.string [106, 117, 109, 112]), .lit (.string [101, 113]), .lit (.string [108, 101, 115, 115]), .lit (.string [116, 101, 115, 116]), .lit (.string [99, 97, 108, 108]), .lit (.string [114, 101, 116, 117, 114, 110]), .lit (.string [118, 97, 114, 97, 114, 103]), .lit (.string [99, 108, 111, 115, 117, 114, 101]), .lit (.string [99, 108, 111, 115, 101]), .lit (.string [102, 111, 114, 112, 114, 101, 112]), .lit (.string [102, 111, 114, 108, 111, 111, 112]), .lit (.string [99, 114, 101, 97, 116, 101]), .lit (.string [114, 101, 115, 117, 109, 101]), .lit (.string [121, 105, 101, 108, 100]), .lit (.string [115, 116, 97, 116, 117, 115]), .lit (.string [101, 114, 114, 111, 114])]
def laid_loop_example_s02979_impl_partBits {H : Type} : DataW H := .agg [.lit (.int .i64 6), .lit (.int .i64 8), .lit (.int .i64 9), .lit (.int .i64 9)]
def laid_math_bits_deBruijn32tab {H : Type} : DataW H := .agg [.lit (.int .u8 0), .lit (.int .u8 1), .lit (.int .u8 28), .lit (.int .u8 2), .lit (.int .u8 29), .lit (.int .u8 14), .lit (.int .u8 24), .lit (.int .u8 3), .lit (.int .u8 30), .lit (.int .u8 22), .lit (.int .u8 20), .lit (.int .u8 15), .lit (.int .u8 25), .lit (.int .u8 17), .lit (.int .u8 4), .lit (.int .u8 8), .lit (.int .u8 31), .lit (.int .u8 27), .lit (.int .u8 13), .lit (.int .u8 23), .lit (.int .u8 21), .lit (.int .u8 19), .lit (.int .u8 16), .lit (.int .u8 7), .lit (.int .u8 26), .lit (.int .u8 12), .lit (.int .u8 18), .lit (.int .u8 6), .lit (.int .u8 11), .lit (.int .u8 5), .lit (.int .u8 10), .lit (.int .u8 9)]
def laid_math_bits_deBruijn64tab {H : Type} : DataW H := .agg [.lit (.int .u8 0), .lit (.int .u8 1), .lit (.int .u8 56), .lit (.int .u8 2), .lit (.int .u8 57), .lit (.int .u8 49), .lit (.int .u8 28), .lit (.int .u8 3), .lit (.int .u8 61), .lit (.int .u8 58), .lit (.int .u8 42), .lit (.int .u8 50), .lit (.int .u8 38), .lit (.int .u8 29), .lit (.int .u8 17), .lit (.int .u8 4), .lit (.int .u8 62), .lit (.int .u8 47), .lit (.int .u8 59), .lit (.int .u8 36), .lit (.int .u8 45), .lit (.int .u8 43), .lit (.int .u8 51), .lit (.int .u8 22), .lit (.int .u8 53), .lit (.int .u8 39), .lit (.int .u8 33), .lit (.int .u8 30), .lit (.int .u8 24), .lit (.int .u8 18), .lit (.int .u8 12), .lit (.int .u8 5), .lit (.int .u8 63), .lit (.int .u8 55), .lit (.int .u8 48), .lit (.int .u8 27), .lit (.int .u8 60), .lit (.int .u8 41), .lit (.int .u8 37), .lit (.int .u8 16), .lit (.int .u8 46), .lit (.int .u8 35), .lit (.int .u8 44), .lit (.int .u8 21), .lit (.int .u8 52), .lit (.int .u8 32), .lit (.int .u8 23), .lit (.int .u8 11), .lit (.int .u8 54), .lit (.int .u8 26), .lit (.int .u8 40), .lit (.int .u8 15), .lit (.int .u8 34), .lit (.int .u8 20), .lit (.int .u8 31), .lit (.int .u8 10), .lit (.int .u8 25), .lit (.int .u8 14), .lit (.int .u8 19), .lit (.int .u8 9), .lit (.int .u8 13), .lit (.int .u8 8), .lit (.int .u8 7), .lit (.int .u8 6)]
def laid_internal_strconv_uint64pow10 {H : Type} : DataW H := .agg [.lit (.int .u64 1), .lit (.int .u64 10), .lit (.int .u64 100), .lit (.int .u64 1000), .lit (.int .u64 10000), .lit (.int .u64 100000), .lit (.int .u64 1000000), .lit (.int .u64 10000000), .lit (.int .u64 100000000), .lit (.int .u64 1000000000), .lit (.int .u64 10000000000), .lit (.int .u64 100000000000), .lit (.int .u64 1000000000000), .lit (.int .u64 10000000000000), .lit (.int .u64 100000000000000), .lit (.int .u64 1000000000000000), .lit (.int .u64 10000000000000000), .lit (.int .u64 100000000000000000), .lit (.int .u64 1000000000000000000), .lit (.int .u64 10000000000000000000)]

/-- 'laws.FnExactOpName': WHATEVER THE INPUT: true; the input reads as it did. -/
def fnExactOpNameSpec : ChangeSpec := { name := "fnExactOpName", vars := ["loop.example/s02979/impl.opNames"], fn := fun _ => fun
  | [d, g1] => { results := [.lit (.bool true)], args := [d], vars := [g1] }
  | _ => none }
def fnExactOpNameRow : OpenClaim := { program := "ytnjchhkpomakoaadoor", sum := "b631d1676e6e51ff6a6339509c6e977c437ee8aa54f372cdfdf5d4abee05ff92", func := "loop.example/s02979/laws.FnExactOpName", spec := "fnExactOpName", named := ["loop.example/s02979/impl.opNames"], apart := false, laid := [("loop.example/s02979/impl.opNames", laid_loop_example_s02979_impl_opNames)] }
def FnExactOpNameSaid : Prop := fnExactOpNameRow.holds Tryd.pinned (OpenSpec.ofChange fnExactOpNameSpec)

/-- ITS FALSE NEIGHBOUR: 'it returns false'. Refute it at one input. -/
def fnExactOpNameWrong : ChangeSpec := { name := "fnExactOpName", vars := ["loop.example/s02979/impl.opNames"], fn := fun _ => fun
  | [d, g1] => { results := [.lit (.bool false)], args := [d], vars := [g1] }
  | _ => none }
def FnExactOpNameWrongFalsely : Prop := fnExactOpNameRow.holds Tryd.pinned (OpenSpec.ofChange fnExactOpNameWrong)

/-- 'laws.FnExactOpCode': WHATEVER THE INPUT: true; the input reads as it did. -/
def fnExactOpCodeSpec : ChangeSpec := { name := "fnExactOpCode", vars := ["loop.example/s02979/impl.opNames"], fn := fun _ => fun
  | [d, g1] => { results := [.lit (.bool true)], args := [d], vars := [g1] }
  | _ => none }
def fnExactOpCodeRow : OpenClaim := { program := "ytnjchhkpomakoaadoor", sum := "b631d1676e6e51ff6a6339509c6e977c437ee8aa54f372cdfdf5d4abee05ff92", func := "loop.example/s02979/laws.FnExactOpCode", spec := "fnExactOpCode", named := ["loop.example/s02979/impl.opNames"], apart := false, laid := [("loop.example/s02979/impl.opNames", laid_loop_example_s02979_impl_opNames)] }
def FnExactOpCodeSaid : Prop := fnExactOpCodeRow.holds Tryd.pinned (OpenSpec.ofChange fnExactOpCodeSpec)

/-- ITS FALSE NEIGHBOUR: 'it returns false'. Refute it at one input. -/
def fnExactOpCodeWrong : ChangeSpec := { name := "fnExactOpCode", vars := ["loop.example/s02979/impl.opNames"], fn := fun _ => fun
  | [d, g1] => { results := [.lit (.bool false)], args := [d], vars := [g1] }
  | _ => none }
def FnExactOpCodeWrongFalsely : Prop := fnExactOpCodeRow.holds Tryd.pinned (OpenSpec.ofChange fnExactOpCodeWrong)

/-- 'laws.FnExactUnpack': WHATEVER THE INPUT: true; the input reads as it did. -/
def fnExactUnpackSpec : ChangeSpec := { name := "fnExactUnpack", vars := ["loop.example/s02979/impl.partBits"], fn := fun _ => fun
  | [d, g1] => { results := [.lit (.bool true)], args := [d], vars := [g1] }
  | _ => none }
def fnExactUnpackRow : OpenClaim := { program := "ytnjchhkpomakoaadoor", sum := "b631d1676e6e51ff6a6339509c6e977c437ee8aa54f372cdfdf5d4abee05ff92", func := "loop.example/s02979/laws.FnExactUnpack", spec := "fnExactUnpack", named := ["loop.example/s02979/impl.partBits"], apart := false, laid := [("loop.example/s02979/impl.partBits", laid_loop_example_s02979_impl_partBits)] }
def FnExactUnpackSaid : Prop := fnExactUnpackRow.holds Tryd.pinned (OpenSpec.ofChange fnExactUnpackSpec)

/-- ITS FALSE NEIGHBOUR: 'it returns false'. Refute it at one input. -/
def fnExactUnpackWrong : ChangeSpec := { name := "fnExactUnpack", vars := ["loop.example/s02979/impl.partBits"], fn := fun _ => fun
  | [d, g1] => { results := [.lit (.bool false)], args := [d], vars := [g1] }
  | _ => none }
def FnExactUnpackWrongFalsely : Prop := fnExactUnpackRow.holds Tryd.pinned (OpenSpec.ofChange fnExactUnpackWrong)

/-- 'laws.FnExactPack': WHATEVER THE INPUT: true; the input reads as it did. -/
def fnExactPackSpec : ChangeSpec := { name := "fnExactPack", vars := ["loop.example/s02979/impl.partBits"], fn := fun _ => fun
  | [d, g1] => { results := [.lit (.bool true)], args := [d], vars := [g1] }
  | _ => none }
def fnExactPackRow : OpenClaim := { program := "ytnjchhkpomakoaadoor", sum := "b631d1676e6e51ff6a6339509c6e977c437ee8aa54f372cdfdf5d4abee05ff92", func := "loop.example/s02979/laws.FnExactPack", spec := "fnExactPack", named := ["loop.example/s02979/impl.partBits"], apart := false, laid := [("loop.example/s02979/impl.partBits", laid_loop_example_s02979_impl_partBits)] }
def FnExactPackSaid : Prop := fnExactPackRow.holds Tryd.pinned (OpenSpec.ofChange fnExactPackSpec)

/-- ITS FALSE NEIGHBOUR: 'it returns false'. Refute it at one input. -/
def fnExactPackWrong : ChangeSpec := { name := "fnExactPack", vars := ["loop.example/s02979/impl.partBits"], fn := fun _ => fun
  | [d, g1] => { results := [.lit (.bool false)], args := [d], vars := [g1] }
  | _ => none }
def FnExactPackWrongFalsely : Prop := fnExactPackRow.holds Tryd.pinned (OpenSpec.ofChange fnExactPackWrong)

/-- 'laws.FnWire': WHATEVER THE INPUT: true; the input reads as it did. -/
def fnWireSpec : ChangeSpec := { name := "fnWire", vars := ["loop.example/s02979/impl.partBits"], fn := fun _ => fun
  | [d1, d2, g1] => { results := [.lit (.bool true)], args := [d1, d2], vars := [g1] }
  | _ => none }
def fnWireRow : OpenClaim := { program := "ytnjchhkpomakoaadoor", sum := "b631d1676e6e51ff6a6339509c6e977c437ee8aa54f372cdfdf5d4abee05ff92", func := "loop.example/s02979/laws.FnWire", spec := "fnWire", recurses := true, named := ["loop.example/s02979/impl.partBits"], apart := false, laid := [("loop.example/s02979/impl.partBits", laid_loop_example_s02979_impl_partBits)] }
def FnWireSaid : Prop := fnWireRow.holds Tryd.pinned (OpenSpec.ofChange fnWireSpec)

/-- ITS FALSE NEIGHBOUR: 'it returns false'. Refute it at one input. -/
def fnWireWrong : ChangeSpec := { name := "fnWire", vars := ["loop.example/s02979/impl.partBits"], fn := fun _ => fun
  | [d1, d2, g1] => { results := [.lit (.bool false)], args := [d1, d2], vars := [g1] }
  | _ => none }
def FnWireWrongFalsely : Prop := fnWireRow.holds Tryd.pinned (OpenSpec.ofChange fnWireWrong)

/-- 'laws.FnExactShow': WHATEVER THE INPUT: true; the input reads as it did. -/
def fnExactShowSpec : ChangeSpec := { name := "fnExactShow", fn := fun _ => fun
  | [d] => { results := [.lit (.bool true)], args := [d] }
  | _ => none }
def fnExactShowRow : OpenClaim := { program := "ytnjchhkpomakoaadoor", sum := "b631d1676e6e51ff6a6339509c6e977c437ee8aa54f372cdfdf5d4abee05ff92", func := "loop.example/s02979/laws.FnExactShow", spec := "fnExactShow", recurses := true, named := ["internal/strconv.uint64pow10", "math/bits.deBruijn32tab", "math/bits.deBruijn64tab"], apart := false, laid := [("math/bits.deBruijn32tab", laid_math_bits_deBruijn32tab), ("math/bits.deBruijn64tab", laid_math_bits_deBruijn64tab), ("internal/strconv.uint64pow10", laid_internal_strconv_uint64pow10)] }
def FnExactShowSaid : Prop := fnExactShowRow.holds Tryd.pinned (OpenSpec.ofChange fnExactShowSpec)

/-- ITS FALSE NEIGHBOUR: 'it returns false'. Refute it at one input. -/
def fnExactShowWrong : ChangeSpec := { name := "fnExactShow", fn := fun _ => fun
  | [d] => { results := [.lit (.bool false)], args := [d] }
  | _ => none }
def FnExactShowWrongFalsely : Prop := fnExactShowRow.holds Tryd.pinned (OpenSpec.ofChange fnExactShowWrong)

/- THE SECOND FORM. 'bulk': how many values and letters a reading holds, each counted each time it is reached (what is shared counts as often as it is met; a slice's spare places count too). A statement '..UptoSaid' is the law's where the arguments, and the package variables that the reading takes, are together of bulk at most 1048576: NARROWER than '..Said'. Prove '..Said' where nothing that the law and all that it calls make is longer than what came in: it says more and counts as full. Else prove '..UptoSaid'. A law counts once. -/
mutual
def uptoBulk {H : Type} : DataW H → Nat
  | .lit (.string bytes) => bytes.length + 1
  | .lit _ => 1
  | .nil => 1
  | .ptr d => uptoBulk d + 1
  | .slice elems spare => uptoBulkAll elems + uptoBulkAll spare + 1
  | .agg parts => uptoBulkAll parts + 1
  | .iface _ d => uptoBulk d + 1
  | .map entries => uptoBulkEntries entries + 1
  | .held _ => 1
def uptoBulkAll {H : Type} : List (DataW H) → Nat
  | [] => 0
  | d :: r => uptoBulk d + uptoBulkAll r
def uptoBulkEntries {H : Type} : List (Lit × DataW H) → Nat
  | [] => 0
  | x :: r => uptoBulkEntry x + uptoBulkEntries r
def uptoBulkEntry {H : Type} : Lit × DataW H → Nat
  | (.string bytes, d) => bytes.length + uptoBulk d + 1
  | (_, d) => uptoBulk d + 1
 end
def uptoSmall : (H : Type) → List (DataW H) → Bool := fun _ ds => decide (uptoBulkAll ds ≤ 1048576)
def OpenSpec.upto (s : _root_.Go.ChangeSpec) : _root_.Go.OpenSpec := { _root_.Go.OpenSpec.ofChange s with cond := some uptoSmall }

/-- 'laws.FnExactOpName', WHERE WHAT IT READS IS OF BULK AT MOST 1048576: true; the input reads as it did. -/
def fnExactOpNameUptoRow : OpenClaim := { program := "ytnjchhkpomakoaadoor", sum := "b631d1676e6e51ff6a6339509c6e977c437ee8aa54f372cdfdf5d4abee05ff92", func := "loop.example/s02979/laws.FnExactOpName", spec := "fnExactOpName", named := ["loop.example/s02979/impl.opNames"], apart := false, laid := [("loop.example/s02979/impl.opNames", laid_loop_example_s02979_impl_opNames)], narrowed := true }
def FnExactOpNameUptoSaid : Prop := fnExactOpNameUptoRow.holds Tryd.pinned (OpenSpec.upto fnExactOpNameSpec)

/-- 'laws.FnExactOpCode', WHERE WHAT IT READS IS OF BULK AT MOST 1048576: true; the input reads as it did. -/
def fnExactOpCodeUptoRow : OpenClaim := { program := "ytnjchhkpomakoaadoor", sum := "b631d1676e6e51ff6a6339509c6e977c437ee8aa54f372cdfdf5d4abee05ff92", func := "loop.example/s02979/laws.FnExactOpCode", spec := "fnExactOpCode", named := ["loop.example/s02979/impl.opNames"], apart := false, laid := [("loop.example/s02979/impl.opNames", laid_loop_example_s02979_impl_opNames)], narrowed := true }
def FnExactOpCodeUptoSaid : Prop := fnExactOpCodeUptoRow.holds Tryd.pinned (OpenSpec.upto fnExactOpCodeSpec)

/-- 'laws.FnExactUnpack', WHERE WHAT IT READS IS OF BULK AT MOST 1048576: true; the input reads as it did. -/
def fnExactUnpackUptoRow : OpenClaim := { program := "ytnjchhkpomakoaadoor", sum := "b631d1676e6e51ff6a6339509c6e977c437ee8aa54f372cdfdf5d4abee05ff92", func := "loop.example/s02979/laws.FnExactUnpack", spec := "fnExactUnpack", named := ["loop.example/s02979/impl.partBits"], apart := false, laid := [("loop.example/s02979/impl.partBits", laid_loop_example_s02979_impl_partBits)], narrowed := true }
def FnExactUnpackUptoSaid : Prop := fnExactUnpackUptoRow.holds Tryd.pinned (OpenSpec.upto fnExactUnpackSpec)

/-- 'laws.FnExactPack', WHERE WHAT IT READS IS OF BULK AT MOST 1048576: true; the input reads as it did. -/
def fnExactPackUptoRow : OpenClaim := { program := "ytnjchhkpomakoaadoor", sum := "b631d1676e6e51ff6a6339509c6e977c437ee8aa54f372cdfdf5d4abee05ff92", func := "loop.example/s02979/laws.FnExactPack", spec := "fnExactPack", named := ["loop.example/s02979/impl.partBits"], apart := false, laid := [("loop.example/s02979/impl.partBits", laid_loop_example_s02979_impl_partBits)], narrowed := true }
def FnExactPackUptoSaid : Prop := fnExactPackUptoRow.holds Tryd.pinned (OpenSpec.upto fnExactPackSpec)

/-- 'laws.FnWire', WHERE WHAT IT READS IS OF BULK AT MOST 1048576: true; the input reads as it did. -/
def fnWireUptoRow : OpenClaim := { program := "ytnjchhkpomakoaadoor", sum := "b631d1676e6e51ff6a6339509c6e977c437ee8aa54f372cdfdf5d4abee05ff92", func := "loop.example/s02979/laws.FnWire", spec := "fnWire", recurses := true, named := ["loop.example/s02979/impl.partBits"], apart := false, laid := [("loop.example/s02979/impl.partBits", laid_loop_example_s02979_impl_partBits)], narrowed := true }
def FnWireUptoSaid : Prop := fnWireUptoRow.holds Tryd.pinned (OpenSpec.upto fnWireSpec)

/-- 'laws.FnExactShow', WHERE WHAT IT READS IS OF BULK AT MOST 1048576: true; the input reads as it did. -/
def fnExactShowUptoRow : OpenClaim := { program := "ytnjchhkpomakoaadoor", sum := "b631d1676e6e51ff6a6339509c6e977c437ee8aa54f372cdfdf5d4abee05ff92", func := "loop.example/s02979/laws.FnExactShow", spec := "fnExactShow", recurses := true, named := ["internal/strconv.uint64pow10", "math/bits.deBruijn32tab", "math/bits.deBruijn64tab"], apart := false, laid := [("math/bits.deBruijn32tab", laid_math_bits_deBruijn32tab), ("math/bits.deBruijn64tab", laid_math_bits_deBruijn64tab), ("internal/strconv.uint64pow10", laid_internal_strconv_uint64pow10)], narrowed := true }
def FnExactShowUptoSaid : Prop := fnExactShowUptoRow.holds Tryd.pinned (OpenSpec.upto fnExactShowSpec)

end Rows
end Go.Proofs.YtnjchhkpomakoaaDoor
