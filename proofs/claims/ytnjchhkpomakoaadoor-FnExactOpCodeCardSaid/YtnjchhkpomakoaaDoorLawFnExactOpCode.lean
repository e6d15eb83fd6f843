import Derived.Test.YtnjchhkpomakoaaDoorCards
import Derived.Test.YtnjchhkpomakoaaDoorTie
import Derived.Test.YtnjchhkpomakoaaDoorPFnExactOpCodex1
import Derived.Test.YtnjchhkpomakoaaDoorPureFnExactOpCode
import Derived.WalkKit
import Derived.ProofKit
import Derived.LaidMore
import Derived.OpenShut
import Derived.ShutString
import Derived.ChangeOld
import Derived.Below
import Derived.SizedLaws
import Derived.WalkSmall
import Derived.ChangeVars
import Derived.Stop.Joined
import Derived.SevenTiedAt
namespace Go.Proofs.YtnjchhkpomakoaaDoor.fnExactOpCode
open Go.ChangeShapes Go.WideShapes Go.ChangeAt Go.RowKit
open Go.ChangeMaps (open_string shut_string)
set_option linter.unusedVariables false
theorem own : ownKnob Tryd.prog.godebug = none := by kernel_rfl
theorem gPart : Tryd.prog.globalNamed "loop.example/s02979/impl.opNames" = some 0 := by kernel_rfl
theorem tPart : (Tryd.prog.globals[0]?).map (·.type) = some 58 := by kernel_rfl
theorem n58 : Tryd.prog.cellsOf 58 = 34 := by kernel_rfl
theorem n9 : Tryd.prog.cellsOf 9 = 1 := by kernel_rfl

def cells34 : Array Value := (PFnExactOpCode.opNames.map Value.string).toArray
theorem data_is {H : Type} : (Rows.laid_loop_example_s02979_impl_opNames : DataW H) = .agg (PFnExactOpCode.opNames.map fun s => .lit (.string s.data.toList)) := rfl

theorem cells_of_trod {H : Type} {enc : TypeId × Value → H} {W : World} {base : Nat} {sp : Nat → Bool} {held : Bool} {fuel : Nat} {cs : Array Value} {q : List MemPlace}
    (h : DataW.trod enc Tryd.prog W base sp held fuel 58 cs.toList = some (Rows.laid_loop_example_s02979_impl_opNames, q)) : cs = cells34 := by
  obtain ⟨xs, m, rfl, hx, hlen, hn, hel⟩ := DataW.trod_array Tryd.underlying58 h
  rw [n58] at hlen
  have hxs : xs.map (·.1) = PFnExactOpCode.opNames.map fun s => DataW.lit (.string s.data.toList) := by
    have h1 := congrArg Prod.fst hx
    rw [data_is] at h1
    exact (DataW.agg.inj h1).symm
  refine Array.ext' ?_
  have hc : cells34.toList = PFnExactOpCode.opNames.map Value.string := rfl
  rw [hc]
  refine List.ext_getElem (by rw [hlen]; rfl) (fun i hi1 hi2 => ?_)
  have hi : i < 34 := by omega
  have hE := hel i hi
  rw [n9, Nat.mul_one] at hE
  have hx1 : i < xs.length := by omega
  rw [List.getElem?_eq_getElem hx1] at hE
  obtain ⟨s, e1, e2, _⟩ := DataW.trod_string Tryd.underlying9 hE
  rw [List.drop_eq_getElem_cons hi1] at e1
  have e3 : cs.toList[i] = .string s := by simpa using e1
  rw [e3, List.getElem_map]
  have e4 := congrArg (fun l => l[i]?) hxs
  simp only [List.getElem?_map, List.getElem?_eq_getElem hx1, List.getElem?_eq_getElem (show i < PFnExactOpCode.opNames.length from hi), Option.map_some, Option.some.injEq, e2, DataW.lit.injEq, Lit.string.injEq] at e4
  congr 1
  exact ByteArray.ext (Array.ext' e4)

theorem cells_of_laid {W : World} (h : laidMetH Tryd.prog Rows.fnExactOpCodeRow.laid W) : W.var? Tryd.prog "loop.example/s02979/impl.opNames" = some cells34 := by
  rw [MakeChecks.laidMetH_plain _ _ _ (by kernel_rfl)] at h
  obtain ⟨ps, ⟨g, t, cs, fuel, p, q, hg, ht, hvar, hd, _, _⟩, _⟩ := h
  obtain rfl := Option.some.inj (gPart.symm.trans hg)
  obtain rfl := Option.some.inj (tPart.symm.trans ht)
  rw [hvar, cells_of_trod hd]

theorem reads_vars {H : Type} (enc : TypeId × Value → H) (W : World) (sp : Nat → Bool) : DataW.trod enc Tryd.prog W 0 sp true 3 58 cells34.toList = some (Rows.laid_loop_example_s02979_impl_opNames, []) := by kernel_rfl

/-- The door's own heap meets the condition. -/
theorem door_met (os : Os) (args : Array Value) : laidMetH Tryd.prog Rows.fnExactOpCodeRow.laid ((World.doorLaid Tryd.prog 400 os).forCall (fun _ _ => 0) ⟨#[], args, []⟩).memory :=
  laidMetH_of_parts3 (fuel := 8) (laidMet_of_run' 8 (by kernel_rfl) (by kernel_rfl)) (by kernel_rfl) (by kernel_rfl)

theorem glob_of {W : World} (hv : W.var? Tryd.prog "loop.example/s02979/impl.opNames" = some cells34) : PFnExactOpCode.Glob W := ⟨fun j hj => by
  rw [World.var?_cell gPart hv j]
  have hl : j < PFnExactOpCode.opNames.length := hj
  have : cells34[j]? = some (.string PFnExactOpCode.opNames[j]) := by
    unfold cells34
    rw [List.getElem?_toArray, List.getElem?_map, List.getElem?_eq_getElem hl]
    rfl
  rw [this, List.getD_eq_getElem?_getD, List.getElem?_eq_getElem hl]
  rfl⟩
set_option maxRecDepth 100000 in
theorem lifted (os : Os) (started : os.Started) (H : Type) (enc : TypeId × Value → H) :
    ReturnsInHanded {} Tryd.checked os 4 .any (fun w args => (Rows.fnExactOpCodeSpec.pre enc Tryd.prog Tryd.f4 [] false w args ∧ laidMetH Tryd.prog Rows.fnExactOpCodeRow.laid w) ∧ sizedMet enc Tryd.prog Tryd.f4 (OpenSpec.ofChange Rows.fnExactOpCodeSpec) false w args)
      (Rows.fnExactOpCodeSpec.post enc Tryd.prog Tryd.f4 false true false false) := by
  refine returnsInHanded_of_change_and (C := Tryd.checked) (X := fun w _ => laidMetH Tryd.prog Rows.fnExactOpCodeRow.laid w) (fun _ _ _ hh h => h.of_heap hh) own started (by kernel_rfl) Tryd.func4
    (ChangeSpec.witness_shaped (enc := enc) (C := Tryd.checked) (os := os) (X := fun w _ => laidMetH Tryd.prog Rows.fnExactOpCodeRow.laid w) false (World.doorLaid Tryd.prog 400 os) #[.string ByteArray.empty] 8 rfl (World.shaped_of_RefB (by kernel_rfl) (by kernel_rfl)) (by kernel_rfl) (by kernel_rfl) (by kernel_rfl) (door_met os _)) ?_
  intro W base args ds gs before hval0 hW _ hsz0 hL _
  have hsz : (DataW.weightsEach Tryd.prog (Tryd.f4.params.toList ++ Rows.fnExactOpCodeSpec.plain.varTypes Tryd.prog) (ds ++ gs)).all (· ≤ reachBytes) = true := hsz0
  have hval : ∀ (j : Nat) t v, Tryd.f4.params[j]? = some t → args[j]? = some v → Value.okWide Tryd.prog W .any base t v := hval0
  have hW' := hW
  obtain ⟨p, q, hA0, hV0, rfl, hfz, hnd⟩ := hW
  have hA : DataW.TrodAll enc Tryd.prog W 0 (fun _ => true) true Tryd.f4.params.toList args.toList ds p := hA0
  have hV : DataW.TrodVars enc Tryd.prog W (fun _ => true) ["loop.example/s02979/impl.opNames"] gs q := hV0
  rw [Tryd.params4] at hA hval hsz
  obtain ⟨v0, vs0, d0, ds0, p0, q0, hargs, rfl, rfl, h0, r0⟩ := trodAll_cons hA
  obtain ⟨rfl, rfl, rfl⟩ := trodAll_nil r0
  obtain rfl : args = #[v0] := by cases args; simp_all
  obtain ⟨a0, rfl, rfl, rfl, y0⟩ := open_string Tryd.underlying9 (hval 0 9 v0 rfl rfl) h0
  have w0 : a0.size ≤ 140737488351232 := by
    have z := sized_string hsz (j := 0) (t := 9) rfl rfl
    rw [Array.length_toList] at z
    exact z
  obtain ⟨g, t, cs, fuel, d, p', rfl, hg, ht, hvar, hd, rfl⟩ := trodVars_one hV
  obtain rfl := Option.some.inj (gPart.symm.trans hg)
  obtain rfl := Option.some.inj (tPart.symm.trans ht)
  obtain rfl : cs = cells34 := Option.some.inj (hvar.symm.trans (cells_of_laid hL))
  obtain ⟨rfl, rfl⟩ := DataW.Trod.unique (v := .agg cells34) ⟨fuel, hd⟩ ⟨3, reads_vars enc W _⟩
  clear hA0 hV0 hval0 hsz0 hsz
  have hG : PFnExactOpCode.Glob W := glob_of hvar
  have hlt : 0 < W.heap.size := World.block_lt_of_cell? W _ (hG.cells 0 (by omega))
  refine (PFnExactOpCode.laws_FnExactOpCode.walk Pure.FnExactOpCode a0 W w0 hG).mono fun e W' ⟨he, bel⟩ => ?_
  subst he
  exact ⟨_, rfl, _, _, _, [], _, _, hW', trodAll_mk1 (shut_bool Tryd.underlying4 _), (trodAll_cons_mk (shut_string Tryd.underlying9 y0) trodAll_mk0),
    ⟨0, 58, cells34, 3, [], [], hg, ht, var?_below bel hg hlt hvar, reads_vars enc W' _, rfl, rfl⟩, bel.frame _, fun h => by cases h⟩
theorem proved : Rows.FnExactOpCodeSaid :=
  OpenClaim.holds_of_wide 4 Tryd.f4 rfl rfl rfl rfl rfl rfl rfl ⟨rfl, rfl, rfl, rfl, rfl⟩ rfl rfl rfl rfl rfl (by kernel_rfl) Tryd.func4 (by kernel_rfl)
    (of_decide_eq_true (by kernel_rfl)) (by unfold Func.isWrapper; first | (rw [if_pos (by decide +kernel)]; kernel_rfl) | (rw [if_neg (by decide +kernel)]; exact ⟨rfl, rfl⟩))
    (fun os started H enc _ => lifted os started H enc)
theorem card : Rows.FnExactOpCodeCardSaid :=
  Claim7.holds_tied_plain_at .later [] [.widerDeep] true (true, "bd3fa40867eb35f02a0952a4ca634f8028591fe70cc24b91ede42989d669e009") false
    proved (fun _ h => by cases h) (by kernel_rfl) (fun _ h => by cases h) fnExactOpCode_row_tie rfl ⟨rfl, rfl⟩ (by kernel_rfl) rfl
    (fun f fn hf hfn => by
      obtain rfl : f = 4 := Option.some.inj ((show Tryd.prog.funcNamed "loop.example/s02979/laws.FnExactOpCode" = some 4 by kernel_rfl).symm.trans hf) |>.symm
      obtain rfl : fn = Tryd.f4 := (Option.some.inj (Tryd.func4.symm.trans hfn)).symm
      exact ⟨by kernel_rfl, fun j t ht => by
        rw [Tryd.params4] at ht
        have hm : t ∈ [9] := by simpa using Array.mem_of_getElem? ht
        have hall : ([9].all fun u => !Tryd.prog.wantsStandIn u) = true := by kernel_rfl
        exact (show Tryd.prog.wantsStandIn t = false by simpa using List.all_eq_true.1 hall t hm)⟩)
    (by kernel_rfl)
#print axioms card
end Go.Proofs.YtnjchhkpomakoaaDoor.fnExactOpCode
namespace Go.Proofs.YtnjchhkpomakoaaDoor
/-- The card, under a short name, for the claim. -/
theorem fnExactOpCode_card : Rows.FnExactOpCodeCardSaid := fnExactOpCode.card
end Go.Proofs.YtnjchhkpomakoaaDoor
