/- The law FnExactEnd answers true at every chunk and number, and both read behind the call as they read before; no condition. -/
import Derived.Test.YtiekodnojmkfaaaRows
import Derived.Test.YtiekodnojmkfaaaPFnExactEndx11
import Derived.Test.YtiekodnojmkfaaaPureFnExactEnd
import Derived.Test.YtiekodnojmkfaaaOpen
import Derived.WalkKit
import Derived.ProofKit
import Derived.OpenShut
import Derived.ShutString
import Derived.ChangeOld
import Derived.Below
import Derived.SizedLaws
namespace Go.Proofs.Ytiekodnojmkfaaa.fnExactEnd
open Go.ChangeShapes Go.WideShapes Go.ChangeAt Go.RowKit
open Go.ChangeMaps (open_string shut_string)
open Go.Proofs.YtiekodnojmkfaaaOpen Go.Proofs.Ytiekodnojmkfaaa.PFnExactEnd Go.Proofs.YtiekodnojmkfaaaW.PrintWords
set_option linter.unusedVariables false
theorem own : ownKnob Try.prog.godebug = none := by kernel_rfl
theorem laidOut : laidOutB Try.prog = true := by kernel_rfl
theorem opn163 : Opn Try.prog 163 k163 (fun v => Pure.Ok163 v) := by
  have h := opn_struct (t := 163) (ts := [3, 2, 9]) Try.underlying163 (by kernel_rfl) (by kernel_rfl) rfl (opnL_iso (fun x : S163 => (x.f0, x.f1, x.f2)) (fun a => ⟨a.1, a.2.1, a.2.2⟩) (fun _ => rfl)
    (opnL_pair (opn_int Try.underlying3) (opnL_pair (opn_int Try.underlying2) (opnL_one (opn_string Try.underlying9)))))
  intro H enc w spare held fuel cs x hx
  obtain ⟨a, ho, hk⟩ := h H enc w spare held fuel cs x hx
  exact ⟨a, ⟨ho.2.2⟩, hk⟩
theorem opn166 : Opn Try.prog 166 k166 (fun _ => True) := by
  have h := opn_struct (t := 166) (ts := [4, 3]) Try.underlying166 (by kernel_rfl) (by kernel_rfl) rfl (opnL_iso (fun x : S166 => (x.f0, x.f1)) (fun a => ⟨a.1, a.2⟩) (fun _ => rfl)
    (opnL_pair (opn_bool Try.underlying4) (opnL_one (opn_int Try.underlying3))))
  intro H enc w spare held fuel cs x hx
  obtain ⟨a, _, hk⟩ := h H enc w spare held fuel cs x hx
  exact ⟨a, trivial, hk⟩
theorem opn101 : Opn Try.prog 101 k101 (fun x => Pure.Ok101 x) := by
  have h := opn_struct (t := 101) (ts := [3, 4, 3, 38, 98, 99, 3, 9, 41, 42]) Try.underlying101 (by kernel_rfl) (by kernel_rfl) rfl (opnL_iso (fun x : S101 => (x.f0, x.f1, x.f2, x.f3, x.f4, x.f5, x.f6, x.f7, x.f8, x.f9)) (fun a => ⟨a.1, a.2.1, a.2.2.1, a.2.2.2.1, a.2.2.2.2.1, a.2.2.2.2.2.1, a.2.2.2.2.2.2.1, a.2.2.2.2.2.2.2.1, a.2.2.2.2.2.2.2.2.1, a.2.2.2.2.2.2.2.2.2⟩) (fun _ => rfl)
    (opnL_pair (opn_int Try.underlying3) (opnL_pair (opn_bool Try.underlying4) (opnL_pair (opn_int Try.underlying3) (opnL_pair (opn_slice Try.underlying38 (by kernel_rfl) (opn_int Try.underlying78)) (opnL_pair (opn_slice Try.underlying98 (by kernel_rfl) opn163) (opnL_pair (opn_slice Try.underlying99 (by kernel_rfl) opn166)
      (opnL_pair (opn_int Try.underlying3) (opnL_pair (opn_string Try.underlying9) (opnL_pair (opn_slice Try.underlying41 (by kernel_rfl) (opn_int Try.underlying3)) (opnL_one (opn_slice Try.underlying42 (by kernel_rfl) (opn_string Try.underlying9)))))))))))))
  intro H enc w spare held fuel cs x hx
  obtain ⟨a, ⟨_, _, _, h3, h4, h5, h6, h7, h8, h9⟩, hk⟩ := h H enc w spare held fuel cs x hx
  refine ⟨a, ⟨h3.1, h4.1, h5.1, h7, h8.1, h9.1, h4.2, h9.2, ?_⟩, hk⟩
  simp only [Lit.wf, IntKind.min, IntKind.max, IntKind.signed, IntKind.bits, Bool.and_eq_true, decide_eq_true_eq, if_true] at h6
  have := h6.2
  omega
theorem opnChunk : Opn Try.prog 24 (Kd.slice 101 k101) (fun xs => xs.length ≤ maxLen ∧ ∀ x ∈ xs, Pure.Ok101 x) :=
  opn_struct (t := 24) (ts := [22]) Try.underlying24 (by kernel_rfl) (by kernel_rfl) rfl (opnL_one (opn_slice Try.underlying22 (by kernel_rfl) opn101))
set_option maxRecDepth 100000 in
theorem lifted (os : Os) (started : os.Started) (H : Type) (enc : TypeId × Value → H) :
    ReturnsInHanded {} Try.checked os 4 .any (Rows.fnExactEndSpec.pre6 enc Try.prog Try.f4 Rows.fnExactEndRow.domain false) (Rows.fnExactEndSpec.post enc Try.prog Try.f4 false true false false) := by
  refine returnsInHanded_of_change_sized (C := Try.checked) own started (by kernel_rfl) Try.func4
    (ChangeSpec.witness6 (enc := enc) (C := Try.checked) false ⟨#[], #[.agg #[.slice none 0 0], .int .i64 0], []⟩ 8 (by kernel_rfl) (by kernel_rfl) (by kernel_rfl) (by kernel_rfl)) ?_
  intro W base args ds gs before hval0 hW hcnd hsz0 _
  have hval : ∀ (j : Nat) t v, Try.f4.params[j]? = some t → args[j]? = some v → Value.okWide Try.prog W .any base t v := hval0
  have hW' := hW
  obtain ⟨p, q, hA0, hV, rfl, hfz, hnd⟩ := hW
  have hA : DataW.TrodAll enc Try.prog W 0 (fun _ => true) true Try.f4.params.toList args.toList ds p := hA0
  rw [Try.params4] at hA hval
  obtain ⟨v0, vs0, d0, ds0, p0, q0, hargs, rfl, rfl, h0, r0⟩ := trodAll_cons hA
  obtain ⟨v1, vs1, d1, ds1, p1, q1, rfl, rfl, rfl, h1, r1⟩ := trodAll_cons r0
  obtain ⟨rfl, rfl, rfl⟩ := trodAll_nil r1
  obtain rfl : args = #[v0, v1] := by cases args; simp_all
  obtain ⟨rfl, rfl⟩ := trodVars_none hV
  obtain ⟨cs, rfl, hcs⟩ := okWide_struct Try.underlying24 (hval 0 24 v0 rfl rfl)
  have k0 := h0
  have lt0 : ∀ x ∈ p0, x.block < W.heap.size := by obtain ⟨m, hm⟩ := k0; exact DataW.trod_lt m _ _ _ hm
  obtain ⟨xs, hxs, A, c, hcells, hlc, hC⟩ : ∃ xs : List S101, (xs.length ≤ maxLen ∧ ∀ x ∈ xs, Pure.Ok101 x) ∧ (Kd.slice 101 k101).K W xs cs.toList := by
    obtain ⟨fuel, hf⟩ := h0
    exact opnChunk _ _ _ _ _ _ _ _ hf
  obtain rfl : cs = #[.slice A xs.length c] := by cases cs; simp_all
  obtain ⟨a1, rfl, rfl, rfl, w1⟩ := open_int Try.underlying3 (hval 1 3 v1 rfl rfl) h1
  clear hA0 hval0 hsz0
  obtain ⟨k, hk⟩ := Pure.end_word hxs.1 hxs.2 a1
  refine (PFnExactEnd.laws_FnExactEnd.calls k A c xs a1 true W hC hlc (hk k (Nat.le_refl _))).mono fun e W' ⟨he, bel⟩ => ?_
  subst he
  exact ⟨_, rfl, _, _, _, [], _, [], hW', trodAll_mk1 (shut_bool Try.underlying4 _), (trodAll_cons_mk (Below.trod laidOut (by kernel_rfl) (of_decide_eq_true (by kernel_rfl)) k0 bel lt0) (trodAll_cons_mk (shut_int Try.underlying3 w1) trodAll_mk0)), rfl, bel.frame _, fun h => by cases h⟩
theorem over : Rows.fnExactEndRow.holds Try.pinned (OpenSpec.ofChange Rows.fnExactEndSpec) :=
  OpenClaim.holds_of_wide 4 Try.f4 rfl rfl rfl rfl rfl rfl rfl ⟨rfl, rfl, rfl, rfl, rfl⟩ rfl rfl rfl rfl rfl (by kernel_rfl) Try.func4 (by kernel_rfl)
    (of_decide_eq_true (by kernel_rfl)) (by unfold Func.isWrapper; first | (rw [if_pos (by decide +kernel)]; kernel_rfl) | (rw [if_neg (by decide +kernel)]; exact ⟨rfl, rfl⟩))
    (fun os started H enc _ => lifted os started H enc)
theorem proved : Rows.FnExactEndSaid := over
#print axioms proved
end Go.Proofs.Ytiekodnojmkfaaa.fnExactEnd
namespace Go.Proofs.Ytiekodnojmkfaaa
/-- The row, under a short name, for the claim. -/
theorem fnExactEnd_holds : Rows.FnExactEndSaid := fnExactEnd.proved
end Go.Proofs.Ytiekodnojmkfaaa
