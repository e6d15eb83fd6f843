/- FnExactGetInt: the program's GetInt answers as the reference's, for all texts and places; no conditions. -/
import Derived.Test.YtnjchhkpomakoaaPFnExactGetIntx1
import Derived.Test.YtnjchhkpomakoaaVint
namespace Go.Proofs.Ytnjchhkpomakoaa.Pure
open Go.RowKit Go.Proofs.Ytnjchhkpomakoaa.PFnExactGetInt Go.Proofs.YtnjchhkpomakoaaW.PrintWords Go.Proofs.YtnjchhkpomakoaaW.PrintLast Go.Proofs.Ytnjchhkpomakoaa.Vint

theorem or_byte (x b : Int) (hb0 : 0 ≤ b) (hb : b ≤ 255) :
    bits .or .u64 (IntKind.u64.wrap (x * 256)) (IntKind.u64.wrap b) = IntKind.u64.wrap (IntKind.u64.wrap (x * 256) + IntKind.u64.wrap b) := by
  have e : IntKind.u64.wrap (x * 256) = x * 256 % 18446744073709551616 := IntKind.wrap_u64 _
  have hp : 0 ≤ IntKind.u64.wrap (x * 256) ∧ IntKind.u64.wrap (x * 256) < 18446744073709551616 ∧ IntKind.u64.wrap (x * 256) % 256 = 0 := by rw [e]; omega
  have e2 : IntKind.u64.wrap b = b := u64_id hb0 (by omega)
  rw [e2]
  generalize IntKind.u64.wrap (x * 256) = y at hp
  obtain ⟨h1, h2, h3⟩ := hp
  rw [or_sum_u64 8 y b h1 h3 (by omega) hb0 (by omega) (by omega), u64_id (by omega) (by omega)]

theorem loops_same (s : ByteArray) (at_ : Int) (k : Nat) : ∀ (x i : Int), impl_GetInt.l0 k s at_ x i = spec_GetInt.l0 k s at_ x i := by
  induction k with
  | zero => intro x i; simp only [impl_GetInt.l0, spec_GetInt.l0]
  | succ k ih =>
    intro x i
    simp only [impl_GetInt.l0, spec_GetInt.l0]
    have hb := bt_range s (wrap64 (at_ + i))
    rw [or_byte _ _ hb.1 hb.2, ih]

theorem spec_loop (s : ByteArray) (at_ : Int) (h0 : 0 ≤ at_) (h1 : at_ + 8 ≤ (s.size : Int)) (hs : (s.size : Int) ≤ 1048576) (d : Nat) :
    ∀ (k : Nat) (x i : Int), i + 1 = d → d ≤ 8 → d < k → ∃ r, spec_GetInt.l0 k s at_ x i = some r := by
  induction d with
  | zero =>
    intro k x i hi _ hk
    obtain ⟨k, rfl⟩ : ∃ m, k = m + 1 := ⟨k - 1, by omega⟩
    simp only [spec_GetInt.l0]
    rw [if_neg (by omega)]
    exact ⟨_, rfl⟩
  | succ d ih =>
    intro k x i hi hd hk
    obtain ⟨k, rfl⟩ : ∃ m, k = m + 1 := ⟨k - 1, by omega⟩
    simp only [spec_GetInt.l0]
    have e : wrap64 (at_ + i) = at_ + i := wrap_id (by omega) (by omega)
    have e2 : wrap64 (i - 1) = i - 1 := wrap_id (by omega) (by omega)
    rw [e, e2, if_pos (by omega), if_pos (by omega), if_pos (by omega)]
    exact ih k _ _ (by omega) (by omega) (by omega)

theorem spec_j0 (s : ByteArray) (at_ : Int) (b : Bool) (hb : b = false → 0 ≤ at_ ∧ at_ + 8 ≤ (s.size : Int)) (hs : (s.size : Int) ≤ 1048576) :
    ∃ r, spec_GetInt.j0 20 s at_ b = some r ∧ impl_GetInt.j0 20 s at_ b = some r := by
  cases b with
  | true => exact ⟨(0, 0, false), by simp only [spec_GetInt.j0, if_true], by simp only [impl_GetInt.j0, if_true]⟩
  | false =>
    obtain ⟨h0, h1⟩ := hb rfl
    obtain ⟨r, hr⟩ := spec_loop s at_ h0 h1 hs 8 19 0 7 (by omega) (by omega) (by omega)
    refine ⟨r, ?_, ?_⟩
    · simp only [spec_GetInt.j0]; rw [if_neg (by decide)]; exact hr
    · simp only [impl_GetInt.j0]; rw [if_neg (by decide), loops_same]; exact hr

theorem both (s : ByteArray) (at_ : Int) (hs : (s.size : Int) ≤ 1048576) (hw : (Lit.int .i64 at_).wf = true) :
    ∃ r, spec_GetInt.f 20 s at_ = some r ∧ impl_GetInt.f 20 s at_ = some r := by
  unfold spec_GetInt.f impl_GetInt.f
  by_cases h0 : at_ < 0
  · rw [if_pos h0, if_pos h0]
    exact spec_j0 s at_ true (by simp) hs
  · rw [if_neg h0, if_neg h0]
    by_cases h1 : at_ > (s.size : Int)
    · rw [if_pos h1]
      have hd : decide (wrap64 ((s.size : Int) - at_) < 8) = true := by
        have hb : at_ ≤ 9223372036854775807 := by
          simp only [Lit.wf, IntKind.min, IntKind.max, IntKind.signed, IntKind.bits, Bool.and_eq_true, decide_eq_true_eq, if_true] at hw
          omega
        refine decide_eq_true ?_
        rw [wrap_id (by omega) (by omega)]
        omega
      rw [hd]
      exact spec_j0 s at_ true (by simp) hs
    · rw [if_neg h1]
      refine spec_j0 s at_ _ (fun hf => ?_) hs
      have := of_decide_eq_false hf
      rw [wrap_id (by omega) (by omega)] at this
      omega

theorem FnExactGetInt : laws_FnExactGetInt.Pure := by
  intro s at_ _ hw
  refine ⟨20, ?_⟩
  unfold laws_FnExactGetInt.f
  by_cases h : (s.size : Int) > 1048576
  · rw [if_pos h]
  · rw [if_neg h]
    obtain ⟨r, h1, h2⟩ := both s at_ (by omega) hw
    rw [h1, h2]
    simp only [Option.bind_some, if_true, bne_self_eq_false, Bool.false_eq_true, if_false]

end Go.Proofs.Ytnjchhkpomakoaa.Pure
