/- The law FnExactStrip answers true at every chunk, and the chunk reads behind the call as it read before; no condition. -/
import Derived.Test.YtiekodnojmkfaaaRows
import Derived.Test.YtiekodnojmkfaaaPureFnExactStrip
import Derived.Test.YtiekodnojmkfaaaOpen
import Derived.WalkKit
import Derived.ProofKit
import Derived.OpenShut
import Derived.ShutString
import Derived.ChangeOld
import Derived.Below
import Derived.SizedLaws
namespace Go.Proofs.Ytiekodnojmkfaaa.fnExactStrip
open Go.ChangeShapes Go.WideShapes Go.ChangeAt Go.RowKit
open Go.ChangeMaps (open_string shut_string)
open Go.Proofs.YtiekodnojmkfaaaOpen Go.Proofs.Ytiekodnojmkfaaa.PFnExactStrip Go.Proofs.YtiekodnojmkfaaaW.PrintWords
set_option linter.unusedVariables false
theorem own:ownKnob Try.prog.godebug=none:=by kernel_rfl
theorem laidOut:laidOutB Try.prog=true:=by kernel_rfl
theorem opn163:Opn Try.prog 163 k163 (fun v=>Pure.Ok163 v):=by
 have h:=opn_struct (t:=163) (ts:=[3,2,9]) Try.underlying163 (by kernel_rfl) (by kernel_rfl) rfl (opnL_iso (fun x:S163=>(x.f0,x.f1,x.f2)) (fun a=>⟨a.1,a.2.1,a.2.2⟩) (fun _=>rfl)
  (opnL_pair (opn_int Try.underlying3) (opnL_pair (opn_int Try.underlying2) (opnL_one (opn_string Try.underlying9)))))
 intro H enc w spare held fuel cs x hx
 obtain ⟨a,ho,hk⟩:=h H enc w spare held fuel cs x hx
 exact ⟨a,⟨ho.2.2⟩,hk⟩
theorem opn166:Opn Try.prog 166 k166 (fun _=>True):=by
 have h:=opn_struct (t:=166) (ts:=[4,3]) Try.underlying166 (by kernel_rfl) (by kernel_rfl) rfl (opnL_iso (fun x:S166=>(x.f0,x.f1)) (fun a=>⟨a.1,a.2⟩) (fun _=>rfl)
  (opnL_pair (opn_bool Try.underlying4) (opnL_one (opn_int Try.underlying3))))
 intro H enc w spare held fuel cs x hx
 obtain ⟨a,_,hk⟩:=h H enc w spare held fuel cs x hx
 exact ⟨a,trivial,hk⟩
theorem opn101:Opn Try.prog 101 k101 (fun x=>Pure.Ok101 x∧∀ y ∈ x.f3,0≤y∧y≤4294967295):=by
 have h:=opn_struct (t:=101) (ts:=[3,4,3,38,98,99,3,9,41,42]) Try.underlying101 (by kernel_rfl) (by kernel_rfl) rfl (opnL_iso (fun x:S101=>(x.f0,x.f1,x.f2,x.f3,x.f4,x.f5,x.f6,x.f7,x.f8,x.f9)) (fun a=>⟨a.1,a.2.1,a.2.2.1,a.2.2.2.1,a.2.2.2.2.1,a.2.2.2.2.2.1,a.2.2.2.2.2.2.1,a.2.2.2.2.2.2.2.1,a.2.2.2.2.2.2.2.2.1,a.2.2.2.2.2.2.2.2.2⟩) (fun _=>rfl)
  (opnL_pair (opn_int Try.underlying3) (opnL_pair (opn_bool Try.underlying4) (opnL_pair (opn_int Try.underlying3) (opnL_pair (opn_slice Try.underlying38 (by kernel_rfl) (opn_int Try.underlying78)) (opnL_pair (opn_slice Try.underlying98 (by kernel_rfl) opn163) (opnL_pair (opn_slice Try.underlying99 (by kernel_rfl) opn166)
   (opnL_pair (opn_int Try.underlying3) (opnL_pair (opn_string Try.underlying9) (opnL_pair (opn_slice Try.underlying41 (by kernel_rfl) (opn_int Try.underlying3)) (opnL_one (opn_slice Try.underlying42 (by kernel_rfl) (opn_string Try.underlying9)))))))))))))
 intro H enc w spare held fuel cs x hx
 obtain ⟨a,⟨_,_,_,h3,h4,h5,h6,h7,h8,h9⟩,hk⟩:=h H enc w spare held fuel cs x hx
 refine ⟨a,⟨⟨h3.1,h4.1,h5.1,h7,h8.1,h9.1,h4.2,h9.2,?_⟩,fun y hy=>?_⟩,hk⟩
 rotate_left
 ·have h:=h3.2 y hy
  simp only [Lit.wf,IntKind.min,IntKind.max,IntKind.signed,IntKind.bits,Bool.and_eq_true,decide_eq_true_eq,if_true,if_false,Bool.false_eq_true] at h
  have:=h.1
  have:=h.2
  omega
 simp only [Lit.wf,IntKind.min,IntKind.max,IntKind.signed,IntKind.bits,Bool.and_eq_true,decide_eq_true_eq,if_true] at h6
 have:=h6.2
 omega
theorem opnChunk:Opn Try.prog 24 (Kd.slice 101 k101) (fun xs=>xs.length≤maxLen∧∀ x ∈ xs,Pure.Ok101 x∧∀ y ∈ x.f3,0≤y∧y≤4294967295) :=
 opn_struct (t:=24) (ts:=[22]) Try.underlying24 (by kernel_rfl) (by kernel_rfl) rfl (opnL_one (opn_slice Try.underlying22 (by kernel_rfl) opn101))
set_option maxRecDepth 100000 in
theorem lifted (os:Os) (started:os.Started) (H:Type) (enc:TypeId×Value→H) :
  ReturnsInHanded {} Try.checked os 7 .any (Rows.fnExactStripSpec.pre6 enc Try.prog Try.f7 Rows.fnExactStripRow.domain false) (Rows.fnExactStripSpec.post enc Try.prog Try.f7 false true false false):=by
 refine returnsInHanded_of_change_sized (C:=Try.checked) own started (by kernel_rfl) Try.func7
  (ChangeSpec.witness6 (enc:=enc) (C:=Try.checked) false ⟨#[],#[.agg #[.slice none 0 0]],[]⟩ 8 (by kernel_rfl) (by kernel_rfl) (by kernel_rfl) (by kernel_rfl)) ?_
 intro W base args ds gs before hval0 hW hcnd hsz0 _
 have hval:∀ (j:Nat) t v,Try.f7.params[j]?=some t→args[j]?=some v→Value.okWide Try.prog W .any base t v:=hval0
 have hW':=hW
 obtain ⟨p,q,hA0,hV,rfl,hfz,hnd⟩:=hW
 have hA:DataW.TrodAll enc Try.prog W 0 (fun _=>true) true Try.f7.params.toList args.toList ds p:=hA0
 rw [Try.params7] at hA hval
 obtain ⟨v0,vs0,d0,ds0,p0,q0,hargs,rfl,rfl,h0,r0⟩:=trodAll_cons hA
 obtain ⟨rfl,rfl,rfl⟩:=trodAll_nil r0
 obtain rfl:args=#[v0]:=by cases args;simp_all
 obtain ⟨rfl,rfl⟩:=trodVars_none hV
 obtain ⟨cs,rfl,hcs⟩:=okWide_struct Try.underlying24 (hval 0 24 v0 rfl rfl)
 have k0:=h0
 have lt0:∀ x ∈ p0,x.block<W.heap.size:=by obtain ⟨m,hm⟩:=k0;exact DataW.trod_lt m _ _ _ hm
 obtain ⟨xs,hxs,A,c,hcells,hlc,hC⟩:∃ xs:List S101,(xs.length≤maxLen∧∀ x ∈ xs,Pure.Ok101 x∧∀ y ∈ x.f3,0≤y∧y≤4294967295)∧(Kd.slice 101 k101).K W xs cs.toList:=by
  obtain ⟨fuel,hf⟩:=h0
  exact opnChunk _ _ _ _ _ _ _ _ hf
 obtain rfl:cs=#[.slice A xs.length c]:=by cases cs;simp_all
 clear hA0 hval0 hsz0
 have hcall:Calls Try.prog 7 #[.agg #[.slice A xs.length c]] W fun e w'=>e=.returned (.bool true)∧Below W.heap.size W w':=by
  rcases Pure.strip_law hxs.1 (fun x hx=>(hxs.2 x hx).1) with ⟨k,t,f0,ht⟩|⟨k,t,L,R,L',R',a,b,f0,ht,f1,f2,f3,f4,f5,f6,ha,f7,f8,hb,hL,hR⟩
  ·exact laws_FnExactStrip.neg k A c xs t W hC hlc f0 ht
  ·exact laws_FnExactStrip.pos k A c xs t L R L' R' a b W hC hlc f0 ht f1 f2 f3 f4 f5 f6 ha f7 f8 hb hL hR
 refine hcall.mono fun e W' ⟨he,bel⟩=>?_
 subst he
 exact ⟨_,rfl,_,_,_,[],_,[],hW',trodAll_mk1 (shut_bool Try.underlying4 _),(trodAll_cons_mk (Below.trod laidOut (by kernel_rfl) (of_decide_eq_true (by kernel_rfl)) k0 bel lt0) trodAll_mk0),rfl,bel.frame _,fun h=>by cases h⟩
theorem over:Rows.fnExactStripRow.holds Try.pinned (OpenSpec.ofChange Rows.fnExactStripSpec) :=
 OpenClaim.holds_of_wide 7 Try.f7 rfl rfl rfl rfl rfl rfl rfl ⟨rfl,rfl,rfl,rfl,rfl⟩ rfl rfl rfl rfl rfl (by kernel_rfl) Try.func7 (by kernel_rfl)
  (of_decide_eq_true (by kernel_rfl)) (by unfold Func.isWrapper;first|(rw [if_pos (by decide +kernel)];kernel_rfl)|(rw [if_neg (by decide +kernel)];exact ⟨rfl,rfl⟩))
  (fun os started H enc _=>lifted os started H enc)
theorem proved:Rows.FnExactStripSaid:=over
#print axioms proved
end Go.Proofs.Ytiekodnojmkfaaa.fnExactStrip
namespace Go.Proofs.Ytiekodnojmkfaaa
/-- The row, under a short name, for the claim. -/
theorem fnExactStrip_holds:Rows.FnExactStripSaid:=fnExactStrip.proved
end Go.Proofs.Ytiekodnojmkfaaa
