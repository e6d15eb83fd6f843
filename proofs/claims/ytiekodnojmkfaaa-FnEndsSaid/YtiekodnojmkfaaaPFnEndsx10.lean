-- Printed by the kit's print or by this session's program, then cut and tightened by it.
import Derived.Test.YtiekodnojmkfaaaPFnEndsx0
namespace Go.Proofs.Ytiekodnojmkfaaa.PFnEnds
open Go.RowKit Go.Proofs.YtiekodnojmkfaaaW.PrintWords Go.Proofs.YtiekodnojmkfaaaW.PrintLast Go.Proofs.YtiekodnojmkfaaaW.PrintMore
attribute [local go_sem] max2_int min2_int max_two min_two max_three min_three max_four min_four   -- for this text's walks alone
set_option linter.unusedVariables false
set_option linter.unusedSimpArgs false
def spec_l1Byte.f (a0:Int):Option (ByteArray):=some (strOfNums (([(a0) % 256]:List Int)))
set_option maxHeartbeats 8000000 in
set_option maxRecDepth 100000 in
theorem spec_l1Byte.calls (a0:Int) (r:ByteArray) (w:World) (h:spec_l1Byte.f a0=some r) :
  Calls Try.prog 123 #[.int .i64 a0] w fun e w'=>e=.returned (.string r)∧Below w.heap.size w w':=by
 have HB:=Ak (Below.refl w.heap.size w)
 have H:(some (strOfNums (([(a0) % 256]:List Int))))=some r:=h
 clear h
 obtain ⟨y133,hy133⟩:∃ y_:List Int,y_=(([(a0) % 256]:List Int)):=⟨_,rfl⟩
 replace H:(some (strOfNums y133))=some r:=by first|(rw [hy133];with_reducible exact H)|(have H2_:=(Option.bind_some _ _).symm.trans H;rw [hy133];with_reducible exact H2_)|(have H2_:=(Option.bind_some _ _).symm.trans H;with_reducible exact H2_)|with_reducible exact H|(rw [hy133];exact H)|exact H
 have Ny133:=Ak hy133;clear hy133
 obtain rfl:=Option.some.inj H
 go_enter Try.func123,Try.ntmps123
 go_wp2_with (first|((with_reducible refine gate_dst (N:=5) rfl ?_);refine Kd.R_lit (Kd.int .u8) _ 5 ?hg (N:=5) ?hd (xs:=([(a0) % 256]:List Int)) (inner:=[.int .u8 ((a0) % 256)]) (ok:=fun _=>True) (okp:=fun _=>True) ?hr ?hp (fun _ hk=>hk) trivial (Below.refl _ _) (Nat.le_refl _) (by simp) ?_;(case hd=>rfl);(case hg=>rfl);(case hr=>first|(go_simp;done)|(go_simp;rfl));(case hp=>exact (Reps.one (show Kd.M (Kd.int .u8) _ _ _ ((a0) % 256) [.int .u8 ((a0) % 256)] from rfl) (Reps.none _ _)));intro v134 w2 ho3 hb hg_ hnew_;clear hg_ hnew_;(first|rw [← Ny133.out] at ho3|(simp only [Int.reduceToNat] at ho3;rw [← Ny133.out] at ho3));have n0_:=Ak (Kd.R_lower ho3 (below_size (by repeat (first|(with_reducible first|exact HB.out|apply below_alloc|apply pw_below_drewN|apply below_drew1)|exact HB.out))));have n1_:=Ak (below_step (by repeat (first|(with_reducible first|exact HB.out|apply below_alloc|apply pw_below_drewN|apply below_drew1)|exact HB.out)) hb);clear HB;have HO135:=n0_;have HB:=n1_;clear n0_ n1_;clear hb ho3;have hcv4:=own_string (P:=Try.prog) Try.underlying35 Try.underlying5 Try.underlying9 (Kd.own_of_R HO135.out)))
 go_ret
 exact ⟨by first|rfl|(simp [errW_none,errW_some] <;> rfl)|(simp [*,errW_none,errW_some] <;> rfl),by repeat (first|(with_reducible first|exact HB.out|apply below_alloc|apply pw_below_drewN|apply below_drew1)|exact HB.out)⟩
structure KidsS where
 f:Nat→List Int→Int→Int→Int→Bool→Int→List Int→List S85→List S89→Int→ByteArray→List Int→List ByteArray→Option (List S44×Int)
 mono:∀ a0 a1 a2 a3 a4 a5 a6 a7 a8 a9 a10 a11 a12 k,LeO (f k a0 a1 a2 a3 a4 a5 a6 a7 a8 a9 a10 a11 a12) (f (k+1) a0 a1 a2 a3 a4 a5 a6 a7 a8 a9 a10 a11 a12)
 calls:∀ (k:Nat) (A0:Option Addr) (c0:Nat) (l0:List Int) (a1 a2 f0:Int) (f1:Bool) (f2:Int) (A3:Option Addr) (q3:Nat) (l3:List Int) (A4:Option Addr) (q4:Nat) (l4:List S85) (A5:Option Addr) (q5:Nat) (l5:List S89) (f6:Int) (r1:List S44) (r2:Int) (b0:Nat) (w:World),
  Kd.C (Kd.int .u8) w A0 l0.length l0→l0.length≤c0→b0≤w.heap.size→Kd.R (Kd.int .u32) 78 w b0 (fun _=>True) (.slice A3 l3.length q3) l3→Kd.R k85 85 w b0 (fun _=>True) (.slice A4 l4.length q4) l4→Kd.R k89 89 w b0 (fun _=>True) (.slice A5 l5.length q5) l5→f k l0 a1 a2 f0 f1 f2 l3 l4 l5 f6 ⟨#[]⟩ [] []=some (r1,r2) →
  Calls Try.prog 121 #[.slice A0 l0.length c0,.int .i64 a1,.int .i64 a2,.agg #[.int .i64 f0,.bool f1,.int .i64 f2,.slice A3 l3.length q3,.slice A4 l4.length q4,.slice A5 l5.length q5,.int .i64 f6,.string ⟨#[]⟩,.slice none 0 0,.slice none 0 0]] w fun e w' =>
   ∃ v0_:Value,e=.returned (.tuple #[v0_,.int .i64 r2])∧Kd.S k44 44 w' b0 (fun _=>True) v0_ r1∧Below w.heap.size w w'
abbrev spec_l4Kids.f [K:Inhabited KidsS]:Nat→List Int→Int→Int→Int→Bool→Int→List Int→List S85→List S89→Int→ByteArray→List Int→List ByteArray→Option (List S44×Int):=(default:KidsS).f
theorem spec_l4Kids.mono [K:Inhabited KidsS] (a0:List Int) (a1 a2 a3:Int) (a4:Bool) (a5:Int) (a6:List Int) (a7:List S85) (a8:List S89) (a9:Int) (a10:ByteArray) (a11:List Int) (a12:List ByteArray) (k:Nat):LeO (spec_l4Kids.f k a0 a1 a2 a3 a4 a5 a6 a7 a8 a9 a10 a11 a12) (spec_l4Kids.f (k+1) a0 a1 a2 a3 a4 a5 a6 a7 a8 a9 a10 a11 a12):=(default:KidsS).mono a0 a1 a2 a3 a4 a5 a6 a7 a8 a9 a10 a11 a12 k
end Go.Proofs.Ytiekodnojmkfaaa.PFnEnds
