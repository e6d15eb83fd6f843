import Derived.Test.YtiekodnojmkfaaaGreatDoorPFnDumpx0
namespace Go.Proofs.YtiekodnojmkfaaaGreatDoor.yD
set_option maxHeartbeats 8000000
set_option maxRecDepth 100000
open Go.RowKit Go.Proofs.YtiekodnojmkfaaaGreatDoorW.zF Go.Proofs.YtiekodnojmkfaaaGreatDoorW.yC Go.Proofs.YtiekodnojmkfaaaGreatDoorW.yY
attribute [local go_sem] xM xO qG qH yZ xg xP xQ
set_option linter.unusedVariables false
set_option linter.unusedSimpArgs false
def ZJ.f (a0:Int):Option (ByteArray):=some (strOfNums (([(a0) % 256]:List Int)))
theorem ZJ.calls (a0:Int) (r:ByteArray) (w:World) (h:ZJ.f a0=some r) :
  Calls Tryz.prog 45 #[.int .i64 a0] w fun e w'=>e=.returned (.string r)∧Below w.heap.size w w':=by
 have HB:=Ak (Below.refl w.heap.size w)
 have H:(some (strOfNums (([(a0) % 256]:List Int))))=some r:=h
 clear h
 obtain ⟨y113,hy113⟩:∃ y_:List Int,y_=(([(a0) % 256]:List Int)):=⟨_,rfl⟩
 replace H:(some (strOfNums y113))=some r:=by first|(rw [hy113];with_reducible exact H)|(have H2_:=(Option.bind_some _ _).symm.trans H;rw [hy113];with_reducible exact H2_)|(have H2_:=(Option.bind_some _ _).symm.trans H;with_reducible exact H2_)|with_reducible exact H|(rw [hy113];exact H)|exact H
 have Ny113:=Ak hy113;clear hy113
 obtain rfl:=Option.some.inj H
 go_enter Tryz.func45,Tryz.ntmps45
 go_wp2_with (first|((with_reducible refine zB (N:=5) rfl ?_);refine Kd.XU (Kd.int .u8) _ 5 ?hg (N:=5) ?hd (xs:=([(a0) % 256]:List Int)) (inner:=[.int .u8 ((a0) % 256)]) (ok:=fun _=>True) (okp:=fun _=>True) ?hr ?hp (fun _ hk=>hk) trivial (Below.refl _ _) (Nat.le_refl _) (by simp) ?_;(case hd=>rfl);(case hg=>rfl);(case hr=>first|(go_simp;done)|(go_simp;rfl));(case hp=>exact (qx.one (show Kd.M (Kd.int .u8) _ _ _ ((a0) % 256) [.int .u8 ((a0) % 256)] from rfl) (qx.none _ _)));intro v114 w2 ho3 hb hg_ qp;clear hg_ qp;(first|rw [← Ny113.out] at ho3|(simp only [Int.reduceToNat] at ho3;rw [← Ny113.out] at ho3));have HO115:=Ak (Kd.yH ho3 (zH (bl HB)));replace HB:=BS HB hb;clear hb ho3;have hcv4:=X5 (P:=Tryz.prog) Tryz.underlying22 Tryz.underlying5 Tryz.underlying9 (Kd.JH HO115.out)))
 go_ret
 exact ⟨ef,bl HB⟩
structure QM where
 f:Nat→List Int→Int→Int→Int→Bool→Int→List Int→List S67→List S71→Int→ByteArray→List Int→List ByteArray→Option (List S56×Int)
 mono:∀ a0 a1 a2 a3 a4 a5 a6 a7 a8 a9 a10 a11 a12 k,LeO (f k a0 a1 a2 a3 a4 a5 a6 a7 a8 a9 a10 a11 a12) (f (k+1) a0 a1 a2 a3 a4 a5 a6 a7 a8 a9 a10 a11 a12)
 calls:∀ (k:Nat) (A0:Option Addr) (c0:Nat) (l0:List Int) (a1 a2 f0:Int) (f1:Bool) (f2:Int) (A3:Option Addr) (q3:Nat) (l3:List Int) (A4:Option Addr) (q4:Nat) (l4:List S67) (A5:Option Addr) (q5:Nat) (l5:List S71) (f6:Int) (r1:List S56) (r2:Int) (b0:Nat) (w:World),
  Kd.C (Kd.int .u8) w A0 l0.length l0→l0.length≤c0→b0≤w.heap.size→Kd.R (Kd.int .u32) 60 w b0 (fun _=>True) (.slice A3 l3.length q3) l3→Kd.R k67 67 w b0 (fun _=>True) (.slice A4 l4.length q4) l4→Kd.R k71 71 w b0 (fun _=>True) (.slice A5 l5.length q5) l5→f k l0 a1 a2 f0 f1 f2 l3 l4 l5 f6 ⟨#[]⟩ [] []=some (r1,r2) →
  Calls Tryz.prog 106 #[.slice A0 l0.length c0,.int .i64 a1,.int .i64 a2,.agg #[.int .i64 f0,.bool f1,.int .i64 f2,.slice A3 l3.length q3,.slice A4 l4.length q4,.slice A5 l5.length q5,.int .i64 f6,.string ⟨#[]⟩,.slice none 0 0,.slice none 0 0]] w fun e w' =>
   ∃ v0_:Value,e=.returned (.tuple #[v0_,.int .i64 r2])∧Kd.S k56 56 w' b0 (fun _=>True) v0_ r1∧Below w.heap.size w w'
abbrev qM.f [K:Inhabited QM]:Nat→List Int→Int→Int→Int→Bool→Int→List Int→List S67→List S71→Int→ByteArray→List Int→List ByteArray→Option (List S56×Int):=(default:QM).f
theorem qM.mono [K:Inhabited QM] (a0:List Int) (a1 a2 a3:Int) (a4:Bool) (a5:Int) (a6:List Int) (a7:List S67) (a8:List S71) (a9:Int) (a10:ByteArray) (a11:List Int) (a12:List ByteArray) (k:Nat):LeO (qM.f k a0 a1 a2 a3 a4 a5 a6 a7 a8 a9 a10 a11 a12) (qM.f (k+1) a0 a1 a2 a3 a4 a5 a6 a7 a8 a9 a10 a11 a12):=(default:QM).mono a0 a1 a2 a3 a4 a5 a6 a7 a8 a9 a10 a11 a12 k
end Go.Proofs.YtiekodnojmkfaaaGreatDoor.yD
