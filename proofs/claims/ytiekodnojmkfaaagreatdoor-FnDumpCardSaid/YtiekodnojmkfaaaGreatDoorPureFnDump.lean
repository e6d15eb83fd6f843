import Derived.Test.YtiekodnojmkfaaaGreatDoorWalk
import Derived.Test.YtiekodnojmkfaaaGreatDoorEv
import Derived.Test.YtiekodnojmkfaaaGreatDoorVint
import Derived.Laws.Strings
namespace Go.Proofs.YtiekodnojmkfaaaGreatDoor.Pure
set_option maxHeartbeats 8000000
set_option maxRecDepth 100000
set_option linter.unusedVariables false
set_option linter.unusedSectionVars false
set_option linter.unusedSimpArgs false
open Go Go.RowKit Go.Proofs.YtiekodnojmkfaaaGreatDoor.yD Go.Proofs.YtiekodnojmkfaaaGreatDoorW.zF Go.Proofs.YtiekodnojmkfaaaGreatDoorW.yC Go.Proofs.YtiekodnojmkfaaaGreatDoorEv Go.Proofs.YtiekodnojmkfaaaGreatDoorVint
theorem Q5 (n:Int) (h₀:0≤n) (h₁:n<2 ^ 63):IntKind.i64.wrap n=n:=by rw [IntKind.wrap_i64];omega
theorem xor_is (a b:Nat) (ha:a<2 ^ 62) (hb:b<2 ^ 62):bits .xor .i64 (a:Int) (b:Int)=((a ^^^ b:Nat):Int):=by
 have hk:IntKind.i64.bits=64:=rfl
 have ha':a % 2 ^ 64=a:=Nat.mod_eq_of_lt (by omega)
 have hb':b % 2 ^ 64=b:=Nat.mod_eq_of_lt (by omega)
 have hx:a ^^^ b<2 ^ 62:=Nat.xor_lt_two_pow ha hb
 simp only [bits,hk,BitVec.ofInt_natCast,BitVec.toNat_xor,BitVec.toNat_ofNat,ha',hb']
 exact Q5 _ (Int.natCast_nonneg _) (by omega)
theorem xor_nonneg {x y:Int} (hx0:0≤x) (hx:x<2 ^ 62) (hy0:0≤y) (hy:y<2 ^ 62):0≤bits .xor .i64 x y:=by
 obtain ⟨a,rfl⟩:=Int.eq_ofNat_of_zero_le hx0
 obtain ⟨b,rfl⟩:=Int.eq_ofNat_of_zero_le hy0
 rw [xor_is a b (by omega) (by omega)]
 exact Int.natCast_nonneg _
theorem rd_byte {l:List Int} (hw:∀ x ∈ l,0≤x∧x≤255) (i:Int):0≤rd l i∧rd l i≤255:=by
 unfold rd
 rw [List.getD_eq_getElem?_getD]
 by_cases h:i.toNat<l.length
 ·rw [List.getElem?_eq_getElem h]
  exact hw _ (List.getElem_mem h)
 ·rw [List.getElem?_eq_none (by omega)]
  exact ⟨by decide,by decide⟩
theorem take_ok {l:List Int} (hl:(l.length:Int)≤1048576) (hw:∀ x ∈ l,0≤x∧x≤255) {p n:Int} (hp0:0≤p) (hp:p≤1000000000) (hn:1≤n) (k:Nat) :
  ∃ r,zx.f (k+1) l p n=some (r,p+1)∧0≤r∧r<n:=by
 have ep:wrap64 (p+1)=p+1:=xw (by omega) (by omega)
 unfold zx.f
 rw [if_neg (show ¬ n<1 by omega)]
 by_cases h0:(l.length:Int)=0
 ·rw [show ((l.length:Int) == 0)=true from beq_iff_eq.mpr h0]
  refine ⟨0,?_,by omega,by omega⟩
  simp only [zx.j0,if_true,ep]
 ·rw [show ((l.length:Int) == 0)=false from beq_eq_false_iff_ne.mpr h0]
  simp only [zx.j0,Bool.false_eq_true,if_false]
  have hlp:(1:Int)≤(l.length:Int):=by omega
  have er1:Int.tmod p (l.length:Int)=p % (l.length:Int):=Int.tmod_eq_emod_of_nonneg hp0
  have e7:wrap64 (wrap64 (p*7)+3)=p*7+3:=by rw [xw (show -9223372036854775808≤p*7 by omega) (by omega),xw (by omega) (by omega)]
  have er2:Int.tmod (p*7+3) (l.length:Int)=(p*7+3) % (l.length:Int):=Int.tmod_eq_emod_of_nonneg (by omega)
  have ed:Int.tdiv p (l.length:Int)=p / (l.length:Int):=Int.tdiv_eq_ediv_of_nonneg hp0
  have m1:0≤p % (l.length:Int)∧p % (l.length:Int)<(l.length:Int):=⟨Int.emod_nonneg _ (by omega),Int.emod_lt_of_pos _ (by omega)⟩
  have m2:0≤(p*7+3) % (l.length:Int)∧(p*7+3) % (l.length:Int)<(l.length:Int):=⟨Int.emod_nonneg _ (by omega),Int.emod_lt_of_pos _ (by omega)⟩
  have hd:0≤p / (l.length:Int)∧p / (l.length:Int)≤p:=⟨Int.ediv_nonneg hp0 (by omega),Int.ediv_le_self _ hp0⟩
  rw [e7,er1,er2,ed]
  have ha:=rd_byte hw (p % (l.length:Int))
  have hb:=rd_byte hw ((p*7+3) % (l.length:Int))
  have hc:=rd_byte hw p
  generalize rd l (p % (l.length:Int))=a at ha
  generalize rd l ((p*7+3) % (l.length:Int))=b at hb
  generalize rd l p=c at hc
  generalize p / (l.length:Int)=q at hd
  have ea:wrap64 a=a:=xw (by omega) (by omega)
  have eb:wrap64 b=b:=xw (by omega) (by omega)
  have ec:wrap64 c=c:=xw (by omega) (by omega)
  have eq':wrap64 q=q:=xw (by omega) (by omega)
  rw [ea,eb,ec,eq',ep]
  rw [xw (show -9223372036854775808≤a*131 by omega) (by omega),xw (show -9223372036854775808≤b*1117 by omega) (by omega),xw (show -9223372036854775808≤a*131+b*1117 by omega) (by omega),
   xw (show -9223372036854775808≤p*29 by omega) (by omega),xw (show -9223372036854775808≤a*131+b*1117+p*29 by omega) (by omega),xw (show -9223372036854775808≤q*53 by omega) (by omega),xw (show -9223372036854775808≤a*131+b*1117+p*29+q*53 by omega) (by omega)]
  have hx0:0≤a*131+b*1117+p*29+q*53∧a*131+b*1117+p*29+q*53<2 ^ 62:=⟨by omega,by omega⟩
  generalize a*131+b*1117+p*29+q*53=x at hx0
  have ex:Int.tdiv x 64=x / 64:=Int.tdiv_eq_ediv_of_nonneg hx0.1
  rw [ex,xw (show -9223372036854775808≤x / 64 by omega) (by omega)]
  have hxo:0≤bits .xor .i64 x (x / 64):=xor_nonneg hx0.1 hx0.2 (by omega) (by omega)
  generalize bits .xor .i64 x (x / 64)=y at hxo
  rw [if_neg h0,if_pos m1.1,if_pos m1.2,if_pos m2.1,if_pos m2.2,if_pos hp0,if_neg (show ¬ n=0 by omega)]
  have ey:Int.tmod y n=y % n:=Int.tmod_eq_emod_of_nonneg hxo
  have ecn:Int.tmod c n=c % n:=Int.tmod_eq_emod_of_nonneg (by omega)
  rw [ey,ecn]
  have hy:0≤y % n∧y % n<n:=⟨Int.emod_nonneg _ (by omega),Int.emod_lt_of_pos _ (by omega)⟩
  have hcn:0≤c % n∧c % n<n:=⟨Int.emod_nonneg _ (by omega),Int.emod_lt_of_pos _ (by omega)⟩
  by_cases h1:p<(l.length:Int)
  ·rw [if_pos h1]
   by_cases h2:n≤256
   ·rw [if_pos h2];exact ⟨_,rfl,hcn.1,hcn.2⟩
   ·rw [if_neg h2,if_neg (show ¬ n=0 by omega)];exact ⟨_,rfl,hy.1,hy.2⟩
  ·rw [if_neg h1,if_neg (show ¬ n=0 by omega)];exact ⟨_,rfl,hy.1,hy.2⟩
def Tot {α:Type} (g:Nat→Option α) (P:α→Prop):Prop:=∃ a,Evt g a∧P a
theorem Tot.bind {α β:Type} {g:Nat→Option α} {h:Nat→α→Option β} {P:α→Prop} {Q:β→Prop} (hg:Tot g P) (hh:∀ a,P a→Tot (fun k=>h k a) Q):Tot (fun k=>(g k).bind (h k)) Q:=by
 obtain ⟨a,ha,hp⟩:=hg
 obtain ⟨b,hb,hq⟩:=hh a hp
 exact ⟨b,ha.bind hb,hq⟩
theorem Tot.mono {α:Type} {g:Nat→Option α} {P Q:α→Prop} (h:Tot g P) (hq:∀ a,P a→Q a):Tot g Q:=by
 obtain ⟨a,ha,hp⟩:=h
 exact ⟨a,ha,hq a hp⟩
theorem Tot.now {α:Type} {g:Nat→Option α} {P:α→Prop} {a:α} (h:∀ k,g k=some a) (hp:P a):Tot g P:=⟨a,Evt.now h,hp⟩
theorem Tot.of_eq {α:Type} {g g':Nat→Option α} {P:α→Prop} (h:Tot g P) (he:∀ k,g' k=g k):Tot g' P:=by
 obtain ⟨a,ha,hp⟩:=h
 exact ⟨a,ha.of_eq 0 (fun k _=>he k),hp⟩
theorem Tot.succ {α:Type} {g:Nat→Option α} {P:α→Prop} (h:Tot (fun k=>g (k+1)) P):Tot g P:=by
 obtain ⟨a,ha,hp⟩:=h
 exact ⟨a,ha.succ,hp⟩
structure Bytes (l:List Int):Prop where
 len:(l.length:Int)≤1048576
 rng:∀ x ∈ l,0≤x∧x≤255
theorem jQ {l:List Int} (hb:Bytes l) {p n:Int} (hp0:0≤p) (hp:p≤1000000000) (hn:1≤n):Tot (fun k=>zx.f k l p n) (fun t=>t.2=p+1∧0≤t.1∧t.1<n):=by
 obtain ⟨r,hr,h0,h1⟩:=take_ok hb.len hb.rng hp0 hp hn 0
 refine Tot.succ ⟨(r,p+1),⟨0,fun k _=>?_⟩,rfl,h0,h1⟩
 obtain ⟨r',hr',_,_⟩:=take_ok hb.len hb.rng hp0 hp hn k
 have h2:∀ m,LeO (zx.f 1 l p n) (zx.f (1+m) l p n):=by
  intro m
  induction m with
  | zero=>exact LeO.refl _
  | succ m ih=>exact fun r h=>zx.mono _ _ _ _ r (ih r h)
 have h3:=h2 k (r,p+1) hr
 rw [show 1+k=k+1 by omega] at h3
 exact h3
theorem count_tot {l:List Int} (hb:Bytes l):∃ t,vT.f l 10 2 7=some t∧2≤t∧t≤7:=by
 have h:=hb.len
 unfold vT.f
 rw [if_neg (by decide)]
 have e:wrap64 (2+wrap64 ((l.length:Int) / 10))=2+(l.length:Int) / 10:=by unfold wrap64;omega
 rw [e]
 by_cases c:2+(l.length:Int) / 10 > 7
 ·exact ⟨7,if_pos c,by omega,by omega⟩
 ·exact ⟨_,if_neg c,by omega,by omega⟩
theorem QG {α:Type} {c:Prop} [Decidable c] {a b:List α} {n:Nat} (ha:a.length≤n) (hb:b.length≤n):(if c then a else b).length≤n:=by
 split
 ·exact ha
 ·exact hb
theorem blk_len (a x y z kids ups:Int) (v i:Bool) (hz:0≤z∧z≤15):(Zc a x y z kids ups v i).length≤40:=by
 have ht:(Yj x y (1+Int.tmod z 3).toNat).length≤12:=by
  have h1:∀ n,(Yj x y n).length=4*n:=by
   intro n
   induction n with
   | zero=>rfl
   | succ n ih=>rw [Yj,List.length_append,List.length_append,ih];show 4*n+3+1=_;omega
  rw [h1,Int.tmod_eq_emod_of_nonneg hz.1]
  omega
 have hl:(loopL x y z kids).length≤40:=by
  unfold loopL zax
  by_cases c:0<kids∧Int.tmod z 2=0
  ·rw [if_pos c];simp
  ·rw [if_neg c];simp
 have hc:(Xp x y z kids).length≤40:=by
  unfold Xp Xb
  rw [List.length_append]
  exact Nat.add_le_add (Nat.le_refl 3) (QG (n:=37) (by simp) (QG (by simp) (QG (by simp) (by simp))))
 have hh:(Zz x y z kids).length≤40:=by
  unfold Zz
  by_cases c:z=15
  ·rw [if_pos c];simp only [List.length_append,List.length_cons,List.length_nil];omega
  ·rw [if_neg c];simp only [List.length_append,List.length_cons,List.length_nil];omega
 unfold Zc
 repeat' refine QG ?_ ?_
 all_goals (first|exact hl|exact hc|exact hh|(simp only [List.length_cons,List.length_nil];omega))
def UW (x:Int):Prop:=0≤x∧x≤4294967295
def UC (v:S67):Prop:=-9223372036854775808≤v.f1∧v.f1≤9223372036854775807
theorem Zr {o a b c:Int} (h:inI o a b c):UW (wI o a b c):=by unfold inI at h;unfold UW wI;omega
theorem Yb {o a s:Int} (h:inW o a s):UW (wW o a s):=by unfold inW at h;unfold UW wW wI;omega
theorem all_nil {α:Type} {P:α→Prop}:∀ x ∈ ([]:List α),P x:=fun x h=>by simp at h
theorem all_cons {α:Type} {P:α→Prop} {a:α} {l:List α} (ha:P a) (hl:∀ x ∈ l,P x):∀ x ∈ a::l,P x:=fun x h=>(List.mem_cons.1 h).elim (fun e=>e ▸ ha) (hl x)
theorem vP {α:Type} {P:α→Prop} {a l:List α} (ha:∀ x ∈ a,P x) (hl:∀ x ∈ l,P x):∀ x ∈ a++l,P x:=fun x h=>(List.mem_append.1 h).elim (ha x) (hl x)
theorem Jl {α:Type} {P:α→Prop} {c:Prop} [Decidable c] {a b:List α} (ha:∀ x ∈ a,P x) (hb:∀ x ∈ b,P x):∀ x ∈ (if c then a else b),P x:=by
 split
 ·exact ha
 ·exact hb
theorem Q7 {z:Int} (hz:0≤z∧z≤15) (n:Int) (hn:0≤n):0≤Int.tmod z n∧Int.tmod z n≤15:=by
 rw [Int.tmod_eq_emod_of_nonneg hz.1]
 refine ⟨?_,?_⟩
 ·by_cases h:n=0
  ·rw [h,Int.emod_zero];exact hz.1
  ·exact Int.emod_nonneg _ h
 ·by_cases h:n=0
  ·rw [h,Int.emod_zero];exact hz.2
  ·have:=Int.emod_add_mul_ediv z n
   have h2:0≤n*(z / n):=Int.mul_nonneg hn (Int.ediv_nonneg hz.1 hn)
   omega
theorem blk_rng (a x y z kids ups:Int) (v i:Bool) (h:inA a x y z kids ups):∀ w ∈ Zc a x y z kids ups v i,UW w:=by
 obtain ⟨_,_,x0,x1,y0,y1,z0,z1,k0,k1,u0,u1⟩:=h
 have hz:0≤z∧z≤15:=⟨z0,z1⟩
 have t2:=Q7 hz 2 (by decide)
 have t3:=Q7 hz 3 (by decide)
 have t4:=Q7 hz 4 (by decide)
 have t10:=Q7 hz 10 (by decide)
 have t12:=Q7 hz 12 (by decide)
 have tk:=Q7 hz kids k0
 have tu:=Q7 hz ups u0
 have d4:0≤Int.tdiv z 4∧Int.tdiv z 4≤15:=by rw [Int.tdiv_eq_ediv_of_nonneg z0];omega
 have d2:0≤Int.tdiv z 2∧Int.tdiv z 2≤15:=by rw [Int.tdiv_eq_ediv_of_nonneg z0];omega
 have wd:wrap64 (Int.tdiv z 2)=Int.tdiv z 2:=by unfold wrap64;omega
 have td:=Q7 d2 2 (by decide)
 have hl:∀ w ∈ loopL x y z kids,UW w:=by
  have hlb:(zax y z kids).length≤5:=by
   unfold zax
   exact Nat.le_trans (by rw [List.length_append];exact Nat.le_refl _) (Nat.add_le_add (Nat.le_refl 2) (QG (n:=3) (by simp) (by simp)))
  have tdk:=Q7 d2 kids k0
  have hB:∀ w ∈ zax y z kids,UW w:=by
   unfold zax
   rw [wd]
   repeat' (first|with_reducible exact all_nil|with_reducible refine all_cons ?_ ?_|with_reducible refine vP ?_ ?_|with_reducible refine Jl ?_ ?_)
   all_goals (first|exact Zr (by unfold inI;omega)|exact Zr (by unfold inI wrap64;omega)|exact Yb (by unfold inW;omega)|exact Yb (by unfold inW wrap64;omega))
  unfold loopL
  generalize (zax y z kids).length=n at hlb ⊢
  rw [show wrap64 ((n:Int)+1)=(n:Int)+1 by unfold wrap64;omega,show wrap64 (-(n:Int))=-(n:Int) by unfold wrap64;omega,show wrap64 (-(n:Int)-1)=-(n:Int)-1 by unfold wrap64;omega]
  repeat' (first|exact hB|with_reducible exact all_nil|with_reducible refine all_cons ?_ ?_|with_reducible refine vP ?_ ?_|with_reducible refine Jl ?_ ?_)
  all_goals (first|exact Zr (by unfold inI;omega)|exact Zr (by unfold inI wrap64;omega)|exact Yb (by unfold inW;omega)|exact Yb (by unfold inW wrap64;omega)|skip)
 have hc:∀ w ∈ Xp x y z kids,UW w:=by
  unfold Xp Xb
  repeat' (first|with_reducible exact all_nil|with_reducible refine all_cons ?_ ?_|with_reducible refine vP ?_ ?_|with_reducible refine Jl ?_ ?_)
  all_goals (first|exact Zr (by unfold inI;omega)|exact Zr (by unfold inI wrap64;omega)|exact Yb (by unfold inW;omega)|exact Yb (by unfold inW wrap64;omega)|skip)
 have hr:∀ n,∀ w ∈ Yj x y n,UW w:=by
  intro n
  induction n with
  | zero=>exact all_nil
  | succ n ih =>
   rw [Yj]
   repeat' (first|exact ih|with_reducible exact all_nil|with_reducible refine all_cons ?_ ?_|with_reducible refine vP ?_ ?_|with_reducible refine Jl ?_ ?_)
   all_goals (first|exact Zr (by unfold inI;omega)|exact Zr (by unfold inI wrap64;omega)|exact Yb (by unfold inW;omega)|exact Yb (by unfold inW wrap64;omega)|skip)
 have hh:∀ w ∈ Zz x y z kids,UW w:=by
  unfold Zz
  repeat' (first|exact hr _|with_reducible exact all_nil|with_reducible refine all_cons ?_ ?_|with_reducible refine vP ?_ ?_|with_reducible refine Jl ?_ ?_)
  all_goals (first|exact Zr (by unfold inI;omega)|exact Zr (by unfold inI wrap64;omega)|exact Yb (by unfold inW;omega)|exact Yb (by unfold inW wrap64;omega)|skip)
 unfold Zc
 rw [wd]
 repeat' (first|exact hl|exact hc|exact hh|with_reducible exact all_nil|with_reducible refine all_cons ?_ ?_|with_reducible refine vP ?_ ?_|with_reducible refine Jl ?_ ?_)
 all_goals (first|exact Zr (by unfold inI;omega)|exact Zr (by unfold inI wrap64;omega)|exact Yb (by unfold inW;omega)|exact Yb (by unfold inW wrap64;omega)|skip)
theorem block_tot {l:List Int} (hb:Bytes l) {p kids ups:Int} {v i:Bool} (hp0:0≤p) (hp:p≤100000000) (hk:0≤kids∧kids≤100) (hu:0≤ups∧ups≤100) :
  Tot (fun k=>zX.f k l p kids ups v i) (fun t=>t.2=p+4∧t.1.length≤40∧∀ x ∈ t.1,UW x):=by
 unfold zX.f
 refine (jQ hb hp0 (by omega) (by decide)).bind fun a ha=>(jQ hb (by omega) (by omega) (by decide)).bind fun x hx=>(jQ hb (by omega) (by omega) (by decide)).bind fun y hy=>(jQ hb (by omega) (by omega) (by decide)).bind fun z hz=>?_
 refine Tot.now (fun k=>if_pos (by unfold inA;omega)) ⟨by show z.2=_;omega,blk_len _ _ _ _ _ _ _ _ (by omega),blk_rng _ _ _ _ _ _ _ _ (by unfold inA;omega)⟩
structure G (q:S56):Prop where
 l3:0<q.f3.length
 l3b:q.f3.length≤500
 l4:q.f4.length≤6
 l5:q.f5.length≤2
 k0:0≤q.f6
 k1:q.f6≤100
 l8:q.f8.length≤500
 l9:q.f9.length≤2
 w:∀ x ∈ q.f3,UW x
 c:∀ v ∈ q.f4,UC v
def tc (L:Int):Int:=if L=2 then 100 else if L=1 then 400 else 2000
def tm (L:Int):Nat:=if L=2 then 1 else if L=1 then 3 else 10
def tk (L:Int):Int:=if L=2 then 0 else if L=1 then 2 else 3
structure TreeR (L p ups:Int) (t:List S56×Int):Prop where
 lo:p≤t.2
 hi:t.2≤p+tc L
 ne:∃ q r,t.1=q::r∧q.f5.length=ups.toNat
 len:t.1.length≤tm L
 good:∀ q ∈ t.1,G q
def zaG (T:JR) (l:List Int) (L:Int):Prop:=∀ p ups,0≤p→p≤1000000-10000*(3-L)→0≤ups→ups≤2→Tot (fun k=>T k l p L ups) (TreeR L p ups)
structure KidsR (L p:Int) (l5:List S71) (t:List S56×Int):Prop where
 lo:p≤t.2
 hi:t.2≤p+tc L-50
 ne:∃ q r,t.1=q::r∧q.f5=l5
 len:t.1.length≤tm L
 good:∀ q ∈ t.1,G q
def zaH (f:Nat→List Int→Int→Int→Int→Bool→Int→List Int→List S67→List S71→Int→ByteArray→List Int→List ByteArray→Option (List S56×Int)) (l:List Int) (L:Int):Prop :=
 ∀ p f0 f1 l3 l4 l5 f6,0≤p→p≤1000000-10000*(3-L)+5000→0<l3.length→l3.length≤500→l4.length≤6→l5.length≤2→(∀ x ∈ l3,UW x)→(∀ v ∈ l4,UC v)→0≤f6→f6≤tk L→Tot (fun k=>f k l p L f0 f1 12 l3 l4 l5 f6 ⟨#[]⟩ [] []) (KidsR L p l5)
theorem setUp_ok {m:Int} {s:List S56} {q:S56} {r:List S56} (h:s=q::r) (h5:0<q.f5.length) (hg:∀ z ∈ s,G z):∃ s',setUp m s=some s'∧s'.length=s.length∧∀ z ∈ s',G z:=by
 subst h
 obtain ⟨a0,a1,a2,a3,a4,a5,a6,a7,a8,a9⟩:=q
 cases a5 with
 | nil=>exact absurd h5 (by simp)
 | cons u us =>
  refine ⟨_,rfl,by simp,fun z hz=>?_⟩
  rcases List.mem_cons.1 hz with rfl|hz
  ·have g:=hg _ (List.mem_cons_self ..)
   exact ⟨g.l3,g.l3b,g.l4,g.l5,g.k0,g.k1,g.l8,g.l9,g.w,g.c⟩
  ·exact hg z (List.mem_cons_of_mem _ hz)
theorem kidsL_tot {T:JR} {l:List Int} (hb:Bytes l) {L:Int} (hL:0≤L∧L≤1) (hT:zaG T l (L+1)) {nu:Nat}:∀ (n i:Nat) (p:Int) (out:List S56),0≤p→p+(n:Int)*(1+tc (L+1))≤1000000-10000*(3-(L+1))→(∀ q ∈ out,G q)→out.length+n*tm (L+1)≤1000 →
  Tot (fun k=>Xv T k l L nu n i p out) (fun t=>p≤t.2∧t.2≤p+(n:Int)*(1+tc (L+1))∧(∃ r,t.1=out++r∧r.length≤n*tm (L+1))∧∀ q ∈ t.1,G q)
 | 0,i,p,out,h0,h1,hg,hl=>Tot.now (a:=(out,p)) (fun k=>rfl) ⟨Int.le_refl _,by simp,⟨[],by simp,by simp⟩,hg⟩
 | n+1,i,p,out,h0,h1,hg,hl=>by
  have htc:0≤tc (L+1):=by unfold tc;split <;> (try split) <;> omega
  have e1:((n+1:Nat):Int)*(1+tc (L+1))=(n:Int)*(1+tc (L+1))+(1+tc (L+1)):=by rw [Int.natCast_add,Int.add_mul];simp
  have e2:(n+1)*tm (L+1)=n*tm (L+1)+tm (L+1):=by rw [Nat.add_mul];simp
  have e3:0≤(n:Int)*(1+tc (L+1)):=Int.mul_nonneg (by omega) (by omega)
  rw [e1] at h1
  rw [e2] at hl
  refine Tot.of_eq (g:=fun k=>(zx.f k l p 3).bind fun t=>(T k l t.2 (L+1) t.1).bind fun s=>(if 0<nu∧0<t.1∧i=0 then setUp ((nu:Int)-1) s.1 else some s.1).bind fun sub=>if 0<sub.length∧out.length+sub.length≤100000 then Xv T k l L nu n (i+1) s.2 (out++sub) else none) ?_ (fun k=>rfl)
  refine (jQ hb h0 (by omega) (by decide)).bind fun t ht=>(hT t.2 t.1 (by omega) (by omega) (by omega) (by omega)).bind fun s hs=>?_
  obtain ⟨q,r,hq,hq5⟩:=hs.ne
  have hsub:∃ sub,(if 0<nu∧0<t.1∧i=0 then setUp ((nu:Int)-1) s.1 else some s.1)=some sub∧sub.length=s.1.length∧∀ z ∈ sub,G z:=by
   by_cases c:0<nu∧0<t.1∧i=0
   ·rw [if_pos c]
    exact setUp_ok hq (by omega) hs.good
   ·rw [if_neg c]
    exact ⟨_,rfl,rfl,hs.good⟩
  obtain ⟨sub,h2,h3,h4⟩:=hsub
  have hsl:0<s.1.length:=by rw [hq];simp
  have hlen:=hs.len
  have ih:=kidsL_tot hb hL hT (nu:=nu) n (i+1) s.2 (out++sub) (by have:=hs.lo;omega) (by have:=hs.hi;omega) (fun z hz=>(List.mem_append.1 hz).elim (hg z) (h4 z)) (by rw [List.length_append];omega)
  refine Tot.of_eq (g:=fun k=>Xv T k l L nu n (i+1) s.2 (out++sub)) (ih.mono fun t' h=>?_) (fun k=>by rw [h2,Option.bind_some,if_pos (by omega)])
  obtain ⟨a1,a2,⟨r',a3,a4⟩,a5⟩:=h
  have:=hs.lo
  have:=hs.hi
  refine ⟨by omega,by rw [e1];omega,⟨sub++r',by rw [a3,List.append_assoc],by rw [List.length_append,e2];omega⟩,a5⟩
theorem zaI {T:JR} {l:List Int} (hb:Bytes l) {L:Int} (hL:L=0∨L=1∨L=2) (hT:L≤1→zaG T l (L+1)):zaH (kidsF T) l L:=by
 intro p f0 f1 l3 l4 l5 f6 hp0 hp1 h3 h3b h4 h5 h3w h4c h60 h61
 have h6:f6≤3:=by unfold tk at h61;split at h61 <;> (try split at h61) <;> omega
 unfold kidsF
 refine Tot.of_eq (g:=fun k=>(zx.f k l p 8).bind fun t=>if 0≤t.1∧t.1≤7 then Xv T k l L l5.length f6.toNat 0 t.2 [(⟨f0,f1,12,l3,l4,l5,f6,if t.1<3 then strOfNums [102]++strOfNums [97+t.1] else ⟨#[]⟩,if t.1=2 then (List.range l3.length).map (fun i:Nat=>(i:Int)*37) else [],if t.1=2 then List.replicate l5.length (strOfNums [117]) else []⟩:S56)] else none) ?_ (fun k=>if_pos (by omega))
 refine (jQ hb hp0 (by omega) (by decide)).bind fun t ht=>?_
 have hg:∀ q ∈ [(⟨f0,f1,12,l3,l4,l5,f6,if t.1<3 then strOfNums [102]++strOfNums [97+t.1] else ⟨#[]⟩,if t.1=2 then (List.range l3.length).map (fun i:Nat=>(i:Int)*37) else [],if t.1=2 then List.replicate l5.length (strOfNums [117]) else []⟩:S56)],G q:=by
  intro q hq
  obtain rfl:=List.mem_singleton.1 hq
  refine ⟨h3,h3b,h4,h5,h60,by show f6≤100;omega,?_,?_,h3w,h4c⟩
  ·exact QG (by simpa using h3b) (by simp)
  ·exact QG (by simpa using h5) (by simp)
 generalize hx:(⟨f0,f1,12,l3,l4,l5,f6,if t.1<3 then strOfNums [102]++strOfNums [97+t.1] else ⟨#[]⟩,if t.1=2 then (List.range l3.length).map (fun i:Nat=>(i:Int)*37) else [],if t.1=2 then List.replicate l5.length (strOfNums [117]) else []⟩:S56)=x at hg ⊢
 have hx5:x.f5=l5:=by rw [← hx]
 refine Tot.of_eq (g:=fun k=>Xv T k l L l5.length f6.toNat 0 t.2 [x]) ?_ (fun k=>if_pos (by omega))
 by_cases h2:L=2
 ·subst h2
  have e0:f6.toNat=0:=by have:f6≤0:=h61;omega
  rw [e0]
  refine Tot.now (a:=([x],t.2)) (fun k=>rfl) ⟨by show p≤t.2;omega,by show t.2≤p+100-50;omega,⟨x,[],rfl,hx5⟩,Nat.le_refl _,hg⟩
 ·have hL1:L≤1:=by omega
  have hn:∃ n:Nat,f6.toNat=n∧(n:Int)≤tk L:=⟨f6.toNat,rfl,by omega⟩
  obtain ⟨n,en,hn⟩:=hn
  rw [en]
  have hB:(n:Int)*(1+tc (L+1))≤tc L-60∧n*tm (L+1)+1≤tm L∧0≤(n:Int)*(1+tc (L+1)):=by
   rcases hL with rfl|rfl|rfl
   ·have:(n:Int)≤3:=hn
    show (n:Int)*(1+400)≤2000-60∧n*3+1≤10∧0≤(n:Int)*(1+400)
    omega
   ·have:(n:Int)≤2:=hn
    show (n:Int)*(1+100)≤400-60∧n*1+1≤3∧0≤(n:Int)*(1+100)
    omega
   ·omega
  have hm:tm L≤10:=by unfold tm;split <;> (try split) <;> omega
  have htL:tc L≤2000:=by unfold tc;split <;> (try split) <;> omega
  refine (kidsL_tot hb (by omega) (hT hL1) (nu:=l5.length) n 0 t.2 [x] (by omega) (by omega) hg (by simp;omega)).mono fun s hs=>?_
  obtain ⟨a1,a2,⟨r,a3,a4⟩,a5⟩:=hs
  exact ⟨by omega,by omega,⟨x,r,by rw [a3];rfl,hx5⟩,by rw [a3,List.length_append];show 1+r.length≤_;omega,a5⟩
section
variable [K:Inhabited QM]
def TR (L p:Int) (n5:Nat) (e:Int) (t:List S56×Int):Prop:=p≤t.2∧t.2≤p+e+tc L-50∧(∃ q r,t.1=q::r∧q.f5.length=n5)∧t.1.length≤tm L∧∀ q ∈ t.1,G q
theorem l3_tot {l:List Int} (hb:Bytes l) {L:Int} (HK:zaH qM.f l L) {f0:Int} {f1:Bool} {l3:List Int} {l4:List S67} {f6 ups:Int} (h3:0<l3.length) (h3b:l3.length≤500) (h3w:∀ x ∈ l3,UW x) (h4:l4.length≤6) (h4c:∀ v ∈ l4,UC v) (h6:0≤f6∧f6≤tk L) :
  ∀ (n:Nat) (i p:Int) (us:List S71),i+(n:Int)=ups→0≤i→ups≤2→us.length+n≤2→0≤p→p+(n:Int)≤1000000-10000*(3-L)+5000→0≤L∧L≤2→Tot (fun k=>zl.l3 k l p L ups i f0 f1 12 l3 l4 us f6 ⟨#[]⟩) (TR L p (us.length+n) n)
 | 0,i,p,us,hi,h0,hu,hl,hp0,hp1,hL=>by
  refine Tot.succ (Tot.of_eq (g:=fun k=>(qM.f k l p L f0 f1 12 l3 l4 us f6 ⟨#[]⟩ [] []).bind fun bt=>some (bt.1,bt.2)) ?_ (fun k=>by rw [zl.l3,if_neg (by omega)]))
  refine (HK p f0 f1 l3 l4 us f6 hp0 (by omega) h3 h3b h4 (by omega) h3w h4c h6.1 h6.2).bind fun t ht=>Tot.now (fun k=>rfl) ?_
  obtain ⟨q,r,e1,e2⟩:=ht.ne
  exact ⟨ht.lo,by have:=ht.hi;show t.2≤p+(0:Nat)+tc L-50;omega,⟨q,r,e1,by rw [e2];rfl⟩,ht.len,ht.good⟩
 | n+1,i,p,us,hi,h0,hu,hl,hp0,hp1,hL=>by
  have w:wrap64 (i+1)=i+1:=xw (by omega) (by omega)
  refine Tot.succ (Tot.of_eq (g:=fun k=>(zx.f k l p 4).bind fun bt=>if us.length<8796093022208 then zl.l3 k l bt.2 L ups (wrap64 (i+1)) f0 f1 12 l3 l4 (us++[(⟨true,bt.1⟩:S71)]) f6 ⟨#[]⟩ else none) ?_ (fun k=>by rw [zl.l3,if_pos (by omega)]))
  refine (jQ hb hp0 (by omega) (by decide)).bind fun t ht=>?_
  rw [w]
  have ih:=l3_tot hb HK h3 h3b h3w h4 h4c h6 (f0:=f0) (f1:=f1) (ups:=ups) n (i+1) t.2 (us++[(⟨true,t.1⟩:S71)]) (by omega) (by omega) hu (by rw [List.length_append];show us.length+1+n≤2;omega) (by omega) (by omega) hL
  refine (Tot.of_eq ih (fun k=>if_pos (by omega))).mono fun s hs=>?_
  obtain ⟨a1,a2,⟨q,r,e1,e2⟩,a4,a5⟩:=hs
  exact ⟨by omega,by omega,⟨q,r,e1,by rw [e2,List.length_append];show us.length+1+n=_;omega⟩,a4,a5⟩
theorem TR.up {L p p' e e':Int} {n5:Nat} {t:List S56×Int} (h:TR L p' n5 e' t) (h1:p≤p') (h2:p'+e'≤p+e):TR L p n5 e t:=⟨by have:=h.1;omega,by have:=h.2.1;omega,h.2.2⟩
section
variable {l:List Int} (hb:Bytes l) {L:Int} (HK:zaH qM.f l L) (hL:0≤L∧L≤2) {f0:Int} {f1:Bool} {l4:List S67} {f6 ups:Int} (h4:l4.length≤6) (h4c:∀ v ∈ l4,UC v) (h6:0≤f6∧f6≤tk L) (hu:0≤ups∧ups≤2)
include hb HK hL h4 h4c h6 hu
theorem j6_tot {p:Int} {c:List Int} (h3:0<c.length) (h3b:c.length≤500) (h3w:∀ x ∈ c,UW x) (hp0:0≤p) (hp1:p≤1000000-10000*(3-L)+4000):Tot (fun k=>zl.j6 k l p L ups f0 f1 12 c l4 f6 ⟨#[]⟩) (TR L p ups.toNat ups):=by
 refine Tot.succ (Tot.of_eq ((l3_tot hb HK h3 h3b h3w h4 h4c h6 (f0:=f0) (f1:=f1) (ups:=ups) ups.toNat 0 p [] (by omega) (by omega) hu.2 (by show 0+_≤2;omega) hp0 (by omega) hL).mono fun t ht=>?_) (fun k=>by rw [zl.j6]))
 rw [show ([]:List S71).length+ups.toNat=ups.toNat by simp,show ((ups.toNat:Nat):Int)=ups by omega] at ht
 exact ht
theorem j5_tot {p a:Int} {v:Bool} {c:List Int} (ha:0≤a∧a≤5) (h3b:c.length≤490) (h3w:∀ x ∈ c,UW x) (hp0:0≤p) (hp1:p≤1000000-10000*(3-L)+4000):Tot (fun k=>zl.j5 k l p L ups a v f0 f1 12 c l4 f6 ⟨#[]⟩) (TR L p ups.toNat ups):=by
 have hw:wrap64 (1+a)=1+a:=xw (by omega) (by omega)
 refine Tot.succ ?_
 cases v
 ·refine Tot.of_eq (j6_tot hb HK hL h4 h4c h6 hu (f0:=f0) (f1:=f1) (c:=c++[wI 23 0 (1+a) 0]) (by simp) (by simp;omega) (vP h3w (all_cons (Zr (by unfold inI;omega)) all_nil)) hp0 hp1) (fun k=>?_)
  rw [zl.j5,if_neg (by decide),hw,show qZ.f 23 0 (1+a) 0=some (wI 23 0 (1+a) 0) from if_pos (by unfold inI;omega),Option.bind_some,if_pos (by omega)]
 ·refine Tot.of_eq (j6_tot hb HK hL h4 h4c h6 hu (f0:=f0) (f1:=f1) (c:=c++[wI 24 2 511 0,wI 23 0 511 0]) (by simp) (by simp;omega) (vP h3w (all_cons (Zr (by unfold inI;omega)) (all_cons (Zr (by unfold inI;omega)) all_nil))) hp0 hp1) (fun k=>?_)
  rw [zl.j5,if_pos rfl,show qZ.f 24 2 511 0=some (wI 24 2 511 0) from if_pos (by unfold inI;omega),Option.bind_some,show qZ.f 23 0 511 0=some (wI 23 0 511 0) from if_pos (by unfold inI;omega),Option.bind_some,Option.bind_some,if_pos (by show c.length+2<_;omega)]
theorem l2_tot {p kids n x16:Int} {x17:List Int} {Q:List S56×Int→Prop}:∀ (m i:Nat) (c:List Int),i+m=x17.length→c.length+m≤100000→x17.length≤40→Tot (fun k=>zl.l1 k l p L ups kids n (wrap64 (x16+1)) f0 f1 12 (c++x17.drop i) l4 f6 ⟨#[]⟩) Q→Tot (fun k=>zl.l2 k l p L ups kids n x16 x17 (i:Int) f0 f1 12 c l4 f6 ⟨#[]⟩) Q
 | 0,i,c,hi,hc,hx,h=>by
  refine Tot.succ (Tot.of_eq h (fun k=>?_))
  rw [zl.l2,if_neg (by omega),List.drop_of_length_le (by omega),List.append_nil]
 | m+1,i,c,hi,hc,hx,h=>by
  have w:wrap64 ((i:Int)+1)=((i+1:Nat):Int):=jJ (by omega)
  have hd:x17.drop i=rd x17 (i:Int)::x17.drop (i+1):=by
   rw [List.drop_eq_getElem_cons (by omega)]
   congr 1
   simp [rd,List.getD,show i<x17.length by omega]
  refine Tot.succ (Tot.of_eq (l2_tot m (i+1) (c++[rd x17 (i:Int)]) (by omega) (by rw [List.length_append];show c.length+1+m≤_;omega) hx (by rw [List.append_assoc];rw [hd] at h;exact h)) (fun k=>?_))
  rw [zl.l2,if_pos (by omega),if_pos (by omega),if_pos (by omega),w]
theorem l1_tot {kids n:Int} (hk:0≤kids∧kids≤100) (hn:n≤7):∀ (m:Nat) (x16 p:Int) (c:List Int),x16+(m:Int)=n→0≤x16→c.length+40*m≤490→(∀ x ∈ c,UW x)→0≤p→p+4*(m:Int)≤1000000-10000*(3-L)+3000→Tot (fun k=>zl.l1 k l p L ups kids n x16 f0 f1 12 c l4 f6 ⟨#[]⟩) (TR L p ups.toNat (4*(m:Int)+1+ups))
 | 0,x16,p,c,hx,h0,hc,hcw,hp0,hp1=>by
  refine Tot.succ (Tot.of_eq (g:=fun k=>(zx.f k l p 6).bind fun bt=>if bt.1=0 then zl.j5 k l bt.2 L ups bt.1 f1 f0 f1 12 c l4 f6 ⟨#[]⟩ else zl.j5 k l bt.2 L ups bt.1 false f0 f1 12 c l4 f6 ⟨#[]⟩) ?_ (fun k=>by rw [zl.l1,if_neg (by omega)]))
  refine (jQ hb hp0 (by omega) (by decide)).bind fun t ht=>?_
  by_cases e:t.1=0
  ·exact (Tot.of_eq (j5_tot hb HK hL h4 h4c h6 hu (f0:=f0) (f1:=f1) (p:=t.2) (a:=t.1) (v:=f1) (c:=c) (by omega) (by omega) hcw (by omega) (by omega)) (fun k=>if_pos e)).mono fun s hs=>hs.up (by omega) (by simp;omega)
  ·exact (Tot.of_eq (j5_tot hb HK hL h4 h4c h6 hu (f0:=f0) (f1:=f1) (p:=t.2) (a:=t.1) (v:=false) (c:=c) (by omega) (by omega) hcw (by omega) (by omega)) (fun k=>if_neg e)).mono fun s hs=>hs.up (by omega) (by simp;omega)
 | m+1,x16,p,c,hx,h0,hc,hcw,hp0,hp1=>by
  have w:wrap64 (x16+1)=x16+1:=xw (by omega) (by omega)
  refine Tot.succ (Tot.of_eq (g:=fun k=>(zX.f k l p kids ups f1 (decide (L > 0))).bind fun bt=>zl.l2 k l bt.2 L ups kids n x16 bt.1 0 f0 f1 12 c l4 f6 ⟨#[]⟩) ?_ (fun k=>by rw [zl.l1,if_pos (by omega)]))
  refine (block_tot hb hp0 (by omega) hk (by omega)).bind fun t ht=>?_
  refine l2_tot hb HK hL h4 h4c h6 hu t.1.length 0 c (by omega) (by omega) ht.2.1 ?_
  rw [w,List.drop_zero]
  exact (l1_tot hk hn m (x16+1) t.2 (c++t.1) (by omega) (by omega) (by rw [List.length_append];have:=ht.2.1;omega) (vP hcw ht.2.2) (by omega) (by omega)).mono fun s hs=>hs.up (by omega) (by rw [ht.1];omega)
end
end
section
variable [K:Inhabited QM] {l:List Int} (hb:Bytes l) {L:Int} (HK:zaH qM.f l L) (hL:0≤L∧L≤2) {f0:Int} {f1:Bool} {l4:List S67} {f6 ups:Int} (h4:l4.length≤6) (h4c:∀ v ∈ l4,UC v) (h6:0≤f6∧f6≤tk L) (hu:0≤ups∧ups≤2)
include hb HK hL h4 h4c h6 hu
theorem l0_tot {kids n a p:Int} (hk:0≤kids∧kids≤100) (hn:0≤n∧n≤7) (ha:0≤a∧a≤11) (hp0:0≤p) (hp1:p≤1000000-10000*(3-L)+2000):∀ (m:Nat) (x15:Int) (c:List Int),x15+(m:Int)=4→0≤x15→c.length+m≤100→(∀ x ∈ c,UW x)→Tot (fun k=>zl.l0 k l p L ups kids n a x15 f0 f1 12 c l4 f6 ⟨#[]⟩) (TR L p ups.toNat (4*n+1+ups))
 | 0,x15,c,hx,h0,hc,hcw=>by
  obtain ⟨nn,rfl⟩:∃ nn:Nat,n=(nn:Int):=⟨n.toNat,by omega⟩
  refine Tot.succ (Tot.of_eq (l1_tot hb HK hL h4 h4c h6 hu (f0:=f0) (f1:=f1) (kids:=kids) (n:=(nn:Int)) hk (by omega) nn 0 p (c++[wI 6 4 0 0,wW 1 5 4]) (by omega) (by omega) (by rw [List.length_append];show c.length+2+40*nn≤490;omega) (vP hcw (all_cons (Zr (by unfold inI;omega)) (all_cons (Yb (by unfold inW;omega)) all_nil))) hp0 (by omega)) (fun k=>?_))
  rw [zl.l0,if_neg (by omega),show qZ.f 6 4 0 0=some (wI 6 4 0 0) from if_pos (by unfold inI;omega),Option.bind_some,show Zh.f 1 5 4=some (wW 1 5 4) from if_pos (by unfold inW;omega),Option.bind_some,Option.bind_some,if_pos (by show c.length+2<_;omega)]
 | m+1,x15,c,hx,h0,hc,hcw=>by
  have w:wrap64 (x15+1)=x15+1:=xw (by omega) (by omega)
  have w2:wrap64 (a+x15)=a+x15:=xw (by omega) (by omega)
  have e:Int.tmod (a+x15) 4=(a+x15) % 4:=Int.tmod_eq_emod_of_nonneg (by omega)
  refine Tot.succ (Tot.of_eq (l0_tot hk hn ha hp0 hp1 m (x15+1) (c++[wW 1 x15 ((a+x15) % 4)]) (by omega) (by omega) (by rw [List.length_append];show c.length+1+m≤_;omega) (vP hcw (all_cons (Yb (by unfold inW;omega)) all_nil))) (fun k=>?_))
  rw [zl.l0,if_pos (by omega),w2,e,show Zh.f 1 x15 ((a+x15) % 4)=some (wW 1 x15 ((a+x15) % 4)) from if_pos (by unfold inW;omega),Option.bind_some,if_pos (by omega),w]
end
section
variable [K:Inhabited QM] {l:List Int} (hb:Bytes l) {L:Int} (HK:zaH qM.f l L) (hL:0≤L∧L≤2) {ups:Int} (hu:0≤ups∧ups≤2)
include hb HK hL hu
theorem j1_tot {kids p:Int} (hk:0≤kids∧kids≤tk L) (hp0:0≤p) (hp1:p≤1000000-10000*(3-L)+1000):Tot (fun k=>zl.j1 k l p L ups kids) (TR L p ups.toNat (31+ups)):=by
 obtain ⟨n,hn,n0,n7⟩:=count_tot hb
 have htk:tk L≤3:=by unfold tk;split <;> (try split) <;> omega
 refine Tot.succ (Tot.of_eq (g:=fun k=>(zx.f k l p 12).bind fun bt139=>(zx.f k l bt139.2 6).bind fun bt141=>zl.l0 k l bt141.2 L ups kids n bt139.1 (Int.tmod bt139.1 4) (Int.tmod bt139.1 4) (decide (bt141.1<3)) 12 ([]:List Int) (([(⟨2,bt139.1,(⟨#[]⟩:ByteArray)⟩:S67),(⟨2,wrap64 (bt141.1-2),(⟨#[]⟩:ByteArray)⟩:S67),(⟨2,wrap64 (bt141.1+1),(⟨#[]⟩:ByteArray)⟩:S67),(⟨2,1,(⟨#[]⟩:ByteArray)⟩:S67),(⟨3,0,(⟨#[115]⟩:ByteArray)⟩:S67),(⟨1,1,(⟨#[]⟩:ByteArray)⟩:S67)]:List (S67))) kids (⟨#[]⟩:ByteArray)) ?_ (fun k=>by rw [zl.j1,hn,Option.bind_some]))
 refine (jQ hb hp0 (by omega) (by decide)).bind fun a ha=>(jQ hb (by omega) (by omega) (by decide)).bind fun b hb2=>?_
 have e:Int.tmod a.1 4=a.1 % 4:=Int.tmod_eq_emod_of_nonneg ha.2.1
 rw [e]
 refine (l0_tot hb HK hL (f0:=a.1 % 4) (f1:=decide (b.1<3)) (by simp) (all_cons (by unfold UC;dsimp only;omega) (all_cons (by unfold UC wrap64;dsimp only;omega) (all_cons (by unfold UC wrap64;dsimp only;omega) (all_cons (by unfold UC;dsimp only;omega) (all_cons (by unfold UC;dsimp only;omega) (all_cons (by unfold UC;dsimp only;omega) all_nil)))))) hk hu (kids:=kids) (n:=n) (a:=a.1) (p:=b.2) (by omega) (by omega) (by omega) (by omega) (by omega) (4-a.1 % 4).toNat (a.1 % 4) [] (by omega) (by omega) (by show 0+_≤100;omega) all_nil).mono fun s hs=>hs.up (by omega) (by omega)
theorem tree_tot (p:Int) (hp0:0≤p) (hp1:p≤1000000-10000*(3-L)):Tot (fun k=>zl.f k l p L ups) (TreeR L p ups):=by
 have j0:∀ kids q:Int,(0≤kids∧(L≤1→kids≤tk L))→0≤q→q≤1000000-10000*(3-L)+1000→Tot (fun k=>zl.j0 k l q L ups kids) (TR L q ups.toNat (31+ups)):=by
  intro kids q hk hq0 hq1
  refine Tot.succ ?_
  by_cases c:L > 1
  ·refine Tot.of_eq (j1_tot hb HK hL hu (kids:=0) ⟨Int.le_refl _,by unfold tk;split <;> (try split) <;> omega⟩ hq0 hq1) (fun k=>by rw [zl.j0,if_pos c])
  ·refine Tot.of_eq (j1_tot hb HK hL hu (kids:=kids) ⟨hk.1,hk.2 (by omega)⟩ hq0 hq1) (fun k=>by rw [zl.j0,if_neg c])
 have fin:∀ t:Int×Int,t.2=p+1→∀ s,TR L t.2 ups.toNat (31+ups) s→TreeR L p ups s:=fun t ht s hs=>⟨by have:=hs.1;omega,by have:=hs.2.1;omega,hs.2.2.1,hs.2.2.2.1,hs.2.2.2.2⟩
 unfold zl.f
 refine (jQ hb hp0 (by omega) (by decide)).bind fun t ht=>?_
 by_cases c:L=0
 ·have w:wrap64 (t.1+1)=t.1+1:=xw (by omega) (by omega)
  exact (Tot.of_eq (j0 (t.1+1) t.2 ⟨by omega,fun _=>by subst c;show t.1+1≤3;omega⟩ (by omega) (by omega)) (fun k=>by rw [if_pos c,w])).mono (fin t ht.1)
 ·have hk:L≤1→t.1≤tk L:=by
   intro h
   have e:L=1:=by omega
   subst e
   show t.1≤2
   omega
  exact (Tot.of_eq (j0 t.1 t.2 ⟨by omega,hk⟩ (by omega) (by omega)) (fun k=>by rw [if_neg c])).mono (fin t ht.1)
end
theorem levels {l:List Int} (hb:Bytes l):zaG (@zl.f ⟨kidsN 3⟩) l 0:=by
 have t2:zaG (@zl.f ⟨kidsN 1⟩) l 2:=fun p ups h0 h1 h2 h3=>@tree_tot ⟨kidsN 1⟩ l hb 2 (zaI hb (.inr (.inr rfl)) (fun h=>absurd h (by decide))) ⟨by decide,by decide⟩ ups ⟨h2,h3⟩ p h0 h1
 have t1:zaG (@zl.f ⟨kidsN 2⟩) l 1:=fun p ups h0 h1 h2 h3=>@tree_tot ⟨kidsN 2⟩ l hb 1 (zaI hb (.inr (.inl rfl)) (fun _=>t2)) ⟨by decide,by decide⟩ ups ⟨h2,h3⟩ p h0 h1
 exact fun p ups h0 h1 h2 h3=>@tree_tot ⟨kidsN 3⟩ l hb 0 (zaI hb (.inl rfl) (fun _=>t1)) ⟨by decide,by decide⟩ ups ⟨h2,h3⟩ p h0 h1
theorem chunk_tot {l:List Int} (hb:Bytes l) {p:Int} (hp0:0≤p) (hp1:p≤1000):Tot (fun k=>ql.f k l p) (TreeR 0 p 0):=by
 unfold ql.f
 exact (levels hb p 0 hp0 (by omega) (by decide) (by decide)).bind fun t ht=>Tot.now (fun k=>rfl) ht
theorem copyL {c:List S56} (hc:c.length≤100000):∀ (m i:Nat),i+m=c.length→Tot (fun k=>yG.l0 k (i:Int) c (c.take i)) (fun r=>r=c)
 | 0,i,hi=>by
  refine Tot.succ (Tot.now (fun k=>?_) rfl)
  rw [yG.l0,if_neg (by omega),List.take_of_length_le (by omega)]
 | m+1,i,hi=>by
  have w:wrap64 ((i:Int)+1)=((i+1:Nat):Int):=jJ (by omega)
  have ht:c.take i++[(⟨(zu c (i:Int)).f0,(zu c (i:Int)).f1,(zu c (i:Int)).f2,(zu c (i:Int)).f3,(zu c (i:Int)).f4,(zu c (i:Int)).f5,(zu c (i:Int)).f6,(zu c (i:Int)).f7,(zu c (i:Int)).f8,(zu c (i:Int)).f9⟩:S56)]=c.take (i+1):=by
   rw [List.take_add_one,List.getElem?_eq_getElem (by omega)]
   have e:zu c (i:Int)=c[i]:=by simp [zu,List.getD,show i<c.length by omega]
   rw [e]
   rfl
  refine Tot.succ (Tot.of_eq (copyL hc m (i+1) (by omega)) (fun k=>?_))
  rw [yG.l0,if_pos (by omega),if_pos (by omega),if_pos (by rw [List.length_take];omega),w,ht]
theorem copy_tot {c:List S56} (hc:c.length≤100000):Tot (fun k=>yG.f k c) (fun r=>r=c):=by
 have h:=copyL hc c.length 0 (by omega)
 rw [List.take_zero] at h
 exact h
structure Fit (x:S56):Prop where
 l3:x.f3.length≤1048576
 l4:x.f4.length≤1048576
 l5:x.f5.length≤1048576
 l8:x.f8.length≤1048576
 l9:x.f9.length≤1048576
structure Well (r:List S56):Prop where
 len:r.length≤1000
 fit:∀ q ∈ r,Fit q
 kid:∀ q ∈ r,q.f6≤9223372036854775807
theorem wrap_le (n:Int):wrap64 n≤9223372036854775807:=by unfold wrap64;omega
theorem G.fit {q:S56} (h:G q):Fit q:=⟨by have:=h.l3b;omega,by have:=h.l4;omega,by have:=h.l5;omega,by have:=h.l8;omega,by have:=h.l9;omega⟩
theorem leaf_fit (n:Int):Fit (ku n):=⟨by show 1≤_;omega,by show 0≤_;omega,by show 0≤_;omega,by show 0≤_;omega,by show 0≤_;omega⟩
theorem Zt {α:Type} {P:α→Prop} {c:Prop} [Decidable c] {a b:α} (ha:P a) (hb:P b):P (if c then a else b):=by
 by_cases h:c
 ·rw [if_pos h];exact ha
 ·rw [if_neg h];exact hb
theorem spQ_fit {q:S56} (h:G q) {a x:Int} (hx:0≤x∧x≤1):Fit (spQ a x q)∧(spQ a x q).f6≤9223372036854775807:=by
 have f:=h.fit
 have k1:=h.k1
 have b3:=h.l3b
 have b4:=h.l4
 have b5:=h.l5
 have b8:=h.l8
 have b9:=h.l9
 unfold spQ
 refine Zt (P:=fun z:S56=>Fit z∧z.f6≤9223372036854775807) ?_ ?_
 ·exact ⟨⟨f.l3,f.l4,f.l5,f.l8,f.l9⟩,by show q.f6≤_;omega⟩
 refine Zt (P:=fun z:S56=>Fit z∧z.f6≤9223372036854775807) ?_ ?_
 ·exact ⟨⟨f.l3,f.l4,f.l5,f.l8,f.l9⟩,by show q.f6≤_;omega⟩
 refine Zt (P:=fun z:S56=>Fit z∧z.f6≤9223372036854775807) ?_ ?_
 ·exact ⟨⟨f.l3,f.l4,f.l5,f.l8,f.l9⟩,wrap_le _⟩
 refine Zt (P:=fun z:S56=>Fit z∧z.f6≤9223372036854775807) ?_ ?_
 ·exact ⟨⟨by simp,f.l4,f.l5,f.l8,f.l9⟩,by show q.f6≤_;omega⟩
 refine Zt (P:=fun z:S56=>Fit z∧z.f6≤9223372036854775807) ?_ ?_
 ·exact ⟨⟨by simp only [List.length_replicate];omega,f.l4,f.l5,by simp,f.l9⟩,by show q.f6≤_;omega⟩
 refine Zt (P:=fun z:S56=>Fit z∧z.f6≤9223372036854775807) ?_ ?_
 ·exact ⟨⟨f.l3,by simp only [List.length_append,List.length_singleton];omega,f.l5,f.l8,f.l9⟩,by show q.f6≤_;omega⟩
 refine Zt (P:=fun z:S56=>Fit z∧z.f6≤9223372036854775807) ?_ ?_
 ·exact ⟨⟨f.l3,by simp only [List.length_append,List.length_singleton];omega,f.l5,f.l8,f.l9⟩,by show q.f6≤_;omega⟩
 refine Zt (P:=fun z:S56=>Fit z∧z.f6≤9223372036854775807) ?_ ?_
 ·exact ⟨⟨f.l3,by simp only [List.length_append,List.length_singleton];omega,f.l5,f.l8,f.l9⟩,by show q.f6≤_;omega⟩
 refine Zt (P:=fun z:S56=>Fit z∧z.f6≤9223372036854775807) ?_ ?_
 ·exact ⟨⟨f.l3,by simp only [List.length_replicate];omega,f.l5,f.l8,f.l9⟩,by show q.f6≤_;omega⟩
 refine Zt (P:=fun z:S56=>Fit z∧z.f6≤9223372036854775807) ?_ ?_
 ·exact ⟨⟨f.l3,f.l4,by simp only [List.length_replicate];omega,f.l8,by simp⟩,by show q.f6≤_;omega⟩
 refine Zt (P:=fun z:S56=>Fit z∧z.f6≤9223372036854775807) ?_ ?_
 ·exact ⟨⟨f.l3,f.l4,by simp only [List.length_append,List.length_singleton];omega,f.l8,by simp⟩,by show q.f6≤_;omega⟩
 refine Zt (P:=fun z:S56=>Fit z∧z.f6≤9223372036854775807) ?_ ?_
 ·exact ⟨⟨f.l3,f.l4,f.l5,f.l8,f.l9⟩,by show q.f6≤_;omega⟩
 refine Zt (P:=fun z:S56=>Fit z∧z.f6≤9223372036854775807) ?_ ?_
 ·exact ⟨⟨f.l3,f.l4,f.l5,by simp only [List.length_append,List.length_singleton];omega,f.l9⟩,by show q.f6≤_;omega⟩
 refine Zt (P:=fun z:S56=>Fit z∧z.f6≤9223372036854775807) ?_ ?_
 ·exact ⟨⟨f.l3,f.l4,f.l5,by simp only [List.length_set,List.length_replicate];omega,f.l9⟩,by show q.f6≤_;omega⟩
 refine Zt (P:=fun z:S56=>Fit z∧z.f6≤9223372036854775807) ?_ ?_
 ·exact ⟨⟨f.l3,f.l4,f.l5,f.l8,by simp only [List.length_append,List.length_singleton];omega⟩,by show q.f6≤_;omega⟩
 refine Zt (P:=fun z:S56=>Fit z∧z.f6≤9223372036854775807) ?_ ?_
 ·exact ⟨⟨f.l3,by simp only [List.length_append,List.length_singleton];omega,f.l5,f.l8,f.l9⟩,by show q.f6≤_;omega⟩
 ·exact ⟨f,by omega⟩
theorem all_well {a b x:Int} {c:List S56} (hc:c.length≤10) (hg:∀ q ∈ c,G q) (hb:0≤b∧b<(c.length:Int)) (hx:0≤x∧x≤1):Well (jg a b x c):=by
 have hkg:∀ q,G q→q.f6≤9223372036854775807:=fun q h=>by have:=h.k1;omega
 unfold jg
 split
 ·have hm:zu c b ∈ c:=by
   have:b.toNat<c.length:=by omega
   rw [show zu c b=c[b.toNat] by simp [zu,List.getD,this]]
   exact List.getElem_mem this
  have hq:=spQ_fit (hg _ hm) (a:=a) hx
  refine ⟨by rw [List.length_set];omega,fun q h=>?_,fun q h=>?_⟩
  ·rcases List.mem_or_eq_of_mem_set h with h|rfl
   ·exact (hg q h).fit
   ·exact hq.1
  ·rcases List.mem_or_eq_of_mem_set h with h|rfl
   ·exact hkg q (hg q h)
   ·exact hq.2
 split
 ·exact ⟨by simp,fun q h=>absurd h (by simp),fun q h=>absurd h (by simp)⟩
 have lf:∀ (n:Int),n≤1000→Fit (ku n)∧(ku n).f6≤9223372036854775807:=fun n hn=>⟨leaf_fit n,by show n≤_;omega⟩
 split
 ·have hm:∀ q ∈ List.replicate (63+x).toNat (ku 1)++[ku 0],Fit q∧q.f6≤9223372036854775807:=fun q h=>by
   rcases List.mem_append.1 h with h|h
   ·rw [(List.mem_replicate.1 h).2];exact lf 1 (by decide)
   ·rw [List.mem_singleton.1 h];exact lf 0 (by decide)
  exact ⟨by simp;omega,fun q h=>(hm q h).1,fun q h=>(hm q h).2⟩
 split
 ·have hm:∀ q ∈ ku (199+x)::List.replicate (199+x).toNat (ku 0),Fit q∧q.f6≤9223372036854775807:=fun q h=>by
   rcases List.mem_cons.1 h with rfl|h
   ·exact lf _ (by omega)
   ·rw [(List.mem_replicate.1 h).2];exact lf 0 (by decide)
  exact ⟨by simp;omega,fun q h=>(hm q h).1,fun q h=>(hm q h).2⟩
 ·have hm:∀ q ∈ c++[ku 0],Fit q∧q.f6≤9223372036854775807:=fun q h=>by
   rcases List.mem_append.1 h with h|h
   ·exact ⟨(hg q h).fit,hkg q (hg q h)⟩
   ·rw [List.mem_singleton.1 h];exact lf 0 (by decide)
  exact ⟨by simp;omega,fun q h=>(hm q h).1,fun q h=>(hm q h).2⟩
def Rng (q:S56):Prop:=(∀ x ∈ q.f3,UW x)∧∀ v ∈ q.f4,UC v
theorem G.rng {q:S56} (h:G q):Rng q:=⟨h.w,h.c⟩
theorem rep_all {α:Type} {P:α→Prop} {a:α} {n:Nat} (h:P a):∀ x ∈ List.replicate n a,P x:=fun x hx=>(List.mem_replicate.1 hx).2 ▸ h
theorem Q8 (n:Int):Rng (ku n):=⟨all_cons (Zr (by unfold inI;omega)) all_nil,all_nil⟩
theorem spQ_rng {q:S56} (h:G q) {a x:Int} (hx:0≤x∧x≤1):Rng (spQ a x q):=by
 have w:=h.w
 have c:=h.c
 unfold spQ
 repeat' (first|refine Zt (P:=Rng) ?_ ?_)
 all_goals (first|exact ⟨w,c⟩|exact ⟨all_nil,c⟩|exact ⟨rep_all (show UW 0 by unfold UW;omega),c⟩|exact ⟨w,rep_all (show UC _ by unfold UC;dsimp only;omega)⟩|exact ⟨w,vP (all_cons (by unfold UC;dsimp only;omega) all_nil) c⟩|exact ⟨w,vP (all_cons (by unfold UC wrap64;dsimp only;omega) all_nil) c⟩|exact ⟨w,all_cons (by unfold UC;dsimp only;omega) c⟩|exact ⟨w,all_cons (by unfold UC wrap64;dsimp only;omega) c⟩)
theorem all_rng {a b x:Int} {c:List S56} (hg:∀ q ∈ c,G q) (hb:0≤b∧b<(c.length:Int)) (hx:0≤x∧x≤1):∀ q ∈ jg a b x c,Rng q:=by
 have hm:zu c b ∈ c:=by
  have:b.toNat<c.length:=by omega
  rw [show zu c b=c[b.toNat] by simp [zu,List.getD,this]]
  exact List.getElem_mem this
 have hc:∀ q ∈ c,Rng q:=fun q h=>(hg q h).rng
 unfold jg
 split
 ·intro q h
  rcases List.mem_or_eq_of_mem_set h with h|rfl
  ·exact hc q h
  ·exact spQ_rng (hg _ hm) hx
 split
 ·exact all_nil
 split
 ·exact vP (rep_all (Q8 1)) (all_cons (Q8 0) all_nil)
 split
 ·exact all_cons (Q8 _) (rep_all (Q8 0))
 ·exact vP hc (all_cons (Q8 0) all_nil)
theorem spoil_rng {l:List Int} (hbs:Bytes l) {p:Int} (hp0:0≤p) (hp1:p≤100000) {c:List S56} (hc0:0<c.length) (hc:c.length≤10) (hg:∀ q ∈ c,G q):Tot (fun k=>yE.f k l p c) (fun t=>Well t∧∀ q ∈ t,Rng q):=by
 unfold yE.f
 refine (jQ hbs hp0 (by omega) (by decide)).bind fun a ha=>(jQ hbs (by omega) (by omega) (by omega)).bind fun b hb=>(jQ hbs (by omega) (by omega) (by decide)).bind fun x hx=>(copy_tot (by omega)).bind fun c' hc'=>?_
 subst hc'
 have hm:zu c' b.1 ∈ c':=by
  have:b.1.toNat<c'.length:=by omega
  rw [show zu c' b.1=c'[b.1.toNat] by simp [zu,List.getD,this]]
  exact List.getElem_mem this
 have g:=hg _ hm
 have g1:=g.l3
 have g2:=g.l3b
 have g3:=g.l4
 have g4:=g.l5
 have g5:=g.l8
 have g6:=g.l9
 exact Tot.now (fun k=>if_pos (by unfold inS;omega)) ⟨all_well hc hg (by omega) (by omega),all_rng hg (by omega) (by omega)⟩
theorem good_well {c:List S56} (hc:c.length≤10) (hg:∀ q ∈ c,G q):Well c:=⟨by omega,fun q h=>(hg q h).fit,fun q h=>by have:=(hg q h).k1;omega⟩
theorem drawDump_tot {l:List Int} (hb:Bytes l):Tot (fun k=>xR.f k l) (fun t=>Well t∧∀ q ∈ t,Rng q):=by
 unfold xR.f
 refine (jQ hb (Int.le_refl 0) (by decide) (by decide)).bind fun a ha=>(chunk_tot hb (by omega) (by omega)).bind fun c hc=>?_
 obtain ⟨q,r,e,_⟩:=hc.ne
 have hl:c.1.length≤10:=hc.len
 have hl0:0<c.1.length:=by rw [e];simp
 have h1:=hc.lo
 have h2:c.2≤a.2+2000:=hc.hi
 by_cases h0:a.1=0
 ·exact Tot.of_eq (g:=fun k=>(yE.f k l c.2 c.1).bind fun t=>some t) ((spoil_rng hb (by omega) (by omega) hl0 hl hc.good).bind fun t ht=>Tot.now (fun k=>rfl) ht) (fun k=>by rw [if_pos h0])
 ·exact Tot.of_eq (g:=fun k=>some c.1) (Tot.now (fun k=>rfl) ⟨good_well hl hc.good,fun q h=>(hc.good q h).rng⟩) (fun k=>by rw [if_neg h0])
def pl (v:S67):Bool:=if v.f0=3 then decide (v.f1=0) && decide (v.f2.size≤1000) else if v.f2.size > 0 then false else if v.f0=1 then decide (v.f1=0) || decide (v.f1=1) else if v.f0=2 then true else if v.f0=0 then decide (v.f1=0) else false
def num (n:Int):Bool:=decide (0≤n) && decide (n≤16777215)
def frame (p:S56):Bool:=!zo.c1 p.f0 p.f2 p.f3.length p.f4.length p.f5.length p.f7.size
def texts (p:S56):Bool:=(decide (p.f8.length=0) || decide (p.f8.length=p.f3.length)) && (decide (p.f9.length=0) || decide (p.f9.length=p.f5.length))
def ok (p:S56):Bool:=frame p && (texts p && (p.f4.all pl && (p.f5.all (fun u=>num u.f1) && (p.f8.all num && (p.f9.all fun s=>decide (s.size≤1000))))))
theorem toList_nil (s:ByteArray):(s.toList == ([]:List UInt8))=decide (s.size=0):=by
 rw [Bool.eq_iff_iff,beq_iff_eq,decide_eq_true_iff]
 constructor
 ·intro h
  have e:s.toList.length=s.size:=by rw [ByteArray.toList_eq];exact Array.length_toList
  rw [h] at e
  exact e.symm
 ·intro h
  have e:s.toList.length=s.size:=by rw [ByteArray.toList_eq];exact Array.length_toList
  exact List.length_eq_zero_iff.1 (by omega)
theorem spec_pl (v:S67):kN.f v.f0 v.f1 v.f2=some (pl v):=by
 unfold kN.f pl
 by_cases h3:v.f0=3
 ·rw [if_pos h3,if_pos h3]
  by_cases h1:v.f1=0
  ·rw [if_pos h1]
   simp only [h1,decide_true,Bool.true_and,Option.some.injEq,decide_eq_decide]
   omega
  ·rw [if_neg h1]
   simp [h1]
 ·rw [if_neg h3,if_neg h3]
  by_cases hs:v.f2.size > 0
  ·rw [if_pos (show (v.f2.size:Int) > 0 by omega),if_pos hs]
  ·rw [if_neg (show ¬ (v.f2.size:Int) > 0 by omega),if_neg hs]
   by_cases h1:v.f0=1
   ·rw [if_pos h1,if_pos h1]
    by_cases h0:v.f1=0
    ·rw [if_pos h0];simp [h0]
    ·rw [if_neg h0]
     simp only [Option.some.injEq,h0,decide_false,Bool.false_or]
     rw [Bool.eq_iff_iff,beq_iff_eq,decide_eq_true_iff]
   ·rw [if_neg h1,if_neg h1]
    by_cases h2:v.f0=2
    ·rw [if_pos h2,if_pos h2]
    ·rw [if_neg h2,if_neg h2]
     by_cases h0:v.f0=0
     ·rw [if_pos h0,if_pos h0]
      simp only [Option.some.injEq]
      rw [Bool.eq_iff_iff,beq_iff_eq,decide_eq_true_iff]
     ·rw [if_neg h0,if_neg h0]
theorem impl_pl (v:S67):jE.f v.f0 v.f1 v.f2=some (pl v):=by
 unfold jE.f pl
 simp only [toList_nil]
 by_cases h3:v.f0=3
 ·rw [if_neg (by omega),if_neg (by omega),if_neg (by omega),if_pos h3,if_pos h3]
  by_cases h1:v.f1=0
  ·rw [if_pos h1]
   simp only [h1,decide_true,Bool.true_and,Option.some.injEq,decide_eq_decide]
   omega
  ·rw [if_neg h1]
   simp [h1]
 ·rw [if_neg h3,if_neg h3]
  by_cases hs:v.f2.size > 0
  ·rw [if_pos hs]
   have e:decide (v.f2.size=0)=false:=decide_eq_false (by omega)
   simp only [e]
   repeat' split
   all_goals rfl
  ·rw [if_neg hs]
   have e:decide (v.f2.size=0)=true:=decide_eq_true (by omega)
   simp only [e]
   by_cases h0:v.f0=0
   ·have e1:¬ v.f0=1:=by omega
    have e2:¬ v.f0=2:=by omega
    simp only [if_pos h0,if_neg e1,if_neg e2]
    by_cases h1:v.f1=0 <;> simp [h1]
   ·rw [if_neg h0]
    by_cases h1:v.f0=1
    ·rw [if_pos h1,if_pos h1]
     by_cases h2:v.f1=0
     ·simp [h2]
     ·by_cases h4:v.f1=1 <;> simp [h2,h4]
    ·rw [if_neg h1,if_neg h1]
     by_cases h2:v.f0=2
     ·rw [if_pos h2,if_pos h2]
     ·rw [if_neg h2,if_neg h2,if_neg h0]
theorem spec_num (n:Int):jc.f n=some (num n):=by
 unfold jc.f num
 by_cases h:n ≥ 0
 ·rw [if_pos h];simp [show 0≤n from h]
 ·rw [if_neg h];simp [show ¬ 0≤n from h]
theorem impl_num (n:Int):zQ.f n 0 16777215=some (num n):=by
 unfold zQ.f num
 by_cases h:0≤n
 ·rw [if_pos h];simp [h]
 ·rw [if_neg h];simp [h]
theorem idx_all {α:Type} {z:α} {p:α→Option Bool} {q:α→Bool} (hp:∀ x,p x=some (!q x)) (l:List α) (hl:l.length≤1048576):∀ m i:Nat,i+m=l.length→∃ r,zo.idx z p (m+1) l (i:Int)=some r∧(0≤r↔(l.drop i).all q=false):=by
 intro m
 induction m with
 | zero =>
  intro i hi
  refine ⟨-1,by rw [zo.idx,if_neg (by omega)],?_⟩
  rw [show i=l.length by omega,List.drop_length]
  simp
 | succ m ih =>
  intro i hi
  have hil:i<l.length:=by omega
  have e:l.getD (i:Int).toNat z=l[i]:=by simp [List.getD,hil]
  by_cases hq:q l[i]=true
  ·obtain ⟨r,hr,h⟩:=ih (i+1) (by omega)
   refine ⟨r,?_,?_⟩
   ·rw [zo.idx,if_pos (by omega),if_pos (by omega),e,hp,Option.bind_some,if_neg (by simp [hq]),jJ (by omega)]
    exact hr
   ·rw [h,List.drop_eq_getElem_cons hil,List.all_cons,hq,Bool.true_and]
  ·refine ⟨i,?_,?_⟩
   ·rw [zo.idx,if_pos (by omega),if_pos (by omega),e,hp,Option.bind_some,if_pos (by simp [hq])]
   ·rw [List.drop_eq_getElem_cons hil,List.all_cons]
    simp [hq]
theorem idx_if {α:Type} {z:α} {p:α→Option Bool} {q:α→Bool} (hp:∀ x,p x=some (!q x)) (l:List α) (hl:l.length≤1048576) (o:Option Bool):(zo.idx z p (l.length+1) l 0).bind (fun r=>if 0≤r then some false else o)=if l.all q=true then o else some false:=by
 obtain ⟨r,hr,h⟩:=idx_all (z:=z) hp l hl l.length 0 (by omega)
 rw [show ((0:Nat):Int)=0 from rfl] at hr
 rw [hr,Option.bind_some]
 rw [List.drop_zero] at h
 by_cases hq:l.all q=true
 ·rw [if_pos hq,if_neg (fun h0=>by rw [h.1 h0] at hq;cases hq)]
 ·rw [if_neg hq,if_pos (h.2 (by simpa using hq))]
theorem impl_good (p:S56) (hx:Fit p):zo.f p.f0 p.f1 p.f2 p.f3 p.f4 p.f5 p.f6 p.f7 p.f8 p.f9=some (ok p && decide (0≤p.f6)):=by
 unfold zo.f
 rw [idx_if (q:=pl) (fun v=>by rw [impl_pl];rfl) p.f4 hx.l4]
 rw [idx_if (q:=fun u:S71=>num u.f1) (fun v=>by rw [impl_num];rfl) p.f5 hx.l5]
 rw [idx_if (q:=num) (fun v=>by rw [impl_num];rfl) p.f8 hx.l8]
 rw [idx_if (q:=fun s:ByteArray=>decide (s.size≤1000)) (fun v=>by
  unfold zo.short
  rw [Option.map_some]
  congr 2
  rw [decide_eq_decide]
  omega) p.f9 hx.l9]
 unfold ok frame
 by_cases h1:zo.c1 p.f0 p.f2 p.f3.length p.f4.length p.f5.length p.f7.size=true
 ·rw [if_pos h1,h1];rfl
 ·rw [if_neg h1]
  have h1:zo.c1 p.f0 p.f2 p.f3.length p.f4.length p.f5.length p.f7.size=false:=by simpa using h1
  rw [h1]
  have h2:zo.c2 p.f3.length p.f5.length p.f8.length p.f9.length p.f6=!(texts p && decide (0≤p.f6)):=by
   unfold zo.c2 texts
   by_cases a:p.f8.length=0 <;> by_cases b:p.f8.length=p.f3.length <;> by_cases c:p.f9.length=0 <;> by_cases d:p.f9.length=p.f5.length <;> by_cases e:p.f6<0 <;> simp [a,b,c,d,e] <;> omega
  rw [h2]
  cases texts p <;> cases decide (0≤p.f6) <;> cases p.f4.all pl <;> cases (p.f5.all fun u=>num u.f1) <;> cases p.f8.all num <;> cases (p.f9.all fun s=>decide (s.size≤1000)) <;> rfl
theorem spec_ok (p:S56) (hx:Fit p):Evt (fun k=>zq.f k p.f0 p.f1 p.f2 p.f3 p.f4 p.f5 p.f6 p.f7 p.f8 p.f9) (ok p):=by
 have h3:Evt (fun k=>zq.l3 k 0 p.f0 p.f1 p.f2 p.f3 p.f4 p.f5 p.f6 p.f7 p.f8 p.f9) (p.f9.all (fun s=>decide (s.size≤1000)) && true):=by
  refine QJ (xs:=p.f9) (z:=ByteArray.empty) (q:=fun s=>decide (s.size≤1000)) (L:=fun k i=>zq.l3 k i p.f0 p.f1 p.f2 p.f3 p.f4 p.f5 p.f6 p.f7 p.f8 p.f9) (fun i hi=>⟨0,fun k _=>?_⟩) (Evt.succ (Evt.now fun k=>?_))
  ·have:=hx.l9
   have e:rdOf ByteArray.empty p.f9 (i:Int)=p.f9.getD i ByteArray.empty:=by simp [rdOf]
   rw [← e]
   show zq.l3 (k+1) i _ _ _ _ _ _ _ _ _ _=if _ then zq.l3 k _ _ _ _ _ _ _ _ _ _ _ else _
   rw [zq.l3,if_pos (by omega),if_pos (by omega),jJ (by omega)]
   generalize rdOf ByteArray.empty p.f9 (i:Int)=v
   by_cases h:v.size≤1000
   ·rw [if_neg (by omega),if_pos (by simpa using h)]
   ·rw [if_pos (by omega),if_neg (by simpa using h)]
  ·show zq.l3 (k+1) p.f9.length _ _ _ _ _ _ _ _ _ _=_
   rw [zq.l3,if_neg (by omega)]
 have h2:Evt (fun k=>zq.l2 k 0 p.f0 p.f1 p.f2 p.f3 p.f4 p.f5 p.f6 p.f7 p.f8 p.f9) (p.f8.all num && (p.f9.all (fun s=>decide (s.size≤1000)) && true)):=by
  refine QJ (xs:=p.f8) (z:=0) (q:=num) (L:=fun k i=>zq.l2 k i p.f0 p.f1 p.f2 p.f3 p.f4 p.f5 p.f6 p.f7 p.f8 p.f9) (fun i hi=>⟨0,fun k _=>?_⟩) (Evt.succ (h3.of_eq 0 fun k _=>?_))
  ·have:=hx.l8
   have e:rd p.f8 (i:Int)=p.f8.getD i 0:=by simp [rd]
   rw [← e]
   show zq.l2 (k+1) i _ _ _ _ _ _ _ _ _ _=if _ then zq.l2 k _ _ _ _ _ _ _ _ _ _ _ else _
   rw [zq.l2,if_pos (by omega),if_pos (by omega),jJ (by omega),spec_num,Option.bind_some]
  ·show zq.l2 (k+1) p.f8.length _ _ _ _ _ _ _ _ _ _=_
   rw [zq.l2,if_neg (by omega)]
 have h1:Evt (fun k=>zq.l1 k 0 p.f0 p.f1 p.f2 p.f3 p.f4 p.f5 p.f6 p.f7 p.f8 p.f9) (p.f5.all (fun u=>num u.f1) && (p.f8.all num && (p.f9.all (fun s=>decide (s.size≤1000)) && true))):=by
  refine QJ (xs:=p.f5) (z:=z71) (q:=fun u=>num u.f1) (L:=fun k i=>zq.l1 k i p.f0 p.f1 p.f2 p.f3 p.f4 p.f5 p.f6 p.f7 p.f8 p.f9) (fun i hi=>⟨0,fun k _=>?_⟩) (Evt.succ (h2.of_eq 0 fun k _=>?_))
  ·have:=hx.l5
   have e:jh p.f5 (i:Int)=p.f5.getD i z71:=by simp [jh]
   rw [← e]
   show zq.l1 (k+1) i _ _ _ _ _ _ _ _ _ _=if _ then zq.l1 k _ _ _ _ _ _ _ _ _ _ _ else _
   rw [zq.l1,if_pos (by omega),if_pos (by omega),jJ (by omega),spec_num,Option.bind_some]
  ·show zq.l1 (k+1) p.f5.length _ _ _ _ _ _ _ _ _ _=_
   rw [zq.l1,if_neg (by omega)]
 have h0:Evt (fun k=>zq.l0 k 0 p.f0 p.f1 p.f2 p.f3 p.f4 p.f5 p.f6 p.f7 p.f8 p.f9) (p.f4.all pl && (p.f5.all (fun u=>num u.f1) && (p.f8.all num && (p.f9.all (fun s=>decide (s.size≤1000)) && true)))):=by
  refine QJ (xs:=p.f4) (z:=z67) (q:=pl) (L:=fun k i=>zq.l0 k i p.f0 p.f1 p.f2 p.f3 p.f4 p.f5 p.f6 p.f7 p.f8 p.f9) (fun i hi=>⟨0,fun k _=>?_⟩) (Evt.succ (h1.of_eq 0 fun k _=>?_))
  ·have:=hx.l4
   have e:xH p.f4 (i:Int)=p.f4.getD i z67:=by simp [xH]
   rw [← e]
   show zq.l0 (k+1) i _ _ _ _ _ _ _ _ _ _=if _ then zq.l0 k _ _ _ _ _ _ _ _ _ _ _ else _
   rw [zq.l0,if_pos (by omega),if_pos (by omega),jJ (by omega),spec_pl,Option.bind_some]
  ·show zq.l0 (k+1) p.f4.length _ _ _ _ _ _ _ _ _ _=_
   rw [zq.l0,if_neg (by omega)]
 obtain ⟨V,hV⟩:∃ V,(p.f4.all pl && (p.f5.all (fun u=>num u.f1) && (p.f8.all num && (p.f9.all (fun s=>decide (s.size≤1000)) && true))))=V:=⟨_,rfl⟩
 rw [hV] at h0
 have hj2:∀ b,Evt (fun k=>zq.j2 k b p.f0 p.f1 p.f2 p.f3 p.f4 p.f5 p.f6 p.f7 p.f8 p.f9) (!b && V):=by
  intro b
  refine Evt.succ ?_
  cases b
  ·exact h0.of_eq 0 fun k _=>by rw [zq.j2,if_neg (by decide)]
  ·exact Evt.now fun k=>by rw [zq.j2,if_pos rfl];rfl
 have hj1:∀ b,Evt (fun k=>zq.j1 k b p.f0 p.f1 p.f2 p.f3 p.f4 p.f5 p.f6 p.f7 p.f8 p.f9) (!b && (texts p && V)):=by
  intro b
  refine Evt.succ ?_
  cases b
  ·have e:texts p=!(if (p.f8.length:Int) > 0 then (if (p.f8.length:Int)=(p.f3.length:Int) then (if (p.f9.length:Int) > 0 then ((p.f9.length:Int) != (p.f5.length:Int)) else false) else true) else (if (p.f9.length:Int) > 0 then ((p.f9.length:Int) != (p.f5.length:Int)) else false)):=by
    unfold texts
    have ne:((p.f9.length:Int) != (p.f5.length:Int))=!decide (p.f9.length=p.f5.length):=by
     rw [bne,Bool.eq_iff_iff,Bool.not_eq_true',beq_eq_false_iff_ne,Bool.not_eq_true',decide_eq_false_iff_not]
     omega
    rw [ne]
    by_cases a:p.f8.length=0
    ·rw [if_neg (by omega)]
     by_cases c:p.f9.length=0
     ·rw [if_neg (by omega)];simp [a,c]
     ·rw [if_pos (by omega)];simp [a,c]
    ·rw [if_pos (by omega)]
     by_cases b:p.f8.length=p.f3.length
     ·rw [if_pos (by omega)]
      by_cases c:p.f9.length=0
      ·rw [if_neg (by omega)];simp [b,c]
      ·rw [if_pos (by omega)];simp [b,c]
     ·rw [if_neg (by omega)];simp [a,b]
   refine (hj2 (!texts p)).of_eq 0 (fun k _=>?_) |> fun h=>by simpa using h
   rw [zq.j1,if_neg (by decide),e,Bool.not_not]
   repeat' split
   all_goals rfl
  ·exact Evt.now fun k=>by rw [zq.j1,if_pos rfl];rfl
 have hj0:∀ b,Evt (fun k=>zq.j0 k b p.f0 p.f1 p.f2 p.f3 p.f4 p.f5 p.f6 p.f7 p.f8 p.f9) (!(b || (decide (500<p.f4.length) || (decide (60<p.f5.length) || decide (1000<p.f7.size)))) && (texts p && V)):=by
  intro b
  refine Evt.succ ?_
  cases b
  ·refine (hj1 (decide (500<p.f4.length) || (decide (60<p.f5.length) || decide (1000<p.f7.size)))).of_eq 0 (fun k _=>?_) |> fun h=>by simpa using h
   rw [zq.j0,if_neg (by decide)]
   by_cases a:500<p.f4.length
   ·rw [if_pos (by omega)];simp [a]
   ·rw [if_neg (by omega)]
    by_cases b:60<p.f5.length
    ·rw [if_pos (by omega)];simp [b]
    ·rw [if_neg (by omega)]
     have e:decide ((p.f7.size:Int) > 1000)=decide (1000<p.f7.size):=by rw [decide_eq_decide];omega
     rw [e];simp [a,b]
  ·exact Evt.now fun k=>by rw [zq.j0,if_pos rfl];rfl
 have e:ok p=(!((!(zo.wi p.f2 1 250) || (!(zo.wi p.f0 0 p.f2) || !(zo.wi (p.f3.length:Int) 1 2000))) || (decide (500<p.f4.length) || (decide (60<p.f5.length) || decide (1000<p.f7.size)))) && (texts p && V)):=by
  rw [← hV,ok,frame,zo.c1,Bool.and_true]
  simp only [Bool.or_assoc]
 rw [e]
 refine (hj0 _).of_eq 0 fun k _=>?_
 unfold zq.f zo.wi
 by_cases a:p.f2<1
 ·rw [if_pos a];simp [show ¬ 1≤p.f2 by omega]
 ·rw [if_neg a]
  by_cases b:p.f2 > 250
  ·rw [if_pos b];simp [show ¬ p.f2≤250 by omega]
  ·rw [if_neg b]
   by_cases c:p.f0<0
   ·rw [if_pos c];simp [show ¬ 0≤p.f0 by omega]
   ·rw [if_neg c]
    by_cases d:p.f0 > p.f2
    ·rw [if_pos d];simp [show ¬ p.f0≤p.f2 by omega]
    ·rw [if_neg d]
     by_cases f:(p.f3.length:Int)<1
     ·rw [if_pos f];simp [show ¬ 1≤(p.f3.length:Int) by omega]
     ·rw [if_neg f]
      have q:(!(decide (1≤p.f2) && decide (p.f2≤250)) || (!(decide (0≤p.f0) && decide (p.f0≤p.f2)) || !(decide (1≤(p.f3.length:Int)) && decide ((p.f3.length:Int)≤2000))))=decide ((p.f3.length:Int) > 2000):=by
       rw [decide_eq_true (show 1≤p.f2 by omega),decide_eq_true (show p.f2≤250 by omega),decide_eq_true (show 0≤p.f0 by omega),decide_eq_true (show p.f0≤p.f2 by omega),decide_eq_true (show 1≤(p.f3.length:Int) by omega)]
       by_cases g:(p.f3.length:Int)≤2000
       ·rw [decide_eq_true g,decide_eq_false (by omega)];rfl
       ·rw [decide_eq_false g,decide_eq_true (by omega)];rfl
      rw [q]
def lpE (g:Nat→Int):Nat→Nat→Int
 | 0,at_=>(at_:Int)
 | m+1,at_=>if g at_<0 then -1 else lpE g m (g at_).toNat
def endOf (ks:List Int):Nat→Nat→Int
 | 0,_=>-1
 | f+1,i=>if ks.length≤i then -1 else if ks.getD i 0<0 then -1 else lpE (endOf ks f) (ks.getD i 0).toNat (i+1)
theorem lpE_bounds {ks:List Int} {g:Nat→Int} (hg:∀ i,i≤ks.length→g i=-1∨((i:Int)<g i∧g i≤ks.length∧∀ j:Nat,i≤j→(j:Int)<g i→0≤ks.getD j 0)) :
  ∀ m at_:Nat,at_≤ks.length→lpE g m at_=-1∨((at_:Int)≤lpE g m at_∧lpE g m at_≤ks.length∧∀ j:Nat,at_≤j→(j:Int)<lpE g m at_→0≤ks.getD j 0):=by
 intro m
 induction m with
 | zero=>exact fun at_ h=>.inr ⟨Int.le_refl _,by simp only [lpE];omega,fun j h1 h2=>by simp only [lpE] at h2;omega⟩
 | succ m ih =>
  intro at_ h
  simp only [lpE]
  by_cases hn:g at_<0
  ·rw [if_pos hn];exact .inl rfl
  ·rw [if_neg hn]
   rcases hg at_ h with h1|⟨h1,h2,h3⟩
   ·omega
   ·rcases ih (g at_).toNat (by omega) with h4|⟨h4,h5,h6⟩
    ·exact .inl h4
    ·refine .inr ⟨by omega,h5,fun j hj1 hj2=>?_⟩
     by_cases hj:(j:Int)<g at_
     ·exact h3 j hj1 hj
     ·exact h6 j (by omega) hj2
theorem Zu {ks:List Int}:∀ f i:Nat,i≤ks.length→endOf ks f i=-1∨((i:Int)<endOf ks f i∧endOf ks f i≤ks.length∧∀ j:Nat,i≤j→(j:Int)<endOf ks f i→0≤ks.getD j 0):=by
 intro f
 induction f with
 | zero=>exact fun i _=>.inl rfl
 | succ f ih =>
  intro i hi
  simp only [endOf]
  by_cases h1:ks.length≤i
  ·rw [if_pos h1];exact .inl rfl
  ·rw [if_neg h1]
   by_cases h2:ks.getD i 0<0
   ·rw [if_pos h2];exact .inl rfl
   ·rw [if_neg h2]
    rcases lpE_bounds ih (ks.getD i 0).toNat (i+1) (by omega) with h4|⟨h4,h5,h6⟩
    ·exact .inl h4
    ·refine .inr ⟨by omega,h5,fun j hj1 hj2=>?_⟩
     by_cases hj:j=i
     ·subst hj;omega
     ·exact h6 j (by omega) hj2
theorem wk_end {ks:List Int} (hk:∀ j:Nat,0≤ks.getD j 0):∀ (f i:Nat) (s:List Int×List Int),(zk.wk ks f i s).1=endOf ks f i:=by
 intro f
 induction f with
 | zero=>exact fun i s=>rfl
 | succ f ih =>
  intro i s
  have inner:∀ (m at_:Nat) (s:List Int×List Int),(zk.lp (zk.wk ks f) m at_ s).1=lpE (endOf ks f) m at_:=by
   intro m
   induction m with
   | zero=>exact fun at_ s=>rfl
   | succ m ihm =>
    intro at_ s
    simp only [zk.lp,lpE]
    rw [ih at_ s]
    by_cases hn:endOf ks f at_<0
    ·rw [if_pos hn,if_pos hn]
    ·rw [if_neg hn,if_neg hn]
     exact ihm _ _
  simp only [zk.wk,endOf]
  by_cases h1:ks.length≤i
  ·rw [if_pos h1,if_pos h1]
  ·have hkn:¬ ks.getD i 0<0:=by have:=hk i;omega
   rw [if_neg h1,if_neg h1,if_neg hkn]
   rw [inner]
   by_cases hn:lpE (endOf ks f) (ks.getD i 0).toNat (i+1)<0
   ·rw [if_pos hn]
    have:=lpE_bounds (ks:=ks) (Zu f) (ks.getD i 0).toNat (i+1) (by omega)
    omega
   ·rw [if_neg hn]
theorem spec_end {ps:List S56} (hn:ps.length≤1048576) (hk:∀ p ∈ ps,p.f6≤9223372036854775807):∀ (f i:Nat),f≤64→Evt (fun k=>zL.f k ps (i:Int) (64-(f:Int))) (endOf (ps.map (·.f6)) f i):=by
 have hlen:(ps.map (·.f6)).length=ps.length:=by simp
 intro f
 induction f with
 | zero =>
  intro i _
  refine Evt.succ (Evt.succ (Evt.now fun k=>?_))
  show zL.f (k+1+1) ps (i:Int) (64-((0:Nat):Int))=some (-1)
  rw [zL.f]
  by_cases hi:(i:Int) ≥ (ps.length:Int)
  ·rw [if_pos hi,zL.j0,if_pos rfl]
  ·rw [if_neg hi,if_pos (by omega),zL.j0,if_pos rfl]
 | succ f ih =>
  intro i hf
  simp only [endOf]
  rw [hlen]
  by_cases hi:ps.length≤i
  ·rw [if_pos hi]
   refine Evt.succ (Evt.succ (Evt.now fun k=>?_))
   show zL.f (k+1+1) ps (i:Int) _=some (-1)
   rw [zL.f,if_pos (by omega),zL.j0,if_pos rfl]
  ·rw [if_neg hi]
   have hil:i<ps.length:=by omega
   have e:zu ps (i:Int)=ps[i]:=by simp [zu,List.getD,hil]
   have ek:(ps.map (·.f6)).getD i 0=ps[i].f6:=by simp [List.getD,hil]
   rw [ek]
   have hK:ps[i].f6≤9223372036854775807:=hk _ (List.getElem_mem hil)
   have e64:(64:Int)-((f+1:Nat):Int)=63-(f:Int):=by omega
   rw [e64]
   obtain ⟨K,hKd⟩:∃ K,K=ps[i].f6:=⟨_,rfl⟩
   rw [← hKd] at hK ⊢
   have head:∀ k,zL.f (k+1) ps (i:Int) (63-(f:Int))=zL.j0 k ps (i:Int) (63-(f:Int)) (decide (K<0)):=by
    intro k
    rw [zL.f,if_neg (by omega),if_neg (by omega),if_pos (by omega),if_pos (by omega),e,← hKd]
   by_cases hneg:K<0
   ·rw [if_pos hneg]
    refine Evt.succ (Evt.succ (Evt.now fun k=>?_))
    show zL.f (k+1+1) ps (i:Int) _=some (-1)
    rw [head,zL.j0,if_pos (decide_eq_true hneg)]
   ·rw [if_neg hneg]
    have loop:∀ d m at_:Nat,ps.length-at_≤d→at_≤ps.length→(m:Int)≤K→Evt (fun k=>zL.l0 k ps (i:Int) (63-(f:Int)) (at_:Int) (K-(m:Int))) (lpE (endOf (ps.map (·.f6)) f) m at_):=by
     intro d
     induction d with
     | zero =>
      intro m at_ hd ha hm
      have hat:at_=ps.length:=by omega
      cases m with
      | zero =>
       refine Evt.succ (Evt.now fun k=>?_)
       show zL.l0 (k+1) ps (i:Int) _ (at_:Int) (K-((0:Nat):Int))=some _
       rw [zL.l0,if_pos (by omega),if_pos (by omega),e,← hKd,if_neg (by omega)]
       rfl
      | succ m =>
       have hb:=Zu (ks:=ps.map (·.f6)) f at_ (by omega)
       have hv:endOf (ps.map (·.f6)) f at_=-1:=by
        rcases hb with hb|⟨h1,h2,_⟩
        ·exact hb
        ·omega
       simp only [lpE]
       rw [hv,if_pos (by decide)]
       obtain ⟨L,hL⟩:=ih at_ (by omega)
       rw [hv] at hL
       refine ⟨L+2,fun k hk'=>?_⟩
       obtain ⟨k,rfl⟩:∃ q,k=q+1+1:=⟨k-2,by omega⟩
       have h1:zL.f (k+1) ps (at_:Int) (64-(f:Int))=some (-1):=hL _ (by omega)
       show zL.l0 (k+1+1) ps (i:Int) _ (at_:Int) (K-((m+1:Nat):Int))=some _
       rw [zL.l0,if_pos (by omega),if_pos (by omega),e,← hKd,if_pos (by omega),if_pos (by omega),xw (by omega) (by omega),show (63-(f:Int)+1)=64-(f:Int) by omega,h1,Option.bind_some]
       rw [zL.l0,if_pos (by omega),if_pos (by omega)]
       by_cases q:wrap64 (K-((m+1:Nat):Int)+1)<(zu ps (i:Int)).f6
       ·rw [if_pos q,if_neg (by decide)]
       ·rw [if_neg q]
     | succ d ihd =>
      intro m at_ hd ha hm
      cases m with
      | zero =>
       refine Evt.succ (Evt.now fun k=>?_)
       show zL.l0 (k+1) ps (i:Int) _ (at_:Int) (K-((0:Nat):Int))=some _
       rw [zL.l0,if_pos (by omega),if_pos (by omega),e,← hKd,if_neg (by omega)]
       rfl
      | succ m =>
       have hb:=Zu (ks:=ps.map (·.f6)) f at_ (by omega)
       obtain ⟨L,hL⟩:=ih at_ (by omega)
       simp only [lpE]
       by_cases hv:endOf (ps.map (·.f6)) f at_<0
       ·rw [if_pos hv]
        have hv1:endOf (ps.map (·.f6)) f at_=-1:=by
         rcases hb with hb|⟨h1,_,_⟩
         ·exact hb
         ·omega
        rw [hv1] at hL
        refine ⟨L+2,fun k hk'=>?_⟩
        obtain ⟨k,rfl⟩:∃ q,k=q+1+1:=⟨k-2,by omega⟩
        have h1:zL.f (k+1) ps (at_:Int) (64-(f:Int))=some (-1):=hL _ (by omega)
        show zL.l0 (k+1+1) ps (i:Int) _ (at_:Int) (K-((m+1:Nat):Int))=some _
        rw [zL.l0,if_pos (by omega),if_pos (by omega),e,← hKd,if_pos (by omega),if_pos (by omega),xw (by omega) (by omega),show (63-(f:Int)+1)=64-(f:Int) by omega,h1,Option.bind_some]
        rw [zL.l0,if_pos (by omega),if_pos (by omega)]
        by_cases q:wrap64 (K-((m+1:Nat):Int)+1)<(zu ps (i:Int)).f6
        ·rw [if_pos q,if_neg (by decide)]
        ·rw [if_neg q]
       ·rw [if_neg hv]
        obtain ⟨t,ht⟩:∃ t:Nat,endOf (ps.map (·.f6)) f at_=(t:Int):=⟨(endOf (ps.map (·.f6)) f at_).toNat,by omega⟩
        rw [ht] at hb hL ⊢
        have hb2:at_<t∧t≤ps.length:=by
         rcases hb with hb|⟨h1,h2,_⟩
         ·omega
         ·rw [hlen] at h2;omega
        have hrest:=ihd m t (by omega) hb2.2 (by omega)
        rw [Int.toNat_natCast]
        refine Evt.succ (hrest.of_eq L fun k hk'=>?_)
        have h1:zL.f k ps (at_:Int) (64-(f:Int))=some (t:Int):=hL _ hk'
        show zL.l0 (k+1) ps (i:Int) _ (at_:Int) (K-((m+1:Nat):Int))=_
        rw [zL.l0,if_pos (by omega),if_pos (by omega),e,← hKd,if_pos (by omega),if_pos (by omega),xw (by omega) (by omega),show (63-(f:Int)+1)=64-(f:Int) by omega,h1,Option.bind_some,xw (by omega) (by omega),show K-((m+1:Nat):Int)+1=K-(m:Int) by omega]
    have h:=loop ps.length K.toNat (i+1) (by omega) (by omega) (by omega)
    rw [show K-(K.toNat:Int)=0 by omega] at h
    refine Evt.succ (Evt.succ (h.of_eq 0 fun k _=>?_))
    show zL.f (k+1+1) ps (i:Int) _=_
    rw [head,zL.j0,if_neg (by simpa using hneg),jJ (by omega)]
def word (l:List S56):Bool:=decide (1≤l.length∧l.length≤200) && (decide (endOf (l.map (·.f6)) 64 0=(l.length:Int)) && l.all ok)
theorem spec_word {l:List S56} (hl:l.length≤1048576) (hx:∀ p ∈ l,Fit p) (hk:∀ p ∈ l,p.f6≤9223372036854775807):Evt (fun k=>zD.f k l) (word l):=by
 have hend:=spec_end hl hk 64 0 (Nat.le_refl _)
 have hall:Evt (fun k=>zD.l0 k (l.length:Int) 0 l) (l.all ok && true):=by
  refine QJ (xs:=l) (z:=z56) (q:=ok) (L:=fun k i=>zD.l0 k (l.length:Int) i l) (fun i hi=>?_) (Evt.succ (Evt.now fun k=>?_))
  ·obtain ⟨K,hK0⟩:=spec_ok _ (hx _ (List.getElem_mem hi))
   have e:zu l (i:Int)=l[i]:=by simp [zu,List.getD,hi]
   have e2:l.getD i z56=l[i]:=by simp [List.getD,hi]
   refine ⟨K,fun k hk=>?_⟩
   have hK:=hK0 k hk
   dsimp only at hK
   show zD.l0 (k+1) (l.length:Int) i l=if _ then zD.l0 k (l.length:Int) _ l else _
   rw [zD.l0,if_pos (by omega),if_pos (by omega),if_pos (by omega),e,hK,Option.bind_some,jJ (by omega),e2]
  ·show zD.l0 (k+1) (l.length:Int) l.length l=_
   rw [zD.l0,if_neg (by omega)]
 rw [Bool.and_true] at hall
 have hj:∀ b,Evt (fun k=>zD.j0 k (l.length:Int) b l) (!b && l.all ok):=by
  intro b
  refine Evt.succ ?_
  cases b
  ·exact hall.of_eq 0 fun k _=>by rw [zD.j0,if_neg (by decide)]
  ·exact Evt.now fun k=>by rw [zD.j0,if_pos rfl];rfl
 unfold word
 by_cases h1:l.length<1
 ·rw [decide_eq_false (by omega),Bool.false_and]
  exact (hj true).of_eq 0 fun k _=>by unfold zD.f;rw [if_pos (by omega)]
 ·by_cases h2:l.length > 200
  ·rw [decide_eq_false (by omega),Bool.false_and]
   exact (hj true).of_eq 0 fun k _=>by unfold zD.f;rw [if_neg (by omega),if_pos (by omega)]
  ·rw [decide_eq_true (by omega),Bool.true_and]
   have hb:Evt (fun k=>(zL.f k l 0 0).bind fun t=>zD.j0 k (l.length:Int) (t != (l.length:Int)) l) (!(endOf (l.map (·.f6)) 64 0 != (l.length:Int)) && l.all ok):=hend.bind (h:=fun k t=>zD.j0 k (l.length:Int) (t != (l.length:Int)) l) (hj _)
   have e:(!(endOf (l.map (·.f6)) 64 0 != (l.length:Int)))=decide (endOf (l.map (·.f6)) 64 0=(l.length:Int)):=by
    rw [bne,Bool.not_not,Bool.eq_iff_iff,beq_iff_eq,decide_eq_true_iff]
   rw [e] at hb
   exact hb.of_eq 0 fun k _=>by unfold zD.f;rw [if_neg (by omega),if_neg (by omega)]
theorem goods_all {l:List S56} (hx:∀ p ∈ l,Fit p):zk.goods l=some (l.all fun p=>ok p && decide (0≤p.f6)):=by
 induction l with
 | nil=>rfl
 | cons p l ih =>
  rw [zk.goods,impl_good p (hx p List.mem_cons_self),Option.bind_some,ih (fun q hq=>hx q (List.mem_cons_of_mem _ hq)),List.all_cons]
  cases (ok p && decide (0≤p.f6)) <;> rfl
theorem impl_word {l:List S56} (hx:∀ p ∈ l,Fit p) (hk:∀ p ∈ l,p.f6≤9223372036854775807):zk.f l=some (word l):=by
 unfold zk.f word
 by_cases h1:l.length<1∨200<l.length
 ·rw [if_pos h1,decide_eq_false (by omega),Bool.false_and]
 ·rw [if_neg h1,decide_eq_true (show 1≤l.length∧l.length≤200 by omega),Bool.true_and]
  have hs:zk.small l=true:=List.all_eq_true.2 fun p hp=>decide_eq_true (hk p hp)
  rw [if_pos hs,goods_all hx,Option.bind_some]
  by_cases hg:(l.all fun p=>ok p && decide (0≤p.f6))=true
  ·rw [if_pos hg]
   have hok:l.all ok=true:=List.all_eq_true.2 fun p hp=>by
    have:=List.all_eq_true.1 hg p hp
    rw [Bool.and_eq_true] at this
    exact this.1
   have hk0:∀ j:Nat,0≤(l.map (·.f6)).getD j 0:=by
    intro j
    by_cases hj:j<l.length
    ·have:=List.all_eq_true.1 hg _ (List.getElem_mem hj)
     rw [Bool.and_eq_true,decide_eq_true_iff] at this
     have e:(l.map (·.f6)).getD j 0=l[j].f6:=by simp [List.getD,hj]
     rw [e]
     exact this.2
    ·have e:(l.map (·.f6)).getD j 0=0:=by simp [List.getD,hj]
     rw [e]
     exact Int.le_refl _
   rw [hok,Bool.and_true]
   have ef:(zk.fin (l.map (·.f6))).1=endOf (l.map (·.f6)) 64 0:=wk_end hk0 64 0 _
   congr 1
   rw [decide_eq_decide,zk.come,ef,List.length_map]
   by_cases he:endOf (l.map (·.f6)) 64 0=(l.length:Int)
   ·rw [if_pos he]
    simp [zk.all,he]
   ·rw [if_neg he]
    simp only [List.length_nil]
    constructor
    ·intro h;omega
    ·intro h;exact absurd h he
  ·rw [if_neg hg]
   congr 1
   symm
   rw [Bool.and_eq_false_iff]
   by_cases hok:l.all ok=true
   ·left
    refine decide_eq_false fun he=>hg ?_
    have hb:=Zu (ks:=l.map (·.f6)) 64 0 (Nat.zero_le _)
    rw [he] at hb
    rcases hb with hb|⟨_,_,hb⟩
    ·omega
    ·refine List.all_eq_true.2 fun p hp=>?_
     obtain ⟨j,hj,rfl⟩:=List.getElem_of_mem hp
     have h0:=hb j (Nat.zero_le _) (by omega)
     have e:(l.map (·.f6)).getD j 0=l[j].f6:=by simp [List.getD,hj]
     rw [e] at h0
     rw [List.all_eq_true.1 hok _ hp,Bool.true_and]
     exact decide_eq_true h0
   ·right
    simpa using hok
structure Ext (s t:ByteArray):Prop where
 le:s.size≤t.size
 at_:∀ i:Int,0≤i→i<(s.size:Int)→bt t i=bt s i
 ex:∀ i j:Nat,j≤s.size→t.extract i j=s.extract i j
theorem ext_append (s u:ByteArray):Ext s (s++u):=by
 refine ⟨by rw [ByteArray.size_append];omega,fun i h0 h1=>?_,fun i j hj=>?_⟩
 ·unfold bt
  rw [dif_pos (show i.toNat<(s++u).size by rw [ByteArray.size_append];omega),dif_pos (show i.toNat<s.size by omega),ByteArray.getElem_append_left (by omega)]
 ·apply ByteArray.ext
  simp only [ByteArray.data_extract,ByteArray.data_append]
  rw [Array.extract_append]
  have:u.data.extract (i-s.data.size) (j-s.data.size)=#[]:=by
   have h:j-s.data.size=0:=by have:s.data.size=s.size:=rfl;omega
   rw [h]
   simp
  rw [this,Array.append_empty]
theorem gv_l0 {s t:ByteArray} (h:Ext s t):∀ (k:Nat) (a n x:Int) (r:Int×Int×Bool),0≤x→r.2.2=true →
  (zA.l0 k s a n x=some r→zA.l0 k t a n x=some r)∧(∀ b,x<(s.size:Int)→zA.j2 k s a n x b=some r→zA.j2 k t a n x b=some r)∧(x<(s.size:Int)∨∀ b,b=false→zA.j2 k s a n x b=some r→False)
 | 0,a,n,x,r,hx,hr=>⟨fun hh=>by simp [zA.l0] at hh,fun b _ hh=>by simp [zA.j2] at hh,.inr fun b _ hh=>by simp [zA.j2] at hh⟩
 | k+1,a,n,x,r,hx,hr=>by
  have ih:=gv_l0 h k
  refine ⟨fun hh=>?_,fun b hb hh=>?_,.inr fun b hb hh=>?_⟩
  ·rw [zA.l0] at hh ⊢
   by_cases hs:x<(s.size:Int)
   ·rw [if_pos hs] at hh
    rw [if_pos (show x<(t.size:Int) by have:=h.le;omega)]
    exact (ih a n x r hx hr).2.1 _ hs hh
   ·rw [if_neg hs] at hh
    rcases (ih a n x r hx hr).2.2 with h1|h1
    ·exact absurd h1 hs
    ·exact (h1 _ rfl hh).elim
  ·have e:=h.at_ x hx hb
   cases b
   ·rw [zA.j2,if_neg (by decide)] at hh
    obtain rfl:=Option.some.inj hh
    cases hr
   ·rw [zA.j2,if_pos rfl] at hh ⊢
    rw [if_pos hx] at hh ⊢
    rw [if_pos hb] at hh
    rw [if_pos (show x<(t.size:Int) by have:=h.le;omega),e]
    split at hh
    ·rw [if_pos ‹_›]
     split at hh
     ·rw [if_pos ‹_›];exact hh
     ·rw [if_neg ‹_›]
      by_cases hw:0≤wrap64 (x+1)
      ·exact (ih a _ _ r hw hr).1 hh
      ·cases k with
       | zero=>simp [zA.l0] at hh
       | succ k =>
        rw [zA.l0,if_pos (show wrap64 (x+1)<(s.size:Int) by omega)] at hh
        cases k with
        | zero=>simp [zA.j2] at hh
        | succ k =>
         rw [zA.j2] at hh
         split at hh
         ·first|(rw [if_neg hw] at hh;cases hh)|cases hh
         ·obtain rfl:=Option.some.inj hh
          cases hr
    ·cases hh
  ·subst hb
   rw [zA.j2,if_neg (by decide)] at hh
   obtain rfl:=Option.some.inj hh
   cases hr
theorem gv_ext {s t:ByteArray} (h:Ext s t) {a:Int} (ha:0≤a) (hs:a≤(s.size:Int)) (hg:Xn s) (hr:(gv s a).2.2=true):gv t a=gv s a:=by
 have h1:=(hg a ha hs).1
 have h2:zA.f 40 t a=some (gv s a):=by
  unfold zA.f at h1 ⊢
  rw [if_neg (by omega),decide_eq_false (by omega),zA.j0,if_neg (by decide)] at h1
  rw [if_neg (by omega),decide_eq_false (by have:=h.le;omega),zA.j0,if_neg (by decide)]
  exact (gv_l0 h 39 a 0 a _ ha hr).1 h1
 conv=>lhs;unfold gv
 rw [h2]
 rfl
theorem Qa {s t:ByteArray} (h:Ext s t) {m a e:Int} (ha:0≤a) (hs:a≤(s.size:Int)) (he:(xq s m a e).2.2=0):xq t m a e=xq s m a e:=by
 unfold xq at he ⊢
 by_cases h0:e=0
 ·rw [if_pos h0] at he
  rw [if_pos h0,if_pos h0]
  by_cases h1:a=(s.size:Int)
  ·rw [if_pos h1] at he
   exact absurd (show (2:Int)=0 from he) (by decide)
  ·have hlt:a<(s.size:Int):=by omega
   rw [if_neg h1,if_neg (show ¬ a=(t.size:Int) by have:=h.le;omega),h.at_ a ha hlt]
 ·rw [if_neg h0] at he
  exact absurd he h0
theorem Jm {s t:ByteArray} (h:Ext s t) {n a e:Int} (hn:0≤n) (ha:0≤a) (he:(jW s n a e).2.2=0):jW t n a e=jW s n a e:=by
 unfold jW at he ⊢
 by_cases h0:e=0
 ·rw [if_pos h0] at he
  rw [if_pos h0,if_pos h0]
  by_cases h1:(s.size:Int)-a<n
  ·rw [if_pos h1] at he
   exact absurd (show (2:Int)=0 from he) (by decide)
  ·rw [if_neg h1,if_neg (show ¬ (t.size:Int)-a<n by have:=h.le;omega),h.ex _ _ (by omega)]
 ·rw [if_neg h0] at he
  exact absurd he h0
theorem Zi {s t:ByteArray} (h:Ext s t) (hg:Xn s) {lo hi a e:Int} (ha:0≤a) (hs:a≤(s.size:Int)) (he:(kD s lo hi a e).2.2=0):kD t lo hi a e=kD s lo hi a e:=by
 unfold kD at he ⊢
 by_cases h0:e=0
 ·rw [if_pos h0] at he
  rw [if_pos h0,if_pos h0]
  by_cases hv:(gv s a).2.2=true
  ·rw [gv_ext h ha hs hg hv,if_pos hv,if_pos hv]
  ·rw [if_neg hv] at he
   exfalso
   have he2:Vm s a=0:=he
   unfold Vm at he2
   split at he2 <;> exact absurd he2 (by decide)
 ·rw [if_neg h0] at he
  exact absurd he h0
theorem zaJ {s t:ByteArray} (h:Ext s t) (hg:Xn s) {a e:Int} (ha:0≤a) (hs:a≤(s.size:Int)) (he:(vM s a e).2.2=0):vM t a e=vM s a e:=by
 obtain ⟨n0,_,_,n1,n2,_,_⟩:=qL (e:=e) hg ha hs (Int.le_refl 0) (show (0:Int)≤1000 by decide)
 have b:=(Zm (e:=(kD s 0 1000 a e).2.2) n0 (Int.le_trans ha n1) n2).2.2.1
 unfold vM at he ⊢
 have h1:(kD s 0 1000 a e).2.2=0:=Classical.byContradiction fun hh=>hh ((b hh).symm.trans he)
 rw [Zi h hg ha hs h1]
 exact Jm h n0 (Int.le_trans ha n1) he
theorem rNone_ext {s t:ByteArray} (h:Ext s t) (hg:Xn s) {n a e:Int} (ha:0≤a) (hs:a≤(s.size:Int)) (he:(ZN s n a e).2.2=0):ZN t n a e=ZN s n a e:=by
 have h1:(kD s 0 16777215 a e).2.2=0:=by
  unfold ZN at he
  split at he
  ·have he2:(if (kD s 0 16777215 a e).2.2=0 then (4:Int) else (kD s 0 16777215 a e).2.2)=0:=he
   by_cases hz:(kD s 0 16777215 a e).2.2=0
   ·exact hz
   ·rw [if_neg hz] at he2;exact he2
  ·exact he
 unfold ZN
 rw [Zi h hg ha hs h1]
theorem rU_ext {s t:ByteArray} (h:Ext s t) (hg:Xn s) {a e:Int} (ha:0≤a) (hs:a≤(s.size:Int)) (he:(rU s a e).2.2=0):rU t a e=rU s a e:=by
 obtain ⟨_,_,o1,o2,_⟩:=vX (e:=e) ha hs (show (0:Int)≤1 by decide)
 obtain ⟨_,_,_,n1,n2,n3,_⟩:=qL (e:=(xq s 1 a e).2.2) hg (Int.le_trans ha o1) o2 (Int.le_refl 0) (show (0:Int)≤16777215 by decide)
 have he':(kD s 0 16777215 (xq s 1 a e).2.1 (xq s 1 a e).2.2).2.2=0:=he
 have h1:(xq s 1 a e).2.2=0:=Classical.byContradiction fun hh=>hh ((n3 hh).symm.trans he')
 unfold rU rUp
 rw [Qa h ha hs h1,Zi h hg (Int.le_trans ha o1) o2 he']
theorem rV_ext {k:Nat} {s t:ByteArray} (h:Ext s t) (hg:Xn s) {a e:Int} (ha:0≤a) (hs:a≤(s.size:Int)) (he:(rV k s a e).2.2=0):rV k t a e=rV k s a e:=by
 obtain ⟨_,_,o1,o2,_⟩:=vX (e:=e) ha hs (show (0:Int)≤4 by decide)
 have b:=(Zm (n:=8) (e:=(xq s 4 a e).2.2) (by decide) (Int.le_trans ha o1) o2).2.2.1
 have x:=(vI (e:=(xq s 4 a e).2.2) hg (Int.le_trans ha o1) o2).2.2.1
 have he':(Ya k s a e).2.2.2.2=0:=he
 have h1:(xq s 4 a e).2.2=0:=by
  unfold Ya at he'
  by_cases c1:(xq s 4 a e).1=1
  ·rw [if_pos c1] at he';exact he'
  rw [if_neg c1] at he'
  by_cases c2:(xq s 4 a e).1=2
  ·rw [if_pos c2] at he';exact he'
  rw [if_neg c2] at he'
  by_cases c3:(xq s 4 a e).1=3
  ·rw [if_pos c3] at he';exact Classical.byContradiction fun hh=>hh ((b hh).symm.trans he')
  rw [if_neg c3] at he'
  by_cases c4:(xq s 4 a e).1=4
  ·rw [if_pos c4] at he';exact Classical.byContradiction fun hh=>hh ((x hh).symm.trans he')
  ·rw [if_neg c4] at he';exact he'
 have ho:=Qa h ha hs h1
 have hv:Ya k t a e=Ya k s a e:=by
  unfold Ya at he' ⊢
  rw [ho]
  by_cases c1:(xq s 4 a e).1=1
  ·rw [if_pos c1,if_pos c1]
  rw [if_neg c1] at he' ⊢
  rw [if_neg c1]
  by_cases c2:(xq s 4 a e).1=2
  ·rw [if_pos c2,if_pos c2]
  rw [if_neg c2] at he' ⊢
  rw [if_neg c2]
  by_cases c3:(xq s 4 a e).1=3
  ·rw [if_pos c3] at he'
   rw [if_pos c3,if_pos c3,Jm h (by decide) (Int.le_trans ha o1) he']
  rw [if_neg c3] at he' ⊢
  rw [if_neg c3]
  by_cases c4:(xq s 4 a e).1=4
  ·rw [if_pos c4] at he'
   rw [if_pos c4,if_pos c4,zaJ h hg (Int.le_trans ha o1) o2 he']
  ·rw [if_neg c4,if_neg c4]
 unfold rV
 rw [hv]
theorem rWord_ext {s t:ByteArray} (h:Ext s t) {a e:Int} (ha:0≤a) (he:(Yh s a e).2.2=0):Yh t a e=Yh s a e:=by
 have he':(jW s 4 a e).2.2=0:=he
 unfold Yh
 rw [Jm h (by decide) ha he']
theorem YA {α:Type} {F G:Int→Int→α×Int×Int} {s:ByteArray} (hF:∀ a,0≤a→a≤(s.size:Int)→a≤(F a 0).2.1∧(F a 0).2.1≤(s.size:Int)) (hG:∀ a,0≤a→a≤(s.size:Int)→(F a 0).2.2=0→G a 0=F a 0) :
  ∀ (n:Nat) (a e:Int),0≤a→a≤(s.size:Int)→(jm F n a e).2.2=0→jm G n a e=jm F n a e
 | 0,a,e,_,_,_=>rfl
 | n+1,a,e,ha,hs,he=>by
  rw [jm] at he
  rw [jm,jm]
  by_cases h0:e=0
  ·subst h0
   rw [if_pos rfl] at he
   rw [if_pos rfl,if_pos rfl]
   obtain ⟨f1,f2⟩:=hF a ha hs
   have he':(jm F n (F a 0).2.1 (F a 0).2.2).2.2=0:=he
   have h1:(F a 0).2.2=0:=Classical.byContradiction fun hh=>hh (((kJ hF n _ _ (Int.le_trans ha f1) f2).2.2.2 hh).symm.trans he')
   rw [hG a ha hs h1,YA hF hG n _ _ (Int.le_trans ha f1) f2 he']
  ·rw [if_neg h0] at he
   exact absurd he h0
theorem jR {x y:Int} (h:x≠0→y=x) (hy:y=0):x=0:=Classical.byContradiction fun hh=>hh ((h hh).symm.trans hy)
theorem rHead_ext {k:Nat} {s t:ByteArray} (h:Ext s t) (hg:Xn s) {kids a e:Int} (hk:0≤kids) (ha:0≤a) (hs:a≤(s.size:Int)) (he:(Yp k s kids a e).2.2.2=0):Yp k t kids a e=Yp k s kids a e:=by
 obtain ⟨p,v,a11,e11,hr⟩:∃ p v a11 e11,Yp k s kids a e=(p,v,a11,e11):=⟨_,_,_,_,rfl⟩
 rw [hr] at he
 have h11:e11=0:=he
 obtain ⟨q7,q8,q9,v1,a1,e1,a2,e2,a3,e3,n4,a4,e4,a5,e5,n6,a6,e6,a7,e7,n8,a8,e8,a9,e9,a10,e10,H⟩:=head_at hg hk ha hs hr
 have b1:=Int.le_trans ha H.h1.2.1
 have b2:=Int.le_trans b1 H.h2.2.1
 have b3:=Int.le_trans b2 H.h3.2.1
 have b4:=Int.le_trans b3 H.h4.2.1
 have b5:=Int.le_trans b4 H.h5.2.1
 have b6:=Int.le_trans b5 H.h6.2.1
 have b7:=Int.le_trans b6 H.h7.2.1
 have b8:=Int.le_trans b7 H.h8.2.1
 have b9:=Int.le_trans b8 H.h9.2.1
 have b10:=Int.le_trans b9 H.h10.2.1
 have s1:=H.h1.2.2
 have s2:=H.h2.2.2.1
 have s3:=H.h3.2.2
 have s4:=H.h4.2.2.1
 have s5:=H.h5.2.2.1
 have s6:=H.h6.2.2.1
 have s7:=H.h7.2.2
 have s8:=H.h8.2.2.1
 have s9:=H.h9.2.2.1
 have s10:=H.h10.2.2
 have k2:=H.h2.2.2.2.1
 have z10:e10=0:=jR (fun hh=>by have:=(vX (m:=1) b10 s10 (by decide)).2.2.2.2 hh;rw [H.h11.1] at this;exact this) h11
 have z9:e9=0:=jR (fun hh=>by have:=(qL (lo:=0) (hi:=kids) hg b9 s9 (Int.le_refl 0) hk).2.2.2.2.2.1 hh;rw [H.h10.1] at this;exact this) z10
 have z8:e8=0:=jR (fun hh=>by have:=(kJ (F:=fun a e=>rU s a e) (fun a x y=>⟨(rU_ok (e:=0) hg x y).1,(rU_ok (e:=0) hg x y).2.1⟩) n8 a8 e8 b8 s8).2.2.2 hh;rw [H.h9.1] at this;exact this) z9
 have z7:e7=0:=jR (fun hh=>by have:=(qL (lo:=0) (hi:=60) hg b7 s7 (Int.le_refl 0) (by decide)).2.2.2.2.2.1 hh;rw [H.h8.1] at this;exact this) z8
 have z6:e6=0:=jR (fun hh=>by have:=(kJ (F:=fun a e=>rV k s a e) (fun a x y=>⟨(rV_ok (e:=0) hg x y).1,(rV_ok (e:=0) hg x y).2.1⟩) n6 a6 e6 b6 s6).2.2.2 hh;rw [H.h7.1] at this;exact this) z7
 have z5:e5=0:=jR (fun hh=>by have:=(qL (lo:=0) (hi:=500) hg b5 s5 (Int.le_refl 0) (by decide)).2.2.2.2.2.1 hh;rw [H.h6.1] at this;exact this) z6
 have z4:e4=0:=jR (fun hh=>by have:=(kJ (F:=fun a e=>Yh s a e) word_ok n4 a4 e4 b4 s4).2.2.2 hh;rw [H.h5.1] at this;exact this) z5
 have z3:e3=0:=jR (fun hh=>by have:=(qL (lo:=1) (hi:=2000) hg b3 s3 (by decide) (by decide)).2.2.2.2.2.1 hh;rw [H.h4.1] at this;exact this) z4
 have z2:e2=0:=jR (fun hh=>by have:=(qL (lo:=max 1 p.f0) (hi:=250) hg b2 s2 (by omega) (by decide)).2.2.2.2.2.1 hh;rw [H.h3.1] at this;exact this) z3
 have z1:e1=0:=jR (fun hh=>by have:=(qL (lo:=0) (hi:=250) hg b1 s1 (Int.le_refl 0) (by decide)).2.2.2.2.2.1 hh;rw [H.h2.1] at this;exact this) z2
 subst h11 z10 z9 z8 z7 z6 z5 z4 z3 z2 z1
 have t1:=(Qa h ha hs (by rw [H.h1.1])).trans H.h1.1
 have t2:=(Zi h hg b1 s1 (by rw [H.h2.1])).trans H.h2.1
 have t3:=(Zi h hg b2 s2 (by rw [H.h3.1])).trans H.h3.1
 have t4:=(Zi h hg b3 s3 (by rw [H.h4.1])).trans H.h4.1
 have t5:=(YA (G:=fun a e=>Yh t a e) word_ok (fun a x y z=>rWord_ext h x z) n4 a4 0 b4 s4 (by rw [H.h5.1])).trans H.h5.1
 have t6:=(Zi h hg b5 s5 (by rw [H.h6.1])).trans H.h6.1
 have t7:=(YA (F:=fun a e=>rV k s a e) (G:=fun a e=>rV k t a e) (fun a x y=>⟨(rV_ok (e:=0) hg x y).1,(rV_ok (e:=0) hg x y).2.1⟩) (fun a x y z=>rV_ext h hg x y z) n6 a6 0 b6 s6 (by rw [H.h7.1])).trans H.h7.1
 have t8:=(Zi h hg b7 s7 (by rw [H.h8.1])).trans H.h8.1
 have t9:=(YA (F:=fun a e=>rU s a e) (G:=fun a e=>rU t a e) (fun a x y=>⟨(rU_ok (e:=0) hg x y).1,(rU_ok (e:=0) hg x y).2.1⟩) (fun a x y z=>rU_ext h hg x y z) n8 a8 0 b8 s8 (by rw [H.h9.1])).trans H.h9.1
 have t10:=(Zi h hg b9 s9 (by rw [H.h10.1])).trans H.h10.1
 have t11:=(Qa h b10 s10 (by rw [H.h11.1])).trans H.h11.1
 have g1:=H.g1
 rw [hr]
 unfold Yp
 dsimp only
 rw [t1]
 dsimp only
 rw [t2]
 dsimp only
 rw [t3]
 dsimp only
 rw [t4]
 dsimp only
 rw [Int.toNat_natCast,t5]
 dsimp only
 rw [t6]
 dsimp only
 rw [Int.toNat_natCast,t7]
 dsimp only
 rw [t8]
 dsimp only
 rw [Int.toNat_natCast,t9]
 dsimp only
 rw [t10]
 dsimp only
 rw [t11,← g1,← q7,← q8,← q9]
theorem rDebug_ext {s t:ByteArray} (h:Ext s t) (hg:Xn s) {p:S56} {a e:Int} (ha:0≤a) (hs:a≤(s.size:Int)) (h3:p.f3.length≤2000) (h5:p.f5.length≤2000) (he:(XL s p a e).2.2=0):XL t p a e=XL s p a e:=by
 obtain ⟨q,a',e',hr⟩:=tri (XL s p a e)
 rw [hr] at he
 have h0:e'=0:=he
 obtain ⟨f7,l8,l9,a12,e12,n13,a13,e13,a14,e14,n15,a15,e15,e16,D,hq,hee⟩:=JJ hg ha hs h3 h5 hr
 have b12:=Int.le_trans ha D.d1.2.1
 have b13:=Int.le_trans b12 D.d2.2.1
 have b14:=Int.le_trans b13 D.d3.2.1
 have b15:=Int.le_trans b14 D.d4.2.1
 have s12:=D.d1.2.2
 have s13:=D.d2.2.2.1
 have s14:=D.d3.2.2
 have s15:=D.d4.2.2.1
 have hb:¬ Vo f7 l8 l9=true:=fun hb=>by
  rw [if_pos hb] at hee
  by_cases hz:e16=0
  ·rw [if_pos hz] at hee;omega
  ·rw [if_neg hz] at hee;omega
 have z16:e16=0:=by rw [if_neg hb] at hee;omega
 have z15:e15=0:=jR (fun hh=>by have:=(kJ (F:=fun a e=>vM s a e) (fun a x y=>⟨(vI (e:=0) hg x y).1,(vI (e:=0) hg x y).2.1⟩) n15 a15 e15 b15 s15).2.2.2 hh;rw [D.d5.1] at this;exact this) z16
 have z14:e14=0:=jR (fun hh=>by have:=(X7 (n:=(p.f5.length:Int)) hg b14 s14).2.2.2.2 hh;rw [D.d4.1] at this;exact this) z15
 have z13:e13=0:=jR (fun hh=>by have:=(kJ (F:=fun a e=>kD s 0 16777215 a e) (fun a x y=>⟨(qL (lo:=0) (hi:=16777215) (e:=0) hg x y (Int.le_refl 0) (by decide)).2.2.2.1,(qL (lo:=0) (hi:=16777215) (e:=0) hg x y (Int.le_refl 0) (by decide)).2.2.2.2.1⟩) n13 a13 e13 b13 s13).2.2.2 hh;rw [D.d3.1] at this;exact this) z14
 have z12:e12=0:=jR (fun hh=>by have:=(X7 (n:=(p.f3.length:Int)) hg b12 s12).2.2.2.2 hh;rw [D.d2.1] at this;exact this) z13
 subst z16 z15 z14 z13 z12
 have t1:=(zaJ h hg ha hs (by rw [D.d1.1])).trans D.d1.1
 have t2:=(rNone_ext h hg b12 s12 (by rw [D.d2.1])).trans D.d2.1
 have t3:=(YA (F:=fun a e=>kD s 0 16777215 a e) (G:=fun a e=>kD t 0 16777215 a e) (fun a x y=>⟨(qL (lo:=0) (hi:=16777215) (e:=0) hg x y (Int.le_refl 0) (by decide)).2.2.2.1,(qL (lo:=0) (hi:=16777215) (e:=0) hg x y (Int.le_refl 0) (by decide)).2.2.2.2.1⟩) (fun a x y z=>Zi h hg x y z) n13 a13 0 b13 s13 (by rw [D.d3.1])).trans D.d3.1
 have t4:=(rNone_ext h hg b14 s14 (by rw [D.d4.1])).trans D.d4.1
 have t5:=(YA (F:=fun a e=>vM s a e) (G:=fun a e=>vM t a e) (fun a x y=>⟨(vI (e:=0) hg x y).1,(vI (e:=0) hg x y).2.1⟩) (fun a x y z=>zaJ h hg x y z) n15 a15 0 b15 s15 (by rw [D.d5.1])).trans D.d5.1
 rw [hr,hq]
 unfold XL
 dsimp only
 rw [t1]
 dsimp only
 rw [t2]
 dsimp only
 rw [Int.toNat_natCast,t3]
 dsimp only
 rw [t4]
 dsimp only
 rw [Int.toNat_natCast,t5]
 dsimp only
 rw [if_neg hb,h0]
theorem rProto_ext {k:Nat} {s t:ByteArray} (h:Ext s t) (hg:Xn s) {kids a e:Int} (hk:0≤kids) (ha:0≤a) (hs:a≤(s.size:Int)) (he:(vF k s kids a e).2.2=0):vF k t kids a e=vF k s kids a e:=by
 obtain ⟨p,v,a11,e11,hr⟩:∃ p v a11 e11,Yp k s kids a e=(p,v,a11,e11):=⟨_,_,_,_,rfl⟩
 obtain ⟨_,_,c1,c2,c3,c5⟩:=rHead_kids hg ha hs hk hr
 have hx:(Yp k s kids a e).2.2.2=0:=by
  unfold vF at he
  rw [hr] at he ⊢
  dsimp only at he ⊢
  by_cases hv:v=1
  ·rw [if_pos hv] at he
   obtain ⟨q,a',e',hd⟩:=tri (XL s p a11 e11)
   rw [hd] at he
   have h0:e'=0:=he
   obtain ⟨f7,l8,l9,a12,e12,n13,a13,e13,a14,e14,n15,a15,e15,e16,D,hq,hee⟩:=JJ hg (Int.le_trans ha c1) c2 c3 c5 hd
   have b11:=Int.le_trans ha c1
   have b12:=Int.le_trans b11 D.d1.2.1
   have b13:=Int.le_trans b12 D.d2.2.1
   have b14:=Int.le_trans b13 D.d3.2.1
   have b15:=Int.le_trans b14 D.d4.2.1
   have s12:=D.d1.2.2
   have s13:=D.d2.2.2.1
   have s14:=D.d3.2.2
   have s15:=D.d4.2.2.1
   have z16:e16=0:=by
    by_cases hb:Vo f7 l8 l9=true
    ·rw [if_pos hb] at hee
     by_cases hz:e16=0
     ·exact hz
     ·rw [if_neg hz] at hee;omega
    ·rw [if_neg hb] at hee;omega
   have z15:e15=0:=jR (fun hh=>by have:=(kJ (F:=fun a e=>vM s a e) (fun a x y=>⟨(vI (e:=0) hg x y).1,(vI (e:=0) hg x y).2.1⟩) n15 a15 e15 b15 s15).2.2.2 hh;rw [D.d5.1] at this;exact this) z16
   have z14:e14=0:=jR (fun hh=>by have:=(X7 (n:=(p.f5.length:Int)) hg b14 s14).2.2.2.2 hh;rw [D.d4.1] at this;exact this) z15
   have z13:e13=0:=jR (fun hh=>by have:=(kJ (F:=fun a e=>kD s 0 16777215 a e) (fun a x y=>⟨(qL (lo:=0) (hi:=16777215) (e:=0) hg x y (Int.le_refl 0) (by decide)).2.2.2.1,(qL (lo:=0) (hi:=16777215) (e:=0) hg x y (Int.le_refl 0) (by decide)).2.2.2.2.1⟩) n13 a13 e13 b13 s13).2.2.2 hh;rw [D.d3.1] at this;exact this) z14
   have z12:e12=0:=jR (fun hh=>by have:=(X7 (n:=(p.f3.length:Int)) hg b12 s12).2.2.2.2 hh;rw [D.d2.1] at this;exact this) z13
   exact jR (fun hh=>by have:=(vI hg b11 c2).2.2.1 hh;rw [D.d1.1] at this;exact this) z12
  ·rw [if_neg hv] at he
   exact he
 have h1:=rHead_ext h hg hk ha hs hx
 unfold vF at he ⊢
 rw [h1]
 rw [hr] at he ⊢
 dsimp only at he ⊢
 by_cases hv:v=1
 ·rw [if_pos hv] at he
  rw [if_pos hv,if_pos hv]
  exact rDebug_ext h hg (Int.le_trans ha c1) c2 c3 c5 he
 ·rw [if_neg hv,if_neg hv]
theorem zaK {k:Nat} {s t:ByteArray} (h:Ext s t) (hg:Xn s):∀ (n:Nat) (a e:Int) (ps:List S56) (wanted:Int) (op:List Int),0≤a→a≤(s.size:Int)→wanted≤200→(kW k s n a e ps wanted op).2.2=0→kW k t n a e ps wanted op=kW k s n a e ps wanted op
 | 0,_,_,_,_,_,_,_,_,_=>rfl
 | n+1,a,e,ps,wanted,op,ha,hs,hw,he=>by
  rw [kW] at he
  rw [kW,kW]
  by_cases hc:(ps.length:Int)<wanted∧e=0
  ·rw [if_pos hc] at he
   rw [if_pos hc,if_pos hc]
   have hkd:(0:Int)≤(if 63≤op.length then 0 else 200-wanted):=by split <;> omega
   obtain ⟨hc1,he0⟩:=hc
   subst he0
   obtain ⟨K,hK⟩:∃ K:Int,(if 63≤op.length then 0 else 200-wanted)=K:=⟨_,rfl⟩
   have hK2:K≤200-wanted:=by rw [← hK];split <;> omega
   rw [hK] at he hkd ⊢
   obtain ⟨p,a',e',hr⟩:=tri (vF k s K a 0)
   obtain ⟨p0,p1,p2,p3⟩:=Qw hg ha hs hkd hr
   rw [hr] at he ⊢
   dsimp only at he ⊢
   have z:e'=0:=Classical.byContradiction fun hh=>by
    cases n with
    | zero=>exact hh he
    | succ n =>
     rw [kW,if_neg (fun hc=>hh hc.2)] at he
     exact hh he
   rw [rProto_ext h hg hkd ha hs (by rw [hr];exact z),hr]
   dsimp only
   exact zaK h hg n _ _ _ _ _ (Int.le_trans ha p2) p3 (by omega) he
  ·rw [if_neg hc,if_neg hc]
theorem Zj (k:Nat) {x:Int} (out:List Int) (h0:0≤x) (h:x<128) (hl:out.length<1000):zy.l0 (k+1) x out=some (strOfNums (out++vl x)):=by
 simp only [zy.l0]
 rw [if_neg (by omega),if_pos (by omega),vl_small h,show x % 256=x by omega]
theorem Xc (k:Nat) {x:Int} (out:List Int) (h0:128≤x) (h:x≤16777215) (hl:out.length<1000)
  (hr:zy.l0 k (x / 128) (out++[x % 128+128])=some (strOfNums (out++[x % 128+128]++vl (x / 128)))) :
  zy.l0 (k+1) x out=some (strOfNums (out++vl x)):=by
 simp only [zy.l0]
 rw [if_pos (by omega),if_pos (by omega),or128,hr,vl_step h0 h]
 simp
theorem impl_put {x:Int} (h0:0≤x) (h:x≤16777215) (k:Nat):zy.f (k+5) x=some (strOfNums (vl x)):=by
 have h2:decide (x > 16777215)=false:=decide_eq_false (by omega)
 unfold zy.f
 rw [if_neg (by omega),h2]
 simp only [zy.j0]
 rw [if_neg (by decide)]
 have e:∀ l:List Int,l=[]++l:=fun l=>rfl
 rw [e (vl x)]
 by_cases h1:x<128
 ·exact Zj _ _ h0 h1 (by simp)
 ·refine Xc _ _ (by omega) h (by simp) ?_
  by_cases h2:x / 128<128
  ·exact Zj _ _ (by omega) h2 (by simp)
  ·refine Xc _ _ (by omega) (by omega) (by simp) ?_
   by_cases h3:x / 128 / 128<128
   ·exact Zj _ _ (by omega) h3 (by simp)
   ·refine Xc _ _ (by omega) (by omega) (by simp) ?_
    exact Zj _ _ (by omega) (by omega) (by simp)
theorem or_byte (x b:Int) (hb0:0≤b) (hb:b≤255) :
  bits .or .u64 (IntKind.u64.wrap (x*256)) (IntKind.u64.wrap b)=IntKind.u64.wrap (IntKind.u64.wrap (x*256)+IntKind.u64.wrap b):=by
 have e:IntKind.u64.wrap (x*256)=x*256 % 18446744073709551616:=IntKind.wrap_u64 _
 have hp:0≤IntKind.u64.wrap (x*256)∧IntKind.u64.wrap (x*256)<18446744073709551616∧IntKind.u64.wrap (x*256) % 256=0:=by rw [e];omega
 have e2:IntKind.u64.wrap b=b:=u64_id hb0 (by omega)
 rw [e2]
 generalize IntKind.u64.wrap (x*256)=y at hp
 obtain ⟨h1,h2,h3⟩:=hp
 rw [or_sum_u64 8 y b h1 h3 (by omega) hb0 (by omega) (by omega),u64_id (by omega) (by omega)]
def Place (j P:Int):Prop:=(j=0∧P=1)∨(j=1∧P=128)∨(j=2∧P=16384)∨(j=3∧P=2097152)
theorem acc {j P n b:Int} (hj:Place j P) (h0:0≤n) (h1:n<P) (hb0:0≤b) (hb:b≤255) :
  Go.bits .or .i64 n (shl .i64 (wrap64 (Go.bits .and .u8 b 127)) (wrap64 (7*j)))=n+b % 128*P:=by
 rw [and127 hb0 hb,xw (show -9223372036854775808≤b % 128 by omega) (by omega),or_comm_i64]
 have hs:∀ (m:Nat) (y:Int),y=(m:Int)→m≤21→shl .i64 (b % 128) y=b % 128*2 ^ m:=by
  intro m y e hm
  subst e
  have hk:IntKind.i64.bits=64:=rfl
  unfold shl
  rw [hk,Int.toNat_natCast,Nat.min_eq_left (by omega)]
  have hp:(2:Int) ^ m≤2 ^ 21:=by exact_mod_cast Nat.pow_le_pow_right (by decide) hm
  have hp0:(0:Int)<2 ^ m:=by exact_mod_cast Nat.two_pow_pos m
  have hmul:b % 128*2 ^ m≤127*2 ^ 21:=by
   have:=Int.mul_le_mul (show b % 128≤127 by omega) hp (by omega) (by omega)
   exact this
  have hmul0:0≤b % 128*2 ^ m:=Int.mul_nonneg (by omega) (by omega)
  exact Q5 _ hmul0 (by omega)
 rcases hj with ⟨rfl,rfl⟩|⟨rfl,rfl⟩|⟨rfl,rfl⟩|⟨rfl,rfl⟩
 ·rw [show wrap64 (7*0)=((0:Nat):Int) from by unfold wrap64;omega,hs 0 _ rfl (by omega),Qb 0 _ _ (by omega) (by omega) (by omega) (by omega) (by omega) (by omega)]
  omega
 ·rw [show wrap64 (7*1)=((7:Nat):Int) from by unfold wrap64;omega,hs 7 _ rfl (by omega),Qb 7 _ _ (by omega) (by omega) (by omega) (by omega) (by omega) (by omega)]
  omega
 ·rw [show wrap64 (7*2)=((14:Nat):Int) from by unfold wrap64;omega,hs 14 _ rfl (by omega),Qb 14 _ _ (by omega) (by omega) (by omega) (by omega) (by omega) (by omega)]
  omega
 ·rw [show wrap64 (7*3)=((21:Nat):Int) from by unfold wrap64;omega,hs 21 _ rfl (by omega),Qb 21 _ _ (by omega) (by omega) (by omega) (by omega) (by omega) (by omega)]
  omega
theorem acc_is {j P n b:Int} (hj:Place j P) (h0:0≤n) (h1:n<P) (hb0:0≤b) (hb:b≤255) :
  Go.bits .or .i64 n (shl .i64 (wrap64 (Go.bits .and .u8 b 127)) (wrap64 (7*j)))=n+b % 128*P:=acc hj h0 h1 hb0 hb
theorem read_vl (T:ByteArray) (at_:Int) (ha:0≤at_) (ha1:at_≤1099511627776) (d:Nat):∀ (j P m acc:Int),j+d=4→0≤j→Place j P→0≤acc→acc<P→0≤m→(j=0∨1≤m)→acc+m*P≤16777215 →
  (∀ i (h:i<(vl m).length),bt T (at_+j+i)=(vl m)[i])→at_+j+(vl m).length≤(T.size:Int)→∀ k,2*d+2≤k →
  zA.l0 k T at_ acc (at_+j)=some (acc+m*P,at_+j+(vl m).length,true):=by
 induction d with
 | zero =>
  intro j P m acc hjd _ hj
  rcases hj with ⟨rfl,rfl⟩|⟨rfl,rfl⟩|⟨rfl,rfl⟩|⟨rfl,rfl⟩ <;> omega
 | succ d ih =>
  intro j P m acc hjd hj0 hj h0 h1 hm0 hm1 hmax hbt hsz k hk
  obtain ⟨k,rfl⟩:∃ m,k=m+2:=⟨k-2,by omega⟩
  have hj3:j≤3:=by rcases hj with ⟨rfl,rfl⟩|⟨rfl,rfl⟩|⟨rfl,rfl⟩|⟨rfl,rfl⟩ <;> omega
  have hP:1≤P∧P≤2097152:=by rcases hj with ⟨rfl,rfl⟩|⟨rfl,rfl⟩|⟨rfl,rfl⟩|⟨rfl,rfl⟩ <;> omega
  have hmm:m≤16777215:=by rcases hj with ⟨rfl,rfl⟩|⟨rfl,rfl⟩|⟨rfl,rfl⟩|⟨rfl,rfl⟩ <;> omega
  have hlen:=vl_size m
  have hl1:1≤(vl m).length:=by
   rw [hlen];split
   ·omega
   ·split
    ·omega
    ·split <;> omega
  have hb0:=hbt 0 (by omega)
  rw [show at_+j+((0:Nat):Int)=at_+j by omega] at hb0
  have hin:at_+j<(T.size:Int):=by omega
  have hr:=ZE T (at_+j)
  have ea:=acc_is hj h0 h1 hr.1 hr.2
  have e2:wrap64 (at_+4)=at_+4:=xw (by omega) (by omega)
  have e3:wrap64 (at_+j-at_)=j:=by rw [xw (by omega) (by omega)];omega
  have e4:wrap64 (7*j)=7*j:=xw (by omega) (by omega)
  have e6:wrap64 (at_+j+1)=at_+j+1:=xw (by omega) (by omega)
  rw [e4] at ea
  simp only [zA.l0]
  rw [if_pos hin,e2,decide_eq_true (show at_+j<at_+4 by omega)]
  simp only [zA.j2,if_true]
  rw [if_pos (show 0≤at_+j by omega),if_pos hin,e3,e4,if_pos (show 0≤7*j by omega),ea,e6]
  by_cases hs:m<128
  ·have ev:vl m=[m]:=vl_small hs
   have hbm:bt T (at_+j)=m:=by rw [hb0];simp [ev]
   rw [hbm,show m % 128=m by omega,if_pos hs,ev]
   have hz:¬ 16777215<acc+m*P:=by omega
   have hfin:(some (acc+m*P,at_+j+1,true):Option (Int×Int×Bool))=some (acc+m*P,at_+j+(([m]:List Int).length:Int),true):=rfl
   by_cases hm:m=0
   ·have hj00:j=0:=by omega
    rw [if_pos hm,if_neg (show ¬ at_+j > at_ by omega),if_neg hz,hfin]
   ·rw [if_neg hm,if_neg hz,hfin]
  ·have ev:vl m=(m % 128+128)::vl (m / 128):=vl_step (by omega) hmm
   have hbm:bt T (at_+j)=m % 128+128:=by rw [hb0];simp [ev]
   rw [hbm,if_neg (show ¬ m % 128+128<128 by omega),show (m % 128+128) % 128=m % 128 by omega,show at_+j+1=at_+(j+1) by omega]
   have hlc:(vl m).length=(vl (m / 128)).length+1:=by rw [ev];rfl
   have hsum:acc+m % 128*P+m / 128*(P*128)=acc+m*P:=by
    rcases hj with ⟨rfl,rfl⟩|⟨rfl,rfl⟩|⟨rfl,rfl⟩|⟨rfl,rfl⟩ <;> omega
   have:=ih (j+1) (P*128) (m / 128) (acc+m % 128*P) (by omega) (by omega)
    (by
     rcases hj with ⟨rfl,rfl⟩|⟨rfl,rfl⟩|⟨rfl,rfl⟩|⟨rfl,rfl⟩
     ·exact .inr (.inl ⟨rfl,rfl⟩)
     ·exact .inr (.inr (.inl ⟨rfl,rfl⟩))
     ·exact .inr (.inr (.inr ⟨rfl,rfl⟩))
     ·omega)
    (by rcases hj with ⟨rfl,rfl⟩|⟨rfl,rfl⟩|⟨rfl,rfl⟩|⟨rfl,rfl⟩ <;> omega)
    (by rcases hj with ⟨rfl,rfl⟩|⟨rfl,rfl⟩|⟨rfl,rfl⟩|⟨rfl,rfl⟩ <;> omega)
    (by omega) (.inr (by omega)) (by omega)
    (fun i hi=>by
     have:=hbt (i+1) (by omega)
     rw [show at_+(j+1)+(i:Int)=at_+j+((i+1:Nat):Int) by omega,this]
     simp [ev])
    (by omega) k (by omega)
   rw [this,hsum]
   have hf:at_+(j+1)+((vl (m / 128)).length:Int)=at_+j+((vl m).length:Int):=by omega
   rw [hf]
def eight (u:Int):List Int:=[u % 256,u / 256 % 256,u / 65536 % 256,u / 16777216 % 256,u / 4294967296 % 256,u / 1099511627776 % 256,u / 281474976710656 % 256,u / 72057594037927936 % 256]
theorem eight_bytes (u:Int):∀ b ∈ eight u,0≤b∧b≤255:=by
 intro b hb
 unfold eight at hb
 simp only [List.mem_cons,List.not_mem_nil,or_false] at hb
 rcases hb with h|h|h|h|h|h|h|h <;> omega
theorem Yc (T:ByteArray) (at_:Int) (ha:0≤at_) (ha1:at_≤1099511627776) (hT:at_+8≤(T.size:Int)) (k:Nat) {x i b y:Int} (hi0:0≤i) (hi:i≤7) (hb:bt T (at_+i)=b) (hx0:0≤x) (hx:x<72057594037927936) (hy:y=x*256+b) :
  zU.l0 (k+1) T at_ x i=zU.l0 k T at_ y (i-1):=by
 have hr:=ZE T (at_+i)
 rw [hb] at hr
 have e:wrap64 (at_+i)=at_+i:=xw (by omega) (by omega)
 have e2:wrap64 (i-1)=i-1:=xw (by omega) (by omega)
 conv=>lhs;simp only [zU.l0]
 rw [e,e2,if_pos hi0,if_pos (by omega),if_pos (by omega),hb,or_byte _ _ hr.1 hr.2,u64_id (show 0≤x*256 by omega) (by omega),u64_id hr.1 (by omega),u64_id (show 0≤x*256+b by omega) (by omega),← hy]
def At (s:ByteArray) (a:Nat) (bs:List UInt8):Prop:=bs <+: s.data.toList.drop a
theorem At.app {s:ByteArray} {a:Nat} {b c:List UInt8} (h:At s a (b++c)):At s a b∧At s (a+b.length) c:=by
 obtain ⟨r,hr⟩:=h
 refine ⟨⟨c++r,by rw [← hr,List.append_assoc]⟩,⟨r,?_⟩⟩
 rw [← List.drop_drop,← hr,List.append_assoc,List.drop_left]
theorem At.len {s:ByteArray} {a:Nat} {bs:List UInt8} (h:At s a bs) (ha:a≤s.size):a+bs.length≤s.size:=by
 have:=h.length_le
 rw [List.length_drop] at this
 have e:s.data.toList.length=s.size:=Array.length_toList
 omega
theorem At.byte {s:ByteArray} {a:Nat} {b:UInt8} {bs:List UInt8} (h:At s a (b::bs)):a<s.size∧bt s (a:Int)=(b.toNat:Int):=by
 obtain ⟨r,hr⟩:=h
 have hlt:a<s.size:=by
  have e:s.data.toList.length=s.size:=Array.length_toList
  have h1:(s.data.toList.drop a).length=s.size-a:=by rw [List.length_drop,e]
  rw [← hr] at h1
  simp at h1
  omega
 refine ⟨hlt,?_⟩
 have h2:(s.data.toList.drop a)[0]?=some b:=by rw [← hr];rfl
 rw [List.getElem?_drop,Nat.add_zero] at h2
 unfold bt
 rw [dif_pos (by rw [Int.toNat_natCast];exact hlt)]
 congr 2
 have e:s.data.toList[a]?=some s.data[a]:=by rw [Array.getElem?_toList];exact Array.getElem?_eq_getElem hlt
 rw [e] at h2
 exact Option.some.inj h2
theorem At.ex {s:ByteArray} {a:Nat} {bs:List UInt8} (h:At s a bs):s.extract a (a+bs.length)=⟨bs.toArray⟩:=by
 apply ByteArray.ext
 rw [ByteArray.data_extract]
 apply Array.ext'
 rw [Array.toList_extract,List.extract_eq_take_drop]
 obtain ⟨r,hr⟩:=h
 rw [← hr]
 simp
theorem Qc {s:ByteArray} {a:Nat} {b:UInt8} {bs:List UInt8} (h:At s a (b::bs)) {m:Int} (hm:(b.toNat:Int)≤m):xq s m (a:Int) 0=((b.toNat:Int),((a+1:Nat):Int),0):=by
 obtain ⟨h1,h2⟩:=h.byte
 unfold xq
 rw [if_pos rfl,if_neg (by omega),h2,if_neg (by omega)]
 rfl
theorem bytes_at {s:ByteArray} {a:Nat} {bs:List UInt8} (h:At s a bs) (ha:a≤s.size) {n:Int} (hn:n=(bs.length:Int)):jW s n (a:Int) 0=((⟨bs.toArray⟩:ByteArray),((a+bs.length:Nat):Int),0):=by
 have hl:=h.len ha
 unfold jW
 rw [if_pos rfl,if_neg (by omega),hn,Int.toNat_natCast,show ((a:Int)+(bs.length:Int)).toNat=a+bs.length by omega,h.ex]
 rfl
def vb (n:Int):List UInt8:=(vl n).map fun x=>UInt8.ofNat x.toNat
theorem vb_len (n:Int):(vb n).length=(vl n).length:=List.length_map ..
theorem vl_bytes {x:Int} (h0:0≤x) (h1:x≤16777215):∀ b ∈ vl x,0≤b∧b≤255:=by
 intro b hb
 unfold vl at hb
 by_cases h:x<128
 ·rw [if_pos h] at hb;simp only [List.mem_cons,List.not_mem_nil,or_false] at hb;omega
 ·rw [if_neg h] at hb
  by_cases h2:x<16384
  ·rw [if_pos h2] at hb;simp only [List.mem_cons,List.not_mem_nil,or_false] at hb;omega
  ·rw [if_neg h2] at hb
   by_cases h3:x<2097152
   ·rw [if_pos h3] at hb;simp only [List.mem_cons,List.not_mem_nil,or_false] at hb;omega
   ·rw [if_neg h3] at hb;simp only [List.mem_cons,List.not_mem_nil,or_false] at hb;omega
theorem At.nums {s:ByteArray} {a:Nat} {l:List Int} (h:At s a (l.map fun x=>UInt8.ofNat x.toNat)) (hb:∀ b ∈ l,0≤b∧b≤255):∀ (i:Nat) (hi:i<l.length),bt s ((a:Int)+i)=l[i]:=by
 intro i hi
 have e:(l.map fun x=>UInt8.ofNat x.toNat)=(l.take i).map (fun x=>UInt8.ofNat x.toNat)++(UInt8.ofNat l[i].toNat::(l.drop (i+1)).map fun x=>UInt8.ofNat x.toNat):=by
  conv=>lhs;rw [← List.take_append_drop i l,List.drop_eq_getElem_cons hi,List.map_append,List.map_cons]
 rw [e] at h
 have h2:=h.app.2.byte.2
 rw [List.length_map,List.length_take,Nat.min_eq_left (by omega)] at h2
 rw [show (a:Int)+i=((a+i:Nat):Int) by omega,h2]
 have:=hb _ (List.getElem_mem hi)
 rw [UInt8.toNat_ofNat']
 omega
theorem gv_at {s:ByteArray} {a:Nat} {n:Int} (h0:0≤n) (h1:n≤16777215) (h:At s a (vb n)) (ha:a≤s.size) (hz:s.size≤1099511627776):gv s (a:Int)=(n,((a+(vb n).length:Nat):Int),true):=by
 have hl:=h.len ha
 rw [vb_len] at hl
 have:=read_vl s (a:Int) (by omega) (by omega) 4 0 1 n 0 (by omega) (by omega) (.inl ⟨rfl,rfl⟩) (by omega) (by omega) h0 (.inl rfl) (by omega) (fun i hi=>by rw [Int.add_zero];exact h.nums (vl_bytes h0 h1) i hi) (by omega) 38 (by omega)
 rw [Int.add_zero] at this
 unfold gv zA.f
 rw [if_neg (by omega),decide_eq_false (by omega)]
 simp only [zA.j0,Bool.false_eq_true,if_false]
 have h39:=read_vl s (a:Int) (by omega) (by omega) 4 0 1 n 0 (by omega) (by omega) (.inl ⟨rfl,rfl⟩) (by omega) (by omega) h0 (.inl rfl) (by omega) (fun i hi=>by rw [Int.add_zero];exact h.nums (vl_bytes h0 h1) i hi) (by omega) 39 (by omega)
 rw [Int.add_zero] at h39
 rw [h39,Option.getD_some,vb_len,show (0:Int)+n*1=n by omega]
 rfl
theorem num_at {s:ByteArray} {a:Nat} {n lo hi:Int} (h0:0≤n) (h1:n≤16777215) (hlo:lo≤n) (hhi:n≤hi) (h:At s a (vb n)) (ha:a≤s.size) (hz:s.size≤1099511627776):kD s lo hi (a:Int) 0=(n,((a+(vb n).length:Nat):Int),0):=by
 unfold kD
 rw [if_pos rfl,gv_at h0 h1 h ha hz,if_pos rfl,if_neg (by dsimp only;omega)]
theorem text_at {s:ByteArray} {a:Nat} {x:ByteArray} (hx:x.size≤1000) (h:At s a (vb (x.size:Int)++x.data.toList)) (ha:a≤s.size) (hz:s.size≤1099511627776):vM s (a:Int) 0=(x,((a+(vb (x.size:Int)++x.data.toList).length:Nat):Int),0):=by
 obtain ⟨h1,h2⟩:=h.app
 have e:x.data.toList.length=x.size:=Array.length_toList
 have hl:=h1.len ha
 unfold vM
 rw [num_at (by omega) (by omega) (by omega) (by omega) h1 ha hz]
 dsimp only
 rw [bytes_at h2 hl (by rw [e]),List.length_append]
 refine Prod.ext ?_ (Prod.ext ?_ rfl)
 ·exact ByteArray.ext (by rw [Array.toArray_toList])
 ·show ((_:Nat):Int)=((_:Nat):Int)
  omega
theorem none_at {s:ByteArray} {a:Nat} {n m:Int} (h0:0≤n) (h1:n≤16777215) (hm:n=0∨n=m) (h:At s a (vb n)) (ha:a≤s.size) (hz:s.size≤1099511627776):ZN s m (a:Int) 0=(n,((a+(vb n).length:Nat):Int),0):=by
 unfold ZN
 rw [num_at h0 h1 h0 h1 h ha hz,if_neg (fun hh=>by obtain ⟨x,y⟩:=hh;dsimp only at x y;omega)]
theorem some_at {α:Type} {s:ByteArray} {F:Int→Int→α×Int×Int} {g:α→Option (List UInt8)}:∀ (xs:List α) (bs:List UInt8) (a:Nat),zf.QW g xs=some bs→At s a bs→a≤s.size →
  (∀ x ∈ xs,∀ (b:List UInt8) (a:Nat),g x=some b→At s a b→a≤s.size→F (a:Int) 0=(x,((a+b.length:Nat):Int),0))→jm F xs.length (a:Int) 0=(xs,((a+bs.length:Nat):Int),0)
 | [],bs,a,h,_,_,_=>by
  obtain rfl:=Option.some.inj h
  rfl
 | x::xs,bs,a,h,hat,ha,hF=>by
  rw [zf.QW] at h
  obtain ⟨b,hb,h⟩:=Option.bind_eq_some_iff.1 h
  obtain ⟨r,hr,h⟩:=Option.bind_eq_some_iff.1 h
  obtain rfl:=Option.some.inj h
  obtain ⟨h1,h2⟩:=hat.app
  have hf:=hF x List.mem_cons_self b a hb h1 ha
  have ih:=some_at xs r (a+b.length) hr h2 (h1.len ha) (fun y hy=>hF y (List.mem_cons_of_mem _ hy))
  rw [List.length_cons,jm,if_pos rfl,hf]
  dsimp only
  rw [ih,List.length_append,Nat.add_assoc]
theorem self_at (bs:List UInt8):At (⟨bs.toArray⟩:ByteArray) 0 bs:=⟨[],by simp⟩
theorem word_at {s:ByteArray} {a:Nat} {x:Int} (h0:0≤x) (h1:x≤4294967295) (h:At s a (zf.vS x)) (ha:a≤s.size):Yh s (a:Int) 0=(x,((a+(zf.vS x).length:Nat):Int),0):=by
 have n:=(self_at (zf.vS x))
 have n:At (⟨(zf.vS x).toArray⟩:ByteArray) 0 (([x % 256,x / 256 % 256,x / 65536 % 256,x / 16777216 % 256]:List Int).map fun y=>UInt8.ofNat y.toNat):=n
 have hb:∀ b ∈ ([x % 256,x / 256 % 256,x / 65536 % 256,x / 16777216 % 256]:List Int),0≤b∧b≤255:=by
  intro b hb
  simp only [List.mem_cons,List.not_mem_nil,or_false] at hb
  omega
 have b0:=n.nums hb 0 (by simp)
 have b1:=n.nums hb 1 (by simp)
 have b2:=n.nums hb 2 (by simp)
 have b3:=n.nums hb 3 (by simp)
 unfold Yh
 rw [bytes_at (n:=4) h ha rfl,if_pos rfl]
 have e:le4 (⟨(zf.vS x).toArray⟩:ByteArray)=x:=by
  unfold le4
  have c0:bt (⟨(zf.vS x).toArray⟩:ByteArray) 0=x % 256:=b0
  have c1:bt (⟨(zf.vS x).toArray⟩:ByteArray) 1=x / 256 % 256:=b1
  have c2:bt (⟨(zf.vS x).toArray⟩:ByteArray) 2=x / 65536 % 256:=b2
  have c3:bt (⟨(zf.vS x).toArray⟩:ByteArray) 3=x / 16777216 % 256:=b3
  rw [c0,c1,c2,c3]
  omega
 rw [e]
theorem fb_nat (b:Bool):((zf.fb b).toNat:Int)=if b=true then 1 else 0:=by cases b <;> rfl
theorem flag_at {s:ByteArray} {a:Nat} {b:Bool} {bs:List UInt8} (h:At s a (zf.fb b::bs)):xq s 1 (a:Int) 0=((if b=true then 1 else 0),((a+1:Nat):Int),0):=by
 rw [Qc h (m:=1) (by rw [fb_nat];split <;> omega),fb_nat]
theorem gi_at {T:ByteArray} {u:Int} (h0:0≤u) (h1:u<18446744073709551616) (hs:T.size=8) (hb:∀ (i:Nat) (hi:i<(eight u).length),bt T ((0:Int)+i)=(eight u)[i]):zU.f 100 T 0=some (wrap64 u,8,true):=by
 unfold zU.f
 rw [if_neg (by omega),decide_eq_false (by rw [xw (by omega) (by omega)];omega)]
 simp only [zU.j0,Bool.false_eq_true,if_false]
 have hl:(eight u).length=8:=rfl
 have b0:bt T (0+0)=u % 256:=hb 0 (by omega)
 have b1:bt T (0+1)=u / 256 % 256:=hb 1 (by omega)
 have b2:bt T (0+2)=u / 65536 % 256:=hb 2 (by omega)
 have b3:bt T (0+3)=u / 16777216 % 256:=hb 3 (by omega)
 have b4:bt T (0+4)=u / 4294967296 % 256:=hb 4 (by omega)
 have b5:bt T (0+5)=u / 1099511627776 % 256:=hb 5 (by omega)
 have b6:bt T (0+6)=u / 281474976710656 % 256:=hb 6 (by omega)
 have b7:bt T (0+7)=u / 72057594037927936 % 256:=hb 7 (by omega)
 have hT:(0:Int)+8≤(T.size:Int):=by omega
 have ha:(0:Int)≤0:=Int.le_refl 0
 have ha1:(0:Int)≤1099511627776:=by decide
 rw [Yc T _ ha ha1 hT 98 (y:=u / 72057594037927936) (by omega) (by omega) b7 (by omega) (by omega) (by omega),show (7:Int)-1=6 by omega]
 rw [Yc T _ ha ha1 hT 97 (y:=u / 281474976710656) (by omega) (by omega) b6 (by omega) (by omega) (by omega),show (6:Int)-1=5 by omega]
 rw [Yc T _ ha ha1 hT 96 (y:=u / 1099511627776) (by omega) (by omega) b5 (by omega) (by omega) (by omega),show (5:Int)-1=4 by omega]
 rw [Yc T _ ha ha1 hT 95 (y:=u / 4294967296) (by omega) (by omega) b4 (by omega) (by omega) (by omega),show (4:Int)-1=3 by omega]
 rw [Yc T _ ha ha1 hT 94 (y:=u / 16777216) (by omega) (by omega) b3 (by omega) (by omega) (by omega),show (3:Int)-1=2 by omega]
 rw [Yc T _ ha ha1 hT 93 (y:=u / 65536) (by omega) (by omega) b2 (by omega) (by omega) (by omega),show (2:Int)-1=1 by omega]
 rw [Yc T _ ha ha1 hT 92 (y:=u / 256) (by omega) (by omega) b1 (by omega) (by omega) (by omega),show (1:Int)-1=0 by omega]
 rw [Yc T _ ha ha1 hT 91 (y:=u) (by omega) (by omega) b0 (by omega) (by omega) (by omega),show (0:Int)-1=-1 by omega]
 rw [zU.l0,if_neg (by omega),show wrap64 (0+8)=8 by unfold wrap64;omega]
theorem four8:((4:UInt8).toNat:Int)=4:=rfl
theorem three8:((3:UInt8).toNat:Int)=3:=rfl
theorem zero8:((0:UInt8).toNat:Int)=0:=rfl
theorem one8:((UInt8.ofNat (wrap64 (1+0) % 256).toNat).toNat:Int)=1:=by rw [show wrap64 (1+0)=1 by unfold wrap64;omega];rfl
theorem two8:((UInt8.ofNat (wrap64 (1+1) % 256).toNat).toNat:Int)=2:=by rw [show wrap64 (1+1)=2 by unfold wrap64;omega];rfl
theorem vb_put {n:Int} (h0:0≤n) (h1:n≤16777215):zy.f 10 n=some (strOfNums (vl n)):=impl_put h0 h1 5
theorem YB (n:Int):(strOfNums (vl n)).data.toList=vb n:=strOfNums_data _
structure PlV (v:S67):Prop where
 rng:-9223372036854775808≤v.f1∧v.f1≤9223372036854775807
 ok:(v.f0=3∧v.f1=0∧v.f2.size≤1000)∨(v.f0=1∧(v.f1=0∨v.f1=1)∧v.f2.size=0)∨(v.f0=2∧v.f2.size=0)∨(v.f0=0∧v.f1=0∧v.f2.size=0)
theorem empty_of {x:ByteArray} (h:x.size=0):x=⟨#[]⟩:=ByteArray.ext (Array.eq_empty_of_size_eq_zero h)
theorem value_at {s:ByteArray} {a:Nat} {v:S67} (hv:PlV v) {bs:List UInt8} (hb:zf.vW 10 v.f0 v.f1 v.f2=some bs) (h:At s a bs) (ha:a≤s.size) (hz:s.size≤1099511627776):rV 100 s (a:Int) 0=(v,((a+bs.length:Nat):Int),0):=by
 obtain ⟨f0,f1,f2⟩:=v
 have hr:=hv.rng
 have ho:=hv.ok
 dsimp only at hr ho hb
 unfold zf.vW at hb
 unfold rV Ya
 rcases ho with ⟨rfl,rfl,h3⟩|⟨rfl,h1,h3⟩|⟨rfl,h3⟩|⟨rfl,rfl,h3⟩
 ·have hp:=vb_put (n:=(f2.size:Int)) (by omega) (by omega)
  rw [if_neg (by decide),if_neg (by decide),if_neg (by decide),if_pos rfl,hp,Option.map_some,YB] at hb
  obtain rfl:=Option.some.inj hb
  have hh:At s a ([(4:UInt8)]++(vb (f2.size:Int)++f2.data.toList)):=h
  obtain ⟨g1,g2⟩:=hh.app
  rw [Qc g1 (m:=4) (by rw [four8];omega),four8]
  dsimp only
  rw [if_neg (by decide),if_neg (by decide),if_neg (by decide),if_pos rfl]
  dsimp only
  have hq:=text_at h3 g2 (g1.len ha) hz
  have ea:((a+[(4:UInt8)].length:Nat):Int)=((a+1:Nat):Int):=rfl
  rw [ea] at hq
  rw [hq]
  dsimp only
  refine Prod.ext rfl (Prod.ext ?_ rfl)
  show ((_:Nat):Int)=((_:Nat):Int)
  simp only [List.length_cons,List.length_nil]
  omega
 ·rw [if_neg (by decide),if_pos rfl] at hb
  obtain rfl:=Option.some.inj hb
  obtain rfl:=empty_of h3
  rcases h1 with rfl|rfl
  ·rw [Qc h (m:=4) (by rw [one8];omega),one8]
   dsimp only
   rw [if_pos rfl]
   rfl
  ·rw [Qc h (m:=4) (by rw [two8];omega),two8]
   dsimp only
   rw [if_neg (by decide),if_pos rfl]
   rfl
 ·rw [if_neg (by decide),if_neg (by decide),if_pos rfl] at hb
  unfold Zf.f at hb
  rw [Option.map_some,strOfNums_data] at hb
  obtain rfl:=Option.some.inj hb
  obtain rfl:=empty_of h3
  obtain ⟨u,hu⟩:∃ u,IntKind.u64.wrap f1=u:=⟨_,rfl⟩
  have hu0:0≤u∧u<18446744073709551616:=by rw [← hu,IntKind.wrap_u64];omega
  have hw:wrap64 u=f1:=by rw [← hu,IntKind.wrap_u64];unfold wrap64;omega
  rw [hu] at h ⊢
  have hh:At s a ([(3:UInt8)]++(eight u).map fun x=>UInt8.ofNat x.toNat):=h
  obtain ⟨g1,g2⟩:=hh.app
  have hl:((eight u).map fun x=>UInt8.ofNat x.toNat).length=8:=rfl
  rw [Qc g1 (m:=4) (by rw [three8];omega),three8]
  dsimp only
  rw [if_neg (by decide),if_neg (by decide),if_pos rfl]
  dsimp only
  have hq:=bytes_at (n:=8) g2 (g1.len ha) rfl
  have ea:((a+[(3:UInt8)].length:Nat):Int)=((a+1:Nat):Int):=rfl
  rw [ea] at hq
  rw [hq]
  dsimp only
  unfold gi
  rw [gi_at (u:=u) hu0.1 hu0.2 rfl (fun i hi=>(self_at ((eight u).map fun x=>UInt8.ofNat x.toNat)).nums (eight_bytes u) i hi),Option.getD_some]
  refine Prod.ext ?_ (Prod.ext ?_ rfl)
  ·show (⟨2,wrap64 u,⟨#[]⟩⟩:S67)=_
   rw [hw]
  ·rfl
 ·rw [if_pos rfl] at hb
  obtain rfl:=Option.some.inj hb
  obtain rfl:=empty_of h3
  rw [Qc h (m:=4) (by rw [zero8];omega),zero8]
  dsimp only
  rw [if_neg (by decide),if_neg (by decide),if_neg (by decide),if_neg (by decide)]
  rfl
theorem up_at {s:ByteArray} {a:Nat} {u:S71} (h0:0≤u.f1) (h1:u.f1≤16777215) {bs:List UInt8} (hb:(zy.f 10 u.f1).map (fun t=>zf.fb u.f0::t.data.toList)=some bs) (h:At s a bs) (ha:a≤s.size) (hz:s.size≤1099511627776):rU s (a:Int) 0=(u,((a+bs.length:Nat):Int),0):=by
 rw [vb_put h0 h1,Option.map_some,YB] at hb
 obtain rfl:=Option.some.inj hb
 have hh:At s a ([zf.fb u.f0]++vb u.f1):=h
 obtain ⟨g1,g2⟩:=hh.app
 unfold rU rUp
 rw [flag_at g1]
 dsimp only
 have hq:=num_at h0 h1 h0 h1 g2 (g1.len ha) hz
 have ea:((a+[zf.fb u.f0].length:Nat):Int)=((a+1:Nat):Int):=rfl
 rw [ea] at hq
 rw [hq]
 obtain ⟨b,n⟩:=u
 refine Prod.ext ?_ (Prod.ext ?_ rfl)
 ·cases b <;> rfl
 ·show ((_:Nat):Int)=((_:Nat):Int)
  simp only [List.length_cons,List.length_nil]
  omega
structure GP (p:S56):Prop where
 f2:1≤p.f2∧p.f2≤250
 f0:0≤p.f0∧p.f0≤p.f2
 l3:1≤p.f3.length∧p.f3.length≤2000
 l4:p.f4.length≤500
 l5:p.f5.length≤60
 f6:0≤p.f6∧p.f6≤200
 f7:p.f7.size≤1000
 l8:p.f8.length=0∨p.f8.length=p.f3.length
 l9:p.f9.length=0∨p.f9.length=p.f5.length
 w:∀ x ∈ p.f3,0≤x∧x≤4294967295
 c:∀ v ∈ p.f4,PlV v
 u:∀ v ∈ p.f5,0≤v.f1∧v.f1≤16777215
 n:∀ x ∈ p.f8,0≤x∧x≤16777215
 t:∀ x ∈ p.f9,x.size≤1000
theorem flag_c {s:ByteArray} {a:Nat} {b:Bool} {r:List UInt8} (h:At s a (zf.fb b::r)):∃ a':Nat,xq s 1 (a:Int) 0=((if b=true then 1 else 0),(a':Int),0)∧At s a' r∧a'≤s.size∧a'=a+1 :=
 have hh:At s a ([zf.fb b]++r):=h
 ⟨a+1,flag_at h,hh.app.2,h.byte.1,rfl⟩
theorem num_c {s:ByteArray} {a:Nat} {n lo hi:Int} {r:List UInt8} (h0:0≤n) (h1:n≤16777215) (hlo:lo≤n) (hhi:n≤hi) (h:At s a (vb n++r)) (ha:a≤s.size) (hz:s.size≤1099511627776):∃ a':Nat,kD s lo hi (a:Int) 0=(n,(a':Int),0)∧At s a' r∧a'≤s.size∧a'=a+(vb n).length :=
 ⟨a+(vb n).length,num_at h0 h1 hlo hhi h.app.1 ha hz,h.app.2,h.app.1.len ha,rfl⟩
theorem none_c {s:ByteArray} {a:Nat} {n m:Int} {r:List UInt8} (h0:0≤n) (h1:n≤16777215) (hm:n=0∨n=m) (h:At s a (vb n++r)) (ha:a≤s.size) (hz:s.size≤1099511627776):∃ a':Nat,ZN s m (a:Int) 0=(n,(a':Int),0)∧At s a' r∧a'≤s.size∧a'=a+(vb n).length :=
 ⟨a+(vb n).length,none_at h0 h1 hm h.app.1 ha hz,h.app.2,h.app.1.len ha,rfl⟩
theorem text_c {s:ByteArray} {a:Nat} {x:ByteArray} {r:List UInt8} (hx:x.size≤1000) (h:At s a (vb (x.size:Int)++(x.data.toList++r))) (ha:a≤s.size) (hz:s.size≤1099511627776):∃ a':Nat,vM s (a:Int) 0=(x,(a':Int),0)∧At s a' r∧a'≤s.size∧a'=a+(vb (x.size:Int)).length+x.size:=by
 rw [← List.append_assoc] at h
 refine ⟨a+(vb (x.size:Int)++x.data.toList).length,text_at hx h.app.1 ha hz,h.app.2,h.app.1.len ha,?_⟩
 have e:x.data.toList.length=x.size:=Array.length_toList
 rw [List.length_append,e]
 omega
theorem some_c {α:Type} {s:ByteArray} {F:Int→Int→α×Int×Int} {g:α→Option (List UInt8)} {xs:List α} {bs r:List UInt8} {a:Nat} (hc:zf.QW g xs=some bs) (h:At s a (bs++r)) (ha:a≤s.size)
  (hF:∀ x ∈ xs,∀ (b:List UInt8) (a:Nat),g x=some b→At s a b→a≤s.size→F (a:Int) 0=(x,((a+b.length:Nat):Int),0)):∃ a':Nat,jm F xs.length (a:Int) 0=(xs,(a':Int),0)∧At s a' r∧a'≤s.size∧a'=a+bs.length :=
 ⟨a+bs.length,some_at xs bs a hc h.app.1 ha hF,h.app.2,h.app.1.len ha,rfl⟩
theorem Za {n:Int} {t:ByteArray} (h0:0≤n) (h1:n≤16777215) (h:zy.f 10 n=some t):t.data.toList=vb n:=by
 rw [vb_put h0 h1] at h
 obtain rfl:=Option.some.inj h
 exact YB n
theorem bare_is (p:S56) {b:Bool} (h:xk.f p.f0 p.f1 p.f2 p.f3 p.f4 p.f5 p.f6 p.f7 p.f8 p.f9=some b):Vo p.f7 p.f8 p.f9=b:=by
 exact Option.some.inj ((bare_eq _ _ _ _ _ _ _ _ _ _).symm.trans h)
theorem proto_at {s:ByteArray} {p:S56} (hp:GP p) {bs:List UInt8} {a:Nat} {kids:Int} (hb:zf.pb p=some bs) (h:At s a bs) (ha:a≤s.size) (hz:s.size≤1099511627776) (hk:p.f6≤kids):vF 100 s kids (a:Int) 0=(p,((a+bs.length:Nat):Int),0):=by
 obtain ⟨q,M,rfl⟩:=zf.pb_made hb
 have f0:=hp.f0
 have f2:=hp.f2
 have l3:=hp.l3
 have l4:=hp.l4
 have l5:=hp.l5
 have f6:=hp.f6
 have f7:=hp.f7
 have l8:=hp.l8
 have l9:=hp.l9
 have e0:=Za (by omega) (by omega) M.h0
 have e2:=Za (by omega) (by omega) M.h2
 have e3:=Za (by omega) (by omega) M.h3
 have e4:=Za (by omega) (by omega) M.h4
 have e5:=Za (by omega) (by omega) M.h5
 have e6:=Za (by omega) (by omega) M.h6
 have e7:=Za (by omega) (by omega) M.h7
 have e8:=Za (by omega) (by omega) M.h8
 have e9:=Za (by omega) (by omega) M.h9
 have hlen:(zf.whole p q).length=(zf.head p q).length+(1+(if q.br=true then [] else zf.tail p q).length):=by
  unfold zf.whole
  rw [List.length_append,List.length_append]
  rfl
 have hhead:(zf.head p q).length=1+(vb p.f0).length+(vb p.f2).length+(vb (p.f3.length:Int)).length+q.b3.length+(vb (p.f4.length:Int)).length+q.b4.length+(vb (p.f5.length:Int)).length+q.b5.length+(vb p.f6).length:=by
  unfold zf.head
  rw [e0,e2,e3,e4,e5,e6]
  simp only [List.length_append,List.length_cons,List.length_nil]
  omega
 have hA:At s a (zf.fb p.f1::(vb p.f0++(vb p.f2++(vb (p.f3.length:Int)++(q.b3++(vb (p.f4.length:Int)++(q.b4++(vb (p.f5.length:Int)++(q.b5++(vb p.f6++(zf.fb (!q.br)::(if q.br=true then [] else zf.tail p q)))))))))))):=by
  have:=h
  unfold zf.whole zf.head at this
  rw [e0,e2,e3,e4,e5,e6] at this
  simpa only [List.append_assoc,List.cons_append,List.nil_append] using this
 rw [hlen,hhead]
 obtain ⟨a1,r1,A1,z1,g1⟩:=flag_c hA
 obtain ⟨a2,r2,A2,z2,g2⟩:=num_c (lo:=0) (hi:=250) (by omega) (by omega) (by omega) (by omega) A1 z1 hz
 obtain ⟨a3,r3,A3,z3,g3⟩:=num_c (lo:=max 1 p.f0) (hi:=250) (by omega) (by omega) (by omega) (by omega) A2 z2 hz
 obtain ⟨a4,r4,A4,z4,g4⟩:=num_c (lo:=1) (hi:=2000) (by omega) (by omega) (by omega) (by omega) A3 z3 hz
 obtain ⟨a5,r5,A5,z5,g5⟩:=some_c (F:=fun a e=>Yh s a e) M.g3 A4 z4 (fun x hx b a hb hat ha=>by
  obtain rfl:=Option.some.inj hb
  exact word_at (hp.w x hx).1 (hp.w x hx).2 hat ha)
 obtain ⟨a6,r6,A6,z6,g6⟩:=num_c (lo:=0) (hi:=500) (by omega) (by omega) (by omega) (by omega) A5 z5 hz
 obtain ⟨a7,r7,A7,z7,g7⟩:=some_c (F:=fun a e=>rV 100 s a e) M.g4 A6 z6 (fun x hx b a hb hat ha=>value_at (hp.c x hx) hb hat ha hz)
 obtain ⟨a8,r8,A8,z8,g8⟩:=num_c (lo:=0) (hi:=60) (by omega) (by omega) (by omega) (by omega) A7 z7 hz
 obtain ⟨a9,r9,A9,z9,g9⟩:=some_c (F:=fun a e=>rU s a e) M.g5 A8 z8 (fun x hx b a hb hat ha=>up_at (hp.u x hx).1 (hp.u x hx).2 hb hat ha hz)
 obtain ⟨a10,r10,A10,z10,g10⟩:=num_c (lo:=0) (hi:=kids) (by omega) (by omega) (by omega) (by omega) A9 z9 hz
 obtain ⟨a11,r11,A11,z11,g11⟩:=flag_c A10
 have hbr:=bare_is p M.hb
 have hf1:((if p.f1=true then (1:Int) else 0) == 1)=p.f1:=by cases p.f1 <;> rfl
 have hH:Yp 100 s kids (a:Int) 0=(⟨p.f0,p.f1,p.f2,p.f3,p.f4,p.f5,p.f6,⟨#[]⟩,[],[]⟩,(if (!q.br)=true then 1 else 0),(a11:Int),0):=by
  unfold Yp
  dsimp only
  rw [r1]
  dsimp only
  rw [r2]
  dsimp only
  rw [r3]
  dsimp only
  rw [r4]
  dsimp only
  rw [Int.toNat_natCast,r5]
  dsimp only
  rw [r6]
  dsimp only
  rw [Int.toNat_natCast,r7]
  dsimp only
  rw [r8]
  dsimp only
  rw [Int.toNat_natCast,r9]
  dsimp only
  rw [r10]
  dsimp only
  rw [r11,hf1]
 unfold vF
 rw [hH]
 dsimp only
 cases hq:q.br
 ·rw [hq] at A11
  rw [if_neg (by decide)] at A11
  rw [if_pos (by decide),if_neg (by decide)]
  unfold zf.tail at A11 ⊢
  rw [e7,e8,e9] at A11 ⊢
  simp only [List.append_assoc] at A11
  obtain ⟨a12,r12,A12,z12,g12⟩:=text_c f7 A11 z11 hz
  obtain ⟨a13,r13,A13,z13,g13⟩:=none_c (m:=(p.f3.length:Int)) (by omega) (by omega) (by omega) A12 z12 hz
  obtain ⟨a14,r14,A14,z14,g14⟩:=some_c (F:=fun a e=>kD s 0 16777215 a e) M.g8 A13 z13 (fun x hx b a hb hat ha=>by
   rw [vb_put (hp.n x hx).1 (hp.n x hx).2,Option.map_some,YB] at hb
   obtain rfl:=Option.some.inj hb
   exact num_at (hp.n x hx).1 (hp.n x hx).2 (hp.n x hx).1 (hp.n x hx).2 hat ha hz)
  obtain ⟨a15,r15,A15,z15,g15⟩:=none_c (m:=(p.f5.length:Int)) (by omega) (by omega) (by omega) A14 z14 hz
  have A15':At s a15 (q.b9++[]):=by rw [List.append_nil];exact A15
  obtain ⟨a16,r16,A16,z16,g16⟩:=some_c (F:=fun a e=>vM s a e) M.g9 A15' z15 (fun x hx b a hb hat ha=>by
   have ht:=hp.t x hx
   rw [vb_put (by omega) (by omega),Option.map_some,YB] at hb
   obtain rfl:=Option.some.inj hb
   exact text_at ht hat ha hz)
  have hD:XL s ⟨p.f0,p.f1,p.f2,p.f3,p.f4,p.f5,p.f6,⟨#[]⟩,[],[]⟩ (a11:Int) 0=(p,(a16:Int),0):=by
   unfold XL
   dsimp only
   rw [r12]
   dsimp only
   rw [r13]
   dsimp only
   rw [Int.toNat_natCast,r14]
   dsimp only
   rw [r15]
   dsimp only
   rw [Int.toNat_natCast,r16]
   dsimp only
   rw [hbr,hq,if_neg (by decide)]
  have hl:((vb (p.f7.size:Int))++p.f7.data.toList++(vb (p.f8.length:Int)++q.b8++(vb (p.f9.length:Int)++q.b9))).length=(vb (p.f7.size:Int)).length+p.f7.size+(vb (p.f8.length:Int)).length+q.b8.length+(vb (p.f9.length:Int)).length+q.b9.length:=by
   have e:p.f7.data.toList.length=p.f7.size:=Array.length_toList
   simp only [List.length_append,e]
   omega
  rw [hD,hl]
  refine Prod.ext rfl (Prod.ext ?_ rfl)
  show ((_:Nat):Int)=((_:Nat):Int)
  omega
 ·rw [if_neg (by decide),if_pos (by decide)]
  rw [hq] at hbr
  have hz:p.f7=⟨#[]⟩∧p.f8=[]∧p.f9=[]:=by
   unfold Vo at hbr
   simp only [Bool.and_eq_true,decide_eq_true_eq] at hbr
   obtain ⟨x,y,z⟩:=hbr
   refine ⟨?_,List.length_eq_zero_iff.1 y,List.length_eq_zero_iff.1 z⟩
   have e:p.f7.toList.length=p.f7.size:=by rw [ByteArray.toList_eq];exact Array.length_toList
   rw [x] at e
   exact empty_of e.symm
  refine Prod.ext ?_ (Prod.ext ?_ rfl)
  ·show (⟨p.f0,p.f1,p.f2,p.f3,p.f4,p.f5,p.f6,⟨#[]⟩,[],[]⟩:S56)=p
   rw [← hz.1,← hz.2.1,← hz.2.2]
  ·show ((_:Nat):Int)=((_:Nat):Int)
   rw [List.length_nil]
   omega
def D (op:List Int):List Int:=upd (op++[0])
theorem rd_last (l:List Int) (x:Int):rd (l++[x]) (((l++[x]).length:Int)-1)=x:=by
 unfold rd
 rw [List.length_append,List.length_singleton,show (((l.length+1:Nat):Int)-1).toNat=l.length by omega]
 simp [List.getD]
theorem zaL (l:List Int):JC (l++[0])=JC l:=by
 unfold JC
 rw [List.length_append,List.length_singleton,popN,if_pos ⟨by simp,rd_last l 0⟩]
 rw [List.length_append,List.length_singleton,Nat.add_sub_cancel,List.take_left]
theorem popZ_some (l:List Int) {m:Int} (h:m≠0):JC (l++[m])=l++[m]:=by
 unfold JC
 rw [List.length_append,List.length_singleton,popN,if_neg (fun hh=>h ((rd_last l m).symm.trans hh.2))]
theorem upd_some (l:List Int) {m:Int} (h:m≠0):upd (l++[m])=l++[m-1]:=by
 unfold upd
 rw [popZ_some l h,if_pos (by simp),rd_last]
 rw [List.length_append,List.length_singleton,Nat.add_sub_cancel]
 simp
theorem D_some (l:List Int) {m:Int} (h:m≠0):D (l++[m])=l++[m-1]:=by
 unfold D upd
 rw [zaL]
 have:=upd_some l h
 unfold upd at this
 exact this
theorem D_zero (l:List Int):D (l++[0])=D l:=by
 unfold D upd
 rw [zaL]
theorem D_nil:D []=[]:=by
 unfold D upd
 rw [zaL]
 rfl
structure Pos (s:ByteArray) (c:List S56) (i a:Nat):Prop where
 le:a≤s.size
 at_:∃ bs,zf.QW zf.pb (c.drop i)=some bs∧At s a bs∧a+bs.length=s.size
theorem Pos.next {s:ByteArray} {c:List S56} {i a:Nat} (h:Pos s c i a) (hi:i<c.length) (hg:∀ p ∈ c,GP p) (hz:s.size≤1099511627776) {kids:Int} (hk:c[i].f6≤kids):∃ a',vF 100 s kids (a:Int) 0=(c[i],((a':Nat):Int),0)∧Pos s c (i+1) a':=by
 obtain ⟨bs,hc,hat,hsz⟩:=h.at_
 obtain ⟨b,r,hb,hr,rfl⟩:=zf.ZM hi hc
 obtain ⟨h1,h2⟩:=hat.app
 refine ⟨a+b.length,proto_at (hg _ (List.getElem_mem hi)) hb h1 h.le hz hk,h1.len h.le,r,hr,h2,?_⟩
 rw [List.length_append] at hsz
 omega
def JK (c:List S56) (i:Nat):Int:=((c.take i).map (·.f6)).sum
theorem YC {c:List S56} {i:Nat} (hi:i<c.length):JK c (i+1)=JK c i+c[i].f6:=by
 unfold JK
 rw [List.take_add_one,List.getElem?_eq_getElem hi,Option.toList_some,List.map_append,List.sum_append,List.map_cons,List.map_nil,List.sum_cons,List.sum_nil,Int.add_zero]
theorem ks_at {c:List S56} {i:Nat} (hi:i<c.length):(c.map (·.f6)).getD i 0=c[i].f6:=by simp [List.getD,hi]
theorem zaM {c:List S56}:∀ (f i:Nat) (e:Nat),endOf (c.map (·.f6)) f i=(e:Int)→JK c e=JK c i+(e:Int)-(i:Int)-1∧i<e∧e≤c.length:=by
 intro f
 induction f with
 | zero=>intro i e h;simp only [endOf] at h;omega
 | succ f ih =>
  intro i e h
  rw [endOf,List.length_map] at h
  by_cases h1:c.length≤i
  ·rw [if_pos h1] at h;omega
  rw [if_neg h1] at h
  have hi:i<c.length:=by omega
  rw [ks_at hi] at h
  by_cases h2:c[i].f6<0
  ·rw [if_pos h2] at h;omega
  rw [if_neg h2] at h
  have lp:∀ (m x:Nat),lpE (endOf (c.map (·.f6)) f) m x=(e:Int)→x≤c.length→JK c e=JK c x+(e:Int)-(x:Int)-(m:Int)∧x≤e∧e≤c.length:=by
   intro m
   induction m with
   | zero =>
    intro x hx hl
    simp only [lpE] at hx
    obtain rfl:x=e:=by omega
    exact ⟨by omega,Nat.le_refl _,hl⟩
   | succ m ihm =>
    intro x hx hl
    simp only [lpE] at hx
    by_cases hn:endOf (c.map (·.f6)) f x<0
    ·rw [if_pos hn] at hx;omega
    ·rw [if_neg hn] at hx
     obtain ⟨y,hy⟩:∃ y:Nat,endOf (c.map (·.f6)) f x=(y:Int):=⟨_,(Int.toNat_of_nonneg (by omega)).symm⟩
     rw [hy,Int.toNat_natCast] at hx
     obtain ⟨s1,s2,s3⟩:=ih x y hy
     obtain ⟨s4,s5,s6⟩:=ihm y hx s3
     exact ⟨by omega,by omega,s6⟩
  obtain ⟨s1,s2,s3⟩:=lp _ _ h hi
  rw [YC hi] at s1
  exact ⟨by omega,by omega,s3⟩
theorem end_zero {c:List S56} {i e:Nat} {f:Nat} (h:endOf (c.map (·.f6)) f i=(e:Int)):∀ j:Nat,i≤j→j<e→∀ hj:j<c.length,0≤c[j].f6:=by
 intro j h1 h2 hj
 obtain ⟨_,s2,s3⟩:=zaM f i e h
 rcases Zu (ks:=c.map (·.f6)) f i (by rw [List.length_map];omega) with hb|⟨_,_,hb⟩
 ·omega
 ·rw [← ks_at hj]
  exact hb j h1 (by omega)
theorem Q9 {c:List S56} (h0:∀ j (hj:j<c.length),0≤c[j].f6):∀ (d i:Nat),i+d≤c.length→JK c i≤JK c (i+d)
 | 0,i,_=>Int.le_refl _
 | d+1,i,h=>by
  have:=Q9 h0 d i (by omega)
  rw [← Nat.add_assoc,YC (by omega)]
  have:=h0 (i+d) (by omega)
  omega
theorem loop_step {s:ByteArray} {c:List S56} {i a n:Nat} {op:List Int} (hP:Pos s c i a) (hi:i<c.length) (hg:∀ p ∈ c,GP p) (hz:s.size≤1099511627776) (hw:(i:Int)<1+JK c i) (hk:c[i].f6≤if 63≤op.length then 0 else 200-(1+JK c i)) :
  ∃ a',kW 100 s (n+1) (a:Int) 0 (c.take i) (1+JK c i) op=kW 100 s n ((a':Nat):Int) 0 (c.take (i+1)) (1+JK c (i+1)) (upd (op++[c[i].f6]))∧Pos s c (i+1) a':=by
 obtain ⟨a',hr,hp⟩:=hP.next hi hg hz hk
 refine ⟨a',?_,hp⟩
 have ht:(c.take i).length=i:=by rw [List.length_take];omega
 rw [kW,if_pos ⟨by rw [ht];exact hw,rfl⟩,hr]
 dsimp only
 rw [YC hi,List.take_add_one,List.getElem?_eq_getElem hi]
 rw [Int.add_assoc]
 rfl
theorem loop_tree {s:ByteArray} {c:List S56} (hc:c.length≤200) (hg:∀ p ∈ c,GP p) (hz:s.size≤1099511627776) (hW:1+JK c c.length≤200):∀ (f i:Nat) (e:Nat) (op:List Int) (n a:Nat),endOf (c.map (·.f6)) f i=(e:Int)→op.length+f=64→(∀ x ∈ op,0≤x)→1+JK c i-(i:Int)=1+op.sum→Pos s c i a→c.length≤n+i →
  ∃ n' a',kW 100 s n (a:Int) 0 (c.take i) (1+JK c i) op=kW 100 s n' ((a':Nat):Int) 0 (c.take e) (1+JK c e) (D op)∧Pos s c e a'∧n'+e=n+i:=by
 have h0:∀ j (hj:j<c.length),0≤c[j].f6:=fun j hj=>(hg _ (List.getElem_mem hj)).f6.1
 have sum0:∀ l:List Int,(∀ x ∈ l,0≤x)→0≤l.sum:=by
  intro l
  induction l with
  | nil=>intro _;exact Int.le_refl _
  | cons x l ih =>
   intro h
   rw [List.sum_cons]
   have:=h x List.mem_cons_self
   have:=ih (fun y hy=>h y (List.mem_cons_of_mem _ hy))
   omega
 intro f
 induction f with
 | zero=>intro i e op n a h;simp only [endOf] at h;omega
 | succ f ih =>
  intro i e op n a h hop hop0 hsum hP hn
  obtain ⟨t1,t2,t3⟩:=zaM (f+1) i e h
  have hi:i<c.length:=by omega
  rw [endOf,List.length_map,if_neg (by omega),ks_at hi,if_neg (by have:=h0 i hi;omega)] at h
  have s0:=sum0 op hop0
  have hki:=h0 i hi
  have hmono:=Q9 h0 (c.length-(i+1)) (i+1) (by omega)
  rw [show i+1+(c.length-(i+1))=c.length by omega,YC hi] at hmono
  obtain ⟨n,rfl⟩:∃ m,n=m+1:=⟨n-1,by omega⟩
  obtain ⟨K,hK⟩:∃ K:Nat,c[i].f6=(K:Int):=⟨_,(Int.toNat_of_nonneg hki).symm⟩
  have hdeep:63≤op.length→K=0:=by
   intro hd
   obtain rfl:f=0:=by omega
   rcases Nat.eq_zero_or_pos K with hz|hz
   ·exact hz
   ·obtain ⟨k,rfl⟩:∃ k,K=k+1:=⟨K-1,by omega⟩
    rw [hK,Int.toNat_natCast,lpE,if_pos (by simp only [endOf];decide)] at h
    omega
  obtain ⟨a1,hs1,hP1⟩:=loop_step (op:=op) (n:=n) hP hi hg hz (by omega) (by
   by_cases hd:63≤op.length
   ·rw [if_pos hd,hK,hdeep hd];decide
   ·rw [if_neg hd];omega)
  rw [hs1]
  rw [hK] at h
  rw [Int.toNat_natCast] at h
  -- the children
  have kids:∀ (m x:Nat) (a n:Nat),lpE (endOf (c.map (·.f6)) f) (m+1) x=(e:Int)→x≤c.length→1+JK c x-(x:Int)=1+(op++[(m:Int)]).sum→Pos s c x a→c.length≤n+x →
    ∃ n' a',kW 100 s n (a:Int) 0 (c.take x) (1+JK c x) (op++[(m:Int)])=kW 100 s n' ((a':Nat):Int) 0 (c.take e) (1+JK c e) (D op)∧Pos s c e a'∧n'+e=n+x:=by
   intro m
   induction m with
   | zero =>
    intro x a n hx hl hsm hp hnn
    simp only [lpE] at hx
    by_cases hneg:endOf (c.map (·.f6)) f x<0
    ·rw [if_pos hneg] at hx;omega
    ·rw [if_neg hneg] at hx
     have hx2:endOf (c.map (·.f6)) f x=(e:Int):=by omega
     obtain ⟨n',a',r1,r2,r3⟩:=ih x e (op++[((0:Nat):Int)]) n a hx2 (by simp;omega) (fun y hy=>by
      rcases List.mem_append.1 hy with hy|hy
      ·exact hop0 y hy
      ·rw [List.mem_singleton] at hy;omega) hsm hp hnn
     refine ⟨n',a',?_,r2,r3⟩
     rw [r1]
     have:=D_zero op
     rw [show ((0:Nat):Int)=0 from rfl,this]
   | succ m ihm =>
    intro x a n hx hl hsm hp hnn
    rw [lpE] at hx
    by_cases hneg:endOf (c.map (·.f6)) f x<0
    ·rw [if_pos hneg] at hx;omega
    ·rw [if_neg hneg] at hx
     obtain ⟨y,hy⟩:∃ y:Nat,endOf (c.map (·.f6)) f x=(y:Int):=⟨_,(Int.toNat_of_nonneg (by omega)).symm⟩
     rw [hy,Int.toNat_natCast] at hx
     obtain ⟨y1,y2,y3⟩:=zaM f x y hy
     obtain ⟨n1,a1,r1,r2,r3⟩:=ih x y (op++[((m+1:Nat):Int)]) n a hy (by simp;omega) (fun z hz=>by
      rcases List.mem_append.1 hz with hz|hz
      ·exact hop0 z hz
      ·rw [List.mem_singleton] at hz;omega) hsm hp hnn
     rw [D_some op (by omega),show ((m+1:Nat):Int)-1=(m:Int) by omega] at r1
     have hsm2:1+JK c y-(y:Int)=1+(op++[(m:Int)]).sum:=by
      rw [List.sum_append,List.sum_singleton] at hsm ⊢
      omega
     obtain ⟨n2,a2,q1,q2,q3⟩:=ihm y a1 n1 hx y3 hsm2 r2 (by omega)
     exact ⟨n2,a2,r1.trans q1,q2,by omega⟩
  cases K with
  | zero =>
   simp only [lpE] at h
   obtain rfl:e=i+1:=by omega
   refine ⟨n,a1,?_,hP1,by omega⟩
   rw [hK]
   rfl
  | succ k =>
   have hu:upd (op++[c[i].f6])=op++[(k:Int)]:=by
    rw [hK,upd_some op (by omega),show ((k+1:Nat):Int)-1=(k:Int) by omega]
   rw [hu]
   obtain ⟨n2,a2,q1,q2,q3⟩:=kids k (i+1) a1 n h hi (by
    rw [List.sum_append,List.sum_singleton,YC hi,hK]
    omega) hP1 (by omega)
   exact ⟨n2,a2,q1,q2,by omega⟩
theorem ZV {α:Type} {g:α→Option (List UInt8)} {K:Nat}:∀ {xs:List α},(∀ x ∈ xs,∃ b,g x=some b∧b.length≤K)→∃ bs,zf.QW g xs=some bs∧bs.length≤K*xs.length
 | [],_=>⟨[],rfl,Nat.zero_le _⟩
 | x::xs,h=>by
  obtain ⟨b,hb,hl⟩:=h x List.mem_cons_self
  obtain ⟨bs,hbs,hl2⟩:=ZV (xs:=xs) (fun y hy=>h y (List.mem_cons_of_mem _ hy))
  refine ⟨b++bs,by rw [zf.QW,hb,Option.bind_some,hbs,Option.bind_some],?_⟩
  rw [List.length_append,List.length_cons,Nat.mul_succ]
  omega
theorem vb_four (n:Int):(vb n).length≤4:=by
 rw [vb_len,vl_size]
 split
 ·omega
 ·split
  ·omega
  ·split <;> omega
theorem kR {n:Int} (h0:0≤n) (h1:n≤16777215):∃ t,zy.f 10 n=some t∧t.data.toList.length≤4:=⟨_,vb_put h0 h1,by rw [YB];exact vb_four n⟩
theorem value_some {v:S67} (hv:PlV v):∃ b,zf.vW 10 v.f0 v.f1 v.f2=some b∧b.length≤1005:=by
 obtain ⟨f0,f1,f2⟩:=v
 have hr:=hv.rng
 have ho:=hv.ok
 dsimp only at hr ho
 unfold zf.vW
 dsimp only
 rcases ho with ⟨rfl,rfl,h3⟩|⟨rfl,h1,h3⟩|⟨rfl,h3⟩|⟨rfl,rfl,h3⟩
 ·obtain ⟨t,ht,hl⟩:=kR (n:=(f2.size:Int)) (by omega) (by omega)
  have e:f2.data.toList.length=f2.size:=Array.length_toList
  refine ⟨4::(t.data.toList++f2.data.toList),?_,by rw [List.length_cons,List.length_append];omega⟩
  rw [if_neg (by decide),if_neg (by decide),if_neg (by decide),if_pos rfl,ht]
  rfl
 ·exact ⟨_,by rw [if_neg (by decide),if_pos rfl],by simp⟩
 ·refine ⟨_,by rw [if_neg (by decide),if_neg (by decide),if_pos rfl];unfold Zf.f;rw [Option.map_some],?_⟩
  rw [strOfNums_data]
  simp
 ·exact ⟨_,by rw [if_pos rfl],by simp⟩
theorem pb_some {p:S56} (hp:GP p):∃ b,zf.pb p=some b∧b.length≤1000000:=by
 have f0:=hp.f0
 have f2:=hp.f2
 have l3:=hp.l3
 have l4:=hp.l4
 have l5:=hp.l5
 have f6:=hp.f6
 have f7:=hp.f7
 have l8:=hp.l8
 have l9:=hp.l9
 obtain ⟨s0,h0,k0⟩:=kR (n:=p.f0) (by omega) (by omega)
 obtain ⟨s2,h2,k2⟩:=kR (n:=p.f2) (by omega) (by omega)
 obtain ⟨n3,h3,k3⟩:=kR (n:=(p.f3.length:Int)) (by omega) (by omega)
 obtain ⟨n4,h4,k4⟩:=kR (n:=(p.f4.length:Int)) (by omega) (by omega)
 obtain ⟨n5,h5,k5⟩:=kR (n:=(p.f5.length:Int)) (by omega) (by omega)
 obtain ⟨s6,h6,k6⟩:=kR (n:=p.f6) (by omega) (by omega)
 obtain ⟨n7,h7,k7⟩:=kR (n:=(p.f7.size:Int)) (by omega) (by omega)
 obtain ⟨n8,h8,k8⟩:=kR (n:=(p.f8.length:Int)) (by omega) (by omega)
 obtain ⟨n9,h9,k9⟩:=kR (n:=(p.f9.length:Int)) (by omega) (by omega)
 obtain ⟨b3,g3,m3⟩:=ZV (g:=fun x=>some (zf.vS x)) (K:=4) (xs:=p.f3) (fun x _=>⟨_,rfl,Nat.le_refl _⟩)
 obtain ⟨b4,g4,m4⟩:=ZV (g:=fun x:S67=>zf.vW 10 x.f0 x.f1 x.f2) (K:=1005) (xs:=p.f4) (fun x hx=>value_some (hp.c x hx))
 obtain ⟨b5,g5,m5⟩:=ZV (g:=fun x:S71=>(zy.f 10 x.f1).map fun t=>zf.fb x.f0::t.data.toList) (K:=5) (xs:=p.f5) (fun x hx=>by
  obtain ⟨t,ht,hl⟩:=kR (hp.u x hx).1 (hp.u x hx).2
  exact ⟨_,by rw [ht,Option.map_some],by rw [List.length_cons];omega⟩)
 obtain ⟨b8,g8,m8⟩:=ZV (g:=fun x:Int=>(zy.f 10 x).map fun t=>t.data.toList) (K:=4) (xs:=p.f8) (fun x hx=>by
  obtain ⟨t,ht,hl⟩:=kR (hp.n x hx).1 (hp.n x hx).2
  exact ⟨_,by rw [ht,Option.map_some],hl⟩)
 obtain ⟨b9,g9,m9⟩:=ZV (g:=fun x:ByteArray=>(zy.f 10 (x.size:Int)).map fun t=>t.data.toList++x.data.toList) (K:=1004) (xs:=p.f9) (fun x hx=>by
  have hz:=hp.t x hx
  have e:x.data.toList.length=x.size:=Array.length_toList
  obtain ⟨t,ht,hl⟩:=kR (n:=(x.size:Int)) (by omega) (by omega)
  exact ⟨_,by rw [ht,Option.map_some],by rw [List.length_append];omega⟩)
 have hall:(p.f3.all fun x=>decide (0≤x) && decide (x≤4294967295))=true:=List.all_eq_true.2 fun x hx=>by
  have:=hp.w x hx
  rw [decide_eq_true this.1,decide_eq_true this.2]
  rfl
 have e7:p.f7.data.toList.length=p.f7.size:=Array.length_toList
 refine ⟨zf.whole p ⟨s0,s2,n3,b3,n4,b4,n5,b5,s6,Vo p.f7 p.f8 p.f9,n7,n8,b8,n9,b9⟩,?_,?_⟩
 ·unfold zf.pb zf.wordsB zf.constsB zf.upsB zf.numsB zf.textsB
  rw [if_pos hall,h0,Option.bind_some,h2,Option.bind_some,h3,Option.bind_some,g3,Option.bind_some,h4,Option.bind_some,g4,Option.bind_some,h5,Option.bind_some,g5,Option.bind_some,h6,Option.bind_some,bare_eq,Option.bind_some,h7,Option.bind_some,h8,Option.bind_some,g8,Option.bind_some,h9,Option.bind_some,g9,Option.bind_some]
 ·unfold zf.whole zf.head zf.tail
  have hm4:b4.length≤502500:=by omega
  have hm3:b3.length≤8000:=by omega
  have hm5:b5.length≤300:=by omega
  have hm8:b8.length≤8000:=by omega
  have hm9:b9.length≤60240:=by omega
  split
  ·simp only [List.length_append,List.length_cons,List.length_nil]
   omega
  ·simp only [List.length_append,List.length_cons,List.length_nil]
   omega
theorem gv_tot (s:ByteArray) (at_:Int) (ha:0≤at_) (ha1:at_≤1099511627776) (d:Nat):∀ (j P n:Int),j+d=4→0≤j→(j<4→Place j P)→0≤n→n<P →
  ∃ r:Int×Int×Bool,(r.2.2=true→0≤r.1∧r.1≤16777215∧at_<r.2.1∧r.2.1≤(s.size:Int))∧∀ k,2*d+4≤k→zA.l0 k s at_ n (at_+j)=some r:=by
 induction d with
 | zero =>
  intro j P n hjd _ _ _ _
  obtain rfl:j=4:=by omega
  refine ⟨(0,0,false),fun h=>by simp at h,fun k hk=>?_⟩
  obtain ⟨k,rfl⟩:∃ m,k=m+2:=⟨k-2,by omega⟩
  simp only [zA.l0]
  rw [xw (show -9223372036854775808≤at_+4 by omega) (by omega),decide_eq_false (show ¬ at_+4<at_+4 by omega)]
  simp only [zA.j2,Bool.false_eq_true,if_false]
  split <;> rfl
 | succ d ih =>
  intro j P n hjd hj0 hP h0 h1
  have hj:=hP (by omega)
  have hj3:j≤3:=by omega
  have e2:wrap64 (at_+4)=at_+4:=xw (by omega) (by omega)
  have e3:wrap64 (at_+j-at_)=j:=by rw [xw (by omega) (by omega)];omega
  have e4:wrap64 (7*j)=7*j:=xw (by omega) (by omega)
  have e6:wrap64 (at_+j+1)=at_+j+1:=xw (by omega) (by omega)
  have hr:=ZE s (at_+j)
  have ea:=acc_is hj h0 h1 hr.1 hr.2
  rw [e4] at ea
  by_cases hin:at_+j<(s.size:Int)
  ·by_cases hb:bt s (at_+j)<128
   ·have step:∀ k,2*(d+1)+4≤k→zA.l0 k s at_ n (at_+j)=some (if (bt s (at_+j)=0∧at_+j > at_)∨n+bt s (at_+j) % 128*P > 16777215 then (0,0,false) else (n+bt s (at_+j) % 128*P,at_+j+1,true)):=by
     intro k hk
     obtain ⟨k,rfl⟩:∃ m,k=m+2:=⟨k-2,by omega⟩
     simp only [zA.l0]
     rw [if_pos hin,e2,decide_eq_true (show at_+j<at_+4 by omega)]
     simp only [zA.j2,if_true]
     rw [if_pos (show 0≤at_+j by omega),if_pos hin,e3,e4,if_pos (show 0≤7*j by omega),ea,e6,if_pos hb]
     by_cases hz:bt s (at_+j)=0
     ·rw [if_pos hz]
      by_cases hg:at_+j > at_
      ·rw [if_pos hg,if_pos (.inl ⟨hz,hg⟩)]
      ·rw [if_neg hg]
       by_cases hm:n+bt s (at_+j) % 128*P > 16777215
       ·rw [if_pos hm,if_pos (.inr hm)]
       ·rw [if_neg hm,if_neg (fun hh=>hh.elim (fun q=>hg q.2) hm)]
     ·rw [if_neg hz]
      by_cases hm:n+bt s (at_+j) % 128*P > 16777215
      ·rw [if_pos hm,if_pos (.inr hm)]
      ·rw [if_neg hm,if_neg (fun hh=>hh.elim (fun q=>hz q.1) hm)]
    refine ⟨_,fun hh=>?_,step⟩
    by_cases hc:(bt s (at_+j)=0∧at_+j > at_)∨n+bt s (at_+j) % 128*P > 16777215
    ·rw [if_pos hc] at hh;cases hh
    ·rw [if_neg hc]
     have hm:¬ n+bt s (at_+j) % 128*P > 16777215:=fun q=>hc (.inr q)
     have hpos:0≤bt s (at_+j) % 128*P:=Int.mul_nonneg (by omega) (by omega)
     exact ⟨by dsimp only;omega,by dsimp only;omega,by dsimp only;omega,by dsimp only;omega⟩
   ·have hlt:bt s (at_+j) % 128*P≤127*P:=Int.mul_le_mul_of_nonneg_right (by omega) (by omega)
    have hpos:0≤bt s (at_+j) % 128*P:=Int.mul_nonneg (by omega) (by omega)
    obtain ⟨r,hr1,hr2⟩:=ih (j+1) (P*128) (n+bt s (at_+j) % 128*P) (by omega) (by omega)
     (fun hj4=>by
      rcases hj with ⟨rfl,rfl⟩|⟨rfl,rfl⟩|⟨rfl,rfl⟩|⟨rfl,rfl⟩
      ·exact .inr (.inl ⟨rfl,rfl⟩)
      ·exact .inr (.inr (.inl ⟨rfl,rfl⟩))
      ·exact .inr (.inr (.inr ⟨rfl,rfl⟩))
      ·omega) (by omega) (by omega)
    refine ⟨r,hr1,fun k hk=>?_⟩
    obtain ⟨k,rfl⟩:∃ m,k=m+2:=⟨k-2,by omega⟩
    have:=hr2 k (by omega)
    simp only [zA.l0]
    rw [if_pos hin,e2,decide_eq_true (show at_+j<at_+4 by omega)]
    simp only [zA.j2,if_true]
    rw [if_pos (show 0≤at_+j by omega),if_pos hin,e3,e4,if_pos (show 0≤7*j by omega),ea,e6,if_neg hb,show at_+j+1=at_+(j+1) by omega]
    exact this
  ·refine ⟨(0,0,false),fun h=>by simp at h,fun k hk=>?_⟩
   obtain ⟨k,rfl⟩:∃ m,k=m+2:=⟨k-2,by omega⟩
   simp only [zA.l0]
   rw [if_neg hin]
   simp only [zA.j2,Bool.false_eq_true,if_false]
theorem gv_ok {s:ByteArray} (hs:s.size≤1099511627776):Xn s:=fun a ha h1=>by
 obtain ⟨r,hq,hr⟩:=gv_tot s a ha (by omega) 4 0 1 0 (by omega) (by omega) (fun _=>.inl ⟨rfl,rfl⟩) (by omega) (by omega)
 rw [Int.add_zero] at hr
 have e:zA.f 40 s a=some r:=by
  unfold zA.f
  rw [if_neg (by omega),decide_eq_false (by omega)]
  simp only [zA.j0,Bool.false_eq_true,if_false]
  exact hr 39 (by omega)
 have e2:gv s a=r:=by unfold gv;rw [e];rfl
 rw [e2]
 exact ⟨e,hq⟩
theorem gi_tot (s:ByteArray) (h:s.size=8):∀ (d:Nat) (x i:Int),i+1=d→d≤8→∃ r,∀ k,d<k→zU.l0 k s 0 x i=some r:=by
 intro d
 induction d with
 | zero =>
  intro x i hi _
  refine ⟨(wrap64 x,wrap64 (0+8),true),fun k hk=>?_⟩
  obtain ⟨k,rfl⟩:∃ m,k=m+1:=⟨k-1,by omega⟩
  rw [zU.l0,if_neg (by omega)]
 | succ d ih =>
  intro x i hi hd
  have e:wrap64 (0+i)=0+i:=xw (by omega) (by omega)
  have e2:wrap64 (i-1)=i-1:=xw (by omega) (by omega)
  obtain ⟨r,hr⟩:=ih (Go.bits .or .u64 (IntKind.u64.wrap (x*256)) (IntKind.u64.wrap (bt s (0+i)))) (i-1) (by omega) (by omega)
  refine ⟨r,fun k hk=>?_⟩
  obtain ⟨k,rfl⟩:∃ m,k=m+1:=⟨k-1,by omega⟩
  rw [zU.l0,e,e2,if_pos (by omega),if_pos (by omega),if_pos (by omega)]
  exact hr k (by omega)
theorem gi_ok:∀ s:ByteArray,s.size≤8→∃ r,zU.f 100 s 0=some r:=by
 intro s hs
 unfold zU.f
 rw [if_neg (by omega),xw (by omega) (by omega)]
 by_cases h:(s.size:Int)-0<8
 ·rw [decide_eq_true h]
  exact ⟨(0,0,false),by simp only [zU.j0,if_true]⟩
 ·rw [decide_eq_false h]
  simp only [zU.j0,Bool.false_eq_true,if_false]
  obtain ⟨r,hr⟩:=gi_tot s (by omega) 8 0 7 (by omega) (by omega)
  exact ⟨r,hr _ (by omega)⟩
theorem hdr_size:(⟨#[27,76,82,86,1,0]⟩:ByteArray).size=6:=rfl
theorem zaN (s:ByteArray):∃ b,strings_HasPrefix.f s ⟨#[27,76,82,86,1,0]⟩=some b∧(b=true→6≤s.size):=by
 unfold strings_HasPrefix.f stringslite_HasPrefix.f
 rw [hdr_size]
 by_cases h:(s.size:Int) ≥ ((6:Nat):Int)
 ·rw [if_pos h,if_pos (by omega),if_pos h]
  exact ⟨_,rfl,fun _=>by omega⟩
 ·rw [if_neg h]
  exact ⟨false,rfl,fun hh=>by cases hh⟩
theorem prefix_at {s:ByteArray} (h:At s 0 zf.hdr) (hs:6≤s.size):strings_HasPrefix.f s ⟨#[27,76,82,86,1,0]⟩=some true:=by
 unfold strings_HasPrefix.f stringslite_HasPrefix.f
 rw [hdr_size,if_pos (by omega),if_pos (by omega),if_pos (by omega),Int.toNat_natCast]
 have e:s.extract 0 6=⟨#[27,76,82,86,1,0]⟩:=h.ex
 rw [e,Option.bind_some]
 simp
theorem ld_ok {s:ByteArray} (hs:s.size≤1099511627776):LdOk s:=by
 obtain ⟨b,hb,h6⟩:=zaN s
 exact ⟨gv_ok hs,by omega,gi_ok,b,hb,h6⟩
theorem load_is {s:ByteArray} (hs:s.size≤1099511627776):xY.f s=some (rLoad 100 s):=by
 unfold xY.f
 rw [if_pos (ld_ok hs)]
theorem zaO {k:Nat} {s:ByteArray} (hg:Xn s):∀ (n:Nat) (a e:Int) (ps:List S56) (wanted:Int) (op:List Int),0≤a→a≤(s.size:Int)→wanted≤200→a≤(kW k s n a e ps wanted op).2.1∧(kW k s n a e ps wanted op).2.1≤(s.size:Int)
 | 0,_,_,_,_,_,_,hs,_=>⟨Int.le_refl _,hs⟩
 | n+1,a,e,ps,wanted,op,ha,hs,hw=>by
  rw [kW]
  by_cases hc:(ps.length:Int)<wanted∧e=0
  ·rw [if_pos hc]
   have hkd:(0:Int)≤(if 63≤op.length then 0 else 200-wanted):=by split <;> omega
   obtain ⟨K,hK⟩:∃ K:Int,(if 63≤op.length then 0 else 200-wanted)=K:=⟨_,rfl⟩
   have hK2:K≤200-wanted:=by rw [← hK];split <;> omega
   rw [hK] at hkd ⊢
   obtain ⟨p,a',e',hr⟩:=tri (vF k s K a e)
   obtain ⟨p0,p1,p2,p3⟩:=Qw hg ha hs hkd hr
   rw [hr]
   dsimp only
   have ih:=zaO (k:=k) hg n a' e' (ps++[p]) (wanted+p.f6) (upd (op++[p.f6])) (Int.le_trans ha p2) p3 (by omega)
   exact ⟨Int.le_trans p2 ih.1,ih.2⟩
  ·rw [if_neg hc]
   exact ⟨Int.le_refl _,hs⟩
structure Wr (c:List S56) (s:ByteArray):Prop where
 size:s.size≤1000000000
 hdr:At s 0 zf.hdr
 six:6≤s.size
 pos:Pos s c 0 6
theorem wr_of {c:List S56} (hc:c.length≤200) (hg:∀ p ∈ c,GP p):∃ m,zf.QW zf.pb c=some m∧m.length≤140737488000000∧Wr c ⟨(zf.hdr++m).toArray⟩:=by
 obtain ⟨m,hm,hl⟩:=ZV (g:=zf.pb) (K:=1000000) (xs:=c) (fun p hp=>pb_some (hg p hp))
 have hz:(⟨(zf.hdr++m).toArray⟩:ByteArray).size=6+m.length:=by
  show (zf.hdr++m).toArray.size=_
  rw [List.size_toArray,List.length_append]
  rfl
 have ha:=(self_at (zf.hdr++m)).app
 refine ⟨m,hm,by omega,⟨by rw [hz];omega,ha.1,by rw [hz];omega,⟨by rw [hz];omega,m,hm,ha.2,by rw [hz]⟩⟩⟩
theorem wr_loop {c:List S56} {s:ByteArray} (hw:Wr c s) (hc:c.length≤200) (hg:∀ p ∈ c,GP p) (he:endOf (c.map (·.f6)) 64 0=(c.length:Int)):kW 100 s 200 6 0 [] 1 []=(c,(s.size:Int),0):=by
 have hz:s.size≤1099511627776:=by have:=hw.size;omega
 obtain ⟨t1,t2,t3⟩:=zaM 64 0 c.length he
 have k0:JK c 0=0:=rfl
 rw [k0] at t1
 obtain ⟨n',a',r1,r2,r3⟩:=loop_tree hc hg hz (by omega) 64 0 c.length [] 200 6 he rfl (fun x hx=>by simp at hx) (by rw [k0];rfl) hw.pos (by omega)
 rw [k0,D_nil,List.take_zero,List.take_length,show ((0:Int)+(c.length:Int)-((0:Nat):Int)-1)=(c.length:Int)-1 by omega] at *
 have r1':kW 100 s 200 6 0 [] 1 []=kW 100 s n' ((a':Nat):Int) 0 c (1+JK c c.length) []:=r1
 obtain ⟨bs,b1,b2,b3⟩:=r2.at_
 rw [List.drop_length] at b1
 obtain rfl:=Option.some.inj b1
 rw [List.length_nil] at b3
 rw [r1']
 cases n' with
 | zero=>rw [kW,show a'=s.size by omega]
 | succ n=>rw [kW,if_neg (fun hh=>by have:=hh.1;omega),show a'=s.size by omega]
theorem load_wr {c:List S56} {s:ByteArray} (hw:Wr c s) (hc:c.length≤200) (hg:∀ p ∈ c,GP p) (he:endOf (c.map (·.f6)) 64 0=(c.length:Int)):rLoad 100 s=(c,0):=by
 unfold rLoad
 rw [if_pos (prefix_at hw.hdr hw.six),wr_loop hw hc hg he,if_pos rfl,if_neg (by dsimp only;omega)]
theorem At.more {s u:ByteArray} {a:Nat} {bs:List UInt8} (h:At s a bs) (ha:a≤s.size):At (s++u) a bs:=by
 obtain ⟨r,hr⟩:=h
 have e:s.data.toList.length=s.size:=Array.length_toList
 refine ⟨r++u.data.toList,?_⟩
 rw [ByteArray.data_append,Array.toList_append,List.drop_append_of_le_length (by omega),← hr,List.append_assoc]
theorem load_long {c:List S56} {s u:ByteArray} (hw:Wr c s) (hc:c.length≤200) (hg:∀ p ∈ c,GP p) (he:endOf (c.map (·.f6)) 64 0=(c.length:Int)) (hu:0<u.size):rLoad 100 (s++u)=([],5):=by
 have hz:s.size≤1099511627776:=by have:=hw.size;omega
 have h6:=hw.six
 have hl:=wr_loop hw hc hg he
 have hx:=zaK (k:=100) (ext_append s u) (gv_ok hz) 200 6 0 [] 1 [] (by decide) (by omega) (by decide) (by rw [hl])
 unfold rLoad
 rw [if_pos (prefix_at (hw.hdr.more (Nat.zero_le _)) (by rw [ByteArray.size_append];omega)),hx,hl,if_pos rfl,if_pos (by rw [ByteArray.size_append];dsimp only;omega)]
theorem load_short {c:List S56} {s:ByteArray} (hw:Wr c s) (hc:c.length≤200) (hg:∀ p ∈ c,GP p) (he:endOf (c.map (·.f6)) 64 0=(c.length:Int)) {m:Nat} (hm:m<s.size):∃ x,rLoad 100 (s.extract 0 m)=([],x)∧x≠0:=by
 have hz:s.size≤1099511627776:=by have:=hw.size;omega
 have hts:(s.extract 0 m).size=m:=by rw [ByteArray.size_extract];omega
 have hsplit:s=s.extract 0 m++s.extract m s.size:=by
  apply ByteArray.ext
  rw [ByteArray.data_append,ByteArray.data_extract,ByteArray.data_extract,Array.extract_append_extract]
  have e:s.data.size=s.size:=rfl
  rw [Nat.min_eq_left (Nat.zero_le _),Nat.max_eq_right (by omega),← e,Array.extract_size]
 obtain ⟨t,ht⟩:∃ t,s.extract 0 m=t:=⟨_,rfl⟩
 obtain ⟨u,hu⟩:∃ u,s.extract m s.size=u:=⟨_,rfl⟩
 rw [ht] at hts hsplit ⊢
 rw [hu] at hsplit
 have hzt:t.size≤1099511627776:=by omega
 unfold rLoad
 by_cases hp:strings_HasPrefix.f t ⟨#[27,76,82,86,1,0]⟩=some true
 ·rw [if_pos hp]
  obtain ⟨b,hb,h6⟩:=zaN t
  rw [hp] at hb
  have h6:=h6 (Option.some.inj hb).symm
  by_cases h0:(kW 100 t 200 6 0 [] 1 []).2.2=0
  ·rw [if_pos h0]
   have hx:=zaK (k:=100) (ext_append t u) (gv_ok hzt) 200 6 0 [] 1 [] (by decide) (by omega) (by decide) h0
   have hb:=(zaO (k:=100) (gv_ok hzt) 200 6 0 [] 1 [] (by decide) (by omega) (by decide)).2
   rw [← hsplit,wr_loop hw hc hg he] at hx
   have hq:(kW 100 t 200 6 0 [] 1 []).2.1=(s.size:Int):=by rw [← hx]
   omega
  ·rw [if_neg h0]
   exact ⟨_,rfl,h0⟩
 ·rw [if_neg hp]
  exact ⟨1,rfl,by decide⟩
theorem Qd {β:Type} {n:Nat} {L:Nat→Int→Option β} {r:β} (hone:∀ i:Nat,i<n→∃ K,∀ k,K≤k→L (k+1) (i:Int)=L k ((i+1:Nat):Int)) (hend:Evt (fun k=>L k (n:Int)) r):Evt (fun k=>L k 0) r:=by
 have h:∀ m i:Nat,i+m=n→Evt (fun k=>L k (i:Int)) r:=by
  intro m
  induction m with
  | zero =>
   intro i hi
   obtain rfl:i=n:=by omega
   exact hend
  | succ m ih =>
   intro i hi
   obtain ⟨K,hK⟩:=hone i (by omega)
   exact Evt.succ ((ih (i+1) (by omega)).of_eq K fun k hk=>hK k hk)
 exact h n 0 (by omega)
theorem same_words {l:List Int} (hl:l.length≤1048576):Evt (fun k=>yu.f k l l) true:=by
 refine (Qd (n:=l.length) (L:=fun k i=>yu.l0 k l l i) (r:=true) (fun i hi=>⟨0,fun k _=>?_⟩) (Evt.succ (Evt.now fun k=>?_))).of_eq 0 fun k _=>by unfold yu.f;rw [if_pos rfl]
 ·rw [yu.l0,if_pos (by omega),if_pos (by omega),if_pos (by omega),if_pos rfl,jJ (by omega)]
 ·show yu.l0 (k+1) l l (l.length:Int)=_
  rw [yu.l0,if_neg (by omega)]
theorem same_ints {l:List Int} (hl:l.length≤1048576):Evt (fun k=>yw.f k l l) true:=by
 refine (Qd (n:=l.length) (L:=fun k i=>yw.l0 k l l i) (r:=true) (fun i hi=>⟨0,fun k _=>?_⟩) (Evt.succ (Evt.now fun k=>?_))).of_eq 0 fun k _=>by unfold yw.f;rw [if_pos rfl]
 ·rw [yw.l0,if_pos (by omega),if_pos (by omega),if_pos (by omega),if_pos rfl,jJ (by omega)]
 ·show yw.l0 (k+1) l l (l.length:Int)=_
  rw [yw.l0,if_neg (by omega)]
theorem same_texts {l:List ByteArray} (hl:l.length≤1048576):Evt (fun k=>yg.f k l l) true:=by
 refine (Qd (n:=l.length) (L:=fun k i=>yg.l0 k l l i) (r:=true) (fun i hi=>⟨0,fun k _=>?_⟩) (Evt.succ (Evt.now fun k=>?_))).of_eq 0 fun k _=>by unfold yg.f;rw [if_pos rfl]
 ·rw [yg.l0,if_pos (by omega),if_pos (by omega),if_pos (by omega),if_pos rfl,jJ (by omega)]
 ·show yg.l0 (k+1) l l (l.length:Int)=_
  rw [yg.l0,if_neg (by omega)]
theorem same_values {l:List S67} (hl:l.length≤1048576):Evt (fun k=>yj.f k l l) true:=by
 refine (Qd (n:=l.length) (L:=fun k i=>yj.l0 k l l i) (r:=true) (fun i hi=>⟨0,fun k _=>?_⟩) (Evt.succ (Evt.now fun k=>?_))).of_eq 0 fun k _=>by unfold yj.f;rw [if_pos rfl]
 ·rw [yj.l0,if_pos (by omega),if_pos (by omega),if_pos (by omega),if_neg (by simp),jJ (by omega)]
 ·show yj.l0 (k+1) l l (l.length:Int)=_
  rw [yj.l0,if_neg (by omega)]
theorem same_proto {p:S56} (hx:Fit p):Evt (fun k=>zC.f k p.f0 p.f1 p.f2 p.f3 p.f4 p.f5 p.f6 p.f7 p.f8 p.f9 p.f0 p.f1 p.f2 p.f3 p.f4 p.f5 p.f6 p.f7 p.f8 p.f9 false) true:=by
 have h5:=hx.l5
 have hj2:Evt (fun k=>zC.j2 k false false p.f0 p.f1 p.f2 p.f3 p.f4 p.f5 p.f6 p.f7 p.f8 p.f9 p.f0 p.f1 p.f2 p.f3 p.f4 p.f5 p.f6 p.f7 p.f8 p.f9) true:=by
  obtain ⟨K1,h1⟩:=same_ints hx.l8
  obtain ⟨K2,h2⟩:=same_texts hx.l9
  refine Evt.succ ⟨K1+K2,fun k hk=>?_⟩
  have h1:=h1 k (by omega)
  have h2:=h2 k (by omega)
  dsimp only at h1 h2
  show zC.j2 (k+1) _ _ _ _ _ _ _ _ _ _ _ _ _ _ _ _ _ _ _ _ _ _=_
  rw [zC.j2,if_neg (by decide),if_neg (by decide),if_pos rfl,h1,Option.bind_some,if_pos rfl,h2,Option.bind_some]
 have hl0:Evt (fun k=>zC.l0 k false 0 p.f0 p.f1 p.f2 p.f3 p.f4 p.f5 p.f6 p.f7 p.f8 p.f9 p.f0 p.f1 p.f2 p.f3 p.f4 p.f5 p.f6 p.f7 p.f8 p.f9) true:=by
  refine Qd (n:=p.f5.length) (L:=fun k i=>zC.l0 k false i p.f0 p.f1 p.f2 p.f3 p.f4 p.f5 p.f6 p.f7 p.f8 p.f9 p.f0 p.f1 p.f2 p.f3 p.f4 p.f5 p.f6 p.f7 p.f8 p.f9) (r:=true) (fun i hi=>⟨0,fun k _=>?_⟩) ?_
  ·rw [zC.l0,if_pos (by omega),if_pos (by omega),if_pos (by omega),if_neg (by simp),jJ (by omega)]
  ·obtain ⟨K1,h1⟩:=same_words hx.l3
   obtain ⟨K2,h2⟩:=same_values hx.l4
   obtain ⟨K3,h3⟩:=hj2
   refine Evt.succ ⟨K1+K2+K3,fun k hk=>?_⟩
   have h1:=h1 k (by omega)
   have h2:=h2 k (by omega)
   have h3:=h3 k (by omega)
   dsimp only at h1 h2 h3
   show zC.l0 (k+1) _ _ _ _ _ _ _ _ _ _ _ _ _ _ _ _ _ _ _ _ _ _=_
   rw [zC.l0,if_neg (by omega),h1,Option.bind_some,if_pos rfl,h2,Option.bind_some]
   exact h3
 refine Evt.of_eq (g:=fun k=>zC.j0 k false false p.f0 p.f1 p.f2 p.f3 p.f4 p.f5 p.f6 p.f7 p.f8 p.f9 p.f0 p.f1 p.f2 p.f3 p.f4 p.f5 p.f6 p.f7 p.f8 p.f9) ?_ 0 (fun k _=>?_)
 ·refine Evt.succ (hl0.of_eq 0 fun k _=>?_)
  rw [zC.j0,if_neg (by decide)]
 ·unfold zC.f
  rw [if_pos rfl,if_neg (by simp),if_pos rfl,if_pos rfl,show ((p.f5.length:Int) != (p.f5.length:Int))=false by simp]
theorem same_chunk {c:List S56} (hl:c.length≤1048576) (hx:∀ p ∈ c,Fit p):Evt (fun k=>zM.f k c c false) true:=by
 refine (Qd (n:=c.length) (L:=fun k i=>zM.l0 k false i c c) (r:=true) (fun i hi=>?_) (Evt.succ (Evt.now fun k=>?_))).of_eq 0 fun k _=>by unfold zM.f;rw [if_pos rfl]
 ·obtain ⟨K,hK⟩:=same_proto (hx _ (List.getElem_mem hi))
  refine ⟨K,fun k hk=>?_⟩
  have h:=hK k hk
  dsimp only at h
  have e:zu c (i:Int)=c[i]:=by simp [zu,List.getD,hi]
  rw [zM.l0,if_pos (by omega),if_pos (by omega),if_pos (by omega),e,h,Option.bind_some,if_pos rfl,jJ (by omega)]
 ·show zM.l0 (k+1) false (c.length:Int) c c=_
  rw [zM.l0,if_neg (by omega)]
theorem pick_ok {l:List Int} (hb:Bytes l) (i:Int) (h0:0≤i) (h1:i≤255):∃ t,qj.f l i=some t∧0≤t∧t≤255:=by
 unfold qj.f
 by_cases hl:(l.length:Int)=0
 ·exact ⟨i,if_pos hl,h0,h1⟩
 ·rw [if_neg hl,Int.tmod_eq_emod_of_nonneg h0]
  have m1:0≤i % (l.length:Int):=Int.emod_nonneg _ (by omega)
  have m2:i % (l.length:Int)<(l.length:Int):=Int.emod_lt_of_pos _ (by omega)
  rw [if_pos m1,if_pos m2]
  have e:rd l (i % (l.length:Int)) ∈ l:=by
   have:(i % (l.length:Int)).toNat<l.length:=by omega
   rw [show rd l (i % (l.length:Int))=l[(i % (l.length:Int)).toNat] by simp [rd,List.getD,this]]
   exact List.getElem_mem this
  have:=hb.rng _ e
  exact ⟨_,rfl,by unfold wrap64;omega,by unfold wrap64;omega⟩
theorem gp_of {c:List S56} (hw:word c=true) (hr:∀ q ∈ c,Rng q):c.length≤200∧endOf (c.map (·.f6)) 64 0=(c.length:Int)∧∀ p ∈ c,GP p:=by
 unfold word at hw
 simp only [Bool.and_eq_true,decide_eq_true_eq] at hw
 obtain ⟨h1,he,hok⟩:=hw
 refine ⟨h1.2,he,fun p hp=>?_⟩
 obtain ⟨t1,t2,t3⟩:=zaM 64 0 c.length he
 have h0:∀ j (hj:j<c.length),0≤c[j].f6:=fun j hj=>end_zero he j (Nat.zero_le _) hj hj
 have hf6:0≤p.f6∧p.f6≤200:=by
  obtain ⟨j,hj,rfl⟩:=List.getElem_of_mem hp
  refine ⟨h0 j hj,?_⟩
  have m1:=Q9 h0 (c.length-(j+1)) (j+1) (by omega)
  rw [show j+1+(c.length-(j+1))=c.length by omega,YC hj] at m1
  have m2:=Q9 h0 j 0 (by omega)
  rw [Nat.zero_add] at m2
  have k0:JK c 0=0:=rfl
  omega
 have hk:=List.all_eq_true.1 hok p hp
 unfold ok frame texts at hk
 simp only [Bool.and_eq_true,Bool.not_eq_true',Bool.or_eq_true,decide_eq_true_eq,List.all_eq_true] at hk
 obtain ⟨hfr,⟨x8,x9⟩,hpl,hu,hn,ht⟩:=hk
 unfold zo.c1 zo.wi at hfr
 simp only [Bool.or_eq_false_iff,Bool.not_eq_false',Bool.and_eq_true,decide_eq_true_eq,decide_eq_false_iff_not] at hfr
 obtain ⟨g1,g2,g3,g4,g5,g6⟩:=hfr
 obtain ⟨rw_,rc⟩:=hr p hp
 refine ⟨by omega,by omega,by omega,by omega,by omega,hf6,by omega,x8,x9,rw_,fun v hv=>?_,fun v hv=>?_,fun x hx=>?_,fun x hx=>?_⟩
 ·refine ⟨rc v hv,?_⟩
  have h:=hpl v hv
  unfold pl at h
  by_cases c3:v.f0=3
  ·rw [if_pos c3] at h
   simp only [Bool.and_eq_true,decide_eq_true_eq] at h
   exact .inl ⟨c3,h.1,h.2⟩
  ·rw [if_neg c3] at h
   by_cases cs:v.f2.size > 0
   ·rw [if_pos cs] at h;cases h
   ·rw [if_neg cs] at h
    by_cases c1:v.f0=1
    ·rw [if_pos c1] at h
     simp only [Bool.or_eq_true,decide_eq_true_eq] at h
     exact .inr (.inl ⟨c1,h,by omega⟩)
    ·rw [if_neg c1] at h
     by_cases c2:v.f0=2
     ·exact .inr (.inr (.inl ⟨c2,by omega⟩))
     ·rw [if_neg c2] at h
      by_cases c0:v.f0=0
      ·rw [if_pos c0,decide_eq_true_eq] at h
       exact .inr (.inr (.inr ⟨c0,h,by omega⟩))
      ·rw [if_neg c0] at h;cases h
 ·have h:=hu v hv
  unfold num at h
  simp only [Bool.and_eq_true,decide_eq_true_eq] at h
  exact h
 ·have h:=hn x hx
  unfold num at h
  simp only [Bool.and_eq_true,decide_eq_true_eq] at h
  exact h
 ·exact ht x hx
structure Runs (k:Nat) (c:List S56) (l1:List Int) (s:ByteArray) (t0 t1 t2 R x:Int):Prop where
 d:zf.f c=some (s,true)
 ld:xY.f s=some (c,0)
 sm:zM.f k c c false=some true
 p0:qj.f l1 0=some t0
 p1:qj.f l1 1=some t1
 p2:qj.f l1 2=some t2
 z:s.size≤1099511627776
 e:Int.tmod (wrap64 (wrap64 (t0*256)+t1)) (wrap64 ((s.size:Int)+1))=R
 x0:x≠0
 at_:(0≤R∧R<(s.size:Int)∧xY.f (s.extract 0 R.toNat)=some ([],x))∨(R=(s.size:Int)∧xY.f ByteArray.empty=some ([],x))
 ln:xY.f (s++strOfNums [t2 % 256])=some ([],5)
theorem extract_nil (s:ByteArray):s.extract 0 0=ByteArray.empty:=by
 apply ByteArray.ext
 rw [ByteArray.data_extract]
 simp
theorem dump_facts {l0 l1:List Int} (hb0:Bytes l0) (hb1:Bytes l1):∃ k c g,xR.f k l0=some c∧zD.f k c=some g∧zk.f c=some g∧(g=false→zf.f c=some (⟨#[]⟩,false))∧(g=true→∃ s t0 t1 t2 R x,Runs k c l1 s t0 t1 t2 R x):=by
 obtain ⟨c,⟨K1,hK1⟩,hW,hR⟩:=drawDump_tot hb0
 have hl:c.length≤1048576:=by have:=hW.len;omega
 obtain ⟨K2,hK2⟩:=spec_word hl hW.fit hW.kid
 obtain ⟨K3,hK3⟩:=same_chunk hl hW.fit
 have hI:=impl_word hW.fit hW.kid
 refine ⟨K1+K2+K3,c,word c,hK1 _ (by omega),hK2 _ (by omega),hI,fun hw=>?_,fun hw=>?_⟩
 ·unfold zf.f
  rw [hI,hw,Option.bind_some,if_neg (by decide)]
 ·obtain ⟨hc,he,hg⟩:=gp_of hw hR
  obtain ⟨m,hm,hml,hwr⟩:=wr_of hc hg
  obtain ⟨s,hs⟩:∃ s:ByteArray,(⟨(zf.hdr++m).toArray⟩:ByteArray)=s:=⟨_,rfl⟩
  rw [hs] at hwr
  have hz:=hwr.size
  have h6:=hwr.six
  obtain ⟨t0,p0,a0,b0⟩:=pick_ok hb1 0 (by decide) (by decide)
  obtain ⟨t1,p1,a1,b1⟩:=pick_ok hb1 1 (by decide) (by decide)
  obtain ⟨t2,p2,a2,b2⟩:=pick_ok hb1 2 (by decide) (by decide)
  have e1:wrap64 (t0*256)=t0*256:=by unfold wrap64;omega
  have e2:wrap64 (t0*256+t1)=t0*256+t1:=by unfold wrap64;omega
  have e3:wrap64 ((s.size:Int)+1)=(s.size:Int)+1:=by unfold wrap64;omega
  obtain ⟨R,hR⟩:∃ R,Int.tmod (wrap64 (wrap64 (t0*256)+t1)) (wrap64 ((s.size:Int)+1))=R:=⟨_,rfl⟩
  have hR2:=hR
  rw [e1,e2,e3,Int.tmod_eq_emod_of_nonneg (by omega)] at hR2
  have r0:0≤R:=by rw [← hR2];exact Int.emod_nonneg _ (by omega)
  have r1:R<(s.size:Int)+1:=by rw [← hR2];exact Int.emod_lt_of_pos _ (by omega)
  have hd:zf.f c=some (s,true):=by
   unfold zf.f
   rw [hI,hw,Option.bind_some,if_pos rfl,hm,Option.bind_some,if_pos hml,hs]
  have hload:xY.f s=some (c,0):=by rw [load_is (by omega),load_wr hwr hc hg he]
  have hlong:xY.f (s++strOfNums [t2 % 256])=some ([],5):=by
   rw [load_is (by rw [ByteArray.size_append,strOfNums_size];simp;omega),load_long hwr hc hg he (by rw [strOfNums_size,List.length_singleton];decide)]
  by_cases hRs:R<(s.size:Int)
  ·obtain ⟨x,hx,hx0⟩:=load_short hwr hc hg he (m:=R.toNat) (by omega)
   refine ⟨s,t0,t1,t2,R,x,hd,hload,hK3 _ (by omega),p0,p1,p2,by omega,hR,hx0,.inl ⟨r0,hRs,?_⟩,hlong⟩
   rw [load_is (by rw [ByteArray.size_extract];omega),hx]
  ·obtain ⟨x,hx,hx0⟩:=load_short hwr hc hg he (m:=0) (by omega)
   rw [extract_nil] at hx
   refine ⟨s,t0,t1,t2,R,x,hd,hload,hK3 _ (by omega),p0,p1,p2,by omega,hR,hx0,.inr ⟨by omega,?_⟩,hlong⟩
   rw [load_is (by show 0≤_;omega),hx]
theorem law_all {A0 A1:Option Addr} {c0 c1:Nat} {l0 l1:List Int} {w:World} (hr0:Kd.C (Kd.int .u8) w A0 l0.length l0) (hc0:l0.length≤c0) (hr1:Kd.C (Kd.int .u8) w A1 l1.length l1) (hc1:l1.length≤c1) (hG:Glob w) (h0:∀ x ∈ l0,0≤x∧x≤255) (h1:∀ x ∈ l1,0≤x∧x≤255) :
  Calls Tryz.prog 3 #[.slice A0 l0.length c0,.slice A1 l1.length c1] w fun e w'=>e=.returned (.bool true)∧Below w.heap.size w w':=by
 by_cases z0:1048576<l0.length
 ·exact lawLong0 A0 A1 c0 c1 l0 l1 w hr0 hc0 hr1 hc1 z0
 by_cases z1:1048576<l1.length
 ·exact lawLong1 A0 A1 c0 c1 l0 l1 w hr0 hc0 hr1 hc1 (by omega) z1
 obtain ⟨k,c,g,a1,a2,a3,a4,a5⟩:=dump_facts (l0:=l0) (l1:=l1) ⟨by omega,h0⟩ ⟨by omega,h1⟩
 cases g
 ·exact lawBad A0 A1 c0 c1 l0 l1 w hr0 hc0 hr1 hc1 hG (by omega) (by omega) k c a1 ⟨#[]⟩ false rfl rfl (a4 rfl) a2 a3
 ·obtain ⟨s,t0,t1,t2,R,x,h⟩:=a5 rfl
  rcases h.at_ with ⟨r0,r1,hs⟩|⟨r1,hs⟩
  ·exact lawGood1 A0 A1 c0 c1 l0 l1 w hr0 hc0 hr1 hc1 hG (by omega) (by omega) k c a1 s h.d a2 a3 h.ld h.sm t0 t1 t2 h.p0 h.p1 h.p2 h.z R h.e x h.x0 r0 r1 hs h.ln
  ·exact lawGood0 A0 A1 c0 c1 l0 l1 w hr0 hc0 hr1 hc1 hG (by omega) (by omega) k c a1 s h.d a2 a3 h.ld h.sm t0 t1 t2 h.p0 h.p1 h.p2 h.z R h.e x h.x0 r1 hs h.ln
end Go.Proofs.YtiekodnojmkfaaaGreatDoor.Pure
