/- The plain law of FnExactDump: sizes, copies, what a prototype in order is, the tree, what is written, and that both answer alike. -/
import Derived.Test.YtiekodnojmkfaaaPFnExactDumpx14
import Derived.Test.YtiekodnojmkfaaaEv
import Derived.Test.YtiekodnojmkfaaaVint
import Derived.Laws.Strings
namespace Go.Proofs.Ytiekodnojmkfaaa.Pure
open Go.RowKit Go.Proofs.Ytiekodnojmkfaaa.PFnExactDump Go.Proofs.YtiekodnojmkfaaaW.PrintWords Go.Proofs.YtiekodnojmkfaaaW.PrintLast Go.Proofs.YtiekodnojmkfaaaEv Go.Proofs.YtiekodnojmkfaaaVint
/-! ### sizes -/
/-- What is known of a list that has been read. -/
def okInt (k:IntKind) (n:Int):Prop:=(Lit.int k n).wf=true
structure Ok163 (x:S163):Prop where
 s:x.f2.size≤maxLen
structure Ok101 (x:S101):Prop where
 l3:x.f3.length≤maxLen
 l4:x.f4.length≤maxLen
 l5:x.f5.length≤maxLen
 l7:x.f7.size≤maxLen
 l8:x.f8.length≤maxLen
 l9:x.f9.length≤maxLen
 v4:∀ v ∈ x.f4,Ok163 v
 v9:∀ s ∈ x.f9,s.size≤maxLen
 kid:x.f6≤9223372036854775807
/-- What fits into 2 ^ 20. -/
structure Fits (x:S101):Prop where
 l3:x.f3.length≤1048576
 l4:x.f4.length≤1048576
 l5:x.f5.length≤1048576
 l8:x.f8.length≤1048576
 l9:x.f9.length≤1048576
theorem maxLen_eq:maxLen=9223372036854775807:=by decide
theorem sub_id {a:Int} {n:Nat} (h0:0≤a) (h1:a≤1048576) (hn:n≤maxLen):wrap64 (a-(n:Int))=a-(n:Int):=by
 rw [maxLen_eq] at hn
 exact wrap_id (by omega) (by omega)
/-- Of a size function: what comes, and that a number that is no fault tells 'good'. -/
def Sz (g:Nat→Option Int) (a:Int) (good:Prop):Prop:=∃ t,Evt g t∧t≤a∧(0≤t→good)
theorem Sz.neg {g:Nat→Option Int} {a:Int} {good:Prop} (h0:0≤a) (h:Evt g (-1)):Sz g a good:=⟨-1,h,by omega,fun h=>absurd h (by decide)⟩
theorem sz_flat {n:Nat} {a:Int} (h0:0≤a) (h1:a≤1048576) (hn:n≤maxLen) {g:Nat→Option Int} (hg:∀ k,g k=if wrap64 (a-(n:Int))<0 then some (-1) else some (wrap64 (a-(n:Int)))):Sz g a (n≤1048576):=by
 rw [sub_id h0 h1 hn] at hg
 by_cases h:a-(n:Int)<0
 ·exact .neg h0 (Evt.of_eq (g:=fun _=>some (-1)) (Evt.const rfl) 0 fun k _=>by rw [hg k,if_pos h])
 ·exact ⟨a-n,Evt.of_eq (g:=fun _=>some (a-n)) (Evt.const rfl) 0 fun k _=>by rw [hg k,if_neg h],by omega,fun _=>by omega⟩
/-- A loop that takes off what each element needs. -/
theorem sz_loop {α:Type} {xs:List α} {z:α} {good:α→Prop} {L:Nat→Int→Int→Option Int} {f:α→Nat→Int→Option Int}
  (hL:∀ k a (i:Nat),i<xs.length→L (k+1) a (i:Int)=(f (xs.getD i z) k a).bind fun t=>if t<0 then some (-1) else L k t (wrap64 ((i:Int)+1)))
  (hE:∀ k a,L (k+1) a (xs.length:Int)=some a) (hx:xs.length≤maxLen)
  (hf:∀ (i:Nat) (h:i<xs.length) a,0≤a→a≤1048576→Sz (fun k=>f xs[i] k a) a (good xs[i])) :
  ∀ m i:Nat,i+m=xs.length→∀ a,0≤a→a≤1048576→Sz (fun k=>L k a (i:Int)) a (∀ x ∈ xs.drop i,good x):=by
 rw [maxLen_eq] at hx
 intro m
 induction m with
 | zero =>
  intro i hi a h0 h1
  obtain rfl:i=xs.length:=by omega
  exact ⟨a,Evt.succ (Evt.of_eq (g:=fun _=>some a) (Evt.const rfl) 0 fun k _=>hE k a),Int.le_refl _,fun _ x hx=>by rw [List.drop_length] at hx;cases hx⟩
 | succ m ih =>
  intro i hi a h0 h1
  have hil:i<xs.length:=by omega
  have eg:xs.getD i z=xs[i]:=by simp [List.getD,hil]
  obtain ⟨t,⟨K,hK0⟩,ht,hg⟩:=hf i hil a h0 h1
  have hK:∀ k,K≤k→f xs[i] k a=some t:=hK0
  by_cases hn:t<0
  ·refine .neg h0 (Evt.succ (Evt.of_eq (g:=fun _=>some (-1)) (Evt.const rfl) K fun k hk=>?_))
   rw [hL k a i hil,eg,hK k hk,Option.bind_some,if_pos hn]
  ·obtain ⟨t2,h2,ht2,hg2⟩:=ih (i+1) (by omega) t (by omega) (by omega)
   refine ⟨t2,Evt.succ (Evt.of_eq h2 K fun k hk=>?_),by omega,fun h=>?_⟩
   ·rw [hL k a i hil,eg,hK k hk,Option.bind_some,if_neg hn,wrap_nat (by omega)]
   ·intro x hx
    rw [List.drop_eq_getElem_cons hil] at hx
    rcases List.mem_cons.1 hx with rfl|hx
    ·exact hg (by omega)
    ·exact hg2 h x hx
theorem sz_bind {g:Nat→Option Int} {h:Nat→Int→Option Int} {a:Int} {p q:Prop} (h0:0≤a) (h1:a≤1048576) (hg:Sz g a p) (hh:∀ t,0≤t→t≤1048576→Sz (fun k=>h k t) t q) :
  Sz (fun k=>(g k).bind fun t=>if t<0 then some (-1) else h k t) a (p∧q):=by
 obtain ⟨t,ht,hta,hp⟩:=hg
 by_cases hn:t<0
 ·exact .neg h0 (ht.bind (h:=fun k t=>if t<0 then some (-1) else h k t) (Evt.now fun k=>if_pos hn))
 ·obtain ⟨t2,h2,ht2,hq⟩:=hh t (by omega) (by omega)
  refine ⟨t2,ht.bind (h:=fun k t=>if t<0 then some (-1) else h k t) (h2.of_eq 0 fun k _=>if_neg hn),by omega,fun h=>⟨hp (by omega),hq h⟩⟩
theorem szValueS_sz {l:List S163} (hl:l.length≤maxLen) (hv:∀ v ∈ l,Ok163 v) {a:Int} (h0:0≤a) (h1:a≤1048576):Sz (fun k=>laws_szValueS.f k l a) a (l.length≤1048576):=by
 unfold laws_szValueS.f
 rw [sub_id h0 h1 hl]
 by_cases h:a-(l.length:Int)<0
 ·exact .neg h0 (Evt.now fun k=>if_pos h)
 ·obtain ⟨t,ht,hta,_⟩:=sz_loop (xs:=l) (z:=z163) (good:=fun _=>True) (L:=fun k a i=>laws_szValueS.l0 k l a i) (f:=fun v _ a=>laws_szValue.f v.f0 v.f1 v.f2 a)
   (fun k a i hi=>by show laws_szValueS.l0 (k+1) l a i=_;rw [laws_szValueS.l0,if_pos (by omega),if_pos (by omega)];simp only [rd_T163,Int.toNat_natCast])
   (fun k a=>by show laws_szValueS.l0 (k+1) l a l.length=_;rw [laws_szValueS.l0,if_neg (by omega)]) hl
   (fun i hi a h0 h1=>by
    obtain ⟨t,h,h2,_⟩:=sz_flat (n:=l[i].f2.size) h0 h1 (hv _ (List.getElem_mem hi)).s (g:=fun _=>laws_szValue.f l[i].f0 l[i].f1 l[i].f2 a) (fun k=>by unfold laws_szValue.f;rfl)
    exact ⟨t,h,h2,fun _=>trivial⟩) l.length 0 (by omega) (a-l.length) (by omega) (by omega)
  exact ⟨t,ht.of_eq 0 fun k _=>by rw [if_neg h];rfl,by omega,fun _=>by omega⟩
theorem szStringS_sz {l:List ByteArray} (hl:l.length≤maxLen) (hv:∀ v ∈ l,v.size≤maxLen) {a:Int} (h0:0≤a) (h1:a≤1048576):Sz (fun k=>laws_szStringS.f k l a) a (l.length≤1048576):=by
 unfold laws_szStringS.f
 rw [sub_id h0 h1 hl]
 by_cases h:a-(l.length:Int)<0
 ·exact .neg h0 (Evt.now fun k=>if_pos h)
 ·obtain ⟨t,ht,hta,_⟩:=sz_loop (xs:=l) (z:=ByteArray.empty) (good:=fun _=>True) (L:=fun k a i=>laws_szStringS.l0 k l a i) (f:=fun v _ a=>if wrap64 (a-(v.size:Int))<0 then some (-1) else some (wrap64 (a-(v.size:Int))))
   (fun k a i hi=>by
    show laws_szStringS.l0 (k+1) l a i=_
    rw [laws_szStringS.l0,if_pos (by omega),if_pos (by omega)]
    have e:rdOf ByteArray.empty l (i:Int)=l.getD i ByteArray.empty:=by simp [rdOf]
    rw [← e]
    obtain ⟨v,hv⟩:∃ v,rdOf ByteArray.empty l (i:Int)=v:=⟨_,rfl⟩
    rw [hv]
    by_cases hn:wrap64 (a-(v.size:Int))<0
    ·rw [if_pos hn,if_pos hn,Option.bind_some];rfl
    ·rw [if_neg hn,if_neg hn,Option.bind_some,if_neg hn])
   (fun k a=>by show laws_szStringS.l0 (k+1) l a l.length=_;rw [laws_szStringS.l0,if_neg (by omega)]) hl
   (fun i hi a h0 h1=>by
    obtain ⟨t,h,h2,_⟩:=sz_flat (n:=l[i].size) h0 h1 (hv _ (List.getElem_mem hi)) (g:=fun _=>if wrap64 (a-(l[i].size:Int))<0 then some (-1) else some (wrap64 (a-(l[i].size:Int)))) (fun k=>rfl)
    exact ⟨t,h,h2,fun _=>trivial⟩) l.length 0 (by omega) (a-l.length) (by omega) (by omega)
  exact ⟨t,ht.of_eq 0 fun k _=>by rw [if_neg h];rfl,by omega,fun _=>by omega⟩
theorem szProto_sz {x:S101} (hx:Ok101 x) {a:Int} (h0:0≤a) (h1:a≤1048576):Sz (fun k=>laws_szProto.f k x.f0 x.f1 x.f2 x.f3 x.f4 x.f5 x.f6 x.f7 x.f8 x.f9 a) a (Fits x):=by
 have H:=sz_bind h0 h1 (sz_flat (n:=x.f3.length) h0 h1 hx.l3 (g:=fun _=>laws_szUint32S.f x.f3 a) (fun k=>by unfold laws_szUint32S.f;rfl)) (h:=fun k t=>(laws_szValueS.f k x.f4 t).bind fun t107=>(if t107<0 then (some (-1)) else ((laws_szUpS.f x.f5 t107).bind fun t108=>(if t108<0 then (some (-1)) else (if (wrap64 (t108-(x.f7.size:Int)))<0 then (some (-1)) else ((laws_szIntS.f x.f8 (wrap64 (t108-(x.f7.size:Int)))).bind fun t109=>(if t109<0 then (some (-1)) else ((laws_szStringS.f k x.f9 t109).bind fun t110=>(if t110<0 then (some (-1)) else (some t110)))))))))) fun t h0 h1 =>
  sz_bind h0 h1 (szValueS_sz hx.l4 hx.v4 h0 h1) (h:=fun k t107=>(laws_szUpS.f x.f5 t107).bind fun t108=>(if t108<0 then (some (-1)) else (if (wrap64 (t108-(x.f7.size:Int)))<0 then (some (-1)) else ((laws_szIntS.f x.f8 (wrap64 (t108-(x.f7.size:Int)))).bind fun t109=>(if t109<0 then (some (-1)) else ((laws_szStringS.f k x.f9 t109).bind fun t110=>(if t110<0 then (some (-1)) else (some t110)))))))) fun t h0 h1 =>
   sz_bind h0 h1 (sz_flat (n:=x.f5.length) h0 h1 hx.l5 (g:=fun _=>laws_szUpS.f x.f5 t) (fun k=>by unfold laws_szUpS.f;rfl)) (h:=fun k t108=>if (wrap64 (t108-(x.f7.size:Int)))<0 then (some (-1)) else ((laws_szIntS.f x.f8 (wrap64 (t108-(x.f7.size:Int)))).bind fun t109=>(if t109<0 then (some (-1)) else ((laws_szStringS.f k x.f9 t109).bind fun t110=>(if t110<0 then (some (-1)) else (some t110)))))) (q:=x.f8.length≤1048576∧x.f9.length≤1048576∧True) fun t h0 h1=>by
    rw [sub_id h0 h1 hx.l7]
    by_cases h:t-(x.f7.size:Int)<0
    ·exact .neg h0 (Evt.now fun k=>if_pos h)
    ·obtain ⟨t2,h2,ht2,hg⟩:=sz_bind (a:=t-(x.f7.size:Int)) (by omega) (by omega) (sz_flat (n:=x.f8.length) (a:=t-(x.f7.size:Int)) (by omega) (by omega) hx.l8 (g:=fun _=>laws_szIntS.f x.f8 (t-(x.f7.size:Int))) (fun k=>by unfold laws_szIntS.f;rfl)) (h:=fun k t109=>(laws_szStringS.f k x.f9 t109).bind fun t110=>(if t110<0 then (some (-1)) else (some t110))) fun t h0 h1 =>
      sz_bind h0 h1 (szStringS_sz hx.l9 hx.v9 h0 h1) (h:=fun _ t110=>some t110) (q:=True) fun t h0 h1=>⟨t,Evt.const rfl,Int.le_refl _,fun _=>trivial⟩
     exact ⟨t2,h2.of_eq 0 fun k _=>if_neg h,by omega,hg⟩
 obtain ⟨t,h,h2,hg⟩:=H
 exact ⟨t,h,h2,fun h=>⟨(hg h).1,(hg h).2.1,(hg h).2.2.1,(hg h).2.2.2.1,(hg h).2.2.2.2.1⟩⟩
theorem szChunk_sz {l:List S101} (hl:l.length≤maxLen) (hx:∀ x ∈ l,Ok101 x):Sz (fun k=>laws_szChunk.f k l 1048576) 1048576 (l.length≤1048576∧∀ x ∈ l,Fits x):=by
 have H:Sz (fun k=>laws_szProtoS.f k l 1048576) 1048576 (l.length≤1048576∧∀ x ∈ l,Fits x):=by
  unfold laws_szProtoS.f
  rw [sub_id (by decide) (by decide) hl]
  by_cases h:(1048576:Int)-(l.length:Int)<0
  ·exact .neg (by decide) (Evt.now fun k=>if_pos h)
  ·obtain ⟨t,ht,hta,hg⟩:=sz_loop (xs:=l) (z:=z101) (good:=Fits) (L:=fun k a i=>laws_szProtoS.l0 k l a i) (f:=fun x k a=>laws_szProto.f k x.f0 x.f1 x.f2 x.f3 x.f4 x.f5 x.f6 x.f7 x.f8 x.f9 a)
    (fun k a i hi=>by show laws_szProtoS.l0 (k+1) l a i=_;rw [laws_szProtoS.l0,if_pos (by omega),if_pos (by omega)];simp only [rd_T101,Int.toNat_natCast])
    (fun k a=>by show laws_szProtoS.l0 (k+1) l a l.length=_;rw [laws_szProtoS.l0,if_neg (by omega)]) hl
    (fun i hi a h0 h1=>szProto_sz (hx _ (List.getElem_mem hi)) h0 h1) l.length 0 (by omega) (1048576-l.length) (by omega) (by omega)
   exact ⟨t,ht.of_eq 0 fun k _=>by rw [if_neg h];rfl,by omega,fun h=>⟨by omega,by simpa using hg h⟩⟩
 obtain ⟨t,h,h2,hg⟩:=sz_bind (by decide) (by decide) H (h:=fun _ t=>some t) (q:=True) fun t h0 h1=>⟨t,Evt.const rfl,Int.le_refl _,fun _=>trivial⟩
 exact ⟨t,h,h2,fun h=>(hg h).1⟩
/-! ### copies -/
def cv (v:S163):S85:=⟨v.f0,v.f1,v.f2⟩
def cu (u:S166):S89:=⟨u.f0,u.f1⟩
def cp (x:S101):S44:=⟨x.f0,x.f1,x.f2,x.f3,x.f4.map cv,x.f5.map cu,x.f6,x.f7,x.f8,x.f9⟩
theorem toInts {l:List Int} (hl:l.length≤1048576) {L:Nat→List Int→List Int→Int→Option (List Int)} (hL:∀ k x0 x3 x4,L (k+1) x0 x3 x4=if x4<(x0.length:Int) then (if 0≤x4 then (if x4<(x3.length:Int) then (L k x0 (x3.set (x4:Int).toNat (rd x0 x4)) (wrap64 (x4+1))) else (none)) else (none)) else (some x3))
  {g:Nat→Option (List Int)} {N:Nat} (hN:1048576≤N) (hg:∀ k,g k=if 0≤(l.length:Int) then (if ((l.length:Int):Int).toNat≤N then (L k l (List.replicate ((l.length:Int):Int).toNat 0) 0) else (none)) else (none)):Evt g l:=by
 have h:=copy_loop (c:=fun x:Int=>x) (xs:=l) (z:=0) (L:=fun k ys i=>L k l ys i)
  (fun i hi=>⟨0,fun k _ ys hys=>by
   show L (k+1) l ys i=L k l _ _
   rw [hL,if_pos (by omega),if_pos (by omega),if_pos (by omega),wrap_nat (by omega)]
   simp only [rd,Int.toNat_natCast]⟩)
  (fun ys hys=>Evt.succ (Evt.now fun k=>by show L (k+1) l ys l.length=_;rw [hL,if_neg (by omega)])) (List.replicate l.length 0) (by simp)
 rw [List.map_id'] at h
 exact h.of_eq 0 fun k _=>by rw [hg,if_pos (by omega),if_pos (by simp;omega),Int.toNat_natCast]
theorem toUint32S_to {l:List Int} (hl:l.length≤1048576):Evt (fun k=>laws_toUint32S.f k l) l :=
 toInts hl (L:=laws_toUint32S.l0) (fun k x0 x3 x4=>by rw [laws_toUint32S.l0]) (N:=70368744177664) (by decide) (fun k=>by unfold laws_toUint32S.f;rfl)
theorem toIntS_to {l:List Int} (hl:l.length≤1048576):Evt (fun k=>laws_toIntS.f k l) l :=
 toInts hl (L:=laws_toIntS.l0) (fun k x0 x3 x4=>by rw [laws_toIntS.l0]) (N:=35184372088832) (by decide) (fun k=>by unfold laws_toIntS.f;rfl)
theorem toStringS_to {l:List ByteArray} (hl:l.length≤1048576):Evt (fun k=>laws_toStringS.f k l) l:=by
 have h:=copy_loop (c:=fun x:ByteArray=>x) (xs:=l) (z:=ByteArray.empty) (L:=fun k ys i=>laws_toStringS.l0 k l ys i)
  (fun i hi=>⟨0,fun k _ ys hys=>by
   show laws_toStringS.l0 (k+1) l ys i=laws_toStringS.l0 k l _ _
   rw [laws_toStringS.l0,if_pos (by omega),if_pos (by omega),if_pos (by omega),wrap_nat (by omega)]
   simp only [rdOf,Int.toNat_natCast]⟩)
  (fun ys hys=>Evt.succ (Evt.now fun k=>by show laws_toStringS.l0 (k+1) l ys l.length=_;rw [laws_toStringS.l0,if_neg (by omega)])) (List.replicate l.length ⟨#[]⟩) (by simp)
 rw [List.map_id'] at h
 exact h.of_eq 0 fun k _=>by unfold laws_toStringS.f;rw [if_pos (by omega),if_pos (by simp;omega),Int.toNat_natCast]
theorem toValueS_to {l:List S163} (hl:l.length≤1048576):Evt (fun k=>laws_toValueS.f k l) (l.map cv):=by
 have h:=copy_loop (c:=cv) (xs:=l) (z:=z163) (L:=fun k ys i=>laws_toValueS.l0 k l ys i)
  (fun i hi=>⟨0,fun k _ ys hys=>by
   show laws_toValueS.l0 (k+1) l ys i=laws_toValueS.l0 k l _ _
   rw [laws_toValueS.l0,if_pos (by omega),if_pos (by omega)]
   simp only [laws_toValue.f,Option.bind_some]
   rw [if_pos (by omega),wrap_nat (by omega)]
   simp only [rd_T163,Int.toNat_natCast,cv]⟩)
  (fun ys hys=>Evt.succ (Evt.now fun k=>by show laws_toValueS.l0 (k+1) l ys l.length=_;rw [laws_toValueS.l0,if_neg (by omega)])) (List.replicate l.length z85) (by simp)
 exact h.of_eq 0 fun k _=>by unfold laws_toValueS.f;rw [if_pos (by omega),if_pos (by simp;omega),Int.toNat_natCast]
theorem toUpS_to {l:List S166} (hl:l.length≤1048576):Evt (fun k=>laws_toUpS.f k l) (l.map cu):=by
 have h:=copy_loop (c:=cu) (xs:=l) (z:=z166) (L:=fun k ys i=>laws_toUpS.l0 k l ys i)
  (fun i hi=>⟨0,fun k _ ys hys=>by
   show laws_toUpS.l0 (k+1) l ys i=laws_toUpS.l0 k l _ _
   rw [laws_toUpS.l0,if_pos (by omega),if_pos (by omega)]
   simp only [laws_toUp.f,Option.bind_some]
   rw [if_pos (by omega),wrap_nat (by omega)]
   simp only [rd_T166,Int.toNat_natCast,cu]⟩)
  (fun ys hys=>Evt.succ (Evt.now fun k=>by show laws_toUpS.l0 (k+1) l ys l.length=_;rw [laws_toUpS.l0,if_neg (by omega)])) (List.replicate l.length z89) (by simp)
 exact h.of_eq 0 fun k _=>by unfold laws_toUpS.f;rw [if_pos (by omega),if_pos (by simp;omega),Int.toNat_natCast]
theorem toProto_to {x:S101} (hx:Fits x):Evt (fun k=>laws_toProto.f k x.f0 x.f1 x.f2 x.f3 x.f4 x.f5 x.f6 x.f7 x.f8 x.f9) (x.f0,x.f1,x.f2,x.f3,x.f4.map cv,x.f5.map cu,x.f6,x.f7,x.f8,x.f9):=by
 unfold laws_toProto.f
 exact (toUint32S_to hx.l3).bind (h:=fun k t170=>((laws_toValueS.f k x.f4).bind fun t173=>((laws_toUpS.f k x.f5).bind fun t176=>((laws_toIntS.f k x.f8).bind fun t179=>((laws_toStringS.f k x.f9).bind fun t182=>(some (x.f0,x.f1,x.f2,t170,t173,t176,x.f6,x.f7,t179,t182))))))) <|
  (toValueS_to hx.l4).bind (h:=fun k t173=>((laws_toUpS.f k x.f5).bind fun t176=>((laws_toIntS.f k x.f8).bind fun t179=>((laws_toStringS.f k x.f9).bind fun t182=>(some (x.f0,x.f1,x.f2,x.f3,t173,t176,x.f6,x.f7,t179,t182)))))) <|
  (toUpS_to hx.l5).bind (h:=fun k t176=>((laws_toIntS.f k x.f8).bind fun t179=>((laws_toStringS.f k x.f9).bind fun t182=>(some (x.f0,x.f1,x.f2,x.f3,x.f4.map cv,t176,x.f6,x.f7,t179,t182))))) <|
  (toIntS_to hx.l8).bind (h:=fun k t179=>((laws_toStringS.f k x.f9).bind fun t182=>(some (x.f0,x.f1,x.f2,x.f3,x.f4.map cv,x.f5.map cu,x.f6,x.f7,t179,t182)))) <|
  (toStringS_to hx.l9).bind (h:=fun k t182=>(some (x.f0,x.f1,x.f2,x.f3,x.f4.map cv,x.f5.map cu,x.f6,x.f7,x.f8,t182))) (Evt.const rfl)
theorem toChunk_to {l:List S101} (hl:l.length≤1048576) (hx:∀ x ∈ l,Fits x):Evt (fun k=>laws_toChunk.f k l) (l.map cp):=by
 have h:=copy_loop (c:=cp) (xs:=l) (z:=z101) (L:=fun k ys i=>laws_toProtoS.l0 k l ys i)
  (fun i hi=>by
   obtain ⟨K,hK0⟩:=toProto_to (hx _ (List.getElem_mem hi))
   have hK:∀ k,K≤k→laws_toProto.f k (l[i]).f0 (l[i]).f1 (l[i]).f2 (l[i]).f3 (l[i]).f4 (l[i]).f5 (l[i]).f6 (l[i]).f7 (l[i]).f8 (l[i]).f9=some _:=hK0
   refine ⟨K,fun k hk ys hys=>?_⟩
   have e:rd_T101 l (i:Int)=l[i]:=by simp [rd_T101,List.getD,hi]
   have e2:l.getD i z101=l[i]:=by simp [List.getD,hi]
   show laws_toProtoS.l0 (k+1) l ys i=laws_toProtoS.l0 k l _ _
   rw [laws_toProtoS.l0,if_pos (by omega),if_pos (by omega),e,hK k hk,Option.bind_some,if_pos (by omega),wrap_nat (by omega),e2,Int.toNat_natCast]
   rfl)
  (fun ys hys=>Evt.succ (Evt.now fun k=>by show laws_toProtoS.l0 (k+1) l ys l.length=_;rw [laws_toProtoS.l0,if_neg (by omega)])) (List.replicate l.length z44) (by simp)
 have h2:Evt (fun k=>laws_toProtoS.f k l) (l.map cp):=h.of_eq 0 fun k _=>by unfold laws_toProtoS.f;rw [if_pos (by omega),if_pos (by simp;omega),Int.toNat_natCast]
 exact h2.bind (h:=fun _ t=>some t) (Evt.const rfl)
/-! ### a chunk is like itself -/
theorem all_true {n:Nat} {L:Nat→Int→Option Bool} (hone:∀ i:Nat,i<n→∃ K,∀ k,K≤k→L (k+1) (i:Int)=L k ((i+1:Nat):Int)) (hend:∀ k,L (k+1) (n:Int)=some true):Evt (fun k=>L k 0) true:=by
 have h:=all_loop (n:=n) (p:=fun _=>true) (L:=L) (rest:=true) (fun i hi=>by
  obtain ⟨K,hK⟩:=hone i hi
  exact ⟨K,fun k hk=>by rw [hK k hk,if_pos rfl]⟩) (Evt.succ (Evt.now hend)) n 0 (by omega)
 rw [show ((List.range' 0 n).all (fun _=>true) && true)=true from by rw [Bool.and_true,List.all_eq_true];exact fun _ _=>rfl] at h
 exact h
theorem eqUint32S_eq {l:List Int} (hl:l.length≤1048576):Evt (fun k=>laws_eqUint32S.f k l l) true:=by
 refine (all_true (n:=l.length) (L:=fun k i=>laws_eqUint32S.l0 k l l i) (fun i hi=>⟨0,fun k _=>?_⟩) (fun k=>?_)).of_eq 0 fun k _=>by unfold laws_eqUint32S.f;rw [if_pos rfl]
 ·show laws_eqUint32S.l0 (k+1) l l i=laws_eqUint32S.l0 k l l _
  rw [laws_eqUint32S.l0,if_pos (by omega),if_pos (by omega),if_pos (by omega),if_pos rfl,wrap_nat (by omega)]
 ·show laws_eqUint32S.l0 (k+1) l l l.length=_
  rw [laws_eqUint32S.l0,if_neg (by omega)]
theorem eqIntS_eq {l:List Int} (hl:l.length≤1048576):Evt (fun k=>laws_eqIntS.f k l l) true:=by
 refine (all_true (n:=l.length) (L:=fun k i=>laws_eqIntS.l0 k l l i) (fun i hi=>⟨0,fun k _=>?_⟩) (fun k=>?_)).of_eq 0 fun k _=>by unfold laws_eqIntS.f;rw [if_pos rfl]
 ·show laws_eqIntS.l0 (k+1) l l i=laws_eqIntS.l0 k l l _
  rw [laws_eqIntS.l0,if_pos (by omega),if_pos (by omega),if_pos (by omega),if_pos rfl,wrap_nat (by omega)]
 ·show laws_eqIntS.l0 (k+1) l l l.length=_
  rw [laws_eqIntS.l0,if_neg (by omega)]
theorem eqStringS_eq {l:List ByteArray} (hl:l.length≤1048576):Evt (fun k=>laws_eqStringS.f k l l) true:=by
 refine (all_true (n:=l.length) (L:=fun k i=>laws_eqStringS.l0 k l l i) (fun i hi=>⟨0,fun k _=>?_⟩) (fun k=>?_)).of_eq 0 fun k _=>by unfold laws_eqStringS.f;rw [if_pos rfl]
 ·show laws_eqStringS.l0 (k+1) l l i=laws_eqStringS.l0 k l l _
  rw [laws_eqStringS.l0,if_pos (by omega),if_pos (by omega),if_pos (by omega),if_pos rfl,wrap_nat (by omega)]
 ·show laws_eqStringS.l0 (k+1) l l l.length=_
  rw [laws_eqStringS.l0,if_neg (by omega)]
theorem eqValueS_eq {l:List S85} (hl:l.length≤1048576):Evt (fun k=>laws_eqValueS.f k l l) true:=by
 refine (all_true (n:=l.length) (L:=fun k i=>laws_eqValueS.l0 k l l i) (fun i hi=>⟨0,fun k _=>?_⟩) (fun k=>?_)).of_eq 0 fun k _=>by unfold laws_eqValueS.f;rw [if_pos rfl]
 ·show laws_eqValueS.l0 (k+1) l l i=laws_eqValueS.l0 k l l _
  rw [laws_eqValueS.l0,if_pos (by omega),if_pos (by omega),if_pos (by omega),laws_eqValue.f,if_pos rfl,if_pos rfl,if_pos rfl,Option.bind_some,if_pos rfl,wrap_nat (by omega)]
 ·show laws_eqValueS.l0 (k+1) l l l.length=_
  rw [laws_eqValueS.l0,if_neg (by omega)]
theorem eqUpS_eq {l:List S89} (hl:l.length≤1048576):Evt (fun k=>laws_eqUpS.f k l l) true:=by
 refine (all_true (n:=l.length) (L:=fun k i=>laws_eqUpS.l0 k l l i) (fun i hi=>⟨0,fun k _=>?_⟩) (fun k=>?_)).of_eq 0 fun k _=>by unfold laws_eqUpS.f;rw [if_pos rfl]
 ·show laws_eqUpS.l0 (k+1) l l i=laws_eqUpS.l0 k l l _
  rw [laws_eqUpS.l0,if_pos (by omega),if_pos (by omega),if_pos (by omega),laws_eqUp.f,if_neg (by simp),if_pos rfl,Option.bind_some,if_pos rfl,wrap_nat (by omega)]
 ·show laws_eqUpS.l0 (k+1) l l l.length=_
  rw [laws_eqUpS.l0,if_neg (by omega)]
/-- What fits into 2 ^ 20, of the program's own prototype. -/
structure Fit (x:S44):Prop where
 l3:x.f3.length≤1048576
 l4:x.f4.length≤1048576
 l5:x.f5.length≤1048576
 l8:x.f8.length≤1048576
 l9:x.f9.length≤1048576
theorem fit_of {x:S101} (h:Fits x):Fit (cp x):=⟨h.l3,by simpa [cp] using h.l4,by simpa [cp] using h.l5,h.l8,h.l9⟩
theorem eqProto_eq {x:S44} (hx:Fit x):Evt (fun k=>laws_eqProto.f k x.f0 x.f1 x.f2 x.f3 x.f4 x.f5 x.f6 x.f7 x.f8 x.f9 x.f0 x.f1 x.f2 x.f3 x.f4 x.f5 x.f6 x.f7 x.f8 x.f9) true:=by
 obtain ⟨K1,h1⟩:=eqUint32S_eq hx.l3
 obtain ⟨K2,h2⟩:=eqValueS_eq hx.l4
 obtain ⟨K3,h3⟩:=eqUpS_eq hx.l5
 obtain ⟨K4,h4⟩:=eqIntS_eq hx.l8
 obtain ⟨K5,h5⟩:=eqStringS_eq hx.l9
 refine ⟨K1+K2+K3+K4+K5,fun k hk=>?_⟩
 have h1:laws_eqUint32S.f k x.f3 x.f3=some true:=h1 k (by omega)
 have h2:laws_eqValueS.f k x.f4 x.f4=some true:=h2 k (by omega)
 have h3:laws_eqUpS.f k x.f5 x.f5=some true:=h3 k (by omega)
 have h4:laws_eqIntS.f k x.f8 x.f8=some true:=h4 k (by omega)
 have h5:laws_eqStringS.f k x.f9 x.f9=some true:=h5 k (by omega)
 unfold laws_eqProto.f
 simp only [h1,h2,h3,h4,h5,Option.bind_some,if_true,bne_self_eq_false,Bool.false_eq_true,if_false]
theorem eqChunk_eq {l:List S44} (hl:l.length≤1048576) (hx:∀ x ∈ l,Fit x):Evt (fun k=>laws_eqChunk.f k l l) true:=by
 have h:Evt (fun k=>laws_eqProtoS.f k l l) true:=by
  refine (all_true (n:=l.length) (L:=fun k i=>laws_eqProtoS.l0 k l l i) (fun i hi=>?_) (fun k=>?_)).of_eq 0 fun k _=>by unfold laws_eqProtoS.f;rw [if_pos rfl]
  ·obtain ⟨K,hK0⟩:=eqProto_eq (hx _ (List.getElem_mem hi))
   have e:rd_T44 l (i:Int)=l[i]:=by simp [rd_T44,List.getD,hi]
   refine ⟨K,fun k hk=>?_⟩
   have hK:=hK0 k hk
   show laws_eqProtoS.l0 (k+1) l l i=laws_eqProtoS.l0 k l l _
   rw [laws_eqProtoS.l0,if_pos (by omega),if_pos (by omega),if_pos (by omega),e]
   dsimp only at hK
   rw [hK,Option.bind_some,if_pos rfl,wrap_nat (by omega)]
  ·show laws_eqProtoS.l0 (k+1) l l l.length=_
   rw [laws_eqProtoS.l0,if_neg (by omega)]
 exact h.bind (h:=fun _ t=>if t=true then some true else some false) (Evt.const rfl)
/-! ### a prototype in order -/
def pl (v:S85):Bool:=if v.f0=3 then decide (v.f1=0) && decide (v.f2.size≤1000) else if v.f2.size > 0 then false else if v.f0=1 then decide (v.f1=0) || decide (v.f1=1) else if v.f0=2 then true else if v.f0=0 then decide (v.f1=0) else false
def num (n:Int):Bool:=decide (0≤n) && decide (n≤16777215)
def frame (p:S44):Bool:=!impl_Proto_good.c1 p.f0 p.f2 p.f3.length p.f4.length p.f5.length p.f7.size
def texts (p:S44):Bool:=(decide (p.f8.length=0) || decide (p.f8.length=p.f3.length)) && (decide (p.f9.length=0) || decide (p.f9.length=p.f5.length))
def ok (p:S44):Bool:=frame p && (texts p && (p.f4.all pl && (p.f5.all (fun u=>num u.f1) && (p.f8.all num && (p.f9.all fun s=>decide (s.size≤1000))))))
theorem toList_nil (s:ByteArray):(s.toList == ([]:List UInt8))=decide (s.size=0):=by
 rw [Bool.eq_iff_iff,beq_iff_eq,decide_eq_true_iff]
 constructor
 ·intro h
  have e:s.toList.length=s.size:=by rw [ByteArray.toList_eq];exact Array.length_toList
  rw [h] at e
  exact e.symm
 ·intro h
  have e:s.toList.length=s.size:=by rw [ByteArray.toList_eq];exact Array.length_toList
  exact List.length_eq_zero_iff.1 (by omega)
theorem spec_pl (v:S85):spec_l2Plain.f v.f0 v.f1 v.f2=some (pl v):=by
 unfold spec_l2Plain.f pl
 by_cases h3:v.f0=3
 ·rw [if_pos h3,if_pos h3]
  by_cases h1:v.f1=0
  ·rw [if_pos h1]
   simp only [h1,decide_true,Bool.true_and,Option.some.injEq,decide_eq_decide]
   omega
  ·rw [if_neg h1]
   simp [h1]
 ·rw [if_neg h3,if_neg h3]
  by_cases hs:v.f2.size > 0
  ·rw [if_pos (show (v.f2.size:Int) > 0 by omega),if_pos hs]
  ·rw [if_neg (show ¬ (v.f2.size:Int) > 0 by omega),if_neg hs]
   by_cases h1:v.f0=1
   ·rw [if_pos h1,if_pos h1]
    by_cases h0:v.f1=0
    ·rw [if_pos h0];simp [h0]
    ·rw [if_neg h0]
     simp only [Option.some.injEq,h0,decide_false,Bool.false_or]
     rw [Bool.eq_iff_iff,beq_iff_eq,decide_eq_true_iff]
   ·rw [if_neg h1,if_neg h1]
    by_cases h2:v.f0=2
    ·rw [if_pos h2,if_pos h2]
    ·rw [if_neg h2,if_neg h2]
     by_cases h0:v.f0=0
     ·rw [if_pos h0,if_pos h0]
      simp only [Option.some.injEq]
      rw [Bool.eq_iff_iff,beq_iff_eq,decide_eq_true_iff]
     ·rw [if_neg h0,if_neg h0]
theorem impl_pl (v:S85):impl_plain.f v.f0 v.f1 v.f2=some (pl v):=by
 unfold impl_plain.f pl
 simp only [toList_nil]
 by_cases h3:v.f0=3
 ·rw [if_neg (by omega),if_neg (by omega),if_neg (by omega),if_pos h3,if_pos h3]
  by_cases h1:v.f1=0
  ·rw [if_pos h1]
   simp only [h1,decide_true,Bool.true_and,Option.some.injEq,decide_eq_decide]
   omega
  ·rw [if_neg h1]
   simp [h1]
 ·rw [if_neg h3,if_neg h3]
  by_cases hs:v.f2.size > 0
  ·rw [if_pos hs]
   have e:decide (v.f2.size=0)=false:=decide_eq_false (by omega)
   simp only [e]
   repeat' split
   all_goals rfl
  ·rw [if_neg hs]
   have e:decide (v.f2.size=0)=true:=decide_eq_true (by omega)
   simp only [e]
   by_cases h0:v.f0=0
   ·have e1:¬ v.f0=1:=by omega
    have e2:¬ v.f0=2:=by omega
    simp only [if_pos h0,if_neg e1,if_neg e2]
    by_cases h1:v.f1=0 <;> simp [h1]
   ·rw [if_neg h0]
    by_cases h1:v.f0=1
    ·rw [if_pos h1,if_pos h1]
     by_cases h2:v.f1=0
     ·simp [h2]
     ·by_cases h4:v.f1=1 <;> simp [h2,h4]
    ·rw [if_neg h1,if_neg h1]
     by_cases h2:v.f0=2
     ·rw [if_pos h2,if_pos h2]
     ·rw [if_neg h2,if_neg h2,if_neg h0]
theorem spec_num (n:Int):spec_l2NumOk.f n=some (num n):=by
 unfold spec_l2NumOk.f num
 by_cases h:n ≥ 0
 ·rw [if_pos h];simp [show 0≤n from h]
 ·rw [if_neg h];simp [show ¬ 0≤n from h]
theorem impl_num (n:Int):impl_within.f n 0 16777215=some (num n):=by
 unfold impl_within.f num
 by_cases h:0≤n
 ·rw [if_pos h];simp [h]
 ·rw [if_neg h];simp [h]
theorem idx_all {α:Type} {z:α} {p:α→Option Bool} {q:α→Bool} (hp:∀ x,p x=some (!q x)) (l:List α) (hl:l.length≤1048576):∀ m i:Nat,i+m=l.length→∃ r,impl_Proto_good.idx z p (m+1) l (i:Int)=some r∧(0≤r↔(l.drop i).all q=false):=by
 intro m
 induction m with
 | zero =>
  intro i hi
  refine ⟨-1,by rw [impl_Proto_good.idx,if_neg (by omega)],?_⟩
  rw [show i=l.length by omega,List.drop_length]
  simp
 | succ m ih =>
  intro i hi
  have hil:i<l.length:=by omega
  have e:l.getD (i:Int).toNat z=l[i]:=by simp [List.getD,hil]
  by_cases hq:q l[i]=true
  ·obtain ⟨r,hr,h⟩:=ih (i+1) (by omega)
   refine ⟨r,?_,?_⟩
   ·rw [impl_Proto_good.idx,if_pos (by omega),if_pos (by omega),e,hp,Option.bind_some,if_neg (by simp [hq]),wrap_nat (by omega)]
    exact hr
   ·rw [h,List.drop_eq_getElem_cons hil,List.all_cons,hq,Bool.true_and]
  ·refine ⟨i,?_,?_⟩
   ·rw [impl_Proto_good.idx,if_pos (by omega),if_pos (by omega),e,hp,Option.bind_some,if_pos (by simp [hq])]
   ·rw [List.drop_eq_getElem_cons hil,List.all_cons]
    simp [hq]
theorem idx_if {α:Type} {z:α} {p:α→Option Bool} {q:α→Bool} (hp:∀ x,p x=some (!q x)) (l:List α) (hl:l.length≤1048576) (o:Option Bool):(impl_Proto_good.idx z p (l.length+1) l 0).bind (fun r=>if 0≤r then some false else o)=if l.all q=true then o else some false:=by
 obtain ⟨r,hr,h⟩:=idx_all (z:=z) hp l hl l.length 0 (by omega)
 rw [show ((0:Nat):Int)=0 from rfl] at hr
 rw [hr,Option.bind_some]
 rw [List.drop_zero] at h
 by_cases hq:l.all q=true
 ·rw [if_pos hq,if_neg (fun h0=>by rw [h.1 h0] at hq;cases hq)]
 ·rw [if_neg hq,if_pos (h.2 (by simpa using hq))]
theorem impl_good (p:S44) (hx:Fit p):impl_Proto_good.f p.f0 p.f1 p.f2 p.f3 p.f4 p.f5 p.f6 p.f7 p.f8 p.f9=some (ok p && decide (0≤p.f6)):=by
 unfold impl_Proto_good.f
 rw [idx_if (q:=pl) (fun v=>by rw [impl_pl];rfl) p.f4 hx.l4]
 rw [idx_if (q:=fun u:S89=>num u.f1) (fun v=>by rw [impl_num];rfl) p.f5 hx.l5]
 rw [idx_if (q:=num) (fun v=>by rw [impl_num];rfl) p.f8 hx.l8]
 rw [idx_if (q:=fun s:ByteArray=>decide (s.size≤1000)) (fun v=>by
  unfold impl_Proto_good.short
  rw [Option.map_some]
  congr 2
  rw [decide_eq_decide]
  omega) p.f9 hx.l9]
 unfold ok frame
 by_cases h1:impl_Proto_good.c1 p.f0 p.f2 p.f3.length p.f4.length p.f5.length p.f7.size=true
 ·rw [if_pos h1,h1];rfl
 ·rw [if_neg h1]
  have h1:impl_Proto_good.c1 p.f0 p.f2 p.f3.length p.f4.length p.f5.length p.f7.size=false:=by simpa using h1
  rw [h1]
  have h2:impl_Proto_good.c2 p.f3.length p.f5.length p.f8.length p.f9.length p.f6=!(texts p && decide (0≤p.f6)):=by
   unfold impl_Proto_good.c2 texts
   by_cases a:p.f8.length=0 <;> by_cases b:p.f8.length=p.f3.length <;> by_cases c:p.f9.length=0 <;> by_cases d:p.f9.length=p.f5.length <;> by_cases e:p.f6<0 <;> simp [a,b,c,d,e] <;> omega
  rw [h2]
  cases texts p <;> cases decide (0≤p.f6) <;> cases p.f4.all pl <;> cases (p.f5.all fun u=>num u.f1) <;> cases p.f8.all num <;> cases (p.f9.all fun s=>decide (s.size≤1000)) <;> rfl
/-! ### the reference's word on a prototype -/
theorem spec_ok (p:S44) (hx:Fit p):Evt (fun k=>spec_l2ProtoOk.f k p.f0 p.f1 p.f2 p.f3 p.f4 p.f5 p.f6 p.f7 p.f8 p.f9) (ok p):=by
 have h3:Evt (fun k=>spec_l2ProtoOk.l3 k 0 p.f0 p.f1 p.f2 p.f3 p.f4 p.f5 p.f6 p.f7 p.f8 p.f9) (p.f9.all (fun s=>decide (s.size≤1000)) && true):=by
  refine all_list (xs:=p.f9) (z:=ByteArray.empty) (q:=fun s=>decide (s.size≤1000)) (L:=fun k i=>spec_l2ProtoOk.l3 k i p.f0 p.f1 p.f2 p.f3 p.f4 p.f5 p.f6 p.f7 p.f8 p.f9) (fun i hi=>⟨0,fun k _=>?_⟩) (Evt.succ (Evt.now fun k=>?_))
  ·have:=hx.l9
   have e:rdOf ByteArray.empty p.f9 (i:Int)=p.f9.getD i ByteArray.empty:=by simp [rdOf]
   rw [← e]
   show spec_l2ProtoOk.l3 (k+1) i _ _ _ _ _ _ _ _ _ _=if _ then spec_l2ProtoOk.l3 k _ _ _ _ _ _ _ _ _ _ _ else _
   rw [spec_l2ProtoOk.l3,if_pos (by omega),if_pos (by omega),wrap_nat (by omega)]
   generalize rdOf ByteArray.empty p.f9 (i:Int)=v
   by_cases h:v.size≤1000
   ·rw [if_neg (by omega),if_pos (by simpa using h)]
   ·rw [if_pos (by omega),if_neg (by simpa using h)]
  ·show spec_l2ProtoOk.l3 (k+1) p.f9.length _ _ _ _ _ _ _ _ _ _=_
   rw [spec_l2ProtoOk.l3,if_neg (by omega)]
 have h2:Evt (fun k=>spec_l2ProtoOk.l2 k 0 p.f0 p.f1 p.f2 p.f3 p.f4 p.f5 p.f6 p.f7 p.f8 p.f9) (p.f8.all num && (p.f9.all (fun s=>decide (s.size≤1000)) && true)):=by
  refine all_list (xs:=p.f8) (z:=0) (q:=num) (L:=fun k i=>spec_l2ProtoOk.l2 k i p.f0 p.f1 p.f2 p.f3 p.f4 p.f5 p.f6 p.f7 p.f8 p.f9) (fun i hi=>⟨0,fun k _=>?_⟩) (Evt.succ (h3.of_eq 0 fun k _=>?_))
  ·have:=hx.l8
   have e:rd p.f8 (i:Int)=p.f8.getD i 0:=by simp [rd]
   rw [← e]
   show spec_l2ProtoOk.l2 (k+1) i _ _ _ _ _ _ _ _ _ _=if _ then spec_l2ProtoOk.l2 k _ _ _ _ _ _ _ _ _ _ _ else _
   rw [spec_l2ProtoOk.l2,if_pos (by omega),if_pos (by omega),wrap_nat (by omega),spec_num,Option.bind_some]
  ·show spec_l2ProtoOk.l2 (k+1) p.f8.length _ _ _ _ _ _ _ _ _ _=_
   rw [spec_l2ProtoOk.l2,if_neg (by omega)]
 have h1:Evt (fun k=>spec_l2ProtoOk.l1 k 0 p.f0 p.f1 p.f2 p.f3 p.f4 p.f5 p.f6 p.f7 p.f8 p.f9) (p.f5.all (fun u=>num u.f1) && (p.f8.all num && (p.f9.all (fun s=>decide (s.size≤1000)) && true))):=by
  refine all_list (xs:=p.f5) (z:=z89) (q:=fun u=>num u.f1) (L:=fun k i=>spec_l2ProtoOk.l1 k i p.f0 p.f1 p.f2 p.f3 p.f4 p.f5 p.f6 p.f7 p.f8 p.f9) (fun i hi=>⟨0,fun k _=>?_⟩) (Evt.succ (h2.of_eq 0 fun k _=>?_))
  ·have:=hx.l5
   have e:rd_T89 p.f5 (i:Int)=p.f5.getD i z89:=by simp [rd_T89]
   rw [← e]
   show spec_l2ProtoOk.l1 (k+1) i _ _ _ _ _ _ _ _ _ _=if _ then spec_l2ProtoOk.l1 k _ _ _ _ _ _ _ _ _ _ _ else _
   rw [spec_l2ProtoOk.l1,if_pos (by omega),if_pos (by omega),wrap_nat (by omega),spec_num,Option.bind_some]
  ·show spec_l2ProtoOk.l1 (k+1) p.f5.length _ _ _ _ _ _ _ _ _ _=_
   rw [spec_l2ProtoOk.l1,if_neg (by omega)]
 have h0:Evt (fun k=>spec_l2ProtoOk.l0 k 0 p.f0 p.f1 p.f2 p.f3 p.f4 p.f5 p.f6 p.f7 p.f8 p.f9) (p.f4.all pl && (p.f5.all (fun u=>num u.f1) && (p.f8.all num && (p.f9.all (fun s=>decide (s.size≤1000)) && true)))):=by
  refine all_list (xs:=p.f4) (z:=z85) (q:=pl) (L:=fun k i=>spec_l2ProtoOk.l0 k i p.f0 p.f1 p.f2 p.f3 p.f4 p.f5 p.f6 p.f7 p.f8 p.f9) (fun i hi=>⟨0,fun k _=>?_⟩) (Evt.succ (h1.of_eq 0 fun k _=>?_))
  ·have:=hx.l4
   have e:rd_T85 p.f4 (i:Int)=p.f4.getD i z85:=by simp [rd_T85]
   rw [← e]
   show spec_l2ProtoOk.l0 (k+1) i _ _ _ _ _ _ _ _ _ _=if _ then spec_l2ProtoOk.l0 k _ _ _ _ _ _ _ _ _ _ _ else _
   rw [spec_l2ProtoOk.l0,if_pos (by omega),if_pos (by omega),wrap_nat (by omega),spec_pl,Option.bind_some]
  ·show spec_l2ProtoOk.l0 (k+1) p.f4.length _ _ _ _ _ _ _ _ _ _=_
   rw [spec_l2ProtoOk.l0,if_neg (by omega)]
 obtain ⟨V,hV⟩:∃ V,(p.f4.all pl && (p.f5.all (fun u=>num u.f1) && (p.f8.all num && (p.f9.all (fun s=>decide (s.size≤1000)) && true))))=V:=⟨_,rfl⟩
 rw [hV] at h0
 have hj2:∀ b,Evt (fun k=>spec_l2ProtoOk.j2 k b p.f0 p.f1 p.f2 p.f3 p.f4 p.f5 p.f6 p.f7 p.f8 p.f9) (!b && V):=by
  intro b
  refine Evt.succ ?_
  cases b
  ·exact h0.of_eq 0 fun k _=>by rw [spec_l2ProtoOk.j2,if_neg (by decide)]
  ·exact Evt.now fun k=>by rw [spec_l2ProtoOk.j2,if_pos rfl];rfl
 have hj1:∀ b,Evt (fun k=>spec_l2ProtoOk.j1 k b p.f0 p.f1 p.f2 p.f3 p.f4 p.f5 p.f6 p.f7 p.f8 p.f9) (!b && (texts p && V)):=by
  intro b
  refine Evt.succ ?_
  cases b
  ·have e:texts p=!(if (p.f8.length:Int) > 0 then (if (p.f8.length:Int)=(p.f3.length:Int) then (if (p.f9.length:Int) > 0 then ((p.f9.length:Int) != (p.f5.length:Int)) else false) else true) else (if (p.f9.length:Int) > 0 then ((p.f9.length:Int) != (p.f5.length:Int)) else false)):=by
    unfold texts
    have ne:((p.f9.length:Int) != (p.f5.length:Int))=!decide (p.f9.length=p.f5.length):=by
     rw [bne,Bool.eq_iff_iff,Bool.not_eq_true',beq_eq_false_iff_ne,Bool.not_eq_true',decide_eq_false_iff_not]
     omega
    rw [ne]
    by_cases a:p.f8.length=0
    ·rw [if_neg (by omega)]
     by_cases c:p.f9.length=0
     ·rw [if_neg (by omega)];simp [a,c]
     ·rw [if_pos (by omega)];simp [a,c]
    ·rw [if_pos (by omega)]
     by_cases b:p.f8.length=p.f3.length
     ·rw [if_pos (by omega)]
      by_cases c:p.f9.length=0
      ·rw [if_neg (by omega)];simp [b,c]
      ·rw [if_pos (by omega)];simp [b,c]
     ·rw [if_neg (by omega)];simp [a,b]
   refine (hj2 (!texts p)).of_eq 0 (fun k _=>?_) |> fun h=>by simpa using h
   rw [spec_l2ProtoOk.j1,if_neg (by decide),e,Bool.not_not]
   repeat' split
   all_goals rfl
  ·exact Evt.now fun k=>by rw [spec_l2ProtoOk.j1,if_pos rfl];rfl
 have hj0:∀ b,Evt (fun k=>spec_l2ProtoOk.j0 k b p.f0 p.f1 p.f2 p.f3 p.f4 p.f5 p.f6 p.f7 p.f8 p.f9) (!(b || (decide (500<p.f4.length) || (decide (60<p.f5.length) || decide (1000<p.f7.size)))) && (texts p && V)):=by
  intro b
  refine Evt.succ ?_
  cases b
  ·refine (hj1 (decide (500<p.f4.length) || (decide (60<p.f5.length) || decide (1000<p.f7.size)))).of_eq 0 (fun k _=>?_) |> fun h=>by simpa using h
   rw [spec_l2ProtoOk.j0,if_neg (by decide)]
   by_cases a:500<p.f4.length
   ·rw [if_pos (by omega)];simp [a]
   ·rw [if_neg (by omega)]
    by_cases b:60<p.f5.length
    ·rw [if_pos (by omega)];simp [b]
    ·rw [if_neg (by omega)]
     have e:decide ((p.f7.size:Int) > 1000)=decide (1000<p.f7.size):=by rw [decide_eq_decide];omega
     rw [e];simp [a,b]
  ·exact Evt.now fun k=>by rw [spec_l2ProtoOk.j0,if_pos rfl];rfl
 have e:ok p=(!((!(impl_Proto_good.wi p.f2 1 250) || (!(impl_Proto_good.wi p.f0 0 p.f2) || !(impl_Proto_good.wi (p.f3.length:Int) 1 2000))) || (decide (500<p.f4.length) || (decide (60<p.f5.length) || decide (1000<p.f7.size)))) && (texts p && V)):=by
  rw [← hV,ok,frame,impl_Proto_good.c1,Bool.and_true]
  simp only [Bool.or_assoc]
 rw [e]
 refine (hj0 _).of_eq 0 fun k _=>?_
 unfold spec_l2ProtoOk.f impl_Proto_good.wi
 by_cases a:p.f2<1
 ·rw [if_pos a];simp [show ¬ 1≤p.f2 by omega]
 ·rw [if_neg a]
  by_cases b:p.f2 > 250
  ·rw [if_pos b];simp [show ¬ p.f2≤250 by omega]
  ·rw [if_neg b]
   by_cases c:p.f0<0
   ·rw [if_pos c];simp [show ¬ 0≤p.f0 by omega]
   ·rw [if_neg c]
    by_cases d:p.f0 > p.f2
    ·rw [if_pos d];simp [show ¬ p.f0≤p.f2 by omega]
    ·rw [if_neg d]
     by_cases f:(p.f3.length:Int)<1
     ·rw [if_pos f];simp [show ¬ 1≤(p.f3.length:Int) by omega]
     ·rw [if_neg f]
      have q:(!(decide (1≤p.f2) && decide (p.f2≤250)) || (!(decide (0≤p.f0) && decide (p.f0≤p.f2)) || !(decide (1≤(p.f3.length:Int)) && decide ((p.f3.length:Int)≤2000))))=decide ((p.f3.length:Int) > 2000):=by
       rw [decide_eq_true (show 1≤p.f2 by omega),decide_eq_true (show p.f2≤250 by omega),decide_eq_true (show 0≤p.f0 by omega),decide_eq_true (show p.f0≤p.f2 by omega),decide_eq_true (show 1≤(p.f3.length:Int) by omega)]
       by_cases g:(p.f3.length:Int)≤2000
       ·rw [decide_eq_true g,decide_eq_false (by omega)];rfl
       ·rw [decide_eq_false g,decide_eq_true (by omega)];rfl
      rw [q]
/-! ### the tree -/
def lpE (g:Nat→Int):Nat→Nat→Int
 | 0,at_=>(at_:Int)
 | m+1,at_=>if g at_<0 then -1 else lpE g m (g at_).toNat
def endOf (ks:List Int):Nat→Nat→Int
 | 0,_=>-1
 | f+1,i=>if ks.length≤i then -1 else if ks.getD i 0<0 then -1 else lpE (endOf ks f) (ks.getD i 0).toNat (i+1)
theorem lpE_bounds {ks:List Int} {g:Nat→Int} (hg:∀ i,i≤ks.length→g i=-1∨((i:Int)<g i∧g i≤ks.length∧∀ j:Nat,i≤j→(j:Int)<g i→0≤ks.getD j 0)) :
  ∀ m at_:Nat,at_≤ks.length→lpE g m at_=-1∨((at_:Int)≤lpE g m at_∧lpE g m at_≤ks.length∧∀ j:Nat,at_≤j→(j:Int)<lpE g m at_→0≤ks.getD j 0):=by
 intro m
 induction m with
 | zero=>exact fun at_ h=>.inr ⟨Int.le_refl _,by simp only [lpE];omega,fun j h1 h2=>by simp only [lpE] at h2;omega⟩
 | succ m ih =>
  intro at_ h
  simp only [lpE]
  by_cases hn:g at_<0
  ·rw [if_pos hn];exact .inl rfl
  ·rw [if_neg hn]
   rcases hg at_ h with h1|⟨h1,h2,h3⟩
   ·omega
   ·rcases ih (g at_).toNat (by omega) with h4|⟨h4,h5,h6⟩
    ·exact .inl h4
    ·refine .inr ⟨by omega,h5,fun j hj1 hj2=>?_⟩
     by_cases hj:(j:Int)<g at_
     ·exact h3 j hj1 hj
     ·exact h6 j (by omega) hj2
theorem endOf_bounds {ks:List Int}:∀ f i:Nat,i≤ks.length→endOf ks f i=-1∨((i:Int)<endOf ks f i∧endOf ks f i≤ks.length∧∀ j:Nat,i≤j→(j:Int)<endOf ks f i→0≤ks.getD j 0):=by
 intro f
 induction f with
 | zero=>exact fun i _=>.inl rfl
 | succ f ih =>
  intro i hi
  simp only [endOf]
  by_cases h1:ks.length≤i
  ·rw [if_pos h1];exact .inl rfl
  ·rw [if_neg h1]
   by_cases h2:ks.getD i 0<0
   ·rw [if_pos h2];exact .inl rfl
   ·rw [if_neg h2]
    rcases lpE_bounds ih (ks.getD i 0).toNat (i+1) (by omega) with h4|⟨h4,h5,h6⟩
    ·exact .inl h4
    ·refine .inr ⟨by omega,h5,fun j hj1 hj2=>?_⟩
     by_cases hj:j=i
     ·subst hj;omega
     ·exact h6 j (by omega) hj2
theorem wk_end {ks:List Int} (hk:∀ j:Nat,0≤ks.getD j 0):∀ (f i:Nat) (s:List Int×List Int),(impl_WellFormed.wk ks f i s).1=endOf ks f i:=by
 intro f
 induction f with
 | zero=>exact fun i s=>rfl
 | succ f ih =>
  intro i s
  have inner:∀ (m at_:Nat) (s:List Int×List Int),(impl_WellFormed.lp (impl_WellFormed.wk ks f) m at_ s).1=lpE (endOf ks f) m at_:=by
   intro m
   induction m with
   | zero=>exact fun at_ s=>rfl
   | succ m ihm =>
    intro at_ s
    simp only [impl_WellFormed.lp,lpE]
    rw [ih at_ s]
    by_cases hn:endOf ks f at_<0
    ·rw [if_pos hn,if_pos hn]
    ·rw [if_neg hn,if_neg hn]
     exact ihm _ _
  simp only [impl_WellFormed.wk,endOf]
  by_cases h1:ks.length≤i
  ·rw [if_pos h1,if_pos h1]
  ·have hkn:¬ ks.getD i 0<0:=by have:=hk i;omega
   rw [if_neg h1,if_neg h1,if_neg hkn]
   rw [inner]
   by_cases hn:lpE (endOf ks f) (ks.getD i 0).toNat (i+1)<0
   ·rw [if_pos hn]
    have:=lpE_bounds (ks:=ks) (endOf_bounds f) (ks.getD i 0).toNat (i+1) (by omega)
    omega
   ·rw [if_neg hn]
theorem spec_end {ps:List S44} (hn:ps.length≤1048576) (hk:∀ p ∈ ps,p.f6≤9223372036854775807):∀ (f i:Nat),f≤64→Evt (fun k=>spec_l2End.f k ps (i:Int) (64-(f:Int))) (endOf (ps.map (·.f6)) f i):=by
 have hlen:(ps.map (·.f6)).length=ps.length:=by simp
 intro f
 induction f with
 | zero =>
  intro i _
  refine Evt.succ (Evt.succ (Evt.now fun k=>?_))
  show spec_l2End.f (k+1+1) ps (i:Int) (64-((0:Nat):Int))=some (-1)
  rw [spec_l2End.f]
  by_cases hi:(i:Int) ≥ (ps.length:Int)
  ·rw [if_pos hi,spec_l2End.j0,if_pos rfl]
  ·rw [if_neg hi,if_pos (by omega),spec_l2End.j0,if_pos rfl]
 | succ f ih =>
  intro i hf
  simp only [endOf]
  rw [hlen]
  by_cases hi:ps.length≤i
  ·rw [if_pos hi]
   refine Evt.succ (Evt.succ (Evt.now fun k=>?_))
   show spec_l2End.f (k+1+1) ps (i:Int) _=some (-1)
   rw [spec_l2End.f,if_pos (by omega),spec_l2End.j0,if_pos rfl]
  ·rw [if_neg hi]
   have hil:i<ps.length:=by omega
   have e:rd_T44 ps (i:Int)=ps[i]:=by simp [rd_T44,List.getD,hil]
   have ek:(ps.map (·.f6)).getD i 0=ps[i].f6:=by simp [List.getD,hil]
   rw [ek]
   have hK:ps[i].f6≤9223372036854775807:=hk _ (List.getElem_mem hil)
   have e64:(64:Int)-((f+1:Nat):Int)=63-(f:Int):=by omega
   rw [e64]
   obtain ⟨K,hKd⟩:∃ K,K=ps[i].f6:=⟨_,rfl⟩
   rw [← hKd] at hK ⊢
   have head:∀ k,spec_l2End.f (k+1) ps (i:Int) (63-(f:Int))=spec_l2End.j0 k ps (i:Int) (63-(f:Int)) (decide (K<0)):=by
    intro k
    rw [spec_l2End.f,if_neg (by omega),if_neg (by omega),if_pos (by omega),if_pos (by omega),e,← hKd]
   by_cases hneg:K<0
   ·rw [if_pos hneg]
    refine Evt.succ (Evt.succ (Evt.now fun k=>?_))
    show spec_l2End.f (k+1+1) ps (i:Int) _=some (-1)
    rw [head,spec_l2End.j0,if_pos (decide_eq_true hneg)]
   ·rw [if_neg hneg]
    have loop:∀ d m at_:Nat,ps.length-at_≤d→at_≤ps.length→(m:Int)≤K→Evt (fun k=>spec_l2End.l0 k ps (i:Int) (63-(f:Int)) (at_:Int) (K-(m:Int))) (lpE (endOf (ps.map (·.f6)) f) m at_):=by
     intro d
     induction d with
     | zero =>
      intro m at_ hd ha hm
      have hat:at_=ps.length:=by omega
      cases m with
      | zero =>
       refine Evt.succ (Evt.now fun k=>?_)
       show spec_l2End.l0 (k+1) ps (i:Int) _ (at_:Int) (K-((0:Nat):Int))=some _
       rw [spec_l2End.l0,if_pos (by omega),if_pos (by omega),e,← hKd,if_neg (by omega)]
       rfl
      | succ m =>
       have hb:=endOf_bounds (ks:=ps.map (·.f6)) f at_ (by omega)
       have hv:endOf (ps.map (·.f6)) f at_=-1:=by
        rcases hb with hb|⟨h1,h2,_⟩
        ·exact hb
        ·omega
       simp only [lpE]
       rw [hv,if_pos (by decide)]
       obtain ⟨L,hL⟩:=ih at_ (by omega)
       rw [hv] at hL
       refine ⟨L+2,fun k hk'=>?_⟩
       obtain ⟨k,rfl⟩:∃ q,k=q+1+1:=⟨k-2,by omega⟩
       have h1:spec_l2End.f (k+1) ps (at_:Int) (64-(f:Int))=some (-1):=hL _ (by omega)
       show spec_l2End.l0 (k+1+1) ps (i:Int) _ (at_:Int) (K-((m+1:Nat):Int))=some _
       rw [spec_l2End.l0,if_pos (by omega),if_pos (by omega),e,← hKd,if_pos (by omega),if_pos (by omega),wrap_id (by omega) (by omega),show (63-(f:Int)+1)=64-(f:Int) by omega,h1,Option.bind_some]
       rw [spec_l2End.l0,if_pos (by omega),if_pos (by omega)]
       by_cases q:wrap64 (K-((m+1:Nat):Int)+1)<(rd_T44 ps (i:Int)).f6
       ·rw [if_pos q,if_neg (by decide)]
       ·rw [if_neg q]
     | succ d ihd =>
      intro m at_ hd ha hm
      cases m with
      | zero =>
       refine Evt.succ (Evt.now fun k=>?_)
       show spec_l2End.l0 (k+1) ps (i:Int) _ (at_:Int) (K-((0:Nat):Int))=some _
       rw [spec_l2End.l0,if_pos (by omega),if_pos (by omega),e,← hKd,if_neg (by omega)]
       rfl
      | succ m =>
       have hb:=endOf_bounds (ks:=ps.map (·.f6)) f at_ (by omega)
       obtain ⟨L,hL⟩:=ih at_ (by omega)
       simp only [lpE]
       by_cases hv:endOf (ps.map (·.f6)) f at_<0
       ·rw [if_pos hv]
        have hv1:endOf (ps.map (·.f6)) f at_=-1:=by
         rcases hb with hb|⟨h1,_,_⟩
         ·exact hb
         ·omega
        rw [hv1] at hL
        refine ⟨L+2,fun k hk'=>?_⟩
        obtain ⟨k,rfl⟩:∃ q,k=q+1+1:=⟨k-2,by omega⟩
        have h1:spec_l2End.f (k+1) ps (at_:Int) (64-(f:Int))=some (-1):=hL _ (by omega)
        show spec_l2End.l0 (k+1+1) ps (i:Int) _ (at_:Int) (K-((m+1:Nat):Int))=some _
        rw [spec_l2End.l0,if_pos (by omega),if_pos (by omega),e,← hKd,if_pos (by omega),if_pos (by omega),wrap_id (by omega) (by omega),show (63-(f:Int)+1)=64-(f:Int) by omega,h1,Option.bind_some]
        rw [spec_l2End.l0,if_pos (by omega),if_pos (by omega)]
        by_cases q:wrap64 (K-((m+1:Nat):Int)+1)<(rd_T44 ps (i:Int)).f6
        ·rw [if_pos q,if_neg (by decide)]
        ·rw [if_neg q]
       ·rw [if_neg hv]
        obtain ⟨t,ht⟩:∃ t:Nat,endOf (ps.map (·.f6)) f at_=(t:Int):=⟨(endOf (ps.map (·.f6)) f at_).toNat,by omega⟩
        rw [ht] at hb hL ⊢
        have hb2:at_<t∧t≤ps.length:=by
         rcases hb with hb|⟨h1,h2,_⟩
         ·omega
         ·rw [hlen] at h2;omega
        have hrest:=ihd m t (by omega) hb2.2 (by omega)
        rw [Int.toNat_natCast]
        refine Evt.succ (hrest.of_eq L fun k hk'=>?_)
        have h1:spec_l2End.f k ps (at_:Int) (64-(f:Int))=some (t:Int):=hL _ hk'
        show spec_l2End.l0 (k+1) ps (i:Int) _ (at_:Int) (K-((m+1:Nat):Int))=_
        rw [spec_l2End.l0,if_pos (by omega),if_pos (by omega),e,← hKd,if_pos (by omega),if_pos (by omega),wrap_id (by omega) (by omega),show (63-(f:Int)+1)=64-(f:Int) by omega,h1,Option.bind_some,wrap_id (by omega) (by omega),show K-((m+1:Nat):Int)+1=K-(m:Int) by omega]
    have h:=loop ps.length K.toNat (i+1) (by omega) (by omega) (by omega)
    rw [show K-(K.toNat:Int)=0 by omega] at h
    refine Evt.succ (Evt.succ (h.of_eq 0 fun k _=>?_))
    show spec_l2End.f (k+1+1) ps (i:Int) _=_
    rw [head,spec_l2End.j0,if_neg (by simpa using hneg),wrap_nat (by omega)]
/-! ### both answer alike -/
def word (l:List S44):Bool:=decide (1≤l.length∧l.length≤200) && (decide (endOf (l.map (·.f6)) 64 0=(l.length:Int)) && l.all ok)
theorem spec_word {l:List S44} (hl:l.length≤1048576) (hx:∀ p ∈ l,Fit p) (hk:∀ p ∈ l,p.f6≤9223372036854775807):Evt (fun k=>spec_WellFormed.f k l) (word l):=by
 have hend:=spec_end hl hk 64 0 (Nat.le_refl _)
 have hall:Evt (fun k=>spec_WellFormed.l0 k (l.length:Int) 0 l) (l.all ok && true):=by
  refine all_list (xs:=l) (z:=z44) (q:=ok) (L:=fun k i=>spec_WellFormed.l0 k (l.length:Int) i l) (fun i hi=>?_) (Evt.succ (Evt.now fun k=>?_))
  ·obtain ⟨K,hK0⟩:=spec_ok _ (hx _ (List.getElem_mem hi))
   have e:rd_T44 l (i:Int)=l[i]:=by simp [rd_T44,List.getD,hi]
   have e2:l.getD i z44=l[i]:=by simp [List.getD,hi]
   refine ⟨K,fun k hk=>?_⟩
   have hK:=hK0 k hk
   dsimp only at hK
   show spec_WellFormed.l0 (k+1) (l.length:Int) i l=if _ then spec_WellFormed.l0 k (l.length:Int) _ l else _
   rw [spec_WellFormed.l0,if_pos (by omega),if_pos (by omega),if_pos (by omega),e,hK,Option.bind_some,wrap_nat (by omega),e2]
  ·show spec_WellFormed.l0 (k+1) (l.length:Int) l.length l=_
   rw [spec_WellFormed.l0,if_neg (by omega)]
 rw [Bool.and_true] at hall
 have hj:∀ b,Evt (fun k=>spec_WellFormed.j0 k (l.length:Int) b l) (!b && l.all ok):=by
  intro b
  refine Evt.succ ?_
  cases b
  ·exact hall.of_eq 0 fun k _=>by rw [spec_WellFormed.j0,if_neg (by decide)]
  ·exact Evt.now fun k=>by rw [spec_WellFormed.j0,if_pos rfl];rfl
 unfold word
 by_cases h1:l.length<1
 ·rw [decide_eq_false (by omega),Bool.false_and]
  exact (hj true).of_eq 0 fun k _=>by unfold spec_WellFormed.f;rw [if_pos (by omega)]
 ·by_cases h2:l.length > 200
  ·rw [decide_eq_false (by omega),Bool.false_and]
   exact (hj true).of_eq 0 fun k _=>by unfold spec_WellFormed.f;rw [if_neg (by omega),if_pos (by omega)]
  ·rw [decide_eq_true (by omega),Bool.true_and]
   have hb:Evt (fun k=>(spec_l2End.f k l 0 0).bind fun t=>spec_WellFormed.j0 k (l.length:Int) (t != (l.length:Int)) l) (!(endOf (l.map (·.f6)) 64 0 != (l.length:Int)) && l.all ok):=hend.bind (h:=fun k t=>spec_WellFormed.j0 k (l.length:Int) (t != (l.length:Int)) l) (hj _)
   have e:(!(endOf (l.map (·.f6)) 64 0 != (l.length:Int)))=decide (endOf (l.map (·.f6)) 64 0=(l.length:Int)):=by
    rw [bne,Bool.not_not,Bool.eq_iff_iff,beq_iff_eq,decide_eq_true_iff]
   rw [e] at hb
   exact hb.of_eq 0 fun k _=>by unfold spec_WellFormed.f;rw [if_neg (by omega),if_neg (by omega)]
theorem goods_all {l:List S44} (hx:∀ p ∈ l,Fit p):impl_WellFormed.goods l=some (l.all fun p=>ok p && decide (0≤p.f6)):=by
 induction l with
 | nil=>rfl
 | cons p l ih =>
  rw [impl_WellFormed.goods,impl_good p (hx p List.mem_cons_self),Option.bind_some,ih (fun q hq=>hx q (List.mem_cons_of_mem _ hq)),List.all_cons]
  cases (ok p && decide (0≤p.f6)) <;> rfl
theorem impl_word {l:List S44} (hx:∀ p ∈ l,Fit p) (hk:∀ p ∈ l,p.f6≤9223372036854775807):impl_WellFormed.f l=some (word l):=by
 unfold impl_WellFormed.f word
 by_cases h1:l.length<1∨200<l.length
 ·rw [if_pos h1,decide_eq_false (by omega),Bool.false_and]
 ·rw [if_neg h1,decide_eq_true (show 1≤l.length∧l.length≤200 by omega),Bool.true_and]
  have hs:impl_WellFormed.small l=true:=List.all_eq_true.2 fun p hp=>decide_eq_true (hk p hp)
  rw [if_pos hs,goods_all hx,Option.bind_some]
  by_cases hg:(l.all fun p=>ok p && decide (0≤p.f6))=true
  ·rw [if_pos hg]
   have hok:l.all ok=true:=List.all_eq_true.2 fun p hp=>by
    have:=List.all_eq_true.1 hg p hp
    rw [Bool.and_eq_true] at this
    exact this.1
   have hk0:∀ j:Nat,0≤(l.map (·.f6)).getD j 0:=by
    intro j
    by_cases hj:j<l.length
    ·have:=List.all_eq_true.1 hg _ (List.getElem_mem hj)
     rw [Bool.and_eq_true,decide_eq_true_iff] at this
     have e:(l.map (·.f6)).getD j 0=l[j].f6:=by simp [List.getD,hj]
     rw [e]
     exact this.2
    ·have e:(l.map (·.f6)).getD j 0=0:=by simp [List.getD,hj]
     rw [e]
     exact Int.le_refl _
   rw [hok,Bool.and_true]
   have ef:(impl_WellFormed.fin (l.map (·.f6))).1=endOf (l.map (·.f6)) 64 0:=wk_end hk0 64 0 _
   congr 1
   rw [decide_eq_decide,impl_WellFormed.come,ef,List.length_map]
   by_cases he:endOf (l.map (·.f6)) 64 0=(l.length:Int)
   ·rw [if_pos he]
    simp [impl_WellFormed.all,he]
   ·rw [if_neg he]
    simp only [List.length_nil]
    constructor
    ·intro h;omega
    ·intro h;exact absurd h he
  ·rw [if_neg hg]
   congr 1
   symm
   rw [Bool.and_eq_false_iff]
   by_cases hok:l.all ok=true
   ·left
    refine decide_eq_false fun he=>hg ?_
    have hb:=endOf_bounds (ks:=l.map (·.f6)) 64 0 (Nat.zero_le _)
    rw [he] at hb
    rcases hb with hb|⟨_,_,hb⟩
    ·omega
    ·refine List.all_eq_true.2 fun p hp=>?_
     obtain ⟨j,hj,rfl⟩:=List.getElem_of_mem hp
     have h0:=hb j (Nat.zero_le _) (by omega)
     have e:(l.map (·.f6)).getD j 0=l[j].f6:=by simp [List.getD,hj]
     rw [e] at h0
     rw [List.all_eq_true.1 hok _ hp,Bool.true_and]
     exact decide_eq_true h0
   ·right
    simpa using hok
theorem spec_put_small (k:Nat) {x:Int} (h0:0≤x) (h:x<128):spec_PutVarint.f (k+2) x=some (strOfNums (vl x)):=by
 have h2:decide (x > 16777215)=false:=decide_eq_false (by omega)
 simp only [spec_PutVarint.f]
 rw [if_neg (by omega),h2]
 simp only [spec_PutVarint.j0]
 rw [if_neg (by decide),if_pos h]
 simp only [spec_l1Byte.f,Option.bind_some]
 rw [vl_small h,show x % 256=x by omega]

theorem spec_put_step (k:Nat) {x:Int} (h0:128≤x) (h:x≤16777215) (hr:spec_PutVarint.f k (x / 128)=some (strOfNums (vl (x / 128)))) :
  spec_PutVarint.f (k+2) x=some (strOfNums (vl x)):=by
 have h2:decide (x > 16777215)=false:=decide_eq_false (by omega)
 have e1:Int.tmod x 128=x % 128:=Int.tmod_eq_emod_of_nonneg (by omega)
 have e2:Int.tdiv x 128=x / 128:=Int.tdiv_eq_ediv_of_nonneg (by omega)
 simp only [spec_PutVarint.f]
 rw [if_neg (by omega),h2]
 simp only [spec_PutVarint.j0]
 rw [if_neg (by decide),if_neg (by omega),e1,e2,wrap_id (by omega) (by omega),wrap_id (by omega) (by omega),hr]
 simp only [spec_l1Byte.f,Option.bind_some]
 have hs:(strOfNums [(x % 128+128) % 256]).size+(strOfNums (vl (x / 128))).size≤9223372036854775807:=by
  rw [strOfNums_size,strOfNums_size,vl_size]
  simp only [List.length_cons,List.length_nil]
  split
  ·omega
  ·split
   ·omega
   ·split <;> omega
 rw [if_pos hs,str_append,vl_step h0 h,show (x % 128+128) % 256=x % 128+128 by omega]
 rfl

theorem spec_put {x:Int} (h0:0≤x) (h:x≤16777215):∀ k,8≤k→spec_PutVarint.f k x=some (strOfNums (vl x)):=by
 intro k hk
 obtain ⟨m,rfl⟩:∃ m,k=m+2+2+2+2:=⟨k-8,by omega⟩
 by_cases h1:x<128
 ·exact spec_put_small _ h0 h1
 ·refine spec_put_step _ (by omega) h ?_
  by_cases h2:x / 128<128
  ·exact spec_put_small _ (by omega) h2
  ·refine spec_put_step _ (by omega) (by omega) ?_
   by_cases h3:x / 128 / 128<128
   ·exact spec_put_small _ (by omega) h3
   ·refine spec_put_step _ (by omega) (by omega) ?_
    exact spec_put_small _ (by omega) (by omega)

theorem spec_put_none {x:Int} (h:x<0∨16777215<x) (k:Nat):spec_PutVarint.f (k+2) x=some (⟨#[]⟩:ByteArray):=by
 simp only [spec_PutVarint.f]
 by_cases h0:x<0
 ·rw [if_pos h0];simp only [spec_PutVarint.j0,if_true]
 ·rw [if_neg h0,decide_eq_true (show x > 16777215 by omega)];simp only [spec_PutVarint.j0,if_true]

theorem impl_put_small (k:Nat) {x:Int} (out:List Int) (h0:0≤x) (h:x<128) (hl:out.length<1000):impl_PutVarint.l0 (k+1) x out=some (strOfNums (out++vl x)):=by
 simp only [impl_PutVarint.l0]
 rw [if_neg (by omega),if_pos (by omega),vl_small h,show x % 256=x by omega]

theorem impl_put_step (k:Nat) {x:Int} (out:List Int) (h0:128≤x) (h:x≤16777215) (hl:out.length<1000)
  (hr:impl_PutVarint.l0 k (x / 128) (out++[x % 128+128])=some (strOfNums (out++[x % 128+128]++vl (x / 128)))) :
  impl_PutVarint.l0 (k+1) x out=some (strOfNums (out++vl x)):=by
 simp only [impl_PutVarint.l0]
 rw [if_pos (by omega),if_pos (by omega),or128,hr,vl_step h0 h]
 simp

theorem impl_put {x:Int} (h0:0≤x) (h:x≤16777215) (k:Nat):impl_PutVarint.f (k+5) x=some (strOfNums (vl x)):=by
 have h2:decide (x > 16777215)=false:=decide_eq_false (by omega)
 unfold impl_PutVarint.f
 rw [if_neg (by omega),h2]
 simp only [impl_PutVarint.j0]
 rw [if_neg (by decide)]
 have e:∀ l:List Int,l=[]++l:=fun l=>rfl
 rw [e (vl x)]
 by_cases h1:x<128
 ·exact impl_put_small _ _ h0 h1 (by simp)
 ·refine impl_put_step _ _ (by omega) h (by simp) ?_
  by_cases h2:x / 128<128
  ·exact impl_put_small _ _ (by omega) h2 (by simp)
  ·refine impl_put_step _ _ (by omega) (by omega) (by simp) ?_
   by_cases h3:x / 128 / 128<128
   ·exact impl_put_small _ _ (by omega) h3 (by simp)
   ·refine impl_put_step _ _ (by omega) (by omega) (by simp) ?_
    exact impl_put_small _ _ (by omega) (by omega) (by simp)

theorem impl_put_none {x:Int} (h:x<0∨16777215<x) (k:Nat):impl_PutVarint.f (k+1) x=some (⟨#[]⟩:ByteArray):=by
 unfold impl_PutVarint.f
 by_cases h0:x<0
 ·rw [if_pos h0];simp only [impl_PutVarint.j0,if_true]
 ·rw [if_neg h0,decide_eq_true (show x > 16777215 by omega)];simp only [impl_PutVarint.j0,if_true]

theorem put_step (k:Nat) {u i:Int} (out:List Int) (h0:0≤u) (h1:u<18446744073709551616) (hi0:0≤i) (hi:i<8) (hl:out.length<1000) :
  spec_PutInt.l0 (k+1) u out i=spec_PutInt.l0 k (u / 256) (out++[u % 256]) (i+1):=by
 have e1:Int.tdiv u 256=u / 256:=Int.tdiv_eq_ediv_of_nonneg h0
 have e2:Int.tmod u 256=u % 256:=Int.tmod_eq_emod_of_nonneg h0
 conv=>lhs;simp only [spec_PutInt.l0]
 rw [if_pos hi,if_pos (by omega),e1,e2,u64_id (by omega) (by omega),wrap_id (by omega) (by omega),show u % 256 % 256=u % 256 by omega]

theorem put_end (k:Nat) (u:Int) (out:List Int):spec_PutInt.l0 (k+1) u out 8=some (strOfNums out):=by
 simp only [spec_PutInt.l0]
 rw [if_neg (by omega)]

theorem put_same (n:Int) (k:Nat):spec_PutInt.f (k+9) n=impl_PutInt.f n:=by
 unfold spec_PutInt.f impl_PutInt.f
 have hu:0≤IntKind.u64.wrap n∧IntKind.u64.wrap n<18446744073709551616:=by rw [IntKind.wrap_u64];omega
 generalize IntKind.u64.wrap n=u at hu
 obtain ⟨h0,h1⟩:=hu
 rw [put_step _ _ h0 h1 (by omega) (by omega) (by simp)]
 rw [put_step _ _ (by omega) (by omega) (by omega) (by omega) (by simp)]
 rw [put_step _ _ (by omega) (by omega) (by omega) (by omega) (by simp)]
 rw [put_step _ _ (by omega) (by omega) (by omega) (by omega) (by simp)]
 rw [put_step _ _ (by omega) (by omega) (by omega) (by omega) (by simp)]
 rw [put_step _ _ (by omega) (by omega) (by omega) (by omega) (by simp)]
 rw [put_step _ _ (by omega) (by omega) (by omega) (by omega) (by simp)]
 rw [put_step _ _ (by omega) (by omega) (by omega) (by omega) (by simp)]
 have e2:u / 256 / 256=u / 65536:=by omega
 have e3:u / 65536 / 256=u / 16777216:=by omega
 have e4:u / 16777216 / 256=u / 4294967296:=by omega
 have e5:u / 4294967296 / 256=u / 1099511627776:=by omega
 have e6:u / 1099511627776 / 256=u / 281474976710656:=by omega
 have e7:u / 281474976710656 / 256=u / 72057594037927936:=by omega
 rw [e2,e3,e4,e5,e6,e7]
 rw [show (0:Int)+1+1+1+1+1+1+1+1=8 by omega,put_end]
 rfl

/-! ### what is written -/
def nat8 (l:List UInt8):List Int:=l.map fun x=>(x.toNat:Int)
theorem nat8_app (l m:List UInt8):nat8 (l++m)=nat8 l++nat8 m:=by simp [nat8]
theorem nat8_len (l:List UInt8):(nat8 l).length=l.length:=by simp [nat8]
theorem nat8_str (s:ByteArray):bytesOf s=nat8 s.data.toList:=rfl
theorem strOf_nat8 (l:List UInt8):strOfNums (nat8 l)=⟨l.toArray⟩:=by
 apply ByteArray.ext
 have e:((fun n:Int=>UInt8.ofNat n.toNat)∘fun x:UInt8=>(x.toNat:Int))=id:=by
  funext x
  simp
 simp [strOfNums,nat8,e]
theorem data_len (s:ByteArray):s.data.toList.length=s.size:=Array.length_toList
theorem put_ev {x0:List Int} {s:ByteArray} (h:x0.length+s.size≤140737488355328):Evt (fun k=>spec_l3Put.f k x0 s) (x0++bytesOf s):=by
 have hl:(bytesOf s).length=s.size:=by rw [nat8_str,nat8_len,data_len]
 have key:∀ m i:Nat,i+m=s.size→∀ y:List Int,y.length+m≤140737488355328→Evt (fun k=>spec_l3Put.l0 k y s (i:Int)) (y++(bytesOf s).drop i):=by
  intro m
  induction m with
  | zero =>
   intro i hi y _
   refine Evt.succ (Evt.now fun k=>?_)
   rw [List.drop_eq_nil_of_le (by omega),List.append_nil]
   show spec_l3Put.l0 (k+1) y s i=some y
   rw [spec_l3Put.l0,if_neg (by omega)]
  | succ m ih =>
   intro i hi y hy
   have hi':i<(bytesOf s).length:=by omega
   have e:bt s (i:Int)=(bytesOf s)[i]:=by rw [← rd_bytesOf];simp [rd,List.getD,hi']
   have h2:=ih (i+1) (by omega) (y++[bt s (i:Int)]) (by simp;omega)
   rw [List.drop_eq_getElem_cons hi',← e,show y++bt s (i:Int)::List.drop (i+1) (bytesOf s)=(y++[bt s (i:Int)])++List.drop (i+1) (bytesOf s) by simp]
   refine Evt.succ (h2.of_eq 0 fun k _=>?_)
   show spec_l3Put.l0 (k+1) y s i=_
   rw [spec_l3Put.l0,if_pos (by omega),if_pos (by omega),if_pos (by omega),wrap_nat (by omega)]
 have:=key s.size 0 (by omega) x0 h
 rw [List.drop_zero] at this
 exact this
/-- A loop that adds to what it holds. -/
theorem acc_loop {α R:Type} {xs:List α} {g:α→List UInt8} {L:Nat→List Int→Int→Option R} {F:List UInt8→R} {M:Nat}
  (hone:∀ (i:Nat) (hi:i<xs.length) (l:List UInt8),l.length+(g xs[i]).length≤M→∃ K,∀ k,K≤k→L (k+1) (nat8 l) (i:Int)=L k (nat8 (l++g xs[i])) ((i+1:Nat):Int))
  (hend:∀ l:List UInt8,l.length≤M→Evt (fun k=>L k (nat8 l) (xs.length:Int)) (F l)) (l:List UInt8) (h:l.length+(xs.flatMap g).length≤M):Evt (fun k=>L k (nat8 l) 0) (F (l++xs.flatMap g)):=by
 have key:∀ m i:Nat,i+m=xs.length→∀ l:List UInt8,l.length+((xs.drop i).flatMap g).length≤M→Evt (fun k=>L k (nat8 l) (i:Int)) (F (l++(xs.drop i).flatMap g)):=by
  intro m
  induction m with
  | zero =>
   intro i hi l hl
   rw [show i=xs.length by omega,List.drop_length] at hl ⊢
   rw [List.flatMap_nil,List.append_nil]
   exact hend l (by simpa using hl)
  | succ m ih =>
   intro i hi l hl
   have hi':i<xs.length:=by omega
   rw [List.drop_eq_getElem_cons hi',List.flatMap_cons] at hl ⊢
   rw [List.length_append] at hl
   obtain ⟨K,hK⟩:=hone i hi' l (by omega)
   have h2:=ih (i+1) (by omega) (l++g xs[i]) (by rw [List.length_append];omega)
   rw [List.append_assoc] at h2
   exact Evt.succ (h2.of_eq K fun k hk=>hK k hk)
 have:=key xs.length 0 (by omega) l (by simpa using h)
 simpa using this
/-- PutVarint's answer. -/
def pv (n:Int):ByteArray:=if n<0∨16777215<n then ⟨#[]⟩ else strOfNums (vl n)
theorem pv_size (n:Int):(pv n).size≤4:=by
 unfold pv
 split
 ·exact Nat.zero_le _
 ·rw [strOfNums_size,vl_size]
  split
  ·omega
  ·split
   ·omega
   ·split <;> omega
theorem impl_pv (n:Int):impl_PutVarint.f 10 n=some (pv n):=by
 unfold pv
 by_cases h:n<0∨16777215<n
 ·rw [if_pos h];exact impl_put_none h 9
 ·rw [if_neg h];exact impl_put (by omega) (by omega) 5
theorem spec_pv (n:Int):Evt (fun k=>spec_PutVarint.f k n) (pv n):=by
 unfold pv
 by_cases h:n<0∨16777215<n
 ·rw [if_pos h]
  exact Evt.succ (Evt.succ (Evt.now fun k=>spec_put_none h k))
 ·rw [if_neg h]
  exact ⟨8,fun k hk=>spec_put (by omega) (by omega) k hk⟩
/-- PutInt's answer. -/
def pint (a:Int):ByteArray:=strOfNums [IntKind.u64.wrap a % 256,IntKind.u64.wrap a / 256 % 256,IntKind.u64.wrap a / 65536 % 256,IntKind.u64.wrap a / 16777216 % 256,IntKind.u64.wrap a / 4294967296 % 256,IntKind.u64.wrap a / 1099511627776 % 256,IntKind.u64.wrap a / 281474976710656 % 256,IntKind.u64.wrap a / 72057594037927936 % 256]
theorem impl_pint (a:Int):impl_PutInt.f a=some (pint a):=rfl
theorem spec_pint (a:Int):Evt (fun k=>spec_PutInt.f k a) (pint a):=⟨9,fun k hk=>by
 obtain ⟨m,rfl⟩:∃ m,k=m+9:=⟨k-9,by omega⟩
 exact put_same a m⟩
/-- A constant's bytes (of the kinds 0 to 3). -/
def cB (v:S85):List UInt8:=if v.f0=0 then [0] else if v.f0=1 then [UInt8.ofNat (wrap64 (1+v.f1) % 256).toNat] else if v.f0=2 then 3::(pint v.f1).data.toList else if v.f0=3 then 4::((pv (v.f2.size:Int)).data.toList++v.f2.data.toList) else []
theorem impl_cB (v:S85):impl_Dump.vbytes 10 v.f0 v.f1 v.f2=some (cB v):=by
 unfold impl_Dump.vbytes cB
 rw [impl_pint,impl_pv]
 repeat' split
 all_goals rfl
theorem cB_len (v:S85):(cB v).length≤9+v.f2.size:=by
 unfold cB
 have h1:(pint v.f1).data.toList.length=8:=by rw [data_len,pint,strOfNums_size];rfl
 have h2:=pv_size (v.f2.size:Int)
 split
 ·simp;omega
 ·split
  ·simp;omega
  ·split
   ·rw [List.length_cons,h1];omega
   ·split
    ·rw [List.length_cons,List.length_append,data_len,data_len];omega
    ·simp
theorem str_app (a b:List UInt8):(⟨a.toArray⟩:ByteArray)++⟨b.toArray⟩=⟨(a++b).toArray⟩:=by
 apply ByteArray.ext
 simp [ByteArray.data_append]
theorem str_app' (a b:ByteArray):(a++b).data.toList=a.data.toList++b.data.toList:=by simp [ByteArray.data_append]
theorem spec_sized (s:ByteArray) (h:s.size≤1048576):Evt (fun k=>spec_l3Sized.f k s) (pv (s.size:Int)++s):=by
 have h2:=pv_size (s.size:Int)
 refine (spec_pv (s.size:Int)).bind (h:=fun _ t254=>(if t254.size+s.size≤9223372036854775807 then (some (t254++s)) else (none))) (Evt.now fun k=>?_) |>.of_eq 0 fun k _=>by unfold spec_l3Sized.f;rfl
 rw [if_pos (by omega)]
theorem spec_cB (v:S85) (hk:pl v=true) (hs:v.f2.size≤1048576):Evt (fun k=>spec_l3Const.f k v.f0 v.f1 v.f2) ⟨(cB v).toArray⟩:=by
 unfold spec_l3Const.f cB
 by_cases h0:v.f0=0
 ·simp only [if_pos h0];exact Evt.const rfl
 ·by_cases h1:v.f0=1
  ·simp only [if_neg h0,if_pos h1]
   refine Evt.now fun k=>?_
   unfold spec_l1Byte.f
   rw [Option.bind_some]
   rfl
  ·by_cases h2:v.f0=2
   ·simp only [if_neg h0,if_neg h1,if_pos h2]
    refine (spec_pint v.f1).bind (h:=fun _ t263=>(if 1+t263.size≤9223372036854775807 then (some ((⟨#[3]⟩:ByteArray)++t263)) else (none))) (Evt.now fun k=>?_)
    have h1:(pint v.f1).size=8:=by rw [pint,strOfNums_size];rfl
    rw [if_pos (by omega)]
    congr 1
   ·by_cases h3:v.f0=3
    ·simp only [if_neg h0,if_neg h1,if_neg h2,if_pos h3]
     have h4:=pv_size (v.f2.size:Int)
     refine (spec_sized v.f2 hs).bind (h:=fun _ t264=>(if 1+t264.size≤9223372036854775807 then (some ((⟨#[4]⟩:ByteArray)++t264)) else (none))) (Evt.now fun k=>?_)
     rw [if_pos (by rw [ByteArray.size_append];omega)]
     congr 1
    ·exfalso
     unfold pl at hk
     rw [if_neg h3] at hk
     split at hk
     ·cases hk
     ·cases hk
/-! ### a prototype, written -/
def upB (u:S89):List UInt8:=impl_Dump.fb u.f0::(pv u.f1).data.toList
def txB (s:ByteArray):List UInt8:=(pv (s.size:Int)).data.toList++s.data.toList
def nB (n:Int):List UInt8:=(pv n).data.toList
def bare (p:S44):Bool:=decide (p.f7.size=0) && (decide (p.f8.length=0) && decide (p.f9.length=0))
def headB (p:S44):List UInt8:=[impl_Dump.fb p.f1]++(nB p.f0++(nB p.f2++((nB (p.f3.length:Int)++p.f3.flatMap impl_Dump.wbytes)++((nB (p.f4.length:Int)++p.f4.flatMap cB)++((nB (p.f5.length:Int)++p.f5.flatMap upB)++nB p.f6)))))
def tailB (p:S44):List UInt8:=(nB (p.f7.size:Int)++p.f7.data.toList)++((nB (p.f8.length:Int)++p.f8.flatMap nB)++(nB (p.f9.length:Int)++p.f9.flatMap txB))
def protoB (p:S44):List UInt8:=headB p++([impl_Dump.fb (!bare p)]++(if bare p=true then [] else tailB p))
theorem catB_all {α:Type} {g:α→Option (List UInt8)} {h:α→List UInt8} (hg:∀ x,g x=some (h x)):∀ xs:List α,impl_Dump.catB g xs=some (xs.flatMap h)
 | []=>rfl
 | x::xs=>by rw [impl_Dump.catB,hg,Option.bind_some,catB_all hg xs,Option.bind_some,List.flatMap_cons]
theorem catB_mem {α:Type} {g:α→Option (List UInt8)} {h:α→List UInt8}:∀ {xs:List α},(∀ x ∈ xs,g x=some (h x))→impl_Dump.catB g xs=some (xs.flatMap h)
 | [],_=>rfl
 | x::xs,hg=>by rw [impl_Dump.catB,hg x List.mem_cons_self,Option.bind_some,catB_mem (fun y hy=>hg y (List.mem_cons_of_mem _ hy)),Option.bind_some,List.flatMap_cons]
theorem impl_bare (p:S44):impl_Proto_bare.f p.f0 p.f1 p.f2 p.f3 p.f4 p.f5 p.f6 p.f7 p.f8 p.f9=some (bare p):=by
 unfold impl_Proto_bare.f bare
 have e:=toList_nil p.f7
 by_cases h1:p.f7.size=0
 ·rw [decide_eq_true h1,beq_iff_eq] at e
  rw [if_pos e,decide_eq_true h1,Bool.true_and]
  by_cases h2:p.f8.length=0
  ·rw [if_pos (by omega),decide_eq_true h2,Bool.true_and]
   congr 1
   rw [Bool.eq_iff_iff,beq_iff_eq,decide_eq_true_iff]
   omega
  ·rw [if_neg (by omega),decide_eq_false h2];rfl
 ·rw [decide_eq_false h1,beq_eq_false_iff_ne] at e
  rw [if_neg e,decide_eq_false h1];rfl
theorem spec_bare (p:S44):spec_l3Bare.f p.f0 p.f1 p.f2 p.f3 p.f4 p.f5 p.f6 p.f7 p.f8 p.f9=some (bare p):=by
 unfold spec_l3Bare.f bare
 by_cases h1:p.f7.size=0
 ·rw [if_pos (by omega),decide_eq_true h1,Bool.true_and]
  by_cases h2:p.f8.length=0
  ·rw [if_pos (by omega),decide_eq_true h2,Bool.true_and]
   congr 1
   rw [Bool.eq_iff_iff,beq_iff_eq,decide_eq_true_iff]
   omega
  ·rw [if_neg (by omega),decide_eq_false h2];rfl
 ·rw [if_neg (by omega),decide_eq_false h1];rfl
theorem impl_pb (p:S44) (hw:∀ x ∈ p.f3,0≤x∧x≤4294967295):impl_Dump.pb p=some (protoB p):=by
 unfold impl_Dump.pb
 have h3:(p.f3.all fun x=>decide (0≤x) && decide (x≤4294967295))=true:=List.all_eq_true.2 fun x hx=>by
  obtain ⟨h1,h2⟩:=hw x hx
  simp [h1,h2]
 rw [if_pos h3]
 have g3:impl_Dump.wordsB p.f3=some (p.f3.flatMap impl_Dump.wbytes):=catB_all (fun _=>rfl) _
 have g4:impl_Dump.constsB p.f4=some (p.f4.flatMap cB):=catB_all impl_cB _
 have g5:impl_Dump.upsB p.f5=some (p.f5.flatMap upB):=catB_all (fun x=>by rw [impl_pv];rfl) _
 have g8:impl_Dump.numsB p.f8=some (p.f8.flatMap nB):=catB_all (fun x=>by rw [impl_pv];rfl) _
 have g9:impl_Dump.textsB p.f9=some (p.f9.flatMap txB):=catB_all (fun x=>by rw [impl_pv];rfl) _
 simp only [impl_pv,g3,g4,g5,g8,g9,impl_bare,Option.bind_some]
 rfl
/-- What is so of a prototype in order. -/
structure Small (p:S44):Prop where
 l3:p.f3.length≤2000
 l4:p.f4.length≤500
 l5:p.f5.length≤60
 l7:p.f7.size≤1000
 l8:p.f8.length≤2000
 l9:p.f9.length≤60
 v4:∀ v ∈ p.f4,pl v=true
 t4:∀ v ∈ p.f4,v.f2.size≤1000
 t9:∀ s ∈ p.f9,s.size≤1000
theorem pl_size {v:S85} (h:pl v=true):v.f2.size≤1000:=by
 unfold pl at h
 split at h
 ·simp at h;exact h.2
 ·split at h
  ·cases h
  ·omega
theorem small_of {p:S44} (h:ok p=true):Small p:=by
 unfold ok frame texts impl_Proto_good.c1 impl_Proto_good.wi at h
 simp only [Bool.and_eq_true,Bool.not_eq_true',Bool.or_eq_false_iff,Bool.or_eq_true,decide_eq_true_eq,decide_eq_false_iff_not,Bool.not_eq_false',List.all_eq_true] at h
 obtain ⟨⟨h1,h2,h3,h4,h5,h6⟩,⟨h7,h8⟩,g4,g5,g8,g9⟩:=h
 refine ⟨by omega,by omega,by omega,by omega,?_,?_,g4,fun v hv=>pl_size (g4 v hv),g9⟩
 ·rcases h7 with h7|h7 <;> omega
 ·rcases h8 with h8|h8 <;> omega
theorem flat_len {α:Type} {g:α→List UInt8} {N:Nat}:∀ {xs:List α},(∀ x ∈ xs,(g x).length≤N)→(xs.flatMap g).length≤xs.length*N
 | [],_=>by simp
 | x::xs,h=>by
  rw [List.flatMap_cons,List.length_append,List.length_cons,Nat.add_mul]
  have:=h x List.mem_cons_self
  have:=flat_len (fun y hy=>h y (List.mem_cons_of_mem _ hy))
  omega
theorem nB_len (n:Int):(nB n).length≤4:=by rw [nB,data_len];exact pv_size n
theorem proto_len {p:S44} (h:Small p):(protoB p).length≤1000000:=by
 have a0:=nB_len p.f0
 have a2:=nB_len p.f2
 have a3:=nB_len (p.f3.length:Int)
 have a4:=nB_len (p.f4.length:Int)
 have a5:=nB_len (p.f5.length:Int)
 have a6:=nB_len p.f6
 have a7:=nB_len (p.f7.size:Int)
 have a8:=nB_len (p.f8.length:Int)
 have a9:=nB_len (p.f9.length:Int)
 have b3:(p.f3.flatMap impl_Dump.wbytes).length≤p.f3.length*4:=flat_len fun x _=>Nat.le_refl _
 have b4:(p.f4.flatMap cB).length≤p.f4.length*1009:=flat_len fun x hx=>by have:=cB_len x;have:=h.t4 x hx;omega
 have b5:(p.f5.flatMap upB).length≤p.f5.length*5:=flat_len fun x _=>by rw [upB,List.length_cons,data_len];have:=pv_size x.f1;omega
 have b8:(p.f8.flatMap nB).length≤p.f8.length*4:=flat_len fun x _=>nB_len x
 have b9:(p.f9.flatMap txB).length≤p.f9.length*1004:=flat_len fun x hx=>by rw [txB,List.length_append,data_len,data_len];have:=pv_size (x.size:Int);have:=h.t9 x hx;omega
 have c3:=h.l3
 have c4:=h.l4
 have c5:=h.l5
 have c7:=h.l7
 have c8:=h.l8
 have c9:=h.l9
 have d7:=data_len p.f7
 unfold protoB headB tailB
 by_cases hb:bare p=true
 ·rw [if_pos hb]
  simp only [List.length_append,List.length_cons,List.length_nil]
  omega
 ·rw [if_neg hb]
  simp only [List.length_append,List.length_cons,List.length_nil,d7]
  omega
/-! ### the reference writes the same -/
theorem str_of (s:ByteArray):(⟨s.data.toList.toArray⟩:ByteArray)=s:=by
 apply ByteArray.ext
 simp
/-- One text put behind what there is. -/
theorem put8 {l:List UInt8} {s:ByteArray} (h:l.length+s.size≤140737488355328):Evt (fun k=>spec_l3Put.f k (nat8 l) s) (nat8 (l++s.data.toList)):=by
 have:=put_ev (x0:=nat8 l) (s:=s) (by rw [nat8_len];exact h)
 rw [nat8_str,← nat8_app] at this
 exact this
theorem word8 {x:Int} (h0:0≤x) (h1:x≤4294967295):[x % 256,((Int.tdiv x 256) % 4294967296) % 256,((Int.tdiv x 65536) % 4294967296) % 256,((Int.tdiv x 16777216) % 4294967296) % 256]=nat8 (impl_Dump.wbytes x):=by
 have b:∀ y:Int,(((UInt8.ofNat (y % 256).toNat).toNat:Nat):Int)=y % 256:=fun y=>by rw [UInt8.toNat_ofNat'];omega
 have e1:Int.tdiv x 256=x / 256:=Int.tdiv_eq_ediv_of_nonneg h0
 have e2:Int.tdiv x 65536=x / 65536:=Int.tdiv_eq_ediv_of_nonneg h0
 have e3:Int.tdiv x 16777216=x / 16777216:=Int.tdiv_eq_ediv_of_nonneg h0
 simp only [nat8,impl_Dump.wbytes,List.map_cons,List.map_nil,b,e1,e2,e3]
 rw [show x / 256 % 4294967296 % 256=x / 256 % 256 by omega,show x / 65536 % 4294967296 % 256=x / 65536 % 256 by omega,show x / 16777216 % 4294967296 % 256=x / 16777216 % 256 by omega]
theorem flag8 (f:Bool):spec_l3Flag.f f=some ⟨[impl_Dump.fb f].toArray⟩:=by
 cases f <;> rfl
section
variable {p:S44} (hs:Small p) (hw:∀ x ∈ p.f3,0≤x∧x≤4294967295)
include hs
theorem spec_l4 {l:List UInt8} (h:l.length+(p.f9.flatMap txB).length≤140737488000000):Evt (fun k=>spec_l3Proto.l4 k (nat8 l) 0 p.f0 p.f1 p.f2 p.f3 p.f4 p.f5 p.f6 p.f7 p.f8 p.f9) (nat8 (l++p.f9.flatMap txB)):=by
 refine acc_loop (xs:=p.f9) (g:=txB) (L:=fun k x0 i=>spec_l3Proto.l4 k x0 i p.f0 p.f1 p.f2 p.f3 p.f4 p.f5 p.f6 p.f7 p.f8 p.f9) (F:=nat8) (M:=140737488000000) (fun i hi l hl=>?_) (fun l _=>Evt.succ (Evt.now fun k=>?_)) l h
 ·have hx:=hs.t9 _ (List.getElem_mem hi)
  have hc:=hs.l9
  have e:rdOf ByteArray.empty p.f9 (i:Int)=p.f9[i]:=by simp [rdOf,List.getD,hi]
  obtain ⟨K1,h1⟩:=spec_sized p.f9[i] (by omega)
  obtain ⟨K2,h2⟩:=put8 (l:=l) (s:=pv (p.f9[i].size:Int)++p.f9[i]) (by rw [txB,List.length_append,data_len,data_len] at hl;rw [ByteArray.size_append];omega)
  refine ⟨K1+K2,fun k hk=>?_⟩
  have h1:=h1 k (by omega)
  have h2:=h2 k (by omega)
  dsimp only at h1 h2
  show spec_l3Proto.l4 (k+1) (nat8 l) (i:Int) _ _ _ _ _ _ _ _ _ _=_
  rw [spec_l3Proto.l4,if_pos (by omega),if_pos (by omega),e,h1,Option.bind_some,h2,Option.bind_some,wrap_nat (by omega),str_app']
  rfl
 ·show spec_l3Proto.l4 (k+1) (nat8 l) (p.f9.length:Int) _ _ _ _ _ _ _ _ _ _=_
  rw [spec_l3Proto.l4,if_neg (by omega)]
theorem spec_l3 {l:List UInt8} (h:l.length+((p.f8.flatMap nB).length+((nB (p.f9.length:Int)).length+(p.f9.flatMap txB).length))≤140737488000000):Evt (fun k=>spec_l3Proto.l3 k (nat8 l) 0 p.f0 p.f1 p.f2 p.f3 p.f4 p.f5 p.f6 p.f7 p.f8 p.f9) (nat8 (l++p.f8.flatMap nB++(nB (p.f9.length:Int)++p.f9.flatMap txB))):=by
 refine acc_loop (xs:=p.f8) (g:=nB) (L:=fun k x0 i=>spec_l3Proto.l3 k x0 i p.f0 p.f1 p.f2 p.f3 p.f4 p.f5 p.f6 p.f7 p.f8 p.f9) (F:=fun l=>nat8 (l++(nB (p.f9.length:Int)++p.f9.flatMap txB))) (M:=140737488000000-((nB (p.f9.length:Int)).length+(p.f9.flatMap txB).length)) (fun i hi l hl=>?_) (fun l hl=>?_) l (by omega)
 ·have hc:=hs.l8
  have e:rd p.f8 (i:Int)=p.f8[i]:=by simp [rd,List.getD,hi]
  obtain ⟨K1,h1⟩:=spec_pv p.f8[i]
  obtain ⟨K2,h2⟩:=put8 (l:=l) (s:=pv p.f8[i]) (by rw [nB,data_len] at hl;omega)
  refine ⟨K1+K2,fun k hk=>?_⟩
  have h1:=h1 k (by omega)
  have h2:=h2 k (by omega)
  dsimp only at h1 h2
  show spec_l3Proto.l3 (k+1) (nat8 l) (i:Int) _ _ _ _ _ _ _ _ _ _=_
  rw [spec_l3Proto.l3,if_pos (by omega),if_pos (by omega),e,h1,Option.bind_some,h2,Option.bind_some,wrap_nat (by omega)]
  rfl
 ·obtain ⟨K1,h1⟩:=spec_pv (p.f9.length:Int)
  have n9:(nB (p.f9.length:Int)).length=(pv (p.f9.length:Int)).size:=data_len _
  obtain ⟨K2,h2⟩:=put8 (l:=l) (s:=pv (p.f9.length:Int)) (by omega)
  have h3:=spec_l4 hs (l:=l++nB (p.f9.length:Int)) (by rw [List.length_append];omega)
  rw [List.append_assoc] at h3
  refine Evt.succ (h3.of_eq (K1+K2) fun k hk=>?_)
  have h1:=h1 k (by omega)
  have h2:=h2 k (by omega)
  dsimp only at h1 h2
  show spec_l3Proto.l3 (k+1) (nat8 l) (p.f8.length:Int) _ _ _ _ _ _ _ _ _ _=_
  rw [spec_l3Proto.l3,if_neg (by omega),h1,Option.bind_some,h2,Option.bind_some]
  rfl
/-- What stands behind the upvalues. -/
def restB (p:S44):List UInt8:=nB p.f6++([impl_Dump.fb (!bare p)]++(if bare p=true then [] else tailB p))
theorem spec_l2 {l:List UInt8} (h:l.length+((p.f5.flatMap upB).length+(restB p).length)≤140737488000000):Evt (fun k=>spec_l3Proto.l2 k (nat8 l) 0 p.f0 p.f1 p.f2 p.f3 p.f4 p.f5 p.f6 p.f7 p.f8 p.f9) (nat8 (l++p.f5.flatMap upB++restB p)):=by
 refine acc_loop (xs:=p.f5) (g:=upB) (L:=fun k x0 i=>spec_l3Proto.l2 k x0 i p.f0 p.f1 p.f2 p.f3 p.f4 p.f5 p.f6 p.f7 p.f8 p.f9) (F:=fun l=>nat8 (l++restB p)) (M:=140737488000000-(restB p).length) (fun i hi l hl=>?_) (fun l hl=>?_) l (by omega)
 ·have hc:=hs.l5
  have e:rd_T89 p.f5 (i:Int)=p.f5[i]:=by simp [rd_T89,List.getD,hi]
  have hz:=pv_size p.f5[i].f1
  obtain ⟨K1,h1⟩:=spec_pv p.f5[i].f1
  have es:((⟨[impl_Dump.fb p.f5[i].f0].toArray⟩:ByteArray)++pv p.f5[i].f1).size=1+(pv p.f5[i].f1).size:=by rw [ByteArray.size_append];rfl
  obtain ⟨K2,h2⟩:=put8 (l:=l) (s:=(⟨[impl_Dump.fb p.f5[i].f0].toArray⟩:ByteArray)++pv p.f5[i].f1) (by rw [upB,List.length_cons,data_len] at hl;omega)
  refine ⟨K1+K2,fun k hk=>?_⟩
  have h1:=h1 k (by omega)
  have h2:=h2 k (by omega)
  dsimp only at h1 h2
  show spec_l3Proto.l2 (k+1) (nat8 l) (i:Int) _ _ _ _ _ _ _ _ _ _=_
  rw [spec_l3Proto.l2,if_pos (by omega),if_pos (by omega),e,flag8,Option.bind_some,h1,Option.bind_some,if_pos (by rw [← ByteArray.size_append,es];omega),h2,Option.bind_some,wrap_nat (by omega),str_app']
  rfl
 ·obtain ⟨K1,h1⟩:=spec_pv p.f6
  have hz:=pv_size p.f6
  have hr:(restB p).length=(nB p.f6).length+(1+(if bare p=true then [] else tailB p).length):=by rw [restB,List.length_append,List.length_append];rfl
  obtain ⟨K2,h2⟩:=put8 (l:=l) (s:=pv p.f6) (by rw [nB,data_len] at hr;omega)
  by_cases hb:bare p=true
  ·refine ⟨K1+K2+1,fun k hk=>?_⟩
   obtain ⟨k,rfl⟩:∃ q,k=q+1:=⟨k-1,by omega⟩
   have h1:=h1 k (by omega)
   have h2:=h2 k (by omega)
   dsimp only at h1 h2
   show spec_l3Proto.l2 (k+1) (nat8 l) (p.f5.length:Int) _ _ _ _ _ _ _ _ _ _=_
   rw [spec_l3Proto.l2,if_neg (by omega),h1,Option.bind_some,h2,Option.bind_some,spec_bare,Option.bind_some,if_pos hb,if_pos (by rw [nat8_len,List.length_append];have:=hl;rw [data_len];omega)]
   congr 1
   rw [restB,if_pos hb,hb,nat8_app,nat8_app,nat8_app,nat8_app,List.append_assoc]
   rfl
  ·rw [if_neg hb] at hr
   have ht:(tailB p).length=(pv (p.f7.size:Int)).size+p.f7.size+((pv (p.f8.length:Int)).size+(p.f8.flatMap nB).length+((pv (p.f9.length:Int)).size+(p.f9.flatMap txB).length)):=by
    rw [tailB,List.length_append,List.length_append,List.length_append,List.length_append,List.length_append,nB,nB,nB,data_len,data_len,data_len,data_len]
   have n6:(nB p.f6).length=(pv p.f6).size:=data_len _
   have n9:(nB (p.f9.length:Int)).length=(pv (p.f9.length:Int)).size:=data_len _
   have h7:=hs.l7
   have hz8:=pv_size (p.f8.length:Int)
   have hz7:=pv_size (p.f7.size:Int)
   obtain ⟨K3,h3⟩:=spec_sized p.f7 (by omega)
   obtain ⟨K4,h4⟩:=spec_pv (p.f8.length:Int)
   have es1:((⟨#[1]⟩:ByteArray)++(pv (p.f7.size:Int)++p.f7)).size=1+((pv (p.f7.size:Int)).size+p.f7.size):=by rw [ByteArray.size_append,ByteArray.size_append];rfl
   have es2:(((⟨#[1]⟩:ByteArray)++(pv (p.f7.size:Int)++p.f7))++pv (p.f8.length:Int)).size=1+((pv (p.f7.size:Int)).size+p.f7.size)+(pv (p.f8.length:Int)).size:=by rw [ByteArray.size_append,es1]
   obtain ⟨K5,h5⟩:=put8 (l:=l++(pv p.f6).data.toList) (s:=((⟨#[1]⟩:ByteArray)++(pv (p.f7.size:Int)++p.f7))++pv (p.f8.length:Int)) (by rw [List.length_append,data_len,es2];omega)
   have h6:=spec_l3 hs (l:=l++(pv p.f6).data.toList++(((⟨#[1]⟩:ByteArray)++(pv (p.f7.size:Int)++p.f7))++pv (p.f8.length:Int)).data.toList) (by rw [List.length_append,List.length_append,data_len,data_len,es2];omega)
   have e:l++restB p=l++(pv p.f6).data.toList++(((⟨#[1]⟩:ByteArray)++(pv (p.f7.size:Int)++p.f7))++pv (p.f8.length:Int)).data.toList++p.f8.flatMap nB++(nB (p.f9.length:Int)++p.f9.flatMap txB):=by
    have hbf:bare p=false:=by simpa using hb
    rw [restB,if_neg hb,hbf,tailB,str_app',str_app',str_app']
    simp [nB,impl_Dump.fb]
   show Evt _ (nat8 (l++restB p))
   rw [e]
   refine Evt.succ (h6.of_eq (K1+K2+K3+K4+K5) fun k hk=>?_)
   have h1:=h1 k (by omega)
   have h2:=h2 k (by omega)
   have h3:=h3 k (by omega)
   have h4:=h4 k (by omega)
   have h5:=h5 k (by omega)
   dsimp only at h1 h2 h3 h4 h5
   show spec_l3Proto.l2 (k+1) (nat8 l) (p.f5.length:Int) _ _ _ _ _ _ _ _ _ _=_
   rw [spec_l3Proto.l2,if_neg (by omega),h1,Option.bind_some,h2,Option.bind_some,spec_bare,Option.bind_some,if_neg hb,h3,Option.bind_some,if_pos (by rw [ByteArray.size_append];omega),h4,Option.bind_some,if_pos (by rw [es1];omega),h5,Option.bind_some]
end
section
variable {p:S44} (hs:Small p) (hw:∀ x ∈ p.f3,0≤x∧x≤4294967295)
include hs
def rest5 (p:S44):List UInt8:=nB (p.f5.length:Int)++p.f5.flatMap upB++restB p
theorem spec_l1 {l:List UInt8} (h:l.length+((p.f4.flatMap cB).length+(rest5 p).length)≤140737488000000):Evt (fun k=>spec_l3Proto.l1 k (nat8 l) 0 p.f0 p.f1 p.f2 p.f3 p.f4 p.f5 p.f6 p.f7 p.f8 p.f9) (nat8 (l++p.f4.flatMap cB++rest5 p)):=by
 have h5:(rest5 p).length=(nB (p.f5.length:Int)).length+(p.f5.flatMap upB).length+(restB p).length:=by rw [rest5,List.length_append,List.length_append]
 refine acc_loop (xs:=p.f4) (g:=cB) (L:=fun k x0 i=>spec_l3Proto.l1 k x0 i p.f0 p.f1 p.f2 p.f3 p.f4 p.f5 p.f6 p.f7 p.f8 p.f9) (F:=fun l=>nat8 (l++rest5 p)) (M:=140737488000000-(rest5 p).length) (fun i hi l hl=>?_) (fun l hl=>?_) l (by omega)
 ·have hc:=hs.l4
  have e:rd_T85 p.f4 (i:Int)=p.f4[i]:=by simp [rd_T85,List.getD,hi]
  have hsz:(⟨(cB p.f4[i]).toArray⟩:ByteArray).size=(cB p.f4[i]).length:=by simp [ByteArray.size]
  obtain ⟨K1,h1⟩:=spec_cB p.f4[i] (hs.v4 _ (List.getElem_mem hi)) (by have:=hs.t4 _ (List.getElem_mem hi);omega)
  obtain ⟨K2,h2⟩:=put8 (l:=l) (s:=⟨(cB p.f4[i]).toArray⟩) (by rw [hsz];omega)
  refine ⟨K1+K2,fun k hk=>?_⟩
  have h1:=h1 k (by omega)
  have h2:=h2 k (by omega)
  dsimp only at h1 h2
  show spec_l3Proto.l1 (k+1) (nat8 l) (i:Int) _ _ _ _ _ _ _ _ _ _=_
  rw [spec_l3Proto.l1,if_pos (by omega),if_pos (by omega),e,h1,Option.bind_some,h2,Option.bind_some,wrap_nat (by omega)]
 ·have n5:(nB (p.f5.length:Int)).length=(pv (p.f5.length:Int)).size:=data_len _
  obtain ⟨K1,h1⟩:=spec_pv (p.f5.length:Int)
  obtain ⟨K2,h2⟩:=put8 (l:=l) (s:=pv (p.f5.length:Int)) (by omega)
  have h3:=spec_l2 hs (l:=l++nB (p.f5.length:Int)) (by rw [List.length_append];omega)
  have e:l++rest5 p=l++nB (p.f5.length:Int)++p.f5.flatMap upB++restB p:=by rw [rest5];simp only [List.append_assoc]
  show Evt _ (nat8 (l++rest5 p))
  rw [e]
  refine Evt.succ (h3.of_eq (K1+K2) fun k hk=>?_)
  have h1:=h1 k (by omega)
  have h2:=h2 k (by omega)
  dsimp only at h1 h2
  show spec_l3Proto.l1 (k+1) (nat8 l) (p.f4.length:Int) _ _ _ _ _ _ _ _ _ _=_
  rw [spec_l3Proto.l1,if_neg (by omega),h1,Option.bind_some,h2,Option.bind_some]
  rfl
def rest4 (p:S44):List UInt8:=nB (p.f4.length:Int)++p.f4.flatMap cB++rest5 p
include hw
theorem spec_l0 {l:List UInt8} (h:l.length+((p.f3.flatMap impl_Dump.wbytes).length+(rest4 p).length)≤140737488000000):Evt (fun k=>spec_l3Proto.l0 k (nat8 l) 0 p.f0 p.f1 p.f2 p.f3 p.f4 p.f5 p.f6 p.f7 p.f8 p.f9) (nat8 (l++p.f3.flatMap impl_Dump.wbytes++rest4 p)):=by
 have h4:(rest4 p).length=(nB (p.f4.length:Int)).length+(p.f4.flatMap cB).length+(rest5 p).length:=by rw [rest4,List.length_append,List.length_append]
 refine acc_loop (xs:=p.f3) (g:=impl_Dump.wbytes) (L:=fun k x0 i=>spec_l3Proto.l0 k x0 i p.f0 p.f1 p.f2 p.f3 p.f4 p.f5 p.f6 p.f7 p.f8 p.f9) (F:=fun l=>nat8 (l++rest4 p)) (M:=140737488000000-(rest4 p).length) (fun i hi l hl=>?_) (fun l hl=>?_) l (by omega)
 ·have hc:=hs.l3
  have e:rd p.f3 (i:Int)=p.f3[i]:=by simp [rd,List.getD,hi]
  obtain ⟨r0,r1⟩:=hw _ (List.getElem_mem hi)
  refine ⟨0,fun k hk=>?_⟩
  show spec_l3Proto.l0 (k+1) (nat8 l) (i:Int) _ _ _ _ _ _ _ _ _ _=_
  rw [spec_l3Proto.l0,if_pos (by omega),if_pos (by omega),e,word8 r0 r1,Option.bind_some,if_pos (by rw [nat8_len,nat8_len];omega),wrap_nat (by omega),← nat8_app]
 ·have n4:(nB (p.f4.length:Int)).length=(pv (p.f4.length:Int)).size:=data_len _
  obtain ⟨K1,h1⟩:=spec_pv (p.f4.length:Int)
  obtain ⟨K2,h2⟩:=put8 (l:=l) (s:=pv (p.f4.length:Int)) (by omega)
  have h3:=spec_l1 hs (l:=l++nB (p.f4.length:Int)) (by rw [List.length_append];omega)
  have e:l++rest4 p=l++nB (p.f4.length:Int)++p.f4.flatMap cB++rest5 p:=by rw [rest4];simp only [List.append_assoc]
  show Evt _ (nat8 (l++rest4 p))
  rw [e]
  refine Evt.succ (h3.of_eq (K1+K2) fun k hk=>?_)
  have h1:=h1 k (by omega)
  have h2:=h2 k (by omega)
  dsimp only at h1 h2
  show spec_l3Proto.l0 (k+1) (nat8 l) (p.f3.length:Int) _ _ _ _ _ _ _ _ _ _=_
  rw [spec_l3Proto.l0,if_neg (by omega),h1,Option.bind_some,h2,Option.bind_some]
  rfl
theorem spec_proto {l:List UInt8} (h:l.length+(protoB p).length≤140737488000000):Evt (fun k=>spec_l3Proto.f k (nat8 l) p.f0 p.f1 p.f2 p.f3 p.f4 p.f5 p.f6 p.f7 p.f8 p.f9) (nat8 (l++protoB p)):=by
 have ep:protoB p=(((⟨[impl_Dump.fb p.f1].toArray⟩:ByteArray)++pv p.f0++pv p.f2)++pv (p.f3.length:Int)).data.toList++p.f3.flatMap impl_Dump.wbytes++rest4 p:=by
  rw [protoB,headB,rest4,rest5,restB,str_app',str_app',str_app']
  simp [nB]
 have e1:((⟨[impl_Dump.fb p.f1].toArray⟩:ByteArray)++pv p.f0).size=1+(pv p.f0).size:=by rw [ByteArray.size_append];rfl
 have e2:((⟨[impl_Dump.fb p.f1].toArray⟩:ByteArray)++pv p.f0++pv p.f2).size=1+(pv p.f0).size+(pv p.f2).size:=by rw [ByteArray.size_append,e1]
 have e3:(((⟨[impl_Dump.fb p.f1].toArray⟩:ByteArray)++pv p.f0++pv p.f2)++pv (p.f3.length:Int)).size=1+(pv p.f0).size+(pv p.f2).size+(pv (p.f3.length:Int)).size:=by rw [ByteArray.size_append,e2]
 have z0:=pv_size p.f0
 have z2:=pv_size p.f2
 have z3:=pv_size (p.f3.length:Int)
 have hl:(protoB p).length=(((⟨[impl_Dump.fb p.f1].toArray⟩:ByteArray)++pv p.f0++pv p.f2)++pv (p.f3.length:Int)).size+(p.f3.flatMap impl_Dump.wbytes).length+(rest4 p).length:=by rw [ep,List.length_append,List.length_append,data_len]
 obtain ⟨K0,h0⟩:=spec_pv p.f0
 obtain ⟨K2,h2⟩:=spec_pv p.f2
 obtain ⟨K3,h3⟩:=spec_pv (p.f3.length:Int)
 obtain ⟨K4,h4⟩:=put8 (l:=l) (s:=((⟨[impl_Dump.fb p.f1].toArray⟩:ByteArray)++pv p.f0++pv p.f2)++pv (p.f3.length:Int)) (by omega)
 have h5:=spec_l0 hs hw (l:=l++(((⟨[impl_Dump.fb p.f1].toArray⟩:ByteArray)++pv p.f0++pv p.f2)++pv (p.f3.length:Int)).data.toList) (by rw [List.length_append,data_len];omega)
 have ef:l++protoB p=l++(((⟨[impl_Dump.fb p.f1].toArray⟩:ByteArray)++pv p.f0++pv p.f2)++pv (p.f3.length:Int)).data.toList++p.f3.flatMap impl_Dump.wbytes++rest4 p:=by
  rw [ep]
  simp only [List.append_assoc]
 rw [ef]
 refine h5.of_eq (K0+K2+K3+K4) fun k hk=>?_
 have h0:=h0 k (by omega)
 have h2:=h2 k (by omega)
 have h3:=h3 k (by omega)
 have h4:=h4 k (by omega)
 dsimp only at h0 h2 h3 h4
 unfold spec_l3Proto.f
 rw [flag8,Option.bind_some,h0,Option.bind_some,if_pos (by rw [← ByteArray.size_append,e1];omega),h2,Option.bind_some,if_pos (by rw [e1];omega),h3,Option.bind_some,if_pos (by rw [e2];omega),h4,Option.bind_some]
end
/-- What Dump answers. -/
def dumped (l:List S44):ByteArray×Bool:=if word l=true then (⟨(impl_Dump.hdr++l.flatMap protoB).toArray⟩,true) else (⟨#[]⟩,false)
structure Words (p:S44):Prop where
 w:∀ x ∈ p.f3,0≤x∧x≤4294967295
theorem all_len {l:List S44} (hl:l.length≤200) (hok:∀ p ∈ l,ok p=true):(l.flatMap protoB).length≤200000000:=by
 have:=flat_len (g:=protoB) (N:=1000000) (xs:=l) fun p hp=>proto_len (small_of (hok p hp))
 omega
theorem impl_dumped {l:List S44} (hx:∀ p ∈ l,Fit p) (hk:∀ p ∈ l,p.f6≤9223372036854775807) (hw:∀ p ∈ l,Words p):impl_Dump.f l=some (dumped l):=by
 unfold impl_Dump.f dumped
 rw [impl_word hx hk,Option.bind_some]
 by_cases h:word l=true
 ·have h2:=h
  unfold word at h2
  simp only [Bool.and_eq_true,decide_eq_true_eq] at h2
  obtain ⟨h1,_,hok⟩:=h2
  have hlen:=all_len h1.2 (List.all_eq_true.1 hok)
  rw [if_pos h,if_pos h,catB_mem (fun p hp=>impl_pb p (hw p hp).w),Option.bind_some,if_pos (by omega)]
 ·rw [if_neg h,if_neg h]
theorem spec_dumped {l:List S44} (hl:l.length≤1048576) (hx:∀ p ∈ l,Fit p) (hk:∀ p ∈ l,p.f6≤9223372036854775807) (hw:∀ p ∈ l,Words p):Evt (fun k=>spec_Dump.f k l) (dumped l):=by
 unfold dumped
 refine (spec_word hl hx hk).bind (h:=fun k t332=>(if t332=true then ((spec_l3Put.f k (([]:List Int)) (⟨#[27,76,82,86,1,0]⟩:ByteArray)).bind fun t336=>(spec_Dump.l0 k t336 0 l)) else (some ((⟨#[]⟩:ByteArray),false)))) ?_ |>.of_eq 0 fun k _=>by unfold spec_Dump.f;rfl
 by_cases h:word l=true
 ·rw [if_pos h]
  have h2:=h
  unfold word at h2
  simp only [Bool.and_eq_true,decide_eq_true_eq] at h2
  obtain ⟨h1,_,hok⟩:=h2
  have hlen:=all_len h1.2 (List.all_eq_true.1 hok)
  have hp8:=put8 (l:=[]) (s:=(⟨#[27,76,82,86,1,0]⟩:ByteArray)) (show 0+6≤140737488355328 by decide)
  have hloop:Evt (fun k=>spec_Dump.l0 k (nat8 impl_Dump.hdr) 0 l) (⟨(impl_Dump.hdr++l.flatMap protoB).toArray⟩,true):=by
   refine acc_loop (xs:=l) (g:=protoB) (L:=fun k x0 i=>spec_Dump.l0 k x0 i l) (F:=fun m=>((⟨m.toArray⟩:ByteArray),true)) (M:=140737488000000) (fun i hi m hm=>?_) (fun m _=>Evt.succ (Evt.now fun k=>?_)) impl_Dump.hdr (by have:impl_Dump.hdr.length=6:=rfl;omega)
   ·have hmem:=List.getElem_mem hi
    have e:rd_T44 l (i:Int)=l[i]:=by simp [rd_T44,List.getD,hi]
    obtain ⟨K,hK⟩:=spec_proto (small_of (List.all_eq_true.1 hok _ hmem)) (hw _ hmem).w (l:=m) hm
    refine ⟨K,fun k hk=>?_⟩
    have hK:=hK k hk
    dsimp only at hK
    show spec_Dump.l0 (k+1) (nat8 m) (i:Int) l=_
    rw [spec_Dump.l0,if_pos (by omega),if_pos (by omega),e,hK,Option.bind_some,wrap_nat (by omega)]
   ·show spec_Dump.l0 (k+1) (nat8 m) (l.length:Int) l=_
    rw [spec_Dump.l0,if_neg (by omega),strOf_nat8]
  refine Evt.of_eq (g:=fun k=>(spec_l3Put.f k (([]:List Int)) (⟨#[27,76,82,86,1,0]⟩:ByteArray)).bind fun t336=>spec_Dump.l0 k t336 0 l) (Evt.bind (h:=fun k t336=>spec_Dump.l0 k t336 0 l) hp8 hloop) 0 fun k _=>by show (if _ then _ else _)=_;rw [if_pos h]
 ·rw [if_neg h]
  exact Evt.now fun k=>by show (if _ then _ else _)=_;rw [if_neg h]
theorem dump_word {l:List S101} (hl:l.length≤maxLen) (hx:∀ x ∈ l,Ok101 x) (hw:∀ x ∈ l,∀ y ∈ x.f3,0≤y∧y≤4294967295):Evt (fun k=>laws_FnExactDump.f k l) true:=by
 obtain ⟨t,ht,_,hg⟩:=szChunk_sz hl hx
 by_cases hn:t<0
 ·obtain ⟨K,hK⟩:=ht
  refine ⟨K,fun k hk=>?_⟩
  have hK:=hK k hk
  dsimp only at hK
  show laws_FnExactDump.f k l=some true
  unfold laws_FnExactDump.f
  rw [hK,Option.bind_some,if_pos hn]
 ·obtain ⟨hl2,hf⟩:=hg (by omega)
  have hl3:(l.map cp).length≤1048576:=by rw [List.length_map];exact hl2
  have hfit:∀ p ∈ l.map cp,Fit p:=by
   intro p hp
   obtain ⟨x,hx,rfl⟩:=List.mem_map.1 hp
   exact fit_of (hf x hx)
  have hkid:∀ p ∈ l.map cp,p.f6≤9223372036854775807:=by
   intro p hp
   obtain ⟨x,hx2,rfl⟩:=List.mem_map.1 hp
   exact (hx x hx2).kid
  have hwd:∀ p ∈ l.map cp,Words p:=by
   intro p hp
   obtain ⟨x,hx2,rfl⟩:=List.mem_map.1 hp
   exact ⟨hw x hx2⟩
  obtain ⟨K0,h0⟩:=ht
  obtain ⟨K1,h1⟩:=toChunk_to hl2 hf
  obtain ⟨K2,h2⟩:=spec_dumped hl3 hfit hkid hwd
  obtain ⟨K3,h3⟩:=eqChunk_eq hl3 hfit
  refine ⟨K0+K1+K2+K3+1,fun k hk=>?_⟩
  obtain ⟨k,rfl⟩:∃ q,k=q+1:=⟨k-1,by omega⟩
  have h0:=h0 (k+1) (by omega)
  have h1':=h1 k (by omega)
  have h1:=h1 (k+1) (by omega)
  have h2:=h2 (k+1) (by omega)
  have h3:=h3 k (by omega)
  dsimp only at h0 h1 h1' h2 h3
  show laws_FnExactDump.f (k+1) l=some true
  unfold laws_FnExactDump.f
  rw [h0,Option.bind_some,if_neg hn,h1,Option.bind_some,h2,Option.bind_some,Option.bind_some,impl_dumped hfit hkid hwd,Option.bind_some,if_pos rfl,laws_FnExactDump.j0,if_neg (by simp),h1',Option.bind_some,h3,Option.bind_some,if_pos rfl]
end Go.Proofs.Ytiekodnojmkfaaa.Pure
