/- The plain law of FnExactStrip: sizes, copies, what a prototype in order is, the tree, the copy without debug texts, the marks, and that all is as the law asks. -/
import Derived.Test.YtiekodnojmkfaaaMark
import Derived.Test.YtiekodnojmkfaaaEv
import Derived.Laws.Strings
namespace Go.Proofs.Ytiekodnojmkfaaa.Pure
open Go.RowKit Go.Proofs.Ytiekodnojmkfaaa.PFnExactStrip Go.Proofs.YtiekodnojmkfaaaW.PrintWords Go.Proofs.YtiekodnojmkfaaaW.PrintLast Go.Proofs.YtiekodnojmkfaaaEv
/-! ### sizes -/
/-- What is known of a list that has been read. -/
def okInt (k:IntKind) (n:Int):Prop:=(Lit.int k n).wf=true
structure Ok163 (x:S163):Prop where
 s:x.f2.size≤maxLen
structure Ok101 (x:S101):Prop where
 l3:x.f3.length≤maxLen
 l4:x.f4.length≤maxLen
 l5:x.f5.length≤maxLen
 l7:x.f7.size≤maxLen
 l8:x.f8.length≤maxLen
 l9:x.f9.length≤maxLen
 v4:∀ v ∈ x.f4,Ok163 v
 v9:∀ s ∈ x.f9,s.size≤maxLen
 kid:x.f6≤9223372036854775807
/-- What fits into 2 ^ 20. -/
structure Fits (x:S101):Prop where
 l3:x.f3.length≤1048576
 l4:x.f4.length≤1048576
 l5:x.f5.length≤1048576
 l8:x.f8.length≤1048576
 l9:x.f9.length≤1048576
theorem maxLen_eq:maxLen=9223372036854775807:=by decide
theorem sub_id {a:Int} {n:Nat} (h0:0≤a) (h1:a≤1048576) (hn:n≤maxLen):wrap64 (a-(n:Int))=a-(n:Int):=by
 rw [maxLen_eq] at hn
 exact wrap_id (by omega) (by omega)
/-- Of a size function: what comes, and that a number that is no fault tells 'good'. -/
def Sz (g:Nat→Option Int) (a:Int) (good:Prop):Prop:=∃ t,Evt g t∧t≤a∧(0≤t→good)
theorem Sz.neg {g:Nat→Option Int} {a:Int} {good:Prop} (h0:0≤a) (h:Evt g (-1)):Sz g a good:=⟨-1,h,by omega,fun h=>absurd h (by decide)⟩
theorem sz_flat {n:Nat} {a:Int} (h0:0≤a) (h1:a≤1048576) (hn:n≤maxLen) {g:Nat→Option Int} (hg:∀ k,g k=if wrap64 (a-(n:Int))<0 then some (-1) else some (wrap64 (a-(n:Int)))):Sz g a (n≤1048576):=by
 rw [sub_id h0 h1 hn] at hg
 by_cases h:a-(n:Int)<0
 ·exact .neg h0 (Evt.of_eq (g:=fun _=>some (-1)) (Evt.const rfl) 0 fun k _=>by rw [hg k,if_pos h])
 ·exact ⟨a-n,Evt.of_eq (g:=fun _=>some (a-n)) (Evt.const rfl) 0 fun k _=>by rw [hg k,if_neg h],by omega,fun _=>by omega⟩
/-- A loop that takes off what each element needs. -/
theorem sz_loop {α:Type} {xs:List α} {z:α} {good:α→Prop} {L:Nat→Int→Int→Option Int} {f:α→Nat→Int→Option Int}
  (hL:∀ k a (i:Nat),i<xs.length→L (k+1) a (i:Int)=(f (xs.getD i z) k a).bind fun t=>if t<0 then some (-1) else L k t (wrap64 ((i:Int)+1)))
  (hE:∀ k a,L (k+1) a (xs.length:Int)=some a) (hx:xs.length≤maxLen)
  (hf:∀ (i:Nat) (h:i<xs.length) a,0≤a→a≤1048576→Sz (fun k=>f xs[i] k a) a (good xs[i])) :
  ∀ m i:Nat,i+m=xs.length→∀ a,0≤a→a≤1048576→Sz (fun k=>L k a (i:Int)) a (∀ x ∈ xs.drop i,good x):=by
 rw [maxLen_eq] at hx
 intro m
 induction m with
 | zero =>
  intro i hi a h0 h1
  obtain rfl:i=xs.length:=by omega
  exact ⟨a,Evt.succ (Evt.of_eq (g:=fun _=>some a) (Evt.const rfl) 0 fun k _=>hE k a),Int.le_refl _,fun _ x hx=>by rw [List.drop_length] at hx;cases hx⟩
 | succ m ih =>
  intro i hi a h0 h1
  have hil:i<xs.length:=by omega
  have eg:xs.getD i z=xs[i]:=by simp [List.getD,hil]
  obtain ⟨t,⟨K,hK0⟩,ht,hg⟩:=hf i hil a h0 h1
  have hK:∀ k,K≤k→f xs[i] k a=some t:=hK0
  by_cases hn:t<0
  ·refine .neg h0 (Evt.succ (Evt.of_eq (g:=fun _=>some (-1)) (Evt.const rfl) K fun k hk=>?_))
   rw [hL k a i hil,eg,hK k hk,Option.bind_some,if_pos hn]
  ·obtain ⟨t2,h2,ht2,hg2⟩:=ih (i+1) (by omega) t (by omega) (by omega)
   refine ⟨t2,Evt.succ (Evt.of_eq h2 K fun k hk=>?_),by omega,fun h=>?_⟩
   ·rw [hL k a i hil,eg,hK k hk,Option.bind_some,if_neg hn,wrap_nat (by omega)]
   ·intro x hx
    rw [List.drop_eq_getElem_cons hil] at hx
    rcases List.mem_cons.1 hx with rfl|hx
    ·exact hg (by omega)
    ·exact hg2 h x hx
theorem sz_bind {g:Nat→Option Int} {h:Nat→Int→Option Int} {a:Int} {p q:Prop} (h0:0≤a) (h1:a≤1048576) (hg:Sz g a p) (hh:∀ t,0≤t→t≤1048576→Sz (fun k=>h k t) t q) :
  Sz (fun k=>(g k).bind fun t=>if t<0 then some (-1) else h k t) a (p∧q):=by
 obtain ⟨t,ht,hta,hp⟩:=hg
 by_cases hn:t<0
 ·exact .neg h0 (ht.bind (h:=fun k t=>if t<0 then some (-1) else h k t) (Evt.now fun k=>if_pos hn))
 ·obtain ⟨t2,h2,ht2,hq⟩:=hh t (by omega) (by omega)
  refine ⟨t2,ht.bind (h:=fun k t=>if t<0 then some (-1) else h k t) (h2.of_eq 0 fun k _=>if_neg hn),by omega,fun h=>⟨hp (by omega),hq h⟩⟩
theorem szValueS_sz {l:List S163} (hl:l.length≤maxLen) (hv:∀ v ∈ l,Ok163 v) {a:Int} (h0:0≤a) (h1:a≤1048576):Sz (fun k=>laws_szValueS.f k l a) a (l.length≤1048576):=by
 unfold laws_szValueS.f
 rw [sub_id h0 h1 hl]
 by_cases h:a-(l.length:Int)<0
 ·exact .neg h0 (Evt.now fun k=>if_pos h)
 ·obtain ⟨t,ht,hta,_⟩:=sz_loop (xs:=l) (z:=z163) (good:=fun _=>True) (L:=fun k a i=>laws_szValueS.l0 k l a i) (f:=fun v _ a=>laws_szValue.f v.f0 v.f1 v.f2 a)
   (fun k a i hi=>by show laws_szValueS.l0 (k+1) l a i=_;rw [laws_szValueS.l0,if_pos (by omega),if_pos (by omega)];simp only [rd_T163,Int.toNat_natCast])
   (fun k a=>by show laws_szValueS.l0 (k+1) l a l.length=_;rw [laws_szValueS.l0,if_neg (by omega)]) hl
   (fun i hi a h0 h1=>by
    obtain ⟨t,h,h2,_⟩:=sz_flat (n:=l[i].f2.size) h0 h1 (hv _ (List.getElem_mem hi)).s (g:=fun _=>laws_szValue.f l[i].f0 l[i].f1 l[i].f2 a) (fun k=>by unfold laws_szValue.f;rfl)
    exact ⟨t,h,h2,fun _=>trivial⟩) l.length 0 (by omega) (a-l.length) (by omega) (by omega)
  exact ⟨t,ht.of_eq 0 fun k _=>by rw [if_neg h];rfl,by omega,fun _=>by omega⟩
theorem szStringS_sz {l:List ByteArray} (hl:l.length≤maxLen) (hv:∀ v ∈ l,v.size≤maxLen) {a:Int} (h0:0≤a) (h1:a≤1048576):Sz (fun k=>laws_szStringS.f k l a) a (l.length≤1048576):=by
 unfold laws_szStringS.f
 rw [sub_id h0 h1 hl]
 by_cases h:a-(l.length:Int)<0
 ·exact .neg h0 (Evt.now fun k=>if_pos h)
 ·obtain ⟨t,ht,hta,_⟩:=sz_loop (xs:=l) (z:=ByteArray.empty) (good:=fun _=>True) (L:=fun k a i=>laws_szStringS.l0 k l a i) (f:=fun v _ a=>if wrap64 (a-(v.size:Int))<0 then some (-1) else some (wrap64 (a-(v.size:Int))))
   (fun k a i hi=>by
    show laws_szStringS.l0 (k+1) l a i=_
    rw [laws_szStringS.l0,if_pos (by omega),if_pos (by omega)]
    have e:rdOf ByteArray.empty l (i:Int)=l.getD i ByteArray.empty:=by simp [rdOf]
    rw [← e]
    obtain ⟨v,hv⟩:∃ v,rdOf ByteArray.empty l (i:Int)=v:=⟨_,rfl⟩
    rw [hv]
    by_cases hn:wrap64 (a-(v.size:Int))<0
    ·rw [if_pos hn,if_pos hn,Option.bind_some];rfl
    ·rw [if_neg hn,if_neg hn,Option.bind_some,if_neg hn])
   (fun k a=>by show laws_szStringS.l0 (k+1) l a l.length=_;rw [laws_szStringS.l0,if_neg (by omega)]) hl
   (fun i hi a h0 h1=>by
    obtain ⟨t,h,h2,_⟩:=sz_flat (n:=l[i].size) h0 h1 (hv _ (List.getElem_mem hi)) (g:=fun _=>if wrap64 (a-(l[i].size:Int))<0 then some (-1) else some (wrap64 (a-(l[i].size:Int)))) (fun k=>rfl)
    exact ⟨t,h,h2,fun _=>trivial⟩) l.length 0 (by omega) (a-l.length) (by omega) (by omega)
  exact ⟨t,ht.of_eq 0 fun k _=>by rw [if_neg h];rfl,by omega,fun _=>by omega⟩
theorem szProto_sz {x:S101} (hx:Ok101 x) {a:Int} (h0:0≤a) (h1:a≤1048576):Sz (fun k=>laws_szProto.f k x.f0 x.f1 x.f2 x.f3 x.f4 x.f5 x.f6 x.f7 x.f8 x.f9 a) a (Fits x):=by
 have H:=sz_bind h0 h1 (sz_flat (n:=x.f3.length) h0 h1 hx.l3 (g:=fun _=>laws_szUint32S.f x.f3 a) (fun k=>by unfold laws_szUint32S.f;rfl)) (h:=fun k t=>(laws_szValueS.f k x.f4 t).bind fun t107=>(if t107<0 then (some (-1)) else ((laws_szUpS.f x.f5 t107).bind fun t108=>(if t108<0 then (some (-1)) else (if (wrap64 (t108-(x.f7.size:Int)))<0 then (some (-1)) else ((laws_szIntS.f x.f8 (wrap64 (t108-(x.f7.size:Int)))).bind fun t109=>(if t109<0 then (some (-1)) else ((laws_szStringS.f k x.f9 t109).bind fun t110=>(if t110<0 then (some (-1)) else (some t110)))))))))) fun t h0 h1 =>
  sz_bind h0 h1 (szValueS_sz hx.l4 hx.v4 h0 h1) (h:=fun k t107=>(laws_szUpS.f x.f5 t107).bind fun t108=>(if t108<0 then (some (-1)) else (if (wrap64 (t108-(x.f7.size:Int)))<0 then (some (-1)) else ((laws_szIntS.f x.f8 (wrap64 (t108-(x.f7.size:Int)))).bind fun t109=>(if t109<0 then (some (-1)) else ((laws_szStringS.f k x.f9 t109).bind fun t110=>(if t110<0 then (some (-1)) else (some t110)))))))) fun t h0 h1 =>
   sz_bind h0 h1 (sz_flat (n:=x.f5.length) h0 h1 hx.l5 (g:=fun _=>laws_szUpS.f x.f5 t) (fun k=>by unfold laws_szUpS.f;rfl)) (h:=fun k t108=>if (wrap64 (t108-(x.f7.size:Int)))<0 then (some (-1)) else ((laws_szIntS.f x.f8 (wrap64 (t108-(x.f7.size:Int)))).bind fun t109=>(if t109<0 then (some (-1)) else ((laws_szStringS.f k x.f9 t109).bind fun t110=>(if t110<0 then (some (-1)) else (some t110)))))) (q:=x.f8.length≤1048576∧x.f9.length≤1048576∧True) fun t h0 h1=>by
    rw [sub_id h0 h1 hx.l7]
    by_cases h:t-(x.f7.size:Int)<0
    ·exact .neg h0 (Evt.now fun k=>if_pos h)
    ·obtain ⟨t2,h2,ht2,hg⟩:=sz_bind (a:=t-(x.f7.size:Int)) (by omega) (by omega) (sz_flat (n:=x.f8.length) (a:=t-(x.f7.size:Int)) (by omega) (by omega) hx.l8 (g:=fun _=>laws_szIntS.f x.f8 (t-(x.f7.size:Int))) (fun k=>by unfold laws_szIntS.f;rfl)) (h:=fun k t109=>(laws_szStringS.f k x.f9 t109).bind fun t110=>(if t110<0 then (some (-1)) else (some t110))) fun t h0 h1 =>
      sz_bind h0 h1 (szStringS_sz hx.l9 hx.v9 h0 h1) (h:=fun _ t110=>some t110) (q:=True) fun t h0 h1=>⟨t,Evt.const rfl,Int.le_refl _,fun _=>trivial⟩
     exact ⟨t2,h2.of_eq 0 fun k _=>if_neg h,by omega,hg⟩
 obtain ⟨t,h,h2,hg⟩:=H
 exact ⟨t,h,h2,fun h=>⟨(hg h).1,(hg h).2.1,(hg h).2.2.1,(hg h).2.2.2.1,(hg h).2.2.2.2.1⟩⟩
theorem szChunk_sz {l:List S101} (hl:l.length≤maxLen) (hx:∀ x ∈ l,Ok101 x):Sz (fun k=>laws_szChunk.f k l 1048576) 1048576 (l.length≤1048576∧∀ x ∈ l,Fits x):=by
 have H:Sz (fun k=>laws_szProtoS.f k l 1048576) 1048576 (l.length≤1048576∧∀ x ∈ l,Fits x):=by
  unfold laws_szProtoS.f
  rw [sub_id (by decide) (by decide) hl]
  by_cases h:(1048576:Int)-(l.length:Int)<0
  ·exact .neg (by decide) (Evt.now fun k=>if_pos h)
  ·obtain ⟨t,ht,hta,hg⟩:=sz_loop (xs:=l) (z:=z101) (good:=Fits) (L:=fun k a i=>laws_szProtoS.l0 k l a i) (f:=fun x k a=>laws_szProto.f k x.f0 x.f1 x.f2 x.f3 x.f4 x.f5 x.f6 x.f7 x.f8 x.f9 a)
    (fun k a i hi=>by show laws_szProtoS.l0 (k+1) l a i=_;rw [laws_szProtoS.l0,if_pos (by omega),if_pos (by omega)];simp only [rd_T101,Int.toNat_natCast])
    (fun k a=>by show laws_szProtoS.l0 (k+1) l a l.length=_;rw [laws_szProtoS.l0,if_neg (by omega)]) hl
    (fun i hi a h0 h1=>szProto_sz (hx _ (List.getElem_mem hi)) h0 h1) l.length 0 (by omega) (1048576-l.length) (by omega) (by omega)
   exact ⟨t,ht.of_eq 0 fun k _=>by rw [if_neg h];rfl,by omega,fun h=>⟨by omega,by simpa using hg h⟩⟩
 obtain ⟨t,h,h2,hg⟩:=sz_bind (by decide) (by decide) H (h:=fun _ t=>some t) (q:=True) fun t h0 h1=>⟨t,Evt.const rfl,Int.le_refl _,fun _=>trivial⟩
 exact ⟨t,h,h2,fun h=>(hg h).1⟩
/-! ### copies -/
def cv (v:S163):S85:=⟨v.f0,v.f1,v.f2⟩
def cu (u:S166):S89:=⟨u.f0,u.f1⟩
def cp (x:S101):S44:=⟨x.f0,x.f1,x.f2,x.f3,x.f4.map cv,x.f5.map cu,x.f6,x.f7,x.f8,x.f9⟩
theorem toInts {l:List Int} (hl:l.length≤1048576) {L:Nat→List Int→List Int→Int→Option (List Int)} (hL:∀ k x0 x3 x4,L (k+1) x0 x3 x4=if x4<(x0.length:Int) then (if 0≤x4 then (if x4<(x3.length:Int) then (L k x0 (x3.set (x4:Int).toNat (rd x0 x4)) (wrap64 (x4+1))) else (none)) else (none)) else (some x3))
  {g:Nat→Option (List Int)} {N:Nat} (hN:1048576≤N) (hg:∀ k,g k=if 0≤(l.length:Int) then (if ((l.length:Int):Int).toNat≤N then (L k l (List.replicate ((l.length:Int):Int).toNat 0) 0) else (none)) else (none)):Evt g l:=by
 have h:=copy_loop (c:=fun x:Int=>x) (xs:=l) (z:=0) (L:=fun k ys i=>L k l ys i)
  (fun i hi=>⟨0,fun k _ ys hys=>by
   show L (k+1) l ys i=L k l _ _
   rw [hL,if_pos (by omega),if_pos (by omega),if_pos (by omega),wrap_nat (by omega)]
   simp only [rd,Int.toNat_natCast]⟩)
  (fun ys hys=>Evt.succ (Evt.now fun k=>by show L (k+1) l ys l.length=_;rw [hL,if_neg (by omega)])) (List.replicate l.length 0) (by simp)
 rw [List.map_id'] at h
 exact h.of_eq 0 fun k _=>by rw [hg,if_pos (by omega),if_pos (by simp;omega),Int.toNat_natCast]
theorem toUint32S_to {l:List Int} (hl:l.length≤1048576):Evt (fun k=>laws_toUint32S.f k l) l :=
 toInts hl (L:=laws_toUint32S.l0) (fun k x0 x3 x4=>by rw [laws_toUint32S.l0]) (N:=70368744177664) (by decide) (fun k=>by unfold laws_toUint32S.f;rfl)
theorem toIntS_to {l:List Int} (hl:l.length≤1048576):Evt (fun k=>laws_toIntS.f k l) l :=
 toInts hl (L:=laws_toIntS.l0) (fun k x0 x3 x4=>by rw [laws_toIntS.l0]) (N:=35184372088832) (by decide) (fun k=>by unfold laws_toIntS.f;rfl)
theorem toStringS_to {l:List ByteArray} (hl:l.length≤1048576):Evt (fun k=>laws_toStringS.f k l) l:=by
 have h:=copy_loop (c:=fun x:ByteArray=>x) (xs:=l) (z:=ByteArray.empty) (L:=fun k ys i=>laws_toStringS.l0 k l ys i)
  (fun i hi=>⟨0,fun k _ ys hys=>by
   show laws_toStringS.l0 (k+1) l ys i=laws_toStringS.l0 k l _ _
   rw [laws_toStringS.l0,if_pos (by omega),if_pos (by omega),if_pos (by omega),wrap_nat (by omega)]
   simp only [rdOf,Int.toNat_natCast]⟩)
  (fun ys hys=>Evt.succ (Evt.now fun k=>by show laws_toStringS.l0 (k+1) l ys l.length=_;rw [laws_toStringS.l0,if_neg (by omega)])) (List.replicate l.length ⟨#[]⟩) (by simp)
 rw [List.map_id'] at h
 exact h.of_eq 0 fun k _=>by unfold laws_toStringS.f;rw [if_pos (by omega),if_pos (by simp;omega),Int.toNat_natCast]
theorem toValueS_to {l:List S163} (hl:l.length≤1048576):Evt (fun k=>laws_toValueS.f k l) (l.map cv):=by
 have h:=copy_loop (c:=cv) (xs:=l) (z:=z163) (L:=fun k ys i=>laws_toValueS.l0 k l ys i)
  (fun i hi=>⟨0,fun k _ ys hys=>by
   show laws_toValueS.l0 (k+1) l ys i=laws_toValueS.l0 k l _ _
   rw [laws_toValueS.l0,if_pos (by omega),if_pos (by omega)]
   simp only [laws_toValue.f,Option.bind_some]
   rw [if_pos (by omega),wrap_nat (by omega)]
   simp only [rd_T163,Int.toNat_natCast,cv]⟩)
  (fun ys hys=>Evt.succ (Evt.now fun k=>by show laws_toValueS.l0 (k+1) l ys l.length=_;rw [laws_toValueS.l0,if_neg (by omega)])) (List.replicate l.length z85) (by simp)
 exact h.of_eq 0 fun k _=>by unfold laws_toValueS.f;rw [if_pos (by omega),if_pos (by simp;omega),Int.toNat_natCast]
theorem toUpS_to {l:List S166} (hl:l.length≤1048576):Evt (fun k=>laws_toUpS.f k l) (l.map cu):=by
 have h:=copy_loop (c:=cu) (xs:=l) (z:=z166) (L:=fun k ys i=>laws_toUpS.l0 k l ys i)
  (fun i hi=>⟨0,fun k _ ys hys=>by
   show laws_toUpS.l0 (k+1) l ys i=laws_toUpS.l0 k l _ _
   rw [laws_toUpS.l0,if_pos (by omega),if_pos (by omega)]
   simp only [laws_toUp.f,Option.bind_some]
   rw [if_pos (by omega),wrap_nat (by omega)]
   simp only [rd_T166,Int.toNat_natCast,cu]⟩)
  (fun ys hys=>Evt.succ (Evt.now fun k=>by show laws_toUpS.l0 (k+1) l ys l.length=_;rw [laws_toUpS.l0,if_neg (by omega)])) (List.replicate l.length z89) (by simp)
 exact h.of_eq 0 fun k _=>by unfold laws_toUpS.f;rw [if_pos (by omega),if_pos (by simp;omega),Int.toNat_natCast]
theorem toProto_to {x:S101} (hx:Fits x):Evt (fun k=>laws_toProto.f k x.f0 x.f1 x.f2 x.f3 x.f4 x.f5 x.f6 x.f7 x.f8 x.f9) (x.f0,x.f1,x.f2,x.f3,x.f4.map cv,x.f5.map cu,x.f6,x.f7,x.f8,x.f9):=by
 unfold laws_toProto.f
 exact (toUint32S_to hx.l3).bind (h:=fun k t170=>((laws_toValueS.f k x.f4).bind fun t173=>((laws_toUpS.f k x.f5).bind fun t176=>((laws_toIntS.f k x.f8).bind fun t179=>((laws_toStringS.f k x.f9).bind fun t182=>(some (x.f0,x.f1,x.f2,t170,t173,t176,x.f6,x.f7,t179,t182))))))) <|
  (toValueS_to hx.l4).bind (h:=fun k t173=>((laws_toUpS.f k x.f5).bind fun t176=>((laws_toIntS.f k x.f8).bind fun t179=>((laws_toStringS.f k x.f9).bind fun t182=>(some (x.f0,x.f1,x.f2,x.f3,t173,t176,x.f6,x.f7,t179,t182)))))) <|
  (toUpS_to hx.l5).bind (h:=fun k t176=>((laws_toIntS.f k x.f8).bind fun t179=>((laws_toStringS.f k x.f9).bind fun t182=>(some (x.f0,x.f1,x.f2,x.f3,x.f4.map cv,t176,x.f6,x.f7,t179,t182))))) <|
  (toIntS_to hx.l8).bind (h:=fun k t179=>((laws_toStringS.f k x.f9).bind fun t182=>(some (x.f0,x.f1,x.f2,x.f3,x.f4.map cv,x.f5.map cu,x.f6,x.f7,t179,t182)))) <|
  (toStringS_to hx.l9).bind (h:=fun k t182=>(some (x.f0,x.f1,x.f2,x.f3,x.f4.map cv,x.f5.map cu,x.f6,x.f7,x.f8,t182))) (Evt.const rfl)
theorem toChunk_to {l:List S101} (hl:l.length≤1048576) (hx:∀ x ∈ l,Fits x):Evt (fun k=>laws_toChunk.f k l) (l.map cp):=by
 have h:=copy_loop (c:=cp) (xs:=l) (z:=z101) (L:=fun k ys i=>laws_toProtoS.l0 k l ys i)
  (fun i hi=>by
   obtain ⟨K,hK0⟩:=toProto_to (hx _ (List.getElem_mem hi))
   have hK:∀ k,K≤k→laws_toProto.f k (l[i]).f0 (l[i]).f1 (l[i]).f2 (l[i]).f3 (l[i]).f4 (l[i]).f5 (l[i]).f6 (l[i]).f7 (l[i]).f8 (l[i]).f9=some _:=hK0
   refine ⟨K,fun k hk ys hys=>?_⟩
   have e:rd_T101 l (i:Int)=l[i]:=by simp [rd_T101,List.getD,hi]
   have e2:l.getD i z101=l[i]:=by simp [List.getD,hi]
   show laws_toProtoS.l0 (k+1) l ys i=laws_toProtoS.l0 k l _ _
   rw [laws_toProtoS.l0,if_pos (by omega),if_pos (by omega),e,hK k hk,Option.bind_some,if_pos (by omega),wrap_nat (by omega),e2,Int.toNat_natCast]
   rfl)
  (fun ys hys=>Evt.succ (Evt.now fun k=>by show laws_toProtoS.l0 (k+1) l ys l.length=_;rw [laws_toProtoS.l0,if_neg (by omega)])) (List.replicate l.length z44) (by simp)
 have h2:Evt (fun k=>laws_toProtoS.f k l) (l.map cp):=h.of_eq 0 fun k _=>by unfold laws_toProtoS.f;rw [if_pos (by omega),if_pos (by simp;omega),Int.toNat_natCast]
 exact h2.bind (h:=fun _ t=>some t) (Evt.const rfl)
/-! ### a chunk is like itself -/
theorem all_true {n:Nat} {L:Nat→Int→Option Bool} (hone:∀ i:Nat,i<n→∃ K,∀ k,K≤k→L (k+1) (i:Int)=L k ((i+1:Nat):Int)) (hend:∀ k,L (k+1) (n:Int)=some true):Evt (fun k=>L k 0) true:=by
 have h:=all_loop (n:=n) (p:=fun _=>true) (L:=L) (rest:=true) (fun i hi=>by
  obtain ⟨K,hK⟩:=hone i hi
  exact ⟨K,fun k hk=>by rw [hK k hk,if_pos rfl]⟩) (Evt.succ (Evt.now hend)) n 0 (by omega)
 rw [show ((List.range' 0 n).all (fun _=>true) && true)=true from by rw [Bool.and_true,List.all_eq_true];exact fun _ _=>rfl] at h
 exact h
theorem eqUint32S_eq {l:List Int} (hl:l.length≤1048576):Evt (fun k=>laws_eqUint32S.f k l l) true:=by
 refine (all_true (n:=l.length) (L:=fun k i=>laws_eqUint32S.l0 k l l i) (fun i hi=>⟨0,fun k _=>?_⟩) (fun k=>?_)).of_eq 0 fun k _=>by unfold laws_eqUint32S.f;rw [if_pos rfl]
 ·show laws_eqUint32S.l0 (k+1) l l i=laws_eqUint32S.l0 k l l _
  rw [laws_eqUint32S.l0,if_pos (by omega),if_pos (by omega),if_pos (by omega),if_pos rfl,wrap_nat (by omega)]
 ·show laws_eqUint32S.l0 (k+1) l l l.length=_
  rw [laws_eqUint32S.l0,if_neg (by omega)]
theorem eqIntS_eq {l:List Int} (hl:l.length≤1048576):Evt (fun k=>laws_eqIntS.f k l l) true:=by
 refine (all_true (n:=l.length) (L:=fun k i=>laws_eqIntS.l0 k l l i) (fun i hi=>⟨0,fun k _=>?_⟩) (fun k=>?_)).of_eq 0 fun k _=>by unfold laws_eqIntS.f;rw [if_pos rfl]
 ·show laws_eqIntS.l0 (k+1) l l i=laws_eqIntS.l0 k l l _
  rw [laws_eqIntS.l0,if_pos (by omega),if_pos (by omega),if_pos (by omega),if_pos rfl,wrap_nat (by omega)]
 ·show laws_eqIntS.l0 (k+1) l l l.length=_
  rw [laws_eqIntS.l0,if_neg (by omega)]
theorem eqStringS_eq {l:List ByteArray} (hl:l.length≤1048576):Evt (fun k=>laws_eqStringS.f k l l) true:=by
 refine (all_true (n:=l.length) (L:=fun k i=>laws_eqStringS.l0 k l l i) (fun i hi=>⟨0,fun k _=>?_⟩) (fun k=>?_)).of_eq 0 fun k _=>by unfold laws_eqStringS.f;rw [if_pos rfl]
 ·show laws_eqStringS.l0 (k+1) l l i=laws_eqStringS.l0 k l l _
  rw [laws_eqStringS.l0,if_pos (by omega),if_pos (by omega),if_pos (by omega),if_pos rfl,wrap_nat (by omega)]
 ·show laws_eqStringS.l0 (k+1) l l l.length=_
  rw [laws_eqStringS.l0,if_neg (by omega)]
theorem eqValueS_eq {l:List S85} (hl:l.length≤1048576):Evt (fun k=>laws_eqValueS.f k l l) true:=by
 refine (all_true (n:=l.length) (L:=fun k i=>laws_eqValueS.l0 k l l i) (fun i hi=>⟨0,fun k _=>?_⟩) (fun k=>?_)).of_eq 0 fun k _=>by unfold laws_eqValueS.f;rw [if_pos rfl]
 ·show laws_eqValueS.l0 (k+1) l l i=laws_eqValueS.l0 k l l _
  rw [laws_eqValueS.l0,if_pos (by omega),if_pos (by omega),if_pos (by omega),laws_eqValue.f,if_pos rfl,if_pos rfl,if_pos rfl,Option.bind_some,if_pos rfl,wrap_nat (by omega)]
 ·show laws_eqValueS.l0 (k+1) l l l.length=_
  rw [laws_eqValueS.l0,if_neg (by omega)]
theorem eqUpS_eq {l:List S89} (hl:l.length≤1048576):Evt (fun k=>laws_eqUpS.f k l l) true:=by
 refine (all_true (n:=l.length) (L:=fun k i=>laws_eqUpS.l0 k l l i) (fun i hi=>⟨0,fun k _=>?_⟩) (fun k=>?_)).of_eq 0 fun k _=>by unfold laws_eqUpS.f;rw [if_pos rfl]
 ·show laws_eqUpS.l0 (k+1) l l i=laws_eqUpS.l0 k l l _
  rw [laws_eqUpS.l0,if_pos (by omega),if_pos (by omega),if_pos (by omega),laws_eqUp.f,if_neg (by simp),if_pos rfl,Option.bind_some,if_pos rfl,wrap_nat (by omega)]
 ·show laws_eqUpS.l0 (k+1) l l l.length=_
  rw [laws_eqUpS.l0,if_neg (by omega)]
/-- What fits into 2 ^ 20, of the program's own prototype. -/
structure Fit (x:S44):Prop where
 l3:x.f3.length≤1048576
 l4:x.f4.length≤1048576
 l5:x.f5.length≤1048576
 l8:x.f8.length≤1048576
 l9:x.f9.length≤1048576
theorem fit_of {x:S101} (h:Fits x):Fit (cp x):=⟨h.l3,by simpa [cp] using h.l4,by simpa [cp] using h.l5,h.l8,h.l9⟩
theorem eqProto_eq {x:S44} (hx:Fit x):Evt (fun k=>laws_eqProto.f k x.f0 x.f1 x.f2 x.f3 x.f4 x.f5 x.f6 x.f7 x.f8 x.f9 x.f0 x.f1 x.f2 x.f3 x.f4 x.f5 x.f6 x.f7 x.f8 x.f9) true:=by
 obtain ⟨K1,h1⟩:=eqUint32S_eq hx.l3
 obtain ⟨K2,h2⟩:=eqValueS_eq hx.l4
 obtain ⟨K3,h3⟩:=eqUpS_eq hx.l5
 obtain ⟨K4,h4⟩:=eqIntS_eq hx.l8
 obtain ⟨K5,h5⟩:=eqStringS_eq hx.l9
 refine ⟨K1+K2+K3+K4+K5,fun k hk=>?_⟩
 have h1:laws_eqUint32S.f k x.f3 x.f3=some true:=h1 k (by omega)
 have h2:laws_eqValueS.f k x.f4 x.f4=some true:=h2 k (by omega)
 have h3:laws_eqUpS.f k x.f5 x.f5=some true:=h3 k (by omega)
 have h4:laws_eqIntS.f k x.f8 x.f8=some true:=h4 k (by omega)
 have h5:laws_eqStringS.f k x.f9 x.f9=some true:=h5 k (by omega)
 unfold laws_eqProto.f
 simp only [h1,h2,h3,h4,h5,Option.bind_some,if_true,bne_self_eq_false,Bool.false_eq_true,if_false]
theorem eqChunk_eq {l:List S44} (hl:l.length≤1048576) (hx:∀ x ∈ l,Fit x):Evt (fun k=>laws_eqChunk.f k l l) true:=by
 have h:Evt (fun k=>laws_eqProtoS.f k l l) true:=by
  refine (all_true (n:=l.length) (L:=fun k i=>laws_eqProtoS.l0 k l l i) (fun i hi=>?_) (fun k=>?_)).of_eq 0 fun k _=>by unfold laws_eqProtoS.f;rw [if_pos rfl]
  ·obtain ⟨K,hK0⟩:=eqProto_eq (hx _ (List.getElem_mem hi))
   have e:rd_T44 l (i:Int)=l[i]:=by simp [rd_T44,List.getD,hi]
   refine ⟨K,fun k hk=>?_⟩
   have hK:=hK0 k hk
   show laws_eqProtoS.l0 (k+1) l l i=laws_eqProtoS.l0 k l l _
   rw [laws_eqProtoS.l0,if_pos (by omega),if_pos (by omega),if_pos (by omega),e]
   dsimp only at hK
   rw [hK,Option.bind_some,if_pos rfl,wrap_nat (by omega)]
  ·show laws_eqProtoS.l0 (k+1) l l l.length=_
   rw [laws_eqProtoS.l0,if_neg (by omega)]
 exact h.bind (h:=fun _ t=>if t=true then some true else some false) (Evt.const rfl)
/-! ### a prototype in order -/
def pl (v:S85):Bool:=if v.f0=3 then decide (v.f1=0) && decide (v.f2.size≤1000) else if v.f2.size > 0 then false else if v.f0=1 then decide (v.f1=0) || decide (v.f1=1) else if v.f0=2 then true else if v.f0=0 then decide (v.f1=0) else false
def num (n:Int):Bool:=decide (0≤n) && decide (n≤16777215)
def frame (p:S44):Bool:=!impl_Proto_good.c1 p.f0 p.f2 p.f3.length p.f4.length p.f5.length p.f7.size
def texts (p:S44):Bool:=(decide (p.f8.length=0) || decide (p.f8.length=p.f3.length)) && (decide (p.f9.length=0) || decide (p.f9.length=p.f5.length))
def ok (p:S44):Bool:=frame p && (texts p && (p.f4.all pl && (p.f5.all (fun u=>num u.f1) && (p.f8.all num && (p.f9.all fun s=>decide (s.size≤1000))))))
theorem toList_nil (s:ByteArray):(s.toList == ([]:List UInt8))=decide (s.size=0):=by
 rw [Bool.eq_iff_iff,beq_iff_eq,decide_eq_true_iff]
 constructor
 ·intro h
  have e:s.toList.length=s.size:=by rw [ByteArray.toList_eq];exact Array.length_toList
  rw [h] at e
  exact e.symm
 ·intro h
  have e:s.toList.length=s.size:=by rw [ByteArray.toList_eq];exact Array.length_toList
  exact List.length_eq_zero_iff.1 (by omega)
theorem spec_pl (v:S85):spec_l2Plain.f v.f0 v.f1 v.f2=some (pl v):=by
 unfold spec_l2Plain.f pl
 by_cases h3:v.f0=3
 ·rw [if_pos h3,if_pos h3]
  by_cases h1:v.f1=0
  ·rw [if_pos h1]
   simp only [h1,decide_true,Bool.true_and,Option.some.injEq,decide_eq_decide]
   omega
  ·rw [if_neg h1]
   simp [h1]
 ·rw [if_neg h3,if_neg h3]
  by_cases hs:v.f2.size > 0
  ·rw [if_pos (show (v.f2.size:Int) > 0 by omega),if_pos hs]
  ·rw [if_neg (show ¬ (v.f2.size:Int) > 0 by omega),if_neg hs]
   by_cases h1:v.f0=1
   ·rw [if_pos h1,if_pos h1]
    by_cases h0:v.f1=0
    ·rw [if_pos h0];simp [h0]
    ·rw [if_neg h0]
     simp only [Option.some.injEq,h0,decide_false,Bool.false_or]
     rw [Bool.eq_iff_iff,beq_iff_eq,decide_eq_true_iff]
   ·rw [if_neg h1,if_neg h1]
    by_cases h2:v.f0=2
    ·rw [if_pos h2,if_pos h2]
    ·rw [if_neg h2,if_neg h2]
     by_cases h0:v.f0=0
     ·rw [if_pos h0,if_pos h0]
      simp only [Option.some.injEq]
      rw [Bool.eq_iff_iff,beq_iff_eq,decide_eq_true_iff]
     ·rw [if_neg h0,if_neg h0]
theorem impl_pl (v:S85):impl_plain.f v.f0 v.f1 v.f2=some (pl v):=by
 unfold impl_plain.f pl
 simp only [toList_nil]
 by_cases h3:v.f0=3
 ·rw [if_neg (by omega),if_neg (by omega),if_neg (by omega),if_pos h3,if_pos h3]
  by_cases h1:v.f1=0
  ·rw [if_pos h1]
   simp only [h1,decide_true,Bool.true_and,Option.some.injEq,decide_eq_decide]
   omega
  ·rw [if_neg h1]
   simp [h1]
 ·rw [if_neg h3,if_neg h3]
  by_cases hs:v.f2.size > 0
  ·rw [if_pos hs]
   have e:decide (v.f2.size=0)=false:=decide_eq_false (by omega)
   simp only [e]
   repeat' split
   all_goals rfl
  ·rw [if_neg hs]
   have e:decide (v.f2.size=0)=true:=decide_eq_true (by omega)
   simp only [e]
   by_cases h0:v.f0=0
   ·have e1:¬ v.f0=1:=by omega
    have e2:¬ v.f0=2:=by omega
    simp only [if_pos h0,if_neg e1,if_neg e2]
    by_cases h1:v.f1=0 <;> simp [h1]
   ·rw [if_neg h0]
    by_cases h1:v.f0=1
    ·rw [if_pos h1,if_pos h1]
     by_cases h2:v.f1=0
     ·simp [h2]
     ·by_cases h4:v.f1=1 <;> simp [h2,h4]
    ·rw [if_neg h1,if_neg h1]
     by_cases h2:v.f0=2
     ·rw [if_pos h2,if_pos h2]
     ·rw [if_neg h2,if_neg h2,if_neg h0]
theorem spec_num (n:Int):spec_l2NumOk.f n=some (num n):=by
 unfold spec_l2NumOk.f num
 by_cases h:n ≥ 0
 ·rw [if_pos h];simp [show 0≤n from h]
 ·rw [if_neg h];simp [show ¬ 0≤n from h]
theorem impl_num (n:Int):impl_within.f n 0 16777215=some (num n):=by
 unfold impl_within.f num
 by_cases h:0≤n
 ·rw [if_pos h];simp [h]
 ·rw [if_neg h];simp [h]
theorem idx_all {α:Type} {z:α} {p:α→Option Bool} {q:α→Bool} (hp:∀ x,p x=some (!q x)) (l:List α) (hl:l.length≤1048576):∀ m i:Nat,i+m=l.length→∃ r,impl_Proto_good.idx z p (m+1) l (i:Int)=some r∧(0≤r↔(l.drop i).all q=false):=by
 intro m
 induction m with
 | zero =>
  intro i hi
  refine ⟨-1,by rw [impl_Proto_good.idx,if_neg (by omega)],?_⟩
  rw [show i=l.length by omega,List.drop_length]
  simp
 | succ m ih =>
  intro i hi
  have hil:i<l.length:=by omega
  have e:l.getD (i:Int).toNat z=l[i]:=by simp [List.getD,hil]
  by_cases hq:q l[i]=true
  ·obtain ⟨r,hr,h⟩:=ih (i+1) (by omega)
   refine ⟨r,?_,?_⟩
   ·rw [impl_Proto_good.idx,if_pos (by omega),if_pos (by omega),e,hp,Option.bind_some,if_neg (by simp [hq]),wrap_nat (by omega)]
    exact hr
   ·rw [h,List.drop_eq_getElem_cons hil,List.all_cons,hq,Bool.true_and]
  ·refine ⟨i,?_,?_⟩
   ·rw [impl_Proto_good.idx,if_pos (by omega),if_pos (by omega),e,hp,Option.bind_some,if_pos (by simp [hq])]
   ·rw [List.drop_eq_getElem_cons hil,List.all_cons]
    simp [hq]
theorem idx_if {α:Type} {z:α} {p:α→Option Bool} {q:α→Bool} (hp:∀ x,p x=some (!q x)) (l:List α) (hl:l.length≤1048576) (o:Option Bool):(impl_Proto_good.idx z p (l.length+1) l 0).bind (fun r=>if 0≤r then some false else o)=if l.all q=true then o else some false:=by
 obtain ⟨r,hr,h⟩:=idx_all (z:=z) hp l hl l.length 0 (by omega)
 rw [show ((0:Nat):Int)=0 from rfl] at hr
 rw [hr,Option.bind_some]
 rw [List.drop_zero] at h
 by_cases hq:l.all q=true
 ·rw [if_pos hq,if_neg (fun h0=>by rw [h.1 h0] at hq;cases hq)]
 ·rw [if_neg hq,if_pos (h.2 (by simpa using hq))]
theorem impl_good (p:S44) (hx:Fit p):impl_Proto_good.f p.f0 p.f1 p.f2 p.f3 p.f4 p.f5 p.f6 p.f7 p.f8 p.f9=some (ok p && decide (0≤p.f6)):=by
 unfold impl_Proto_good.f
 rw [idx_if (q:=pl) (fun v=>by rw [impl_pl];rfl) p.f4 hx.l4]
 rw [idx_if (q:=fun u:S89=>num u.f1) (fun v=>by rw [impl_num];rfl) p.f5 hx.l5]
 rw [idx_if (q:=num) (fun v=>by rw [impl_num];rfl) p.f8 hx.l8]
 rw [idx_if (q:=fun s:ByteArray=>decide (s.size≤1000)) (fun v=>by
  unfold impl_Proto_good.short
  rw [Option.map_some]
  congr 2
  rw [decide_eq_decide]
  omega) p.f9 hx.l9]
 unfold ok frame
 by_cases h1:impl_Proto_good.c1 p.f0 p.f2 p.f3.length p.f4.length p.f5.length p.f7.size=true
 ·rw [if_pos h1,h1];rfl
 ·rw [if_neg h1]
  have h1:impl_Proto_good.c1 p.f0 p.f2 p.f3.length p.f4.length p.f5.length p.f7.size=false:=by simpa using h1
  rw [h1]
  have h2:impl_Proto_good.c2 p.f3.length p.f5.length p.f8.length p.f9.length p.f6=!(texts p && decide (0≤p.f6)):=by
   unfold impl_Proto_good.c2 texts
   by_cases a:p.f8.length=0 <;> by_cases b:p.f8.length=p.f3.length <;> by_cases c:p.f9.length=0 <;> by_cases d:p.f9.length=p.f5.length <;> by_cases e:p.f6<0 <;> simp [a,b,c,d,e] <;> omega
  rw [h2]
  cases texts p <;> cases decide (0≤p.f6) <;> cases p.f4.all pl <;> cases (p.f5.all fun u=>num u.f1) <;> cases p.f8.all num <;> cases (p.f9.all fun s=>decide (s.size≤1000)) <;> rfl
/-! ### the reference's word on a prototype -/
theorem spec_ok (p:S44) (hx:Fit p):Evt (fun k=>spec_l2ProtoOk.f k p.f0 p.f1 p.f2 p.f3 p.f4 p.f5 p.f6 p.f7 p.f8 p.f9) (ok p):=by
 have h3:Evt (fun k=>spec_l2ProtoOk.l3 k 0 p.f0 p.f1 p.f2 p.f3 p.f4 p.f5 p.f6 p.f7 p.f8 p.f9) (p.f9.all (fun s=>decide (s.size≤1000)) && true):=by
  refine all_list (xs:=p.f9) (z:=ByteArray.empty) (q:=fun s=>decide (s.size≤1000)) (L:=fun k i=>spec_l2ProtoOk.l3 k i p.f0 p.f1 p.f2 p.f3 p.f4 p.f5 p.f6 p.f7 p.f8 p.f9) (fun i hi=>⟨0,fun k _=>?_⟩) (Evt.succ (Evt.now fun k=>?_))
  ·have:=hx.l9
   have e:rdOf ByteArray.empty p.f9 (i:Int)=p.f9.getD i ByteArray.empty:=by simp [rdOf]
   rw [← e]
   show spec_l2ProtoOk.l3 (k+1) i _ _ _ _ _ _ _ _ _ _=if _ then spec_l2ProtoOk.l3 k _ _ _ _ _ _ _ _ _ _ _ else _
   rw [spec_l2ProtoOk.l3,if_pos (by omega),if_pos (by omega),wrap_nat (by omega)]
   generalize rdOf ByteArray.empty p.f9 (i:Int)=v
   by_cases h:v.size≤1000
   ·rw [if_neg (by omega),if_pos (by simpa using h)]
   ·rw [if_pos (by omega),if_neg (by simpa using h)]
  ·show spec_l2ProtoOk.l3 (k+1) p.f9.length _ _ _ _ _ _ _ _ _ _=_
   rw [spec_l2ProtoOk.l3,if_neg (by omega)]
 have h2:Evt (fun k=>spec_l2ProtoOk.l2 k 0 p.f0 p.f1 p.f2 p.f3 p.f4 p.f5 p.f6 p.f7 p.f8 p.f9) (p.f8.all num && (p.f9.all (fun s=>decide (s.size≤1000)) && true)):=by
  refine all_list (xs:=p.f8) (z:=0) (q:=num) (L:=fun k i=>spec_l2ProtoOk.l2 k i p.f0 p.f1 p.f2 p.f3 p.f4 p.f5 p.f6 p.f7 p.f8 p.f9) (fun i hi=>⟨0,fun k _=>?_⟩) (Evt.succ (h3.of_eq 0 fun k _=>?_))
  ·have:=hx.l8
   have e:rd p.f8 (i:Int)=p.f8.getD i 0:=by simp [rd]
   rw [← e]
   show spec_l2ProtoOk.l2 (k+1) i _ _ _ _ _ _ _ _ _ _=if _ then spec_l2ProtoOk.l2 k _ _ _ _ _ _ _ _ _ _ _ else _
   rw [spec_l2ProtoOk.l2,if_pos (by omega),if_pos (by omega),wrap_nat (by omega),spec_num,Option.bind_some]
  ·show spec_l2ProtoOk.l2 (k+1) p.f8.length _ _ _ _ _ _ _ _ _ _=_
   rw [spec_l2ProtoOk.l2,if_neg (by omega)]
 have h1:Evt (fun k=>spec_l2ProtoOk.l1 k 0 p.f0 p.f1 p.f2 p.f3 p.f4 p.f5 p.f6 p.f7 p.f8 p.f9) (p.f5.all (fun u=>num u.f1) && (p.f8.all num && (p.f9.all (fun s=>decide (s.size≤1000)) && true))):=by
  refine all_list (xs:=p.f5) (z:=z89) (q:=fun u=>num u.f1) (L:=fun k i=>spec_l2ProtoOk.l1 k i p.f0 p.f1 p.f2 p.f3 p.f4 p.f5 p.f6 p.f7 p.f8 p.f9) (fun i hi=>⟨0,fun k _=>?_⟩) (Evt.succ (h2.of_eq 0 fun k _=>?_))
  ·have:=hx.l5
   have e:rd_T89 p.f5 (i:Int)=p.f5.getD i z89:=by simp [rd_T89]
   rw [← e]
   show spec_l2ProtoOk.l1 (k+1) i _ _ _ _ _ _ _ _ _ _=if _ then spec_l2ProtoOk.l1 k _ _ _ _ _ _ _ _ _ _ _ else _
   rw [spec_l2ProtoOk.l1,if_pos (by omega),if_pos (by omega),wrap_nat (by omega),spec_num,Option.bind_some]
  ·show spec_l2ProtoOk.l1 (k+1) p.f5.length _ _ _ _ _ _ _ _ _ _=_
   rw [spec_l2ProtoOk.l1,if_neg (by omega)]
 have h0:Evt (fun k=>spec_l2ProtoOk.l0 k 0 p.f0 p.f1 p.f2 p.f3 p.f4 p.f5 p.f6 p.f7 p.f8 p.f9) (p.f4.all pl && (p.f5.all (fun u=>num u.f1) && (p.f8.all num && (p.f9.all (fun s=>decide (s.size≤1000)) && true)))):=by
  refine all_list (xs:=p.f4) (z:=z85) (q:=pl) (L:=fun k i=>spec_l2ProtoOk.l0 k i p.f0 p.f1 p.f2 p.f3 p.f4 p.f5 p.f6 p.f7 p.f8 p.f9) (fun i hi=>⟨0,fun k _=>?_⟩) (Evt.succ (h1.of_eq 0 fun k _=>?_))
  ·have:=hx.l4
   have e:rd_T85 p.f4 (i:Int)=p.f4.getD i z85:=by simp [rd_T85]
   rw [← e]
   show spec_l2ProtoOk.l0 (k+1) i _ _ _ _ _ _ _ _ _ _=if _ then spec_l2ProtoOk.l0 k _ _ _ _ _ _ _ _ _ _ _ else _
   rw [spec_l2ProtoOk.l0,if_pos (by omega),if_pos (by omega),wrap_nat (by omega),spec_pl,Option.bind_some]
  ·show spec_l2ProtoOk.l0 (k+1) p.f4.length _ _ _ _ _ _ _ _ _ _=_
   rw [spec_l2ProtoOk.l0,if_neg (by omega)]
 obtain ⟨V,hV⟩:∃ V,(p.f4.all pl && (p.f5.all (fun u=>num u.f1) && (p.f8.all num && (p.f9.all (fun s=>decide (s.size≤1000)) && true))))=V:=⟨_,rfl⟩
 rw [hV] at h0
 have hj2:∀ b,Evt (fun k=>spec_l2ProtoOk.j2 k b p.f0 p.f1 p.f2 p.f3 p.f4 p.f5 p.f6 p.f7 p.f8 p.f9) (!b && V):=by
  intro b
  refine Evt.succ ?_
  cases b
  ·exact h0.of_eq 0 fun k _=>by rw [spec_l2ProtoOk.j2,if_neg (by decide)]
  ·exact Evt.now fun k=>by rw [spec_l2ProtoOk.j2,if_pos rfl];rfl
 have hj1:∀ b,Evt (fun k=>spec_l2ProtoOk.j1 k b p.f0 p.f1 p.f2 p.f3 p.f4 p.f5 p.f6 p.f7 p.f8 p.f9) (!b && (texts p && V)):=by
  intro b
  refine Evt.succ ?_
  cases b
  ·have e:texts p=!(if (p.f8.length:Int) > 0 then (if (p.f8.length:Int)=(p.f3.length:Int) then (if (p.f9.length:Int) > 0 then ((p.f9.length:Int) != (p.f5.length:Int)) else false) else true) else (if (p.f9.length:Int) > 0 then ((p.f9.length:Int) != (p.f5.length:Int)) else false)):=by
    unfold texts
    have ne:((p.f9.length:Int) != (p.f5.length:Int))=!decide (p.f9.length=p.f5.length):=by
     rw [bne,Bool.eq_iff_iff,Bool.not_eq_true',beq_eq_false_iff_ne,Bool.not_eq_true',decide_eq_false_iff_not]
     omega
    rw [ne]
    by_cases a:p.f8.length=0
    ·rw [if_neg (by omega)]
     by_cases c:p.f9.length=0
     ·rw [if_neg (by omega)];simp [a,c]
     ·rw [if_pos (by omega)];simp [a,c]
    ·rw [if_pos (by omega)]
     by_cases b:p.f8.length=p.f3.length
     ·rw [if_pos (by omega)]
      by_cases c:p.f9.length=0
      ·rw [if_neg (by omega)];simp [b,c]
      ·rw [if_pos (by omega)];simp [b,c]
     ·rw [if_neg (by omega)];simp [a,b]
   refine (hj2 (!texts p)).of_eq 0 (fun k _=>?_) |> fun h=>by simpa using h
   rw [spec_l2ProtoOk.j1,if_neg (by decide),e,Bool.not_not]
   repeat' split
   all_goals rfl
  ·exact Evt.now fun k=>by rw [spec_l2ProtoOk.j1,if_pos rfl];rfl
 have hj0:∀ b,Evt (fun k=>spec_l2ProtoOk.j0 k b p.f0 p.f1 p.f2 p.f3 p.f4 p.f5 p.f6 p.f7 p.f8 p.f9) (!(b || (decide (500<p.f4.length) || (decide (60<p.f5.length) || decide (1000<p.f7.size)))) && (texts p && V)):=by
  intro b
  refine Evt.succ ?_
  cases b
  ·refine (hj1 (decide (500<p.f4.length) || (decide (60<p.f5.length) || decide (1000<p.f7.size)))).of_eq 0 (fun k _=>?_) |> fun h=>by simpa using h
   rw [spec_l2ProtoOk.j0,if_neg (by decide)]
   by_cases a:500<p.f4.length
   ·rw [if_pos (by omega)];simp [a]
   ·rw [if_neg (by omega)]
    by_cases b:60<p.f5.length
    ·rw [if_pos (by omega)];simp [b]
    ·rw [if_neg (by omega)]
     have e:decide ((p.f7.size:Int) > 1000)=decide (1000<p.f7.size):=by rw [decide_eq_decide];omega
     rw [e];simp [a,b]
  ·exact Evt.now fun k=>by rw [spec_l2ProtoOk.j0,if_pos rfl];rfl
 have e:ok p=(!((!(impl_Proto_good.wi p.f2 1 250) || (!(impl_Proto_good.wi p.f0 0 p.f2) || !(impl_Proto_good.wi (p.f3.length:Int) 1 2000))) || (decide (500<p.f4.length) || (decide (60<p.f5.length) || decide (1000<p.f7.size)))) && (texts p && V)):=by
  rw [← hV,ok,frame,impl_Proto_good.c1,Bool.and_true]
  simp only [Bool.or_assoc]
 rw [e]
 refine (hj0 _).of_eq 0 fun k _=>?_
 unfold spec_l2ProtoOk.f impl_Proto_good.wi
 by_cases a:p.f2<1
 ·rw [if_pos a];simp [show ¬ 1≤p.f2 by omega]
 ·rw [if_neg a]
  by_cases b:p.f2 > 250
  ·rw [if_pos b];simp [show ¬ p.f2≤250 by omega]
  ·rw [if_neg b]
   by_cases c:p.f0<0
   ·rw [if_pos c];simp [show ¬ 0≤p.f0 by omega]
   ·rw [if_neg c]
    by_cases d:p.f0 > p.f2
    ·rw [if_pos d];simp [show ¬ p.f0≤p.f2 by omega]
    ·rw [if_neg d]
     by_cases f:(p.f3.length:Int)<1
     ·rw [if_pos f];simp [show ¬ 1≤(p.f3.length:Int) by omega]
     ·rw [if_neg f]
      have q:(!(decide (1≤p.f2) && decide (p.f2≤250)) || (!(decide (0≤p.f0) && decide (p.f0≤p.f2)) || !(decide (1≤(p.f3.length:Int)) && decide ((p.f3.length:Int)≤2000))))=decide ((p.f3.length:Int) > 2000):=by
       rw [decide_eq_true (show 1≤p.f2 by omega),decide_eq_true (show p.f2≤250 by omega),decide_eq_true (show 0≤p.f0 by omega),decide_eq_true (show p.f0≤p.f2 by omega),decide_eq_true (show 1≤(p.f3.length:Int) by omega)]
       by_cases g:(p.f3.length:Int)≤2000
       ·rw [decide_eq_true g,decide_eq_false (by omega)];rfl
       ·rw [decide_eq_false g,decide_eq_true (by omega)];rfl
      rw [q]
/-! ### the tree -/
def lpE (g:Nat→Int):Nat→Nat→Int
 | 0,at_=>(at_:Int)
 | m+1,at_=>if g at_<0 then -1 else lpE g m (g at_).toNat
def endOf (ks:List Int):Nat→Nat→Int
 | 0,_=>-1
 | f+1,i=>if ks.length≤i then -1 else if ks.getD i 0<0 then -1 else lpE (endOf ks f) (ks.getD i 0).toNat (i+1)
theorem lpE_bounds {ks:List Int} {g:Nat→Int} (hg:∀ i,i≤ks.length→g i=-1∨((i:Int)<g i∧g i≤ks.length∧∀ j:Nat,i≤j→(j:Int)<g i→0≤ks.getD j 0)) :
  ∀ m at_:Nat,at_≤ks.length→lpE g m at_=-1∨((at_:Int)≤lpE g m at_∧lpE g m at_≤ks.length∧∀ j:Nat,at_≤j→(j:Int)<lpE g m at_→0≤ks.getD j 0):=by
 intro m
 induction m with
 | zero=>exact fun at_ h=>.inr ⟨Int.le_refl _,by simp only [lpE];omega,fun j h1 h2=>by simp only [lpE] at h2;omega⟩
 | succ m ih =>
  intro at_ h
  simp only [lpE]
  by_cases hn:g at_<0
  ·rw [if_pos hn];exact .inl rfl
  ·rw [if_neg hn]
   rcases hg at_ h with h1|⟨h1,h2,h3⟩
   ·omega
   ·rcases ih (g at_).toNat (by omega) with h4|⟨h4,h5,h6⟩
    ·exact .inl h4
    ·refine .inr ⟨by omega,h5,fun j hj1 hj2=>?_⟩
     by_cases hj:(j:Int)<g at_
     ·exact h3 j hj1 hj
     ·exact h6 j (by omega) hj2
theorem endOf_bounds {ks:List Int}:∀ f i:Nat,i≤ks.length→endOf ks f i=-1∨((i:Int)<endOf ks f i∧endOf ks f i≤ks.length∧∀ j:Nat,i≤j→(j:Int)<endOf ks f i→0≤ks.getD j 0):=by
 intro f
 induction f with
 | zero=>exact fun i _=>.inl rfl
 | succ f ih =>
  intro i hi
  simp only [endOf]
  by_cases h1:ks.length≤i
  ·rw [if_pos h1];exact .inl rfl
  ·rw [if_neg h1]
   by_cases h2:ks.getD i 0<0
   ·rw [if_pos h2];exact .inl rfl
   ·rw [if_neg h2]
    rcases lpE_bounds ih (ks.getD i 0).toNat (i+1) (by omega) with h4|⟨h4,h5,h6⟩
    ·exact .inl h4
    ·refine .inr ⟨by omega,h5,fun j hj1 hj2=>?_⟩
     by_cases hj:j=i
     ·subst hj;omega
     ·exact h6 j (by omega) hj2
theorem wk_end {ks:List Int} (hk:∀ j:Nat,0≤ks.getD j 0):∀ (f i:Nat) (s:List Int×List Int),(impl_WellFormed.wk ks f i s).1=endOf ks f i:=by
 intro f
 induction f with
 | zero=>exact fun i s=>rfl
 | succ f ih =>
  intro i s
  have inner:∀ (m at_:Nat) (s:List Int×List Int),(impl_WellFormed.lp (impl_WellFormed.wk ks f) m at_ s).1=lpE (endOf ks f) m at_:=by
   intro m
   induction m with
   | zero=>exact fun at_ s=>rfl
   | succ m ihm =>
    intro at_ s
    simp only [impl_WellFormed.lp,lpE]
    rw [ih at_ s]
    by_cases hn:endOf ks f at_<0
    ·rw [if_pos hn,if_pos hn]
    ·rw [if_neg hn,if_neg hn]
     exact ihm _ _
  simp only [impl_WellFormed.wk,endOf]
  by_cases h1:ks.length≤i
  ·rw [if_pos h1,if_pos h1]
  ·have hkn:¬ ks.getD i 0<0:=by have:=hk i;omega
   rw [if_neg h1,if_neg h1,if_neg hkn]
   rw [inner]
   by_cases hn:lpE (endOf ks f) (ks.getD i 0).toNat (i+1)<0
   ·rw [if_pos hn]
    have:=lpE_bounds (ks:=ks) (endOf_bounds f) (ks.getD i 0).toNat (i+1) (by omega)
    omega
   ·rw [if_neg hn]
theorem spec_end {ps:List S44} (hn:ps.length≤1048576) (hk:∀ p ∈ ps,p.f6≤9223372036854775807):∀ (f i:Nat),f≤64→Evt (fun k=>spec_l2End.f k ps (i:Int) (64-(f:Int))) (endOf (ps.map (·.f6)) f i):=by
 have hlen:(ps.map (·.f6)).length=ps.length:=by simp
 intro f
 induction f with
 | zero =>
  intro i _
  refine Evt.succ (Evt.succ (Evt.now fun k=>?_))
  show spec_l2End.f (k+1+1) ps (i:Int) (64-((0:Nat):Int))=some (-1)
  rw [spec_l2End.f]
  by_cases hi:(i:Int) ≥ (ps.length:Int)
  ·rw [if_pos hi,spec_l2End.j0,if_pos rfl]
  ·rw [if_neg hi,if_pos (by omega),spec_l2End.j0,if_pos rfl]
 | succ f ih =>
  intro i hf
  simp only [endOf]
  rw [hlen]
  by_cases hi:ps.length≤i
  ·rw [if_pos hi]
   refine Evt.succ (Evt.succ (Evt.now fun k=>?_))
   show spec_l2End.f (k+1+1) ps (i:Int) _=some (-1)
   rw [spec_l2End.f,if_pos (by omega),spec_l2End.j0,if_pos rfl]
  ·rw [if_neg hi]
   have hil:i<ps.length:=by omega
   have e:rd_T44 ps (i:Int)=ps[i]:=by simp [rd_T44,List.getD,hil]
   have ek:(ps.map (·.f6)).getD i 0=ps[i].f6:=by simp [List.getD,hil]
   rw [ek]
   have hK:ps[i].f6≤9223372036854775807:=hk _ (List.getElem_mem hil)
   have e64:(64:Int)-((f+1:Nat):Int)=63-(f:Int):=by omega
   rw [e64]
   obtain ⟨K,hKd⟩:∃ K,K=ps[i].f6:=⟨_,rfl⟩
   rw [← hKd] at hK ⊢
   have head:∀ k,spec_l2End.f (k+1) ps (i:Int) (63-(f:Int))=spec_l2End.j0 k ps (i:Int) (63-(f:Int)) (decide (K<0)):=by
    intro k
    rw [spec_l2End.f,if_neg (by omega),if_neg (by omega),if_pos (by omega),if_pos (by omega),e,← hKd]
   by_cases hneg:K<0
   ·rw [if_pos hneg]
    refine Evt.succ (Evt.succ (Evt.now fun k=>?_))
    show spec_l2End.f (k+1+1) ps (i:Int) _=some (-1)
    rw [head,spec_l2End.j0,if_pos (decide_eq_true hneg)]
   ·rw [if_neg hneg]
    have loop:∀ d m at_:Nat,ps.length-at_≤d→at_≤ps.length→(m:Int)≤K→Evt (fun k=>spec_l2End.l0 k ps (i:Int) (63-(f:Int)) (at_:Int) (K-(m:Int))) (lpE (endOf (ps.map (·.f6)) f) m at_):=by
     intro d
     induction d with
     | zero =>
      intro m at_ hd ha hm
      have hat:at_=ps.length:=by omega
      cases m with
      | zero =>
       refine Evt.succ (Evt.now fun k=>?_)
       show spec_l2End.l0 (k+1) ps (i:Int) _ (at_:Int) (K-((0:Nat):Int))=some _
       rw [spec_l2End.l0,if_pos (by omega),if_pos (by omega),e,← hKd,if_neg (by omega)]
       rfl
      | succ m =>
       have hb:=endOf_bounds (ks:=ps.map (·.f6)) f at_ (by omega)
       have hv:endOf (ps.map (·.f6)) f at_=-1:=by
        rcases hb with hb|⟨h1,h2,_⟩
        ·exact hb
        ·omega
       simp only [lpE]
       rw [hv,if_pos (by decide)]
       obtain ⟨L,hL⟩:=ih at_ (by omega)
       rw [hv] at hL
       refine ⟨L+2,fun k hk'=>?_⟩
       obtain ⟨k,rfl⟩:∃ q,k=q+1+1:=⟨k-2,by omega⟩
       have h1:spec_l2End.f (k+1) ps (at_:Int) (64-(f:Int))=some (-1):=hL _ (by omega)
       show spec_l2End.l0 (k+1+1) ps (i:Int) _ (at_:Int) (K-((m+1:Nat):Int))=some _
       rw [spec_l2End.l0,if_pos (by omega),if_pos (by omega),e,← hKd,if_pos (by omega),if_pos (by omega),wrap_id (by omega) (by omega),show (63-(f:Int)+1)=64-(f:Int) by omega,h1,Option.bind_some]
       rw [spec_l2End.l0,if_pos (by omega),if_pos (by omega)]
       by_cases q:wrap64 (K-((m+1:Nat):Int)+1)<(rd_T44 ps (i:Int)).f6
       ·rw [if_pos q,if_neg (by decide)]
       ·rw [if_neg q]
     | succ d ihd =>
      intro m at_ hd ha hm
      cases m with
      | zero =>
       refine Evt.succ (Evt.now fun k=>?_)
       show spec_l2End.l0 (k+1) ps (i:Int) _ (at_:Int) (K-((0:Nat):Int))=some _
       rw [spec_l2End.l0,if_pos (by omega),if_pos (by omega),e,← hKd,if_neg (by omega)]
       rfl
      | succ m =>
       have hb:=endOf_bounds (ks:=ps.map (·.f6)) f at_ (by omega)
       obtain ⟨L,hL⟩:=ih at_ (by omega)
       simp only [lpE]
       by_cases hv:endOf (ps.map (·.f6)) f at_<0
       ·rw [if_pos hv]
        have hv1:endOf (ps.map (·.f6)) f at_=-1:=by
         rcases hb with hb|⟨h1,_,_⟩
         ·exact hb
         ·omega
        rw [hv1] at hL
        refine ⟨L+2,fun k hk'=>?_⟩
        obtain ⟨k,rfl⟩:∃ q,k=q+1+1:=⟨k-2,by omega⟩
        have h1:spec_l2End.f (k+1) ps (at_:Int) (64-(f:Int))=some (-1):=hL _ (by omega)
        show spec_l2End.l0 (k+1+1) ps (i:Int) _ (at_:Int) (K-((m+1:Nat):Int))=some _
        rw [spec_l2End.l0,if_pos (by omega),if_pos (by omega),e,← hKd,if_pos (by omega),if_pos (by omega),wrap_id (by omega) (by omega),show (63-(f:Int)+1)=64-(f:Int) by omega,h1,Option.bind_some]
        rw [spec_l2End.l0,if_pos (by omega),if_pos (by omega)]
        by_cases q:wrap64 (K-((m+1:Nat):Int)+1)<(rd_T44 ps (i:Int)).f6
        ·rw [if_pos q,if_neg (by decide)]
        ·rw [if_neg q]
       ·rw [if_neg hv]
        obtain ⟨t,ht⟩:∃ t:Nat,endOf (ps.map (·.f6)) f at_=(t:Int):=⟨(endOf (ps.map (·.f6)) f at_).toNat,by omega⟩
        rw [ht] at hb hL ⊢
        have hb2:at_<t∧t≤ps.length:=by
         rcases hb with hb|⟨h1,h2,_⟩
         ·omega
         ·rw [hlen] at h2;omega
        have hrest:=ihd m t (by omega) hb2.2 (by omega)
        rw [Int.toNat_natCast]
        refine Evt.succ (hrest.of_eq L fun k hk'=>?_)
        have h1:spec_l2End.f k ps (at_:Int) (64-(f:Int))=some (t:Int):=hL _ hk'
        show spec_l2End.l0 (k+1) ps (i:Int) _ (at_:Int) (K-((m+1:Nat):Int))=_
        rw [spec_l2End.l0,if_pos (by omega),if_pos (by omega),e,← hKd,if_pos (by omega),if_pos (by omega),wrap_id (by omega) (by omega),show (63-(f:Int)+1)=64-(f:Int) by omega,h1,Option.bind_some,wrap_id (by omega) (by omega),show K-((m+1:Nat):Int)+1=K-(m:Int) by omega]
    have h:=loop ps.length K.toNat (i+1) (by omega) (by omega) (by omega)
    rw [show K-(K.toNat:Int)=0 by omega] at h
    refine Evt.succ (Evt.succ (h.of_eq 0 fun k _=>?_))
    show spec_l2End.f (k+1+1) ps (i:Int) _=_
    rw [head,spec_l2End.j0,if_neg (by simpa using hneg),wrap_nat (by omega)]
/-! ### both answer alike -/
def word (l:List S44):Bool:=decide (1≤l.length∧l.length≤200) && (decide (endOf (l.map (·.f6)) 64 0=(l.length:Int)) && l.all ok)
theorem spec_word {l:List S44} (hl:l.length≤1048576) (hx:∀ p ∈ l,Fit p) (hk:∀ p ∈ l,p.f6≤9223372036854775807):Evt (fun k=>spec_WellFormed.f k l) (word l):=by
 have hend:=spec_end hl hk 64 0 (Nat.le_refl _)
 have hall:Evt (fun k=>spec_WellFormed.l0 k (l.length:Int) 0 l) (l.all ok && true):=by
  refine all_list (xs:=l) (z:=z44) (q:=ok) (L:=fun k i=>spec_WellFormed.l0 k (l.length:Int) i l) (fun i hi=>?_) (Evt.succ (Evt.now fun k=>?_))
  ·obtain ⟨K,hK0⟩:=spec_ok _ (hx _ (List.getElem_mem hi))
   have e:rd_T44 l (i:Int)=l[i]:=by simp [rd_T44,List.getD,hi]
   have e2:l.getD i z44=l[i]:=by simp [List.getD,hi]
   refine ⟨K,fun k hk=>?_⟩
   have hK:=hK0 k hk
   dsimp only at hK
   show spec_WellFormed.l0 (k+1) (l.length:Int) i l=if _ then spec_WellFormed.l0 k (l.length:Int) _ l else _
   rw [spec_WellFormed.l0,if_pos (by omega),if_pos (by omega),if_pos (by omega),e,hK,Option.bind_some,wrap_nat (by omega),e2]
  ·show spec_WellFormed.l0 (k+1) (l.length:Int) l.length l=_
   rw [spec_WellFormed.l0,if_neg (by omega)]
 rw [Bool.and_true] at hall
 have hj:∀ b,Evt (fun k=>spec_WellFormed.j0 k (l.length:Int) b l) (!b && l.all ok):=by
  intro b
  refine Evt.succ ?_
  cases b
  ·exact hall.of_eq 0 fun k _=>by rw [spec_WellFormed.j0,if_neg (by decide)]
  ·exact Evt.now fun k=>by rw [spec_WellFormed.j0,if_pos rfl];rfl
 unfold word
 by_cases h1:l.length<1
 ·rw [decide_eq_false (by omega),Bool.false_and]
  exact (hj true).of_eq 0 fun k _=>by unfold spec_WellFormed.f;rw [if_pos (by omega)]
 ·by_cases h2:l.length > 200
  ·rw [decide_eq_false (by omega),Bool.false_and]
   exact (hj true).of_eq 0 fun k _=>by unfold spec_WellFormed.f;rw [if_neg (by omega),if_pos (by omega)]
  ·rw [decide_eq_true (by omega),Bool.true_and]
   have hb:Evt (fun k=>(spec_l2End.f k l 0 0).bind fun t=>spec_WellFormed.j0 k (l.length:Int) (t != (l.length:Int)) l) (!(endOf (l.map (·.f6)) 64 0 != (l.length:Int)) && l.all ok):=hend.bind (h:=fun k t=>spec_WellFormed.j0 k (l.length:Int) (t != (l.length:Int)) l) (hj _)
   have e:(!(endOf (l.map (·.f6)) 64 0 != (l.length:Int)))=decide (endOf (l.map (·.f6)) 64 0=(l.length:Int)):=by
    rw [bne,Bool.not_not,Bool.eq_iff_iff,beq_iff_eq,decide_eq_true_iff]
   rw [e] at hb
   exact hb.of_eq 0 fun k _=>by unfold spec_WellFormed.f;rw [if_neg (by omega),if_neg (by omega)]
theorem goods_all {l:List S44} (hx:∀ p ∈ l,Fit p):impl_WellFormed.goods l=some (l.all fun p=>ok p && decide (0≤p.f6)):=by
 induction l with
 | nil=>rfl
 | cons p l ih =>
  rw [impl_WellFormed.goods,impl_good p (hx p List.mem_cons_self),Option.bind_some,ih (fun q hq=>hx q (List.mem_cons_of_mem _ hq)),List.all_cons]
  cases (ok p && decide (0≤p.f6)) <;> rfl
theorem impl_word {l:List S44} (hx:∀ p ∈ l,Fit p) (hk:∀ p ∈ l,p.f6≤9223372036854775807):impl_WellFormed.f l=some (word l):=by
 unfold impl_WellFormed.f word
 by_cases h1:l.length<1∨200<l.length
 ·rw [if_pos h1,decide_eq_false (by omega),Bool.false_and]
 ·rw [if_neg h1,decide_eq_true (show 1≤l.length∧l.length≤200 by omega),Bool.true_and]
  have hs:impl_WellFormed.small l=true:=List.all_eq_true.2 fun p hp=>decide_eq_true (hk p hp)
  rw [if_pos hs,goods_all hx,Option.bind_some]
  by_cases hg:(l.all fun p=>ok p && decide (0≤p.f6))=true
  ·rw [if_pos hg]
   have hok:l.all ok=true:=List.all_eq_true.2 fun p hp=>by
    have:=List.all_eq_true.1 hg p hp
    rw [Bool.and_eq_true] at this
    exact this.1
   have hk0:∀ j:Nat,0≤(l.map (·.f6)).getD j 0:=by
    intro j
    by_cases hj:j<l.length
    ·have:=List.all_eq_true.1 hg _ (List.getElem_mem hj)
     rw [Bool.and_eq_true,decide_eq_true_iff] at this
     have e:(l.map (·.f6)).getD j 0=l[j].f6:=by simp [List.getD,hj]
     rw [e]
     exact this.2
    ·have e:(l.map (·.f6)).getD j 0=0:=by simp [List.getD,hj]
     rw [e]
     exact Int.le_refl _
   rw [hok,Bool.and_true]
   have ef:(impl_WellFormed.fin (l.map (·.f6))).1=endOf (l.map (·.f6)) 64 0:=wk_end hk0 64 0 _
   congr 1
   rw [decide_eq_decide,impl_WellFormed.come,ef,List.length_map]
   by_cases he:endOf (l.map (·.f6)) 64 0=(l.length:Int)
   ·rw [if_pos he]
    simp [impl_WellFormed.all,he]
   ·rw [if_neg he]
    simp only [List.length_nil]
    constructor
    ·intro h;omega
    ·intro h;exact absurd h he
  ·rw [if_neg hg]
   congr 1
   symm
   rw [Bool.and_eq_false_iff]
   by_cases hok:l.all ok=true
   ·left
    refine decide_eq_false fun he=>hg ?_
    have hb:=endOf_bounds (ks:=l.map (·.f6)) 64 0 (Nat.zero_le _)
    rw [he] at hb
    rcases hb with hb|⟨_,_,hb⟩
    ·omega
    ·refine List.all_eq_true.2 fun p hp=>?_
     obtain ⟨j,hj,rfl⟩:=List.getElem_of_mem hp
     have h0:=hb j (Nat.zero_le _) (by omega)
     have e:(l.map (·.f6)).getD j 0=l[j].f6:=by simp [List.getD,hj]
     rw [e] at h0
     rw [List.all_eq_true.1 hok _ hp,Bool.true_and]
     exact decide_eq_true h0
   ·right
    simpa using hok
-- ---- Marks: what they leave, and that it is held.
theorem markText_ev:∀ (n:Nat) (x:Int) (s:ByteArray),x.toNat≤n→x.toNat+s.size≤4611686018427387904→∃ t,Evt (fun k=>laws_markText.l0 k x s) t:=by
 intro n
 induction n with
 | zero =>
  intro x s hx hs
  refine ⟨(⟨#[109]⟩:ByteArray)++s,Evt.succ (Evt.now fun k=>?_)⟩
  rw [laws_markText.l0,if_neg (by omega),if_pos (by omega)]
 | succ n ih =>
  intro x s hx hs
  by_cases h:x > 0
  ·have hq:Int.tdiv x 10=x / 10:=by rw [Int.tdiv_eq_ediv];simp [show 0≤x by omega]
   have hw:wrap64 (Int.tdiv x 10)=x / 10:=by rw [hq];exact wrap_id (by omega) (by omega)
   have hz:∀ y:Int,(strOfNums [y]).size=1:=fun y=>rfl
   obtain ⟨t,ht⟩:=ih (x / 10) (strOfNums [(wrap64 (48+(Int.tmod x 10))) % 256]++s) (by omega) (by rw [ByteArray.size_append,hz];omega)
   refine ⟨t,Evt.succ (Evt.of_eq ht 0 fun k _=>?_)⟩
   rw [laws_markText.l0,if_pos h,Option.bind_some,hz,if_pos (by omega),hw]
  ·refine ⟨(⟨#[109]⟩:ByteArray)++s,Evt.succ (Evt.now fun k=>?_)⟩
   rw [laws_markText.l0,if_neg h,if_pos (by omega)]
theorem markText_some {a:Int} (h:a≤2305843009213693952):∃ t,Evt (fun k=>laws_markText.f k a) t:=by
 by_cases h0:a≤0
 ·exact ⟨_,Evt.now fun k=>by rw [laws_markText.f,if_pos h0]⟩
 ·obtain ⟨t,ht⟩:=markText_ev a.toNat a (⟨#[]⟩:ByteArray) (Nat.le_refl _) (by show a.toNat+0≤_;omega)
  exact ⟨t,Evt.of_eq ht 0 fun k _=>by rw [laws_markText.f,if_neg h0]⟩
open Classical in
noncomputable def mt (a:Int):ByteArray:=if h:∃ t,Evt (fun k=>laws_markText.f k a) t then h.choose else (⟨#[]⟩:ByteArray)
theorem mt_ev {a:Int} (h:a≤2305843009213693952):∃ K,∀ k,K≤k→laws_markText.f k a=some (mt a):=by
 have hs:=markText_some h
 unfold mt
 rw [dif_pos hs]
 exact (hs.choose_spec:Evt _ _)
/-- A row's marks: element j is c (a + s * j). -/
theorem mark_loop {α:Type} {n s:Nat} {a:Int} {c:Int→α} {L:Nat→List α→Int→Int→Option (Int×List α)}
  (hone:∀ i:Nat,i<n→∃ K,∀ k,K≤k→∀ ys:List α,ys.length=n→L (k+1) ys (a+(s*i:Nat)) (i:Int)=L k (ys.set i (c (a+(s*i:Nat)))) (a+(s*(i+1):Nat)) ((i+1:Nat):Int))
  (hend:∀ (k:Nat) (ys:List α) (b:Int),ys.length=n→L (k+1) ys b (n:Int)=some (b,ys)) (ys:List α) (hys:ys.length=n) :
  Evt (fun k=>L k ys a 0) (a+(s*n:Nat),(List.range n).map fun j=>c (a+(s*j:Nat))):=by
 have key:∀ m i:Nat,i+m=n→∀ ys:List α,ys.length=n→ys.take i=(List.range i).map (fun j=>c (a+(s*j:Nat)))→Evt (fun k=>L k ys (a+(s*i:Nat)) (i:Int)) (a+(s*n:Nat),(List.range n).map fun j=>c (a+(s*j:Nat))):=by
  intro m
  induction m with
  | zero =>
   intro i hi ys hl ht
   obtain rfl:i=n:=by omega
   rw [← hl,List.take_length,hl] at ht
   rw [← ht]
   exact Evt.succ (Evt.now fun k=>hend k ys _ hl)
  | succ m ih =>
   intro i hi ys hl ht
   obtain ⟨K,hK⟩:=hone i (by omega)
   refine Evt.succ (Evt.of_eq (ih (i+1) (by omega) (ys.set i (c (a+(s*i:Nat)))) (by simpa using hl) ?_) K (fun k hk=>hK k hk ys hl))
   rw [List.take_succ_eq_append_getElem (by simp;omega),List.take_set_of_le (by omega),List.getElem_set_self,ht,List.range_succ,List.map_append]
   rfl
 have h:=key n 0 (by omega) ys hys rfl
 simpa using h
/-- And that they are held. -/
theorem held_loop {n s:Nat} {a:Int} {L:Nat→Int→Int→Option Int}
  (hone:∀ i:Nat,i<n→∃ K,∀ k,K≤k→L (k+1) (a+(s*i:Nat)) (i:Int)=L k (a+(s*(i+1):Nat)) ((i+1:Nat):Int))
  (hend:∀ (k:Nat) (b:Int),L (k+1) b (n:Int)=some b):Evt (fun k=>L k a 0) (a+(s*n:Nat)):=by
 have key:∀ m i:Nat,i+m=n→Evt (fun k=>L k (a+(s*i:Nat)) (i:Int)) (a+(s*n:Nat)):=by
  intro m
  induction m with
  | zero =>
   intro i hi
   obtain rfl:i=n:=by omega
   exact Evt.succ (Evt.now fun k=>hend k _)
  | succ m ih =>
   intro i hi
   obtain ⟨K,hK⟩:=hone i (by omega)
   exact Evt.succ (Evt.of_eq (ih (i+1) (by omega)) K hK)
 have h:=key n 0 (by omega)
 simpa using h
def cI (a:Int):Int:=a % 4294967296
noncomputable def cV (a:Int):S85:=⟨a,a+1,mt (a+2)⟩
def cU (a:Int):S89:=⟨Int.tmod a 3 == 0,a+1⟩
theorem rng_get {α:Type} {z:α} {n i:Nat} {f:Nat→α} (h:i<n):((List.range n).map f).getD i z=f i:=by simp [List.getD,h]
theorem rng_len {α:Type} {n:Nat} {f:Nat→α}:((List.range n).map f).length=n:=by simp
theorem mark3 {l:List Int} {a:Int} (h0:0≤a) (h1:a≤1152921504606846976) (hl:l.length≤1048576):Evt (fun k=>laws_markUint32S.f k l a) (a+(1*l.length:Nat),(List.range l.length).map fun j=>cI (a+(1*j:Nat))):=by
 refine mark_loop (L:=laws_markUint32S.l0) (fun i hi=>⟨0,fun k _ ys hy=>?_⟩) (fun k ys b hy=>?_) l rfl
 ·rw [laws_markUint32S.l0,if_pos (by omega),if_pos (by omega),wrap_id (by omega) (by omega),wrap_nat (by omega)]
  simp only [Int.toNat_natCast,cI]
  congr 1
  omega
 ·rw [laws_markUint32S.l0,if_neg (by omega)]
theorem mark8 {l:List Int} {a:Int} (h0:0≤a) (h1:a≤1152921504606846976) (hl:l.length≤1048576):Evt (fun k=>laws_markIntS.f k l a) (a+(1*l.length:Nat),(List.range l.length).map fun j=>a+(1*j:Nat)):=by
 refine mark_loop (L:=laws_markIntS.l0) (c:=fun a=>a) (fun i hi=>⟨0,fun k _ ys hy=>?_⟩) (fun k ys b hy=>?_) l rfl
 ·rw [laws_markIntS.l0,if_pos (by omega),if_pos (by omega),wrap_id (by omega) (by omega),wrap_nat (by omega)]
  simp only [Int.toNat_natCast]
  congr 1
  omega
 ·rw [laws_markIntS.l0,if_neg (by omega)]
theorem mark9 {l:List ByteArray} {a:Int} (h0:0≤a) (h1:a≤1152921504606846976) (hl:l.length≤1048576):Evt (fun k=>laws_markStringS.f k l a) (a+(1*l.length:Nat),(List.range l.length).map fun j=>mt (a+(1*j:Nat))):=by
 refine mark_loop (L:=laws_markStringS.l0) (c:=mt) (fun i hi=>?_) (fun k ys b hy=>?_) l rfl
 ·obtain ⟨K,hK⟩:=mt_ev (a:=a+(1*i:Nat)) (by omega)
  refine ⟨K,fun k hk ys hy=>?_⟩
  rw [laws_markStringS.l0,if_pos (by omega),hK k hk,Option.bind_some,if_pos (by omega),wrap_id (by omega) (by omega),wrap_nat (by omega)]
  simp only [Int.toNat_natCast]
  congr 1
  omega
 ·rw [laws_markStringS.l0,if_neg (by omega)]
theorem mark5 {l:List S89} {a:Int} (h0:0≤a) (h1:a≤1152921504606846976) (hl:l.length≤1048576):Evt (fun k=>laws_markUpS.f k l a) (a+(2*l.length:Nat),(List.range l.length).map fun j=>cU (a+(2*j:Nat))):=by
 refine mark_loop (L:=laws_markUpS.l0) (fun i hi=>⟨0,fun k _ ys hy=>?_⟩) (fun k ys b hy=>?_) l rfl
 ·rw [laws_markUpS.l0,if_pos (by omega),if_pos (by omega),Option.bind_some,wrap_id (n:=a+(2*i:Nat)+1) (by omega) (by omega),wrap_id (by omega) (by omega),wrap_nat (by omega)]
  have hg:∀ x:S89,(ys.set i x).getD i z89=x:=fun x=>by simp [List.getD,hy,hi]
  simp only [Int.toNat_natCast,cU,rd_T89,List.set_set,hg]
  congr 1
  omega
 ·rw [laws_markUpS.l0,if_neg (by omega)]
theorem mark4 {l:List S85} {a:Int} (h0:0≤a) (h1:a≤1152921504606846976) (hl:l.length≤1048576):Evt (fun k=>laws_markValueS.f k l a) (a+(3*l.length:Nat),(List.range l.length).map fun j=>cV (a+(3*j:Nat))):=by
 refine mark_loop (L:=laws_markValueS.l0) (fun i hi=>?_) (fun k ys b hy=>?_) l rfl
 ·obtain ⟨K,hK⟩:=mt_ev (a:=a+(3*i:Nat)+2) (by omega)
  refine ⟨K,fun k hk ys hy=>?_⟩
  rw [laws_markValueS.l0,if_pos (by omega),if_pos (by omega),Option.bind_some,Option.bind_some,wrap_id (n:=a+(3*i:Nat)+1) (by omega) (by omega),wrap_id (n:=a+(3*i:Nat)+1+1) (by omega) (by omega),show a+((3*i:Nat):Int)+1+1=a+(3*i:Nat)+2 by omega,hK k hk,Option.bind_some,wrap_id (by omega) (by omega),wrap_nat (by omega)]
  simp only [Int.toNat_natCast,cV,rd_T85,List.set_set]
  have hg:∀ x:S85,(ys.set i x).getD i z85=x:=fun x=>by simp [List.getD,hy,hi]
  simp only [hg,List.set_set]
  congr 1
  omega
 ·rw [laws_markValueS.l0,if_neg (by omega)]
theorem held3 {n:Nat} {a:Int} (h0:0≤a) (h1:a≤1152921504606846976) (hl:n≤1048576):∃ K,∀ k,K≤k→laws_heldUint32S.f k ((List.range n).map fun j=>cI (a+(1*j:Nat))) a=some (a+(1*n:Nat)):=by
 refine held_loop (L:=fun k b i=>laws_heldUint32S.l0 k ((List.range n).map fun j=>cI (a+(1*j:Nat))) b i) (fun i hi=>⟨0,fun k _=>?_⟩) (fun k b=>?_)
 ·rw [laws_heldUint32S.l0,if_pos (by rw [rng_len];omega),if_pos (by omega),if_pos (by rw [rd,Int.toNat_natCast,rng_get hi];rfl),wrap_id (by omega) (by omega),wrap_nat (by omega)]
  congr 1
  omega
 ·rw [laws_heldUint32S.l0,if_neg (by rw [rng_len];omega)]
theorem held8 {n:Nat} {a:Int} (h0:0≤a) (h1:a≤1152921504606846976) (hl:n≤1048576):∃ K,∀ k,K≤k→laws_heldIntS.f k ((List.range n).map fun j=>a+(1*j:Nat)) a=some (a+(1*n:Nat)):=by
 refine held_loop (L:=fun k b i=>laws_heldIntS.l0 k ((List.range n).map fun j=>a+(1*j:Nat)) b i) (fun i hi=>⟨0,fun k _=>?_⟩) (fun k b=>?_)
 ·rw [laws_heldIntS.l0,if_pos (by rw [rng_len];omega),if_pos (by omega),if_pos (by rw [rd,Int.toNat_natCast,rng_get hi]),wrap_id (by omega) (by omega),wrap_nat (by omega)]
  congr 1
  omega
 ·rw [laws_heldIntS.l0,if_neg (by rw [rng_len];omega)]
theorem held9 {n:Nat} {a:Int} (h0:0≤a) (h1:a≤1152921504606846976) (hl:n≤1048576):∃ K,∀ k,K≤k→laws_heldStringS.f k ((List.range n).map fun j=>mt (a+(1*j:Nat))) a=some (a+(1*n:Nat)):=by
 refine held_loop (L:=fun k b i=>laws_heldStringS.l0 k ((List.range n).map fun j=>mt (a+(1*j:Nat))) b i) (fun i hi=>?_) (fun k b=>?_)
 ·obtain ⟨K,hK⟩:=mt_ev (a:=a+(1*i:Nat)) (by omega)
  refine ⟨K,fun k hk=>?_⟩
  rw [laws_heldStringS.l0,if_pos (by rw [rng_len];omega),if_pos (by omega),hK k hk,Option.bind_some,if_pos (by rw [rdOf,Int.toNat_natCast,rng_get hi]),wrap_id (by omega) (by omega),wrap_nat (by omega)]
  congr 1
  omega
 ·rw [laws_heldStringS.l0,if_neg (by rw [rng_len];omega)]
theorem held5 {n:Nat} {a:Int} (h0:0≤a) (h1:a≤1152921504606846976) (hl:n≤1048576):∃ K,∀ k,K≤k→laws_heldUpS.f k ((List.range n).map fun j=>cU (a+(2*j:Nat))) a=some (a+(2*n:Nat)):=by
 refine held_loop (L:=fun k b i=>laws_heldUpS.l0 k ((List.range n).map fun j=>cU (a+(2*j:Nat))) b i) (fun i hi=>⟨0,fun k _=>?_⟩) (fun k b=>?_)
 ·have hg:rd_T89 ((List.range n).map fun j=>cU (a+(2*j:Nat))) (i:Int)=cU (a+(2*i:Nat)):=by rw [rd_T89,Int.toNat_natCast,rng_get hi]
  rw [laws_heldUpS.l0,if_pos (by rw [rng_len];omega),if_pos (by omega),hg,if_neg (by simp [cU]),wrap_id (n:=a+(2*i:Nat)+1) (by omega) (by omega),if_pos (show (cU (a+(2*i:Nat))).f1=a+(2*i:Nat)+1 from rfl),wrap_id (by omega) (by omega),wrap_nat (by omega)]
  congr 1
  omega
 ·rw [laws_heldUpS.l0,if_neg (by rw [rng_len];omega)]
theorem held4 {n:Nat} {a:Int} (h0:0≤a) (h1:a≤1152921504606846976) (hl:n≤1048576):∃ K,∀ k,K≤k→laws_heldValueS.f k ((List.range n).map fun j=>cV (a+(3*j:Nat))) a=some (a+(3*n:Nat)):=by
 refine held_loop (L:=fun k b i=>laws_heldValueS.l0 k ((List.range n).map fun j=>cV (a+(3*j:Nat))) b i) (fun i hi=>?_) (fun k b=>?_)
 ·obtain ⟨K,hK⟩:=mt_ev (a:=a+(3*i:Nat)+2) (by omega)
  refine ⟨K,fun k hk=>?_⟩
  have hg:rd_T85 ((List.range n).map fun j=>cV (a+(3*j:Nat))) (i:Int)=cV (a+(3*i:Nat)):=by rw [rd_T85,Int.toNat_natCast,rng_get hi]
  rw [laws_heldValueS.l0,if_pos (by rw [rng_len];omega),if_pos (by omega),hg,if_pos (show (cV (a+(3*i:Nat))).f0=a+(3*i:Nat) from rfl),wrap_id (n:=a+(3*i:Nat)+1) (by omega) (by omega),if_pos (show (cV (a+(3*i:Nat))).f1=a+(3*i:Nat)+1 from rfl),wrap_id (n:=a+(3*i:Nat)+1+1) (by omega) (by omega),show a+((3*i:Nat):Int)+1+1=a+(3*i:Nat)+2 by omega,hK k hk,Option.bind_some,if_pos (show (cV (a+(3*i:Nat))).f2.toList=(mt (a+(3*i:Nat)+2)).toList from rfl),wrap_id (by omega) (by omega),wrap_nat (by omega)]
  congr 1
  omega
 ·rw [laws_heldValueS.l0,if_neg (by rw [rng_len];omega)]
/-- The marks of a prototype: where each row ends, and what it is then. -/
def b3 (x:S44) (a:Int):Int:=a+3+(1*x.f3.length:Nat)
def b4 (x:S44) (a:Int):Int:=b3 x a+(3*x.f4.length:Nat)
def b5 (x:S44) (a:Int):Int:=b4 x a+(2*x.f5.length:Nat)
def b8 (x:S44) (a:Int):Int:=b5 x a+2+(1*x.f8.length:Nat)
def b9 (x:S44) (a:Int):Int:=b8 x a+(1*x.f9.length:Nat)
noncomputable def mpr (x:S44) (a:Int):S44 :=
 ⟨a,decide (Int.tmod (a+1) 3=0),a+2,(List.range x.f3.length).map fun j=>cI (a+3+(1*j:Nat)),(List.range x.f4.length).map fun j=>cV (b3 x a+(3*j:Nat)),(List.range x.f5.length).map fun j=>cU (b4 x a+(2*j:Nat)),
  b5 x a,mt (b5 x a+1),(List.range x.f8.length).map fun j=>b5 x a+2+(1*j:Nat),(List.range x.f9.length).map fun j=>mt (b8 x a+(1*j:Nat))⟩
theorem bs {x:S44} (hx:Fit x) {a:Int} (h0:0≤a) (h1:a≤576460752303423488):a+3≤b3 x a∧b3 x a≤b4 x a∧b4 x a≤b5 x a∧b5 x a+2≤b8 x a∧b8 x a≤b9 x a∧b9 x a≤a+9437184:=by
 have:=hx.l3;have:=hx.l4;have:=hx.l5;have:=hx.l8;have:=hx.l9
 simp only [b3,b4,b5,b8,b9]
 omega
theorem ws {x:S44} (hx:Fit x) {a:Int} (h0:0≤a) (h1:a≤576460752303423488):wrap64 (a+1)=a+1∧wrap64 (a+1+1)=a+2∧wrap64 (a+2+1)=a+3∧wrap64 (b5 x a+1)=b5 x a+1∧wrap64 (b5 x a+1+1)=b5 x a+2:=by
 obtain ⟨_,_,_,_,_,_⟩:=bs hx h0 h1
 refine ⟨wrap_id (by omega) (by omega),?_,?_,wrap_id (by omega) (by omega),?_⟩
 ·rw [wrap_id (by omega) (by omega)];omega
 ·rw [wrap_id (by omega) (by omega)];omega
 ·rw [wrap_id (by omega) (by omega)];omega
theorem markProto_ev {x:S44} (hx:Fit x) {a:Int} (h0:0≤a) (h1:a≤576460752303423488):Evt (fun k=>markProto k x a) (b9 x a,mpr x a):=by
 obtain ⟨_,_,_,_,_,_⟩:=bs hx h0 h1
 obtain ⟨w1,w2,w3,w5,w6⟩:=ws hx h0 h1
 unfold markProto
 simp only [w1,w2,w3]
 refine Evt.bind (mark3 (by omega) (by omega) hx.l3) (Evt.bind (mark4 (a:=b3 x a) (by omega) (by omega) hx.l4) (Evt.bind (mark5 (a:=b4 x a) (by omega) (by omega) hx.l5) ?_))
 show Evt (fun k=>(laws_markText.f k (wrap64 (b5 x a+1))).bind fun t7=>(laws_markIntS.f k x.f8 (wrap64 (wrap64 (b5 x a+1)+1))).bind fun p8=>(laws_markStringS.f k x.f9 p8.1).bind fun p9=>some (p9.1,(⟨a,decide (Int.tmod (a+1) 3=0),a+2,_,_,_,b5 x a,t7,p8.2,p9.2⟩:S44))) _
 simp only [w5,w6]
 exact Evt.bind (mt_ev (a:=b5 x a+1) (by omega)) (Evt.bind (mark8 (a:=b5 x a+2) (by omega) (by omega) hx.l8) (Evt.bind (mark9 (a:=b8 x a) (by omega) (by omega) hx.l9) (Evt.now fun k=>rfl)))
theorem heldProto_step {zs:List S44} {i:Nat} {x:S44} {a:Int} (hi:i<zs.length) (hn:zs.length≤1048576) (hy:zs.getD i z44=mpr x a) (hx:Fit x) (h0:0≤a) (h1:a≤576460752303423488) :
  ∃ K,∀ k,K≤k→laws_heldProtoS.l0 (k+1) zs a (i:Int)=laws_heldProtoS.l0 k zs (b9 x a) ((i+1:Nat):Int):=by
 obtain ⟨_,_,_,_,_,_⟩:=bs hx h0 h1
 obtain ⟨w1,w2,w3,w5,w6⟩:=ws hx h0 h1
 obtain ⟨K3,h3⟩:=held3 (n:=x.f3.length) (a:=a+3) (by omega) (by omega) hx.l3
 obtain ⟨K4,h4⟩:=held4 (n:=x.f4.length) (a:=b3 x a) (by omega) (by omega) hx.l4
 obtain ⟨K5,h5⟩:=held5 (n:=x.f5.length) (a:=b4 x a) (by omega) (by omega) hx.l5
 obtain ⟨K7,h7⟩:=mt_ev (a:=b5 x a+1) (by omega)
 obtain ⟨K8,h8⟩:=held8 (n:=x.f8.length) (a:=b5 x a+2) (by omega) (by omega) hx.l8
 obtain ⟨K9,h9⟩:=held9 (n:=x.f9.length) (a:=b8 x a) (by omega) (by omega) hx.l9
 refine ⟨K3+K4+K5+K7+K8+K9,fun k hk=>?_⟩
 have hg:rd_T44 zs (i:Int)=mpr x a:=by rw [rd_T44,Int.toNat_natCast,hy]
 have e3:laws_heldUint32S.f k (mpr x a).f3 (a+3)=some (b3 x a):=h3 k (by omega)
 have e4:laws_heldValueS.f k (mpr x a).f4 (b3 x a)=some (b4 x a):=h4 k (by omega)
 have e5:laws_heldUpS.f k (mpr x a).f5 (b4 x a)=some (b5 x a):=h5 k (by omega)
 have e8:laws_heldIntS.f k (mpr x a).f8 (b5 x a+2)=some (b8 x a):=h8 k (by omega)
 have e9:laws_heldStringS.f k (mpr x a).f9 (b8 x a)=some (b9 x a):=h9 k (by omega)
 have e7:=h7 k (by omega)
 rw [laws_heldProtoS.l0,if_pos (by omega),if_pos (by omega),hg,if_pos (show (mpr x a).f0=a from rfl),w1,if_neg (by rw [show (mpr x a).f1=(Int.tmod (a+1) 3 == 0) from rfl,bne_self_eq_false];decide),w2,if_pos (show (mpr x a).f2=a+2 from rfl),w3,e3,Option.bind_some,if_neg (by omega),e4,Option.bind_some,if_neg (by omega),e5,Option.bind_some,if_neg (by omega),if_pos (show (mpr x a).f6=b5 x a from rfl),w5,e7,Option.bind_some,if_pos (show (mpr x a).f7.toList=(mt (b5 x a+1)).toList from rfl),w6,e8,Option.bind_some,if_neg (by omega),e9,Option.bind_some,if_neg (by omega),wrap_nat (by omega)]
/-- The marks of a row of prototypes. -/
def cnt:List S44→Int→Int
 | [],a=>a
 | x::t,a=>cnt t (b9 x a)
noncomputable def mks:List S44→Int→List S44
 | [],_=>[]
 | x::t,a=>mpr x a::mks t (b9 x a)
theorem mks_len:∀ (l:List S44) (a:Int),(mks l a).length=l.length
 | [],_=>rfl
 | x::t,a=>by rw [mks,List.length_cons,mks_len,List.length_cons]
theorem cnt_le:∀ (l:List S44) (a:Int),(∀ x ∈ l,Fit x)→0≤a→a+9437184*l.length≤576460752303423488→a≤cnt l a∧cnt l a≤a+9437184*l.length
 | [],a,_,_,_=>by simp [cnt]
 | x::t,a,hx,h0,h1=>by
  rw [List.length_cons] at h1
  obtain ⟨_,_,_,_,_,_⟩:=bs (hx x (by simp)) h0 (by omega)
  have:=cnt_le t (b9 x a) (fun y hy=>hx y (by simp [hy])) (by omega) (by omega)
  rw [cnt,List.length_cons]
  omega
theorem mark_ev:∀ (l:List S44) (a:Int),(∀ x ∈ l,Fit x)→0≤a→a+9437184*l.length≤576460752303423488→Evt (fun k=>laws_markProtoS.f k l a) (cnt l a,mks l a)
 | [],a,_,_,_=>Evt.now fun k=>rfl
 | x::t,a,hx,h0,h1=>by
  rw [List.length_cons] at h1
  obtain ⟨_,_,_,_,_,_⟩:=bs (hx x (by simp)) h0 (by omega)
  have h2:=mark_ev t (b9 x a) (fun y hy=>hx y (by simp [hy])) (by omega) (by omega)
  exact Evt.bind (markProto_ev (hx x (by simp)) h0 (by omega)) (Evt.bind h2 (Evt.now fun k=>rfl))
theorem held_ev:∀ (l:List S44) (done:List S44) (a:Int),(∀ x ∈ l,Fit x)→0≤a→a+9437184*l.length≤576460752303423488→done.length+l.length≤1048576→Evt (fun k=>laws_heldProtoS.l0 k (done++mks l a) a (done.length:Int)) (cnt l a)
 | [],done,a,_,_,_,_=>Evt.succ (Evt.now fun k=>by simp only [mks,List.append_nil];rw [laws_heldProtoS.l0,if_neg (by omega)];rfl)
 | x::t,done,a,hx,h0,h1,h2=>by
  rw [List.length_cons] at h1 h2
  obtain ⟨_,_,_,_,_,_⟩:=bs (hx x (by simp)) h0 (by omega)
  have hl:(done++mks (x::t) a).length=done.length+(t.length+1):=by rw [List.length_append,mks_len,List.length_cons]
  obtain ⟨K,hK⟩:=heldProto_step (zs:=done++mks (x::t) a) (i:=done.length) (x:=x) (a:=a) (by omega) (by omega) (by rw [List.getD_eq_getElem?_getD,List.getElem?_append_right (Nat.le_refl _),Nat.sub_self];rfl) (hx x (by simp)) h0 (by omega)
  have h3:=held_ev t (done++[mpr x a]) (b9 x a) (fun y hy=>hx y (by simp [hy])) (by omega) (by omega) (by rw [List.length_append,List.length_singleton];omega)
  rw [List.append_assoc,List.length_append,List.length_singleton] at h3
  exact Evt.succ (Evt.of_eq h3 K fun k hk=>hK k hk)
theorem heldChunk_ev {l:List S44} {a:Int} (hx:∀ x ∈ l,Fit x) (h0:0≤a) (h1:a+9437184*l.length≤576460752303423488) (h2:l.length≤1048576):Evt (fun k=>laws_heldChunk.f k (mks l a) a) (cnt l a):=by
 have h:=held_ev l [] a hx h0 h1 (by simpa using h2)
 have hc:=cnt_le l a hx h0 h1
 exact Evt.bind h (Evt.now fun k=>by rw [if_neg (by omega)])
-- ---- Strip: a copy without debug texts.
def st (p:S44):S44:=⟨p.f0,p.f1,p.f2,p.f3,p.f4,p.f5,p.f6,(⟨#[]⟩:ByteArray),([]:List Int),([]:List ByteArray)⟩
def stripped (l:List S44):List S44:=if word l=true then l.map st else []
theorem st_fit {p:S44} (h:Fit p):Fit (st p):=⟨h.l3,h.l4,h.l5,by simp [st],by simp [st]⟩
theorem stripped_fit {l:List S44} (h:∀ p ∈ l,Fit p):∀ p ∈ stripped l,Fit p:=by
 intro p hp
 unfold stripped at hp
 split at hp
 ·obtain ⟨q,hq,rfl⟩:=List.mem_map.1 hp
  exact st_fit (h q hq)
 ·cases hp
theorem stripped_len {l:List S44}:(stripped l).length≤l.length:=by
 unfold stripped
 split <;> simp
theorem app_loop {β γ:Type} {n:Nat} {c:Nat→β} {L:Nat→Int→List β→Option γ} {r:γ}
  (hone:∀ i:Nat,i<n→∀ out:List β,out.length=i→Evt (fun k=>L k ((i+1:Nat):Int) (out++[c i])) r→Evt (fun k=>L k (i:Int) out) r)
  (hend:Evt (fun k=>L k (n:Int) ((List.range n).map c)) r):Evt (fun k=>L k 0 []) r:=by
 have key:∀ m i:Nat,i+m=n→Evt (fun k=>L k (i:Int) ((List.range i).map c)) r:=by
  intro m
  induction m with
  | zero =>
   intro i hi
   obtain rfl:i=n:=by omega
   exact hend
  | succ m ih =>
   intro i hi
   refine hone i (by omega) _ (by simp) ?_
   have h:=ih (i+1) (by omega)
   rw [List.range_succ,List.map_append] at h
   exact h
 exact key n 0 (by omega)
theorem rng_map {α β:Type} (xs:List α) (z:α) (c:α→β):((List.range xs.length).map fun i=>c (xs.getD i z))=xs.map c:=by
 refine List.ext_getElem (by simp) fun i h1 h2=>?_
 have:i<xs.length:=by simpa using h1
 simp [List.getD,this]
theorem rng_id {α:Type} (xs:List α) (z:α):((List.range xs.length).map fun i=>xs.getD i z)=xs:=by
 have h:=rng_map xs z id
 simpa using h
theorem impl_strip {l:List S44} (hl:l.length≤1048576) (hx:∀ p ∈ l,Fit p) (hk:∀ p ∈ l,p.f6≤9223372036854775807):Evt (fun k=>impl_Strip.f k l) (stripped l):=by
 unfold impl_Strip.f stripped
 rw [impl_word hx hk]
 simp only [Option.bind_some]
 by_cases hw:word l=true
 ·rw [if_pos hw]
  simp only [if_pos hw]
  have hm:=rng_map l z44 st
  rw [← hm]
  refine app_loop (n:=l.length) (c:=fun i=>st (l.getD i z44)) (L:=fun k i out=>impl_Strip.l0 k l (l.length:Int) i out) (fun i hi out ho he=>?_) ?_
  ·have hp:rd_T44 l (i:Int)=l.getD i z44:=by rw [rd_T44,Int.toNat_natCast]
   have hf:Fit (l.getD i z44):=hx _ (by simp [List.getD,hi])
   obtain ⟨f3,f4,f5,f8,f9⟩:=hf
   refine Evt.succ (Evt.of_eq he 0 fun k _=>?_)
   rw [impl_Strip.l0,if_pos (by omega),if_pos (by omega),if_pos (by omega),hp]
   simp only [impl_Proto_clone.f,slices_Clone_uint32_uint32.f,impl_Value_83.f,impl_Up_84.f,slices_Clone_int_int.f,slices_Clone_string_string.f]
   rw [if_pos (by omega),Option.bind_some,if_pos (by omega),Option.bind_some,if_pos (by omega),Option.bind_some,if_pos (by omega),Option.bind_some,if_pos (by omega),Option.bind_some,Option.bind_some,if_pos (by omega),wrap_nat (by omega)]
   rfl
  ·exact Evt.succ (Evt.now fun k=>by rw [impl_Strip.l0,if_neg (by omega)])
 ·rw [if_neg hw]
  simp only [if_neg hw]
  exact Evt.now fun k=>rfl
theorem spec_strip {l:List S44} (hl:l.length≤1048576) (hx:∀ p ∈ l,Fit p) (hk:∀ p ∈ l,p.f6≤9223372036854775807):Evt (fun k=>spec_Strip.f k l) (stripped l):=by
 unfold spec_Strip.f
 refine Evt.bind (spec_word hl hx hk) ?_
 unfold stripped
 by_cases hw:word l=true
 ·rw [if_pos hw]
  simp only [if_pos hw]
  have hm:=rng_map l z44 st
  rw [← hm]
  refine app_loop (n:=l.length) (c:=fun i=>st (l.getD i z44)) (L:=fun k i out=>spec_Strip.l0 k i l out) (fun i hi out ho he=>?_) ?_
  ·have hp:rd_T44 l (i:Int)=l.getD i z44:=by rw [rd_T44,Int.toNat_natCast]
   have hf:Fit (l.getD i z44):=hx _ (by simp [List.getD,hi])
   generalize hq:l.getD i z44=p at hp hf he
   obtain ⟨f3,f4,f5,f8,f9⟩:=hf
   refine Evt.succ (Evt.of_eq (g:=fun k=>spec_Strip.l1 k (i:Int) 0 l out p.f0 p.f1 p.f2 p.f3 p.f4 p.f5 p.f6 p.f7 p.f8 p.f9 p.f0 p.f1 p.f2 ([]:List Int) p.f6 (⟨#[]⟩:ByteArray)) ?_ 0 fun k _=>by rw [spec_Strip.l0,if_pos (by omega),if_pos (by omega),hp])
   refine app_loop (n:=p.f3.length) (c:=fun j=>p.f3.getD j 0) (L:=fun k j o3=>spec_Strip.l1 k (i:Int) j l out p.f0 p.f1 p.f2 p.f3 p.f4 p.f5 p.f6 p.f7 p.f8 p.f9 p.f0 p.f1 p.f2 o3 p.f6 (⟨#[]⟩:ByteArray)) (fun j hj o3 h3 e3=>?_) ?_
   ·refine Evt.succ (Evt.of_eq e3 0 fun k _=>?_)
    rw [spec_Strip.l1,if_pos (by omega),if_pos (by omega),if_pos (by omega),wrap_nat (by omega),rd,Int.toNat_natCast]
   rw [rng_id]
   refine Evt.succ (Evt.of_eq (g:=fun k=>spec_Strip.l2 k (i:Int) 0 l out p.f0 p.f1 p.f2 p.f3 p.f4 p.f5 p.f6 p.f7 p.f8 p.f9 p.f0 p.f1 p.f2 p.f3 ([]:List S85) p.f6 (⟨#[]⟩:ByteArray)) ?_ 0 fun k _=>by rw [spec_Strip.l1,if_neg (by omega)])
   refine app_loop (n:=p.f4.length) (c:=fun j=>p.f4.getD j z85) (L:=fun k j o4=>spec_Strip.l2 k (i:Int) j l out p.f0 p.f1 p.f2 p.f3 p.f4 p.f5 p.f6 p.f7 p.f8 p.f9 p.f0 p.f1 p.f2 p.f3 o4 p.f6 (⟨#[]⟩:ByteArray)) (fun j hj o4 h4 e4=>?_) ?_
   ·refine Evt.succ (Evt.of_eq e4 0 fun k _=>?_)
    rw [spec_Strip.l2,if_pos (by omega),if_pos (by omega),if_pos (by omega),wrap_nat (by omega)]
    simp only [rd_T85,Int.toNat_natCast]
   rw [rng_id]
   refine Evt.succ (Evt.of_eq (g:=fun k=>spec_Strip.l3 k (i:Int) 0 l out p.f0 p.f1 p.f2 p.f3 p.f4 p.f5 p.f6 p.f7 p.f8 p.f9 p.f0 p.f1 p.f2 p.f3 p.f4 ([]:List S89) p.f6 (⟨#[]⟩:ByteArray)) ?_ 0 fun k _=>by rw [spec_Strip.l2,if_neg (by omega)])
   refine app_loop (n:=p.f5.length) (c:=fun j=>p.f5.getD j z89) (L:=fun k j o5=>spec_Strip.l3 k (i:Int) j l out p.f0 p.f1 p.f2 p.f3 p.f4 p.f5 p.f6 p.f7 p.f8 p.f9 p.f0 p.f1 p.f2 p.f3 p.f4 o5 p.f6 (⟨#[]⟩:ByteArray)) (fun j hj o5 h5 e5=>?_) ?_
   ·refine Evt.succ (Evt.of_eq e5 0 fun k _=>?_)
    rw [spec_Strip.l3,if_pos (by omega),if_pos (by omega),if_pos (by omega),wrap_nat (by omega)]
    simp only [rd_T89,Int.toNat_natCast]
   rw [rng_id]
   refine Evt.succ (Evt.of_eq he 0 fun k _=>?_)
   rw [spec_Strip.l3,if_neg (by omega),if_pos (by omega),wrap_nat (by omega)]
   rfl
  ·exact Evt.succ (Evt.now fun k=>by rw [spec_Strip.l0,if_neg (by omega)])
 ·simp only [if_neg hw]
  exact Evt.now fun k=>rfl
/-- What the law's walk asks for. -/
theorem strip_law {l:List S101} (hl:l.length≤maxLen) (hx:∀ x ∈ l,Ok101 x) :
  (∃ k t,laws_szChunk.f k l 1048576=some t∧t<0) ∨
  ∃ (k:Nat) (t:Int) (L R L' R':List S44) (a b:Int),laws_szChunk.f k l 1048576=some t∧¬ t<0∧laws_toChunk.f k l=some L∧spec_Strip.f k L=some R∧impl_Strip.f k L=some R∧laws_eqChunk.f k R R=some true∧laws_eqChunk.f k L L=some true ∧
   laws_markProtoS.f k L 1=some (a,L')∧¬ a<0∧laws_markProtoS.f k R 1=some (b,R')∧laws_heldChunk.f k R' 1=some b∧¬ b<0∧L'.length=L.length∧R'.length=R.length:=by
 obtain ⟨t,⟨K0,e0⟩,_,hg⟩:=szChunk_sz hl hx
 by_cases ht:t<0
 ·exact .inl ⟨K0,t,e0 K0 (Nat.le_refl _),ht⟩
 ·obtain ⟨hn,hf⟩:=hg (by omega)
  have hL:(l.map cp).length≤1048576:=by rw [List.length_map];exact hn
  have hFit:∀ p ∈ l.map cp,Fit p:=by
   intro p hp
   obtain ⟨x,hx',rfl⟩:=List.mem_map.1 hp
   exact fit_of (hf x hx')
  have hk:∀ p ∈ l.map cp,p.f6≤9223372036854775807:=by
   intro p hp
   obtain ⟨x,hx',rfl⟩:=List.mem_map.1 hp
   exact (hx x hx').kid
  have hRf:=stripped_fit hFit
  have hRl:(stripped (l.map cp)).length≤1048576:=Nat.le_trans stripped_len hL
  obtain ⟨K1,e1⟩:=toChunk_to hn hf
  obtain ⟨K2,e2⟩:=spec_strip hL hFit hk
  obtain ⟨K3,e3⟩:=impl_strip hL hFit hk
  obtain ⟨K4,e4⟩:=eqChunk_eq hRl hRf
  obtain ⟨K5,e5⟩:=eqChunk_eq hL hFit
  obtain ⟨K6,e6⟩:=mark_ev (l.map cp) 1 hFit (by decide) (by omega)
  obtain ⟨K7,e7⟩:=mark_ev (stripped (l.map cp)) 1 hRf (by decide) (by omega)
  obtain ⟨K8,e8⟩:=heldChunk_ev (l:=stripped (l.map cp)) (a:=1) hRf (by decide) (by omega) hRl
  have ca:=cnt_le (l.map cp) 1 hFit (by decide) (by omega)
  have cb:=cnt_le (stripped (l.map cp)) 1 hRf (by decide) (by omega)
  refine .inr ⟨K0+K1+K2+K3+K4+K5+K6+K7+K8,t,l.map cp,stripped (l.map cp),mks (l.map cp) 1,mks (stripped (l.map cp)) 1,cnt (l.map cp) 1,cnt (stripped (l.map cp)) 1,e0 _ (by omega),ht,e1 _ (by omega),e2 _ (by omega),e3 _ (by omega),e4 _ (by omega),e5 _ (by omega),e6 _ (by omega),by omega,e7 _ (by omega),e8 _ (by omega),by omega,mks_len _ _,mks_len _ _⟩
end Go.Proofs.Ytiekodnojmkfaaa.Pure
