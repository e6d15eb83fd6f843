import Derived.Test.YtiekodnojmkfaaaGreatDoorPFnDumpx0
import Derived.Test.YtiekodnojmkfaaaGreatDoorPFnDumpx8
import Derived.Test.YtiekodnojmkfaaaGreatDoorKids
namespace Go.Proofs.YtiekodnojmkfaaaGreatDoor.yD
set_option maxHeartbeats 8000000
set_option maxRecDepth 100000
open Go.RowKit Go.Proofs.YtiekodnojmkfaaaGreatDoorW.zF Go.Proofs.YtiekodnojmkfaaaGreatDoorW.yC Go.Proofs.YtiekodnojmkfaaaGreatDoorW.yY
attribute [local go_sem] xM xO qG qH yZ xg xP xQ
set_option linter.unusedVariables false
set_option linter.unusedSimpArgs false
def ql.f (k:Nat) (l0:List Int) (a1:Int):Option ((List (S56))×Int):=(zl.f k l0 a1 0 0).bind fun bt171=>(some (bt171.1,bt171.2))
theorem ql.calls (k:Nat) (A0:Option Addr) (c0:Nat) (l0:List Int) (a1:Int) (r1:List (S56)) (r2:Int) (w:World) (hr0:Kd.C (Kd.int .u8) w A0 l0.length l0) (hc0:l0.length≤c0) (h:ql.f k l0 a1=some (r1,r2)) :
  Calls Tryz.prog 15 #[.slice A0 l0.length c0,.int .i64 a1] w fun e w'=>∃ v0_:Value,e=.returned (.tuple #[.agg #[v0_],.int .i64 r2])∧Kd.S k56 56 w' w.heap.size (fun _=>True) v0_ r1∧Below w.heap.size w w':=by
 have hu25:=Tryz.underlying25
 have HR0:=Ak hr0;have HC0:=Ak hc0;clear hr0 hc0
 have HB:=Ak (Below.refl w.heap.size w)
 have H:((zl.f k l0 a1 0 0).bind fun bt171=>(some (bt171.1,bt171.2)))=some (r1,r2):=h
 clear h
 replace H:=Option.bind_eq_some_iff.mp H
 obtain ⟨⟨t171,t172⟩,A30,H⟩:=H
 replace H:(some (t171,t172))=some (r1,r2):=H
 have A3:=Ak A30;clear A30
 simp only [Option.some.injEq,Prod.mk.injEq] at H
 obtain ⟨rfl,rfl⟩:=H
 go_enter Tryz.func15,Tryz.ntmps15
 go_wp2_with (first|((with_reducible refine zB (N:=4) rfl ?_);refine zK ?hg (N:=4) ?hd (cs:=#[.slice none 0 0]) (t:=25) ?hr ?_;(case hd=>rfl);(case hg=>rfl);(case hr=>first|(go_simp;done)|(go_simp;rfl));intro gb170 hg w4 hbox hb;have BK170:=Ak (hbox);have GW170:=gs HB hg;have GE170:=gs HB hg;replace HB:=BS HB hb;clear hb hbox hg)|((with_reducible refine yP (f:=50) rfl ?_);refine jU (some 11) rfl rfl Tryz.func50 (by kernel_rfl) rfl #[.slice A0 l0.length c0,.int .i64 a1,.int .i64 0,.int .i64 0] rfl em ?_;(with_reducible refine (zl.calls k _ _ l0 a1 0 0 t171 t172 _ ?yQ ?xG A3.out).mono ?_);(case yQ=>exact co HR0 HB);(case xG=>exact HC0.out);rintro e w5 ⟨v173,rfl,ho0,hb⟩;refine ⟨_,rfl,?_⟩;have HO174:=Ak (Kd.S_lower ho0 (zH (bl HB)));replace BK170:=BB BK170 hb;replace HB:=BS HB hb;obtain ⟨Ao6,co6,eo6⟩:=Kd.Zx HO174.out;subst eo6;obtain ⟨hcz7_0,hfz7_0⟩:=bk1 BK170.out))
 refine bodyPost_ret (Yq rfl _ _ gb170 25 #[.slice Ao6 t171.length co6] (0,0) _ rfl (bq BK170) Tryz.underlying25 rfl (by kernel_rfl)) rfl ?_
 exact ⟨_,ef,by (with_reducible repeat (first|apply Kd.S_alloc|apply Kd.S_drewN|apply Kd.S_drew));exact Kd.Z4 (Kd.S_far (p:=⟨gb170,0,none⟩) (Kd.S_types HO174.out BK170.out (by decide)) (fun _ hk=>hk.2) (.slice Ao6 t171.length co6)) (fun _ hk=>trivial),bl HB⟩
def yG.l0:Nat→Int→List (S56)→List (S56)→Option ((List (S56)))
 | 0,_,_,_=>none
 | k+1,x4,pa,pb=>if x4<(pa.length:Int) then (if 0≤x4 then (if pb.length<837723144972 then (yG.l0 k (wrap64 (x4+1)) pa (pb++[(⟨(zu pa x4).f0,(zu pa x4).f1,(zu pa x4).f2,(zu pa x4).f3,(zu pa x4).f4,(zu pa x4).f5,(zu pa x4).f6,(zu pa x4).f7,(zu pa x4).f8,(zu pa x4).f9⟩:S56)])) else (none)) else (none)) else (some pb)
def yG.f (k:Nat) (zV:List (S56)):Option ((List (S56))):=yG.l0 k 0 zV ([]:List (S56))
def yG.T5:Bool×List (List Nat×List Nat):=(true,[([],[]),([0],[0]),([],[]),([2],[2]),([],[]),([3,4],[3,4]),([5],[5]),([6],[6]),([1,7],[1,7]),([0,1,2,3,4,5,6,7,8],[]),([9,8,8,0,1,2,3,4,5,6,7,8],[8,9])])
def yG.B5:List Nat:=[0,1,0,4,0,28,60,124,255,511,1023]
theorem yG.tab5:Qh .any (opsOf Tryz.f51 5)=yG.T5:=by kernel_rfl
theorem yG.bits5:vN yG.T5.2 yG.B5=true:=by kernel_rfl
theorem yG.calls (k:Nat) (ZR:Nat→Prop) (ZX:Option Addr) (ZA:Nat) (zV:List (S56)) (r:List (S56)) (w:World) (hs0_0:Kd.V k56 56 w w.heap.size (fun k_=>ZR k_) (.slice ZX zV.length ZA) zV) (h:yG.f k zV=some r) :
  Calls Tryz.prog 51 #[.agg #[.slice ZX zV.length ZA]] w fun e w'=>∃ v0_:Value,e=.returned (.agg #[v0_])∧Kd.N k56 56 w' w.heap.size (fun k_=>(ZR k_∨w.heap.size≤k_)) v0_ r∧Below w.heap.size w w':=by
 have hu25:=Tryz.underlying25
 have hu56:=Tryz.underlying56
 have HO0_0:=Ak (show Kd.V k56 56 w w.heap.size (fun k_=>(ZR k_∨w.heap.size≤k_)) (.slice ZX zV.length ZA) zV from Kd.jo hs0_0 (fun k_ hk=>.inl hk))
 have HB:=Ak (Below.refl w.heap.size w)
 have H:(yG.l0 k 0 zV ([]:List (S56)))=some r:=h
 clear h
 have H':=Ak H
 clear H
 go_enter Tryz.func51,Tryz.ntmps51
 go_wp2_with (first|((with_reducible refine zB (N:=1) rfl ?_);refine zK ?hg (N:=1) ?hd (cs:=#[.slice ZX zV.length ZA]) (t:=25) ?hr ?_;(case hd=>rfl);(case hg=>rfl);(case hr=>first|(go_simp;done)|(go_simp;rfl));intro kZ hg w2 hbox hb;have ZY:=Ak (hbox);have GW175:=gs HB hg;have GE175:=gs HB hg;replace HO0_0:=Ak (Kd.jO (Kd.V_elderB (by (with_reducible repeat (first|apply Kd.ZT|apply Kd.ZU|apply Kd.Xi));exact HO0_0.out) kZ (Nat.le_of_eq hg.symm)) hb);replace HB:=BS HB hb;clear hb hbox hg)|((with_reducible refine zB (N:=2) rfl ?_);refine zK ?hg (N:=2) ?hd (cs:=#[.slice none 0 0]) (t:=25) ?hr ?_;(case hd=>rfl);(case hg=>rfl);(case hr=>first|(go_simp;done)|(go_simp;rfl));intro vk hg w3 hbox hb;have Qi:=Ak (hbox);have GW176:=gs HB hg;have GE176:=gs HB hg;have NB175_176:=Ak ((by rw [hg];exact Nat.ne_of_lt (yx (g:=kZ) (bo ZY)):kZ≠vk));have NB176_175:=Ak ((by rw [hg];exact Nat.ne_of_gt (yx (g:=kZ) (bo ZY)):vk≠kZ));replace HO0_0:=Ak (Kd.jO (Kd.V_elderB (by (with_reducible repeat (first|apply Kd.ZT|apply Kd.ZU|apply Kd.Xi));exact HO0_0.out) vk (Nat.le_of_eq hg.symm)) hb);replace ZY:=BB ZY hb;replace HB:=BS HB hb;clear hb hbox hg)|((with_reducible refine zB (N:=3) rfl ?_);refine zK ?hg (N:=3) ?hd (cs:=#[.slice none 0 0]) (t:=25) ?hr ?_;(case hd=>rfl);(case hg=>rfl);(case hr=>first|(go_simp;done)|(go_simp;rfl));intro kL hg w4 hbox hb;have Qj:=Ak (hbox);have GW177:=gs HB hg;have GE177:=gs HB hg;have Yy:=Ak ((by rw [hg];exact Nat.ne_of_lt (yx (g:=kZ) (bo ZY)):kZ≠kL));have QZ:=Ak ((by rw [hg];exact Nat.ne_of_gt (yx (g:=kZ) (bo ZY)):kL≠kZ));have XW:=Ak ((by rw [hg];exact Nat.ne_of_lt (yx (g:=vk) (bo Qi)):vk≠kL));have zaA:=Ak ((by rw [hg];exact Nat.ne_of_gt (yx (g:=vk) (bo Qi)):kL≠vk));replace HO0_0:=Ak (Kd.jO (Kd.V_elderB (by (with_reducible repeat (first|apply Kd.ZT|apply Kd.ZU|apply Kd.Xi));exact HO0_0.out) kL (Nat.le_of_eq hg.symm)) hb);replace ZY:=BB ZY hb;replace Qi:=BB Qi hb;replace HB:=BS HB hb;clear hb hbox hg;have hnb5:=QZ.out;have hnc5:=Yy.out;have hnb6:=zaA.out;have hnc6:=XW.out;obtain ⟨hcz7_0,hfz7_0⟩:=bk1 Qj.out))
 go_loopg [4] k (fun kq v4 w'=>∃ (jy:Int) (Zq:List (S56)) (kE:Value),v4=.int .i64 jy∧zh (yG.l0 kq jy zV Zq=some r)∧zh (kq≤k)∧zh (Kd.V k56 56 w' w.heap.size (fun k_=>(ZR k_∨w.heap.size≤k_)∧some k_≠(kE:Value).ownBlock∧k_≠kZ∧k_≠vk∧k_≠kL) (.slice ZX zV.length ZA) zV)∧zh (Kd.N k56 56 w' w.heap.size (fun k_=>(ZR k_∨w.heap.size≤k_)∧k_≠kZ∧k_≠vk∧k_≠kL) kE Zq)∧zh (w'.heap[kZ]?=some (.cells #[(.slice ZX zV.length ZA)] 25 (0,0)))∧zh (w'.heap[vk]?=some (.cells #[(.slice none 0 0)] 25 (0,0)))∧zh (w'.heap[kL]?=some (.cells #[kE] 25 (0,0)))∧zh (Below w.heap.size w w'))
 case atStart=>exact ⟨(0),(([]:List (S56))),(.slice none 0 0),es,H',⟨Nat.le_refl _⟩,⟨by (with_reducible repeat (first|apply Kd.ZT|apply Kd.ZU|apply Kd.Xi));exact Kd.jo (Kd.V_far (p:=⟨kL,0,none⟩) (Kd.jo HO0_0.out (fun k_ hk=>(⟨hk,hk.2⟩:_∧k_≠kL))) (fun _ hk=>hk.2) (.slice none 0 0)) (fun _ hk=>⟨hk.1.1.1.1,⟨(by simp [Value.ownBlock]),⟨hk.1.1.1.2,⟨hk.1.1.2,hk.1.2⟩⟩⟩⟩)⟩,⟨by first|exact Kd.S_nil _ _ _ _ _|exact Kd.N_nil _ _ _ _ _|exact Kd.Jz _ _ _ _ _|exact Kd.Q_nil _ _ _ _ _|exact Kd.Qg _ _ _ _ _⟩,⟨by (with_reducible repeat (first|refine qJ ?_ _|refine xI ?_|refine zT ?_ _));refine Qq ?_ Yy.out _;(with_reducible repeat (first|refine qJ ?_ _|refine xI ?_|refine zT ?_ _));exact ZY.out⟩,⟨by (with_reducible repeat (first|refine qJ ?_ _|refine xI ?_|refine zT ?_ _));refine Qq ?_ XW.out _;(with_reducible repeat (first|refine qJ ?_ _|refine xI ?_|refine zT ?_ _));exact Qi.out⟩,⟨bq Qj⟩,⟨bl HB⟩⟩
 case round =>
  clear H'
  obtain ⟨jy,Zq,kE,rfl,HA,HK1,vZ,vG,ZY,Qi,Qj,HB⟩:=hrel
  cases gk with
  | zero=>exact absurd HA.out (by simp [yG.l0])
  | succ k1 =>
   have H:=HA.out
   clear HA
   simp only [yG.l0] at H
   by_cases c8:jy<(zV.length:Int)
   ·rw [if_pos c8] at H
    have c8b0:=dt c8
    clear c8
    by_cases c9:0≤jy
    ·rw [if_pos c9] at H
     have c9b0:=dt c9
     clear c9
     by_cases c10:Zq.length<837723144972
     ·rw [if_pos c10] at H
      have LMc10:=Ak c10;clear c10
      obtain ⟨y179,hy179⟩:∃ y_:List (S56),y_=(Zq++[(⟨(zu zV jy).f0,(zu zV jy).f1,(zu zV jy).f2,(zu zV jy).f3,(zu zV jy).f4,(zu zV jy).f5,(zu zV jy).f6,(zu zV jy).f7,(zu zV jy).f8,(zu zV jy).f9⟩:S56)]):=⟨_,rfl⟩
      replace H:(yG.l0 k1 (wrap64 (jy+1)) zV y179)=some r:=by first|(rw [hy179];with_reducible exact H)|(have H2_:=(Option.bind_some _ _).symm.trans H;rw [hy179];with_reducible exact H2_)|(have H2_:=(Option.bind_some _ _).symm.trans H;with_reducible exact H2_)|with_reducible exact H|(rw [hy179];exact H)|exact H
      have Ny179:=Ak hy179;clear hy179
      have H':=Ak H
      clear H
      have hnb11:=NB175_176.out
      have hnc11:=NB176_175.out
      have hnb12:=Yy.out
      have hnc12:=QZ.out
      obtain ⟨hcz13_0,hfz13_0⟩:=bk1 ZY.out
      try go_wp2
      replace vZ:=Ak (Kd.Xi vZ.out);replace vG:=Ak (Kd.N_drew vG.out);replace ZY:=Ak (xI ZY.out);replace Qi:=Ak (xI Qi.out);replace Qj:=Ak (xI Qj.out);replace HB:=Ak (zO HB.out)
      have p178:0≤(jy:Int):=od
      have q178:jy<(zV.length:Int):=od
      obtain ⟨Yz,A178_3,c178_3,A178_4,c178_4,A178_5,c178_5,A178_8,c178_8,A178_9,c178_9,e178,hx178_0,hx178_1,hx178_2,hx178_3,hx178_4,hx178_5,hx178_6,hx178_7,hx178_8,hx178_9,hl178_3,hi178_3,hl178_4,hi178_4,hl178_5,hi178_5,hl178_8,hi178_8,hl178_9,hi178_9⟩:=Z5 (Kd.jq vZ.out).2.2 jy p178 q178
      cases e178
      obtain ⟨ce178,hce178,hMe178,hcc178⟩:=Kd.V_get vZ.out z56 jy p178 (by first|exact q178|exact of_decide_eq_true (by assumption)|(have e_:=(Kd.jq vZ.out).1;omega))
      obtain ⟨ua178_3,uc178_3,ua178_4,uc178_4,ua178_5,uc178_5,ua178_8,uc178_8,ua178_9,uc178_9,rfl,ul178_3,ge178_3,ul178_4,ge178_4,ul178_5,ge178_5,ul178_8,ge178_8,ul178_9,ge178_9⟩:=k56_openF hMe178
      have hv178_3:=hcc178 3 _ rfl
      rw [qN _ _ 3 (by omega)] at hv178_3
      replace hv178_3:=Option.some.inj (hv178_3.symm.trans hx178_3)
      injection hv178_3 with hva_ hvn_ hvc_
      rw [hva_] at ge178_3
      rw [hvc_] at ul178_3
      have zaB:=Ak (show Kd.V (Kd.int .u32) 60 _ w.heap.size _ _ ((zu zV jy).f3) from Kd.V_mk ul178_3 ge178_3)
      clear hva_ hvn_ hvc_ ge178_3 ul178_3
      have hv178_4:=hcc178 4 _ rfl
      rw [qN _ _ 4 (by omega)] at hv178_4
      replace hv178_4:=Option.some.inj (hv178_4.symm.trans hx178_4)
      injection hv178_4 with hva_ hvn_ hvc_
      rw [hva_] at ge178_4
      rw [hvc_] at ul178_4
      have zaC:=Ak (show Kd.V k67 67 _ w.heap.size _ _ ((zu zV jy).f4) from Kd.V_mk ul178_4 ge178_4)
      clear hva_ hvn_ hvc_ ge178_4 ul178_4
      have hv178_5:=hcc178 5 _ rfl
      rw [qN _ _ 5 (by omega)] at hv178_5
      replace hv178_5:=Option.some.inj (hv178_5.symm.trans hx178_5)
      injection hv178_5 with hva_ hvn_ hvc_
      rw [hva_] at ge178_5
      rw [hvc_] at ul178_5
      have zaD:=Ak (show Kd.V k71 71 _ w.heap.size _ _ ((zu zV jy).f5) from Kd.V_mk ul178_5 ge178_5)
      clear hva_ hvn_ hvc_ ge178_5 ul178_5
      have hv178_8:=hcc178 8 _ rfl
      rw [qN _ _ 8 (by omega)] at hv178_8
      replace hv178_8:=Option.some.inj (hv178_8.symm.trans hx178_8)
      injection hv178_8 with hva_ hvn_ hvc_
      rw [hva_] at ge178_8
      rw [hvc_] at ul178_8
      have zaE:=Ak (show Kd.V (Kd.int .i64) 3 _ w.heap.size _ _ ((zu zV jy).f8) from Kd.V_mk ul178_8 ge178_8)
      clear hva_ hvn_ hvc_ ge178_8 ul178_8
      have hv178_9:=hcc178 9 _ rfl
      rw [qN _ _ 9 (by omega)] at hv178_9
      replace hv178_9:=Option.some.inj (hv178_9.symm.trans hx178_9)
      injection hv178_9 with hva_ hvn_ hvc_
      rw [hva_] at ge178_9
      rw [hvc_] at ul178_9
      have zaF:=Ak (show Kd.V Kd.string 9 _ w.heap.size _ _ ((zu zV jy).f9) from Kd.V_mk ul178_9 ge178_9)
      clear hva_ hvn_ hvc_ ge178_9 ul178_9;clear hcc178 hce178;have HR178_3:=Ak hi178_3;have HC178_3:=Ak hl178_3;clear hi178_3 hl178_3;have HR178_4:=Ak hi178_4;have HC178_4:=Ak hl178_4;clear hi178_4 hl178_4;have HR178_5:=Ak hi178_5;have HC178_5:=Ak hl178_5;clear hi178_5 hl178_5;have HR178_8:=Ak hi178_8;have HC178_8:=Ak hl178_8;clear hi178_8 hl178_8;have HR178_9:=Ak hi178_9
      have HC178_9:=Ak hl178_9;clear hi178_9 hl178_9
      replace p178:=eq_true p178
      replace q178:=eq_true q178
      refine Yv (n:=11) (S:=fun w'=>w'.cell? ⟨kL,0,none⟩=some (kE)∧w'.cell? ⟨kZ,0,none⟩=some (.slice (some Yz) zV.length ZA)∧w'.cell? (Yz.add ((jy).toNat*10))=some (.int .i64 ((zu zV jy).f0))∧w'.cell? ⟨(Yz.add ((jy).toNat*10)).block,(Yz.add ((jy).toNat*10)).off+1,none⟩=some (.bool ((zu zV jy).f1))∧w'.cell? ⟨(Yz.add ((jy).toNat*10)).block,(Yz.add ((jy).toNat*10)).off+2,none⟩=some (.int .i64 ((zu zV jy).f2))∧w'.cell? ⟨(Yz.add ((jy).toNat*10)).block,(Yz.add ((jy).toNat*10)).off+3,none⟩=some (.slice A178_3 ((zu zV jy).f3).length c178_3)∧w'.cell? ⟨(Yz.add ((jy).toNat*10)).block,(Yz.add ((jy).toNat*10)).off+4,none⟩=some (.slice A178_4 ((zu zV jy).f4).length c178_4)∧w'.cell? ⟨(Yz.add ((jy).toNat*10)).block,(Yz.add ((jy).toNat*10)).off+5,none⟩=some (.slice A178_5 ((zu zV jy).f5).length c178_5)∧w'.cell? ⟨(Yz.add ((jy).toNat*10)).block,(Yz.add ((jy).toNat*10)).off+6,none⟩=some (.int .i64 ((zu zV jy).f6))∧w'.cell? ⟨(Yz.add ((jy).toNat*10)).block,(Yz.add ((jy).toNat*10)).off+7,none⟩=some (.string ((zu zV jy).f7))∧w'.cell? ⟨(Yz.add ((jy).toNat*10)).block,(Yz.add ((jy).toNat*10)).off+8,none⟩=some (.slice A178_8 ((zu zV jy).f8).length c178_8)∧w'.cell? ⟨(Yz.add ((jy).toNat*10)).block,(Yz.add ((jy).toNat*10)).off+9,none⟩=some (.slice A178_9 ((zu zV jy).f9).length c178_9)) (ds:=[8,10]) #[false,false,false,false,false,false,false,false,false,false,false] (by kernel_rfl) rfl rfl ⟨(zi Qj.out 0).trans rfl,(zi ZY.out 0).trans rfl,hx178_0,hx178_1,hx178_2,hx178_3,hx178_4,hx178_5,hx178_6,hx178_7,hx178_8,hx178_9⟩ (fun hHeld=>?_);refine kP yG.tab5 yG.bits5 (fun HT_ HW_=>?_)
      generalize wr.drew=w14 at vZ vG ZY Qi Qj HB zaB zaC zaD zaE zaF HR178_3 HR178_4 HR178_5 HR178_8 HR178_9 hx178_0 hx178_1 hx178_2 hx178_3 hx178_4 hx178_5 hx178_6 hx178_7 hx178_8 hx178_9 hHeld ⊢
      refine pu 0 13 HT_ ?_
      refine pu 2 15 HT_ ?_
      refine pu 4 17 HT_ ?_
      refine tk 1 14 HT_ HW_ hHeld ?_
      refine tk 3 16 HT_ HW_ hHeld ?_
      refine pu 5 18 HT_ ?_
      refine tk 6 19 HT_ HW_ hHeld ?_
      refine oN 7 20 HT_ (fun K hK=>?_)
      refine value_ (w1:=?_) (v:=?_) (by rfl) rfl ?_ ?_
      rotate_left 2
      ·go_simp
       constructor
       ·rfl
       ·rfl
      refine hK.out _ _ ⟨(zi (zT Qj.out _) 0).trans rfl,(zi (zT ZY.out _) 0).trans rfl,(World.cell?_alloc_lt _ _ _ (World.block_lt_of_cell? _ _ (hHeld.2.2.1))).trans (hHeld.2.2.1),(World.cell?_alloc_lt _ _ _ (World.block_lt_of_cell? _ _ (hHeld.2.2.2.1))).trans (hHeld.2.2.2.1),(World.cell?_alloc_lt _ _ _ (World.block_lt_of_cell? _ _ (hHeld.2.2.2.2.1))).trans (hHeld.2.2.2.2.1),(World.cell?_alloc_lt _ _ _ (World.block_lt_of_cell? _ _ (hHeld.2.2.2.2.2.1))).trans (hHeld.2.2.2.2.2.1),(World.cell?_alloc_lt _ _ _ (World.block_lt_of_cell? _ _ (hHeld.2.2.2.2.2.2.1))).trans (hHeld.2.2.2.2.2.2.1),(World.cell?_alloc_lt _ _ _ (World.block_lt_of_cell? _ _ (hHeld.2.2.2.2.2.2.2.1))).trans (hHeld.2.2.2.2.2.2.2.1),(World.cell?_alloc_lt _ _ _ (World.block_lt_of_cell? _ _ (hHeld.2.2.2.2.2.2.2.2.1))).trans (hHeld.2.2.2.2.2.2.2.2.1),(World.cell?_alloc_lt _ _ _ (World.block_lt_of_cell? _ _ (hHeld.2.2.2.2.2.2.2.2.2.1))).trans (hHeld.2.2.2.2.2.2.2.2.2.1),(World.cell?_alloc_lt _ _ _ (World.block_lt_of_cell? _ _ (hHeld.2.2.2.2.2.2.2.2.2.2.1))).trans (hHeld.2.2.2.2.2.2.2.2.2.2.1),(World.cell?_alloc_lt _ _ _ (World.block_lt_of_cell? _ _ (hHeld.2.2.2.2.2.2.2.2.2.2.2))).trans (hHeld.2.2.2.2.2.2.2.2.2.2.2)⟩ (fun hHeld=>?_)
      clear hK K
      refine kX (a':=?_) ?_ ?_
      rotate_left
      ·show Act.put _ (some 20) _=_
       simp only [Act.put,List.setIfInBounds_toArray,List.set_cons_zero,List.set_cons_succ,xJ,xU]
       rfl
      refine last_ (i:=8) (N:=some 21) #[true,true,true,true,true,true,true,true,true,false,false] rfl rfl (XV HT_.out (by kernel_rfl)) (by decide) (fun K hK=>?_)
      refine Kd.N_append_step k56 (w0:=w) w.heap.size (by rfl) (.tmp 14) (.tmp 20) 23 56 (.agg #[(.int .i64 0),(.bool false),(.int .i64 0),(.slice none 0 0),(.slice none 0 0),(.slice none 0 0),(.int .i64 0),(.string ⟨#[]⟩),(.slice none 0 0),(.slice none 0 0)]) 168 rfl Tryz.underlying23 info56 rfl (by decide) (by omega) kE Zq (⟨(zu zV jy).f0,(zu zV jy).f1,(zu zV jy).f2,(zu zV jy).f3,(zu zV jy).f4,(zu zV jy).f5,(zu zV jy).f6,(zu zV jy).f7,(zu zV jy).f8,(zu zV jy).f9⟩:S56) [.int .i64 ((zu zV jy).f0),.bool ((zu zV jy).f1),.int .i64 ((zu zV jy).f2),.slice A178_3 ((zu zV jy).f3).length c178_3,.slice A178_4 ((zu zV jy).f4).length c178_4,.slice A178_5 ((zu zV jy).f5).length c178_5,.int .i64 ((zu zV jy).f6),.string ((zu zV jy).f7),.slice A178_8 ((zu zV jy).f8).length c178_8,.slice A178_9 ((zu zV jy).f9).length c178_9] (fun k_=>(ZR k_∨w.heap.size≤k_)∧k_≠kZ∧k_≠vk∧k_≠kL) (fun k_=>((fun k_=>(ZR k_∨w.heap.size≤k_)∧k_≠kZ∧k_≠vk∧k_≠kL)) k_∧some k_≠(kE:Value).ownBlock) rfl rfl ?aP (fun _ hk=>hk) ?aF ?aO ?aB ?aS ?aL ?_
      (case aP=>exact (k56_mkF _ _ (⟨(zu zV jy).f0,(zu zV jy).f1,(zu zV jy).f2,(zu zV jy).f3,(zu zV jy).f4,(zu zV jy).f5,(zu zV jy).f6,(zu zV jy).f7,(zu zV jy).f8,(zu zV jy).f9⟩:S56) (Kd.jq (Kd.jo (ok':=(fun k_=>((fun k_=>(ZR k_∨w.heap.size≤k_)∧k_≠kZ∧k_≠vk∧k_≠kL)) k_∧some k_≠(kE:Value).ownBlock)) (zaB.out) (fun k_ hk=>⟨⟨hk.1,⟨hk.2.2.1,⟨hk.2.2.2.1,hk.2.2.2.2⟩⟩⟩,hk.2.1⟩))).2.1 (Kd.V_F (Kd.jo (ok':=(fun k_=>((fun k_=>(ZR k_∨w.heap.size≤k_)∧k_≠kZ∧k_≠vk∧k_≠kL)) k_∧some k_≠(kE:Value).ownBlock)) (zaB.out) (fun k_ hk=>⟨⟨hk.1,⟨hk.2.2.1,⟨hk.2.2.2.1,hk.2.2.2.2⟩⟩⟩,hk.2.1⟩))) (Kd.jq (Kd.jo (ok':=(fun k_=>((fun k_=>(ZR k_∨w.heap.size≤k_)∧k_≠kZ∧k_≠vk∧k_≠kL)) k_∧some k_≠(kE:Value).ownBlock)) (zaC.out) (fun k_ hk=>⟨⟨hk.1,⟨hk.2.2.1,⟨hk.2.2.2.1,hk.2.2.2.2⟩⟩⟩,hk.2.1⟩))).2.1 (Kd.V_F (Kd.jo (ok':=(fun k_=>((fun k_=>(ZR k_∨w.heap.size≤k_)∧k_≠kZ∧k_≠vk∧k_≠kL)) k_∧some k_≠(kE:Value).ownBlock)) (zaC.out) (fun k_ hk=>⟨⟨hk.1,⟨hk.2.2.1,⟨hk.2.2.2.1,hk.2.2.2.2⟩⟩⟩,hk.2.1⟩))) (Kd.jq (Kd.jo (ok':=(fun k_=>((fun k_=>(ZR k_∨w.heap.size≤k_)∧k_≠kZ∧k_≠vk∧k_≠kL)) k_∧some k_≠(kE:Value).ownBlock)) (zaD.out) (fun k_ hk=>⟨⟨hk.1,⟨hk.2.2.1,⟨hk.2.2.2.1,hk.2.2.2.2⟩⟩⟩,hk.2.1⟩))).2.1 (Kd.V_F (Kd.jo (ok':=(fun k_=>((fun k_=>(ZR k_∨w.heap.size≤k_)∧k_≠kZ∧k_≠vk∧k_≠kL)) k_∧some k_≠(kE:Value).ownBlock)) (zaD.out) (fun k_ hk=>⟨⟨hk.1,⟨hk.2.2.1,⟨hk.2.2.2.1,hk.2.2.2.2⟩⟩⟩,hk.2.1⟩))) (Kd.jq (Kd.jo (ok':=(fun k_=>((fun k_=>(ZR k_∨w.heap.size≤k_)∧k_≠kZ∧k_≠vk∧k_≠kL)) k_∧some k_≠(kE:Value).ownBlock)) (zaE.out) (fun k_ hk=>⟨⟨hk.1,⟨hk.2.2.1,⟨hk.2.2.2.1,hk.2.2.2.2⟩⟩⟩,hk.2.1⟩))).2.1 (Kd.V_F (Kd.jo (ok':=(fun k_=>((fun k_=>(ZR k_∨w.heap.size≤k_)∧k_≠kZ∧k_≠vk∧k_≠kL)) k_∧some k_≠(kE:Value).ownBlock)) (zaE.out) (fun k_ hk=>⟨⟨hk.1,⟨hk.2.2.1,⟨hk.2.2.2.1,hk.2.2.2.2⟩⟩⟩,hk.2.1⟩))) (Kd.jq (Kd.jo (ok':=(fun k_=>((fun k_=>(ZR k_∨w.heap.size≤k_)∧k_≠kZ∧k_≠vk∧k_≠kL)) k_∧some k_≠(kE:Value).ownBlock)) (zaF.out) (fun k_ hk=>⟨⟨hk.1,⟨hk.2.2.1,⟨hk.2.2.2.1,hk.2.2.2.2⟩⟩⟩,hk.2.1⟩))).2.1 (Kd.V_F (Kd.jo (ok':=(fun k_=>((fun k_=>(ZR k_∨w.heap.size≤k_)∧k_≠kZ∧k_≠vk∧k_≠kL)) k_∧some k_≠(kE:Value).ownBlock)) (zaF.out) (fun k_ hk=>⟨⟨hk.1,⟨hk.2.2.1,⟨hk.2.2.2.1,hk.2.2.2.2⟩⟩⟩,hk.2.1⟩)))))
      (case aB=>exact (bl HB))
      (case aF=>exact (fun k_ hk=>⟨(.inr (Nat.le_trans (zH (bl HB)) hk)),Kd.JX (g:=kZ) (bo ZY) k_ hk,Kd.JX (g:=vk) (bo Qi) k_ hk,Kd.JX (g:=kL) (bo Qj) k_ hk⟩))
      (case aO=>exact (no vG))
      (case aS=>exact (zH (bl HB)))
      (case aL=>have:=LMc10.out;omega)
      intro v180 w15 ho hb hg hat
      rw [← Ny179.out] at ho
      have HO181:=Ak (ho);replace vZ:=Ak (Kd.X9 (ok:=(fun k_=>(ZR k_∨w.heap.size≤k_)∧k_≠kZ∧k_≠vk∧k_≠kL)) (by (with_reducible repeat (first|apply Kd.ZT|apply Kd.ZU|apply Kd.Xi));exact Kd.jo vZ.out (fun _ hk=>⟨⟨hk.1,⟨hk.2.2.1,⟨hk.2.2.2.1,hk.2.2.2.2⟩⟩⟩,hk.2.1⟩)) hg hat);replace ZY:=Ak (qU (g:=kZ) (bo ZY) hg (Kd.N_ne vG.out ZY.out (by decide)));replace Qi:=Ak (qU (g:=vk) (bo Qi) hg (Kd.N_ne vG.out Qi.out (by decide)));replace Qj:=Ak (qU (g:=kL) (bo Qj) hg (Kd.N_ne vG.out Qj.out (by decide)));replace zaB:=Ak (Kd.X9 (ok:=(fun k_=>(ZR k_∨w.heap.size≤k_)∧k_≠kZ∧k_≠vk∧k_≠kL)) (by (with_reducible repeat (first|apply Kd.ZT|apply Kd.ZU|apply Kd.Xi));exact Kd.jo zaB.out (fun _ hk=>⟨⟨hk.1,⟨hk.2.2.1,⟨hk.2.2.2.1,hk.2.2.2.2⟩⟩⟩,hk.2.1⟩)) hg hat);replace zaC:=Ak (Kd.X9 (ok:=(fun k_=>(ZR k_∨w.heap.size≤k_)∧k_≠kZ∧k_≠vk∧k_≠kL)) (by (with_reducible repeat (first|apply Kd.ZT|apply Kd.ZU|apply Kd.Xi));exact Kd.jo zaC.out (fun _ hk=>⟨⟨hk.1,⟨hk.2.2.1,⟨hk.2.2.2.1,hk.2.2.2.2⟩⟩⟩,hk.2.1⟩)) hg hat);replace zaD:=Ak (Kd.X9 (ok:=(fun k_=>(ZR k_∨w.heap.size≤k_)∧k_≠kZ∧k_≠vk∧k_≠kL)) (by (with_reducible repeat (first|apply Kd.ZT|apply Kd.ZU|apply Kd.Xi));exact Kd.jo zaD.out (fun _ hk=>⟨⟨hk.1,⟨hk.2.2.1,⟨hk.2.2.2.1,hk.2.2.2.2⟩⟩⟩,hk.2.1⟩)) hg hat);replace zaE:=Ak (Kd.X9 (ok:=(fun k_=>(ZR k_∨w.heap.size≤k_)∧k_≠kZ∧k_≠vk∧k_≠kL)) (by (with_reducible repeat (first|apply Kd.ZT|apply Kd.ZU|apply Kd.Xi));exact Kd.jo zaE.out (fun _ hk=>⟨⟨hk.1,⟨hk.2.2.1,⟨hk.2.2.2.1,hk.2.2.2.2⟩⟩⟩,hk.2.1⟩)) hg hat);replace zaF:=Ak (Kd.X9 (ok:=(fun k_=>(ZR k_∨w.heap.size≤k_)∧k_≠kZ∧k_≠vk∧k_≠kL)) (by (with_reducible repeat (first|apply Kd.ZT|apply Kd.ZU|apply Kd.Xi));exact Kd.jo zaF.out (fun _ hk=>⟨⟨hk.1,⟨hk.2.2.1,⟨hk.2.2.2.1,hk.2.2.2.2⟩⟩⟩,hk.2.1⟩)) hg hat);replace HB:=Ak (hb);clear vG ho hb hg hat
      obtain ⟨Ao16,co16,eo16⟩:=Kd.jk HO181.out
      (first|subst eo16|(injection eo16 with f1_ f2_ f3_;have f4_:=f1_.symm;have f5_:=f3_.symm;clear f1_ f2_ f3_;subst f4_;subst f5_))
      refine hK.out _ _ ?_
      clear hK K
      refine kX (a':=?_) ?_ ?_
      rotate_left
      ·show Act.put _ (some 21) _=_
       simp only [Act.put,List.setIfInBounds_toArray,List.set_cons_zero,List.set_cons_succ,xJ,xU]
       rfl
      refine pu 9 22 HT_ ?_
      refine last_ (i:=10) (N:=none) #[true,true,true,true,true,true,true,true,true,true,true] rfl rfl (XV HT_.out (by kernel_rfl)) (by decide) (fun K hK=>?_)
      have hs17:w15.cell? ⟨kL,0,none⟩=some (kE):=(zi Qj.out 0).trans rfl
      have hfs17:=zn Qj.out 0
      have hns17_0:=Yy.out
      have hns17_1:=XW.out
      have hms17_0:=QZ.out
      have hms17_1:=zaA.out
      refine skip_ (w1:=?_) (by rfl) rfl ?_ ?_
      rotate_left
      ·go_simp
       rfl
      refine hK.out _ _ ?_
      clear hK K
      refine Ji (ZO HT_.out (by kernel_rfl)) ?_
      try go_wp2
      go_roundg k1
      case measure=>have:=HK1.out;omega
      case rel=>exact ⟨(wrap64 (jy+1)),(y179),(.slice Ao16 y179.length co16),es,H',⟨by have:=HK1.out;omega⟩,⟨by (with_reducible repeat (first|apply Kd.ZT|apply Kd.ZU|apply Kd.Xi));exact Kd.jo (Kd.V_far (p:=⟨kL,0,none⟩) (Kd.jo vZ.out (fun k_ hk=>(⟨hk,hk.1.2.2.2⟩:_∧k_≠kL))) (fun _ hk=>hk.2) (.slice Ao16 y179.length co16)) (fun _ hk=>⟨hk.1.1.1,⟨hk.1.2,⟨hk.1.1.2.1,⟨hk.1.1.2.2.1,hk.1.1.2.2.2⟩⟩⟩⟩)⟩,⟨nm (Kd.N_far (p:=⟨kL,0,none⟩) (Kd.Zl HO181.out (fun k_ hk=>(⟨hk,hk.2.2.2⟩:_∧k_≠kL))) (fun _ hk=>hk.2) (.slice Ao16 y179.length co16)) (fun _ hk=>⟨hk.1.1,⟨hk.1.2.1,⟨hk.1.2.2.1,hk.1.2.2.2⟩⟩⟩)⟩,⟨by (with_reducible repeat (first|refine qJ ?_ _|refine xI ?_|refine zT ?_ _));refine Qq ?_ Yy.out _;(with_reducible repeat (first|refine qJ ?_ _|refine xI ?_|refine zT ?_ _));exact ZY.out⟩,⟨by (with_reducible repeat (first|refine qJ ?_ _|refine xI ?_|refine zT ?_ _));refine Qq ?_ XW.out _;(with_reducible repeat (first|refine qJ ?_ _|refine xI ?_|refine zT ?_ _));exact Qi.out⟩,⟨bq Qj⟩,⟨bl HB⟩⟩
     ·rw [if_neg c10] at H
      exact absurd H (by simp)
    ·rw [if_neg c9] at H
     exact absurd H (by simp)
   ·rw [if_neg c8] at H
    have c8b0:=df c8
    clear c8
    obtain rfl:=Option.some.inj H
    have hnb18:=NB175_176.out
    have hnc18:=NB176_175.out
    have hnb19:=Yy.out
    have hnc19:=QZ.out
    obtain ⟨hcz20_0,hfz20_0⟩:=bk1 ZY.out
    have hnb21:=zaA.out
    have hnc21:=XW.out
    obtain ⟨hcz22_0,hfz22_0⟩:=bk1 Qj.out
    obtain ⟨Ao23,co23,eo23⟩:=Kd.jk vG.out
    subst eo23
    obtain ⟨hcz24_0,hfz24_0⟩:=bk1 Qi.out
    go_wp2
    refine bodyPost_ret (results_cell_row rfl _ _ vk 25 #[.slice Ao23 Zq.length co23] (0,0) _ rfl (bq Qi) Tryz.underlying25 rfl (by kernel_rfl)) rfl ?_
    exact ⟨_,ef,nm (Kd.N_far (p:=⟨vk,0,none⟩) (Kd.Zl vG.out (fun k_ hk=>(⟨hk,hk.2.2.1⟩:_∧k_≠vk))) (fun _ hk=>hk.2) (.slice Ao23 Zq.length co23)) (fun _ hk=>hk.1.1),bl HB⟩
def qV (b:ByteArray):Nat→ByteArray
 | 0=>⟨#[]⟩
 | n+1=>qV b n++b
theorem QF {b:ByteArray} (h:b.size=1):∀ n,(qV b n).size=n
 | 0=>rfl
 | n+1=>by rw [qV,ByteArray.size_append,QF h n,h]
theorem Jk (b:ByteArray) (m:Nat):∀ n,qV b (m+n)=qV b m++qV b n
 | 0=>by rw [Nat.add_zero,qV];exact (ByteArray.append_empty).symm
 | n+1=>by rw [← Nat.add_assoc,qV,Jk b m n,qV,ByteArray.append_assoc]
def jP.f (k:Nat) (n:Int) (b:ByteArray):Option ByteArray:=if b.size=1∧n≤100000 then some (qV b n.toNat) else none
theorem JE (b:ByteArray) (hb:b.size=1):∀ (m:Nat) (n:Int) (w:World),n.toNat=m→n≤100000→Calls Tryz.prog 53 #[.int .i64 n,.string b] w fun e w'=>e=.returned (.string (qV b n.toNat))∧xX w w':=by
 intro m
 induction m using Nat.strongRecOn with
 | _ m ih =>
 intro n w hm hn
 have IH:=Ak ih;have HM:=Ak hm;have HB:=Ak hb
 have D0:=xX.refl w
 clear ih hm hb
 by_cases h0:0<n
 ·have d0:decide ((0:Int)<n)=true:=dt h0
  go_enter Tryz.func53,Tryz.ntmps53
  go_wp2
  go_loopg [5] m (fun kq v5 w'=>∃ (j:Nat) (s:ByteArray),v5=.string s∧zh (s=qV b j)∧zh (kq=m+1-j)∧zh (1≤j∧j≤m)∧xX w w')
  case atStart=>exact ⟨1,b,rfl,⟨by show b=qV b 0++b;exact (ByteArray.empty_append).symm⟩,⟨by omega⟩,⟨by have:=HM.out;omega⟩,D0⟩
  case round =>
   obtain ⟨j,s,rfl,HS,HK,HJ,D1⟩:=hrel
   have hs:s.size=j:=by rw [HS.out];exact QF HB.out j
   have hj:=HJ.out
   have hm:=HM.out
   by_cases h2:(j:Int)*2≤n
   ·have d2:=dt h2
    go_wp2
    go_roundg (m+1-(j+j))
    case measure=>have:=HK.out;omega
    case rel=>exact ⟨j+j,s++s,rfl,⟨by rw [Jk,← HS.out]⟩,⟨rfl⟩,⟨by omega⟩,D1⟩
   ·have d2:=df h2
    by_cases h3:(j:Int)<n
    ·have d3:=dt h3
     have hq:(qV b (m-j)).size=m-j:=QF HB.out _
     have hq2:(9223372036854775807<j+(m-j))=False:=eq_false (by omega)
     have hq3:(j+(m-j)≤9223372036854775807)=True:=eq_true (by omega)
     have hq4:(9223372036854775807<s.size+(qV b (m-j)).size)=False:=eq_false (by omega)
     have hq5:(s.size+(qV b (m-j)).size≤9223372036854775807)=True:=eq_true (by omega)
     have WN:zh (IntKind.i64.wrap (n-(j:Int))=n-(j:Int)):=⟨by rw [IntKind.wrap_i64];omega⟩
     have E:zh (qV b n.toNat=s++qV b (n-(j:Int)).toNat):=⟨by rw [show n.toNat=j+(n-(j:Int)).toNat by omega,Jk,← HS.out]⟩
     go_wp2_with (fail)
     refine (IH.out (n-(j:Int)).toNat (by omega) (n-(j:Int)) _ rfl (by omega)).mono ?_
     rintro r w4 ⟨rfl,hd⟩
     have D2:xX w w4:=(by obtain ⟨q,rfl⟩:=hd.out;exact D1.step q)
     clear hd
     go_wp2_with (fail)
     refine bodyPost_ret (results_tmp rfl _ _ _) rfl ?_
     refine ⟨?_,D2⟩
     have e:=E.out
     rw [hm] at e ⊢
     rw [e,show (n-(j:Int)).toNat=m-j by omega]
     rfl
    ·have d3:=df h3
     have E:zh (s=qV b m):=⟨by rw [HS.out,show j=m by omega]⟩
     go_wp2_with (fail)
     refine bodyPost_ret (results_tmp rfl _ _ _) rfl ?_
     exact ⟨by rw [← E.out];rfl,D1⟩
 ·have d0:decide ((0:Int)<n)=false:=df h0
  have e0:n.toNat=0:=by omega
  by_cases h1:0≤n
  ·have d1:decide ((0:Int)≤n)=true:=dt h1
   have d2:decide ((0:Int)<n)=false:=df h0
   go_enter Tryz.func53,Tryz.ntmps53
   go_wp2
   go_loopg [5] 0 (fun kq v5 w'=>v5=.string ⟨#[]⟩∧xX w w')
   case atStart=>exact ⟨rfl,D0⟩
   case round =>
    obtain ⟨rfl,D1⟩:=hrel
    go_wp2
    go_ret
    exact ⟨by rw [e0];rfl,D1⟩
  ·have d1:decide ((0:Int)≤n)=false:=df h1
   go_enter Tryz.func53,Tryz.ntmps53
   go_wp2
   go_loopg [5] 0 (fun kq v5 w'=>v5=.string ⟨#[]⟩∧xX w w')
   case atStart=>exact ⟨rfl,D0⟩
   case round =>
    obtain ⟨rfl,D1⟩:=hrel
    go_wp2
    go_ret
    exact ⟨by rw [e0];rfl,D1⟩
theorem jP.calls (k:Nat) (a0:Int) (a1:ByteArray) (r:ByteArray) (w:World) (h:jP.f k a0 a1=some r) :
  Calls Tryz.prog 53 #[.int .i64 a0,.string a1] w fun e w'=>e=.returned (.string r)∧xX w w':=by
 unfold jP.f at h
 split at h
 case isFalse=>cases h
 case isTrue hg =>
  obtain rfl:=Option.some.inj h
  exact JE a1 hg.1 _ a0 w rfl hg.2
end Go.Proofs.YtiekodnojmkfaaaGreatDoor.yD
