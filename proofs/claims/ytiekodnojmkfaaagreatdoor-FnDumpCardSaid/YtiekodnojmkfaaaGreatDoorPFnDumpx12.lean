import Derived.Test.YtiekodnojmkfaaaGreatDoorPFnDumpx0
import Derived.Test.YtiekodnojmkfaaaGreatDoorPFnDumpx11
namespace Go.Proofs.YtiekodnojmkfaaaGreatDoor.yD
set_option maxHeartbeats 16000000
set_option maxRecDepth 100000
open Go.RowKit Go.Proofs.YtiekodnojmkfaaaGreatDoorW.zF Go.Proofs.YtiekodnojmkfaaaGreatDoorW.yC Go.Proofs.YtiekodnojmkfaaaGreatDoorW.yY
attribute [local go_sem] xM xO qG qH yZ xg xP xQ
set_option linter.unusedVariables false
set_option linter.unusedSimpArgs false
def zo.idx {α:Type} (z:α) (p:α→Option Bool):Nat→List α→Int→Option Int
 | 0,_,_=>none
 | k+1,l,i=>if i<(l.length:Int) then (if 0≤i then ((p (l.getD i.toNat z)).bind fun b=>(if b=true then (some i) else (zo.idx z p k l (wrap64 (i+1))))) else none) else (some (-1))
theorem zo.lit1 (a b:Int) (s:ByteArray) (r:Bool) (w:World) (h:jE.f a b s=some r) :
  Calls Tryz.prog 61 #[.agg #[.int .i64 a,.int .i64 b,.string s]] w fun e w'=>e=.returned (.bool !r)∧Below w.heap.size w w':=by
 have hu85:=Tryz.underlying67
 have HB:=Ak (Below.refl w.heap.size w)
 have A2:=Ak h;clear h
 go_enter Tryz.func61,Tryz.ntmps61
 go_wp2_with (first|((with_reducible refine zB (N:=1) rfl ?_);refine zK ?hg (N:=1) ?hd (cs:=#[.int .i64 a,.int .i64 b,.string s]) (t:=67) ?hr ?_;(case hd=>rfl);(case hg=>rfl);(case hr=>first|(go_simp;done)|(go_simp;rfl));intro gb hg w3 hbox hb;replace HB:=BS HB hb;have hcz_0:w3.cell? ⟨gb,0,none⟩=some (.int .i64 a):=(zi hbox 0).trans rfl;have hcz_1:w3.cell? ⟨gb,1,none⟩=some (.int .i64 b):=(zi hbox 1).trans rfl;have hcz_2:w3.cell? ⟨gb,2,none⟩=some (.string s):=(zi hbox 2).trans rfl;have hfz_0:=zn hbox 0;have hfz_1:=zn hbox 1;have hfz_2:=zn hbox 2;clear hb hbox hg)|((with_reducible refine yP (f:=62) rfl ?_);refine jU (some 4) rfl rfl Tryz.func62 (by kernel_rfl) rfl #[.agg #[.int .i64 a,.int .i64 b,.string s]] rfl (by (try simp only [List.map_toArray,List.map_cons,List.map_nil]);first|done|rfl) ?_;(with_reducible refine (jE.calls a b s r _ A2.out).mono ?_);rintro e w4 ⟨rfl,hb⟩;refine ⟨_,rfl,?_⟩;replace HB:=BS HB hb;clear hb))
 go_ret
 exact ⟨et,bl HB⟩
theorem zo.idx1 (k:Nat) (A0:Option Addr) (c0:Nat) (l0:List S67) (r:Int) (w:World) (hr0:Kd.C k67 w A0 l0.length l0) (hc0:l0.length≤c0) (h:zo.idx z67 (fun v=>jE.f v.f0 v.f1 v.f2 |>.map (!·)) k l0 0=some r) :
  Calls Tryz.prog 109 #[.slice A0 l0.length c0,.func (.func 61) #[] #[]] w fun e w'=>e=.returned (.int .i64 r)∧Below w.heap.size w w':=by
 have hu85:=Tryz.underlying67
 have HR0:=Ak hr0;have HC0:=Ak hc0;clear hr0 hc0
 have HB:=Ak (Below.refl w.heap.size w)
 have H':=Ak h
 clear h
 go_enter Tryz.func109,Tryz.ntmps109
 go_wp2
 go_loopg [8] k (fun kq v8 w'=>∃ (i:Int),v8=.int .i64 i∧zh (zo.idx z67 (fun v=>jE.f v.f0 v.f1 v.f2 |>.map (!·)) kq l0 i=some r)∧zh (kq≤k)∧zh (Below w.heap.size w w'))
 case atStart=>exact ⟨0,rfl,H',⟨Nat.le_refl _⟩,⟨bl HB⟩⟩
 case round =>
  clear H'
  obtain ⟨xW,rfl,HA,HK1,HB⟩:=hrel
  cases gk with
  | zero=>exact absurd HA.out (by simp [zo.idx])
  | succ k1 =>
   have H:=HA.out
   clear HA
   simp only [zo.idx] at H
   by_cases c4:xW<(l0.length:Int)
   ·rw [if_pos c4] at H
    have ZG:=dt c4
    clear c4
    by_cases c5:0≤xW
    ·rw [if_pos c5] at H
     have Qk:=dt c5
     clear c5
     replace H:=Option.bind_eq_some_iff.mp H
     obtain ⟨tb,A50,H⟩:=H
     obtain ⟨t103,A60,rfl⟩:=Option.map_eq_some_iff.mp A50
     clear A50
     change jE.f (xH l0 xW).f0 (xH l0 xW).f1 (xH l0 xW).f2=some t103 at A60
     have A6:=Ak A60;clear A60
     have p102:0≤(xW:Int):=od
     have q102:xW<(l0.length:Int):=od
     obtain ⟨ad102,e102,Zy,J6,hx102_2⟩:=Js HR0.out xW p102 q102
     cases e102
     replace Zy:=cu HB Zy
     replace J6:=cu HB J6
     replace hx102_2:=cu HB hx102_2
     replace p102:=eq_true p102
     replace q102:=eq_true q102
     have H':=Ak H
     clear H
     cases t103 <;>
     go_wp2_with (first|(go_at_call 61;(with_reducible refine (zo.lit1 ((xH l0 xW).f0) ((xH l0 xW).f1) ((xH l0 xW).f2) _ _ A6.out).mono ?_);rintro e w8 ⟨rfl,hb⟩;replace HB:=BS HB hb))
     ·obtain rfl:=Option.some.inj H'.out
      go_ret
      exact ⟨et,bl HB⟩
     ·go_roundg k1
      case measure=>have:=HK1.out;omega
      case rel=>exact ⟨(wrap64 (xW+1)),es,H',⟨by have:=HK1.out;omega⟩,⟨bl HB⟩⟩
    ·rw [if_neg c5] at H
     exact absurd H (by simp)
   ·rw [if_neg c4] at H
    have ZG:=df c4
    clear c4
    obtain rfl:=Option.some.inj H
    go_wp2
    go_ret
    exact ⟨et,bl HB⟩
theorem zo.lit2 (a:Bool) (b:Int) (r:Bool) (w:World) (h:zQ.f b 0 16777215=some r) :
  Calls Tryz.prog 64 #[.agg #[.bool a,.int .i64 b]] w fun e w'=>e=.returned (.bool !r)∧Below w.heap.size w w':=by
 have hu89:=Tryz.underlying71
 have HB:=Ak (Below.refl w.heap.size w)
 have A2:=Ak h;clear h
 go_enter Tryz.func64,Tryz.ntmps64
 go_wp2_with (first|((with_reducible refine zB (N:=1) rfl ?_);refine zK ?hg (N:=1) ?hd (cs:=#[.bool a,.int .i64 b]) (t:=71) ?hr ?_;(case hd=>rfl);(case hg=>rfl);(case hr=>first|(go_simp;done)|(go_simp;rfl));intro gb hg w3 hbox hb;replace HB:=BS HB hb;have hcz_0:w3.cell? ⟨gb,0,none⟩=some (.bool a):=(zi hbox 0).trans rfl;have hcz_1:w3.cell? ⟨gb,1,none⟩=some (.int .i64 b):=(zi hbox 1).trans rfl;have hfz_0:=zn hbox 0;have hfz_1:=zn hbox 1;clear hb hbox hg)|(go_at_call 35;(with_reducible refine (zQ.calls b 0 16777215 r _ A2.out).mono ?_);rintro e w4 ⟨rfl,⟨nd,rfl⟩⟩))
 go_ret
 exact ⟨et,bl HB⟩
theorem zo.idx2 (k:Nat) (A0:Option Addr) (c0:Nat) (l0:List S71) (r:Int) (w:World) (hr0:Kd.C k71 w A0 l0.length l0) (hc0:l0.length≤c0) (h:zo.idx z71 (fun v=>zQ.f v.f1 0 16777215 |>.map (!·)) k l0 0=some r) :
  Calls Tryz.prog 110 #[.slice A0 l0.length c0,.func (.func 64) #[] #[]] w fun e w'=>e=.returned (.int .i64 r)∧Below w.heap.size w w':=by
 have hu89:=Tryz.underlying71
 have HR0:=Ak hr0;have HC0:=Ak hc0;clear hr0 hc0
 have HB:=Ak (Below.refl w.heap.size w)
 have H':=Ak h
 clear h
 go_enter Tryz.func110,Tryz.ntmps110
 go_wp2
 go_loopg [8] k (fun kq v8 w'=>∃ (i:Int),v8=.int .i64 i∧zh (zo.idx z71 (fun v=>zQ.f v.f1 0 16777215 |>.map (!·)) kq l0 i=some r)∧zh (kq≤k)∧zh (Below w.heap.size w w'))
 case atStart=>exact ⟨0,rfl,H',⟨Nat.le_refl _⟩,⟨bl HB⟩⟩
 case round =>
  clear H'
  obtain ⟨xW,rfl,HA,HK1,HB⟩:=hrel
  cases gk with
  | zero=>exact absurd HA.out (by simp [zo.idx])
  | succ k1 =>
   have H:=HA.out
   clear HA
   simp only [zo.idx] at H
   by_cases c4:xW<(l0.length:Int)
   ·rw [if_pos c4] at H
    have ZG:=dt c4
    clear c4
    by_cases c5:0≤xW
    ·rw [if_pos c5] at H
     have Qk:=dt c5
     clear c5
     replace H:=Option.bind_eq_some_iff.mp H
     obtain ⟨tb,A50,H⟩:=H
     obtain ⟨t103,A60,rfl⟩:=Option.map_eq_some_iff.mp A50
     clear A50
     change zQ.f (jh l0 xW).f1 0 16777215=some t103 at A60
     have A6:=Ak A60;clear A60
     have p102:0≤(xW:Int):=od
     have q102:xW<(l0.length:Int):=od
     obtain ⟨ad102,e102,Zy,J6⟩:=Jt HR0.out xW p102 q102
     cases e102
     replace Zy:=cu HB Zy
     replace J6:=cu HB J6
     replace p102:=eq_true p102
     replace q102:=eq_true q102
     have H':=Ak H
     clear H
     cases t103 <;>
     go_wp2_with (first|(go_at_call 64;(with_reducible refine (zo.lit2 ((jh l0 xW).f0) ((jh l0 xW).f1) _ _ A6.out).mono ?_);rintro e w8 ⟨rfl,hb⟩;replace HB:=BS HB hb))
     ·obtain rfl:=Option.some.inj H'.out
      go_ret
      exact ⟨et,bl HB⟩
     ·go_roundg k1
      case measure=>have:=HK1.out;omega
      case rel=>exact ⟨(wrap64 (xW+1)),es,H',⟨by have:=HK1.out;omega⟩,⟨bl HB⟩⟩
    ·rw [if_neg c5] at H
     exact absurd H (by simp)
   ·rw [if_neg c4] at H
    have ZG:=df c4
    clear c4
    obtain rfl:=Option.some.inj H
    go_wp2
    go_ret
    exact ⟨et,bl HB⟩
theorem zo.lit3 (b:Int) (r:Bool) (w:World) (h:zQ.f b 0 16777215=some r) :
  Calls Tryz.prog 66 #[.int .i64 b] w fun e w'=>e=.returned (.bool !r)∧Below w.heap.size w w':=by
 have HB:=Ak (Below.refl w.heap.size w)
 have A2:=Ak h;clear h
 go_enter Tryz.func66,Tryz.ntmps66
 go_wp2_with (first|(go_at_call 35;(with_reducible refine (zQ.calls b 0 16777215 r _ A2.out).mono ?_);rintro e w4 ⟨rfl,⟨nd,rfl⟩⟩))
 go_ret
 exact ⟨et,bl HB⟩
theorem zo.idx3 (k:Nat) (A0:Option Addr) (c0:Nat) (l0:List Int) (r:Int) (w:World) (hr0:Kd.C (Kd.int .i64) w A0 l0.length l0) (hc0:l0.length≤c0) (h:zo.idx 0 (fun v=>zQ.f v 0 16777215 |>.map (!·)) k l0 0=some r) :
  Calls Tryz.prog 111 #[.slice A0 l0.length c0,.func (.func 66) #[] #[]] w fun e w'=>e=.returned (.int .i64 r)∧Below w.heap.size w w':=by
 have HR0:=Ak hr0;have HC0:=Ak hc0;clear hr0 hc0
 have HB:=Ak (Below.refl w.heap.size w)
 have H':=Ak h
 clear h
 go_enter Tryz.func111,Tryz.ntmps111
 go_wp2
 go_loopg [8] k (fun kq v8 w'=>∃ (i:Int),v8=.int .i64 i∧zh (zo.idx 0 (fun v=>zQ.f v 0 16777215 |>.map (!·)) kq l0 i=some r)∧zh (kq≤k)∧zh (Below w.heap.size w w'))
 case atStart=>exact ⟨0,rfl,H',⟨Nat.le_refl _⟩,⟨bl HB⟩⟩
 case round =>
  clear H'
  obtain ⟨xW,rfl,HA,HK1,HB⟩:=hrel
  cases gk with
  | zero=>exact absurd HA.out (by simp [zo.idx])
  | succ k1 =>
   have H:=HA.out
   clear HA
   simp only [zo.idx] at H
   by_cases c4:xW<(l0.length:Int)
   ·rw [if_pos c4] at H
    have ZG:=dt c4
    clear c4
    by_cases c5:0≤xW
    ·rw [if_pos c5] at H
     have Qk:=dt c5
     clear c5
     replace H:=Option.bind_eq_some_iff.mp H
     obtain ⟨tb,A50,H⟩:=H
     obtain ⟨t103,A60,rfl⟩:=Option.map_eq_some_iff.mp A50
     clear A50
     change zQ.f (rd l0 xW) 0 16777215=some t103 at A60
     have A6:=Ak A60;clear A60
     have p102:0≤(xW:Int):=od
     have q102:xW<(l0.length:Int):=od
     obtain ⟨ad102,e102,Zy⟩:=Kd.vV HR0.out xW p102 q102
     cases e102
     replace Zy:=cu HB Zy
     replace p102:=eq_true p102
     replace q102:=eq_true q102
     have H':=Ak H
     clear H
     cases t103 <;>
     go_wp2_with (first|(go_at_call 66;(with_reducible refine (zo.lit3 (rd l0 xW) _ _ A6.out).mono ?_);rintro e w8 ⟨rfl,hb⟩;replace HB:=BS HB hb))
     ·obtain rfl:=Option.some.inj H'.out
      go_ret
      exact ⟨et,bl HB⟩
     ·go_roundg k1
      case measure=>have:=HK1.out;omega
      case rel=>exact ⟨(wrap64 (xW+1)),es,H',⟨by have:=HK1.out;omega⟩,⟨bl HB⟩⟩
    ·rw [if_neg c5] at H
     exact absurd H (by simp)
   ·rw [if_neg c4] at H
    have ZG:=df c4
    clear c4
    obtain rfl:=Option.some.inj H
    go_wp2
    go_ret
    exact ⟨et,bl HB⟩
def zo.short (s:ByteArray):Option Bool:=some (decide ((s.size:Int)≤1000))
theorem zo.lit4 (s:ByteArray) (r:Bool) (w:World) (h:zo.short s=some r) :
  Calls Tryz.prog 68 #[.string s] w fun e w'=>e=.returned (.bool !r)∧Below w.heap.size w w':=by
 have HB:=Ak (Below.refl w.heap.size w)
 have hr:(!r)=decide (1000<s.size):=by
  unfold zo.short at h
  obtain rfl:=Option.some.inj h
  by_cases hs:(s.size:Int)≤1000
  ·rw [decide_eq_true hs,df (by omega)];rfl
  ·rw [decide_eq_false hs,dt (by omega)];rfl
 rw [hr]
 clear h hr
 go_enter Tryz.func68,Tryz.ntmps68
 go_wp2
 go_ret
 exact ⟨by first|rfl|(simp;done)|(simp;omega),bl HB⟩
theorem zo.idx4 (k:Nat) (A0:Option Addr) (c0:Nat) (l0:List ByteArray) (r:Int) (w:World) (hr0:Kd.C Kd.string w A0 l0.length l0) (hc0:l0.length≤c0) (h:zo.idx ByteArray.empty (fun v=>zo.short v |>.map (!·)) k l0 0=some r) :
  Calls Tryz.prog 112 #[.slice A0 l0.length c0,.func (.func 68) #[] #[]] w fun e w'=>e=.returned (.int .i64 r)∧Below w.heap.size w w':=by
 have HR0:=Ak hr0;have HC0:=Ak hc0;clear hr0 hc0
 have HB:=Ak (Below.refl w.heap.size w)
 have H':=Ak h
 clear h
 go_enter Tryz.func112,Tryz.ntmps112
 go_wp2
 go_loopg [8] k (fun kq v8 w'=>∃ (i:Int),v8=.int .i64 i∧zh (zo.idx ByteArray.empty (fun v=>zo.short v |>.map (!·)) kq l0 i=some r)∧zh (kq≤k)∧zh (Below w.heap.size w w'))
 case atStart=>exact ⟨0,rfl,H',⟨Nat.le_refl _⟩,⟨bl HB⟩⟩
 case round =>
  clear H'
  obtain ⟨xW,rfl,HA,HK1,HB⟩:=hrel
  cases gk with
  | zero=>exact absurd HA.out (by simp [zo.idx])
  | succ k1 =>
   have H:=HA.out
   clear HA
   simp only [zo.idx] at H
   by_cases c4:xW<(l0.length:Int)
   ·rw [if_pos c4] at H
    have ZG:=dt c4
    clear c4
    by_cases c5:0≤xW
    ·rw [if_pos c5] at H
     have Qk:=dt c5
     clear c5
     replace H:=Option.bind_eq_some_iff.mp H
     obtain ⟨tb,A50,H⟩:=H
     obtain ⟨t103,A60,rfl⟩:=Option.map_eq_some_iff.mp A50
     clear A50
     change zo.short (rdOf ByteArray.empty l0 xW)=some t103 at A60
     have A6:=Ak A60;clear A60
     have p102:0≤(xW:Int):=od
     have q102:xW<(l0.length:Int):=od
     obtain ⟨ad102,e102,Zy⟩:=Kd.ZL HR0.out xW p102 q102
     cases e102
     replace Zy:=cu HB Zy
     replace p102:=eq_true p102
     replace q102:=eq_true q102
     have H':=Ak H
     clear H
     cases t103 <;>
     go_wp2_with (first|(go_at_call 68;(with_reducible refine (zo.lit4 (rdOf ByteArray.empty l0 xW) _ _ A6.out).mono ?_);rintro e w8 ⟨rfl,hb⟩;replace HB:=BS HB hb))
     ·obtain rfl:=Option.some.inj H'.out
      go_ret
      exact ⟨et,bl HB⟩
     ·go_roundg k1
      case measure=>have:=HK1.out;omega
      case rel=>exact ⟨(wrap64 (xW+1)),es,H',⟨by have:=HK1.out;omega⟩,⟨bl HB⟩⟩
    ·rw [if_neg c5] at H
     exact absurd H (by simp)
   ·rw [if_neg c4] at H
    have ZG:=df c4
    clear c4
    obtain rfl:=Option.some.inj H
    go_wp2
    go_ret
    exact ⟨et,bl HB⟩
theorem zo.has1 (k:Nat) (A0:Option Addr) (c0:Nat) (l0:List S67) (r:Int) (w:World) (hr0:Kd.C k67 w A0 l0.length l0) (hc0:l0.length≤c0) (h:zo.idx z67 (fun v=>jE.f v.f0 v.f1 v.f2 |>.map (!·)) k l0 0=some r) :
  Calls Tryz.prog 60 #[.slice A0 l0.length c0,.func (.func 61) #[] #[]] w fun e w'=>e=.returned (.bool (decide (0≤r)))∧Below w.heap.size w w':=by
 have HB:=Ak (Below.refl w.heap.size w)
 have HX:=fun w hr=>Ak (zo.idx1 k A0 c0 l0 r w hr hc0 h)
 have HR0:=Ak hr0;clear hr0 hc0 h
 go_enter Tryz.func60,Tryz.ntmps60
 go_wp2_with (first|(go_at_call 109;(with_reducible refine (HX _ HR0.out).out.mono ?_);rintro e w8 ⟨rfl,hb⟩;replace HB:=BS HB hb))
 go_ret
 exact ⟨et,bl HB⟩
theorem zo.has2 (k:Nat) (A0:Option Addr) (c0:Nat) (l0:List S71) (r:Int) (w:World) (hr0:Kd.C k71 w A0 l0.length l0) (hc0:l0.length≤c0) (h:zo.idx z71 (fun v=>zQ.f v.f1 0 16777215 |>.map (!·)) k l0 0=some r) :
  Calls Tryz.prog 63 #[.slice A0 l0.length c0,.func (.func 64) #[] #[]] w fun e w'=>e=.returned (.bool (decide (0≤r)))∧Below w.heap.size w w':=by
 have HB:=Ak (Below.refl w.heap.size w)
 have HX:=fun w hr=>Ak (zo.idx2 k A0 c0 l0 r w hr hc0 h)
 have HR0:=Ak hr0;clear hr0 hc0 h
 go_enter Tryz.func63,Tryz.ntmps63
 go_wp2_with (first|(go_at_call 110;(with_reducible refine (HX _ HR0.out).out.mono ?_);rintro e w8 ⟨rfl,hb⟩;replace HB:=BS HB hb))
 go_ret
 exact ⟨et,bl HB⟩
theorem zo.has3 (k:Nat) (A0:Option Addr) (c0:Nat) (l0:List Int) (r:Int) (w:World) (hr0:Kd.C (Kd.int .i64) w A0 l0.length l0) (hc0:l0.length≤c0) (h:zo.idx 0 (fun v=>zQ.f v 0 16777215 |>.map (!·)) k l0 0=some r) :
  Calls Tryz.prog 65 #[.slice A0 l0.length c0,.func (.func 66) #[] #[]] w fun e w'=>e=.returned (.bool (decide (0≤r)))∧Below w.heap.size w w':=by
 have HB:=Ak (Below.refl w.heap.size w)
 have HX:=fun w hr=>Ak (zo.idx3 k A0 c0 l0 r w hr hc0 h)
 have HR0:=Ak hr0;clear hr0 hc0 h
 go_enter Tryz.func65,Tryz.ntmps65
 go_wp2_with (first|(go_at_call 111;(with_reducible refine (HX _ HR0.out).out.mono ?_);rintro e w8 ⟨rfl,hb⟩;replace HB:=BS HB hb))
 go_ret
 exact ⟨et,bl HB⟩
theorem zo.has4 (k:Nat) (A0:Option Addr) (c0:Nat) (l0:List ByteArray) (r:Int) (w:World) (hr0:Kd.C Kd.string w A0 l0.length l0) (hc0:l0.length≤c0) (h:zo.idx ByteArray.empty (fun v=>zo.short v |>.map (!·)) k l0 0=some r) :
  Calls Tryz.prog 67 #[.slice A0 l0.length c0,.func (.func 68) #[] #[]] w fun e w'=>e=.returned (.bool (decide (0≤r)))∧Below w.heap.size w w':=by
 have HB:=Ak (Below.refl w.heap.size w)
 have HX:=fun w hr=>Ak (zo.idx4 k A0 c0 l0 r w hr hc0 h)
 have HR0:=Ak hr0;clear hr0 hc0 h
 go_enter Tryz.func67,Tryz.ntmps67
 go_wp2_with (first|(go_at_call 112;(with_reducible refine (HX _ HR0.out).out.mono ?_);rintro e w8 ⟨rfl,hb⟩;replace HB:=BS HB hb))
 go_ret
 exact ⟨et,bl HB⟩
def zo.wi (x lo hi:Int):Bool:=decide (lo≤x) && decide (x≤hi)
theorem zo.wi_eq (x lo hi:Int):zQ.f x lo hi=some (zo.wi x lo hi):=by unfold zQ.f zo.wi;by_cases h:lo≤x <;> simp [h]
def zo.c1 (yR yN:Int) (n3 n4 n5 n7:Nat):Bool:=!zo.wi yN 1 250 || (!zo.wi yR 0 yN || (!zo.wi (n3:Int) 1 2000 || (decide (500<n4) || (decide (60<n5) || decide (1000<n7)))))
def zo.c2 (n3 n5 n8 n9:Nat) (qX:Int):Bool:=(decide (n8≠0) && decide (n8≠n3)) || ((decide (n9≠0) && decide (n9≠n5)) || decide (qX<0))
def zo.f (yR:Int) (yX:Bool) (yN:Int) (xZ:List Int) (qc:List (S67)) (xu:List (S71)) (qX:Int) (qR:ByteArray) (xA:List Int) (yU:List ByteArray):Option Bool :=
 if zo.c1 yR yN xZ.length qc.length xu.length qR.size=true then some false else if zo.c2 xZ.length xu.length xA.length yU.length qX=true then some false else
 (zo.idx z67 (fun v=>jE.f v.f0 v.f1 v.f2 |>.map (!·)) (qc.length+1) qc 0).bind fun r0=>if 0≤r0 then some false else (zo.idx z71 (fun v=>zQ.f v.f1 0 16777215 |>.map (!·)) (xu.length+1) xu 0).bind fun r1=>if 0≤r1 then some false else (zo.idx 0 (fun v=>zQ.f v 0 16777215 |>.map (!·)) (xA.length+1) xA 0).bind fun r2=>if 0≤r2 then some false else (zo.idx ByteArray.empty (fun v=>zo.short v |>.map (!·)) (yU.length+1) yU 0).bind fun r3=>if 0≤r3 then some false else some true
theorem zo.calls (yR:Int) (yX:Bool) (yN:Int) (Qr:Option Addr) (Qs:Nat) (xZ:List Int) (Ql:Option Addr) (Qm:Nat) (qc:List (S67)) (Xl:Option Addr) (Xm:Nat) (xu:List (S71)) (qX:Int) (qR:ByteArray) (Yn:Option Addr) (Yo:Nat) (xA:List Int) (Z8:Option Addr) (Z9:Nat) (yU:List ByteArray) (r:Bool) (w:World) (J7:Kd.C (Kd.int .u32) w Qr xZ.length xZ) (J8:xZ.length≤Qs) (J9:Kd.C k67 w Ql qc.length qc) (Ko:qc.length≤Qm) (Kq:Kd.C k71 w Xl xu.length xu) (Kr:xu.length≤Xm) (Kt:Kd.C (Kd.int .i64) w Yn xA.length xA) (Ku:xA.length≤Yo) (Kv:Kd.C Kd.string w Z8 yU.length yU) (Kw:yU.length≤Z9) (h:zo.f yR yX yN xZ qc xu qX qR xA yU=some r) :
  Calls Tryz.prog 36 #[.agg #[.int .i64 yR,.bool yX,.int .i64 yN,.slice Qr xZ.length Qs,.slice Ql qc.length Qm,.slice Xl xu.length Xm,.int .i64 qX,.string qR,.slice Yn xA.length Yo,.slice Z8 yU.length Z9]] w fun e w'=>e=.returned (.bool r)∧Below w.heap.size w w':=by
 have hu44:=Tryz.underlying56
 have hu85:=Tryz.underlying67
 have hu89:=Tryz.underlying71
 have HR0_3:=Ak J7;have HC0_3:=Ak J8;clear J7 J8;have Jf:=Ak J9;have Ky:=Ak Ko;clear J9 Ko;have Kz:=Ak Kq;have HC0_5:=Ak Kr;clear Kq Kr;have QS:=Ak Kt;have Jw:=Ak Ku;clear Kt Ku;have HR0_9:=Ak Kv;have HC0_9:=Ak Kw;clear Kv Kw
 have HB:=Ak (Below.refl w.heap.size w)
 have W1:=Ak (zo.wi_eq yN 1 250)
 have W2:=Ak (zo.wi_eq yR 0 yN)
 have W3:=Ak (zo.wi_eq (xZ.length:Int) 1 2000)
 unfold zo.f at h
 obtain ⟨X1,hX1⟩:∃ x,zo.c1 yR yN xZ.length qc.length xu.length qR.size=x:=⟨_,rfl⟩
 obtain ⟨X2,hX2⟩:∃ x,zo.c2 xZ.length xu.length xA.length yU.length qX=x:=⟨_,rfl⟩
 rw [hX1,hX2] at h
 have HX1:=Ak hX1;have HX2:=Ak hX2;have H:=Ak h;clear hX1 hX2 h
 go_enter Tryz.func36,Tryz.ntmps36
 go_upto_region 1 with (first|((with_reducible refine zB (N:=1) rfl ?_);(try (refine yL (by rfl) ?_;dsimp only));refine zK ?hg (N:=1) ?hd (cs:=#[.int .i64 yR,.bool yX,.int .i64 yN,.slice Qr xZ.length Qs,.slice Ql qc.length Qm,.slice Xl xu.length Xm,.int .i64 qX,.string qR,.slice Yn xA.length Yo,.slice Z8 yU.length Z9]) (t:=56) ?hr ?_;(case hd=>rfl);(case hg=>rfl);(case hr=>first|(go_simp;done)|(go_simp;rfl));intro kT hg w3 hbox hb;have yI:=Ak (hbox);have GE119:=Ak ((by rw [hg];exact (zH (bl HB))):w.heap.size≤kT);replace HB:=BS HB hb;clear hb hbox hg))
 (try simp only [Act.put,List.setIfInBounds_toArray,List.set_cons_zero,List.set_cons_succ])
 go_cut [39] (fun v39 wc=>v39=.bool X1∧zh (wc.heap[kT]?=some (.cells #[.int .i64 yR,.bool yX,.int .i64 yN,.slice Qr xZ.length Qs,.slice Ql qc.length Qm,.slice Xl xu.length Xm,.int .i64 qX,.string qR,.slice Yn xA.length Yo,.slice Z8 yU.length Z9] 56 (0,0)))∧zh (Below w.heap.size w wc))
 case first =>
  clear HX2 H
  obtain ⟨hcz_0,hcz_1,hcz_2,hcz_3,hcz_4,hcz_5,hcz_6,hcz_7,KA,QT,hfz_0,hfz_1,hfz_2,hfz_3,hfz_4,hfz_5,hfz_6,hfz_7,KC,QU⟩:=jV yI.out
  obtain ⟨b1,hb1⟩:∃ b,zo.wi yN 1 250=b:=⟨_,rfl⟩
  obtain ⟨b2,hb2⟩:∃ b,zo.wi yR 0 yN=b:=⟨_,rfl⟩
  obtain ⟨b3,hb3⟩:∃ b,zo.wi (xZ.length:Int) 1 2000=b:=⟨_,rfl⟩
  have hX1:=HX1.out
  unfold zo.c1 at hX1
  rw [hb1,hb2,hb3] at hX1
  rw [hb1] at W1
  rw [hb2] at W2
  rw [hb3] at W3
  clear hb1 hb2 hb3 HX1
  replace HX1:=Ak hX1
  clear hX1
  cases b1
  ·go_wp2_with (first|(go_at_call 35;(with_reducible refine (zQ.calls yN 1 250 _ _ W1.out).mono ?_);rintro e w4 ⟨rfl,⟨nd,rfl⟩⟩)|(go_at_call 35;(with_reducible refine (zQ.calls yR 0 yN _ _ W2.out).mono ?_);rintro e w4 ⟨rfl,⟨nd,rfl⟩⟩)|(go_at_call 35;(with_reducible refine (zQ.calls (xZ.length:Int) 1 2000 _ _ W3.out).mono ?_);rintro e w4 ⟨rfl,⟨nd,rfl⟩⟩))
   go_meet
   case rel=>exact ⟨by rw [← HX1.out];first|rfl|(simp;done)|(simp [*];done)|(simp;omega),⟨bo yI⟩,⟨bl HB⟩⟩
  ·cases b2
   ·go_wp2_with (first|(go_at_call 35;(with_reducible refine (zQ.calls yN 1 250 _ _ W1.out).mono ?_);rintro e w4 ⟨rfl,⟨nd,rfl⟩⟩)|(go_at_call 35;(with_reducible refine (zQ.calls yR 0 yN _ _ W2.out).mono ?_);rintro e w4 ⟨rfl,⟨nd,rfl⟩⟩)|(go_at_call 35;(with_reducible refine (zQ.calls (xZ.length:Int) 1 2000 _ _ W3.out).mono ?_);rintro e w4 ⟨rfl,⟨nd,rfl⟩⟩))
    go_meet
    case rel=>exact ⟨by rw [← HX1.out];first|rfl|(simp;done)|(simp [*];done)|(simp;omega),⟨bo yI⟩,⟨bl HB⟩⟩
   ·cases b3
    ·go_wp2_with (first|(go_at_call 35;(with_reducible refine (zQ.calls yN 1 250 _ _ W1.out).mono ?_);rintro e w4 ⟨rfl,⟨nd,rfl⟩⟩)|(go_at_call 35;(with_reducible refine (zQ.calls yR 0 yN _ _ W2.out).mono ?_);rintro e w4 ⟨rfl,⟨nd,rfl⟩⟩)|(go_at_call 35;(with_reducible refine (zQ.calls (xZ.length:Int) 1 2000 _ _ W3.out).mono ?_);rintro e w4 ⟨rfl,⟨nd,rfl⟩⟩))
     go_meet
     case rel=>exact ⟨by rw [← HX1.out];first|rfl|(simp;done)|(simp [*];done)|(simp;omega),⟨bo yI⟩,⟨bl HB⟩⟩
    ·by_cases q3:500<qc.length
     ·have d3:=dt q3
      have e3:=eq_true q3
      have f3:(500<(qc.length:Int))=True:=eq_true (by omega)
      clear q3
      go_wp2_with (first|(go_at_call 35;(with_reducible refine (zQ.calls yN 1 250 _ _ W1.out).mono ?_);rintro e w4 ⟨rfl,⟨nd,rfl⟩⟩)|(go_at_call 35;(with_reducible refine (zQ.calls yR 0 yN _ _ W2.out).mono ?_);rintro e w4 ⟨rfl,⟨nd,rfl⟩⟩)|(go_at_call 35;(with_reducible refine (zQ.calls (xZ.length:Int) 1 2000 _ _ W3.out).mono ?_);rintro e w4 ⟨rfl,⟨nd,rfl⟩⟩))
      go_meet
      case rel=>exact ⟨by rw [← HX1.out];first|rfl|(simp;done)|(simp [*];done)|(simp;omega),⟨bo yI⟩,⟨bl HB⟩⟩
     ·have d3:=df q3
      have e3:=eq_false q3
      have f3:(500<(qc.length:Int))=False:=eq_false (by omega)
      clear q3
      by_cases q4:60<xu.length
      ·have d4:=dt q4
       have e4:=eq_true q4
       have f4:(60<(xu.length:Int))=True:=eq_true (by omega)
       clear q4
       go_wp2_with (first|(go_at_call 35;(with_reducible refine (zQ.calls yN 1 250 _ _ W1.out).mono ?_);rintro e w4 ⟨rfl,⟨nd,rfl⟩⟩)|(go_at_call 35;(with_reducible refine (zQ.calls yR 0 yN _ _ W2.out).mono ?_);rintro e w4 ⟨rfl,⟨nd,rfl⟩⟩)|(go_at_call 35;(with_reducible refine (zQ.calls (xZ.length:Int) 1 2000 _ _ W3.out).mono ?_);rintro e w4 ⟨rfl,⟨nd,rfl⟩⟩))
       go_meet
       case rel=>exact ⟨by rw [← HX1.out];first|rfl|(simp;done)|(simp [*];done)|(simp;omega),⟨bo yI⟩,⟨bl HB⟩⟩
      ·have d4:=df q4
       have e4:=eq_false q4
       have f4:(60<(xu.length:Int))=False:=eq_false (by omega)
       clear q4
       by_cases q5:1000<qR.size
       ·have d5:=dt q5
        have e5:=eq_true q5
        have f5:(1000<(qR.size:Int))=True:=eq_true (by omega)
        clear q5
        go_wp2_with (first|(go_at_call 35;(with_reducible refine (zQ.calls yN 1 250 _ _ W1.out).mono ?_);rintro e w4 ⟨rfl,⟨nd,rfl⟩⟩)|(go_at_call 35;(with_reducible refine (zQ.calls yR 0 yN _ _ W2.out).mono ?_);rintro e w4 ⟨rfl,⟨nd,rfl⟩⟩)|(go_at_call 35;(with_reducible refine (zQ.calls (xZ.length:Int) 1 2000 _ _ W3.out).mono ?_);rintro e w4 ⟨rfl,⟨nd,rfl⟩⟩))
        go_meet
        case rel=>exact ⟨by rw [← HX1.out];first|rfl|(simp;done)|(simp [*];done)|(simp;omega),⟨bo yI⟩,⟨bl HB⟩⟩
       ·have d5:=df q5
        have e5:=eq_false q5
        have f5:(1000<(qR.size:Int))=False:=eq_false (by omega)
        clear q5
        go_wp2_with (first|(go_at_call 35;(with_reducible refine (zQ.calls yN 1 250 _ _ W1.out).mono ?_);rintro e w4 ⟨rfl,⟨nd,rfl⟩⟩)|(go_at_call 35;(with_reducible refine (zQ.calls yR 0 yN _ _ W2.out).mono ?_);rintro e w4 ⟨rfl,⟨nd,rfl⟩⟩)|(go_at_call 35;(with_reducible refine (zQ.calls (xZ.length:Int) 1 2000 _ _ W3.out).mono ?_);rintro e w4 ⟨rfl,⟨nd,rfl⟩⟩))
        go_meet
        case rel=>exact ⟨by rw [← HX1.out];first|rfl|(simp;done)|(simp [*];done)|(simp;omega),⟨bo yI⟩,⟨bl HB⟩⟩
 case rest =>
  clear HX1 W1 W2 W3
  obtain ⟨rfl,yI,HB⟩:=hcut
  cases X1
  case true =>
   have h:=H.out
   rw [if_pos rfl] at h
   obtain rfl:=Option.some.inj h
   clear h
   go_wp2
   go_ret
   exact ⟨et,bl HB⟩
  case false =>
   have h:=H.out
   rw [if_neg (by decide)] at h
   replace H:=Ak h
   clear h
   go_upto_region 3 with (fail)
   go_cut [72] (fun v72 wc=>v72=.bool X2∧zh (wc.heap[kT]?=some (.cells #[.int .i64 yR,.bool yX,.int .i64 yN,.slice Qr xZ.length Qs,.slice Ql qc.length Qm,.slice Xl xu.length Xm,.int .i64 qX,.string qR,.slice Yn xA.length Yo,.slice Z8 yU.length Z9] 56 (0,0)))∧zh (Below w.heap.size w wc))
   case first =>
    clear H
    obtain ⟨hcz_0,hcz_1,hcz_2,hcz_3,hcz_4,hcz_5,hcz_6,hcz_7,KA,QT,hfz_0,hfz_1,hfz_2,hfz_3,hfz_4,hfz_5,hfz_6,hfz_7,KC,QU⟩:=jV yI.out
    have hX2:=HX2.out
    unfold zo.c2 at hX2
    replace HX2:=Ak hX2
    clear hX2
    by_cases q1:xA.length=0
    ·have ea1:(xA.length=0)=True:=eq_true q1
     have eb1:((xA.length:Int)=0)=True:=eq_true (by omega)
     have ec1:((xA.length:Int) == 0)=true:=bT (by omega)
     have ed1:((xA.length:Int) != 0)=false:=nF (by omega)
     have eg1:decide (xA.length≠0)=false:=df (fun h=>h q1)
     have ef1:(xA=[])=True:=eq_true (List.eq_nil_of_length_eq_zero q1)
     clear q1
     by_cases q3:yU.length=0
     ·have ea3:(yU.length=0)=True:=eq_true q3
      have eb3:((yU.length:Int)=0)=True:=eq_true (by omega)
      have ec3:((yU.length:Int) == 0)=true:=bT (by omega)
      have ed3:((yU.length:Int) != 0)=false:=nF (by omega)
      have eg3:decide (yU.length≠0)=false:=df (fun h=>h q3)
      have ef3:(yU=[])=True:=eq_true (List.eq_nil_of_length_eq_zero q3)
      clear q3
      by_cases q9:qX<0
      ·have d9:=dt q9
       have e9:=eq_true q9
       clear q9
       go_wp2
       go_meet
       case rel=>exact ⟨by rw [← HX2.out];first|rfl|(simp;done)|(simp [*];done)|(simp;omega),⟨bo yI⟩,⟨bl HB⟩⟩
      ·have d9:=df q9
       have e9:=eq_false q9
       clear q9
       go_wp2
       go_meet
       case rel=>exact ⟨by rw [← HX2.out];first|rfl|(simp;done)|(simp [*];done)|(simp;omega),⟨bo yI⟩,⟨bl HB⟩⟩
     ·have ea3:(yU.length=0)=False:=eq_false q3
      have eb3:((yU.length:Int)=0)=False:=eq_false (by omega)
      have ec3:((yU.length:Int) == 0)=false:=bF (by omega)
      have ed3:((yU.length:Int) != 0)=true:=nT (by omega)
      have eg3:decide (yU.length≠0)=true:=dt q3
      have ef3:(yU=[])=False:=eq_false (fun h=>q3 (by rw [h];rfl))
      clear q3
      by_cases q4:yU.length=xu.length
      ·have ea4:(yU.length=xu.length)=True:=eq_true q4
       have eb4:((yU.length:Int)=(xu.length:Int))=True:=eq_true (by omega)
       have ec4:((yU.length:Int) == (xu.length:Int))=true:=bT (by omega)
       have ed4:((yU.length:Int) != (xu.length:Int))=false:=nF (by omega)
       have eg4:decide (yU.length≠xu.length)=false:=df (fun h=>h q4)
       clear q4
       by_cases q9:qX<0
       ·have d9:=dt q9
        have e9:=eq_true q9
        clear q9
        go_wp2
        go_meet
        case rel=>exact ⟨by rw [← HX2.out];first|rfl|(simp;done)|(simp [*];done)|(simp;omega),⟨bo yI⟩,⟨bl HB⟩⟩
       ·have d9:=df q9
        have e9:=eq_false q9
        clear q9
        go_wp2
        go_meet
        case rel=>exact ⟨by rw [← HX2.out];first|rfl|(simp;done)|(simp [*];done)|(simp;omega),⟨bo yI⟩,⟨bl HB⟩⟩
      ·have ea4:(yU.length=xu.length)=False:=eq_false q4
       have eb4:((yU.length:Int)=(xu.length:Int))=False:=eq_false (by omega)
       have ec4:((yU.length:Int) == (xu.length:Int))=false:=bF (by omega)
       have ed4:((yU.length:Int) != (xu.length:Int))=true:=nT (by omega)
       have eg4:decide (yU.length≠xu.length)=true:=dt q4
       clear q4
       go_wp2
       go_meet
       case rel=>exact ⟨by rw [← HX2.out];first|rfl|(simp;done)|(simp [*];done)|(simp;omega),⟨bo yI⟩,⟨bl HB⟩⟩
    ·have ea1:(xA.length=0)=False:=eq_false q1
     have eb1:((xA.length:Int)=0)=False:=eq_false (by omega)
     have ec1:((xA.length:Int) == 0)=false:=bF (by omega)
     have ed1:((xA.length:Int) != 0)=true:=nT (by omega)
     have eg1:decide (xA.length≠0)=true:=dt q1
     have ef1:(xA=[])=False:=eq_false (fun h=>q1 (by rw [h];rfl))
     clear q1
     by_cases q2:xA.length=xZ.length
     ·have ea2:(xA.length=xZ.length)=True:=eq_true q2
      have eb2:((xA.length:Int)=(xZ.length:Int))=True:=eq_true (by omega)
      have ec2:((xA.length:Int) == (xZ.length:Int))=true:=bT (by omega)
      have ed2:((xA.length:Int) != (xZ.length:Int))=false:=nF (by omega)
      have eg2:decide (xA.length≠xZ.length)=false:=df (fun h=>h q2)
      clear q2
      by_cases q3:yU.length=0
      ·have ea3:(yU.length=0)=True:=eq_true q3
       have eb3:((yU.length:Int)=0)=True:=eq_true (by omega)
       have ec3:((yU.length:Int) == 0)=true:=bT (by omega)
       have ed3:((yU.length:Int) != 0)=false:=nF (by omega)
       have eg3:decide (yU.length≠0)=false:=df (fun h=>h q3)
       have ef3:(yU=[])=True:=eq_true (List.eq_nil_of_length_eq_zero q3)
       clear q3
       by_cases q9:qX<0
       ·have d9:=dt q9
        have e9:=eq_true q9
        clear q9
        go_wp2
        go_meet
        case rel=>exact ⟨by rw [← HX2.out];first|rfl|(simp;done)|(simp [*];done)|(simp;omega),⟨bo yI⟩,⟨bl HB⟩⟩
       ·have d9:=df q9
        have e9:=eq_false q9
        clear q9
        go_wp2
        go_meet
        case rel=>exact ⟨by rw [← HX2.out];first|rfl|(simp;done)|(simp [*];done)|(simp;omega),⟨bo yI⟩,⟨bl HB⟩⟩
      ·have ea3:(yU.length=0)=False:=eq_false q3
       have eb3:((yU.length:Int)=0)=False:=eq_false (by omega)
       have ec3:((yU.length:Int) == 0)=false:=bF (by omega)
       have ed3:((yU.length:Int) != 0)=true:=nT (by omega)
       have eg3:decide (yU.length≠0)=true:=dt q3
       have ef3:(yU=[])=False:=eq_false (fun h=>q3 (by rw [h];rfl))
       clear q3
       by_cases q4:yU.length=xu.length
       ·have ea4:(yU.length=xu.length)=True:=eq_true q4
        have eb4:((yU.length:Int)=(xu.length:Int))=True:=eq_true (by omega)
        have ec4:((yU.length:Int) == (xu.length:Int))=true:=bT (by omega)
        have ed4:((yU.length:Int) != (xu.length:Int))=false:=nF (by omega)
        have eg4:decide (yU.length≠xu.length)=false:=df (fun h=>h q4)
        clear q4
        by_cases q9:qX<0
        ·have d9:=dt q9
         have e9:=eq_true q9
         clear q9
         go_wp2
         go_meet
         case rel=>exact ⟨by rw [← HX2.out];first|rfl|(simp;done)|(simp [*];done)|(simp;omega),⟨bo yI⟩,⟨bl HB⟩⟩
        ·have d9:=df q9
         have e9:=eq_false q9
         clear q9
         go_wp2
         go_meet
         case rel=>exact ⟨by rw [← HX2.out];first|rfl|(simp;done)|(simp [*];done)|(simp;omega),⟨bo yI⟩,⟨bl HB⟩⟩
       ·have ea4:(yU.length=xu.length)=False:=eq_false q4
        have eb4:((yU.length:Int)=(xu.length:Int))=False:=eq_false (by omega)
        have ec4:((yU.length:Int) == (xu.length:Int))=false:=bF (by omega)
        have ed4:((yU.length:Int) != (xu.length:Int))=true:=nT (by omega)
        have eg4:decide (yU.length≠xu.length)=true:=dt q4
        clear q4
        go_wp2
        go_meet
        case rel=>exact ⟨by rw [← HX2.out];first|rfl|(simp;done)|(simp [*];done)|(simp;omega),⟨bo yI⟩,⟨bl HB⟩⟩
     ·have ea2:(xA.length=xZ.length)=False:=eq_false q2
      have eb2:((xA.length:Int)=(xZ.length:Int))=False:=eq_false (by omega)
      have ec2:((xA.length:Int) == (xZ.length:Int))=false:=bF (by omega)
      have ed2:((xA.length:Int) != (xZ.length:Int))=true:=nT (by omega)
      have eg2:decide (xA.length≠xZ.length)=true:=dt q2
      clear q2
      go_wp2
      go_meet
      case rel=>exact ⟨by rw [← HX2.out];first|rfl|(simp;done)|(simp [*];done)|(simp;omega),⟨bo yI⟩,⟨bl HB⟩⟩
   case rest =>
    clear HX2
    obtain ⟨rfl,yI,HB⟩:=hcut
    cases X2
    case true =>
     have h:=H.out
     rw [if_pos rfl] at h
     obtain rfl:=Option.some.inj h
     clear h
     go_wp2
     go_ret
     exact ⟨et,bl HB⟩
    case false =>
     have h:=H.out
     rw [if_neg (by decide)] at h
     clear H
     have hcz_4:wc.cell? ⟨kT,4,none⟩=some (.slice Ql qc.length Qm):=(zi yI.out 4).trans rfl
     have hfz_4:=zn yI.out 4
     have hcz_5:wc.cell? ⟨kT,5,none⟩=some (.slice Xl xu.length Xm):=(zi yI.out 5).trans rfl
     have hfz_5:=zn yI.out 5
     have KA:wc.cell? ⟨kT,8,none⟩=some (.slice Yn xA.length Yo):=(zi yI.out 8).trans rfl
     have KC:=zn yI.out 8
     have QT:wc.cell? ⟨kT,9,none⟩=some (.slice Z8 yU.length Z9):=(zi yI.out 9).trans rfl
     have QU:=zn yI.out 9
     replace h:=Option.bind_eq_some_iff.mp h
     obtain ⟨r0,B00,h⟩:=h
     have B0:=Ak B00;clear B00
     by_cases q0:0≤r0
     ·rw [if_pos q0] at h
      have d0:=dt q0
      clear q0
      obtain rfl:=Option.some.inj h
      clear h
      go_wp2_with (first|(go_at_call 60;(with_reducible refine (zo.has1 (qc.length+1) _ _ qc r0 _ ?side0 Ky.out B0.out).mono ?_);(case side0=>exact co Jf HB);rintro e w40 ⟨rfl,hb⟩;replace yI:=BB yI hb;replace HB:=BS HB hb;have hcz_5:w40.cell? ⟨kT,5,none⟩=some (.slice Xl xu.length Xm):=(zi yI.out 5).trans rfl;have hfz_5:=zn yI.out 5;have KA:w40.cell? ⟨kT,8,none⟩=some (.slice Yn xA.length Yo):=(zi yI.out 8).trans rfl;have KC:=zn yI.out 8;have QT:w40.cell? ⟨kT,9,none⟩=some (.slice Z8 yU.length Z9):=(zi yI.out 9).trans rfl;have QU:=zn yI.out 9))
      go_ret
      exact ⟨by first|rfl|(simp;done)|(simp [*];done),bl HB⟩
     ·rw [if_neg q0] at h
      have d0:=df q0
      clear q0
      replace h:=Option.bind_eq_some_iff.mp h
      obtain ⟨r1,B10,h⟩:=h
      have B1:=Ak B10;clear B10
      by_cases q1:0≤r1
      ·rw [if_pos q1] at h
       have d1:=dt q1
       clear q1
       obtain rfl:=Option.some.inj h
       clear h
       go_wp2_with (first|(go_at_call 60;(with_reducible refine (zo.has1 (qc.length+1) _ _ qc r0 _ ?side0 Ky.out B0.out).mono ?_);(case side0=>exact co Jf HB);rintro e w40 ⟨rfl,hb⟩;replace yI:=BB yI hb;replace HB:=BS HB hb;have hcz_5:w40.cell? ⟨kT,5,none⟩=some (.slice Xl xu.length Xm):=(zi yI.out 5).trans rfl;have hfz_5:=zn yI.out 5;have KA:w40.cell? ⟨kT,8,none⟩=some (.slice Yn xA.length Yo):=(zi yI.out 8).trans rfl;have KC:=zn yI.out 8;have QT:w40.cell? ⟨kT,9,none⟩=some (.slice Z8 yU.length Z9):=(zi yI.out 9).trans rfl;have QU:=zn yI.out 9)|(go_at_call 63;(with_reducible refine (zo.has2 (xu.length+1) _ _ xu r1 _ ?yQ HC0_5.out B1.out).mono ?_);(case yQ=>exact co Kz HB);rintro e w41 ⟨rfl,hb⟩;replace yI:=BB yI hb;replace HB:=BS HB hb;have KA:w41.cell? ⟨kT,8,none⟩=some (.slice Yn xA.length Yo):=(zi yI.out 8).trans rfl;have KC:=zn yI.out 8;have QT:w41.cell? ⟨kT,9,none⟩=some (.slice Z8 yU.length Z9):=(zi yI.out 9).trans rfl;have QU:=zn yI.out 9))
       go_ret
       exact ⟨by first|rfl|(simp;done)|(simp [*];done),bl HB⟩
      ·rw [if_neg q1] at h
       have d1:=df q1
       clear q1
       replace h:=Option.bind_eq_some_iff.mp h
       obtain ⟨r2,B20,h⟩:=h
       have B2:=Ak B20;clear B20
       by_cases q2:0≤r2
       ·rw [if_pos q2] at h
        have d2:=dt q2
        clear q2
        obtain rfl:=Option.some.inj h
        clear h
        go_wp2_with (first|(go_at_call 60;(with_reducible refine (zo.has1 (qc.length+1) _ _ qc r0 _ ?side0 Ky.out B0.out).mono ?_);(case side0=>exact co Jf HB);rintro e w40 ⟨rfl,hb⟩;replace yI:=BB yI hb;replace HB:=BS HB hb;have hcz_5:w40.cell? ⟨kT,5,none⟩=some (.slice Xl xu.length Xm):=(zi yI.out 5).trans rfl;have hfz_5:=zn yI.out 5;have KA:w40.cell? ⟨kT,8,none⟩=some (.slice Yn xA.length Yo):=(zi yI.out 8).trans rfl;have KC:=zn yI.out 8;have QT:w40.cell? ⟨kT,9,none⟩=some (.slice Z8 yU.length Z9):=(zi yI.out 9).trans rfl;have QU:=zn yI.out 9)|(go_at_call 63;(with_reducible refine (zo.has2 (xu.length+1) _ _ xu r1 _ ?yQ HC0_5.out B1.out).mono ?_);(case yQ=>exact co Kz HB);rintro e w41 ⟨rfl,hb⟩;replace yI:=BB yI hb;replace HB:=BS HB hb;have KA:w41.cell? ⟨kT,8,none⟩=some (.slice Yn xA.length Yo):=(zi yI.out 8).trans rfl;have KC:=zn yI.out 8;have QT:w41.cell? ⟨kT,9,none⟩=some (.slice Z8 yU.length Z9):=(zi yI.out 9).trans rfl;have QU:=zn yI.out 9)|(go_at_call 65;(with_reducible refine (zo.has3 (xA.length+1) _ _ xA r2 _ ?xG Jw.out B2.out).mono ?_);(case xG=>exact co QS HB);rintro e w42 ⟨rfl,hb⟩;replace yI:=BB yI hb;replace HB:=BS HB hb;have QT:w42.cell? ⟨kT,9,none⟩=some (.slice Z8 yU.length Z9):=(zi yI.out 9).trans rfl;have QU:=zn yI.out 9))
        go_ret
        exact ⟨by first|rfl|(simp;done)|(simp [*];done),bl HB⟩
       ·rw [if_neg q2] at h
        have d2:=df q2
        clear q2
        replace h:=Option.bind_eq_some_iff.mp h
        obtain ⟨r3,B30,h⟩:=h
        have B3:=Ak B30;clear B30
        by_cases q3:0≤r3
        ·rw [if_pos q3] at h
         have d3:=dt q3
         clear q3
         obtain rfl:=Option.some.inj h
         clear h
         go_wp2_with (first|(go_at_call 60;(with_reducible refine (zo.has1 (qc.length+1) _ _ qc r0 _ ?side0 Ky.out B0.out).mono ?_);(case side0=>exact co Jf HB);rintro e w40 ⟨rfl,hb⟩;replace yI:=BB yI hb;replace HB:=BS HB hb;have hcz_5:w40.cell? ⟨kT,5,none⟩=some (.slice Xl xu.length Xm):=(zi yI.out 5).trans rfl;have hfz_5:=zn yI.out 5;have KA:w40.cell? ⟨kT,8,none⟩=some (.slice Yn xA.length Yo):=(zi yI.out 8).trans rfl;have KC:=zn yI.out 8;have QT:w40.cell? ⟨kT,9,none⟩=some (.slice Z8 yU.length Z9):=(zi yI.out 9).trans rfl;have QU:=zn yI.out 9)|(go_at_call 63;(with_reducible refine (zo.has2 (xu.length+1) _ _ xu r1 _ ?yQ HC0_5.out B1.out).mono ?_);(case yQ=>exact co Kz HB);rintro e w41 ⟨rfl,hb⟩;replace yI:=BB yI hb;replace HB:=BS HB hb;have KA:w41.cell? ⟨kT,8,none⟩=some (.slice Yn xA.length Yo):=(zi yI.out 8).trans rfl;have KC:=zn yI.out 8;have QT:w41.cell? ⟨kT,9,none⟩=some (.slice Z8 yU.length Z9):=(zi yI.out 9).trans rfl;have QU:=zn yI.out 9)|(go_at_call 65;(with_reducible refine (zo.has3 (xA.length+1) _ _ xA r2 _ ?xG Jw.out B2.out).mono ?_);(case xG=>exact co QS HB);rintro e w42 ⟨rfl,hb⟩;replace yI:=BB yI hb;replace HB:=BS HB hb;have QT:w42.cell? ⟨kT,9,none⟩=some (.slice Z8 yU.length Z9):=(zi yI.out 9).trans rfl;have QU:=zn yI.out 9)|(go_at_call 67;(with_reducible refine (zo.has4 (yU.length+1) _ _ yU r3 _ ?qW HC0_9.out B3.out).mono ?_);(case qW=>exact co HR0_9 HB);rintro e w43 ⟨rfl,hb⟩;replace yI:=BB yI hb;replace HB:=BS HB hb))
         go_ret
         exact ⟨by first|rfl|(simp;done)|(simp [*];done),bl HB⟩
        ·rw [if_neg q3] at h
         have d3:=df q3
         clear q3
         obtain rfl:=Option.some.inj h
         clear h
         go_wp2_with (first|(go_at_call 60;(with_reducible refine (zo.has1 (qc.length+1) _ _ qc r0 _ ?side0 Ky.out B0.out).mono ?_);(case side0=>exact co Jf HB);rintro e w40 ⟨rfl,hb⟩;replace yI:=BB yI hb;replace HB:=BS HB hb;have hcz_5:w40.cell? ⟨kT,5,none⟩=some (.slice Xl xu.length Xm):=(zi yI.out 5).trans rfl;have hfz_5:=zn yI.out 5;have KA:w40.cell? ⟨kT,8,none⟩=some (.slice Yn xA.length Yo):=(zi yI.out 8).trans rfl;have KC:=zn yI.out 8;have QT:w40.cell? ⟨kT,9,none⟩=some (.slice Z8 yU.length Z9):=(zi yI.out 9).trans rfl;have QU:=zn yI.out 9)|(go_at_call 63;(with_reducible refine (zo.has2 (xu.length+1) _ _ xu r1 _ ?yQ HC0_5.out B1.out).mono ?_);(case yQ=>exact co Kz HB);rintro e w41 ⟨rfl,hb⟩;replace yI:=BB yI hb;replace HB:=BS HB hb;have KA:w41.cell? ⟨kT,8,none⟩=some (.slice Yn xA.length Yo):=(zi yI.out 8).trans rfl;have KC:=zn yI.out 8;have QT:w41.cell? ⟨kT,9,none⟩=some (.slice Z8 yU.length Z9):=(zi yI.out 9).trans rfl;have QU:=zn yI.out 9)|(go_at_call 65;(with_reducible refine (zo.has3 (xA.length+1) _ _ xA r2 _ ?xG Jw.out B2.out).mono ?_);(case xG=>exact co QS HB);rintro e w42 ⟨rfl,hb⟩;replace yI:=BB yI hb;replace HB:=BS HB hb;have QT:w42.cell? ⟨kT,9,none⟩=some (.slice Z8 yU.length Z9):=(zi yI.out 9).trans rfl;have QU:=zn yI.out 9)|(go_at_call 67;(with_reducible refine (zo.has4 (yU.length+1) _ _ yU r3 _ ?qW HC0_9.out B3.out).mono ?_);(case qW=>exact co HR0_9 HB);rintro e w43 ⟨rfl,hb⟩;replace yI:=BB yI hb;replace HB:=BS HB hb))
         go_ret
         exact ⟨by first|rfl|(simp;done)|(simp [*];done),bl HB⟩
end Go.Proofs.YtiekodnojmkfaaaGreatDoor.yD
