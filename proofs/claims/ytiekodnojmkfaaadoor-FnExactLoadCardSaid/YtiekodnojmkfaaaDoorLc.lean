import Derived.LaidEql
import Derived.Stop.Asserts
import Derived.RowKitTokens
import Derived.Shelf.RegionOpenPlain
import Derived.Shelf.Abstract
import Derived.Shelf.RegionOpen
import Derived.WalkKit
import Derived.OwnWalkIn
import Derived.TacticsInMore
import Derived.LoopNIn
import Derived.LoopIn
import Derived.Laws.EntriesVeiled
import Derived.LoopN
import Derived.WalkLawsBesides
import Derived.Test.YtiekodnojmkfaaaDoorLb
namespace Go.Proofs.YtiekodnojmkfaaaDoor.PFnExactLoad
open Go.RowKit Go.Proofs.YtiekodnojmkfaaaDoorW.PrintWords Go.Proofs.YtiekodnojmkfaaaDoorW.PrintLast Go.Proofs.YtiekodnojmkfaaaDoorW.PrintMore
attribute [local go_sem] max2_int min2_int max_two min_two max_three min_three max_four min_four
set_option linter.unusedVariables false
set_option linter.unusedSimpArgs false
section
open Go.Extern.Stop Go.Stop Go.Extern
theorem as_nil (t : Value) (w : World) :
    Calls Tryd.prog 14 #[.nilIface, t] w fun e w' => e = .returned (.bool false) ∧ w' = w := by
  go_enter Tryd.func14, Tryd.ntmps14
  go_wp2
  go_ret
  exact ⟨rfl, rfl⟩
theorem As.valueOf27 (t : Addr) (w : World) : (ReflectliteValue.unpack (.iface 53 (.pointer (some t)))).run Tryd.prog w
    = .ok (.agg #[.pointer (some ⟨1, 53, none⟩), .pointer (some ⟨w.heap.size, 0, none⟩), .int .u64 150]) (w.alloc (.cells #[.pointer (some t)] 53)) := by kernel_rfl
theorem As.type27 (a : Addr) (w : World) : (ReflectliteValue.methodAny (ReflectliteValue.valueError "reflectlite.Value.Type" 0) (fun t _ _ _ => ReflectliteType.toType t) #[.agg #[.pointer (some ⟨1, 53, none⟩), .pointer (some a), .int .u64 150]]).run Tryd.prog w
    = .ok (.iface 111 (.agg #[.pointer (some ⟨1, 53, none⟩)])) w := by kernel_rfl
theorem As.methodKind (h : Value) (w : World) : (Go.method 261 111 (.agg #[h]) "Kind").run Tryd.prog w = .ok (89, h) w := by kernel_rfl
theorem As.kind27 (w : World) : ((ReflectliteType.abiMethod fun t => (fun a : Nat => Value.int IntKind.u8 (a : Int)) <$> Rtype.kind t) #[.pointer (some ⟨1, 53, none⟩)]).run Tryd.prog w = .ok (.int .u8 22) w := by kernel_rfl
theorem As.kind25 (w : World) : ((ReflectliteType.abiMethod fun t => (fun a : Nat => Value.int IntKind.u8 (a : Int)) <$> Rtype.kind t) #[.pointer (some ⟨1, 51, none⟩)]).run Tryd.prog w = .ok (.int .u8 25) w := by kernel_rfl
theorem rlm (z : Sem Value) (f : TypeId → Addr → Nat → Nat → Sem Value) (v : Value) :
    ReflectliteValue.method z f #[v] = (do match ← ReflectliteValue.parts v with | none => z | some (t, a, fl) => f t a fl (fl % 32)) := rfl
theorem As.parts27 (a : Addr) (w : World) : (ReflectliteValue.parts (.agg #[.pointer (some ⟨1, 53, none⟩), .pointer (some a), .int .u64 150])).run Tryd.prog w = .ok (some (53, a, 150)) w := by kernel_rfl
theorem As.isNil27 (a p : Addr) (W : World) (ha : W.cell? a = some (.pointer (some p))) :
    (ReflectliteValue.method (ReflectliteValue.valueError "reflectlite.Value.IsNil" 0) ReflectliteValue.isNil #[.agg #[.pointer (some ⟨1, 53, none⟩), .pointer (some a), .int .u64 150]]).run Tryd.prog W = .ok (.bool false) W := by
  rw [rlm]
  simp only [Sem.run_bind, As.parts27, Result.andThen]
  simp [ReflectliteValue.isNil, loadVar, isAgg, underlying, Tryd.underlying53, ha, Result.andThen]
theorem As.methodElem (h : Value) (w : World) : (Go.method 261 111 (.agg #[h]) "Elem").run Tryd.prog w = .ok (100, .agg #[h]) w := by kernel_rfl
theorem As.methodImplements (h : Value) (w : World) : (Go.method 261 111 (.agg #[h]) "Implements").run Tryd.prog w = .ok (101, .agg #[h]) w := by kernel_rfl
theorem As.methodAssignableTo (h : Value) (w : World) : (Go.method 261 111 (.agg #[h]) "AssignableTo").run Tryd.prog w = .ok (98, .agg #[h]) w := by kernel_rfl
theorem As.elem27 (w : World) : (ReflectliteType.method ReflectliteType.elem #[.agg #[.pointer (some ⟨1, 53, none⟩)]]).run Tryd.prog w = .ok (.iface 111 (.agg #[.pointer (some ⟨1, 51, none⟩)])) w := by kernel_rfl
theorem As.implements25 (w : World) : (ReflectliteType.relation "Implements" ReflectliteType.implements_ #[.agg #[.pointer (some ⟨1, 51, none⟩)], .iface 111 (.agg #[.pointer (some ⟨1, 45, none⟩)])]).run Tryd.prog w = .ok (.bool true) w := by kernel_rfl
theorem As.typeOf25 (v : Value) (w : World) : (ReflectliteType.typeOf #[.iface 51 v]).run Tryd.prog w = .ok (.iface 111 (.agg #[.pointer (some ⟨1, 51, none⟩)])) w := by kernel_rfl
theorem As.assignable25 (w : World) : (ReflectliteType.relation "AssignableTo" ReflectliteType.assignableTo #[.agg #[.pointer (some ⟨1, 51, none⟩)], .iface 111 (.agg #[.pointer (some ⟨1, 51, none⟩)])]).run Tryd.prog w = .ok (.bool true) w := by kernel_rfl
theorem As.valueOf25 (e : Int) (w : World) : (ReflectliteValue.unpack (.iface 51 (.agg #[.int .i64 e]))).run Tryd.prog w
    = .ok (.agg #[.pointer (some ⟨1, 51, none⟩), .pointer (some ⟨w.heap.size, 0, none⟩), .int .u64 153]) (w.alloc (.cells #[.int .i64 e] 51)) := by kernel_rfl
theorem As.elemOf27 (w : World) : (Rtype.elem? 53).run Tryd.prog w = .ok (some 51) w := by kernel_rfl
theorem As.mk25 (p : Addr) (w : World) : (ReflectliteValue.mk 51 p ReflectliteValue.flagAddr).run Tryd.prog w = .ok (.agg #[.pointer (some ⟨1, 51, none⟩), .pointer (some p), .int .u64 409]) w := by kernel_rfl
theorem As.elemV27 (a p : Addr) (W : World) (ha : W.cell? a = some (.pointer (some p))) :
    (ReflectliteValue.method (ReflectliteValue.valueError "reflectlite.Value.Elem" 0) ReflectliteValue.elem #[.agg #[.pointer (some ⟨1, 53, none⟩), .pointer (some a), .int .u64 150]]).run Tryd.prog W
      = .ok (.agg #[.pointer (some ⟨1, 51, none⟩), .pointer (some p), .int .u64 409]) W := by
  rw [rlm]
  simp only [Sem.run_bind, As.parts27, Result.andThen]
  simp [ReflectliteValue.elem, loadVar, isAgg, underlying, Tryd.underlying53, ha, Result.andThen, As.elemOf27, As.mk25]
theorem rls (v x : Value) : ReflectliteValue.set #[v, x] = (do
    let (some (dst, a, fl), some (src, b, _)) := (← ReflectliteValue.parts v, ← ReflectliteValue.parts x)
      | unsupported (.noEntry "extern/(internal/reflectlite.Value).Set.zeroValue")
    if fl / ReflectliteValue.flagAddr % 2 == 0 then unsupported (.noEntry "extern/(internal/reflectlite.Value).Set.unaddressable")
    let val ← loadVar src b
    if ← Rtype.directlyAssignable dst src then storeVar dst a val
    else if ← Rtype.implements dst src then
      if (← Rtype.kind src) == 20 then
        match val with
        | .nilIface => unsupported (.noEntry "extern/reflectlite: a nil value of one interface type handed on as a value of another")
        | _ => storeVar dst a val
      else storeVar dst a (.iface src val)
    else panicString ("reflectlite.Set: value of type " ++ (← Rtype.spelt src) ++ " is not assignable to type " ++ (← Rtype.spelt dst))
    pure (.tuple #[])) := rfl
theorem As.parts25a (a : Addr) (w : World) : (ReflectliteValue.parts (.agg #[.pointer (some ⟨1, 51, none⟩), .pointer (some a), .int .u64 409])).run Tryd.prog w = .ok (some (51, a, 409)) w := by kernel_rfl
theorem As.parts25 (a : Addr) (w : World) : (ReflectliteValue.parts (.agg #[.pointer (some ⟨1, 51, none⟩), .pointer (some a), .int .u64 153])).run Tryd.prog w = .ok (some (51, a, 153)) w := by kernel_rfl
theorem As.direct25 (w : World) : (Rtype.directlyAssignable 51 51).run Tryd.prog w = .ok true w := by kernel_rfl
theorem As.size25 (w : World) : (sizeOf 51).run Tryd.prog w = .ok 1 w := by kernel_rfl
theorem As.load25 (b : Addr) (e : Int) (W : World) (hb : W.cell? b = some (.int .i64 e)) : (loadVar 51 b).run Tryd.prog W = .ok (.agg #[.int .i64 e]) W := by
  simp [loadVar, isAgg, underlying, Tryd.underlying51, Result.andThen, As.size25, loadCells, loadCellsFrom, Addr.add, hb]
theorem As.store25 (ta : Addr) (e : Int) (old : Value) (W : World) (ht : W.cell? ta = some old) (hf : W.frozen? ta = false) : (storeVar 51 ta (.agg #[.int .i64 e])).run Tryd.prog W = .ok () (W.setCell ta (.int .i64 e)) := by
  simp [storeVar, Value.cells, As.size25, storeCells, Addr.add, Result.andThen]
  rw [run_store Tryd.prog W ta _ _ (by rfl)]
  simp [ht, hf]
theorem As.set25 (ta b : Addr) (e : Int) (old : Value) (W : World) (hb : W.cell? b = some (.int .i64 e)) (ht : W.cell? ta = some old) (hf : W.frozen? ta = false) :
    (ReflectliteValue.set #[.agg #[.pointer (some ⟨1, 51, none⟩), .pointer (some ta), .int .u64 409], .agg #[.pointer (some ⟨1, 51, none⟩), .pointer (some b), .int .u64 153]]).run Tryd.prog W
      = .ok (.tuple #[]) (W.setCell ta (.int .i64 e)) := by
  rw [rls]
  simp only [Sem.run_bind, As.parts25a, As.parts25, Result.andThen]
  simp [ReflectliteValue.flagAddr, As.load25 b e W hb, Result.andThen, As.direct25, As.store25 ta e old W ht hf]
set_option maxRecDepth 100000 in
set_option maxHeartbeats 16000000 in
theorem as_hit (e : Int) (t : Addr) (old : Value) (w : World) (hg : w.cell? ⟨0, 0, none⟩ = some (.iface 111 (.agg #[.pointer (some ⟨1, 45, none⟩)]))) (ht0 : w.cell? t = some old) (hf0 : w.frozen? t = false) :
    Calls Tryd.prog 14 #[.iface 51 (.agg #[.int .i64 e]), .iface 53 (.pointer (some t))] w fun ev w' => ev = .returned (.bool true) ∧ w' = ((((w.alloc (.cells #[.pointer (some t)] 53)).alloc (.cells #[.pointer (some ⟨1, 53, none⟩), .pointer (some ⟨w.heap.size, 0, none⟩), .int .u64 150] 85)).alloc (.cells #[.pointer (some ⟨1, 53, none⟩), .pointer (some ⟨w.heap.size, 0, none⟩), .int .u64 150] 85)).alloc (.cells #[.int .i64 e] 51)).setCell t (.int .i64 e) := by
  have h6 := @run_callFunc_extern Tryd.prog 38 _ (fun args => ReflectliteValue.unpack (args.getD 0 (.tuple #[]))) Tryd.func38 (by kernel_rfl) (by kernel_rfl) (by kernel_rfl) (by kernel_rfl)
  have h7 := @run_callFunc_extern Tryd.prog 39 _ (ReflectliteValue.methodAny (ReflectliteValue.valueError "reflectlite.Value.Type" 0) (fun t _ _ _ => ReflectliteType.toType t)) Tryd.func39 (by kernel_rfl) (by kernel_rfl) (by kernel_rfl) (by kernel_rfl)
  have h8 := @run_callFunc_extern Tryd.prog 40 _ (ReflectliteValue.method (ReflectliteValue.valueError "reflectlite.Value.IsNil" 0) ReflectliteValue.isNil) Tryd.func40 (by kernel_rfl) (by kernel_rfl) (by kernel_rfl) (by kernel_rfl)
  have h27 := @run_callFunc_extern Tryd.prog 89 _ (ReflectliteType.abiMethod fun t => do pure (.int .u8 (← Rtype.kind t))) Tryd.func89 (by kernel_rfl) (by kernel_rfl) (by kernel_rfl) (by kernel_rfl)
  have h37 := @run_callFunc_extern Tryd.prog 100 _ (ReflectliteType.method ReflectliteType.elem) Tryd.func100 (by kernel_rfl) (by kernel_rfl) (by kernel_rfl) (by kernel_rfl)
  have h38 := @run_callFunc_extern Tryd.prog 101 _ (ReflectliteType.relation "Implements" ReflectliteType.implements_) Tryd.func101 (by kernel_rfl) (by kernel_rfl) (by kernel_rfl) (by kernel_rfl)
  have h10 := @run_callFunc_extern Tryd.prog 63 _ ReflectliteType.typeOf Tryd.func63 (by kernel_rfl) (by kernel_rfl) (by kernel_rfl) (by kernel_rfl)
  have h35 := @run_callFunc_extern Tryd.prog 98 _ (ReflectliteType.relation "AssignableTo" ReflectliteType.assignableTo) Tryd.func98 (by kernel_rfl) (by kernel_rfl) (by kernel_rfl) (by kernel_rfl)
  have h11 := @run_callFunc_extern Tryd.prog 64 _ (ReflectliteValue.method (ReflectliteValue.valueError "reflectlite.Value.Elem" 0) ReflectliteValue.elem) Tryd.func64 (by kernel_rfl) (by kernel_rfl) (by kernel_rfl) (by kernel_rfl)
  have h12 := @run_callFunc_extern Tryd.prog 65 _ ReflectliteValue.set Tryd.func65 (by kernel_rfl) (by kernel_rfl) (by kernel_rfl) (by kernel_rfl)
  have tO := As.typeOf25
  have mA := As.methodAssignableTo
  have a25 := As.assignable25
  have v25 := As.valueOf25
  have f6 := As.valueOf27
  have f7 := As.type27
  have mK := As.methodKind
  have mE := As.methodElem
  have mI := As.methodImplements
  have k27 := As.kind27
  have k25 := As.kind25
  have e27 := As.elem27
  have i25 := As.implements25
  have n8 := As.isNil27 ⟨w.heap.size, 0, none⟩ t ((w.alloc (.cells #[.pointer (some t)] 53)).alloc (.cells #[.pointer (some ⟨1, 53, none⟩), .pointer (some ⟨w.heap.size, 0, none⟩), .int .u64 150] 85)) (by simp)
  have hlt : 0 < w.heap.size := by
    rcases Nat.eq_zero_or_pos w.heap.size with h0 | h
    · simp [World.cell?, h0] at hg
    · exact h
  have hg2 : ((w.alloc (.cells #[.pointer (some t)] 53)).alloc (.cells #[.pointer (some ⟨1, 53, none⟩), .pointer (some ⟨w.heap.size, 0, none⟩), .int .u64 150] 85)).cell? ⟨0, 0, none⟩ = some (.iface 111 (.agg #[.pointer (some ⟨1, 45, none⟩)])) := by
    rw [World.cell?_alloc_lt _ _ ⟨0, 0, none⟩ (by simp), World.cell?_alloc_lt _ _ ⟨0, 0, none⟩ hlt]; exact hg
  have htl : t.block < w.heap.size := by
    rcases Nat.lt_or_ge t.block w.heap.size with h | h
    · exact h
    · simp [World.cell?, Array.getElem?_eq_none h] at ht0
  have el := As.elemV27 ⟨w.heap.size, 0, none⟩ t (((w.alloc (.cells #[.pointer (some t)] 53)).alloc (.cells #[.pointer (some ⟨1, 53, none⟩), .pointer (some ⟨w.heap.size, 0, none⟩), .int .u64 150] 85)).alloc (.cells #[.pointer (some ⟨1, 53, none⟩), .pointer (some ⟨w.heap.size, 0, none⟩), .int .u64 150] 85)) (by rw [World.cell?_alloc_lt _ _ ⟨w.heap.size, 0, none⟩ (by simp; omega)]; simp)
  have st := As.set25 t ⟨w.heap.size + 1 + 1 + 1, 0, none⟩ e old ((((w.alloc (.cells #[.pointer (some t)] 53)).alloc (.cells #[.pointer (some ⟨1, 53, none⟩), .pointer (some ⟨w.heap.size, 0, none⟩), .int .u64 150] 85)).alloc (.cells #[.pointer (some ⟨1, 53, none⟩), .pointer (some ⟨w.heap.size, 0, none⟩), .int .u64 150] 85)).alloc (.cells #[.int .i64 e] 51))
    (by rw [World.cell?_alloc_at _ _ _ _ (by simp)]; rfl)
    (by rw [World.cell?_alloc_lt _ _ t (by simp; omega), World.cell?_alloc_lt _ _ t (by simp; omega), World.cell?_alloc_lt _ _ t (by simp; omega), World.cell?_alloc_lt _ _ t htl]; exact ht0)
    (by rw [World.frozen?_alloc_old _ _ t (by simp; omega), World.frozen?_alloc_old _ _ t (by simp; omega), World.frozen?_alloc_old _ _ t (by simp; omega), World.frozen?_alloc_old _ _ t (Nat.ne_of_lt htl)]; exact hf0)
  go_enter Tryd.func14, Tryd.ntmps14
  go_wp2
  refine wp_loop_rounds 1 ?_
  rw [rounds_succ]
  go_wp2
  go_ret
  exact ⟨rfl, rfl⟩
end
theorem below_alloc' {w : World} (o : Obj) : Below w.heap.size w (w.alloc o) := (Below.refl _ _).alloc (Nat.le_refl _) _
theorem LM.size3 {s : ByteArray} {w W : World} {v5 v7 : Value} {ps : List S38} {a e : Int} {op : List Int} (h : LM s w v5 v7 ps a e op W) : w.heap.size + 3 ≤ W.heap.size := blk_lt h.cb
theorem row_up {α : Type} {d : Kd α} {q N base : Nat} {w wr w1 : World} {o : Obj} {v : Value} {xs : List α} (h : d.R q w1 N (fun _ => True) v xs) (_ : Below w.heap.size w wr) (hN : base ≤ N) : d.R q (w1.alloc o) base (fun k => N ≤ k) v xs :=
  Kd.R_lower (Kd.R_alloc (Kd.R_mono (Kd.R_bound h) (fun k hk => hk.2.1)) o) hN
theorem glob_at {w W : World} {v : Value} (h : Below w.heap.size w W) (hv : w.cell? ⟨0, 0, none⟩ = some v) : W.cell? ⟨0, 0, none⟩ = some v := (h.cell (World.block_lt_of_cell? w _ hv)).trans hv
theorem glob_new {W : World} {v : Value} (hv : W.cell? ⟨0, 0, none⟩ = some v) (o : Obj) : (W.alloc o).cell? ⟨0, 0, none⟩ = some v := ((below_alloc' o).cell (World.block_lt_of_cell? W _ hv)).trans hv
theorem fail5 {b : Nat} {s : ByteArray} {a : Int} {w : World} (h : RD b s a (if (0 : Int) = 0 then 5 else 0) w) : w.cell? ⟨b, 2, none⟩ = some (.iface 51 (.agg #[.int .i64 5])) := h.c2
theorem as_hit2 (e : Int) (W : World) (hg : W.cell? ⟨0, 0, none⟩ = some (.iface 111 (.agg #[.pointer (some ⟨1, 45, none⟩)]))) :
    Calls Tryd.prog 14 #[.iface 51 (.agg #[.int .i64 e]), .iface 53 (.pointer (some ⟨W.heap.size, 0, none⟩))] (W.alloc (.cells #[.int .i64 0] 51 (0, 0))) fun ev w' => ev = .returned (.bool true) ∧ Below W.heap.size W w' ∧ w'.heap[W.heap.size]? = some (.cells #[.int .i64 e] 51 (0, 0)) := by
  refine (as_hit e ⟨W.heap.size, 0, none⟩ (.int .i64 0) _ (glob_new hg _) ((blk_cell (blk_new W _) 0).trans rfl) (blk_frozen (blk_new W _) 0)).mono ?_
  rintro ev w' ⟨rfl, rfl⟩
  exact ⟨rfl, (below_alloc (below_alloc (below_alloc (below_alloc (below_alloc (Below.refl _ _) _) _) _) _) _).setCell (p := ⟨W.heap.size, 0, none⟩) (Nat.le_refl _) _, (blk_set (blk_alloc (blk_alloc (blk_alloc (blk_alloc (blk_new W _) _) _) _) _) 0 _).trans rfl⟩
theorem load_start {s : ByteArray} {w : World} (n : Nat) : LM s w (.slice none 0 0) (.slice none 0 0) [] 6 0 [] ((((w.alloc (.cells #[.slice none 0 0] 24 (0, 0))).drewN n).alloc (.cells #[.string s, .int .i64 6, .nilIface] 47 (0, 0))).alloc (.cells #[.slice none 0 0] 24 (0, 0))) := by
  have h1 : Below w.heap.size w (w.alloc (.cells #[.slice none 0 0] 24 (0, 0))) := below_alloc (Below.refl _ _) _
  have h2 := below_alloc (pw_below_drewN h1 n) (.cells #[.string s, .int .i64 6, .nilIface] 47 (0, 0))
  have h3 := below_alloc h2 (.cells #[.slice none 0 0] 24 (0, 0))
  have b1 : ((w.alloc (.cells #[.slice none 0 0] 24 (0, 0))).drewN n).heap[w.heap.size]? = some (.cells #[.slice none 0 0] 24 (0, 0)) := blk_drewN (blk_new w _) n
  have b2 := blk_new ((w.alloc (.cells #[.slice none 0 0] 24 (0, 0))).drewN n) (.cells #[.string s, .int .i64 6, .nilIface] 47 (0, 0))
  have b3 := blk_new (((w.alloc (.cells #[.slice none 0 0] 24 (0, 0))).drewN n).alloc (.cells #[.string s, .int .i64 6, .nilIface] 47 (0, 0))) (.cells #[.slice none 0 0] 24 (0, 0))
  rw [World.heap_drewN, World.size_alloc] at b2
  rw [World.size_alloc, World.heap_drewN, World.size_alloc] at b3
  exact ⟨blk_alloc b2 _, h3, blk_alloc (blk_alloc b1 _) _, b3, Kd.S_nil _ _ _ _ _, Kd.R_nil _ _ _ _ _⟩
set_option maxRecDepth 100000 in
set_option maxHeartbeats 32000000 in
theorem load0 (k : Nat) (hk8 : ∀ s : ByteArray, s.size ≤ 8 → ∃ r, impl_GetInt.f k s 0 = some r) (s : ByteArray) (w : World) (hg : GvOk s) (hz : s.size ≤ 140737488351232) (pf : Bool) (hp : strings_HasPrefix.f s ⟨#[27, 76, 82, 86, 1, 0]⟩ = some pf) (h6 : pf = true → 6 ≤ s.size)
    (hgl : w.cell? ⟨0, 0, none⟩ = some (.iface 111 (.agg #[.pointer (some ⟨1, 45, none⟩)]))) (r1 : List S38) (r2 : Int) (hr : rLoad k s = (r1, r2)) :
    Calls Tryd.prog 5 #[.string s] w fun e w' => ∃ v0, e = .returned (.tuple #[.agg #[v0], .int .i64 r2]) ∧ Kd.S k38 38 w' w.heap.size (fun _ => True) v0 r1 ∧ Below w.heap.size w w' := by
  have hu24 := Tryd.underlying24
  have hmix : Tryd.prog.follows .mixedOrders = true := by kernel_rfl
  have HP := Aside0.mk hp
  unfold rLoad at hr
  rw [hp] at hr
  have BK := Aside0.mk (blk_new w (.cells #[.slice none 0 0] 24 (0, 0)))
  have HB := Aside0.mk (below_alloc (Below.refl w.heap.size w) (.cells #[.slice none 0 0] 24 (0, 0)))
  clear hp
  cases pf
  · rw [if_neg (by simp)] at hr
    cases hr
    go_enter Tryd.func5, Tryd.ntmps5
    go_wp2_with (go_at_call 11; refine (strings_HasPrefix.calls _ _ false _ HP.out).mono ?_; rintro r w1 ⟨rfl, ⟨nd, rfl⟩⟩)
    refine bodyPost_ret (results_ct rfl _ _ w.heap.size 24 #[.slice none 0 0] (0, 0) _ rfl ((blk_set (blk_drewN BK.out nd) 0 _).trans rfl) hu24 rfl (by kernel_rfl)) rfl ?_
    exact ⟨_, rfl, Kd.S_nil _ _ _ _ _, (pw_below_drewN HB.out nd).setCell (p := ⟨w.heap.size, 0, none⟩) (Nat.le_refl _) _⟩
  · rw [if_pos rfl] at hr
    have h6 := h6 rfl
    obtain ⟨T, hT⟩ : ∃ T, rLoop k s 200 6 0 [] 1 [] = T := ⟨_, rfl⟩
    rw [hT] at hr
    have HR := Aside0.mk hr
    have P0 : Aside0 (LP k s T 200 [] 6 0 1 []) := ⟨⟨by decide, by omega, by decide, by decide, by decide, by decide, by decide, fun x hx => by simp at hx, hT⟩⟩
    clear hr hT h6
    go_enter Tryd.func5, Tryd.ntmps5
    go_wp2_with (go_at_call 11; refine (strings_HasPrefix.calls _ _ true _ HP.out).mono ?_; rintro r w1 ⟨rfl, ⟨nd, rfl⟩⟩; have L0 := Aside0.mk (load_start (s := s) (w := w) nd))
    clear BK HB HP
    go_loopg [6, 7] 200 (fun kq v6 v7 W' => ∃ (n : Nat) (v5 : Value) (ps : List S38) (a e wanted : Int) (op : List Int), v6 = .int .i64 wanted ∧ Aside0 (kq = n) ∧ Aside0 (LM s w v5 v7 ps a e op W') ∧ Aside0 (LP k s T n ps a e wanted op))
    case atStart => exact ⟨200, _, [], 6, 0, 1, [], rfl, ⟨rfl⟩, L0, P0⟩
    case round =>
      obtain ⟨n, v5, ps, a, e, wanted, op, rfl, HJ, HM, HL⟩ := hrel
      clear L0 P0
      obtain ⟨A5, q5, rfl⟩ := Kd.S_slice HM.out.r5
      obtain ⟨A7, q7, rfl⟩ := Kd.R_slice HM.out.r7
      have cc : wr.cell? ⟨w.heap.size + 1 + 1, 0, none⟩ = some (.slice A5 ps.length q5) := (blk_cell HM.out.cb 0).trans rfl
      have ec := HM.out.rd.c2
      by_cases he : e = 0
      · subst he
        rw [erv0] at ec
        by_cases hw : (ps.length : Int) < wanted
        · have d0 : decide ((ps.length : Int) < wanted) = true := decide_eq_true hw
          obtain ⟨n, rfl⟩ : ∃ m, n = m + 1 := ⟨n - 1, by have h1 := HL.out.l1; have h2 := HL.out.w1; omega⟩
          have hw0 := HL.out.w0
          have hw1 := HL.out.w1
          have HL2 : Aside0 (ps.length ≤ 200 ∧ op.length ≤ 200) := ⟨by have := HL.out.l0; have := HL.out.l2; omega, by have := HL.out.l0; have := HL.out.l2; omega⟩
          obtain ⟨kids, hkd⟩ : ∃ kd, (if 63 ≤ op.length then 0 else 200 - wanted) = kd := ⟨_, rfl⟩
          obtain ⟨p, a', e', hpr⟩ := tri (rProto k s kids a 0)
          obtain ⟨hL, hk0, hk1⟩ := HL.out.next hg hw hkd hpr
          have hkd0 : 0 ≤ kids := by rw [← hkd]; split <;> omega
          have HL' := Aside0.mk hL
          have HPR := Aside0.mk hpr
          have lt3 : w.heap.size + 3 ≤ wr.heap.size := blk_lt HM.out.cb
          clear hL hpr
          have hgk : ∃ gm, gk = gm + 1 := ⟨gk - 1, by have := HJ.out; omega⟩
          obtain ⟨gm, hgm⟩ := hgk
          have HGM := Aside0.mk hgm
          clear hgm
          have hc : ∃ c : Bool, decide ((63 : Int) ≤ (op.length : Int)) = c ∧ decide (63 ≤ op.length) = c ∧ ((c = true ∧ kids = 0) ∨ (c = false ∧ IntKind.i64.wrap (200 - wanted) = kids)) := by
            by_cases h63 : 63 ≤ op.length
            · rw [if_pos h63] at hkd
              exact ⟨true, decide_eq_true (by omega), decide_eq_true h63, .inl ⟨rfl, hkd.symm⟩⟩
            · rw [if_neg h63] at hkd
              exact ⟨false, decide_eq_false (by omega), decide_eq_false h63, .inr ⟨rfl, by rw [IntKind.wrap_i64]; omega⟩⟩
          clear hw hkd
          obtain ⟨c, d1, d2, ⟨rfl, rfl⟩ | ⟨rfl, wk⟩⟩ := hc
          all_goals
            go_wp2_with (first | (go_at_call 12; refine (proto k hk8 w.heap.size (w.heap.size + 1) s _ a 0 p a' e' _ HM.out.rd (Nat.le_succ _) HM.out.bel.size hg HL.out.a0 HL.out.a1 hz hkd0 HPR.out).mono ?_; rintro r w1 ⟨u3, u4, u5, u8, u9, rfl, g3, g4, g5, g8, g9, hrd, hfk⟩; obtain ⟨B3, m3, rfl⟩ := Kd.R_slice g3; obtain ⟨B4, m4, rfl⟩ := Kd.R_slice g4; obtain ⟨B5, m5, rfl⟩ := Kd.R_slice g5; obtain ⟨B8, m8, rfl⟩ := Kd.R_slice g8; obtain ⟨B9, m9, rfl⟩ := Kd.R_slice g9; have MC := Aside0.mk (HM.out.call hrd hfk); have G3 := Aside0.mk g3; have G4 := Aside0.mk g4; have G5 := Aside0.mk g5; have G8 := Aside0.mk g8; have G9 := Aside0.mk g9; have FK := Aside0.mk hfk; have cc1 : w1.cell? ⟨w.heap.size + 1 + 1, 0, none⟩ = some (.slice A5 ps.length q5) := (blk_cell MC.out.2.2.2.1 0).trans rfl; have lt1 : w.heap.size + 1 + 1 < w1.heap.size := blk_lt MC.out.2.2.2.1; clear g3 g4 g5 g8 g9 hrd hfk) | (at_builtin; refine Kd.S_append k38 (w0 := _) (w.heap.size + 3) rfl (.tmp 39) (.tmp 41) 22 38 (.agg #[(.int .i64 0), (.bool false), (.int .i64 0), (.slice none 0 0), (.slice none 0 0), (.slice none 0 0), (.int .i64 0), (.string ⟨#[]⟩), (.slice none 0 0), (.slice none 0 0)]) 168 rfl Tryd.underlying22 info38 rfl (by decide) (by decide) (.slice A5 ps.length q5) ps p [.int .i64 p.f0, .bool p.f1, .int .i64 p.f2, .slice B3 p.f3.length m3, .slice B4 p.f4.length m4, .slice B5 p.f5.length m5, .int .i64 p.f6, .string p.f7, .slice B8 p.f8.length m8, .slice B9 p.f9.length m9] (fun k_ => some k_ ≠ (Value.slice A7 op.length q7).ownBlock) (fun k_ => wr.heap.size ≤ k_) rfl (by first | (go_simp; done) | (go_simp; rfl) | rfl) ?aP ?aK ?aF ?aO (Below.refl _ _) ?aS ?aL ?_; (case aP => exact k38_mkM _ _ _ p (row_up G3.out HM.out.bel lt3) (row_up G4.out HM.out.bel lt3) (row_up G5.out HM.out.bel lt3) (row_up G8.out HM.out.bel lt3) (row_up G9.out HM.out.bel lt3)); (case aK => exact fun k_ hk => ⟨fun he => by have := Kd.R_lt HM.out.r7 k_ he.symm; omega, fun he => by have := Kd.S_lt HM.out.r5 k_ he.symm; omega⟩); (case aF => exact fun k_ hk he => by have h1 := Kd.R_lt HM.out.r7 k_ he.symm; have h2 := FK.out.size; rw [World.size_alloc] at hk; omega); (case aO => exact Kd.S_mono (Kd.S_alloc MC.out.2.2.2.2.1 _) (fun k_ hk => ⟨hk.1, by have := hk.2; omega⟩)); (case aS => rw [World.size_alloc]; omega); (case aL => have := HL2.out; omega); intro v5' w3 hS _ hg3 _; obtain ⟨A5', q5', rfl⟩ := Kd.S_slice hS; obtain ⟨LA, c3, f3, p3⟩ := LM.appended MC.out (below_alloc' _) hg3 hS (blk_new w1 _) (Nat.le_refl _); rw [show (ps ++ [p]).length = ps.length + 1 by simp] at LA; have LA' := Aside0.mk LA; have k3 : w3.cell? ⟨w1.heap.size, 6, none⟩ = some (.int .i64 p.f6) := (blk_cell p3 6).trans rfl; clear LA p3 hS hg3) | ((with_reducible refine gate_builtin (b := .append) (xs := #[.tmp 48, .tmp 51]) rfl ?_); at_builtin; refine Kd.R_append (Kd.int .i64) (w0 := _) (w.heap.size + 3) rfl (.tmp 48) (.tmp 51) 32 3 (.int .i64 0) 8 rfl Tryd.underlying32 info3 rfl (by decide) (by decide) (.slice A7 op.length q7) op p.f6 [.int .i64 p.f6] (fun _ => True) (fun _ => False) rfl (by first | (go_simp; done) | (go_simp; rfl) | rfl) rfl (fun _ hk => hk.elim) (fun _ _ => trivial) LA'.out.r7 (Below.refl _ _) ?bS ?bL ?_; (case bS => exact LA'.out.size3); (case bL => have := HL2.out; omega); intro v7' w5 hR _ hg5 hat5; obtain ⟨A7', q7', rfl⟩ := Kd.R_slice hR; have lb := LA'.out.pushed hg5 hR hat5; have LB := Aside0.mk lb; clear hR hg5 hat5))
            go_loopg [7] (op.length + 1) (fun kq v7 W' => ∃ (o2 : List Int) (A : Option Addr) (q : Nat), v7 = .slice A o2.length q ∧ Aside0 (kq = o2.length) ∧ Aside0 (LM s w (.slice A5' (ps.length + 1) q5') (.slice A o2.length q) (ps ++ [p]) a' e' o2 W' ∧ popZ o2 = popZ (op ++ [p.f6]) ∧ o2.length ≤ op.length + 1))
            case atStart => exact ⟨op ++ [p.f6], A7', q7', by simp, ⟨by simp⟩, ⟨LB.out, rfl, by simp⟩⟩
            case round =>
              obtain ⟨o2, A, q, rfl, HJ2, HV⟩ := hrel
              clear LB
              by_cases hl : 0 < o2.length
              · obtain ⟨g, q', hA, hgb, _, _⟩ := Kd.R_form HV.out.1.r7 hl
                injection hA with hA _ hq
                subst hA
                subst hq
                obtain ⟨m, hm⟩ : ∃ m, o2.length = m + 1 := ⟨o2.length - 1, by omega⟩
                obtain ⟨x, hx⟩ : ∃ x, rd o2 (m : Int) = x := ⟨_, rfl⟩
                have cx : wr.cell? ⟨g, m, none⟩ = some (.int .i64 x) := by
                  rw [(int_inner HV.out.1.r7).cellAt m (by omega), ← hx]
                  simp [encs, rd, List.getD, show m < o2.length by omega]
                have fx : wr.frozen? ⟨g, m, none⟩ = false := (int_inner HV.out.1.r7).frozenAt m
                have HX := Aside0.mk hx
                have HMM := Aside0.mk hm
                have m2 : m ≤ 200 := by have := HV.out.2.2; have := HL2.out; omega
                have i1 : IntKind.i64.wrap (((m + 1 : Nat) : Int) - 1) = (m : Int) := by rw [IntKind.wrap_i64]; omega
                have hcq := (Kd.R_reads' HV.out.1.r7).2.1
                have q0 : m ≤ q := by omega
                have q1 : (m : Int) ≤ (q : Int) := by omega
                obtain ⟨g2, hg2⟩ : ∃ g2, gk = g2 + 1 := ⟨gk - 1, by have := HJ2.out; omega⟩
                have HG2 := Aside0.mk hg2
                rw [hm]
                clear hm hx hl hcq hg2 LA'
                by_cases hx0 : x = 0
                · subst hx0
                  go_wp2
                  have hg2 := HG2.out
                  subst hg2
                  go_roundg g2
                  case measure => have := HJ2.out; have := HMM.out; omega
                  case rel => exact ⟨o2.take m, _, _, by rw [List.length_take, Nat.min_eq_left (by have := HMM.out; omega)], ⟨by rw [List.length_take]; have := HMM.out; have := HJ2.out; omega⟩, ⟨by
                    have h := HV.out.1.take m (by have := HMM.out; omega)
                    rwa [show (o2.take m).length = m by rw [List.length_take]; have := HMM.out; omega], by
                    rw [← HV.out.2.1, ← popZ_step (l := o2) (by have := HMM.out; omega) (by rw [HMM.out]; rw [show ((m + 1 : Nat) : Int) - 1 = (m : Int) by omega]; exact HX.out), HMM.out]; rfl, by rw [List.length_take]; have := HV.out.2.2; omega⟩⟩
                · have e0 : (x == 0) = false := beq_eq_false_iff_ne.mpr hx0
                  have hst : popZ o2 = o2 := popZ_stop (fun h => hx0 (by rw [← HX.out]; have h2 := h.2; rw [HMM.out, show ((m + 1 : Nat) : Int) - 1 = (m : Int) by omega] at h2; exact h2))
                  have hup : upd (op ++ [p.f6]) = o2.set m (x - 1) := by
                    unfold upd
                    rw [← HV.out.2.1, hst, if_pos (by have := HMM.out; omega), HMM.out, show ((m + 1 : Nat) : Int) - 1 = (m : Int) by omega, HX.out]
                    rfl
                  have hxr : 0 ≤ x - 1 ∧ x - 1 ≤ 200 := by
                    have h := HL'.out.sm (x - 1) (by rw [hup]; exact List.mem_set (show m < o2.length by have := HMM.out; omega) _)
                    exact h
                  have HUP := Aside0.mk hup
                  clear hst hup HX
                  go_wp2
                  have hgm := HGM.out
                  subst hgm
                  go_roundg gm
                  case measure => have := HJ.out; omega
                  case rel => exact ⟨n, _, ps ++ [p], a', e', wanted + p.f6, upd (op ++ [p.f6]), rfl, ⟨by have := HJ.out; omega⟩, ⟨by
                    rw [HUP.out]
                    have h := HV.out.1.dec m (x - 1)
                    rwa [HMM.out] at h⟩, HL'⟩
              · obtain rfl : o2 = [] := List.eq_nil_of_length_eq_zero (by omega)
                have hup : upd (op ++ [p.f6]) = [] := by
                  have h := HV.out.2.1
                  unfold upd
                  rw [← h, show popZ ([] : List Int) = [] from rfl]
                  rfl
                have HUP := Aside0.mk hup
                clear hup hl LA'
                go_wp2
                have hgm := HGM.out
                subst hgm
                go_roundg gm
                case measure => have := HJ.out; omega
                case rel => exact ⟨n, _, ps ++ [p], a', e', wanted + p.f6, upd (op ++ [p.f6]), rfl, ⟨by have := HJ.out; omega⟩, ⟨by
                  rw [HUP.out]
                  exact HV.out.1⟩, HL'⟩
        · obtain rfl := HL.out.stop (fun h => hw h.1)
          have d0 : decide ((ps.length : Int) < wanted) = false := decide_eq_false hw
          have h1c := HM.out.rd.c1
          have h0c := HM.out.rd.c0
          have ltr : w.heap.size + 1 + 1 < wr.heap.size := blk_lt HM.out.cb
          have ltb : w.heap.size + 1 < wr.heap.size := HM.out.rd.lt
          have lta : w.heap.size < wr.heap.size := blk_lt HM.out.rb
          have HGL := Aside0.mk (glob_at HM.out.bel hgl)
          by_cases ha : a < (s.size : Int)
          · have d1 : decide (a < (s.size : Int)) = true := decide_eq_true ha
            have HR2 : Aside0 (r1 = [] ∧ r2 = 5) := ⟨by have h := HR.out; rw [if_pos rfl, if_pos ha] at h; cases h; exact ⟨rfl, rfl⟩⟩
            clear HR ha hw
            go_wp2_with (first | (go_at_call 13; refine (fail w.heap.size (w.heap.size + 1) s a 0 5 _ HM.out.rd (Nat.le_succ _) (by decide)).mono ?_; rintro r w8 ⟨rfl, hh, hk⟩; have MC := Aside0.mk (HM.out.call hh hk); have ec8 : w8.cell? ⟨w.heap.size + 1, 2, none⟩ = some (.iface 51 (.agg #[.int .i64 5])) := fail5 hh; have lt8 : w.heap.size + 1 < w8.heap.size := hh.lt; have lt8a : w.heap.size < w8.heap.size := Nat.lt_of_succ_lt lt8; have HGL8 := Aside0.mk (glob_at MC.out.2.1 hgl); clear hh hk) | (go_at_call 14; refine (as_hit2 5 w8 HGL8.out).mono ?_; rintro r w9 ⟨rfl, hb9, hf9⟩; have B9 := Aside0.mk hb9; have R9 := Aside0.mk ((hb9.block _ lt8a).trans MC.out.2.2.1); have cf := (blk_cell hf9 0).trans rfl; have cr := (blk_cell R9.out 0).trans rfl; have fr := blk_frozen R9.out 0; clear hb9 hf9))
            go_region_with_o (fail)
            all_goals
              go_wp2
              refine bodyPost_ret (results_ct rfl _ _ w.heap.size 24 #[.slice none 0 0] (0, 0) _ rfl ((blk_set R9.out 0 _).trans rfl) hu24 rfl (by kernel_rfl)) rfl ?_
              obtain ⟨rfl, rfl⟩ := HR2.out
              exact ⟨_, rfl, Kd.S_nil _ _ _ _ _, by repeat (with_reducible first | exact (MC.out.2.1.trans (B9.out.mono MC.out.2.1.size)).setCell (p := ⟨w.heap.size, 0, none⟩) (Nat.le_refl _) _ | apply pw_below_drewN | apply below_drew1)⟩
          · have d1 : decide (a < (s.size : Int)) = false := decide_eq_false ha
            have HR2 : Aside0 (r1 = ps ∧ r2 = 0) := ⟨by have h := HR.out; rw [if_pos rfl, if_neg ha] at h; cases h; exact ⟨rfl, rfl⟩⟩
            have cr := (blk_cell HM.out.rb 0).trans rfl
            have fr := blk_frozen HM.out.rb 0
            clear HR ha hw
            go_wp2_with (go_at_call 14; refine (as_nil _ _).mono ?_; rintro r w9 ⟨rfl, rfl⟩)
            refine bodyPost_ret (results_ct rfl _ _ w.heap.size 24 #[.slice A5 ps.length q5] (0, 0) _ rfl (blk_alloc ((blk_set HM.out.rb 0 _).trans rfl) _) hu24 rfl (by kernel_rfl)) rfl ?_
            obtain ⟨rfl, rfl⟩ := HR2.out
            exact ⟨_, rfl, Kd.S_alloc (Kd.S_lower (Kd.S_mono (Kd.S_step (Kd.S_bound HM.out.r5) (fun k hk _ => Below.heap_setCell wr ⟨w.heap.size, 0, none⟩ _ k (show k ≠ w.heap.size by have := hk.2.1; omega))) (fun _ _ => trivial)) (by omega)) _, below_alloc (HM.out.bel.setCell (p := ⟨w.heap.size, 0, none⟩) (Nat.le_refl _) _) _⟩
      · obtain rfl := HL.out.stop (fun h => he h.2)
        rw [ervn he] at ec
        have HGL := Aside0.mk (glob_at HM.out.bel hgl)
        have HR2 : Aside0 (r1 = [] ∧ r2 = e) := ⟨by have h := HR.out; rw [if_neg he] at h; cases h; exact ⟨rfl, rfl⟩⟩
        have ltr : w.heap.size + 1 + 1 < wr.heap.size := blk_lt HM.out.cb
        have ltb : w.heap.size + 1 < wr.heap.size := HM.out.rd.lt
        have lta : w.heap.size < wr.heap.size := blk_lt HM.out.rb
        clear HR he
        cases d0 : decide ((ps.length : Int) < wanted)
        all_goals
          go_wp2_with (go_at_call 14; refine (as_hit2 e wr HGL.out).mono ?_; rintro r w9 ⟨rfl, hb9, hf9⟩; have B9 := Aside0.mk hb9; have R9 := Aside0.mk ((hb9.block _ lta).trans HM.out.rb); have cf := (blk_cell hf9 0).trans rfl; have cr := (blk_cell R9.out 0).trans rfl; have fr := blk_frozen R9.out 0; clear hb9 hf9)
          go_region_with_o (fail)
          all_goals
            go_wp2
            refine bodyPost_ret (results_ct rfl _ _ w.heap.size 24 #[.slice none 0 0] (0, 0) _ rfl ((blk_set R9.out 0 _).trans rfl) hu24 rfl (by kernel_rfl)) rfl ?_
            obtain ⟨rfl, rfl⟩ := HR2.out
            exact ⟨_, rfl, Kd.S_nil _ _ _ _ _, by repeat (with_reducible first | exact (HM.out.bel.trans (B9.out.mono HM.out.bel.size)).setCell (p := ⟨w.heap.size, 0, none⟩) (Nat.le_refl _) _ | apply pw_below_drewN | apply below_drew1)⟩
end Go.Proofs.YtiekodnojmkfaaaDoor.PFnExactLoad
