/-
  PROVED: what errors.As does at the targets **api.Lost and *api.Errno, of a nil error, of an *api.Lost, of an api.Errno. Condition: errors.errorType holds the handle of the type error.
-/
import Derived.Test.YtcponehlpgdmjaaGreatDoorXe
import Derived.Test.YtcponehlpgdmjaaGreatDoorProg
import Derived.WalkKit
import Derived.LaidEql
import Derived.Stop.Asserts
import Derived.RowKitTokens
set_option linter.unusedVariables false
set_option linter.unusedSimpArgs false
namespace Go.Proofs.YtcponehlpgdmjaaGreatDoor.As
open Go Go.RowKit Go.Extern.Stop Go.Stop Go.Extern
theorem as_nil (t : Value) (w : World) :
    Calls Tryz.prog 91 #[.nilIface, t] w fun e w' => e = .returned (.bool false) ∧ w' = w := by
  go_enter Tryz.func91, Tryz.ntmps91
  go_wp2
  go_ret
  exact ⟨rfl, rfl⟩
theorem methodKind (h : Value) (w : World) : (Go.method 878 356 (.agg #[h]) "Kind").run Tryz.prog w = .ok (475, h) w := by kernel_rfl
theorem methodElem (h : Value) (w : World) : (Go.method 878 356 (.agg #[h]) "Elem").run Tryz.prog w = .ok (696, .agg #[h]) w := by kernel_rfl
theorem methodImplements (h : Value) (w : World) : (Go.method 878 356 (.agg #[h]) "Implements").run Tryz.prog w = .ok (697, .agg #[h]) w := by kernel_rfl
theorem methodAssignableTo (h : Value) (w : World) : (Go.method 878 356 (.agg #[h]) "AssignableTo").run Tryz.prog w = .ok (694, .agg #[h]) w := by kernel_rfl
theorem rlm (z : Sem Value) (f : TypeId → Addr → Nat → Nat → Sem Value) (v : Value) :
    ReflectliteValue.method z f #[v] = (do match ← ReflectliteValue.parts v with | none => z | some (t, a, fl) => f t a fl (fl % 32)) := rfl
theorem rls (v x : Value) : ReflectliteValue.set #[v, x] = (do
    let (some (dst, a, fl), some (src, b, _)) := (← ReflectliteValue.parts v, ← ReflectliteValue.parts x)
      | unsupported (.noEntry "extern/(internal/reflectlite.Value).Set.zeroValue")
    if fl / ReflectliteValue.flagAddr % 2 == 0 then unsupported (.noEntry "extern/(internal/reflectlite.Value).Set.unaddressable")
    let val ← loadVar src b
    if ← Rtype.directlyAssignable dst src then storeVar dst a val
    else if ← Rtype.implements dst src then
      if (← Rtype.kind src) == 20 then
        match val with
        | .nilIface => unsupported (.noEntry "extern/reflectlite: a nil value of one interface type handed on as a value of another")
        | _ => storeVar dst a val
      else storeVar dst a (.iface src val)
    else panicString ("reflectlite.Set: value of type " ++ (← Rtype.spelt src) ++ " is not assignable to type " ++ (← Rtype.spelt dst))
    pure (.tuple #[])) := rfl

/-! ### target: type 168, of 166 -/
theorem valueOfP1 (t : Addr) (w : World) : (ReflectliteValue.unpack (.iface 168 (.pointer (some t)))).run Tryz.prog w
    = .ok (.agg #[.pointer (some ⟨7, 168, none⟩), .pointer (some ⟨w.heap.size, 0, none⟩), .int .u64 150]) (w.alloc (.cells #[.pointer (some t)] 168)) := by kernel_rfl
theorem typeP1 (a : Addr) (w : World) : (ReflectliteValue.methodAny (ReflectliteValue.valueError "reflectlite.Value.Type" 0) (fun t _ _ _ => ReflectliteType.toType t) #[.agg #[.pointer (some ⟨7, 168, none⟩), .pointer (some a), .int .u64 150]]).run Tryz.prog w
    = .ok (.iface 356 (.agg #[.pointer (some ⟨7, 168, none⟩)])) w := by kernel_rfl
theorem kindP1 (w : World) : ((ReflectliteType.abiMethod fun t => (fun a : Nat => Value.int IntKind.u8 (a : Int)) <$> Rtype.kind t) #[.pointer (some ⟨7, 168, none⟩)]).run Tryz.prog w = .ok (.int .u8 22) w := by kernel_rfl
theorem kindE1 (w : World) : ((ReflectliteType.abiMethod fun t => (fun a : Nat => Value.int IntKind.u8 (a : Int)) <$> Rtype.kind t) #[.pointer (some ⟨7, 166, none⟩)]).run Tryz.prog w = .ok (.int .u8 22) w := by kernel_rfl
theorem partsP1 (a : Addr) (w : World) : (ReflectliteValue.parts (.agg #[.pointer (some ⟨7, 168, none⟩), .pointer (some a), .int .u64 150])).run Tryz.prog w = .ok (some (168, a, 150)) w := by kernel_rfl
theorem isNil1 (a p : Addr) (W : World) (ha : W.cell? a = some (.pointer (some p))) :
    (ReflectliteValue.method (ReflectliteValue.valueError "reflectlite.Value.IsNil" 0) ReflectliteValue.isNil #[.agg #[.pointer (some ⟨7, 168, none⟩), .pointer (some a), .int .u64 150]]).run Tryz.prog W = .ok (.bool false) W := by
  rw [rlm]
  simp only [Sem.run_bind, partsP1, Result.andThen]
  simp [ReflectliteValue.isNil, loadVar, isAgg, underlying, Tryz.underlying168, ha, Result.andThen]
theorem elemT1 (w : World) : (ReflectliteType.method ReflectliteType.elem #[.agg #[.pointer (some ⟨7, 168, none⟩)]]).run Tryz.prog w = .ok (.iface 356 (.agg #[.pointer (some ⟨7, 166, none⟩)])) w := by kernel_rfl
theorem implements1 (w : World) : (ReflectliteType.relation "Implements" ReflectliteType.implements_ #[.agg #[.pointer (some ⟨7, 166, none⟩)], .iface 356 (.agg #[.pointer (some ⟨7, 71, none⟩)])]).run Tryz.prog w = .ok (.bool true) w := by kernel_rfl
theorem assignable1 (w : World) : (ReflectliteType.relation "AssignableTo" ReflectliteType.assignableTo #[.agg #[.pointer (some ⟨7, 166, none⟩)], .iface 356 (.agg #[.pointer (some ⟨7, 166, none⟩)])]).run Tryz.prog w = .ok (.bool true) w := by kernel_rfl
theorem elemOf1 (w : World) : (Rtype.elem? 168).run Tryz.prog w = .ok (some 166) w := by kernel_rfl
theorem mkE1 (p : Addr) (w : World) : (ReflectliteValue.mk 166 p ReflectliteValue.flagAddr).run Tryz.prog w = .ok (.agg #[.pointer (some ⟨7, 166, none⟩), .pointer (some p), .int .u64 406]) w := by kernel_rfl
theorem elemV1 (a p : Addr) (W : World) (ha : W.cell? a = some (.pointer (some p))) :
    (ReflectliteValue.method (ReflectliteValue.valueError "reflectlite.Value.Elem" 0) ReflectliteValue.elem #[.agg #[.pointer (some ⟨7, 168, none⟩), .pointer (some a), .int .u64 150]]).run Tryz.prog W
      = .ok (.agg #[.pointer (some ⟨7, 166, none⟩), .pointer (some p), .int .u64 406]) W := by
  rw [rlm]
  simp only [Sem.run_bind, partsP1, Result.andThen]
  simp [ReflectliteValue.elem, loadVar, isAgg, underlying, Tryz.underlying168, ha, Result.andThen, elemOf1, mkE1]
theorem partsA1 (a : Addr) (w : World) : (ReflectliteValue.parts (.agg #[.pointer (some ⟨7, 166, none⟩), .pointer (some a), .int .u64 406])).run Tryz.prog w = .ok (some (166, a, 406)) w := by kernel_rfl
theorem partsE1 (a : Addr) (w : World) : (ReflectliteValue.parts (.agg #[.pointer (some ⟨7, 166, none⟩), .pointer (some a), .int .u64 150])).run Tryz.prog w = .ok (some (166, a, 150)) w := by kernel_rfl
theorem direct1 (w : World) : (Rtype.directlyAssignable 166 166).run Tryz.prog w = .ok true w := by kernel_rfl
theorem size1 (w : World) : (sizeOf 166).run Tryz.prog w = .ok 1 w := by kernel_rfl
theorem typeOf1 (v : Value) (w : World) : (ReflectliteType.typeOf #[.iface 166 v]).run Tryz.prog w = .ok (.iface 356 (.agg #[.pointer (some ⟨7, 166, none⟩)])) w := by kernel_rfl
theorem valueOfE1 (e : Addr) (w : World) : (ReflectliteValue.unpack (.iface 166 (.pointer (some e)))).run Tryz.prog w
    = .ok (.agg #[.pointer (some ⟨7, 166, none⟩), .pointer (some ⟨w.heap.size, 0, none⟩), .int .u64 150]) (w.alloc (.cells #[(.pointer (some e))] 166)) := by kernel_rfl
theorem set1 (ta b : Addr) (e : Addr) (old : Value) (W : World) (hb : W.cell? b = some (.pointer (some e))) (ht : W.cell? ta = some old) (hf : W.frozen? ta = false) :
    (ReflectliteValue.set #[.agg #[.pointer (some ⟨7, 166, none⟩), .pointer (some ta), .int .u64 406], .agg #[.pointer (some ⟨7, 166, none⟩), .pointer (some b), .int .u64 150]]).run Tryz.prog W
      = .ok (.tuple #[]) (W.setCell ta (.pointer (some e))) := by
  rw [rls]
  simp only [Sem.run_bind, partsA1, partsE1, Result.andThen]
  simp [ReflectliteValue.flagAddr, loadVar, isAgg, underlying, Tryz.underlying166, hb, Result.andThen, direct1, storeVar, Value.cells, storeCells, Addr.add]
  rw [run_store Tryz.prog W ta _ _ (by rfl)]
  simp [ht, hf]

/-! ### target: type 171, of 25 -/
theorem valueOfP2 (t : Addr) (w : World) : (ReflectliteValue.unpack (.iface 171 (.pointer (some t)))).run Tryz.prog w
    = .ok (.agg #[.pointer (some ⟨7, 171, none⟩), .pointer (some ⟨w.heap.size, 0, none⟩), .int .u64 150]) (w.alloc (.cells #[.pointer (some t)] 171)) := by kernel_rfl
theorem typeP2 (a : Addr) (w : World) : (ReflectliteValue.methodAny (ReflectliteValue.valueError "reflectlite.Value.Type" 0) (fun t _ _ _ => ReflectliteType.toType t) #[.agg #[.pointer (some ⟨7, 171, none⟩), .pointer (some a), .int .u64 150]]).run Tryz.prog w
    = .ok (.iface 356 (.agg #[.pointer (some ⟨7, 171, none⟩)])) w := by kernel_rfl
theorem kindP2 (w : World) : ((ReflectliteType.abiMethod fun t => (fun a : Nat => Value.int IntKind.u8 (a : Int)) <$> Rtype.kind t) #[.pointer (some ⟨7, 171, none⟩)]).run Tryz.prog w = .ok (.int .u8 22) w := by kernel_rfl
theorem kindE2 (w : World) : ((ReflectliteType.abiMethod fun t => (fun a : Nat => Value.int IntKind.u8 (a : Int)) <$> Rtype.kind t) #[.pointer (some ⟨7, 25, none⟩)]).run Tryz.prog w = .ok (.int .u8 2) w := by kernel_rfl
theorem partsP2 (a : Addr) (w : World) : (ReflectliteValue.parts (.agg #[.pointer (some ⟨7, 171, none⟩), .pointer (some a), .int .u64 150])).run Tryz.prog w = .ok (some (171, a, 150)) w := by kernel_rfl
theorem isNil2 (a p : Addr) (W : World) (ha : W.cell? a = some (.pointer (some p))) :
    (ReflectliteValue.method (ReflectliteValue.valueError "reflectlite.Value.IsNil" 0) ReflectliteValue.isNil #[.agg #[.pointer (some ⟨7, 171, none⟩), .pointer (some a), .int .u64 150]]).run Tryz.prog W = .ok (.bool false) W := by
  rw [rlm]
  simp only [Sem.run_bind, partsP2, Result.andThen]
  simp [ReflectliteValue.isNil, loadVar, isAgg, underlying, Tryz.underlying171, ha, Result.andThen]
theorem elemT2 (w : World) : (ReflectliteType.method ReflectliteType.elem #[.agg #[.pointer (some ⟨7, 171, none⟩)]]).run Tryz.prog w = .ok (.iface 356 (.agg #[.pointer (some ⟨7, 25, none⟩)])) w := by kernel_rfl
theorem implements2 (w : World) : (ReflectliteType.relation "Implements" ReflectliteType.implements_ #[.agg #[.pointer (some ⟨7, 25, none⟩)], .iface 356 (.agg #[.pointer (some ⟨7, 71, none⟩)])]).run Tryz.prog w = .ok (.bool true) w := by kernel_rfl
theorem assignable2 (w : World) : (ReflectliteType.relation "AssignableTo" ReflectliteType.assignableTo #[.agg #[.pointer (some ⟨7, 25, none⟩)], .iface 356 (.agg #[.pointer (some ⟨7, 25, none⟩)])]).run Tryz.prog w = .ok (.bool true) w := by kernel_rfl
theorem elemOf2 (w : World) : (Rtype.elem? 171).run Tryz.prog w = .ok (some 25) w := by kernel_rfl
theorem mkE2 (p : Addr) (w : World) : (ReflectliteValue.mk 25 p ReflectliteValue.flagAddr).run Tryz.prog w = .ok (.agg #[.pointer (some ⟨7, 25, none⟩), .pointer (some p), .int .u64 386]) w := by kernel_rfl
theorem elemV2 (a p : Addr) (W : World) (ha : W.cell? a = some (.pointer (some p))) :
    (ReflectliteValue.method (ReflectliteValue.valueError "reflectlite.Value.Elem" 0) ReflectliteValue.elem #[.agg #[.pointer (some ⟨7, 171, none⟩), .pointer (some a), .int .u64 150]]).run Tryz.prog W
      = .ok (.agg #[.pointer (some ⟨7, 25, none⟩), .pointer (some p), .int .u64 386]) W := by
  rw [rlm]
  simp only [Sem.run_bind, partsP2, Result.andThen]
  simp [ReflectliteValue.elem, loadVar, isAgg, underlying, Tryz.underlying171, ha, Result.andThen, elemOf2, mkE2]
theorem partsA2 (a : Addr) (w : World) : (ReflectliteValue.parts (.agg #[.pointer (some ⟨7, 25, none⟩), .pointer (some a), .int .u64 386])).run Tryz.prog w = .ok (some (25, a, 386)) w := by kernel_rfl
theorem partsE2 (a : Addr) (w : World) : (ReflectliteValue.parts (.agg #[.pointer (some ⟨7, 25, none⟩), .pointer (some a), .int .u64 130])).run Tryz.prog w = .ok (some (25, a, 130)) w := by kernel_rfl
theorem direct2 (w : World) : (Rtype.directlyAssignable 25 25).run Tryz.prog w = .ok true w := by kernel_rfl
theorem size2 (w : World) : (sizeOf 25).run Tryz.prog w = .ok 1 w := by kernel_rfl
theorem typeOf2 (v : Value) (w : World) : (ReflectliteType.typeOf #[.iface 25 v]).run Tryz.prog w = .ok (.iface 356 (.agg #[.pointer (some ⟨7, 25, none⟩)])) w := by kernel_rfl
theorem valueOfE2 (n : Int) (w : World) : (ReflectliteValue.unpack (.iface 25 (.int .i64 n))).run Tryz.prog w
    = .ok (.agg #[.pointer (some ⟨7, 25, none⟩), .pointer (some ⟨w.heap.size, 0, none⟩), .int .u64 130]) (w.alloc (.cells #[(.int .i64 n)] 25)) := by kernel_rfl
theorem set2 (ta b : Addr) (n : Int) (old : Value) (W : World) (hb : W.cell? b = some (.int .i64 n)) (ht : W.cell? ta = some old) (hf : W.frozen? ta = false) :
    (ReflectliteValue.set #[.agg #[.pointer (some ⟨7, 25, none⟩), .pointer (some ta), .int .u64 386], .agg #[.pointer (some ⟨7, 25, none⟩), .pointer (some b), .int .u64 130]]).run Tryz.prog W
      = .ok (.tuple #[]) (W.setCell ta (.int .i64 n)) := by
  rw [rls]
  simp only [Sem.run_bind, partsA2, partsE2, Result.andThen]
  simp [ReflectliteValue.flagAddr, loadVar, isAgg, underlying, Tryz.underlying25, hb, Result.andThen, direct2, storeVar, Value.cells, storeCells, Addr.add]
  rw [run_store Tryz.prog W ta _ _ (by rfl)]
  simp [ht, hf]

set_option maxHeartbeats 4000000 in
theorem hit1 (e : Addr) (t : Addr) (old : Value) (w : World) (hg : w.cell? ⟨1, 0, none⟩ = some (.iface 356 (.agg #[.pointer (some ⟨7, 71, none⟩)]))) (ht0 : w.cell? t = some old) (hf0 : w.frozen? t = false) :
    Calls Tryz.prog 91 #[.iface 166 (.pointer (some e)), .iface 168 (.pointer (some t))] w fun ev w' => ev = .returned (.bool true) ∧ w' = ((((w.alloc (.cells #[.pointer (some t)] 168)).alloc (.cells #[.pointer (some ⟨7, 168, none⟩), .pointer (some ⟨w.heap.size, 0, none⟩), .int .u64 150] 256)).alloc (.cells #[.pointer (some ⟨7, 168, none⟩), .pointer (some ⟨w.heap.size, 0, none⟩), .int .u64 150] 256)).alloc (.cells #[(.pointer (some e))] 166)).setCell t (.pointer (some e)) := by
  have h6 := @run_callFunc_extern Tryz.prog 158 _ (fun args => ReflectliteValue.unpack (args.getD 0 (.tuple #[]))) Tryz.func158 (by kernel_rfl) (by kernel_rfl) (by kernel_rfl) (by kernel_rfl)
  have h7 := @run_callFunc_extern Tryz.prog 159 _ (ReflectliteValue.methodAny (ReflectliteValue.valueError "reflectlite.Value.Type" 0) (fun t _ _ _ => ReflectliteType.toType t)) Tryz.func159 (by kernel_rfl) (by kernel_rfl) (by kernel_rfl) (by kernel_rfl)
  have h8 := @run_callFunc_extern Tryz.prog 160 _ (ReflectliteValue.method (ReflectliteValue.valueError "reflectlite.Value.IsNil" 0) ReflectliteValue.isNil) Tryz.func160 (by kernel_rfl) (by kernel_rfl) (by kernel_rfl) (by kernel_rfl)
  have h27 := @run_callFunc_extern Tryz.prog 475 _ (ReflectliteType.abiMethod fun t => do pure (.int .u8 (← Rtype.kind t))) Tryz.func475 (by kernel_rfl) (by kernel_rfl) (by kernel_rfl) (by kernel_rfl)
  have h37 := @run_callFunc_extern Tryz.prog 696 _ (ReflectliteType.method ReflectliteType.elem) Tryz.func696 (by kernel_rfl) (by kernel_rfl) (by kernel_rfl) (by kernel_rfl)
  have h38 := @run_callFunc_extern Tryz.prog 697 _ (ReflectliteType.relation "Implements" ReflectliteType.implements_) Tryz.func697 (by kernel_rfl) (by kernel_rfl) (by kernel_rfl) (by kernel_rfl)
  have h10 := @run_callFunc_extern Tryz.prog 224 _ ReflectliteType.typeOf Tryz.func224 (by kernel_rfl) (by kernel_rfl) (by kernel_rfl) (by kernel_rfl)
  have h35 := @run_callFunc_extern Tryz.prog 694 _ (ReflectliteType.relation "AssignableTo" ReflectliteType.assignableTo) Tryz.func694 (by kernel_rfl) (by kernel_rfl) (by kernel_rfl) (by kernel_rfl)
  have h11 := @run_callFunc_extern Tryz.prog 225 _ (ReflectliteValue.method (ReflectliteValue.valueError "reflectlite.Value.Elem" 0) ReflectliteValue.elem) Tryz.func225 (by kernel_rfl) (by kernel_rfl) (by kernel_rfl) (by kernel_rfl)
  have h12 := @run_callFunc_extern Tryz.prog 226 _ ReflectliteValue.set Tryz.func226 (by kernel_rfl) (by kernel_rfl) (by kernel_rfl) (by kernel_rfl)
  have a25 := assignable1
  have v25 := valueOfE1
  have tO := typeOf1
  have mA := methodAssignableTo
  have f6 := valueOfP1
  have f7 := typeP1
  have mK := methodKind
  have mE := methodElem
  have mI := methodImplements
  have k27 := kindP1
  have k25 := kindE1
  have e27 := elemT1
  have i25 := implements1
  have hlt : 1 < w.heap.size := by
    rcases Nat.lt_or_ge 1 w.heap.size with h | h
    · exact h
    · simp [World.cell?, Array.getElem?_eq_none h] at hg
  have n8 := isNil1 ⟨w.heap.size, 0, none⟩ t ((w.alloc (.cells #[.pointer (some t)] 168)).alloc (.cells #[.pointer (some ⟨7, 168, none⟩), .pointer (some ⟨w.heap.size, 0, none⟩), .int .u64 150] 256)) (by simp)
  have hg2 : ((w.alloc (.cells #[.pointer (some t)] 168)).alloc (.cells #[.pointer (some ⟨7, 168, none⟩), .pointer (some ⟨w.heap.size, 0, none⟩), .int .u64 150] 256)).cell? ⟨1, 0, none⟩ = some (.iface 356 (.agg #[.pointer (some ⟨7, 71, none⟩)])) := by
    rw [World.cell?_alloc_lt _ _ ⟨1, 0, none⟩ (by first | (simp; done) | (simp; omega)), World.cell?_alloc_lt _ _ ⟨1, 0, none⟩ hlt]; exact hg
  have htl : t.block < w.heap.size := by
    rcases Nat.lt_or_ge t.block w.heap.size with h | h
    · exact h
    · simp [World.cell?, Array.getElem?_eq_none h] at ht0
  have el := elemV1 ⟨w.heap.size, 0, none⟩ t (((w.alloc (.cells #[.pointer (some t)] 168)).alloc (.cells #[.pointer (some ⟨7, 168, none⟩), .pointer (some ⟨w.heap.size, 0, none⟩), .int .u64 150] 256)).alloc (.cells #[.pointer (some ⟨7, 168, none⟩), .pointer (some ⟨w.heap.size, 0, none⟩), .int .u64 150] 256)) (by
    rw [World.cell?_alloc_lt _ _ ⟨w.heap.size, 0, none⟩ (by simp; omega)]; simp)
  have st := set1 t ⟨w.heap.size + 1 + 1 + 1, 0, none⟩ e old ((((w.alloc (.cells #[.pointer (some t)] 168)).alloc (.cells #[.pointer (some ⟨7, 168, none⟩), .pointer (some ⟨w.heap.size, 0, none⟩), .int .u64 150] 256)).alloc (.cells #[.pointer (some ⟨7, 168, none⟩), .pointer (some ⟨w.heap.size, 0, none⟩), .int .u64 150] 256)).alloc (.cells #[(.pointer (some e))] 166))
    (by rw [World.cell?_alloc_at _ _ _ _ (by simp)]; rfl)
    (by rw [World.cell?_alloc_lt _ _ t (by simp; omega), World.cell?_alloc_lt _ _ t (by simp; omega), World.cell?_alloc_lt _ _ t (by simp; omega), World.cell?_alloc_lt _ _ t htl]; exact ht0)
    (by rw [World.frozen?_alloc_old _ _ t (by simp; omega), World.frozen?_alloc_old _ _ t (by simp; omega), World.frozen?_alloc_old _ _ t (by simp; omega), World.frozen?_alloc_old _ _ t (Nat.ne_of_lt htl)]; exact hf0)
  go_enter Tryz.func91, Tryz.ntmps91
  go_wp2
  refine wp_loop_rounds 1 ?_
  rw [rounds_succ]
  go_wp2
  go_ret
  exact ⟨rfl, rfl⟩

set_option maxHeartbeats 4000000 in
theorem hit2 (n : Int) (t : Addr) (old : Value) (w : World) (hg : w.cell? ⟨1, 0, none⟩ = some (.iface 356 (.agg #[.pointer (some ⟨7, 71, none⟩)]))) (ht0 : w.cell? t = some old) (hf0 : w.frozen? t = false) :
    Calls Tryz.prog 91 #[.iface 25 (.int .i64 n), .iface 171 (.pointer (some t))] w fun ev w' => ev = .returned (.bool true) ∧ w' = ((((w.alloc (.cells #[.pointer (some t)] 171)).alloc (.cells #[.pointer (some ⟨7, 171, none⟩), .pointer (some ⟨w.heap.size, 0, none⟩), .int .u64 150] 256)).alloc (.cells #[.pointer (some ⟨7, 171, none⟩), .pointer (some ⟨w.heap.size, 0, none⟩), .int .u64 150] 256)).alloc (.cells #[(.int .i64 n)] 25)).setCell t (.int .i64 n) := by
  have h6 := @run_callFunc_extern Tryz.prog 158 _ (fun args => ReflectliteValue.unpack (args.getD 0 (.tuple #[]))) Tryz.func158 (by kernel_rfl) (by kernel_rfl) (by kernel_rfl) (by kernel_rfl)
  have h7 := @run_callFunc_extern Tryz.prog 159 _ (ReflectliteValue.methodAny (ReflectliteValue.valueError "reflectlite.Value.Type" 0) (fun t _ _ _ => ReflectliteType.toType t)) Tryz.func159 (by kernel_rfl) (by kernel_rfl) (by kernel_rfl) (by kernel_rfl)
  have h8 := @run_callFunc_extern Tryz.prog 160 _ (ReflectliteValue.method (ReflectliteValue.valueError "reflectlite.Value.IsNil" 0) ReflectliteValue.isNil) Tryz.func160 (by kernel_rfl) (by kernel_rfl) (by kernel_rfl) (by kernel_rfl)
  have h27 := @run_callFunc_extern Tryz.prog 475 _ (ReflectliteType.abiMethod fun t => do pure (.int .u8 (← Rtype.kind t))) Tryz.func475 (by kernel_rfl) (by kernel_rfl) (by kernel_rfl) (by kernel_rfl)
  have h37 := @run_callFunc_extern Tryz.prog 696 _ (ReflectliteType.method ReflectliteType.elem) Tryz.func696 (by kernel_rfl) (by kernel_rfl) (by kernel_rfl) (by kernel_rfl)
  have h38 := @run_callFunc_extern Tryz.prog 697 _ (ReflectliteType.relation "Implements" ReflectliteType.implements_) Tryz.func697 (by kernel_rfl) (by kernel_rfl) (by kernel_rfl) (by kernel_rfl)
  have h10 := @run_callFunc_extern Tryz.prog 224 _ ReflectliteType.typeOf Tryz.func224 (by kernel_rfl) (by kernel_rfl) (by kernel_rfl) (by kernel_rfl)
  have h35 := @run_callFunc_extern Tryz.prog 694 _ (ReflectliteType.relation "AssignableTo" ReflectliteType.assignableTo) Tryz.func694 (by kernel_rfl) (by kernel_rfl) (by kernel_rfl) (by kernel_rfl)
  have h11 := @run_callFunc_extern Tryz.prog 225 _ (ReflectliteValue.method (ReflectliteValue.valueError "reflectlite.Value.Elem" 0) ReflectliteValue.elem) Tryz.func225 (by kernel_rfl) (by kernel_rfl) (by kernel_rfl) (by kernel_rfl)
  have h12 := @run_callFunc_extern Tryz.prog 226 _ ReflectliteValue.set Tryz.func226 (by kernel_rfl) (by kernel_rfl) (by kernel_rfl) (by kernel_rfl)
  have a25 := assignable2
  have v25 := valueOfE2
  have tO := typeOf2
  have mA := methodAssignableTo
  have f6 := valueOfP2
  have f7 := typeP2
  have mK := methodKind
  have mE := methodElem
  have mI := methodImplements
  have k27 := kindP2
  have k25 := kindE2
  have e27 := elemT2
  have i25 := implements2
  have hlt : 1 < w.heap.size := by
    rcases Nat.lt_or_ge 1 w.heap.size with h | h
    · exact h
    · simp [World.cell?, Array.getElem?_eq_none h] at hg
  have n8 := isNil2 ⟨w.heap.size, 0, none⟩ t ((w.alloc (.cells #[.pointer (some t)] 171)).alloc (.cells #[.pointer (some ⟨7, 171, none⟩), .pointer (some ⟨w.heap.size, 0, none⟩), .int .u64 150] 256)) (by simp)
  have hg2 : ((w.alloc (.cells #[.pointer (some t)] 171)).alloc (.cells #[.pointer (some ⟨7, 171, none⟩), .pointer (some ⟨w.heap.size, 0, none⟩), .int .u64 150] 256)).cell? ⟨1, 0, none⟩ = some (.iface 356 (.agg #[.pointer (some ⟨7, 71, none⟩)])) := by
    rw [World.cell?_alloc_lt _ _ ⟨1, 0, none⟩ (by first | (simp; done) | (simp; omega)), World.cell?_alloc_lt _ _ ⟨1, 0, none⟩ hlt]; exact hg
  have htl : t.block < w.heap.size := by
    rcases Nat.lt_or_ge t.block w.heap.size with h | h
    · exact h
    · simp [World.cell?, Array.getElem?_eq_none h] at ht0
  have el := elemV2 ⟨w.heap.size, 0, none⟩ t (((w.alloc (.cells #[.pointer (some t)] 171)).alloc (.cells #[.pointer (some ⟨7, 171, none⟩), .pointer (some ⟨w.heap.size, 0, none⟩), .int .u64 150] 256)).alloc (.cells #[.pointer (some ⟨7, 171, none⟩), .pointer (some ⟨w.heap.size, 0, none⟩), .int .u64 150] 256)) (by
    rw [World.cell?_alloc_lt _ _ ⟨w.heap.size, 0, none⟩ (by simp; omega)]; simp)
  have st := set2 t ⟨w.heap.size + 1 + 1 + 1, 0, none⟩ n old ((((w.alloc (.cells #[.pointer (some t)] 171)).alloc (.cells #[.pointer (some ⟨7, 171, none⟩), .pointer (some ⟨w.heap.size, 0, none⟩), .int .u64 150] 256)).alloc (.cells #[.pointer (some ⟨7, 171, none⟩), .pointer (some ⟨w.heap.size, 0, none⟩), .int .u64 150] 256)).alloc (.cells #[(.int .i64 n)] 25))
    (by rw [World.cell?_alloc_at _ _ _ _ (by simp)]; rfl)
    (by rw [World.cell?_alloc_lt _ _ t (by simp; omega), World.cell?_alloc_lt _ _ t (by simp; omega), World.cell?_alloc_lt _ _ t (by simp; omega), World.cell?_alloc_lt _ _ t htl]; exact ht0)
    (by rw [World.frozen?_alloc_old _ _ t (by simp; omega), World.frozen?_alloc_old _ _ t (by simp; omega), World.frozen?_alloc_old _ _ t (by simp; omega), World.frozen?_alloc_old _ _ t (Nat.ne_of_lt htl)]; exact hf0)
  go_enter Tryz.func91, Tryz.ntmps91
  go_wp2
  refine wp_loop_rounds 1 ?_
  rw [rounds_succ]
  go_wp2
  go_ret
  exact ⟨rfl, rfl⟩

theorem notAssignable (w : World) : (ReflectliteType.relation "AssignableTo" ReflectliteType.assignableTo #[.agg #[.pointer (some ⟨7, 25, none⟩)], .iface 356 (.agg #[.pointer (some ⟨7, 166, none⟩)])]).run Tryz.prog w = .ok (.bool false) w := by kernel_rfl
theorem noI1 (v : Value) (xT : TypeId) (w : World) : (Instr.typeAssert (.iface 25 v) xT 361 true).run Tryz.prog w = .ok (.tuple #[.nilIface, .bool false]) w := run_typeAssert_lacksB Tryz.underlying361 (by kernel_rfl) (by kernel_rfl) v xT w
theorem noI2 (v : Value) (xT : TypeId) (w : World) : (Instr.typeAssert (.iface 25 v) xT 364 true).run Tryz.prog w = .ok (.tuple #[.nilIface, .bool false]) w := run_typeAssert_lacksB Tryz.underlying364 (by kernel_rfl) (by kernel_rfl) v xT w
theorem noI3 (v : Value) (xT : TypeId) (w : World) : (Instr.typeAssert (.iface 25 v) xT 365 true).run Tryz.prog w = .ok (.tuple #[.nilIface, .bool false]) w := run_typeAssert_lacksB Tryz.underlying365 (by kernel_rfl) (by kernel_rfl) v xT w
set_option maxHeartbeats 4000000 in
theorem miss (n : Int) (t : Addr) (w : World) (hg : w.cell? ⟨1, 0, none⟩ = some (.iface 356 (.agg #[.pointer (some ⟨7, 71, none⟩)]))) :
    Calls Tryz.prog 91 #[.iface 25 (.int .i64 n), .iface 168 (.pointer (some t))] w fun ev w' => ev = .returned (.bool false) ∧ Below w.heap.size w w' := by
  have h6 := @run_callFunc_extern Tryz.prog 158 _ (fun args => ReflectliteValue.unpack (args.getD 0 (.tuple #[]))) Tryz.func158 (by kernel_rfl) (by kernel_rfl) (by kernel_rfl) (by kernel_rfl)
  have h7 := @run_callFunc_extern Tryz.prog 159 _ (ReflectliteValue.methodAny (ReflectliteValue.valueError "reflectlite.Value.Type" 0) (fun t _ _ _ => ReflectliteType.toType t)) Tryz.func159 (by kernel_rfl) (by kernel_rfl) (by kernel_rfl) (by kernel_rfl)
  have h8 := @run_callFunc_extern Tryz.prog 160 _ (ReflectliteValue.method (ReflectliteValue.valueError "reflectlite.Value.IsNil" 0) ReflectliteValue.isNil) Tryz.func160 (by kernel_rfl) (by kernel_rfl) (by kernel_rfl) (by kernel_rfl)
  have h27 := @run_callFunc_extern Tryz.prog 475 _ (ReflectliteType.abiMethod fun t => do pure (.int .u8 (← Rtype.kind t))) Tryz.func475 (by kernel_rfl) (by kernel_rfl) (by kernel_rfl) (by kernel_rfl)
  have h37 := @run_callFunc_extern Tryz.prog 696 _ (ReflectliteType.method ReflectliteType.elem) Tryz.func696 (by kernel_rfl) (by kernel_rfl) (by kernel_rfl) (by kernel_rfl)
  have h38 := @run_callFunc_extern Tryz.prog 697 _ (ReflectliteType.relation "Implements" ReflectliteType.implements_) Tryz.func697 (by kernel_rfl) (by kernel_rfl) (by kernel_rfl) (by kernel_rfl)
  have h10 := @run_callFunc_extern Tryz.prog 224 _ ReflectliteType.typeOf Tryz.func224 (by kernel_rfl) (by kernel_rfl) (by kernel_rfl) (by kernel_rfl)
  have h35 := @run_callFunc_extern Tryz.prog 694 _ (ReflectliteType.relation "AssignableTo" ReflectliteType.assignableTo) Tryz.func694 (by kernel_rfl) (by kernel_rfl) (by kernel_rfl) (by kernel_rfl)
  have h11 := @run_callFunc_extern Tryz.prog 225 _ (ReflectliteValue.method (ReflectliteValue.valueError "reflectlite.Value.Elem" 0) ReflectliteValue.elem) Tryz.func225 (by kernel_rfl) (by kernel_rfl) (by kernel_rfl) (by kernel_rfl)
  have h12 := @run_callFunc_extern Tryz.prog 226 _ ReflectliteValue.set Tryz.func226 (by kernel_rfl) (by kernel_rfl) (by kernel_rfl) (by kernel_rfl)
  have a25 := notAssignable
  have y1 := noI1
  have y2 := noI2
  have y3 := noI3
  have tO := typeOf2
  have mA := methodAssignableTo
  have f6 := valueOfP1
  have f7 := typeP1
  have mK := methodKind
  have mE := methodElem
  have mI := methodImplements
  have k27 := kindP1
  have k25 := kindE1
  have e27 := elemT1
  have i25 := implements1
  have hlt : 1 < w.heap.size := by
    rcases Nat.lt_or_ge 1 w.heap.size with h | h
    · exact h
    · simp [World.cell?, Array.getElem?_eq_none h] at hg
  have n8 := isNil1 ⟨w.heap.size, 0, none⟩ t ((w.alloc (.cells #[.pointer (some t)] 168)).alloc (.cells #[.pointer (some ⟨7, 168, none⟩), .pointer (some ⟨w.heap.size, 0, none⟩), .int .u64 150] 256)) (by simp)
  have hg2 : ((w.alloc (.cells #[.pointer (some t)] 168)).alloc (.cells #[.pointer (some ⟨7, 168, none⟩), .pointer (some ⟨w.heap.size, 0, none⟩), .int .u64 150] 256)).cell? ⟨1, 0, none⟩ = some (.iface 356 (.agg #[.pointer (some ⟨7, 71, none⟩)])) := by
    rw [World.cell?_alloc_lt _ _ ⟨1, 0, none⟩ (by first | (simp; done) | (simp; omega)), World.cell?_alloc_lt _ _ ⟨1, 0, none⟩ hlt]; exact hg
  go_enter Tryz.func91, Tryz.ntmps91
  go_wp2
  refine wp_loop_rounds 1 ?_
  rw [rounds_succ]
  go_wp2
  go_ret
  refine ⟨rfl, ?_⟩
  have b0 := Below.refl w.heap.size w
  have b1 := fun o => b0.alloc (Nat.le_refl _) o
  have b2 := fun o o2 => (b1 o).alloc (by simp) o2
  have b3 := fun o o2 o3 => (b2 o o2).alloc (by simp; omega) o3
  have b4 := fun o o2 o3 o4 => (b3 o o2 o3).alloc (by simp; omega) o4
  first | exact b0 | exact b1 _ | exact b2 _ _ | exact b3 _ _ _ | exact b4 _ _ _ _

noncomputable def hitF (te tp : TypeId) : Nat := Go.X.cnd (Go.X.cnd (Nat.beq te 166) (Nat.beq tp 168) false) 1 (Go.X.cnd (Go.X.cnd (Nat.beq te 25) (Nat.beq tp 171) false) 3 (Go.X.cnd (Go.X.cnd (Nat.beq te 25) (Nat.beq tp 168) false) 2 (0)))
theorem allocs4 (w : World) (a b c d : Obj) : Below w.heap.size w ((((w.alloc a).alloc b).alloc c).alloc d) :=
  ((((Below.refl w.heap.size w).alloc (Nat.le_refl _) a).alloc (by simp) b).alloc (by simp; omega) c).alloc (by simp; omega) d
theorem hitF_one {te tp : TypeId} (h : hitF te tp = 1) : te = 166 ∧ tp = 168 := by
  unfold hitF at h
  cases h25 : Nat.beq te 25 <;> cases h166 : Nat.beq te 166 <;> cases g168 : Nat.beq tp 168 <;> cases g171 : Nat.beq tp 171 <;> rw [h25, h166, g168, g171] at h <;> first | exact ⟨Nat.eq_of_beq_eq_true h166, Nat.eq_of_beq_eq_true g168⟩ | exact absurd h (by decide)
theorem hitF_two {te tp : TypeId} (h : hitF te tp = 2) : te = 25 ∧ tp = 168 := by
  unfold hitF at h
  cases h25 : Nat.beq te 25 <;> cases h166 : Nat.beq te 166 <;> cases g168 : Nat.beq tp 168 <;> cases g171 : Nat.beq tp 171 <;> rw [h25, h166, g168, g171] at h <;> first | exact ⟨Nat.eq_of_beq_eq_true h25, Nat.eq_of_beq_eq_true g168⟩ | exact absurd h (by decide)
theorem hitF_three {te tp : TypeId} (h : hitF te tp = 3) : te = 25 ∧ tp = 171 := by
  unfold hitF at h
  cases h25 : Nat.beq te 25 <;> cases h166 : Nat.beq te 166 <;> cases g168 : Nat.beq tp 168 <;> cases g171 : Nat.beq tp 171 <;> rw [h25, h166, g168, g171] at h <;> first | exact ⟨Nat.eq_of_beq_eq_true h25, Nat.eq_of_beq_eq_true g171⟩ | exact absurd h (by decide)
theorem facts {W : World} (hg : W.cell? ⟨1, 0, none⟩ = some (.iface 356 (.agg #[.pointer (some ⟨7, 71, none⟩)]))) : Go.X.AsFacts Tryz.prog W 91 hitF := by
  have hlt : 1 < W.heap.size := by
    rcases Nat.lt_or_ge 1 W.heap.size with h | h
    · exact h
    · simp [World.cell?, Array.getElem?_eq_none h] at hg
  have key : ∀ w : World, Below W.heap.size W w → w.cell? ⟨1, 0, none⟩ = some (.iface 356 (.agg #[.pointer (some ⟨7, 71, none⟩)])) := fun w b => (b.cell hlt).trans hg
  constructor
  · intro w t b
    exact (as_nil t w).mono fun e w' ⟨h1, h2⟩ => ⟨h1, by rw [h2]; exact Below.refl _ _⟩
  · intro te tp w a t old hh b h1 h2
    obtain ⟨rfl, rfl⟩ := hitF_one hh
    exact (hit1 a t old w (key w b) h1 h2).mono fun e w' ⟨h1, h2⟩ => ⟨h1, _, allocs4 _ _ _ _ _, h2⟩
  · intro te tp w n t old hh b h1 h2
    obtain ⟨rfl, rfl⟩ := hitF_three hh
    exact (hit2 n t old w (key w b) h1 h2).mono fun e w' ⟨h1, h2⟩ => ⟨h1, _, allocs4 _ _ _ _ _, h2⟩
  · intro te tp w n t hh b
    obtain ⟨rfl, rfl⟩ := hitF_two hh
    exact miss n t w (key w b)
end Go.Proofs.YtcponehlpgdmjaaGreatDoor.As
