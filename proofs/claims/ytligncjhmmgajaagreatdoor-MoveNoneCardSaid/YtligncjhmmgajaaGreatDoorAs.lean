/-
 PROVED: what errors.As does at the targets **api.Lost and *api.Errno,of a nil error,of an *api.Lost,of an api.Errno. Condition: errors.errorType holds the handle of the type error.
-/
import Derived.Test.YtligncjhmmgajaaGreatDoorXe
import Derived.Test.YtligncjhmmgajaaGreatDoorProg
import Derived.WalkKit
import Derived.LaidEql
import Derived.Stop.Asserts
import Derived.RowKitTokens
set_option linter.unusedVariables false
set_option linter.unusedSimpArgs false
open Nat renaming le_refl -> zL0
noncomputable section
namespace Go.Proofs.YtligncjhmmgajaaGreatDoor.As
open Go Go.RowKit Go.Extern.Stop Go.Stop Go.Extern
theorem as_nil (t:Value) (w:World) :
  Calls Tryz.prog 36 #[.nilIface,t] w λe w'=>e=.returned (.bool false)/\w'=w:=by
 go_enter Tryz.func36,Tryz.ntmps36
 go_wp2
 go_ret
 exact⟨rfl,rfl⟩
theorem jGq (h:Value) (w:World):(Go.method 756 240 (.agg #[h]) "Kind").run Tryz.prog w=.ok (511,h) w:=by kernel_rfl
theorem jGr (h:Value) (w:World):(Go.method 756 240 (.agg #[h]) "Elem").run Tryz.prog w=.ok (607,.agg #[h]) w:=by kernel_rfl
theorem qPn (h:Value) (w:World):(Go.method 756 240 (.agg #[h]) "Implements").run Tryz.prog w=.ok (608,.agg #[h]) w:=by kernel_rfl
theorem qL7 (h:Value) (w:World):(Go.method 756 240 (.agg #[h]) "AssignableTo").run Tryz.prog w=.ok (605,.agg #[h]) w:=by kernel_rfl
theorem rlm (z:Sem Value) (f:TypeId->Addr->Nat->Nat->Sem Value) (v:Value) :
  ReflectliteValue.method z f #[v]=(do match <- ReflectliteValue.parts v with | none=>z | some (t,a,fl)=>f t a fl (fl % 32)):=rfl
theorem rls (v x:Value):ReflectliteValue.set #[v,x]=(do
  let (some (dst,a,fl),some (src,b,_)):=(<- ReflectliteValue.parts v,<- ReflectliteValue.parts x)
   | unsupported (.noEntry "extern/(internal/reflectlite.Value).Set.zeroValue")
  if fl / ReflectliteValue.flagAddr % 2 == 0 then unsupported (.noEntry "extern/(internal/reflectlite.Value).Set.unaddressable")
  let val <- loadVar src b
  if <- Rtype.directlyAssignable dst src then storeVar dst a val
  else if <- Rtype.implements dst src then
   if (<- Rtype.kind src) == 20 then
    match val with
    | .nilIface=>unsupported (.noEntry "extern/reflectlite: a nil value of one interface type handed on as a value of another")
    | _=>storeVar dst a val
   else storeVar dst a (.iface src val)
  else panicString ("reflectlite.Set: value of type "++(<- Rtype.spelt src) ++ " is not assignable to type "++(<- Rtype.spelt dst))
  pure (.tuple #[])):=rfl
theorem valueOfP2 (t:Addr) (w:World):(ReflectliteValue.unpack (.iface 103 (.pointer (some t)))).run Tryz.prog w
  = .ok (.agg #[.pointer (some ⟨3,103,none⟩),.pointer (some ⟨w.heap.size,0,none⟩),.int .u64 150]) (w.alloc (.cells #[.pointer (some t)] 103)):=by kernel_rfl
theorem typeP2 (a:Addr) (w:World):(ReflectliteValue.methodAny (ReflectliteValue.valueError "reflectlite.Value.Type" 0) (λt _ _ _=>ReflectliteType.toType t) #[.agg #[.pointer (some ⟨3,103,none⟩),.pointer (some a),.int .u64 150]]).run Tryz.prog w
  = .ok (.iface 240 (.agg #[.pointer (some ⟨3,103,none⟩)])) w:=by kernel_rfl
theorem kindP2 (w:World):((ReflectliteType.abiMethod λt=>(λa:Nat=>Value.int IntKind.u8 (a:Int)) <$> Rtype.kind t) #[.pointer (some ⟨3,103,none⟩)]).run Tryz.prog w=.ok (.int .u8 22) w:=by kernel_rfl
theorem kindE2 (w:World):((ReflectliteType.abiMethod λt=>(λa:Nat=>Value.int IntKind.u8 (a:Int)) <$> Rtype.kind t) #[.pointer (some ⟨3,32,none⟩)]).run Tryz.prog w=.ok (.int .u8 2) w:=by kernel_rfl
theorem partsP2 (a:Addr) (w:World):(ReflectliteValue.parts (.agg #[.pointer (some ⟨3,103,none⟩),.pointer (some a),.int .u64 150])).run Tryz.prog w=.ok (some (103,a,150)) w:=by kernel_rfl
theorem isNil2 (a p:Addr) (W:World) (ha:W.cell? a=some (.pointer (some p))) :
  (ReflectliteValue.method (ReflectliteValue.valueError "reflectlite.Value.IsNil" 0) ReflectliteValue.isNil #[.agg #[.pointer (some ⟨3,103,none⟩),.pointer (some a),.int .u64 150]]).run Tryz.prog W=.ok (.bool false) W:=by
 rw[rlm];simp only[Sem.run_bind,partsP2,Result.andThen];simp[ReflectliteValue.isNil,loadVar,isAgg,underlying,Tryz.underlying103,ha,Result.andThen]
theorem elemT2 (w:World):(ReflectliteType.method ReflectliteType.elem #[.agg #[.pointer (some ⟨3,103,none⟩)]]).run Tryz.prog w=.ok (.iface 240 (.agg #[.pointer (some ⟨3,32,none⟩)])) w:=by kernel_rfl
theorem jC6 (w:World):(ReflectliteType.relation "Implements" ReflectliteType.implements_ #[.agg #[.pointer (some ⟨3,32,none⟩)],.iface 240 (.agg #[.pointer (some ⟨3,40,none⟩)])]).run Tryz.prog w=.ok (.bool true) w:=by kernel_rfl
theorem jDy (w:World):(ReflectliteType.relation "AssignableTo" ReflectliteType.assignableTo #[.agg #[.pointer (some ⟨3,32,none⟩)],.iface 240 (.agg #[.pointer (some ⟨3,32,none⟩)])]).run Tryz.prog w=.ok (.bool true) w:=by kernel_rfl
theorem elemOf2 (w:World):(Rtype.elem? 103).run Tryz.prog w=.ok (some 32) w:=by kernel_rfl
theorem mkE2 (p:Addr) (w:World):(ReflectliteValue.mk 32 p ReflectliteValue.flagAddr).run Tryz.prog w=.ok (.agg #[.pointer (some ⟨3,32,none⟩),.pointer (some p),.int .u64 386]) w:=by kernel_rfl
theorem elemV2 (a p:Addr) (W:World) (ha:W.cell? a=some (.pointer (some p))) :
  (ReflectliteValue.method (ReflectliteValue.valueError "reflectlite.Value.Elem" 0) ReflectliteValue.elem #[.agg #[.pointer (some ⟨3,103,none⟩),.pointer (some a),.int .u64 150]]).run Tryz.prog W
   = .ok (.agg #[.pointer (some ⟨3,32,none⟩),.pointer (some p),.int .u64 386]) W:=by
 rw[rlm];simp only[Sem.run_bind,partsP2,Result.andThen];simp[ReflectliteValue.elem,loadVar,isAgg,underlying,Tryz.underlying103,ha,Result.andThen,elemOf2,mkE2]
theorem partsA2 (a:Addr) (w:World):(ReflectliteValue.parts (.agg #[.pointer (some ⟨3,32,none⟩),.pointer (some a),.int .u64 386])).run Tryz.prog w=.ok (some (32,a,386)) w:=by kernel_rfl
theorem partsE2 (a:Addr) (w:World):(ReflectliteValue.parts (.agg #[.pointer (some ⟨3,32,none⟩),.pointer (some a),.int .u64 130])).run Tryz.prog w=.ok (some (32,a,130)) w:=by kernel_rfl
theorem direct2 (w:World):(Rtype.directlyAssignable 32 32).run Tryz.prog w=.ok true w:=by kernel_rfl
theorem size2 (w:World):(sizeOf 32).run Tryz.prog w=.ok 1 w:=by kernel_rfl
theorem typeOf2 (v:Value) (w:World):(ReflectliteType.typeOf #[.iface 32 v]).run Tryz.prog w=.ok (.iface 240 (.agg #[.pointer (some ⟨3,32,none⟩)])) w:=by kernel_rfl
theorem valueOfE2 (n:Int) (w:World):(ReflectliteValue.unpack (.iface 32 (.int .i64 n))).run Tryz.prog w
  = .ok (.agg #[.pointer (some ⟨3,32,none⟩),.pointer (some ⟨w.heap.size,0,none⟩),.int .u64 130]) (w.alloc (.cells #[(.int .i64 n)] 32)):=by kernel_rfl
theorem set2 (ta b:Addr) (n:Int) (old:Value) (W:World) (hb:W.cell? b=some (.int .i64 n)) (ht:W.cell? ta=some old) (hf:W.frozen? ta=false) :
  (ReflectliteValue.set #[.agg #[.pointer (some ⟨3,32,none⟩),.pointer (some ta),.int .u64 386],.agg #[.pointer (some ⟨3,32,none⟩),.pointer (some b),.int .u64 130]]).run Tryz.prog W
   = .ok (.tuple #[]) (W.setCell ta (.int .i64 n)):=by
 rw[rls];simp only[Sem.run_bind,partsA2,partsE2,Result.andThen];simp[ReflectliteValue.flagAddr,loadVar,isAgg,underlying,Tryz.underlying32,hb,Result.andThen,direct2,storeVar,Value.cells,storeCells,Addr.add];rw[run_store Tryz.prog W ta _ _ (by rfl)];simp[ht,hf]

set_option maxHeartbeats 4000000 in
theorem hit2 (n:Int) (t:Addr) (old:Value) (w:World) (hg:w.cell? ⟨0,0,none⟩=some (.iface 240 (.agg #[.pointer (some ⟨3,40,none⟩)]))) (ht0:w.cell? t=some old) (hf0:w.frozen? t=false) :
  Calls Tryz.prog 36 #[.iface 32 (.int .i64 n),.iface 103 (.pointer (some t))] w λev w'=>ev=.returned (.bool true)/\w'=((((w.alloc (.cells #[.pointer (some t)] 103)).alloc (.cells #[.pointer (some ⟨3,103,none⟩),.pointer (some ⟨w.heap.size,0,none⟩),.int .u64 150] 178)).alloc (.cells #[.pointer (some ⟨3,103,none⟩),.pointer (some ⟨w.heap.size,0,none⟩),.int .u64 150] 178)).alloc (.cells #[(.int .i64 n)] 32)).setCell t (.int .i64 n):=by
 have h6:=@run_callFunc_extern Tryz.prog 72 _ (λargs=>ReflectliteValue.unpack (args.getD 0 (.tuple #[]))) Tryz.func72 (by kernel_rfl) (by kernel_rfl) (by kernel_rfl) (by kernel_rfl);have h7:=@run_callFunc_extern Tryz.prog 73 _ (ReflectliteValue.methodAny (ReflectliteValue.valueError "reflectlite.Value.Type" 0) (λt _ _ _=>ReflectliteType.toType t)) Tryz.func73 (by kernel_rfl) (by kernel_rfl) (by kernel_rfl) (by kernel_rfl);have h8:=@run_callFunc_extern Tryz.prog 74 _ (ReflectliteValue.method (ReflectliteValue.valueError "reflectlite.Value.IsNil" 0) ReflectliteValue.isNil) Tryz.func74 (by kernel_rfl) (by kernel_rfl) (by kernel_rfl) (by kernel_rfl);have h27:=@run_callFunc_extern Tryz.prog 511 _ (ReflectliteType.abiMethod λt=>do pure (.int .u8 (<- Rtype.kind t))) Tryz.func511 (by kernel_rfl) (by kernel_rfl) (by kernel_rfl) (by kernel_rfl);have h37:=@run_callFunc_extern Tryz.prog 607 _ (ReflectliteType.method ReflectliteType.elem) Tryz.func607 (by kernel_rfl) (by kernel_rfl) (by kernel_rfl) (by kernel_rfl);have h38:=@run_callFunc_extern Tryz.prog 608 _ (ReflectliteType.relation "Implements" ReflectliteType.implements_) Tryz.func608 (by kernel_rfl) (by kernel_rfl) (by kernel_rfl) (by kernel_rfl);have h10:=@run_callFunc_extern Tryz.prog 121 _ ReflectliteType.typeOf Tryz.func121 (by kernel_rfl) (by kernel_rfl) (by kernel_rfl) (by kernel_rfl);have h35:=@run_callFunc_extern Tryz.prog 605 _ (ReflectliteType.relation "AssignableTo" ReflectliteType.assignableTo) Tryz.func605 (by kernel_rfl) (by kernel_rfl) (by kernel_rfl) (by kernel_rfl);have h11:=@run_callFunc_extern Tryz.prog 122 _ (ReflectliteValue.method (ReflectliteValue.valueError "reflectlite.Value.Elem" 0) ReflectliteValue.elem) Tryz.func122 (by kernel_rfl) (by kernel_rfl) (by kernel_rfl) (by kernel_rfl);have h12:=@run_callFunc_extern Tryz.prog 123 _ ReflectliteValue.set Tryz.func123 (by kernel_rfl) (by kernel_rfl) (by kernel_rfl) (by kernel_rfl);have a25:=jDy;have v25:=valueOfE2;have tO:=typeOf2;have mA:=qL7;have f6:=valueOfP2;have f7:=typeP2;have mK:=jGq;have mE:=jGr;have mI:=qPn;have k27:=kindP2;have k25:=kindE2;have e27:=elemT2;have i25:=jC6;have hlt:0<w.heap.size:=by
  rcases Nat.lt_or_ge 0 w.heap.size with h | h
  .exact h
  .simp[World.cell?,Array.getElem?_eq_none h] at hg
 have n8:=isNil2 ⟨w.heap.size,0,none⟩ t ((w.alloc (.cells #[.pointer (some t)] 103)).alloc (.cells #[.pointer (some ⟨3,103,none⟩),.pointer (some ⟨w.heap.size,0,none⟩),.int .u64 150] 178)) (by simp);have hg2:((w.alloc (.cells #[.pointer (some t)] 103)).alloc (.cells #[.pointer (some ⟨3,103,none⟩),.pointer (some ⟨w.heap.size,0,none⟩),.int .u64 150] 178)).cell? ⟨0,0,none⟩=some (.iface 240 (.agg #[.pointer (some ⟨3,40,none⟩)])):=by rw[World.cell?_alloc_lt _ _ ⟨0,0,none⟩ (by first | (simp;done) | (simp;omega)),World.cell?_alloc_lt _ _ ⟨0,0,none⟩ hlt];exact hg
 have htl:t.block<w.heap.size:=by
  rcases Nat.lt_or_ge t.block w.heap.size with h | h
  .exact h
  .simp[World.cell?,Array.getElem?_eq_none h] at ht0
 have el:=elemV2 ⟨w.heap.size,0,none⟩ t (((w.alloc (.cells #[.pointer (some t)] 103)).alloc (.cells #[.pointer (some ⟨3,103,none⟩),.pointer (some ⟨w.heap.size,0,none⟩),.int .u64 150] 178)).alloc (.cells #[.pointer (some ⟨3,103,none⟩),.pointer (some ⟨w.heap.size,0,none⟩),.int .u64 150] 178)) (by
  rw[World.cell?_alloc_lt _ _ ⟨w.heap.size,0,none⟩ (by simp;omega)];simp)
 have st:=set2 t ⟨w.heap.size+1+1+1,0,none⟩ n old ((((w.alloc (.cells #[.pointer (some t)] 103)).alloc (.cells #[.pointer (some ⟨3,103,none⟩),.pointer (some ⟨w.heap.size,0,none⟩),.int .u64 150] 178)).alloc (.cells #[.pointer (some ⟨3,103,none⟩),.pointer (some ⟨w.heap.size,0,none⟩),.int .u64 150] 178)).alloc (.cells #[(.int .i64 n)] 32))
  (by rw[World.cell?_alloc_at _ _ _ _ (by simp)];rfl)
  (by rw[World.cell?_alloc_lt _ _ t (by simp;omega),World.cell?_alloc_lt _ _ t (by simp;omega),World.cell?_alloc_lt _ _ t (by simp;omega),World.cell?_alloc_lt _ _ t htl];exact ht0)
  (by rw[World.frozen?_alloc_old _ _ t (by simp;omega),World.frozen?_alloc_old _ _ t (by simp;omega),World.frozen?_alloc_old _ _ t (by simp;omega),World.frozen?_alloc_old _ _ t (Nat.ne_of_lt htl)];exact hf0)
 go_enter Tryz.func36,Tryz.ntmps36
 go_wp2
 refine wp_loop_rounds 1 ?_;rw[rounds_succ]
 go_wp2
 go_ret
 exact⟨rfl,rfl⟩

def hitF (te tp:TypeId):Nat:=Go.X.cnd (Go.X.cnd (Nat.beq te 32) (Nat.beq tp 103) false) 3 (0)
theorem allocs4 (w:World) (a b c d:Obj):Below w.heap.size w ((((w.alloc a).alloc b).alloc c).alloc d) :=
 ((((Below.refl w.heap.size w).alloc (zL0 _) a).alloc (by simp) b).alloc (by simp;omega) c).alloc (by simp;omega) d
theorem hitF_one {te tp:TypeId} (h:hitF te tp=1):False:=by unfold hitF at h;cases h32:Nat.beq te 32 <;> cases g103:Nat.beq tp 103 <;> rw[h32,g103] at h <;> exact absurd h (by decide)
theorem hitF_two {te tp:TypeId} (h:hitF te tp=2):False:=by unfold hitF at h;cases h32:Nat.beq te 32 <;> cases g103:Nat.beq tp 103 <;> rw[h32,g103] at h <;> exact absurd h (by decide)
theorem jGu {te tp:TypeId} (h:hitF te tp=3):te=32/\tp=103:=by unfold hitF at h;cases h32:Nat.beq te 32 <;> cases g103:Nat.beq tp 103 <;> rw[h32,g103] at h <;> first | exact⟨Nat.eq_of_beq_eq_true h32,Nat.eq_of_beq_eq_true g103⟩ | exact absurd h (by decide)
theorem facts {W:World} (hg:W.cell? ⟨0,0,none⟩=some (.iface 240 (.agg #[.pointer (some ⟨3,40,none⟩)]))):Go.X.AsFacts Tryz.prog W 36 hitF:=by
 have hlt:0<W.heap.size:=by
  rcases Nat.lt_or_ge 0 W.heap.size with h | h
  .exact h
  .simp[World.cell?,Array.getElem?_eq_none h] at hg
 have key:∀w:World,Below W.heap.size W w->w.cell? ⟨0,0,none⟩=some (.iface 240 (.agg #[.pointer (some ⟨3,40,none⟩)])):=λw b=>(b.cell hlt).trans hg;constructor
 .intro w t b;exact (as_nil t w).mono λe w' ⟨h1,h2⟩=>⟨h1,by rw[h2];exact Below.refl _ _⟩
 .intro te tp w a t old hh b h1 h2;exact (hitF_one hh).elim
 .intro te tp w n t old hh b h1 h2;obtain⟨rfl,rfl⟩:=jGu hh;exact (hit2 n t old w (key w b) h1 h2).mono λe w' ⟨h1,h2⟩=>⟨h1,_,allocs4 _ _ _ _ _,h2⟩
 .intro te tp w n t hh b;exact (hitF_two hh).elim
end Go.Proofs.YtligncjhmmgajaaGreatDoor.As
