/-
 PROVED: what abstract heaps stand for;the evaluator's loads,stores,tables,numbers,strings,slices are sound. Condition: the relation of the heaps.
-/
import Derived.Test.YtligncjhmmgajaaGreatDoorXb
import Derived.Below
import Derived.RangeFuncRecord
import Derived.RecoverIn
import Derived.Laws.Cells
import Derived.Laws.StructEq
import Derived.ChangeKeysEq
import Derived.Laws.BytesString
import Derived.Laws.LoneSync
import Derived.Laws.Tables
import Derived.Laws.MakeOwn
import Derived.Great.BuildSlice
set_option linter.unusedVariables false
set_option linter.unusedSimpArgs false
open List renaming mem_cons_of_mem -> zA0, mem_cons_self -> zB0, mem_of_getElem? -> zC0, length_cons -> zJ0, not_mem_nil -> zK0, getElem?_map -> zP0
open Nat renaming lt_of_lt_of_le -> zE0, le_refl -> zL0, le_trans -> zM0
noncomputable section
namespace Go.X
open Go Go.RowKit
structure Env where
 blk:Nat->Option Nat
 base:Nat->Nat
 ext:Nat->Nat
structure Env.Le (E E':Env):Prop where
 blk:∀i b,E.blk i=some b->E'.blk i=some b
 base:∀i b,E.blk i=some b->E'.base i=E.base i
 ext:∀i b,E.blk i=some b->E'.ext i=E.ext i
theorem Env.Le.refl (E:Env):E.Le E:=⟨λ_ _ h=>h,λ_ _ _=>rfl,λ_ _ _=>rfl⟩
theorem Env.Le.trans {A B C:Env} (h:A.Le B) (k:B.Le C):A.Le C :=
 ⟨λi b hb=>k.blk i b (h.blk i b hb),λi b hb=>(k.base i b (h.blk i b hb)).trans (h.base i b hb),λi b hb=>(k.ext i b (h.blk i b hb)).trans (h.ext i b hb)⟩
def bs (b:ByteArray):List Nat:=b.data.toList.map UInt8.toNat
inductive FnR (E:Env):AFn->Fn->Prop
 | plain (f:Fn):FnR E (.plain f) f
 | yield (i b:Nat) (h:E.blk i=some b):FnR E (.yield i) (.yield b)
mutual
inductive VR (E:Env):AV->Value->Prop
 | junk (v:Value):VR E .junk v
 | bool (b:Bool):VR E (.bool b) (.bool b)
 | int (q:IntKind) (n:Int):VR E (.int q n) (.int q n)
 | str (s:List Nat) (b:ByteArray) (h:bs b=s):VR E (.str s) (.string b)
 | nilp:VR E .nilp (.pointer none)
 | ptr (i o b x:Nat) (h:E.blk i=some b) (hx:x=E.base i+o):VR E (.ptr i o) (.pointer (some ⟨b,x,none⟩))
 | nils:VR E .nils (.slice none 0 0)
 | slice (i o len cap:Nat) (ext:Bool) (b x c:Nat) (h:E.blk i=some b) (hx:x=E.base i+o) (hc:c=cap+cnd ext (E.ext i) 0) :
   VR E (.slice i o len cap ext) (.slice (some ⟨b,x,none⟩) len c)
 | emp (a:Addr) (c:Nat):VR E .emp (.slice (some a) 0 c)
 | nilMap:VR E .nilMap (.map none)
 | map (i b:Nat) (h:E.blk i=some b):VR E (.map i) (.map (some b))
 | func (f:AFn) (g:Fn) (a c:List AV) (x y:Array Value) (hf:FnR E f g) (ha:VRs E a x.toList) (hc:VRs E c y.toList):VR E (.func f a c) (.func g x y)
 | nilFunc:VR E .nilFunc .nilFunc
 | iface (t:TypeId) (a:AV) (v:Value) (h:VR E a v):VR E (.iface t a) (.iface t v)
 | nilIface:VR E .nilIface .nilIface
 | agg (cs:List AV) (x:Array Value) (h:VRs E cs x.toList):VR E (.agg cs) (.agg x)
 | tuple (cs:List AV) (x:Array Value) (h:VRs E cs x.toList):VR E (.tuple cs) (.tuple x)
inductive VRs (E:Env):List AV->List Value->Prop
 | nil:VRs E [] []
 | cons (a:AV) (v:Value) (l:List AV) (m:List Value) (h:VR E a v) (t:VRs E l m):VRs E (a::l) (v::m)
end
theorem FnR.mono {E E':Env} (le:E.Le E') {f:AFn} {g:Fn} (h:FnR E f g):FnR E' f g:=by
 cases h with
 | plain=>exact .plain _
 | yield i b h=>exact .yield _ _ (le.blk _ _ h)
mutual
theorem VR.mono {E E':Env} (le:E.Le E') {a:AV} {v:Value}:VR E a v->VR E' a v
 | .junk v=>.junk v
 | .bool b=>.bool b
 | .int q n=>.int q n
 | .str s b h=>.str s b h
 | .nilp=>.nilp
 | .ptr i o b x h hx=>.ptr i o b x (le.blk _ _ h) (by rw[le.base _ _ h];exact hx)
 | .nils=>.nils
 | .slice i o len cap ext b x c h hx hc=>.slice i o len cap ext b x c (le.blk _ _ h) (by rw[le.base _ _ h];exact hx) (by rw[le.ext _ _ h];exact hc)
 | .emp a c=>.emp a c
 | .nilMap=>.nilMap
 | .map i b h=>.map i b (le.blk _ _ h)
 | .func f g a c x y hf ha hc=>.func f g a c x y (hf.mono le) (VRs.mono le ha) (VRs.mono le hc)
 | .nilFunc=>.nilFunc
 | .iface t a v h=>.iface t a v (VR.mono le h)
 | .nilIface=>.nilIface
 | .agg cs x h=>.agg cs x (VRs.mono le h)
 | .tuple cs x h=>.tuple cs x (VRs.mono le h)
theorem VRs.mono {E E':Env} (le:E.Le E') {a:List AV} {v:List Value}:VRs E a v->VRs E' a v
 | .nil=>.nil
 | .cons a v l m h t=>.cons a v l m (VR.mono le h) (VRs.mono le t)
end
theorem VRs.length {E:Env}:∀{a:List AV} {v:List Value},VRs E a v->v.length=a.length
 | _,_,.nil=>rfl
 | _,_,.cons _ _ _ _ _ t=>by simp[VRs.length t]
theorem VRs.append {E:Env}:∀{a:List AV} {v:List Value} {b:List AV} {w:List Value},VRs E a v->VRs E b w->VRs E (a++b) (v++w)
 | _,_,_,_,.nil,k=>k
 | _,_,_,_,.cons a v l m h t,k=>.cons _ _ _ _ h (VRs.append t k)
theorem VRs.get {E:Env}:∀{a:List AV} {v:List Value},VRs E a v->∀(n:Nat) (x:AV),a[n]?=some x->∃y,v[n]?=some y/\VR E x y
 | _,_,.nil,n,x,h=>by cases h
 | _,_,.cons a v l m h t,0,x,e=>by cases e;exact⟨v,rfl,h⟩
 | _,_,.cons a v l m h t,n+1,x,e=>VRs.get t n x e
theorem VRs.get' {E:Env}:∀{a:List AV} {v:List Value},VRs E a v->∀(n:Nat) (y:Value),v[n]?=some y->∃x,a[n]?=some x/\VR E x y
 | _,_,.nil,n,x,h=>by cases h
 | _,_,.cons a v l m h t,0,x,e=>by cases e;exact⟨a,rfl,h⟩
 | _,_,.cons a v l m h t,n+1,x,e=>VRs.get' t n x e
theorem VRs.take {E:Env}:∀{a:List AV} {v:List Value},VRs E a v->∀(n:Nat),VRs E (a.take n) (v.take n)
 | _,_,.nil,n=>by simp;exact .nil
 | _,_,.cons a v l m h t,0=>.nil
 | _,_,.cons a v l m h t,n+1=>.cons _ _ _ _ h (VRs.take t n)
theorem VRs.drop {E:Env}:∀{a:List AV} {v:List Value},VRs E a v->∀(n:Nat),VRs E (a.drop n) (v.drop n)
 | _,_,.nil,n=>by simp;exact .nil
 | _,_,.cons a v l m h t,0=>.cons _ _ _ _ h t
 | _,_,.cons a v l m h t,n+1=>VRs.drop t n
def lsOf:LSt->LoopState
 | .ready=>.ready
 | .busy=>.busy
 | .done=>.done
 | .exhausted=>.exhausted
inductive PendR:qd->Option Code->Prop
 | none:PendR .normal none
 | exit (i:Nat):PendR (.exit i) (some (.exit i))
 | ret:PendR .ret (some .ret)
structure j8 (E:Env) (N:Nat) (t:TT) (a:Array Value):Prop where
 size:a.size=N
 le:N<=4096
 at':∀s,s<4096->VR E (t.at s) (a.getD s undef)
inductive DR (E:Env):qk->Deferred->Prop
 | fn (f:FuncId) (l:List AV) (cap args:Array Value) (h:VRs E l (args++cap).toList):DR E ⟨.plain (.func f),l⟩ ⟨.fn (.func f) cap,args⟩
 | mark (i b:Nat) (h:E.blk i=some b):DR E ⟨.yield i,[]⟩ ⟨.collected b,#[]⟩
inductive DRs (E:Env):List qk->List Deferred->Prop
 | nil:DRs E [] []
 | cons (a:qk) (d:Deferred) (l:List qk) (m:List Deferred) (h:DR E a d) (t:DRs E l m):DRs E (a::l) (d::m)
inductive jd (q:Option IntKind):AV->Prop
 | int (k:IntKind) (n:Int) (h:q=some k):jd q (.int k n)
 | str (s:List Nat) (h:q=none):jd q (.str s)
structure EntR (E:Env) (e:AV × AV) (x:MapEntry):Prop where
 key:VR E e.1 x.key
 val:VR E e.2 x.val
structure MapR (E:Env) (es:List (AV × AV)) (xs:Array MapEntry) (clock:Nat):Prop where
 size:xs.size=es.length
 kind:∃q,∀e,e∈es->jd q e.1
 nodup:es.Pairwise λa b=>a.1≠b.1
 left:∀e,e∈es->∃x,x∈xs.toList/\EntR E e x
 right:∀x,x∈xs.toList->∃e,e∈es/\EntR E e x
 born:∀x,x∈xs.toList->x.born<clock
 once:xs.toList.Pairwise λa b=>a.born≠b.born
 keys:xs.toList.Pairwise λa b=>a.key≠b.key
structure IterR (E:Env) (todo:List (AV × AV)) (cur:AV) (xs:Array MapEntry) (seen:Array Nat):Prop where
 nodup:todo.Pairwise λa b=>a.1≠b.1
 left:∀e,e∈todo->∃x,x∈xs.toList/\x.born ∉ seen/\EntR E e x
 right:∀x,x∈xs.toList->x.born ∉ seen->∃e,e∈todo/\EntR E e x
 kind:∃q,∀e,e∈todo->jd q e.1
 cur:cur=.junk∨∃a b x s,cur=.tuple [a,b]/\seen.back?=some s/\x∈xs.toList/\x.born=s/\VR E a x.key/\VR E b x.val
def FrOk (mark:Bool) (fr:Nat × Nat) (size:Nat):Prop:=fr.1=fr.2∨(mark=true/\size<=fr.1)
theorem FrOk.free {mark:Bool} {fr:Nat × Nat} {size:Nat} (h:FrOk mark fr size):∀o,mark=false∨o<size->¬(fr.1<=o/\o<fr.2):=by
 intro o ho;rcases h with h | ⟨h1,h2⟩
 .omega
 .rcases ho with ho | ho
  .rw[h1] at ho;cases ho
  .omega
inductive OR (E:Env) (hm:Nat->Option Q4) (wm:Nat->Option Obj) (i:Nat):Q4->Obj->Prop
 | cells (c:List AV) (esz:Nat) (grown mark:Bool) (cs:Array Value) (e:TypeId) (fr:Nat × Nat) (pre c1 rest:List Value)
   (hcs:cs.toList=pre++(c1++rest)) (hp:pre.length=E.base i) (hc:VRs E c c1) (hrest:rest.length=cnd grown (E.ext i*esz) 0)
   (hfr:FrOk mark fr cs.size):OR E hm wm i (.cells c esz grown mark) (.cells cs e fr)
 | ro (c:List AV) (cs:Array Value) (e:TypeId) (fr:Nat × Nat) (pre c1 rest:List Value) (hcs:cs.toList=pre++(c1++rest)) (hp:pre.length=E.base i) (hc:VRs E c c1) :
   OR E hm wm i (.ro c) (.cells cs e fr)
 | map (es:List (AV × AV)) (ver:Nat) (xs:Array MapEntry) (clock:Nat) (h:MapR E es xs clock):OR E hm wm i (.map es ver) (.map xs clock)
 | mapIter (m ver:Nat) (left:List (AV × AV)) (cur:AV) (b since stepped:Nat) (seen:Array Nat) (h0:E.base i=0) (hb:E.blk m=some b)
   (h:∀es v,hm m=some (.map es v)->ver<=v/\(v=ver->∃xs clock,wm b=some (.map xs clock)/\clock=since/\stepped=since/\IterR E left cur xs seen)) :
   OR E hm wm i (.mapIter m ver left cur) (.mapIter (some b) since seen stepped)
 | nilIter (since stepped:Nat) (seen:Array Nat) (h0:E.base i=0):OR E hm wm i .nilIter (.mapIter none since seen stepped)
 | tomb (o:Obj):OR E hm wm i .tomb o
 | strIter (s:List Nat) (pos:Nat) (b:ByteArray) (h0:E.base i=0) (h:bs b=s):OR E hm wm i (.strIter s pos) (.stringIter b pos)
 | loop (l:ALoop) (r:Loop) (hs:r.state=lsOf l.state) (hp:PendR l.pending r.pending) (N:Nat) (ht:j8 E N l.tmps r.tmps) (hps:l.params=N::r.params.toList)
   (ha:r.assign=l.assign) (hb:r.body=l.body) (hd:E.blk l.defers=some r.defers):OR E hm wm i (.loop l) (.loop r)
 | deferred (ds:List qk) (cs:List Deferred) (h:DRs E ds cs):OR E hm wm i (.deferred (some ds)) (.deferred (some cs))
theorem j8.mono {E E':Env} (le:E.Le E') {N:Nat} {t:TT} {a:Array Value} (h:j8 E N t a):j8 E' N t a:=⟨h.size,h.le,λs hs=>(h.at' s hs).mono le⟩
theorem DR.mono {E E':Env} (le:E.Le E') {a:qk} {d:Deferred} (h:DR E a d):DR E' a d:=by
 cases h with
 | fn f l cap args h=>exact .fn _ _ _ _ (h.mono le)
 | mark i b h=>exact .mark _ _ (le.blk _ _ h)
theorem DRs.mono {E E':Env} (le:E.Le E') {a:List qk} {d:List Deferred} (h:DRs E a d):DRs E' a d:=by
 induction h with
 | nil=>exact .nil
 | cons a d l m h _ ih=>exact .cons _ _ _ _ (h.mono le) ih
theorem EntR.mono {E E':Env} (le:E.Le E') {e:AV × AV} {x:MapEntry} (h:EntR E e x):EntR E' e x:=⟨h.key.mono le,h.val.mono le⟩
theorem MapR.mono {E E':Env} (le:E.Le E') {es:List (AV × AV)} {xs:Array MapEntry} {c:Nat} (h:MapR E es xs c):MapR E' es xs c :=
 ⟨h.size,h.kind,h.nodup,λe he=>let ⟨x,a,b⟩:=h.left e he;⟨x,a,b.mono le⟩,λe he=>let ⟨x,a,b⟩:=h.right e he;⟨x,a,b.mono le⟩,h.born,h.once,h.keys⟩
theorem IterR.mono {E E':Env} (le:E.Le E') {l:List (AV × AV)} {cur:AV} {xs:Array MapEntry} {seen:Array Nat} (h:IterR E l cur xs seen):IterR E' l cur xs seen :=
 ⟨h.nodup,λe he=>let ⟨x,a,c,b⟩:=h.left e he;⟨x,a,c,b.mono le⟩,λe he hn=>let ⟨x,a,b⟩:=h.right e he hn;⟨x,a,b.mono le⟩,h.kind,
  h.cur.imp id λ⟨a,b,x,s,h1,h2,h3,h4,h5,h6⟩=>⟨a,b,x,s,h1,h2,h3,h4,h5.mono le,h6.mono le⟩⟩
theorem OR.mono {E E':Env} (le:E.Le E') {hm hm':Nat->Option Q4} {wm wm':Nat->Option Obj} {i b0:Nat} (hi:E.blk i=some b0) {ao:Q4} {o:Obj} (h:OR E hm wm i ao o)
  (hit:∀m b es v,E.blk m=some b->hm' m=some (.map es v)->(∃v0 es0,hm m=some (.map es0 v0)/\v0<=v/\(v0=v->wm' b=wm b))):OR E' hm' wm' i ao o:=by
 cases h with
 | cells c esz grown mark cs e fr pre c1 rest hcs hp hc hrest hfr=>exact .cells _ _ _ _ _ _ _ pre c1 rest hcs (by rw[le.base _ _ hi];exact hp) (hc.mono le) (by rw[le.ext _ _ hi];exact hrest) hfr
 | ro c cs e fr pre c1 rest hcs hp hc=>exact .ro _ _ _ _ pre c1 rest hcs (by rw[le.base _ _ hi];exact hp) (hc.mono le)
 | map es ver xs clock h=>exact .map _ _ _ _ (h.mono le)
 | mapIter m ver left cur b since stepped seen h0 hb h =>
  refine .mapIter _ _ _ _ _ _ _ _ (by rw[le.base _ _ hi];exact h0) (le.blk _ _ hb) λes v hv=>?_;obtain⟨v0,es0,e0,hle,hw⟩:=hit m b es v hb hv;obtain⟨h1,h2⟩:=h es0 v0 e0;refine⟨zM0 h1 hle,λev=>?_⟩;have e1:v0=ver:=by omega
  obtain⟨xs,clock,k1,k2,k3,k4⟩:=h2 e1;exact⟨xs,clock,by rw[hw (by omega)];exact k1,k2,k3,k4.mono le⟩
 | nilIter s1 s2 s3 h0=>exact .nilIter _ _ _ (by rw[le.base _ _ hi];exact h0)
 | tomb=>exact .tomb _
 | strIter s pos b h0 h=>exact .strIter _ _ _ (by rw[le.base _ _ hi];exact h0) h
 | loop l r hs hp N ht hps ha hb hd=>exact .loop _ _ hs hp N (ht.mono le) hps ha hb (le.blk _ _ hd)
 | deferred ds cs h=>exact .deferred _ _ (h.mono le)
section
variable (P:Program) (W0:World)
def Q4.live (o:Q4):Prop:=o≠.tomb
def Q4.old (o:Q4):Prop:=o=.tomb∨∃c,o=.ro c
def Q0.LimOk (h:Q0):Prop:=h.inf=true∨(h.lim<=top/\∀i ao,h.get i=some ao->i<top)
theorem Q0.LimOk.put {h:Q0} (l:h.LimOk) {i:Nat} (hi:h.inf=true∨i<top) (o:Option Q4):(h.put i o).LimOk:=by
 rcases l with l | ⟨l1,l2⟩
 .exact .inl l
 .rcases hi with hi | hi
  .exact .inl hi
  .refine .inr ⟨l1,λj ao hj=>?_⟩;rw[Q0.get_put _ trivial] at hj;by_cases e:j=i
   .rw[e];exact hi
   .rw[if_neg e] at hj;exact l2 j ao hj
theorem Q0.LimOk.newO {h:Q0} (l:h.LimOk) (hn:h.fr h.next) (o:Q4):(h.newO o).LimOk:=by
 rcases l with l | ⟨l1,l2⟩
 .exact .inl l
 .rcases hn with hi | hi
  .exact .inl hi
  .refine .inr ⟨l1,λj ao hj=>?_⟩;rw[Q0.newO_get _ trivial] at hj;by_cases e:j=h.next
   .omega
   .rw[if_neg e] at hj;exact l2 j ao hj
structure Rel (E:Env) (h:Q0) (w:World):Prop where
 obj:∀i ao,h.get i=some ao->∃b o,E.blk i=some b/\w.heap[b]?=some o/\OR E h.get (λb=>w.heap[b]?) i ao o
 inj:∀i j x y b,h.get i=some x->h.get j=some y->x≠.tomb->y≠.tomb->E.blk i=some b->E.blk j=some b->i=j
 free:∀i,h.next<=i->h.fr i->E.blk i=none
 bound:∀i b,E.blk i=some b->b<w.heap.size
 below:Below W0.heap.size W0 w
 old:∀i ao b,h.get i=some ao->E.blk i=some b->b<W0.heap.size->ao.old
 glob:∀g,g<P.globals.size->E.blk g=some g/\E.base g=0
 lim:h.LimOk
 room:h.inf=true∨h.next<=h.lim
theorem fr_iff {h h':Q0} (e:(h'.lim,h'.inf)=(h.lim,h.inf)) (i:Nat):h'.fr i↔h.fr i:=by simp only[Prod.mk.injEq] at e;unfold Q0.fr;rw[e.1,e.2]
structure Stp (E:Env) (h:Q0) (E':Env) (h':Q0):Prop where
 le:E.Le E'
 new:∀i b,E'.blk i=some b->E.blk i=some b∨(h.next<=i/\h.fr i)
 lim:(h'.lim,h'.inf)=(h.lim,h.inf)
 next:h.next<=h'.next
theorem Stp.refl (E:Env) (h:Q0):Stp E h E h:=⟨.refl _,λ_ _ h=>.inl h,rfl,zL0 _⟩
theorem Stp.trans {E E1 E2:Env} {h h1 h2:Q0} (a:Stp E h E1 h1) (b:Stp E1 h1 E2 h2):Stp E h E2 h2 :=
 ⟨a.le.trans b.le,λi x hx=>(b.new i x hx).elim (λh=>a.new i x h) (λ⟨p,q⟩=>.inr ⟨zM0 a.next p,(fr_iff a.lim i).1 q⟩),b.lim.trans a.lim,zM0 a.next b.next⟩
end
end Go.X
namespace Go.X
open Go Go.RowKit
section
variable {P:Program} {W0:World} {E:Env} {h:Q0} {w:World}
theorem qOz {B:Nat} {w0 w:World} (hb:Below B w0 w) {b:Nat} (hB:B<=b) (o:Obj):Below B w0 (w.putObj b o) :=
 hb.trans ⟨rfl,rfl,rfl,by simp[World.putObj],λk hk=>World.putObj_heap_other (by omega)⟩
theorem qJx {w:World} {b:Nat} {o:Obj} (h:w.heap[b]?=some o):w.putObj b o=w:=by
 obtain⟨hlt,he⟩:=Array.getElem?_eq_some_iff.1 h
 have:w.heap.setIfInBounds b o=w.heap:=by
  apply Array.ext
  .simp
  .intro i h1 h2;rw[Array.getElem_setIfInBounds (by simpa using h1)];by_cases e:b=i
   .subst e;simp[he]
   .simp[e]
 cases w;simp only[World.putObj,this]
theorem jC9 {w:World} {b:Nat} {o:Obj} (h:w.heap[b]?=some o):b<w.heap.size:=(Array.getElem?_eq_some_iff.1 h).1
theorem Rel.ltTop (_r:Rel P W0 E h w) {i:Nat} {ao:Q4} (hg:h.get i=some ao):h.inf=true∨i<top:=_r.lim.imp id λl=>l.2 _ _ hg
theorem Rel.fresh (r:Rel P W0 E h w) {i:Nat} {ao:Q4} {b:Nat} (hg:h.get i=some ao) (hb:E.blk i=some b) (hl:¬ao.old):W0.heap.size<=b:=by
 rcases Nat.lt_or_ge b W0.heap.size with h1 | h1
 .exact absurd (r.old i ao b hg hb h1) hl
 .exact h1
theorem Rel.set (r:Rel P W0 E h w) {i b:Nat} {a0 a1:Q4} {o1:Obj} (hg:h.get i=some a0) (hb:E.blk i=some b) (hl:¬a0.old)
  (hm:∀es v,a1=.map es v->∃es0 v0,a0=.map es0 v0/\v0<v)
  (ho:OR E (h.put i (some a1)).get (λk=>(w.putObj b o1).heap[k]?) i a1 o1):Rel P W0 E (h.put i (some a1)) (w.putObj b o1):=by
 have hi:=r.ltTop hg;have hB:=r.fresh hg hb hl;have hbs:=r.bound i b hb;have hlive:a0≠.tomb:=λe=>hl (.inl e);refine⟨λj ao hj=>?_,λj k x y c hj hk hx hy ej ek=>?_,λj h1 h2=>r.free j h1 h2,λj c hc=>by rw[World.putObj_size];exact r.bound j c hc,qOz r.below hB _,λj ao c hj hc hlt=>?_,r.glob,r.lim.put hi _,r.room⟩
 .rw[Q0.get_put _ hi] at hj;by_cases e:j=i
  .subst e;rw[if_pos rfl] at hj;cases hj;exact⟨b,o1,hb,World.putObj_heap_same hbs,ho⟩
  .rw[if_neg e] at hj;obtain⟨c,o,hc,hw,hor⟩:=r.obj j ao hj;by_cases htomb:ao=.tomb
   .subst htomb;by_cases ecb:c=b
    .exact⟨c,o1,hc,by rw[ecb];exact World.putObj_heap_same hbs,.tomb _⟩
    .exact⟨c,o,hc,by rw[World.putObj_heap_other ecb];exact hw,.tomb _⟩
   .have hcb:c≠b:=λecb=>e (r.inj j i ao a0 b hj hg htomb hlive (by rw[<- ecb];exact hc) hb);refine⟨c,o,hc,by rw[World.putObj_heap_other hcb];exact hw,hor.mono (.refl _) hc λm d es v hd hv=>?_⟩;rw[Q0.get_put _ hi] at hv;by_cases em:m=i
    .subst em;rw[if_pos rfl] at hv;cases hv;obtain⟨es0,v0,e0,hlt⟩:=hm es v rfl;exact⟨v0,es0,by rw[hg,e0],Nat.le_of_lt hlt,λev=>by omega⟩
    .rw[if_neg em] at hv;refine⟨v,es,hv,zL0 _,λ_=>World.putObj_heap_other λedb=>em (r.inj m i _ a0 b hv hg (by simp) hlive (by rw[<- edb];exact hd) hb)⟩
 .rw[Q0.get_put _ hi] at hj hk;by_cases e1:j=i
  .by_cases e2:k=i
   .rw[e1,e2]
   .rw[if_neg e2] at hk;rw[e1];exact r.inj i k a0 y c hg hk hlive hy (by rw[<- e1];exact ej) ek
  .rw[if_neg e1] at hj;by_cases e2:k=i
   .rw[e2];exact r.inj j i x a0 c hj hg hx hlive ej (by rw[<- e2];exact ek)
   .rw[if_neg e2] at hk;exact r.inj j k x y c hj hk hx hy ej ek
 .rw[Q0.get_put _ hi] at hj;by_cases e:j=i
  .subst e;rw[hb] at hc;cases hc;omega
  .rw[if_neg e] at hj;exact r.old j ao c hj hc hlt
theorem Rel.tombB (r:Rel P W0 E h w) {i b:Nat} (hi:h.inf=true∨i<top) (hb:E.blk i=some b):Rel P W0 E (h.put i (some .tomb)) w:=by
 refine⟨λj ao hj=>?_,λj k x y c hj hk hx hy ej ek=>?_,λj h1 h2=>r.free j h1 h2,r.bound,r.below,λj ao c hj hc hlt=>?_,r.glob,r.lim.put hi _,r.room⟩
 .rw[Q0.get_put _ hi] at hj;by_cases e:j=i
  .subst e;rw[if_pos rfl] at hj;cases hj;have hlt:=r.bound j b hb;exact⟨b,w.heap[b],hb,by simp[hlt],.tomb _⟩
  .rw[if_neg e] at hj;obtain⟨c,o,hc,hw,hor⟩:=r.obj j ao hj;refine⟨c,o,hc,hw,hor.mono (.refl _) hc λm d es v hd hv=>?_⟩;rw[Q0.get_put _ hi] at hv;by_cases em:m=i
   .rw[if_pos em] at hv;cases hv
   .rw[if_neg em] at hv;exact⟨v,es,hv,zL0 _,λ_=>rfl⟩
 .rw[Q0.get_put _ hi] at hj hk;by_cases e1:j=i
  .rw[if_pos e1] at hj;cases hj;exact absurd rfl hx
  .rw[if_neg e1] at hj;by_cases e2:k=i
   .rw[if_pos e2] at hk;cases hk;exact absurd rfl hy
   .rw[if_neg e2] at hk;exact r.inj j k x y c hj hk hx hy ej ek
 .rw[Q0.get_put _ hi] at hj;by_cases e:j=i
  .rw[if_pos e] at hj;cases hj;exact .inl rfl
  .rw[if_neg e] at hj;exact r.old j ao c hj hc hlt
theorem Rel.tomb (r:Rel P W0 E h w) {i:Nat} {a0:Q4} (hg:h.get i=some a0):Rel P W0 E (h.put i (some .tomb)) w:=by obtain⟨b,o,hb,_,_⟩:=r.obj i a0 hg;exact r.tombB (r.ltTop hg) hb
def Env.add (E:Env) (i b base ext:Nat):Env:=⟨λj=>if j=i then some b else E.blk j,λj=>if j=i then base else E.base j,λj=>if j=i then ext else E.ext j⟩
theorem Env.add_blk (E:Env) (i b base ext:Nat):(E.add i b base ext).blk i=some b:=if_pos rfl
theorem Env.add_base (E:Env) (i b base ext:Nat):(E.add i b base ext).base i=base:=if_pos rfl
theorem Env.add_ext (E:Env) (i b base ext:Nat):(E.add i b base ext).ext i=ext:=if_pos rfl
theorem Env.add_le {E:Env} {i:Nat} (hi:E.blk i=none) (b base ext:Nat):E.Le (E.add i b base ext):=by
 have key:∀j c,E.blk j=some c->j≠i:=λj c hc e=>by rw[e,hi] at hc;cases hc
 exact⟨λj c hc=>by simp only[Env.add];rw[if_neg (key j c hc)];exact hc,λj c hc=>if_neg (key j c hc),λj c hc=>if_neg (key j c hc)⟩
theorem Env.add_inv {E:Env} {i b base ext j c:Nat} (hc:(E.add i b base ext).blk j=some c):(j=i/\c=b)∨(j≠i/\E.blk j=some c):=by
 simp only[Env.add] at hc;by_cases e:j=i
 .rw[if_pos e] at hc;cases hc;exact .inl ⟨e,rfl⟩
 .rw[if_neg e] at hc;exact .inr ⟨e,hc⟩
theorem Stp.add {o:Q4} {E:Env} {h:Q0} (hf:E.blk h.next=none) (hn:h.fr h.next) (b base ext:Nat):Stp E h (E.add h.next b base ext) (h.newO o) :=
 ⟨Env.add_le hf _ _ _,λi c hc=>(Env.add_inv hc).elim (λe=>.inr ⟨by omega,by rw[e.1];exact hn⟩) (λe=>.inl e.2),rfl,Nat.le_succ _⟩
theorem Rel.add (r:Rel P W0 E h w) (hn:h.fr h.next) {a1:Q4} {b base ext:Nat} {o1:Obj} {w':World}
  (hB:W0.heap.size<=b) (hbs:b<w'.heap.size) (hbelow:Below W0.heap.size W0 w') (hsz:w.heap.size<=w'.heap.size) (hsame:∀c,c≠b->c<w.heap.size->w'.heap[c]?=w.heap[c]?)
  (hnone:∀j ao,h.get j=some ao->E.blk j=some b->ao=.tomb) (hw1:w'.heap[b]?=some o1)
  (ho:OR (E.add h.next b base ext) (h.newO a1).get (λk=>w'.heap[k]?) h.next a1 o1):Rel P W0 (E.add h.next b base ext) (h.newO a1) w':=by
 have hnt:True:=trivial;have hf:=r.free h.next (zL0 _) hn
 have le:=Env.add_le hf b base ext;have hfree:∀j ao,h.get j=some ao->j≠h.next:=λj ao hj e=>by obtain⟨c,_,hc,_⟩:=r.obj j ao hj;rw[e,hf] at hc;cases hc
 refine⟨λj ao hj=>?_,λj k x y c hj hk hx hy ej ek=>?_,λj h1 h2=>?_,λj c hc=>?_,hbelow,λj ao c hj hc hlt=>?_,λg hg=>?_,r.lim.newO hn _,hn⟩
 .rw[Q0.newO_get _ hnt] at hj;by_cases e:j=h.next
  .subst e;rw[if_pos rfl] at hj;cases hj;exact⟨b,o1,Env.add_blk _ _ _ _ _,hw1,ho⟩
  .rw[if_neg e] at hj;obtain⟨c,o,hc,hw,hor⟩:=r.obj j ao hj;by_cases htomb:ao=.tomb
   .subst htomb;by_cases ecb:c=b
    .exact⟨c,o1,le.blk _ _ hc,by rw[ecb];exact hw1,.tomb _⟩
    .exact⟨c,o,le.blk _ _ hc,by rw[hsame c ecb (r.bound j c hc)];exact hw,.tomb _⟩
   .have hcb:c≠b:=λecb=>htomb (hnone j ao hj (by rw[<- ecb];exact hc));refine⟨c,o,le.blk _ _ hc,by rw[hsame c hcb (r.bound j c hc)];exact hw,hor.mono le hc λm d es v hd hv=>?_⟩;rw[Q0.newO_get _ hnt] at hv;have em:m≠h.next:=λe=>by rw[e,hf] at hd;cases hd
    rw[if_neg em] at hv;exact⟨v,es,hv,zL0 _,λ_=>hsame d (λedb=>by have:=hnone m _ hv (by rw[<- edb];exact hd);cases this) (r.bound m d hd)⟩
 .rw[Q0.newO_get _ hnt] at hj hk;by_cases e1:j=h.next
  .by_cases e2:k=h.next
   .rw[e1,e2]
   .rw[if_neg e2] at hk;exfalso;rcases Env.add_inv ej with ⟨_,ecb⟩ | ⟨hne,_⟩
    .rcases Env.add_inv ek with ⟨e,_⟩ | ⟨_,hck⟩
     .exact e2 e
     .exact hy (hnone k y hk (by rw[<- ecb];exact hck))
    .exact hne e1
  .rw[if_neg e1] at hj;rcases Env.add_inv ej with ⟨e,_⟩ | ⟨_,hcj⟩
   .exact absurd e e1
   .by_cases e2:k=h.next
    .exfalso;rcases Env.add_inv ek with ⟨_,ecb⟩ | ⟨hne,_⟩
     .exact hx (hnone j x hj (by rw[<- ecb];exact hcj))
     .exact hne e2
    .rw[if_neg e2] at hk;rcases Env.add_inv ek with ⟨e,_⟩ | ⟨_,hck⟩
     .exact absurd e e2
     .exact r.inj j k x y c hj hk hx hy hcj hck
 .simp only[Q0.newO_next] at h1;rw[Q0.newO_fr] at h2;simp only[Env.add];rw[if_neg (by omega)];exact r.free j (by omega) h2
 .rcases Env.add_inv hc with ⟨_,e⟩ | ⟨_,e⟩
  .rw[e];exact hbs
  .exact zE0 (r.bound j c e) hsz
 .rw[Q0.newO_get _ hnt] at hj;rcases Env.add_inv hc with ⟨_,e⟩ | ⟨hne,e⟩
  .omega
  .rw[if_neg hne] at hj;exact r.old j ao c hj e hlt
 .obtain⟨h1,h2⟩:=r.glob g hg;exact⟨le.blk _ _ h1,by rw[le.base _ _ h1];exact h2⟩
theorem Rel.new (r:Rel P W0 E h w) (hn:h.fr h.next) {a1:Q4} (base ext:Nat) {o1:Obj}
  (ho:OR (E.add h.next w.heap.size base ext) (h.newO a1).get (λk=>(w.alloc o1).heap[k]?) h.next a1 o1):Rel P W0 (E.add h.next w.heap.size base ext) (h.newO a1) (w.alloc o1):=by
 refine r.add hn r.below.size (by simp) (r.below.alloc r.below.size _) (by simp) (λc hc hlt=>Below.heap_alloc _ _ _ hlt) (λj ao hj hb=>?_) (World.alloc_heap_new _ _) ho;exact absurd (r.bound j _ hb) (by omega)
theorem Rel.same (r:Rel P W0 E h w) {w':World} (hh:w'.heap=w.heap) (ht:w'.tape=w.tape) (ho:w'.os=w.os) (hu:w'.output=w.output):Rel P W0 E h w' :=
 ⟨λi ao hi=>by rw[hh];exact r.obj i ao hi,r.inj,r.free,λi b hb=>by rw[hh];exact r.bound i b hb,
  r.below.trans ⟨ho,ht,hu,by rw[hh];exact zL0 _,λk _=>by rw[hh]⟩,r.old,r.glob,r.lim,r.room⟩
theorem Rel.win (r:Rel P W0 E h w) {a b:Nat} (hab:a<=b) (hb:b<=top) (hc:∀i ao,h.get i=some ao->i<top) (hf:∀i,a<=i->i<b->E.blk i=none):Rel P W0 E (h.win a b) w :=
 ⟨r.obj,r.inj,λi h1 h2=>hf i h1 (h2.resolve_left (by simp)),r.bound,r.below,r.old,r.glob,.inr ⟨hb,hc⟩,.inr hab⟩
theorem Rel.tombs (r:Rel P W0 E h w) {i b:Nat} (hi:i<h.next) (hn:E.blk i=none) (hb:b<w.heap.size):Rel P W0 (E.add i b 0 0) (h.put i (some .tomb)) w:=by
 have ht:h.inf=true∨i<top:=r.lim.elim .inl λl=>r.room.imp id λq=>by omega
 have le:=Env.add_le hn b 0 0;have hfree:∀j ao,h.get j=some ao->j≠i:=λj ao hj e=>by obtain⟨c,_,hc,_⟩:=r.obj j ao hj;rw[e,hn] at hc;cases hc
 have keyE:∀{j c},j≠i->(E.add i b 0 0).blk j=some c->E.blk j=some c:=λhj hc=>(Env.add_inv hc).elim (λe=>absurd e.1 hj) (λe=>e.2);refine⟨λj ao hj=>?_,λj k x y c hj hk hx hy ej ek=>?_,λj h1 h2=>?_,λj c hc=>?_,r.below,λj ao c hj hc hlt=>?_,λg hg=>?_,r.lim.put ht _,r.room⟩
 .rw[Q0.get_put _ ht] at hj;by_cases e:j=i
  .subst e;rw[if_pos rfl] at hj;cases hj;exact⟨b,w.heap[b],Env.add_blk _ _ _ _ _,by simp[hb],.tomb _⟩
  .rw[if_neg e] at hj;obtain⟨c,o,hc,hw,hor⟩:=r.obj j ao hj;refine⟨c,o,le.blk _ _ hc,hw,hor.mono le hc λm d es v hd hv=>?_⟩;rw[Q0.get_put _ ht] at hv;by_cases em:m=i
   .rw[if_pos em] at hv;cases hv
   .rw[if_neg em] at hv;exact⟨v,es,hv,zL0 _,λ_=>rfl⟩
 .rw[Q0.get_put _ ht] at hj hk;by_cases e1:j=i
  .rw[if_pos e1] at hj;cases hj;exact absurd rfl hx
  .rw[if_neg e1] at hj;by_cases e2:k=i
   .rw[if_pos e2] at hk;cases hk;exact absurd rfl hy
   .rw[if_neg e2] at hk;exact r.inj j k x y c hj hk hx hy (keyE e1 ej) (keyE e2 ek)
 .have h1':h.next<=j:=h1
  show (if j=i then some b else E.blk j)=none;rw[if_neg (by omega)];exact r.free j h1' h2
 .rcases Env.add_inv hc with ⟨_,e⟩ | ⟨_,e⟩
  .rw[e];exact hb
  .exact r.bound j c e
 .rw[Q0.get_put _ ht] at hj;by_cases e:j=i
  .rw[if_pos e] at hj;cases hj;exact .inl rfl
  .rw[if_neg e] at hj;exact r.old j ao c hj (keyE e hc) hlt
 .obtain⟨h1,h2⟩:=r.glob g hg;exact⟨le.blk _ _ h1,by rw[le.base _ _ h1];exact h2⟩
theorem Rel.drop (r:Rel P W0 E h w) {a x:Nat} (h0:h.inf=false) (h1:a<=h.next) (h2:h.next<=a+x) (h3:a+x<=h.lim):Rel P W0 E ((qKi a (h.next-a) h).win (a+x) h.lim) w:=by
 have key:∀{j ao},((qKi a (h.next-a) h).win (a+x) h.lim).get j=some ao->h.get j=some ao:=by
  intro j ao hj;rw[Q0.win_get,qSu _ _ _ trivial] at hj;by_cases e:a<=j/\j<a+(h.next-a)
  .rw[if_pos e] at hj;cases hj
  .rw[if_neg e] at hj;exact hj
 refine⟨λj ao hj=>?_,λj k x y c hj hk=>r.inj j k x y c (key hj) (key hk),λj h4 h5=>r.free j (by simp only[Q0.win_next] at h4;omega) (.inr (h5.resolve_left (by simp))),r.bound,r.below,λj ao c hj=>r.old j ao c (key hj),r.glob,.inr ⟨(r.lim.resolve_left (by simp[h0])).1,λj ao hj=>(r.lim.resolve_left (by simp[h0])).2 j ao (key hj)⟩,.inr h3⟩;obtain⟨b,o,hb,ho,hor⟩:=r.obj j ao (key hj);exact⟨b,o,hb,ho,hor.mono (.refl _) hb λm d es v hd hv=>⟨v,es,key hv,zL0 _,λ_=>rfl⟩⟩
end
end Go.X
namespace Go.X
open Go Go.RowKit
theorem qW {α:Type}:∀(l:List α) (n:Nat),nthL l n=l[n]?
 | [],n=>by simp;rfl
 | x::l,0=>rfl
 | x::l,n+1=>(qW l n).trans (by simp)
theorem qq {α:Type}:∀(n:Nat) (l:List α),jO n l=l.drop n
 | 0,l=>rfl
 | n+1,[]=>rfl
 | n+1,x::l=>qq n l
theorem jQ {α:Type}:∀(n:Nat) (l:List α) (k:List α->FM),j3 n l k=if n<=l.length then k (l.take n) else .fail 12
 | 0,l,k=>by simp;rfl
 | n+1,[],k=>by simp;rfl
 | n+1,x::l,k=>by
  show j3 n l (λr=>k (x::r))=_;rw[jQ n l];by_cases h:n<=l.length
  .rw[if_pos h,if_pos (by simp;omega)];rfl
  .rw[if_neg h,if_neg (by simp;omega)]
theorem qWb {α:Type}:∀(vs l:List α) (k:List α->FM),jB6 vs l k=if vs.length<=l.length then k (vs++l.drop vs.length) else .fail 14
 | [],l,k=>by simp;rfl
 | v::vs,[],k=>by simp;rfl
 | v::vs,x::l,k=>by
  show jB6 vs l (λr=>k (v::r))=_;rw[qWb vs l];by_cases h:vs.length<=l.length
  .rw[if_pos h,if_pos (by simp;omega)];simp
  .rw[if_neg h,if_neg (by simp;omega)]
theorem qPv {α:Type} (vs:List α) {p:QF} {h:Q0}:∀(n:Nat) (l:List α) (k:List α->FM),(putK vs n l k).sat p h->n+vs.length<=l.length/\(k (l.take n++(vs++l.drop (n+vs.length)))).sat p h
 | 0,l,k,hs=>by
  have hs':(jB6 vs l k).sat p h:=hs;rw[qWb] at hs';by_cases hl:vs.length<=l.length
  .rw[if_pos hl] at hs';exact⟨by omega,by simpa using hs'⟩
  .rw[if_neg hl] at hs';exact False.elim hs'
 | n+1,[],k,hs=>False.elim hs
 | n+1,x::l,k,hs=>by
  obtain⟨h1,h2⟩:=qPv vs n l (λr=>k (x::r)) hs;refine⟨by simp;omega,?_⟩;have e:(x::l).drop (n+1+vs.length)=l.drop (n+vs.length):=by rw[show n+1+vs.length=(n+vs.length)+1 by omega];rfl
  rw[e];exact h2
theorem qz {α:Type}:∀(a b:List α) (k:List α->FM),Jj a b k=k (a++b)
 | [],b,k=>rfl
 | x::a,b,k=>by show Jj a b (λr=>k (x::r))=_;rw[qz a b];rfl
theorem jB2 {α:Type} (z:List α):∀(n:Nat) (k:List α->FM),repK z n k=k (List.replicate n z).flatten
 | 0,k=>rfl
 | n+1,k=>by show repK z n (λr=>Jj z r k)=_;rw[jB2 z n,qz,List.replicate_succ,List.flatten_cons]
theorem jD {α:Type}:∀(l:List α) (a:Nat) (k:Nat->FM),Jf l a k=k (a+l.length)
 | [],a,k=>rfl
 | x::l,a,k=>by show Qc (Nat.add a 1) (λa'=>Jf l a' k)=_;rw[Qb,jD l];congr 1;simp;omega
theorem qKa {α:Type} (l:List α) (k:Nat->FM):Jf l Nat.zero k=k l.length:=by rw[jD];congr 1;simp
theorem qSm {α:Type}:∀(l:List α) (n:Nat) (k:List α->FM),qMf l n k=k (l.eraseIdx n)
 | [],n,k=>rfl
 | x::l,0,k=>rfl
 | x::l,n+1,k=>by show qMf l n (λr=>k (x::r))=_;rw[qSm l n];rfl
theorem qS (l:List Nat):ofBytes l=l.map λb=>.int .u8 (.ofNat b):=by
 induction l with
 | nil=>rfl
 | cons x l ih=>show _::ofBytes l=_;rw[ih];rfl
theorem qF8 {p:QF} {h:Q0}:∀(l:List AV) (k:List Nat->FM),(Ju l k).sat p h->∃r,l=ofBytes r/\(∀x,x∈r->x<256)/\(k r).sat p h
 | [],k,hs=>⟨[],rfl,by simp,hs⟩
 | v::l,k,hs=>by
  cases v with
  | int q n =>
   cases q with
   | u8 =>
    cases n with
    | ofNat b =>
     have hs':(cnd (ltb b 256) (Ju l λr=>k (b::r)) (.fail 29)).sat p h:=hs;cases hb:ltb b 256
     .rw[hb] at hs';exact False.elim hs'
     .rw[hb] at hs';obtain⟨r,e,hr,hk⟩:=qF8 l _ hs';exact⟨b::r,by rw[e];rfl,λx hx=>(List.mem_cons.1 hx).elim (λe=>e ▸ Qo.1 hb) (hr x),hk⟩
    | negSucc m=>exact False.elim hs
   | _=>exact False.elim hs
  | _=>exact False.elim hs
theorem qIg {l:List AV}:QX l=true↔∀v,v∈l->v.plainC=true:=by
 induction l with
 | nil=>exact⟨λ_ x hx=>absurd hx zK0,λ_=>rfl⟩
 | cons y t ih =>show cnd y.plainC (QX t) false=true↔_;rw[Qk,ih];exact⟨λ⟨h1,h2⟩ x hx=>(List.mem_cons.1 hx).elim (λe=>e ▸ h1) (h2 x),λh=>⟨h y zB0,λx hx=>h x (zA0 _ hx)⟩⟩
theorem Qi {b:Bool} {m:FM} {n:Nat} {p:QF} {h:Q0} (hs:(cnd b m (.fail n)).sat p h):b=true/\m.sat p h:=by
 cases b
 .exact False.elim hs
 .exact⟨rfl,hs⟩
theorem Qr {b:Bool} {m m':FM} {p:QF} {h:Q0} (hs:(cnd b m m').sat p h):(b=true/\m.sat p h)∨(b=false/\m'.sat p h):=by
 cases b
 .exact .inr ⟨rfl,hs⟩
 .exact .inl ⟨rfl,hs⟩
theorem Qe {α:Type} {o:Option α} {n:Nat} {k:α->FM} {p:QF} {h:Q0} (hs:(Qj o (.fail n) k).sat p h):∃a,o=some a/\(k a).sat p h:=by
 cases o with
 | none=>exact False.elim hs
 | some a=>exact⟨a,rfl,hs⟩
theorem jh {α:Type} {n:Nat} {l:List α} {k:List α->FM} {p:QF} {h:Q0} (hs:(j3 n l k).sat p h):n<=l.length/\(k (l.take n)).sat p h:=by
 rw[jQ] at hs;by_cases hl:n<=l.length
 .rw[if_pos hl] at hs;exact⟨hl,hs⟩
 .rw[if_neg hl] at hs;exact False.elim hs
theorem beq_iff {a b:Nat}:Nat.beq a b=true↔a=b:=⟨QA,λh=>by rw[h];exact Nat.beq_refl b⟩
theorem jT {o:Q4} {k:List AV->FM} {n:Nat} {p:QF} {h:Q0} (hs:(o.onRead k (.fail n)).sat p h):∃c,((∃e g m,o=.cells c e g m)∨o=.ro c)/\(k c).sat p h:=by
 cases o with
 | cells c e g m=>exact⟨c,.inl ⟨e,g,m,rfl⟩,hs⟩
 | ro c=>exact⟨c,.inr rfl,hs⟩
 | _=>exact False.elim hs
theorem jt {o:Q4} {k:List AV->Nat->Bool->Bool->FM} {n:Nat} {p:QF} {h:Q0} (hs:(o.onCells k (.fail n)).sat p h):∃c e g m,o=.cells c e g m/\(k c e g m).sat p h:=by
 cases o with
 | cells c e g m=>exact⟨c,e,g,m,rfl,hs⟩
 | _=>exact False.elim hs
theorem jU {o:Q4} {k:List (AV × AV)->Nat->FM} {n:Nat} {p:QF} {h:Q0} (hs:(o.onMap k (.fail n)).sat p h):∃es v,o=.map es v/\(k es v).sat p h:=by
 cases o with
 | map es v=>exact⟨es,v,rfl,hs⟩
 | _=>exact False.elim hs
theorem qEt {o:Q4} {k:ALoop->FM} {n:Nat} {p:QF} {h:Q0} (hs:(o.onLoop k (.fail n)).sat p h):∃l,o=.loop l/\(k l).sat p h:=by
 cases o with
 | loop l=>exact⟨l,rfl,hs⟩
 | _=>exact False.elim hs
section
variable {P:Program} {w:World} {E:Env} {t:TypeId}
theorem qGm {n:Nat} (h:szO P t=some n):∃i,P.info? t=some i/\i.size=n:=by
 unfold szO at h;split at h
 .rename_i i hi;cases h;exact⟨i,hi,rfl⟩
 .cases h
theorem jDp {n:Nat} (h:qU6 P t=some n):∃i,P.info? t=some i/\i.bytes=n:=by
 unfold qU6 at h;split at h
 .rename_i i hi;cases h;exact⟨i,hi,rfl⟩
 .cases h
theorem cmpO_spec {n:Bool} (h:cmpO P t=some n):∃i,P.info? t=some i/\i.comparable=n:=by
 unfold cmpO at h;split at h
 .rename_i i hi;cases h;exact⟨i,hi,rfl⟩
 .cases h
theorem qEr {z:AV} (h:Jb P t=some z):∃i v,P.info? t=some i/\i.zero=some v/\z=ofValue v:=by
 unfold Jb at h;split at h
 .rename_i i hi;split at h
  .rename_i v hv;cases h;exact⟨i,v,hi,hv,rfl⟩
  .cases h
 .cases h
theorem run_typeInfo {i:TypeInfo} (h:P.info? t=some i) (w:World):(typeInfo t).run P w=.ok i w:=by simp[typeInfo,program,Sem.run,h]
theorem Q9 {d:TypeDesc} (h:P.underlying t=some d) (w:World):(underlying t).run P w=.ok d w:=by simp[underlying,program,Sem.run,h]
theorem run_sizeOf {n:Nat} (h:szO P t=some n) (w:World):(sizeOf t).run P w=.ok n w:=by obtain⟨i,hi,rfl⟩:=qGm h;simp[sizeOf,run_typeInfo hi]
theorem qGo {i:TypeInfo} {v:Value} (hi:P.info? t=some i) (hv:i.zero=some v) (w:World):(zeroValue t).run P w=.ok v w:=by simp[zeroValue,run_typeInfo hi,hv]
theorem qK8 {b:Bool} (h:qSd P t=some b) (w:World):(isAgg t).run P w=.ok b w:=by
 unfold qSd at h;split at h
 .rename_i fs hu;cases h;simp[isAgg,Q9 hu]
 .rename_i n e hu;cases h;simp[isAgg,Q9 hu]
 .rename_i d hu h1 h2;cases h;simp only[isAgg,Sem.run_bind,Q9 h2,Result.andThen_ok];cases d <;> first | rfl | exact (hu _ rfl).elim | exact (h1 _ _ rfl).elim
 .cases h
theorem jF {e:TypeId} (h:qL P t=some e):P.underlying t=some (.slice e):=by
 unfold qL at h;split at h
 .rename_i hu;cases h;exact hu
 .cases h
theorem qF6 {e:Nat × TypeId} (h:Jz P t=some e):P.underlying t=some (.array e.1 e.2):=by
 unfold Jz at h;split at h
 .rename_i hu;cases h;exact hu
 .cases h
theorem qUx {e:TypeId} (h:jDk P t=some e):P.underlying t=some (.pointer e):=by
 unfold jDk at h;split at h
 .rename_i hu;cases h;exact hu
 .cases h
theorem qUy {e:TypeId × TypeId} (h:qNv P t=some e):P.underlying t=some (.map e.1 e.2):=by
 unfold qNv at h;split at h
 .rename_i hu;cases h;exact hu
 .cases h
theorem jy {n:Nat} (h:Qd P t=n):∀d,P.underlying t=some d->n=(match d with
 | .bool=>1 | .int _=>2 | .string=>3 | .pointer _=>4 | .unsafePointer=>5 | .interface _=>6 | .struct _=>7 | .array _ _=>8 | .slice _=>9 | .map _ _=>10 | .func _ _ _=>11 | _=>12):=by
 intro d hd;unfold Qd at h;rw[hd] at h;subst h;cases d <;> rfl
theorem ja {n:Nat} (h:Qd P t=n) (hn:n≠0):∃d,P.underlying t=some d:=by
 unfold Qd at h;cases hu:P.underlying t with
 | none=>rw[hu] at h;exact absurd h.symm hn
 | some d=>exact⟨d,rfl⟩
theorem tag1 (h:Qd P t=1):P.underlying t=some .bool:=by
 obtain⟨d,hd⟩:=ja h (by omega)
 have:=jy h d hd
 cases d <;> first | exact hd | (exfalso;simp at this)
theorem tag2 (h:Qd P t=2):∃k,P.underlying t=some (.int k):=by
 obtain⟨d,hd⟩:=ja h (by omega)
 have:=jy h d hd
 cases d <;> first | exact⟨_,hd⟩ | (exfalso;simp at this)
theorem tag3 (h:Qd P t=3):P.underlying t=some .string:=by
 obtain⟨d,hd⟩:=ja h (by omega)
 have:=jy h d hd
 cases d <;> first | exact hd | (exfalso;simp at this)
theorem tag4 (h:Qd P t=4):∃e,P.underlying t=some (.pointer e):=by
 obtain⟨d,hd⟩:=ja h (by omega)
 have:=jy h d hd
 cases d <;> first | exact⟨_,hd⟩ | (exfalso;simp at this)
theorem tag6 (h:Qd P t=6):∃e,P.underlying t=some (.interface e):=by
 obtain⟨d,hd⟩:=ja h (by omega)
 have:=jy h d hd
 cases d <;> first | exact⟨_,hd⟩ | (exfalso;simp at this)
theorem tag9 (h:Qd P t=9):∃e,P.underlying t=some (.slice e):=by
 obtain⟨d,hd⟩:=ja h (by omega)
 have:=jy h d hd
 cases d <;> first | exact⟨_,hd⟩ | (exfalso;simp at this)
theorem jF8 (h:Qd P t=10):∃k e,P.underlying t=some (.map k e):=by
 obtain⟨d,hd⟩:=ja h (by omega)
 have:=jy h d hd
 cases d <;> first | exact⟨_,_,hd⟩ | (exfalso;simp at this)
theorem tag11 (h:Qd P t=11):∃a b c,P.underlying t=some (.func a b c):=by
 obtain⟨d,hd⟩:=ja h (by omega)
 have:=jy h d hd
 cases d <;> first | exact⟨_,_,_,hd⟩ | (exfalso;simp at this)
end
theorem qRx (E:Env) (v:Value):VR E (qPz v) v:=by
 cases v with
 | bool b=>exact .bool _
 | int q n=>exact .int _ _
 | string s=>exact .str _ _ rfl
 | pointer a=>cases a with
  | none=>exact .nilp
  | some a=>exact .junk _
 | slice a l c=>cases a with
  | none =>
   cases l with
   | zero=>cases c with
    | zero=>exact .nils
    | succ c=>exact .junk _
   | succ l=>exact .junk _
  | some a=>exact .junk _
 | map r=>cases r with
  | none=>exact .nilMap
  | some a=>exact .junk _
 | func f a c =>
  rcases a with ⟨_ | ⟨x,l⟩⟩
  .rcases c with ⟨_ | ⟨y,m⟩⟩
   .exact .func _ _ _ _ _ _ (.plain _) .nil .nil
   .exact .junk _
  .exact .junk _
 | nilFunc=>exact .nilFunc
 | nilIface=>exact .nilIface
 | tuple vs =>
  rcases vs with ⟨_ | ⟨x,l⟩⟩
  .exact .tuple _ _ .nil
  .exact .junk _
 | _=>exact .junk _
theorem qOg (E:Env):∀(l:List Value),VRs E (l.map qPz) l
 | []=>.nil
 | v::l=>.cons _ _ _ _ (qRx E v) (qOg E l)
theorem qRw (E:Env) (v:Value):VR E (qPy v) v:=by
 unfold qPy;split
 .exact .agg _ _ (qOg E _)
 .exact qRx E _
theorem Jp (E:Env) (v:Value):VR E (ofValue v) v:=by
 unfold ofValue;split
 .exact .iface _ _ _ (qRw E _)
 .exact qRw E _
end Go.X
namespace Go.X
open Go Go.RowKit
section
variable {P:Program} {W0:World} {E:Env} {h:Q0} {w:World}
theorem qKl {b:Nat} {cs:Array Value} {e:TypeId} {fr:Nat × Nat} (hw:w.heap[b]?=some (.cells cs e fr)) (x:Nat):w.cell? ⟨b,x,none⟩=cs[x]?:=by simp[World.cell?,hw]
theorem qH9 {b:Nat} {cs:Array Value} {e:TypeId} {fr:Nat × Nat} (hw:w.heap[b]?=some (.cells cs e fr)) (x:Nat):w.frozen? ⟨b,x,none⟩=(decide (fr.1<=x) && decide (x<fr.2)):=by simp[World.frozen?,hw]
theorem j6 (b x n:Nat):(⟨b,x,none⟩:Addr).add n=⟨b,x+n,none⟩:=by
 unfold Addr.add;by_cases h:n=0
 .simp[h]
 .simp[h]
structure ReadAt (E:Env) (w:World) (i b:Nat) (c:List AV):Prop where
 ex:∃(cs:Array Value) (e:TypeId) (fr:Nat × Nat) (pre c1 rest:List Value),w.heap[b]?=some (.cells cs e fr)/\cs.toList=pre++(c1++rest)/\pre.length=E.base i/\VRs E c c1
theorem Rel.readAt (r:Rel P W0 E h w) {i b:Nat} {ao:Q4} {c:List AV} (hg:h.get i=some ao) (ho:(∃e g m,ao=.cells c e g m)∨ao=.ro c) (hb:E.blk i=some b):ReadAt E w i b c:=by
 obtain⟨b',o,hb',hw,hor⟩:=r.obj i ao hg;rw[hb] at hb';cases hb';rcases ho with ⟨e,g,m,rfl⟩ | rfl
 .cases hor with
  | cells _ _ _ _ cs e fr pre c1 rest hcs hp hc=>exact⟨cs,e,fr,pre,c1,rest,hw,hcs,hp,hc⟩
 .cases hor with
  | ro _ cs e fr pre c1 rest hcs hp hc=>exact⟨cs,e,fr,pre,c1,rest,hw,hcs,hp,hc⟩
theorem jEy {α:Type} {pre c1 rest:List α} (n:Nat) (hn:n<c1.length):(pre++(c1++rest))[pre.length+n]?=c1[n]?:=by rw[List.getElem?_append_right (by omega),Nat.add_sub_cancel_left,List.getElem?_append_left hn]
theorem ReadAt.cell {i b:Nat} {c:List AV} (a:ReadAt E w i b c) {n:Nat} {x:AV} (hx:c[n]?=some x):∃v,w.cell? ⟨b,E.base i+n,none⟩=some v/\VR E x v:=by obtain⟨cs,e,fr,pre,c1,rest,hw,hcs,hp,hc⟩:=a.ex;obtain⟨v,hv,hr⟩:=hc.get n x hx;refine⟨v,?_,hr⟩;have hn:n<c1.length:=(List.getElem?_eq_some_iff.1 hv).1;rw[qKl hw,<- Array.getElem?_toList,hcs,<- hp,jEy n hn,hv]
theorem ReadAt.cells {i b:Nat} {c:List AV} (a:ReadAt E w i b c) (o n:Nat) (hn:n<=(c.drop o).length) :
  ∃vs:List Value,vs.length=n/\VRs E ((c.drop o).take n) vs/\(∀j v,vs[j]?=some v->w.cell? ((⟨b,E.base i+o,none⟩:Addr).add j)=some v):=by
 obtain⟨cs,e,fr,pre,c1,rest,hw,hcs,hp,hc⟩:=a.ex;have hl:=hc.length;refine⟨(c1.drop o).take n,?_,(hc.drop o).take n,λj v hj=>?_⟩
 .simp at hn ⊢;omega
 .have hj1:j<n:=by
   have:=(List.getElem?_eq_some_iff.1 hj).1
   simp at this;omega
  rw[List.getElem?_take_of_lt hj1,List.getElem?_drop] at hj;have hlt:=(List.getElem?_eq_some_iff.1 hj).1;rw[j6,qKl hw,<- Array.getElem?_toList,hcs,<- hp,show pre.length+o+j=pre.length+(o+j) by omega,jEy _ hlt,hj]
theorem ReadAt.load {i b:Nat} {c:List AV} (a:ReadAt E w i b c) (o n:Nat) (hn:n<=(c.drop o).length) :
  ∃vs:List Value,vs.length=n/\VRs E ((c.drop o).take n) vs/\(loadCells ⟨b,E.base i+o,none⟩ n).run P w=.ok vs.toArray w:=by
 obtain⟨vs,h1,h2,h3⟩:=a.cells o n hn;refine⟨vs,h1,h2,?_⟩
 have:=run_loadCells_list (P:=P) w ⟨b,E.base i+o,none⟩ vs h3
 rw[h1] at this;exact this
theorem run_load1 {a:Addr} {v:Value} (h:w.cell? a=some v):(load a).run P w=.ok v w:=by simp[load,Sem.run,h]
theorem jGl {t:TypeId} {i b:Nat} {c:List AV} (a:ReadAt E w i b c) {o:Nat} {k:AV->FM} {p:QF} (hs:(qA P t c o k).sat p h) :
  ∃v av,(loadVar t ⟨b,E.base i+o,none⟩).run P w=.ok v w/\VR E av v/\(k av).sat p h:=by
 obtain⟨g,hg,hs⟩:=Qe hs;rcases Qr hs with ⟨rfl,hs⟩ | ⟨rfl,hs⟩
 .obtain⟨n,hn,hs⟩:=Qe hs;obtain⟨hle,hs⟩:=jh hs;rw[qq] at hle hs;obtain⟨vs,_,h2,h3⟩:=a.load (P:=P) o n hle;exact⟨.agg vs.toArray,_,by simp[loadVar,qK8 hg,run_sizeOf hn,h3],.agg _ _ (by simpa using h2),hs⟩
 .obtain⟨x,hx,hs⟩:=Qe hs;rw[qW] at hx;obtain⟨v,hv,hr⟩:=a.cell hx;exact⟨v,x,by simp[loadVar,qK8 hg,hv],hr,hs⟩
theorem qJ9 (r:Rel P W0 E h w) {t:TypeId} {i b o:Nat} (hb:E.blk i=some b) {k:AV->FM} {p:QF} (hs:(qPp P t i o k).sat p h) :
  ∃v av,(loadVar t ⟨b,E.base i+o,none⟩).run P w=.ok v w/\VR E av v/\(k av).sat p h:=by
 obtain⟨ao,hg,hs⟩:=hs;obtain⟨c,ho,hs⟩:=jT hs;exact jGl (r.readAt hg ho hb) hs
theorem qF3 {t:TypeId} {cs:List AV} {xs:Array Value} (hc:VRs E cs xs.toList) {o:Nat} {k:AV->FM} {p:QF} (hs:(qA P t cs o k).sat p h) (w:World) :
  ∃v av,(part t xs o).run P w=.ok v w/\VR E av v/\(k av).sat p h:=by
 obtain⟨g,hg,hs⟩:=Qe hs;rcases Qr hs with ⟨rfl,hs⟩ | ⟨rfl,hs⟩
 .obtain⟨n,hn,hs⟩:=Qe hs;obtain⟨hle,hs⟩:=jh hs;rw[qq] at hle hs;refine⟨.agg (xs.extract o (o+n)),_,by simp[part,qK8 hg,run_sizeOf hn],.agg _ _ ?_,hs⟩;have e:(xs.extract o (o+n)).toList=(xs.toList.drop o).take n:=by
   rw[Array.toList_extract,List.extract_eq_take_drop];congr 1;omega
  rw[e];exact (hc.drop o).take n
 .obtain⟨x,hx,hs⟩:=Qe hs;rw[qW] at hx;obtain⟨v,hv,hr⟩:=hc.get _ _ hx;rw[Array.getElem?_toList] at hv;exact⟨v,x,by simp[part,qK8 hg,hv],hr,hs⟩
def over (cs:Array Value) (x:Nat):List Value->Array Value
 | []=>cs
 | v::vs=>over (cs.setIfInBounds x v) (x+1) vs
theorem qY5 (cs:Array Value) (x:Nat) (vs:List Value):(over cs x vs).size=cs.size:=by
 induction vs generalizing cs x with
 | nil=>rfl
 | cons v vs ih=>rw[over,ih];simp
theorem qGr:∀(vs:List Value) (cs:Array Value) (x:Nat),x+vs.length<=cs.size->(over cs x vs).toList=cs.toList.take x++(vs++cs.toList.drop (x+vs.length))
 | [],cs,x,_=>by simp[over]
 | v::vs,cs,x,hx=>by
  simp only[zJ0] at hx;rw[over,qGr vs _ _ (by simp;omega)];have hl:x<cs.toList.length:=by simp;omega
  rw[Array.toList_setIfInBounds,List.set_eq_take_append_cons_drop,if_pos hl];have e1:(cs.toList.take x).length=x:=by simp;omega
  have e2:(List.take x cs.toList++v::List.drop (x+1) cs.toList).take (x+1)=cs.toList.take x++[v]:=by rw[List.take_append,e1,List.take_of_length_le (by omega),show x+1-x=1 by omega];rfl
  have e3:(List.take x cs.toList++v::List.drop (x+1) cs.toList).drop (x+1+vs.length)=cs.toList.drop (x+1+vs.length):=by rw[List.drop_append,e1,List.drop_of_length_le (by omega),show x+1+vs.length-x=vs.length+1 by omega];simp[Nat.add_comm,Nat.add_left_comm]
  rw[e2,e3];simp[Nat.add_comm,Nat.add_left_comm]
theorem qTa {b:Nat} {cs:Array Value} {e:TypeId} {fr:Nat × Nat} (hw:w.heap[b]?=some (.cells cs e fr)) (x:Nat) (v:Value) :
  w.setCell ⟨b,x,none⟩ v=w.putObj b (.cells (cs.setIfInBounds x v) e fr):=by
 obtain⟨hlt,he⟩:=Array.getElem?_eq_some_iff.1 hw;simp only[World.setCell,World.putObj];congr 1;apply Array.ext
 .simp
 .intro j h1 h2;rw[Array.getElem_setIfInBounds (by simpa using h1),Array.getElem_modify];by_cases ej:b=j
  .subst ej;simp[he]
  .simp[ej]
theorem qV6 (w:World) (b:Nat) (o o':Obj):(w.putObj b o).putObj b o'=w.putObj b o':=by simp[World.putObj]
theorem jGb {b x:Nat} {cs:Array Value} {e:TypeId} {fr:Nat × Nat} {v:Value} (hw:w.heap[b]?=some (.cells cs e fr)) (hx:x<cs.size) (hf:¬(fr.1<=x/\x<fr.2)) (hv:v.oneCell'=true) :
  (store ⟨b,x,none⟩ v).run P w=.ok () (w.putObj b (.cells (cs.setIfInBounds x v) e fr)):=by
 have h1:w.cell? ⟨b,x,none⟩=some cs[x]:=by rw[qKl hw];simp[hx]
 have h2:w.frozen? ⟨b,x,none⟩=false:=by
  rw[qH9 hw,Bool.and_eq_false_iff];by_cases h:fr.1<=x
  .exact .inr (by simp;omega)
  .exact .inl (by simp;omega)
 rw[<- qTa hw];cases v <;> first | (simp[store,Sem.run,h1,h2];done) | (simp[Value.oneCell'] at hv)
theorem qE4:∀(vs:List Value) (b x i:Nat) (cs:Array Value) (e:TypeId) (fr:Nat × Nat) (w:World),w.heap[b]?=some (.cells cs e fr)->x+i+vs.length<=cs.size ->
  (∀j,j<vs.length->¬(fr.1<=x+i+j/\x+i+j<fr.2))->(∀v,v∈vs->v.oneCell'=true) ->
  (storeCells ⟨b,x,none⟩ vs i).run P w=.ok () (w.putObj b (.cells (over cs (x+i) vs) e fr))
 | [],b,x,i,cs,e,fr,w,hw,_,_,_=>by
  simp only[storeCells,over];rw[qJx hw];rfl
 | v::vs,b,x,i,cs,e,fr,w,hw,hl,hf,hv=>by
  simp only[zJ0] at hl;simp only[storeCells,Sem.run_bind,j6];rw[jGb hw (by omega) (by simpa using hf 0 (by simp)) (hv v (by simp)),Result.andThen_ok]
  rw[qE4 vs b x (i+1) (cs.setIfInBounds (x+i) v) e fr _ (World.putObj_heap_same (jC9 hw)) (by simp;omega)
   (λj hj=>by have:=hf (j+1) (by simpa using hj);rwa [show x+i+(j+1)=x+(i+1)+j by omega] at this) (λu hu=>hv u (by simp[hu]))]
  rw[qV6];rfl
theorem VR.oneCell {a:AV} {v:Value} (h:VR E a v) (hp:a.plainC=true):v.oneCell'=true:=by cases h <;> first | rfl | exact ff hp
theorem VRs.oneCells {a:List AV} {v:List Value} (h:VRs E a v) (hp:QX a=true):∀x,x∈v->x.oneCell'=true:=by intro x hx;obtain⟨n,hn⟩:=List.mem_iff_getElem?.1 hx;obtain⟨y,hy,hr⟩:=h.get' n x hn;exact hr.oneCell (qIg.1 hp y (zC0 hy))
theorem qE6 (r:Rel P W0 E h w) {i b o:Nat} (hb:E.blk i=some b) {cs:List AV} {vs:List Value} (hv:VRs E cs vs) {m:FM} {p:QF} (hs:(qGs i o cs m).sat p h) :
  ∃w' h',(storeCells ⟨b,E.base i+o,none⟩ vs).run P w=.ok () w'/\Rel P W0 E h' w'/\Stp E h E h'/\m.sat p h':=by
 obtain⟨hp,hs⟩:=Qi hs;obtain⟨ao,hg,hs⟩:=hs;obtain⟨c,esz,g,mk,rfl,hs⟩:=jt hs;obtain⟨hle,hs⟩:=qPv cs o c _ hs;obtain⟨hin,hs⟩:=hs;obtain⟨b',ob,hb',hw,hor⟩:=r.obj i _ hg;rw[hb] at hb';cases hb';cases hor with
 | cells _ _ _ _ cc e fr pre c1 rest hcs hpre hc hrest hfr =>
  have hl:=hc.length;have hvl:=hv.length;have hsz:cc.size=pre.length+(c1.length+rest.length):=by rw[<- Array.length_toList,hcs];simp
  have hrun:=qE4 (P:=P) vs b (E.base i+o) 0 cc e fr w hw (by rw[hsz,<- hpre];omega) (λj hj=>hfr.free _ (.inr (by rw[hsz,<- hpre];omega))) (hv.oneCells hp);refine⟨_,_,hrun,r.set hg hb (λho=>ho.elim (λh=>by cases h) (λ⟨c,h⟩=>by cases h)) (λes v h=>by cases h) ?_,⟨.refl _,λ_ _ h=>.inl h,rfl,zL0 _⟩,hs⟩;refine .cells _ _ _ _ _ _ _ pre (c1.take o++(vs++c1.drop (o+vs.length))) rest ?_ hpre ?_ hrest (by rw[qY5];exact hfr)
  .rw[qGr _ _ _ (by rw[hsz,<- hpre];omega),hcs,<- hpre,Nat.add_zero];have e1:(pre++(c1++rest)).take (pre.length+o)=pre++c1.take o:=by
    rw[List.take_append,List.take_of_length_le (by omega),show pre.length+o-pre.length=o by omega,List.take_append,show o-c1.length=0 by omega];simp
   have e2:(pre++(c1++rest)).drop (pre.length+o+vs.length)=c1.drop (o+vs.length)++rest:=by rw[List.drop_append,List.drop_of_length_le (by omega),show pre.length+o+vs.length-pre.length=o+vs.length by omega,List.drop_append,show o+vs.length-c1.length=0 by omega];simp
   rw[e1,e2];simp
  .rw[hvl];exact (hc.take o).append (hv.append (hc.drop _))
end
end Go.X
namespace Go.X
open Go Go.RowKit
theorem ltI_iff {a b:Int}:ltI a b=true↔a<b:=by cases a <;> cases b <;> simp[ltI,Qo] <;> omega
theorem qG7 (a b:Int):ltI a b=decide (a<b):=by
 by_cases h:a<b
 .rw[decide_eq_true h];exact ltI_iff.2 h
 .rw[decide_eq_false h];cases hb:ltI a b
  .rfl
  .exact absurd (ltI_iff.1 hb) h
theorem qFd (a b:Int):eqI a b=decide (a=b):=by
 by_cases h:a=b
 .rw[decide_eq_true h];exact jAf.2 h
 .rw[decide_eq_false h];cases hb:eqI a b
  .rfl
  .exact absurd (jAf.1 hb) h
theorem qSy (a b:Nat):Nat.ble a b=decide (a<=b):=by
 by_cases h:a<=b
 .rw[decide_eq_true h];exact qs.2 h
 .rw[decide_eq_false h];cases hb:Nat.ble a b
  .rfl
  .exact absurd (qs.1 hb) h
theorem qG2 {β:Type} (p:Prop) [Decidable p] (t e:β):cnd (decide p) t e=if p then t else e:=by
 by_cases h:p
 .rw[decide_eq_true h,if_pos h];rfl
 .rw[decide_eq_false h,if_neg h];rfl
theorem qN1 (a b:Int):addI a b=a+b:=by
 cases a with
 | ofNat m =>
  cases b with
  | ofNat p=>rfl
  | negSucc p =>
   show cnd (Nat.ble (Nat.succ p) m) (Int.ofNat (Nat.sub m (Nat.succ p))) (Int.negSucc (Nat.sub p m))=_;rw[qSy,qG2];simp only[Nat.sub_eq,Nat.succ_eq_add_one,Int.ofNat_eq_natCast,Int.negSucc_eq];split <;> omega
 | negSucc m =>
  cases b with
  | ofNat p =>
   show cnd (Nat.ble (Nat.succ m) p) (Int.ofNat (Nat.sub p (Nat.succ m))) (Int.negSucc (Nat.sub m p))=_;rw[qSy,qG2];simp only[Nat.sub_eq,Nat.succ_eq_add_one,Int.ofNat_eq_natCast,Int.negSucc_eq];split <;> omega
  | negSucc p =>show Int.negSucc (Nat.succ (Nat.add m p))=_;simp only[Nat.add_eq,Nat.succ_eq_add_one,Int.negSucc_eq];omega
theorem qR4 (a:Int):negI a=-a:=by
 cases a with
 | ofNat m=>cases m <;> rfl
 | negSucc m=>rfl
theorem qFn (q:IntKind):qh q=q.bits:=by cases q <;> rfl
theorem jGt (q:IntKind):ksigned q=q.signed:=by cases q <;> rfl
theorem qVq {q:IntKind} (hs:q.signed=true) {n:Int} (h1:-(2 ^ (q.bits-1):Int)<=n) (h2:n<(2 ^ (q.bits-1):Int)):q.wrap n=n:=by cases q <;> simp[IntKind.signed] at hs <;> simp[IntKind.wrap,IntKind.bits,IntKind.signed] at*<;> split <;> omega
theorem wrap_u {q:IntKind} (hs:q.signed=false) (m:Nat):q.wrap (Int.ofNat m)=Int.ofNat (m % 2 ^ q.bits):=by cases q <;> simp[IntKind.signed] at hs <;> simp[IntKind.wrap,IntKind.bits,IntKind.signed]
theorem jEf (q:IntKind) (n:Int):wrapI q n=q.wrap n:=by
 unfold wrapI;rw[jGt];cases hs:q.signed
 .rw[Q8];cases n with
  | ofNat m =>
   show Int.ofNat (Nat.mod m (Nat.pow 2 (qh q)))=_;rw[wrap_u hs,qFn];rfl
  | negSucc m=>rfl
 .rw[Q6];have hp:∀m:Nat,ltb m (Nat.pow 2 (Nat.sub (qh q) 1))=true->(m:Int)<(2 ^ (q.bits-1):Int):=λm h=>by
   have h1:=Qo.1 h;rw[qFn] at h1;have h2:m<2 ^ (q.bits-1):=h1
   exact_mod_cast h2
  cases n with
  | ofNat m =>
   show cnd (ltb m (Nat.pow 2 (Nat.sub (qh q) 1))) (Int.ofNat m) (q.wrap (Int.ofNat m))=_;cases hb:ltb m (Nat.pow 2 (Nat.sub (qh q) 1))
   .rfl
   .have:=hp m hb
    rw[Q6,qVq hs (by have:=Int.natCast_nonneg m;simp only[Int.ofNat_eq_natCast];omega) (by simpa using this)]
  | negSucc m =>
   show cnd (ltb m (Nat.pow 2 (Nat.sub (qh q) 1))) (Int.negSucc m) (q.wrap (Int.negSucc m))=_;cases hb:ltb m (Nat.pow 2 (Nat.sub (qh q) 1))
   .rfl
   .have:=hp m hb
    rw[Q6,qVq hs (by rw[Int.negSucc_eq];omega) (by rw[Int.negSucc_eq];omega)]
theorem QZ (q:IntKind) (n:Int) (k:AV->FM):jr q n k=k (.int q (q.wrap n)):=by unfold jr;rw[jX,jEf]
theorem QV (b:Bool) (k:AV->FM):je b k=k (.bool b):=by cases b <;> rfl
theorem qKz (q:IntKind) (n:Int):toU q n=(BitVec.ofInt q.bits n).toNat:=by
 rw[BitVec.toNat_ofInt];cases n with
 | ofNat m =>
  show Nat.mod m (Nat.pow 2 (qh q))=_;rw[qFn];simp only[Int.ofNat_eq_natCast]
  exact_mod_cast (Int.toNat_natCast (m % 2 ^ q.bits)).symm
 | negSucc m =>
  show Nat.sub (Nat.sub (Nat.pow 2 (qh q)) 1) (Nat.mod m (Nat.pow 2 (qh q)))=_;rw[qFn]
  have:∀M:Nat,0<M->(Int.negSucc m % (M:Int)).toNat=M-1-m % M:=by
   intro M hM;have h1:=Int.emod_nonneg (Int.negSucc m) (b:=(M:Int)) (by omega);rw[Int.negSucc_emod _ (by omega:(0:Int)<(M:Int))];have h2:m % M<M:=Nat.mod_lt _ hM;have h3:((m:Int) % (M:Int))=((m % M:Nat):Int):=by simp
   rw[h3];omega
  have h0:=this (2 ^ q.bits) (Nat.two_pow_pos _);have hc:((2 ^ q.bits:Nat):Int)=(2:Int) ^ q.bits:=by simp
  rw[h0];rfl
section
variable {P:Program} {E:Env} {h:Q0} {p:QF} {w:World}
theorem qa {q r:IntKind} {m:FM} (hs:(kEq q r m).sat p h):q=r/\m.sat p h:=by obtain⟨h1,h2⟩:=Qi hs;exact⟨qP2 h1,h2⟩
theorem qZ4 {op:BinOp} {q r:IntKind} {n m:Int} {k:AV->FM} (t:TypeId) (hs:(intBin op q r n m k).sat p h) (w:World) :
  ∃v av,(binOp op t (.int q n) (.int r m)).run P w=.ok v w/\VR E av v/\(k av).sat p h:=by
 cases op with
 | shl =>
  cases m with
  | ofNat m =>
   have hs':(jr q (n*Int.ofNat (Nat.pow 2 (cnd (Nat.ble m (qh q)) m (qh q)))) k).sat p h:=hs;rw[QZ,qFn,qSy,qG2] at hs';refine⟨_,_,?_,.int _ _,hs'⟩
   have:min m q.bits=if m<=q.bits then m else q.bits:=by split <;> omega
   simp only[binOp,Op.shift,Int.ofNat_eq_natCast];rw[if_neg (by omega)];simp only[Int.toNat_natCast,this];simp
  | negSucc m=>exact False.elim hs
 | shr =>
  cases m with
  | ofNat m =>
   have hs':(jY (n.fdiv (Int.ofNat (Nat.pow 2 (cnd (Nat.ble m (qh q)) m (qh q))))) λr=>k (.int q r)).sat p h:=hs;rw[jX,qFn,qSy,qG2] at hs';refine⟨_,_,?_,.int _ _,hs'⟩
   have:min m q.bits=if m<=q.bits then m else q.bits:=by split <;> omega
   simp only[binOp,Op.shift,Int.ofNat_eq_natCast];rw[if_neg (by omega)];simp only[Int.toNat_natCast,this];simp
  | negSucc m=>exact False.elim hs
 | add =>
  obtain⟨hq,hs2⟩:=qa hs;subst hq;clear hs;refine⟨_,_,?_,.int _ _,(by have hs:(jr q (addI n m) k).sat p h:=hs2;rw[QZ,qN1] at hs;exact hs)⟩;simp[binOp,Op.intArith]
 | sub =>
  obtain⟨hq,hs2⟩:=qa hs;subst hq;clear hs;refine⟨_,_,?_,.int _ _,(by have hs:(jr q (addI n (negI m)) k).sat p h:=hs2;rw[QZ,qN1,qR4] at hs;exact hs)⟩;simp[binOp,Op.intArith,Int.sub_eq_add_neg]
 | mul =>
  obtain⟨hq,hs2⟩:=qa hs;subst hq;clear hs;refine⟨_,_,?_,.int _ _,(by have hs:(jr q (n*m) k).sat p h:=hs2;rw[QZ] at hs;exact hs)⟩;simp[binOp,Op.intArith]
 | quo =>
  obtain⟨hq,hs2⟩:=qa hs;subst hq;clear hs;have hs':(cnd (eqI m 0) (.fail 30) (jr q (n.tdiv m) k)).sat p h:=hs2;rw[qFd,qG2] at hs';by_cases hm:m=0
  .rw[if_pos hm] at hs';exact False.elim hs'
  .rw[if_neg hm,QZ] at hs';exact⟨_,_,by simp[binOp,Op.intDiv,hm],.int _ _,hs'⟩
 | rem =>
  obtain⟨hq,hs2⟩:=qa hs;subst hq;clear hs;have hs':(cnd (eqI m 0) (.fail 31) (jY (n.tmod m) λr=>k (.int q r))).sat p h:=hs2;rw[qFd,qG2] at hs';by_cases hm:m=0
  .rw[if_pos hm] at hs';exact False.elim hs'
  .rw[if_neg hm,jX] at hs';exact⟨_,_,by simp[binOp,Op.intDiv,hm],.int _ _,hs'⟩
 | and =>
  obtain⟨hq,hs2⟩:=qa hs;subst hq;clear hs;refine⟨_,_,?_,.int _ _,(by have hs:(jr q (.ofNat (Nat.land (toU q n) (toU q m))) k).sat p h:=hs2;rw[QZ,qKz,qKz] at hs;exact hs)⟩;simp only[binOp,Op.intBits,BitVec.toNat_and,ne_eq,not_true_eq_false,if_false];rfl
 | or =>
  obtain⟨hq,hs2⟩:=qa hs;subst hq;clear hs;refine⟨_,_,?_,.int _ _,(by have hs:(jr q (.ofNat (Nat.lor (toU q n) (toU q m))) k).sat p h:=hs2;rw[QZ,qKz,qKz] at hs;exact hs)⟩;simp only[binOp,Op.intBits,BitVec.toNat_or,ne_eq,not_true_eq_false,if_false];rfl
 | xor =>
  obtain⟨hq,hs2⟩:=qa hs;subst hq;clear hs;refine⟨_,_,?_,.int _ _,(by have hs:(jr q (.ofNat (Nat.xor (toU q n) (toU q m))) k).sat p h:=hs2;rw[QZ,qKz,qKz] at hs;exact hs)⟩;simp only[binOp,Op.intBits,BitVec.toNat_xor,ne_eq,not_true_eq_false,if_false];rfl
 | andNot =>
  obtain⟨hq,hs2⟩:=qa hs;subst hq;clear hs;refine⟨_,_,?_,.int _ _,(by have hs:(jr q (.ofNat (Nat.land (toU q n) (Nat.xor (toU q m) (Nat.sub (Nat.pow 2 (qh q)) 1)))) k).sat p h:=hs2;rw[QZ,qKz,qKz,qFn] at hs;exact hs)⟩;have e:(~~~ BitVec.ofInt q.bits m).toNat=Nat.xor (BitVec.ofInt q.bits m).toNat (Nat.sub (Nat.pow 2 q.bits) 1):=by
   have e1 : ~~~ BitVec.ofInt q.bits m=BitVec.ofInt q.bits m ^^^ BitVec.allOnes q.bits:=by simp
   rw[e1,BitVec.toNat_xor,BitVec.toNat_allOnes];rfl
  simp only[binOp,Op.intBits,BitVec.toNat_and,e,ne_eq,not_true_eq_false,if_false];rfl
 | eql =>
  obtain⟨hq,hs2⟩:=qa hs;subst hq;clear hs;refine⟨_,_,?_,.bool _,(by have hs:(je (eqI n m) k).sat p h:=hs2;rw[QV,qFd] at hs;exact hs)⟩;simp[binOp,Op.intCmp];rfl
 | neq =>
  obtain⟨hq,hs2⟩:=qa hs;subst hq;clear hs;refine⟨_,_,?_,.bool _,(by have hs:(je (eqI n m).not k).sat p h:=hs2;rw[QV,qFd] at hs;exact hs)⟩;simp[binOp,Op.intCmp];rfl
 | lss =>
  obtain⟨hq,hs2⟩:=qa hs;subst hq;clear hs;refine⟨_,_,?_,.bool _,(by have hs:(je (ltI n m) k).sat p h:=hs2;rw[QV,qG7] at hs;exact hs)⟩;simp[binOp,Op.intCmp]
 | leq =>
  obtain⟨hq,hs2⟩:=qa hs;subst hq;clear hs;refine⟨_,_,?_,.bool _,(by have hs:(je (ltI m n).not k).sat p h:=hs2;rw[QV,qG7] at hs;exact hs)⟩;simp only[binOp,Op.intCmp,ne_eq,not_true_eq_false,if_false];rw[<- decide_not];simp only[Int.not_lt];rfl
 | gtr =>
  obtain⟨hq,hs2⟩:=qa hs;subst hq;clear hs;refine⟨_,_,?_,.bool _,(by have hs:(je (ltI m n) k).sat p h:=hs2;rw[QV,qG7] at hs;exact hs)⟩;simp[binOp,Op.intCmp]
 | geq =>obtain⟨hq,hs2⟩:=qa hs;subst hq;clear hs;refine⟨_,_,?_,.bool _,(by have hs:(je (ltI n m).not k).sat p h:=hs2;rw[QV,qG7] at hs;exact hs)⟩;simp only[binOp,Op.intCmp,ne_eq,not_true_eq_false,if_false];rw[<- decide_not];simp only[Int.not_lt];rfl
end
end Go.X
namespace Go.X
open Go Go.RowKit
theorem jG7 (b:ByteArray):bs b=b.toList.map UInt8.toNat:=by rw[ByteArray.toList_eq];rfl
theorem u8_inj:∀{a b:List UInt8},a.map UInt8.toNat=b.map UInt8.toNat->a=b
 | [],[],_=>rfl
 | x::a,y::b,h=>by
  simp only[List.map_cons,List.cons.injEq] at h;rw[UInt8.toNat_inj.1 h.1,u8_inj h.2]
 | [],y::b,h=>by simp at h
 | x::a,[],h=>by simp at h
theorem ju:∀(a b:List Nat),qy a b=decide (a=b)
 | [],[]=>rfl
 | [],y::b=>by simp[qy]
 | x::a,[]=>by simp[qy]
 | x::a,y::b=>by
  show cnd (Nat.beq x y) (qy a b) false=_;rw[ju a b];cases hb:Nat.beq x y
  .have:x≠y:=λe=>by rw[e,Nat.beq_refl] at hb;cases hb
   simp[cnd,this]
  .simp[cnd,QA hb]
theorem qU7:∀(a b:List UInt8),qj (a.map UInt8.toNat) (b.map UInt8.toNat)=Op.bytesLess a b
 | [],[]=>rfl
 | [],y::b=>rfl
 | x::a,[]=>rfl
 | x::a,y::b=>by
  show cnd (ltb x.toNat y.toNat) true (cnd (Nat.beq x.toNat y.toNat) (qj (a.map UInt8.toNat) (b.map UInt8.toNat)) false)=_;rw[qU7 a b,Op.bytesLess];have h1:ltb x.toNat y.toNat=decide (x<y):=by
   by_cases h:x<y
   .rw[decide_eq_true h];exact Qo.2 (UInt8.lt_iff_toNat_lt.1 h)
   .rw[decide_eq_false h];exact qE.2 (Nat.le_of_not_lt λh'=>h (UInt8.lt_iff_toNat_lt.2 h'))
  have h2:Nat.beq x.toNat y.toNat=(x == y):=by
   by_cases h:x=y
   .subst h;simp
   .have h3:(x == y)=false:=by simpa using h
    rw[h3];cases hb:Nat.beq x.toNat y.toNat
    .rfl
    .exact absurd (UInt8.toNat_inj.1 (QA hb)) h
  rw[h1,h2];cases decide (x<y) <;> cases (x == y) <;> simp[cnd]
theorem qI6 (a b:ByteArray):qj (bs a) (bs b)=Op.bytesLess a.toList b.toList:=by rw[jG7,jG7,qU7]
theorem qNz (a b:ByteArray):qy (bs a) (bs b)=(a.toList == b.toList):=by
 rw[ju,jG7,jG7];by_cases h:a.toList=b.toList
 .rw[h];simp
 .rw[decide_eq_false (λe=>h (u8_inj e))];symm;simpa using h
theorem qFf:∀(a b:List UInt8),Op.bytesLess b a=!(Op.bytesLess a b || (a == b))
 | [],[]=>rfl
 | [],y::b=>by simp[Op.bytesLess]
 | x::a,[]=>by simp[Op.bytesLess]
 | x::a,y::b=>by
  simp only[Op.bytesLess,List.cons_beq_cons];rw[qFf a b];rcases Nat.lt_trichotomy x.toNat y.toNat with h | h | h
  .have h1:x<y:=UInt8.lt_iff_toNat_lt.2 h;have h2:¬y<x:=λh'=>by have:=UInt8.lt_iff_toNat_lt.1 h';omega
   have h3:¬x=y:=λe=>by subst e;omega
   have h4:¬y=x:=λe=>h3 e.symm;simp[h1,h2,h3,h4]
  .have h0:x=y:=UInt8.toNat_inj.1 h;subst h0;have h1:¬x<x:=λh'=>by have:=UInt8.lt_iff_toNat_lt.1 h';omega
   simp[h1]
  .have h1:y<x:=UInt8.lt_iff_toNat_lt.2 h;have h2:¬x<y:=λh'=>by have:=UInt8.lt_iff_toNat_lt.1 h';omega
   have h3:¬x=y:=λe=>by subst e;omega
   simp[h1,h2,h3]
theorem bs_append (a b:ByteArray):bs (a++b)=bs a++bs b:=by simp[bs]
theorem jm (a:ByteArray):(bs a).length=a.size:=by simp[bs]
section
variable {P:Program} {W0:World} {E:Env} {h:Q0} {p:QF} {w:World}
theorem qYk {op:BinOp} {a b:ByteArray} {k:AV->FM} (t:TypeId) (hs:(strBin op (bs a) (bs b) k).sat p h) (w:World) :
  ∃v av,(binOp op t (.string a) (.string b)).run P w=.ok v w/\VR E av v/\(k av).sat p h:=by
 have hb:∀x:Bool,(je x k).sat p h->(k (.bool x)).sat p h:=λx h=>by rwa [QV] at h
 cases op with
 | add =>
  have hs':(catK (bs a) (bs b) k).sat p h:=hs;unfold catK at hs';rw[qKa,qKa] at hs';obtain⟨h1,h2⟩:=Qi hs';rw[qz] at h2;have h3:(bs a).length+(bs b).length<=1099511627776:=qs.1 h1;rw[jm,jm] at h3;refine⟨.string (a++b),_,?_,.str _ _ (bs_append a b),h2⟩;simp only[binOp,Op.stringOp];rw[if_neg (by have:IntKind.i64.max=9223372036854775807:=rfl;rw[this];omega)];rfl
 | eql=>exact⟨_,_,by simp only[binOp,Op.stringOp];rfl,.bool _,by rw[<- qNz];exact hb _ hs⟩
 | neq=>exact⟨_,_,by simp only[binOp,Op.stringOp];rfl,.bool _,by rw[<- qNz];exact hb _ hs⟩
 | lss=>exact⟨_,_,by simp only[binOp,Op.stringOp];rfl,.bool _,by rw[<- qI6];exact hb _ hs⟩
 | leq =>
  refine⟨_,_,by simp only[binOp,Op.stringOp];rfl,.bool _,?_⟩
  have:=hb _ hs
  rw[qI6,qFf] at this;simpa using this
 | gtr =>
  refine⟨_,_,by simp only[binOp,Op.stringOp];rfl,.bool _,?_⟩
  have:=hb _ hs
  rw[qI6,qFf] at this;exact this
 | geq=>exact⟨_,_,by simp only[binOp,Op.stringOp];rfl,.bool _,by rw[<- qI6];exact hb _ hs⟩
 | _=>exact False.elim hs
theorem qe {t:TypeId} {n:Nat} {m:FM} (hs:(QK P t n m).sat p h):Qd P t=n/\m.sat p h:=by obtain⟨h1,h2⟩:=Qi hs;exact⟨beq_iff.1 h1,h2⟩
theorem qOi {b x:Nat} {cs:Array Value} {e:TypeId} {fr:Nat × Nat} (hw:w.heap[b]?=some (.cells cs e fr)) (hf:∀o,¬(fr.1<=o/\o<fr.2)) :
  (stringish ⟨b,x,none⟩).run P w=.ok false w:=by
 have h1:∀y,w.frozen? ⟨b,y,none⟩=false:=λy=>by
  rw[qH9 hw,Bool.and_eq_false_iff];by_cases h:fr.1<=y
  .exact .inr (by have:=hf y;simp;omega)
  .exact .inl (by simp;omega)
 have h2:w.shape? b=some (e,cs.size):=by simp[World.shape?,hw]
 simp[stringish,h1,h2]
theorem run_sameAddr_other {a b x y:Nat} {cs ds:Array Value} {e f:TypeId} {fr gr:Nat × Nat} (hne:a≠b) (ha:w.heap[a]?=some (.cells cs e fr)) (hb:w.heap[b]?=some (.cells ds f gr))
  (hf:∀o,¬(fr.1<=o/\o<fr.2)) (hg:∀o,¬(gr.1<=o/\o<gr.2)):(sameAddr ⟨a,x,none⟩ ⟨b,y,none⟩).run P w=.ok false w:=by
 have h1:w.frozen? ⟨a,x,none⟩=false:=by
  rw[qH9 ha,Bool.and_eq_false_iff];by_cases h:fr.1<=x
  .exact .inr (by have:=hf x;simp;omega)
  .exact .inl (by simp;omega)
 have s1:w.shape? a=some (e,cs.size):=by simp[World.shape?,ha]
 have s2:w.shape? b=some (f,ds.size):=by simp[World.shape?,hb]
 have hne':(a == b)=false:=by simpa using hne
 simp[sameAddr,hne',h1,noView,viewAt,s1,s2,mayBeOne,qOi ha hf,qOi hb hg]
theorem jDg (r:Rel P W0 E h w) {i o j q b c:Nat} (hi:E.blk i=some b) (hj:E.blk j=some c) {k:Bool->FM} (hs:(jG0 i o j q k).sat p h) :
  ∃x,(sameAddr ⟨b,E.base i+o,none⟩ ⟨c,E.base j+q,none⟩).run P w=.ok x w/\(k x).sat p h:=by
 rcases Qr hs with ⟨hij,hs2⟩ | ⟨hij,hs⟩
 .have e:=beq_iff.1 hij;subst e;rw[hi] at hj;cases hj;refine⟨_,?_,hs2⟩;simp only[sameAddr,beq_self_eq_true,if_true];show Result.ok ((⟨b,E.base i+o,none⟩:Addr) == ⟨b,E.base i+q,none⟩) w=_;congr 1
  have:Nat.beq o q=decide (o=q):=by
   by_cases h:o=q
   .subst h;simp
   .rw[decide_eq_false h];cases hb:Nat.beq o q
    .rfl
    .exact absurd (QA hb) h
  rw[this];by_cases h:o=q
  .subst h;simp
  .simp[h]
 .obtain⟨ao,hg,hs⟩:=hs;obtain⟨c1,e1,g1,m1,rfl,hs⟩:=jt hs;rcases Qr hs with ⟨_,hs⟩ | ⟨hm1,hs⟩
  .exact False.elim hs
  obtain⟨bo,hg2,hs⟩:=hs;obtain⟨c2,e2,g2,m2,rfl,hs⟩:=jt hs;rcases Qr hs with ⟨_,hs⟩ | ⟨hm2,hs⟩
  .exact False.elim hs
  subst hm1;subst hm2;refine⟨false,?_,hs⟩;obtain⟨b',o1,hb',hw1,hor1⟩:=r.obj i _ hg;rw[hi] at hb';cases hb';obtain⟨c',o2,hc',hw2,hor2⟩:=r.obj j _ hg2;rw[hj] at hc';cases hc';have hne:b≠c:=λe=>by
   have:=r.inj i j _ _ b hg hg2 (by simp) (by simp) hi (by rw[e];exact hj)
   subst this;simp at hij
  cases hor1 with
  | cells _ _ _ _ cs f fr pre1 a1 rest1 h1 h2 h3 h4 h5 =>
   cases hor2 with
   | cells _ _ _ _ ds g gr pre2 a2 rest2 k1 k2 k3 k4 k5 =>exact run_sameAddr_other hne hw1 hw2 (λo=>h5.free o (.inl rfl)) (λo=>k5.free o (.inl rfl))
theorem qf (r:Rel P W0 E h w) {t:TypeId} {a b:AV} {x y:Value} (ha:VR E a x) (hb:VR E b y) {k:Bool->FM} (hs:(eq1 P t a b k).sat p h) (d:Nat) :
  ∃z,(Op.equalIn (d+1) t x y).run P w=.ok z w/\(k z).sat p h:=by
 cases ha with
 | bool u =>
  cases hb with
  | bool v =>
   obtain⟨ht,hs⟩:=qe hs;refine⟨u == v,by simp[Op.equalIn,Q9 (tag1 ht)],?_⟩
   have:cnd u v (cnd v false true)=(u == v):=by cases u <;> cases v <;> rfl
   rw[<- this];exact hs
  | _=>exact False.elim hs
 | int q n =>
  cases hb with
  | int q2 m =>
   obtain⟨ht,hs⟩:=qe hs;obtain⟨hq,hs2⟩:=qa hs;subst hq;obtain⟨kk,hu⟩:=tag2 ht;refine⟨n == m,by simp[Op.equalIn,Q9 hu],?_⟩;rw[qFd] at hs2;exact hs2
  | _=>exact False.elim hs
 | str s u he =>
  cases hb with
  | str s2 v he2 =>
   obtain⟨ht,hs⟩:=qe hs;subst he;subst he2;rw[qNz,<- beq_toListBytes] at hs;exact⟨u == v,by simp[Op.equalIn,Q9 (tag3 ht)],hs⟩
  | _=>exact False.elim hs
 | ptr i o b x hi hx =>
  subst hx;cases hb with
  | nilp =>
   obtain⟨ht,hs⟩:=qe hs;obtain⟨e,hu⟩:=tag4 ht;exact⟨false,by simp[Op.equalIn,Q9 hu],hs⟩
  | ptr j q c y hj hy =>
   subst hy;have hs':(jE6 P t i o j q k).sat p h:=hs;obtain⟨_,hs⟩:=Qi hs';obtain⟨e,he,hs⟩:=Qe hs;obtain⟨n,hn,hs⟩:=Qe hs;have hu:=qUx he;rcases Qr hs with ⟨_,hs⟩ | ⟨hz,hs⟩
   .exact False.elim hs
   have hn0:n≠0:=λe=>by rw[e] at hz;cases hz
   obtain⟨z,hz1,hz2⟩:=jDg r hi hj hs;exact⟨z,by simp[Op.equalIn,Q9 hu,run_sizeOf hn,hn0,hz1],hz2⟩
  | _=>exact False.elim hs
 | nilp =>
  have hs':(QK P t 4 (cnd b.isNilp (k true) (b.onPtr (λ_ _=>k false) (.fail 62)))).sat p h:=hs;obtain⟨ht,hs⟩:=qe hs';obtain⟨e,hu⟩:=tag4 ht;cases hb with
  | nilp=>exact⟨true,by simp[Op.equalIn,Q9 hu],hs⟩
  | ptr j q c y hj hy=>exact⟨false,by simp[Op.equalIn,Q9 hu],hs⟩
  | _=>exact False.elim hs
 | nils =>
  obtain⟨ht,hs⟩:=qe hs;obtain⟨e,hu⟩:=tag9 ht;cases hb with
  | nils=>exact⟨true,by simp[Op.equalIn,Q9 hu],hs⟩
  | slice=>exact⟨false,by simp[Op.equalIn,Q9 hu],hs⟩
  | emp=>exact⟨false,by simp[Op.equalIn,Q9 hu],hs⟩
  | _=>exact False.elim hs
 | emp a c =>
  obtain⟨ht,hs⟩:=qe hs;obtain⟨e,hu⟩:=tag9 ht;cases hb with
  | nils=>exact⟨false,by simp[Op.equalIn,Q9 hu],hs⟩
  | _=>exact False.elim hs
 | slice =>
  obtain⟨ht,hs⟩:=qe hs;obtain⟨e,hu⟩:=tag9 ht;cases hb with
  | nils=>exact⟨false,by simp[Op.equalIn,Q9 hu],hs⟩
  | _=>exact False.elim hs
 | nilMap =>
  obtain⟨ht,hs⟩:=qe hs;obtain⟨e,f,hu⟩:=jF8 ht;cases hb with
  | nilMap=>exact⟨true,by simp[Op.equalIn,Q9 hu],hs⟩
  | map=>exact⟨false,by simp[Op.equalIn,Q9 hu],hs⟩
  | _=>exact False.elim hs
 | map i b hi =>
  obtain⟨ht,hs⟩:=qe hs;obtain⟨e,f,hu⟩:=jF8 ht;cases hb with
  | nilMap=>exact⟨false,by simp[Op.equalIn,Q9 hu],hs⟩
  | _=>exact False.elim hs
 | nilFunc =>
  obtain⟨ht,hs⟩:=qe hs;obtain⟨e,f,g,hu⟩:=tag11 ht;cases hb with
  | nilFunc=>exact⟨true,by simp[Op.equalIn,Q9 hu],hs⟩
  | func=>exact⟨false,by simp[Op.equalIn,Q9 hu],hs⟩
  | _=>exact False.elim hs
 | func =>
  obtain⟨ht,hs⟩:=qe hs;obtain⟨e,f,g,hu⟩:=tag11 ht;cases hb with
  | nilFunc=>exact⟨false,by simp[Op.equalIn,Q9 hu],hs⟩
  | _=>exact False.elim hs
 | _=>exact False.elim hs
end
end Go.X
namespace Go.X
open Go Go.RowKit
section
variable {P:Program} {W0:World} {E:Env} {h:Q0} {p:QF} {w:World}
def qNt (n:Nat) (cs ds:List AV) (k:Bool->FM) (l:List (TypeId × Nat)):FM :=
 List.rec (motive:=λ_=>FM) (k true) (λx _ ihl=>qA P x.1 cs x.2 λu=>qA P x.1 ds x.2 λv=>eqA P n x.1 u v λr=>cnd r ihl (k false)) l
theorem qY9 {a:AV} {k:List AV->FM} {n:Nat} (hs:(a.onAgg k (.fail n)).sat p h):∃cs,a=.agg cs/\(k cs).sat p h:=by cases a <;> first | exact False.elim hs | exact⟨_,rfl,hs⟩
theorem eqA_sound (r:Rel P W0 E h w):∀(n:Nat) (t:TypeId) (a b:AV) (x y:Value) (k:Bool->FM) (d:Nat),VR E a x->VR E b y->(eqA P n t a b k).sat p h ->
  ∃z,(Op.equalIn (d+n) t x y).run P w=.ok z w/\(k z).sat p h:=by
 intro n
 induction n with
 | zero=>intro t a b x y k d ha hb hs;exact False.elim hs
 | succ n ih =>
  intro t a b x y k d ha hb hs;have step:∀{cs ds:List AV} {xs ys:Array Value} (hc:VRs E cs xs.toList) (hd:VRs E ds ys.toList) (ty:TypeId) (off:Nat) (m:FM),
    (qA P ty cs off λu=>qA P ty ds off λv=>eqA P n ty u v λr=>cnd r m (k false)).sat p h ->
    ∃u v z,(part ty xs off).run P w=.ok u w/\(part ty ys off).run P w=.ok v w/\(Op.equalIn (d+n) ty u v).run P w=.ok z w/\(cnd z m (k false)).sat p h:=by
   intro cs ds xs ys hc hd ty off m hs;obtain⟨u,au,hu,hur,hs⟩:=qF3 hc hs w;obtain⟨v,av,hv,hvr,hs⟩:=qF3 hd hs w;obtain⟨z,hz,hs⟩:=ih ty au av u v _ d hur hvr hs;exact⟨u,v,z,hu,hv,hz,hs⟩
  cases ha with
  | agg cs xs hc =>
   have hs':(b.onAgg (λds=>Qj (qNi P t) (.fail 65) λl=>qNt (P:=P) n cs ds k l) (.fail 66)).sat p h:=hs;obtain⟨ds,rfl,hs⟩:=qY9 hs';obtain⟨l,hl,hs⟩:=Qe hs;cases hb with
   | agg _ ys hd =>
    unfold qNi at hl;split at hl
    .rename_i fs hu;by_cases hst:P.stoodInHeld t=true
     .rw[if_pos hst] at hl;cases hl
     .rw[if_neg hst] at hl;have hfo:P.fieldsOf t=fs:=by unfold Program.fieldsOf;rw[hu]
      rw[show d+(n+1)=(d+n)+1 from rfl,run_equalIn_struct w (d+n) t xs ys (by rw[hfo];exact hu) (by simpa using hst),hfo];have key:∀(fl:List Field) (l:List (TypeId × Nat)),qMd fl=some l->(qNt (P:=P) n cs ds k l).sat p h->∃z,(Op.eqFields (d+n) xs ys fl).run P w=.ok z w/\(k z).sat p h:=by
       intro fl
       induction fl with
       | nil=>intro l hl hs;cases hl;exact⟨true,by simp[Op.eqFields],hs⟩
       | cons f fl ihf =>
        intro l hl hs;unfold qMd at hl;by_cases hn:f.name = "_"
        .rw[if_pos hn] at hl;cases hl
        .rw[if_neg hn] at hl;cases hr:qMd fl with
         | none=>rw[hr] at hl;cases hl
         | some s =>
          rw[hr] at hl;cases hl;obtain⟨u,v,z,h1,h2,h3,h4⟩:=step hc hd f.type f.offset (qNt (P:=P) n cs ds k s) hs;cases z
          .exact⟨false,by simp[Op.eqFields,hn,h1,h2,h3],h4⟩
          .obtain⟨z,hz,hk⟩:=ihf s hr h4;exact⟨z,by simp[Op.eqFields,hn,h1,h2,h3,hz],hk⟩
      exact key _ _ hl hs
    .rename_i m e hu;split at hl
     .rename_i sz hsz;cases hl;obtain⟨i,hi,hisz⟩:=qGm hsz;have hco:P.cellsOf e=sz:=by simp[Program.cellsOf,hi,hisz]
      rw[show d+(n+1)=(d+n)+1 from rfl,run_equalIn_array w (d+n) xs ys hu hi,hco];have key:∀(is:List Nat),(qNt (P:=P) n cs ds k (is.map λi=>(e,i*sz))).sat p h->∃z,(Op.eqItems (d+n) e sz xs ys is).run P w=.ok z w/\(k z).sat p h:=by
       intro is
       induction is with
       | nil=>intro hs;exact⟨true,by simp[Op.eqItems],hs⟩
       | cons j is ihj =>
        intro hs;obtain⟨u,v,z,h1,h2,h3,h4⟩:=step hc hd e (j*sz) (qNt (P:=P) n cs ds k (is.map λi=>(e,i*sz))) hs;cases z
        .exact⟨false,by simp[Op.eqItems,h1,h2,h3],h4⟩
        .obtain⟨z,hz,hk⟩:=ihj h4;exact⟨z,by simp[Op.eqItems,h1,h2,h3,hz],hk⟩
      exact key _ hs
     .cases hl
    .cases hl
  | junk=>exact qf r (.junk _) hb hs (d+n)
  | bool=>exact qf r (.bool _) hb hs (d+n)
  | int=>exact qf r (.int _ _) hb hs (d+n)
  | str s b h=>exact qf r (.str s b h) hb hs (d+n)
  | nilp=>exact qf r .nilp hb hs (d+n)
  | ptr i o b x h hx=>exact qf r (.ptr i o b x h hx) hb hs (d+n)
  | nils=>exact qf r .nils hb hs (d+n)
  | slice i o l c e b x cc h hx hcc=>exact qf r (.slice i o l c e b x cc h hx hcc) hb hs (d+n)
  | emp a c=>exact qf r (.emp a c) hb hs (d+n)
  | nilMap=>exact qf r .nilMap hb hs (d+n)
  | map i b h=>exact qf r (.map i b h) hb hs (d+n)
  | func f g a c x y hf ha hc=>exact qf r (.func f g a c x y hf ha hc) hb hs (d+n)
  | nilFunc=>exact qf r .nilFunc hb hs (d+n)
  | iface t a v h=>exact qf r (.iface t a v h) hb hs (d+n)
  | nilIface=>exact qf r .nilIface hb hs (d+n)
  | tuple cs x h=>exact qf r (.tuple cs x h) hb hs (d+n)
theorem jM {op:BinOp} {t:TypeId} {x y:Operand} {a b:Value} (h1:¬(a=.nilIface/\b=.nilIface)) (h2:∀u v,¬(a=.agg u/\b=.agg v)) (w:World):(eqGuard op t x y a b).run P w=.ok () w:=by
 cases op <;> first | rfl | (
  cases a <;> first | rfl | (cases b <;> first | rfl | exact absurd ⟨rfl,rfl⟩ h1 | exact absurd ⟨rfl,rfl⟩ (h2 _ _)))
theorem jDh {op:BinOp} {t:TypeId} {x y:Operand} (hl:cnd (isLit x) true (isLit y)=true) (w:World):(eqGuard op t x y .nilIface .nilIface).run P w=.ok () w:=by
 cases op <;> first | rfl | (
  cases x <;> first | rfl | (cases y <;> first | rfl | exact ff hl))
theorem eqI_nn {d:Nat} {t:TypeId} {ms:Array (String × TypeId)} (hu:P.underlying t=some (.interface ms)):(Op.equalIn (d+1) t .nilIface .nilIface).run P w=.ok true w:=by simp[Op.equalIn,Q9 hu]
theorem eqI_ni {d:Nat} {t:TypeId} {ms:Array (String × TypeId)} (hu:P.underlying t=some (.interface ms)) (u:TypeId) (x:Value):(Op.equalIn (d+1) t .nilIface (.iface u x)).run P w=.ok false w:=by simp[Op.equalIn,Q9 hu]
theorem eqI_in {d:Nat} {t:TypeId} {ms:Array (String × TypeId)} (hu:P.underlying t=some (.interface ms)) (u:TypeId) (x:Value):(Op.equalIn (d+1) t (.iface u x) .nilIface).run P w=.ok false w:=by simp[Op.equalIn,Q9 hu]
theorem eqI_ne {d:Nat} {t:TypeId} {ms:Array (String × TypeId)} (hu:P.underlying t=some (.interface ms)) {u v:TypeId} (hne:u≠v) (x y:Value):(Op.equalIn (d+1) t (.iface u x) (.iface v y)).run P w=.ok false w:=by simp[Op.equalIn,Q9 hu,hne]
theorem eqI_ee {d:Nat} {t:TypeId} {ms:Array (String × TypeId)} (hu:P.underlying t=some (.interface ms)) {u:TypeId} {i:TypeInfo} (hi:P.info? u=some i) (hc:i.comparable=true) (x y:Value) :
  (Op.equalIn (d+1) t (.iface u x) (.iface u y)).run P w=(Op.equalIn d u x y).run P w:=by
 simp[Op.equalIn,Q9 hu,run_typeInfo hi,hc]
theorem qT2 (r:Rel P W0 E h w) {op:BinOp} {t:TypeId} {x y:Operand} {a b:AV} {u v:Value} (ha:VR E a u) (hb:VR E b v) {k:Bool->FM}
  (hs:(xEql P (cnd (isLit x) true (isLit y)) t a b k).sat p h) :
  (eqGuard op t x y u v).run P w=.ok () w/\∃z,(Op.equal t u v).run P w=.ok z w/\(k z).sat p h:=by
 have plain:(a.onAgg (λ_=>cnd (P.eqGuardType P.depth t) (.fail 65) (eqA P 6 t a b k)) (eq1 P t a b k)).sat p h->(∀q w,a≠.iface q w)->a≠.nilIface->a≠.junk ->
   (eqGuard op t x y u v).run P w=.ok () w/\∃z,(Op.equal t u v).run P w=.ok z w/\(k z).sat p h:=by
  intro hs n1 n2 n3;have hu1:u≠.nilIface:=λe=>by subst e;cases ha <;> simp_all
  by_cases hag:∃cs,a=.agg cs
  .obtain⟨cs,rfl⟩:=hag;have hs':(cnd (P.eqGuardType P.depth t) (.fail 65) (eqA P 6 t (.agg cs) b k)).sat p h:=hs;rcases Qr hs' with ⟨_,hs⟩ | ⟨hg,hs⟩
   .exact False.elim hs
   obtain⟨z,hz,hk⟩:=eqA_sound r 6 t _ _ _ _ _ 9994 ha hb hs;refine⟨?_,z,hz,hk⟩;have hb':∃ds,b=.agg ds:=by have hs2:(b.onAgg (λds=>Qj (qNi P t) (.fail 65) λl=>qNt (P:=P) 5 cs ds k l) (.fail 66)).sat p h:=hs;obtain⟨ds,e,_⟩:=qY9 hs2;exact⟨ds,e⟩
   obtain⟨ds,rfl⟩:=hb';cases ha with
   | agg _ xs _ =>
    cases hb with
    | agg _ ys _=>exact run_eqGuard_agg w op t x y xs ys hg
  .have hs':(eq1 P t a b k).sat p h:=by
    cases a <;> first | exact hs | exact absurd ⟨_,rfl⟩ hag
   obtain⟨z,hz,hk⟩:=qf r ha hb hs' 9999;refine⟨jM (λe=>hu1 e.1) (λc e hh=>?_) w,z,hz,hk⟩;obtain⟨e1,_⟩:=hh;subst e1;cases ha with
   | junk=>exact n3 rfl
   | agg cs _ _=>exact hag ⟨cs,rfl⟩
 cases ha with
 | nilIface =>
  obtain⟨ht,hs⟩:=qe hs;obtain⟨ms,hu⟩:=tag6 ht;cases hb with
  | nilIface =>
   obtain⟨hl,hs⟩:=Qi hs;exact⟨jDh hl w,true,eqI_nn (d:=9999) hu,hs⟩
  | iface t2 a2 v2 h2=>exact⟨jM (by simp) (by simp) w,false,eqI_ni (d:=9999) hu _ _,hs⟩
  | _=>exact False.elim hs
 | iface t1 a1 v1 h1 =>
  obtain⟨ht,hs⟩:=qe hs;obtain⟨ms,hu⟩:=tag6 ht;cases hb with
  | nilIface=>exact⟨jM (by simp) (by simp) w,false,eqI_in (d:=9999) hu _ _,hs⟩
  | iface t2 a2 v2 h2 =>
   refine⟨jM (by simp) (by simp) w,?_⟩;rcases Qr hs with ⟨he,hs2⟩ | ⟨he,hs2⟩
   .have e:=beq_iff.1 he;subst e;obtain⟨c,hc,hs3⟩:=Qe hs2;obtain⟨hct,hs4⟩:=Qi hs3;obtain⟨i,hi,hic⟩:=cmpO_spec hc;obtain⟨z,hz,hk⟩:=qf r h1 h2 hs4 9998;exact⟨z,(eqI_ee (d:=9999) hu hi (by rw[hic,hct]) _ _).trans hz,hk⟩
   .have hne:t1≠t2:=λe=>by rw[e,Nat.beq_refl] at he;cases he
    exact⟨false,eqI_ne (d:=9999) hu hne _ _,hs2⟩
  | _=>exact False.elim hs
 | junk v=>exact False.elim hs
 | bool=>exact plain hs (by simp) (by simp) (by simp)
 | int=>exact plain hs (by simp) (by simp) (by simp)
 | str=>exact plain hs (by simp) (by simp) (by simp)
 | nilp=>exact plain hs (by simp) (by simp) (by simp)
 | ptr=>exact plain hs (by simp) (by simp) (by simp)
 | nils=>exact plain hs (by simp) (by simp) (by simp)
 | slice=>exact plain hs (by simp) (by simp) (by simp)
 | emp=>exact plain hs (by simp) (by simp) (by simp)
 | nilMap=>exact plain hs (by simp) (by simp) (by simp)
 | map=>exact plain hs (by simp) (by simp) (by simp)
 | func=>exact plain hs (by simp) (by simp) (by simp)
 | nilFunc=>exact plain hs (by simp) (by simp) (by simp)
 | agg=>exact plain hs (by simp) (by simp) (by simp)
 | tuple=>exact plain hs (by simp) (by simp) (by simp)
end
end Go.X
namespace Go.X
open Go Go.RowKit
section
variable (P:Program) (W0:World)
def UV (E:Env) (h:Q0) (k:AV->FM) (p:QF) (r:Result Value):Prop :=
 ∃v w' E' h' av,r=.ok v w'/\Stp E h E' h'/\Rel P W0 E' h' w'/\VR E' av v/\(k av).sat p h'
end
section
variable {P:Program} {W0:World} {E:Env} {h:Q0} {p:QF} {w:World} {k:AV->FM}
theorem UV.of (r:Rel P W0 E h w) {x:Result Value} (hx:∃v av,x=.ok v w/\VR E av v/\(k av).sat p h):UV P W0 E h k p x:=by obtain⟨v,av,h1,h2,h3⟩:=hx;exact⟨v,w,E,h,av,h1,.refl _ _,r,h2,h3⟩
theorem UV.pure (r:Rel P W0 E h w) {v:Value} {av:AV} (hv:VR E av v) (hk:(k av).sat p h):UV P W0 E h k p (.ok v w):=.of r ⟨v,av,rfl,hv,hk⟩
theorem jAg {lit:Bool} {op:BinOp} {t:TypeId} {a b:AV} (hs:(eqBin P lit op t a b k).sat p h) :
  (op=.eql/\(xEql P lit t a b λr=>je r k).sat p h)∨(op=.neq/\(xEql P lit t a b λr=>je r.not k).sat p h):=by
 cases op <;> first | exact False.elim hs | exact .inl ⟨rfl,hs⟩ | exact .inr ⟨rfl,hs⟩
theorem binOp_eql {t:TypeId} {u v:Value} (h1:∀k n,u≠.int k n) (h2:∀s,u≠.string s) (h3:∀k b,u≠.float k b) (h4:∀k a b,u≠.complex k a b) :
  binOp .eql t u v=(do pure (.bool (<- Op.equal t u v))):=by
 cases u <;> first | rfl | exact absurd rfl (h1 _ _) | exact absurd rfl (h2 _) | exact absurd rfl (h3 _ _) | exact absurd rfl (h4 _ _ _)
theorem binOp_neq {t:TypeId} {u v:Value} (h1:∀k n,u≠.int k n) (h2:∀s,u≠.string s) (h3:∀k b,u≠.float k b) (h4:∀k a b,u≠.complex k a b) :
  binOp .neq t u v=(do pure (.bool (!(<- Op.equal t u v)))):=by
 cases u <;> first | rfl | exact absurd rfl (h1 _ _) | exact absurd rfl (h2 _) | exact absurd rfl (h3 _ _) | exact absurd rfl (h4 _ _ _)
theorem jDu (r:Rel P W0 E h w) {op:BinOp} {t:TypeId} {x y:Operand} {a b:AV} {u v:Value} (ha:VR E a u) (hb:VR E b v)
  (hs:(qTo P (cnd (isLit x) true (isLit y)) op t a b k).sat p h) :
  UV P W0 E h k p ((do eqGuard op t x y u v;binOp op t u v:Sem Value).run P w):=by
 have other:(eqBin P (cnd (isLit x) true (isLit y)) op t a b k).sat p h->(∀k n,u≠.int k n)->(∀s,u≠.string s)->(∀k b,u≠.float k b)->(∀k a b,u≠.complex k a b) ->
   UV P W0 E h k p ((do eqGuard op t x y u v;binOp op t u v:Sem Value).run P w):=by
  intro hs h1 h2 h3 h4;rcases jAg hs with ⟨rfl,hs⟩ | ⟨rfl,hs⟩
  .obtain⟨hg,z,hz,hk⟩:=qT2 (op:=.eql) (x:=x) (y:=y) r ha hb hs;have hk:(je z k).sat p h:=hk;rw[QV] at hk;exact .of r ⟨.bool z,_,by simp[hg,binOp_eql h1 h2 h3 h4,hz],.bool _,hk⟩
  .obtain⟨hg,z,hz,hk⟩:=qT2 (op:=.neq) (x:=x) (y:=y) r ha hb hs;have hk:(je (!z) k).sat p h:=hk;rw[QV] at hk;exact .of r ⟨.bool (!z),_,by simp[hg,binOp_neq h1 h2 h3 h4,hz],.bool _,hk⟩
 cases ha with
 | int q n =>
  cases hb with
  | int q2 m =>
   obtain⟨z,av,h1,h2,h3⟩:=qZ4 (E:=E) t hs w;have hg:(eqGuard op t x y (.int q n) (.int q2 m)).run P w=.ok () w:=jM (by simp) (by simp) w;exact .of r ⟨z,av,by rw[Sem.run_bind,hg,Result.andThen_ok];exact h1,h2,h3⟩
  | _=>exact False.elim hs
 | str s a he =>
  subst he;cases hb with
  | str s2 b he2 =>
   subst he2;obtain⟨z,av,h1,h2,h3⟩:=qYk (E:=E) t hs w;have hg:(eqGuard op t x y (.string a) (.string b)).run P w=.ok () w:=jM (by simp) (by simp) w;exact .of r ⟨z,av,by rw[Sem.run_bind,hg,Result.andThen_ok];exact h1,h2,h3⟩
  | _=>exact False.elim hs
 | junk=>rcases jAg hs with ⟨rfl,hs⟩ | ⟨rfl,hs⟩ <;> exact False.elim hs
 | _=>exact other hs (by simp) (by simp) (by simp) (by simp)
theorem toU_ones (q:IntKind) (n:Int):(BitVec.ofInt q.bits (if q.signed=true then -1 else q.max) ^^^ BitVec.ofInt q.bits n).toNat=Nat.xor (Nat.sub (Nat.pow 2 (qh q)) 1) (toU q n):=by
 rw[BitVec.toNat_xor,qKz,qFn]
 have:(BitVec.ofInt q.bits (if q.signed=true then -1 else q.max)).toNat=2 ^ q.bits-1:=by cases q <;> rfl
 rw[this];rfl
theorem jF5 (r:Rel P W0 E h w) {op:UnOp} {t:TypeId} {x:Operand} {c:OC} {ρ:Operand->Value} {kd:qk->FM} {kp:QD->FM} (hev:∀x,VR E (c.ev x) (ρ x)) (hs:(oUnOp op t x c k kd kp).sat p h) :
  UV P W0 E h k p ((Op.unary op (ρ x)).run P w):=by
 have hx:=hev x;unfold oUnOp at hs;generalize c.ev x=a at hx hs;generalize ρ x=v at hx ⊢;cases op with
 | neg =>
  cases hx with
  | int q n =>
   have hs':(jr q (negI n) k).sat p h:=hs;rw[QZ,qR4] at hs';exact .of r ⟨_,_,by simp[Op.unary,Op.intArith],.int _ _,hs'⟩
  | _=>exact False.elim hs
 | xor =>
  cases hx with
  | int q n =>
   have hs':(jr q (.ofNat (Nat.xor (Nat.sub (Nat.pow 2 (qh q)) 1) (toU q n))) k).sat p h:=hs;rw[QZ,<- toU_ones] at hs';exact .of r ⟨_,_,rfl,.int _ _,hs'⟩
  | _=>exact False.elim hs
 | not =>
  cases hx with
  | bool b =>
   have hs':(je b.not k).sat p h:=hs;rw[QV] at hs';exact .of r ⟨_,_,rfl,.bool _,hs'⟩
  | _=>exact False.elim hs
 | plus=>exact False.elim hs
theorem Jl {l:List Value} {s:List Nat} (h:VRs E (ofBytes s) l):l=s.map λb=>.int .u8 (Int.ofNat b):=by
 induction s generalizing l with
 | nil=>cases h;rfl
 | cons x s ih =>
  have h':VRs E (.int .u8 (Int.ofNat x)::ofBytes s) l:=h;cases h' with
  | cons _ v _ m hv t=>cases hv;rw[ih t];rfl
theorem qS1 (s:List Nat):VRs E (ofBytes s) (s.map λb=>.int .u8 (Int.ofNat b)):=by
 induction s with
 | nil=>exact .nil
 | cons x s ih=>exact .cons _ _ _ _ (.int _ _) ih
theorem foldl_push (s:List Nat) (hs:∀x,x∈s->x<256):∀b:ByteArray,bs ((s.map Int.ofNat).foldl (λr n=>r.push (UInt8.ofNat n.toNat)) b)=bs b++s:=by
 induction s with
 | nil=>intro b;simp
 | cons x s ih =>
  intro b;simp only[List.map_cons,List.foldl_cons];rw[ih (λy hy=>hs y (zA0 _ hy))]
  have:bs (b.push (UInt8.ofNat (Int.ofNat x).toNat))=bs b++[x]:=by have hx:=hs x zB0;simp[bs,ByteArray.push,Nat.mod_eq_of_lt hx]
  rw[this];simp
theorem jG5 (r:Rel P W0 E h w) {i b:Nat} {c:List AV} (a:ReadAt E w i b c) {o len cap:Nat} (hl:len<=(c.drop o).length) {s:List Nat} (he:(c.drop o).take len=ofBytes s) (hb:∀x,x∈s->x<256) :
  ∃v,(Conv.bytesToString (.slice (some ⟨b,E.base i+o,none⟩) len cap)).run P w=.ok (.string v) w/\bs v=s:=by
 obtain⟨vs,_,h2,h3⟩:=a.load (P:=P) o len hl;rw[he] at h2;have h4:=Jl h2;rw[h4,show (s.map λb=>Value.int .u8 (Int.ofNat b))=(s.map Int.ofNat).map (Value.int .u8) by simp] at h3;refine⟨_,run_bytesToString w _ len cap _ h3,?_⟩;rw[foldl_push s hb];rfl
theorem jAm {t e:TypeId} (hu:P.underlying t=some (.slice e)) (he:P.underlying e=some (.int .u8)) (a:Addr) (l c:Nat) (w:World) :
  (convert t t (.slice (some a) l c)).run P w=((markStringish a).run P w).andThen λ_ w'=>.ok (.slice (some a) l c) w':=by
 simp[convert,Q9 hu,Q9 he]
theorem qNd {b x:Nat} {cs:Array Value} {e:TypeId} {fr:Nat × Nat} {mk:Bool} (hw:w.heap[b]?=some (.cells cs e fr)) (hf:FrOk mk fr cs.size) :
  ∃fr',(markStringish ⟨b,x,none⟩).run P w=.ok () (w.putObj b (.cells cs e fr'))/\FrOk true fr' cs.size:=by
 have h2:w.shape? b=some (e,cs.size):=by simp[World.shape?,hw]
 refine⟨if fr.1 == fr.2 then (cs.size,cs.size+1) else (min fr.1 cs.size,max fr.2 (cs.size+1)),?_,?_⟩
 .simp only[markStringish,Sem.run_bind,run_shape,h2,Result.andThen_ok,run_freeze];congr 1;simp only[World.freeze,World.putObj];rw[if_neg (by omega)];congr 1;obtain⟨hlt,he⟩:=Array.getElem?_eq_some_iff.1 hw;apply Array.ext
  .simp
  .intro j h1 h2;rw[Array.getElem_setIfInBounds (by simpa using h1),Array.getElem_modify];by_cases ej:b=j
   .subst ej;simp only[if_true,he]
   .simp[ej]
 .by_cases h:(fr.1 == fr.2)=true
  .rw[if_pos h];exact .inr ⟨rfl,zL0 _⟩
  .rw[if_neg h];have hne:fr.1≠fr.2:=by simpa using h
   rcases hf with hf | ⟨_,hf⟩
   .exact absurd hf hne
   .exact .inr ⟨rfl,by simp only;omega⟩
end
end Go.X
namespace Go.X
open Go Go.RowKit
section
variable {P:Program} {W0:World} {E:Env} {h:Q0} {p:QF} {w:World} {k:AV->FM} {c:OC} {ρ:Operand->Value} {kd:qk->FM} {kp:QD->FM}
theorem VR.cells {a:AV} {v:Value} (ha:VR E a v) {kk:List AV->FM} (hs:(a.cellsK kk).sat p h):∃cs,VRs E cs v.cells.toList/\(kk cs).sat p h:=by
 cases ha with
 | junk=>exact False.elim hs
 | agg cs xs hc=>exact⟨cs,hc,hs⟩
 | bool b=>exact⟨_,.cons _ _ _ _ (.bool b) .nil,hs⟩
 | int q n=>exact⟨_,.cons _ _ _ _ (.int q n) .nil,hs⟩
 | str s b h=>exact⟨_,.cons _ _ _ _ (.str s b h) .nil,hs⟩
 | nilp=>exact⟨_,.cons _ _ _ _ .nilp .nil,hs⟩
 | ptr i o b x h hx=>exact⟨_,.cons _ _ _ _ (.ptr i o b x h hx) .nil,hs⟩
 | nils=>exact⟨_,.cons _ _ _ _ .nils .nil,hs⟩
 | slice i o l c e b x cc h hx hcc=>exact⟨_,.cons _ _ _ _ (.slice i o l c e b x cc h hx hcc) .nil,hs⟩
 | emp a c=>exact⟨_,.cons _ _ _ _ (.emp a c) .nil,hs⟩
 | nilMap=>exact⟨_,.cons _ _ _ _ .nilMap .nil,hs⟩
 | map i b h=>exact⟨_,.cons _ _ _ _ (.map i b h) .nil,hs⟩
 | func f g a c x y hf ha hc=>exact⟨_,.cons _ _ _ _ (.func f g a c x y hf ha hc) .nil,hs⟩
 | nilFunc=>exact⟨_,.cons _ _ _ _ .nilFunc .nil,hs⟩
 | iface t a v h=>exact⟨_,.cons _ _ _ _ (.iface t a v h) .nil,hs⟩
 | nilIface=>exact⟨_,.cons _ _ _ _ .nilIface .nil,hs⟩
 | tuple cs x h=>exact⟨_,.cons _ _ _ _ (.tuple cs x h) .nil,hs⟩
theorem qF5 (r:Rel P W0 E h w) (hn:h.fr h.next) {cs:List AV} {esz:Nat} {g mk:Bool} {vs:Array Value} {e:TypeId} {fr:Nat × Nat} (x:Nat) {c1 rest:List Value}
  (hvs:vs.toList=c1++rest) (hc:VRs E cs c1) (hrest:rest.length=cnd g (x*esz) 0) (hfr:FrOk mk fr vs.size) :
  Rel P W0 (E.add h.next w.heap.size 0 x) (h.newO (.cells cs esz g mk)) (w.alloc (.cells vs e fr))/\Stp E h (E.add h.next w.heap.size 0 x) (h.newO (.cells cs esz g mk)):=by
 have hf:=r.free h.next (zL0 _) hn
 refine⟨r.new hn 0 x (.cells _ _ _ _ _ _ _ [] c1 rest (by simpa using hvs) ?_ (hc.mono (Env.add_le hf _ _ _)) ?_ hfr),.add hf hn _ _ _⟩
 .rw[Env.add_base];rfl
 .rw[Env.add_ext];exact hrest
theorem qOl (r:Rel P W0 E h w) {a:AV} {v:Value} (ha:VR E a v) (hs:(newVar a k).sat p h) (e:TypeId) :
  UV P W0 E h k p ((do pure (.pointer (some (<- Go.newVar e v))):Sem Value).run P w):=by
 obtain⟨cs,hc,hn,hs⟩:=ha.cells hs;obtain⟨r2,s2⟩:=qF5 (e:=e) (fr:=(0,0)) (esz:=0) (g:=false) (mk:=false) r hn 0 (vs:=v.cells) (rest:=[]) (List.append_nil _).symm hc rfl (.inl rfl);exact⟨_,_,_,_,.ptr h.next 0,by simp[Go.newVar,newRow];rfl,s2,r2,.ptr _ _ _ _ (Env.add_blk _ _ _ _ _) (by rw[Env.add_base]),hs⟩
theorem qZm (r:Rel P W0 E h w) {e:TypeId} (hs:(oAlloc P e c k kd kp).sat p h):UV P W0 E h k p ((Instr.alloc e true (.tuple #[])).run P w):=by
 obtain⟨z,hz,hs⟩:=Qe hs;obtain⟨i,v,hi,hv,rfl⟩:=qEr hz
 have:=qOl r (Jp E v) hs e
 simpa [Instr.alloc,qGo hi hv] using this
theorem jGn (r:Rel P W0 E h w) (hev:∀x,VR E (c.ev x) (ρ x)) {e:TypeId} {x:Operand} (hs:(oBox e x c k kd kp).sat p h):UV P W0 E h k p ((Instr.box e (ρ x)).run P w) :=
 qOl r (hev x) hs e
theorem qP8 (off:Nat):∀(l:List Value) (i:Nat) (cs:Array Value),(l.zipIdx i).foldl (λcs (c,j)=>cs.setIfInBounds (off+j) c) cs=over cs (off+i) l
 | [],i,cs=>rfl
 | v::l,i,cs=>by simp only[List.zipIdx_cons,List.foldl_cons,over];rw[qP8 off l (i+1)];rfl
theorem qNr (hev:∀x,VR E (c.ev x) (ρ x)) {place:Nat->Option (Nat × Nat)}:∀(parts:List (Nat × Operand)) (cs:List AV) (zs:Array Value) (kk:List AV->FM),VRs E cs zs.toList->(jDb c place parts cs kk).sat p h ->
  ∃cells cs',Instr.fill place zs (parts.map λ(i,x)=>(i,ρ x))=some cells/\VRs E cs' cells.toList/\(kk cs').sat p h
 | [],cs,zs,kk,hc,hs=>⟨zs,cs,rfl,hc,hs⟩
 | (i,x)::parts,cs,zs,kk,hc,hs=>by
  obtain⟨os,ho,hs⟩:=Qe hs;obtain⟨off,size⟩:=os;have hs':(qU3 size (c.ev x) λps=>putK ps off cs λcs'=>jDb c place parts cs' kk).sat p h:=hs;obtain⟨ps,hps,hs⟩:=(hev x).cells hs';rw[qKa] at hs;obtain⟨hsz,hs⟩:=Qi hs;have hsz:=beq_iff.1 hsz;obtain⟨hle,hs⟩:=qPv ps off cs _ hs;have hl1:=hps.length;have hl2:=hc.length;simp only[Array.length_toList] at hl1 hl2;have hov:off+(ρ x).cells.toList.length<=zs.size:=by simp only[Array.length_toList];omega
  have hc2:VRs E (cs.take off++(ps++cs.drop (off+ps.length))) (over zs off (ρ x).cells.toList).toList:=by rw[qGr _ _ _ hov,hps.length];exact (hc.take off).append (hps.append (hc.drop _))
  obtain⟨cells,cs',h1,h2,h3⟩:=qNr hev parts _ _ _ hc2 hs;refine⟨cells,cs',?_,h2,h3⟩;simp only[List.map_cons,Instr.fill,ho];rw[if_neg (by simp;omega)]
  have:(ρ x).cells.zipIdx.foldl (λcs (c,j)=>cs.setIfInBounds (off+j) c) zs=over zs off (ρ x).cells.toList:=by rw[<- Array.foldl_toList,Array.toList_zipIdx];exact qP8 off _ 0 zs
  rw[this];exact h1
theorem qOb:∀(l:List Field) (s:List (Nat × Nat)),qNb P l=some s->l.mapM (λf=>(P.info? f.type).map λi=>(f.offset,i.size))=some s
 | [],s,hs=>by cases hs;rfl
 | f::l,s,hs=>by
  unfold qNb at hs;cases h1:szO P f.type with
  | none=>rw[h1] at hs;cases hs
  | some n =>
   cases h2:qNb P l with
   | none=>rw[h1,h2] at hs;cases hs
   | some r =>rw[h1,h2] at hs;cases hs;obtain⟨i,hi,hn⟩:=qGm h1;simp[List.mapM_cons,hi,hn,qOb l r h2]
theorem qZk (r:Rel P W0 E h w) (hev:∀x,VR E (c.ev x) (ρ x)) {t:TypeId} {parts:Array (Nat × Operand)} (hs:(qZl P t parts c k kd kp).sat p h) :
  UV P W0 E h k p ((Instr.build t (parts.map λ(i,x)=>(i,ρ x))).run P w):=by
 obtain⟨z,hz,hs⟩:=Qe hs;obtain⟨pl,hpl,hs⟩:=Qe hs;obtain⟨i,v,hi,hv,rfl⟩:=qEr hz;obtain⟨zs,hzs,hs⟩:=(Jp E v).cells hs;obtain⟨cells,cs',h1,h2,h3⟩:=qNr hev parts.toList zs v.cells _ hzs hs;refine .of r ⟨.agg cells,_,run_build w t _ cells ?_,.agg _ _ h2,h3⟩;unfold placeOf at hpl;have e:(parts.map λx:Nat × Operand=>(x.1,ρ x.2)).toList=parts.toList.map λx=>(x.1,ρ x.2):=by simp
 rw[e];split at hpl
 .rename_i fs hu;cases hl:qNb P fs.toList with
  | none=>rw[hl] at hpl;cases hpl
  | some l =>
   rw[hl] at hpl;cases hpl
   have:=qOb _ _ hl
   simp only[Program.built,hi,hu,hv,this];rw[<- h1];congr 1;funext j;simp
 .rename_i n e hu;cases hl:szO P e with
  | none=>rw[hl] at hpl;cases hpl
  | some l =>rw[hl] at hpl;cases hpl;obtain⟨ie,hie,hsz⟩:=qGm hl;simp only[Program.built,hi,hu,hv,hie,hsz];exact h1
 .cases hpl
theorem rep_get {α:Type} (l:List α):∀(n i:Nat),i<n*l.length->(List.replicate n l).flatten[i]?=l[i % l.length]?
 | 0,i,hi=>by omega
 | n+1,i,hi=>by
  rw[List.replicate_succ,List.flatten_cons];by_cases h:i<l.length
  .rw[List.getElem?_append_left h,Nat.mod_eq_of_lt h]
  .rw[List.getElem?_append_right (by omega),rep_get l n (i-l.length) (by rw[Nat.succ_mul] at hi;omega)];congr 1;rw[Nat.mod_eq_sub_mod (by omega:i >= l.length)]
theorem jCy (zs:Array Value) (n:Nat):((Array.range (n*zs.size)).map (zs[· % zs.size]!)).toList=(List.replicate n zs.toList).flatten:=by
 apply List.ext_getElem?;intro i;by_cases hi:i<n*zs.size
 .have hz:0<zs.size:=by
   rcases Nat.eq_zero_or_pos zs.size with h | h
   .rw[h] at hi;omega
   .exact h
  have hm:i % zs.size<zs.size:=Nat.mod_lt _ hz;rw[rep_get _ _ _ (by simpa using hi)];simp[hi,hm]
 .rw[List.getElem?_eq_none (by simp;omega),List.getElem?_eq_none (by simp;omega)]
theorem VRs.rep {a:List AV} {v:List Value} (hv:VRs E a v):∀n,VRs E (List.replicate n a).flatten (List.replicate n v).flatten
 | 0=>.nil
 | n+1=>by rw[List.replicate_succ,List.replicate_succ,List.flatten_cons,List.flatten_cons];exact hv.append (hv.rep n)
theorem qIy {e:TypeId} {n:Nat} {kk:List AV->Nat->FM} (hs:(rowK P e n kk).sat p h) :
  ∃i v cs,P.info? e=some i/\i.zero=some v/\v.cells.size=i.size/\VRs E cs ((Array.range (n*i.size)).map (v.cells[· % v.cells.size]!)).toList/\(kk cs i.size).sat p h:=by
 obtain⟨sz,hsz,hs⟩:=Qe hs;obtain⟨z,hz,hs⟩:=Qe hs;obtain⟨i,v,hi,hv,rfl⟩:=qEr hz;obtain⟨i',hi',hsz⟩:=qGm hsz;rw[hi] at hi';cases hi';subst hsz;obtain⟨zs,hzs,hs⟩:=(Jp E v).cells hs;rw[qKa] at hs;obtain⟨hl,hs⟩:=Qi hs;have hl:=beq_iff.1 hl;have hl2:=hzs.length;simp only[Array.length_toList] at hl2;rw[jB2] at hs;refine⟨i,v,_,hi,hv,by omega,?_,hs⟩;rw[show i.size=v.cells.size by omega,jCy];exact hzs.rep n
theorem qHr {e:TypeId} {n:Nat} {m:FM} (hs:(qLb P e n m).sat p h):∃i,P.info? e=some i/\n*i.bytes<=1099511627776/\n<=1099511627776/\m.sat p h:=by obtain⟨b,hb,hs⟩:=Qe hs;obtain⟨i,hi,rfl⟩:=jDp hb;obtain⟨h1,hs2⟩:=Qi hs;obtain⟨h1,h2⟩:=Qk.1 h1;exact⟨i,hi,qs.1 h1,qs.1 h2,hs2⟩
theorem qNn (r:Rel P W0 E h w) (hev:∀x,VR E (c.ev x) (ρ x)) {t:TypeId} {len:Nat} {parts:Array (Nat × Operand)} (hs:(qJ3 P t len parts c k kd kp).sat p h) :
  UV P W0 E h k p ((Instr.buildSlice t len (parts.map λ(i,x)=>(i,ρ x))).run P w):=by
 obtain⟨e,he,hs⟩:=Qe hs;obtain⟨_,_,_,_,hs⟩:=qHr hs;obtain⟨i,v,cs0,hi,hv,hvs,hcs,hs⟩:=qIy (E:=E) hs;obtain⟨h24,hs⟩:=Qi hs;have h24:len*i.size<=16777216:=qs.1 h24;obtain⟨cells,cs',h1,h2,hn,h3⟩:=qNr hev parts.toList cs0 _ _ hcs hs;obtain⟨r2,s2⟩:=qF5 (e:=e) (fr:=(0,0)) (esz:=i.size) (g:=false) (mk:=false) r hn 0 (vs:=cells) (rest:=[]) (List.append_nil _).symm h2 rfl (.inl rfl);have hu:=jF he;have ep:(parts.map λx:Nat × Operand=>(x.1,ρ x.2)).toList=parts.toList.map λx=>(x.1,ρ x.2):=by simp
 refine⟨_,_,_,_,.slice h.next 0 len len false,?_,s2,r2,.slice _ _ _ _ _ w.heap.size 0 len (Env.add_blk _ _ _ _ _) (by rw[Env.add_base]) rfl,h3⟩;by_cases hz:len*i.size=0
 .have e0:∀f:Nat->Value,(Array.range (len*i.size)).map f=#[]:=λf=>by rw[hz];simp
  have h1':Instr.fill (λj=>some (j*i.size,i.size)) #[] (parts.toList.map λx=>(x.1,ρ x.2))=some cells:=by rw[e0] at h1;exact h1
  simp only[Instr.buildSlice,Sem.run_bind,Q9 hu,Result.andThen_ok,sizeOf,run_typeInfo hi,Sem.run_pure,if_pos hz];rw[if_neg (by omega)];simp only[Sem.run_pure,Sem.run_bind,Result.andThen_ok,ep,e0,h1',newRow];rfl
 .exact run_buildSlice w t e len _ cells i v hu hi hv (by omega) hz (by rw[ep];exact h1)
theorem qPj (r:Rel P W0 E h w) (hev:∀x,VR E (c.ev x) (ρ x)) {t:TypeId} {l m:Operand} (hs:(qNm P t l m c k kd kp).sat p h) :
  UV P W0 E h k p ((Instr.makeSlice t (ρ l) (ρ m)).run P w):=by
 obtain⟨e,he,hs⟩:=Qe hs;have hl:=hev l;have hm:=hev m;generalize c.ev l=al at hl hs;generalize c.ev m=am at hm hs;generalize ρ l=vl at hl ⊢;generalize ρ m=vm at hm ⊢;cases hl with
 | int q n =>
  cases n with
  | negSucc n=>exact False.elim hs
  | ofNat n =>
   cases hm with
   | int q2 m =>
    cases m with
    | negSucc m=>exact False.elim hs
    | ofNat m =>
     have hs':(cnd (Nat.ble n m) (qLb P e m (rowK P e m λcs sz=>.new (.cells cs sz false false) λi=>Qc n λn'=>Qc m λp'=>k (.slice i Nat.zero n' p' false))) (.fail 116)).sat p h:=hs;obtain⟨hle,hs⟩:=Qi hs';have hle:=qs.1 hle;obtain⟨i0,hi0,hb1,hb2,hs⟩:=qHr hs;obtain⟨i,v,cs0,hi,hv,hvs,hcs,hn,hs⟩:=qIy (E:=E) hs;rw[hi0] at hi;cases hi;have hs:(Qc n λn'=>Qc m λp'=>k (.slice h.next Nat.zero n' p' false)).sat p (h.newO (.cells cs0 i0.size false false)):=hs;rw[Qb,Qb] at hs;obtain⟨r2,s2⟩:=qF5 (e:=e) (fr:=(0,0)) (esz:=i0.size) (g:=false) (mk:=false) r hn 0 (vs:=(Array.range (m*i0.size)).map (v.cells[· % v.cells.size]!)) (rest:=[]) (List.append_nil _).symm hcs rfl (.inl rfl);refine⟨_,_,_,_,.slice h.next 0 n m false,run_make w t e i0 v (jF he) hi0 hv q q2 (Int.ofNat n) (Int.ofNat m) (by simp) (by simpa using hle) ?_ ?_,s2,r2,?_,hs⟩
     .have h3:(i0.bytes:Int)*Int.ofNat m=((m*i0.bytes:Nat):Int):=by rw[Int.natCast_mul,Int.mul_comm];rfl
      rw[h3];omega
     .simp only[Int.ofNat_eq_natCast];omega
     .exact .slice _ _ _ _ _ w.heap.size 0 _ (Env.add_blk _ _ _ _ _) (by rw[Env.add_base]) rfl
   | _=>exact False.elim hs
 | _=>exact False.elim hs
end
end Go.X
namespace Go.X
open Go Go.RowKit
section
variable {P:Program} {W0:World} {E:Env} {h:Q0} {p:QF} {w:World} {k:AV->FM} {c:OC} {ρ:Operand->Value} {kd:qk->FM} {kp:QD->FM}
theorem jG1 {src dst:TypeId} {q:IntKind} (hc:cvOf P src dst=.toInt q):(∃k,P.underlying src=some (.int k))/\P.underlying dst=some (.int q):=by
 unfold cvOf at hc
 split at hc <;> first
  | (rename_i h1 h2;cases hc;exact⟨⟨_,h1⟩,h2⟩)
  | (split at hc <;> first | cases hc | (split at hc <;> cases hc))
  | cases hc
theorem qXj {src dst:TypeId} (hc:cvOf P src dst=.toString):P.underlying src=some .string/\P.underlying dst=some .string:=by
 unfold cvOf at hc
 split at hc <;> first
  | (rename_i h1 h2;cases hc;done)
  | (rename_i h1 h2;exact⟨h1,h2⟩)
  | (split at hc <;> first | cases hc | (split at hc <;> cases hc))
  | cases hc
theorem jG2 {src dst:TypeId} (hc:cvOf P src dst=.bytes):∃e,P.underlying src=some (.slice e)/\P.underlying dst=some .string/\P.underlying e=some (.int .u8):=by
 unfold cvOf at hc
 split at hc <;> first
  | (cases hc;done)
  | (rename_i h1 h2;split at hc <;> first | (cases hc;done) | (rename_i h3;exact⟨_,h1,h2,h3⟩) | (split at hc <;> cases hc))
theorem jAj {src dst e:TypeId} (hc:cvOf P src dst=.toBytes e):P.underlying src=some .string/\P.underlying dst=some (.slice e)/\P.underlying e=some (.int .u8):=by
 unfold cvOf at hc
 split at hc <;> first
  | (cases hc;done)
  | (rename_i h1 h2;split at hc <;> first | (rename_i h3;cases hc;exact⟨h1,h2,h3⟩) | (cases hc;done) | (split at hc <;> cases hc))
theorem qXi {src dst e:TypeId} (hc:cvOf P src dst=.toUnsafe e):P.underlying src=some (.pointer e)/\P.underlying dst=some .unsafePointer:=by
 unfold cvOf at hc
 split at hc <;> first
  | (rename_i h1 h2;cases hc;exact⟨h1,h2⟩)
  | (split at hc <;> first | cases hc | (split at hc <;> cases hc))
  | cases hc
theorem cvOf_mark {src dst:TypeId} (hc:cvOf P src dst=.mark):∃e,src=dst/\P.underlying dst=some (.slice e)/\P.underlying e=some (.int .u8):=by
 unfold cvOf at hc
 split at hc <;> first
  | (cases hc;done)
  | (rename_i h1 h2;split at hc <;> first | (cases hc;done) | (rename_i h3;split at hc <;> first | (cases hc;done) | (rename_i h4;exact⟨_,h3,h2,h4⟩)))
def qG5 (s:ByteArray) (x:Nat):Array Value:=(s.data.map λb:UInt8=>Value.int .u8 b.toNat)++Array.replicate x (.int .u8 0)
theorem qNc {e:TypeId} {s:ByteArray} (w:World):∃(x:Nat) (fr:Nat × Nat) (w':World),(Conv.stringToBytes e s).run P w=.ok (.slice (some ⟨w.heap.size,0,none⟩) s.size (s.size+x)) (w'.alloc (.cells (qG5 s x) e fr)) /\
  w'.heap=w.heap/\w'.tape=w.tape/\w'.os=w.os/\w'.output=w.output/\FrOk true fr (s.size+x):=by
 obtain⟨cap,hcap,hr⟩:∃cap,s.size<=cap/\(choose (.appendCap s.size 0 e)).run P w=.ok cap { w with drawn:=w.drawn+1 }:=by refine⟨_,?_,by simp[Question.forced];rfl⟩;simp[Question.cut]
 have hx:s.size+(cap-s.size)=cap:=by omega
 refine⟨cap-s.size,(cap,cap+1),{ w with drawn:=w.drawn+1 },?_,rfl,rfl,rfl,rfl,.inr ⟨rfl,by simp only;omega⟩⟩;rw[hx];have hsz:(qG5 s (cap-s.size)).size=cap:=by simp only[qG5,Array.size_append,Array.size_map,Array.size_replicate];exact hx
 have hw:(({ w with drawn:=w.drawn+1 }:World).alloc (.cells (qG5 s (cap-s.size)) e)).heap[w.heap.size]?=some (.cells (qG5 s (cap-s.size)) e (0,0)):=World.alloc_heap_new _ _;have h2:(({ w with drawn:=w.drawn+1 }:World).alloc (.cells (qG5 s (cap-s.size)) e)).shape? w.heap.size=some (e,(qG5 s (cap-s.size)).size):=by unfold World.shape?;rw[hw]
 simp only[Conv.stringToBytes,Sem.run_bind,hr,Result.andThen_ok,newRow,run_newObj_alloc,Sem.run_pure,markStringish,run_shape];have e0:Conv.stringToBytes e s=Conv.stringToBytes e s:=rfl;rw[show ((s.data.map λb:UInt8=>Value.int .u8 b.toNat)++Array.replicate (cap-s.size) (.int .u8 0):Array Value)=qG5 s (cap-s.size) from rfl,h2];simp only[run_freeze,Result.andThen_ok];congr 1;simp only[World.freeze];rw[if_neg (by omega)];simp only[World.alloc];congr 1;apply Array.ext
 .simp
 .intro j h1 h2;rw[Array.getElem_modify];by_cases ej:w.heap.size=j
  .subst ej;simp[hsz]
  .rw[if_neg ej];rw[Array.getElem_push,Array.getElem_push]
   have:j<w.heap.size:=by simp at h1;omega
   simp[this]
theorem qXk (r:Rel P W0 E h w) {src dst:TypeId} {a:AV} {v:Value} (ha:VR E a v) (hs:(jg P src dst a k).sat p h):UV P W0 E h k p ((convert src dst v).run P w):=by
 unfold jg at hs;cases hc:cvOf P src dst with
 | toInt q =>
  rw[hc] at hs;obtain⟨⟨k0,h1⟩,h2⟩:=jG1 hc;cases ha with
  | int q2 n =>
   have hs':(jr q n k).sat p h:=hs;rw[QZ] at hs';exact .of r ⟨_,_,by simp[convert,Q9 h1,Q9 h2,Conv.intToInt],.int _ _,hs'⟩
  | _=>exact False.elim hs
 | toString =>
  rw[hc] at hs;obtain⟨h1,h2⟩:=qXj hc;cases ha with
  | str s b he=>exact .of r ⟨_,_,by simp[convert,Q9 h1,Q9 h2],.str _ _ he,hs⟩
  | _=>exact False.elim hs
 | bytes =>
  rw[hc] at hs;obtain⟨e,h1,h2,h3⟩:=jG2 hc;have hconv:∀a l c,(convert src dst (.slice a l c)).run P w=(Conv.bytesToString (.slice a l c)).run P w:=λa l c=>by simp[convert,Q9 h1,Q9 h2,Q9 h3]
  have hs':(cvBytes a k).sat p h:=hs;cases ha with
  | nils=>exact .of r ⟨_,_,by rw[hconv];rfl,.str [] .empty rfl,hs'⟩
  | emp a c=>exact .of r ⟨_,_,by rw[hconv];simp[Conv.bytesToString,loadCells,loadCellsFrom],.str [] .empty rfl,hs'⟩
  | slice i o len cap ext b x c hi hx hcc =>
   subst hx;have hs2:(q9 i λc=>j3 len (jO o c) λl=>Ju l λs=>k (.str s)).sat p h:=hs';obtain⟨ao,hg,hs3⟩:=hs2;obtain⟨cc,ho,hs4⟩:=jT hs3;obtain⟨hl,hs5⟩:=jh hs4;rw[qq] at hl hs5;obtain⟨s,he,hb,hk⟩:=qF8 _ _ hs5;obtain⟨v,hv,hbs⟩:=jG5 (cap:=c) r (r.readAt hg ho hi) hl he hb;exact .of r ⟨_,_,by rw[hconv,hv],.str _ _ hbs,hk⟩
  | _=>exact False.elim hs'
 | toBytes e =>
  rw[hc] at hs;obtain⟨h1,h2,h3⟩:=jAj hc;cases ha with
  | str s b he =>
   subst he;have hs':(Jf (bs b) Nat.zero λn=>.new (.cells (ofBytes (bs b)) 1 true true) λi=>k (.slice i Nat.zero n n true)).sat p h:=hs;rw[qKa] at hs';obtain⟨hn,hs⟩:=hs';obtain⟨x,fr,w',hr,e1,e2,e3,e4,hfr⟩:=qNc (P:=P) (e:=e) (s:=b) w;have hconv:(convert src dst (.string b)).run P w=(Conv.stringToBytes e b).run P w:=by simp[convert,Q9 h1,Q9 h2,Q9 h3]
   have hsz:(qG5 b x).size=b.size+x:=by simp only[qG5,Array.size_append,Array.size_map,Array.size_replicate];rfl
   obtain⟨r2,s2⟩:=qF5 (e:=e) (fr:=fr) (esz:=1) (g:=true) (mk:=true) (cs:=ofBytes (bs b)) (r.same e1 e2 e3 e4) hn x (vs:=qG5 b x)
    (c1:=(bs b).map λb=>.int .u8 (Int.ofNat b)) (rest:=List.replicate x (.int .u8 0)) (by simp[bs,qG5]) (qS1 _) (by simp[cnd]) (by rw[hsz];exact hfr)
   rw[jm] at hs;rw[e1] at r2 s2;refine⟨_,_,_,_,_,by rw[hconv];exact hr,s2,r2,?_,hs⟩;exact .slice _ _ _ _ _ w.heap.size 0 _ (Env.add_blk _ _ _ _ _) (by rw[Env.add_base]) (by rw[Env.add_ext];rfl)
  | _=>exact False.elim hs
 | toUnsafe e =>
  rw[hc] at hs;obtain⟨h1,h2⟩:=qXi hc;cases ha with
  | ptr i o b x hi hx =>
   subst hx;have hs':(Qj (szO P e) (.fail 67) λn=>cnd (Nat.beq n Nat.zero) (.fail 67) (q9 i λc=>Jf c Nat.zero λm=>cnd (ltb o m) (k (.ptr i o)) (.fail 67))).sat p h:=hs;obtain⟨n,hn,hs⟩:=Qe hs';rcases Qr hs with ⟨_,hs⟩ | ⟨hz,hs⟩
   .exact False.elim hs
   obtain⟨ao,hg,hs⟩:=hs;obtain⟨cc,ho,hs⟩:=jT hs;rw[qKa] at hs;obtain⟨hlt,hs⟩:=Qi hs;have hlt:=Qo.1 hlt;obtain⟨v,hv,_⟩:=(r.readAt hg ho hi).cell (n:=o) (x:=cc[o]) (by simp[hlt]);obtain⟨i0,hi0,hi1⟩:=qGm hn;have hn0:n≠0:=λe=>by rw[e] at hz;cases hz
   exact .of r ⟨_,_,run_convert_to_unsafe h1 h2 (by simp[hi0,hi1,hn0]) hv,.ptr _ _ _ _ hi rfl,hs⟩
  | _=>exact False.elim hs
 | mark =>
  rw[hc] at hs;obtain⟨e,rfl,h2,h3⟩:=cvOf_mark hc;cases ha with
  | slice i o len cap ext b x c hi hx hcc =>
   have hs':(onCells i λc e g _=>.set i (.cells c e g true) (k (.slice i o len cap ext))).sat p h:=hs;obtain⟨ao,hg,hs⟩:=hs';obtain⟨cc,esz,g,mk,rfl,hs⟩:=jt hs;obtain⟨hin,hs⟩:=hs;obtain⟨b',ob,hb',hw,hor⟩:=r.obj i _ hg;rw[hi] at hb';cases hb';cases hor with
   | cells _ _ _ _ cs el fr pre c1 rest hcs hp hcv hrest hfr =>
    obtain⟨fr',hm,hfr'⟩:=qNd (P:=P) (x:=x) hw hfr
    refine⟨_,_,E,h.put i (some (.cells cc esz g true)),.slice i o len cap ext,?_,⟨.refl _,λ_ _ h=>.inl h,rfl,zL0 _⟩,r.set hg hi (λho=>ho.elim (λh=>by cases h) (λ⟨c,h⟩=>by cases h)) (λes v h=>by cases h)
     (.cells _ _ _ _ cs el fr' pre c1 rest hcs hp hcv hrest hfr'),.slice _ _ _ _ _ _ _ _ hi hx hcc,hs⟩
    rw[jAm h2 h3,hm];rfl
  | _=>exact False.elim hs
 | no=>rw[hc] at hs;exact False.elim hs
theorem jCt (r:Rel P W0 E h w) (hev:∀x,VR E (c.ev x) (ρ x)) {t:TypeId} {x:Operand} (hs:(oLoad P t x c k kd kp).sat p h):UV P W0 E h k p ((Instr.loadAt t (ρ x)).run P w):=by
 have hx:=hev x;unfold oLoad at hs;generalize c.ev x=a at hx hs;generalize ρ x=v at hx ⊢;cases hx with
 | ptr i o b y hi hy =>
  subst hy;obtain⟨v,av,h1,h2,h3⟩:=qJ9 r hi (t:=t) hs;exact .of r ⟨v,av,by simp[Instr.loadAt,Instr.sureAddr,h1],h2,h3⟩
 | _=>exact False.elim hs
theorem qYl (r:Rel P W0 E h w) {t:TypeId} {i b o:Nat} (hb:E.blk i=some b) {a:AV} {v:Value} (ha:VR E a v) {m:FM} (hs:(qYm P t i o a m).sat p h) :
  ∃w' h',(storeVar t ⟨b,E.base i+o,none⟩ v).run P w=.ok () w'/\Rel P W0 E h' w'/\Stp E h E h'/\m.sat p h':=by
 obtain⟨n,hn,hs⟩:=Qe hs;obtain⟨cs,hc,hs⟩:=ha.cells hs;rw[qKa] at hs;obtain⟨hl,hs⟩:=Qi hs;have hl:=beq_iff.1 hl;have hl2:=hc.length;simp only[Array.length_toList] at hl2;obtain⟨w',h',h1,h2,h3,h4⟩:=qE6 r hb hc hs;refine⟨w',h',?_,h2,h3,h4⟩;have hne:¬(v.cells.size≠n):=by omega
 simp only[storeVar,Sem.run_bind,run_sizeOf hn,Result.andThen_ok];rw[if_neg hne];simp[h1]
theorem qZe (r:Rel P W0 E h w) (hev:∀x,VR E (c.ev x) (ρ x)) {t:TypeId} {x y:Operand} (hs:(jEo P t x y c k kd kp).sat p h) :
  ∃w' h',(Instr.storeAt t (ρ x) (ρ y)).run P w=.ok () w'/\Stp E h E h'/\Rel P W0 E h' w'/\(k (.tuple [])).sat p h':=by
 have hx:=hev x;unfold jEo at hs;generalize c.ev x=a at hx hs;generalize ρ x=v at hx ⊢;cases hx with
 | ptr i o b z hi hz =>
  subst hz;obtain⟨w',h',h1,h2,h3,h4⟩:=qYl r hi (hev y) (t:=t) hs;exact⟨w',h',by simp[Instr.storeAt,Instr.sureAddr,h1],h3,h2,h4⟩
 | _=>exact False.elim hs
theorem qSj {t:TypeId} {f:Nat} {fd:Field} (hf:qFo P t f=some fd):∃fs,P.underlying t=some (.struct fs)/\fs[f]?=some fd:=by
 unfold qFo at hf;split at hf
 .rename_i fs hu;exact⟨fs,hu,hf⟩
 .cases hf
theorem qPl (r:Rel P W0 E h w) (hev:∀x,VR E (c.ev x) (ρ x)) {t:TypeId} {x:Operand} {f:Nat} (hs:(qI2 P t x f c k kd kp).sat p h):UV P W0 E h k p ((Instr.fieldAt t (ρ x) f).run P w):=by
 have hx:=hev x;unfold qI2 at hs;generalize c.ev x=a at hx hs;generalize ρ x=v at hx ⊢;cases hx with
 | ptr i o b z hi hz =>
  subst hz;obtain⟨fd,hf,hs⟩:=Qe hs;obtain⟨n,hn,hs⟩:=Qe hs;rcases Qr hs with ⟨_,hs⟩ | ⟨hz,hs⟩
  .exact False.elim hs
  rw[Qb] at hs;obtain⟨fs,hu,hfs⟩:=qSj hf;have hn0:n≠0:=λe=>by rw[e] at hz;cases hz
  refine .of r ⟨.pointer (some ⟨b,E.base i+o+fd.offset,none⟩),_,?_,.ptr i (o+fd.offset) _ _ hi (by omega),hs⟩;simp[Instr.fieldAt,Q9 hu,hfs,Instr.sureAddr,fieldPlace,run_sizeOf hn,hn0,j6]
 | _=>exact False.elim hs
theorem qZi (r:Rel P W0 E h w) (hev:∀x,VR E (c.ev x) (ρ x)) {t:TypeId} {x:Operand} {f:Nat} (hs:(jEr P t x f c k kd kp).sat p h):UV P W0 E h k p ((Instr.field t (ρ x) f).run P w):=by
 have hx:=hev x;unfold jEr at hs;generalize c.ev x=a at hx hs;generalize ρ x=v at hx ⊢;cases hx with
 | agg cs xs hc =>
  obtain⟨fd,hf,hs⟩:=Qe hs;obtain⟨fs,hu,hfs⟩:=qSj hf;obtain⟨v,av,h1,h2,h3⟩:=qF3 hc hs w;exact .of r ⟨v,av,by simp[Instr.field,Q9 hu,hfs,asAgg,h1],h2,h3⟩
 | _=>exact False.elim hs
theorem qE7 {a:AV} {v:Value} (ha:VR E a v) {kk:Nat->FM} {n:Nat} (hs:(a.onNat kk (.fail n)).sat p h):∃q m,v=.int q (Int.ofNat m)/\(kk m).sat p h:=by
 cases ha with
 | int q m =>
  cases m with
  | ofNat m=>exact⟨q,m,rfl,hs⟩
  | negSucc m=>exact False.elim hs
 | _=>exact False.elim hs
theorem qUk {e:TypeId} {i b o len:Nat} (hi:E.blk i=some b) {a:AV} {v:Value} (ha:VR E a v) (hs:(ixAt P e i o len a k).sat p h) :
  ∃q m sz,v=.int q (Int.ofNat m)/\m<len/\(∀w,(sizeOf e).run P w=.ok sz w)/\VR E (.ptr i (o+m*sz)) (.pointer (some ⟨b,E.base i+o+m*sz,none⟩))/\(k (.ptr i (o+m*sz))).sat p h:=by
 obtain⟨q,m,rfl,hs⟩:=qE7 ha hs;obtain⟨hlt,hs⟩:=Qi hs;obtain⟨sz,hsz,hs⟩:=Qe hs;rw[Qb] at hs;exact⟨q,m,sz,rfl,Qo.1 hlt,run_sizeOf hsz,.ptr _ _ _ _ hi (by omega),hs⟩
theorem qPk (r:Rel P W0 E h w) (hev:∀x,VR E (c.ev x) (ρ x)) {t:TypeId} {x y:Operand} (hs:(qI1 P t x y c k kd kp).sat p h):UV P W0 E h k p ((Instr.indexAt t (ρ x) (ρ y)).run P w):=by
 have hx:=hev x;have hy:=hev y;unfold qI1 at hs;generalize c.ev x=a at hx hs;generalize ρ x=v at hx ⊢;generalize c.ev y=a2 at hy hs;generalize ρ y=v2 at hy ⊢;cases hx with
 | slice i o len cap ext b z cc hi hz hcc =>
  subst hz;obtain⟨e,he,hs⟩:=Qe hs;obtain⟨q,m,sz,rfl,hlt,hsz,hp,hk⟩:=qUk hi hy hs;refine .of r ⟨_,_,?_,hp,hk⟩;simp[Instr.indexAt,Q9 (jF he),asIntOf,hsz,j6,hlt]
 | ptr i o b z hi hz =>
  subst hz;obtain⟨ne,he,hs⟩:=Qe hs;obtain⟨q,m,sz,rfl,hlt,hsz,hp,hk⟩:=qUk hi hy hs;refine .of r ⟨_,_,?_,hp,hk⟩;simp[Instr.indexAt,Q9 (qF6 he),asIntOf,Instr.sureAddr,hsz,j6,hlt]
 | _=>exact False.elim hs
theorem qZh (r:Rel P W0 E h w) (hev:∀x,VR E (c.ev x) (ρ x)) {t:TypeId} {x y:Operand} (hs:(jEq P t x y c k kd kp).sat p h):UV P W0 E h k p ((Instr.index t (ρ x) (ρ y)).run P w):=by
 have hx:=hev x;have hy:=hev y;unfold jEq at hs;generalize c.ev x=a at hx hs;generalize ρ x=v at hx ⊢;generalize c.ev y=a2 at hy hs;generalize ρ y=v2 at hy ⊢;cases hx with
 | str s b he =>
  subst he;obtain⟨ht,hs⟩:=qe hs;obtain⟨q,m,rfl,hs⟩:=qE7 hy hs;obtain⟨u,hu,hs⟩:=Qe hs;rw[qW] at hu;have hm:m<b.size:=by
   have:=(List.getElem?_eq_some_iff.1 hu).1
   rwa [jm] at this
  have hu2:u=(b[m]'hm).toNat:=by
   simp[bs,zP0] at hu;obtain⟨x,hx,rfl⟩:=hu
   have:b.data[m]?=some (b[m]'hm):=by have h0:m<b.data.size:=hm;rw[Array.getElem?_eq_getElem h0];rfl
   rw[this] at hx;cases hx;rfl
  refine .of r ⟨.int .u8 (b[m]'hm).toNat,_,?_,.int _ _,by rw[hu2] at hs;exact hs⟩;simp[Instr.index,Q9 (tag3 ht),asIntOf,hm]
 | agg cs xs hc =>
  obtain⟨q,m,rfl,hs⟩:=qE7 hy hs;obtain⟨ne,he,hs⟩:=Qe hs;obtain⟨hlt,hs⟩:=Qi hs;obtain⟨sz,hsz,hs⟩:=Qe hs;obtain⟨v,av,h1,h2,h3⟩:=qF3 hc hs w;have hlt:=Qo.1 hlt;refine .of r ⟨v,av,?_,h2,h3⟩;have h1':(part ne.2 xs (m*sz)).run P w=.ok v w:=h1;simp[Instr.index,Q9 (qF6 he),asIntOf,hlt,run_sizeOf hsz,h1']
 | _=>exact False.elim hs
end
end Go.X
namespace Go.X
open Go Go.RowKit
section
variable {P:Program} {W0:World} {E:Env} {h:Q0} {p:QF} {w:World} {k:AV->FM} {c:OC} {ρ:Operand->Value} {kd:qk->FM} {kp:QD->FM}
theorem qJb (r:Rel P W0 E h w) (hev:∀x,VR E (c.ev x) (ρ x)) {t:TypeId} {x:Operand} (hs:(qFv P t x c k kd kp).sat p h):UV P W0 E h k p ((Instr.makeInterface t (ρ x)).run P w):=by
 rcases Qr hs with ⟨_,hs⟩ | ⟨h6,hs⟩
 .exact False.elim hs
 rcases Qr hs with ⟨_,hs⟩ | ⟨h0,hs⟩
 .exact False.elim hs
 have hne0:Qd P t≠0:=λe=>by rw[e] at h0;cases h0
 have hne6:Qd P t≠6:=λe=>by rw[e] at h6;cases h6
 obtain⟨d,hd⟩:=ja rfl hne0;refine .of r ⟨_,_,?_,.iface t _ _ (hev x),hs⟩;simp only[Instr.makeInterface,Sem.run_bind,Q9 hd,Result.andThen_ok];cases d <;> first | rfl | (exfalso;exact hne6 (jy rfl _ hd))
theorem qSk (hev:∀x,VR E (c.ev x) (ρ x)):∀l:List Operand,VRs E (c.evs l) (l.map ρ)
 | []=>.nil
 | x::l=>.cons _ _ _ _ (hev x) (qSk hev l)
theorem qRz (r:Rel P W0 E h w) (hev:∀x,VR E (c.ev x) (ρ x)) {f:Fn} {first captured:Array Operand} (hs:(qR0 f first captured c k kd kp).sat p h):UV P W0 E h k p ((Instr.makeFunc f (first.map ρ) (captured.map ρ)).run P w):=by
 refine .of r ⟨_,_,rfl,.func _ _ _ _ _ _ (.plain f) ?_ ?_,hs⟩
 .rw[Array.toList_map];exact qSk hev _
 .rw[Array.toList_map];exact qSk hev _
theorem qOm (r:Rel P W0 E h w) (hs:(FM.new (.map [] Nat.zero) λi=>k (.map i)).sat p h):UV P W0 E h k p ((do pure (.map (some (<- newObj (.map #[] 0)))):Sem Value).run P w):=by
 obtain⟨hn,hs⟩:=hs;have hf:=r.free h.next (zL0 _) hn
 refine⟨_,_,_,_,.map h.next,by simp;rfl,.add hf hn _ _ _,r.new hn 0 0 (.map _ _ _ _ ⟨rfl,⟨none,by simp⟩,.nil,by simp,by simp,by simp,by simp,by simp⟩),.map _ _ (Env.add_blk _ _ _ _ _),hs⟩
theorem qTf (r:Rel P W0 E h w) (hev:∀x,VR E (c.ev x) (ρ x)) {t:TypeId} {x:Option Operand} (hs:(qWr P t x c k kd kp).sat p h):UV P W0 E h k p ((Instr.makeMap t (x.map ρ)).run P w):=by
 cases x with
 | none =>
  have:=qOm r hs
  simpa [Instr.makeMap] using this
 | some x =>
  obtain⟨ke,hke,hs⟩:=Qe hs;have hx:=hev x;generalize c.ev x=a at hx hs;have hu:=qUy hke;simp only[Option.map_some];generalize ρ x=v at hx ⊢;cases hx with
  | int q n =>
   have:=qOm r hs
   simpa [Instr.makeMap,Q9 hu,asInt,asIntOf] using this
  | _=>exact False.elim hs
theorem qTg (r:Rel P W0 E h w) (hev:∀x,VR E (c.ev x) (ρ x)) {x:Operand} {ix:Nat} (hs:(qP0 x ix c k kd kp).sat p h):UV P W0 E h k p ((Instr.extract (ρ x) ix).run P w):=by
 have hx:=hev x;unfold qP0 at hs;generalize c.ev x=a at hx hs;generalize ρ x=v at hx ⊢;cases hx with
 | tuple cs xs hc =>
  obtain⟨y,hy,hs⟩:=Qe hs;rw[qW] at hy;obtain⟨v,hv,hr⟩:=hc.get _ _ hy;rw[Array.getElem?_toList] at hv;exact .of r ⟨v,y,by simp[Instr.extract,hv],hr,hs⟩
 | _=>exact False.elim hs
theorem qRy (r:Rel P W0 E h w) (hev:∀x,VR E (c.ev x) (ρ x)) {x:Operand} (hs:(qL4 x c k kd kp).sat p h) :
  ∃av,VR E av (ρ x)/\(k av).sat p h/\((∃a,ρ x=.pointer (some a))∨(∃t v,ρ x=.iface t v)∨(∃f a b,ρ x=.func f a b/\∀n,f≠.method n)):=by
 have hx:=hev x;unfold qL4 at hs;generalize c.ev x=a at hx hs;generalize ρ x=v at hx ⊢;cases hx with
 | ptr i o b z hi hz=>exact⟨_,.ptr i o b z hi hz,hs,.inl ⟨_,rfl⟩⟩
 | iface t a v hv=>exact⟨_,.iface t a v hv,hs,.inr (.inl ⟨_,_,rfl⟩)⟩
 | func f g a c x y hf ha hc =>
  cases hf with
  | plain =>
   cases g with
   | func f=>exact⟨_,.func _ _ a c x y (.plain _) ha hc,hs,.inr (.inr ⟨_,_,_,rfl,by simp⟩)⟩
   | _=>exact False.elim hs
  | yield i b hi=>exact⟨_,.func _ _ a c x y (.yield i b hi) ha hc,hs,.inr (.inr ⟨_,_,_,rfl,by simp⟩)⟩
 | _=>exact False.elim hs
theorem qUj:∀(l:List String),Instr.least l=none->l=[]
 | [],_=>rfl
 | x::l,h=>by simp[Instr.least] at h
theorem qOn {want:Array (String × TypeId)} {got:Array Method}:(Instr.missingMethod want got=none)↔(want.toList.all λ(n,s)=>got.any λm=>m.name == n && m.sig == s)=true:=by
 unfold Instr.missingMethod;generalize hmis:(want.toList.filter λ(name,sig)=>!got.any λm=>m.name == name && m.sig == sig).map (·.1)=missing;have hiff:missing=[]↔(want.toList.all λ(n,s)=>got.any λm=>m.name == n && m.sig == s)=true:=by rw[<- hmis,List.map_eq_nil_iff,List.filter_eq_nil_iff,List.all_eq_true];simp
 rw[<- hiff];constructor
 .intro h;simp at h;obtain⟨a,b⟩:=h;have e1:=qUj _ a;have e2:=qUj _ b;simp only[List.map_eq_nil_iff,List.filter_eq_nil_iff] at e1 e2;rcases missing with _ | ⟨x,l⟩
  .rfl
  .have a1:=e1 x (by simp);have a2:=e2 x (by simp);simp only[Function.comp] at a1;simp at a1 a2;exact absurd a1 a2
 .intro h;rw[h];rfl
theorem qP9 {t:TypeId} (hs:(qGd P t k).sat p h):∃v av,(∀w,(zeroValue t).run P w=.ok v w)/\VR E av v/\(k av).sat p h:=by obtain⟨z,hz,hs⟩:=Qe hs;obtain⟨i,v,hi,hv,rfl⟩:=qEr hz;exact⟨v,_,qGo hi hv,Jp E v,hs⟩
theorem qNl (r:Rel P W0 E h w) (hev:∀x,VR E (c.ev x) (ρ x)) {x:Operand} {xt as:TypeId} {ok:Bool} (hs:(qJ2 P x xt as ok c k kd kp).sat p h) :
  UV P W0 E h k p ((Instr.typeAssert (ρ x) xt as ok).run P w):=by
 obtain⟨h0,hs⟩ | ⟨h0,hs⟩:=Qr hs
 .exact False.elim hs
 have hne0:Qd P as≠0:=λe=>by rw[e] at h0;cases h0
 obtain⟨d,hd⟩:=ja rfl hne0;have hx:=hev x;generalize c.ev x=a at hx hs;generalize ρ x=v at hx ⊢;have holds:∀{av:AV} {v:Value},VR E av v->(jb P as ok true av k).sat p h->UV P W0 E h k p ((pure (if ok then .tuple #[v,.bool true] else v):Sem Value).run P w):=by
  intro av v hv hs;cases ok
  .exact .pure r hv hs
  .exact .pure r (.tuple _ _ (.cons _ _ _ _ hv (.cons _ _ _ _ (.bool _) .nil))) hs
 have fails:∀{av:AV},(jb P as ok false av k).sat p h->ok=true/\UV P W0 E h k p ((do pure (.tuple #[<- zeroValue as,.bool false]):Sem Value).run P w):=by
  intro av hs;cases ok
  .exact False.elim hs
  .obtain⟨v,z,hv,hr,hs⟩:=qP9 (E:=E) hs;refine⟨rfl,.of r ⟨.tuple #[v,.bool false],_,by simp[hv],.tuple _ _ (.cons _ _ _ _ hr (.cons _ _ _ _ (.bool _) .nil)),hs⟩⟩
 cases hx with
 | nilIface =>
  obtain⟨rfl,hu⟩:=fails hs;simp only[Instr.typeAssert,Sem.run_bind,Q9 hd,Result.andThen_ok];cases d <;> exact hu
 | iface t av v hv =>
  cases hio:qJf P as with
  | none =>
   have hs':(jb P as ok (Nat.beq t as) av k).sat p h:=by have hs2:=hs;change (Option.rec (motive:=λ_=>FM) (jb P as ok (Nat.beq t as) av k) (λwant=>Qj (jE P want t) (.fail 149) λr=>jb P as ok r (.iface t av) k) (qJf P as)).sat p h at hs2;rw[hio] at hs2;exact hs2
   have hni:∀ms,d≠.interface ms:=λms e=>by unfold qJf at hio;rw[hd,e] at hio;cases hio
   have hrun:(Instr.typeAssert (.iface t v) xt as ok).run P w=(if t=as then (pure (if ok then .tuple #[v,.bool true] else v):Sem Value).run P w else
     (if ok then (do pure (.tuple #[<- zeroValue as,.bool false]):Sem Value) else runtimePanic (.typeAssertion (some xt) (some t) as "")).run P w):=by
    simp only[Instr.typeAssert,Sem.run_bind,Q9 hd,Result.andThen_ok];cases d <;> first | (exact absurd rfl (hni _)) | (simp only[Sem.run_ite])
   rw[hrun];by_cases e:t=as
   .rw[if_pos e];rw[beq_iff.2 e] at hs';exact holds hv hs'
   .rw[if_neg e]
    have:Nat.beq t as=false:=by
     cases hb:Nat.beq t as
     .rfl
     .exact absurd (beq_iff.1 hb) e
    rw[this] at hs';obtain⟨rfl,hu⟩:=fails hs';exact hu
  | some want =>
   have hs2:=hs;change (Option.rec (motive:=λ_=>FM) (jb P as ok (Nat.beq t as) av k) (λwant=>Qj (jE P want t) (.fail 149) λr=>jb P as ok r (.iface t av) k) (qJf P as)).sat p h at hs2;rw[hio] at hs2;obtain⟨b,hb,hs3⟩:=Qe hs2;have hdi:d=.interface want:=by unfold qJf at hio;rw[hd] at hio;cases d <;> first | (cases hio;rfl) | cases hio
   subst hdi;unfold jE at hb;cases hti:P.info? t with
   | none=>rw[hti] at hb;cases hb
   | some ti =>
    rw[hti] at hb;simp only[Option.some.injEq] at hb
    have hrun:(Instr.typeAssert (.iface t v) xt as ok).run P w=(match Instr.missingMethod want ti.methods with
      | none=>(pure (if ok then .tuple #[.iface t v,.bool true] else .iface t v):Sem Value).run P w
      | some m=>(if ok then (do pure (.tuple #[<- zeroValue as,.bool false]):Sem Value) else runtimePanic (.typeAssertion none (some t) as m)).run P w):=by
     simp only[Instr.typeAssert,Sem.run_bind,Q9 hd,Result.andThen_ok,run_typeInfo hti];cases Instr.missingMethod want ti.methods <;> rfl
    rw[hrun];cases hm:Instr.missingMethod want ti.methods with
    | none =>
     have:=qOn.1 hm
     rw[<- hb,this] at hs3;exact holds (.iface t av v hv) hs3
    | some m =>
     have hbf:b=false:=by
      rw[<- hb];cases hb2:(want.toList.all λ(n,s)=>ti.methods.any λm=>m.name == n && m.sig == s)
      .rfl
      .rw[qOn.2 hb2] at hm;cases hm
     rw[hbf] at hs3;obtain⟨rfl,hu⟩:=fails hs3;exact hu
 | _=>exact False.elim hs
end
end Go.X
namespace Go.X
open Go Go.RowKit
section
variable {P:Program} {W0:World} {E:Env} {h:Q0} {p:QF} {w:World} {k:AV->FM} {c:OC} {ρ:Operand->Value} {kd:qk->FM} {kp:QD->FM}
inductive OptR (E:Env):Option AV->Option Value->Prop
 | none:OptR E none none
 | some (a:AV) (v:Value) (h:VR E a v):OptR E (some a) (some v)
theorem evo_R (hev:∀x,VR E (c.ev x) (ρ x)) (x:Option Operand):OptR E (c.evo x) (x.map ρ):=by
 cases x with
 | none=>exact .none
 | some x=>exact .some _ _ (hev x)
inductive BdR (d:Nat):Option Value->Nat->Prop
 | none:BdR d none d
 | some (q:IntKind) (n:Nat):BdR d (some (.int q (Int.ofNat n))) n
theorem qEs {d:Nat} {x:Option AV} {y:Option Value} (hx:OptR E x y) {kk:Nat->FM} (hs:(qJ d x kk).sat p h):∃n,BdR d y n/\(kk n).sat p h:=by
 cases hx with
 | none=>exact⟨d,.none,hs⟩
 | some a v hv =>obtain⟨q,m,rfl,hs⟩:=qE7 hv hs;exact⟨m,.some q m,hs⟩
theorem run_sliceBound {q:IntKind} {m y:Nat} {code:BoundsCode} (hm:m<=y) (w:World):(Instr.sliceBound (.int q (m:Int)) y code).run P w=.ok m w:=by simp[Instr.sliceBound,asIntOf,hm]
theorem jI {b:Bool} {len cap:Nat} {low high max:Option Value} {l u m:Nat} (hm:BdR cap max m) (hmc:max.isSome=true->m<=cap) (hh:BdR len high u) (hu:high.isSome=true->u<=m) (hl:BdR 0 low l) (hlu:l<=u) (hno:max.isSome=true->high.isSome=true) (w:World) :
  (Instr.sliceBounds b len cap low high max).run P w=.ok (l,u,m) w:=by
 cases hm with
 | none =>
  cases hh with
  | none =>
   cases hl with
   | none=>simp[Instr.sliceBounds]
   | some q l=>simp[Instr.sliceBounds,run_sliceBound hlu]
  | some q2 u =>
   have hu:=hu rfl;cases hl with
   | none=>simp[Instr.sliceBounds,run_sliceBound hu]
   | some q l=>simp[Instr.sliceBounds,run_sliceBound hu,run_sliceBound hlu]
 | some q3 m =>
  have hmc:=hmc rfl;cases hh with
  | none=>exact absurd (hno rfl) (by simp)
  | some q2 u =>
   have hu:=hu rfl;cases hl with
   | none=>simp[Instr.sliceBounds,run_sliceBound hmc,run_sliceBound hu]
   | some q l=>simp[Instr.sliceBounds,run_sliceBound hmc,run_sliceBound hu,run_sliceBound hlu]
theorem qW7 {a b d:Nat}:leb3 a b d=true↔a<=b/\b<=d:=by unfold leb3;rw[Qk,qs,qs]
theorem qYp {e:TypeId} {o n:Nat} {kk:Nat->FM} (hs:(qVw P e o n kk).sat p h):∃sz,(∀w,(sizeOf e).run P w=.ok sz w)/\(kk (o+n*sz)).sat p h:=by obtain⟨sz,hsz,hs⟩:=Qe hs;rw[Qb] at hs;exact⟨sz,run_sizeOf hsz,hs⟩
theorem qK2 {e:TypeId} {i b o len cap x:Nat} {ext:Bool} {lo hi mx:Option AV} {vlo vhi vmx:Option Value} (hi':E.blk i=some b) (hlo:OptR E lo vlo) (hhi:OptR E hi vhi) (hmx:OptR E mx vmx) (hx:x=cnd ext (E.ext i) 0)
  {sz:Nat} (hsz:∀w,(sizeOf e).run P w=.ok sz w) (hs:(j4 P e i o len cap ext lo hi mx k).sat p h) :
  ∃l u m av,(∀(bb:Bool) (w:World),(Instr.sliceBounds bb len (cap+x) vlo vhi vmx).run P w=.ok (l,u,m) w) /\
   VR E av (.slice (some (if m=l then ⟨b,E.base i+o,none⟩ else (⟨b,E.base i+o,none⟩:Addr).add (l*sz))) (u-l) (m-l))/\(k av).sat p h:=by
 have hs2:(qJ Nat.zero lo λl=>Option.rec (motive:=λ_=>FM)
   (qJ len hi λh=>cnd (leb3 l h cap)
    (cnd (Nat.beq l cap) (cnd ext (k .emp) (k (.slice i o Nat.zero Nat.zero false)))
     (qVw P e o l λo'=>Qc (Nat.sub h l) λn=>Qc (Nat.sub cap l) λc=>k (.slice i o' n c ext)))
    (.fail 23))
   (λmv=>mv.onNat (λm=>Qj hi (.fail 24) λhv=>hv.onNat (λh=>cnd (cnd (leb3 l h m) (Nat.ble m cap) false)
    (cnd (Nat.beq m l) (k (.slice i o Nat.zero Nat.zero false))
     (qVw P e o l λo'=>Qc (Nat.sub h l) λn=>Qc (Nat.sub m l) λc=>k (.slice i o' n c false)))
    (.fail 24)) (.fail 25)) (.fail 25)) mx).sat p h:=hs
 obtain⟨l,hl,hs3⟩:=qEs hlo hs2;cases hmx with
 | none =>
  have hs4:(qJ len hi λh=>cnd (leb3 l h cap)
    (cnd (Nat.beq l cap) (cnd ext (k .emp) (k (.slice i o Nat.zero Nat.zero false)))
     (qVw P e o l λo'=>Qc (Nat.sub h l) λn=>Qc (Nat.sub cap l) λc=>k (.slice i o' n c ext)))
    (.fail 23)).sat p h:=hs3
  obtain⟨u,hu,hs5⟩:=qEs hhi hs4;obtain⟨h3,hs6⟩:=Qi hs5;obtain⟨h31,h32⟩:=qW7.1 h3;have hrun:∀(bb:Bool) (w:World),(Instr.sliceBounds bb len (cap+x) vlo vhi none).run P w=.ok (l,u,cap+x) w:=λbb w=>jI .none (by simp) hu (λ_=>by omega) hl h31 (by simp) w;rcases Qr hs6 with ⟨hlc,hs7⟩ | ⟨hlc,hs7⟩
  .have hlc:=beq_iff.1 hlc;have hul:u-l=0:=by omega
   rcases Qr hs7 with ⟨he,hs8⟩ | ⟨he,hs8⟩
   .refine⟨l,u,cap+x,_,hrun,?_,hs8⟩;rw[hul];exact .emp _ _
   .refine⟨l,u,cap+x,_,hrun,?_,hs8⟩;rw[he] at hx;have hx0:x=0:=hx;rw[if_pos (by omega),hul,show cap+x-l=0 by omega];exact .slice _ _ _ _ _ _ _ _ hi' rfl rfl
  .have hlc:l≠cap:=λe=>by rw[e,Nat.beq_refl] at hlc;cases hlc
   obtain⟨sz',hsz',hs8⟩:=qYp hs7;rw[Qb,Qb] at hs8
   have:sz'=sz:=by have h1:=hsz' default;rw[hsz default] at h1;cases h1;rfl
   subst this;refine⟨l,u,cap+x,_,hrun,?_,hs8⟩;rw[if_neg (by omega),j6];refine .slice _ _ _ _ _ _ _ _ hi' (by omega) ?_;rw[<- hx]
   have:Nat.sub cap l=cap-l:=rfl
   omega
 | some mv mw hm =>
  have hs4:(mv.onNat (λm=>Qj hi (.fail 24) λhv=>hv.onNat (λh=>cnd (cnd (leb3 l h m) (Nat.ble m cap) false)
    (cnd (Nat.beq m l) (k (.slice i o Nat.zero Nat.zero false))
     (qVw P e o l λo'=>Qc (Nat.sub h l) λn=>Qc (Nat.sub m l) λc=>k (.slice i o' n c false)))
    (.fail 24)) (.fail 25)) (.fail 25)).sat p h:=hs3
  obtain⟨q,m,rfl,hs5⟩:=qE7 hm hs4;obtain⟨hv,rfl,hs6⟩:=Qe hs5;cases hhi with
  | some _ hw hh =>
   obtain⟨q2,u,rfl,hs7⟩:=qE7 hh hs6;obtain⟨h3,hs8⟩:=Qi hs7;obtain⟨h31,h32⟩:=Qk.1 h3;obtain⟨h33,h34⟩:=qW7.1 h31;have h35:=qs.1 h32;have hrun:∀(bb:Bool) (w:World),(Instr.sliceBounds bb len (cap+x) vlo (some (.int q2 (Int.ofNat u))) (some (.int q (Int.ofNat m)))).run P w=.ok (l,u,m) w :=
    λbb w=>jI (.some q m) (λ_=>by omega) (.some q2 u) (λ_=>h34) hl h33 (by simp) w
   rcases Qr hs8 with ⟨hlc,hs9⟩ | ⟨hlc,hs9⟩
   .have hlc:=beq_iff.1 hlc;refine⟨l,u,m,_,hrun,?_,hs9⟩;rw[if_pos hlc,show u-l=0 by omega,show m-l=0 by omega];exact .slice _ _ _ _ _ _ _ _ hi' rfl rfl
   .have hlc:m≠l:=λe=>by rw[e,Nat.beq_refl] at hlc;cases hlc
    obtain⟨sz',hsz',hs10⟩:=qYp hs9;rw[Qb,Qb] at hs10
    have:sz'=sz:=by have h1:=hsz' default;rw[hsz default] at h1;cases h1;rfl
    subst this;refine⟨l,u,m,_,hrun,?_,hs10⟩;rw[if_neg hlc,j6];exact .slice _ _ _ _ _ _ _ _ hi' (by omega) rfl
theorem noneM_sat {α:Type} {o:Option α} {m:FM} (hs:(noneM o m).sat p h):o=none/\m.sat p h:=by
 cases o with
 | none=>exact⟨rfl,hs⟩
 | some a=>exact False.elim hs
theorem qQr {t:TypeId} {e:TypeId} (hu:P.underlying t=some (.slice e)) {x:Value} {lo hi mx:Option Value}:(Instr.sliceAt t x lo hi mx).run P w=(Instr.slice t x lo hi mx).run P w:=by simp[Instr.sliceAt,Q9 hu]
theorem qX7 (r:Rel P W0 E h w) {t:TypeId} {a:AV} {v:Value} {lo hi mx:Option AV} {vlo vhi vmx:Option Value} (ha:VR E a v) (hlo:OptR E lo vlo) (hhi:OptR E hi vhi) (hmx:OptR E mx vmx)
  (hs:(qX8 P t a lo hi mx k).sat p h):UV P W0 E h k p ((Instr.sliceAt t v vlo vhi vmx).run P w):=by
 have nilcase:∀(a:AV) (e:TypeId),P.underlying t=some (.slice e)->(szO P e).isSome=true->(qHn a lo hi mx k).sat p h->∀(base:Option Addr) (cap:Nat),(∀m,m<=cap->∀b:Option Addr,b.isSome=base.isSome->(vmx=none->m=cap)->VR E a (.slice b 0 m)) ->
   UV P W0 E h k p ((Instr.sliceAt t (.slice base 0 cap) vlo vhi vmx).run P w):=by
  intro a e hu hsz hs base cap hv;obtain⟨sz,hsz⟩:=Option.isSome_iff_exists.1 hsz;rw[qQr hu]
  have hs2:(qJ Nat.zero lo λl=>qJ Nat.zero hi λu=>Option.rec (motive:=λ_=>FM) (cnd (Nat.beq (Nat.add l u) Nat.zero) (k a) (.fail 22))
   (λmv=>Qj hi (.fail 22) λ_=>mv.onNat (λm=>cnd (Nat.beq (Nat.add l (Nat.add u m)) Nat.zero) (k a) (.fail 22)) (.fail 22)) mx).sat p h:=hs
  obtain⟨l,hl,hs3⟩:=qEs hlo hs2;obtain⟨u,hu2,hs4⟩:=qEs hhi hs3;cases hmx with
  | none =>
   obtain⟨hz,hs5⟩:=Qi hs4;have hz:l+u=0:=beq_iff.1 hz;have e1:l=0:=by omega
   have e2:u=0:=by omega
   subst e1;subst e2;have hb:=jI (P:=P) (b:=true) (BdR.none (d:=cap)) (by simp) hu2 (λ_=>Nat.zero_le _) hl (zL0 _) (by simp) w;refine .of r ⟨.slice (if cap=0 then base else base.map (·.add (0*sz))) 0 cap,a,by simp[Instr.slice,Q9 hu,hb,run_sizeOf hsz],hv cap (zL0 _) _ ?_ (λ_=>rfl),hs5⟩;split <;> simp
  | some mv mw hm =>
   obtain⟨hv2,hh,hs5⟩:=Qe hs4;obtain⟨q,m,rfl,hs6⟩:=qE7 hm hs5;obtain⟨hz,hs7⟩:=Qi hs6;have hz:l+(u+m)=0:=beq_iff.1 hz;have e1:l=0:=by omega
   have e2:u=0:=by omega
   have e3:m=0:=by omega
   subst e1;subst e2;subst e3;subst hh;have hb:=jI (P:=P) (b:=true) (BdR.some (d:=cap) q 0) (λ_=>Nat.zero_le _) hu2 (λ_=>Nat.zero_le _) hl (zL0 _) (λ_=>by cases hhi;rfl) w;exact .of r ⟨.slice base 0 0,a,by simp only[Instr.slice,Sem.run_bind,Q9 hu,Result.andThen_ok,hb,run_sizeOf hsz,Sem.run_pure];simp,hv 0 (Nat.zero_le _) _ rfl (λh=>by cases h),hs7⟩
 cases ha with
 | str s b he =>
  subst he;have hs2:(cnd (Nat.beq (Qd P t) 3) (noneM mx (slStr (bs b) lo hi k)) (.fail 26)).sat p h:=hs;obtain⟨ht,hs3⟩:=Qi hs2;obtain⟨rfl,hs4⟩:=noneM_sat hs3;cases hmx;have hs5:(Jf (bs b) Nat.zero λlen=>qJ Nat.zero lo λl=>qJ len hi λh=>cnd (leb3 l h len) (j3 h (bs b) λs'=>k (.str (jO l s'))) (.fail 21)).sat p h:=hs4;rw[qKa] at hs5;obtain⟨l,hl,hs6⟩:=qEs hlo hs5;obtain⟨u,hu2,hs7⟩:=qEs hhi hs6;obtain⟨h3,hs8⟩:=Qi hs7;obtain⟨h31,h32⟩:=qW7.1 h3;obtain⟨_,hs9⟩:=jh hs8;rw[qq] at hs9;rw[jm] at h32 hu2;have hb:=jI (P:=P) (b:=false) (BdR.none (d:=b.size)) (by simp) hu2 (λ_=>h32) hl h31 (by simp) w;have hu:=tag3 (beq_iff.1 ht);refine .of r ⟨.string (b.extract l u),_,by simp[Instr.sliceAt,Instr.slice,Q9 hu,hb],.str _ _ ?_,hs9⟩;simp only[bs,ByteArray.data_extract,Array.toList_extract,List.extract_eq_take_drop,List.map_take,List.map_drop];rw[List.drop_take]
 | nils =>
  have hs2:(cnd (Nat.beq (Qd P t) 9) (Qj (qL P t) (.fail 26) λe=>Qj (szO P e) (.fail 26) λ_=>qHn .nils lo hi mx k) (.fail 26)).sat p h:=hs;obtain⟨_,hs3⟩:=Qi hs2;obtain⟨e,he,hs4⟩:=Qe hs3;obtain⟨sz,hsz,hs5⟩:=Qe hs4;refine nilcase .nils e (jF he) (by rw[hsz];rfl) hs5 none 0 λm hm b hb _=>?_
  have:b=none:=by cases b <;> simp_all
  subst this
  have:m=0:=by omega
  subst this;exact .nils
 | emp a c =>
  have hs2:(cnd (Nat.beq (Qd P t) 9) (Qj (qL P t) (.fail 26) λe=>Qj (szO P e) (.fail 26) λ_=>qHn .emp lo hi mx k) (.fail 26)).sat p h:=hs;obtain⟨_,hs3⟩:=Qi hs2;obtain⟨e,he,hs4⟩:=Qe hs3;obtain⟨sz,hsz,hs5⟩:=Qe hs4;refine nilcase .emp e (jF he) (by rw[hsz];rfl) hs5 (some a) c λm hm b hb _=>?_;cases b with
  | none=>simp at hb
  | some b=>exact .emp _ _
 | slice i o len cap ext b x cc hi' hx hcc =>
  subst hx;have hs2:(Qj (qL P t) (.fail 26) λe=>Qj (szO P e) (.fail 26) λ_=>j4 P e i o len cap ext lo hi mx k).sat p h:=hs;obtain⟨e,he,hs3⟩:=Qe hs2;obtain⟨sz,hsz,hs4⟩:=Qe hs3;have hu:=jF he;obtain⟨l,u,m,av,hb,hv,hk⟩:=qK2 hi' hlo hhi hmx rfl (run_sizeOf hsz) hs4;rw[qQr hu];refine .of r ⟨_,av,?_,hv,hk⟩
  have:=hb true w
  rw[<- hcc] at this;simp only[Instr.slice,Sem.run_bind,Q9 hu,Result.andThen_ok,this,run_sizeOf hsz,Sem.run_pure];congr 2;split <;> simp
 | ptr i o b x hi' hx =>
  subst hx;have hs2:(Qj (Jz P t) (.fail 27) λne=>Qj (szO P ne.2) (.fail 26) λ_=>j4 P ne.2 i o ne.1 ne.1 false lo hi mx k).sat p h:=hs;obtain⟨ne,he,hs3⟩:=Qe hs2;obtain⟨sz,hsz,hs4⟩:=Qe hs3;have hu:=qF6 he;obtain⟨l,u,m,av,hb,hv,hk⟩:=qK2 (x:=0) hi' hlo hhi hmx rfl (run_sizeOf hsz) hs4;refine .of r ⟨_,av,?_,hv,hk⟩
  have:=hb false w
  rw[Nat.add_zero] at this;simp only[Instr.sliceAt,Sem.run_bind,Q9 hu,Result.andThen_ok,this,run_sizeOf hsz,Sem.run_pure,Instr.sureAddr]
 | _=>exact False.elim hs
theorem qZf (r:Rel P W0 E h w) (hev:∀x,VR E (c.ev x) (ρ x)) {t:TypeId} {x:Operand} {lo hi mx:Option Operand} (hs:(oSlice P t x lo hi mx c k kd kp).sat p h) :
  UV P W0 E h k p ((Instr.sliceAt t (ρ x) (lo.map ρ) (hi.map ρ) (mx.map ρ)).run P w) :=
 qX7 r (hev x) (evo_R hev lo) (evo_R hev hi) (evo_R hev mx) hs
end
end Go.X
