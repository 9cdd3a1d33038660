/-
 PROVED: propositions over heaps whose values may be variables: loads,reads,operations that read are sound. Condition: the heap's names are without end.
-/
import Derived.Test.YtligncjhmmgajaaGreatDoorXe
set_option linter.unusedVariables false
set_option linter.unusedSimpArgs false
open List renaming getElem?_eq_getElem -> zD0, length_cons -> zJ0
open Nat renaming ble_eq_true_of_le -> zF0
noncomputable section
namespace Go.X
structure SL where
 nil:Bool
 i:Nat
 o:Nat
 len:Nat
 cap:Nat
 ext:Bool
def SL.av (s:SL):AV:=match s.nil with | true=>(match s.ext with | true=>.emp | false=>.nils) | false=>.slice s.i s.o s.len s.cap s.ext
def SL.isNil (s:SL):Bool:=match s.nil with | true=>(match s.ext with | true=>false | false=>true) | false=>false
def SL.n (s:SL):Nat:=match s.nil with | true=>0 | false=>s.len
inductive ZV where
 | any (a:AV)
 | bool (b:Bool)
 | int (q:IntKind) (n:Int)
 | str (s:List Nat)
 | pv (nil:Bool) (i o:Nat)
 | sl (s:SL)
 | mp (nil:Bool) (i:Nat)
 | fn (f:AFn) (first captured:List ZV)
 | iface (t:TypeId) (v:ZV)
 | agg (cs:List ZV)
 | tup (vs:List ZV)
def ZV.av:ZV->AV
 | .any a=>a
 | .bool b=>.bool b
 | .int q n=>.int q n
 | .str s=>.str s
 | .pv nil i o=>match nil with | true=>.nilp | false=>.ptr i o
 | .sl s=>s.av
 | .mp nil i=>match nil with | true=>.nilMap | false=>.map i
 | .fn f a c=>.func f (avs a) (avs c)
 | .iface t v=>.iface t v.av
 | .agg cs=>.agg (avs cs)
 | .tup vs=>.tuple (avs vs)
where avs:List ZV->List AV
 | []=>[]
 | v::l=>v.av::avs l
def avs (l:List ZV):List AV:=ZV.av.avs l
@[simp] theorem qKn:avs []=[]:=rfl
@[simp] theorem qBz (v:ZV) (l:List ZV):avs (v::l)=v.av::avs l:=rfl
theorem avs_map (l:List ZV):avs l=l.map ZV.av:=by
 induction l with
 | nil=>rfl
 | cons v l ih=>simp[ih]
theorem qI8 (l:List ZV):(avs l).length=l.length:=by rw[avs_map];simp
theorem qEv (a b:List ZV):avs (a++b)=avs a++avs b:=by simp[avs_map]
@[simp] theorem qXn (f:AFn) (a c:List ZV):(ZV.fn f a c).av=.func f (avs a) (avs c):=by rw[ZV.av];rfl
@[simp] theorem qDk (t:TypeId) (v:ZV):(ZV.iface t v).av=.iface t v.av:=by rw[ZV.av]
@[simp] theorem qEp (cs:List ZV):(ZV.agg cs).av=.agg (avs cs):=by rw[ZV.av];rfl
@[simp] theorem qU8 (cs:List ZV):(ZV.tup cs).av=.tuple (avs cs):=by rw[ZV.av];rfl
@[simp] theorem qEo (a:AV):(ZV.any a).av=a:=by rw[ZV.av]
@[simp] theorem qBr (b:Bool):(ZV.bool b).av=.bool b:=by rw[ZV.av]
@[simp] theorem qAz (q:IntKind) (n:Int):(ZV.int q n).av=.int q n:=by rw[ZV.av]
@[simp] theorem qHc (s:List Nat):(ZV.str s).av=.str s:=by rw[ZV.av]
@[simp] theorem qCp (i o:Nat):(ZV.pv false i o).av=.ptr i o:=by rw[ZV.av]
@[simp] theorem av_pvt (i o:Nat):(ZV.pv true i o).av=.nilp:=by rw[ZV.av]
@[simp] theorem qFi (s:SL):(ZV.sl s).av=s.av:=by rw[ZV.av]
@[simp] theorem jFk (i:Nat):(ZV.mp false i).av=.map i:=by rw[ZV.av]
@[simp] theorem av_mpt (i:Nat):(ZV.mp true i).av=.nilMap:=by rw[ZV.av]
mutual
def zOf:AV->ZV
 | .bool b=>.bool b
 | .int q n=>.int q n
 | .str s=>.str s
 | .nilp=>.pv true 0 0
 | .ptr i o=>.pv false i o
 | .nils=>.sl ⟨true,0,0,0,0,false⟩
 | .slice i o l c e=>.sl ⟨false,i,o,l,c,e⟩
 | .nilMap=>.mp true 0
 | .map i=>.mp false i
 | .func f a c=>.fn f (zOfs a) (zOfs c)
 | .iface t v=>.iface t (zOf v)
 | .agg cs=>.agg (zOfs cs)
 | .tuple vs=>.tup (zOfs vs)
 | .junk=>.any .junk
 | .emp=>.sl ⟨true,0,0,0,0,true⟩
 | .nilFunc=>.any .nilFunc
 | .nilIface=>.any .nilIface
def zOfs:List AV->List ZV
 | []=>[]
 | v::l=>zOf v::zOfs l
end
mutual
theorem qQd:∀a:AV,(zOf a).av=a
 | .bool b=>by simp[zOf]
 | .int q n=>by simp[zOf]
 | .str s=>by simp[zOf]
 | .nilp=>by simp[zOf]
 | .ptr i o=>by simp[zOf]
 | .nils=>by simp[zOf,SL.av]
 | .slice i o l c e=>by simp[zOf,SL.av]
 | .nilMap=>by simp[zOf]
 | .map i=>by simp[zOf]
 | .func f a c=>by simp[zOf,qGf a,qGf c]
 | .iface t v=>by simp[zOf,qQd v]
 | .agg cs=>by simp[zOf,qGf cs]
 | .tuple vs=>by simp[zOf,qGf vs]
 | .junk=>by simp[zOf]
 | .emp=>by simp[zOf,SL.av]
 | .nilFunc=>by simp[zOf]
 | .nilIface=>by simp[zOf]
theorem qGf:∀l:List AV,avs (zOfs l)=l
 | []=>by simp[zOfs]
 | v::l=>by simp[zOfs,qQd v,qGf l]
end
def QS (h:Q0) (i:Nat):Option (List AV):=match h.get i with
 | some (.cells c _ _ _)=>some c
 | some (.ro c)=>some c
 | _=>none
def cellAt (h:Q0) (i o:Nat):Option AV:=(QS h i).bind λc=>c[o]?
def hput (h:Q0) (i o:Nat) (vs:List AV):Q0:=match h.get i with
 | some (.cells c e g m)=>h.put i (some (.cells (c.take o++(vs++c.drop (o+vs.length))) e g m))
 | _=>h
def jFh (h:Q0) (i n:Nat):Prop:=i<h.next/\∃c e g m,h.get i=some (.cells c e g m)/\n<=c.length
abbrev ZK:=ZV->Q0->Prop
abbrev ZT:=List ZV
def QM (z:ZT) (s:Nat):ZV:=match z,s with
 | [],_=>.tup []
 | v::_,0=>v
 | _::l,n+1=>QM l n
def zset (z:ZT) (s:Nat) (v:ZV):ZT:=match z,s with
 | [],0=>[v]
 | [],n+1=>.tup []::zset [] n v
 | _::l,0=>v::l
 | w::l,n+1=>w::zset l n v
theorem qEw (z:ZT) (s r:Nat) (v:ZV):QM (zset z s v) r=if r=s then v else QM z r:=by
 induction s generalizing z r with
 | zero =>
  cases z <;> cases r <;> simp[zset,QM]
 | succ s ih =>
  cases z with
  | nil =>
   cases r with
   | zero=>simp[zset,QM]
   | succ r=>simp only[zset,QM];rw[ih];by_cases e:r=s <;> simp[e,QM]
  | cons w l =>
   cases r with
   | zero=>simp[zset,QM]
   | succ r=>simp only[zset,QM];rw[ih];by_cases e:r=s <;> simp[e]
def js:Nat->ZT->ZT
 | 0,z=>z
 | n+1,[]=>.tup []::js n []
 | n+1,v::z=>v::js n z
theorem qXs (n:Nat) (z:ZT) (s:Nat):QM (js n z) s=QM z s:=by
 induction n generalizing z s with
 | zero=>rfl
 | succ n ih =>
  cases z with
  | nil =>
   cases s with
   | zero=>rfl
   | succ s=>exact (ih [] s).trans (by cases s <;> rfl)
  | cons v z =>
   cases s with
   | zero=>rfl
   | succ s=>exact ih z s
structure ZS (D:List qk) (z:ZT) (st:St):Prop where
 at':∀s,s<4096->st.tmps.at s=(QM z s).av
 defers:st.defers=D
 na:st.u=.na
structure ZIf (b:Bool) (A B:Prop):Prop where
 yes:b=true->A
 no:b=false->B
inductive ZW (q:IntKind) (e:Int) (K:Int->Prop):Prop where
 | mk (h:K (q.wrap e))
inductive ZIdx (n:Int) (len:Nat) (K:Nat->Prop):Prop where
 | mk (m:Nat) (e:n=m) (lt:m<len) (h:K m)
inductive qO (n:Int) (K:Nat->Prop):Prop where
 | mk (m:Nat) (e:n=m) (h:K m)
structure Ql (A B:Prop):Prop where
 asked:A
 then':B
inductive Qg (h:Q0) (i o:Nat) (q:IntKind) (K:Int->Prop):Prop where
 | mk (n:Int) (e:cellAt h i o=some (.int q n)) (k:K n)
inductive ZLdB (h:Q0) (i o:Nat) (K:Bool->Prop):Prop where
 | mk (b:Bool) (e:cellAt h i o=some (.bool b)) (k:K b)
inductive ZLdS (h:Q0) (i o:Nat) (K:List Nat->Prop):Prop where
 | mk (s:List Nat) (e:cellAt h i o=some (.str s)) (k:K s)
inductive jP (h:Q0) (i o:Nat) (K:Bool->Nat->Nat->Prop):Prop where
 | mk (nil:Bool) (j p:Nat) (e:cellAt h i o=some (ZV.pv nil j p).av) (k:K nil j p)
inductive qD (h:Q0) (i o:Nat) (K:SL->Prop):Prop where
 | mk (s:SL) (e:cellAt h i o=some s.av) (k:K s)
inductive ZLdM (h:Q0) (i o:Nat) (K:Bool->Nat->Prop):Prop where
 | mk (nil:Bool) (j:Nat) (e:cellAt h i o=some (ZV.mp nil j).av) (k:K nil j)
inductive ZLdA (h:Q0) (i o:Nat) (K:AV->Prop):Prop where
 | mk (a:AV) (p:a.plainC=true) (e:cellAt h i o=some a) (k:K a)
end Go.X
namespace Go.X
section
variable (P:Program)
def zEv (z:ZT) (x:Operand):ZV:=match x with
 | .tmp s=>match ltb s 4096 with | true=>QM z s | false=>.any .junk
 | .const v=>zOf (ofValue v)
 | .global g=>match ltb g P.globals.size with | true=>.pv false g 0 | false=>.any .junk
 | .func f=>.fn (.plain (.func f)) [] []
def zEvs (z:ZT) (l:List Operand):List ZV:=match l with | []=>[] | x::r=>zEv P z x::zEvs z r
def zEvo (z:ZT) (x:Option Operand):Option ZV:=match x with | none=>none | some y=>some (zEv P z y)
inductive Sh where | I (q:IntKind) | B | S | P | L | M | A
def shapeOf (t:TypeId):Sh:=match P.underlying t with
 | some (.int q)=>.I q
 | some .bool=>.B
 | some .string=>.S
 | some (.pointer _)=>.P
 | some (.slice _)=>.L
 | some (.map _ _)=>.M
 | _=>.A
def qK4 (n:Nat) (t:TypeId):Option (List Sh):=match n with
 | 0=>none
 | n+1=>match P.underlying t with
  | some (.struct fs)=>fs.toList.foldr (λf r=>match qK4 n f.type,r with | some a,some b=>some (a++b) | _,_=>none) (some [])
  | some (.array m e)=>match qK4 n e with | some a=>some (List.replicate m a).flatten | none=>none
  | _=>some [shapeOf P t]
def zLd1 (s:Sh) (h:Q0) (i o:Nat) (K:ZV->Prop):Prop:=match s with
 | .I q=>Qg h i o q λn=>K (.int q n)
 | .B=>ZLdB h i o λb=>K (.bool b)
 | .S=>ZLdS h i o λs=>K (.str s)
 | .P=>jP h i o λn j p=>K (.pv n j p)
 | .L=>qD h i o λs=>K (.sl s)
 | .M=>ZLdM h i o λn j=>K (.mp n j)
 | .A=>ZLdA h i o λa=>K (.any a)
def zLds (l:List Sh) (h:Q0) (i o:Nat) (K:List ZV->Prop):Prop:=match l with
 | []=>K []
 | s::r=>zLd1 s h i o λv=>zLds r h i (o+1) λvs=>K (v::vs)
theorem qX3 {s:Sh} {h:Q0} {i o:Nat} {K:ZV->Prop} (hs:zLd1 s h i o K):∃v,cellAt h i o=some v.av/\v.av.plainC=true/\K v:=by
 cases s with
 | I q=>obtain⟨n,e,k⟩:=hs;exact⟨_,by simpa using e,by simp;rfl,k⟩
 | B=>obtain⟨n,e,k⟩:=hs;exact⟨_,by simpa using e,by simp;rfl,k⟩
 | S=>obtain⟨n,e,k⟩:=hs;exact⟨_,by simpa using e,by simp;rfl,k⟩
 | P=>obtain⟨n,j,p,e,k⟩:=hs;exact⟨_,e,by cases n <;> simp <;> rfl,k⟩
 | L=>obtain⟨s,e,k⟩:=hs;exact⟨_,by simpa using e,by obtain⟨n,_,_,_,_,x⟩:=s;cases n <;> cases x <;> simp[SL.av] <;> rfl,k⟩
 | M=>obtain⟨n,j,e,k⟩:=hs;exact⟨_,e,by cases n <;> simp <;> rfl,k⟩
 | A=>obtain⟨a,p,e,k⟩:=hs;exact⟨.any a,by simpa using e,by simpa using p,k⟩
theorem qSx {h:Q0} {i o:Nat} {a:AV} (e:cellAt h i o=some a):∃c,QS h i=some c/\c[o]?=some a:=by
 unfold cellAt at e;cases hc:QS h i with
 | none=>rw[hc] at e;cases e
 | some c=>rw[hc] at e;exact⟨c,rfl,e⟩
theorem qX2 {h:Q0} {i:Nat}:∀{l:List Sh} {o:Nat} {K:List ZV->Prop},zLds l h i o K->∃vs,vs.length=l.length/\K vs/\∀j,j<l.length->∃v,vs[j]?=some v/\cellAt h i (o+j)=some v.av
 | [],o,K,hs=>⟨[],rfl,hs,λj hj=>absurd hj (Nat.not_lt_zero _)⟩
 | s::r,o,K,hs=>by
  obtain⟨v,e,_,k⟩:=qX3 hs;obtain⟨vs,hl,hk,hall⟩:=qX2 k;refine⟨v::vs,by simp[hl],hk,λj hj=>?_⟩;cases j with
  | zero=>exact⟨v,rfl,e⟩
  | succ j =>obtain⟨u,h1,h2⟩:=hall j (by simpa using hj);exact⟨u,by simpa using h1,by rw[show o+(j+1)=o+1+j by omega];exact h2⟩
def jFv (t:TypeId) (i o:Nat) (h:Q0) (K:ZV->Prop):Prop:=match qSd P t with
 | some true=>match qK4 P 8 t,szO P t with
  | some l,some n=>match Nat.beq l.length n,l with
   | true,s::r=>zLds (s::r) h i o λvs=>K (.agg vs)
   | _,_=>False
  | _,_=>False
 | some false=>zLd1 (shapeOf P t) h i o K
 | none=>False
theorem jL {h:Q0} {i:Nat} {c:List AV} {k:List AV->FM} {p:QF} (e:QS h i=some c) (hs:(k c).sat p h):(q9 i k).sat p h:=by
 unfold QS at e;cases hg:h.get i with
 | none=>rw[hg] at e;cases e
 | some o =>
  rw[hg] at e;have e2:o.onRead k (.fail 9)=k c:=by cases o <;> simp at e <;> subst e <;> rfl
  refine⟨o,hg,?_⟩;show (o.onRead k (.fail 9)).sat p h;rw[e2];exact hs
theorem qOy {c:List AV}:∀{vs:List ZV} {o:Nat},(∀j,j<vs.length->∃v,vs[j]?=some v/\c[o+j]?=some v.av)->(c.drop o).take vs.length=avs vs/\(vs≠[]->vs.length<=(c.drop o).length)
 | [],o,_=>⟨by simp,λh=>absurd rfl h⟩
 | v::vs,o,hall=>by
  obtain⟨u,h1,h2⟩:=hall 0 (by simp);simp only[List.getElem?_cons_zero,Option.some.injEq] at h1;subst h1;have ih:=qOy (c:=c) (vs:=vs) (o:=o+1) λj hj=>by obtain⟨w,h3,h4⟩:=hall (j+1) (by simpa using hj);exact⟨w,by simpa using h3,by rw[show o+1+j=o+(j+1) by omega];exact h4⟩
  simp only[Nat.add_zero] at h2;obtain⟨hlt,he⟩:=List.getElem?_eq_some_iff.1 h2;have hd:c.drop o=v.av::c.drop (o+1):=by rw[<- he];exact List.drop_eq_getElem_cons hlt
  refine⟨?_,λ_=>?_⟩
  .rw[hd];simp only[zJ0,List.take_succ_cons,qBz,ih.1]
  .rw[hd];simp only[zJ0];cases vs with
   | nil=>simp
   | cons w r=>have:=ih.2 (by simp);omega
theorem qJl {t:TypeId} {i o:Nat} {h:Q0} {K:ZV->Prop} (hs:jFv P t i o h K):∃v,K v/\∀(k:KV) (p:QF),(k v.av).sat p h->(qPp P t i o k).sat p h:=by
 unfold jFv at hs;cases ha:qSd P t with
 | none=>rw[ha] at hs;exact hs.elim
 | some b =>
  rw[ha] at hs;cases b with
  | false =>
   obtain⟨v,e,_,k⟩:=qX3 hs;obtain⟨c,hc,ho⟩:=qSx e;refine⟨v,k,λkk p hk=>jL hc ?_⟩;unfold qA;rw[ha];show (Qj (nthL c o) (.fail 17) kk).sat p h;rw[qW,ho];exact hk
  | true =>
   cases hsh:qK4 P 8 t with
   | none=>rw[hsh] at hs;exact hs.elim
   | some l =>
    cases hsz:szO P t with
    | none=>rw[hsh,hsz] at hs;exact hs.elim
    | some n =>
     rw[hsh,hsz] at hs;simp only at hs;cases hb:Nat.beq l.length n with
     | false=>rw[hb] at hs;exact hs.elim
     | true =>
      rw[hb] at hs;cases l with
      | nil=>exact hs.elim
      | cons s r =>
       obtain⟨vs,hl,hk,hall⟩:=qX2 hs;obtain⟨v0,_,e0⟩:=hall 0 (by simp);obtain⟨c,hc,_⟩:=qSx e0;have hall':∀j,j<vs.length->∃v,vs[j]?=some v/\c[o+j]?=some v.av:=λj hj=>by obtain⟨v,h1,h2⟩:=hall j (by omega);unfold cellAt at h2;rw[hc] at h2;exact⟨v,h1,h2⟩
       obtain⟨h1,h2⟩:=qOy hall';have hn:n=vs.length:=by have:=QA hb;omega
       refine⟨.agg vs,hk,λkk p hkk=>jL hc ?_⟩;unfold qA;rw[ha];show (Qj (szO P t) (.fail 17) λn=>j3 n (jO o c) λl=>kk (.agg l)).sat p h;rw[hsz];show (j3 n (jO o c) λl=>kk (.agg l)).sat p h;have hne:vs≠[]:=λe=>by rw[e] at hl;simp at hl
       rw[jQ,qq,if_pos (by rw[hn];exact h2 hne),hn,h1];simpa using hkk
end
end Go.X
namespace Go.X
def qJ5 (es:List (AV × AV)) (k:AV):Option AV:=match es with
 | []=>none
 | e::r=>match qx k e.1 with | true=>some e.2 | false=>qJ5 r k
def qZy (k:AV):AV->Bool
 | .int r _=>match k with | .int q _=>Nat.beq (QT q) (QT r) | _=>false
 | .str _=>match k with | .str _=>true | _=>false
 | _=>false
def Jm (es:List (AV × AV)) (k:AV):Bool:=es.all λe=>qZy k e.1
inductive ZLook (h:Q0) (nil:Bool) (i:Nat) (key:AV) (A:AV->Prop) (B:Prop):Prop where
 | mk (hn:nil=true->B) (hm:nil=false->∃es ver,h.get i=some (.map es ver)/\Jm es key=true/\(∀v,qJ5 es key=some v->A v)/\(qJ5 es key=none->B))
inductive ZAs (a:AV) (s:Sh) (K:ZV->Prop):Prop where
 | I (q:IntKind) (n:Int) (hs:s=.I q) (e:a=.int q n) (k:K (.int q n))
 | B (b:Bool) (hs:s=.B) (e:a=.bool b) (k:K (.bool b))
 | S (l:List Nat) (hs:s=.S) (e:a=.str l) (k:K (.str l))
 | P (n:Bool) (j p:Nat) (hs:s=.P) (e:a=(ZV.pv n j p).av) (k:K (.pv n j p))
 | L (l:SL) (hs:s=.L) (e:a=l.av) (k:K (.sl l))
 | M (n:Bool) (j:Nat) (hs:s=.M) (e:a=(ZV.mp n j).av) (k:K (.mp n j))
 | A (hs:s=.A) (p:a.plainC=true) (k:K (.any a))
inductive ZAsAgg (a:AV) (K:List AV->Prop):Prop where
 | mk (cs:List AV) (e:a=.agg cs) (k:K cs)
def qFb:AV->Bool | .nilIface=>true | _=>false
def isIf:AV->Bool | .nilIface=>true | .iface _ _=>true | _=>false
def isNilFn:AV->Bool | .nilFunc=>true | _=>false
def isFn:AV->Bool | .nilFunc=>true | .func _ _ _=>true | _=>false
def okRef:AV->Bool
 | .ptr _ _=>true
 | .iface _ _=>true
 | .func (.plain (.func _)) _ _=>true
 | .func (.yield _) _ _=>true
 | _=>false
def plainAt (h:Q0) (i:Nat):Prop:=∃c e g,h.get i=some (.cells c e g false)
theorem ZLook.nilCase {h:Q0} {nil:Bool} {i:Nat} {key:AV} {A:AV->Prop} {B:Prop} (s:ZLook h nil i key A B):nil=true->B:=by cases s;assumption
theorem ZLook.mapCase {h:Q0} {nil:Bool} {i:Nat} {key:AV} {A:AV->Prop} {B:Prop} (s:ZLook h nil i key A B):nil=false->∃es ver,h.get i=some (.map es ver)/\Jm es key=true/\(∀v,qJ5 es key=some v->A v)/\(qJ5 es key=none->B):=by cases s;assumption
inductive ZBytes (h:Q0) (s:SL) (K:List Nat->Prop):Prop where
 | mk (l:List Nat) (hn:s.nil=true->l=[]) (hs:s.nil=false->∃c,QS h s.i=some c/\(c.drop s.o).take s.len=ofBytes l/\s.len<=(c.drop s.o).length) (hb:∀x,x∈l->x<256) (k:K l)
section
variable (P:Program)
def zInt (op:BinOp) (q:IntKind) (n m:Int) (K:ZV->Prop):Prop:=match op with
 | .add=>ZW q (n+m) λr=>K (.int q r)
 | .sub=>ZW q (n-m) λr=>K (.int q r)
 | .mul=>ZW q (n*m) λr=>K (.int q r)
 | .quo=>Ql (m≠0) (ZW q (n.tdiv m) λr=>K (.int q r))
 | .rem=>Ql (m≠0) (K (.int q (n.tmod m)))
 | .and=>ZW q (.ofNat (Nat.land (toU q n) (toU q m))) λr=>K (.int q r)
 | .or=>ZW q (.ofNat (Nat.lor (toU q n) (toU q m))) λr=>K (.int q r)
 | .xor=>ZW q (.ofNat (Nat.xor (toU q n) (toU q m))) λr=>K (.int q r)
 | .andNot=>ZW q (.ofNat (Nat.land (toU q n) (Nat.xor (toU q m) (Nat.sub (Nat.pow 2 (qh q)) 1)))) λr=>K (.int q r)
 | .shl=>qO m λj=>ZW q (n*Int.ofNat (Nat.pow 2 (cnd (Nat.ble j (qh q)) j (qh q)))) λr=>K (.int q r)
 | .shr=>qO m λj=>K (.int q (n.fdiv (Int.ofNat (Nat.pow 2 (cnd (Nat.ble j (qh q)) j (qh q))))))
 | .eql=>K (.bool (decide (n=m)))
 | .neq=>K (.bool (!decide (n=m)))
 | .lss=>K (.bool (decide (n<m)))
 | .leq=>K (.bool (decide (n<=m)))
 | .gtr=>K (.bool (decide (m<n)))
 | .geq=>K (.bool (decide (m<=n)))
def zStr (op:BinOp) (a b:List Nat) (K:ZV->Prop):Prop:=match op with
 | .add=>Ql (a.length+b.length<=most) (K (.str (a++b)))
 | .eql=>K (.bool (decide (a=b)))
 | .neq=>K (.bool (!decide (a=b)))
 | .lss=>K (.bool (qj a b))
 | .leq=>K (.bool (!qj b a))
 | .gtr=>K (.bool (qj b a))
 | .geq=>K (.bool (!qj a b))
 | _=>False
def zEq (t:TypeId) (h:Q0) (a b:ZV) (K:Bool->Prop):Prop:=match a,b with
 | .bool x,.bool y=>match Nat.beq (Qd P t) 1 with | true=>K (decide (x=y)) | false=>False
 | .pv n i o,.pv m j p=>match Nat.beq (Qd P t) 4 with
  | true=>cnd m (K n) (cnd n (K m) (match (jDk P t).bind (szO P) with
   | some (_+1)=>Ql (i=j∨(plainAt h i/\plainAt h j)) (K (decide (i=j/\o=p)))
   | _=>False))
  | false=>False
 | .sl x,.sl y=>match Nat.beq (Qd P t) 9 with | true=>cnd y.isNil (K x.isNil) (cnd x.isNil (K y.isNil) False) | false=>False
 | .mp n _,.mp m _=>match Nat.beq (Qd P t) 10 with | true=>cnd m (K n) (cnd n (K m) False) | false=>False
 | .fn _ _ _,.any .nilFunc=>match Nat.beq (Qd P t) 11 with | true=>K false | false=>False
 | .any a,.any .nilFunc=>match Nat.beq (Qd P t) 11 with | true=>Ql (isFn a=true) (K (isNilFn a)) | false=>False
 | .iface _ _,.any .nilIface=>match Nat.beq (Qd P t) 6 with | true=>K false | false=>False
 | .any a,.any .nilIface=>match Nat.beq (Qd P t) 6 with | true=>Ql (isIf a=true) (K (qFb a)) | false=>False
 | .iface t1 (.int q n),.iface t2 (.int r m)=>match Nat.beq (Qd P t) 6 with
  | true=>match Nat.beq t1 t2 with
   | true=>match cmpO P t1,Nat.beq (Qd P t1) 2,Nat.beq (QT q) (QT r) with | some true,true,true=>K (decide (n=m)) | _,_,_=>False
   | false=>K false
  | false=>False
 | _,_=>False
def zBin (lit:Bool) (op:BinOp) (t:TypeId) (h:Q0) (a b:ZV) (K:ZV->Prop):Prop:=match a,b with
 | .int q n,.int r m=>match op with
  | .shl=>zInt op q n m K
  | .shr=>zInt op q n m K
  | _=>match Nat.beq (QT q) (QT r) with | true=>zInt op q n m K | false=>False
 | .str x,.str y=>zStr op x y K
 | .int _ _,_=>False
 | .str _,_=>False
 | a,b=>match lit,op with
  | true,.eql=>zEq P t h a b λr=>K (.bool r)
  | true,.neq=>zEq P t h a b λr=>K (.bool (!r))
  | false,.eql=>(match a,b with | .any _,.any .nilIface=>False | _,_=>zEq P t h a b λr=>K (.bool r))
  | false,.neq=>(match a,b with | .any _,.any .nilIface=>False | _,_=>zEq P t h a b λr=>K (.bool (!r)))
  | _,_=>False
end
section
variable {P:Program} {h:Q0}
def RdOk (h:Q0) (K:ZV->Prop) (m:KV->FM):Prop:=∃v,K v/\∀(k:KV) (p:QF),(k v.av).sat p h->(m k).sat p h
theorem RdOk.val {K:ZV->Prop} {m:KV->FM} (v:ZV) (hk:K v) (e:∀k,m k=k v.av):RdOk h K m:=⟨v,hk,λk p hs=>by rw[e];exact hs⟩
def RdEq (K:ZV->Prop) (m:KV->FM):Prop:=∃v,K v/\∀k,m k=k v.av
theorem RdEq.val {K:ZV->Prop} {m:KV->FM} (v:ZV) (hk:K v) (e:∀k,m k=k v.av):RdEq K m:=⟨v,hk,e⟩
theorem RdEq.ok {K:ZV->Prop} {m:KV->FM} (r:RdEq K m):RdOk h K m:=by obtain⟨v,hk,e⟩:=r;exact⟨v,hk,λk p hs=>by rw[e];exact hs⟩
theorem RdEq.eq {K:ZV->Prop} {m m':KV->FM} (e:∀k,m k=m' k) (r:RdEq K m'):RdEq K m:=by obtain⟨v,hk,e2⟩:=r;exact⟨v,hk,λk=>(e k).trans (e2 k)⟩
theorem qu {q r:IntKind} (e:Nat.beq (QT q) (QT r)=true) (m:FM):kEq q r m=m:=by unfold kEq;rw[e];rfl
theorem qOw {m:Int} (h:m≠0):eqI m 0=false:=by rw[qFd];simp[h]
theorem qM2 {op:BinOp} {q r:IntKind} {n m:Int} {K:ZV->Prop} (hk:op=.shl∨op=.shr∨Nat.beq (QT q) (QT r)=true) (hs:zInt op q n m K):RdOk h K (λk=>intBin op q r n m k):=by
 have key:op≠.shl->op≠.shr->Nat.beq (QT q) (QT r)=true:=λa b=>by
  rcases hk with e | e | e
  .exact absurd e a
  .exact absurd e b
  .exact e
 cases op with
 | add=>obtain⟨hs⟩:=hs;exact .val _ hs λk=>by show kEq q r (bAdd q n m k)=_;rw[qu (key (by simp) (by simp))];unfold bAdd;rw[QZ,qN1];simp
 | sub=>obtain⟨hs⟩:=hs;exact .val _ hs λk=>by show kEq q r (bSub q n m k)=_;rw[qu (key (by simp) (by simp))];unfold bSub;rw[QZ,qN1,qR4];simp[Int.sub_eq_add_neg]
 | mul=>obtain⟨hs⟩:=hs;exact .val _ hs λk=>by show kEq q r (bMul q n m k)=_;rw[qu (key (by simp) (by simp))];unfold bMul;rw[QZ];simp
 | quo=>obtain⟨h0,⟨hs⟩⟩:=hs;exact .val _ hs λk=>by show kEq q r (bQuo q n m k)=_;rw[qu (key (by simp) (by simp))];unfold bQuo;rw[qOw h0,Q8,QZ];simp
 | rem=>obtain⟨h0,hs⟩:=hs;exact .val _ hs λk=>by show kEq q r (bRem q n m k)=_;rw[qu (key (by simp) (by simp))];unfold bRem;rw[qOw h0,Q8,jX];simp
 | and=>obtain⟨hs⟩:=hs;exact .val _ hs λk=>by show kEq q r (bAnd q n m k)=_;rw[qu (key (by simp) (by simp))];unfold bAnd;rw[QZ];simp
 | or=>obtain⟨hs⟩:=hs;exact .val _ hs λk=>by show kEq q r (bOr q n m k)=_;rw[qu (key (by simp) (by simp))];unfold bOr;rw[QZ];simp
 | xor=>obtain⟨hs⟩:=hs;exact .val _ hs λk=>by show kEq q r (bXor q n m k)=_;rw[qu (key (by simp) (by simp))];unfold bXor;rw[QZ];simp
 | andNot=>obtain⟨hs⟩:=hs;exact .val _ hs λk=>by show kEq q r (jDw q n m k)=_;rw[qu (key (by simp) (by simp))];unfold jDw;rw[QZ];simp
 | shl =>
  obtain⟨j,e,⟨hs⟩⟩:=hs;subst e;exact .val _ hs λk=>by
   show jr q (n*Int.ofNat (Nat.pow 2 (cnd (Nat.ble j (qh q)) j (qh q)))) k=_;rw[QZ];simp
 | shr =>
  obtain⟨j,e,hs⟩:=hs;subst e;exact .val _ hs λk=>by
   show jY (n.fdiv (Int.ofNat (Nat.pow 2 (cnd (Nat.ble j (qh q)) j (qh q))))) (λr=>k (.int q r))=_;rw[jX];simp
 | eql=>exact .val _ hs λk=>by show kEq q r (bEql q n m k)=_;rw[qu (key (by simp) (by simp))];unfold bEql;rw[QV,qFd];simp
 | neq=>exact .val _ hs λk=>by show kEq q r (bNeq q n m k)=_;rw[qu (key (by simp) (by simp))];unfold bNeq;rw[QV,qFd];simp
 | lss=>exact .val _ hs λk=>by show kEq q r (bLss q n m k)=_;rw[qu (key (by simp) (by simp))];unfold bLss;rw[QV,qG7];simp
 | leq =>
  exact .val _ hs λk=>by
   show kEq q r (bLeq q n m k)=_;rw[qu (key (by simp) (by simp))];unfold bLeq;rw[QV,qG7]
   have:(decide (m<n)).not=decide (n<=m):=by by_cases h:n<=m <;> simp[h] <;> omega
   rw[this];simp
 | gtr=>exact .val _ hs λk=>by show kEq q r (bGtr q n m k)=_;rw[qu (key (by simp) (by simp))];unfold bGtr;rw[QV,qG7];simp
 | geq =>
  exact .val _ hs λk=>by
   show kEq q r (bGeq q n m k)=_;rw[qu (key (by simp) (by simp))];unfold bGeq;rw[QV,qG7]
   have:(decide (n<m)).not=decide (m<=n):=by by_cases h:m<=n <;> simp[h] <;> omega
   rw[this];simp
theorem jFs {op:BinOp} {a b:List Nat} {K:ZV->Prop} (hs:zStr op a b K):RdOk h K (λk=>strBin op a b k):=by
 cases op with
 | add =>
  obtain⟨h0,hs⟩:=hs;exact .val _ hs λk=>by
   show catK a b k=_;unfold catK;rw[jD,jD];simp only[Nat.zero_eq,Nat.zero_add]
   have:Nat.ble (Nat.add a.length b.length) most=true:=zF0 h0
   rw[this,Q6,qz];simp
 | eql=>exact .val _ hs λk=>by show je (qy a b) k=_;rw[QV,ju];simp
 | neq=>exact .val _ hs λk=>by show je (qy a b).not k=_;rw[QV,ju];simp
 | lss=>exact .val _ hs λk=>by show je (qj a b) k=_;rw[QV];simp
 | leq=>exact .val _ hs λk=>by show je (qj b a).not k=_;rw[QV];simp
 | gtr=>exact .val _ hs λk=>by show je (qj b a) k=_;rw[QV];simp
 | geq=>exact .val _ hs λk=>by show je (qj a b).not k=_;rw[QV];simp
 | _=>exact hs.elim
end
end Go.X
namespace Go.X
section
variable {P:Program} {h:Q0}
theorem QI {t n:Nat} (e:Nat.beq (Qd P t) n=true) (m:FM):QK P t n m=m:=by unfold QK;rw[e];rfl
def EqOk (h:Q0) (K:Bool->Prop) (m:(Bool->FM)->FM):Prop:=∃v,K v/\∀(k:Bool->FM) (p:QF),(k v).sat p h->(m k).sat p h
theorem EqOk.val {K:Bool->Prop} {m:(Bool->FM)->FM} (v:Bool) (hk:K v) (e:∀k,m k=k v):EqOk h K m:=⟨v,hk,λk p hs=>by rw[e];exact hs⟩
theorem zEq_sound {lit:Bool} {t:TypeId} {a b:ZV} {K:Bool->Prop} (hl:lit=true∨∀x,a=.any x->b≠.any .nilIface) (hs:zEq P t h a b K):EqOk h K (λk=>xEql P lit t a.av b.av k):=by
 unfold zEq at hs;split at hs
 .rename_i x y;cases ht:Nat.beq (Qd P t) 1 with
  | false=>rw[ht] at hs;exact hs.elim
  | true =>rw[ht] at hs;refine .val _ hs λk=>?_;simp only[qBr];show QK P t 1 (k (cnd x y (cnd y false true)))=_;rw[QI ht];cases x <;> cases y <;> rfl
 .rename_i n i o m j p;cases ht:Nat.beq (Qd P t) 4 with
  | false=>rw[ht] at hs;exact hs.elim
  | true =>
   rw[ht] at hs;cases m with
   | true =>
    refine .val _ hs λk=>?_;cases n with
    | true =>
     show QK P t 4 (k true)=_;rw[QI ht]
    | false =>
     show QK P t 4 (k false)=_;rw[QI ht]
   | false =>
    cases n with
    | true =>
     refine .val _ hs λk=>?_;show QK P t 4 (k false)=_;rw[QI ht]
    | false =>
     simp only[Q8] at hs;cases he:(jDk P t).bind (szO P) with
     | none=>rw[he] at hs;exact hs.elim
     | some sz =>
      rw[he] at hs;cases sz with
      | zero=>exact hs.elim
      | succ sz =>
       obtain⟨hp,hk⟩:=hs;obtain⟨e,he1,he2⟩:=Option.bind_eq_some_iff.1 he;have hx:∀k:Bool->FM,xEql P lit t (ZV.pv false i o).av (ZV.pv false j p).av k=jG0 i o j p k:=by intro k;simp only[qCp];show jE6 P t i o j p k=_;unfold jE6;rw[ht,Q6,he1];show Qj (szO P e) (.fail 60) (λn=>cnd (Nat.beq n Nat.zero) (.fail 60) (jG0 i o j p k))=_;rw[he2];rfl
       by_cases hij:i=j
       .refine .val _ hk λk=>?_;rw[hx];unfold jG0;subst hij;rw[show Nat.beq i i=true from Nat.beq_refl i,Q6];congr 1;cases hb:Nat.beq o p
        .have:o≠p:=λe=>by subst e;simp at hb
         simp[this]
        .simp[QA hb]
       .obtain⟨⟨c1,e1,g1,w1⟩,c2,e2,g2,w2⟩:=hp.resolve_left hij;refine⟨_,hk,λk q hq=>?_⟩;simp only[hx];unfold jG0;have hb:Nat.beq i j=false:=by
         cases hb:Nat.beq i j
         .rfl
         .exact absurd (QA hb) hij
        rw[hb,Q8];refine⟨_,w1,?_⟩;show (FM.get j _).sat q h;refine⟨_,w2,?_⟩;show (k false).sat q h;simpa [hij] using hq
 .rename_i x y;cases ht:Nat.beq (Qd P t) 9 with
  | false=>rw[ht] at hs;exact hs.elim
  | true =>
   rw[ht] at hs;obtain⟨xn,xi,xo,xl,xc,xe⟩:=x;obtain⟨yn,yi,yo,yl,yc,ye⟩:=y;cases yn with
   | true =>
    cases ye with
    | false =>
     refine .val _ hs λk=>?_;cases xn <;> cases xe <;> (show QK P t 9 _=_;rw[QI ht];rfl)
    | true =>
     cases xn with
     | true =>
      cases xe with
      | false =>
       refine .val _ hs λk=>?_;show QK P t 9 _=_;rw[QI ht];rfl
      | true=>exact hs.elim
     | false=>exact hs.elim
   | false =>
    cases xn with
    | true =>
     cases xe with
     | false =>
      refine .val _ hs λk=>?_;show QK P t 9 _=_;rw[QI ht];rfl
     | true=>exact hs.elim
    | false=>exact hs.elim
 .rename_i n i m j;cases ht:Nat.beq (Qd P t) 10 with
  | false=>rw[ht] at hs;exact hs.elim
  | true =>
   rw[ht] at hs;cases m with
   | true =>
    refine .val _ hs λk=>?_;cases n <;> (show QK P t 10 _=_;rw[QI ht];rfl)
   | false =>
    cases n with
    | true =>
     refine .val _ hs λk=>?_;show QK P t 10 _=_;rw[QI ht];rfl
    | false=>exact hs.elim
 .rename_i f a c;cases ht:Nat.beq (Qd P t) 11 with
  | false=>rw[ht] at hs;exact hs.elim
  | true =>rw[ht] at hs;refine .val _ hs λk=>?_;simp only[qXn,qEo];show QK P t 11 (k false)=_;rw[QI ht]
 .rename_i a;cases ht:Nat.beq (Qd P t) 11 with
  | false=>rw[ht] at hs;exact hs.elim
  | true =>
   rw[ht] at hs;obtain⟨hf,hs⟩:=hs;refine .val _ hs λk=>?_;simp only[qEo];cases a with
   | nilFunc=>show QK P t 11 (k true)=_;rw[QI ht];rfl
   | func f x y=>show QK P t 11 (k false)=_;rw[QI ht];rfl
   | _=>cases hf
 .rename_i u v;cases ht:Nat.beq (Qd P t) 6 with
  | false=>rw[ht] at hs;exact hs.elim
  | true =>rw[ht] at hs;refine .val _ hs λk=>?_;simp only[qDk,qEo];show QK P t 6 (k false)=_;rw[QI ht]
 .rename_i a;cases ht:Nat.beq (Qd P t) 6 with
  | false=>rw[ht] at hs;exact hs.elim
  | true =>
   rw[ht] at hs;have hl2:lit=true:=hl.resolve_right λhh=>hh a rfl rfl;subst hl2;obtain⟨hf,hs⟩:=hs;refine .val _ hs λk=>?_;simp only[qEo];cases a with
   | nilIface=>show QK P t 6 (k true)=_;rw[QI ht];rfl
   | iface u v=>show QK P t 6 (k false)=_;rw[QI ht];rfl
   | _=>cases hf
 .rename_i t1 q n t2 r m;cases ht:Nat.beq (Qd P t) 6 with
  | false=>rw[ht] at hs;exact hs.elim
  | true =>
   rw[ht] at hs;simp only at hs;cases h12:Nat.beq t1 t2 with
   | false =>
    rw[h12] at hs;refine .val _ hs λk=>?_;simp only[qDk,qAz];show QK P t 6 (cnd (Nat.beq t1 t2) _ (k false))=_;rw[QI ht,h12,Q8]
   | true =>
    rw[h12] at hs;simp only at hs;cases hc:cmpO P t1 with
    | none=>rw[hc] at hs;exact hs.elim
    | some c =>
     rw[hc] at hs;cases c with
     | false=>exact hs.elim
     | true =>
      cases ht2:Nat.beq (Qd P t1) 2 with
      | false=>rw[ht2] at hs;exact hs.elim
      | true =>
       cases hkk:Nat.beq (QT q) (QT r) with
       | false=>rw[ht2,hkk] at hs;exact hs.elim
       | true =>rw[ht2,hkk] at hs;refine .val _ hs λk=>?_;simp only[qDk,qAz];show QK P t 6 (cnd (Nat.beq t1 t2) (Qj (cmpO P t1) (.fail 63) λc=>cnd c (QK P t1 2 (kEq q r (k (eqI n m)))) (.fail 63)) (k false))=_;rw[QI ht,h12,Q6,hc];show QK P t1 2 (kEq q r (k (eqI n m)))=_;rw[QI ht2,qu hkk,qFd]
 .exact hs.elim
theorem eqv_sound {op:BinOp} (hop:op=.eql∨op=.neq) {lit:Bool} {t:TypeId} {a b:ZV} {K:ZV->Prop} (hl:lit=true∨∀x,a=.any x->b≠.any .nilIface)
  (hs:zEq P t h a b λr=>K (.bool (if op=.eql then r else !r))):RdOk h K (λk=>eqBin P lit op t a.av b.av k):=by
 obtain⟨v,hk,e⟩:=zEq_sound hl hs;refine⟨_,hk,λk p hp=>?_⟩;rcases hop with rfl | rfl
 .show (xEql P lit t a.av b.av λr=>je r k).sat p h;refine e _ p ?_;rw[QV];simpa using hp
 .show (xEql P lit t a.av b.av λr=>je r.not k).sat p h;refine e _ p ?_;rw[QV];simpa using hp
end
end Go.X
namespace Go.X
section
variable {P:Program} {h:Q0}
theorem binAV_sl {lit:Bool} {op:BinOp} {t:TypeId} {a b:AV} {k:KV} (ha:∀q n,a≠.int q n) (ha':∀s,a≠.str s):qTo P lit op t a b k=eqBin P lit op t a b k:=by cases a <;> first | rfl | exact absurd rfl (ha _ _) | exact absurd rfl (ha' _)
def ZV.solid:ZV->Bool
 | .any _ | .int _ _ | .str _=>false
 | _=>true
theorem ZV.solid_av {a:ZV} (hs:a.solid=true):(∀q n,a.av≠.int q n)/\(∀s,a.av≠.str s):=by
 cases a with
 | any a=>cases hs
 | int q n=>cases hs
 | str s=>cases hs
 | bool b=>simp
 | pv n i o=>cases n <;> simp
 | sl s=>obtain⟨n,_,_,_,_,x⟩:=s;cases n <;> cases x <;> simp[SL.av]
 | mp n i=>cases n <;> simp
 | fn f a c=>simp
 | iface t v=>simp
 | agg cs=>simp
 | tup cs=>simp
theorem isIf_no {a:AV} (h:isIf a=true):(∀q n,a≠.int q n)/\(∀s,a≠.str s):=by cases a <;> simp_all [isIf]
theorem isFn_no {a:AV} (h:isFn a=true):(∀q n,a≠.int q n)/\(∀s,a≠.str s):=by cases a <;> simp_all [isFn]
theorem zEq_noint {t:TypeId} {a b:ZV} {K:Bool->Prop} (hs:zEq P t h a b K):(∀q n,a.av≠.int q n)/\(∀s,a.av≠.str s):=by
 cases hsol:a.solid with
 | true=>exact ZV.solid_av hsol
 | false =>
  unfold zEq at hs;split at hs <;> first | (cases hsol;done) | skip
  .split at hs
   .obtain⟨hf,_⟩:=hs;rw[qEo];exact isFn_no hf
   .exact hs.elim
  .split at hs
   .obtain⟨hf,_⟩:=hs;rw[qEo];exact isIf_no hf
   .exact hs.elim
  .exact hs.elim
theorem jF0 {lit:Bool} {op:BinOp} {t:TypeId} {a b:ZV} {K:ZV->Prop} (hs:zBin P lit op t h a b K):RdOk h K (λk=>qTo P lit op t a.av b.av k):=by
 unfold zBin at hs;split at hs
 .rename_i q n r m;simp only[qAz];split at hs
  .exact qM2 (r:=r) (.inl rfl) hs
  .exact qM2 (r:=r) (.inr (.inl rfl)) hs
  .split at hs
   .rename_i hb;exact qM2 (.inr (.inr hb)) hs
   .exact hs.elim
 .simp only[qHc];exact jFs hs
 .exact hs.elim
 .exact hs.elim
 .have fin:∀(o:BinOp),o=.eql∨o=.neq->(lit=true∨∀x,a=.any x->b≠.any .nilIface)->(zEq P t h a b λr=>K (.bool (if o=.eql then r else !r)))->RdOk h K (λk=>qTo P lit o t a.av b.av k):=by
   intro o ho hl hz;obtain⟨n1,n2⟩:=zEq_noint hz;obtain⟨v,hk,e⟩:=eqv_sound ho hl hz;exact⟨v,hk,λk p hp=>by simp only[binAV_sl n1 n2];exact e k p hp⟩
  split at hs
  .exact fin .eql (.inl rfl) (.inl rfl) (by simpa using hs)
  .exact fin .neq (.inr rfl) (.inl rfl) (by simpa using hs)
  .split at hs
   .exact hs.elim
   .rename_i hno;exact fin .eql (.inl rfl) (.inr λx e f=>hno x e f) (by simpa using hs)
  .split at hs
   .exact hs.elim
   .rename_i hno;exact fin .neq (.inr rfl) (.inr λx e f=>hno x e f) (by simpa using hs)
  .exact hs.elim
end
def oNat (d:Nat) (x:Option ZV) (K:Nat->Prop):Prop:=match x with
 | none=>K d
 | some (.int _ n)=>qO n K
 | _=>False
def SL.cut (s:SL) (sz l h m:Nat) (e:Bool):SL:=match Nat.beq l m && e && !s.nil with
 | true=>⟨true,0,0,0,0,true⟩
 | false=>⟨s.nil,s.i,match Nat.beq l m with | true=>s.o | false=>s.o+l*sz,h-l,m-l,e⟩
theorem SL.cut_false (s:SL) (sz l h m:Nat):s.cut sz l h m false=⟨s.nil,s.i,match Nat.beq l m with | true=>s.o | false=>s.o+l*sz,h-l,m-l,false⟩:=by unfold SL.cut;rw[Bool.and_false];rfl
theorem SL.cut_nil {s:SL} (hn:s.nil=true) (sz l h m:Nat) (e:Bool):s.cut sz l h m e=⟨true,s.i,match Nat.beq l m with | true=>s.o | false=>s.o+l*sz,h-l,m-l,e⟩:=by unfold SL.cut;rw[hn,Bool.not_true,Bool.and_false]
section
variable (P:Program)
def zSlc (t:TypeId) (x:ZV) (lo hi mx:Option ZV) (K:ZV->Prop):Prop:=match x with
 | .str s=>match Nat.beq (Qd P t) 3,mx with
  | true,none=>oNat 0 lo λl=>oNat s.length hi λh=>Ql (l<=h/\h<=s.length) (K (.str ((s.take h).drop l)))
  | _,_=>False
 | .sl s=>match (qL P t).bind (szO P),Nat.beq (Qd P t) 9 with
  | some sz,true=>match mx with
   | none=>oNat 0 lo λl=>oNat s.n hi λh=>Ql ((s.nil=true->l=0/\h=0)/\(s.nil=false->l<=h/\h<=s.cap)) (K (.sl (s.cut sz l h s.cap s.ext)))
   | some (.int _ mm)=>match hi with
    | some (.int _ hn)=>oNat 0 lo λl=>qO hn λh=>qO mm λm=>Ql ((s.nil=true->l=0/\h=0/\m=0/\s.ext=false)/\(s.nil=false->l<=h/\h<=m/\m<=s.cap)) (K (.sl (s.cut sz l h m false)))
    | _=>False
   | _=>False
  | _,_=>False
 | .pv nil i o=>match Jz P t,mx with
  | some (n,e),none=>match szO P e with
   | some sz=>Ql (nil=false) (oNat 0 lo λl=>oNat n hi λh=>Ql (l<=h/\h<=n) (K (.sl (SL.cut ⟨false,i,o,n,n,false⟩ sz l h n false))))
   | none=>False
  | _,_=>False
 | _=>False
end
section
variable {P:Program} {h:Q0}
theorem qE8 {d:Nat} {x:Option ZV} {K:Nat->Prop} (hs:oNat d x K):∃m,K m/\∀k:Nat->FM,qJ d (x.map ZV.av) k=k m:=by
 unfold oNat at hs;split at hs
 .exact⟨_,hs,λk=>rfl⟩
 .obtain⟨m,e,hk⟩:=hs;subst e;exact⟨m,hk,λk=>by
   show qJ d (some (ZV.int _ _).av) k=_;rw[qAz];rfl⟩
 .exact hs.elim
theorem Qa {α:Type} (a:α) (d:FM) (k:α->FM):Qj (some a) d k=k a:=rfl
theorem qSb {a b c:Nat} (h1:a<=b) (h2:b<=c):leb3 a b c=true:=by unfold leb3;rw[zF0 h1,zF0 h2];rfl
theorem qT4 {e:TypeId} {sz:Nat} (hsz:szO P e=some sz) {i o len cap:Nat} {ext:Bool} {lo hi:Option AV} {l hh:Nat} (h1:∀k:Nat->FM,qJ Nat.zero lo k=k l) (h2:∀k:Nat->FM,qJ len hi k=k hh)
  (hl:l<=hh) (hc:hh<=cap) (k:KV):j4 P e i o len cap ext lo hi none k=k (SL.cut ⟨false,i,o,len,cap,ext⟩ sz l hh cap ext).av:=by
 unfold j4;rw[h1];show qJ len hi _=_;rw[h2,qSb hl hc,Q6];unfold SL.cut SL.av;cases hb:Nat.beq l cap with
 | true =>
  have e:=QA hb;rw[Q6];cases ext with
  | true=>rfl
  | false =>
  rw[Q8];simp only[Bool.and_false,Bool.false_and];have e1:hh-l=0:=by omega
  have e2:cap-l=0:=by omega
  rw[e1,e2]
 | false =>rw[Q8];unfold qVw;rw[hsz,Qa,Qb,Qb,Qb];rfl
theorem qTt {t:TypeId} {x:ZV} {lo hi mx:Option ZV} {K:ZV->Prop} (hs:zSlc P t x lo hi mx K):RdEq K (λk=>qX8 P t x.av (lo.map ZV.av) (hi.map ZV.av) (mx.map ZV.av) k):=by
 unfold zSlc at hs;split at hs
 .rename_i s;split at hs
  .rename_i ht;obtain⟨l,hs,e1⟩:=qE8 hs;obtain⟨hh,hs,e2⟩:=qE8 hs;obtain⟨⟨h1,h2⟩,hk⟩:=hs;refine .val _ hk λk=>?_;show cnd (Nat.beq (Qd P t) 3) (slStr s (lo.map ZV.av) (hi.map ZV.av) k) (.fail 26)=_;rw[ht,Q6];unfold slStr;rw[jD,show Nat.zero+s.length=s.length from Nat.zero_add _];have e1':∀k:Nat->FM,qJ Nat.zero (lo.map ZV.av) k=k l:=e1;rw[e1',e2,qSb h1 h2,Q6,jQ,if_pos h2,qq,qHc]
  .exact hs.elim
 .rename_i s;split at hs
  .rename_i sz he ht;obtain⟨e,he1,he2⟩:=Option.bind_eq_some_iff.1 he;obtain⟨sn,si,so,sl,sc,se⟩:=s;split at hs
   .obtain⟨l,hs,e1⟩:=qE8 hs;obtain⟨hh,hs,e2⟩:=qE8 hs;obtain⟨⟨h1,h2⟩,hk⟩:=hs;refine .val _ hk λk=>?_;cases sn with
    | true =>
     obtain⟨r1,r2⟩:=h1 rfl;subst r1;subst r2;cases se with
     | false =>
      show cnd (Nat.beq (Qd P t) 9) (Qj (qL P t) (.fail 26) λe=>Qj (szO P e) (.fail 26) λ_=>qHn .nils (lo.map ZV.av) (hi.map ZV.av) none k) (.fail 26)=_;rw[ht,Q6,he1];show Qj (szO P e) (.fail 26) (λ_=>qHn .nils (lo.map ZV.av) (hi.map ZV.av) none k)=_;rw[he2];show qHn .nils (lo.map ZV.av) (hi.map ZV.av) none k=_;unfold qHn;rw[e1];show qJ Nat.zero (hi.map ZV.av) _=_;have e2':∀k:Nat->FM,qJ Nat.zero (hi.map ZV.av) k=k 0:=e2;rw[e2',SL.cut_nil rfl];rfl
     | true =>
      show cnd (Nat.beq (Qd P t) 9) (Qj (qL P t) (.fail 26) λe=>Qj (szO P e) (.fail 26) λ_=>qHn .emp (lo.map ZV.av) (hi.map ZV.av) none k) (.fail 26)=_;rw[ht,Q6,he1];show Qj (szO P e) (.fail 26) (λ_=>qHn .emp (lo.map ZV.av) (hi.map ZV.av) none k)=_;rw[he2];show qHn .emp (lo.map ZV.av) (hi.map ZV.av) none k=_;unfold qHn;rw[e1];show qJ Nat.zero (hi.map ZV.av) _=_;have e2':∀k:Nat->FM,qJ Nat.zero (hi.map ZV.av) k=k 0:=e2;rw[e2',SL.cut_nil rfl];rfl
    | false =>obtain⟨r1,r2⟩:=h2 rfl;show Qj (qL P t) (.fail 26) (λe=>Qj (szO P e) (.fail 26) λ_=>j4 P e si so sl sc se (lo.map ZV.av) (hi.map ZV.av) none k)=_;rw[he1];show Qj (szO P e) (.fail 26) (λ_=>j4 P e si so sl sc se (lo.map ZV.av) (hi.map ZV.av) none k)=_;rw[he2];show j4 P e si so sl sc se (lo.map ZV.av) (hi.map ZV.av) none k=_;rw[qT4 (len:=sl) (cap:=sc) (ext:=se) he2 e1 e2 r1 r2];simp
   .rename_i mm;split at hs
    .rename_i q hn;obtain⟨l,hs2,e1⟩:=qE8 (d:=0) (x:=lo) hs;obtain⟨hh,eh,hs3⟩:=hs2;subst eh;obtain⟨m,em,hs4⟩:=hs3;subst em;obtain⟨⟨h1,h2⟩,hk⟩:=hs4;refine .val _ hk λk=>?_;cases sn with
     | true =>
      obtain⟨r1,r2,r3,r4⟩:=h1 rfl;have r4:se=false:=r4;subst r1;subst r2;subst r3;subst r4;show cnd (Nat.beq (Qd P t) 9) (Qj (qL P t) (.fail 26) λe=>Qj (szO P e) (.fail 26) λ_=>qHn .nils (lo.map ZV.av) (some (ZV.int q ((0:Nat):Int)).av) (some (ZV.int _ ((0:Nat):Int)).av) k) (.fail 26)=_;rw[ht,Q6,he1];show Qj (szO P e) (.fail 26) (λ_=>qHn .nils (lo.map ZV.av) (some (ZV.int q ((0:Nat):Int)).av) (some (ZV.int _ ((0:Nat):Int)).av) k)=_;rw[he2];show qHn .nils (lo.map ZV.av) (some (ZV.int q ((0:Nat):Int)).av) (some (ZV.int _ ((0:Nat):Int)).av) k=_;unfold qHn;rw[e1];simp only[qAz];rfl
     | false =>
      obtain⟨r1,r2,r3⟩:=h2 rfl;show Qj (qL P t) (.fail 26) (λe=>Qj (szO P e) (.fail 26) λ_=>j4 P e si so sl sc se (lo.map ZV.av) (some (ZV.int q (hh:Int)).av) (some (ZV.int _ (m:Int)).av) k)=_;rw[he1];show Qj (szO P e) (.fail 26) (λ_=>j4 P e si so sl sc se (lo.map ZV.av) (some (ZV.int q (hh:Int)).av) (some (ZV.int _ (m:Int)).av) k)=_;rw[he2];show j4 P e si so sl sc se (lo.map ZV.av) (some (ZV.int q (hh:Int)).av) (some (ZV.int _ (m:Int)).av) k=_;unfold j4;rw[e1];simp only[qAz];show cnd (cnd (leb3 l hh m) (Nat.ble m sc) false) (cnd (Nat.beq m l) _ _) (FM.fail 24)=_;rw[qSb r1 r2,Q6,zF0 r3,Q6];rw[qFi];unfold SL.cut SL.av;cases hb:Nat.beq m l with
      | true =>
       have em:=QA hb;subst em;rw[Q6];simp only[Nat.beq_refl]
       have:hh-m=0:=by omega
       simp[this]
      | false =>
       have hb2:Nat.beq l m=false:=by
        cases hb2:Nat.beq l m
        .rfl
        .have:=QA hb2;subst this;simp at hb
       rw[Q8];simp only[hb2];unfold qVw;rw[he2,Qa,Qb,Qb,Qb];rfl
    .exact hs.elim
   .exact hs.elim
  .exact hs.elim
 .rename_i nil i o;split at hs
  .rename_i n e he;split at hs
   .rename_i sz hsz;obtain⟨hn,hs⟩:=hs;subst hn;obtain⟨l,hs,e1⟩:=qE8 hs;obtain⟨hh,hs,e2⟩:=qE8 hs;obtain⟨⟨h1,h2⟩,hk⟩:=hs;refine .val _ hk λk=>?_;simp only[qCp];show Qj (Jz P t) (.fail 27) (λne=>Qj (szO P ne.2) (.fail 26) λ_=>j4 P ne.2 i o ne.1 ne.1 false (lo.map ZV.av) (hi.map ZV.av) none k)=_;rw[he];show Qj (szO P e) (.fail 26) (λ_=>j4 P e i o n n false (lo.map ZV.av) (hi.map ZV.av) none k)=_;rw[hsz];show j4 P e i o n n false (lo.map ZV.av) (hi.map ZV.av) none k=_;rw[qT4 hsz e1 e2 h1 h2];simp[SL.cut]
   .exact hs.elim
  .exact hs.elim
 .exact hs.elim
end
end Go.X
namespace Go.X
inductive ZRI (v:AV) (q:IntKind) (K:Int->Prop):Prop where
 | mk (n:Int) (e:v=.int q n) (k:K n)
inductive ZRB (v:AV) (K:Bool->Prop):Prop where
 | mk (b:Bool) (e:v=.bool b) (k:K b)
inductive ZRS (v:AV) (K:List Nat->Prop):Prop where
 | mk (l:List Nat) (e:v=.str l) (k:K l)
inductive ZRP (v:AV) (K:Bool->Nat->Nat->Prop):Prop where
 | mk (nil:Bool) (j p:Nat) (e:v=(ZV.pv nil j p).av) (k:K nil j p)
inductive ZRL (v:AV) (K:SL->Prop):Prop where
 | mk (s:SL) (e:v=s.av) (k:K s)
inductive ZRM (v:AV) (K:Bool->Nat->Prop):Prop where
 | mk (nil:Bool) (j:Nat) (e:v=(ZV.mp nil j).av) (k:K nil j)
def avsOf (f:Nat->AV):Nat->List AV
 | 0=>[]
 | n+1=>avsOf f n++[f n]
inductive ZRA (v:AV) (n:Nat) (K:(Nat->AV)->Prop):Prop where
 | mk (f:Nat->AV) (e:v=.agg (avsOf f n)) (k:K f)
inductive ZRT (v:AV) (n:Nat) (K:(Nat->AV)->Prop):Prop where
 | mk (f:Nat->AV) (e:v=.tuple (avsOf f n)) (k:K f)
def zSh (s:Sh) (v:AV) (K:ZV->Prop):Prop:=match s with
 | .I q=>ZRI v q λn=>K (.int q n)
 | .B=>ZRB v λb=>K (.bool b)
 | .S=>ZRS v λl=>K (.str l)
 | .P=>ZRP v λn j p=>K (.pv n j p)
 | .L=>ZRL v λs=>K (.sl s)
 | .M=>ZRM v λn j=>K (.mp n j)
 | .A=>K (.any v)
def zShs (l:List Sh) (vs:List AV) (K:List ZV->Prop):Prop:=match l,vs with
 | [],[]=>K []
 | s::r,v::vs=>zSh s v λu=>zShs r vs λus=>K (u::us)
 | _,_=>False
section
variable (P:Program)
def zTy1 (t:TypeId) (v:AV) (K:ZV->Prop):Prop:=match qSd P t with
 | some true=>match qK4 P 8 t with | some l=>ZRA v l.length λf=>zShs l (avsOf f l.length) λus=>K (.agg us) | none=>False
 | some false=>zSh (shapeOf P t) v K
 | none=>False
end
section
variable {P:Program}
theorem jD4 {s:Sh} {v:AV} {K:ZV->Prop} (hs:zSh s v K):∃u,u.av=v/\K u:=by
 cases s with
 | I q=>obtain⟨n,e,k⟩:=hs;exact⟨_,by rw[qAz,e],k⟩
 | B=>obtain⟨n,e,k⟩:=hs;exact⟨_,by rw[qBr,e],k⟩
 | S=>obtain⟨n,e,k⟩:=hs;exact⟨_,by rw[qHc,e],k⟩
 | P=>obtain⟨n,j,p,e,k⟩:=hs;exact⟨_,e.symm,k⟩
 | L=>obtain⟨n,e,k⟩:=hs;exact⟨_,by rw[qFi,e],k⟩
 | M=>obtain⟨n,j,e,k⟩:=hs;exact⟨_,e.symm,k⟩
 | A=>exact⟨.any v,by simp,hs⟩
theorem qXx:∀{l:List Sh} {vs:List AV} {K:List ZV->Prop},zShs l vs K->∃us,avs us=vs/\K us
 | [],[],K,hs=>⟨[],rfl,hs⟩
 | [],_::_,K,hs=>hs.elim
 | _::_,[],K,hs=>hs.elim
 | s::r,v::vs,K,hs=>by obtain⟨u,e1,h1⟩:=jD4 hs;obtain⟨us,e2,h2⟩:=qXx h1;exact⟨u::us,by rw[qBz,e1,e2],h2⟩
theorem qKq {t:TypeId} {v:AV} {K:ZV->Prop} (hs:zTy1 P t v K):∃u,u.av=v/\K u:=by
 unfold zTy1 at hs;split at hs
 .split at hs
  .obtain⟨f,e,hk⟩:=hs;obtain⟨us,e2,h2⟩:=qXx hk;exact⟨.agg us,by rw[qEp,e2,e],h2⟩
  .exact hs.elim
 .exact jD4 hs
 .exact hs.elim
end
section
variable (P:Program)
def zPick (t:Bool) (a b:ZV) (K:ZV->Prop):Prop:=match a,b with
 | .bool x,.bool y=>K (.bool (cnd t x y))
 | .int q n,.int r m=>match Nat.beq (QT q) (QT r) with | true=>K (.int q (cnd t n m)) | false=>False
 | a,b=>cnd t (K a) (K b)
def zCnv (s d:TypeId) (x:ZV) (h:Q0) (K:ZV->Prop):Prop:=match cvOf P s d,x with
 | .toInt q,.int _ n=>ZW q n λr=>K (.int q r)
 | .toString,.str l=>K (.str l)
 | .bytes,.sl s=>ZBytes h s λl=>K (.str l)
 | _,_=>False
def zNth (cs:List ZV) (n:Nat):Option ZV:=match cs,n with
 | [],_=>none
 | v::_,0=>some v
 | _::l,n+1=>zNth l n
def zDrop (cs:List ZV) (n:Nat):List ZV:=match cs,n with
 | l,0=>l
 | [],_+1=>[]
 | _::l,n+1=>zDrop l n
def jFr (n:Nat) (cs:List ZV):Option (List ZV):=match n,cs with
 | 0,_=>some []
 | _+1,[]=>none
 | n+1,v::l=>match jFr n l with | some r=>some (v::r) | none=>none
def jFu (t:TypeId) (cs:List ZV) (off:Nat) (K:ZV->Prop):Prop:=match qSd P t with
 | some true=>match szO P t with
  | some n=>match jFr n (zDrop cs off) with | some l=>K (.agg l) | none=>False
  | none=>False
 | some false=>match zNth cs off with | some v=>K v | none=>False
 | none=>False
def zField (t:TypeId) (x:ZV) (f:Nat) (K:ZV->Prop):Prop:=match x,qFo P t f with
 | .agg cs,some fd=>jFu P fd.type cs fd.offset K
 | _,_=>False
def qM4 (t:TypeId) (x:ZV) (f:Nat) (K:ZV->Prop):Prop:=match x,qFo P t f with
 | .pv nil i o,some fd=>match szO P fd.type with
  | some (_+1)=>Ql (nil=false) (K (.pv false i (Nat.add o fd.offset)))
  | _=>False
 | _,_=>False
def qVg (t:TypeId) (x ix:ZV) (K:ZV->Prop):Prop:=match x,ix with
 | .sl s,.int _ n=>match (qL P t).bind (szO P) with
  | some sz=>Ql (s.nil=false) (ZIdx n s.len λm=>K (.pv false s.i (s.o+m*sz)))
  | none=>False
 | .pv nil i o,.int _ n=>match Jz P t with
  | some (len,e)=>match szO P e with
   | some sz=>Ql (nil=false) (ZIdx n len λm=>K (.pv false i (o+m*sz)))
   | none=>False
  | none=>False
 | _,_=>False
def zIdx (t:TypeId) (x ix:ZV) (K:ZV->Prop):Prop:=match x,ix with
 | .str s,.int _ n=>match Nat.beq (Qd P t) 3 with | true=>ZIdx n s.length λm=>K (.int .u8 (.ofNat (s.getD m 0))) | false=>False
 | _,_=>False
def zAsT (t:TypeId) (a:AV) (K:ZV->Prop):Prop:=zTy1 P t a K
def jBi (t:TypeId) (m key:ZV) (ok:Bool) (h:Q0) (K:ZV->Prop):Prop:=match m,qNv P t with
 | .mp nil i,some (kt,e)=>match key with
  | .int q n=>match Nat.beq (Qd P kt) 2,Jb P e with
   | true,some z=>ZLook h nil i (.int q n) (λv=>zAsT P e v λu=>cnd ok (K (.tup [u,.bool true])) (K u)) (cnd ok (K (.tup [zOf z,.bool false])) (K (zOf z)))
   | _,_=>False
  | .str l=>match Nat.beq (Qd P kt) 3,Jb P e with
   | true,some z=>ZLook h nil i (.str l) (λv=>zAsT P e v λu=>cnd ok (K (.tup [u,.bool true])) (K u)) (cnd ok (K (.tup [zOf z,.bool false])) (K (zOf z)))
   | _,_=>False
  | _=>False
 | _,_=>False
def zTa (as:TypeId) (ok r:Bool) (v:ZV) (K:ZV->Prop):Prop:=match r,ok with
 | true,true=>K (.tup [v,.bool true])
 | true,false=>K v
 | false,true=>match Jb P as with | some z=>K (.tup [zOf z,.bool false]) | none=>False
 | false,false=>False
def jBq (x:ZV) (as:TypeId) (ok:Bool) (K:ZV->Prop):Prop:=match Nat.beq (Qd P as) 0,x with
 | false,.iface t v=>match qJf P as with
  | none=>zTa P as ok (Nat.beq t as) v K
  | some want=>match jE P want t with | some r=>zTa P as ok r (.iface t v) K | none=>False
 | false,.any .nilIface=>zTa P as ok false (.any .junk) K
 | _,_=>False
def zLen (t:TypeId) (x:ZV) (h:Q0) (K:ZV->Prop):Prop:=match x with
 | .sl s=>match Nat.beq (Qd P t) 9 with | true=>K (.int .i64 (.ofNat s.n)) | false=>False
 | .str l=>match Nat.beq (Qd P t) 3 with | true=>K (.int .i64 (.ofNat l.length)) | false=>False
 | .mp nil i=>match Nat.beq (Qd P t) 10 with
  | true=>cnd nil (K (.int .i64 0)) (∃es ver,h.get i=some (.map es ver)/\K (.int .i64 (.ofNat es.length)))
  | false=>False
 | _=>False
def zBltR (b:Builtin) (l:List ZV) (ts:Array TypeId) (h:Q0) (K:ZV->Prop):Prop:=match b,l with
 | .len,[x]=>match ts[0]? with | some t=>zLen P t x h K | none=>False
 | .cap,[.sl s]=>match ts[0]? with | some t=>(match Nat.beq (Qd P t) 9 with | true=>Ql (s.ext=false) (K (.int .i64 (.ofNat (cnd s.nil 0 s.cap)))) | false=>False) | none=>False
 | .max,[.int q n,.int r m]=>match Nat.beq (QT q) (QT r) with | true=>K (.int q (if n<m then m else n)) | false=>False
 | .min,[.int q n,.int r m]=>match Nat.beq (QT q) (QT r) with | true=>K (.int q (if m<n then m else n)) | false=>False
 | _,_=>False
def qS4 (vs l:List ZV):Option (List ZV):=match vs,l with
 | [],l=>some l
 | _::_,[]=>none
 | v::vs,_::l=>match qS4 vs l with | some r=>some (v::r) | none=>none
def qJc (vs:List ZV) (n:Nat) (l:List ZV):Option (List ZV):=match n,l with
 | 0,l=>qS4 vs l
 | _+1,[]=>none
 | n+1,v::l=>match qJc vs n l with | some r=>some (v::r) | none=>none
def jEa (n:Nat) (v:ZV) (K:List ZV->Prop):Prop:=match v with
 | .agg cs=>match Nat.beq cs.length n with | true=>K cs | false=>False
 | .tup _=>False
 | .any a=>match n with | 1=>Ql (a.plainC=true) (K [.any a]) | _=>False
 | v=>match n with | 1=>K [v] | _=>False
def zFill (z:ZT) (place:Nat->Option (Nat × Nat)) (parts:List (Nat × Operand)) (cs:List ZV) (K:List ZV->Prop):Prop:=match parts with
 | []=>K cs
 | p::r=>match place p.1 with
  | some os=>jEa os.2 (zEv P z p.2) λps=>match qJc ps os.1 cs with | some cs'=>zFill z place r cs' K | none=>False
  | none=>False
def cellsOf:AV->Option (List AV)
 | .junk=>none
 | .agg cs=>some cs
 | v=>some [v]
def zBuild (z:ZT) (t:TypeId) (parts:Array (Nat × Operand)) (K:ZV->Prop):Prop:=match (Jb P t).bind cellsOf,placeOf P t with
 | some zs,some pl=>zFill P z pl parts.toList (zOfs zs) λcs=>K (.agg cs)
 | _,_=>False
def zEqL (ih:TypeId->ZV->ZV->(Bool->Prop)->Prop) (l:List (TypeId × Nat)) (cs ds:List ZV) (K:Bool->Prop):Prop:=match l with
 | []=>K true
 | x::r=>jFu P x.1 cs x.2 λu=>jFu P x.1 ds x.2 λv=>ih x.1 u v λb=>cnd b (zEqL ih r cs ds K) (K false)
def zEqA:Nat->TypeId->ZV->ZV->(Bool->Prop)->Prop
 | 0,_,_,_,_=>False
 | n+1,t,a,b,K=>match a,b with
  | .agg cs,.agg ds=>match qNi P t with | some l=>zEqL P (zEqA n) l cs ds K | none=>False
  | .int q x,.int r y=>match Nat.beq (Qd P t) 2,Nat.beq (QT q) (QT r) with | true,true=>K (decide (x=y)) | _,_=>False
  | .bool x,.bool y=>match Nat.beq (Qd P t) 1 with | true=>K (decide (x=y)) | false=>False
  | _,_=>False
def zBinA (lit:Bool) (op:BinOp) (t:TypeId) (h:Q0) (a b:ZV) (K:ZV->Prop):Prop:=match a,b with
 | .agg cs,.agg ds=>Ql (P.eqGuardType P.depth t=false) (match op with
  | .eql=>zEqA P 6 t (.agg cs) (.agg ds) λr=>K (.bool r)
  | .neq=>zEqA P 6 t (.agg cs) (.agg ds) λr=>K (.bool (!r))
  | _=>False)
 | a,b=>zBin P lit op t h a b K
def qJk (o:Op) (z:ZT) (h:Q0) (K:ZV->Prop):Prop:=match o with
 | .move x=>K (zEv P z x)
 | .assign x=>K (zEv P z x)
 | .pick c a b=>match zEv P z c with | .bool t=>zPick t (zEv P z a) (zEv P z b) K | _=>False
 | .nilCheck x=>match zEv P z x with
  | .pv nil i o=>Ql (nil=false) (K (.pv false i o))
  | .iface t v=>K (.iface t v)
  | .fn (.plain (.func f)) a b=>K (.fn (.plain (.func f)) a b)
  | .any a=>Ql (okRef a=true) (K (.any a))
  | _=>False
 | .binOp op t x y _=>zBinA P (cnd (isLit x) true (isLit y)) op t h (zEv P z x) (zEv P z y) K
 | .unOp op _ x=>match op,zEv P z x with
  | .neg,.int q n=>ZW q (-n) λr=>K (.int q r)
  | .xor,.int q n=>ZW q (.ofNat (Nat.xor (Nat.sub (Nat.pow 2 (qh q)) 1) (toU q n))) λr=>K (.int q r)
  | .not,.bool b=>K (.bool (!b))
  | _,_=>False
 | .convert s d x=>zCnv P s d (zEv P z x) h K
 | .makeInterface t x=>match Nat.beq (Qd P t) 6,Nat.beq (Qd P t) 0 with | false,false=>K (.iface t (zEv P z x)) | _,_=>False
 | .makeFunc f a c=>K (.fn (.plain f) (zEvs P z a.toList) (zEvs P z c.toList))
 | .slice t x lo hi mx=>zSlc P t (zEv P z x) (zEvo P z lo) (zEvo P z hi) (zEvo P z mx) K
 | .fieldAddr t x f=>qM4 P t (zEv P z x) f K
 | .field t x f=>zField P t (zEv P z x) f K
 | .indexAddr t x i=>qVg P t (zEv P z x) (zEv P z i) K
 | .index t x i=>zIdx P t (zEv P z x) (zEv P z i) K
 | .lookup t m k ok=>jBi P t (zEv P z m) (zEv P z k) ok h K
 | .load t a=>match zEv P z a with | .pv nil i o=>Ql (nil=false) (jFv P t i o h K) | _=>False
 | .typeAssert x _ as ok=>jBq P (zEv P z x) as ok K
 | .extract t n=>match zEv P z t with | .tup vs=>(match zNth vs n with | some v=>K v | none=>False) | _=>False
 | .call c=>match c.callee with | .builtin b=>zBltR P b (zEvs P z c.args.toList) c.argTypes h K | _=>False
 | .build t parts=>zBuild P z t parts K
 | _=>False
end
section
variable {P:Program} {h:Q0}
theorem qQc {t:Bool} {a b:ZV} {K:ZV->Prop} (hs:zPick t a b K):RdEq K (λk=>cnd t (k a.av) (k b.av)):=by
 unfold zPick at hs;split at hs
 .refine .val _ hs λk=>?_;simp only[qBr];cases t <;> rfl
 .split at hs
  .rename_i hb;have e:=qP2 hb;subst e;refine .val _ hs λk=>?_;simp only[qAz];cases t <;> rfl
  .exact hs.elim
 .cases t
  .exact .val _ hs λk=>rfl
  .exact .val _ hs λk=>rfl
theorem qVd:∀{cs:List ZV} {n:Nat} {v:ZV},zNth cs n=some v->(avs cs)[n]?=some v.av
 | [],_,_,e=>by simp[zNth] at e
 | w::l,0,v,e=>by simp only[zNth,Option.some.injEq] at e;subst e;rfl
 | w::l,n+1,v,e=>by
  have:=qVd (cs:=l) (n:=n) (v:=v) (by simpa [zNth] using e)
  simpa using this
theorem jD9:∀(cs:List ZV) (n:Nat),avs (zDrop cs n)=(avs cs).drop n
 | [],0=>rfl
 | v::l,0=>rfl
 | [],n+1=>rfl
 | v::l,n+1=>by simpa [zDrop] using jD9 l n
theorem jD3:∀{n:Nat} {cs l:List ZV},jFr n cs=some l->n<=(avs cs).length/\avs l=(avs cs).take n
 | 0,cs,l,e=>by simp only[jFr,Option.some.injEq] at e;subst e;simp
 | n+1,[],l,e=>by simp[jFr] at e
 | n+1,v::cs,l,e=>by
  simp only[jFr] at e;split at e
  .rename_i r hr;cases e;obtain⟨h1,h2⟩:=jD3 hr;exact⟨by simp;omega,by simp[h2]⟩
  .cases e
theorem qGe {t:TypeId} {cs:List ZV} {off:Nat} {K:ZV->Prop} (hs:jFu P t cs off K):RdEq K (λk=>qA P t (avs cs) off k):=by
 unfold jFu at hs;split at hs
 .rename_i ha;split at hs
  .rename_i n hn;split at hs
   .rename_i l hl;obtain⟨h1,h2⟩:=jD3 hl;rw[jD9] at h1 h2;refine .val _ hs λk=>?_;unfold qA;rw[ha,Qa,Q6,hn,Qa,jQ,qq,if_pos h1,qEp,h2]
   .exact hs.elim
  .exact hs.elim
 .rename_i ha;split at hs
  .rename_i v hv;refine .val _ hs λk=>?_;unfold qA;rw[ha,Qa,Q8,qW,qVd hv,Qa]
  .exact hs.elim
 .exact hs.elim
theorem qTy {n:Nat} {ih:TypeId->ZV->ZV->(Bool->Prop)->Prop} (hih:∀t a b K,ih t a b K->∃r,K r/\∀k:Bool->FM,eqA P n t a.av b.av k=k r) {cs ds:List ZV} {K:Bool->Prop}:∀l:List (TypeId × Nat),zEqL P ih l cs ds K ->
  ∃r,K r/\∀k:Bool->FM,(List.rec (motive:=λ_=>FM) (k true) (λx _ ihl=>qA P x.1 (avs cs) x.2 λu=>qA P x.1 (avs ds) x.2 λv=>eqA P n x.1 u v λr=>cnd r ihl (k false)) l:FM)=k r
 | [],hs=>⟨true,hs,λk=>rfl⟩
 | x::r,hs=>by
  obtain⟨u,hu,eu⟩:=qGe (show jFu P x.1 cs x.2 _ from hs);obtain⟨v,hv,ev⟩:=qGe hu;have eu':∀k,qA P x.1 (avs cs) x.2 k=k u.av:=eu;have ev':∀k,qA P x.1 (avs ds) x.2 k=k v.av:=ev;obtain⟨b,hb,eb⟩:=hih _ _ _ _ hv;cases b with
  | true =>
   obtain⟨q,hq,eq⟩:=qTy hih r hb;refine⟨q,hq,λk=>?_⟩;show (qA P x.1 (avs cs) x.2 λu=>qA P x.1 (avs ds) x.2 λv=>eqA P n x.1 u v λr'=>cnd r' _ (k false))=k q;rw[eu',ev',eb,Q6];exact eq k
  | false =>refine⟨false,hb,λk=>?_⟩;show (qA P x.1 (avs cs) x.2 λu=>qA P x.1 (avs ds) x.2 λv=>eqA P n x.1 u v λr'=>cnd r' _ (k false))=k false;rw[eu',ev',eb,Q8]
theorem qM5:∀(n:Nat) (t:TypeId) (a b:ZV) (K:Bool->Prop),zEqA P n t a b K->∃r,K r/\∀k:Bool->FM,eqA P n t a.av b.av k=k r
 | 0,_,_,_,_,hs=>False.elim hs
 | n+1,t,a,b,K,hs=>by
  unfold zEqA at hs;split at hs
  .rename_i cs ds;split at hs
   .rename_i l hl;obtain⟨r,hr,e⟩:=qTy (n:=n) (λt a b K h=>qM5 n t a b K h) l hs;refine⟨r,hr,λk=>?_⟩;rw[qEp,qEp];show (Qj (qNi P t) (.fail 65) λl=>(List.rec (motive:=λ_=>FM) (k true) (λx _ ihl=>qA P x.1 (avs cs) x.2 λu=>qA P x.1 (avs ds) x.2 λv=>eqA P n x.1 u v λr=>cnd r ihl (k false)) l:FM))=k r;rw[hl,Qa];exact e k
   .exact hs.elim
  .rename_i q x r y;split at hs
   .rename_i h1 h2;refine⟨_,hs,λk=>?_⟩;rw[qAz,qAz];show QK P t 2 (kEq q r (k (eqI x y)))=_;unfold QK kEq;rw[h1,h2,Q6,Q6,qFd]
   .exact hs.elim
  .rename_i x y;split at hs
   .rename_i h1;refine⟨_,hs,λk=>?_⟩;rw[qBr,qBr];show QK P t 1 (k (cnd x y (cnd y false true)))=_;unfold QK;rw[h1,Q6];cases x <;> cases y <;> rfl
   .exact hs.elim
  .exact hs.elim
theorem qJ4 {key:AV}:∀{es:List (AV × AV)} {k:Option AV->FM},Jm es key=true->qG0 key es k=k (qJ5 es key)
 | [],k,_=>rfl
 | e::r,k,hf=>by
  have hf':(qZy key e.1 && Jm r key)=true:=hf;rw[Bool.and_eq_true] at hf';obtain⟨h1,h2⟩:=hf';have ih:=qJ4 (es:=r) (k:=k) h2;show qJe key e.1 (λb=>cnd b (k (some e.2)) (qG0 key r k))=k (match qx key e.1 with | true=>some e.2 | false=>qJ5 r key);obtain⟨ek,ev⟩:=e;simp only at h1 ⊢;cases ek with
  | int r2 m =>
   cases key with
   | int q n =>
    have hb:Nat.beq (QT q) (QT r2)=true:=h1;have e1:qJe (.int q n) (.int r2 m) (λb=>cnd b (k (some ev)) (qG0 (.int q n) r k))=cnd (eqI n m) (k (some ev)) (qG0 (.int q n) r k):=by show cnd (Nat.beq (QT q) (QT r2)) _ _=_;rw[hb];rfl
    have e2:qx (.int q n) (.int r2 m)=eqI n m:=by show cnd (Nat.beq (QT q) (QT r2)) (eqI n m) false=_;rw[hb];rfl
    rw[e1,e2];cases eqI n m
    .rw[Q8];exact ih
    .rfl
   | _=>cases h1
  | str s2 =>
   cases key with
   | str s1 =>
    have e1:qJe (.str s1) (.str s2) (λb=>cnd b (k (some ev)) (qG0 (.str s1) r k))=cnd (qy s1 s2) (k (some ev)) (qG0 (.str s1) r k):=rfl;have e2:qx (.str s1) (.str s2)=qy s1 s2:=by
     show eqNs s1 s2=_;rw[ju];by_cases e:s1=s2
     .subst e;simp only[decide_true]
      have:∀l:List Nat,eqNs l l=true:=λl=>by
       induction l with
       | nil=>rfl
       | cons x t ih=>show cnd (Nat.beq x x) (eqNs t t) false=true;rw[Nat.beq_refl,Q6,ih]
      exact this _
     .simp only[e,decide_false];cases hb:eqNs s1 s2
      .rfl
      .exact absurd (qSo hb) e
    rw[e1,e2];cases qy s1 s2
    .rw[Q8];exact ih
    .rfl
   | _=>cases h1
  | _=>cases h1
end
end Go.X
namespace Go.X
section
variable {P:Program} {h:Q0}
theorem qFz:∀(l:List Nat) (k:List Nat->FM),(∀x,x∈l->x<256)->Ju (ofBytes l) k=k l
 | [],k,_=>rfl
 | b::l,k,hb=>by show cnd (ltb b 256) (Ju (ofBytes l) λr=>k (b::r)) (.fail 29)=_;rw[Qo.2 (hb b (by simp)),Q6,qFz l _ λx hx=>hb x (by simp[hx])]
theorem jFz {s d:TypeId} {x:ZV} {K:ZV->Prop} (hs:zCnv P s d x h K):RdOk h K (λk=>jg P s d x.av k):=by
 unfold zCnv at hs;split at hs
 .rename_i q _ n hc;obtain⟨hs⟩:=hs;refine .val _ hs λk=>?_;unfold jg;rw[hc,qAz];show jr q n k=_;rw[QZ,qAz]
 .rename_i l hc;refine .val _ hs λk=>?_;unfold jg;rw[hc,qHc];rfl
 .rename_i s hc;obtain⟨l,hn,hsl,hb,hk⟩:=hs;obtain⟨sn,si,so,sl,sc,se⟩:=s;refine⟨_,hk,λk p hp=>?_⟩;unfold jg;rw[hc,qFi];cases sn with
  | true =>
   have e:=hn rfl;subst e;cases se <;> (show (k (.str [])).sat p h;simpa using hp)
  | false =>obtain⟨c,hc1,hc2,hc3⟩:=hsl rfl;show (q9 si λc=>j3 sl (jO so c) λl=>Ju l λs=>k (.str s)).sat p h;refine jL hc1 ?_;simp only at hc2 hc3;rw[jQ,qq,if_pos hc3,hc2,qFz _ _ hb];simpa using hp
 .exact hs.elim
theorem jF1 {t:TypeId} {a:AV} {K:ZV->Prop} (hs:zAsT P t a K):∃v,a=v.av/\K v:=by obtain⟨u,e,k⟩:=qKq hs;exact⟨u,e.symm,k⟩
theorem qOq {t:TypeId} {e:TypeId} {z:AV} (hz:Jb P e=some z) {ok:Bool} {nil:Bool} {i:Nat} {key:AV} {K:ZV->Prop}
  (hs:ZLook h nil i key (λv=>zAsT P e v λu=>cnd ok (K (.tup [u,.bool true])) (K u)) (cnd ok (K (.tup [zOf z,.bool false])) (K (zOf z)))) :
  RdOk h K (λk=>(ZV.mp nil i).av.onMapN (jC P e ok none k) (λi=>.get i λo=>o.onMap (λes _=>qG0 key es λr=>jC P e ok r k) (.fail 134)) (.fail 135)):=by
 have hn:=hs.nilCase;have hm:=hs.mapCase;have none_ok:(cnd ok (K (.tup [zOf z,.bool false])) (K (zOf z)))->∃v,K v/\∀(k:KV) (p:QF),(k v.av).sat p h->(jC P e ok none k).sat p h:=by
  intro hk;cases ok with
  | true =>
   refine⟨_,hk,λk p hp=>?_⟩;show (qGd P e λz=>cnd true (k (.tuple [z,.bool false])) (k z)).sat p h;unfold qGd;rw[hz,Qa,Q6];simpa [qQd] using hp
  | false =>refine⟨_,hk,λk p hp=>?_⟩;show (qGd P e λz=>cnd false (k (.tuple [z,.bool false])) (k z)).sat p h;unfold qGd;rw[hz,Qa,Q8];simpa [qQd] using hp
 cases nil with
 | true =>
  obtain⟨v,hk,e1⟩:=none_ok (hn rfl);exact⟨v,hk,λk p hp=>e1 k p hp⟩
 | false =>
  obtain⟨es,ver,hg,hf,hsome,hnone⟩:=hm rfl
  have fin:∀(r:Option AV),qJ5 es key=r->(∃v,K v/\∀(k:KV) (p:QF),(k v.av).sat p h->(jC P e ok r k).sat p h) ->
    RdOk h K (λk=>(ZV.mp false i).av.onMapN (jC P e ok none k) (λi=>.get i λo=>o.onMap (λes _=>qG0 key es λr=>jC P e ok r k) (.fail 134)) (.fail 135)):=by
   intro r hr ⟨v,hk,e1⟩;refine⟨v,hk,λk p hp=>?_⟩;show (FM.get i λo=>o.onMap (λes _=>qG0 key es λr=>jC P e ok r k) (.fail 134)).sat p h;refine⟨_,hg,?_⟩;show (qG0 key es λr=>jC P e ok r k).sat p h;rw[qJ4 hf,hr];exact e1 k p hp
  cases hr:qJ5 es key with
  | none=>exact fin none hr (none_ok (hnone hr))
  | some a =>
   obtain⟨u,eu,hk⟩:=jF1 (hsome a hr);refine fin (some a) hr ?_;cases ok with
   | true =>
    refine⟨_,hk,λk p hp=>?_⟩;show (k (.tuple [a,.bool true])).sat p h;rw[eu];simpa using hp
   | false =>refine⟨_,hk,λk p hp=>?_⟩;show (k a).sat p h;rw[eu];exact hp
theorem qVf {t:TypeId} {m key:ZV} {ok:Bool} {K:ZV->Prop} (hs:jBi P t m key ok h K):RdOk h K (λk=>qQn P t m.av key.av ok k):=by
 unfold jBi at hs;split at hs
 .rename_i nil i kt e hm;split at hs
  .rename_i q n;split at hs
   .rename_i z ht hz;obtain⟨v,hk,e1⟩:=qOq (t:=t) hz hs;refine⟨v,hk,λk p hp=>?_⟩;have h1:=e1 k p hp;show (mapK P t λe=>fitK P t (ZV.int q n).av ((ZV.mp nil i).av.onMapN (jC P e ok none k) (λi=>.get i λo=>o.onMap (λes _=>qG0 (ZV.int q n).av es λr=>jC P e ok r k) (.fail 134)) (.fail 135))).sat p h;unfold mapK fitK;rw[hm,Qa];simp only[ht,Q6];rw[Qa,qAz];show FM.sat (cnd (Nat.beq (Qd P kt) 2) _ _) p h;rw[ht,Q6];exact h1
   .exact hs.elim
  .rename_i l;split at hs
   .rename_i z ht hz;obtain⟨v,hk,e1⟩:=qOq (t:=t) hz hs;refine⟨v,hk,λk p hp=>?_⟩;have h1:=e1 k p hp;show (mapK P t λe=>fitK P t (ZV.str l).av ((ZV.mp nil i).av.onMapN (jC P e ok none k) (λi=>.get i λo=>o.onMap (λes _=>qG0 (ZV.str l).av es λr=>jC P e ok r k) (.fail 134)) (.fail 135))).sat p h;unfold mapK fitK;rw[hm,Qa];have h2:Nat.beq (Qd P kt) 2=false:=by
     cases hb:Nat.beq (Qd P kt) 2
     .rfl
     .have a:=QA hb;have b:=QA ht;omega
    simp only[ht,h2,Q6,Q8];rw[Qa,qHc];show FM.sat (cnd (Nat.beq (Qd P kt) 3) _ _) p h;rw[ht,Q6];exact h1
   .exact hs.elim
  .exact hs.elim
 .exact hs.elim
theorem qQa {as:TypeId} {ok r:Bool} {v:ZV} {K:ZV->Prop} (hs:zTa P as ok r v K):RdEq K (λk=>jb P as ok r v.av k):=by
 unfold zTa at hs;split at hs
 .refine .val _ hs λk=>?_;simp;rfl
 .exact .val _ hs λk=>rfl
 .split at hs
  .rename_i z hz;refine .val _ hs λk=>?_;show qGd P as (λz=>k (.tuple [z,.bool false]))=_;unfold qGd;rw[hz,Qa];simp[qQd]
  .exact hs.elim
 .exact hs.elim
theorem qKu {x:ZV} {as:TypeId} {ok:Bool} {K:ZV->Prop} (hs:jBq P x as ok K):RdEq K (λk=>cnd (Nat.beq (Qd P as) 0) (.fail 149) (x.av.onIfaceN (jb P as ok false .junk k)
  (λt v=>Option.rec (motive:=λ_=>FM) (jb P as ok (Nat.beq t as) v k)
   (λwant=>Qj (jE P want t) (.fail 149) λr=>jb P as ok r (.iface t v) k) (qJf P as)) (.fail 150))):=by
 unfold jBq at hs;split at hs
 .rename_i t v ht;rw[ht];simp only[Q8,qDk];split at hs
  .rename_i hi;rw[hi];exact qQa hs
  .rename_i want hi;rw[hi];split at hs
   .rename_i r hr
    have:=qQa hs
    simp only[qDk] at this;show RdEq K λk=>Qj (jE P want t) (.fail 149) λr=>jb P as ok r (.iface t v.av) k;rw[hr];exact this
   .exact hs.elim
 .rename_i ht;rw[ht];simp only[Q8,qEo]
  have:=qQa hs
  simp only[qEo] at this;exact this
 .exact hs.elim
theorem jFw {t:TypeId} {x:ZV} {K:ZV->Prop} (hs:zLen P t x h K):RdOk h K (λk=>xLen P t x.av k):=by
 unfold zLen at hs;split at hs
 .rename_i s;split at hs
  .rename_i ht;refine .val _ hs λk=>?_;obtain⟨sn,si,so,sl,sc,se⟩:=s;have hrn:∀n,qQ n k=k (.int .i64 (.ofNat n)):=λn=>Qb _ _;cases sn with
   | true =>
    rw[qFi,qAz];cases se <;> (show cnd (Nat.beq (Qd P t) 9) (qQ Nat.zero k) (.fail 42)=_;rw[ht,Q6,hrn];rfl)
   | false =>rw[qFi,qAz];show cnd (Nat.beq (Qd P t) 9) (qQ sl k) (.fail 42)=_;rw[ht,Q6,hrn];rfl
  .exact hs.elim
 .rename_i l;split at hs
  .rename_i ht;refine .val _ hs λk=>?_;rw[qHc,qAz];show cnd (Nat.beq (Qd P t) 3) (Jf l Nat.zero λn=>qQ n k) (.fail 42)=_;rw[ht,Q6,jD,show Nat.zero+l.length=l.length from Nat.zero_add _];exact Qb _ _
  .exact hs.elim
 .rename_i nil i;split at hs
  .rename_i ht;cases nil with
   | true =>
    refine .val _ hs λk=>?_;rw[av_mpt,qAz];show cnd (Nat.beq (Qd P t) 10) (qQ Nat.zero k) (.fail 41)=_;rw[ht,Q6];exact Qb _ _
   | false =>obtain⟨es,ver,hg,hk⟩:=hs;refine⟨_,hk,λk p hp=>?_⟩;rw[jFk];show FM.sat (cnd (Nat.beq (Qd P t) 10) (.get i λo=>o.onMap (λes _=>Jf es Nat.zero λn=>qQ n k) (.fail 41)) (.fail 41)) p h;rw[ht,Q6];refine⟨_,hg,?_⟩;show (Jf es Nat.zero λn=>qQ n k).sat p h;rw[jD,show Nat.zero+es.length=es.length from Nat.zero_add _];unfold qQ;rw[Qb];simpa using hp
  .exact hs.elim
 .exact hs.elim
theorem jBn {b:Builtin} {l:List ZV} {ts:Array TypeId} {K:ZV->Prop} (hs:zBltR P b l ts h K):RdOk h K (λk=>bltK P b (avs l) ts k):=by
 unfold zBltR at hs;split at hs
 .rename_i x;split at hs
  .rename_i t ht;obtain⟨v,hk,e⟩:=jFw hs;refine⟨v,hk,λk p hp=>?_⟩;show (Qj ts[0]? (.fail 50) λt=>jAt (avs [x]) λx=>xLen P t x k).sat p h;rw[ht,Qa];exact e k p hp
  .exact hs.elim
 .rename_i s;split at hs
  .rename_i t ht;split at hs
   .rename_i htag;obtain⟨he,hk⟩:=hs;refine .val _ hk λk=>?_;show Qj ts[0]? (.fail 50) (λt=>jAt (avs [ZV.sl s]) λx=>cnd (Nat.beq (Qd P t) 9) (x.onSlice (qQ Nat.zero k) (.fail 51) (λ_ _ _ c ext=>cnd ext (.fail 52) (qQ c k)) (.fail 53)) (.fail 53))=_;rw[ht,Qa];show cnd (Nat.beq (Qd P t) 9) ((ZV.sl s).av.onSlice (qQ Nat.zero k) (.fail 51) (λ_ _ _ c ext=>cnd ext (.fail 52) (qQ c k)) (.fail 53)) (.fail 53)=_;rw[htag,Q6,qFi,qAz];obtain⟨sn,si,so,sl,sc,se⟩:=s;simp only at he;subst he;cases sn with
    | true=>exact Qb Nat.zero λm=>k (.int .i64 (.ofNat m))
    | false =>exact Qb sc λm=>k (.int .i64 (.ofNat m))
   .exact hs.elim
  .exact hs.elim
 .rename_i q n r m;split at hs
  .rename_i hb;refine .val _ hs λk=>?_;simp only[qBz,qAz,qKn];show kEq q r (k (.int q (cnd (ltI n m) m n)))=_;rw[qu hb,qG7];by_cases hlt:n<m <;> simp[hlt,cnd]
  .exact hs.elim
 .rename_i q n r m;split at hs
  .rename_i hb;refine .val _ hs λk=>?_;simp only[qBz,qAz,qKn];show kEq q r (k (.int q (cnd (ltI m n) m n)))=_;rw[qu hb,qG7];by_cases hlt:m<n <;> simp[hlt,cnd]
  .exact hs.elim
 .exact hs.elim
theorem jD6:∀{vs l r:List ZV},qS4 vs l=some r->∀k:List AV->FM,jB6 (avs vs) (avs l) k=k (avs r)
 | [],l,r,e,k=>by simp only[qS4,Option.some.injEq] at e;subst e;rfl
 | v::vs,[],r,e,k=>by simp[qS4] at e
 | v::vs,w::l,r,e,k=>by
  simp only[qS4] at e;split at e
  .rename_i r' hr;cases e;show jB6 (avs vs) (avs l) (λr=>k (v.av::r))=_;rw[jD6 hr];rfl
  .cases e
theorem qX0 {vs:List ZV}:∀{n:Nat} {l r:List ZV},qJc vs n l=some r->∀k:List AV->FM,putK (avs vs) n (avs l) k=k (avs r)
 | 0,l,r,e,k=>jD6 (by simpa [qJc] using e) k
 | n+1,[],r,e,k=>by simp[qJc] at e
 | n+1,v::l,r,e,k=>by
  simp only[qJc] at e;split at e
  .rename_i r' hr;cases e;show putK (avs vs) n (avs l) (λr=>k (v.av::r))=_;rw[qX0 hr];rfl
  .cases e
theorem qFm {a:AV} (h:a.plainC=true) (k:List AV->FM):a.cellsK k=k [a]:=by cases a <;> first | rfl | cases h
theorem qQ1 {v:ZV} (hv:∀a,v≠.any a) (h2:∀cs,v≠.agg cs) (h3:∀cs,v≠.tup cs):v.av.plainC=true:=by
 cases v with
 | any a=>exact absurd rfl (hv a)
 | agg cs=>exact absurd rfl (h2 cs)
 | tup cs=>exact absurd rfl (h3 cs)
 | bool b=>rw[qBr];rfl
 | int q n=>rw[qAz];rfl
 | str s=>rw[qHc];rfl
 | pv n i o=>cases n <;> simp <;> rfl
 | sl s=>obtain⟨n,_,_,_,_,x⟩:=s;cases n <;> cases x <;> simp[SL.av] <;> rfl
 | mp n i=>cases n <;> simp <;> rfl
 | fn f a c=>rw[qXn];rfl
 | iface t v=>rw[qDk];rfl
theorem qN4 {n:Nat} {v:ZV} {K:List ZV->Prop} (hs:jEa n v K):∃cs,K cs/\cs.length=n/\v.av.cellsK=(λk=>k (avs cs))/\∀k:List AV->FM,qU3 n v.av k=k (avs cs):=by
 have fin:∀(cs:List ZV),cs.length=n->(v.av.cellsK=λk=>k (avs cs))->∀k:List AV->FM,qU3 n v.av k=k (avs cs):=by intro cs hl he k;show (v.av.cellsK λcs=>Jf cs Nat.zero λm=>cnd (Nat.beq m n) (k cs) (.fail 18))=_;rw[he];show Jf (avs cs) Nat.zero (λm=>cnd (Nat.beq m n) (k (avs cs)) (.fail 18))=_;rw[jD,qI8,show Nat.zero+cs.length=cs.length from Nat.zero_add _,hl,Nat.beq_refl,Q6]
 unfold jEa at hs;split at hs
 .rename_i cs;split at hs
  .rename_i hb;have hl:=QA hb;have he:(ZV.agg cs).av.cellsK=λk=>k (avs cs):=by rw[qEp];rfl
   exact⟨cs,hs,hl,he,fin cs hl he⟩
  .exact hs.elim
 .exact hs.elim
 .rename_i a;split at hs
  .obtain⟨hp,hk⟩:=hs;have he:(ZV.any a).av.cellsK=λk=>k (avs [.any a]):=by
    funext k;rw[qEo,qFm hp];simp
   exact⟨_,hk,rfl,he,fin [.any a] rfl he⟩
  .exact hs.elim
 .rename_i n1 n2 n3;split at hs
  .have hp:=qQ1 (v:=v) (λa e=>n3 a e) (λcs e=>n1 cs e) (λcs e=>n2 cs e);have he:v.av.cellsK=λk=>k (avs [v]):=by
    funext k;rw[qFm hp];simp
   exact⟨_,hs,rfl,he,fin [v] rfl he⟩
  .exact hs.elim
theorem qJm {z:ZT} {c:OC} (hev:∀x,c.ev x=(zEv P z x).av) {place:Nat->Option (Nat × Nat)}:∀{parts:List (Nat × Operand)} {cs:List ZV} {K:List ZV->Prop},zFill P z place parts cs K ->
  ∃r,K r/\r.length=cs.length/\∀k:List AV->FM,jDb c place parts (avs cs) k=k (avs r)
 | [],cs,K,hs=>⟨cs,hs,rfl,λk=>rfl⟩
 | p::parts,cs,K,hs=>by
  unfold zFill at hs;split at hs
  .rename_i os ho;obtain⟨ps,hs2,_,_,e1⟩:=qN4 hs;split at hs2
   .rename_i cs' hp;obtain⟨r,hk,hl,e2⟩:=qJm hev hs2;have hl2:cs'.length=cs.length:=by
     have key:∀{vs l r:List ZV},qS4 vs l=some r->r.length=l.length:=by
      intro vs
      induction vs with
      | nil=>intro l r e;simp only[qS4,Option.some.injEq] at e;rw[e]
      | cons v vs ih =>
       intro l r e;cases l with
       | nil=>simp[qS4] at e
       | cons w l =>
        simp only[qS4] at e;split at e
        .rename_i r' hr;cases e;simp[ih hr]
        .cases e
     have key2:∀{n:Nat} {l r:List ZV},qJc ps n l=some r->r.length=l.length:=by
      intro n
      induction n with
      | zero=>intro l r e;exact key (by simpa [qJc] using e)
      | succ n ih =>
       intro l r e;cases l with
       | nil=>simp[qJc] at e
       | cons w l =>
        simp only[qJc] at e;split at e
        .rename_i r' hr;cases e;simp[ih hr]
        .cases e
     exact key2 hp
    refine⟨r,hk,by omega,λk=>?_⟩;show Qj (place p.1) (.fail 102) (λos=>qU3 os.2 (c.ev p.2) λps=>putK ps os.1 (avs cs) λcs'=>jDb c place parts cs' k)=_;rw[ho,Qa,hev,e1,qX0 hp,e2]
   .exact hs2.elim
  .exact hs.elim
theorem qEf {a:AV} {cs:List AV} (h:cellsOf a=some cs) (k:List AV->FM):a.cellsK k=k cs:=by cases a <;> simp[cellsOf] at h <;> subst h <;> rfl
theorem qN5 {z:ZT} {c:OC} (hev:∀x,c.ev x=(zEv P z x).av) {t:TypeId} {parts:Array (Nat × Operand)} {K:ZV->Prop} (hs:zBuild P z t parts K) {kd:qk->FM} {kp:QD->FM}:RdEq K (λk=>qZl P t parts c k kd kp):=by
 unfold zBuild at hs;split at hs
 .rename_i zs pl hz hp;obtain⟨zv,hz1,hz2⟩:=Option.bind_eq_some_iff.1 hz;obtain⟨r,hk,_,e⟩:=qJm hev hs;refine .val _ hk λk=>?_;unfold qZl;rw[hz1,Qa,hp,Qa,qEf hz2];rw[qGf] at e;rw[e,qEp]
 .exact hs.elim
end
end Go.X
namespace Go.X
section
variable {P:Program} {h:Q0} {z:ZT} {c:OC} {kd:qk->FM} {kp:QD->FM}
theorem qMe (hev:∀x,c.ev x=(zEv P z x).av):∀l:List Operand,c.evs l=avs (zEvs P z l)
 | []=>rfl
 | x::l=>by show c.ev x::c.evs l=avs (zEv P z x::zEvs P z l);rw[hev,qMe hev l,qBz]
theorem qUu (hev:∀x,c.ev x=(zEv P z x).av) (x:Option Operand):c.evo x=(zEvo P z x).map ZV.av:=by
 cases x with
 | none=>rfl
 | some y=>show some (c.ev y)=_;rw[hev];rfl
theorem RdOk.eq {K:ZV->Prop} {m m':KV->FM} (e:∀k,m k=m' k) (r:RdOk h K m'):RdOk h K m:=by obtain⟨v,h1,h2⟩:=r;exact⟨v,h1,λk p hp=>by rw[e];exact h2 k p hp⟩
def qOs (o:Op):Bool:=match o with
 | .move _ | .assign _ | .pick _ _ _ | .nilCheck _ | .unOp _ _ _ | .makeInterface _ _ | .makeFunc _ _ _ | .slice _ _ _ _ _ | .fieldAddr _ _ _ | .field _ _ _ | .indexAddr _ _ _ | .index _ _ _ | .typeAssert _ _ _ _ | .extract _ _ | .build _ _=>true
 | _=>false
theorem jFt (hev:∀x,c.ev x=(zEv P z x).av) {o:Op} (hp:qOs o=true) {K:ZV->Prop} (hs:qJk P o z h K):RdEq K (λk=>opK P o c k kd kp):=by
 unfold qJk at hs;split at hs
 .exact .val _ hs λk=>congrArg k (hev _)
 .exact .val _ hs λk=>congrArg k (hev _)
 .rename_i x a b;split at hs
  .rename_i t ht;refine .eq (λk=>?_) (qQc hs);show (c.ev x).onBool (λt=>cnd t (k (c.ev a)) (k (c.ev b))) (.fail 100)=_;rw[hev,hev,hev,ht,qBr];rfl
  .exact hs.elim
 .rename_i x;have e:∀k,opK P (.nilCheck x) c k kd kp=(c.ev x).onPtr (λi o=>k (.ptr i o)) ((c.ev x).onIface (λt v=>k (.iface t v)) ((c.ev x).onFunc (λf a b=>afnM f (λ_=>k (.func f a b)) (λ_=>.fail 109) (λ_=>k (.func f a b)) (.fail 109)) (.fail 109))):=λk=>rfl;split at hs
  .rename_i nil i o hx;obtain⟨hn,hk⟩:=hs;subst hn;refine .val _ hk λk=>?_;rw[e,hev,hx,qCp];rfl
  .rename_i t v hx;refine .val _ hs λk=>?_;rw[e,hev,hx,qDk];rfl
  .rename_i f a b hx;refine .val _ hs λk=>?_;rw[e,hev,hx,qXn];rfl
  .rename_i a hx;obtain⟨ho,hk⟩:=hs;refine .val _ hk λk=>?_;rw[e,hev,hx,qEo];cases a with
   | ptr i o=>rfl
   | iface t v=>rfl
   | func f a b =>
    cases f with
    | plain g =>
     cases g with
     | func g=>rfl
     | _=>cases ho
    | yield i=>rfl
   | _=>cases ho
  .exact hs.elim
 .cases hp
 .rename_i op t x;split at hs
  .rename_i q n hx;obtain⟨hs⟩:=hs;refine .val _ hs λk=>?_;show (c.ev x).onInt (λq n=>jr q (negI n) k) (.fail 114)=_;rw[hev,hx,qAz,qAz];show jr q (negI n) k=_;rw[QZ,qR4]
  .rename_i q n hx;obtain⟨hs⟩:=hs;refine .val _ hs λk=>?_;show (c.ev x).onInt (λq n=>jr q (.ofNat (Nat.xor (Nat.sub (Nat.pow 2 (qh q)) 1) (toU q n))) k) (.fail 114)=_;rw[hev,hx,qAz,qAz];show jr q (.ofNat (Nat.xor (Nat.sub (Nat.pow 2 (qh q)) 1) (toU q n))) k=_;rw[QZ]
  .rename_i b hx;refine .val _ hs λk=>?_;show (c.ev x).onBool (λb=>je b.not k) (.fail 114)=_;rw[hev,hx,qBr,qBr];show je b.not k=_;rw[QV]
  .exact hs.elim
 .cases hp
 .rename_i t x;split at hs
  .rename_i h6 h0;refine .val _ hs λk=>?_;show cnd (Nat.beq (Qd P t) 6) (.fail 115) (cnd (Nat.beq (Qd P t) 0) (.fail 115) (k (.iface t (c.ev x))))=_;rw[h6,h0,hev,Q8,Q8,qDk]
  .exact hs.elim
 .rename_i f a b;refine .val _ hs λk=>?_;show k (.func (.plain f) (c.evs a.toList) (c.evs b.toList))=_;rw[qMe hev,qMe hev,qXn]
 .rename_i t x lo hi mx;refine .eq (λk=>?_) (qTt hs);show qX8 P t (c.ev x) (c.evo lo) (c.evo hi) (c.evo mx) k=_;rw[hev,qUu hev,qUu hev,qUu hev]
 .rename_i t x f;unfold qM4 at hs;split at hs
  .rename_i nil i o fd hx hf;split at hs
   .rename_i n hsz;obtain⟨hn,hk⟩:=hs;subst hn;refine .val _ hk λk=>?_;show (c.ev x).onPtr (λi o=>Qj (qFo P t f) (.fail 118) λfd=>Qj (szO P fd.type) (.fail 118) λn=>cnd (Nat.beq n Nat.zero) (.fail 118) (Qc (Nat.add o fd.offset) λo'=>k (.ptr i o'))) (.fail 119)=_;rw[hev,hx,qCp,qCp];show Qj (qFo P t f) (.fail 118) (λfd=>Qj (szO P fd.type) (.fail 118) λn=>cnd (Nat.beq n Nat.zero) (.fail 118) (Qc (Nat.add o fd.offset) λo'=>k (.ptr i o')))=_;rw[hf,Qa,hsz,Qa];show Qc (Nat.add o fd.offset) (λo'=>k (.ptr i o'))=_;rw[Qb]
   .exact hs.elim
  .exact hs.elim
 .rename_i t x f;unfold zField at hs;split at hs
  .rename_i cs fd hx hf;refine .eq (λk=>?_) (qGe hs);show (c.ev x).onAgg (λcs=>Qj (qFo P t f) (.fail 120) λfd=>qA P fd.type cs fd.offset k) (.fail 121)=_;rw[hev,hx,qEp];show Qj (qFo P t f) (.fail 120) (λfd=>qA P fd.type (avs cs) fd.offset k)=_;rw[hf,Qa]
  .exact hs.elim
 .rename_i t x ix
  have e:∀k,opK P (.indexAddr t x ix) c k kd kp=(c.ev x).onSlicePtr (λi o len _ _=>Qj (qL P t) (.fail 124) λe=>ixAt P e i o len (c.ev ix) k)
   (λi o=>Qj (Jz P t) (.fail 125) λne=>ixAt P ne.2 i o ne.1 (c.ev ix) k) (.fail 126):=λk=>rfl
  have ix_eq:∀{e:TypeId} {sz:Nat},szO P e=some sz->∀(i o len m:Nat) (q:IntKind),m<len->∀k:KV,ixAt P e i o len (.int q (m:Int)) k=k (.ptr i (o+m*sz)):=by intro e sz hsz i o len m q hlt k;show cnd (ltb m len) (Qj (szO P e) (.fail 122) λsz=>Qc (Nat.add o (Nat.mul m sz)) λo'=>k (.ptr i o')) (.fail 122)=_;rw[Qo.2 hlt,Q6,hsz,Qa,Qb];rfl
  unfold qVg at hs;split at hs
  .rename_i s q n hx hix;split at hs
   .rename_i sz he;obtain⟨e1,he1,he2⟩:=Option.bind_eq_some_iff.1 he;obtain⟨hn,m,en,hlt,hk⟩:=hs;obtain⟨sn,si,so,sl,sc,se⟩:=s;simp only at hn;subst hn;subst en;refine .val _ hk λk=>?_;rw[e,hev,hev,hx,hix,qFi,qAz,qCp];show Qj (qL P t) (.fail 124) (λe=>ixAt P e si so sl (.int q (m:Int)) k)=_;rw[he1,Qa,ix_eq he2 _ _ _ _ _ hlt]
   .exact hs.elim
  .rename_i nil i o q n hx hix;split at hs
   .rename_i len e1 he1;split at hs
    .rename_i sz he2;obtain⟨hn,m,en,hlt,hk⟩:=hs;subst hn;subst en;refine .val _ hk λk=>?_;rw[e,hev,hev,hx,hix,qCp,qAz,qCp];show Qj (Jz P t) (.fail 125) (λne=>ixAt P ne.2 i o ne.1 (.int q (m:Int)) k)=_;rw[he1,Qa];exact ix_eq he2 _ _ _ _ _ hlt k
    .exact hs.elim
   .exact hs.elim
  .exact hs.elim
 .rename_i t x ix;unfold zIdx at hs;split at hs
  .rename_i s q n hx hix;split at hs
   .rename_i ht;obtain⟨m,en,hlt,hk⟩:=hs;subst en;refine .val _ hk λk=>?_
    show (c.ev x).onStrAgg (λs=>QK P t 3 ((c.ev ix).onNat (λn=>Qj (nthL s n) (.fail 127) λb=>k (.int .u8 (.ofNat b))) (.fail 128)))
     (λcs=>(c.ev ix).onNat (λn=>Qj (Jz P t) (.fail 129) λne=>cnd (ltb n ne.1) (Qj (szO P ne.2) (.fail 129) λsz=>qA P ne.2 cs (Nat.mul n sz) k) (.fail 130)) (.fail 128)) (.fail 131)=_
    rw[hev,hev,hx,hix,qHc,qAz,qAz];show QK P t 3 (Qj (nthL s m) (.fail 127) λb=>k (.int .u8 (.ofNat b)))=_;rw[QI ht,qW,zD0 hlt,Qa,List.getD_eq_getElem?_getD,zD0 hlt];rfl
   .exact hs.elim
  .exact hs.elim
 .cases hp
 .cases hp
 .rename_i x xt as ok;refine .eq (λk=>?_) (qKu hs)
  show cnd (Nat.beq (Qd P as) 0) (.fail 149) ((c.ev x).onIfaceN (jb P as ok false .junk k)
   (λt v=>Option.rec (motive:=λ_=>FM) (jb P as ok (Nat.beq t as) v k)
    (λwant=>Qj (jE P want t) (.fail 149) λr=>jb P as ok r (.iface t v) k) (qJf P as)) (.fail 150))=_
  rw[hev]
 .rename_i t n;split at hs
  .rename_i vs hx;split at hs
   .rename_i v hv;refine .val _ hs λk=>?_;show (c.ev t).onTuple (λvs=>Qj (nthL vs n) (.fail 151) k) (.fail 152)=_;rw[hev,hx,qU8];show Qj (nthL (avs vs) n) (.fail 151) k=_;rw[qW,qVd hv,Qa]
   .exact hs.elim
  .exact hs.elim
 .cases hp
 .exact qN5 (kd:=kd) (kp:=kp) hev hs
 .exact hs.elim
theorem jBp {lit:Bool} {op:BinOp} {t:TypeId} {a b:ZV} {K:ZV->Prop} (hs:zBinA P lit op t h a b K):RdOk h K (λk=>qTo P lit op t a.av b.av k):=by
 unfold zBinA at hs;split at hs
 .rename_i cs ds;obtain⟨hg,hs⟩:=hs;have e:∀k2:Bool->FM,xEql P lit t (ZV.agg cs).av (ZV.agg ds).av k2=eqA P 6 t (ZV.agg cs).av (ZV.agg ds).av k2:=λk2=>by
   rw[qEp,qEp];show cnd (P.eqGuardType P.depth t) (.fail 65) (eqA P 6 t (.agg (avs cs)) (.agg (avs ds)) k2)=_;rw[hg,Q8]
  split at hs
  .obtain⟨r,hr,er⟩:=qM5 6 t _ _ _ hs;refine⟨_,hr,λk p hp=>?_⟩;have e2:qTo P lit .eql t (ZV.agg cs).av (ZV.agg ds).av k=xEql P lit t (ZV.agg cs).av (ZV.agg ds).av λr=>je r k:=by rw[qEp,qEp];rfl
   simp only[e2];rw[e,er,QV];rw[qBr] at hp;exact hp
  .obtain⟨r,hr,er⟩:=qM5 6 t _ _ _ hs;refine⟨_,hr,λk p hp=>?_⟩;have e2:qTo P lit .neq t (ZV.agg cs).av (ZV.agg ds).av k=xEql P lit t (ZV.agg cs).av (ZV.agg ds).av λr=>je r.not k:=by rw[qEp,qEp];rfl
   simp only[e2];rw[e,er,QV];rw[qBr] at hp;exact hp
  .exact hs.elim
 .exact jF0 hs
theorem qJj (hev:∀x,c.ev x=(zEv P z x).av) {o:Op} {K:ZV->Prop} (hs:qJk P o z h K):RdOk h K (λk=>opK P o c k kd kp):=by
 unfold qJk at hs;split at hs
 .exact .val _ hs λk=>congrArg k (hev _)
 .exact .val _ hs λk=>congrArg k (hev _)
 .rename_i x a b;split at hs
  .rename_i t ht;refine .eq (λk=>?_) (qQc hs).ok;show (c.ev x).onBool (λt=>cnd t (k (c.ev a)) (k (c.ev b))) (.fail 100)=_;rw[hev,hev,hev,ht,qBr];rfl
  .exact hs.elim
 .rename_i x;have e:∀k,opK P (.nilCheck x) c k kd kp=(c.ev x).onPtr (λi o=>k (.ptr i o)) ((c.ev x).onIface (λt v=>k (.iface t v)) ((c.ev x).onFunc (λf a b=>afnM f (λ_=>k (.func f a b)) (λ_=>.fail 109) (λ_=>k (.func f a b)) (.fail 109)) (.fail 109))):=λk=>rfl;split at hs
  .rename_i nil i o hx;obtain⟨hn,hk⟩:=hs;subst hn;refine .val _ hk λk=>?_;rw[e,hev,hx,qCp];rfl
  .rename_i t v hx;refine .val _ hs λk=>?_;rw[e,hev,hx,qDk];rfl
  .rename_i f a b hx;refine .val _ hs λk=>?_;rw[e,hev,hx,qXn];rfl
  .rename_i a hx;obtain⟨ho,hk⟩:=hs;refine .val _ hk λk=>?_;rw[e,hev,hx,qEo];cases a with
   | ptr i o=>rfl
   | iface t v=>rfl
   | func f a b =>
    cases f with
    | plain g =>
     cases g with
     | func g=>rfl
     | _=>cases ho
    | yield i=>rfl
   | _=>cases ho
  .exact hs.elim
 .rename_i op t x y yt;refine .eq (λk=>?_) (jBp hs);show qTo P (cnd (isLit x) true (isLit y)) op t (c.ev x) (c.ev y) k=_;rw[hev,hev]
 .rename_i op t x;split at hs
  .rename_i q n hx;obtain⟨hs⟩:=hs;refine .val _ hs λk=>?_;show (c.ev x).onInt (λq n=>jr q (negI n) k) (.fail 114)=_;rw[hev,hx,qAz,qAz];show jr q (negI n) k=_;rw[QZ,qR4]
  .rename_i q n hx;obtain⟨hs⟩:=hs;refine .val _ hs λk=>?_;show (c.ev x).onInt (λq n=>jr q (.ofNat (Nat.xor (Nat.sub (Nat.pow 2 (qh q)) 1) (toU q n))) k) (.fail 114)=_;rw[hev,hx,qAz,qAz];show jr q (.ofNat (Nat.xor (Nat.sub (Nat.pow 2 (qh q)) 1) (toU q n))) k=_;rw[QZ]
  .rename_i b hx;refine .val _ hs λk=>?_;show (c.ev x).onBool (λb=>je b.not k) (.fail 114)=_;rw[hev,hx,qBr,qBr];show je b.not k=_;rw[QV]
  .exact hs.elim
 .rename_i s d x;refine .eq (λk=>?_) (jFz hs);show jg P s d (c.ev x) k=_;rw[hev]
 .rename_i t x;split at hs
  .rename_i h6 h0;refine .val _ hs λk=>?_;show cnd (Nat.beq (Qd P t) 6) (.fail 115) (cnd (Nat.beq (Qd P t) 0) (.fail 115) (k (.iface t (c.ev x))))=_;rw[h6,h0,hev,Q8,Q8,qDk]
  .exact hs.elim
 .rename_i f a b;refine .val _ hs λk=>?_;show k (.func (.plain f) (c.evs a.toList) (c.evs b.toList))=_;rw[qMe hev,qMe hev,qXn]
 .rename_i t x lo hi mx;refine .eq (λk=>?_) (qTt hs).ok;show qX8 P t (c.ev x) (c.evo lo) (c.evo hi) (c.evo mx) k=_;rw[hev,qUu hev,qUu hev,qUu hev]
 .rename_i t x f;unfold qM4 at hs;split at hs
  .rename_i nil i o fd hx hf;split at hs
   .rename_i n hsz;obtain⟨hn,hk⟩:=hs;subst hn;refine .val _ hk λk=>?_;show (c.ev x).onPtr (λi o=>Qj (qFo P t f) (.fail 118) λfd=>Qj (szO P fd.type) (.fail 118) λn=>cnd (Nat.beq n Nat.zero) (.fail 118) (Qc (Nat.add o fd.offset) λo'=>k (.ptr i o'))) (.fail 119)=_;rw[hev,hx,qCp,qCp];show Qj (qFo P t f) (.fail 118) (λfd=>Qj (szO P fd.type) (.fail 118) λn=>cnd (Nat.beq n Nat.zero) (.fail 118) (Qc (Nat.add o fd.offset) λo'=>k (.ptr i o')))=_;rw[hf,Qa,hsz,Qa];show Qc (Nat.add o fd.offset) (λo'=>k (.ptr i o'))=_;rw[Qb]
   .exact hs.elim
  .exact hs.elim
 .rename_i t x f;unfold zField at hs;split at hs
  .rename_i cs fd hx hf;refine .eq (λk=>?_) (qGe hs).ok;show (c.ev x).onAgg (λcs=>Qj (qFo P t f) (.fail 120) λfd=>qA P fd.type cs fd.offset k) (.fail 121)=_;rw[hev,hx,qEp];show Qj (qFo P t f) (.fail 120) (λfd=>qA P fd.type (avs cs) fd.offset k)=_;rw[hf,Qa]
  .exact hs.elim
 .rename_i t x ix
  have e:∀k,opK P (.indexAddr t x ix) c k kd kp=(c.ev x).onSlicePtr (λi o len _ _=>Qj (qL P t) (.fail 124) λe=>ixAt P e i o len (c.ev ix) k)
   (λi o=>Qj (Jz P t) (.fail 125) λne=>ixAt P ne.2 i o ne.1 (c.ev ix) k) (.fail 126):=λk=>rfl
  have ix_eq:∀{e:TypeId} {sz:Nat},szO P e=some sz->∀(i o len m:Nat) (q:IntKind),m<len->∀k:KV,ixAt P e i o len (.int q (m:Int)) k=k (.ptr i (o+m*sz)):=by intro e sz hsz i o len m q hlt k;show cnd (ltb m len) (Qj (szO P e) (.fail 122) λsz=>Qc (Nat.add o (Nat.mul m sz)) λo'=>k (.ptr i o')) (.fail 122)=_;rw[Qo.2 hlt,Q6,hsz,Qa,Qb];rfl
  unfold qVg at hs;split at hs
  .rename_i s q n hx hix;split at hs
   .rename_i sz he;obtain⟨e1,he1,he2⟩:=Option.bind_eq_some_iff.1 he;obtain⟨hn,m,en,hlt,hk⟩:=hs;obtain⟨sn,si,so,sl,sc,se⟩:=s;simp only at hn;subst hn;subst en;refine .val _ hk λk=>?_;rw[e,hev,hev,hx,hix,qFi,qAz,qCp];show Qj (qL P t) (.fail 124) (λe=>ixAt P e si so sl (.int q (m:Int)) k)=_;rw[he1,Qa,ix_eq he2 _ _ _ _ _ hlt]
   .exact hs.elim
  .rename_i nil i o q n hx hix;split at hs
   .rename_i len e1 he1;split at hs
    .rename_i sz he2;obtain⟨hn,m,en,hlt,hk⟩:=hs;subst hn;subst en;refine .val _ hk λk=>?_;rw[e,hev,hev,hx,hix,qCp,qAz,qCp];show Qj (Jz P t) (.fail 125) (λne=>ixAt P ne.2 i o ne.1 (.int q (m:Int)) k)=_;rw[he1,Qa];exact ix_eq he2 _ _ _ _ _ hlt k
    .exact hs.elim
   .exact hs.elim
  .exact hs.elim
 .rename_i t x ix;unfold zIdx at hs;split at hs
  .rename_i s q n hx hix;split at hs
   .rename_i ht;obtain⟨m,en,hlt,hk⟩:=hs;subst en;refine .val _ hk λk=>?_
    show (c.ev x).onStrAgg (λs=>QK P t 3 ((c.ev ix).onNat (λn=>Qj (nthL s n) (.fail 127) λb=>k (.int .u8 (.ofNat b))) (.fail 128)))
     (λcs=>(c.ev ix).onNat (λn=>Qj (Jz P t) (.fail 129) λne=>cnd (ltb n ne.1) (Qj (szO P ne.2) (.fail 129) λsz=>qA P ne.2 cs (Nat.mul n sz) k) (.fail 130)) (.fail 128)) (.fail 131)=_
    rw[hev,hev,hx,hix,qHc,qAz,qAz];show QK P t 3 (Qj (nthL s m) (.fail 127) λb=>k (.int .u8 (.ofNat b)))=_;rw[QI ht,qW,zD0 hlt,Qa,List.getD_eq_getElem?_getD,zD0 hlt];rfl
   .exact hs.elim
  .exact hs.elim
 .rename_i t m k ok;refine .eq (λkk=>?_) (qVf hs);show qQn P t (c.ev m) (c.ev k) ok kk=_;rw[hev,hev]
 .rename_i t a;split at hs
  .rename_i nil i o ha;obtain⟨hn,hk⟩:=hs;subst hn;refine .eq (λk=>?_) (qJl P hk);show (c.ev a).onPtr (λi o=>qPp P t i o k) (.fail 107)=_;rw[hev,ha,qCp];rfl
  .exact hs.elim
 .rename_i x xt as ok;refine .eq (λk=>?_) (qKu hs).ok
  show cnd (Nat.beq (Qd P as) 0) (.fail 149) ((c.ev x).onIfaceN (jb P as ok false .junk k)
   (λt v=>Option.rec (motive:=λ_=>FM) (jb P as ok (Nat.beq t as) v k)
    (λwant=>Qj (jE P want t) (.fail 149) λr=>jb P as ok r (.iface t v) k) (qJf P as)) (.fail 150))=_
  rw[hev]
 .rename_i t n;split at hs
  .rename_i vs hx;split at hs
   .rename_i v hv;refine .val _ hs λk=>?_;show (c.ev t).onTuple (λvs=>Qj (nthL vs n) (.fail 151) k) (.fail 152)=_;rw[hev,hx,qU8];show Qj (nthL (avs vs) n) (.fail 151) k=_;rw[qW,qVd hv,Qa]
   .exact hs.elim
  .exact hs.elim
 .rename_i cl;split at hs
  .rename_i b hb;refine .eq (λk=>?_) (jBn hs);show Callee.rec (motive:=λ_=>FM) _ _ (λb=>bltK P b (c.evs cl.args.toList) cl.argTypes k) cl.callee=_;rw[hb,qMe hev]
  .exact hs.elim
 .exact (qN5 (kd:=kd) (kp:=kp) hev hs).ok
 .exact hs.elim
end
end Go.X
namespace Go.X
abbrev Qx:=FuncId->List ZV->ZK->Q0->Prop
def jBl (v:ZV) (K:List ZV->Prop):Prop:=match v with
 | .agg cs=>K cs
 | .tup _=>False
 | .any a=>Ql (a.plainC=true) (K [.any a])
 | v=>K [v]
def qX1 (l:List ZV) (A:Prop):Prop:=match l with
 | []=>A
 | .any a::r=>Ql (a.plainC=true) (qX1 r A)
 | .agg _::_=>False
 | .tup _::_=>False
 | _::r=>qX1 r A
inductive qB (h:Q0) (i o:Nat) (n:Nat) (A:Prop):Prop where
 | mk (c:jFh h i (o+n)) (k:A)
inductive ZMark (h:Q0) (s:SL) (K:Q0->Prop):Prop where
 | mk (c:List AV) (e:Nat) (g m:Bool) (hn:s.nil=false) (hg:h.get s.i=some (.cells c e g m)) (hi:s.i<h.next) (k:K (h.put s.i (some (.cells c e g true))))
def qWy (key v:AV) (l:List (AV × AV)):List (AV × AV):=match l with
 | []=>[(key,v)]
 | e::t=>match qZx key e.1 with | true=>(key,v)::e::t | false=>e::qWy key v t
def mreplace (key v:AV) (l:List (AV × AV)):List (AV × AV):=match l with
 | []=>[]
 | e::t=>match qx key e.1 with | true=>(key,v)::t | false=>e::mreplace key v t
def qJ6 (key:AV) (l:List (AV × AV)):List (AV × AV):=match l with
 | []=>[]
 | e::t=>match qx key e.1 with | true=>t | false=>e::qJ6 key t
def mset (key v:AV) (l:List (AV × AV)):List (AV × AV):=match qJ5 l key with | none=>qWy key v l | some _=>mreplace key v l
def hmap (h:Q0) (i:Nat) (f:List (AV × AV)->List (AV × AV)):Q0:=match h.get i with
 | some (.map es v)=>h.put i (some (.map (f es) (v+1)))
 | _=>h
inductive ZMap (h:Q0) (nil:Bool) (i:Nat) (key:AV) (A:Prop):Prop where
 | mk (hn:nil=false) (hi:i<h.next) (hm:∃es ver,h.get i=some (.map es ver)/\Jm es key=true) (k:A)
section
variable (P:Program)
def qQf (t:TypeId) (key:ZV) (K:AV->Prop):Prop:=match qNv P t,key with
 | some (kt,_),.int q n=>match Nat.beq (Qd P kt) 2 with | true=>K (.int q n) | false=>False
 | some (kt,_),.str s=>match Nat.beq (Qd P kt) 3 with | true=>K (.str s) | false=>False
 | _,_=>False
def qU9 (t:TypeId) (m key v:ZV) (h:Q0) (K:ZK):Prop:=match m with
 | .mp nil i=>qQf P t key λka=>ZMap h nil i ka (K (.tup []) (hmap h i (mset ka v.av)))
 | _=>False
def qLc (e:TypeId) (n:Nat):Bool:=match qU6 P e with | some b=>cnd (Nat.ble (Nat.mul n b) most) (Nat.ble n most) false | none=>false
inductive ZRoom (e:TypeId) (n:Nat) (A:Prop):Prop where
 | mk (h:qLc P e n=true) (k:A)
inductive ZSrc (h:Q0) (s:SL) (sz:Nat) (K:List AV->Prop):Prop where
 | mk (ds:List AV) (hn:s.nil=true->ds=[]) (hs:s.nil=false->∃c,QS h s.i=some c/\(c.drop s.o).take (s.len*sz)=ds/\s.len*sz<=(c.drop s.o).length) (k:K ds)
def SL.app (s:SL) (next n:Nat):SL:=match Nat.beq n 0 with
 | true=>s
 | false=>match s.nil with
  | true=>⟨false,next,0,n,n,true⟩
  | false=>match Nat.ble (s.len+n) s.cap with
   | true=>⟨false,s.i,s.o,s.len+n,s.cap,s.ext⟩
   | false=>⟨false,next,0,s.len+n,s.len+n,true⟩
def Js (h:Q0) (s:SL) (sz n:Nat) (ds:List AV):Q0:=match Nat.beq n 0 with
 | true=>h
 | false=>match s.nil with
  | true=>h.newO (.cells ds sz true false)
  | false=>match Nat.ble (s.len+n) s.cap with
   | true=>hput h s.i (s.o+s.len*sz) ds
   | false=>match h.get s.i with
    | some (.cells c _ _ mk)=>match s.ext with
     | true=>(h.put s.i (some .tomb)).newO (.cells ((c.drop s.o).take (s.len*sz)++ds) sz true mk)
     | false=>h.newO (.cells ((c.drop s.o).take (s.len*sz)++ds) sz true false)
    | some (.ro c)=>h.newO (.cells ((c.drop s.o).take (s.len*sz)++ds) sz true false)
    | _=>h
structure AppOk (h:Q0) (s:SL) (e sz n:Nat) (ds:List AV):Prop where
 cap:s.nil=false->s.len<=s.cap
 known:n≠0->s.nil=true->s.ext=false
 here:n≠0->s.nil=false->s.len+n<=s.cap->jFh h s.i (s.o+s.len*sz+ds.length)
 room:n≠0->s.cap<s.len+n∨s.nil=true->qLc P e (s.n+n)=true
 grown:n≠0->s.nil=false->s.cap<s.len+n->s.ext=true->s.i<h.next/\∃c mk,h.get s.i=some (.cells c sz true mk)/\s.o+s.cap*sz=c.length/\s.len*sz<=(c.drop s.o).length
 read:n≠0->s.nil=false->s.cap<s.len+n->s.ext=false->∃c,QS h s.i=some c/\s.len*sz<=(c.drop s.o).length
inductive ZApp (h:Q0) (s:SL) (e sz n:Nat) (ds:List AV) (A:Prop):Prop where
 | mk (ok:AppOk P h s e sz n ds) (pl:QX ds=true) (k:A)
def jBr (st xt:TypeId) (s x:ZV) (h:Q0) (K:ZK):Prop:=match qL P st,s with
 | some e,.sl s=>match szO P e,(Jb P e).bind cellsOf with
  | some sz,some zs=>match Nat.beq zs.length sz with
   | true=>match x with
    | .sl xs=>match Nat.beq (Qd P xt) 9 with
     | true=>ZSrc h xs sz λds=>ZApp P h s e sz xs.n ds (K (.sl (s.app h.next xs.n)) (Js h s sz xs.n ds))
     | false=>False
    | .str l=>match Nat.beq (Qd P xt) 3,Nat.beq sz 1 with
     | true,true=>ZApp P h s e 1 l.length (ofBytes l) (K (.sl (s.app h.next l.length)) (Js h s 1 l.length (ofBytes l)))
     | _,_=>False
    | _=>False
   | false=>False
  | _,_=>False
 | _,_=>False
def zCopy (t:TypeId) (d x:ZV) (h:Q0) (K:ZK):Prop:=match qL P t,d with
 | some e,.sl d=>match szO P e,x with
  | some sz,.sl s=>ZSrc h s sz λds=>qB h d.i d.o ((min d.n s.n)*sz) (Ql (QX ds=true) (K (.int .i64 (.ofNat (min d.n s.n))) (hput h d.i d.o (ds.take (min d.n s.n*sz)))))
  | _,_=>False
 | _,_=>False
def qTv (t:TypeId) (l m:ZV) (h:Q0) (K:ZK):Prop:=match qL P t,l,m with
 | some e,.int _ n,.int _ p=>match szO P e,(Jb P e).bind cellsOf with
  | some sz,some zs=>match Nat.beq zs.length sz with
   | true=>qO n λn=>qO p λp=>Ql (n<=p) (ZRoom P e p (K (.sl ⟨false,h.next,0,n,p,false⟩) (h.newO (.cells (List.replicate p zs).flatten sz false false))))
   | false=>False
  | _,_=>False
 | _,_,_=>False
def qQh (z:ZT) (t:TypeId) (len:Nat) (parts:Array (Nat × Operand)) (h:Q0) (K:ZK):Prop:=match qL P t with
 | some e=>match szO P e,(Jb P e).bind cellsOf with
  | some sz,some zs=>match Nat.beq zs.length sz,qLc P e len,Nat.ble (Nat.mul len sz) 16777216 with
   | true,true,true=>zFill P z (λi=>some (Nat.mul i sz,sz)) parts.toList (zOfs (List.replicate len zs).flatten) λcs=>K (.sl ⟨false,h.next,0,len,len,false⟩) (h.newO (.cells (avs cs) sz false false))
   | _,_,_=>False
  | _,_=>False
 | none=>False
def zCas (nil:Bool) (i o:Nat) (a b:Int) (h:Q0) (K:ZK):Prop:=Ql (nil=false) (Qg h i o .i32 λn=>qB h i o 1 (cnd (eqI n a) (K (.bool true) (hput h i o [.int .i32 b])) (K (.bool false) h)))
def zXadd (nil:Bool) (i o:Nat) (b:Int) (h:Q0) (K:ZK):Prop:=Ql (nil=false) (Qg h i o .i32 λn=>qB h i o 1 (ZW .i32 (n+b) λr=>K (.int .i32 r) (hput h i o [.int .i32 r])))
def zExt (n:Nat) (args:List ZV) (h:Q0) (K:ZK):Prop:=match Nat.beq n 9,args with
 | true,[.sl a,.sl b]=>ZBytes h a λx=>ZBytes h b λy=>K (.int .i64 (if qj x y then -1 else if x=y then 0 else 1)) h
 | false,[.pv nil i o,.int .i32 a,.int .i32 b]=>match Nat.beq n 2 with | true=>zCas nil i o a b h K | false=>False
 | false,[.pv nil i o,.int .i32 b]=>match Nat.beq n 3 with | true=>zXadd nil i o b h K | false=>False
 | _,_=>False
def jFx (C:Qx) (f:FuncId) (args:List ZV) (h:Q0) (K:ZK):Prop:=match qn P f with
 | true=>C f args K h
 | false=>zExt (jGy P f) args h K
inductive ZFn (a:AV) (K:FuncId->List AV->List AV->Prop):Prop where
 | mk (g:FuncId) (fs cap:List AV) (e:a=.func (.plain (.func g)) fs cap) (k:K g fs cap)
def rndId (P:Program) (l:Nat):Nat:=P.funcs.size+l
def zCallV (C:Qx) (f:ZV) (args:List ZV) (h:Q0) (K:ZK):Prop:=match f with
 | .fn (.plain (.func g)) fs cap=>jFx P C g ((fs++args)++cap) h K
 | .fn (.yield l) fs _=>C (rndId P l) (fs++args) K h
 | .any a=>ZFn a λg fs cap=>jFx P C g ((zOfs fs++args)++zOfs cap) h K
 | _=>False
def jBh (C:Qx) (r:ZV) (name:String) (args:List ZV) (h:Q0) (K:ZK):Prop:=match r with
 | .iface t v=>match methodOf P t name with
  | .direct f=>jFx P C f (v::args) h K
  | .load f el=>match v with | .pv nil i o=>Ql (nil=false) (jFv P el i o h λv'=>jFx P C f (v'::args) h K) | _=>False
  | _=>False
 | _=>False
def zBltE (b:Builtin) (l:List ZV) (ts:Array TypeId) (h:Q0) (K:ZK):Prop:=match b,l with
 | .append,[s,x]=>match ts[0]?,ts[1]? with | some st,some xt=>jBr P st xt s x h K | _,_=>False
 | .copy,[d,x]=>match ts[0]? with | some t=>zCopy P t d x h K | none=>False
 | .delete,[.mp nil i,key]=>match ts[0]? with | some t=>qQf P t key λka=>ZMap h nil i ka (K (.tup []) (hmap h i (qJ6 ka))) | none=>False
 | _,_=>False
inductive ZMapIs (h:Q0) (m:Nat) (K:List (AV × AV)->Nat->Prop):Prop where
 | mk (es:List (AV × AV)) (ver:Nat) (e:h.get m=some (.map es ver)) (k:K es ver)
inductive ZNext (h:Q0) (i:Nat) (A:Q0->Prop) (B:AV->AV->Q0->Prop):Prop where
 | mk (m ver:Nat) (left:List (AV × AV)) (cur:AV) (es:List (AV × AV)) (e:h.get i=some (.mapIter m ver left cur)) (lt:i<h.next) (em:h.get m=some (.map es ver))
   (over:left=[]->A (h.put i (some .tomb)))
   (next:∀j x,left[j]?=some x->B x.1 x.2 (h.put i (some (.mapIter m ver (left.eraseIdx j) (.tuple [x.1,x.2])))))
inductive ZEntry (h:Q0) (i:Nat) (K:AV->AV->Q0->Prop):Prop where
 | mk (m ver:Nat) (left:List (AV × AV)) (a b:AV) (es:List (AV × AV)) (e:h.get i=some (.mapIter m ver left (.tuple [a,b]))) (em:h.get m=some (.map es ver)) (k:K a b h)
def zEff (C:Qx) (o:Op) (z:ZT) (h:Q0) (K:ZK):Prop:=match o with
 | .alloc e=>match (Jb P e).bind cellsOf with | some zs=>K (.pv false h.next 0) (h.newO (.cells zs 0 false false)) | none=>False
 | .box _ x=>jBl (zEv P z x) λcs=>K (.pv false h.next 0) (h.newO (.cells (avs cs) 0 false false))
 | .buildSlice t len parts=>qQh P z t len parts h K
 | .store t a v=>match zEv P z a,szO P t with
  | .pv nil i o,some n=>Ql (nil=false) (jEa n (zEv P z v) λcs=>qX1 cs (qB h i o n (K (.tup []) (hput h i o (avs cs)))))
  | _,_=>False
 | .insert t m k v=>qU9 P t (zEv P z m) (zEv P z k) (zEv P z v) h K
 | .mapUpdate t m k v=>qU9 P t (zEv P z m) (zEv P z k) (zEv P z v) h K
 | .makeMap t r=>match r with
  | none=>K (.mp false h.next) (h.newO (.map [] 0))
  | some x=>match qNv P t,zEv P z x with | some _,.int _ _=>K (.mp false h.next) (h.newO (.map [] 0)) | _,_=>False
 | .makeSlice t l m=>qTv P t (zEv P z l) (zEv P z m) h K
 | .convert s d x=>match cvOf P s d,zEv P z x with
  | .toBytes _,.str l=>K (.sl ⟨false,h.next,0,l.length,l.length,true⟩) (h.newO (.cells (ofBytes l) 1 true true))
  | .mark,.sl s=>ZMark h s λh'=>K (.sl s) h'
  | _,_=>False
 | .range t x=>match Nat.beq (Qd P t) 10,zEv P z x with
  | true,.mp nil m=>Ql (nil=false) (ZMapIs h m λes ver=>K (.pv false h.next 0) (h.newO (.mapIter m ver es .junk)))
  | _,_=>False
 | .next it false=>match zEv P z it with
  | .pv nil i o=>Ql (nil=false) (Ql (o=0) (ZNext h i (λh'=>K (.tup [.bool false]) h') λa b h'=>K (.tup [.bool true,.any a,.any b]) h'))
  | _=>False
 | .entry it=>match zEv P z it with
  | .pv nil i o=>Ql (nil=false) (Ql (o=0) (ZEntry h i λa b h'=>K (.tup [.any a,.any b]) h'))
  | _=>False
 | .call c=>match c.callee with
  | .value f=>zCallV P C (zEv P z f) (zEvs P z c.args.toList) h K
  | .invoke r name=>jBh P C (zEv P z r) name (zEvs P z c.args.toList) h K
  | .builtin b=>zBltE P b (zEvs P z c.args.toList) c.argTypes h K
 | _=>False
end
end Go.X
