/-
 PROVED: writes,regions,code,loops,calls,said as propositions,are sound;laws for contracts;readings of a world. Condition: the proposition holds of the world's own heap.
-/
import Derived.Test.YtligncjhmmgajaaGreatDoorXf
import Derived.ChangeSlices
import Derived.ReadAgain
import Derived.Carry
import Derived.ChangeSame
import Derived.OpenShut
set_option linter.unusedVariables false
set_option linter.unusedSimpArgs false
open List renaming mem_cons_of_mem -> zA0, mem_cons_self -> zB0, mem_of_getElem? -> zC0, getElem?_eq_getElem -> zD0, mem_append_right -> zH0, length_map -> zI0, length_cons -> zJ0, not_mem_nil -> zK0, getElem?_map -> zP0, length_take -> zQ0
open Nat renaming lt_of_lt_of_le -> zE0, ble_eq_true_of_le -> zF0, le_refl -> zL0, le_trans -> zM0, le_of_ble_eq_true -> zS0
noncomputable section
namespace Go.X
def EfOk (h:Q0) (K:ZK) (m:KV->FM):Prop:=∀(k:KV) (p:QF),(∀v h',h'.inf=true->K v h'->(k v.av).sat p h')->(m k).sat p h
structure CZ (P:Program) (call:Qw) (round:Qs) (C:Qx):Prop where
 call:∀f args (K:ZK) h,f<P.funcs.size->h.inf=true->C f args K h->∀kp,EfOk h K (λk=>call f (avs args) k kp)
 round:∀l args (K:ZK) h,h.inf=true->C (rndId P l) args K h->EfOk h K (λk=>round l (avs args) k)
theorem qIe {P:Program} {f:FuncId} (h:qn P f=true):f<P.funcs.size:=by
 unfold qn at h;cases hf:P.funcs[f]? with
 | none=>rw[hf] at h;cases h
 | some fn=>exact (Array.getElem?_eq_some_iff.1 hf).1
theorem EfOk.eq {h:Q0} {K:ZK} {m m':KV->FM} (e:∀k,m k=m' k) (r:EfOk h K m'):EfOk h K m:=λk p hp=>by rw[e];exact r k p hp
theorem qPw {α:Type} (vs:List α):∀(n:Nat) (l:List α) (k:List α->FM),n+vs.length<=l.length->putK vs n l k=k (l.take n++(vs++l.drop (n+vs.length)))
 | 0,l,k,hl=>by
  show jB6 vs l k=_;rw[qWb,if_pos (by omega)];simp
 | n+1,[],k,hl=>by simp at hl
 | n+1,x::l,k,hl=>by
  show putK vs n l (λr=>k (x::r))=_;simp only[zJ0] at hl;rw[qPw vs n l _ (by omega)];have e:(x::l).drop (n+1+vs.length)=l.drop (n+vs.length):=by rw[show n+1+vs.length=(n+vs.length)+1 by omega];rfl
  rw[e];rfl
theorem qNp {h:Q0} {i:Nat} {c:List AV} {e:Nat} {g m:Bool} (hg:h.get i=some (.cells c e g m)) (o:Nat) (vs:List AV):hput h i o vs=h.put i (some (.cells (c.take o++(vs++c.drop (o+vs.length))) e g m)):=by unfold hput;rw[hg]
theorem qGy (h:Q0) (i o:Nat) (vs:List AV):(hput h i o vs).inf=h.inf:=by unfold hput;split <;> rfl
theorem qH7 (h:Q0) (i o:Nat) (vs:List AV):(hput h i o vs).next=h.next:=by unfold hput;split <;> rfl
theorem jE1 (h:Q0) (i:Nat) (f:List (AV × AV)->List (AV × AV)):(hmap h i f).inf=h.inf:=by unfold hmap;split <;> rfl
theorem qLl {h:Q0} {i o:Nat} {cs:List AV} {m:FM} {p:QF} (hpl:QX cs=true) (hc:jFh h i (o+cs.length)) (hs:m.sat p (hput h i o cs)):(qGs i o cs m).sat p h:=by obtain⟨hi,c,e,g,mk,hg,hl⟩:=hc;unfold qGs;rw[hpl,Q6];refine⟨_,hg,?_⟩;show (putK cs o c λc'=>.set i (.cells c' e g mk) m).sat p h;rw[qPw cs o c _ hl];rw[qNp hg] at hs;exact⟨hi,hs⟩
theorem J0 {h:Q0} (hinf:h.inf=true) {o:Q4} {k:Nat->FM} {p:QF} (hs:(k h.next).sat p (h.newO o)):(FM.new o k).sat p h:=⟨.inl hinf,hs⟩
theorem qQb:∀{l:List ZV} {A:Prop},qX1 l A->QX (avs l)=true/\A
 | [],A,h=>⟨rfl,h⟩
 | v::r,A,h=>by
  have key:v.av.plainC=true->qX1 r A->QX (avs (v::r))=true/\A:=λhp h2=>by obtain⟨h3,h4⟩:=qQb h2;refine⟨?_,h4⟩;show cnd v.av.plainC (QX (avs r)) false=true;rw[hp,h3];rfl
  cases v with
  | any a=>obtain⟨hp,h2⟩:=h;exact key (by simpa using hp) h2
  | agg cs=>exact h.elim
  | tup cs=>exact h.elim
  | _=>exact key (qQ1 (λa e=>by cases e) (λcs e=>by cases e) (λcs e=>by cases e)) h
theorem qUd (key v:AV):∀(l:List (AV × AV)) (k:List (AV × AV)->FM),qFc key v l k=k (qWy key v l)
 | [],k=>rfl
 | e::t,k=>by
  show cnd (qZx key e.1) (k ((key,v)::e::t)) (qFc key v t λr=>k (e::r))=k (match qZx key e.1 with | true=>(key,v)::e::t | false=>e::qWy key v t);cases qZx key e.1
  .rw[Q8,qUd key v t]
  .rfl
theorem eqNs_refl (l:List Nat):eqNs l l=true:=by
 induction l with
 | nil=>rfl
 | cons x t ih=>show cnd (Nat.beq x x) (eqNs t t) false=true;rw[Nat.beq_refl,Q6,ih]
theorem qZz {key k2:AV} (hf:qZy key k2=true) (k:Bool->FM):qJe key k2 k=k (qx key k2):=by
 cases k2 with
 | int r2 m =>
  cases key with
  | int q n =>
   have hb:Nat.beq (QT q) (QT r2)=true:=hf;have e2:qx (.int q n) (.int r2 m)=eqI n m:=by show cnd (Nat.beq (QT q) (QT r2)) (eqI n m) false=_;rw[hb];rfl
   rw[e2];show cnd (Nat.beq (QT q) (QT r2)) _ _=_;rw[hb];rfl
  | _=>cases hf
 | str s2 =>
  cases key with
  | str s1 =>
   have e2:qx (.str s1) (.str s2)=qy s1 s2:=by
    show eqNs s1 s2=_;rw[ju];by_cases e:s1=s2
    .subst e;simp[eqNs_refl]
    .simp only[e,decide_false];cases hb:eqNs s1 s2
     .rfl
     .exact absurd (qSo hb) e
   rw[e2];rfl
  | _=>cases hf
 | _=>cases hf
theorem qR5 {key:AV} (v:AV):∀(l:List (AV × AV)),Jm l key=true->∀(k:List (AV × AV)->FM),Je key v l k=k (mreplace key v l)
 | [],_,k=>rfl
 | e::t,hf,k=>by
  have hf':(qZy key e.1 && Jm t key)=true:=hf;rw[Bool.and_eq_true] at hf';show qJe key e.1 (λb=>cnd b (k ((key,v)::t)) (Je key v t λr=>k (e::r)))=k (match qx key e.1 with | true=>(key,v)::t | false=>e::mreplace key v t);rw[qZz hf'.1];cases qx key e.1
  .rw[Q8,qR5 v t hf'.2]
  .rfl
theorem qUf {key:AV}:∀(l:List (AV × AV)),Jm l key=true->∀(k:List (AV × AV)->FM),delK key l k=k (qJ6 key l)
 | [],_,k=>rfl
 | e::t,hf,k=>by
  have hf':(qZy key e.1 && Jm t key)=true:=hf;rw[Bool.and_eq_true] at hf';show qJe key e.1 (λb=>cnd b (k t) (delK key t λr=>k (e::r)))=k (match qx key e.1 with | true=>t | false=>e::qJ6 key t);rw[qZz hf'.1];cases qx key e.1
  .rw[Q8,qUf t hf'.2]
  .rfl
section
variable {P:Program} {h:Q0}
theorem qVi {v:ZV} {K:List ZV->Prop} (hs:jBl v K):∃cs,K cs/\v.av.cellsK=λk=>k (avs cs):=by
 unfold jBl at hs;split at hs
 .rename_i cs;exact⟨cs,hs,by rw[qEp];rfl⟩
 .exact hs.elim
 .rename_i a;obtain⟨hp,hk⟩:=hs;exact⟨_,hk,by funext k;rw[qEo,qFm hp];simp⟩
 .rename_i n1 n2 n3;have hp:=qQ1 (v:=v) (λa e=>n3 a e) (λcs e=>n1 cs e) (λcs e=>n2 cs e);exact⟨_,hs,by funext k;rw[qFm hp];simp⟩
theorem qN2 {t:TypeId} {key:ZV} {K:AV->Prop} (hs:qQf P t key K):K key.av/\(∃ke,qNv P t=some ke)/\(∀m:FM,fitK P t key.av m=m)/\∀k:TypeId->FM,∃ke,qNv P t=some ke/\mapK P t k=k ke.2:=by
 unfold qQf at hs;split at hs
 .rename_i kt e q n hm;split at hs
  .rename_i ht;refine⟨by simpa using hs,⟨_,hm⟩,λm=>?_,λk=>⟨_,hm,?_⟩⟩
   .unfold fitK;rw[hm,Qa,qAz];show cnd (Nat.beq (Qd P kt) 2) m (.fail 48)=_;rw[ht,Q6]
   .unfold mapK;rw[hm,Qa];simp only[ht,Q6]
  .exact hs.elim
 .rename_i kt e s hm;split at hs
  .rename_i ht;have h2:Nat.beq (Qd P kt) 2=false:=by
    cases hb:Nat.beq (Qd P kt) 2
    .rfl
    .have a:=QA hb;have b:=QA ht;omega
   refine⟨by simpa using hs,⟨_,hm⟩,λm=>?_,λk=>⟨_,hm,?_⟩⟩
   .unfold fitK;rw[hm,Qa,qHc];show cnd (Nat.beq (Qd P kt) 3) m (.fail 48)=_;rw[ht,Q6]
   .unfold mapK;rw[hm,Qa];simp only[ht,h2,Q6,Q8]
  .exact hs.elim
 .exact hs.elim
theorem qGp {e:TypeId} {n:Nat} (hr:qLc P e n=true) (m:FM):qLb P e n m=m:=by
 unfold qLc at hr;unfold qLb;split at hr
 .rename_i b hb;rw[hb,Qa,hr,Q6]
 .cases hr
theorem qT5 {e:TypeId} {sz:Nat} {zs:List AV} (hsz:szO P e=some sz) (hz:(Jb P e).bind cellsOf=some zs) (hl:Nat.beq zs.length sz=true) (n:Nat) (k:List AV->Nat->FM):rowK P e n k=k (List.replicate n zs).flatten sz:=by obtain⟨zv,h1,h2⟩:=Option.bind_eq_some_iff.1 hz;show jFq P e n k=_;unfold jFq;rw[hsz,Qa,h1,Qa,qEf h2,jD,show Nat.zero+zs.length=zs.length from Nat.zero_add _,hl,Q6,jB2]
theorem qKd {e:TypeId} {sz:Nat} {zs:List AV} (hz:(Jb P e).bind cellsOf=some zs) (hl:Nat.beq zs.length sz=true) (cs:List AV) (m:Nat) (mk:Bool) (k:KV):qPq P e cs sz m mk k=.new (.cells cs sz true mk) λj=>k (.slice j Nat.zero m m true):=by obtain⟨zv,h1,h2⟩:=Option.bind_eq_some_iff.1 hz;unfold qPq;rw[h1,Qa,qEf h2,jD,show Nat.zero+zs.length=zs.length from Nat.zero_add _,hl,Q6]
theorem qYo {xs:SL} {sz:Nat} {ds:List AV} (hn:xs.nil=true->ds=[]) (hs:xs.nil=false->∃c,QS h xs.i=some c/\(c.drop xs.o).take (xs.len*sz)=ds/\xs.len*sz<=(c.drop xs.o).length)
  (n:Nat) (hle:n<=xs.n) (kk:List AV->FM) (p:QF) (hp:(kk (ds.take (n*sz))).sat p h):(qUs n sz xs.av kk).sat p h:=by
 obtain⟨xn,xi,xo,xl,xc,xe⟩:=xs;cases xn with
 | true =>
  have e0:n=0:=Nat.le_zero.1 hle;subst e0;rw[hn rfl] at hp;have hp':(kk []).sat p h:=by simpa using hp
  cases xe <;> exact hp'
 | false =>obtain⟨c,h1,h2,h3⟩:=hs rfl;have hle:n<=xl:=hle;show (q9 xi λc=>j3 (Nat.mul n sz) (jO xo c) kk).sat p h;refine jL h1 ?_;simp only at h2 h3;have hm:n*sz<=xl*sz:=Nat.mul_le_mul_right _ hle;rw[jQ,qq,if_pos (by show n*sz<=_;omega)];rw[<- h2,List.take_take,Nat.min_eq_left hm] at hp;exact hp
end
section
variable {P:Program} {h:Q0}
theorem qKp (hinf:h.inf=true) {t:TypeId} {m key v:ZV} {K:ZK} (hs:qU9 P t m key v h K):EfOk h K (λk=>qJo P t m.av key.av v.av k):=by
 unfold qU9 at hs;split at hs
 .rename_i nil i;obtain⟨hz,_,hfit,hmk⟩:=qN2 hs;obtain⟨hn,hi,⟨es,ver,hg,hf⟩,hk⟩:=hz;subst hn;intro k p hp;obtain⟨ke,_,e2⟩:=hmk (λ_=>fitK P t key.av ((ZV.mp false i).av.onMap (λi=>.get i λo=>o.onMap (λes ver=>qG0 key.av es λr =>
   Option.rec (motive:=λ_=>FM) (qFc key.av v.av es λes'=>.set i (.map es' (Nat.succ ver)) (k (.tuple [])))
    (λ_=>Je key.av v.av es λes'=>.set i (.map es' (Nat.succ ver)) (k (.tuple []))) r) (.fail 48)) (.fail 49)))
  show (mapK P t λ_=>fitK P t key.av ((ZV.mp false i).av.onMap (λi=>.get i λo=>o.onMap (λes ver=>qG0 key.av es λr =>
   Option.rec (motive:=λ_=>FM) (qFc key.av v.av es λes'=>.set i (.map es' (Nat.succ ver)) (k (.tuple [])))
    (λ_=>Je key.av v.av es λes'=>.set i (.map es' (Nat.succ ver)) (k (.tuple []))) r) (.fail 48)) (.fail 49))).sat p h
  rw[e2,hfit,jFk];refine⟨_,hg,?_⟩
  show (qG0 key.av es λr=>Option.rec (motive:=λ_=>FM) (qFc key.av v.av es λes'=>.set i (.map es' (Nat.succ ver)) (k (.tuple [])))
    (λ_=>Je key.av v.av es λes'=>.set i (.map es' (Nat.succ ver)) (k (.tuple []))) r).sat p h
  rw[qJ4 hf];have hh:hmap h i (mset key.av v.av)=h.put i (some (.map (mset key.av v.av es) (ver+1))):=by unfold hmap;rw[hg]
  have hfin:=hp (.tup []) _ (by rw[jE1];exact hinf) hk;rw[hh] at hfin;unfold mset at hfin;cases hr:qJ5 es key.av with
  | none =>
   rw[hr] at hfin;show (qFc key.av v.av es λes'=>.set i (.map es' (Nat.succ ver)) (k (.tuple []))).sat p h;rw[qUd];exact⟨hi,by simpa using hfin⟩
  | some a =>rw[hr] at hfin;show (Je key.av v.av es λes'=>.set i (.map es' (Nat.succ ver)) (k (.tuple []))).sat p h;rw[qR5 _ _ hf];exact⟨hi,by simpa using hfin⟩
 .exact hs.elim
theorem qVh (hinf:h.inf=true) {t:TypeId} {nil:Bool} {i:Nat} {key:ZV} {K:ZK} (hs:qQf P t key λka=>ZMap h nil i ka (K (.tup []) (hmap h i (qJ6 ka)))):EfOk h K (λk=>qVn P t (ZV.mp nil i).av key.av k):=by
 obtain⟨hz,_,hfit,hmk⟩:=qN2 hs;obtain⟨hn,hi,⟨es,ver,hg,hf⟩,hk⟩:=hz;subst hn;intro k p hp;obtain⟨ke,_,e2⟩:=hmk (λ_=>fitK P t key.av ((ZV.mp false i).av.onMapN (k (.tuple [])) (λi=>.get i λo=>o.onMap (λes v=>delK key.av es λes'=>.set i (.map es' (Nat.succ v)) (k (.tuple []))) (.fail 48)) (.fail 49)));show (mapK P t λ_=>fitK P t key.av ((ZV.mp false i).av.onMapN (k (.tuple [])) (λi=>.get i λo=>o.onMap (λes v=>delK key.av es λes'=>.set i (.map es' (Nat.succ v)) (k (.tuple []))) (.fail 48)) (.fail 49))).sat p h;rw[e2,hfit,jFk];refine⟨_,hg,?_⟩;show (delK key.av es λes'=>.set i (.map es' (Nat.succ ver)) (k (.tuple []))).sat p h;rw[qUf _ hf];have hh:hmap h i (qJ6 key.av)=h.put i (some (.map (qJ6 key.av es) (ver+1))):=by unfold hmap;rw[hg]
 have hfin:=hp (.tup []) _ (by rw[jE1];exact hinf) hk;rw[hh] at hfin;exact⟨hi,by simpa using hfin⟩
theorem qO0 (hinf:h.inf=true) {st xt e:TypeId} {sz:Nat} {zs:List AV} (he:qL P st=some e) (hsz:szO P e=some sz) (hz:(Jb P e).bind cellsOf=some zs) (hzl:Nat.beq zs.length sz=true)
  {s:SL} {x:AV} {n:Nat} {ds:List AV} (ht:Nat.beq (Qd P xt) 9=true∨Nat.beq (Qd P xt) 3=true) (hx:x.lenO=some n) (hsrc:∀(kk:List AV->FM) (p:QF),(kk ds).sat p h->(qUs n sz x kk).sat p h)
  {K:ZK} (hs:ZApp P h s e sz n ds (K (.sl (s.app h.next n)) (Js h s sz n ds))):EfOk h K (λk=>qJp P st xt s.av x k):=by
 obtain⟨ok,pl,hk⟩:=hs;intro k p hp;have h2:Nat.beq (Qd P xt) 2=false:=by
  cases hb:Nat.beq (Qd P xt) 2
  .rfl
  .have a:=QA hb;rcases ht with h | h <;> (have b:=QA h;omega)
 have hc:cnd (Nat.beq (Qd P xt) 9) true (cnd (Nat.beq (Qd P xt) 3) true (Nat.beq (Qd P xt) 2))=true:=by
  rcases ht with h | h
  .rw[h];rfl
  .rw[h];cases Nat.beq (Qd P xt) 9 <;> rfl
 have hlz:lenZ (Nat.beq (Qd P xt) 2) x=some n:=by rw[h2];exact hx
 show (qJp P st xt s.av x k).sat p h;unfold qJp;rw[he,Qa,hsz,Qa,hc,Q6,hlz,Qa,h2];show FM.sat (cnd (Nat.beq n Nat.zero) _ _) p h;have hadd:∀(kk:List AV->FM) (p:QF),(kk ds).sat p h->(addC P e false n sz x kk).sat p h:=hsrc;obtain⟨sn,si,so,sl,sc,se⟩:=s;cases hn0:Nat.beq n Nat.zero with
 | true =>
  rw[Q6];have e1:Nat.beq n 0=true:=hn0;simp only[SL.app,Js,e1] at hk;cases sn with
  | true =>
   have hk2:=hp _ _ hinf hk;cases se with
   | false =>
    show (k .nils).sat p h;simpa [SL.av] using hk2
   | true =>
    show (k .emp).sat p h;simpa [SL.av] using hk2
  | false =>
   show FM.sat (cnd (Nat.ble sl sc) (k (.slice si so sl sc se)) (.fail 39)) p h;rw[zF0 (ok.cap rfl),Q6];simpa [SL.av] using hp _ _ hinf hk
 | false =>
  rw[Q8];have e1:Nat.beq n 0=false:=hn0;have hne:n≠0:=λe=>by subst e;cases hn0
  simp only[SL.app,Js,e1] at hk;cases sn with
  | true =>
   simp only at hk;have hse:se=false:=ok.known hne rfl;subst hse;show (qLb P e n (addC P e false n sz x λcs=>qPq P e cs sz n false k)).sat p h;have hr:=ok.room hne (.inr rfl);rw[qGp (by simpa [SL.n] using hr)];refine hadd _ _ ?_;rw[qKd hz hzl];exact J0 hinf (by simpa [SL.av] using hp _ _ (by exact hinf) hk)
  | false =>
   simp only at hk;show (qN0 P e sz si so sl sc se false n x k).sat p h;unfold qN0;rw[Qb];cases hb:Nat.ble (sl+n) sc with
   | true =>
    have hle:=zS0 hb;rw[hb] at hk;simp only at hk;rw[Q6];refine hadd _ _ ?_;refine qLl pl (ok.here hne rfl hle) ?_;simpa [SL.av] using hp _ _ (by rw[qGy];exact hinf) hk
   | false =>
    have hgt:sc<sl+n:=by
     rcases Nat.lt_or_ge sc (sl+n) with h | h
     .exact h
     .rw[zF0 h] at hb;cases hb
    rw[hb] at hk;simp only at hk;rw[Q8];have hr:=ok.room hne (.inl hgt);have hr':qLc P e (Nat.add sl n)=true:=hr;rw[qGp hr'];cases se with
    | true =>
     obtain⟨hi,c,mk,hg,hcl,hlen⟩:=ok.grown hne rfl hgt rfl;simp only at hg hcl hlen hi;rw[hg] at hk;simp only at hk;rw[Q6];refine⟨_,hg,?_⟩
     show (Jf c Nat.zero λcl=>cnd (cnd true (cnd (Nat.beq sz sz) (Nat.beq (Nat.add so (Nat.mul sc sz)) cl) false) false)
      (j3 (Nat.mul sl sz) (jO so c) λcs=>addC P e false n sz x λds=>cnd (QX ds) (Jj cs ds λcd=>.set si .tomb (qPq P e cd sz (sl+n) mk k)) (.fail 37)) (.fail 37)).sat p h
     have e3:Nat.beq (Nat.add so (Nat.mul sc sz)) c.length=true:=by rw[<- hcl];exact Nat.beq_refl _
     rw[jD,show Nat.zero+c.length=c.length from Nat.zero_add _,Nat.beq_refl,e3];show (j3 (Nat.mul sl sz) (jO so c) λcs=>addC P e false n sz x λds=>cnd (QX ds) (Jj cs ds λcd=>.set si .tomb (qPq P e cd sz (sl+n) mk k)) (.fail 37)).sat p h;rw[jQ,qq,if_pos (show Nat.mul sl sz<=_ from hlen)];refine hadd _ _ ?_;rw[pl,Q6,qz,qKd hz hzl];refine⟨hi,J0 (h:=h.put si (some .tomb)) hinf ?_⟩;simpa [SL.av] using hp _ _ (by exact hinf) hk
    | false =>
     obtain⟨c,hcc,hlen⟩:=ok.read hne rfl hgt rfl;simp only at hcc hlen;rw[Q8];refine jL hcc ?_;rw[jQ,qq,if_pos (show Nat.mul sl sz<=_ from hlen)];refine hadd _ _ ?_;rw[qz,qKd hz hzl];refine J0 hinf ?_;unfold QS at hcc;cases hg:h.get si with
     | none=>rw[hg] at hcc;cases hcc
     | some ob =>
      rw[hg] at hcc hk;cases ob <;> simp only[Option.some.injEq,reduceCtorEq] at hcc
      .subst hcc;simp only at hk;simpa [SL.av] using hp _ _ (by exact hinf) hk
      .subst hcc;simp only at hk;simpa [SL.av] using hp _ _ (by exact hinf) hk
end
end Go.X
namespace Go.X
section
variable {P:Program} {h:Q0} {z:ZT} {c:OC} {kd:qk->FM} {kp:QD->FM} {C:Qx}
theorem qVk (hinf:h.inf=true) {st xt:TypeId} {s x:ZV} {K:ZK} (hs:jBr P st xt s x h K):EfOk h K (λk=>qJp P st xt s.av x.av k):=by
 unfold jBr at hs;split at hs
 .rename_i e s he;split at hs
  .rename_i sz zs hsz hz;split at hs
   .rename_i hzl;split at hs
    .rename_i xs;split at hs
     .rename_i ht;obtain⟨ds,h1,h2,hk⟩:=hs;rw[qFi];refine qO0 hinf he hsz hz hzl (.inl ht) (n:=xs.n) ?_ (λkk p hp=>?_) hk
      .rw[qFi];obtain⟨xn,_,_,_,_,xe⟩:=xs;cases xn <;> cases xe <;> rfl
      .rw[qFi];refine qYo h1 h2 xs.n (zL0 _) kk p ?_;have hlen:ds.length<=xs.n*sz:=by
        obtain⟨xn,xi,xo,xl,xc,xe⟩:=xs;cases xn with
        | true=>rw[h1 rfl];simp
        | false =>obtain⟨c,_,e2,_⟩:=h2 rfl;rw[<- e2,zQ0];exact Nat.min_le_left _ _
       rw[List.take_of_length_le hlen];exact hp
     .exact hs.elim
    .rename_i l;split at hs
     .rename_i ht h1;have e1:=QA h1;subst e1;rw[qFi,qHc];refine qO0 hinf he hsz hz hzl (.inr ht) (n:=l.length) rfl (λkk p hp=>?_) hs;show FM.sat (cnd (Nat.beq 1 1) (j3 l.length l λs'=>kk (ofBytes s')) (.fail 34)) p h;rw[Nat.beq_refl,Q6,jQ,if_pos (zL0 _),List.take_length];exact hp
     .exact hs.elim
    .exact hs.elim
   .exact hs.elim
  .exact hs.elim
 .exact hs.elim
theorem jBk (hinf:h.inf=true) {t:TypeId} {d x:ZV} {K:ZK} (hs:zCopy P t d x h K):EfOk h K (λk=>jF4 P t d.av x.av k):=by
 unfold zCopy at hs;split at hs
 .rename_i e d he;split at hs
  .rename_i sz s hsz;obtain⟨ds,h1,h2,hcan,hpl,hk⟩:=hs;intro k p hp;have lenO_sl:∀s:SL,(ZV.sl s).av.lenO=some s.n:=λs=>by
    rw[qFi];obtain⟨xn,_,_,_,_,xe⟩:=s;cases xn <;> cases xe <;> rfl
   show (jF4 P t (ZV.sl d).av (ZV.sl s).av k).sat p h;unfold jF4;rw[he,Qa,hsz,Qa,lenO_sl,Qa,lenO_sl,Qa,Qb];have hm:cnd (Nat.ble s.n d.n) s.n d.n=min d.n s.n:=by
    cases hb:Nat.ble s.n d.n with
    | true=>rw[Q6,Nat.min_eq_right (zS0 hb)]
    | false =>
     rw[Q8,Nat.min_eq_left];rcases Nat.lt_or_ge s.n d.n with h | h
     .rw[zF0 (Nat.le_of_lt h)] at hb;cases hb
     .exact h
   rw[hm];have hfin:=hp _ _ (by rw[qGy];exact hinf) hk;rw[qAz] at hfin;have hdl:ds.length<=s.n*sz/\(s.nil=false->ds.length=s.len*sz):=by
    obtain⟨xn,xi,xo,xl,xc,xe⟩:=s;cases xn with
    | true=>rw[h1 rfl];simp
    | false =>
     obtain⟨c,_,e2,e3⟩:=h2 rfl
     have:ds.length=xl*sz:=by rw[<- e2,zQ0];exact Nat.min_eq_left e3
     exact⟨Nat.le_of_eq this,λ_=>this⟩
   cases hj:Nat.beq (min d.n s.n) Nat.zero with
   | true =>
    rw[Q6];have e0:min d.n s.n=0:=QA hj;obtain⟨hi0,c0,e0',g0,m0,hg0,hl0⟩:=hcan;have hsame:hput h d.i d.o (ds.take (min d.n s.n*sz))=h:=by
     rw[e0,Nat.zero_mul,List.take_zero,qNp hg0];simp only[List.length_nil,Nat.add_zero,List.nil_append,List.take_append_drop];refine Q0.ext (λi=>?_) rfl rfl rfl;rw[Q0.get_put _ trivial];by_cases e:i=d.i
     .rw[if_pos e,e,hg0]
     .rw[if_neg e]
    rw[hsame,e0] at hfin;obtain⟨dn,_,_,_,_,de⟩:=d;cases dn <;> cases de <;> (show (qQ Nat.zero k).sat p h;unfold qQ;rw[Qb];exact hfin)
   | false =>
    rw[Q8,qFi];refine qYo h1 h2 (min d.n s.n) (Nat.min_le_right _ _) _ p ?_;have hdn:d.nil=false:=by
     cases hd:d.nil with
     | false=>rfl
     | true =>
      have:d.n=0:=by unfold SL.n;rw[hd]
      rw[this,Nat.zero_min] at hj;cases hj
    have hda:(ZV.sl d).av=.slice d.i d.o d.len d.cap d.ext:=by rw[qFi];unfold SL.av;rw[hdn]
    rw[hda];show (qGs d.i d.o (ds.take (min d.n s.n*sz)) (qQ (min d.n s.n) k)).sat p h;have htl:(ds.take (min d.n s.n*sz)).length<=min d.n s.n*sz:=by rw[zQ0];exact Nat.min_le_left _ _
    refine qLl ?_ ?_ ?_
    .have key:∀(l:List AV) (n:Nat),QX l=true->QX (l.take n)=true:=by
      intro l
      induction l with
      | nil=>intro n h;simpa using h
      | cons a l ih =>
       intro n h;cases n with
       | zero=>rfl
       | succ n =>have h':cnd a.plainC (QX l) false=true:=h;rw[Qk] at h';show cnd a.plainC (QX (l.take n)) false=true;rw[Qk];exact⟨h'.1,ih n h'.2⟩
     exact key _ _ hpl
    .obtain⟨hi0,c0,e0',g0,m0,hg0,hl0⟩:=hcan;exact⟨hi0,c0,e0',g0,m0,hg0,by omega⟩
    .show (qQ (min d.n s.n) k).sat p _;unfold qQ;rw[Qb];exact hfin
  .exact hs.elim
 .exact hs.elim
theorem jFy (hinf:h.inf=true) {n:Nat} {args:List ZV} {K:ZK} (hs:zExt n args h K):EfOk h K (λk=>extK n (avs args) k):=by
 unfold zExt at hs;split at hs
 .rename_i a b hn;have e:=QA hn;subst e;obtain⟨x,a1,a2,a3,y,b1,b2,b3,hk⟩:=hs;intro k p hp;have hfin:=hp _ _ hinf hk;have bok:∀(s:SL) (l:List Nat) (kk:List Nat->FM) (q:QF),(s.nil=true->l=[])->(s.nil=false->∃c,QS h s.i=some c/\(c.drop s.o).take s.len=ofBytes l/\s.len<=(c.drop s.o).length)->(∀x,x∈l->x<256)->(kk l).sat q h->(jJ (ZV.sl s).av kk).sat q h:=by
   intro s l kk q n1 n2 n3 hq;obtain⟨sn,si,so,sl,sc,se⟩:=s;rw[qFi];cases sn with
   | true=>rw[n1 rfl] at hq;cases se <;> exact hq
   | false =>obtain⟨c,c1,c2,c3⟩:=n2 rfl;show (q9 si λc=>j3 sl (jO so c) λl=>Ju l kk).sat q h;refine jL c1 ?_;simp only at c2 c3;rw[jQ,qq,if_pos c3,c2,qFz _ _ n3];exact hq
  show (qTk (avs [.sl a,.sl b]) λa b=>jJ a λx=>jJ b λy=>k (.int .i64 (cnd (qj x y) (.negSucc Nat.zero) (cnd (qy x y) (.ofNat Nat.zero) (.ofNat 1))))).sat p h;show (jJ (ZV.sl a).av λx=>jJ (ZV.sl b).av λy=>k (.int .i64 (cnd (qj x y) (.negSucc Nat.zero) (cnd (qy x y) (.ofNat Nat.zero) (.ofNat 1))))).sat p h;refine bok a x _ p a1 a2 a3 (bok b y _ p b1 b2 b3 ?_);rw[qAz] at hfin;have e:cnd (qj x y) (.negSucc Nat.zero) (cnd (qy x y) (.ofNat Nat.zero) (.ofNat 1))=(if qj x y then -1 else if x=y then 0 else 1:Int):=by
   rw[ju];cases qj x y
   .by_cases e:x=y <;> simp[e,cnd]
   .rfl
  rw[e];exact hfin
 .rename_i nil i o a b hn;split at hs
  .rename_i h2;have e:=QA h2;subst e;obtain⟨hn,x,hx,⟨hi,c,e,g,mk,hg,hl⟩,hk⟩:=hs;subst hn;have hc:c[o]?=some (.int .i32 x):=by
    unfold cellAt QS at hx;rw[hg] at hx;exact hx
   intro k p hp;have hf:∀m:FM,(cnd (eqI x a) (putK [AV.int .i32 b] o c λc'=>FM.set i (.cells c' e g mk) (k (.bool true))) (k (.bool false))).sat p h->(extK 2 (avs [.pv false i o,.int .i32 a,.int .i32 b]) k).sat p h:=λ_ hm=>by rw[qBz,qBz,qBz,qKn,qCp,qAz,qAz];refine⟨_,hg,?_⟩;show (Qj (nthL c o) (.fail 183) _).sat p h;rw[qW,hc,Qa];exact hm
   refine hf (.fail 0) ?_;cases hb:eqI x a with
   | true =>
    rw[hb,Q6] at hk;rw[Q6,qPw [AV.int .i32 b] o c _ hl]
    have:=hp _ _ (by rw[qGy];exact hinf) hk
    rw[qBr,qNp hg] at this;exact⟨hi,this⟩
   | false =>
    rw[hb,Q8] at hk;rw[Q8]
    have:=hp _ _ hinf hk
    rw[qBr] at this;exact this
  .exact hs.elim
 .rename_i nil i o b hn;split at hs
  .rename_i h2;have e:=QA h2;subst e;obtain⟨hn,x,hx,⟨hi,c,e,g,mk,hg,hl⟩,⟨hk⟩⟩:=hs;subst hn;have hc:c[o]?=some (.int .i32 x):=by
    unfold cellAt QS at hx;rw[hg] at hx;exact hx
   intro k p hp;have hf:(jr .i32 (addI x b) λv=>putK [v] o c λc'=>FM.set i (.cells c' e g mk) (k v)).sat p h->(extK 3 (avs [.pv false i o,.int .i32 b]) k).sat p h:=λhm=>by rw[qBz,qBz,qKn,qCp,qAz];refine⟨_,hg,?_⟩;show (Qj (nthL c o) (.fail 183) _).sat p h;rw[qW,hc,Qa];exact hm
   refine hf ?_;unfold jr;rw[jX,jEf,qN1];show (putK [AV.int .i32 (IntKind.i32.wrap (x+b))] o c λc'=>FM.set i (.cells c' e g mk) (k (.int .i32 (IntKind.i32.wrap (x+b))))).sat p h;rw[qPw [AV.int .i32 (IntKind.i32.wrap (x+b))] o c _ hl]
   have:=hp _ _ (by rw[qGy];exact hinf) hk
   rw[qAz,qNp hg] at this;exact⟨hi,this⟩
  .exact hs.elim
 .exact hs.elim
theorem qGg {call:Qw} {round:Qs} (hC:CZ P call round C) (hinf:h.inf=true) {f:FuncId} {args:List ZV} {K:ZK} (hs:jFx P C f args h K):EfOk h K (λk=>qHi P call f (avs args) k kp):=by
 unfold jFx at hs;split at hs
 .rename_i hb;refine .eq (λk=>?_) (hC.call f args K h (qIe hb) hinf hs kp);unfold qHi;rw[hb,Q6]
 .rename_i hb;refine .eq (λk=>?_) (jFy hinf hs);unfold qHi;rw[hb,Q8]
theorem qX5 {call:Qw} {round:Qs} (hC:CZ P call round C) (hinf:h.inf=true) {f:ZV} {args:List ZV} {K:ZK} (hs:zCallV P C f args h K) :
  EfOk h K (λk=>f.av.onFunc (λg first captured=>Jj first (avs args) λl=>qN8 P call round g l captured k kp) (.fail 153)):=by
 have av_anys:∀l:List AV,avs (zOfs l)=l:=qGf;unfold zCallV at hs;split at hs
 .rename_i g fs cap;refine .eq (λk=>?_) (qGg (kp:=kp) hC hinf hs);rw[qXn];show Jj (avs fs) (avs args) (λl=>qN8 P call round (.plain (.func g)) l (avs cap) k kp)=_;rw[qz];show Jj (avs fs++avs args) (avs cap) (λl=>qHi P call g l k kp)=_;rw[qz,<- qEv,<- qEv]
 .rename_i l fs cap;refine .eq (λk=>?_) (hC.round l (fs++args) K h hinf hs);rw[qXn];show Jj (avs fs) (avs args) (λl2=>qN8 P call round (.yield l) l2 (avs cap) k kp)=_;rw[qz,<- qEv];rfl
 .rename_i a;obtain⟨g,fs,cap,e,hk⟩:=hs;subst e;refine .eq (λk=>?_) (qGg (kp:=kp) hC hinf hk);rw[qEo];show Jj fs (avs args) (λl=>qN8 P call round (.plain (.func g)) l cap k kp)=_;rw[qz];show Jj (fs++avs args) cap (λl=>qHi P call g l k kp)=_;rw[qz,qEv,qEv,av_anys,av_anys]
 .exact hs.elim
theorem qVe {call:Qw} {round:Qs} (hC:CZ P call round C) (hinf:h.inf=true) {r:ZV} {name:String} {args:List ZV} {K:ZK} (hs:jBh P C r name args h K):EfOk h K (λk=>qEz P call r.av name (avs args) k kp):=by
 unfold jBh at hs;split at hs
 .rename_i t v;split at hs
  .rename_i f hm;refine .eq (λk=>?_) (qGg (kp:=kp) hC hinf hs);unfold qEz;rw[qDk];show MtK.rec (motive:=λ_=>FM) _ _ _ _ (methodOf P t name)=_;rw[hm];rfl
  .rename_i f el hm;split at hs
   .rename_i nil i o;obtain⟨hn,hk⟩:=hs;subst hn;obtain⟨v',hk,e⟩:=qJl P hk;intro k p hp;show (qEz P call (ZV.iface t (.pv false i o)).av name (avs args) k kp).sat p h;unfold qEz;rw[qDk,qCp];show FM.sat (MtK.rec (motive:=λ_=>FM) _ _ _ _ (methodOf P t name)) p h;rw[hm];show (qPp P el i o λv'=>qHi P call f (v'::avs args) k kp).sat p h;exact e _ p (qGg (kp:=kp) hC hinf hk k p hp)
   .exact hs.elim
  .exact hs.elim
 .exact hs.elim
theorem jBo (hinf:h.inf=true) {b:Builtin} {l:List ZV} {ts:Array TypeId} {K:ZK} (hs:zBltE P b l ts h K):EfOk h K (λk=>bltK P b (avs l) ts k):=by
 unfold zBltE at hs;split at hs
 .rename_i s x;split at hs
  .rename_i st xt h0 h1;refine .eq (λk=>?_) (qVk hinf hs);show Qj ts[0]? (.fail 50) (λst=>Qj ts[1]? (.fail 50) λxt=>jDz (avs [s,x]) λs x=>qJp P st xt s x k)=_;rw[h0,Qa,h1,Qa];rfl
  .exact hs.elim
 .rename_i d x;split at hs
  .rename_i t h0;refine .eq (λk=>?_) (jBk hinf hs);show Qj ts[0]? (.fail 50) (λt=>jDz (avs [d,x]) λd s=>jF4 P t d s k)=_;rw[h0,Qa];rfl
  .exact hs.elim
 .rename_i nil i key;split at hs
  .rename_i t h0;refine .eq (λk=>?_) (qVh hinf hs);show Qj ts[0]? (.fail 50) (λt=>jDz (avs [.mp nil i,key]) λm key=>qVn P t m key k)=_;rw[h0,Qa];rfl
  .exact hs.elim
 .exact hs.elim
theorem qTz {call:Qw} {round:Qs} (hC:CZ P call round C) (hinf:h.inf=true) (hev:∀x,c.ev x=(zEv P z x).av) (hcall:c.call=call) (hrnd:c.round=round) {o:Op} {K:ZK} (hs:zEff P C o z h K):EfOk h K (λk=>opK P o c k kd kp):=by
 unfold zEff at hs;split at hs
 .rename_i e;split at hs
  .rename_i zs hz;obtain⟨zv,h1,h2⟩:=Option.bind_eq_some_iff.1 hz;intro k p hp;show (Qj (Jb P e) (.fail 101) λz=>newVar z k).sat p h;rw[h1,Qa];unfold newVar;rw[qEf h2];exact J0 hinf (by simpa using hp _ _ (by exact hinf) hs)
  .exact hs.elim
 .rename_i e x;obtain⟨cs,hk,e1⟩:=qVi hs;intro k p hp;show (newVar (c.ev x) k).sat p h;unfold newVar;rw[hev,e1];exact J0 hinf (by simpa using hp _ _ (by exact hinf) hk)
 .rename_i t len parts;unfold qQh at hs;split at hs
  .rename_i e he;split at hs
   .rename_i sz zs hsz hz;split at hs
    .rename_i hzl hr hb;obtain⟨r,hk,_,e2⟩:=qJm hev hs;rw[qGf] at e2;intro k p hp
     show (Qj (qL P t) (.fail 104) λe=>qLb P e len (rowK P e len λcs0 sz=>cnd (Nat.ble (Nat.mul len sz) 16777216)
      (jDb c (λi=>some (Nat.mul i sz,sz)) parts.toList cs0 λcs=>.new (.cells cs sz false false) λi=>k (.slice i Nat.zero len len false)) (.fail 104))).sat p h
     rw[he,Qa,qGp hr,qT5 hsz hz hzl,hb,Q6,e2];exact J0 hinf (by simpa [SL.av] using hp _ _ (by exact hinf) hk)
    .exact hs.elim
   .exact hs.elim
  .exact hs.elim
 .rename_i t a v;split at hs
  .rename_i nil i o n ha hsz;obtain⟨hn,hs⟩:=hs;subst hn;obtain⟨cs,hk,hl,_,e1⟩:=qN4 hs;obtain⟨hpl,hcan,hk⟩:=qQb hk;intro k p hp;show ((c.ev a).onPtr (λi o=>qYm P t i o (c.ev v) (k (.tuple []))) (.fail 108)).sat p h;rw[hev,hev,ha,qCp];show (qYm P t i o (zEv P z v).av (k (.tuple []))).sat p h;unfold qYm;rw[hsz,Qa,e1];refine qLl hpl (by rw[qI8,hl];exact hcan) ?_;simpa using hp _ _ (by rw[qGy];exact hinf) hk
  .exact hs.elim
 .rename_i t m k v;refine .eq (λkk=>?_) (qKp hinf hs);show qJo P t (c.ev m) (c.ev k) (c.ev v) kk=_;rw[hev,hev,hev]
 .rename_i t m k v;refine .eq (λkk=>?_) (qKp hinf hs);show qJo P t (c.ev m) (c.ev k) (c.ev v) kk=_;rw[hev,hev,hev]
 .rename_i t r;split at hs
  .intro k p hp;show (FM.new (.map [] Nat.zero) λi=>k (.map i)).sat p h;exact J0 hinf (by simpa using hp _ _ (by exact hinf) hs)
  .rename_i x;split at hs
   .rename_i ke q n hm hx;intro k p hp;show (Qj (qNv P t) (.fail 115) λ_=>(c.ev x).onInt (λ_ _=>.new (.map [] Nat.zero) λi=>k (.map i)) (.fail 115)).sat p h;rw[hm,Qa,hev,hx,qAz];exact J0 hinf (by simpa using hp _ _ (by exact hinf) hs)
   .exact hs.elim
 .rename_i t l m;unfold qTv at hs;split at hs
  .rename_i e q n q2 p2 he hl hm;split at hs
   .rename_i sz zs hsz hz;split at hs
    .rename_i hzl;obtain⟨n,en,pp,ep,hle,hr,hk⟩:=hs;subst en;subst ep;intro k p hp;show (Qj (qL P t) (.fail 115) λe=>(c.ev l).onNat (λn=>(c.ev m).onNat (λp =>
      cnd (Nat.ble n p) (qLb P e p (rowK P e p λcs sz=>.new (.cells cs sz false false) λi=>Qc n λn'=>Qc p λp'=>k (.slice i Nat.zero n' p' false))) (.fail 116)) (.fail 117)) (.fail 117)).sat p h
     rw[he,Qa,hev,hev,hl,hm,qAz,qAz];show FM.sat (cnd (Nat.ble n pp) (qLb P e pp (rowK P e pp λcs sz=>.new (.cells cs sz false false) λi=>Qc n λn'=>Qc pp λp'=>k (.slice i Nat.zero n' p' false))) (.fail 116)) p h;rw[zF0 hle,Q6,qGp hr,qT5 hsz hz hzl];refine J0 hinf ?_;rw[Qb,Qb];simpa [SL.av] using hp _ _ (by exact hinf) hk
    .exact hs.elim
   .exact hs.elim
  .exact hs.elim
 .rename_i s d x;split at hs
  .rename_i e l hcv hx;intro k p hp;show (jg P s d (c.ev x) k).sat p h;unfold jg;rw[hcv,hev,hx,qHc];show (Jf l Nat.zero λn=>.new (.cells (ofBytes l) 1 true true) λi=>k (.slice i Nat.zero n n true)).sat p h;rw[jD,show Nat.zero+l.length=l.length from Nat.zero_add _];exact J0 hinf (by simpa [SL.av] using hp _ _ (by exact hinf) hs)
  .rename_i s' hcv hx;obtain⟨cc,e,g,m,hn,hg,hi,hk⟩:=hs;intro k p hp;show (jg P s d (c.ev x) k).sat p h;unfold jg;rw[hcv,hev,hx,qFi];have hav:s'.av=.slice s'.i s'.o s'.len s'.cap s'.ext:=by unfold SL.av;rw[hn]
   have:=hp _ _ (by exact hinf) hk
   rw[qFi] at this;rw[hav] at this ⊢;exact⟨_,hg,hi,this⟩
  .exact hs.elim
 .rename_i t x;split at hs
  .rename_i nil m ht hx;obtain⟨hn,es,ver,hg,hk⟩:=hs;subst hn;intro k p hp
   show ((c.ev x).onMapN (QK P t 10 (.new .nilIter λi=>k (.ptr i Nat.zero)))
    (λm=>QK P t 10 (.get m λo=>o.onMap (λes ver=>.new (.mapIter m ver es .junk) λi=>k (.ptr i Nat.zero)) (.fail 136)))
    ((c.ev x).onStr (λs=>QK P t 3 (.new (.strIter s Nat.zero) λi=>k (.ptr i Nat.zero))) (.fail 137))).sat p h
   rw[hev,hx,jFk];show (QK P t 10 (.get m λo=>o.onMap (λes ver=>.new (.mapIter m ver es .junk) λi=>k (.ptr i Nat.zero)) (.fail 136))).sat p h;unfold QK;rw[ht,Q6];exact⟨_,hg,J0 hinf (by simpa using hp _ _ (by exact hinf) hk)⟩
  .exact hs.elim
 .rename_i it;split at hs
  .rename_i nil i o ha;obtain⟨hn,ho,m,ver,left,cur,es,e,lt,em,over,next⟩:=hs;subst hn;subst ho;intro k p hp;show ((c.ev it).onPtr (λi o=>cnd (Nat.beq o Nat.zero) (.get i λx=>cnd false (x.onStrIter (λs pos=>nxStr i s pos k) (.fail 142)) (x.onMapIter (λm ver left _=>nxMap i m ver left k) (qL5 i k) (.fail 142))) (.fail 143)) (.fail 143)).sat p h;rw[hev,ha,qCp];refine⟨_,e,_,em,?_⟩
   show (cnd (Nat.beq ver ver) (List.rec (motive:=λ_=>FM) (qL5 i k) (λe t _=>List.rec (motive:=λ_=>FM) (qE9 i m ver e [] k)
    (λ_ _ _=>Jf left Nat.zero λn=>.choose n λj=>Qj (nthL left j) (.fail 138) λe=>qMf left j λleft'=>qE9 i m ver e left' k) t) left) (.fail 139)).sat p h
   rw[Nat.beq_refl,Q6];have entry:∀j x,left[j]?=some x->(qE9 i m ver x (left.eraseIdx j) k).sat p h:=λj x hx=>by
    refine⟨lt,?_⟩
    have:=hp _ _ (by exact hinf) (next j x hx)
    simpa using this
   cases left with
   | nil =>
    refine⟨lt,?_⟩
    have:=hp _ _ (by exact hinf) (over rfl)
    simpa using this
   | cons x t =>
    cases t with
    | nil=>exact entry 0 x rfl
    | cons y t =>show (Jf (x::y::t) Nat.zero λn=>.choose n λj=>Qj (nthL (x::y::t) j) (.fail 138) λe=>qMf (x::y::t) j λleft'=>qE9 i m ver e left' k).sat p h;rw[jD,show Nat.zero+(x::y::t).length=(x::y::t).length from Nat.zero_add _];intro j hj;show (Qj (nthL (x::y::t) j) (.fail 138) λe=>qMf (x::y::t) j λleft'=>qE9 i m ver e left' k).sat p h;rw[qW,zD0 hj,Qa,qSm];exact entry j _ (zD0 hj)
  .exact hs.elim
 .rename_i it;split at hs
  .rename_i nil i o ha;obtain⟨hn,ho,m,ver,left,ka,va,es,e,em,hk⟩:=hs;subst hn;subst ho;intro k p hp;show ((c.ev it).onPtr (λi o=>cnd (Nat.beq o Nat.zero) (.get i λx=>x.onMapIter (λm ver _ cur=>.get m λo'=>o'.onMap (λ_ v=>cnd (Nat.beq v ver) (cur.onTuple (λl=>k (.tuple l)) (.fail 144)) (.fail 144)) (.fail 145)) (.fail 146) (.fail 146)) (.fail 147)) (.fail 147)).sat p h;rw[hev,ha,qCp];refine⟨_,e,_,em,?_⟩;show (cnd (Nat.beq ver ver) (k (.tuple [ka,va])) (.fail 144)).sat p h;rw[Nat.beq_refl,Q6]
   have:=hp _ _ hinf hk
   simpa using this
  .exact hs.elim
 .rename_i cl
  have e:∀k,opK P (.call cl) c k kd kp=Callee.rec (motive:=λ_=>FM)
   (λf=>(c.ev f).onFunc (λg first captured=>Jj first (c.evs cl.args.toList) λl=>qN8 P c.call c.round g l captured k kp) (.fail 153))
   (λr name=>qEz P c.call (c.ev r) name (c.evs cl.args.toList) k kp)
   (λb=>bltK P b (c.evs cl.args.toList) cl.argTypes k) cl.callee:=λk=>rfl
  split at hs
  .rename_i f hf;refine .eq (λk=>?_) (qX5 (kp:=kp) hC hinf hs);rw[e,hf,qMe hev,hcall,hrnd];show (c.ev f).onFunc _ _=_;rw[hev]
  .rename_i r name hf;refine .eq (λk=>?_) (qVe (kp:=kp) hC hinf hs);rw[e,hf,qMe hev,hcall];show qEz P call (c.ev r) name _ k kp=_;rw[hev]
  .rename_i b hf;refine .eq (λk=>?_) (jBo hinf hs);rw[e,hf,qMe hev]
 .exact hs.elim
end
end Go.X
namespace Go.X
section
variable (P:Program) (C:Qx)
def isRdB:Builtin->Bool | .len=>true | .cap=>true | .min=>true | .max=>true | _=>false
def isRdC:CvK->Bool | .toInt _=>true | .toString=>true | .bytes=>true | _=>false
def isRd (o:Op):Bool:=match o with
 | .move _ | .assign _ | .pick _ _ _ | .nilCheck _ | .binOp _ _ _ _ _ | .unOp _ _ _ | .makeInterface _ _ | .makeFunc _ _ _ | .slice _ _ _ _ _ | .fieldAddr _ _ _ | .field _ _ _ | .indexAddr _ _ _ | .index _ _ _
 | .lookup _ _ _ _ | .load _ _ | .typeAssert _ _ _ _ | .extract _ _ | .build _ _=>true
 | .convert s d _=>isRdC (cvOf P s d)
 | .call c=>match c.callee with | .builtin b=>isRdB b | _=>false
 | _=>false
def zTys (ts:List TypeId) (vs:List AV) (K:List ZV->Prop):Prop:=match ts,vs with
 | [],[]=>K []
 | t::r,v::vs=>zTy1 P t v λu=>zTys r vs λus=>K (u::us)
 | _,_=>False
def zTy (t:TypeId) (v:ZV) (K:ZV->Prop):Prop:=match P.underlying t with
 | some (.tuple ts)=>ZRT v.av ts.size λf=>zTys P ts.toList (avsOf f ts.size) λus=>K (.tup us)
 | _=>zTy1 P t v.av K
def isCall (o:Op):Bool:=match o with
 | .call c=>match c.callee with | .builtin _=>false | _=>true
 | _=>false
def jBj (o:Op) (ty:TypeId) (z:ZT) (h:Q0) (K:ZK):Prop:=match isCall o with
 | true=>zEff P C o z h λv h'=>zTy P ty v λu=>K u h'
 | false=>zEff P C o z h K
def zExT (o:Op) (ty:TypeId) (v:ZV) (K:ZV->Prop):Prop:=match o,v with
 | .extract _ _,.any a=>zTy1 P ty a K
 | _,v=>K v
def zOp (o:Op) (ty:TypeId) (z:ZT) (h:Q0) (K:ZK):Prop:=match isRd P o with
 | true=>qJk P o z h λv=>zExT P o ty v λu=>K u h
 | false=>jBj P C o ty z h K
def zDst (N:Nat) (dst:Option Tmp) (v:ZV) (z:ZT) (K:ZT->Prop):Prop:=match dst with
 | none=>K z
 | some s=>match ltb s N with | true=>K (zset z s v) | false=>False
def qN3 (ops:Array Oper) (z:ZT) (o:Oper) (yes no:ZT->Prop):Prop:=match guardOf ops o with
 | none=>yes z
 | some (none,_)=>no z
 | some (some s,want)=>match ltb s 4096,QM z s with
  | true,.bool b=>cnd b (match want with | true=>yes (zset z s (.bool true)) | false=>no (zset z s (.bool true))) (match want with | true=>no (zset z s (.bool false)) | false=>yes (zset z s (.bool false)))
  | true,.tup _=>no z
  | _,_=>False
def zOps (N:Nat) (ops:Array Oper) (l:List Oper) (z:ZT) (h:Q0) (K:ZT->Q0->Prop):Prop:=match l with
 | []=>K z h
 | o::r=>qN3 ops z o (λz=>zOp P C o.op o.type z h λv h'=>zDst N o.dst v z λz'=>zOps N ops r z' h' K) (λz=>zDst N o.dst (.tup []) z λz'=>zOps N ops r z' h K)
end
theorem ZS.put {Df:List qk} {z:ZT} {st:St} (s:ZS Df z st) {d:Nat} (hd:d<4096) {v:ZV}:ZS Df (zset z d v) ⟨TT.put d v.av st.tmps,st.defers,st.u⟩:=by
 refine⟨λr hr=>?_,s.defers,s.na⟩;show (TT.put d v.av st.tmps).at r=_;rw[TT.at_put hd hr,qEw];by_cases e:r=d
 .rw[if_pos e,if_pos e]
 .rw[if_neg e,if_neg e];exact s.at' r hr
theorem ZS.const {Df:List qk} {z:ZT} {st:St} (s:ZS Df z st) {d:Nat} {v w:ZV} (e:QM z d=v) (hv:v.av=w.av):ZS Df (zset z d w) st:=by
 refine⟨λr hr=>?_,s.defers,s.na⟩;rw[s.at' r hr,qEw];by_cases h:r=d
 .rw[if_pos h,h,e,hv]
 .rw[if_neg h]
section
variable {P:Program} {C:Qx} {h:Q0} {z:ZT} {st:St} {call:Qw} {round:Qs} {p:QF}
theorem qTx {t:TT} (hz:∀s,s<4096->t.at s=(QM z s).av) (x:Operand):qSl P.globals.size t x=(zEv P z x).av:=by
 cases x with
 | tmp s =>
  show cnd (ltb s 4096) (TT.at s t) .junk=(match ltb s 4096 with | true=>QM z s | false=>ZV.any .junk).av;cases hb:ltb s 4096
  .rw[Q8];simp
  .rw[Q6];exact hz s (Qo.1 hb)
 | const v=>exact (qQd _).symm
 | global g =>
  show cnd (ltb g P.globals.size) (.ptr g Nat.zero) .junk=(match ltb g P.globals.size with | true=>ZV.pv false g 0 | false=>ZV.any .junk).av;cases hb:ltb g P.globals.size
  .rw[Q8];simp
  .rw[Q6];simp
 | func f =>show AV.func (.plain (.func f)) [] []=(ZV.fn (.plain (.func f)) [] []).av;simp
theorem qXu:∀{l:List TypeId} {vs:List AV} {K:List ZV->Prop},zTys P l vs K->∃us,avs us=vs/\K us
 | [],[],K,hs=>⟨[],rfl,hs⟩
 | [],_::_,K,hs=>hs.elim
 | _::_,[],K,hs=>hs.elim
 | s::r,v::vs,K,hs=>by obtain⟨u,e1,h1⟩:=qKq hs;obtain⟨us,e2,h2⟩:=qXu h1;exact⟨u::us,by rw[qBz,e1,e2],h2⟩
theorem zTy_spec {t:TypeId} {v:ZV} {K:ZV->Prop} (hs:zTy P t v K):∃u,u.av=v.av/\K u:=by
 unfold zTy at hs;split at hs
 .obtain⟨f,e,hk⟩:=hs;obtain⟨us,e2,h2⟩:=qXu hk;exact⟨.tup us,by rw[qU8,e2,e],h2⟩
 .exact qKq hs
theorem qQg {c:OC} {kd:qk->FM} {kp:QD->FM} (hC:CZ P call round C) (hinf:h.inf=true) (hev:∀x,c.ev x=(zEv P z x).av) (hcall:c.call=call) (hrnd:c.round=round) {o:Op} {ty:TypeId} {K:ZK} (hs:jBj P C o ty z h K):EfOk h K (λk=>opK P o c k kd kp):=by
 unfold jBj at hs;split at hs
 .intro k q hq;refine qTz hC hinf hev hcall hrnd hs k q λv h' hi hk=>?_;obtain⟨u,e,hu⟩:=zTy_spec hk;rw[<- e];exact hq u h' hi hu
 .exact qTz hC hinf hev hcall hrnd hs
theorem zOp_sound (hC:CZ P call round C) (hinf:h.inf=true) {t:TT} (hz:∀s,s<4096->t.at s=(QM z s).av) {o:Op} {ty:TypeId} {K:ZK} (hs:zOp P C o ty z h K) {kd:qk->FM} {kp:QD->FM}:EfOk h K (λk=>opK P o ⟨call,round,t,P.globals.size⟩ k kd kp):=by
 have hev:∀x,(⟨call,round,t,P.globals.size⟩:OC).ev x=(zEv P z x).av:=λx=>qTx hz x;unfold zOp at hs;split at hs
 .obtain⟨v,hk0,e⟩:=qJj (kd:=kd) (kp:=kp) hev hs;obtain⟨u,hu,hk⟩:∃u:ZV,u.av=v.av/\K u h:=by
   unfold zExT at hk0;split at hk0
   .obtain⟨u,h1,h2⟩:=qKq hk0;exact⟨u,by rw[h1,qEo],h2⟩
   .exact⟨v,rfl,hk0⟩
  intro k q hq;exact e k q (by rw[<- hu];exact hq u h hinf hk)
 .exact qQg hC hinf hev rfl rfl hs
theorem qX4 {ops:Array Oper} {t:TT} (hz:∀s,s<4096->t.at s=(QM z s).av) {o:Oper} {yes no:ZT->Prop} (hs:qN3 ops z o yes no) :
  ∃(b:Bool) (z':ZT),(∀s,(QM z' s).av=(QM z s).av)/\(cnd b (yes z') (no z'))/\∀k:Bool->FM,jf ops t o k=k b:=by
 unfold qN3 at hs;have e:∀k,jf ops t o k=Option.rec (motive:=λ_=>FM) (k true) (λg=>Option.rec (motive:=λ_=>FM) (k false) (λs=>cnd (ltb s 4096) (qOt g.2 (TT.at s t) k) (.fail 159)) g.1) (guardOf ops o):=λk=>rfl;split at hs
 .rename_i hg;exact⟨true,z,λ_=>rfl,hs,λk=>by rw[e,hg]⟩
 .rename_i w hg;exact⟨false,z,λ_=>rfl,hs,λk=>by rw[e,hg]⟩
 .rename_i s want hg;split at hs
  .rename_i b hb hzs;have hat:TT.at s t=.bool b:=by rw[hz s (Qo.1 hb),hzs,qBr]
   have hk:∀k:Bool->FM,jf ops t o k=k (cnd b want (cnd want false true)):=λk=>by rw[e,hg];show cnd (ltb s 4096) (qOt want (TT.at s t) k) (.fail 159)=_;rw[hb,Q6,hat];rfl
   have same:∀s',(QM (zset z s (.bool b)) s').av=(QM z s').av:=λs'=>by
    rw[qEw];by_cases e:s'=s
    .rw[if_pos e,e,hzs]
    .rw[if_neg e]
   cases b with
   | true =>
    cases want with
    | true=>exact⟨true,_,same,hs,hk⟩
    | false=>exact⟨false,_,same,hs,hk⟩
   | false =>
    cases want with
    | true=>exact⟨false,_,same,hs,hk⟩
    | false=>exact⟨true,_,same,hs,hk⟩
  .rename_i vs hb hzs;have hat:TT.at s t=.tuple (avs vs):=by rw[hz s (Qo.1 hb),hzs,qU8]
   refine⟨false,z,λ_=>rfl,hs,λk=>?_⟩;rw[e,hg];show cnd (ltb s 4096) (qOt want (TT.at s t) k) (.fail 159)=_;rw[hb,Q6,hat];rfl
  .exact hs.elim
theorem ZS.same {Df:List qk} {z':ZT} (s:ZS Df z st) (e:∀s,(QM z' s).av=(QM z s).av):ZS Df z' st:=⟨λr hr=>by rw[s.at' r hr,e],s.defers,s.na⟩
theorem qT0 {Df:List qk} {N:Nat} (hN:N<=4096) {dst:Option Tmp} {v:ZV} (s:ZS Df z st) {K:ZT->Prop} (hs:zDst N dst v z K):∃z' st',ZS Df z' st'/\K z'/\∀k:St->FM,putDst N dst v.av st k=k st':=by
 unfold zDst at hs;split at hs
 .exact⟨z,st,s,hs,λk=>rfl⟩
 .rename_i d;split at hs
  .rename_i hb;refine⟨_,_,s.put (by have:=Qo.1 hb;omega),hs,λk=>?_⟩;show cnd (ltb d N) (TT.putK d v.av st.tmps λt=>k ⟨t,st.defers,st.u⟩) (.fail 158)=_;rw[hb,Q6,TT.putK_eq]
  .exact hs.elim
theorem qM1 {Df:List qk} (hC:CZ P call round C) {N:Nat} (hN:N<=4096) {dok:Bool} {ops:Array Oper} {k:St->FM} {kp:St->QD->FM} {K:ZT->Q0->Prop} (hK:∀z' st' h',h'.inf=true->ZS Df z' st'->K z' h'->(k st').sat p h') :
  ∀(l:List Oper) (z:ZT) (st:St) (h:Q0),h.inf=true->ZS Df z st->zOps P C N ops l z h K->(xOps P call round N dok ops l st k kp).sat p h
 | [],z,st,h,hinf,s,hs=>hK z st h hinf s hs
 | o::r,z,st,h,hinf,s,hs=>by
  unfold zOps at hs;obtain⟨b,z',hsame,hb,hw⟩:=qX4 (t:=st.tmps) s.at' hs;have s':=s.same hsame
  show (jf ops st.tmps o λb=>cnd b
   (opK P o.op ⟨call,round,st.tmps,P.globals.size⟩ (λv=>putDst N o.dst v st λst'=>xOps P call round N dok ops r st' k kp)
    (λd=>cnd dok (putDst N o.dst (.tuple []) ⟨st.tmps,d::st.defers,st.u⟩ λst'=>xOps P call round N dok ops r st' k kp) (.fail 157)) (kp st))
   (putDst N o.dst (.tuple []) st λst'=>xOps P call round N dok ops r st' k kp)).sat p h
  rw[hw];cases b with
  | true =>
   rw[Q6] at hb ⊢;refine zOp_sound hC hinf s'.at' hb _ p λv h' hi hk=>?_;obtain⟨z2,st2,s2,hk2,e⟩:=qT0 hN s' hk;rw[e];exact qM1 hC hN hK r z2 st2 h' hi s2 hk2
  | false =>rw[Q8] at hb ⊢;obtain⟨z2,st2,s2,hk2,e⟩:=qT0 hN s' hb;have e':=e λst'=>xOps P call round N dok ops r st' k kp;simp only[qU8,qKn] at e';rw[e'];exact qM1 hC hN hK r z2 st2 h hinf s2 hk2
end
end Go.X
namespace Go.X
structure PE where
 i:Nat
 z:ZT
 v:ZV
 ran:Bool
def qg (sl:List Nat) (z:ZT):ZT:=match sl with
 | []=>[]
 | s::r=>zset (qg r z) s (QM z s)
theorem Jo (z:ZT) (r:Nat):∀sl:List Nat,QM (qg sl z) r=if r∈sl then QM z r else .tup []
 | []=>by simp[qg,QM]
 | s::l=>by
  show QM (zset (qg l z) s (QM z s)) r=_;rw[qEw,Jo z r l];by_cases e:r=s
  .subst e;simp
  .rw[if_neg e];by_cases h:r∈l <;> simp[h,e]
section
variable (P:Program) (C:Qx) (ops:Array Oper)
def QG (j i:Nat):Bool:=ordL (qPo ops) j i
def J7 (i:Nat) (l:List Nat):Bool:=match l with | []=>false | j::r=>match Nat.beq i j with | true=>true | false=>J7 i r
theorem j5 {i:Nat}:∀{l:List Nat},J7 i l=true↔i∈l
 | []=>by simp[J7]
 | j::r=>by
  unfold J7;cases hb:Nat.beq i j
  .have:i≠j:=λe=>by subst e;simp at hb
   simp[j5,this]
  .simp[QA hb]
def qJz (a:List Nat) (i:Nat) (n:Nat):Bool:=match n with
 | 0=>true
 | n+1=>(match QG ops n i with | true=>J7 n a | false=>true) && qJz a i n
theorem qJy {a:List Nat} {i:Nat}:∀{n:Nat},qJz ops a i n=true↔∀j,j<n->QG ops j i=true->j∈a
 | 0=>by simp[qJz]
 | n+1=>by
  unfold qJz;rw[Bool.and_eq_true,qJy];constructor
  .intro ⟨h1,h2⟩ j hj ho;rcases Nat.lt_or_ge j n with h | h
   .exact h2 j h ho
   .have:j=n:=by omega
    subst this;rw[ho] at h1;exact j5.1 h1
  .intro h;refine⟨?_,λj hj ho=>h j (by omega) ho⟩;cases ho:QG ops n i with
   | false=>rfl
   | true=>exact j5.2 (h n (by omega) ho)
def pickR (a:List Nat) (rd:Bool) (n:Nat):List Nat->Option Nat
 | []=>none
 | i::r=>match J7 i a,isRd P (QU ops i).op == rd,qJz ops a i n with
  | false,true,true=>some i
  | _,_,_=>pickR a rd n r
def effs (l:List Nat):List Nat:=l.filter λi=>!isRd P (QU ops i).op
def qU0:Nat->List Nat->List (List Nat)
 | 0,_=>[[]]
 | f+1,l=>match l with
  | []=>[[]]
  | x::r=>(x::r).flatMap λi=>match (x::r).all λj=>!QG ops j i with
   | true=>(qU0 f ((x::r).filter λj=>!Nat.beq j i)).map λw=>i::w
   | false=>[]
def jAo (n:Nat):Nat->List Nat->List Nat->List Nat
 | 0,_,_=>[]
 | f+1,a,w=>match pickR P ops a true n (List.range n) with
  | some i=>i::jAo n f (i::a) w
  | none=>match w with
   | e::r=>e::jAo n f (e::a) r
   | []=>[]
def qW6:List Nat->List Nat->Bool
 | [],[]=>true
 | x::l,y::m=>Nat.beq x y && qW6 l m
 | _,_=>false
theorem qUi:∀{l m:List Nat},qW6 l m=true->l=m
 | [],[],_=>rfl
 | x::l,y::m,h=>by
  unfold qW6 at h;rw[Bool.and_eq_true] at h;rw[Nat.eq_of_beq_eq_true h.1,qUi h.2]
 | [],y::m,h=>by cases h
 | x::l,[],h=>by cases h
def zAll {α:Type} (Q:α->Prop):List α->Prop
 | []=>True
 | [w]=>Q w
 | w::r=>Ql (Q w) (zAll Q r)
theorem jEb {α:Type} {Q:α->Prop}:∀{l:List α},zAll Q l->∀w,w∈l->Q w
 | [],_,w,hw=>by cases hw
 | [x],h,w,hw=>by rw[List.mem_singleton.1 hw];exact h
 | x::y::r,h,w,hw=>by
  obtain⟨h1,h2⟩:=h;rcases List.mem_cons.1 hw with e | e
  .rw[e];exact h1
  .exact jEb h2 w e
theorem qUz:∀(f:Nat) (l rem:List Nat),l.Pairwise (λx y=>QG ops y x=false)->(∀i,i∈l->QG ops i i=false)->(∀i,i∈rem↔i∈l)->l.Nodup->l.length<=f->l∈qU0 ops f rem
 | 0,l,rem,_,_,_,_,hl=>by
  have:l=[]:=List.eq_nil_of_length_eq_zero (by omega)
  subst this;simp[qU0]
 | f+1,[],rem,_,_,hm,_,_=>by
  cases rem with
  | nil=>simp[qU0]
  | cons x r=>exact absurd ((hm x).1 zB0) zK0
 | f+1,i::l,rem,hp,hi,hm,nd,hl=>by
  cases rem with
  | nil=>exact absurd ((hm i).2 zB0) zK0
  | cons x r =>
   obtain⟨p1,p2⟩:=List.pairwise_cons.1 hp;obtain⟨n1,n2⟩:=List.nodup_cons.1 nd;show i::l∈(x::r).flatMap _;refine List.mem_flatMap.2 ⟨i,(hm i).2 zB0,?_⟩;have hall:((x::r).all λj=>!QG ops j i)=true:=List.all_eq_true.2 λj hj=>by
    rcases List.mem_cons.1 ((hm j).1 hj) with e | e
    .rw[e,hi i zB0];rfl
    .rw[p1 j e];rfl
   rw[hall];refine List.mem_map.2 ⟨l,qUz f l _ p2 (λj hj=>hi j (zA0 _ hj)) (λj=>?_) n2 (by simp at hl;omega),rfl⟩;rw[List.mem_filter];constructor
   .rintro ⟨h1,h2⟩;rcases List.mem_cons.1 ((hm j).1 h1) with e | e
    .subst e;simp at h2
    .exact e
   .intro h1;refine⟨(hm j).2 (zA0 _ h1),?_⟩;have hne:j≠i:=λe=>n1 (by rw[<- e];exact h1);cases hb:Nat.beq j i with
    | true=>exact absurd (Nat.eq_of_beq_eq_true hb) hne
    | false=>rfl
def ways:List (List Nat × List Nat):=(qU0 ops ops.size (effs P ops (List.range ops.size))).map λw=>(w,jAo P ops ops.size ops.size [] w)
def chkC (a:List Nat):List Nat->Bool
 | []=>true
 | i::b=>(ltb2 i ops.size && !J7 i a && qJz ops a i ops.size &&
   (match isRd P (QU ops i).op with
    | true=>true
    | false=>b.all λr=>!isRd P (QU ops r).op || !qJz ops a r ops.size)) && chkC (i::a) b
where ltb2 (a b:Nat):Bool:=Nat.ble (a+1) b
def jAk (l:List Nat) (n:Nat):Bool:=match n with | 0=>true | n+1=>J7 n l && jAk l n
theorem qU1 {l:List Nat}:∀{n:Nat},jAk l n=true↔∀i,i<n->i∈l
 | 0=>by simp[jAk]
 | n+1=>by
  unfold jAk;rw[Bool.and_eq_true,qU1,j5];constructor
  .intro ⟨h1,h2⟩ i hi;rcases Nat.lt_or_ge i n with h | h
   .exact h2 i h
   .have:i=n:=by omega
    subst this;exact h1
  .intro h;exact⟨h n (by omega),λi hi=>h i (by omega)⟩
def qHg (i:Nat) (h':Q0) (A:Prop) (past:List PE):Prop:=match past with
 | []=>A
 | e::r=>match e.ran && !qOs (QU ops e.i).op && !QG ops e.i i && isRd P (QU ops e.i).op with
  | true=>Ql (qJk P (QU ops e.i).op e.z h' λv=>v.av=e.v.av) (qHg i h' A r)
  | false=>qHg i h' A r
def qHh (N:Nat) (K:ZT->Q0->Prop):List Nat->List PE->ZT->Q0->Prop
 | [],_,z,h=>K z h
 | i::r,past,z,h=>qN3 ops z (QU ops i)
   (λz=>match isRd P (QU ops i).op with
    | true=>qJk P (QU ops i).op (qg (slotsOf ops i) z) h λv=>zDst N (QL ops i) v z λz'=>qHh N K r (⟨i,qg (slotsOf ops i) z,v,true⟩::past) z' h
    | false=>jBj P C (QU ops i).op (QU ops i).type (qg (slotsOf ops i) z) h λv h'=>qHg P ops i h' (zDst N (QL ops i) v z λz'=>qHh N K r (⟨i,qg (slotsOf ops i) z,v,true⟩::past) z' h') past)
   (λz=>zDst N (QL ops i) (.tup []) z λz'=>qHh N K r (⟨i,[],.tup [],false⟩::past) z' h)
def qVc (N:Nat) (draw:Bool) (z:ZT) (h:Q0) (K:ZT->Q0->Prop):Prop:=match draw with
 | false=>zOps P C N ops ops.toList z h K
 | true=>match qOd N ops && qY1 ops.size (QG ops) (slotsOf ops) (QL ops) && (ways P ops).all λw=>chkC P ops [] w.2 && jAk w.2 ops.size && qW6 (effs P ops w.2) w.1 with
  | true=>zAll (λw=>qHh P C ops N K w.2 [] z h) (ways P ops)
  | false=>False
end
def pval (past:List PE) (j:Nat):AV:=match past with
 | []=>.junk
 | e::r=>if e.i=j then e.v.av else pval r j
theorem qOf {e:PE} {past:List PE} {j:Nat} (h:e.i≠j):pval (e::past) j=pval past j:=if_neg h
theorem qFl {e:PE} {past:List PE}:pval (e::past) e.i=e.v.av:=if_pos rfl
def idx (past:List PE):List Nat:=past.map PE.i
section
variable {P:Program} {C:Qx} {ops:Array Oper} {st0:St}
def jx (ops:Array Oper) (st0:St) (past:List PE) (S:Nat->Bool) (s:Nat):AV:=match (List.range ops.size).find? (λi=>S i && (QL ops i == some s)) with
 | some i=>pval past i
 | none=>st0.tmps.at s
theorem qIa {α:Type} {p q:α->Bool}:∀{l:List α},(∀x∈l,p x=q x)->l.find? p=l.find? q
 | [],_=>rfl
 | x::l,h=>by simp only[List.find?_cons];rw[h x (by simp),qIa λy hy=>h y (by simp[hy])]
theorem qM8 {past:List PE} {S T:Nat->Bool} {s:Nat} (h:∀i,i<ops.size->QL ops i=some s->S i=T i):jx ops st0 past S s=jx ops st0 past T s:=by
 unfold jx;rw[qIa (q:=λi=>T i && (QL ops i == some s)) λi hi=>?_];by_cases e:QL ops i=some s
 .rw[h i (List.mem_range.1 hi) e]
 .have:(QL ops i == some s)=false:=by simpa using e
  rw[this];simp
structure RegF (ops:Array Oper):Prop where
 sep:∀i j s,i<ops.size->j<ops.size->i≠j->QL ops j=some s->QL ops i≠some s
 dep:∀i j s,i<ops.size->j<ops.size->QL ops j=some s->s∈slotsOf ops i->QG ops j i=true∨QG ops i j=true
 lt:∀i s,i<ops.size->s∈slotsOf ops i->s<4096
 dlt:∀i s,i<ops.size->QL ops i=some s->s<4096
 ord:∀i j,i<ops.size->j<ops.size->QG ops j i=true->j<i
theorem regF_of (h:qY1 ops.size (QG ops) (slotsOf ops) (QL ops)=true):RegF ops:=by
 have h1:=jo.1 (show allL _ _=true from h);have key:∀i,i<ops.size->(∀s∈slotsOf ops i,s<4096)/\∀j,j<ops.size->(QG ops j i=true->j<i)/\∀s,QL ops j=some s->s<4096/\(s∈slotsOf ops i->QG ops j i=true∨QG ops i j=true)/\(i=j∨QL ops i≠some s):=by
  intro i hi;have h2:=h1 i (List.mem_range.2 hi);obtain⟨h3,h4⟩:=Qk.1 h2;have h4:=jo.1 h4;refine⟨λs hs=>Qo.1 (jo.1 h3 s hs),λj hj=>?_⟩;obtain⟨h5,h6⟩:=Qk.1 (h4 j (List.mem_range.2 hj));refine⟨λho=>?_,λs hd=>?_⟩
  .rw[ho,Q6] at h5;exact Qo.1 h5
  .rw[hd] at h6
   obtain⟨h7,h8⟩:=Qk.1 (show cnd (ltb s 4096) (cnd (cnd (memN s (slotsOf ops i)) (cnd (QG ops j i) true (QG ops i j)) true)
     (cnd (Nat.beq i j) true (Option.rec (motive:=λ_=>Bool) true (λs'=>notB (Nat.beq s s')) (QL ops i))) false) false=true from h6)
   obtain⟨h9,h10⟩:=Qk.1 h8;refine⟨Qo.1 h7,λhm=>?_,?_⟩
   .rw[qI3.2 hm,Q6] at h9;cases ho:QG ops j i with
    | true=>exact .inl rfl
    | false=>rw[ho,Q8] at h9;exact .inr h9
   .by_cases e:i=j
    .exact .inl e
    .right;have hb:Nat.beq i j=false:=by
      cases hb:Nat.beq i j
      .rfl
      .exact absurd (QA hb) e
     rw[hb,Q8] at h10;intro hd2;rw[hd2] at h10;have h11:notB (Nat.beq s s)=true:=h10;rw[Nat.beq_refl] at h11;cases h11
 exact⟨λi j s hi hj hne hd=>((((key i hi).2 j hj).2 s hd).2.2).resolve_left hne,λi j s hi hj hd hm=>(((key i hi).2 j hj).2 s hd).2.1 hm,λi s hi hs=>(key i hi).1 s hs,λi s hi hd=>(((key i hi).2 i hi).2 s hd).1,λi j hi hj ho=>((key i hi).2 j hj).1 ho⟩
theorem jEg (rf:RegF ops) {past:List PE} {S:Nat->Bool} {j s:Nat} (hj:j<ops.size) (hs:s∈slotsOf ops j) (hnj:S j=false) (hp:∀i,i<ops.size->QG ops i j=true->S i=true)
  (hcl:∀i,i<ops.size->S i=true->∀k,k<ops.size->QG ops k i=true->S k=true):jx ops st0 past S s=jx ops st0 past (λi=>QG ops i j) s:=by
 refine qM8 λi hi hd=>?_;cases ho:QG ops i j with
 | true=>exact hp i hi ho
 | false =>
  cases hS:S i with
  | false=>rfl
  | true =>
   rcases rf.dep j i s hj hi hd hs with h | h
   .rw[h] at ho;cases ho
   .rw[hcl i hi hS j hj h] at hnj;cases hnj
theorem qVs (rf:RegF ops) {past:List PE} {S T:Nat->Bool} {i s:Nat} (hi:i<ops.size) (hS:S i=false) (hT:∀j,j<ops.size->T j=(S j || decide (j=i))) :
  jx ops st0 past T s=if QL ops i=some s then pval past i else jx ops st0 past S s:=by
 by_cases hd:QL ops i=some s
 .rw[if_pos hd];unfold jx
  have:(List.range ops.size).find? (λj=>T j && (QL ops j == some s))=some i:=by
   rw[qIa (q:=λj=>decide (j=i)) λj hj=>?_]
   .have hm:i∈List.range ops.size:=List.mem_range.2 hi
    have:((List.range ops.size).find? λj=>decide (j=i)).isSome=true:=List.find?_isSome.2 ⟨i,hm,by simp⟩
    obtain⟨x,hx⟩:=Option.isSome_iff_exists.1 this
    have:=List.find?_some hx
    simp only[decide_eq_true_eq] at this;rw[hx,this]
   .rw[hT j (List.mem_range.1 hj)];by_cases e:j=i
    .subst e;simp[hd]
    .have hne:=rf.sep j i s (List.mem_range.1 hj) hi e hd
     have:(QL ops j == some s)=false:=by simpa using hne
     rw[this];simp[e]
  rw[this]
 .rw[if_neg hd];refine qM8 λj hj hdj=>?_;rw[hT j hj]
  have:j≠i:=λe=>hd (e ▸ hdj)
  simp[this]
theorem qF1 {past:List PE} {e:PE} {S:Nat->Bool} {s:Nat} (h:S e.i=false):jx ops st0 (e::past) S s=jx ops st0 past S s:=by
 unfold jx;split
 .rename_i i hi
  have:=List.find?_some hi
  simp only[Bool.and_eq_true] at this;exact qOf λhe=>by rw[he] at h;rw[h] at this;cases this.1
 .rfl
end
end Go.X
namespace Go.X
section
variable {P:Program} {C:Qx} {ops:Array Oper} {st0:St} {call:Qw} {round:Qs}
theorem qSi (f:Nat->AV):∀(sl:List Nat) (t:TT),(∀s∈sl,s<4096)->∃t',(∀k:TT->FM,fillT sl (sl.map f) t k=k t')/\∀r,r<4096->t'.at r=if r∈sl then f r else t.at r
 | [],t,_=>⟨t,λk=>rfl,λr _=>by simp⟩
 | s::l,t,hl=>by
  obtain⟨t',h1,h2⟩:=qSi f l (TT.put s (f s) t) λx hx=>hl x (by simp[hx]);refine⟨t',λk=>?_,λr hr=>?_⟩
  .show TT.putK s (f s) t (λt'=>fillT l (l.map f) t' k)=_;rw[TT.putK_eq,h1]
  .rw[h2 r hr,TT.at_put (hl s (by simp)) hr];by_cases e:r=s
   .subst e;by_cases h:r∈l <;> simp[h]
   .by_cases h:r∈l <;> simp[h,e]
theorem qV3 (rf:RegF ops) {j:Nat} (hj:j<ops.size) {f:Nat->AV} {zp:ZT} (hz:∀s,s∈slotsOf ops j->f s=(QM zp s).av) (hz2:∀s,s ∉ slotsOf ops j->QM zp s=.tup []) :
  ∃t',(∀s,s<4096->t'.at s=(QM zp s).av)/\(∀s,s∈slotsOf ops j->t'.at s=f s)/\qLi P call round ops j ((slotsOf ops j).map f)=jf ops t' (QU ops j) λb=>cnd b
   (opK P (QU ops j).op ⟨call,round,t',P.globals.size⟩ (λv=>.ret (.val v)) (λ_=>.fail 155) (λ_=>.fail 156)) (.ret (.val (.tuple []))):=by
 obtain⟨t',h1,h2⟩:=qSi f (slotsOf ops j) TT.undef λs hs=>rf.lt j s hj hs;refine⟨t',λs hs=>?_,λs hs=>?_,h1 _⟩
 .rw[h2 s hs];by_cases e:s∈slotsOf ops j
  .rw[if_pos e];exact hz s e
  .rw[if_neg e,TT.at_undef,hz2 s e];simp
 .rw[h2 s (rf.lt j s hj hs),if_pos hs]
theorem qTw {z:ZT} {o:Oper} {yes no:ZT->Prop} (hs:qN3 ops z o yes no) :
  ∃(b:Bool) (z':ZT),(∀s,(QM z' s).av=(QM z s).av)/\(cnd b (yes z') (no z'))/\∀t:TT,(∀s w,guardOf ops o=some (some s,w)->t.at s=(QM z s).av)->∀k:Bool->FM,jf ops t o k=k b:=by
 unfold qN3 at hs;have e:∀(t:TT) k,jf ops t o k=Option.rec (motive:=λ_=>FM) (k true) (λg=>Option.rec (motive:=λ_=>FM) (k false) (λs=>cnd (ltb s 4096) (qOt g.2 (TT.at s t) k) (.fail 159)) g.1) (guardOf ops o):=λt k=>rfl;split at hs
 .rename_i hg;exact⟨true,z,λ_=>rfl,hs,λt _ k=>by rw[e,hg]⟩
 .rename_i w hg;exact⟨false,z,λ_=>rfl,hs,λt _ k=>by rw[e,hg]⟩
 .rename_i s want hg;split at hs
  .rename_i b hb hzs;have hk:∀t:TT,(∀s w,guardOf ops o=some (some s,w)->t.at s=(QM z s).av)->∀k:Bool->FM,jf ops t o k=k (cnd b want (cnd want false true)):=λt ht k=>by
    have hat:TT.at s t=.bool b:=by rw[ht s want hg,hzs,qBr]
    rw[e,hg];show cnd (ltb s 4096) (qOt want (TT.at s t) k) (.fail 159)=_;rw[hb,Q6,hat];rfl
   have same:∀s',(QM (zset z s (.bool b)) s').av=(QM z s').av:=λs'=>by
    rw[qEw];by_cases e:s'=s
    .rw[if_pos e,e,hzs]
    .rw[if_neg e]
   cases b with
   | true =>
    cases want with
    | true=>exact⟨true,_,same,hs,hk⟩
    | false=>exact⟨false,_,same,hs,hk⟩
   | false =>
    cases want with
    | true=>exact⟨false,_,same,hs,hk⟩
    | false=>exact⟨true,_,same,hs,hk⟩
  .rename_i vs hb hzs;refine⟨false,z,λ_=>rfl,hs,λt ht k=>?_⟩;have hat:TT.at s t=.tuple (avs vs):=by rw[ht s want hg,hzs,qU8]
   rw[e,hg];show cnd (ltb s 4096) (qOt want (TT.at s t) k) (.fail 159)=_;rw[hb,Q6,hat];rfl
  .exact hs.elim
theorem qEu {j:Nat} {g:Tmp} {w:Bool} (h:guardOf ops (QU ops j)=some (some g,w)):g∈slotsOf ops j:=by unfold slotsOf qSe;rw[h];simp
def ROk (P:Program) (ops:Array Oper) (st0:St) (call:Qw) (round:Qs) (past:List PE) (j:Nat) (h:Q0):Prop :=
 ∀q:QF,q (.val (pval past j)) h->(qLi P call round ops j ((slotsOf ops j).map λs=>jx ops st0 past (λi=>QG ops i j) s)).sat q h
structure DI (P:Program) (ops:Array Oper) (st0:St) (call:Qw) (round:Qs) (past:List PE) (cr:List Nat) (z:ZT) (h:Q0) (D lr:List Nat) (stL:St):Prop where
 inf:h.inf=true
 chk:chkC P ops (idx past) cr=true
 eo:effs P ops cr=effs P ops lr
 all:∀i,i<ops.size->i∈idx past∨i∈cr
 lt:∀i,i∈idx past->i<ops.size
 pcl:∀i,i∈idx past->∀j,j<ops.size->QG ops j i=true->j∈idx past
 dcl:∀i,i∈D->∀j,j<ops.size->QG ops j i=true->j∈D
 dsub:∀i,i∈D->i∈idx past
 eff:∀i,i∈idx past->isRd P (QU ops i).op=false->i∈D
 dl:∀i,i<ops.size->(i∈D∨i∈lr)
 dn:∀i,i∈lr->i ∉ D
 lord:∀p i s,lr=p++i::s->∀j,j<ops.size->QG ops j i=true->j∈D∨j∈p
 lnd:lr.Nodup
 llt:∀i,i∈lr->i<ops.size
 tz:∀s,s<4096->(QM z s).av=jx ops st0 past (λi=>J7 i (idx past)) s
 tl:∀s,s<4096->stL.tmps.at s=jx ops st0 past (λi=>J7 i D) s
 du:stL.defers=st0.defers/\stL.u=st0.u
 ready:∀j,j∈idx past->j ∉ D->ROk P ops st0 call round past j h
 re:∀e,e∈past->e.i ∉ D->(e.ran=true->∀h',h'.inf=true->(qOs (QU ops e.i).op=true∨qJk P (QU ops e.i).op e.z h' λv=>v.av=e.v.av)->ROk P ops st0 call round past e.i h') /\
  (e.ran=false->∀h',ROk P ops st0 call round past e.i h')
theorem jV {i:Nat} {l:List Nat}:J7 i l=false↔i ∉ l:=by rw[<- Bool.not_eq_true,j5]
theorem ROk.cons {past:List PE} {e:PE} {j:Nat} {h:Q0} (he:e.i≠j) (hp:QG ops e.i j=false) (r:ROk P ops st0 call round past j h):ROk P ops st0 call round (e::past) j h:=by
 intro q hq;rw[qOf he] at hq
 have:((slotsOf ops j).map λs=>jx ops st0 (e::past) (λi=>QG ops i j) s)=(slotsOf ops j).map λs=>jx ops st0 past (λi=>QG ops i j) s :=
  List.map_congr_left λs _=>qF1 hp
 rw[this];exact r q hq
theorem qMi {a b:List Nat} {i:Nat} (h:chkC P ops a (i::b)=true):i<ops.size/\i ∉ a/\(∀j,j<ops.size->QG ops j i=true->j∈a) /\
  (isRd P (QU ops i).op=false->∀r,r∈b->isRd P (QU ops r).op=true->¬ ∀j,j<ops.size->QG ops j r=true->j∈a)/\chkC P ops (i::a) b=true:=by
 unfold chkC at h;simp only[Bool.and_eq_true] at h;obtain⟨⟨⟨⟨h1,h2⟩,h3⟩,h4⟩,h5⟩:=h;refine⟨zS0 h1,λhm=>?_,(qJy (ops:=ops)).1 h3,λhr=>?_,h5⟩
 .rw[j5.2 hm] at h2;cases h2
 .rw[hr] at h4;simp only[List.all_eq_true] at h4;intro r hr2 hrr hall
  have:=h4 r hr2
  rw[hrr,(qJy (ops:=ops)).2 hall] at this;cases this
theorem effs_rd {i:Nat} {l:List Nat} (h:isRd P (QU ops i).op=true):effs P ops (i::l)=effs P ops l:=by unfold effs;rw[List.filter_cons,h];rfl
theorem qXf {i:Nat} {l:List Nat} (h:isRd P (QU ops i).op=false):effs P ops (i::l)=i::effs P ops l:=by unfold effs;rw[List.filter_cons,h];rfl
theorem qV5 (rf:RegF ops) {past:List PE} {i:Nat} (hi:i<ops.size) (hni:i ∉ idx past) (hirr:QG ops i i=false) {z1:ZT} (hz1:∀s,s∈slotsOf ops i->(QM z1 s).av=jx ops st0 past (λj=>QG ops j i) s)
  (hw:∀t:TT,(∀s w,guardOf ops (QU ops i)=some (some s,w)->t.at s=(QM z1 s).av)->∀k:Bool->FM,jf ops t (QU ops i) k=k true)
  {v:ZV} {h':Q0} (hrd:∀(t:TT),(∀s,s<4096->t.at s=(QM (qg (slotsOf ops i) z1) s).av)->∀q:QF,q (.val v.av) h'->(opK P (QU ops i).op ⟨call,round,t,P.globals.size⟩ (λv=>.ret (.val v)) (λ_=>.fail 155) (λ_=>.fail 156)).sat q h') :
  ROk P ops st0 call round (⟨i,qg (slotsOf ops i) z1,v,true⟩::past) i h':=by
 intro q hq;have e1:pval ((⟨i,qg (slotsOf ops i) z1,v,true⟩:PE)::past) i=v.av:=qFl (e:=⟨i,qg (slotsOf ops i) z1,v,true⟩);rw[e1] at hq;have hargs:((slotsOf ops i).map λs=>jx ops st0 ((⟨i,qg (slotsOf ops i) z1,v,true⟩:PE)::past) (λj=>QG ops j i) s)=(slotsOf ops i).map λs=>jx ops st0 past (λj=>QG ops j i) s :=
  List.map_congr_left λs _=>qF1 hirr
 rw[hargs]
 obtain⟨t',h1,h2,h3⟩:=qV3 (P:=P) (call:=call) (round:=round) rf hi (f:=λs=>jx ops st0 past (λj=>QG ops j i) s) (zp:=qg (slotsOf ops i) z1)
  (λs hs=>by rw[Jo,if_pos hs];exact (hz1 s hs).symm) (λs hs=>by rw[Jo,if_neg hs])
 rw[h3,hw t' λs w hg=>by rw[h2 s (qEu hg)];exact (hz1 s (qEu hg)).symm,Q6];exact hrd t' h1 q hq
theorem none_ROk (rf:RegF ops) {past:List PE} {i:Nat} (hi:i<ops.size) (hirr:QG ops i i=false) {z1:ZT} (hz1:∀s,s∈slotsOf ops i->(QM z1 s).av=jx ops st0 past (λj=>QG ops j i) s)
  (hw:∀t:TT,(∀s w,guardOf ops (QU ops i)=some (some s,w)->t.at s=(QM z1 s).av)->∀k:Bool->FM,jf ops t (QU ops i) k=k false) (h':Q0) :
  ROk P ops st0 call round (⟨i,[],.tup [],false⟩::past) i h':=by
 intro q hq;have e1:pval ((⟨i,[],.tup [],false⟩:PE)::past) i=.tuple []:=by
  have:pval ((⟨i,[],.tup [],false⟩:PE)::past) i=(ZV.tup []).av:=qFl (e:=⟨i,[],.tup [],false⟩)
  rw[this];simp
 rw[e1] at hq;have hargs:((slotsOf ops i).map λs=>jx ops st0 ((⟨i,[],.tup [],false⟩:PE)::past) (λj=>QG ops j i) s)=(slotsOf ops i).map λs=>jx ops st0 past (λj=>QG ops j i) s :=
  List.map_congr_left λs _=>qF1 hirr
 rw[hargs]
 obtain⟨t',h1,h2,h3⟩:=qV3 (P:=P) (call:=call) (round:=round) rf hi (f:=λs=>jx ops st0 past (λj=>QG ops j i) s) (zp:=qg (slotsOf ops i) z1)
  (λs hs=>by rw[Jo,if_pos hs];exact (hz1 s hs).symm) (λs hs=>by rw[Jo,if_neg hs])
 rw[h3,hw t' λs w hg=>by rw[h2 s (qEu hg)];exact (hz1 s (qEu hg)).symm,Q8];exact hq
theorem qHf {i:Nat} {h':Q0} {A:Prop}:∀{past:List PE},qHg P ops i h' A past->A/\∀e,e∈past->e.ran=true->qOs (QU ops e.i).op=false->QG ops e.i i=false->isRd P (QU ops e.i).op=true->qJk P (QU ops e.i).op e.z h' λv=>v.av=e.v.av
 | [],h=>⟨h,λe he=>absurd he zK0⟩
 | x::r,h=>by
  unfold qHg at h;split at h
  .rename_i hc;obtain⟨h1,h2⟩:=h;obtain⟨h3,h4⟩:=qHf h2;refine⟨h3,λe he h5 h6 h7 h8=>?_⟩;rcases List.mem_cons.1 he with e1 | e1
   .subst e1;exact h1
   .exact h4 e e1 h5 h6 h7 h8
  .rename_i hc;obtain⟨h3,h4⟩:=qHf h;refine⟨h3,λe he h5 h6 h7 h8=>?_⟩;rcases List.mem_cons.1 he with e1 | e1
   .subst e1;rw[h5,h6,h7,h8] at hc;cases hc
   .exact h4 e e1 h5 h6 h7 h8
theorem DI.tz_add (rf:RegF ops) {past:List PE} {z1:ZT} {i:Nat} (hi:i<ops.size) (hni:i ∉ idx past) (hz:∀s,s<4096->(QM z1 s).av=jx ops st0 past (λj=>J7 j (idx past)) s) {e:PE} (he:e.i=i) {N:Nat} {K:ZT->Prop}
  (hs:zDst N (QL ops i) e.v z1 K):∃z',K z'/\∀s,s<4096->(QM z' s).av=jx ops st0 (e::past) (λj=>J7 j (idx (e::past))) s:=by
 have hadd:∀s,jx ops st0 (e::past) (λj=>J7 j (idx (e::past))) s=if QL ops i=some s then e.v.av else jx ops st0 past (λj=>J7 j (idx past)) s:=by
  intro s;rw[qVs rf (S:=λj=>J7 j (idx past)) (i:=i) hi (jV.2 hni) (λj _=>by
   have:idx (e::past)=i::idx past:=by unfold idx;simp[he]
   rw[this];show (match Nat.beq j i with | true=>true | false=>J7 j (idx past))=(J7 j (idx past) || decide (j=i));cases hb:Nat.beq j i
   .have:j≠i:=λe=>by subst e;simp at hb
    simp[this]
   .simp[QA hb])]
  have h1:pval (e::past) i=e.v.av:=by rw[<- he];exact qFl
  rw[h1,qF1 (by rw[he];exact jV.2 hni)]
 unfold zDst at hs;split at hs
 .rename_i hd;refine⟨z1,hs,λs hs2=>?_⟩;rw[hadd s,hd,if_neg (by simp)];exact hz s hs2
 .rename_i d hd;split at hs
  .refine⟨_,hs,λs hs2=>?_⟩;rw[hadd s,qEw,hd];by_cases e1:s=d
   .subst e1;simp
   .rw[if_neg e1,if_neg (by simpa using λh=>e1 h.symm)];exact hz s hs2
  .exact hs.elim
end
end Go.X
namespace Go.X
section
variable {P:Program} {C:Qx} {ops:Array Oper} {st0:St} {call:Qw} {round:Qs}
theorem tt_of (zp:ZT):∃t:TT,∀s,s<4096->t.at s=(QM zp s).av:=by obtain⟨t',_,h2⟩:=qSi (λs=>(QM zp s).av) (List.range 4096) TT.undef λs hs=>List.mem_range.1 hs;exact⟨t',λs hs=>by rw[h2 s hs,if_pos (List.mem_range.2 hs)]⟩
theorem sel_map (st:St):∀l:List Nat,st.sel l=l.map λs=>st.tmps.at s
 | []=>rfl
 | s::l=>by show st.tmps.at s::st.sel l=_;rw[sel_map st l];rfl
theorem qZs {i j:Nat} {l:List Nat}:J7 j (i::l)=(J7 j l || decide (j=i)):=by
 show (match Nat.beq j i with | true=>true | false=>J7 j l)=_;cases hb:Nat.beq j i
 .have:j≠i:=λe=>by subst e;simp at hb
  simp[this]
 .simp[QA hb]
section
variable {past:List PE} {cr:List Nat} {z:ZT} {h:Q0} {D lr:List Nat} {stL:St}
theorem irr (rf:RegF ops) {i:Nat} (hi:i<ops.size):QG ops i i=false:=by
 cases h:QG ops i i
 .rfl
 .exact absurd (rf.ord i i hi hi h) (Nat.lt_irrefl _)
theorem DI.step (rf:RegF ops) (d:DI P ops st0 call round past cr z h D lr stL) {e:PE} {r:List Nat} {z':ZT} (hcr:cr=e.i::r)
  (hrd:isRd P (QU ops e.i).op=true∨e.i∈D)
  (tz:∀s,s<4096->(QM z' s).av=jx ops st0 (e::past) (λj=>J7 j (idx (e::past))) s)
  (hready:ROk P ops st0 call round (e::past) e.i h)
  (hre:(e.ran=true->∀h',h'.inf=true->(qOs (QU ops e.i).op=true∨qJk P (QU ops e.i).op e.z h' λv=>v.av=e.v.av)->ROk P ops st0 call round (e::past) e.i h')/\(e.ran=false->∀h',ROk P ops st0 call round (e::past) e.i h')) :
  DI P ops st0 call round (e::past) r z' h D lr stL:=by
 have hchk:=d.chk;rw[hcr] at hchk;obtain⟨h1,h2,h3,h4,h5⟩:=qMi hchk;have hne:∀j,j∈idx past->e.i≠j:=λj hj he=>h2 (he ▸ hj);have hord:∀j,j∈idx past->QG ops e.i j=false:=λj hj=>by
  cases ho:QG ops e.i j
  .rfl
  .exact absurd (d.pcl j hj e.i h1 ho) h2
 have hnD:e.i ∉ D:=λhm=>h2 (d.dsub _ hm);have hidx:idx (e::past)=e.i::idx past:=rfl;have heo:effs P ops r=effs P ops lr:=by rw[<- d.eo,hcr,effs_rd (hrd.resolve_right hnD)]
 refine⟨d.inf,h5,heo,λi hi=>?_,λi hi=>?_,λi hi j hj ho=>?_,d.dcl,λi hi=>?_,λi hi hr=>?_,d.dl,d.dn,d.lord,d.lnd,d.llt,tz,λs hs=>?_,d.du,λj hj hnj=>?_,λe' he' hn'=>?_⟩
 .rcases d.all i hi with h | h
  .exact .inl (by rw[hidx];exact zA0 _ h)
  .rw[hcr] at h;rcases List.mem_cons.1 h with e1 | e1
   .exact .inl (by rw[hidx,e1];exact zB0)
   .exact .inr e1
 .rw[hidx] at hi;rcases List.mem_cons.1 hi with e1 | e1
  .rw[e1];exact h1
  .exact d.lt i e1
 .rw[hidx] at hi ⊢;rcases List.mem_cons.1 hi with e1 | e1
  .subst e1;exact zA0 _ (h3 j hj ho)
  .exact zA0 _ (d.pcl i e1 j hj ho)
 .rw[hidx];exact zA0 _ (d.dsub i hi)
 .rw[hidx] at hi;rcases List.mem_cons.1 hi with e1 | e1
  .subst e1;rcases hrd with h | h
   .rw[h] at hr;cases hr
   .exact h
  .exact d.eff i e1 hr
 .rw[qF1 (jV.2 hnD)];exact d.tl s hs
 .rw[hidx] at hj;rcases List.mem_cons.1 hj with e1 | e1
  .subst e1;exact hready
  .exact (d.ready j e1 hnj).cons (hne j e1) (hord j e1)
 .rcases List.mem_cons.1 he' with e1 | e1
  .subst e1;exact hre
  .have hm:e'.i∈idx past:=List.mem_map_of_mem e1;obtain⟨a,b⟩:=d.re e' e1 hn';exact⟨λhr h' hi ha=>(a hr h' hi ha).cons (hne _ hm) (hord _ hm),λhr h'=>(b hr h').cons (hne _ hm) (hord _ hm)⟩
theorem DI.run (rf:RegF ops) {i:Nat} {rest:List Nat} (d:DI P ops st0 call round past cr z h D (i::rest) stL) (hi:i∈idx past):DI P ops st0 call round past cr z h (i::D) rest (stL.put (QL ops i) (pval past i)):=by
 have hil:=d.llt i zB0;have hnd:=List.nodup_cons.1 d.lnd;have hniD:=d.dn i zB0;have hri:isRd P (QU ops i).op=true:=by
  cases h:isRd P (QU ops i).op with
  | true=>rfl
  | false=>exact absurd (d.eff i hi h) hniD
 refine⟨d.inf,d.chk,by rw[d.eo,effs_rd hri],d.all,d.lt,d.pcl,λx hx j hj ho=>?_,λx hx=>?_,λx hx hr=>zA0 _ (d.eff x hx hr),λx hx=>?_,λx hx hm=>?_,λp x s e j hj ho=>?_,hnd.2,λx hx=>d.llt x (zA0 _ hx),d.tz,λs hs=>?_,?_,λj hj hn=>d.ready j hj λh=>hn (zA0 _ h),λe he hn=>d.re e he λh=>hn (zA0 _ h)⟩
 .rcases List.mem_cons.1 hx with e | e
  .subst e;rcases d.lord [] x rest rfl j hj ho with h | h
   .exact zA0 _ h
   .cases h
  .exact zA0 _ (d.dcl x e j hj ho)
 .rcases List.mem_cons.1 hx with e | e
  .rw[e];exact hi
  .exact d.dsub x e
 .rcases d.dl x hx with h | h
  .exact .inl (zA0 _ h)
  .rcases List.mem_cons.1 h with e | e
   .exact .inl (by rw[e];exact zB0)
   .exact .inr e
 .rcases List.mem_cons.1 hm with e | e
  .subst e;exact hnd.1 hx
  .exact d.dn x (zA0 _ hx) e
 .rcases d.lord (i::p) x s (by rw[e];rfl) j hj ho with h | h
  .exact .inl (zA0 _ h)
  .rcases List.mem_cons.1 h with e1 | e1
   .exact .inl (by rw[e1];exact zB0)
   .exact .inr e1
 .have hadd:=qVs (st0:=st0) rf (past:=past) (S:=λj=>J7 j D) (T:=λj=>J7 j (i::D)) (i:=i) (s:=s) hil (jV.2 hniD) λj _=>qZs;rw[hadd];cases hd:QL ops i with
  | none=>rw[if_neg (by simp)];exact d.tl s hs
  | some t =>
   have ht:t<4096:=rf.dlt i t hil hd;show (TT.put t (pval past i) stL.tmps).at s=_;rw[TT.at_put ht hs];by_cases e:s=t
   .subst e;simp
   .rw[if_neg e,if_neg (by simpa using λh=>e h.symm)];exact d.tl s hs
 .cases hd:QL ops i with
  | none=>exact d.du
  | some t=>exact d.du
theorem DI.args (rf:RegF ops) {i:Nat} {rest:List Nat} (d:DI P ops st0 call round past cr z h D (i::rest) stL):stL.sel (slotsOf ops i)=(slotsOf ops i).map λs=>jx ops st0 past (λj=>QG ops j i) s:=by
 have hil:=d.llt i zB0;rw[sel_map];refine List.map_congr_left λs hs=>?_;rw[d.tl s (rf.lt i s hil hs)];refine jEg rf hil hs (jV.2 (d.dn i zB0)) (λj hj ho=>j5.2 ?_) λj hj hS k hk ho=>j5.2 (d.dcl j (j5.1 hS) k hk ho);rcases d.lord [] i rest rfl j hj ho with h | h
 .exact h
 .cases h
theorem DI.look (rf:RegF ops) {i:Nat} {r:List Nat} (d:DI P ops st0 call round past cr z h D lr stL) (hcr:cr=i::r) {z1:ZT} (hsame:∀s,(QM z1 s).av=(QM z s).av):∀s,s∈slotsOf ops i->(QM z1 s).av=jx ops st0 past (λj=>QG ops j i) s:=by have hchk:=d.chk;rw[hcr] at hchk;obtain⟨h1,h2,h3,_,_⟩:=qMi hchk;intro s hs;rw[hsame,d.tz s (rf.lt i s h1 hs)];exact jEg rf h1 hs (jV.2 h2) (λj hj ho=>j5.2 (h3 j hj ho)) λj hj hS k hk ho=>j5.2 (d.pcl j (j5.1 hS) k hk ho)
end
variable {N:Nat} {K:ZT->Q0->Prop}
theorem advance (rf:RegF ops) {h:Q0} {D rest:List Nat} {i:Nat} {stL:St}:∀(cr:List Nat) (past:List PE) (z:ZT),DI P ops st0 call round past cr z h D (i::rest) stL->qHh P C ops N K cr past z h ->
  ∃past' cr' z',DI P ops st0 call round past' cr' z' h D (i::rest) stL/\qHh P C ops N K cr' past' z' h/\(i∈idx past'∨(i ∉ idx past'/\(∃r,cr'=i::r)/\isRd P (QU ops i).op=false))
 | cr,past,z,d,hz=>by
  by_cases hi:i∈idx past
  .exact⟨past,cr,z,d,hz,.inl hi⟩
  .have hil:=d.llt i zB0;cases cr with
   | nil=>exact absurd ((d.all i hil).resolve_left hi) zK0
   | cons c r =>
    obtain⟨h1,h2,h3,h4,h5⟩:=qMi d.chk;have hpre:∀j,j<ops.size->QG ops j i=true->j∈D:=λj hj ho=>by
     rcases d.lord [] i rest rfl j hj ho with h | h
     .exact h
     .cases h
    cases hrc:isRd P (QU ops c).op with
    | false =>
     have hci:c=i:=by
      by_cases e:c=i
      .exact e
      .exfalso;have hir:i∈r:=by
        rcases List.mem_cons.1 ((d.all i hil).resolve_left hi) with h | h
        .exact absurd h.symm e
        .exact h
       cases hri:isRd P (QU ops i).op with
       | true=>exact h4 hrc i hir hri λj hj ho=>d.dsub j (hpre j hj ho)
       | false =>have ho:=d.eo;rw[qXf hrc,qXf hri] at ho;exact e (List.cons.inj ho).1
     subst hci;exact⟨past,c::r,z,d,hz,.inr ⟨hi,⟨r,rfl⟩,hrc⟩⟩
    | true =>
     have hz0:qN3 ops z (QU ops c)
      (λz=>match isRd P (QU ops c).op with
       | true=>qJk P (QU ops c).op (qg (slotsOf ops c) z) h λv=>zDst N (QL ops c) v z λz'=>qHh P C ops N K r (⟨c,qg (slotsOf ops c) z,v,true⟩::past) z' h
       | false=>jBj P C (QU ops c).op (QU ops c).type (qg (slotsOf ops c) z) h λv h'=>qHg P ops c h' (zDst N (QL ops c) v z λz'=>qHh P C ops N K r (⟨c,qg (slotsOf ops c) z,v,true⟩::past) z' h') past)
      (λz=>zDst N (QL ops c) (.tup []) z λz'=>qHh P C ops N K r (⟨c,[],.tup [],false⟩::past) z' h):=hz
     obtain⟨b,z1,hsame,hb,hw0⟩:=qTw hz0;have hw:∀t:TT,(∀s w,guardOf ops (QU ops c)=some (some s,w)->t.at s=(QM z1 s).av)->∀k:Bool->FM,jf ops t (QU ops c) k=k b:=λt ht=>hw0 t λs w hg=>(ht s w hg).trans (hsame s);have hlook:=d.look rf rfl hsame;have hirr:=irr rf h1;have htz1:∀s,s<4096->(QM z1 s).av=jx ops st0 past (λj=>J7 j (idx past)) s:=λs hs=>by rw[hsame];exact d.tz s hs
     cases b with
     | true =>
      rw[Q6,hrc] at hb;replace hb:qJk P (QU ops c).op (qg (slotsOf ops c) z1) h λv=>zDst N (QL ops c) v z1 λz'=>qHh P C ops N K r (⟨c,qg (slotsOf ops c) z1,v,true⟩::past) z' h:=hb;obtain⟨t0,ht0⟩:=tt_of (qg (slotsOf ops c) z1);have hev:∀x,(⟨call,round,t0,P.globals.size⟩:OC).ev x=(zEv P (qg (slotsOf ops c) z1) x).av:=λx=>qTx ht0 x;have huniq:∀t:TT,(∀s,s<4096->t.at s=(QM (qg (slotsOf ops c) z1) s).av)->t=t0:=λt ht=>TT.ext λs hs=>by rw[ht s hs,ht0 s hs]
      obtain⟨v,hk,hnow,hlater⟩:∃v,(zDst N (QL ops c) v z1 λz'=>qHh P C ops N K r (⟨c,qg (slotsOf ops c) z1,v,true⟩::past) z' h) /\
        ROk P ops st0 call round (⟨c,qg (slotsOf ops c) z1,v,true⟩::past) c h /\
        ∀h',h'.inf=true->(qOs (QU ops c).op=true∨qJk P (QU ops c).op (qg (slotsOf ops c) z1) h' λu=>u.av=v.av)->ROk P ops st0 call round (⟨c,qg (slotsOf ops c) z1,v,true⟩::past) c h':=by
       have later:∀(v:ZV) (h':Q0),(qJk P (QU ops c).op (qg (slotsOf ops c) z1) h' λu=>u.av=v.av)->ROk P ops st0 call round (⟨c,qg (slotsOf ops c) z1,v,true⟩::past) c h':=λv h' hr=>by obtain⟨v',e',rd'⟩:=qJj (kd:=λ_=>.fail 155) (kp:=λ_=>.fail 156) hev hr;exact qV5 rf h1 h2 hirr hlook hw λt ht q hq=>by rw[huniq t ht];exact rd' _ q (by rw[e'];exact hq)
       cases hp:qOs (QU ops c).op with
       | true =>
        obtain⟨v,hk,e⟩:=jFt (kd:=λ_=>.fail 155) (kp:=λ_=>.fail 156) hev hp hb;have all':∀h',ROk P ops st0 call round (⟨c,qg (slotsOf ops c) z1,v,true⟩::past) c h':=λh' =>
         qV5 rf h1 h2 hirr hlook hw λt ht q hq=>by rw[huniq t ht];have e1:=e λv=>.ret (.val v);simp only at e1;rw[e1];exact hq
        exact⟨v,hk,all' h,λh' _ _=>all' h'⟩
       | false =>obtain⟨v,hk,rd⟩:=qJj (kd:=λ_=>.fail 155) (kp:=λ_=>.fail 156) hev hb;refine⟨v,hk,qV5 rf h1 h2 hirr hlook hw λt ht q hq=>by rw[huniq t ht];exact rd _ q hq,λh' _ ho=>?_⟩;exact later v h' (ho.resolve_left (by simp))
      obtain⟨z',hz',tz'⟩:=DI.tz_add rf h1 h2 htz1 (e:=⟨c,qg (slotsOf ops c) z1,v,true⟩) rfl hk;exact advance rf r _ z' (d.step rf (e:=⟨c,qg (slotsOf ops c) z1,v,true⟩) rfl (.inl hrc) tz' hnow ⟨λ_=>hlater,λhf=>(by cases hf)⟩) hz'
     | false =>rw[Q8] at hb;have hno:=λh'=>none_ROk (P:=P) (call:=call) (round:=round) rf h1 hirr hlook hw h';obtain⟨z',hz',tz'⟩:=DI.tz_add rf h1 h2 htz1 (e:=⟨c,[],.tup [],false⟩) rfl hb;exact advance rf r _ z' (d.step rf (e:=⟨c,[],.tup [],false⟩) rfl (.inl hrc) tz' (hno h) ⟨λhf=>(by cases hf),λ_=>hno⟩) hz'
theorem qKj {Df:List qk} (hC:CZ P call round C) (rf:RegF ops) {k:St->FM} {p:QF} (hst:st0.defers=Df/\st0.u=.na) (hK:∀z' st' h',h'.inf=true->ZS Df z' st'->K z' h'->(k st').sat p h') :
  ∀(lr D:List Nat) (past:List PE) (cr:List Nat) (z:ZT) (h:Q0) (stL:St),DI P ops st0 call round past cr z h D lr stL->qHh P C ops N K cr past z h ->
   qJu (slotsOf ops) (QL ops) (λi vs q g=>(qLi P call round ops i vs).sat q g) (λs g=>(k s).sat p g) lr stL h
 | [],D,past,cr,z,h,stL,d,hz=>by
  have hall:∀i,i<ops.size->i∈D:=λi hi=>(d.dl i hi).resolve_right zK0;cases cr with
  | nil =>
   have hz':K z h:=hz;refine hK z stL h d.inf ⟨λs hs=>?_,by rw[d.du.1,hst.1],by rw[d.du.2,hst.2]⟩ hz';rw[d.tl s hs,d.tz s hs];exact qM8 λi hi _=>by rw[j5.2 (hall i hi),j5.2 (d.dsub i (hall i hi))]
  | cons c r =>
   obtain⟨h1,h2,_,_,_⟩:=qMi d.chk;exact absurd (d.dsub c (hall c h1)) h2
 | i::rest,D,past0,cr0,z0,h,stL,d0,hz0=>by
  obtain⟨past,cr,z,d,hz,hcase⟩:=advance rf cr0 past0 z0 d0 hz0;show (qLi P call round ops i (stL.sel (slotsOf ops i))).sat (λr h'=>∃v,r=.val v/\qJu (slotsOf ops) (QL ops) (λi vs q g=>(qLi P call round ops i vs).sat q g) (λs g=>(k s).sat p g) rest (stL.put (QL ops i) v) h') h;rw[d.args rf];have hniD:=d.dn i zB0;have hil:=d.llt i zB0;rcases hcase with hi | ⟨hni,⟨r,hcr⟩,hir⟩
  .refine d.ready i hi hniD _ ⟨_,rfl,?_⟩;exact qKj hC rf hst hK rest (i::D) past cr z h _ (d.run rf hi) hz
  .subst hcr;obtain⟨h1,h2,h3,h4,h5⟩:=qMi d.chk
   have hz1:qN3 ops z (QU ops i)
    (λz=>match isRd P (QU ops i).op with
     | true=>qJk P (QU ops i).op (qg (slotsOf ops i) z) h λv=>zDst N (QL ops i) v z λz'=>qHh P C ops N K r (⟨i,qg (slotsOf ops i) z,v,true⟩::past) z' h
     | false=>jBj P C (QU ops i).op (QU ops i).type (qg (slotsOf ops i) z) h λv h'=>qHg P ops i h' (zDst N (QL ops i) v z λz'=>qHh P C ops N K r (⟨i,qg (slotsOf ops i) z,v,true⟩::past) z' h') past)
    (λz=>zDst N (QL ops i) (.tup []) z λz'=>qHh P C ops N K r (⟨i,[],.tup [],false⟩::past) z' h):=hz
   obtain⟨b,z1,hsame,hb,hw0⟩:=qTw hz1;have hlook:=d.look rf rfl hsame;have hirr:=irr rf h1;have htz1:∀s,s<4096->(QM z1 s).av=jx ops st0 past (λj=>J7 j (idx past)) s:=λs hs=>by rw[hsame];exact d.tz s hs
   have hpre:∀j,j<ops.size->QG ops j i=true->j∈D:=λj hj ho=>by
    rcases d.lord [] i rest rfl j hj ho with h | h
    .exact h
    .cases h
   have both:∀(e:PE) (h':Q0) (z':ZT),e.i=i->h'.inf=true->(∀s,s<4096->(QM z' s).av=jx ops st0 (e::past) (λj=>J7 j (idx (e::past))) s) ->
     (∀j,j∈idx past->j ∉ D->ROk P ops st0 call round past j h')->qHh P C ops N K r (e::past) z' h' ->
     qJu (slotsOf ops) (QL ops) (λi vs q g=>(qLi P call round ops i vs).sat q g) (λs g=>(k s).sat p g) rest (stL.put (QL ops i) e.v.av) h':=by
    intro e h' z' he hi' tz' hrd hz';have hne:∀j,j∈idx past->e.i≠j:=λj hj h=>h2 (by rw[<- he,h];exact hj);have hord:∀j,j∈idx past->QG ops e.i j=false:=λj hj=>by
     rw[he];cases ho:QG ops i j
     .rfl
     .exact absurd (d.pcl j hj i h1 ho) h2
    have hidx:idx (e::past)=i::idx past:=by show e.i::idx past=_;rw[he]
    have hnd:=List.nodup_cons.1 d.lnd;have hpv:pval (e::past) i=e.v.av:=by rw[<- he];exact qFl
    have heo:effs P ops r=effs P ops rest:=by
     have:=d.eo
     rw[qXf hir,qXf hir] at this;exact (List.cons.inj this).2
    refine qKj hC rf hst hK rest (i::D) (e::past) r z' h' _ ⟨hi',by rw[hidx];exact h5,heo,λx hx=>?_,λx hx=>?_,λx hx j hj ho=>?_,λx hx j hj ho=>?_,λx hx=>?_,λx hx hr=>?_,λx hx=>?_,λx hx hm=>?_,λp x s e2 j hj ho=>?_,hnd.2,λx hx=>d.llt x (zA0 _ hx),tz',λs hs=>?_,?_,λj hj hn=>?_,λe' he' hn=>?_⟩ hz'
    .rw[hidx];rcases d.all x hx with h | h
     .exact .inl (zA0 _ h)
     .rcases List.mem_cons.1 h with e1 | e1
      .exact .inl (by rw[e1];exact zB0)
      .exact .inr e1
    .rw[hidx] at hx;rcases List.mem_cons.1 hx with e1 | e1
     .rw[e1];exact h1
     .exact d.lt x e1
    .rw[hidx] at hx ⊢;rcases List.mem_cons.1 hx with e1 | e1
     .subst e1;exact zA0 _ (h3 j hj ho)
     .exact zA0 _ (d.pcl x e1 j hj ho)
    .rcases List.mem_cons.1 hx with e1 | e1
     .subst e1;exact zA0 _ (hpre j hj ho)
     .exact zA0 _ (d.dcl x e1 j hj ho)
    .rw[hidx];rcases List.mem_cons.1 hx with e1 | e1
     .rw[e1];exact zB0
     .exact zA0 _ (d.dsub x e1)
    .rw[hidx] at hx;rcases List.mem_cons.1 hx with e1 | e1
     .rw[e1];exact zB0
     .exact zA0 _ (d.eff x e1 hr)
    .rcases d.dl x hx with h | h
     .exact .inl (zA0 _ h)
     .rcases List.mem_cons.1 h with e1 | e1
      .exact .inl (by rw[e1];exact zB0)
      .exact .inr e1
    .rcases List.mem_cons.1 hm with e1 | e1
     .subst e1;exact hnd.1 hx
     .exact d.dn x (zA0 _ hx) e1
    .rcases d.lord (i::p) x s (by rw[e2];rfl) j hj ho with h | h
     .exact .inl (zA0 _ h)
     .rcases List.mem_cons.1 h with e1 | e1
      .exact .inl (by rw[e1];exact zB0)
      .exact .inr e1
    .have hadd:=qVs (st0:=st0) rf (past:=e::past) (S:=λj=>J7 j D) (T:=λj=>J7 j (i::D)) (i:=i) (s:=s) hil (jV.2 hniD) λj _=>qZs;rw[hadd,hpv,qF1 (by rw[he];exact jV.2 hniD)];cases hd:QL ops i with
     | none=>rw[if_neg (by simp)];exact d.tl s hs
     | some t =>
      have ht:t<4096:=rf.dlt i t hil hd;show (TT.put t e.v.av stL.tmps).at s=_;rw[TT.at_put ht hs];by_cases e1:s=t
      .subst e1;simp
      .rw[if_neg e1,if_neg (by simpa using λh=>e1 h.symm)];exact d.tl s hs
    .cases hd:QL ops i with
     | none=>exact d.du
     | some t=>exact d.du
    .rw[hidx] at hj;rcases List.mem_cons.1 hj with e1 | e1
     .exact absurd (by rw[e1];exact zB0) hn
     .exact (hrd j e1 λh=>hn (zA0 _ h)).cons (hne j e1) (hord j e1)
    .rcases List.mem_cons.1 he' with e1 | e1
     .subst e1;exact absurd (by rw[he];exact zB0) hn
     .have hm:e'.i∈idx past:=List.mem_map_of_mem e1;obtain⟨a,b⟩:=d.re e' e1 λh=>hn (zA0 _ h);exact⟨λhr h' hi ha=>(a hr h' hi ha).cons (hne _ hm) (hord _ hm),λhr h'=>(b hr h').cons (hne _ hm) (hord _ hm)⟩
   obtain⟨t',ht1,ht2,hreg⟩:=qV3 (P:=P) (call:=call) (round:=round) rf h1 (f:=λs=>jx ops st0 past (λj=>QG ops j i) s) (zp:=qg (slotsOf ops i) z1)
    (λs hs=>by rw[Jo,if_pos hs];exact (hlook s hs).symm) (λs hs=>by rw[Jo,if_neg hs])
   rw[hreg,hw0 t' λs w hg=>by rw[ht2 s (qEu hg),<- hlook s (qEu hg),hsame]];cases b with
   | true =>
    rw[Q6,hir] at hb;replace hb:jBj P C (QU ops i).op (QU ops i).type (qg (slotsOf ops i) z1) h λv h'=>qHg P ops i h' (zDst N (QL ops i) v z1 λz'=>qHh P C ops N K r (⟨i,qg (slotsOf ops i) z1,v,true⟩::past) z' h') past:=hb;rw[Q6];have hev:∀x,(⟨call,round,t',P.globals.size⟩:OC).ev x=(zEv P (qg (slotsOf ops i) z1) x).av:=λx=>qTx ht1 x;refine qQg (kd:=λ_=>.fail 155) (kp:=λ_=>.fail 156) hC d.inf hev rfl rfl hb (λv=>.ret (.val v)) _ λv h' hi' hk=>⟨_,rfl,?_⟩;obtain⟨hd,hst2⟩:=qHf hk;obtain⟨z',hz',tz'⟩:=DI.tz_add rf h1 h2 htz1 (e:=⟨i,qg (slotsOf ops i) z1,v,true⟩) rfl hd;refine both ⟨i,qg (slotsOf ops i) z1,v,true⟩ h' z' rfl hi' tz' (λj hj hn=>?_) hz';obtain⟨e',he',hej⟩:=List.mem_map.1 hj;subst hej;obtain⟨a,b⟩:=d.re e' he' hn;cases hr:e'.ran with
    | false=>exact b hr h'
    | true =>
     refine a hr h' hi' ?_;cases hp:qOs (QU ops e'.i).op with
     | true=>exact .inl rfl
     | false =>
      refine .inr (hst2 e' he' hr hp ?_ ?_)
      .cases ho:QG ops e'.i i
       .rfl
       .exact absurd (hpre e'.i (d.lt _ hj) ho) hn
      .cases hr2:isRd P (QU ops e'.i).op with
       | true=>rfl
       | false=>exact absurd (d.eff e'.i hj hr2) hn
   | false =>rw[Q8] at hb ⊢;obtain⟨z',hz',tz'⟩:=DI.tz_add rf h1 h2 htz1 (e:=⟨i,[],.tup [],false⟩) rfl hb;have hfin:=both ⟨i,[],.tup [],false⟩ h z' rfl d.inf tz' (λj hj hn=>d.ready j hj hn) hz';refine⟨_,rfl,?_⟩;simpa using hfin
end
end Go.X
namespace Go.X
structure KZ where
 env:List (Nat × (ZT->Q0->Prop))
 ret:ZT->Q0->Prop
def qS5 (env:List (Nat × (ZT->Q0->Prop))) (id:Nat) (z:ZT) (h:Q0):Prop:=match env with
 | []=>False
 | e::r=>match Nat.beq id e.1 with | true=>e.2 z h | false=>qS5 r id z h
def qVa (body:ZT->(ZT->Q0->Prop)->KZ->Q0->Prop) (E:KZ):Nat->ZT->Q0->Prop
 | 0,_,_=>False
 | n+1,z,h=>body z (qVa body E n) E h
inductive J6 (lf:Nat) (body:ZT->(ZT->Q0->Prop)->KZ->Q0->Prop) (z:ZT) (E:KZ) (h:Q0):Prop where
 | mk (n:Nat) (hn:n<=lf) (r:qVa body E n z h)
def qG4 (x:Operand) (z:ZT) (b:Bool):ZT:=match x with | .tmp s=>zset z s (.bool b) | _=>z
section
variable (P:Program) (C:Qx)
def qPh (N lf:Nat) (c:Code):ZT->(ZT->Q0->Prop)->KZ->Q0->Prop :=
 Code.rec (motive:=λ_=>ZT->(ZT->Q0->Prop)->KZ->Q0->Prop)
  (λz k _ h=>k z h)
  (λ_ ops draw z k _ h=>qVc P C ops N draw z h k)
  (λ_ _ ia ib z k E h=>ia z (λz' h'=>ib z' k E h') E h)
  (λx _ _ it ie z k E h=>match zEv P z x with | .bool b=>cnd b (it (qG4 x z true) k E h) (ie (qG4 x z false) k E h) | _=>False)
  (λid _ ib z k E h=>ib z k ⟨(id,k)::E.env,E.ret⟩ h)
  (λ_ ib z _ E h=>J6 lf ib z E h)
  (λ_ _ _ _ _ _ _ _ _ _=>False)
  (λid z _ E h=>qS5 E.env id z h)
  (λ_ _ _ _ _ _=>False)
  (λ_ z k _ h=>k z h)
  (λ_ _ _ _ _=>False)
  (λz _ E h=>E.ret z h)
  (λ_ _ _ _ _=>False)
  c
def j2 (l:List ResultVar) (z:ZT) (h:Q0) (K:List ZV->Prop):Prop:=match l with
 | []=>K []
 | .tmp s::r=>match ltb s 4096 with | true=>j2 r z h λvs=>K (QM z s::vs) | false=>False
 | .cell a t::r=>match ltb a 4096,QM z a with | true,.pv nil i o=>Ql (nil=false) (jFv P t i o h λv=>j2 r z h λvs=>K (v::vs)) | _,_=>False
def qM0 (vs:List ZV):ZV:=match vs with
 | [v]=>v
 | vs=>.tup vs
def qVj (lf:Nat) (f:FuncId) (args:List ZV) (K:ZK) (h:Q0):Prop:=match P.funcs[f]? with
 | some fn=>match fn.body,Nat.ble fn.ntmps 4096,Nat.ble args.length fn.ntmps with
  | some c,true,true=>qPh P C fn.ntmps lf c (js fn.ntmps args) (λz h=>j2 P fn.results.toList z h λvs=>K (qM0 vs) h) ⟨[],λz h=>j2 P fn.results.toList z h λvs=>K (qM0 vs) h⟩ h
  | _,_,_=>False
 | none=>False
end
def Agr (t:TT) (z:ZT):Prop:=∀s,s<4096->t.at s=(QM z s).av
inductive ZAfter (h:Q0) (l:Nat) (K:qd->Q0->Prop):Prop where
 | mk (r:ALoop) (e:h.get l=some (.loop r)) (lt:l<h.next) (st:r.state=.ready∨r.state=.done) (k:K r.pending (h.put l (some .tomb)))
def zExit (e:qd) (K:ZT->Q0->Prop) (E:KZ) (z:ZT) (h:Q0):Prop:=match e with
 | .normal=>K z h
 | .exit i=>qS5 E.env i z h
 | .ret=>E.ret z h
 | _=>False
def loopO (fn N:Nat) (params:List Tmp) (assign body:Code) (d:Nat) (t:TT):Q4:=.loop ⟨.ready,.normal,fn,t,N::params,assign,body,d⟩
def jD5 (P:Program) (C:Qx) (fn N:Nat) (g:Operand) (params:Array Tmp) (assign body:Code) (z:ZT) (h:Q0) (K:qd->Q0->Prop):Prop:=match zEv P z g with
 | .fn (.plain (.func f)) fs cap=>Ql (qn P f=true) (∀t,Agr t z->C f ((fs++[.fn (.yield (h.next+1)) [] []])++cap) (λ_ h'=>ZAfter h' (h.next+1) K) ((h.newO (.deferred (some []))).newO (loopO fn N params.toList assign body h.next t)))
 | .any a=>ZFn a λf fs cap=>Ql (qn P f=true) (∀t,Agr t z->C f ((zOfs fs++[.fn (.yield (h.next+1)) [] []])++zOfs cap) (λ_ h'=>ZAfter h' (h.next+1) K) ((h.newO (.deferred (some []))).newO (loopO fn N params.toList assign body h.next t)))
 | _=>False
def qXw (P:Program) (C:Qx) (fn N lf:Nat) (c:Code):List qk->ZT->(List qk->ZT->Q0->Prop)->(List qk->KZ)->Q0->Prop :=
 Code.rec (motive:=λ_=>List qk->ZT->(List qk->ZT->Q0->Prop)->(List qk->KZ)->Q0->Prop)
  (λD z k _ h=>k D z h)
  (λ_ ops draw D z k _ h=>qVc P C ops N draw z h (k D))
  (λ_ _ ia ib D z k E h=>ia D z (λD' z' h'=>ib D' z' k E h') E h)
  (λx _ _ it ie D z k E h=>match zEv P z x with | .bool b=>cnd b (it D (qG4 x z true) k E h) (ie D (qG4 x z false) k E h) | _=>False)
  (λid _ ib D z k E h=>ib D z k (λD'=>⟨(id,k D')::(E D').env,(E D').ret⟩) h)
  (λbody _ D z _ E h=>J6 lf (qPh P C N lf body) z (E D) h)
  (λg params assign body _ _ D z k E h=>jD5 P C fn N g params assign body z h λe h'=>zExit e (k (⟨.yield h.next,[]⟩::D)) (E (⟨.yield h.next,[]⟩::D)) z h')
  (λid D z _ E h=>qS5 (E D).env id z h)
  (λ_ _ _ _ _ _ _=>False)
  (λ_ D z k _ h=>k D z h)
  (λ_ _ _ _ _ _=>False)
  (λD z _ E h=>(E D).ret z h)
  (λ_ _ _ _ _ _=>False)
  c
def qGz:Code->Bool
 | .seq a b=>qGz a || qGz b
 | .cond _ a b=>qGz a || qGz b
 | .block _ c=>qGz c
 | .rangeFunc _ _ _ _=>true
 | _=>false
def qHv (P:Program) (f:FuncId):Bool:=match P.funcs[f]? with
 | some fn=>match fn.body with | some c=>qGz c | none=>false
 | none=>false
def qM6 (D:List qk) (h:Q0) (K:Q0->Prop):Prop:=match D with
 | []=>K h
 | d::r=>match d.fn with
  | .yield b=>h.get b=some (.deferred (some []))/\b<h.next/\qM6 r (h.put b (some .tomb)) K
  | _=>False
def qQi (P:Program) (C:Qx) (lf:Nat) (f:FuncId) (args:List ZV) (K:ZK) (h:Q0):Prop:=match P.funcs[f]? with
 | some fn=>match fn.body,Nat.ble fn.ntmps 4096,Nat.ble args.length fn.ntmps with
  | some c,true,true=>qXw P C f fn.ntmps lf c [] (js fn.ntmps args) (λD z h=>qM6 D h λh'=>j2 P fn.results.toList z h' λvs=>K (qM0 vs) h') (λD=>⟨[],λz h=>qM6 D h λh'=>j2 P fn.results.toList z h' λvs=>K (qM0 vs) h'⟩) h
  | _,_,_=>False
 | none=>False
def zBind (N:Nat) (ps:List Tmp) (args:List ZV) (z:ZT) (K:ZT->Prop):Prop:=match ps,args with
 | [],[]=>K z
 | p::ps,a::as=>match ltb p N with | true=>zBind N ps as (zset z p a) K | false=>False
 | _,_=>False
inductive ZEnd (h:Q0) (l:Nat) (K:ALoop->Q0->Prop):Prop where
 | mk (r:ALoop) (e:h.get l=some (.loop r)) (lt:l<h.next) (k:K r h)
def zEndR (l:Nat) (K:ZK) (e:qd) (h:Q0):Prop:=match e with
 | .normal=>ZEnd h l λr h=>K (.bool true) (h.put l (some (r.with .ready .normal)))
 | .exit i=>ZEnd h l λr h=>K (.bool false) (h.put l (some (r.with .done (.exit i))))
 | .ret=>ZEnd h l λr h=>K (.bool false) (h.put l (some (r.with .done .ret)))
 | _=>False
def qKg:Code->List Nat
 | .seq a b=>qKg a++qKg b
 | .cond _ a b=>qKg a++qKg b
 | .block _ c=>qKg c
 | .loop c=>qKg c
 | .exit i=>[i]
 | _=>[]
def jD8 (l:List Nat) (f:Nat->ZT->Q0->Prop):List (Nat × (ZT->Q0->Prop)):=match l with | []=>[] | i::r=>(i,f i)::jD8 r f
def zRun (P:Program) (C:Qx) (lf l N:Nat) (ps:List Tmp) (assign body:Code) (z:ZT) (args:List ZV) (K:ZK) (h:Q0):Prop :=
 zBind N ps args z λz=>qPh P C N lf assign z (λz' h'=>ZEnd h' l λr' h'=>Ql (r'.state=.ready) (qPh P C N lf body z' (λ_ h2=>zEndR l K .normal h2) ⟨jD8 (qKg body) λi _ h2=>zEndR l K (.exit i) h2,λ_ h2=>zEndR l K .ret h2⟩ (h'.put l (some (r'.with .busy r'.pending))))) ⟨[],λ_ _=>False⟩ h
inductive ZRnd (P:Program) (C:Qx) (lf l:Nat) (args:List ZV) (K:ZK) (h:Q0):Prop where
 | mk (r:ALoop) (N:Nat) (ps:List Tmp) (z:ZT) (e:h.get l=some (.loop r)) (eps:r.params=N::ps) (le:N<=4096) (ag:Agr r.tmps z) (run:zRun P C lf l N ps r.assign r.body z args K h)
abbrev QC:=FuncId->Option (List ZV->ZK->Q0->Prop)
def Qu (P:Program) (S:QC) (lf:Nat) (n:Nat):Qx :=
 Nat.rec (motive:=λ_=>Qx) (λ_ _ _ _=>False)
  (λ_ ih f args K h=>cnd (ltb f P.funcs.size) (Option.rec (motive:=λ_=>Prop) (cnd (qHv P f) (qQi P ih lf f args K h) (qVj P ih lf f args K h)) (λs=>s args K h) (S f)) (ZRnd P ih lf (f-P.funcs.size) args K h)) n
def Qp:qI:=⟨λ_=>none,λ_=>0⟩
structure KR (D:List qk) (kn:ZT->Q0->Prop) (E:KZ) (kk:KC) (p:QF):Prop where
 normal:∀z st h,h.inf=true->ZS D z st->kn z h->(kk .normal st).sat p h
 exit:∀id z st h,h.inf=true->ZS D z st->qS5 E.env id z h->(kk (.exit id) st).sat p h
 ret:∀z st h,h.inf=true->ZS D z st->E.ret z h->(kk .ret st).sat p h
structure KRS (K:List qk->ZT->Q0->Prop) (E:List qk->KZ) (kk:KC) (p:QF):Prop where
 at':∀D,KR D (K D) (E D) kk p
section
variable {P:Program} {C:Qx} {call:Qw} {round:Qs}
theorem qKr {Df:List qk} (hC:CZ P call round C) {N:Nat} (hN:N<=4096) {dok:Bool} {ops:Array Oper} {draw:Bool} {z:ZT} {st:St} {h:Q0} (hinf:h.inf=true) (s:ZS Df z st) {K:ZT->Q0->Prop} {k:St->FM} {kp:St->QD->FM} {p:QF}
  (hK:∀z' st' h',h'.inf=true->ZS Df z' st'->K z' h'->(k st').sat p h') (hs:qVc P C ops N draw z h K):(qQk P call round N dok ops draw st k kp).sat p h:=by
 unfold qVc at hs;cases draw with
 | false =>
  show (xOps P call round N dok ops ops.toList st k kp).sat p h;exact qM1 hC hN hK ops.toList z st h hinf s hs
 | true =>
  simp only at hs;split at hs
  .rename_i hc;simp only[Bool.and_eq_true] at hc;obtain⟨⟨h1,h2⟩,h34⟩:=hc;show (cnd (qOd N ops) (FM.regn ops.size (ordL (qPo ops)) (slotsOf ops) (QL ops) (qLi P call round ops) st k) (.fail 154)).sat p h;rw[h1,Q6];refine .inr ⟨hinf,λl hl=>?_⟩;have rf:=regF_of h2;have hpw:l.Pairwise λx y=>QG ops y x=false:=by
    have key:∀(a b:List Nat),l=a++b->b.Pairwise λx y=>QG ops y x=false:=by
     intro a b
     induction b generalizing a with
     | nil=>intro _;exact List.Pairwise.nil
     | cons x b ih =>
      intro e;refine List.pairwise_cons.2 ⟨λy hy=>?_,ih (a++[x]) (by rw[e];simp)⟩;cases ho:QG ops y x with
      | false=>rfl
      | true =>
       exfalso;have hyl:y∈l:=by rw[e];exact zH0 _ (zA0 _ hy)
       have hya:=hl.ord a x b e y ((hl.mem y).1 hyl) ho;have nd:=hl.nodup;rw[e] at nd;exact (List.nodup_append.1 nd).2.2 y hya y (zA0 _ hy) rfl
    exact key [] l rfl
   have hmem:effs P ops l∈qU0 ops ops.size (effs P ops (List.range ops.size)):=by
    refine qUz ops ops.size _ _ (hpw.filter _) (λi hi=>irr rf ((hl.mem i).1 (List.mem_filter.1 hi).1)) (λi=>?_) (hl.nodup.filter _) ?_
    .unfold effs;rw[List.mem_filter,List.mem_filter,List.mem_range,hl.mem]
    .refine zM0 (List.length_filter_le _ _) ?_
     have:=List.Nodup.length_le_of_subset hl.nodup (l₂:=List.range ops.size) λi hi=>List.mem_range.2 ((hl.mem i).1 hi)
     rwa [List.length_range] at this
   have hw:(effs P ops l,jAo P ops ops.size ops.size [] (effs P ops l))∈ways P ops:=List.mem_map.2 ⟨_,hmem,rfl⟩;have hcw:=List.all_eq_true.1 h34 _ hw;simp only[Bool.and_eq_true] at hcw;obtain⟨⟨h3,h4⟩,h5⟩:=hcw;have hs:=jEb hs _ hw;refine qKj hC rf (st0:=st) ⟨s.defers,s.na⟩ hK l [] [] (jAo P ops ops.size ops.size [] (effs P ops l)) z h st ⟨hinf,h3,qUi h5,λi hi=>.inr (qU1.1 h4 i hi),λi hi=>absurd hi zK0,λi hi=>absurd hi zK0,λi hi=>absurd hi zK0,λi hi=>absurd hi zK0,λi hi=>absurd hi zK0,
    λi hi=>.inr ((hl.mem i).2 hi),λi _=>zK0,λa i b e j hj ho=>.inr (hl.ord a i b e j hj ho),hl.nodup,λi hi=>(hl.mem i).1 hi,λt ht=>?_,λt ht=>?_,⟨rfl,rfl⟩,λj hj=>absurd hj zK0,λe he=>absurd he zK0⟩ hs
   .have:jx ops st [] (λi=>J7 i (idx [])) t=st.tmps.at t:=by
     unfold jx;rw[List.find?_eq_none.2 λx _=>by simp[idx,J7]]
    rw[this];exact (s.at' t ht).symm
   .have:jx ops st [] (λi=>J7 i []) t=st.tmps.at t:=by
     unfold jx;rw[List.find?_eq_none.2 λx _=>by simp[J7]]
    rw[this]
  .exact hs.elim
theorem qT1 {Df:List qk} {body:qKo} {p:QF} {B:ZT->(ZT->Q0->Prop)->KZ->Q0->Prop} {E:KZ} {kk:KC} (hE:∀id z st h,h.inf=true->ZS Df z st->qS5 E.env id z h->(kk (.exit id) st).sat p h) (hR:∀z st h,h.inf=true->ZS Df z st->E.ret z h->(kk .ret st).sat p h)
  (hB:∀(kn:ZT->Q0->Prop) (k2:KC) z st h,h.inf=true->ZS Df z st->KR Df kn E k2 p->B z kn E h->(body st k2).sat p h) :
  ∀(n m:Nat),n<=m->∀z st h,h.inf=true->ZS Df z st->qVa B E n z h->(jF2 body m st kk).sat p h
 | 0,m,_,z,st,h,_,_,hs=>hs.elim
 | n+1,0,hm,z,st,h,_,_,hs=>absurd hm (Nat.not_succ_le_zero n)
 | n+1,m+1,hm,z,st,h,hinf,s,hs=>by
  show (body st λe st'=>jk e st' (λst2=>jF2 body m st2 kk) kk).sat p h;refine hB _ _ z st h hinf s ⟨λz' st' h' hi s' hk=>?_,λid z' st' h' hi s' hk=>?_,λz' st' h' hi s' hk=>?_⟩ hs
  .exact qT1 hE hR hB n m (Nat.le_of_succ_le_succ hm) z' st' h' hi s' hk
  .exact hE id z' st' h' hi s' hk
  .exact hR z' st' h' hi s' hk
theorem qGh {Df:List qk} {cur:Option Nat} (hC:CZ P call round C) {fn:FuncId} {N lf:Nat} (hN:N<=4096) {p:QF} (c:Code):∀(z:ZT) (kn:ZT->Q0->Prop) (E:KZ) (h:Q0) (kk:KC) (st:St),h.inf=true->ZS Df z st->KR Df kn E kk p->qPh P C N lf c z kn E h ->
  (qt P call round Qp fn N cur lf c st kk).sat p h:=by
 induction c with
 | skip=>exact λz kn E h kk st hi s kr hs=>kr.normal z st h hi s hs
 | region id ops draw =>
  exact λz kn E h kk st hi s kr hs=>qKr (k:=λst'=>kk .normal st') (kp:=λst' ch=>kk (.panic ch) st') hC hN hi s (λz' st' h' hi' s' hk=>kr.normal z' st' h' hi' s' hk) hs
 | seq a b iha ihb =>
  intro z kn E h kk st hi s kr hs
  exact iha z (λz' h'=>qPh P C N lf b z' kn E h') E h (λe st'=>jk e st' (λst2=>qt P call round Qp fn N cur lf b st2 kk) kk) st hi s
   ⟨λz' st' h' hi' s' hk=>ihb z' kn E h' kk st' hi' s' kr hk,λid z' st' h' hi' s' hk=>kr.exit id z' st' h' hi' s' hk,λz' st' h' hi' s' hk=>kr.ret z' st' h' hi' s' hk⟩ hs
 | cond x a b iha ihb =>
  intro z kn E h kk st hi s kr hs;have hs1:(match zEv P z x with | .bool b'=>cnd b' (qPh P C N lf a (qG4 x z true) kn E h) (qPh P C N lf b (qG4 x z false) kn E h) | _=>False):=hs;show ((qSl P.globals.size st.tmps x).onBool (λb'=>cnd b' (qt P call round Qp fn N cur lf a st kk) (qt P call round Qp fn N cur lf b st kk)) (.fail 206)).sat p h;have hev:=qTx (P:=P) (t:=st.tmps) s.at' x;rw[hev];split at hs1
  .rename_i t ht;rw[ht,qBr];have hc:ZS Df (qG4 x z t) st:=by
    unfold qG4;split
    .rename_i sl;have hz:zEv P z (.tmp sl)=.bool t:=ht;by_cases hl:sl<4096
     .have:QM z sl=.bool t:=by
       have e:zEv P z (.tmp sl)=(match ltb sl 4096 with | true=>QM z sl | false=>.any .junk):=rfl;rw[e,Qo.2 hl] at hz;exact hz
      exact s.const this rfl
     .exfalso;have e:zEv P z (.tmp sl)=(match ltb sl 4096 with | true=>QM z sl | false=>.any .junk):=rfl;rw[e,qE.2 (Nat.le_of_not_lt hl)] at hz;cases hz
    .exact s
   cases t with
   | true=>exact iha _ kn E h kk st hi hc kr hs1
   | false=>exact ihb _ kn E h kk st hi hc kr hs1
  .exact hs1.elim
 | block id body ih =>
  intro z kn E h kk st hi s kr hs;refine ih z kn ⟨(id,kn)::E.env,E.ret⟩ h (λe st'=>qP3 id e st' kk) st hi s ⟨λz' st' h' hi' s' hk=>kr.normal z' st' h' hi' s' hk,λid' z' st' h' hi' s' hk=>?_,λz' st' h' hi' s' hk=>kr.ret z' st' h' hi' s' hk⟩ hs;show (cnd (Nat.beq id' id) (kk .normal st') (kk (.exit id') st')).sat p h';have hk':(match Nat.beq id' id with | true=>kn z' h' | false=>qS5 E.env id' z' h'):=hk;cases hb:Nat.beq id' id with
  | true=>rw[hb] at hk';exact kr.normal z' st' h' hi' s' hk'
  | false=>rw[hb] at hk';exact kr.exit id' z' st' h' hi' s' hk'
 | loop body ih =>
  intro z kn E h kk st hi s kr hs;obtain⟨n,hn,hr⟩:=(show J6 lf (qPh P C N lf body) z E h from hs);show (jF2 (qt P call round Qp fn N cur lf body) lf st kk).sat p h;exact qT1 (λid z' st' h' hi' s' hk=>kr.exit id z' st' h' hi' s' hk) (λz' st' h' hi' s' hk=>kr.ret z' st' h' hi' s' hk) (λkn2 k2 z' st' h' hi' s' kr2 hb=>ih z' kn2 E h' k2 st' hi' s' kr2 hb) n lf hn z st h hi s hr
 | rangeFunc g params assign body=>exact λz kn E h kk st hi s kr hs=>hs.elim
 | exit id=>exact λz kn E h kk st hi s kr hs=>kr.exit id z st h hi s hs
 | scope body=>exact λz kn E h kk st hi s kr hs=>hs.elim
 | label l=>exact λz kn E h kk st hi s kr hs=>kr.normal z st h hi s hs
 | goto l=>exact λz kn E h kk st hi s kr hs=>hs.elim
 | ret=>exact λz kn E h kk st hi s kr hs=>kr.ret z st h hi s hs
 | refuse why=>exact λz kn E h kk st hi s kr hs=>hs.elim
theorem qEb {Df:List qk} {z:ZT} {st:St} (s:ZS Df z st) {h:Q0} {p:QF}:∀(l:List ResultVar) (K:List ZV->Prop) (k:List AV->FM),j2 P l z h K->(∀vs,K vs->(k (avs vs)).sat p h)->(qR P st.tmps l k).sat p h
 | [],K,k,hs,hk=>hk [] hs
 | .tmp t::r,K,k,hs,hk=>by
  have hs1:(match ltb t 4096 with | true=>j2 P r z h λvs=>K (QM z t::vs) | false=>False):=hs;show (cnd (ltb t 4096) (qR P st.tmps r λvs=>k (TT.at t st.tmps::vs)) (.fail 208)).sat p h;cases hb:ltb t 4096 with
  | false=>rw[hb] at hs1;exact hs1.elim
  | true =>
   rw[hb] at hs1;rw[Q6];refine qEb s r _ _ hs1 λvs hv=>?_;rw[s.at' t (Qo.1 hb)];exact hk _ hv
 | .cell a t::r,K,k,hs,hk=>by
  have hs1:(match ltb a 4096,QM z a with | true,.pv nil i o=>Ql (nil=false) (jFv P t i o h λv=>j2 P r z h λvs=>K (v::vs)) | _,_=>False):=hs;show (cnd (ltb a 4096) ((TT.at a st.tmps).onPtr (λi o=>qPp P t i o λv=>qR P st.tmps r λvs=>k (v::vs)) (.fail 209)) (.fail 208)).sat p h;split at hs1
  .rename_i nil i o hb hz;obtain⟨hn,hs2⟩:=hs1;subst hn;rw[hb,Q6,s.at' a (Qo.1 hb),hz,qCp];obtain⟨v,hk2,e⟩:=qJl P hs2;exact e _ p (qEb s r _ _ hk2 λvs hv=>hk _ hv)
  .exact hs1.elim
theorem qVv:∀(l:List ZV) (n:Nat) (t:TT) (k:TT->FM),n+l.length<=4096->∃t',TT.args (avs l) n t k=k t'/\∀s,s<4096->t'.at s=if n<=s/\s<n+l.length then (QM l (s-n)).av else t.at s
 | [],n,t,k,_=>⟨t,rfl,λs _=>by rw[if_neg (by simp only[List.length_nil];omega)]⟩
 | v::l,n,t,k,hl=>by
  simp only[zJ0] at hl;obtain⟨t',h1,h2⟩:=qVv l (n+1) (TT.put n v.av t) k (by omega);refine⟨t',?_,λs hs=>?_⟩
  .show TT.putK n v.av t (λt'=>TT.args (avs l) (n+1) t' k)=_;rw[TT.putK_eq,h1]
  .rw[h2 s hs,TT.at_put (by omega) hs];simp only[zJ0];by_cases e:s=n
   .subst e;rw[if_neg (by omega),if_pos rfl,if_pos (by omega),Nat.sub_self];rfl
   .by_cases e2:n+1<=s/\s<n+1+l.length
    .rw[if_pos e2,if_pos (by omega)];obtain⟨m,hm⟩:∃m,s-n=m+1:=⟨s-n-1,by omega⟩;rw[hm,show s-(n+1)=m by omega];rfl
    .rw[if_neg e2,if_neg e,if_neg (by omega)]
theorem qXt {l:List ZV}:∀{s:Nat},l.length<=s->QM l s=.tup []:=by
 induction l with
 | nil=>intro s _;cases s <;> rfl
 | cons v l ih =>
  intro s hs;cases s with
  | zero=>simp at hs
  | succ s=>exact ih (by simpa using hs)
theorem jBm (hC:CZ P call round C) {lf:Nat} {f:FuncId} {args:List ZV} {K:ZK} {h:Q0} (hinf:h.inf=true) (hs:qVj P C lf f args K h) {kp:QD->FM}:EfOk h K (λk=>qS8 P Qp lf call round f (avs args) k kp):=by
 unfold qVj at hs;split at hs
 .rename_i fn hf;split at hs
  .rename_i c hbo hN hl;have hN:=zS0 hN;have hl:=zS0 hl;intro k p hp;show (Qj P.funcs[f]? (.fail 160) λfn=>Qj fn.body (.fail 160) λc=>qXo fn.ntmps (avs args) λt=>qt P call round Qp f fn.ntmps none lf c ⟨t,[],.na⟩ (qG9 P call round Qp lf fn k kp)).sat p h;rw[hf,Qa,hbo,Qa];unfold qXo;rw[zF0 hN,Q6,jD,qI8,show Nat.zero+args.length=args.length from Nat.zero_add _,zF0 hl,Q6];obtain⟨t,ht,hat⟩:=qVv args 0 TT.undef (λt=>qt P call round Qp f fn.ntmps none lf c ⟨t,[],.na⟩ (qG9 P call round Qp lf fn k kp)) (by omega);have ht':TT.args (avs args) Nat.zero TT.undef (λt=>qt P call round Qp f fn.ntmps none lf c ⟨t,[],.na⟩ (qG9 P call round Qp lf fn k kp))=_:=ht;rw[ht'];have hz:ZS [] (js fn.ntmps args) (⟨t,[],.na⟩:St):=by
    refine⟨λs hs=>?_,rfl,rfl⟩;show t.at s=_;rw[qXs,hat s hs];by_cases e:0<=s/\s<0+args.length
    .rw[if_pos e,Nat.sub_zero]
    .rw[if_neg e,TT.at_undef,qXt (by omega)];simp
   have fin:∀z st h',h'.inf=true->ZS [] z st->(j2 P fn.results.toList z h' λvs=>K (qM0 vs) h')->(endK P fn st.tmps k kp .returning).sat p h':=by
    intro z st h' hi s hr;show (qR P st.tmps fn.results.toList λvs=>results1 vs k).sat p h';refine qEb s _ _ _ hr λvs hv=>?_
    have:=hp _ _ hi hv
    cases vs with
    | nil =>
     show (k (.tuple [])).sat p h';simpa [qM0] using this
    | cons v r =>
     cases r with
     | nil=>exact this
     | cons w r =>show (k (.tuple (avs (v::w::r)))).sat p h';simpa [qM0] using this
   have leave:∀(e:qd) z st h',e=.normal∨e=.ret->h'.inf=true->ZS [] z st->(j2 P fn.results.toList z h' λvs=>K (qM0 vs) h')->(qG9 P call round Qp lf fn k kp e st).sat p h':=by
    intro e z st h' he hi s hr
    have:qG9 P call round Qp lf fn k kp e st=qFt P call round Qp lf st.defers .returning (endK P fn st.tmps k kp):=by rcases he with rfl | rfl <;> rfl
    rw[this,s.defers];exact fin z st h' hi s hr
   refine qGh hC hN c (js fn.ntmps args) _ _ h _ _ hinf hz ⟨?_,?_,?_⟩ hs
   .exact λz st h' hi s hr=>leave .normal z st h' (.inl rfl) hi s hr
   .exact λid z st h' hi s hr=>False.elim hr
   .exact λz st h' hi s hr=>leave .ret z st h' (.inr rfl) hi s hr
  .exact hs.elim
 .exact hs.elim
theorem qQe {f:Nat->ZT->Q0->Prop} {id:Nat} {z:ZT} {h:Q0}:∀{l:List Nat},qS5 (jD8 l f) id z h->f id z h
 | [],hs=>False.elim hs
 | i::r,hs=>by
  have hs1:(match Nat.beq id i with | true=>f i z h | false=>qS5 (jD8 r f) id z h):=hs;cases hb:Nat.beq id i with
  | true=>rw[hb] at hs1;have:=Nat.eq_of_beq_eq_true hb;subst this;exact hs1
  | false=>rw[hb] at hs1;exact qQe hs1
theorem qQj {Df:List qk} {N:Nat} (hN:N<=4096) {u:QY} (hu:u=.na):∀(ps:List Tmp) (args:List ZV) (z:ZT) (t:TT) (K:ZT->Prop),Agr t z->zBind N ps args z K->∃z' t',ZS Df z' ⟨t',Df,u⟩/\K z'/\∀k:TT->FM,qTn N ps (avs args) t k=k t'
 | [],[],z,t,K,ha,hs=>⟨z,t,⟨ha,rfl,hu⟩,hs,λk=>rfl⟩
 | [],_::_,_,_,_,_,hs=>False.elim hs
 | _::_,[],_,_,_,_,hs=>False.elim hs
 | p::ps,a::as,z,t,K,ha,hs=>by
  have hs1:(match ltb p N with | true=>zBind N ps as (zset z p a) K | false=>False):=hs;cases hb:ltb p N with
  | false=>rw[hb] at hs1;exact hs1.elim
  | true =>
   rw[hb] at hs1;have hp:=Qo.1 hb;have ha':Agr (TT.put p a.av t) (zset z p a):=λs hs=>by
    rw[TT.at_put (by omega) hs,qEw];by_cases e:s=p
    .rw[if_pos e,if_pos e]
    .rw[if_neg e,if_neg e];exact ha s hs
   obtain⟨z',t',h1,h2,h3⟩:=qQj hN hu ps as _ _ K ha' hs1;refine⟨z',t',h1,h2,λk=>?_⟩;show cnd (ltb p N) (TT.putK p a.av t λt'=>qTn N ps (avs as) t' k) (.fail 174)=_;rw[hb,Q6,TT.putK_eq];exact h3 k
theorem qJn {l:Nat} {K:ZK} {k:KV} {p:QF} (hp:∀v h',h'.inf=true->K v h'->(k v.av).sat p h'):∀(e:qd) (h:Q0),h.inf=true->zEndR l K e h->(Jy l k e).sat p h
 | .normal,h,hi,hs=>by
  obtain⟨r,e,lt,hk⟩:=hs
  have:=hp _ _ (by exact hi) hk
  rw[qBr] at this;exact⟨_,e,lt,this⟩
 | .exit i,h,hi,hs=>by
  obtain⟨r,e,lt,hk⟩:=hs
  have:=hp _ _ (by exact hi) hk
  rw[qBr] at this;exact⟨_,e,lt,this⟩
 | .goto _,_,_,hs=>False.elim hs
 | .ret,h,hi,hs=>by
  obtain⟨r,e,lt,hk⟩:=hs
  have:=hp _ _ (by exact hi) hk
  rw[qBr] at this;exact⟨_,e,lt,this⟩
 | .panic _,_,_,hs=>False.elim hs
theorem qXy (hC:CZ P call round C) {lf l:Nat} {args:List ZV} {K:ZK} {h:Q0} (hinf:h.inf=true) (hs:ZRnd P C lf l args K h):EfOk h K (λk=>xRound P call round Qp lf l (avs args) k):=by
 obtain⟨r,N,ps,z,e,eps,hN,ag,hs⟩:=hs;intro k p hp;refine⟨_,e,?_⟩;show (List.rec (motive:=λ_=>FM) (.fail 178) (λN ps _ =>
  qTn N ps (avs args) r.tmps λt =>
  qt P call round Qp r.fn N (some l) lf r.assign ⟨t,[],.na⟩ λe st=>jk e st
   (λst'=>.get l λo'=>o'.onLoop (λr' =>
    LSt.rec (motive:=λ_=>FM)
     (.set l (r'.with .busy r'.pending) (qt P call round Qp r.fn N (some l) lf r.body st' λe2 _=>Jy l k e2))
     (.fail 170) (.fail 170) (.fail 170) r'.state) (.fail 171)) (λ_ _=>.fail 172)) r.params:FM).sat p h
 rw[eps];show (qTn N ps (avs args) r.tmps λt =>
  qt P call round Qp r.fn N (some l) lf r.assign ⟨t,[],.na⟩ λe st=>jk e st
   (λst'=>.get l λo'=>o'.onLoop (λr' =>
    LSt.rec (motive:=λ_=>FM)
     (.set l (r'.with .busy r'.pending) (qt P call round Qp r.fn N (some l) lf r.body st' λe2 _=>Jy l k e2))
     (.fail 170) (.fail 170) (.fail 170) r'.state) (.fail 171)) (λ_ _=>.fail 172)).sat p h
 obtain⟨z',t',h1,h2,h3⟩:=qQj (Df:=[]) hN (u:=.na) rfl ps args z r.tmps _ ag hs;rw[h3];refine qGh hC hN r.assign z' _ ⟨[],λ_ _=>False⟩ h _ _ hinf h1 ⟨λz2 st2 h2' hi2 s2 hk=>?_,λid z2 st2 h2' hi2 s2 hk=>False.elim hk,λz2 st2 h2' hi2 s2 hk=>False.elim hk⟩ h2;obtain⟨r',e',lt',hst,hk⟩:=hk;refine⟨_,e',?_⟩
 show (LSt.rec (motive:=λ_=>FM)
     (.set l (r'.with .busy r'.pending) (qt P call round Qp r.fn N (some l) lf r.body st2 λe2 _=>Jy l k e2))
     (.fail 170) (.fail 170) (.fail 170) r'.state:FM).sat p h2'
 rw[hst];refine⟨lt',?_⟩;refine qGh hC hN r.body z2 _ _ _ (λe2 _=>Jy l k e2) st2 (by exact hi2) s2 ⟨λz3 st3 h3' hi3 s3 hk3=>?_,λid z3 st3 h3' hi3 s3 hk3=>?_,λz3 st3 h3' hi3 s3 hk3=>?_⟩ hk
 .exact qJn hp .normal h3' hi3 hk3
 .exact qJn hp (.exit id) h3' hi3 (qQe hk3)
 .exact qJn hp .ret h3' hi3 hk3
theorem qXz (hC:CZ P call round C) {fn N:Nat} {D:List qk} {g:Operand} {params:Array Tmp} {assign body:Code} {z:ZT} {st:St} {h:Q0} (hinf:h.inf=true) (s:ZS D z st) {K:qd->Q0->Prop} {kk:KC} {p:QF}
  (hs:jD5 P C fn N g params assign body z h K) (hk:∀e st' h',h'.inf=true->ZS (⟨.yield h.next,[]⟩::D) z st'->K e h'->(kk e st').sat p h'):(xRange P call round N fn none g params assign body st kk).sat p h:=by
 have av_anys:∀l:List AV,avs (zOfs l)=l:=qGf
 have key:∀(f:FuncId) (fs cap:List ZV),qn P f=true->(∀t,Agr t z->C f ((fs++[.fn (.yield (h.next+1)) [] []])++cap) (λ_ h'=>ZAfter h' (h.next+1) K) ((h.newO (.deferred (some []))).newO (loopO fn N params.toList assign body h.next t))) ->
   (FM.new (.deferred (some [])) λb=>qZ8 P call round N fn (.plain (.func f)) (avs fs) (avs cap) params assign body st.tmps b ⟨st.tmps,⟨.yield b,[]⟩::st.defers,st.u⟩ kk).sat p h:=by
  intro f fs cap hb hz;refine J0 hinf ?_;show (FM.new (.loop ⟨.ready,.normal,fn,st.tmps,N::params.toList,assign,body,h.next⟩) λl=>Jj (avs fs) [.func (.yield l) [] []] λargs=>Jj args (avs cap) λas=>cnd (qn P f) (call f as (λ_=>qMh l ⟨st.tmps,⟨.yield h.next,[]⟩::st.defers,st.u⟩ kk) (λ_=>.fail 204)) (.fail 204)).sat p (h.newO (.deferred (some [])));refine J0 (by exact hinf) ?_;rw[qz,qz,hb,Q6];have he:avs fs++[AV.func (.yield (h.newO (.deferred (some []))).next) [] []]++avs cap=avs ((fs++[.fn (.yield (h.next+1)) [] []])++cap):=by simp[qEv]
  rw[he];refine hC.call f _ _ _ (qIe hb) (by exact hinf) (hz st.tmps s.at') (λ_=>.fail 204) (λ_=>qMh (h.newO (.deferred (some []))).next ⟨st.tmps,⟨.yield h.next,[]⟩::st.defers,st.u⟩ kk) p λv h' hi ⟨r,e,lt,hst,hka⟩=>?_;refine⟨_,e,?_⟩;show (LSt.rec (motive:=λ_=>FM) (.set (h.next+1) .tomb (kk r.pending ⟨st.tmps,⟨.yield h.next,[]⟩::st.defers,st.u⟩)) (.fail 202) (.set (h.next+1) .tomb (kk r.pending ⟨st.tmps,⟨.yield h.next,[]⟩::st.defers,st.u⟩)) (.fail 202) r.state:FM).sat p h';have fin:(kk r.pending ⟨st.tmps,⟨.yield h.next,[]⟩::st.defers,st.u⟩).sat p (h'.put (h.next+1) (some .tomb)):=hk _ _ _ (by exact hi) ⟨s.at',by rw[s.defers],s.na⟩ hka;rcases hst with hst | hst <;> rw[hst] <;> exact⟨lt,fin⟩
 show ((qSl P.globals.size st.tmps g).onFunc (λf first captured=>FM.new (.deferred (some [])) λb=>qZ8 P call round N fn f first captured params assign body st.tmps b ⟨st.tmps,⟨.yield b,[]⟩::st.defers,st.u⟩ kk) (.fail 201)).sat p h;rw[qTx (P:=P) (t:=st.tmps) s.at' g];unfold jD5 at hs;split at hs
 .rename_i f fs cap he;obtain⟨hb,hz⟩:=hs;rw[he,qXn];exact key f fs cap hb hz
 .rename_i a he;obtain⟨f,fs,cap,e,hb,hz⟩:=hs;rw[he,qEo,e]
  have:=key f (zOfs fs) (zOfs cap) hb hz
  rw[av_anys,av_anys] at this;exact this
 .exact hs.elim
theorem qXv (hC:CZ P call round C) {fn:FuncId} {N lf:Nat} (hN:N<=4096) {p:QF} (c:Code):∀(D:List qk) (z:ZT) (K:List qk->ZT->Q0->Prop) (E:List qk->KZ) (h:Q0) (kk:KC) (st:St),h.inf=true->ZS D z st->KRS K E kk p->qXw P C fn N lf c D z K E h ->
  (qt P call round Qp fn N none lf c st kk).sat p h:=by
 induction c with
 | skip=>exact λD z K E h kk st hi s kr hs=>(kr.at' D).normal z st h hi s hs
 | region id ops draw =>
  exact λD z K E h kk st hi s kr hs=>qKr (k:=λst'=>kk .normal st') (kp:=λst' ch=>kk (.panic ch) st') hC hN hi s (λz' st' h' hi' s' hk=>(kr.at' D).normal z' st' h' hi' s' hk) hs
 | seq a b iha ihb =>
  intro D z K E h kk st hi s kr hs
  exact iha D z (λD' z' h'=>qXw P C fn N lf b D' z' K E h') E h (λe st'=>jk e st' (λst2=>qt P call round Qp fn N none lf b st2 kk) kk) st hi s
   ⟨λD'=>⟨λz' st' h' hi' s' hk=>ihb D' z' K E h' kk st' hi' s' kr hk,λid z' st' h' hi' s' hk=>(kr.at' D').exit id z' st' h' hi' s' hk,λz' st' h' hi' s' hk=>(kr.at' D').ret z' st' h' hi' s' hk⟩⟩ hs
 | cond x a b iha ihb =>
  intro D z K E h kk st hi s kr hs;have hs1:(match zEv P z x with | .bool b'=>cnd b' (qXw P C fn N lf a D (qG4 x z true) K E h) (qXw P C fn N lf b D (qG4 x z false) K E h) | _=>False):=hs;show ((qSl P.globals.size st.tmps x).onBool (λb'=>cnd b' (qt P call round Qp fn N none lf a st kk) (qt P call round Qp fn N none lf b st kk)) (.fail 206)).sat p h;have hev:=qTx (P:=P) (t:=st.tmps) s.at' x;rw[hev];split at hs1
  .rename_i t ht;rw[ht,qBr];have hc:ZS D (qG4 x z t) st:=by
    unfold qG4;split
    .rename_i sl;have hz:zEv P z (.tmp sl)=.bool t:=ht;by_cases hl:sl<4096
     .have:QM z sl=.bool t:=by
       have e:zEv P z (.tmp sl)=(match ltb sl 4096 with | true=>QM z sl | false=>.any .junk):=rfl;rw[e,Qo.2 hl] at hz;exact hz
      exact s.const this rfl
     .exfalso;have e:zEv P z (.tmp sl)=(match ltb sl 4096 with | true=>QM z sl | false=>.any .junk):=rfl;rw[e,qE.2 (Nat.le_of_not_lt hl)] at hz;cases hz
    .exact s
   cases t with
   | true=>exact iha D _ K E h kk st hi hc kr hs1
   | false=>exact ihb D _ K E h kk st hi hc kr hs1
  .exact hs1.elim
 | block id body ih =>
  intro D z K E h kk st hi s kr hs;refine ih D z K (λD'=>⟨(id,K D')::(E D').env,(E D').ret⟩) h (λe st'=>qP3 id e st' kk) st hi s ⟨λD'=>⟨λz' st' h' hi' s' hk=>(kr.at' D').normal z' st' h' hi' s' hk,λid' z' st' h' hi' s' hk=>?_,λz' st' h' hi' s' hk=>(kr.at' D').ret z' st' h' hi' s' hk⟩⟩ hs;show (cnd (Nat.beq id' id) (kk .normal st') (kk (.exit id') st')).sat p h';have hk':(match Nat.beq id' id with | true=>K D' z' h' | false=>qS5 (E D').env id' z' h'):=hk;cases hb:Nat.beq id' id with
  | true=>rw[hb] at hk';exact (kr.at' D').normal z' st' h' hi' s' hk'
  | false=>rw[hb] at hk';exact (kr.at' D').exit id' z' st' h' hi' s' hk'
 | loop body ih =>
  intro D z K E h kk st hi s kr hs;exact qGh (cur:=none) hC hN (.loop body) z (K D) (E D) h kk st hi s (kr.at' D) hs
 | rangeFunc g params assign body iha ihb =>
  intro D z K E h kk st hi s kr hs;refine qXz hC hi s (show jD5 P C fn N g params assign body z h _ from hs) λe st' h' hi' s' hk=>?_;cases e with
  | normal=>exact (kr.at' _).normal z st' h' hi' s' hk
  | exit i=>exact (kr.at' _).exit i z st' h' hi' s' hk
  | goto l=>exact False.elim hk
  | ret=>exact (kr.at' _).ret z st' h' hi' s' hk
  | panic ch=>exact False.elim hk
 | exit id=>exact λD z K E h kk st hi s kr hs=>(kr.at' D).exit id z st h hi s hs
 | scope body=>exact λD z K E h kk st hi s kr hs=>hs.elim
 | label l=>exact λD z K E h kk st hi s kr hs=>(kr.at' D).normal z st h hi s hs
 | goto l=>exact λD z K E h kk st hi s kr hs=>hs.elim
 | ret=>exact λD z K E h kk st hi s kr hs=>(kr.at' D).ret z st h hi s hs
 | refuse why=>exact λD z K E h kk st hi s kr hs=>hs.elim
theorem qKs {lf:Nat} {u:QY} {k:QY->FM} {p:QF} {K:Q0->Prop} (hk:∀h',h'.inf=true->K h'->(k u).sat p h'):∀(D:List qk) (h:Q0),h.inf=true->qM6 D h K->(qFt P call round Qp lf D u k).sat p h
 | [],h,hi,hs=>hk h hi hs
 | ⟨.yield b,as⟩::r,h,hi,hs=>by
  obtain⟨hg,hlt,hs2⟩:=(show h.get b=some (.deferred (some []))/\b<h.next/\qM6 r (h.put b (some .tomb)) K from hs);exact⟨_,hg,hlt,qKs hk r _ (by exact hi) hs2⟩
 | ⟨.plain f,as⟩::r,h,hi,hs=>False.elim hs
theorem qX6 (hC:CZ P call round C) {lf:Nat} {f:FuncId} {args:List ZV} {K:ZK} {h:Q0} (hinf:h.inf=true) (hs:qQi P C lf f args K h) {kp:QD->FM}:EfOk h K (λk=>qS8 P Qp lf call round f (avs args) k kp):=by
 unfold qQi at hs;split at hs
 .rename_i fn hf;split at hs
  .rename_i c hbo hN hl;have hN:=zS0 hN;have hl:=zS0 hl;intro k p hp;show (Qj P.funcs[f]? (.fail 160) λfn=>Qj fn.body (.fail 160) λc=>qXo fn.ntmps (avs args) λt=>qt P call round Qp f fn.ntmps none lf c ⟨t,[],.na⟩ (qG9 P call round Qp lf fn k kp)).sat p h;rw[hf,Qa,hbo,Qa];unfold qXo;rw[zF0 hN,Q6,jD,qI8,show Nat.zero+args.length=args.length from Nat.zero_add _,zF0 hl,Q6];obtain⟨t,ht,hat⟩:=qVv args 0 TT.undef (λt=>qt P call round Qp f fn.ntmps none lf c ⟨t,[],.na⟩ (qG9 P call round Qp lf fn k kp)) (by omega);have ht':TT.args (avs args) Nat.zero TT.undef (λt=>qt P call round Qp f fn.ntmps none lf c ⟨t,[],.na⟩ (qG9 P call round Qp lf fn k kp))=_:=ht;rw[ht'];have hz:ZS [] (js fn.ntmps args) (⟨t,[],.na⟩:St):=by
    refine⟨λs hs=>?_,rfl,rfl⟩;show t.at s=_;rw[qXs,hat s hs];by_cases e:0<=s/\s<0+args.length
    .rw[if_pos e,Nat.sub_zero]
    .rw[if_neg e,TT.at_undef,qXt (by omega)];simp
   have leave:∀(e:qd) D z st h',e=.normal∨e=.ret->h'.inf=true->ZS D z st->(qM6 D h' λh2=>j2 P fn.results.toList z h2 λvs=>K (qM0 vs) h2)->(qG9 P call round Qp lf fn k kp e st).sat p h':=by
    intro e D z st h' he hi s hr
    have:qG9 P call round Qp lf fn k kp e st=qFt P call round Qp lf st.defers .returning (endK P fn st.tmps k kp):=by rcases he with rfl | rfl <;> rfl
    rw[this,s.defers];refine qKs (λh2 hi2 hr=>?_) D h' hi hr;show (qR P st.tmps fn.results.toList λvs=>results1 vs k).sat p h2;refine qEb s _ _ _ hr λvs hv=>?_
    have:=hp _ _ hi2 hv
    cases vs with
    | nil =>
     show (k (.tuple [])).sat p h2;simpa [qM0] using this
    | cons v r =>
     cases r with
     | nil=>exact this
     | cons w r =>show (k (.tuple (avs (v::w::r)))).sat p h2;simpa [qM0] using this
   refine qXv hC hN c [] (js fn.ntmps args) _ _ h _ _ hinf hz ⟨λD=>⟨?_,?_,?_⟩⟩ hs
   .exact λz st h' hi s hr=>leave .normal D z st h' (.inl rfl) hi s hr
   .exact λid z st h' hi s hr=>False.elim hr
   .exact λz st h' hi s hr=>leave .ret D z st h' (.inr rfl) hi s hr
  .exact hs.elim
 .exact hs.elim
structure jH (S:QC) (sums:qm):Prop where
 none:∀f,S f=none->sums f=none
 some:∀f s,S f=some s->∃x,sums f=some x/\∀args K h,h.inf=true->s args K h->∀kp,EfOk h K (λk=>x (avs args) k kp)
theorem qEy {S:QC} {sums:qm} (hS:jH S sums) {lf:Nat}:∀n,CZ P (xCR P Qp sums lf n).call (xCR P Qp sums lf n).round (Qu P S lf n)
 | 0=>⟨λf args K h hf hi hs=>hs.elim,λl args K h hi hs=>hs.elim⟩
 | n+1=>by
  have ih:=qEy hS (lf:=lf) n;refine⟨λf args K h hf hi hs kp=>?_,λl args K h hi hs=>?_⟩
  .have hs1:cnd (ltb f P.funcs.size) (Option.rec (motive:=λ_=>Prop) (cnd (qHv P f) (qQi P (Qu P S lf n) lf f args K h) (qVj P (Qu P S lf n) lf f args K h)) (λs=>s args K h) (S f)) (ZRnd P (Qu P S lf n) lf (f-P.funcs.size) args K h):=hs;rw[Qo.2 hf,Q6] at hs1;have e:∀k,(xCR P Qp sums lf (n+1)).call f (avs args) k kp=Option.rec (motive:=λ_=>FM) (qS8 P Qp lf (xCR P Qp sums lf n).call (xCR P Qp sums lf n).round f (avs args) k kp) (λs=>s (avs args) k kp) (sums f):=λk=>by
    show jEe P Qp sums lf (xCR P Qp sums lf n).call (xCR P Qp sums lf n).round f (avs args) k kp=_;unfold jEe;cases sums f <;> rfl
   cases hf:S f with
   | none =>
    rw[hf] at hs1;cases hr:qHv P f with
    | false =>
     simp only[hr,Q8] at hs1;refine .eq (λk=>?_) (jBm (round:=(xCR P Qp sums lf n).round) ih hi hs1 (kp:=kp));rw[e,hS.none f hf]
    | true =>
     simp only[hr,Q6] at hs1;refine .eq (λk=>?_) (qX6 (round:=(xCR P Qp sums lf n).round) ih hi hs1 (kp:=kp));rw[e,hS.none f hf]
   | some s =>rw[hf] at hs1;obtain⟨x,hx,hok⟩:=hS.some f s hf;refine .eq (λk=>?_) (hok args K h hi hs1 kp);rw[e,hx]
  .have hs1:cnd (ltb (P.funcs.size+l) P.funcs.size) (Option.rec (motive:=λ_=>Prop) (cnd (qHv P (P.funcs.size+l)) (qQi P (Qu P S lf n) lf (P.funcs.size+l) args K h) (qVj P (Qu P S lf n) lf (P.funcs.size+l) args K h)) (λs=>s args K h) (S (P.funcs.size+l))) (ZRnd P (Qu P S lf n) lf (P.funcs.size+l-P.funcs.size) args K h):=hs;rw[qE.2 (by omega),Q8,Nat.add_sub_cancel_left] at hs1;exact qXy ih hi hs1
end
end Go.X
namespace Go.X
open Go Go.RowKit
def Ja (n:Nat):Value->AV
 | .bool b=>.bool b
 | .int k m=>.int k m
 | .string s=>.str (bs s)
 | .pointer none=>.nilp
 | .pointer (some a)=>match a with | ⟨b,x,none⟩=>if b<n then .ptr b x else .junk | _=>.junk
 | .slice none 0 0=>.nils
 | .slice (some a) l c=>match c with
  | 0=>(match l with | 0=>.emp | _=>.junk)
  | _=>match a with | ⟨b,x,none⟩=>if b<n then .slice b x l c false else .junk | _=>.junk
 | .map none=>.nilMap
 | .nilFunc=>.nilFunc
 | .nilIface=>.nilIface
 | _=>.junk
def absE (n:Nat):Env:=⟨λi=>if i<n then some i else none,λ_=>0,λ_=>0⟩
theorem absV_VR (n:Nat) (v:Value):VR (absE n) (Ja n v) v:=by
 unfold Ja;split
 .exact .bool _
 .exact .int _ _
 .exact .str _ _ rfl
 .exact .nilp
 .split
  .rename_i b x;by_cases h:b<n
   .rw[if_pos h];exact .ptr _ _ _ _ (if_pos h) (by simp[absE])
   .rw[if_neg h];exact .junk _
  .exact .junk _
 .exact .nils
 .rename_i l c;split
  .split
   .exact .emp _ _
   .exact .junk _
  .split
   .rename_i b x;by_cases h:b<n
    .rw[if_pos h];exact .slice _ _ _ _ _ _ _ _ (if_pos h) (by simp[absE]) (by simp[cnd])
    .rw[if_neg h];exact .junk _
   .exact .junk _
 .exact .nilMap
 .exact .nilFunc
 .exact .nilIface
 .exact .junk _
def absH (W:World):Q0:=⟨λi=>match W.heap[i]? with
 | some (.cells cs _ _)=>some (.ro (cs.toList.map (Ja W.heap.size)))
 | _=>none,W.heap.size,0,true⟩
theorem absVs (n:Nat):∀l:List Value,VRs (absE n) (l.map (Ja n)) l
 | []=>.nil
 | v::l=>.cons _ _ _ _ (absV_VR n v) (absVs n l)
theorem jFp {W:World} {i:Nat} {ao:Q4} (h:(absH W).get i=some ao):∃cs t fr,W.heap[i]?=some (.cells cs t fr)/\ao=.ro (cs.toList.map (Ja W.heap.size)):=by
 have h':(match W.heap[i]? with | some (.cells cs _ _)=>some (Q4.ro (cs.toList.map (Ja W.heap.size))) | _=>none)=some ao:=h;split at h'
 .rename_i cs t fr hw;simp only[Option.some.injEq] at h';exact⟨cs,t,fr,hw,h'.symm⟩
 .cases h'
theorem abs_rel {P:Program} {W:World} (hG:P.globals.size<=W.heap.size):Rel P W (absE W.heap.size) (absH W) W:=by
 refine⟨λi ao hi=>?_,λi j x y b hi hj _ _ ei ej=>?_,λi h1 h2=>?_,λi b hb=>?_,Below.refl _ _,λi ao b hi _ _=>?_,λg hg=>⟨if_pos (by omega),rfl⟩,.inl rfl,.inl rfl⟩
 .obtain⟨cs,t,fr,hw,e⟩:=jFp hi;subst e;have hlt:i<W.heap.size:=(Array.getElem?_eq_some_iff.1 hw).1;exact⟨i,_,if_pos hlt,hw,.ro _ _ _ _ [] cs.toList [] (by simp) rfl (absVs _ _)⟩
 .simp only[absE] at ei ej;split at ei
  .split at ej
   .cases ei;cases ej;rfl
   .cases ej
  .cases ei
 .exact if_neg (by have:W.heap.size<=i:=h1;omega)
 .simp only[absE] at hb;split at hb
  .cases hb;assumption
  .cases hb
 .obtain⟨cs,t,fr,hw,e⟩:=jFp hi;exact .inr ⟨_,e⟩
theorem J6.inv {lf:Nat} {body:ZT->(ZT->Q0->Prop)->KZ->Q0->Prop} {z:ZT} {E:KZ} {h:Q0} (I:Nat->ZT->Q0->Prop) {n:Nat} (hn:n<lf) (h0:I n z h)
  (step:∀m z h (k:ZT->Q0->Prop),m<=n->I m z h->(∀m' z' h',m'<m->I m' z' h'->k z' h')->body z k E h):J6 lf body z E h:=by
 have key:∀m,∀z h,m<=n->∀m',m'<m->I m' z h->qVa body E m z h:=by
  intro m
  induction m with
  | zero=>exact λz h _ m' hm _=>absurd hm (Nat.not_lt_zero _)
  | succ m ih =>intro z h hmn m' hm hI;exact step m' z h _ (by omega) hI λm'' z' h' hlt hI'=>ih z' h' (by omega) m'' (by omega) hI'
 exact⟨n+1,hn,step n z h _ (zL0 _) h0 λm' z' h' hlt hI'=>key n z' h' (zL0 _) m' hlt hI'⟩
def QH:Code->List Nat->Code
 | c,[]=>c
 | .seq a b,0::p=>QH a p
 | .seq a b,_::p=>QH b p
 | .cond _ a b,0::p=>QH a p
 | .cond _ a b,_::p=>QH b p
 | .block _ c,_::p=>QH c p
 | .loop c,_::p=>QH c p
 | .rangeFunc _ _ a _,0::p=>QH a p
 | .rangeFunc _ _ _ b,_::p=>QH b p
 | c,_=>c
def qGq:Code->List Nat->Code->Code
 | _,[],x=>x
 | .seq a b,0::p,x=>.seq (qGq a p x) b
 | .seq a b,_::p,x=>.seq a (qGq b p x)
 | .cond u a b,0::p,x=>.cond u (qGq a p x) b
 | .cond u a b,_::p,x=>.cond u a (qGq b p x)
 | .block i c,_::p,x=>.block i (qGq c p x)
 | .loop c,_::p,x=>.loop (qGq c p x)
 | .rangeFunc g ps a b,0::p,x=>.rangeFunc g ps (qGq a p x) b
 | .rangeFunc g ps a b,_::p,x=>.rangeFunc g ps a (qGq b p x)
 | c,_,_=>c
theorem jz:∀(p:List Nat) (c:Code),qGq c p (QH c p)=c
 | [],c=>by cases c <;> rfl
 | i::p,c=>by
  cases c with
  | seq a b=>cases i with
   | zero=>show Code.seq (qGq a p (QH a p)) b=_;rw[jz p a]
   | succ i=>show Code.seq a (qGq b p (QH b p))=_;rw[jz p b]
  | cond u a b=>cases i with
   | zero=>show Code.cond u (qGq a p (QH a p)) b=_;rw[jz p a]
   | succ i=>show Code.cond u a (qGq b p (QH b p))=_;rw[jz p b]
  | block j c=>cases i <;> (show Code.block j (qGq c p (QH c p))=_;rw[jz p c])
  | loop c=>cases i <;> (show Code.loop (qGq c p (QH c p))=_;rw[jz p c])
  | rangeFunc g ps a b=>cases i with
   | zero=>show Code.rangeFunc g ps (qGq a p (QH a p)) b=_;rw[jz p a]
   | succ i=>show Code.rangeFunc g ps a (qGq b p (QH b p))=_;rw[jz p b]
  | _=>cases i <;> rfl
theorem qo:∀(p q:List Nat) (c:Code),QH c (p++q)=QH (QH c p) q
 | [],q,c=>by
  have:QH c []=c:=by cases c <;> rfl
  rw[this];rfl
 | i::p,q,c=>by
  cases c with
  | seq a b=>cases i with
   | zero=>exact qo p q a
   | succ i=>exact qo p q b
  | cond u a b=>cases i with
   | zero=>exact qo p q a
   | succ i=>exact qo p q b
  | block j c=>cases i <;> exact qo p q c
  | loop c=>cases i <;> exact qo p q c
  | rangeFunc g ps a b=>cases i with
   | zero=>exact qo p q a
   | succ i=>exact qo p q b
  | skip =>
   have key:∀l:List Nat,QH (Code.skip) l=Code.skip:=λl=>by
    cases l with
    | nil=>rfl
    | cons i l=>cases i <;> rfl
   rw[key,key,key]
  | region a b d =>
   have key:∀l:List Nat,QH (Code.region a b d) l=Code.region a b d:=λl=>by
    cases l with
    | nil=>rfl
    | cons i l=>cases i <;> rfl
   rw[key,key,key]
  | exit a =>
   have key:∀l:List Nat,QH (Code.exit a) l=Code.exit a:=λl=>by
    cases l with
    | nil=>rfl
    | cons i l=>cases i <;> rfl
   rw[key,key,key]
  | scope a =>
   have key:∀l:List Nat,QH (Code.scope a) l=Code.scope a:=λl=>by
    cases l with
    | nil=>rfl
    | cons i l=>cases i <;> rfl
   rw[key,key,key]
  | label a =>
   have key:∀l:List Nat,QH (Code.label a) l=Code.label a:=λl=>by
    cases l with
    | nil=>rfl
    | cons i l=>cases i <;> rfl
   rw[key,key,key]
  | goto a =>
   have key:∀l:List Nat,QH (Code.goto a) l=Code.goto a:=λl=>by
    cases l with
    | nil=>rfl
    | cons i l=>cases i <;> rfl
   rw[key,key,key]
  | ret =>
   have key:∀l:List Nat,QH (Code.ret) l=Code.ret:=λl=>by
    cases l with
    | nil=>rfl
    | cons i l=>cases i <;> rfl
   rw[key,key,key]
  | refuse a =>
   have key:∀l:List Nat,QH (Code.refuse a) l=Code.refuse a:=λl=>by
    cases l with
    | nil=>rfl
    | cons i l=>cases i <;> rfl
   rw[key,key,key]
def qJg (P:Program) (f:FuncId) (p:List Nat):Code:=match P.funcs[f]? with
 | some fn=>match fn.body with | some c=>QH c p | none=>.skip
 | none=>.skip
def qw (P:Program) (f:FuncId):Nat:=match P.funcs[f]? with | some fn=>fn.ntmps | none=>0
def Qf (P:Program) (f:FuncId) (K:ZK) (z:ZT) (h:Q0):Prop:=match P.funcs[f]? with
 | some fn=>j2 P fn.results.toList z h λvs=>K (qM0 vs) h
 | none=>False
def zAt (P:Program) (C:Qx) (lf:Nat) (f:FuncId) (p:List Nat):ZT->(ZT->Q0->Prop)->KZ->Q0->Prop:=qPh P C (qw P f) lf (qJg P f p)
def entB (P:Program) (f:FuncId) (n:Nat):Bool:=match P.funcs[f]? with
 | some fn=>match fn.body with | some c=>(Nat.ble fn.ntmps 4096 && Nat.ble n fn.ntmps) && !qGz c | none=>false
 | none=>false
theorem entB_lt {P:Program} {f:FuncId} {n:Nat} (h:entB P f n=true):f<P.funcs.size/\qHv P f=false:=by
 unfold entB at h;unfold qHv;cases hf:P.funcs[f]? with
 | none=>rw[hf] at h;cases h
 | some fn =>
  rw[hf] at h;simp only at h ⊢;refine⟨(Array.getElem?_eq_some_iff.1 hf).1,?_⟩;cases hb:fn.body with
  | none=>rfl
  | some c =>simp only[hb,Bool.and_eq_true,Bool.not_eq_true'] at h;exact h.2
theorem zBody_at {P:Program} {C:Qx} {lf:Nat} {f:FuncId} {args:List ZV} {K:ZK} {h:Q0} (he:entB P f args.length=true) (hs:zAt P C lf f [] (js (qw P f) args) (Qf P f K) ⟨[],Qf P f K⟩ h):qVj P C lf f args K h:=by
 unfold entB at he;unfold qVj;unfold zAt qJg qw at hs;cases hf:P.funcs[f]? with
 | none=>rw[hf] at he;cases he
 | some fn =>
  have e:Qf P f K=λz h=>j2 P fn.results.toList z h λvs=>K (qM0 vs) h:=by funext z h;unfold Qf;rw[hf]
  rw[e] at hs;simp only[hf] at he hs ⊢;cases hb:fn.body with
  | none=>simp only[hb] at he;cases he
  | some c =>
   simp only[hb,Bool.and_eq_true] at he hs ⊢;have e2:QH c []=c:=by cases c <;> rfl
   rw[e2] at hs;rw[he.1.1,he.1.2];exact hs
theorem Qy {P:Program} {S:QC} {lf n:Nat} {f:FuncId} {args:List ZV} {K:ZK} {h:Q0} (hS:S f=none) (he:entB P f args.length=true) (hs:zAt P (Qu P S lf n) lf f [] (js (qw P f) args) (Qf P f K) ⟨[],Qf P f K⟩ h):Qu P S lf (n+1) f args K h:=by obtain⟨h1,h2⟩:=entB_lt he;show cnd (ltb f P.funcs.size) (Option.rec (motive:=λ_=>Prop) (cnd (qHv P f) (qQi P (Qu P S lf n) lf f args K h) (qVj P (Qu P S lf n) lf f args K h)) (λs=>s args K h) (S f)) (ZRnd P (Qu P S lf n) lf (f-P.funcs.size) args K h);rw[Qo.2 h1,Q6,hS,h2,Q8];exact zBody_at he hs
theorem qEx {P:Program} {S:QC} {lf n:Nat} {f:FuncId} {s:List ZV->ZK->Q0->Prop} {args:List ZV} {K:ZK} {h:Q0} (hf:ltb f P.funcs.size=true) (hS:S f=some s) (hs:s args K h):Qu P S lf (n+1) f args K h:=by show cnd (ltb f P.funcs.size) (Option.rec (motive:=λ_=>Prop) (cnd (qHv P f) (qQi P (Qu P S lf n) lf f args K h) (qVj P (Qu P S lf n) lf f args K h)) (λs=>s args K h) (S f)) (ZRnd P (Qu P S lf n) lf (f-P.funcs.size) args K h);rw[hf,Q6,hS];exact hs
def qTs (d:Nat->ZV):Nat->Nat->ZT
 | _,0=>[]
 | i,n+1=>d i::qTs d (i+1) n
def zt (n:Nat) (d:Nat->ZV):ZT:=qTs d 0 n
def ov (l:List (Nat × ZV)) (d:Nat->ZV) (i:Nat):ZV:=match l with
 | []=>d i
 | p::r=>match Nat.beq p.1 i with | true=>p.2 | false=>ov r d i
def ovOk (z:ZT) (l:List (Nat × ZV)):Prop:=match l with
 | []=>True
 | p::r=>QM z p.1=p.2/\ovOk z r
def ZAt (n:Nat) (l:List (Nat × ZV)) (z:ZT):Prop:=z.length=n/\ovOk z l
theorem ov_ok {z:ZT}:∀{l:List (Nat × ZV)},ovOk z l->ov l (QM z)=QM z
 | [],_=>rfl
 | p::r,h=>by
  funext i;show (match Nat.beq p.1 i with | true=>p.2 | false=>ov r (QM z) i)=_;cases hb:Nat.beq p.1 i with
  | true=>have:=Nat.eq_of_beq_eq_true hb;subst this;exact h.1.symm
  | false=>exact congrFun (ov_ok h.2) i
theorem qTq (d:Nat->ZV):∀(n i:Nat),(qTs d i n).length=n
 | 0,_=>rfl
 | n+1,i=>by simp[qTs,qTq d n]
theorem qTr (d:Nat->ZV):∀(n i s:Nat),s<n->QM (qTs d i n) s=d (i+s)
 | n+1,i,0,_=>rfl
 | n+1,i,s+1,h=>by show QM (qTs d (i+1) n) s=_;rw[qTr d n (i+1) s (by omega)];congr 1;omega
theorem jD2:∀{a b:ZT},a.length=b.length->(∀s,s<a.length->QM a s=QM b s)->a=b
 | [],[],_,_=>rfl
 | [],_::_,h,_=>by cases h
 | _::_,[],h,_=>by cases h
 | v::a,w::b,h,e=>by
  have e0:v=w:=e 0 (by simp)
  have:=jD2 (a:=a) (b:=b) (by simpa using h) λs hs=>e (s+1) (by simpa using hs)
  rw[e0,this]
theorem ZAt.tab {n:Nat} {l:List (Nat × ZV)} {z:ZT} (h:ZAt n l z):∃d,z=zt n (ov l d):=by
 refine⟨QM z,jD2 ?_ λs hs=>?_⟩
 .rw[zt,qTq];exact h.1
 .rw[h.1] at hs;rw[ov_ok h.2,zt,qTr _ _ _ _ hs,Nat.zero_add]
theorem skipAt (l:List Nat):QH Code.skip l=Code.skip:=by
 cases l with
 | nil=>rfl
 | cons i l=>cases i <;> rfl
theorem qKt {P:Program} {C:Qx} {lf:Nat} {f:FuncId} {p r:List Nat} {z:ZT} {k:ZT->Q0->Prop} {E:KZ} {h:Q0} (q:List Nat) (R:(ZT->(ZT->Q0->Prop)->KZ->Q0->Prop)->Prop) (e:p++q=r)
  (H:∀x:Code,qPh P C (qw P f) lf (qGq (qJg P f p) q x) z k E h=R (qPh P C (qw P f) lf x)):zAt P C lf f p z k E h=R (zAt P C lf f r):=by
 subst e
 have:=H (qJg P f (p++q))
 have e2:qJg P f (p++q)=QH (qJg P f p) q:=by
  unfold qJg;cases P.funcs[f]? with
  | none=>exact (skipAt q).symm
  | some fn=>cases hb:fn.body with
   | none=>simp only[hb];exact (skipAt q).symm
   | some c=>simp only[hb];exact qo p q c
 have e3:qGq (qJg P f p) q (qJg P f (p++q))=qJg P f p:=by rw[e2,jz]
 rw[e3] at this;exact this
end Go.X
namespace Go.X
section
variable {h:Q0} {A B:Prop}
@[simp] theorem zAnd_iff:Ql A B↔A/\B:=⟨λs=>⟨s.1,s.2⟩,λs=>⟨s.1,s.2⟩⟩
@[simp] theorem qA6 {q:IntKind} {e:Int} {K:Int->Prop}:ZW q e K↔K (q.wrap e):=⟨λ⟨k⟩=>k,λk=>⟨k⟩⟩
@[simp] theorem jD7 {j len:Nat} {K:Nat->Prop}:ZIdx (j:Int) len K↔j<len/\K j :=
 ⟨λ⟨m,e,l,k⟩=>by
  have:j=m:=by omega
  subst this;exact⟨l,k⟩,λ⟨l,k⟩=>⟨j,rfl,l,k⟩⟩
@[simp] theorem qM3 {j len:Nat} {K:Nat->Prop}:ZIdx (Int.ofNat j) len K↔j<len/\K j:=jD7
@[simp] theorem zIdx_zero {len:Nat} {K:Nat->Prop}:ZIdx 0 len K↔0<len/\K 0:=jD7 (j:=0)
@[simp] theorem zNat_nat {j:Nat} {K:Nat->Prop}:qO (j:Int) K↔K j :=
 ⟨λ⟨m,e,k⟩=>by
  have:j=m:=by omega
  subst this;exact k,λk=>⟨j,rfl,k⟩⟩
@[simp] theorem zLdI_iff {i o:Nat} {q:IntKind} {K:Int->Prop}:Qg h i o q K↔∃n,cellAt h i o=some (.int q n)/\K n:=⟨λ⟨n,e,k⟩=>⟨n,e,k⟩,λ⟨n,e,k⟩=>⟨n,e,k⟩⟩
@[simp] theorem zLdB_iff {i o:Nat} {K:Bool->Prop}:ZLdB h i o K↔∃n,cellAt h i o=some (.bool n)/\K n:=⟨λ⟨n,e,k⟩=>⟨n,e,k⟩,λ⟨n,e,k⟩=>⟨n,e,k⟩⟩
@[simp] theorem zLdS_iff {i o:Nat} {K:List Nat->Prop}:ZLdS h i o K↔∃n,cellAt h i o=some (.str n)/\K n:=⟨λ⟨n,e,k⟩=>⟨n,e,k⟩,λ⟨n,e,k⟩=>⟨n,e,k⟩⟩
@[simp] theorem zRI_av {q:IntKind} {n:Int} {K:Int->Prop}:ZRI (.int q n) q K↔K n:=⟨λ⟨m,e,k⟩=>by cases e;exact k,λk=>⟨n,rfl,k⟩⟩
@[simp] theorem zRB_av {b:Bool} {K:Bool->Prop}:ZRB (.bool b) K↔K b:=⟨λ⟨m,e,k⟩=>by cases e;exact k,λk=>⟨b,rfl,k⟩⟩
@[simp] theorem zRS_av {l:List Nat} {K:List Nat->Prop}:ZRS (.str l) K↔K l:=⟨λ⟨m,e,k⟩=>by cases e;exact k,λk=>⟨l,rfl,k⟩⟩
def two (a b:AV):Nat->AV:=λi=>match i with | 0=>a | _=>b
@[simp] theorem two0 (a b:AV):two a b 0=a:=rfl
@[simp] theorem two1 (a b:AV):two a b 1=b:=rfl
theorem qG3 {p:Prop} [Decidable p]:cnd (decide p) A B↔(p->A)/\(¬p->B):=by by_cases hp:p <;> simp[hp,cnd]
@[simp] theorem cnd_t {β:Type} (t e:β):cnd true t e=t:=rfl
@[simp] theorem cnd_f {β:Type} (t e:β):cnd false t e=e:=rfl
@[simp] theorem cnd_tP (t e:Prop):@cnd Prop true t e=t:=rfl
@[simp] theorem cnd_fP (t e:Prop):@cnd Prop false t e=e:=rfl
end
theorem j9 {P:Program} {C:Qx} {lf:Nat} {f:FuncId} {p:List Nat} {n:Nat} (l:List (Nat × ZV)) {z:ZT} {k:ZT->Q0->Prop} {E:KZ} {h:Q0} (hz:ZAt n l z) (hk:∀d,zAt P C lf f p (zt n (ov l d)) k E h):zAt P C lf f p z k E h:=by obtain⟨d,rfl⟩:=hz.tab;exact hk d
structure Qv (S:Nat->Prop) (h h':Q0):Prop where
 next:h.next<=h'.next
 same:∀i,i<h.next->¬S i->h'.get i=h.get i
theorem Qv.refl (S:Nat->Prop) (h:Q0):Qv S h h:=⟨zL0 _,λ_ _ _=>rfl⟩
theorem Qv.trans {S:Nat->Prop} {a b c:Q0} (x:Qv S a b) (y:Qv S b c):Qv S a c :=
 ⟨zM0 x.next y.next,λi hi hs=>(y.same i (zE0 hi x.next) hs).trans (x.same i hi hs)⟩
theorem Qv.mono {S T:Nat->Prop} {a b:Q0} (x:Qv S a b) (h:∀i,i<a.next->S i->T i):Qv T a b:=⟨x.next,λi hi ht=>x.same i hi λhs=>ht (h i hi hs)⟩
theorem Qv.newO (S:Nat->Prop) (h:Q0) (o:Q4):Qv S h (h.newO o):=⟨Nat.le_succ _,λi hi _=>if_neg (Nat.ne_of_lt hi)⟩
theorem Qv.put {S:Nat->Prop} (h:Q0) {i:Nat} (o:Option Q4) (hs:i<h.next->S i):Qv S h (h.put i o) :=
 ⟨zL0 _,λj hj hn=>if_neg λe=>by subst e;exact hn (hs hj)⟩
theorem Qz (h:Q0) (o:Q4):(h.newO o).get h.next=some o:=if_pos rfl
theorem Jw {h:Q0} {o:Q4} {i:Nat} (hi:i≠h.next):(h.newO o).get i=h.get i:=if_neg hi
theorem qHw (h:Q0) (i:Nat) (o:Option Q4):(h.put i o).get i=o:=if_pos rfl
theorem qT8 {h:Q0} {o:Option Q4} {i j:Nat} (hi:j≠i):(h.put i o).get j=h.get j:=if_neg hi
theorem Qv.hput {S:Nat->Prop} (h:Q0) {i:Nat} (o:Nat) (vs:List AV) (hs:i<h.next->S i):Qv S h (hput h i o vs):=by
 unfold Go.X.hput;split
 .exact Qv.put _ _ hs
 .exact Qv.refl _ _
theorem hput_get {h:Q0} {i o:Nat} {vs c:List AV} {e:Nat} {g m:Bool} (hg:h.get i=some (.cells c e g m)):(hput h i o vs).get i=some (.cells (c.take o++(vs++c.drop (o+vs.length))) e g m):=by unfold hput;rw[hg];exact qHw _ _ _
theorem qMj {h:Q0} {i o:Nat} {c:List AV} {e:Nat} {g m:Bool} (hg:h.get i=some (.cells c e g m)):cellAt h i o=c[o]?:=by unfold cellAt QS;rw[hg];rfl
theorem qMb (h:Q0) (es:List (AV × AV)) (v:Nat) (f:List (AV × AV)->List (AV × AV)):hmap (h.newO (.map es v)) h.next f=h.newO (.map (f es) (v+1)):=by
 unfold hmap;rw[Qz];refine Q0.ext (λi=>?_) rfl rfl rfl;by_cases e:i=h.next
 .subst e;rw[Qz];exact qHw _ _ _
 .rw[Jw e];exact (qT8 e).trans (Jw e)
structure J5 (h:Q0) (s:SL) (l:List Int):Prop where
 len:s.n=l.length
 lt:s.nil=false->s.i<h.next
 src:s.nil=false->∃c,QS h s.i=some c/\(c.drop s.o).take s.len=l.map (AV.int .i64)/\s.len<=(c.drop s.o).length
theorem qU4 {h h':Q0} {i:Nat} (hg:h'.get i=h.get i):QS h' i=QS h i:=by unfold QS;rw[hg]
theorem qI5 {h:Q0} {i:Nat} {c:List AV} {e:Nat} {g m:Bool} (hg:h.get i=some (.cells c e g m)):QS h i=some c:=by unfold QS;rw[hg]
theorem J5.at' {h:Q0} {s:SL} {l:List Int} (x:J5 h s l) (e:s.nil=false) (j:Nat) (y:Int) (hy:l[j]?=some y):cellAt h s.i (s.o+j)=some (.int .i64 y):=by
 obtain⟨c,hc,h1,h2⟩:=x.src e;unfold cellAt;rw[hc];show c[s.o+j]?=_;have hj:j<l.length:=(List.getElem?_eq_some_iff.1 hy).1;have hl:=x.len;unfold SL.n at hl;rw[e] at hl;simp only at hl
 have:((c.drop s.o).take s.len)[j]?=some (.int .i64 y):=by rw[h1];simp[hy]
 rw[List.getElem?_take] at this;split at this
 .rw[List.getElem?_drop] at this;exact this
 .cases this
theorem J5.fr {S:Nat->Prop} {h h':Q0} {s:SL} {l:List Int} (x:J5 h s l) (f:Qv S h h') (hs:s.nil=false->¬S s.i):J5 h' s l :=
 ⟨x.len,λe=>zE0 (x.lt e) f.next,λe=>by rw[qU4 (f.same _ (x.lt e) (hs e))];exact x.src e⟩
theorem qXq (l:List Int):QX (l.map (AV.int .i64))=true:=by
 induction l with
 | nil=>rfl
 | cons x l ih=>exact ih
theorem J5.zsrc {h:Q0} {s:SL} {l:List Int} {K:List AV->Prop} (x:J5 h s l) (k:K (l.map (AV.int .i64))):ZSrc h s 1 K:=by
 refine⟨_,λe=>?_,λe=>?_,k⟩
 .have:=x.len
  unfold SL.n at this;rw[e] at this;rw[List.eq_nil_of_length_eq_zero this.symm];rfl
 .rw[Nat.mul_one];exact x.src e
theorem J5.own {h:Q0} {i n cap:Nat} {ext:Bool} {l:List Int} {e:Nat} {g m:Bool} (hl:n=l.length) (hi:i<h.next) (hg:h.get i=some (.cells (l.map (AV.int .i64)) e g m)):J5 h ⟨false,i,0,n,cap,ext⟩ l :=
 ⟨hl,λ_=>hi,λ_=>⟨_,qI5 hg,by rw[List.drop_zero];show List.take n _=_;rw[hl,<- zI0 (as:=l) (f:=AV.int .i64),List.take_length],by rw[List.drop_zero,zI0];exact Nat.le_of_eq hl⟩⟩
def nilSL:SL:=⟨true,0,0,0,0,false⟩
def Grown (h0 h:Q0) (s:SL) (sz:Nat) (n:Nat) (cs:List AV):Prop :=
 cs.length=n*sz/\((n=0/\s=nilSL)∨(s.nil=false/\s.o=0/\s.len=n/\s.cap=n/\s.ext=true/\h0.next<=s.i/\s.i<h.next/\h.get s.i=some (.cells cs sz true false)))
theorem Grown.append1 {P:Program} {h0 h:Q0} {s:SL} {sz n k e:Nat} {cs ds:List AV} {A:Prop} (g:Grown h0 h s sz n cs) (hn:h0.next<=h.next) (hk:k≠0) (hd:ds.length=k*sz) (hp:QX ds=true) (hr:qLc P e (n+k)=true)
  (ha:Grown h0 (Js h s sz k ds) (s.app h.next k) sz (n+k) (cs++ds)->Qv (λi=>s.nil=false/\i=s.i) h (Js h s sz k ds)->h.next<=(s.app h.next k).i->A):ZApp P h s e sz k ds A:=by
 obtain⟨hl,g⟩:=g;have hkb:Nat.beq k 0=false:=by cases k with | zero=>exact absurd rfl hk | succ k=>rfl
 rcases g with ⟨rfl,rfl⟩ | ⟨h1,h2,h3,h4,h5,h6,h7,h8⟩
 .have hc:cs=[]:=List.eq_nil_of_length_eq_zero (by simpa using hl);subst hc;have e1:Js h nilSL sz k ds=h.newO (.cells ds sz true false):=by unfold Js;rw[hkb];rfl
  have e2:nilSL.app h.next k=⟨false,h.next,0,k,k,true⟩:=by unfold SL.app;rw[hkb];rfl
  refine⟨⟨λe=>(by cases e),λ_ _=>rfl,λ_ e=>(by cases e),λ_ _=>?_,λ_ e=>(by cases e),λ_ e=>(by cases e)⟩,hp,ha ?_ ?_ ?_⟩
  .exact hr
  .rw[e1,e2];refine⟨by simpa using hd,.inr ⟨rfl,rfl,?_,?_,rfl,hn,Nat.lt_succ_self _,Qz _ _⟩⟩ <;> exact (Nat.zero_add k).symm
  .rw[e1];exact Qv.newO _ _ _
  .rw[e2];exact zL0 _
 .have hb:Nat.ble (s.len+k) s.cap=false:=by
   rw[h3,h4];cases hx:Nat.ble (n+k) n with
   | false=>rfl
   | true=>have:=zS0 hx;omega
  have e1:Js h s sz k ds=(h.put s.i (some .tomb)).newO (.cells (cs++ds) sz true false):=by unfold Js;rw[hkb,h1,hb,h8,h5,h2,h3];simp only[List.drop_zero];rw[<- hl,List.take_length]
  have e2:s.app h.next k=⟨false,h.next,0,n+k,n+k,true⟩:=by unfold SL.app;rw[hkb,h1,hb,h3]
  have hlen:s.len*sz<=(cs.drop s.o).length:=by rw[h2,h3,List.drop_zero,hl];exact zL0 _
  refine⟨⟨λ_=>(by omega),λ_ e=>(by rw[h1] at e;cases e),λ_ _ hle=>(by omega),λ_ _=>?_,λ_ _ _ _=>⟨h7,cs,false,h8,(by rw[h2,h4,hl];omega),hlen⟩,λ_ _ _ hx=>(by rw[h5] at hx;cases hx)⟩,hp,ha ?_ ?_ ?_⟩
  .have:s.n=n:=by unfold SL.n;rw[h1];exact h3
   rw[this];exact hr
  .rw[e1,e2];refine⟨by rw[List.length_append,hl,hd,Nat.add_mul],.inr ⟨rfl,rfl,rfl,rfl,rfl,hn,Nat.lt_succ_self _,Qz _ _⟩⟩
  .rw[e1];exact (Qv.put h (i:=s.i) _ λ_=>⟨h1,rfl⟩).trans (Qv.newO _ _ _)
  .rw[e2];exact zL0 _
theorem Grown.append {P:Program} {h0 h:Q0} {s:SL} {sz n k e:Nat} {cs ds:List AV} {A:Prop} (g:Grown h0 h s sz n cs) (hn:h0.next<=h.next) (hk:k≠0) (hd:ds.length=k*sz) (hp:QX ds=true) (hr:qLc P e (n+k)=true)
  (ha:Grown h0 (Js h s sz k ds) (s.app h.next k) sz (n+k) (cs++ds)->Qv (λi=>h0.next<=i) h (Js h s sz k ds)->A):ZApp P h s e sz k ds A:=by
 refine g.append1 hn hk hd hp hr λg2 f _=>ha g2 (f.mono λi _ ⟨e1,e2⟩=>?_);obtain⟨_,g⟩:=g;rcases g with ⟨_,rfl⟩ | ⟨_,_,_,_,_,h6,_⟩
 .cases e1
 .rw[e2];exact h6
end Go.X
namespace Go.X
open Go Go.RowKit
theorem Rel.garbage {P:Program} {W0:World} {E:Env} {h:Q0} {w w':World} (r:Rel P W0 E h w) (b:Below w.heap.size w w'):Rel P W0 E h w':=by
 refine⟨λi ao hi=>?_,r.inj,r.free,λi x hx=>zE0 (r.bound i x hx) b.size,r.below.trans (b.mono r.below.size),r.old,r.glob,r.lim,r.room⟩;obtain⟨x,o,hx,ho,hr⟩:=r.obj i ao hi;refine⟨x,o,hx,(b.block x (r.bound i x hx)).trans ho,?_⟩;cases hr with
 | cells c esz grown mark cs e fr pre c1 rest h1 h2 h3 h4 h5=>exact .cells c esz grown mark cs e fr pre c1 rest h1 h2 h3 h4 h5
 | ro c cs e fr pre c1 rest h1 h2 h3=>exact .ro c cs e fr pre c1 rest h1 h2 h3
 | map es ver xs clock h=>exact .map es ver xs clock h
 | mapIter m ver left cur y since stepped seen h0 hb h =>
  refine .mapIter m ver left cur y since stepped seen h0 hb λes v hm=>?_;obtain⟨h1,h2⟩:=h es v hm;refine⟨h1,λe=>?_⟩;obtain⟨xs,clock,h3,h4⟩:=h2 e;exact⟨xs,clock,(b.block y (r.bound m y hb)).trans h3,h4⟩
 | nilIter since stepped seen h0=>exact .nilIter since stepped seen h0
 | tomb o=>exact .tomb o
 | strIter s pos b h0 h=>exact .strIter s pos b h0 h
 | loop l r hs hp N ht hps ha hb hd=>exact .loop l r hs hp N ht hps ha hb hd
 | deferred ds cs h=>exact .deferred ds cs h
def jF7 (f:FuncId):QC:=λg=>match Nat.beq g f with | true=>some (λargs K h=>args=[]/\K (.bool true) h) | false=>none
def qPi (f:FuncId):qm:=λg=>match Nat.beq g f with | true=>some (λargs k _=>match args with | []=>k (.bool true) | _=>.fail 170) | false=>none
theorem qVt (f:FuncId):jH (jF7 f) (qPi f):=by
 constructor
 .intro g hg;unfold jF7 at hg;unfold qPi;cases hb:Nat.beq g f with
  | true=>rw[hb] at hg;cases hg
  | false=>rfl
 .intro g s hg;unfold jF7 at hg;unfold qPi;cases hb:Nat.beq g f with
  | false=>rw[hb] at hg;cases hg
  | true =>
   rw[hb] at hg;cases hg;refine⟨_,rfl,?_⟩;rintro args K h hi ⟨rfl,hk⟩ kp k p hp
   have:=hp _ h hi hk
   rwa [qBr] at this
theorem jF6 {P:Program} {W0:World} {f:FuncId} (hc:∀w,Below W0.heap.size W0 w->Calls P f #[] w λe w'=>e=.returned (.bool true)/\Below w.heap.size w w'):Q7 P W0 (qPi f):=by
 intro g s hg args k kp p E h w vs hb hs r hv;unfold qPi at hg;cases hbq:Nat.beq g f with
 | false=>rw[hbq] at hg;cases hg
 | true =>
  rw[hbq] at hg
  have:=Nat.eq_of_beq_eq_true hbq
  subst this;cases hg;cases args with
  | cons a l=>exact (show False from hs).elim
  | nil =>
   have hs:(k (.bool true)).sat p h:=hs;have e:vs=#[]:=by have hv':VRs E [] vs.toList:=hv;generalize hl:vs.toList=l at hv';cases hv';exact Array.toList_eq_nil_iff.1 hl
   subst e;refine (hc w r.below).mono λe w' ⟨he,hbw⟩=>?_;subst he;exact⟨E,h,_,Stp.refl _ _,r.garbage hbw,.bool true,hs⟩
end Go.X
namespace Go.X
open Go Go.RowKit Go.ChangeShapes Go.WideShapes
theorem qU5 {W:World} {a:Addr} {v:Value} (h:W.cell? a=some v):a.spot=none/\∃c t f,W.heap[a.block]?=some (.cells c t f)/\c[a.off]?=some v:=by
 unfold World.cell? at h;split at h
 .rename_i c t f hc;split at h
  .cases h
  .rename_i hs;exact⟨by simpa using hs,c,t,f,hc,h⟩
 .cases h
theorem cell_add {W:World} {b off j:Nat} {spot:Option Nat} {v:Value} (h:W.cell? ((Addr.mk b off spot).add j)=some v):∃c t f,W.heap[b]?=some (.cells c t f)/\c[off+j]?=some v:=by
 obtain⟨_,c,t,f,h1,h2⟩:=qU5 h;unfold Addr.add at h1 h2;split at h1
 .rename_i e;subst e;exact⟨c,t,f,h1,h2⟩
 .rename_i e;rw[if_neg e] at h2;exact⟨c,t,f,h1,h2⟩
theorem qJa {W:World} {b:Nat} {c:Array Value} {t:TypeId} {f:Nat × Nat} (h:W.heap[b]?=some (.cells c t f)):(absH W).get b=some (.ro (c.toList.map (Ja W.heap.size))):=by show (match W.heap[b]? with | some (.cells cs _ _)=>some (Q4.ro (cs.toList.map (Ja W.heap.size))) | _=>none)=_;rw[h]
theorem qFj {α:Type} {c l:List α} {o:Nat} (h:∀j x,l[j]?=some x->c[o+j]?=some x):(c.drop o).take l.length=l/\l.length<=(c.drop o).length:=by
 have key:∀j,j<l.length->((c.drop o))[j]?=l[j]?:=λj hj=>by rw[List.getElem?_drop,h j l[j] (zD0 hj),zD0 hj]
 have hlen:l.length<=(c.drop o).length:=by
  by_cases h0:l.length=0
  .omega
  .have:=key (l.length-1) (by omega)
   rw[zD0 (show l.length-1<l.length by omega)] at this
   have:=(List.getElem?_eq_some_iff.1 this).1
   omega
 refine⟨List.ext_getElem? λj=>?_,hlen⟩;by_cases hj:j<l.length
 .rw[List.getElem?_take,if_pos hj,key j hj]
 .rw[List.getElem?_take,if_neg hj,List.getElem?_eq_none (by omega)]
section
variable {H:Type} {enc:TypeId × Value->H} {P:Program} {W:World} {base:Nat} {sp:Nat->Bool} {held:Bool}
theorem add_add (a:Addr) (i q:Nat):(a.add i).add q=a.add (i+q):=by
 unfold Addr.add;by_cases h1:i=0
 .subst h1;simp
 .by_cases h2:q=0
  .subst h2;simp
  .have:i+q≠0:=by omega
   simp[h1,h2,this,Nat.add_assoc]
theorem jHb {n:Nat} {b off len cap:Nat} (hb:b<n) (hc:cap≠0):Ja n (.slice (some ⟨b,off,none⟩) len cap)=.slice b off len cap false:=by
 unfold Ja;cases cap with
 | zero=>exact absurd rfl hc
 | succ c =>show (if b<n then AV.slice b off len (c+1) false else _)=_;rw[if_pos hb]
theorem jFn {t e:TypeId} {sz:Nat} (ht:P.underlying t=some (.slice e)) (hc:P.cellsOf e=sz) (hsz:0<sz) {v:Value} {fuel:Nat} {x:DataW H × List MemPlace}
  (h:DataW.trod enc P W 0 (λ_=>true) held fuel t [v]=some x) :
  ∃(s:SL) (rows:List (List Value × DataW H)) (m:Nat),Ja W.heap.size v=s.av/\s.n=rows.length/\(s.nil=false->s.i<W.heap.size/\∃c el f,W.heap[s.i]?=some (.cells c el f)/\∀j r,rows[j]?=some r->∀q,q<sz->∃u,r.1[q]?=some u/\c[s.o+j*sz+q]?=some u) /\
   (∀r,r∈rows->r.1.length=sz/\∃p,DataW.trod enc P W 0 (λ_=>true) held m e r.1=some (r.2,p))/\((x.1=.nil/\rows=[])∨∃sp,x.1=.slice (rows.map (·.2)) sp):=by
 rcases DataW.trod_slice ht h with ⟨hcs,hx⟩ | ⟨a,len,cap,elems,rest,m,_,hcs,hx,_,hle,hmax,hlen,hel,hsp,_⟩
 .simp only[List.cons.injEq,and_true] at hcs;subst hcs;exact⟨nilSL,[],0,rfl,rfl,λe=>(by cases e),λr hr=>(by cases hr),.inl ⟨by rw[hx],rfl⟩⟩
 .simp only[List.cons.injEq,and_true] at hcs;subst hcs;rw[hc] at hel;obtain⟨hrl,hrest⟩:=hsp rfl;rw[hc] at hrest;have each:∀i,i<len->∃cs y,W.cells? 0 (a.add (i*sz)) sz=some cs/\elems[i]?=some y/\DataW.trod enc P W 0 (λ_=>true) held m e cs=some y:=λi hi=>by
   have h1:=hel i hi;have h2:elems[i]?=some elems[i]:=zD0 (by omega);rw[h2] at h1;obtain⟨cs,h3,h4⟩:=Option.bind_eq_some_iff.1 h1;exact⟨cs,_,h3,h2,h4⟩
  obtain⟨f,hf⟩:∃f:Nat->List Value × DataW H,∀i,i<len->W.cells? 0 (a.add (i*sz)) sz=some (f i).1/\elems[i]?.map (·.1)=some (f i).2/\∃p,DataW.trod enc P W 0 (λ_=>true) held m e (f i).1=some ((f i).2,p):=by refine⟨λi=>((W.cells? 0 (a.add (i*sz)) sz).getD [],(elems[i]?.map (·.1)).getD .nil),λi hi=>?_⟩;obtain⟨cs,y,h1,h2,h3⟩:=each i hi;refine⟨by simp[h1],by simp[h2],y.2,?_⟩;simp only[h1,h2,Option.getD_some,Option.map_some];exact h3
  have hrows:∀j r,((List.range len).map f)[j]?=some r->j<len/\r=f j:=λj r hj=>by obtain⟨h3,h4⟩:=List.getElem?_eq_some_iff.1 hj;simp only[zI0,List.length_range] at h3;simp only[List.getElem_map,List.getElem_range] at h4;exact⟨h3,h4.symm⟩
  have hdata:elems.map (·.1)=((List.range len).map f).map (·.2):=by
   apply List.ext_getElem?;intro i;rw[List.map_map,zP0,zP0];by_cases hi:i<len
   .rw[(hf i hi).2.1,List.getElem?_range hi];rfl
   .rw[List.getElem?_eq_none (by omega),List.getElem?_eq_none (by rw[List.length_range];omega)];rfl
  have htrod:∀r,r∈(List.range len).map f->r.1.length=sz/\∃p,DataW.trod enc P W 0 (λ_=>true) held m e r.1=some (r.2,p):=λr hr=>by obtain⟨i,hi,rfl⟩:=List.mem_map.1 hr;have hi:=List.mem_range.1 hi;exact⟨(World.cells?_some (hf i hi).1).2.1,(hf i hi).2.2⟩
  by_cases hcap:cap=0
  .subst hcap
   have:len=0:=by omega
   subst this;refine⟨⟨true,0,0,0,0,true⟩,(List.range 0).map f,m,rfl,rfl,λe=>(by cases e),htrod,.inr ⟨_,by rw[hx,hdata]⟩⟩
  .obtain⟨cs0,h0⟩:∃cs,W.cells? 0 (a.add (0*sz)) sz=some cs:=by
    by_cases hl0:0<len
    .exact⟨_,(hf 0 hl0).1⟩
    .have hl:len=0:=by omega
     have h1:=hrest 0 (by omega);obtain⟨y,h2⟩:∃y,rest[0]?=some y:=⟨_,zD0 (by omega)⟩;rw[h2] at h1;obtain⟨cs,h3,_⟩:=Option.bind_eq_some_iff.1 h1;rw[hl] at h3;exact⟨cs,h3⟩
   rw[Nat.zero_mul] at h0;obtain⟨_,hl0,hg0⟩:=World.cells?_some h0;have hc0:=hg0 0 hsz;obtain⟨u0,hu0⟩:∃u,cs0[0]?=some u:=⟨_,zD0 (by omega)⟩;rw[hu0] at hc0;obtain⟨b,off,spot⟩:=a;have hc0:W.cell? ⟨b,off,spot⟩=some u0:=hc0;obtain⟨hspot,c,el,fz,hb,_⟩:=qU5 hc0;have hspot:spot=none:=hspot;subst hspot;have hb:W.heap[b]?=some (.cells c el fz):=hb;have hlt:b<W.heap.size:=(Array.getElem?_eq_some_iff.1 hb).1;refine⟨⟨false,b,off,len,cap,false⟩,(List.range len).map f,m,jHb hlt hcap,by show len=_;simp,λ_=>⟨hlt,c,el,fz,hb,λj r hj q hq=>?_⟩,htrod,.inr ⟨_,by rw[hx,hdata]⟩⟩;obtain⟨hjl,rfl⟩:=hrows j r hj;obtain⟨_,hl1,hg1⟩:=World.cells?_some (hf j hjl).1;have h5:=hg1 q hq;obtain⟨u,hu⟩:∃u,(f j).1[q]?=some u:=⟨_,zD0 (by omega)⟩;rw[hu,add_add] at h5;obtain⟨c2,t2,f2,h6,h7⟩:=cell_add h5;rw[hb] at h6;cases h6;exact⟨u,hu,by show c[off+j*sz+q]?=_;rw[Nat.add_assoc];exact h7⟩
theorem jEh {e:TypeId} (he:P.underlying e=some (.int .i64)) {u:Value} {fuel:Nat} {x:DataW H × List MemPlace} (h:DataW.trod enc P W 0 (λ_=>true) held fuel e [u]=some x) :
  ∃n,u=.int .i64 n/\(-9223372036854775808<=n/\n<=9223372036854775807)/\x.1=.lit (.int .i64 n):=by
 cases fuel with
 | zero=>simp[DataW.trod] at h
 | succ m =>unfold DataW.trod at h;rw[he] at h;cases u <;> simp at h;rename_i q n;obtain⟨⟨rfl,hw⟩,rfl⟩:=h;exact⟨n,rfl,bounds_i64 hw,rfl⟩
def valI:List Value->Int
 | [.int _ n]=>n
 | _=>0
theorem jFo (n:Nat) (q:IntKind) (m:Int):Ja n (.int q m)=.int q m:=by unfold Ja;rfl
theorem abs_ints {t e:TypeId} (ht:P.underlying t=some (.slice e)) (he:P.underlying e=some (.int .i64)) (hc:P.cellsOf e=1) {v:Value} {fuel:Nat} {x:DataW H × List MemPlace}
  (h:DataW.trod enc P W 0 (λ_=>true) held fuel t [v]=some x) :
  ∃(s:SL) (ws:List Int),Ja W.heap.size v=s.av/\J5 (absH W) s ws/\(∀m,m∈ws->-9223372036854775808<=m/\m<=9223372036854775807)/\((x.1=.nil/\ws=[])∨∃es r,x.1=.slice es r/\es.length=ws.length):=by
 obtain⟨s,rows,m,hv,hn,hcell,hrow,hx⟩:=jFn ht hc (by decide) h;have hone:∀r,r∈rows->∃n,r.1=[.int .i64 n]/\(-9223372036854775808<=n/\n<=9223372036854775807):=λr hr=>by
  obtain⟨h1,p,h2⟩:=hrow r hr
  match hr1:r.1,h1 with
  | [u],_ =>rw[hr1] at h2;obtain⟨n,rfl,h3,_⟩:=jEh he h2;exact⟨n,rfl,h3⟩
 refine⟨s,rows.map λr=>valI r.1,hv,⟨by rw[zI0];exact hn,λe=>(hcell e).1,λe=>?_⟩,?_,?_⟩
 .obtain⟨hlt,c,el,f,hb,hq⟩:=hcell e;refine⟨c.toList.map (Ja W.heap.size),by unfold QS;rw[qJa hb],?_⟩;have hlen:s.len=rows.length:=by unfold SL.n at hn;rw[e] at hn;exact hn
  have:=qFj (c:=c.toList.map (Ja W.heap.size)) (l:=(rows.map λr=>valI r.1).map (AV.int .i64)) (o:=s.o) λj y hy=>by rw[zP0,zP0,Option.map_map] at hy;obtain⟨r,hr,rfl⟩:=Option.map_eq_some_iff.1 hy;obtain⟨u,hu,hcu⟩:=hq j r hr 0 (by decide);obtain⟨n,h1,_⟩:=hone r (zC0 hr);rw[h1] at hu;cases hu;rw[Nat.mul_one,Nat.add_zero] at hcu;rw[zP0,Array.getElem?_toList,hcu];show some (Ja W.heap.size (.int .i64 n))=some (AV.int .i64 (valI r.1));rw[jFo,h1];rfl
  rw[zI0,zI0,<- hlen] at this;exact this
 .intro n hn;obtain⟨r,hr,rfl⟩:=List.mem_map.1 hn;obtain⟨n,h1,h2⟩:=hone r hr;rw[h1];exact h2
 .rcases hx with ⟨h1,h2⟩ | ⟨sp,h1⟩
  .exact .inl ⟨h1,by rw[h2];rfl⟩
  .exact .inr ⟨_,_,h1,by rw[zI0,zI0]⟩
end
theorem jGj {H:Type} {enc:TypeId × Value->H} {P:Program} {f:Func} {s:ChangeSpec} {apart fresh handsOn again:Bool} {W W':World} {args:Array Value} {v:Value} {ds:List (DataW H)} {before:List MemPlace}
  (hvs:s.vars=[]) (hW:DataW.Whole enc P f.params.toList s.vars apart W args.toList ds [] before) (hb:Below W.heap.size W W')
  (hres:∀(b:Nat) (sp:Nat->Bool) (hd:Bool),DataW.TrodAll enc P W' b sp hd f.resultTypes.toList (v.resultList f.resultTypes.size) (s.fn H (ds++[])).results [])
  (hv2:(s.fn H (ds++[])).vars=[])
  (hargs:∀sp:Nat->Bool,(∀p∈before,sp p.block=true)->DataW.TrodAll enc P W' 0 sp true f.params.toList args.toList (s.fn H (ds++[])).args before)
  (hok:∀(j:Nat) (t:TypeId) (r:Value),f.resultTypes[j]?=some t->(v.resultList f.resultTypes.size)[j]?=some r->Value.okWide P W' .any 0 t r) :
  s.post enc P f apart fresh handsOn again W args v W':=by
 have hlt:∀p∈before,p.block<W.heap.size:=λp hp=>hW.lt p hp;have hold:∀p∈before,(λb=>decide (b<W.heap.size)) p.block=true:=λp hp=>by simpa using hlt p hp
 have hvars:∀sp:Nat->Bool,DataW.TrodVars enc P W' sp s.vars (s.fn H (ds++[])).vars []:=λsp=>by rw[hvs,hv2];exact rfl
 refine⟨ds,[],before,[],before,[],hW,hres _ _ _,hargs _ hold,hvars _,hb.frame _,λ_=>⟨hok,_,_,([]++before)++[],⟨[]++before,[],trodAll_append (hargs _ (λ_ _=>rfl)) (hres _ _ _),hvars _,rfl,?_,?_⟩,?_⟩⟩
 .intro b off hp;simp only[List.nil_append,List.append_nil] at hp;obtain⟨_,_,_,_,_,hz,_⟩:=hW;rw[hb.frozen (p:=⟨b,off,none⟩) (hlt _ hp)];exact hz b off hp
 .intro ha;simp only[List.nil_append,List.append_nil];obtain⟨_,_,_,_,_,_,hn⟩:=hW;exact hn ha
 .intro p hp _;simpa using hp
end Go.X
